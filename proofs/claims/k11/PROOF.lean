import PyProof.Rows.All
import Wide.All
import OpenK.AllK
import Wide.FinOn
import HandS.ForMost
import HandS.ForExc
import HandS.IsInst
import HandS.TupAny
import HandS.Deep
import HandS.Text
import HandS.StrMore
import HandS.SetFor
import HandS.Conv
import HandS.TupLen
import HandS.More
import HandS.Iter
import HandS.Rev
import HandS.ExcOwn
import HandS.Exc
import HandS.Defaults
import HandS.Replace
import HandS.ReplaceDef
import HandS.ReplaceLit
import HandS.HeadEnd
import HandS.Head0
import HandS.Head1
import HandS.Head2
import HandS.HeadHook1
import HandS.HeadHook2
import HandS.Ends
import PyProof.StrLawsTight
import PyProof.StrLawsReplace
import PyProof.Rows.StrFin3
import PyProof.Rows.StrSplitJoin
import PyProof.Rows.StrStrike
import KE.KStateDown
import Lean
import HandS.Base
import HandS.Call
import HandS.Words
import HandS.WordsExc
import PySem.Challenge.RW_tieseek_k11_rows_cut_and_put
set_option Elab.async false
set_option linter.all false
set_option maxRecDepth 100000
set_option maxHeartbeats 0
section
set_option Elab.async false
set_option linter.all false
set_option maxRecDepth 100000
/-! Tk1: a small language: values as trees, variables that own them, and what a text of it does. -/
namespace Tk
open PySem L2

inductive Sh where
  | tup | lst (lk : Bool) | dK (lk : Bool) (ks : List L2.Key) | dT (lk : Bool) (ks : List (List L2.Key)) | ins (c : Str) (fs : List Str)
  deriving DecidableEq, Repr
inductive T where
  | hole | non | bl (b : Bool) | int (i : Int) | str (s : Str) | exc (c : Str) | ptr (c n : Nat) (p : List Nat) | nd (s : Sh) (ts : List T)
  deriving Repr, Inhabited
abbrev Ev := List Nat × Bool
structure Cell where
  log : List Ev
  val : T
  deriving Repr, Inhabited
structure St where
  S : List Cell
  F : List Cell
  deriving Repr, Inhabited
inductive Res (σ α : Type) where
  | ok (a : α) (s : σ)
  | exc (c : Str) (pl : Bool) (s : σ)
  | stuck (why : String)
  deriving Repr
abbrev M (α : Type) := St → Res St α
@[inline] def M.bind {α β : Type} (x : M α) (f : α → M β) : M β := fun s => match x s with
  | .ok a s => f a s
  | .exc c pl s => .exc c pl s
  | .stuck w => .stuck w
instance : Monad M where
  pure a := fun s => .ok a s
  bind := M.bind
def stuck {α : Type} (w : String) : M α := fun _ => .stuck w
def ofOpt {α : Type} (w : String) : Option α → M α
  | some a => fun s => .ok a s
  | none => fun _ => .stuck w
def need (w : String) (b : Bool) : M Unit := fun s => match b with
  | true => .ok () s
  | false => .stuck w

/-! ### trees -/
def noMut : T → Bool
  | .nd .tup ts => noMuts ts
  | .nd _ _ => false
  | _ => true
where noMuts : List T → Bool
  | [] => true
  | t :: ts => noMut t && noMuts ts
/-- no pointer in it is to a cell from n on -/
def below (n : Nat) : T → Bool
  | .ptr c _ _ => decide (c < n)
  | .nd _ ts => belows ts
  | _ => true
where belows : List T → Bool
  | [] => true
  | t :: ts => below n t && belows ts
/-- no pointer in it is to a cell from this one on -/
def top : T → Nat
  | .ptr c _ _ => c + 1
  | .nd _ ts => tops ts
  | _ => 0
where tops : List T → Nat
  | [] => 0
  | t :: ts => max (top t) (tops ts)
def view (c n : Nat) : T → List Nat → T
  | .nd .tup ts, p => .nd .tup (views ts p 0)
  | .nd _ _, p => .ptr c n p
  | t, _ => t
where views : List T → List Nat → Nat → List T
  | [], _, _ => []
  | t :: ts, p, i => view c n t (p ++ [i]) :: views ts p (i + 1)
def sub : T → List Nat → Option T
  | t, [] => some t
  | .nd _ ts, i :: p => match ts[i]? with
    | some t => sub t p
    | none => none
  | _, _ :: _ => none
def setAt : T → List Nat → T → T
  | _, [], x => x
  | .nd s ts, i :: p, x => match ts[i]? with
    | some t => .nd s (ts.set i (setAt t p x))
    | none => .nd s ts
  | t, _ :: _, _ => t
def kills (e : Ev) (p : List Nat) : Bool := e.1.isPrefixOf p && (e.2 || decide (e.1.length < p.length))
def alive (log : List Ev) (n : Nat) (p : List Nat) : Bool := decide (n ≤ log.length) && (log.drop n).all fun e => !kills e p

/-! ### cells -/
def St.get (s : St) (c : Nat) : Option Cell := if c < s.S.length then s.S[c]? else s.F[c - s.S.length]?
def St.put (s : St) (c : Nat) (x : Cell) : St := if c < s.S.length then ⟨s.S.set c x, s.F⟩ else ⟨s.S, s.F.set (c - s.S.length) x⟩
/-- the node at a pointer, with the cell -/
def deref (c n : Nat) (p : List Nat) : M (Cell × Sh × List T) := fun s => match s.get c with
  | some x => match alive x.log n p with
    | true => match sub x.val p with
      | some (.nd sh ts) => match sh with
        | .tup => .stuck "deref tup"
        | sh => .ok (x, sh, ts) s
      | _ => .stuck "deref none"
    | false => .stuck "dead pointer"
  | none => .stuck "no cell"
/-- a container looked at: its shape, its children as values -/
def look : T → M (Sh × List T)
  | .nd s ts => pure (s, ts)
  | .ptr c n p => fun s => match deref c n p s with
    | .ok (x, sh, ts) s => .ok (sh, view.views c x.log.length ts p 0) s
    | .exc c pl s => .exc c pl s
    | .stuck w => .stuck w
  | _ => stuck "look"
/-- a container's node is replaced: ev says whether places below it shift or go -/
def poke (v : T) (f : Sh → List T → M (T × Sh × List T × Bool)) : M T := match v with
  | .ptr c n p => do
    let (_, sh, ts) ← deref c n p
    let (r, sh', ts', ev) ← f sh ts
    fun s => match s.get c with
      | some x => match decide (c < s.S.length) && !decide (top.tops ts' ≤ top.tops ts) with
        | true => .stuck "a link into an elder frame"
        | false => .ok r (s.put c ⟨if ev then x.log ++ [(p, false)] else x.log, setAt x.val p (.nd sh' ts')⟩)
      | none => .stuck "no cell"
  | _ => stuck "poke"
def setVar (i : Nat) (v : T) : M Unit := fun s => match s.F[i]? with
  | some x => .ok () ⟨s.S, s.F.set i ⟨if noMut x.val then x.log else x.log ++ [([], true)], v⟩⟩
  | none => .stuck "no slot"
def getVar (i : Nat) : M T := fun s => match s.F[i]? with
  | some x => match x.val with
    | .hole => .stuck "unbound"
    | t => .ok (view (s.S.length + i) x.log.length t []) s
  | none => .stuck "no slot"
def moveVar (i : Nat) : M T := fun s => match s.F[i]? with
  | some x => match x.val with
    | .hole => .stuck "unbound (move)"
    | t => match noMut t with
      | true => .ok t s
      | false => .ok t ⟨s.S, s.F.set i ⟨x.log ++ [([], true)], .hole⟩⟩
  | none => .stuck "no slot"
/-- the subtree at a pointer into the own frame is taken out -/
def take : T → M T
  | .ptr c n p => fun s => match decide (s.S.length ≤ c) with
    | true => match deref c n p s with
      | .ok (x, sh, ts) s => .ok (.nd sh ts) (s.put c ⟨x.log ++ [(p, true)], setAt x.val p .hole⟩)
      | .exc c pl s => .exc c pl s
      | .stuck w => .stuck w
    | false => .ok (.ptr c n p) s
  | .nd .tup ts => do return .nd .tup (← takes ts)
  | t => pure t
where takes : List T → M (List T)
  | [] => pure []
  | t :: ts => do
    let t ← take t
    let ts ← takes ts
    return t :: ts

/-! ### syntax -/
inductive Bop where | add | sub | mul | fdiv | mod | pow | shl | shr | bor | band
  deriving DecidableEq, Repr
inductive Cop where | eq | ne | lt | le | gt | ge | isin | notin | is | isnot
  deriving DecidableEq, Repr
inductive Bf where | sortedset | listset | lenset | listrange | listrev | len | int | str | list | dict | tuple | sorted | any | abs | min | max | sum | set
  deriving DecidableEq, Repr
inductive Bm where | append | extend | pop | remove | get | split | join | find | replace | count | index | clear | insert | reverse
  deriving DecidableEq, Repr
mutual
inductive Ex where
  | cst (t : T) | glo (x : Str) (t : T) | var (i : Nat) | mvv (i : Nat) | mv (e : Ex)
  | bin (o : Bop) (a b : Ex) | neg (a : Ex) | not (a : Ex) | and (a b : Ex) | or (a b : Ex)
  | cmp (o : Cop) (a b : Ex) | chain (o o' : Cop) (a b c : Ex)
  | tup (es : List Ex) | lst (es : List Ex) | dnew (t : Bool) | dsp (t : Bool) (ks vs : List Ex)
  | ix (a b : Ex) | slF (a lo : Ex) | slT (a hi : Ex) | slB (a lo hi : Ex) | fld (a : Ex) (f : Str)
  | call (f : Str) (es : List Ex) | meth (o : Ex) (m : Str) (es : List Ex) | new (c : Str) (es : List Ex)
  | bf (f : Bf) (es : List Ex) | bm (m : Bm) (o : Ex) (es : List Ex) | isi (e : Ex) (c : Str)
  | lc (elt : Ex) (tg : List Nat) (h : Nat) (it : It) (cond : List Ex)
  | kin (x : Str) (tbl : List (Str × T)) (e : Ex) | kix (x : Str) (tbl : List (Str × T)) (e : Ex)
inductive It where
  | ex (e : Ex) | rng (es : List Ex) | enum (e : Ex) | rev (e : Ex)
end
inductive Sm where
  | set (i : Nat) (e : Ex) | setT (is : List Nat) (e : Ex) | setx (a b e : Ex) | setf (a : Ex) (f : Str) (e : Ex)
  | exp (e : Ex) | ret (e : Ex) | retN | ite (c : Ex) (a b : List Sm) | for_ (tg : List Nat) (h : Nat) (it : It) (b : List Sm)
  | whl (c : Ex) (b : List Sm) | rse (c : Str) (m : Str) | try_ (b : List Sm) (c : Str) (n : Option Nat) (s : List Sm) | pas
structure Fn where
  np : Nat
  ns : Nat
  dfl : List T
  body : List Sm
structure Prog where
  fns : List (Str × Fn)
  /-- a class, its methods (by the name of their function) -/
  cls : List (Str × List (Str × Str))
  /-- a class, the names of the types whose objects are of it, and of those whose are not -/
  isi : List (Str × List Str × List Str)
  /-- the names of fields (no class has one of them as a name of its own) -/
  flds : List Str

/-! ### operators -/
def scalT : T → Bool
  | .non => true | .bl _ => true | .int _ => true | .str _ => true | _ => false
/-- the value's own data, pointers followed once -/
def data : T → Option PyData
  | .non => some .none
  | .bl b => some (.bool b)
  | .int i => some (.int i)
  | .str s => some (.str s)
  | .nd .tup ts => match datas ts with
    | some ds => some (.tuple ds)
    | none => none
  | .nd (.lst _) ts => match datas ts with
    | some ds => some (.list ds)
    | none => none
  | _ => none
where datas : List T → Option (List PyData)
  | [] => some []
  | t :: ts => match data t, datas ts with
    | some d, some ds => some (d :: ds)
    | _, _ => none
def whole : T → M T
  | .ptr c n p => fun s => match deref c n p s with
    | .ok (_, sh, ts) s => .ok (.nd sh ts) s
    | .exc c pl s => .exc c pl s
    | .stuck w => .stuck w
  | .nd .tup ts => do return .nd .tup (← wholes ts)
  | t => pure t
where wholes : List T → M (List T)
  | [] => pure []
  | t :: ts => do
    let t ← whole t
    let ts ← wholes ts
    return t :: ts
def dataOf (t : T) : M PyData := do
  let t ← whole t
  let d ← ofOpt "no data" (data t)
  let _ ← need "deep data" (SeqAt.shaped d)
  return d
def tV : T → V
  | .non => .non | .bl b => .bl b | .int i => .int i | .str s => .str s | _ => .non
def eqS (a b : T) : Bool := decide (tV a = tV b)
def eqT (a b : T) : M Bool := match scalT a && scalT b with
  | true => do
    let _ ← need "scal" (L2.scal (tV a) (tV b))
    pure (eqS a b)
  | false => do
    let d ← dataOf a
    let e ← dataOf b
    return PyData.eqv d e
def keyOf : T → Option L2.Key
  | .int i => some (.inl i)
  | .str s => some (.inr s)
  | _ => none
def keysOf : List T → Option (List L2.Key)
  | [] => some []
  | t :: ts => match keyOf t, keysOf ts with
    | some k, some ks => some (k :: ks)
    | _, _ => none
def keyT : L2.Key → T
  | .inl i => .int i
  | .inr s => .str s
def placeG {κ : Type} [DecidableEq κ] (k : κ) : List κ → Nat → Option Nat
  | [], _ => none
  | j :: ks, i => if j = k then some i else placeG k ks (i + 1)
/-- the place of a key in a dict: none where the value is no key of this kind of dict -/
def place (sh : Sh) (k : T) : Option (Option Nat) := match sh with
  | .dK _ ks => match keyOf k with
    | some k => some (placeG k ks 0)
    | none => none
  | .dT _ ks => match k with
    | .nd .tup ts => match keysOf ts with
      | some k => some (placeG k ks 0)
      | none => none
    | _ => none
  | _ => none
def isDict : Sh → Bool
  | .dK _ _ => true | .dT _ _ => true | _ => false
def fitT (n : Nat) : Bool := decide (n ≤ sizeLine)
def mulOk (i j : Int) : Bool := (decide (-(2 ^ 64) < i) && decide (i < 2 ^ 64)) || (decide (-(2 ^ 64) < j) && decide (j < 2 ^ 64))
def powOk (i j : Int) : Bool := decide (0 ≤ j) && (decide (j ≤ 1000000) && decide (i.natAbs < 2 ^ 64))
def addop (a b : T) : M T := match a with
  | .int i => match b with
    | .int j => pure (.int (i + j))
    | _ => stuck "add"
  | .str x => match b with
    | .str y => do
      let _ ← need "text too long" (fitT (x.length + y.length))
      pure (.str (x ++ y))
    | _ => stuck "add"
  | a => do
    let (sb, ys) ← look b
    let (sa, xs) ← look a
    let _ ← need "list too long" (fitT (xs.length + ys.length))
    match sa, sb with
    | .lst false, .lst false => pure (.nd (.lst false) (xs ++ ys))
    | .tup, .tup => pure (.nd .tup (xs ++ ys))
    | _, _ => stuck "add"
def mulop (a b : T) : M T := match b with
  | .int n => match a with
    | .int i => do
      let _ ← need "product" (mulOk i n)
      pure (.int (i * n))
    | .str x => do
      let _ ← need "text too long" (decide (-(2 ^ 62) < n) && (decide (n < 2 ^ 62) && fitT (x.length * n.toNat)))
      pure (.str (PySem.Txt.mul x n))
    | a => do
      let (sa, xs) ← look a
      let _ ← need "list too long" (decide (-(2 ^ 62) < n) && (decide (n < 2 ^ 62) && fitT (xs.length * n.toNat)))
      let _ ← need "mul of objects" (noMut.noMuts xs)
      match sa with
      | .lst false => pure (.nd (.lst false) (List.replicate n.toNat xs).flatten)
      | _ => stuck "mul"
  | _ => stuck "mul"
def intop (a b : T) (f : Int → Int → M T) : M T := match a with
  | .int i => match b with
    | .int j => f i j
    | _ => stuck "int"
  | _ => stuck "int"
def binop (o : Bop) (a b : T) : M T := match o with
  | .add => addop a b
  | .mul => mulop a b
  | .sub => intop a b fun i j => pure (.int (i - j))
  | .fdiv => intop a b fun i j => do
    let _ ← need "divisor" (decide (0 < j) && decide (j < 1073741824))
    pure (.int (i / j))
  | .mod => intop a b fun i j => do
    let _ ← need "modulus" (decide (0 < j))
    pure (.int (i % j))
  | .pow => intop a b fun i j => do
    let _ ← need "power" (powOk i j)
    pure (.int (i ^ j.toNat))
  | .shl => intop a b fun i j => do
    let _ ← need "shift" (powOk i j)
    pure (.int (i * 2 ^ j.toNat))
  | .shr => intop a b fun i j => do
    let _ ← need "shift" (decide (0 ≤ j))
    pure (.int (i / 2 ^ j.toNat))
  | .bor => intop a b fun i j => pure (.int (Builtin.bitOr i j))
  | .band => intop a b fun i j => pure (.int (Builtin.bitAnd i j))
def isinS (a b : Str) : Bool := match a.cps.toList with
  | [c] => decide (c ∈ b.cps.toList)
  | _ => !(Builtin.Str.occurrences b a 0 b.length 1).isEmpty
def isinT (x y : T) : M Bool := match y with
  | .str b => match x with
    | .str a => pure (isinS a b)
    | _ => stuck "in a text"
  | y => do
    let (sh, ts) ← look y
    match isDict sh with
    | true => do
      let j ← ofOpt "no key" (place sh x)
      pure j.isSome
    | false => match sh with
      | .ins _ _ => stuck "in an object"
      | _ => match scalT x && ts.all scalT with
        | true => pure (ts.any fun t => L2.eqV (tV t) (tV x))
        | false => do
          let d ← dataOf x
          match ← dataOf y with
          | .list ds => pure (ds.any fun z => PyData.eqv z d)
          | _ => stuck "in"
def ordop (a b : T) (f : Int → Int → Bool) : M Bool := match a with
  | .int i => match b with
    | .int j => pure (f i j)
    | _ => stuck "order"
  | _ => stuck "order"
def isNone : T → M Bool
  | .non => pure true
  | .exc _ => stuck "is"
  | .hole => stuck "is"
  | .ptr c n p => do
    let _ ← deref c n p
    pure false
  | _ => pure false
def cmpop (o : Cop) (a b : T) : M Bool := match o with
  | .eq => eqT a b
  | .ne => do return !(← eqT a b)
  | .lt => match a with
    | .str i => match b with
      | .str j => pure (decide (i.cps.toList < j.cps.toList))
      | _ => stuck "order"
    | a => ordop a b fun i j => decide (i < j)
  | .le => ordop a b fun i j => decide (i ≤ j)
  | .gt => ordop a b fun i j => decide (j < i)
  | .ge => ordop a b fun i j => decide (j ≤ i)
  | .isin => isinT a b
  | .notin => do return !(← isinT a b)
  | .is => match b with
    | .non => isNone a
    | _ => stuck "is"
  | .isnot => match b with
    | .non => do return !(← isNone a)
    | _ => stuck "is"
def ixop (a b : T) : M T := match a with
  | .str z => match b with
    | .int i => do
      let _ ← need "text too long" (fitT z.length)
      let c ← ofOpt "text index" (L2.atI z.cps.toList i)
      pure (.str ⟨#[c]⟩)
    | _ => stuck "index of a text"
  | a => do
    let (sh, ts) ← look a
    match isDict sh with
    | true => do
      let j ← ofOpt "no key" (place sh b)
      let j ← ofOpt "key not there" j
      ofOpt "dict" ts[j]?
    | false => match sh with
      | .ins _ _ => stuck "index of an object"
      | _ => match b with
        | .int i => ofOpt "list index" (L2.atI ts i)
        | _ => stuck "index"
def cut {α : Type} (xs : List α) (lo hi : Option Int) : List α := (xs.drop (HT.sIx xs.length 0 lo)).take (HT.sIx xs.length xs.length hi - HT.sIx xs.length 0 lo)
def intOf : T → M Int
  | .int i => pure i
  | _ => stuck "slice bound"
def slopL (a : T) (lo hi : Option Int) : M T := do
  let (sh, ts) ← look a
  match sh with
  | .lst _ => pure (.nd (.lst false) (cut ts lo hi))
  | .tup => do
    let _ ← need "whole tuple" (!(decide (HT.sIx ts.length 0 lo = 0) && decide (HT.sIx ts.length ts.length hi = ts.length)))
    pure (.nd .tup (cut ts lo hi))
  | _ => stuck "slice"
def slop (a : T) (lo hi : Option Int) : M T := match a with
  | .str z => do
    let _ ← need "text too long" (fitT z.length)
    pure (.str ⟨(cut z.cps.toList lo hi).toArray⟩)
  | a => slopL a lo hi
def fldop (a : T) (f : Str) : M T := do
  let (sh, ts) ← look a
  match sh with
  | .ins _ fs => do
    let j ← ofOpt "no field" (fs.findIdx? (· = f))
    ofOpt "field" ts[j]?
  | _ => stuck "field of no object"
/-! ### built-in functions -/
def strL : List T → Option (List Str)
  | [] => some []
  | .str s :: ts => match strL ts with
    | some l => some (s :: l)
    | none => none
  | _ :: _ => none
def intL : List T → Option (List Int)
  | [] => some []
  | .int s :: ts => match intL ts with
    | some l => some (s :: l)
    | none => none
  | _ :: _ => none
def boolL : List T → Option (List Bool)
  | [] => some []
  | .bl s :: ts => match boolL ts with
    | some l => some (s :: l)
    | none => none
  | _ :: _ => none
def insI (i : Int) : List Int → List Int
  | [] => [i]
  | j :: l => if i ≤ j then i :: j :: l else j :: insI i l
def sortI : List Int → List Int
  | [] => []
  | i :: l => insI i (sortI l)
def insS (i : Str) : List Str → List Str
  | [] => [i]
  | j :: l => if j.cps.toList < i.cps.toList then j :: insS i l else i :: j :: l
def sortS : List Str → List Str
  | [] => []
  | i :: l => insS i (sortS l)
def pairsOf : List T → Option (List (L2.Key × T))
  | [] => some []
  | .nd .tup [k, v] :: ts => match keyOf k, pairsOf ts with
    | some k, some l => some ((k, v) :: l)
    | _, _ => none
  | _ :: _ => none
def rngList (lo : Int) : Nat → List T
  | 0 => []
  | n + 1 => .int lo :: rngList (lo + 1) n
def dedup {α : Type} [DecidableEq α] : List α → List α
  | [] => []
  | a :: l => a :: (dedup l).filter (fun b => decide (b ≠ a))
def dedupD : List PyData → List PyData
  | [] => []
  | a :: l => if (dedupD l).any (fun b => PyData.eqv b a) then dedupD l else a :: dedupD l
def mergeP (ks : List L2.Key) (vs : List T) : List (L2.Key × T) → List L2.Key × List T
  | [] => (ks, vs)
  | (k, v) :: l => match placeG k ks 0 with
    | some j => mergeP ks (vs.set j v) l
    | none => mergeP (ks ++ [k]) (vs ++ [v]) l
def bfop (f : Bf) (as : List T) : M T := match f, as with
  | .len, [.str z] => do
    let _ ← need "text too long" (fitT z.length)
    pure (.int z.length)
  | .len, [a] => do
    let (sh, ts) ← look a
    match sh with
    | .ins _ _ => stuck "len"
    | .dT true _ => stuck "len"
    | _ => pure (.int ts.length)
  | .int, [.int i] => pure (.int i)
  | .int, [.bl b] => pure (.int (if b then 1 else 0))
  | .int, [.str x] => do
    let _ ← need "int of a long text" (decide (x.length ≤ 640))
    let n ← ofOpt "int of no number" (PySem.intText? x)
    pure (.int n)
  | .str, [.int i] => do
    let _ ← need "str of a great int" (decide (i.natAbs.log2 < 1920))
    pure (.str (Str.ofString (toString i)))
  | .list, [a] => do
    let (sh, ts) ← look a
    match sh with
    | .dK _ ks => pure (.nd (.lst false) (ks.map keyT))
    | .dT _ ks => stuck "list of a dict of tuples"
    | .ins _ _ => stuck "list"
    | _ => pure (.nd (.lst false) ts)
  | .tuple, [a] => do
    let (sh, ts) ← look a
    match sh with
    | .lst _ => pure (.nd .tup ts)
    | .tup => pure (.nd .tup ts)
    | _ => stuck "tuple"
  | .dict, [a] => do
    let (sh, ts) ← look a
    match sh with
    | .dK _ ks => pure (.nd (.dK false ks) ts)
    | _ => stuck "dict"
  | .sorted, [a] => do
    let (sh, ts) ← look a
    let ts ← match sh with
      | .lst _ => pure ts
      | .dK _ ks => pure (ks.map keyT)
      | _ => stuck "sorted"
    match intL ts with
    | some l => pure (.nd (.lst false) ((sortI l).map .int))
    | none => match strL ts with
      | some l => do
        let _ ← need "sorted, long" (decide (l.length < 64))
        pure (.nd (.lst false) ((sortS l).map .str))
      | none => stuck "sorted"
  | .listrange, [.int j] => do
    let _ ← need "range" (decide (j < sizeLine))
    pure (.nd (.lst false) (rngList 0 j.toNat))
  | .listrange, [.int i, .int j] => do
    let _ ← need "range" (decide (j - i < sizeLine))
    pure (.nd (.lst false) (rngList i (j - i).toNat))
  | .lenset, [a] => do
    let d ← dataOf a
    match d with
    | .list ds => pure (.int (dedupD ds).length)
    | _ => stuck "len(set)"
  | .sortedset, [a] => do
    let (sh, ts) ← look a
    match sh with
    | .lst _ => match intL ts with
      | some l => pure (.nd (.lst false) ((sortI (dedup l)).map .int))
      | none => match strL ts with
        | some l => pure (.nd (.lst false) ((sortS (dedup l)).map .str))
        | none => stuck "sorted(set)"
    | _ => stuck "sorted(set)"
  | .listrev, [a] => do
    let (sh, ts) ← look a
    match sh with
    | .lst _ => pure (.nd (.lst false) ts.reverse)
    | _ => stuck "reversed"
  | .any, [a] => do
    let (sh, ts) ← look a
    let bs ← ofOpt "any" (boolL ts)
    match sh with
    | .lst _ => pure (.bl (bs.any id))
    | _ => stuck "any"
  | .abs, [.int i] => pure (.int i.natAbs)
  | .min, [.int i, .int j] => pure (.int (if j < i then j else i))
  | .max, [.int i, .int j] => pure (.int (if j > i then j else i))
  | .min, [a] => do
    let (sh, ts) ← look a
    let l ← ofOpt "min" (intL ts)
    match sh, l with
    | .lst _, i :: l => pure (.int (l.foldl min i))
    | _, _ => stuck "min"
  | .sum, [a] => do
    let (sh, ts) ← look a
    let l ← ofOpt "sum" (intL ts)
    match sh with
    | .lst _ => pure (.int l.sum)
    | _ => stuck "sum"
  | _, _ => stuck "builtin"
/-! ### methods of built-in types -/
def unlocked : Sh → Bool
  | .lst lk => !lk | .dK lk _ => !lk | .dT lk _ => !lk | _ => true
abbrev Pk := Sh → List T → M (T × Sh × List T × Bool)
def apF (x : T) : Pk := fun sh ts => match sh with
  | .lst false => do
    let _ ← need "list too long" (decide (ts.length < sizeLine))
    pure (.non, .lst false, ts ++ [x], false)
  | _ => stuck "append"
def exF (sy : Sh) (ys : List T) : Pk := fun sh ts => match sh, sy with
  | .lst false, .lst false => do
    let _ ← need "list too long" (fitT (ts.length + ys.length))
    pure (.non, .lst false, ts ++ ys, false)
  | _, _ => stuck "extend"
def popF : Pk := fun sh ts => match sh with
  | .lst false => do
    let x ← ofOpt "pop" ts[ts.length - 1]?
    pure (x, .lst false, ts.dropLast, !noMut x)
  | _ => stuck "pop"
def popAtF (k : T) : Pk := fun sh ts => match sh with
  | .lst false => match k with
    | .int i => do
      let _ ← need "pop at" (decide (-(2 ^ 63) ≤ i) && decide (i < 2 ^ 63))
      let j ← ofOpt "pop at" (L2.ixN ts.length i)
      let x ← ofOpt "pop at" ts[j]?
      pure (x, .lst false, ts.eraseIdx j, !noMut.noMuts ts)
    | _ => stuck "pop at"
  | .dK false ks => do
    let j ← ofOpt "no key" (place sh k)
    let j ← ofOpt "key not there" j
    let x ← ofOpt "dict" ts[j]?
    pure (x, .dK false (ks.eraseIdx j), ts.eraseIdx j, !noMut.noMuts ts)
  | .dT false ks => do
    let j ← ofOpt "no key" (place sh k)
    let j ← ofOpt "key not there" j
    let x ← ofOpt "dict" ts[j]?
    pure (x, .dT false (ks.eraseIdx j), ts.eraseIdx j, !noMut.noMuts ts)
  | _ => stuck "pop"
def rmF (x : T) : Pk := fun sh ts => match sh with
  | .lst false => do
    let _ ← need "remove" (scalT x && ts.all scalT)
    let j ← ofOpt "remove" (ts.findIdx? fun t => L2.eqV (tV t) (tV x))
    pure (.non, .lst false, ts.eraseIdx j, false)
  | _ => stuck "remove"
def clF : Pk := fun sh ts => match sh with
  | .lst false => pure (.non, .lst false, [], !noMut.noMuts ts)
  | _ => stuck "clear"
def inF (i : Int) (x : T) : Pk := fun sh ts => match sh with
  | .lst false => do
    let _ ← need "insert" (decide (0 ≤ i) && (decide (i < 2 ^ 63) && decide (ts.length < sizeLine)))
    pure (.non, .lst false, ts.take i.toNat ++ [x] ++ ts.drop i.toNat, !noMut.noMuts ts)
  | _ => stuck "insert"
def rvF : Pk := fun sh ts => match sh with
  | .lst false => pure (.non, .lst false, ts.reverse, !noMut.noMuts ts)
  | _ => stuck "reverse"
def bmop (m : Bm) (o : T) (as : List T) : M T := match m, as with
  | .append, [x] => poke o (apF x)
  | .extend, [y] => do
    let (sy, ys) ← look y
    poke o (exF sy ys)
  | .pop, [] => poke o popF
  | .pop, [k] => poke o (popAtF k)
  | .remove, [x] => poke o (rmF x)
  | .clear, [] => poke o clF
  | .insert, [.int i, x] => poke o (inF i x)
  | .reverse, [] => poke o rvF
  | .get, [k] => do
    let (sh, ts) ← look o
    let j ← ofOpt "no key" (place sh k)
    match j with
    | some j => ofOpt "dict" ts[j]?
    | none => pure .non
  | .get, [k, d] => do
    let (sh, ts) ← look o
    let j ← ofOpt "no key" (place sh k)
    match j with
    | some j => ofOpt "dict" ts[j]?
    | none => pure d
  | .split, [.str y] => match o with
    | .str x => do
      let _ ← need "split" (decide (y.length ≠ 0) && fitT (x.length + 2))
      pure (.nd (.lst false) ((PySem.Txt.split x y).map .str))
    | _ => stuck "split"
  | .join, [a] => match o with
    | .str x => do
      let (sh, ts) ← look a
      let l ← ofOpt "join" (strL ts)
      let _ ← need "join, long" (decide ((l.map (·.length)).sum + l.length * x.length ≤ 16777216))
      match sh with
      | .lst _ => pure (.str (PySem.Txt.join x l))
      | .tup => pure (.str (PySem.Txt.join x l))
      | _ => stuck "join"
    | _ => stuck "join"
  | .find, [.str y, .int i] => match o with
    | .str x => do
      let _ ← need "find" (decide (0 ≤ i) && decide (i < 2 ^ 62))
      pure (.int (PySem.Txt.find3 x y i))
    | _ => stuck "find"
  | .replace, [.str y, .str z] => match o with
    | .str x => do
      let _ ← need "replace" (!(y == z) && decide (x.length + (x.length + 1) * z.length ≤ 16777216))
      pure (.str (PySem.Txt.replace x y z))
    | _ => stuck "replace"
  | .count, [x] => do
    let (sh, ts) ← look o
    match scalT x && ts.all scalT with
    | true => match sh with
      | .lst _ => pure (.int (ts.countP fun t => L2.eqV (tV t) (tV x)))
      | _ => stuck "count"
    | false => do
      let d ← dataOf x
      match ← dataOf o with
      | .list ds => pure (.int (ds.countP fun z => PyData.eqv z d))
      | _ => stuck "count"
  | .index, [x] => do
    let (sh, ts) ← look o
    let _ ← need "index" (scalT x && ts.all scalT)
    let j ← ofOpt "index" (ts.findIdx? fun t => L2.eqV (tV t) (tV x))
    match sh with
    | .lst _ => pure (.int j)
    | _ => stuck "index"
  | _, _ => stuck "method"
/-- what a method's object must be, ahead of the arguments -/
def recv (m : Bm) (x : T) : M Unit := match m with
  | .split | .join | .find | .replace => match x with
    | .str _ => pure ()
    | _ => stuck "no text"
  | .get => do
    let (sh, _) ← look x
    need "no dict" (isDict sh)
  | .pop => do
    let (sh, _) ← look x
    match sh with
    | .lst false => pure ()
    | .dK false _ => pure ()
    | .dT false _ => pure ()
    | _ => stuck "pop of what"
  | _ => do
    let (sh, _) ← look x
    match sh with
    | .lst _ => pure ()
    | _ => stuck "no list"
def btys : List Str := ["NoneType", "bool", "int", "str", "tuple", "list", "dict"]
def typeName : T → M Str
  | .non => pure "NoneType" | .bl _ => pure "bool" | .int _ => pure "int" | .str _ => pure "str"
  | .exc c => pure c
  | t => do
    let (sh, _) ← look t
    match sh with
    | .tup => pure "tuple" | .lst _ => pure "list" | .dK _ _ => pure "dict" | .dT false _ => pure "dict" | .dT true _ => stuck "a walked dict's type" | .ins c _ => match btys.contains c with
      | true => stuck "a class named as a type"
      | false => pure c
def lkp {α : Type} (w : String) (x : Str) : List (Str × α) → M α
  | [] => stuck w
  | (y, a) :: l => if y = x then pure a else lkp w x l
/-- is an object of the class t one of the class c? (the table: a class, those that are, those that are not) -/
def isiB (P : Prog) (t c : Str) : Option Bool := match P.isi.lookup c with
  | some (yes, no) => if yes.contains t then some true else if no.contains t then some false else none
  | none => none
def isiop (P : Prog) (v : T) (c : Str) : M Bool := do
  let t ← typeName v
  ofOpt "isinstance" (isiB P t c)
def asB : T → M Bool
  | .bl b => pure b
  | _ => stuck "a test that is no truth"
/-! ### stores -/
def setxop (a b v : T) : M Unit := do
  let _ ← poke a fun sh ts => match sh with
    | .lst false => match b with
      | .int i => do
        let j ← ofOpt "store at" (L2.ixN ts.length i)
        let x ← ofOpt "store at" ts[j]?
        pure (.non, .lst false, ts.set j v, !noMut x)
      | _ => stuck "store at"
    | .dK false ks => do
      let j ← ofOpt "no key" (place sh b)
      match j with
      | some j => do
        let x ← ofOpt "dict" ts[j]?
        pure (.non, .dK false ks, ts.set j v, !noMut x)
      | none => do
        let k ← ofOpt "no key" (keyOf b)
        let _ ← need "dict too long" (decide (ts.length < sizeLine))
        pure (.non, .dK false (ks ++ [k]), ts ++ [v], false)
    | .dT false ks => do
      let j ← ofOpt "no key" (place sh b)
      match j with
      | some j => do
        let x ← ofOpt "dict" ts[j]?
        pure (.non, .dT false ks, ts.set j v, !noMut x)
      | none => match b with
        | .nd .tup bs => do
          let k ← ofOpt "no key" (keysOf bs)
          let _ ← need "dict too long" (decide (ts.length < sizeLine))
          pure (.non, .dT false (ks ++ [k]), ts ++ [v], false)
        | _ => stuck "no key"
    | _ => stuck "store"
  pure ()
def setfop (P : Prog) (a : T) (f : Str) (v : T) : M Unit := do
  let _ ← poke a fun sh ts => match sh with
    | .ins c fs => match fs.findIdx? (· = f) with
      | some j => do
        let x ← ofOpt "field" ts[j]?
        pure (.non, .ins c fs, ts.set j v, !noMut x)
      | none => do
        let _ ← need "many fields" (decide (ts.length < 900) && (P.flds.contains f && (P.cls.lookup c).isSome))
        pure (.non, .ins c (fs ++ [f]), ts ++ [v], false)
    | _ => stuck "store to a field"
  pure ()
def setVars : List Nat → List T → M Unit
  | [], [] => pure ()
  | i :: is, v :: vs => do
    let _ ← setVar i v
    setVars is vs
  | _, _ => stuck "unpack"
def setTg (tg : List Nat) (v : T) : M Unit := match tg with
  | [i] => setVar i v
  | is => do
    let (sh, vs) ← look v
    match sh with
    | .tup => setVars is vs
    | _ => stuck "unpack of no tuple"

/-! ### what is walked -/
inductive Wk where
  /-- a text's signs, lo, lo + 1, .., hi, hi - 1, .. -/
  | chars (z : Str) | rng (lo : Int) (n : Nat) | down (hi : Int) (n : Nat)
  /-- the list or tuple at the value (a pointer, or a tuple seen); with places; from its end on -/
  | seq (tup enum rev : Bool) (n : Nat) (w : T)
  /-- the keys of the dict at the pointer, which is locked -/
  | keys (c n : Nat) (p : List Nat) (ts : List T)
def lockSh (b : Bool) : Sh → Sh
  | .lst _ => .lst b | .dK _ ks => .dK b ks | .dT _ ks => .dT b ks | s => s
/-- a dict at a pointer is locked or opened -/
def lockAt (b : Bool) (c n : Nat) (p : List Nat) : M Unit := do
  let (x, sh, ts) ← deref c n p
  fun s => .ok () (s.put c ⟨x.log, setAt x.val p (.nd (lockSh b sh) ts)⟩)
def inRg (i : Int) : Bool := decide (-(2 ^ 62) ≤ i) && decide (i < 2 ^ 62)
def rngOf : List T → M Wk
  | [.int j] => do
    let _ ← need "range" (inRg j)
    pure (.rng 0 j.toNat)
  | [.int i, .int j] => do
    let _ ← need "range" (inRg i && inRg j)
    pure (.rng i (j - i).toNat)
  | [.int i, .int j, .int k] => do
    let _ ← need "range" ((inRg i && inRg j) && decide (k = -1))
    pure (.down i (i - j).toNat)
  | _ => stuck "range"
/-- where the walked object stands while it is walked: a pointer stays, an object of its own goes to the hidden slot -/
def parkW (h : Nat) (v : T) : M T := match v with
  | .ptr c n p => pure (.ptr c n p)
  | v => do
    let _ ← setVar h v
    getVar h
def startWk (h : Nat) (enum rev : Bool) (v : T) : M Wk := match v with
  | .str z => match enum || rev with
    | false => pure (.chars z)
    | true => stuck "walk of a text"
  | v => do
    let w ← parkW h v
    let (sh, ts) ← look w
    match sh with
    | .lst _ => pure (.seq false enum rev ts.length w)
    | .tup => pure (.seq true enum rev ts.length w)
    | _ => stuck "walk"
def Wk.len : Wk → Nat
  | .chars z => z.cps.size | .rng _ n => n | .down _ n => n | .seq _ _ _ n _ => n | .keys _ _ _ ts => ts.length
def seqSh : Sh → Option Bool
  | .tup => some true | .lst _ => some false | _ => none
def enumT (enum : Bool) (i : Nat) (x : T) : T := match enum with
  | true => .nd .tup [.int i, x]
  | false => x
/-- the i-th item -/
def Wk.item (i : Nat) : Wk → M T
  | .chars z => do
    let c ← ofOpt "sign" z.cps[i]?
    pure (.str ⟨#[c]⟩)
  | .rng lo _ => pure (.int (lo + i))
  | .down hi _ => pure (.int (hi - i))
  | .seq tup enum rev n w => do
    let (sh, ts) ← look w
    let _ ← need "a walked list has changed" (decide (ts.length = n) && decide (seqSh sh = some tup))
    let x ← ofOpt "item" ts[if rev then n - 1 - i else i]?
    pure (enumT enum i x)
  | .keys _ _ _ ts => ofOpt "key" ts[i]?
/-- at the end -/
def Wk.fin : Wk → M Unit
  | .seq tup _ _ n w => do
    let (sh, ts) ← look w
    need "a walked list has changed" (decide (ts.length = n) && decide (seqSh sh = some tup))
  | _ => pure ()
/-- behind the loop -/
def Wk.off : Wk → M Unit
  | .keys c n p _ => lockAt false c n p
  | _ => pure ()
def loopS (f : Nat → M (Option T)) (fin : M Unit) (n : Nat) : Nat → M (Option T)
  | 0 => do
    let _ ← fin
    pure none
  | m + 1 => do
    match ← f (n - (m + 1)) with
    | none => loopS f fin n m
    | some v => pure (some v)
def runWk (w : Wk) (body : T → M (Option T)) : M (Option T) := do
  let r ← loopS (fun i => do body (← w.item i)) w.fin w.len w.len
  let _ ← w.off
  pure r
def clearVars : List Nat → M Unit
  | [] => pure ()
  | i :: is => do
    let _ ← setVar i .hole
    clearVars is

/-! ### calls -/
def isNew : List T → Bool
  | .nd (.ins _ []) [] :: _ => true
  | _ => false
def noExc {α : Type} (x : M α) : M α := fun s => match x s with
  | .exc _ _ _ => .stuck "raised within a comprehension"
  | r => r
abbrev Cl := Bool → Str → List T → List Cell → Res (List Cell) T
def asM (f : List Cell → Res (List Cell) T) : M T := fun s => match f (s.S ++ s.F) with
  | .ok v C => .ok v ⟨C.take s.S.length, C.drop s.S.length⟩
  | .exc c pl C => .exc c pl ⟨C.take s.S.length, C.drop s.S.length⟩
  | .stuck w => .stuck w

section
variable (P : Prog) (call : Cl)
mutual
def ev (hot : Bool) : Ex → M T
  | .cst t => pure t
  | .glo _ t => pure t
  | .var i => getVar i
  | .mvv i => moveVar i
  | .mv e => do take (← ev hot e)
  | .bin o a b => do
    let x ← ev hot a
    let y ← ev hot b
    binop o x y
  | .neg a => do
    match ← ev hot a with
    | .int i => pure (.int (-i))
    | _ => stuck "neg"
  | .not a => do
    let b ← asB (← ev hot a)
    pure (.bl !b)
  | .and a b => do
    let c ← asB (← ev hot a)
    match c with
    | true => ev hot b
    | false => pure (.bl false)
  | .or a b => do
    let c ← asB (← ev hot a)
    match c with
    | true => pure (.bl true)
    | false => ev hot b
  | .cmp o a b => do
    let x ← ev hot a
    let y ← ev hot b
    let r ← cmpop o x y
    pure (.bl r)
  | .chain o o' a b c => do
    let x ← ev hot a
    let y ← ev hot b
    let _ ← need "chain" (scalT y)
    let r ← cmpop o x y
    match r with
    | true => do
      let z ← ev hot c
      let r' ← cmpop o' y z
      pure (.bl r')
    | false => pure (.bl false)
  | .tup es => do
    let ts ← evs hot es
    let _ ← need "tuple" (fitT ts.length)
    pure (.nd .tup ts)
  | .lst es => do
    let ts ← evs hot es
    let _ ← need "list" (fitT ts.length)
    pure (.nd (.lst false) ts)
  | .dnew t => pure (if t then .nd (.dT false []) [] else .nd (.dK false []) [])
  | .dsp t ks vs => do
    let ks ← evs hot ks
    let vs ← evs hot vs
    match t with
    | false => do
      let ks ← ofOpt "dict display" (keysOf ks)
      let _ ← need "dict display" (decide (ks.length = vs.length) && decide ks.Nodup)
      pure (.nd (.dK false ks) vs)
    | true => match ks with
      | [.nd .tup k] => do
        let k ← ofOpt "dict display" (keysOf k)
        let _ ← need "dict display" (decide (vs.length = 1))
        pure (.nd (.dT false [k]) vs)
      | _ => stuck "dict display"
  | .ix a b => do
    let x ← ev hot a
    let y ← ev hot b
    ixop x y
  | .slF a lo => do
    let x ← ev hot a
    let y ← ev hot lo
    let i ← intOf y
    slop x (some i) none
  | .slT a hi => do
    let x ← ev hot a
    let y ← ev hot hi
    let i ← intOf y
    slop x none (some i)
  | .slB a lo hi => do
    let x ← ev hot a
    let y ← ev hot lo
    let i ← intOf y
    let z ← ev hot hi
    let j ← intOf z
    slop x (some i) (some j)
  | .fld a f => do
    let x ← ev hot a
    fldop x f
  | .call f es => do
    let as ← evs hot es
    let _ ← need "a bare object handed in" (!isNew as)
    asM (call hot f as)
  | .meth o m es => do
    let x ← ev hot o
    let c ← typeName x
    let ms ← lkp "no class" c P.cls
    let f ← lkp "no method" m ms
    let as ← evs hot es
    let _ ← need "a bare object handed in" (!isNew (x :: as))
    asM (call hot f (x :: as))
  | .new c es => do
    let as ← evs hot es
    let ms ← lkp "no class" c P.cls
    let f ← lkp "no __init__" "__init__" ms
    asM (call hot f (.nd (.ins c []) [] :: as))
  | .bf f es => do
    let as ← evs hot es
    bfop f as
  | .bm m o es => do
    let x ← ev hot o
    let _ ← recv m x
    let as ← evs hot es
    bmop m x as
  | .isi e c => do
    let x ← ev hot e
    let b ← isiop P x c
    pure (.bl b)
  | .lc elt tg h it cond => noExc do
    let w ← evIt hot h it
    let _ ← need "a comprehension while an error is handled" (!hot)
    let _ ← setVar (h + 1) (.nd (.lst false) [])
    let _ ← runWk w fun v => do
      let _ ← setTg tg v
      let b ← evConds hot cond
      match b with
      | true => do
        let x ← ev hot elt
        let a ← getVar (h + 1)
        let _ ← bmop .append a [x]
        pure none
      | false => pure none
    let _ ← clearVars tg
    moveVar (h + 1)
  | .kin _ tbl e => do
    match ← ev hot e with
    | .str z => pure (.bl (tbl.lookup z).isSome)
    | _ => pure (.bl false)
  | .kix _ tbl e => do
    match ← ev hot e with
    | .str z => do
      let y ← ofOpt "no such key" (tbl.lookup z)
      pure y
    | _ => stuck "no such key"
def evs (hot : Bool) : List Ex → M (List T)
  | [] => pure []
  | e :: es => do
    let t ← ev hot e
    let ts ← evs hot es
    pure (t :: ts)
def evConds (hot : Bool) : List Ex → M Bool
  | [] => pure true
  | e :: es => do
    let b ← asB (← ev hot e)
    match b with
    | true => evConds hot es
    | false => pure false
def evIt (hot : Bool) (h : Nat) : It → M Wk
  | .ex e => do startWk h false false (← ev hot e)
  | .rng es => do
    let as ← evs hot es
    rngOf as
  | .enum e => do startWk h true false (← ev hot e)
  | .rev e => do startWk h false true (← ev hot e)
end

/-- while, at most w turns -/
def whlN (c : M Bool) (b : M (Option T)) : Nat → M (Option T)
  | 0 => stuck "too many turns"
  | n + 1 => do
    match ← c with
    | true => do
      match ← b with
      | none => whlN c b n
      | some v => pure (some v)
    | false => pure none
variable (fuel : Nat)
mutual
def exec (hot : Bool) : Sm → M (Option T)
  | .set i e => do
    let v ← ev P call hot e
    let _ ← setVar i v
    pure none
  | .setT is e => do
    let v ← ev P call hot e
    let _ ← setTg is v
    pure none
  | .setx a b e => do
    let v ← ev P call hot e
    let x ← ev P call hot a
    let y ← ev P call hot b
    let _ ← setxop x y v
    pure none
  | .setf a f e => do
    let v ← ev P call hot e
    let x ← ev P call hot a
    let _ ← setfop P x f v
    pure none
  | .exp e => do
    let _ ← ev P call hot e
    pure none
  | .ret e => do
    let v ← ev P call hot e
    pure (some v)
  | .retN => pure (some .non)
  | .ite c a b => do
    let r ← asB (← ev P call hot c)
    match r with
    | true => execs hot a
    | false => execs hot b
  | .for_ tg h it b => do
    let w ← evIt P call hot h it
    runWk w fun v => do
      let _ ← setTg tg v
      execs hot b
  | .whl c b => whlN (do asB (← ev P call hot c)) (execs hot b) fuel
  | .rse c _ => fun s => .exc c (!hot) s
  | .try_ b c n su => fun s => match execs hot b s with
    | .ok r s => .ok r s
    | .stuck w => .stuck w
    | .exc x pl s => match isiB P x c with
      | some true => (do
        let _ ← match n with
          | some i => setVar i (.exc x)
          | none => pure ()
        let r ← execs true su
        let _ ← match n with
          | some i => setVar i .hole
          | none => pure ()
        pure r : M (Option T)) s
      | some false => .exc x pl s
      | none => .stuck "except"
  | .pas => pure none
def execs (hot : Bool) : List Sm → M (Option T)
  | [] => pure none
  | st :: sts => do
    match ← exec hot st with
    | none => execs hot sts
    | some v => pure (some v)
end
end
def frame (F : Fn) (as : List T) : List Cell := as.map (fun t => ⟨[], t⟩) ++ List.replicate (F.ns - as.length) ⟨[], .hole⟩
/-- what a def hands back: an own __init__ its object -/
def leave (mk : Bool) (r : Option T) (s : St) : Res (List Cell) T := match mk, r with
  | true, some .non => fin s
  | true, none => fin s
  | true, some _ => .stuck "__init__ tells something"
  | false, none => .ok .non s.S
  | false, some v => match below s.S.length v with
    | true => .ok v s.S
    | false => .stuck "a local list is told by a pointer"
where fin (s : St) : Res (List Cell) T := match s.F with
  | x :: _ => match below s.S.length x.val with
    | true => match x.val with
      | .hole => .stuck "no self"
      | t => .ok t s.S
    | false => .stuck "an object with links to locals"
  | [] => .stuck "no self"
def callF (P : Prog) (fuel : Nat) : Nat → Cl
  | 0, _, _, _, _ => .stuck "too deep"
  | k + 1, hot, f, as, C => match P.fns.lookup f with
    | none => .stuck "no such def"
    | some F =>
      let bs := as ++ F.dfl.drop (as.length + F.dfl.length - F.np)
      match decide (bs.length = F.np) with
      | false => .stuck "arguments"
      | true => match execs P (callF P fuel k) fuel hot F.body ⟨C, frame F bs⟩ with
        | .ok r s => leave (isNew as) r s
        | .exc c pl s => .exc c pl s.S
        | .stuck w => .stuck (w ++ " < " ++ String.ofList (f.cps.toList.map Char.ofNat))
end Tk
end
section
/-! Tk2: how trees stand in the abstract heap. -/
namespace Tk
open PySem L2

/-! ### trees of addresses -/
inductive AT where
  | lf (v : V) | nd (m : Bool) (a : Addr) (As : List AT)
def AT.val : AT → V
  | .lf v => v
  | .nd _ a _ => .ref a
mutual
def cnt (b : Addr) : AT → Nat
  | .lf _ => 0
  | .nd m a As => (if m = true ∧ a = b then 1 else 0) + cnts b As
def cnts (b : Addr) : List AT → Nat
  | [] => 0
  | A :: As => cnt b A + cnts b As
end
theorem cnts_append (b : Addr) : ∀ xs ys : List AT, cnts b (xs ++ ys) = cnts b xs + cnts b ys
  | [], ys => by simp [cnts]
  | x :: xs, ys => by simp only [List.cons_append, cnts, cnts_append b xs ys]; omega
theorem cnts_set (b : Addr) : ∀ (xs : List AT) (i : Nat) (x y : AT), xs[i]? = some x → cnts b (xs.set i y) + cnt b x = cnts b xs + cnt b y
  | [], _, _, _, h => by simp at h
  | z :: xs, 0, x, y, h => by
    simp at h
    subst h
    simp only [List.set_cons_zero, cnts]
    omega
  | z :: xs, i + 1, x, y, h => by
    simp at h
    have q := cnts_set b xs i x y h
    simp only [List.set_cons_succ, cnts]
    omega
theorem cnts_get (b : Addr) {xs : List AT} {i : Nat} {x : AT} (h : xs[i]? = some x) : cnt b x ≤ cnts b xs := by
  have q := cnts_set b xs i x (.lf .non) h
  have z : cnt b (.lf .non) = 0 := rfl
  omega
theorem cnts_mem (b : Addr) {xs : List AT} {x : AT} (h : x ∈ xs) : cnt b x ≤ cnts b xs := by
  obtain ⟨i, h⟩ := List.getElem?_of_mem h
  exact cnts_get b h
theorem cnts_perm (b : Addr) {xs ys : List AT} (h : xs.Perm ys) : cnts b xs = cnts b ys := by
  induction h with
  | nil => rfl
  | cons x _ ih => simp only [cnts, ih]
  | swap x y l => simp only [cnts]; omega
  | trans _ _ h1 h2 => exact h1.trans h2
def AT.at : AT → List Nat → Option AT
  | A, [] => some A
  | .nd _ _ As, i :: p => match As[i]? with
    | some A => A.at p
    | none => none
  | .lf _, _ :: _ => none
def AT.setAt : AT → List Nat → AT → AT
  | _, [], x => x
  | .nd m a As, i :: p, x => match As[i]? with
    | some A => .nd m a (As.set i (A.setAt p x))
    | none => .nd m a As
  | .lf v, _ :: _, _ => .lf v
theorem cnt_setAt (b : Addr) : ∀ (p : List Nat) (A B C : AT), A.at p = some B → cnt b (A.setAt p C) + cnt b B = cnt b A + cnt b C
  | [], A, B, C, h => by
    have e : A = B := by
      have h1 : some A = some B := by unfold AT.at at h; exact h
      exact Option.some.inj h1
    subst e
    have e2 : A.setAt [] C = C := by unfold AT.setAt; rfl
    rw [e2]; omega
  | i :: p, .lf v, B, C, h => by simp [AT.at] at h
  | i :: p, .nd m a As, B, C, h => by
    cases e : As[i]? with
    | none => simp [AT.at, e] at h
    | some A =>
      simp only [AT.at, e] at h
      have q := cnt_setAt b p A B C h
      have q2 := cnts_set b As i A (A.setAt p C) e
      simp only [AT.setAt, e, cnt]
      omega
theorem val_setAt : ∀ (p : List Nat) (A B C : AT), A.at p = some B → C.val = B.val → (A.setAt p C).val = A.val
  | [], A, B, C, h, hv => by
    have e : A = B := by
      have h1 : some A = some B := by unfold AT.at at h; exact h
      exact Option.some.inj h1
    subst e
    have e2 : A.setAt [] C = C := by unfold AT.setAt; rfl
    rw [e2]; exact hv
  | i :: p, .lf v, B, C, h, _ => by simp [AT.at] at h
  | i :: p, .nd m a As, B, C, h, _ => by
    cases e : As[i]? with
    | none => simp [AT.at, e] at h
    | some A => simp only [AT.setAt, e, AT.val]
theorem cnt_at (b : Addr) {p : List Nat} {A B : AT} (h : A.at p = some B) : cnt b B ≤ cnt b A := by
  have q := cnt_setAt b p A B (.lf .non) h
  have z : cnt b (.lf .non) = 0 := rfl
  omega

/-! ### a tree stands in the heap -/
/-- what may be written (the script's list is not) -/
def own : Sh → Bool
  | .tup => false
  | .lst lk => !lk
  | _ => true
section
variable (ca : Str → Addr) (K : PySem.W.Frag)
/-- a list of the written part -/
def KL (a : Addr) (vs : List V) : Prop := ∃ (o : Obj) (its : Array Value) (n : Nat), K.lookup a = some o ∧ o.cls = .type "list" ∧ o.dict = none ∧ o.data = .seq its n ∧ its.size ≤ sizeLine ∧ Vals vs its.toList
/-- what is asked of an own class -/
structure InC (K : PySem.W.Frag) (C : Addr) : Prop where
  cl : Cls K C
  ha : PySem.W.findIn K (.ref C) "__class__" = some (some (.builtin "object.__class__"))
  hn : PySem.W.specialIn K (.builtin "object.__class__") "__get__" = some (some (.builtin "getset_descriptor.__get__"))
  htk : PySem.W.takesIn K (.builtin "object.__class__") = some true
  hm : PySem.W.mroIn K C (.type "object") = some true
def HoOk (H : Hp) (sh : Sh) (a : Addr) (vs : List V) : Prop := match sh with
  | .tup => H a = some (.tup vs)
  | .lst false => H a = some (.lst vs)
  | .lst true => (∃ o, H a = some (.frz o (.lst vs))) ∨ KL K a vs
  | .dK false ks => ks.Nodup ∧ ks.length = vs.length ∧ H a = some (.dK (ks.zip vs))
  | .dK true ks => ks.Nodup ∧ ks.length = vs.length ∧ ∃ od, H a = some (.frz od (.dK (ks.zip vs)))
  | .dT false ks => ks.Nodup ∧ ks.length = vs.length ∧ H a = some (.dT (ks.zip vs))
  | .dT true ks => ks.Nodup ∧ ks.length = vs.length ∧ ∃ od, H a = some (.frz od (.dT (ks.zip vs)))
  | .ins c fs => (InC K (ca c) ∧ ∀ f ∈ fs, NoAttr K (ca c) f) ∧ fs.length = vs.length ∧ ∃ dx, H a = some (.ins (ca c) dx (fs.zip vs))
abbrev Po := Nat → Nat → List Nat → V → Prop
mutual
def Rp (H : Hp) (po : Po) : T → AT → Prop
  | .hole, .lf _ => True
  | .non, .lf v => v = .non
  | .bl b, .lf v => v = .bl b
  | .int i, .lf v => v = .int i
  | .str s, .lf v => v = .str s
  | .ptr c n p, .lf v => po c n p v
  | .nd sh ts, .nd m a As => m = own sh ∧ HoOk ca K H sh a (As.map AT.val) ∧ (sh = .lst true → noMut.noMuts ts = true) ∧ Rps H po ts As
  | _, _ => False
def Rps (H : Hp) (po : Po) : List T → List AT → Prop
  | [], [] => True
  | t :: ts, A :: As => Rp H po t A ∧ Rps H po ts As
  | _, _ => False
end
end
section
variable {ca : Str → Addr} {K : PySem.W.Frag} {H H2 : Hp} {po po' : Po}
mutual
theorem Rp.po (f : ∀ c n p v, po c n p v → po' c n p v) : ∀ (t : T) (A : AT), Rp ca K H po t A → Rp ca K H po' t A
  | .hole, A, h => by cases A <;> simpa [Rp] using h
  | .non, A, h => by cases A <;> simpa [Rp] using h
  | .bl b, A, h => by cases A <;> simpa [Rp] using h
  | .int i, A, h => by cases A <;> simpa [Rp] using h
  | .str s, A, h => by cases A <;> simpa [Rp] using h
  | .exc c, A, h => by cases A <;> simp [Rp] at h
  | .ptr c n p, A, h => by
    cases A with
    | lf v => simp only [Rp] at h ⊢; exact f _ _ _ _ h
    | nd m a As => simp [Rp] at h
  | .nd sh ts, A, h => by
    cases A with
    | lf v => simp [Rp] at h
    | nd m a As =>
      simp only [Rp] at h ⊢
      exact ⟨h.1, h.2.1, h.2.2.1, Rps.po f ts As h.2.2.2⟩
theorem Rps.po (f : ∀ c n p v, po c n p v → po' c n p v) : ∀ (ts : List T) (As : List AT), Rps ca K H po ts As → Rps ca K H po' ts As
  | [], As, h => by cases As <;> simpa [Rps] using h
  | t :: ts, [], h => by simp [Rps] at h
  | t :: ts, A :: As, h => by
    simp only [Rps] at h ⊢
    exact ⟨Rp.po f t A h.1, Rps.po f ts As h.2⟩
end
/-- all but what stands at a0 (no tuple, not the script) stays -/
structure Off (H H2 : Hp) (a0 : Addr) : Prop where
  eq : ∀ b, b ≠ a0 → H2 b = H b
  nt : ∀ vs, H a0 ≠ some (.tup vs)
  nl : ∀ o vs, H a0 ≠ some (.frz o (.lst vs))
  new : H a0 = none → True
theorem Off.upd {a0 : Addr} {o : HO} (nt : ∀ vs, H a0 ≠ some (.tup vs)) (nl : ∀ o vs, H a0 ≠ some (.frz o (.lst vs))) : Off H (L2.upd H a0 o) a0 :=
  ⟨fun b hb => L2.upd_ne hb, nt, nl, fun _ => trivial⟩
theorem Off.fresh {a0 : Addr} {o : HO} (h : H a0 = none) : Off H (L2.upd H a0 o) a0 :=
  Off.upd (fun vs q => by rw [h] at q; cases q) (fun o vs q => by rw [h] at q; cases q)
/-- the same for the shapes whose object is not at a0 -/
theorem HoOk.off {a0 a : Addr} {sh : Sh} {vs : List V} (f : Off H H2 a0) (ne : own sh = true → a ≠ a0) (h : HoOk ca K H sh a vs) : HoOk ca K H2 sh a vs := by
  cases sh with
  | tup =>
    have h1 : H a = some (.tup vs) := h
    show H2 a = _
    rw [f.eq a (fun e => by rw [e] at h1; exact f.nt _ h1)]
    exact h1
  | lst lk =>
    cases lk with
    | false =>
      show H2 a = _
      rw [f.eq a (ne rfl)]
      exact h
    | true =>
      have h1 : (∃ o, H a = some (.frz o (.lst vs))) ∨ KL K a vs := h
      show (∃ o, H2 a = some (.frz o (.lst vs))) ∨ KL K a vs
      rcases h1 with ⟨o, h1⟩ | h1
      · refine .inl ⟨o, ?_⟩
        rw [f.eq a (fun e => by rw [e] at h1; exact f.nl _ _ h1)]
        exact h1
      · exact .inr h1
  | dK lk ks => cases lk <;> (simp only [HoOk] at h ⊢; rw [f.eq a (ne rfl)]; exact h)
  | dT lk ks => cases lk <;> (simp only [HoOk] at h ⊢; rw [f.eq a (ne rfl)]; exact h)
  | ins c fs => simp only [HoOk] at h ⊢; rw [f.eq a (ne rfl)]; exact h
mutual
theorem Rp.off {a0 : Addr} (f : Off H H2 a0) : ∀ (t : T) (A : AT), cnt a0 A = 0 → Rp ca K H po t A → Rp ca K H2 po t A
  | .hole, A, _, h => by cases A <;> simpa [Rp] using h
  | .non, A, _, h => by cases A <;> simpa [Rp] using h
  | .bl b, A, _, h => by cases A <;> simpa [Rp] using h
  | .int i, A, _, h => by cases A <;> simpa [Rp] using h
  | .str s, A, _, h => by cases A <;> simpa [Rp] using h
  | .exc c, A, _, h => by cases A <;> simp [Rp] at h
  | .ptr c n p, A, _, h => by cases A <;> simpa [Rp] using h
  | .nd sh ts, A, z, h => by
    cases A with
    | lf v => simp [Rp] at h
    | nd m a As =>
      simp only [Rp] at h ⊢
      simp only [cnt] at z
      refine ⟨h.1, h.2.1.off f fun o e => ?_, h.2.2.1, Rps.off f ts As (by omega) h.2.2.2⟩
      rw [if_pos ⟨h.1.trans o, e⟩] at z
      omega
theorem Rps.off {a0 : Addr} (f : Off H H2 a0) : ∀ (ts : List T) (As : List AT), cnts a0 As = 0 → Rps ca K H po ts As → Rps ca K H2 po ts As
  | [], As, _, h => by cases As <;> simpa [Rps] using h
  | t :: ts, [], _, h => by simp [Rps] at h
  | t :: ts, A :: As, z, h => by
    simp only [Rps] at h ⊢
    simp only [cnts] at z
    exact ⟨Rp.off f t A (by omega) h.1, Rps.off f ts As (by omega) h.2⟩
end
mutual
theorem Rp.flat (b : Addr) : ∀ (t : T) (A : AT), noMut t = true → Rp ca K H po t A → cnt b A = 0
  | .hole, A, _, h => by cases A <;> simp [Rp, cnt] at h ⊢
  | .non, A, _, h => by cases A <;> simp [Rp, cnt] at h ⊢
  | .bl _, A, _, h => by cases A <;> simp [Rp, cnt] at h ⊢
  | .int i, A, _, h => by cases A <;> simp [Rp, cnt] at h ⊢
  | .str s, A, _, h => by cases A <;> simp [Rp, cnt] at h ⊢
  | .exc c, A, _, h => by cases A <;> simp [Rp] at h
  | .ptr c n p, A, _, h => by cases A <;> simp [Rp, cnt] at h ⊢
  | .nd sh ts, A, z, h => by
    cases A with
    | lf v => simp [Rp] at h
    | nd m a As =>
      simp only [Rp] at h
      cases sh with
      | tup =>
        simp only [noMut] at z
        have q := Rps.flat b ts As z h.2.2.2
        have e : m = false := h.1
        subst e
        simp only [cnt, q]
        simp
      | _ => simp [noMut] at z
theorem Rps.flat (b : Addr) : ∀ (ts : List T) (As : List AT), noMut.noMuts ts = true → Rps ca K H po ts As → cnts b As = 0
  | [], As, _, h => by cases As <;> simp [Rps, cnts] at h ⊢
  | t :: ts, [], _, h => by simp [Rps] at h
  | t :: ts, A :: As, z, h => by
    simp only [Rps] at h
    simp only [noMut.noMuts, Bool.and_eq_true] at z
    simp only [cnts, Rp.flat b t A z.1 h.1, Rps.flat b ts As z.2 h.2]
end
theorem Rps.length : ∀ {ts : List T} {As : List AT}, Rps ca K H po ts As → ts.length = As.length
  | [], [], _ => rfl
  | [], _ :: _, h => by simp [Rps] at h
  | _ :: _, [], h => by simp [Rps] at h
  | t :: ts, A :: As, h => by simp only [Rps] at h; simp [Rps.length h.2]
theorem Rps.get : ∀ {ts : List T} {As : List AT} {i : Nat} {t : T}, Rps ca K H po ts As → ts[i]? = some t → ∃ A, As[i]? = some A ∧ Rp ca K H po t A
  | [], _, _, _, _, e => by simp at e
  | t :: ts, [], _, _, h, _ => by simp [Rps] at h
  | t :: ts, A :: As, 0, u, h, e => by
    simp only [Rps] at h
    simp at e
    subst e
    exact ⟨A, rfl, h.1⟩
  | t :: ts, A :: As, i + 1, u, h, e => by
    simp only [Rps] at h
    simp at e
    obtain ⟨B, h1, h2⟩ := Rps.get h.2 e
    exact ⟨B, by simpa using h1, h2⟩
theorem Rps.get' {ts : List T} {As : List AT} {i : Nat} {A : AT} (h : Rps ca K H po ts As) (e : As[i]? = some A) : ∃ t, ts[i]? = some t ∧ Rp ca K H po t A := by
  have hl := h.length
  have hi : i < ts.length := by rw [hl]; exact (List.getElem?_eq_some_iff.mp e).1
  obtain ⟨B, h1, h2⟩ := h.get (i := i) (t := ts[i]) (by simp [hi])
  rw [e] at h1
  cases h1
  exact ⟨ts[i], by simp [hi], h2⟩
theorem Rps.set : ∀ {ts : List T} {As : List AT} {t : T} {A : AT} (i : Nat), Rps ca K H po ts As → Rp ca K H po t A → Rps ca K H po (ts.set i t) (As.set i A)
  | [], [], _, _, _, _, _ => by simp [Rps]
  | [], _ :: _, _, _, _, h, _ => by simp [Rps] at h
  | _ :: _, [], _, _, _, h, _ => by simp [Rps] at h
  | u :: ts, B :: As, t, A, 0, h, q => by simp only [Rps] at h; simp only [List.set_cons_zero, Rps]; exact ⟨q, h.2⟩
  | u :: ts, B :: As, t, A, i + 1, h, q => by simp only [Rps] at h; simp only [List.set_cons_succ, Rps]; exact ⟨h.1, Rps.set i h.2 q⟩
theorem Rps.append : ∀ {ts us : List T} {As Bs : List AT}, Rps ca K H po ts As → Rps ca K H po us Bs → Rps ca K H po (ts ++ us) (As ++ Bs)
  | [], _, [], _, _, q => q
  | [], _, _ :: _, _, h, _ => by simp [Rps] at h
  | _ :: _, _, [], _, h, _ => by simp [Rps] at h
  | t :: ts, us, A :: As, Bs, h, q => by simp only [Rps] at h; simp only [List.cons_append, Rps]; exact ⟨h.1, Rps.append h.2 q⟩
theorem Rps.of_get {ts : List T} {As : List AT} (hl : ts.length = As.length) (f : ∀ (i : Nat) (t : T) (A : AT), ts[i]? = some t → As[i]? = some A → Rp ca K H po t A) : Rps ca K H po ts As := by
  induction ts generalizing As with
  | nil => cases As with
    | nil => simp [Rps]
    | cons A As => simp at hl
  | cons t ts ih => cases As with
    | nil => simp at hl
    | cons A As =>
      simp only [Rps]
      exact ⟨f 0 t A rfl rfl, ih (by simpa using hl) fun i u B h1 h2 => f (i + 1) u B (by simpa using h1) (by simpa using h2)⟩
theorem Rp.sub : ∀ {p : List Nat} {t t' : T} {A : AT}, Rp ca K H po t A → sub t p = some t' → ∃ A', A.at p = some A' ∧ Rp ca K H po t' A'
  | [], t, t', A, h, e => by
    have e1 : t = t' := by unfold Tk.sub at e; exact Option.some.inj e
    subst e1
    exact ⟨A, by unfold AT.at; rfl, h⟩
  | i :: p, t, t', A, h, e => by
    cases t with
    | nd sh ts =>
      cases A with
      | lf v => simp [Rp] at h
      | nd m a As =>
        simp only [Rp] at h
        cases q : ts[i]? with
        | none => simp [Tk.sub, q] at e
        | some u =>
          simp only [Tk.sub, q] at e
          obtain ⟨B, h1, h2⟩ := h.2.2.2.get q
          obtain ⟨C, h3, h4⟩ := Rp.sub h2 e
          exact ⟨C, by simp only [AT.at, h1]; exact h3, h4⟩
    | _ => simp [Tk.sub] at e
theorem sub_flat : ∀ {p : List Nat} {t t' : T}, noMut t = true → sub t p = some t' → noMut t' = true
  | [], t, t', h, e => by
    have e1 : t = t' := by unfold sub at e; exact Option.some.inj e
    rw [← e1]; exact h
  | i :: p, t, t', h, e => by
    cases t with
    | nd sh ts =>
      cases sh with
      | tup =>
        cases q : ts[i]? with
        | none => simp [Tk.sub, q] at e
        | some u =>
          simp only [Tk.sub, q] at e
          refine sub_flat (t := u) ?_ e
          simp only [noMut] at h
          exact flats_get h q
      | _ => simp [noMut] at h
    | _ => simp [Tk.sub] at e
where flats_get : ∀ {ts : List T} {i : Nat} {u : T}, noMut.noMuts ts = true → ts[i]? = some u → noMut u = true
  | [], _, _, _, e => by simp at e
  | t :: ts, 0, u, h, e => by
    simp only [noMut.noMuts, Bool.and_eq_true] at h
    simp at e
    rw [← e]; exact h.1
  | t :: ts, i + 1, u, h, e => by
    simp only [noMut.noMuts, Bool.and_eq_true] at h
    simp at e
    exact flats_get h.2 e
/-- THE CHANGE: what stands at a0, at the place p, is another -/
theorem Rp.upd {a0 : Addr} (f : Off H H2 a0) : ∀ {p : List Nat} {t t' t2 : T} {A A' A2 : AT}, Rp ca K H po t A → cnt a0 A ≤ 1 → Tk.sub t p = some t' → A.at p = some A' → 1 ≤ cnt a0 A' → A2.val = A'.val → Rp ca K H2 po t2 A2 →
    Rp ca K H2 po (Tk.setAt t p t2) (A.setAt p A2)
  | [], t, t', t2, A, A', A2, h, c1, e, ea, c2, ev, h2 => by
    have e2 : A.setAt [] A2 = A2 := by unfold AT.setAt; rfl
    have e3 : Tk.setAt t [] t2 = t2 := by unfold Tk.setAt; rfl
    rw [e2, e3]; exact h2
  | i :: p, t, t', t2, A, A', A2, h, c1, e, ea, c2, ev, h2 => by
    cases t with
    | nd sh ts =>
      cases A with
      | lf v => simp [Rp] at h
      | nd m a As =>
        simp only [Rp] at h
        cases q : ts[i]? with
        | none => simp [Tk.sub, q] at e
        | some u =>
          simp only [Tk.sub, q] at e
          obtain ⟨B, h1, hB⟩ := h.2.2.2.get q
          simp only [AT.at, h1] at ea
          have k1 := cnt_at a0 ea
          have k2 := cnts_get a0 h1
          simp only [cnt] at c1
          have ih := Rp.upd f hB (by omega) e ea c2 ev h2
          have hv := val_setAt p B A' A2 ea ev
          simp only [Tk.setAt, q, AT.setAt, h1, Rp]
          have em : (As.set i (B.setAt p A2)).map AT.val = As.map AT.val := by
            rw [List.map_set, hv]
            refine List.ext_getElem? fun j => ?_
            by_cases hj : i = j
            · subst hj
              by_cases hlt : i < (As.map AT.val).length
              · rw [List.getElem?_set_self hlt, List.getElem?_map, h1]; rfl
              · rw [List.getElem?_eq_none (by simpa using hlt), List.getElem?_eq_none (by simpa using hlt)]
            · rw [List.getElem?_set_ne hj]
          refine ⟨h.1, ?_, fun es => ?_, ?_⟩
          · rw [em]
            refine h.2.1.off f fun o e0 => ?_
            rw [if_pos ⟨h.1.trans o, e0⟩] at c1
            omega
          · have fl := h.2.2.1 es
            have z := Rp.flat (ca := ca) (K := K) (H := H) (po := po) a0 u B (sub_flat.flats_get fl q) hB
            omega
          · have qs := cnts_set a0 As i B (.lf .non) h1
            have z0 : cnt a0 (.lf .non) = 0 := rfl
            -- the siblings
            refine Rps.of_get (by simp [h.2.2.2.length]) fun j w C e1 e2 => ?_
            by_cases hj : i = j
            · subst hj
              have hlt : i < ts.length := (List.getElem?_eq_some_iff.mp q).1
              have hlt2 : i < As.length := (List.getElem?_eq_some_iff.mp h1).1
              rw [List.getElem?_set_self hlt] at e1
              rw [List.getElem?_set_self hlt2] at e2
              cases e1
              cases e2
              exact ih
            · rw [List.getElem?_set_ne hj] at e1 e2
              obtain ⟨C', g1, g2⟩ := h.2.2.2.get e1
              rw [e2] at g1
              cases g1
              have kk : cnt a0 C ≤ cnts a0 (As.set i (.lf .non)) := cnts_get a0 (i := j) (by rw [List.getElem?_set_ne hj]; exact e2)
              exact Rp.off f w C (by omega) g2
    | _ => simp [Tk.sub] at e
end
/-! ### the cells -/
/-- a pointer is dead, or it stands for the object of the node to which it leads -/
def PoS (S : List Cell) (As : List AT) : Po := fun c n p v => ∃ x A, S[c]? = some x ∧ As[c]? = some A ∧ n ≤ x.log.length ∧
  (alive x.log n p = true → ∃ sh ts m a Bs, sub x.val p = some (.nd sh ts) ∧ sh ≠ .tup ∧ A.at p = some (.nd m a Bs) ∧ v = .ref a)
structure Sim (ca : Str → Addr) (K : PySem.W.Frag) (H : Hp) (S : List Cell) (As : List AT) (E : List (T × AT)) : Prop where
  cs : Rps ca K H (PoS S As) (S.map (·.val)) As
  es : ∀ q ∈ E, Rp ca K H (PoS S As) q.1 q.2
  one : ∀ b, cnts b As + cnts b (E.map (·.2)) ≤ 1
section
variable {ca : Str → Addr} {K : PySem.W.Frag} {H H2 : Hp} {po : Po} {S : List Cell} {As : List AT} {E : List (T × AT)}
theorem Sim.len (I : Sim ca K H S As E) : S.length = As.length := by have := I.cs.length; simpa using this
theorem Sim.cell (I : Sim ca K H S As E) {c : Nat} {x : Cell} (h : S[c]? = some x) : ∃ A, As[c]? = some A ∧ Rp ca K H (PoS S As) x.val A :=
  I.cs.get (by rw [List.getElem?_map, h]; rfl)
theorem Sim.perm {E' : List (T × AT)} (I : Sim ca K H S As E) (p : E.Perm E') : Sim ca K H S As E' :=
  ⟨I.cs, fun q hq => I.es q (p.mem_iff.mpr hq), fun b => by rw [← cnts_perm b (p.map _)]; exact I.one b⟩
theorem Sim.drop {q : T × AT} (I : Sim ca K H S As (q :: E)) : Sim ca K H S As E :=
  ⟨I.cs, fun r hr => I.es r (List.mem_cons_of_mem _ hr), fun b => by have := I.one b; simp only [List.map_cons, cnts] at this; omega⟩
theorem Sim.drops : ∀ {D : List (T × AT)}, Sim ca K H S As (D ++ E) → Sim ca K H S As E
  | [], I => I
  | _ :: D, I => Sim.drops (D := D) I.drop
theorem Sim.push {t : T} {A : AT} (I : Sim ca K H S As E) (h : Rp ca K H (PoS S As) t A) (z : ∀ b, cnt b A = 0) : Sim ca K H S As ((t, A) :: E) :=
  ⟨I.cs, fun r hr => by
    rcases List.mem_cons.mp hr with e | hr
    · rw [e]; exact h
    · exact I.es r hr, fun b => by simp only [List.map_cons, cnts, z b]; have := I.one b; omega⟩
mutual
theorem Rp.there {b : Addr} : ∀ (t : T) (A : AT), Rp ca K H po t A → cnt b A ≠ 0 → H b ≠ none
  | .hole, A, h, z => by cases A <;> simp [Rp, cnt] at h z
  | .non, A, h, z => by cases A <;> simp [Rp, cnt] at h z
  | .bl _, A, h, z => by cases A <;> simp [Rp, cnt] at h z
  | .int i, A, h, z => by cases A <;> simp [Rp, cnt] at h z
  | .str s, A, h, z => by cases A <;> simp [Rp, cnt] at h z
  | .exc c, A, h, z => by cases A <;> simp [Rp] at h
  | .ptr c n p, A, h, z => by cases A <;> simp [Rp, cnt] at h z
  | .nd sh ts, A, h, z => by
    cases A with
    | lf v => simp [Rp] at h
    | nd m a As =>
      simp only [Rp] at h
      simp only [cnt] at z
      by_cases q : m = true ∧ a = b
      · obtain ⟨q1, q2⟩ := q
        subst q2
        have o : own sh = true := h.1.symm.trans q1
        have k := h.2.1
        cases sh with
        | tup => cases o
        | lst lk => cases lk with
          | false => intro e; rw [show H a = _ from k] at e; cases e
          | true => cases o
        | dK lk ks => cases lk with
          | false => intro e; rw [k.2.2] at e; cases e
          | true => obtain ⟨_, _, od, k⟩ := k; intro e; rw [k] at e; cases e
        | dT lk ks => cases lk with
          | false => intro e; rw [k.2.2] at e; cases e
          | true => obtain ⟨_, _, od, k⟩ := k; intro e; rw [k] at e; cases e
        | ins c fs => obtain ⟨_, _, dx, k⟩ := k; intro e; rw [k] at e; cases e
      · rw [if_neg q] at z
        exact Rps.there ts As h.2.2.2 (by omega)
theorem Rps.there {b : Addr} : ∀ (ts : List T) (As : List AT), Rps ca K H po ts As → cnts b As ≠ 0 → H b ≠ none
  | [], As, h, z => by cases As <;> simp [Rps, cnts] at h z
  | t :: ts, [], h, _ => by simp [Rps] at h
  | t :: ts, A :: As, h, z => by
    simp only [Rps] at h
    simp only [cnts] at z
    by_cases q : cnt b A = 0
    · exact Rps.there ts As h.2 (by omega)
    · exact Rp.there t A h.1 q
end
theorem rps_items {E : List (T × AT)} (h : ∀ q ∈ E, Rp ca K H po q.1 q.2) : Rps ca K H po (E.map (·.1)) (E.map (·.2)) := by
  induction E with
  | nil => simp [Rps]
  | cons q E ih =>
    simp only [List.map_cons, Rps]
    exact ⟨h q List.mem_cons_self, ih fun r hr => h r (List.mem_cons_of_mem _ hr)⟩
theorem Sim.fresh (I : Sim ca K H S As E) {a : Addr} (h : H a = none) : cnts a As = 0 ∧ cnts a (E.map (·.2)) = 0 := by
  refine ⟨?_, ?_⟩
  · by_cases q : cnts a As = 0
    · exact q
    · exact absurd h (Rps.there _ _ I.cs q)
  · by_cases q : cnts a (E.map (·.2)) = 0
    · exact q
    · exact absurd h (Rps.there _ _ (rps_items I.es) q)
theorem Sim.off (I : Sim ca K H S As E) {a : Addr} (f : Off H H2 a) (h1 : cnts a As = 0) (h2 : cnts a (E.map (·.2)) = 0) : Sim ca K H2 S As E :=
  ⟨Rps.off f _ _ h1 I.cs, fun q hq => Rp.off f _ _ (by have := cnts_mem a (List.mem_map_of_mem (f := (·.2)) hq); omega) (I.es q hq), I.one⟩
/-- items in flight become the children of a new object -/
theorem Sim.alloc {D : List (T × AT)} {a : Addr} {o : HO} {sh : Sh} (I : Sim ca K H S As (D ++ E)) (h : H a = none) (ns : sh ≠ .lst true) (ho : HoOk ca K (L2.upd H a o) sh a ((D.map (·.2)).map AT.val)) :
    Sim ca K (L2.upd H a o) S As ((.nd sh (D.map (·.1)), .nd (own sh) a (D.map (·.2))) :: E) := by
  obtain ⟨z1, z2⟩ := I.fresh h
  have J := I.off (Off.fresh (o := o) h) z1 z2
  refine ⟨J.cs, fun q hq => ?_, fun b => ?_⟩
  · rcases List.mem_cons.mp hq with e | hq
    · rw [e]
      simp only [Rp]
      exact ⟨trivial, ho, fun e => absurd e ns, rps_items fun r hr => J.es r (List.mem_append_left _ hr)⟩
    · exact J.es q (List.mem_append_right _ hq)
  · have k := I.one b
    simp only [List.map_append, cnts_append] at k
    simp only [List.map_cons, cnts, cnt]
    by_cases q : own sh = true ∧ a = b
    · obtain ⟨q1, q2⟩ := q
      subst q2
      simp only [List.map_append, cnts_append] at z2
      rw [if_pos ⟨q1, rfl⟩]
      omega
    · rw [if_neg q]; omega
/-! ### what is looked at -/
mutual
def viewA : T → AT → AT
  | .nd .tup ts, .nd m a As => .nd m a (viewsA ts As)
  | .nd _ _, A => .lf A.val
  | _, A => A
def viewsA : List T → List AT → List AT
  | t :: ts, A :: As => viewA t A :: viewsA ts As
  | _, _ => []
end
mutual
theorem viewA_val : ∀ (t : T) (A : AT), (viewA t A).val = A.val
  | .nd sh ts, A => by cases sh <;> cases A <;> simp [viewA, AT.val]
  | .hole, A => by simp [viewA]
  | .non, A => by simp [viewA]
  | .bl _, A => by simp [viewA]
  | .int _, A => by simp [viewA]
  | .str _, A => by simp [viewA]
  | .exc _, A => by simp [viewA]
  | .ptr _ _ _, A => by simp [viewA]
theorem viewsA_val : ∀ (ts : List T) (As : List AT), ts.length = As.length → (viewsA ts As).map AT.val = As.map AT.val
  | [], As, h => by cases As with
    | nil => simp [viewsA]
    | cons A As => simp at h
  | t :: ts, [], h => by simp at h
  | t :: ts, A :: As, h => by simp only [viewsA, List.map_cons, viewA_val t A, viewsA_val ts As (by simpa using h)]
end
mutual
theorem viewA_cnt {b : Addr} : ∀ (t : T) (A : AT), Rp ca K H po t A → cnt b (viewA t A) = 0
  | .nd sh ts, A, h => by
    cases A with
    | lf v => simp [Rp] at h
    | nd m a As =>
      simp only [Rp] at h
      cases sh with
      | tup =>
        have e : m = false := h.1
        subst e
        simp only [viewA, cnt, viewsA_cnt ts As h.2.2.2]
        simp
      | _ => simp [viewA, cnt]
  | .hole, A, h => by cases A <;> simp [Rp, viewA, cnt] at h ⊢
  | .non, A, h => by cases A <;> simp [Rp, viewA, cnt] at h ⊢
  | .bl _, A, h => by cases A <;> simp [Rp, viewA, cnt] at h ⊢
  | .int _, A, h => by cases A <;> simp [Rp, viewA, cnt] at h ⊢
  | .str _, A, h => by cases A <;> simp [Rp, viewA, cnt] at h ⊢
  | .exc _, A, h => by cases A <;> simp [Rp] at h
  | .ptr _ _ _, A, h => by cases A <;> simp [Rp, viewA, cnt] at h ⊢
theorem viewsA_cnt {b : Addr} : ∀ (ts : List T) (As : List AT), Rps ca K H po ts As → cnts b (viewsA ts As) = 0
  | [], As, h => by cases As <;> simp [Rps, viewsA, cnts] at h ⊢
  | t :: ts, [], h => by simp [Rps] at h
  | t :: ts, A :: As, h => by
    simp only [Rps] at h
    simp only [viewsA, cnts, viewA_cnt t A h.1, viewsA_cnt ts As h.2]
end
theorem sub_snoc : ∀ {p : List Nat} {t : T} {sh : Sh} {ts : List T} {i : Nat}, sub t p = some (.nd sh ts) → sub t (p ++ [i]) = ts[i]?
  | [], t, sh, ts, i, h => by
    have e : t = .nd sh ts := by unfold sub at h; exact Option.some.inj h
    subst e
    show sub (.nd sh ts) [i] = _
    cases q : ts[i]? with
    | none => simp [sub, q]
    | some u => simp [sub, q]
  | j :: p, t, sh, ts, i, h => by
    cases t with
    | nd s us =>
      cases q : us[j]? with
      | none => simp [sub, q] at h
      | some u =>
        simp only [sub, q] at h
        show sub (.nd s us) (j :: (p ++ [i])) = _
        simp only [sub, q]
        exact sub_snoc h
    | _ => simp [sub] at h
theorem at_snoc : ∀ {p : List Nat} {A : AT} {m : Bool} {a : Addr} {Bs : List AT} {i : Nat}, A.at p = some (.nd m a Bs) → A.at (p ++ [i]) = Bs[i]?
  | [], A, m, a, Bs, i, h => by
    have e : A = .nd m a Bs := by unfold AT.at at h; exact Option.some.inj h
    subst e
    show AT.at (.nd m a Bs) [i] = _
    cases q : Bs[i]? with
    | none => simp [AT.at, q]
    | some u => simp [AT.at, q]
  | j :: p, A, m, a, Bs, i, h => by
    cases A with
    | nd s b us =>
      cases q : us[j]? with
      | none => simp [AT.at, q] at h
      | some u =>
        simp only [AT.at, q] at h
        show AT.at (.nd s b us) (j :: (p ++ [i])) = _
        simp only [AT.at, q]
        exact at_snoc h
    | lf v => simp [AT.at] at h
theorem alive_now (log : List Ev) (p : List Nat) : alive log log.length p = true := by simp [alive]
mutual
theorem view_ok {c : Nat} {x : Cell} {A : AT} (hx : S[c]? = some x) (hA : As[c]? = some A) : ∀ (t : T) (B : AT) (p : List Nat), sub x.val p = some t → A.at p = some B → Rp ca K H (PoS S As) t B →
    Rp ca K H (PoS S As) (view c x.log.length t p) (viewA t B)
  | .nd sh ts, B, p, h1, h2, h => by
    cases B with
    | lf v => simp [Rp] at h
    | nd m a Bs =>
      have h0 := h
      simp only [Rp] at h
      by_cases e : sh = .tup
      · subst e
        simp only [view, viewA, Rp]
        refine ⟨h.1, ?_, by simp, ?_⟩
        · rw [viewsA_val ts Bs h.2.2.2.length]
          exact h.2.1
        · exact views_ok hx hA ts Bs p 0 (fun i => by rw [sub_snoc h1, Nat.zero_add]) (fun i => by rw [at_snoc h2, Nat.zero_add]) h.2.2.2
      · have e1 : view c x.log.length (.nd sh ts) p = .ptr c x.log.length p := by cases sh <;> first | exact absurd rfl e | simp [view]
        have e2 : viewA (.nd sh ts) (.nd m a Bs) = .lf (.ref a) := by cases sh <;> first | exact absurd rfl e | simp [viewA, AT.val]
        rw [e1, e2]
        simp only [Rp]
        exact ⟨x, A, hx, hA, Nat.le_refl _, fun _ => ⟨sh, ts, m, a, Bs, h1, e, h2, rfl⟩⟩
  | .hole, B, p, _, _, h => by simpa [view, viewA] using h
  | .non, B, p, _, _, h => by simpa [view, viewA] using h
  | .bl _, B, p, _, _, h => by simpa [view, viewA] using h
  | .int _, B, p, _, _, h => by simpa [view, viewA] using h
  | .str _, B, p, _, _, h => by simpa [view, viewA] using h
  | .exc _, B, p, _, _, h => by simpa [view, viewA] using h
  | .ptr _ _ _, B, p, _, _, h => by simpa [view, viewA] using h
theorem views_ok {c : Nat} {x : Cell} {A : AT} (hx : S[c]? = some x) (hA : As[c]? = some A) : ∀ (ts : List T) (Bs : List AT) (p : List Nat) (k : Nat), (∀ i, sub x.val (p ++ [k + i]) = ts[i]?) → (∀ i, A.at (p ++ [k + i]) = Bs[i]?) → Rps ca K H (PoS S As) ts Bs →
    Rps ca K H (PoS S As) (view.views c x.log.length ts p k) (viewsA ts Bs)
  | [], Bs, p, k, _, _, h => by cases Bs <;> simp [Rps, view.views, viewsA] at h ⊢
  | t :: ts, [], p, k, _, _, h => by simp [Rps] at h
  | t :: ts, B :: Bs, p, k, h1, h2, h => by
    simp only [Rps] at h
    simp only [view.views, viewsA, Rps]
    refine ⟨view_ok hx hA t B (p ++ [k]) (by have := h1 0; simpa using this) (by have := h2 0; simpa using this) h.1, ?_⟩
    exact views_ok hx hA ts Bs p (k + 1) (fun i => by have := h1 (i + 1); rw [show k + (i + 1) = k + 1 + i by omega] at this; simpa using this) (fun i => by have := h2 (i + 1); rw [show k + (i + 1) = k + 1 + i by omega] at this; simpa using this) h.2
end
end
end Tk
end
section
/-! Tk3: the cells change. -/
namespace Tk
open PySem L2
section
variable {ca : Str → Addr} {K : PySem.W.Frag} {H H2 : Hp} {po : Po} {S : List Cell} {As : List AT} {E : List (T × AT)}
theorem alive_append {log evs : List Ev} {n : Nat} {p : List Nat} (h : n ≤ log.length) : alive (log ++ evs) n p = (alive log n p && evs.all fun e => !kills e p) := by
  unfold alive
  rw [List.drop_append_of_le_length h, List.all_append]
  have h1 : decide (n ≤ (log ++ evs).length) = true := decide_eq_true (by simp; omega)
  have h2 : decide (n ≤ log.length) = true := decide_eq_true h
  rw [h1, h2]
  simp
theorem alive_of_append {log evs : List Ev} {n : Nat} {p : List Nat} (h : n ≤ log.length) (a : alive (log ++ evs) n p = true) : alive log n p = true ∧ ∀ e ∈ evs, kills e p = false := by
  rw [alive_append h, Bool.and_eq_true, List.all_eq_true] at a
  exact ⟨a.1, fun e he => by simpa using a.2 e he⟩
theorem PoS.set {c0 : Nat} {x0 : Cell} {v' : T} {evs : List Ev} {A0 A' : AT} (hx : S[c0]? = some x0) (hA : As[c0]? = some A0)
    (k : ∀ p sh ts m a Bs, (∀ e ∈ evs, kills e p = false) → sub x0.val p = some (.nd sh ts) → sh ≠ .tup → A0.at p = some (.nd m a Bs) → ∃ sh' ts' m' Bs', sub v' p = some (.nd sh' ts') ∧ sh' ≠ .tup ∧ A'.at p = some (.nd m' a Bs'))
    (c n : Nat) (p : List Nat) (v : V) (h : PoS S As c n p v) : PoS (S.set c0 ⟨x0.log ++ evs, v'⟩) (As.set c0 A') c n p v := by
  obtain ⟨x, A, h1, h2, h3, h4⟩ := h
  by_cases e : c0 = c
  · subst e
    rw [hx] at h1
    cases h1
    rw [hA] at h2
    cases h2
    refine ⟨_, _, List.getElem?_set_self (List.getElem?_eq_some_iff.mp hx).1, List.getElem?_set_self (List.getElem?_eq_some_iff.mp hA).1, by simp; omega, fun al => ?_⟩
    obtain ⟨a1, a2⟩ := alive_of_append h3 al
    obtain ⟨sh, ts, m, a, Bs, q1, q2, q3, q4⟩ := h4 a1
    obtain ⟨sh', ts', m', Bs', r1, r2, r3⟩ := k p sh ts m a Bs a2 q1 q2 q3
    exact ⟨sh', ts', m', a, Bs', r1, r2, r3, q4⟩
  · exact ⟨x, A, by rw [List.getElem?_set_ne e]; exact h1, by rw [List.getElem?_set_ne e]; exact h2, h3, h4⟩
theorem kills_all (p : List Nat) : kills ([], true) p = true := by simp [kills]
/-- a variable's tree is another: an item in flight becomes it -/
theorem Sim.setCell {c : Nat} {x : Cell} {t : T} {A : AT} (I : Sim ca K H S As ((t, A) :: E)) (hx : S[c]? = some x) :
    Sim ca K H (S.set c ⟨if noMut x.val then x.log else x.log ++ [([], true)], t⟩) (As.set c A) E := by
  obtain ⟨A0, hA, hR⟩ := I.cell hx
  obtain ⟨evs, he, hev⟩ : ∃ evs : List Ev, (if noMut x.val then x.log else x.log ++ [([], true)]) = x.log ++ evs ∧ (noMut x.val = false → evs = [([], true)]) := by
    by_cases q : noMut x.val = true
    · exact ⟨[], by simp [q], fun z => by rw [q] at z; cases z⟩
    · exact ⟨[([], true)], by simp [q], fun _ => rfl⟩
  rw [he]
  have lift : ∀ c' n p v, PoS S As c' n p v → PoS (S.set c ⟨x.log ++ evs, t⟩) (As.set c A) c' n p v := PoS.set hx hA fun p sh ts m a Bs kl h1 h2 h3 => by
    by_cases q : noMut x.val = true
    · have z := sub_flat q h1
      cases sh <;> first | exact absurd rfl h2 | simp [noMut] at z
    · have z := kl _ (by rw [hev (by simpa using q)]; exact List.mem_cons_self)
      rw [kills_all] at z
      cases z
  refine ⟨?_, fun q hq => Rp.po lift _ _ (I.es q (List.mem_cons_of_mem _ hq)), fun b => ?_⟩
  · rw [List.map_set]
    exact Rps.po lift _ _ (Rps.set c I.cs (I.es (t, A) List.mem_cons_self))
  · have k := I.one b
    have k2 := cnts_set b As c A0 A hA
    simp only [List.map_cons, cnts] at k
    omega
theorem sub_setAt_pre : ∀ {p q : List Nat} {t u : T} {sh : Sh} {ts : List T}, sub t p = some (.nd sh ts) → sub (.nd sh ts) q ≠ none → sub (setAt t (p ++ q) u) p = some (setAt (.nd sh ts) q u)
  | [], q, t, u, sh, ts, h, _ => by
    have e : t = .nd sh ts := by unfold sub at h; exact Option.some.inj h
    subst e
    unfold sub
    rfl
  | j :: p, q, t, u, sh, ts, h, hq => by
    cases t with
    | nd s us =>
      cases e : us[j]? with
      | none => simp [sub, e] at h
      | some w =>
        simp only [sub, e] at h
        have hlt : j < us.length := (List.getElem?_eq_some_iff.mp e).1
        simp only [List.cons_append, setAt, e, sub]
        rw [List.getElem?_set_self hlt]
        exact sub_setAt_pre h hq
    | _ => simp [sub] at h
theorem setAt_nd (sh : Sh) (ts : List T) (i : Nat) (q : List Nat) (u : T) : ∃ ts', setAt (.nd sh ts) (i :: q) u = .nd sh ts' := by
  cases e : ts[i]? with
  | none => exact ⟨ts, by simp [setAt, e]⟩
  | some w => exact ⟨ts.set i (setAt w q u), by simp only [setAt, e]⟩
theorem at_setAt_pre : ∀ {p q : List Nat} {A U : AT} {m : Bool} {a : Addr} {Bs : List AT}, A.at p = some (.nd m a Bs) → (A.setAt (p ++ q) U).at p = some ((AT.nd m a Bs).setAt q U)
  | [], q, A, U, m, a, Bs, h => by
    have e : A = .nd m a Bs := by unfold AT.at at h; exact Option.some.inj h
    subst e
    show AT.at _ [] = _
    unfold AT.at
    rfl
  | j :: p, q, A, U, m, a, Bs, h => by
    cases A with
    | nd s b us =>
      cases e : us[j]? with
      | none => simp [AT.at, e] at h
      | some w =>
        simp only [AT.at, e] at h
        have hlt : j < us.length := (List.getElem?_eq_some_iff.mp e).1
        simp only [List.cons_append, AT.setAt, e, AT.at]
        rw [List.getElem?_set_self hlt]
        exact at_setAt_pre h
    | lf v => simp [AT.at] at h
theorem aT_setAt_nd (m : Bool) (a : Addr) (Bs : List AT) (i : Nat) (q : List Nat) (U : AT) : ∃ Bs', (AT.nd m a Bs).setAt (i :: q) U = .nd m a Bs' := by
  cases e : Bs[i]? with
  | none => exact ⟨Bs, by simp [AT.setAt, e]⟩
  | some w => exact ⟨Bs.set i (w.setAt q U), by simp only [AT.setAt, e]⟩
theorem sub_app : ∀ {p q : List Nat} {t w : T}, sub t p = some w → sub t (p ++ q) = sub w q
  | [], q, t, w, h => by
    have e : t = w := by unfold sub at h; exact Option.some.inj h
    rw [e]; rfl
  | j :: p, q, t, w, h => by
    cases t with
    | nd s us =>
      cases e : us[j]? with
      | none => simp [sub, e] at h
      | some z =>
        simp only [sub, e] at h
        simp only [List.cons_append, sub, e]
        exact sub_app h
    | _ => simp [sub] at h
theorem at_app : ∀ {p q : List Nat} {t w : AT}, t.at p = some w → t.at (p ++ q) = w.at q
  | [], q, t, w, h => by
    have e : t = w := by unfold AT.at at h; exact Option.some.inj h
    rw [e]; rfl
  | j :: p, q, t, w, h => by
    cases t with
    | nd s b us =>
      cases e : us[j]? with
      | none => simp [AT.at, e] at h
      | some z =>
        simp only [AT.at, e] at h
        simp only [List.cons_append, AT.at, e]
        exact at_app h
    | lf v => simp [AT.at] at h
theorem sub_setAt_self : ∀ {p : List Nat} {t w u : T}, sub t p = some w → sub (setAt t p u) p = some u
  | [], t, w, u, h => by
    show sub (setAt t [] u) [] = _
    have e : setAt t [] u = u := by unfold setAt; rfl
    rw [e]
    unfold sub
    rfl
  | j :: p, t, w, u, h => by
    cases t with
    | nd s us =>
      cases e : us[j]? with
      | none => simp [sub, e] at h
      | some z =>
        simp only [sub, e] at h
        have hlt : j < us.length := (List.getElem?_eq_some_iff.mp e).1
        simp only [setAt, e, sub]
        rw [List.getElem?_set_self hlt]
        exact sub_setAt_self h
    | _ => simp [sub] at h
theorem at_setAt_self : ∀ {p : List Nat} {t w u : AT}, t.at p = some w → (t.setAt p u).at p = some u
  | [], t, w, u, h => by
    have e : t.setAt [] u = u := by unfold AT.setAt; rfl
    rw [e]
    unfold AT.at
    rfl
  | j :: p, t, w, u, h => by
    cases t with
    | nd s b us =>
      cases e : us[j]? with
      | none => simp [AT.at, e] at h
      | some z =>
        simp only [AT.at, e] at h
        have hlt : j < us.length := (List.getElem?_eq_some_iff.mp e).1
        simp only [AT.setAt, e, AT.at]
        rw [List.getElem?_set_self hlt]
        exact at_setAt_self h
    | lf v => simp [AT.at] at h
/-- a place that is neither ahead of p0 nor behind it -/
theorem sub_setAt_away : ∀ {p p0 : List Nat} {t u : T}, ¬ p <+: p0 → ¬ p0 <+: p → sub (setAt t p0 u) p = sub t p
  | [], p0, t, u, h, _ => absurd (List.nil_prefix) h
  | i :: p, [], t, u, _, h => absurd (List.nil_prefix) h
  | i :: p, j :: p0, t, u, h1, h2 => by
    cases t with
    | nd s us =>
      cases e : us[j]? with
      | none => simp only [setAt, e]
      | some z =>
        simp only [setAt, e, sub]
        by_cases hij : j = i
        · subst hij
          have hlt : j < us.length := (List.getElem?_eq_some_iff.mp e).1
          rw [List.getElem?_set_self hlt, e]
          exact sub_setAt_away (fun q => h1 (List.cons_prefix_cons.mpr ⟨rfl, q⟩)) (fun q => h2 (List.cons_prefix_cons.mpr ⟨rfl, q⟩))
        · rw [List.getElem?_set_ne hij]
    | _ => simp [setAt]
theorem at_setAt_away : ∀ {p p0 : List Nat} {t u : AT}, ¬ p <+: p0 → ¬ p0 <+: p → (t.setAt p0 u).at p = t.at p
  | [], p0, t, u, h, _ => absurd (List.nil_prefix) h
  | i :: p, [], t, u, _, h => absurd (List.nil_prefix) h
  | i :: p, j :: p0, t, u, h1, h2 => by
    cases t with
    | nd s b us =>
      cases e : us[j]? with
      | none => simp only [AT.setAt, e]
      | some z =>
        simp only [AT.setAt, e, AT.at]
        by_cases hij : j = i
        · subst hij
          have hlt : j < us.length := (List.getElem?_eq_some_iff.mp e).1
          rw [List.getElem?_set_self hlt, e]
          exact at_setAt_away (fun q => h1 (List.cons_prefix_cons.mpr ⟨rfl, q⟩)) (fun q => h2 (List.cons_prefix_cons.mpr ⟨rfl, q⟩))
        · rw [List.getElem?_set_ne hij]
    | lf v => simp [AT.setAt]
theorem kills_behind {p q : List Nat} {i : Nat} : kills (p, false) (p ++ i :: q) = true := by
  simp [kills]
theorem kills_incl {p q : List Nat} : kills (p, true) (p ++ q) = true := by
  simp [kills]
/-- a node is replaced by another one at the same address -/
theorem Sim.poke {c : Nat} {p : List Nat} {x : Cell} {A : AT} {sh sh2 : Sh} {ts ts2 : List T} {m : Bool} {a : Addr} {Bs Bs2 : List AT} {D R : List (T × AT)} {ev : Bool}
    (I : Sim ca K H S As (D ++ E)) (hx : S[c]? = some x) (hA : As[c]? = some A) (hs : sub x.val p = some (.nd sh ts)) (hB : A.at p = some (.nd m a Bs)) (ho : own sh = true) (ho2 : own sh2 = true)
    (f : Off H H2 a) (hH : HoOk ca K H2 sh2 a (Bs2.map AT.val)) (hl : ts2.length = Bs2.length)
    (from_ : ∀ (i : Nat) (t : T) (B : AT), ts2[i]? = some t → Bs2[i]? = some B → (∃ j : Nat, ts[j]? = some t ∧ Bs[j]? = some B) ∨ (t, B) ∈ D)
    (res : ∀ q ∈ R, (∃ j : Nat, ts[j]? = some q.1 ∧ Bs[j]? = some q.2) ∨ q ∈ D)
    (num : ∀ b, cnts b Bs2 + cnts b (R.map (·.2)) ≤ cnts b Bs + cnts b (D.map (·.2)))
    (keep : ev = false → ∀ (i : Nat) (t : T) (B : AT), ts[i]? = some t → Bs[i]? = some B → noMut t = false → ts2[i]? = some t ∧ Bs2[i]? = some B) :
    Sim ca K H2 (S.set c ⟨if ev then x.log ++ [(p, false)] else x.log, setAt x.val p (.nd sh2 ts2)⟩) (As.set c (A.setAt p (.nd true a Bs2))) (R ++ E) := by
  obtain ⟨A0, hA0, hR⟩ := I.cell hx
  rw [hA] at hA0
  cases hA0
  obtain ⟨B0, hB0, hN⟩ := Rp.sub hR hs
  rw [hB] at hB0
  cases hB0
  have hN0 := hN
  simp only [Rp] at hN
  have em : m = true := hN.1.trans ho
  subst em
  have one := I.one a
  have ca1 : cnt a (.nd true a Bs) = 1 + cnts a Bs := by simp [cnt]
  have k1 := cnt_at a hB
  have k2 := cnts_get a hA
  rw [ca1] at k1
  simp only [List.map_append, cnts_append] at one
  have zBs : cnts a Bs = 0 := by omega
  have zE : cnts a (E.map (·.2)) = 0 := by omega
  have zD : cnts a (D.map (·.2)) = 0 := by omega
  have zBs2 : cnts a Bs2 = 0 := by have := num a; omega
  obtain ⟨evs, he, hev⟩ : ∃ evs : List Ev, (if ev then x.log ++ [(p, false)] else x.log) = x.log ++ evs ∧ (ev = true → evs = [(p, false)]) := by
    cases ev with
    | true => exact ⟨[(p, false)], by simp, fun _ => rfl⟩
    | false => exact ⟨[], by simp, fun z => by cases z⟩
  rw [he]
  have shs : ∀ s : Sh, own s = true → s ≠ .tup := fun s h e => by rw [e] at h; cases h
  have lift : ∀ c' n q v, PoS S As c' n q v → PoS (S.set c ⟨x.log ++ evs, setAt x.val p (.nd sh2 ts2)⟩) (As.set c (A.setAt p (.nd true a Bs2))) c' n q v := PoS.set hx hA fun q sq tq mq aq Bq kl h1 h2 h3 => by
    by_cases p1 : q <+: p
    · obtain ⟨r, rfl⟩ := p1
      rw [sub_app h1] at hs
      rw [at_app h3] at hB
      refine ?_
      rw [sub_setAt_pre h1 (by rw [hs]; simp), at_setAt_pre h3]
      cases r with
      | nil =>
        have e1 : T.nd sq tq = .nd sh ts := by unfold sub at hs; exact Option.some.inj hs
        have e2 : AT.nd mq aq Bq = .nd true a Bs := by unfold AT.at at hB; exact Option.some.inj hB
        cases e2
        exact ⟨sh2, ts2, true, Bs2, by unfold setAt; rfl, shs _ ho2, by unfold AT.setAt; rfl⟩
      | cons i r =>
        obtain ⟨t', e1⟩ := setAt_nd sq tq i r (.nd sh2 ts2)
        obtain ⟨B', e2⟩ := aT_setAt_nd mq aq Bq i r (.nd true a Bs2)
        exact ⟨sq, t', mq, B', by rw [e1], h2, by rw [e2]⟩
    · by_cases p2 : p <+: q
      · obtain ⟨r, rfl⟩ := p2
        cases r with
        | nil => exact absurd (by simp) p1
        | cons i r =>
          cases ev with
          | true =>
            have z := kl _ (by rw [hev rfl]; exact List.mem_cons_self)
            rw [kills_behind] at z
            cases z
          | false =>
            rw [sub_app hs] at h1
            rw [at_app hB] at h3
            rw [sub_app (sub_setAt_self hs), at_app (at_setAt_self hB)]
            cases e1 : ts[i]? with
            | none => simp [sub, e1] at h1
            | some u =>
              cases e2 : Bs[i]? with
              | none => simp [AT.at, e2] at h3
              | some B =>
                simp only [sub, e1] at h1
                simp only [AT.at, e2] at h3
                have nm : noMut u = false := by
                  cases z : noMut u with
                  | false => rfl
                  | true =>
                    have z2 := sub_flat z h1
                    cases sq <;> first | exact absurd rfl h2 | simp [noMut] at z2
                obtain ⟨g1, g2⟩ := keep rfl i u B e1 e2 nm
                exact ⟨sq, tq, mq, Bq, by simp only [sub, g1]; exact h1, h2, by simp only [AT.at, g2]; exact h3⟩
      · exact ⟨sq, tq, mq, Bq, by rw [sub_setAt_away p1 p2]; exact h1, h2, by rw [at_setAt_away p1 p2]; exact h3⟩
  -- the children, under H2
  have child : ∀ (t : T) (B : AT), ((∃ j : Nat, ts[j]? = some t ∧ Bs[j]? = some B) ∨ (t, B) ∈ D) → Rp ca K H2 (PoS S As) t B := fun t B h => by
    rcases h with ⟨j, h1, h2⟩ | h
    · obtain ⟨B', g1, g2⟩ := hN.2.2.2.get h1
      rw [h2] at g1
      cases g1
      exact Rp.off f t B (by have := cnts_get a h2; omega) g2
    · exact Rp.off f t B (by have := cnts_mem a (List.mem_map_of_mem (f := (·.2)) h); simp only at this; omega) (I.es (t, B) (List.mem_append_left _ h))
  have node : Rp ca K H2 (PoS S As) (.nd sh2 ts2) (.nd true a Bs2) := by
    unfold Rp
    exact ⟨ho2.symm, hH, (fun e => by rw [e] at ho2; cases ho2), Rps.of_get hl fun i t B h1 h2 => child t B (from_ i t B h1 h2)⟩
  have upd := Rp.upd f hR (by omega) hs hB (by rw [ca1]; omega) (A2 := .nd true a Bs2) rfl node
  refine ⟨?_, fun q hq => ?_, fun b => ?_⟩
  · rw [List.map_set]
    refine Rps.po lift _ _ ?_
    refine Rps.of_get (by rw [List.length_set, List.length_set]; exact I.cs.length) fun i t B h1 h2 => ?_
    by_cases hi : c = i
    · subst hi
      rw [List.getElem?_set_self (by have := (List.getElem?_eq_some_iff.mp hx).1; simpa using this)] at h1
      rw [List.getElem?_set_self (List.getElem?_eq_some_iff.mp hA).1] at h2
      cases h1
      cases h2
      exact upd
    · rw [List.getElem?_set_ne hi] at h1 h2
      obtain ⟨B', g1, g2⟩ := I.cs.get h1
      rw [h2] at g1
      cases g1
      have q1 := cnts_set a As c A (.lf .non) hA
      have q0 : cnt a (.lf .non) = 0 := rfl
      have q2 : cnt a B ≤ cnts a (As.set c (.lf .non)) := cnts_get a (i := i) (by rw [List.getElem?_set_ne hi]; exact h2)
      exact Rp.off f t B (by omega) g2
  · refine Rp.po lift _ _ ?_
    rcases List.mem_append.mp hq with hq | hq
    · exact child q.1 q.2 (res q hq)
    · exact Rp.off f _ _ (by have := cnts_mem a (List.mem_map_of_mem (f := (·.2)) hq); omega) (I.es q (List.mem_append_right _ hq))
  · have k := I.one b
    have n := num b
    have s1 := cnts_set b As c A (A.setAt p (.nd true a Bs2)) hA
    have s2 := cnt_setAt b p A (.nd true a Bs) (.nd true a Bs2) hB
    simp only [List.map_append, cnts_append] at k ⊢
    simp only [cnt] at s2
    omega
/-- the subtree at a pointer is taken out of its cell -/
theorem Sim.takeOut {c : Nat} {p : List Nat} {x : Cell} {A B : AT} {t : T} (I : Sim ca K H S As E) (hx : S[c]? = some x) (hA : As[c]? = some A) (hs : sub x.val p = some t) (hB : A.at p = some B) :
    Sim ca K H (S.set c ⟨x.log ++ [(p, true)], setAt x.val p .hole⟩) (As.set c (A.setAt p (.lf B.val))) ((t, B) :: E) := by
  obtain ⟨A0, hA0, hR⟩ := I.cell hx
  rw [hA] at hA0
  cases hA0
  obtain ⟨B0, hB0, hN⟩ := Rp.sub hR hs
  rw [hB] at hB0
  cases hB0
  have lift : ∀ c' n q v, PoS S As c' n q v → PoS (S.set c ⟨x.log ++ [(p, true)], setAt x.val p .hole⟩) (As.set c (A.setAt p (.lf B.val))) c' n q v := PoS.set hx hA fun q sq tq mq aq Bq kl h1 h2 h3 => by
    by_cases p2 : p <+: q
    · obtain ⟨r, rfl⟩ := p2
      have z := kl _ List.mem_cons_self
      rw [kills_incl] at z
      cases z
    · by_cases p1 : q <+: p
      · obtain ⟨r, rfl⟩ := p1
        rw [sub_app h1] at hs
        rw [at_app h3] at hB
        rw [sub_setAt_pre h1 (by rw [hs]; simp), at_setAt_pre h3]
        cases r with
        | nil => exact absurd (by simp) p2
        | cons i r =>
          obtain ⟨t', e1⟩ := setAt_nd sq tq i r .hole
          obtain ⟨B', e2⟩ := aT_setAt_nd mq aq Bq i r (.lf B.val)
          exact ⟨sq, t', mq, B', by rw [e1], h2, by rw [e2]⟩
      · exact ⟨sq, tq, mq, Bq, by rw [sub_setAt_away p1 p2]; exact h1, h2, by rw [at_setAt_away p1 p2]; exact h3⟩
  have hole : ∀ {p : List Nat} {t u : T} {A B : AT}, Rp ca K H (PoS S As) t A → sub t p = some u → A.at p = some B → Rp ca K H (PoS S As) (setAt t p .hole) (A.setAt p (.lf B.val)) := by
    intro p
    induction p with
    | nil =>
      intro t u A B h e1 e2
      have e3 : setAt t [] .hole = .hole := by unfold setAt; rfl
      have e4 : A.setAt [] (.lf B.val) = .lf B.val := by unfold AT.setAt; rfl
      rw [e3, e4]
      simp [Rp]
    | cons i p ih =>
      intro t u A B h e1 e2
      cases t with
      | nd sh ts =>
        cases A with
        | lf v => simp [Rp] at h
        | nd m a As' =>
          have h0 := h
          simp only [Rp] at h
          cases q : ts[i]? with
          | none => simp [sub, q] at e1
          | some w =>
            simp only [sub, q] at e1
            obtain ⟨C, g1, g2⟩ := h.2.2.2.get q
            simp only [AT.at, g1] at e2
            simp only [setAt, q, AT.setAt, g1, Rp]
            have hv := val_setAt p C B (.lf B.val) e2 rfl
            have em : (As'.set i (C.setAt p (.lf B.val))).map AT.val = As'.map AT.val := by
              rw [List.map_set, hv]
              refine List.ext_getElem? fun j => ?_
              by_cases hj : i = j
              · subst hj
                have hlt : i < As'.length := (List.getElem?_eq_some_iff.mp g1).1
                rw [List.getElem?_set_self (by simpa using hlt), List.getElem?_map, g1]; rfl
              · rw [List.getElem?_set_ne hj]
            refine ⟨h.1, by rw [em]; exact h.2.1, fun es => ?_, Rps.set i h.2.2.2 (ih g2 e1 e2)⟩
            have fl := h.2.2.1 es
            have fw := sub_flat.flats_get fl q
            have : ∀ {p : List Nat} {t : T}, noMut t = true → noMut (setAt t p .hole) = true := by
              intro p
              induction p with
              | nil => intro t _; have e3 : setAt t [] .hole = .hole := by unfold setAt; rfl
                       rw [e3]; simp [noMut]
              | cons i p ih2 =>
                intro t ht
                cases t with
                | nd s us =>
                  cases s with
                  | tup =>
                    cases qq : us[i]? with
                    | none => simp only [setAt, qq]; exact ht
                    | some w2 =>
                      simp only [setAt, qq, noMut]
                      simp only [noMut] at ht
                      exact flats_set ht (ih2 (sub_flat.flats_get ht qq))
                  | _ => simp [noMut] at ht
                | _ => simpa [setAt] using ht
            exact flats_set fl (this fw)
      | _ => simp [sub] at e1
  refine ⟨?_, fun q hq => ?_, fun b => ?_⟩
  · rw [List.map_set]
    exact Rps.po lift _ _ (Rps.set c I.cs (hole hR hs hB))
  · refine Rp.po lift _ _ ?_
    rcases List.mem_cons.mp hq with e | hq
    · rw [e]; exact hN
    · exact I.es q hq
  · have k := I.one b
    have s1 := cnts_set b As c A (A.setAt p (.lf B.val)) hA
    have s2 := cnt_setAt b p A B (.lf B.val) hB
    have z : cnt b (.lf B.val) = 0 := rfl
    simp only [List.map_cons, cnts]
    omega
where flats_set : ∀ {ts : List T} {i : Nat} {u : T}, noMut.noMuts ts = true → noMut u = true → noMut.noMuts (ts.set i u) = true
  | [], _, _, h, _ => by simpa using h
  | t :: ts, 0, u, h, hu => by
    simp only [noMut.noMuts, Bool.and_eq_true] at h
    simp only [List.set_cons_zero, noMut.noMuts, Bool.and_eq_true]
    exact ⟨hu, h.2⟩
  | t :: ts, i + 1, u, h, hu => by
    simp only [noMut.noMuts, Bool.and_eq_true] at h
    simp only [List.set_cons_succ, noMut.noMuts, Bool.and_eq_true]
    exact ⟨h.1, flats_set h.2 hu⟩
/-! ### a frame comes and goes -/
theorem PoS.app {S2 : List Cell} {As2 : List AT} (hl : S.length = As.length) {c n : Nat} {p : List Nat} {v : V} (h : PoS S As c n p v) : PoS (S ++ S2) (As ++ As2) c n p v := by
  obtain ⟨x, A, h1, h2, r⟩ := h
  exact ⟨x, A, by rw [List.getElem?_append_left (List.getElem?_eq_some_iff.mp h1).1]; exact h1, by rw [List.getElem?_append_left (List.getElem?_eq_some_iff.mp h2).1]; exact h2, r⟩
theorem PoS.less {S2 : List Cell} {As2 : List AT} (hl : S.length = As.length) {c n : Nat} {p : List Nat} {v : V} (hc : c < S.length) (h : PoS (S ++ S2) (As ++ As2) c n p v) : PoS S As c n p v := by
  obtain ⟨x, A, h1, h2, r⟩ := h
  rw [List.getElem?_append_left hc] at h1
  rw [List.getElem?_append_left (by omega)] at h2
  exact ⟨x, A, h1, h2, r⟩
theorem zero_rep {b : Addr} : ∀ k : Nat, cnts b (List.replicate k (AT.lf .non)) = 0
  | 0 => rfl
  | k + 1 => by simp only [List.replicate_succ, cnts, cnt, zero_rep k]
theorem rps_rep : ∀ k : Nat, Rps ca K H po (List.replicate k T.hole) (List.replicate k (AT.lf .non))
  | 0 => by simp [Rps]
  | k + 1 => by simp only [List.replicate_succ, Rps]; exact ⟨by simp [Rp], rps_rep k⟩
/-- items in flight become the first variables of a new frame -/
theorem Sim.enter {D : List (T × AT)} (k : Nat) (I : Sim ca K H S As (D ++ E)) :
    Sim ca K H (S ++ (D.map fun q => ⟨[], q.1⟩) ++ List.replicate k ⟨[], .hole⟩) (As ++ D.map (·.2) ++ List.replicate k (.lf .non)) E := by
  have hl := I.len
  have lift : ∀ c n p v, PoS S As c n p v → PoS (S ++ (D.map fun q => (⟨[], q.1⟩ : Cell)) ++ List.replicate k ⟨[], .hole⟩) (As ++ D.map (·.2) ++ List.replicate k (.lf .non)) c n p v := fun c n p v h => by
    rw [List.append_assoc, List.append_assoc]
    exact PoS.app hl h
  refine ⟨?_, fun q hq => Rp.po lift _ _ (I.es q (List.mem_append_right _ hq)), fun b => ?_⟩
  · rw [List.map_append, List.map_append]
    refine Rps.po lift _ _ (Rps.append (Rps.append I.cs ?_) ?_)
    · rw [List.map_map]
      exact rps_items (E := D) fun r hr => I.es r (List.mem_append_left _ hr)
    · rw [List.map_replicate]
      exact rps_rep k
  · have q := I.one b
    have z : cnts b (List.replicate k (AT.lf .non)) = 0 := zero_rep k
    simp only [List.map_append, cnts_append] at q ⊢
    omega
mutual
theorem Rp.below {n : Nat} {po po' : Po} (f : ∀ c m p v, c < n → po c m p v → po' c m p v) : ∀ (t : T) (A : AT), below n t = true → Rp ca K H po t A → Rp ca K H po' t A
  | .hole, A, _, h => by cases A <;> simpa [Rp] using h
  | .non, A, _, h => by cases A <;> simpa [Rp] using h
  | .bl b, A, _, h => by cases A <;> simpa [Rp] using h
  | .int i, A, _, h => by cases A <;> simpa [Rp] using h
  | .str s, A, _, h => by cases A <;> simpa [Rp] using h
  | .exc c, A, _, h => by cases A <;> simp [Rp] at h
  | .ptr c m p, A, z, h => by
    cases A with
    | lf v => simp only [Rp] at h ⊢; exact f _ _ _ _ (by simpa [Tk.below] using z) h
    | nd m a As => simp [Rp] at h
  | .nd sh ts, A, z, h => by
    cases A with
    | lf v => simp [Rp] at h
    | nd m a As =>
      simp only [Rp] at h ⊢
      simp only [Tk.below] at z
      exact ⟨h.1, h.2.1, h.2.2.1, Rps.below f ts As z h.2.2.2⟩
theorem Rps.below {n : Nat} {po po' : Po} (f : ∀ c m p v, c < n → po c m p v → po' c m p v) : ∀ (ts : List T) (As : List AT), below.belows n ts = true → Rps ca K H po ts As → Rps ca K H po' ts As
  | [], As, _, h => by cases As <;> simpa [Rps] using h
  | t :: ts, [], _, h => by simp [Rps] at h
  | t :: ts, A :: As, z, h => by
    simp only [Rps] at h ⊢
    simp only [Tk.below.belows, Bool.and_eq_true] at z
    exact ⟨Rp.below f t A z.1 h.1, Rps.below f ts As z.2 h.2⟩
end
/-- the frame goes: nothing points into it -/
theorem Sim.leave {S2 : List Cell} {As2 : List AT} (I : Sim ca K H (S ++ S2) (As ++ As2) E) (hl : S.length = As.length) (bS : ∀ x ∈ S, below S.length x.val = true) (bE : ∀ q ∈ E, below S.length q.1 = true) : Sim ca K H S As E := by
  have less : ∀ c m p v, c < S.length → PoS (S ++ S2) (As ++ As2) c m p v → PoS S As c m p v := fun c m p v hc h => PoS.less hl hc h
  refine ⟨?_, fun q hq => Rp.below less _ _ (bE q hq) (I.es q hq), fun b => ?_⟩
  · refine Rps.below less _ _ ?_ ?_
    · have : ∀ l : List Cell, (∀ x ∈ l, below S.length x.val = true) → below.belows S.length (l.map (·.val)) = true := by
        intro l
        induction l with
        | nil => intro _; rfl
        | cons x l ih => intro h; simp only [List.map_cons, Tk.below.belows, Bool.and_eq_true]; exact ⟨h x List.mem_cons_self, ih fun y hy => h y (List.mem_cons_of_mem _ hy)⟩
      exact this S bS
    · refine Rps.of_get (by rw [List.length_map]; exact hl) fun i t B h1 h2 => ?_
      have hi : i < S.length := by have := (List.getElem?_eq_some_iff.mp h1).1; simpa using this
      obtain ⟨B', g1, g2⟩ := I.cs.get (i := i) (t := t) (by rw [List.map_append, List.getElem?_append_left (by simpa using hi)]; exact h1)
      rw [List.getElem?_append_left (by omega), h2] at g1
      cases g1
      exact g2
  · have := I.one b
    rw [cnts_append] at this
    omega
end
end Tk
end
section
/-! Tk4: readings by runs of the small language. -/
namespace Tk
open PySem L2
/-- what is known of a frame: how many slots are the text's own names; the object that its first slot stands for through the whole run (an __init__) -/
structure Fr where
  n : Nat
  slf : Option V
section
variable (ca : Str → Addr) (K : PySem.W.Frag) (nv : Fr)
structure Rel (σ : L2.St) (H : Hp) (s : St) (As Fs : List AT) (E : List (T × AT)) : Prop where
  sim : Sim ca K H (s.S ++ s.F) (As ++ Fs) E
  la : s.S.length = As.length
  mt : ∀ (i : Nat) (x : Cell) (A : AT), i < nv.n → s.F[i]? = some x → Fs[i]? = some A → x.val ≠ .hole → σ[i]? = some (some A.val)
  sv : ∀ v, nv.slf = some v → σ[0]? = some (some v)
  ln : nv.n ≤ σ.length
  bS : ∀ x ∈ s.S, below s.S.length x.val = true
  bF : ∀ x ∈ s.F, below (s.S.length + s.F.length) x.val = true
  bE : ∀ q ∈ E, below (s.S.length + s.F.length) q.1 = true
/-- what an elder's cells are behind a run: whose trees are still there stand for the same values, and no pointer into younger cells came -/
structure Kp (s s' : St) (As As' : List AT) : Prop where
  lS : s'.S.length = s.S.length
  lF : s'.F.length = s.F.length
  lA : As'.length = As.length
  at_ : ∀ (i : Nat) (x' : Cell) (A' : AT), s'.S[i]? = some x' → As'[i]? = some A' → x'.val ≠ .hole → ∃ x A, s.S[i]? = some x ∧ As[i]? = some A ∧ x.val ≠ .hole ∧ A'.val = A.val
  bel : ∀ (i : Nat) (x' : Cell), s'.S[i]? = some x' → ∃ x, s.S[i]? = some x ∧ ∀ m, below m x.val = true → below m x'.val = true
def fl (pl : Bool) : Option Addr := if pl then none else some 0
/-- what is wanted of a run's end -/
def Post {α : Type} (D : α → List T) (W : WX) (σ : L2.St) (s : St) (As Fs : List AT) (E : List (T × AT)) (Φ : α → List AT → Hp → St → List AT → List AT → Prop) : Res St α → Prop
  | .ok a s' => ∀ H' As' Fs' Ds, Ds.length = (D a).length → Rel ca K nv σ H' s' As' Fs' ((D a).zip Ds ++ E) → Kp s s' As As' → Φ a Ds H' s' As' Fs'
  | .exc c pl s' => ∀ H' As' Fs', Rel ca K nv σ H' s' As' Fs' E → Kp s s' As As' → W (.ref (ca c)) (fl pl) σ H'
  | .stuck _ => False
def RdE (W : WX) (f : M T) : TE := fun σ H Q => ∃ s As Fs E, Rel ca K nv σ H s As Fs E ∧ Post ca K nv (fun v => [v]) W σ s As Fs E (fun _ Ds H' _ _ _ => ∀ A, Ds = [A] → Q A.val H') (f s)
def RdA (W : WX) (f : M (List T)) : TA := fun σ H Q => ∃ s As Fs E, Rel ca K nv σ H s As Fs E ∧ Post ca K nv id W σ s As Fs E (fun _ Ds H' _ _ _ => Q (Ds.map AT.val) H') (f s)
def RdT (W : WX) (f : M Bool) : TT := fun σ H Q => ∃ s As Fs E, Rel ca K nv σ H s As Fs E ∧ Post ca K nv (fun _ => []) W σ s As Fs E (fun b _ H' _ _ _ => Q b H') (f s)
end
section
variable {ca : Str → Addr} {K : PySem.W.Frag} {nv : Fr} {σ : L2.St} {H : Hp} {s s1 s2 : St} {As Fs As1 Fs1 As2 Fs2 : List AT} {E : List (T × AT)} {W : WX}
theorem Kp.refl : Kp s s As As := ⟨rfl, rfl, rfl, fun i x A h1 h2 h3 => ⟨x, A, h1, h2, h3, rfl⟩, fun i x h => ⟨x, h, fun _ h => h⟩⟩
theorem Kp.trans (a : Kp s s1 As As1) (b : Kp s1 s2 As1 As2) : Kp s s2 As As2 :=
  ⟨b.lS.trans a.lS, b.lF.trans a.lF, b.lA.trans a.lA, fun i x A h1 h2 h3 => by
    obtain ⟨x1, A1, g1, g2, g3, g4⟩ := b.at_ i x A h1 h2 h3
    obtain ⟨x0, A0, k1, k2, k3, k4⟩ := a.at_ i x1 A1 g1 g2 g3
    exact ⟨x0, A0, k1, k2, k3, g4.trans k4⟩, fun i x h => by
    obtain ⟨x1, g1, g2⟩ := b.bel i x h
    obtain ⟨x0, k1, k2⟩ := a.bel i x1 g1
    exact ⟨x0, k1, fun m z => g2 m (k2 m z)⟩⟩
theorem Rel.lf (R : Rel ca K nv σ H s As Fs E) : s.F.length = Fs.length := by
  have h := R.sim.len
  have l := R.la
  simp only [List.length_append] at h
  omega
theorem Rel.to {H' : Hp} {E' : List (T × AT)} (R : Rel ca K nv σ H s As Fs E) (J : Sim ca K H' (s.S ++ s.F) (As ++ Fs) E') (b : ∀ q ∈ E', below (s.S.length + s.F.length) q.1 = true) : Rel ca K nv σ H' s As Fs E' :=
  ⟨J, R.la, R.mt, R.sv, R.ln, R.bS, R.bF, b⟩
theorem Rel.drop {q : T × AT} (R : Rel ca K nv σ H s As Fs (q :: E)) : Rel ca K nv σ H s As Fs E := R.to R.sim.drop fun r hr => R.bE r (List.mem_cons_of_mem _ hr)
theorem Rel.drops {D : List (T × AT)} (R : Rel ca K nv σ H s As Fs (D ++ E)) : Rel ca K nv σ H s As Fs E := R.to R.sim.drops fun r hr => R.bE r (List.mem_append_right _ hr)
theorem Rel.perm {E' : List (T × AT)} (R : Rel ca K nv σ H s As Fs E) (p : E.Perm E') : Rel ca K nv σ H s As Fs E' := R.to (R.sim.perm p) fun r hr => R.bE r (p.mem_iff.mpr hr)
/-- a value of no object comes -/
theorem Rel.push {t : T} {A : AT} (R : Rel ca K nv σ H s As Fs E) (h : Rp ca K H (PoS (s.S ++ s.F) (As ++ Fs)) t A) (z : ∀ b, cnt b A = 0) (b : below (s.S.length + s.F.length) t = true) : Rel ca K nv σ H s As Fs ((t, A) :: E) :=
  R.to (R.sim.push h z) fun r hr => by
    rcases List.mem_cons.mp hr with e | hr
    · rw [e]; exact b
    · exact R.bE r hr
/-- a new object from items in flight -/
theorem Rel.alloc {D : List (T × AT)} {a : Addr} {o : HO} {sh : Sh} (R : Rel ca K nv σ H s As Fs (D ++ E)) (h : H a = none) (ns : sh ≠ .lst true) (ho : HoOk ca K (L2.upd H a o) sh a ((D.map (·.2)).map AT.val)) :
    Rel ca K nv σ (L2.upd H a o) s As Fs ((.nd sh (D.map (·.1)), .nd (own sh) a (D.map (·.2))) :: E) :=
  R.to (R.sim.alloc h ns ho) fun r hr => by
    rcases List.mem_cons.mp hr with e | hr
    · rw [e]
      have : ∀ l : List (T × AT), (∀ q ∈ l, below (s.S.length + s.F.length) q.1 = true) → below.belows (s.S.length + s.F.length) (l.map (·.1)) = true := by
        intro l
        induction l with
        | nil => intro _; rfl
        | cons x l ih => intro h; simp only [List.map_cons, Tk.below.belows, Bool.and_eq_true]; exact ⟨h x List.mem_cons_self, ih fun y hy => h y (List.mem_cons_of_mem _ hy)⟩
      simp only [below]
      exact this D fun q hq => R.bE q (List.mem_append_left _ hq)
    · exact R.bE r (List.mem_append_right _ hr)
/-- two values one behind the other -/
theorem rd_two {β : Type} {D : β → List T} {Φ : β → List AT → Hp → St → List AT → List AT → Prop} {fa fb : M T} {k : T → T → M β} {Z : V → V → Hp → Prop} (R : Rel ca K nv σ H s As Fs E)
    (h : Post ca K nv D W σ s As Fs E Φ ((do let x ← fa; let y ← fb; k x y : M β) s))
    (fin : ∀ x y s2 H2 As2 Fs2 A1 A2, Rel ca K nv σ H2 s2 As2 Fs2 ((y, A2) :: (x, A1) :: E) → Kp s s2 As As2 → Post ca K nv D W σ s As Fs E Φ (k x y s2) → Z A1.val A2.val H2) :
    RdE ca K nv W fa σ H (fun x H1 => RdE ca K nv W fb σ H1 (fun y H2 => Z x y H2)) := by
  have h' : Post ca K nv D W σ s As Fs E Φ (M.bind fa (fun x => M.bind fb (fun y => k x y)) s) := h
  refine ⟨s, As, Fs, E, R, ?_⟩
  cases e : fa s with
  | ok x s1 =>
    intro H1 As1 Fs1 Ds hl R1 K1 A1 eD
    subst eD
    have R1' : Rel ca K nv σ H1 s1 As1 Fs1 ((x, A1) :: E) := R1
    refine ⟨s1, As1, Fs1, (x, A1) :: E, R1', ?_⟩
    have h1 : Post ca K nv D W σ s As Fs E Φ (M.bind fb (fun y => k x y) s1) := by
      unfold M.bind at h'
      rw [e] at h'
      exact h'
    cases e2 : fb s1 with
    | ok y s2 =>
      intro H2 As2 Fs2 Ds2 hl2 R2 K2 A2 eD2
      subst eD2
      have h2 : Post ca K nv D W σ s As Fs E Φ (k x y s2) := by
        unfold M.bind at h1
        rw [e2] at h1
        exact h1
      exact fin x y s2 H2 As2 Fs2 A1 A2 R2 (K1.trans K2) h2
    | exc c pl s2 =>
      intro H2 As2 Fs2 R2 K2
      have h2 : Post ca K nv D W σ s As Fs E Φ (.exc c pl s2) := by
        unfold M.bind at h1
        rw [e2] at h1
        exact h1
      exact h2 H2 As2 Fs2 R2.drop (K1.trans K2)
    | stuck w =>
      unfold M.bind at h1
      rw [e2] at h1
      exact h1
  | exc c pl s1 =>
    intro H1 As1 Fs1 R1 K1
    have h1 : Post ca K nv D W σ s As Fs E Φ (.exc c pl s1) := by
      unfold M.bind at h'
      rw [e] at h'
      exact h'
    exact h1 H1 As1 Fs1 R1 K1
  | stuck w =>
    unfold M.bind at h'
    rw [e] at h'
    exact h'
theorem rd_one {β : Type} {D : β → List T} {Φ : β → List AT → Hp → St → List AT → List AT → Prop} {fa : M T} {k : T → M β} {Z : V → Hp → Prop} (R : Rel ca K nv σ H s As Fs E)
    (h : Post ca K nv D W σ s As Fs E Φ ((do let x ← fa; k x : M β) s))
    (fin : ∀ x s2 H2 As2 Fs2 A1, Rel ca K nv σ H2 s2 As2 Fs2 ((x, A1) :: E) → Kp s s2 As As2 → Post ca K nv D W σ s As Fs E Φ (k x s2) → Z A1.val H2) :
    RdE ca K nv W fa σ H (fun x H1 => Z x H1) := by
  have h' : Post ca K nv D W σ s As Fs E Φ (M.bind fa (fun x => k x) s) := h
  refine ⟨s, As, Fs, E, R, ?_⟩
  cases e : fa s with
  | ok x s1 =>
    intro H1 As1 Fs1 Ds hl R1 K1 A1 eD
    subst eD
    have h1 : Post ca K nv D W σ s As Fs E Φ (k x s1) := by
      unfold M.bind at h'
      rw [e] at h'
      exact h'
    exact fin x s1 H1 As1 Fs1 A1 R1 K1 h1
  | exc c pl s1 =>
    intro H1 As1 Fs1 R1 K1
    have h1 : Post ca K nv D W σ s As Fs E Φ (.exc c pl s1) := by
      unfold M.bind at h'
      rw [e] at h'
      exact h'
    exact h1 H1 As1 Fs1 R1 K1
  | stuck w =>
    unfold M.bind at h'
    rw [e] at h'
    exact h'
theorem rd_args {β : Type} {D : β → List T} {Φ : β → List AT → Hp → St → List AT → List AT → Prop} {fa : M (List T)} {k : List T → M β} {Z : List V → Hp → Prop} (R : Rel ca K nv σ H s As Fs E)
    (h : Post ca K nv D W σ s As Fs E Φ ((do let x ← fa; k x : M β) s))
    (fin : ∀ (xs : List (T × AT)) s2 H2 As2 Fs2, Rel ca K nv σ H2 s2 As2 Fs2 (xs ++ E) → Kp s s2 As As2 → Post ca K nv D W σ s As Fs E Φ (k (xs.map (·.1)) s2) → Z ((xs.map (·.2)).map AT.val) H2) :
    RdA ca K nv W fa σ H (fun x H1 => Z x H1) := by
  have h' : Post ca K nv D W σ s As Fs E Φ (M.bind fa (fun x => k x) s) := h
  refine ⟨s, As, Fs, E, R, ?_⟩
  cases e : fa s with
  | ok x s1 =>
    intro H1 As1 Fs1 Ds hl R1 K1
    have h1 : Post ca K nv D W σ s As Fs E Φ (k x s1) := by
      unfold M.bind at h'
      rw [e] at h'
      exact h'
    have e1 : (x.zip Ds).map (·.1) = x := by
      rw [List.map_fst_zip]
      exact Nat.le_of_eq hl.symm
    have e2 : (x.zip Ds).map (·.2) = Ds := by
      rw [List.map_snd_zip]
      exact Nat.le_of_eq hl
    have q := fin (x.zip Ds) s1 H1 As1 Fs1 R1 K1 (by rw [e1]; exact h1)
    rw [e2] at q
    exact q
  | exc c pl s1 =>
    intro H1 As1 Fs1 R1 K1
    have h1 : Post ca K nv D W σ s As Fs E Φ (.exc c pl s1) := by
      unfold M.bind at h'
      rw [e] at h'
      exact h'
    exact h1 H1 As1 Fs1 R1 K1
  | stuck w =>
    unfold M.bind at h'
    rw [e] at h'
    exact h'
theorem rd_test {β : Type} {D : β → List T} {Φ : β → List AT → Hp → St → List AT → List AT → Prop} {fa : M Bool} {k : Bool → M β} {Z : Bool → Hp → Prop} (R : Rel ca K nv σ H s As Fs E)
    (h : Post ca K nv D W σ s As Fs E Φ ((do let x ← fa; k x : M β) s))
    (fin : ∀ b s2 H2 As2 Fs2, Rel ca K nv σ H2 s2 As2 Fs2 E → Kp s s2 As As2 → Post ca K nv D W σ s As Fs E Φ (k b s2) → Z b H2) :
    RdT ca K nv W fa σ H (fun x H1 => Z x H1) := by
  have h' : Post ca K nv D W σ s As Fs E Φ (M.bind fa (fun x => k x) s) := h
  refine ⟨s, As, Fs, E, R, ?_⟩
  cases e : fa s with
  | ok x s1 =>
    intro H1 As1 Fs1 Ds hl R1 K1
    have h1 : Post ca K nv D W σ s As Fs E Φ (k x s1) := by
      unfold M.bind at h'
      rw [e] at h'
      exact h'
    have e0 : Ds = [] := List.length_eq_zero_iff.mp hl
    subst e0
    exact fin x s1 H1 As1 Fs1 R1 K1 h1
  | exc c pl s1 =>
    intro H1 As1 Fs1 R1 K1
    have h1 : Post ca K nv D W σ s As Fs E Φ (.exc c pl s1) := by
      unfold M.bind at h'
      rw [e] at h'
      exact h'
    exact h1 H1 As1 Fs1 R1 K1
  | stuck w =>
    unfold M.bind at h'
    rw [e] at h'
    exact h'
/-- the end of a value's run -/
theorem Post.val {Q : VK} {v : T} {A : AT} {H2 : Hp} (h : Post ca K nv (fun v => [v]) W σ s As Fs E (fun _ Ds H' _ _ _ => ∀ A, Ds = [A] → Q A.val H') (.ok v s2)) (R : Rel ca K nv σ H2 s2 As2 Fs2 ((v, A) :: E)) (k : Kp s s2 As As2) : Q A.val H2 :=
  h H2 As2 Fs2 [A] rfl R k A rfl
end
end Tk
end
section
/-! Tk5: expressions. -/
namespace Tk
open PySem L2
section
variable {ca : Str → Addr} {K : PySem.W.Frag} {nv : Fr} {σ : L2.St} {H : Hp} {po : Po} {s s1 s2 : St} {As Fs As1 Fs1 As2 Fs2 : List AT} {E : List (T × AT)} {W : WX}
/-! ### what a value is -/
theorem rp_non {A : AT} (h : Rp ca K H po .non A) : A = .lf .non := by cases A <;> simp [Rp] at h; rw [h]
theorem rp_bl {A : AT} {b : Bool} (h : Rp ca K H po (.bl b) A) : A = .lf (.bl b) := by cases A <;> simp [Rp] at h; rw [h]
theorem rp_int {A : AT} {i : Int} (h : Rp ca K H po (.int i) A) : A = .lf (.int i) := by cases A <;> simp [Rp] at h; rw [h]
theorem rp_str {A : AT} {z : Str} (h : Rp ca K H po (.str z) A) : A = .lf (.str z) := by cases A <;> simp [Rp] at h; rw [h]
theorem rp_ptr {A : AT} {c n : Nat} {p : List Nat} (h : Rp ca K H po (.ptr c n p) A) : ∃ v, A = .lf v ∧ po c n p v := by
  cases A with
  | lf v => exact ⟨v, rfl, by simpa [Rp] using h⟩
  | nd m a As => simp [Rp] at h
theorem rp_nd {A : AT} {sh : Sh} {ts : List T} (h : Rp ca K H po (.nd sh ts) A) : ∃ a Bs, A = .nd (own sh) a Bs ∧ HoOk ca K H sh a (Bs.map AT.val) ∧ (sh = .lst true → noMut.noMuts ts = true) ∧ Rps ca K H po ts Bs := by
  cases A with
  | lf v => simp [Rp] at h
  | nd m a As =>
    simp only [Rp] at h
    exact ⟨a, As, by rw [h.1], h.2⟩
theorem Rel.get {t : T} {A : AT} (R : Rel ca K nv σ H s As Fs E) (h : (t, A) ∈ E) : Rp ca K H (PoS (s.S ++ s.F) (As ++ Fs)) t A := R.sim.es _ h
theorem Rel.head {t : T} {A : AT} (R : Rel ca K nv σ H s As Fs ((t, A) :: E)) : Rp ca K H (PoS (s.S ++ s.F) (As ++ Fs)) t A := R.get List.mem_cons_self
theorem Rel.second {t : T} {A : AT} {q : T × AT} (R : Rel ca K nv σ H s As Fs (q :: (t, A) :: E)) : Rp ca K H (PoS (s.S ++ s.F) (As ++ Fs)) t A := R.get (List.mem_cons_of_mem _ List.mem_cons_self)
/-- a plain value comes -/
theorem Rel.imm {t : T} {v : V} (R : Rel ca K nv σ H s As Fs E) (h : ∀ po, Rp ca K H po t (.lf v)) (b : ∀ n, below n t = true) : Rel ca K nv σ H s As Fs ((t, .lf v) :: E) :=
  R.push (h _) (fun _ => rfl) (b _)
theorem Rel.int (R : Rel ca K nv σ H s As Fs E) (i : Int) : Rel ca K nv σ H s As Fs ((.int i, .lf (.int i)) :: E) := R.imm (fun _ => by simp [Rp]) fun _ => rfl
theorem Rel.bl (R : Rel ca K nv σ H s As Fs E) (i : Bool) : Rel ca K nv σ H s As Fs ((.bl i, .lf (.bl i)) :: E) := R.imm (fun _ => by simp [Rp]) fun _ => rfl
theorem Rel.str (R : Rel ca K nv σ H s As Fs E) (i : Str) : Rel ca K nv σ H s As Fs ((.str i, .lf (.str i)) :: E) := R.imm (fun _ => by simp [Rp]) fun _ => rfl
theorem Rel.non (R : Rel ca K nv σ H s As Fs E) : Rel ca K nv σ H s As Fs ((.non, .lf .non) :: E) := R.imm (fun _ => by simp [Rp]) fun _ => rfl
theorem get_cell {c : Nat} {x : Cell} (h : s.get c = some x) : (s.S ++ s.F)[c]? = some x := by
  unfold St.get at h
  by_cases hc : c < s.S.length
  · rw [if_pos hc] at h
    rw [List.getElem?_append_left hc]; exact h
  · rw [if_neg hc] at h
    rw [List.getElem?_append_right (by omega)]; exact h
/-- what deref finds -/
theorem deref_of {c n : Nat} {p : List Nat} {x : Cell} {sh : Sh} {ts : List T} (h : deref c n p s = .ok (x, sh, ts) s1) : s1 = s ∧ (s.S ++ s.F)[c]? = some x ∧ s.get c = some x ∧ alive x.log n p = true ∧ sub x.val p = some (.nd sh ts) ∧ sh ≠ .tup := by
  unfold deref at h
  cases e : s.get c with
  | none => rw [e] at h; cases h
  | some y =>
    rw [e] at h
    cases e2 : alive y.log n p with
    | false => simp only [e2] at h; cases h
    | true =>
      simp only [e2] at h
      cases e3 : sub y.val p with
      | none => simp only [e3] at h; cases h
      | some t =>
        simp only [e3] at h
        cases t with
        | nd sh' ts' =>
          cases sh' with
          | tup => cases h
          | _ => cases h; exact ⟨rfl, get_cell e, rfl, e2, e3, by simp⟩
        | _ => cases h
theorem ptr_node {c n : Nat} {p : List Nat} {x : Cell} {sh : Sh} {ts : List T} {v : V} (R : Rel ca K nv σ H s As Fs E) (h : PoS (s.S ++ s.F) (As ++ Fs) c n p v) (hx : (s.S ++ s.F)[c]? = some x) (al : alive x.log n p = true) (hs : sub x.val p = some (.nd sh ts)) (nt : sh ≠ .tup) :
    ∃ A a Bs, (As ++ Fs)[c]? = some A ∧ A.at p = some (.nd (own sh) a Bs) ∧ v = .ref a ∧ Rp ca K H (PoS (s.S ++ s.F) (As ++ Fs)) (.nd sh ts) (.nd (own sh) a Bs) := by
  obtain ⟨x', A, h1, h2, h3, h4⟩ := h
  rw [hx] at h1
  cases h1
  obtain ⟨sh', ts', m, a, Bs, g1, g2, g3, g4⟩ := h4 al
  rw [hs] at g1
  cases g1
  obtain ⟨A', hA', hR⟩ := R.sim.cell hx
  rw [h2] at hA'
  cases hA'
  obtain ⟨B, hB, hN⟩ := Rp.sub hR hs
  rw [g3] at hB
  cases hB
  obtain ⟨a', Bs', e, _⟩ := rp_nd hN
  cases e
  exact ⟨A, a, Bs, h2, g3, g4, hN⟩
theorem belows_of {n : Nat} : ∀ {ts : List T}, (∀ t ∈ ts, below n t = true) → below.belows n ts = true
  | [], _ => rfl
  | t :: ts, h => by simp only [Tk.below.belows, Bool.and_eq_true]; exact ⟨h t List.mem_cons_self, belows_of fun u hu => h u (List.mem_cons_of_mem _ hu)⟩
theorem of_belows {n : Nat} : ∀ {ts : List T}, below.belows n ts = true → ∀ t ∈ ts, below n t = true
  | [], _, _, h => by simp at h
  | t :: ts, h, u, hu => by
    simp only [Tk.below.belows, Bool.and_eq_true] at h
    rcases List.mem_cons.mp hu with e | hu
    · rw [e]; exact h.1
    · exact of_belows h.2 u hu
mutual
theorem below_view {m c n : Nat} (hc : c < m) : ∀ (t : T) (p : List Nat), below m t = true → below m (view c n t p) = true
  | .nd sh ts, p, h => by
    simp only [below] at h
    cases sh with
    | tup => simp only [view, below]; exact belows_view hc ts p 0 h
    | _ => simp [view, below, hc]
  | .hole, _, h => by simpa [view] using h
  | .non, _, h => by simpa [view] using h
  | .bl _, _, h => by simpa [view] using h
  | .int _, _, h => by simpa [view] using h
  | .str _, _, h => by simpa [view] using h
  | .exc _, _, h => by simpa [view] using h
  | .ptr _ _ _, _, h => by simpa [view] using h
theorem belows_view {m c n : Nat} (hc : c < m) : ∀ (ts : List T) (p : List Nat) (i : Nat), below.belows m ts = true → below.belows m (view.views c n ts p i) = true
  | [], _, _, _ => by simp [view.views, Tk.below.belows]
  | t :: ts, p, i, h => by
    simp only [Tk.below.belows, Bool.and_eq_true] at h
    simp only [view.views, Tk.below.belows, Bool.and_eq_true]
    exact ⟨below_view hc t _ h.1, belows_view hc ts p (i + 1) h.2⟩
end
theorem below_sub {m : Nat} : ∀ {p : List Nat} {t u : T}, below m t = true → sub t p = some u → below m u = true
  | [], t, u, h, e => by
    have e1 : t = u := by unfold Tk.sub at e; exact Option.some.inj e
    rw [← e1]; exact h
  | i :: p, t, u, h, e => by
    cases t with
    | nd sh ts =>
      cases q : ts[i]? with
      | none => simp [Tk.sub, q] at e
      | some w =>
        simp only [Tk.sub, q] at e
        simp only [below] at h
        exact below_sub (of_belows h w (List.mem_of_getElem? q)) e
    | _ => simp [Tk.sub] at e
theorem Rel.below_cell (R : Rel ca K nv σ H s As Fs E) {c : Nat} {x : Cell} (h : (s.S ++ s.F)[c]? = some x) : below (s.S.length + s.F.length) x.val = true := by
  rcases List.mem_append.mp (List.mem_of_getElem? h) with q | q
  · have z := R.bS x q
    exact below_mono (Nat.le_add_right _ _) _ z
  · exact R.bF x q
where below_mono {m n : Nat} (h : m ≤ n) : ∀ (t : T), below m t = true → below n t = true := fun t => by
        intro z
        exact (below_mono' h).1 t z
      below_mono' {m n : Nat} (h : m ≤ n) : (∀ t : T, below m t = true → below n t = true) ∧ True := ⟨fun t => mono h t, trivial⟩
      mono {m n : Nat} (h : m ≤ n) : ∀ t : T, below m t = true → below n t = true
        | .nd sh ts => fun z => by simp only [below] at z ⊢; exact monos h ts z
        | .ptr c _ _ => fun z => by simp only [below, decide_eq_true_eq] at z ⊢; omega
        | .hole => fun z => rfl
        | .non => fun z => rfl
        | .bl _ => fun z => rfl
        | .int _ => fun z => rfl
        | .str _ => fun z => rfl
        | .exc _ => fun z => rfl
      monos {m n : Nat} (h : m ≤ n) : ∀ ts : List T, below.belows m ts = true → below.belows n ts = true
        | [] => fun _ => rfl
        | t :: ts => fun z => by
          simp only [Tk.below.belows, Bool.and_eq_true] at z ⊢
          exact ⟨mono h t z.1, monos h ts z.2⟩
theorem mem_zip_fst {α β : Type} {xs : List α} {ys : List β} (h : xs.length = ys.length) : (xs.zip ys).map (·.1) = xs := by rw [List.map_fst_zip]; exact Nat.le_of_eq h
theorem mem_zip_snd {α β : Type} {xs : List α} {ys : List β} (h : xs.length = ys.length) : (xs.zip ys).map (·.2) = ys := by rw [List.map_snd_zip]; exact Nat.le_of_eq h.symm
theorem rps_zip {ts : List T} {Bs : List AT} (h : Rps ca K H po ts Bs) : ∀ q ∈ ts.zip Bs, Rp ca K H po q.1 q.2 := fun q hq => by
  obtain ⟨i, hi⟩ := List.getElem?_of_mem hq
  rw [List.getElem?_zip_eq_some] at hi
  obtain ⟨B, h1, h2⟩ := h.get hi.1
  rw [hi.2] at h1
  cases h1
  exact h2
/-- THE LOOK: a container in flight is its items in flight -/
theorem look_of {v : T} {A : AT} {sh : Sh} {ts : List T} (R : Rel ca K nv σ H s As Fs ((v, A) :: E)) (h : look v s = .ok (sh, ts) s1) :
    s1 = s ∧ ∃ a Bs, A.val = .ref a ∧ HoOk ca K H sh a (Bs.map AT.val) ∧ ts.length = Bs.length ∧ Rps ca K H (PoS (s.S ++ s.F) (As ++ Fs)) ts Bs ∧ (sh = .lst true → noMut.noMuts ts = true) ∧ Rel ca K nv σ H s As Fs (ts.zip Bs ++ E) := by
  cases v with
  | nd sh' ts' =>
    cases h
    obtain ⟨a, Bs, eA, hH, hl, hR⟩ := rp_nd R.head
    refine ⟨rfl, a, Bs, by rw [eA]; rfl, hH, hR.length, hR, hl, ?_⟩
    refine R.to ⟨R.sim.cs, fun q hq => ?_, fun b => ?_⟩ fun q hq => ?_
    · rcases List.mem_append.mp hq with hq | hq
      · exact rps_zip hR q hq
      · exact R.sim.es q (List.mem_cons_of_mem _ hq)
    · have k := R.sim.one b
      rw [eA] at k
      simp only [List.map_cons, cnts, cnt, cnts_append] at k
      simp only [List.map_append, cnts_append, mem_zip_snd hR.length]
      omega
    · rcases List.mem_append.mp hq with hq | hq
      · have z := R.bE _ List.mem_cons_self
        simp only [below] at z
        exact of_belows z q.1 (List.of_mem_zip hq).1
      · exact R.bE q (List.mem_cons_of_mem _ hq)
  | ptr c n p =>
    unfold look at h
    simp only at h
    cases e : deref c n p s with
    | ok r s' =>
      obtain ⟨x, sh', ts'⟩ := r
      rw [e] at h
      cases h
      obtain ⟨e1, hx, hg, al, hs, nt⟩ := deref_of e
      subst e1
      obtain ⟨v, eA, hp⟩ := rp_ptr R.head
      obtain ⟨A', a, Bs, hA, hB, ev, hN⟩ := ptr_node R hp hx al hs nt
      obtain ⟨a', Bs', e2, hH, hl, hR⟩ := rp_nd hN
      cases e2
      have hv : Rps ca K H (PoS (s1.S ++ s1.F) (As ++ Fs)) (view.views c x.log.length ts' p 0) (viewsA ts' Bs) :=
        views_ok hx hA ts' Bs p 0 (fun i => by rw [sub_snoc hs, Nat.zero_add]) (fun i => by rw [at_snoc hB, Nat.zero_add]) hR
      refine ⟨rfl, a, viewsA ts' Bs, by rw [eA, ev]; rfl, by rw [viewsA_val ts' Bs hR.length]; exact hH, hv.length, hv, fun q => noMuts_view (hl q), ?_⟩
      refine R.to ⟨R.sim.cs, fun q hq => ?_, fun b => ?_⟩ fun q hq => ?_
      · rcases List.mem_append.mp hq with hq | hq
        · exact rps_zip hv q hq
        · exact R.sim.es q (List.mem_cons_of_mem _ hq)
      · have k := R.sim.one b
        simp only [List.map_cons, cnts, cnts_append] at k
        simp only [List.map_append, cnts_append, mem_zip_snd hv.length, viewsA_cnt ts' Bs hR]
        omega
      · rcases List.mem_append.mp hq with hq | hq
        · have hc : c < s1.S.length + s1.F.length := by have := (List.getElem?_eq_some_iff.mp hx).1; simpa using this
          have z := below_sub (R.below_cell hx) hs
          simp only [below] at z
          exact of_belows (belows_view hc ts' p 0 z) q.1 (List.of_mem_zip hq).1
        · exact R.bE q (List.mem_cons_of_mem _ hq)
    | exc c' pl s' => rw [e] at h; cases h
    | stuck w => rw [e] at h; cases h
  | hole => cases h
  | non => cases h
  | bl _ => cases h
  | int _ => cases h
  | str _ => cases h
  | exc _ => cases h
where noMuts_view {c n : Nat} {p : List Nat} {i : Nat} : ∀ {ts : List T}, noMut.noMuts ts = true → noMut.noMuts (view.views c n ts p i) = true := fun {ts} h => by
        exact viewsM ts p i h
      viewM {c n : Nat} : ∀ (t : T) (p : List Nat), noMut (view c n t p) = true
        | .nd .tup ts, p => by simp only [view, noMut]; exact viewsM' ts p 0
        | .nd (.lst _) _, _ => rfl
        | .nd (.dK _ _) _, _ => rfl
        | .nd (.dT _ _) _, _ => rfl
        | .nd (.ins _ _) _, _ => rfl
        | .hole, _ => rfl
        | .non, _ => rfl
        | .bl _, _ => rfl
        | .int _, _ => rfl
        | .str _, _ => rfl
        | .exc _, _ => rfl
        | .ptr _ _ _, _ => rfl
      viewsM' {c n : Nat} : ∀ (ts : List T) (p : List Nat) (i : Nat), noMut.noMuts (view.views c n ts p i) = true
        | [], _, _ => rfl
        | t :: ts, p, i => by simp only [view.views, noMut.noMuts, Bool.and_eq_true]; exact ⟨viewM t _, viewsM' ts p (i + 1)⟩
      viewsM {c n : Nat} : ∀ (ts : List T) (p : List Nat) (i : Nat), noMut.noMuts ts = true → noMut.noMuts (view.views c n ts p i) = true := fun ts p i _ => viewsM' ts p i
end
end Tk
end
section
/-! Tk6: operators. -/
namespace Tk
open PySem L2
section
variable {ca : Str → Addr} {K : PySem.W.Frag} {nv : Fr} {σ : L2.St} {H : Hp} {po : Po} {s s1 s2 s0 : St} {As Fs As1 Fs1 As2 Fs2 As0 Fs0 : List AT} {E E0 : List (T × AT)} {W : WX}
variable {α β : Type} {D : β → List T} {Φ : β → List AT → Hp → St → List AT → List AT → Prop}
theorem Post.bind_ok {f : M α} {g : α → M β} {a : α} (e : f s = .ok a s1) (h : Post ca K nv D W σ s0 As0 Fs0 E0 Φ ((f >>= g) s)) : Post ca K nv D W σ s0 As0 Fs0 E0 Φ (g a s1) := by
  have h' : Post ca K nv D W σ s0 As0 Fs0 E0 Φ (M.bind f g s) := h
  unfold M.bind at h'
  rw [e] at h'
  exact h'
theorem Post.bind_stuck {f : M α} {g : α → M β} {w : String} (e : f s = .stuck w) (h : Post ca K nv D W σ s0 As0 Fs0 E0 Φ ((f >>= g) s)) : False := by
  have h' : Post ca K nv D W σ s0 As0 Fs0 E0 Φ (M.bind f g s) := h
  unfold M.bind at h'
  rw [e] at h'
  exact h'
theorem Post.need {w : String} {b : Bool} {g : Unit → M β} (h : Post ca K nv D W σ s0 As0 Fs0 E0 Φ ((Tk.need w b >>= g) s)) : b = true ∧ Post ca K nv D W σ s0 As0 Fs0 E0 Φ (g () s) := by
  cases b with
  | true => exact ⟨rfl, h.bind_ok rfl⟩
  | false => exact (h.bind_stuck rfl).elim
theorem Post.opt {w : String} {b : Option α} {g : α → M β} (h : Post ca K nv D W σ s0 As0 Fs0 E0 Φ ((ofOpt w b >>= g) s)) : ∃ a, b = some a ∧ Post ca K nv D W σ s0 As0 Fs0 E0 Φ (g a s) := by
  cases b with
  | some a => exact ⟨a, rfl, h.bind_ok rfl⟩
  | none => exact (h.bind_stuck rfl).elim
theorem Post.opt1 {w : String} {b : Option β} (h : Post ca K nv D W σ s0 As0 Fs0 E0 Φ (ofOpt w b s)) : ∃ a, b = some a ∧ Post ca K nv D W σ s0 As0 Fs0 E0 Φ (.ok a s) := by
  cases b with
  | some a => exact ⟨a, rfl, h⟩
  | none => exact h.elim
theorem look_cases (v : T) (s : St) : (∃ r, look v s = .ok r s) ∨ ∃ w, look v s = .stuck w := by
  cases v with
  | nd sh ts => exact .inl ⟨_, rfl⟩
  | ptr c n p =>
    unfold look
    simp only
    cases e : deref c n p s with
    | ok r s' =>
      obtain ⟨x, sh, ts⟩ := r
      obtain ⟨e1, _⟩ := deref_of e
      subst e1
      exact .inl ⟨_, rfl⟩
    | exc c' pl s' =>
      unfold deref at e
      split at e <;> first | cases e | skip
      split at e <;> first | cases e | skip
      split at e <;> first | cases e | skip
      split at e <;> cases e
    | stuck w => exact .inr ⟨w, rfl⟩
  | _ => exact .inr ⟨_, rfl⟩
theorem Post.look {v : T} {g : Sh × List T → M β} (h : Post ca K nv D W σ s0 As0 Fs0 E0 Φ ((Tk.look v >>= g) s)) : ∃ sh ts, Tk.look v s = .ok (sh, ts) s ∧ Post ca K nv D W σ s0 As0 Fs0 E0 Φ (g (sh, ts) s) := by
  rcases look_cases v s with ⟨r, e⟩ | ⟨w, e⟩
  · exact ⟨r.1, r.2, e, h.bind_ok e⟩
  · exact (h.bind_stuck e).elim
theorem Post.stuck {w : String} (h : Post ca K nv D W σ s0 As0 Fs0 E0 Φ (Tk.stuck w s)) : False := h
theorem and2 {a b : Bool} (h : (a && b) = true) : a = true ∧ b = true := Bool.and_eq_true_iff.mp h
theorem fitT_le {n : Nat} (h : fitT n = true) : n ≤ sizeLine := of_decide_eq_true h
end
section
variable {X : Cx} {ca : Str → Addr} {nv : Fr} {σ : L2.St} {H : Hp} {po : Po} {s s1 s2 s0 : St} {As Fs As1 Fs1 As2 Fs2 As0 Fs0 : List AT} {E E0 : List (T × AT)} {W : WX} {a b : Expr} {fa fb : M T} {pos : Pos}
/-- the wish of a value's run -/
abbrev VPost (ca : Str → Addr) (K : PySem.W.Frag) (nv : Fr) (W : WX) (σ : L2.St) (s : St) (As Fs : List AT) (E : List (T × AT)) (Q : VK) : Res St T → Prop :=
  Post ca K nv (fun v => [v]) W σ s As Fs E (fun _ Ds H' _ _ _ => ∀ A, Ds = [A] → Q A.val H')
theorem VPost.int {Q : VK} {i : Int} {q1 q2 : T × AT} (h : VPost ca X.K nv W σ s0 As0 Fs0 E0 Q (.ok (.int i) s2)) (R : Rel ca X.K nv σ H s2 As2 Fs2 E0) (k : Kp s0 s2 As0 As2) : Q (.int i) H := Post.val h (R.int i) k
/-- an operator by its function on values -/
def BinOk (X : Cx) (ca : Str → Addr) (op : Operator) (f : T → T → M T) : Prop :=
  ∃ r : R2, OpR X (binaryOp op) r ∧ ∀ (nv : Fr) (σ : L2.St) (W : WX) (s0 s2 : St) (As0 Fs0 As2 Fs2 : List AT) (E0 : List (T × AT)) (H : Hp) (Q : VK) (x y : T) (A1 A2 : AT),
    Rel ca X.K nv σ H s2 As2 Fs2 ((y, A2) :: (x, A1) :: E0) → Kp s0 s2 As0 As2 → VPost ca X.K nv W σ s0 As0 Fs0 E0 Q (f x y s2) → r A1.val A2.val H Q
theorem se_bin {op : Operator} {f : T → T → M T} (o : BinOk X ca op f) (ha : PE X a (RdE ca X.K nv W fa)) (hb : PE X b (RdE ca X.K nv W fb)) :
    PE X (.BinOp a op b pos) (RdE ca X.K nv W (do let x ← fa; let y ← fb; f x y)) := by
  obtain ⟨r, hr, hq⟩ := o
  refine ⟨fun pins st σ H Q I ⟨s, As, Fs, E, R, h⟩ => ?_⟩
  refine (pe_op hr ha hb).run pins st σ H Q I ?_
  exact rd_two R h fun x y s2 H2 As2 Fs2 A1 A2 R2 k h2 => hq nv σ W s s2 As Fs As2 Fs2 E H2 Q x y A1 A2 R2 k h2
theorem bin_int {op : Operator} {C : Int → Int → Prop} {g : Int → Int → Int} {f : Int → Int → M T} (ho : OpR X (binaryOp op) (rI C fun i j => .int (g i j)))
    (hf : ∀ {nv : Fr} {σ : L2.St} {W : WX} {s0 s2 : St} {As0 Fs0 : List AT} {E0 : List (T × AT)} {Q : VK} {i j : Int}, VPost ca X.K nv W σ s0 As0 Fs0 E0 Q (f i j s2) → C i j ∧ VPost ca X.K nv W σ s0 As0 Fs0 E0 Q (.ok (.int (g i j)) s2)) : BinOk X ca op fun x y => intop x y f := by
  refine ⟨_, ho, fun nv σ W s0 s2 As0 Fs0 As2 Fs2 E0 H Q x y A1 A2 R k h => ?_⟩
  cases x with
  | int i =>
    cases y with
    | int j =>
      have e1 := rp_int R.second
      have e2 := rp_int R.head
      subst e1 e2
      obtain ⟨c, h'⟩ := hf h
      exact ⟨i, j, rfl, rfl, c, Post.val h' (R.drop.drop.int _) k⟩
    | _ => exact h.elim
  | _ => exact h.elim
theorem rI_true {op : Operator} {g : Int → Int → V} (ho : OpR X (binaryOp op) (rI0 g)) : OpR X (binaryOp op) (rI (fun _ _ => True) g) :=
  fun pins s σ H x y v u Q I rx ry h => ho pins s σ H x y v u Q I rx ry (by obtain ⟨i, j, e1, e2, _, q⟩ := h; exact ⟨i, j, e1, e2, q⟩)
theorem bin_sub : BinOk X ca .Sub fun x y => intop x y fun i j => pure (.int (i - j)) := bin_int (rI_true op_sub) fun h => ⟨trivial, h⟩
theorem bin_bor : BinOk X ca .BitOr fun x y => intop x y fun i j => pure (.int (Builtin.bitOr i j)) := bin_int (rI_true op_or) fun h => ⟨trivial, h⟩
theorem bin_band : BinOk X ca .BitAnd fun x y => intop x y fun i j => pure (.int (Builtin.bitAnd i j)) := bin_int (rI_true op_and) fun h => ⟨trivial, h⟩
theorem bin_fdiv : BinOk X ca .FloorDiv (binop .fdiv) := bin_int op_fdiv fun h => by
  obtain ⟨c, h⟩ := Post.need h
  obtain ⟨c1, c2⟩ := and2 c
  exact ⟨⟨of_decide_eq_true c1, of_decide_eq_true c2⟩, h⟩
theorem bin_mod : BinOk X ca .Mod (binop .mod) := bin_int op_mod fun h => by
  obtain ⟨c, h⟩ := Post.need h
  exact ⟨of_decide_eq_true c, h⟩
theorem powOk_of {i j : Int} (c : powOk i j = true) : CPow i j := by
  obtain ⟨c1, c2⟩ := and2 c
  obtain ⟨c2, c3⟩ := and2 c2
  exact ⟨of_decide_eq_true c1, of_decide_eq_true c2, of_decide_eq_true c3⟩
theorem bin_pow : BinOk X ca .Pow (binop .pow) := bin_int op_pow fun h => by
  obtain ⟨c, h⟩ := Post.need h
  exact ⟨powOk_of c, h⟩
theorem bin_shl : BinOk X ca .LShift (binop .shl) := bin_int op_shl fun h => by
  obtain ⟨c, h⟩ := Post.need h
  exact ⟨powOk_of c, h⟩
theorem bin_shr : BinOk X ca .RShift (binop .shr) := bin_int op_shr fun h => by
  obtain ⟨c, h⟩ := Post.need h
  exact ⟨of_decide_eq_true c, h⟩
/-- a list looked at twice: what it holds -/
theorem look_lst {v : T} {A : AT} {ts : List T} {K : PySem.W.Frag} (R : Rel ca K nv σ H s As Fs ((v, A) :: E)) (h : look v s = .ok (.lst false, ts) s) :
    ∃ a Bs, A.val = .ref a ∧ H a = some (.lst (Bs.map AT.val)) ∧ ts.length = Bs.length ∧ Rel ca K nv σ H s As Fs (ts.zip Bs ++ E) := by
  obtain ⟨_, a, Bs, e, hH, hl, _, _, R'⟩ := look_of R h
  exact ⟨a, Bs, e, hH, hl, R'⟩
theorem look_tup {v : T} {A : AT} {ts : List T} {K : PySem.W.Frag} (R : Rel ca K nv σ H s As Fs ((v, A) :: E)) (h : look v s = .ok (.tup, ts) s) :
    ∃ a Bs, A.val = .ref a ∧ H a = some (.tup (Bs.map AT.val)) ∧ ts.length = Bs.length ∧ Rel ca K nv σ H s As Fs (ts.zip Bs ++ E) := by
  obtain ⟨_, a, Bs, e, hH, hl, _, _, R'⟩ := look_of R h
  exact ⟨a, Bs, e, hH, hl, R'⟩
theorem zip_fst_map {ts : List T} {Bs : List AT} (h : ts.length = Bs.length) : (ts.zip Bs).map (·.1) = ts := mem_zip_fst h
/-- a new list of items in flight -/
theorem VPost.newlist {Q : VK} {D : List (T × AT)} {p : Addr} {K : PySem.W.Frag} (h : VPost ca K nv W σ s0 As0 Fs0 E0 Q (.ok (.nd (.lst false) (D.map (·.1))) s2)) (R : Rel ca K nv σ H s2 As2 Fs2 (D ++ E0)) (k : Kp s0 s2 As0 As2) (hp : H p = none) :
    Q (.ref p) (L2.upd H p (.lst ((D.map (·.2)).map AT.val))) :=
  Post.val h (R.alloc (sh := .lst false) hp (by simp) L2.upd_same) k
theorem VPost.newtup {Q : VK} {D : List (T × AT)} {p : Addr} {K : PySem.W.Frag} (h : VPost ca K nv W σ s0 As0 Fs0 E0 Q (.ok (.nd .tup (D.map (·.1))) s2)) (R : Rel ca K nv σ H s2 As2 Fs2 (D ++ E0)) (k : Kp s0 s2 As0 As2) (hp : H p = none) :
    Q (.ref p) (L2.upd H p (.tup ((D.map (·.2)).map AT.val))) :=
  Post.val h (R.alloc (sh := .tup) hp (by simp) L2.upd_same) k
theorem rps_flat_cnt {K : PySem.W.Frag} {ts : List T} {Bs : List AT} (b : Addr) (h : Rps ca K H po ts Bs) (z : noMut.noMuts ts = true) : cnts b Bs = 0 := Rps.flat b ts Bs z h
/-- tup + tup, where one of the two is handed back: the same tuple seen as made of the items -/
theorem tup_again {K : PySem.W.Frag} {ts : List T} {Bs : List AT} {a : Addr} (R : Rel ca K nv σ H s As Fs (ts.zip Bs ++ E)) (hl : ts.length = Bs.length) (ha : H a = some (.tup (Bs.map AT.val))) : Rel ca K nv σ H s As Fs ((.nd .tup ts, .nd false a Bs) :: E) := by
  refine R.to ⟨R.sim.cs, fun q hq => ?_, fun b => ?_⟩ fun q hq => ?_
  · rcases List.mem_cons.mp hq with e | hq
    · rw [e]
      unfold Rp
      refine ⟨rfl, ha, (fun q => by cases q), ?_⟩
      have z := rps_items (E := ts.zip Bs) (po := PoS (s.S ++ s.F) (As ++ Fs)) (ca := ca) (K := K) (H := H) fun r hr => R.sim.es r (List.mem_append_left _ hr)
      rw [mem_zip_fst hl, mem_zip_snd hl] at z
      exact z
    · exact R.sim.es q (List.mem_append_right _ hq)
  · have k := R.sim.one b
    simp only [List.map_append, cnts_append, mem_zip_snd hl] at k
    simp only [List.map_cons, cnts, cnt, cnts_append]
    simp
    omega
  · rcases List.mem_cons.mp hq with e | hq
    · rw [e]
      simp only [below]
      refine belows_of fun t ht => ?_
      obtain ⟨i, hi⟩ := List.getElem?_of_mem ht
      have hlt : i < Bs.length := by rw [← hl]; exact (List.getElem?_eq_some_iff.mp hi).1
      have hz : (ts.zip Bs)[i]? = some (t, Bs[i]) := by rw [List.getElem?_zip_eq_some]; exact ⟨hi, by simp [hlt]⟩
      exact R.bE _ (List.mem_append_left _ (List.mem_of_getElem? hz))
    · exact R.bE q (List.mem_append_right _ hq)
theorem op_addC : OpR X (binaryOp .Add) (fun x y H Q => (rI0 (fun i j => .int (i + j)) x y H Q ∨ ∃ i j, x = .str i ∧ y = .str j ∧ i.length + j.length ≤ sizeLine ∧ Q (.str (i ++ j)) H) ∨ (rCat x y H Q ∨ rCatA X.K x y H Q)) :=
  OpR.or (OpR.or op_add op_add_str) (OpR.or op_cat op_catA)
theorem add_seq {Q : VK} {x y : T} {A1 A2 : AT} (R : Rel ca X.K nv σ H s2 As2 Fs2 ((y, A2) :: (x, A1) :: E0)) (k : Kp s0 s2 As0 As2)
    (h : VPost ca X.K nv W σ s0 As0 Fs0 E0 Q ((do
      let (sb, ys) ← look y
      let (sa, xs) ← look x
      let _ ← need "list too long" (fitT (xs.length + ys.length))
      match sa, sb with
      | .lst false, .lst false => pure (.nd (.lst false) (xs ++ ys))
      | .tup, .tup => pure (.nd .tup (xs ++ ys))
      | _, _ => stuck "add" : M T) s2)) : rCat A1.val A2.val H Q ∨ rCatA X.K A1.val A2.val H Q := by
  obtain ⟨sb, ys, hy, h⟩ := Post.look h
  obtain ⟨_, b, Bb, eb, hHb, lb, _, _, R1⟩ := look_of R hy
  have R2 : Rel ca X.K nv σ H s2 As2 Fs2 ((x, A1) :: (ys.zip Bb ++ E0)) := R1.perm (by
    refine List.perm_middle.trans ?_
    exact List.Perm.refl _)
  obtain ⟨sa, xs, hx, h⟩ := Post.look h
  obtain ⟨_, a, Ba, ea, hHa, la, _, _, R3⟩ := look_of R2 hx
  obtain ⟨fit, h⟩ := Post.need h
  have fit := fitT_le fit
  have hl : (xs ++ ys).length = (Ba ++ Bb).length := by simp [la, lb]
  have ez : xs.zip Ba ++ (ys.zip Bb ++ E0) = (xs ++ ys).zip (Ba ++ Bb) ++ E0 := by rw [List.zip_append la, List.append_assoc]
  rw [ez] at R3
  have e1 : ((xs ++ ys).zip (Ba ++ Bb)).map (·.1) = xs ++ ys := mem_zip_fst hl
  have e2 : (((xs ++ ys).zip (Ba ++ Bb)).map (·.2)).map AT.val = Ba.map AT.val ++ Bb.map AT.val := by rw [mem_zip_snd hl, List.map_append]
  cases sa with
  | lst lka =>
    cases lka with
    | false =>
      cases sb with
      | lst lkb =>
        cases lkb with
        | false =>
          refine .inl ⟨a, b, _, _, ea, eb, hHa, hHb, by simpa [← la, ← lb] using fit, fun p hp => ?_⟩
          rw [← e2]
          exact VPost.newlist (by rw [e1]; exact h) R3 k hp
        | true => exact h.elim
      | _ => exact h.elim
    | true => cases sb <;> exact h.elim
  | tup =>
    cases sb with
    | tup =>
      refine .inr ⟨a, b, _, _, ea, eb, SqT.of hHa, SqT.of hHb, by simpa [← la, ← lb] using fit, fun e => ?_, fun e1' e2' => ?_, fun _ _ p hp => ?_⟩
      · have eB : Ba = [] := List.map_eq_nil_iff.mp e
        subst eB
        have eX : xs = [] := List.length_eq_zero_iff.mp (by simpa using la)
        subst eX
        simp only [List.nil_append] at R3 h hl
        exact Post.val h (tup_again R3 hl hHb) k
      · have eB : Bb = [] := List.map_eq_nil_iff.mp e2'
        subst eB
        have eX : ys = [] := List.length_eq_zero_iff.mp (by simpa using lb)
        subst eX
        simp only [List.append_nil] at R3 h hl
        exact Post.val h (tup_again R3 hl hHa) k
      · rw [← e2]
        exact VPost.newtup (by rw [e1]; exact h) R3 k hp
    | lst lk => cases lk <;> exact h.elim
    | _ => exact h.elim
  | _ => exact h.elim
theorem bin_add : BinOk X ca .Add (binop .add) := by
  refine ⟨_, op_addC, fun nv σ W s0 s2 As0 Fs0 As2 Fs2 E0 H Q x y A1 A2 R k h => ?_⟩
  cases x with
  | int i =>
    cases y with
    | int j =>
      have e1 := rp_int R.second
      have e2 := rp_int R.head
      subst e1 e2
      exact .inl (.inl ⟨i, j, rfl, rfl, Post.val h (R.drop.drop.int _) k⟩)
    | _ => exact h.elim
  | str i =>
    cases y with
    | str j =>
      have e1 := rp_str R.second
      have e2 := rp_str R.head
      subst e1 e2
      obtain ⟨c, h⟩ := Post.need h
      exact .inl (.inr ⟨i, j, rfl, rfl, fitT_le c, Post.val h (R.drop.drop.str _) k⟩)
    | _ => exact h.elim
  | _ => exact .inr (add_seq R k h)
end
end Tk
end
section
/-! Tk7: products, comparisons, subscripts, fields, displays. -/
namespace Tk
open PySem L2
/-! ### tables by places -/
section
variable {κ : Type} [DecidableEq κ]
theorem placeG_add (k : κ) : ∀ (ks : List κ) (i : Nat), placeG k ks i = (placeG k ks 0).map (· + i)
  | [], i => rfl
  | j :: ks, i => by
    unfold placeG
    by_cases h : j = k
    · simp [h]
    · rw [if_neg h, if_neg h, placeG_add k ks (i + 1), placeG_add k ks (0 + 1)]
      cases placeG k ks 0 with
      | none => rfl
      | some a => simp; omega
theorem placeG_cons (k j : κ) (ks : List κ) : placeG k (j :: ks) 0 = if j = k then some 0 else (placeG k ks 0).map (· + 1) := by
  show (if j = k then some 0 else placeG k ks (0 + 1)) = _
  rw [placeG_add k ks (0 + 1)]
theorem placeG_get {k : κ} : ∀ {ks : List κ} {i : Nat}, placeG k ks 0 = some i → ks[i]? = some k
  | [], _, h => by cases h
  | j :: ks, i, h => by
    rw [placeG_cons] at h
    by_cases e : j = k
    · rw [if_pos e] at h; cases h; simp [e]
    · rw [if_neg e] at h
      cases q : placeG k ks 0 with
      | none => rw [q] at h; cases h
      | some a => rw [q] at h; cases h; simpa using placeG_get q
theorem placeG_none {k : κ} : ∀ {ks : List κ}, placeG k ks 0 = none → k ∉ ks
  | [], _ => by simp
  | j :: ks, h => by
    rw [placeG_cons] at h
    by_cases e : j = k
    · rw [if_pos e] at h; cases h
    · rw [if_neg e] at h
      cases q : placeG k ks 0 with
      | none => intro hm; rcases List.mem_cons.mp hm with z | z; exact e z.symm; exact placeG_none q z
      | some a => rw [q] at h; cases h
theorem valV_zip (k : κ) : ∀ (ks : List κ) (vs : List V), ks.length = vs.length → valV (ks.zip vs) k = (placeG k ks 0).bind (vs[·]?)
  | [], [], _ => rfl
  | [], _ :: _, h => by simp at h
  | _ :: _, [], h => by simp at h
  | j :: ks, v :: vs, h => by
    rw [placeG_cons]
    show valV ((j, v) :: ks.zip vs) k = _
    by_cases e : j = k
    · rw [valV_pos (p := (j, v)) e, if_pos e]; rfl
    · rw [valV_neg (p := (j, v)) e, if_neg e, valV_zip k ks vs (by simpa using h)]
      cases placeG k ks 0 with
      | none => rfl
      | some a => simp
theorem any_zip (k : κ) : ∀ (ks : List κ) (vs : List V), ks.length = vs.length → ((ks.zip vs).any fun kv => decide (kv.1 = k)) = (placeG k ks 0).isSome
  | ks, vs, h => by
    rw [valV_any, valV_zip k ks vs h]
    cases q : placeG k ks 0 with
    | none => rfl
    | some a =>
      have z := (List.getElem?_eq_some_iff.mp (placeG_get q)).1
      simp [h ▸ z]
theorem map_zip_none (k : κ) (v : V) : ∀ (ks : List κ) (vs : List V), k ∉ ks → (ks.zip vs).map (fun kv => if kv.1 = k then (kv.1, v) else kv) = ks.zip vs
  | [], _, _ => rfl
  | _ :: _, [], _ => rfl
  | j :: ks, w :: vs, h => by
    show (if j = k then (j, v) else (j, w)) :: (ks.zip vs).map _ = (j, w) :: ks.zip vs
    rw [if_neg (fun e => h (by rw [e]; exact List.mem_cons_self)), map_zip_none k v ks vs (fun m => h (List.mem_cons_of_mem _ m))]
theorem putK_at {k : κ} {v : V} : ∀ {ks : List κ} {vs : List V} {i : Nat}, ks.Nodup → ks.length = vs.length → placeG k ks 0 = some i → putK (ks.zip vs) k v = ks.zip (vs.set i v)
  | ks, vs, i, nd, hl, h => by
    unfold putK
    rw [any_zip k ks vs hl, h]
    simp only [Option.isSome_some, if_true]
    clear hl
    induction ks generalizing vs i with
    | nil => cases h
    | cons j ks ih =>
      cases vs with
      | nil => simp
      | cons w vs =>
        rw [placeG_cons] at h
        obtain ⟨n1, n2⟩ := List.nodup_cons.mp nd
        by_cases e : j = k
        · rw [if_pos e] at h
          cases h
          show (if j = k then (j, v) else (j, w)) :: (ks.zip vs).map _ = (j, v) :: ks.zip vs
          rw [if_pos e, map_zip_none k v ks vs (by rw [← e]; exact n1)]
        · rw [if_neg e] at h
          cases q : placeG k ks 0 with
          | none => rw [q] at h; cases h
          | some a =>
            rw [q] at h
            cases h
            show (if j = k then (j, v) else (j, w)) :: (ks.zip vs).map _ = (j, w) :: ks.zip (vs.set a v)
            rw [if_neg e, ih vs a n2 q]
theorem putK_new {k : κ} {v : V} {ks : List κ} {vs : List V} (hl : ks.length = vs.length) (h : placeG k ks 0 = none) : putK (ks.zip vs) k v = (ks ++ [k]).zip (vs ++ [v]) := by
  unfold putK
  rw [any_zip k ks vs hl, h]
  simp only [Option.isSome_none, Bool.false_eq_true, if_false]
  rw [List.zip_append hl]
  rfl
theorem filter_zip_none (k : κ) : ∀ (ks : List κ) (vs : List V), k ∉ ks → (ks.zip vs).filter (fun kv => decide (kv.1 ≠ k)) = ks.zip vs
  | [], _, _ => rfl
  | _ :: _, [], _ => rfl
  | j :: ks, w :: vs, h => by
    show ((j, w) :: ks.zip vs).filter _ = _
    rw [List.filter_cons_of_pos (by simp; intro e; exact h (by rw [e]; exact List.mem_cons_self)), filter_zip_none k ks vs (fun m => h (List.mem_cons_of_mem _ m))]
    rfl
theorem dropK_at {k : κ} : ∀ {ks : List κ} {vs : List V} {i : Nat}, ks.Nodup → ks.length = vs.length → placeG k ks 0 = some i → dropK (ks.zip vs) k = (ks.eraseIdx i).zip (vs.eraseIdx i)
  | [], _, _, _, _, h => by cases h
  | j :: ks, [], _, _, hl, _ => by simp at hl
  | j :: ks, w :: vs, i, nd, hl, h => by
    obtain ⟨n1, n2⟩ := List.nodup_cons.mp nd
    rw [placeG_cons] at h
    show dropK ((j, w) :: ks.zip vs) k = _
    unfold dropK
    by_cases e : j = k
    · rw [if_pos e] at h
      cases h
      rw [List.filter_cons_of_neg (by simp [e]), filter_zip_none k ks vs (by rw [← e]; exact n1)]
      simp
    · rw [if_neg e] at h
      cases q : placeG k ks 0 with
      | none => rw [q] at h; cases h
      | some a =>
        rw [q] at h
        cases h
        rw [List.filter_cons_of_pos (by simp [e])]
        have ih := dropK_at (vs := vs) n2 (by simpa using hl) q
        unfold dropK at ih
        rw [ih]
        simp
theorem nodup_snoc {k : κ} {ks : List κ} (nd : ks.Nodup) (h : placeG k ks 0 = none) : (ks ++ [k]).Nodup := by
  rw [List.nodup_append]
  exact ⟨nd, by simp, fun a ha b hb e => by
    have : b = k := by simpa using hb
    subst this
    subst e
    exact placeG_none h ha⟩
theorem nodup_erase {ks : List κ} {i : Nat} (nd : ks.Nodup) : (ks.eraseIdx i).Nodup := nd.sublist (List.eraseIdx_sublist _ _)
end
section
variable {X : Cx} {ca : Str → Addr} {K : PySem.W.Frag} {nv : Fr} {σ : L2.St} {H : Hp} {po : Po} {s s1 s2 s0 : St} {As Fs As1 Fs1 As2 Fs2 As0 Fs0 : List AT} {E E0 : List (T × AT)} {W : WX} {a b e o : Expr} {fa fb : M T} {pos : Pos}
/-! ### products -/
theorem op_mul_str : OpR X (binaryOp .Mult) (fun x y H Q => ∃ i n, x = .str i ∧ y = .int n ∧ (-(2 ^ 62) < n ∧ n < 2 ^ 62) ∧ i.length * n.toNat ≤ sizeLine ∧ Q (.str (PySem.Txt.mul i n)) H) := by
  intro pins s σ H x y v u Q I rx ry h
  obtain ⟨i, n, rfl, rfl, ⟨h1, h2⟩, hz, q⟩ := h
  obtain ⟨t, rfl⟩ := rx
  obtain ⟨t', rfl⟩ := ry
  have hs : sizeLine = 16777216 := sizeLine_eq
  refine PySem.SB.mul ⟨?_, fun g1 g2 => ?_, fun g1 g2 => ?_⟩ fun t' k => ⟨.str _, H, I.tok k, ⟨t', rfl⟩, q⟩
  · simp only [Bool.or_eq_false_iff, decide_eq_false_iff_not]; omega
  · have hn : (0 : Int) < n := by omega
    rw [gt_iff_lt, Int.not_lt]
    refine (Int.le_ediv_iff_mul_le hn).mpr ?_
    have e : (i.length : Int) * n = ((i.length * n.toNat : Nat) : Int) := by
      rw [Int.natCast_mul, Int.toNat_of_nonneg (Int.le_of_lt hn)]
    rw [e]
    omega
  · unfold Builtin.Str.tooLong
    exact decide_eq_false (by omega)
theorem op_mulC : OpR X (binaryOp .Mult) (fun x y H Q => (rI CMul (fun i j => .int (i * j)) x y H Q ∨ ∃ i n, x = .str i ∧ y = .int n ∧ (-(2 ^ 62) < n ∧ n < 2 ^ 62) ∧ i.length * n.toNat ≤ sizeLine ∧ Q (.str (PySem.Txt.mul i n)) H) ∨ rRep x y H Q) :=
  OpR.or (OpR.or op_mul op_mul_str) op_rep
theorem rps_replicate {xs : List T} {Bs : List AT} (h : Rps ca K H po xs Bs) : ∀ n : Nat, Rps ca K H po (List.replicate n xs).flatten (List.replicate n Bs).flatten
  | 0 => by simp [Rps]
  | n + 1 => by simp only [List.replicate_succ, List.flatten_cons]; exact Rps.append h (rps_replicate h n)
theorem belows_rep {m : Nat} {xs : List T} (h : ∀ t ∈ xs, below m t = true) : ∀ n : Nat, ∀ t ∈ (List.replicate n xs).flatten, below m t = true
  | 0 => by simp
  | n + 1 => fun t ht => by
    simp only [List.replicate_succ, List.flatten_cons, List.mem_append] at ht
    rcases ht with ht | ht
    · exact h t ht
    · exact belows_rep h n t ht
theorem cnts_rep {b : Addr} {Bs : List AT} (h : cnts b Bs = 0) : ∀ n : Nat, cnts b (List.replicate n Bs).flatten = 0
  | 0 => rfl
  | n + 1 => by simp only [List.replicate_succ, List.flatten_cons, cnts_append, h, cnts_rep h n]
/-- items of no object may be had as often as one likes -/
theorem Rel.flats {xs : List T} {Bs : List AT} (R : Rel ca K nv σ H s As Fs E) (h : Rps ca K H (PoS (s.S ++ s.F) (As ++ Fs)) xs Bs) (z : ∀ b, cnts b Bs = 0) (bl : ∀ t ∈ xs, below (s.S.length + s.F.length) t = true) : Rel ca K nv σ H s As Fs (xs.zip Bs ++ E) := by
  refine R.to ⟨R.sim.cs, fun q hq => ?_, fun b => ?_⟩ fun q hq => ?_
  · rcases List.mem_append.mp hq with hq | hq
    · exact rps_zip h q hq
    · exact R.sim.es q hq
  · have k := R.sim.one b
    simp only [List.map_append, cnts_append, mem_zip_snd h.length, z b] at k ⊢
    omega
  · rcases List.mem_append.mp hq with hq | hq
    · exact bl q.1 (List.of_mem_zip hq).1
    · exact R.bE q hq
theorem bin_mul : BinOk X ca .Mult (binop .mul) := by
  refine ⟨_, op_mulC, fun nv σ W s0 s2 As0 Fs0 As2 Fs2 E0 H Q x y A1 A2 R k h => ?_⟩
  cases y with
  | int n =>
    have e2 := rp_int R.head
    subst e2
    have seq : VPost ca X.K nv W σ s0 As0 Fs0 E0 Q ((do
      let (sa, xs) ← look x
      let _ ← need "list too long" (decide (-(2 ^ 62) < n) && (decide (n < 2 ^ 62) && fitT (xs.length * n.toNat)))
      let _ ← need "mul of objects" (noMut.noMuts xs)
      match sa with
      | .lst false => pure (.nd (.lst false) (List.replicate n.toNat xs).flatten)
      | _ => stuck "mul" : M T) s2) → rRep A1.val (.int n) H Q := fun h => by
      obtain ⟨sa, xs, hx, h⟩ := Post.look h
      obtain ⟨_, a, Ba, ea, hHa, la, hR, _, R3⟩ := look_of R.drop hx
      obtain ⟨c, h⟩ := Post.need h
      obtain ⟨c1, c⟩ := and2 c
      obtain ⟨c2, c3⟩ := and2 c
      obtain ⟨fm, h⟩ := Post.need h
      have c1 := of_decide_eq_true c1
      have c2 := of_decide_eq_true c2
      have hz : ∀ b, cnts b Ba = 0 := fun b => Rps.flat b xs Ba fm hR
      cases sa with
      | lst lk =>
        cases lk with
        | false =>
          refine ⟨a, n, Ba.map AT.val, ea, rfl, hHa, by omega, by omega, by simpa [← la] using fitT_le c3, fun p hp => ?_⟩
          have hb : ∀ t ∈ xs, below (s2.S.length + s2.F.length) t = true := fun t ht => by
            obtain ⟨i, hi⟩ := List.getElem?_of_mem ht
            have hlt : i < Ba.length := by rw [← la]; exact (List.getElem?_eq_some_iff.mp hi).1
            exact R3.bE (t, Ba[i]) (List.mem_append_left _ (List.mem_of_getElem? (i := i) (by rw [List.getElem?_zip_eq_some]; exact ⟨hi, by simp [hlt]⟩)))
          have hr := rps_replicate hR n.toNat
          have R4 := Rel.flats R3.drops hr (fun b => cnts_rep (hz b) _) (belows_rep hb _)
          have e1 := mem_zip_fst hr.length
          have e2 := mem_zip_snd hr.length
          have q := VPost.newlist (p := p) (D := ((List.replicate n.toNat xs).flatten).zip ((List.replicate n.toNat Ba).flatten)) (by rw [e1]; exact h) R4 k hp
          rw [e2, List.map_flatten, List.map_replicate] at q
          exact q
        | true => exact h.elim
      | _ => exact h.elim
    cases x with
    | int i =>
      have e1 := rp_int R.second
      subst e1
      obtain ⟨c, h⟩ := Post.need h
      refine .inl (.inl ⟨i, n, rfl, rfl, ?_, Post.val h (R.drop.drop.int _) k⟩)
      unfold mulOk at c
      rcases Bool.or_eq_true_iff.mp c with c | c
      · obtain ⟨c1, c2⟩ := and2 c
        exact .inl ⟨of_decide_eq_true c1, of_decide_eq_true c2⟩
      · obtain ⟨c1, c2⟩ := and2 c
        exact .inr ⟨of_decide_eq_true c1, of_decide_eq_true c2⟩
    | str i =>
      have e1 := rp_str R.second
      subst e1
      obtain ⟨c, h⟩ := Post.need h
      obtain ⟨c1, c⟩ := and2 c
      obtain ⟨c2, c3⟩ := and2 c
      exact .inl (.inr ⟨i, n, rfl, rfl, ⟨of_decide_eq_true c1, of_decide_eq_true c2⟩, fitT_le c3, Post.val h (R.drop.drop.str _) k⟩)
    | _ => exact .inr (seq h)
  | _ => exact h.elim
/-! ### data -/
mutual
theorem data_of : ∀ (t : T) (A : AT) (d : PyData), Rp ca K H po t A → data t = some d → Dp K H A.val d
  | .non, A, d, h, e => by rw [rp_non h]; simp [data] at e; rw [← e]; exact .non
  | .bl b, A, d, h, e => by rw [rp_bl h]; simp [data] at e; rw [← e]; exact .bl b
  | .int i, A, d, h, e => by rw [rp_int h]; simp [data] at e; rw [← e]; exact .int i
  | .str z, A, d, h, e => by rw [rp_str h]; simp [data] at e; rw [← e]; exact .str z
  | .nd sh ts, A, d, h, e => by
    obtain ⟨a, Bs, eA, hH, _, hR⟩ := rp_nd h
    subst eA
    cases sh with
    | tup =>
      simp only [data] at e
      cases q : data.datas ts with
      | none => rw [q] at e; cases e
      | some ds =>
        rw [q] at e
        cases e
        exact .tup (SqT.of hH) (datas_of ts Bs ds hR q)
    | lst lk =>
      simp only [data] at e
      cases q : data.datas ts with
      | none => rw [q] at e; cases e
      | some ds =>
        rw [q] at e
        cases e
        refine .lst ?_ (datas_of ts Bs ds hR q)
        cases lk with
        | false => exact SqL.of hH
        | true =>
          rcases hH with ⟨o, z⟩ | z
          · exact .inl (.inr ⟨o, z⟩)
          · exact .inr z
    | _ => simp [data] at e
  | .hole, _, _, _, e => by simp [data] at e
  | .exc _, _, _, _, e => by simp [data] at e
  | .ptr _ _ _, _, _, _, e => by simp [data] at e
theorem datas_of : ∀ (ts : List T) (Bs : List AT) (ds : List PyData), Rps ca K H po ts Bs → data.datas ts = some ds → DpAll K H (Bs.map AT.val) ds
  | [], [], ds, _, e => by simp [data.datas] at e; subst e; exact .nil
  | [], _ :: _, _, h, _ => by simp [Rps] at h
  | _ :: _, [], _, h, _ => by simp [Rps] at h
  | t :: ts, B :: Bs, ds, h, e => by
    simp only [Rps] at h
    simp only [data.datas] at e
    cases q1 : data t with
    | none => rw [q1] at e; cases e
    | some d =>
      cases q2 : data.datas ts with
      | none => rw [q1, q2] at e; cases e
      | some ds' =>
        rw [q1, q2] at e
        cases e
        exact .cons (data_of t B d h.1 q1) (datas_of ts Bs ds' h.2 q2)
end
theorem deref_cases (c n : Nat) (p : List Nat) (s : St) : (∃ r, deref c n p s = .ok r s) ∨ ∃ w, deref c n p s = .stuck w := by
  cases e : deref c n p s with
  | ok r s' =>
    obtain ⟨x, sh, ts⟩ := r
    obtain ⟨e1, _⟩ := deref_of e
    subst e1
    exact .inl ⟨_, rfl⟩
  | exc c' pl s' =>
    unfold deref at e
    split at e <;> first | cases e | skip
    split at e <;> first | cases e | skip
    split at e <;> first | cases e | skip
    split at e <;> cases e
  | stuck w => exact .inr ⟨w, rfl⟩
mutual
/-- a value followed one step: what stands there -/
theorem whole_of (R : Rel ca K nv σ H s As Fs E) : ∀ (v : T) (A : AT), Rp ca K H (PoS (s.S ++ s.F) (As ++ Fs)) v A → (∃ t B, whole v s = .ok t s ∧ Rp ca K H (PoS (s.S ++ s.F) (As ++ Fs)) t B ∧ B.val = A.val) ∨ ∃ w, whole v s = .stuck w
  | .ptr c n p, A, h => by
    obtain ⟨v, eA, hp⟩ := rp_ptr h
    unfold whole
    rcases deref_cases c n p s with ⟨⟨x, sh, ts⟩, e⟩ | ⟨w, e⟩
    · obtain ⟨_, hx, hg, al, hs, nt⟩ := deref_of e
      obtain ⟨A', a, Bs, hA, hB, ev, hN⟩ := ptr_node R hp hx al hs nt
      rw [e]
      exact .inl ⟨_, _, rfl, hN, by rw [eA, ev]; rfl⟩
    · rw [e]
      exact .inr ⟨w, rfl⟩
  | .nd sh ts, A, h => by
    cases sh with
    | tup =>
      obtain ⟨a, Bs, eA, hH, _, hR⟩ := rp_nd h
      subst eA
      have hw : whole (.nd .tup ts) s = M.bind (whole.wholes ts) (fun r => fun s => .ok (.nd .tup r) s) s := by
        show whole (.nd .tup ts) s = _
        unfold whole
        rfl
      rw [hw]
      rcases wholes_of R ts Bs hR with ⟨us, Cs, e, h2, h3⟩ | ⟨w, e⟩
      · refine .inl ⟨.nd .tup us, .nd false a Cs, by unfold M.bind; rw [e], ?_, rfl⟩
        unfold Rp
        refine ⟨rfl, ?_, (fun q => by cases q), h2⟩
        rw [h3]
        exact hH
      · exact .inr ⟨w, by unfold M.bind; rw [e]⟩
    | lst lk => exact .inl ⟨_, A, by unfold whole; rfl, h, rfl⟩
    | dK lk ks => exact .inl ⟨_, A, by unfold whole; rfl, h, rfl⟩
    | dT lk ks => exact .inl ⟨_, A, by unfold whole; rfl, h, rfl⟩
    | ins c fs => exact .inl ⟨_, A, by unfold whole; rfl, h, rfl⟩
  | .hole, A, h => .inl ⟨_, A, by unfold whole; rfl, h, rfl⟩
  | .non, A, h => .inl ⟨_, A, by unfold whole; rfl, h, rfl⟩
  | .bl _, A, h => .inl ⟨_, A, by unfold whole; rfl, h, rfl⟩
  | .int _, A, h => .inl ⟨_, A, by unfold whole; rfl, h, rfl⟩
  | .str _, A, h => .inl ⟨_, A, by unfold whole; rfl, h, rfl⟩
  | .exc _, A, h => .inl ⟨_, A, by unfold whole; rfl, h, rfl⟩
theorem wholes_of (R : Rel ca K nv σ H s As Fs E) : ∀ (ts : List T) (As' : List AT), Rps ca K H (PoS (s.S ++ s.F) (As ++ Fs)) ts As' → (∃ us Cs, whole.wholes ts s = .ok us s ∧ Rps ca K H (PoS (s.S ++ s.F) (As ++ Fs)) us Cs ∧ Cs.map AT.val = As'.map AT.val) ∨ ∃ w, whole.wholes ts s = .stuck w
  | [], [], _ => .inl ⟨[], [], by unfold whole.wholes; rfl, by simp [Rps], rfl⟩
  | [], _ :: _, h => by simp [Rps] at h
  | _ :: _, [], h => by simp [Rps] at h
  | t :: ts, A :: As', h => by
    simp only [Rps] at h
    have hw : whole.wholes (t :: ts) s = M.bind (whole t) (fun r => M.bind (whole.wholes ts) (fun rs => fun s => .ok (r :: rs) s)) s := by
      show whole.wholes (t :: ts) s = _
      rw [whole.wholes]
      rfl
    rw [hw]
    rcases whole_of R t A h.1 with ⟨u, B, e1, h1, v1⟩ | ⟨w, e1⟩
    · rcases wholes_of R ts As' h.2 with ⟨us, Cs, e2, h2, v2⟩ | ⟨w, e2⟩
      · refine .inl ⟨u :: us, B :: Cs, by unfold M.bind; rw [e1]; simp only; rw [e2], by simp only [Rps]; exact ⟨h1, h2⟩, by simp [v1, v2]⟩
      · exact .inr ⟨w, by unfold M.bind; rw [e1]; simp only; rw [e2]⟩
    · exact .inr ⟨w, by unfold M.bind; rw [e1]⟩
end
theorem Post.data {β : Type} {D : β → List T} {Φ : β → List AT → Hp → St → List AT → List AT → Prop} {v : T} {A : AT} {g : PyData → M β} (R : Rel ca K nv σ H s As Fs E) (hv : Rp ca K H (PoS (s.S ++ s.F) (As ++ Fs)) v A)
    (h : Post ca K nv D W σ s0 As0 Fs0 E0 Φ ((dataOf v >>= g) s)) : ∃ d, Dp K H A.val d ∧ SeqAt.shaped d = true ∧ Post ca K nv D W σ s0 As0 Fs0 E0 Φ (g d s) := by
  have hd : dataOf v s = M.bind (whole v) (fun t => M.bind (ofOpt "no data" (Tk.data t)) (fun d => M.bind (Tk.need "deep data" (SeqAt.shaped d)) (fun _ => (pure d : M PyData)))) s := rfl
  rcases whole_of R v A hv with ⟨t, B, e, hB, eB⟩ | ⟨w, e⟩
  · cases q : Tk.data t with
    | none =>
      refine (h.bind_stuck (w := "no data") ?_).elim
      rw [hd]
      unfold M.bind
      rw [e]
      simp only
      rw [q]
      rfl
    | some d =>
      cases z : SeqAt.shaped d with
      | false =>
        refine (h.bind_stuck (w := "deep data") ?_).elim
        rw [hd]
        unfold M.bind
        rw [e]
        simp only
        rw [q]
        simp only [ofOpt]
        rw [z]
        rfl
      | true =>
        refine ⟨d, by rw [← eB]; exact data_of t B d hB q, z, h.bind_ok (a := d) ?_⟩
        rw [hd]
        unfold M.bind
        rw [e]
        simp only
        rw [q]
        simp only [ofOpt]
        rw [z]
        rfl
  · refine (h.bind_stuck (w := w) ?_).elim
    rw [hd]
    unfold M.bind
    rw [e]
theorem tV_of {t : T} {A : AT} (h : Rp ca K H po t A) (z : scalT t = true) : A.val = tV t := by
  cases t with
  | non => rw [rp_non h]; rfl
  | bl b => rw [rp_bl h]; rfl
  | int i => rw [rp_int h]; rfl
  | str x => rw [rp_str h]; rfl
  | _ => simp [scalT] at z
end
end Tk
end
section
/-! Tk8: comparisons, subscripts, slices, fields, names, displays. -/
namespace Tk
open PySem L2
section
variable {X : Cx} {ca : Str → Addr} {K : PySem.W.Frag} {nv : Fr} {σ : L2.St} {H : Hp} {po : Po} {s s1 s2 s0 : St} {As Fs As1 Fs1 As2 Fs2 As0 Fs0 : List AT} {E E0 : List (T × AT)} {W : WX} {a b c e o : Expr} {fa fb fc : M T} {pos : Pos}
theorem PE.or {e : Expr} {t t' : TE} (h : PE X e t) (h' : PE X e t') : PE X e (fun σ H Q => t σ H Q ∨ t' σ H Q) :=
  ⟨fun pins s σ H Q I q => q.elim (h.run pins s σ H Q I) (h'.run pins s σ H Q I)⟩
/-! ### comparisons -/
abbrev BPost (ca : Str → Addr) (K : PySem.W.Frag) (nv : Fr) (W : WX) (σ : L2.St) (s : St) (As Fs : List AT) (E : List (T × AT)) (Q : Bool → Hp → Prop) : Res St Bool → Prop :=
  Post ca K nv (fun _ => []) W σ s As Fs E (fun b _ H' _ _ _ => Q b H')
theorem BPost.val {Q : Bool → Hp → Prop} {v : Bool} (h : BPost ca K nv W σ s0 As0 Fs0 E0 Q (.ok v s2)) (R : Rel ca K nv σ H s2 As2 Fs2 E0) (k : Kp s0 s2 As0 As2) : Q v H :=
  h H As2 Fs2 [] rfl R k
/-- a comparison by its function on values -/
def CmpOk (X : Cx) (ca : Str → Addr) (op : CmpOp) (f : T → T → M Bool) : Prop :=
  ∃ r : R2, OpR X (compareOp op) r ∧ ∀ (nv : Fr) (σ : L2.St) (W : WX) (s0 s2 : St) (As0 Fs0 As2 Fs2 : List AT) (E0 : List (T × AT)) (H : Hp) (Q : Bool → Hp → Prop) (Q' : VK) (x y : T) (A1 A2 : AT), (∀ b H', Q b H' → Q' (.bl b) H') →
    Rel ca X.K nv σ H s2 As2 Fs2 ((y, A2) :: (x, A1) :: E0) → Kp s0 s2 As0 As2 → BPost ca X.K nv W σ s0 As0 Fs0 E0 Q (f x y s2) → r A1.val A2.val H Q'
theorem blPost {Q : VK} {f : M Bool} (h : VPost ca X.K nv W σ s0 As0 Fs0 E0 Q ((do let r ← f; pure (.bl r) : M T) s2)) (F : ∀ c pl s', f s2 ≠ .exc c pl s') : BPost ca X.K nv W σ s0 As0 Fs0 E0 (fun b H' => Q (.bl b) H') (f s2) := by
  cases e : f s2 with
  | ok r s3 =>
    intro H' As' Fs' Ds hl R k
    have h' := h.bind_ok e
    have e0 : Ds = [] := List.length_eq_zero_iff.mp hl
    subst e0
    exact Post.val h' (R.bl r) k
  | exc c pl s3 => exact absurd e (F c pl s3)
  | stuck w => exact (h.bind_stuck e).elim
/-- nothing is raised by it -/
def Calm {α : Type} (f : M α) : Prop := ∀ s c pl s', f s ≠ .exc c pl s'
theorem Calm.bind {α β : Type} {f : M α} {g : α → M β} (h : Calm f) (h2 : ∀ a, Calm (g a)) : Calm (f >>= g) := fun s c pl s' e => by
  have e' : M.bind f g s = .exc c pl s' := e
  unfold M.bind at e'
  cases q : f s with
  | ok a s1 => rw [q] at e'; exact h2 a s1 c pl s' e'
  | exc c' pl' s1 => exact h s c' pl' s1 q
  | stuck w => rw [q] at e'; cases e'
theorem Calm.pure {α : Type} {a : α} : Calm (pure a : M α) := fun s c pl s' e => by cases e
theorem Calm.stuck {α : Type} {w : String} : Calm (Tk.stuck w : M α) := fun s c pl s' e => by cases e
theorem Calm.need {w : String} {b : Bool} : Calm (Tk.need w b) := fun s c pl s' e => by cases b <;> cases e
theorem Calm.opt {α : Type} {w : String} {b : Option α} : Calm (ofOpt w b) := fun s c pl s' e => by cases b <;> cases e
theorem Calm.look {v : T} : Calm (Tk.look v) := fun s c pl s' e => by
  rcases look_cases v s with ⟨r, q⟩ | ⟨w, q⟩ <;> (rw [q] at e; cases e)
mutual
theorem calm_whole : ∀ v : T, Calm (whole v)
  | .ptr c n p => fun s c' pl s' e => by
    unfold whole at e
    rcases deref_cases c n p s with ⟨⟨x, sh, ts⟩, q⟩ | ⟨w, q⟩ <;> (rw [q] at e; cases e)
  | .nd sh ts => by
    cases sh with
    | tup =>
      have : whole (.nd .tup ts) = (whole.wholes ts >>= fun r => Pure.pure (.nd .tup r)) := by funext s; unfold whole; rfl
      rw [this]
      exact Calm.bind (calm_wholes ts) fun _ => Calm.pure
    | _ => unfold whole; exact Calm.pure
  | .hole => by unfold whole; exact Calm.pure
  | .non => by unfold whole; exact Calm.pure
  | .bl _ => by unfold whole; exact Calm.pure
  | .int _ => by unfold whole; exact Calm.pure
  | .str _ => by unfold whole; exact Calm.pure
  | .exc _ => by unfold whole; exact Calm.pure
theorem calm_wholes : ∀ ts : List T, Calm (whole.wholes ts)
  | [] => by unfold whole.wholes; exact Calm.pure
  | t :: ts => by
    have : whole.wholes (t :: ts) = (whole t >>= fun r => whole.wholes ts >>= fun rs => Pure.pure (r :: rs)) := by funext s; rw [whole.wholes]
    rw [this]
    exact Calm.bind (calm_whole t) fun _ => Calm.bind (calm_wholes ts) fun _ => Calm.pure
end
theorem calm_data (v : T) : Calm (dataOf v) := Calm.bind (calm_whole v) fun _ => Calm.bind Calm.opt fun _ => Calm.bind Calm.need fun _ => Calm.pure
theorem calm_eqT (x y : T) : Calm (eqT x y) := by
  unfold eqT
  split
  · exact Calm.bind Calm.need fun _ => Calm.pure
  · exact Calm.bind (calm_data x) fun _ => Calm.bind (calm_data y) fun _ => Calm.pure
theorem calm_isin (x y : T) : Calm (isinT x y) := by
  unfold isinT
  split
  · split
    · exact Calm.pure
    · exact Calm.stuck
  · refine Calm.bind Calm.look fun r => ?_
    obtain ⟨sh, ts⟩ := r
    simp only
    split
    · exact Calm.bind Calm.opt fun _ => Calm.pure
    · split
      · exact Calm.stuck
      · split
        · exact Calm.pure
        · refine Calm.bind (calm_data x) fun _ => Calm.bind (calm_data y) fun d => ?_
          split
          · exact Calm.pure
          · exact Calm.stuck
theorem calm_ord (x y : T) (f : Int → Int → Bool) : Calm (ordop x y f) := by
  unfold ordop
  split
  · split
    · exact Calm.pure
    · exact Calm.stuck
  · exact Calm.stuck
theorem Calm.deref {c n : Nat} {p : List Nat} : Calm (Tk.deref c n p) := fun s c' pl s' e => by
  rcases deref_cases c n p s with ⟨r, q⟩ | ⟨w, q⟩ <;> (rw [q] at e; cases e)
theorem calm_none (x : T) : Calm (isNone x) := by
  unfold isNone
  split <;> first | exact Calm.pure | exact Calm.stuck | exact Calm.bind Calm.deref fun _ => Calm.pure
theorem calm_cmp (o : Cop) (x y : T) : Calm (cmpop o x y) := by
  cases o <;> unfold cmpop <;> simp only
  · exact calm_eqT x y
  · exact Calm.bind (calm_eqT x y) fun _ => Calm.pure
  · split
    · split
      · exact Calm.pure
      · exact Calm.stuck
    · exact calm_ord _ _ _
  · exact calm_ord _ _ _
  · exact calm_ord _ _ _
  · exact calm_ord _ _ _
  · exact calm_isin x y
  · exact Calm.bind (calm_isin x y) fun _ => Calm.pure
  · split
    · exact calm_none x
    · exact Calm.stuck
  · split
    · exact Calm.bind (calm_none x) fun _ => Calm.pure
    · exact Calm.stuck
theorem se_cmp {op : CmpOp} {f : T → T → M Bool} (o : CmpOk X ca op f) (cf : ∀ x y, Calm (f x y)) (ha : PE X a (RdE ca X.K nv W fa)) (hb : PE X b (RdE ca X.K nv W fb)) (hm : behindInMarks op b = false) :
    PE X (.Compare a [op] [b] pos) (RdE ca X.K nv W (do let x ← fa; let y ← fb; let r ← f x y; pure (.bl r))) := by
  obtain ⟨r, hr, hq⟩ := o
  refine ⟨fun pins st σ H Q I ⟨s, As, Fs, E, R, h⟩ => ?_⟩
  refine (pe_cmpR hr ha hb hm).run pins st σ H Q I ?_
  exact rd_two R h fun x y s2 H2 As2 Fs2 A1 A2 R2 k h2 => hq nv σ W s s2 As Fs As2 Fs2 E H2 (fun b H' => Q (.bl b) H') Q x y A1 A2 (fun _ _ q => q) R2 k (blPost h2 fun c pl s' => cf x y s2 c pl s')
theorem st_cmp {op : CmpOp} {f : T → T → M Bool} (o : CmpOk X ca op f) (ha : PE X a (RdE ca X.K nv W fa)) (hb : PE X b (RdE ca X.K nv W fb)) (hm : behindInMarks op b = false) :
    PT X (.Compare a [op] [b] pos) (RdT ca X.K nv W (do let x ← fa; let y ← fb; f x y)) := by
  obtain ⟨r, hr, hq⟩ := o
  refine ⟨fun pins st σ H Q I ⟨s, As, Fs, E, R, h⟩ => ?_⟩
  refine (pt_cmpR hr ha hb hm).run pins st σ H Q I ?_
  show RdE ca X.K nv W fa σ H (fun x H1 => RdE ca X.K nv W fb σ H1 fun y H2 => r x y H2 fun z H3 => ∃ k, z = .bl k ∧ Q k H3)
  exact rd_two R h fun x y s2 H2 As2 Fs2 A1 A2 R2 k h2 => hq nv σ W s s2 As Fs As2 Fs2 E H2 Q _ x y A1 A2 (fun b _ q => ⟨b, rfl, q⟩) R2 k h2
theorem hu64 {A : Around} {k : Nat} (hr : Room k A) : A.units + 64 < cLine := hr.units
theorem hu65 {A : Around} {k : Nat} (hr : Room k A) : A.units + 65 < cLine := by have := hr.un; omega
theorem cmp_eq (hu : X.A.units + 64 < cLine) : CmpOk X ca .Eq (cmpop .eq) := by
  refine ⟨_, OpR.or op_eq (op_eqD hu), fun nv σ W s0 s2 As0 Fs0 As2 Fs2 E0 H Q Q' x y A1 A2 hQ R k h => ?_⟩
  have h' : BPost ca X.K nv W σ s0 As0 Fs0 E0 Q (eqT x y s2) := h
  unfold eqT at h'
  cases z : scalT x && scalT y with
  | true =>
    rw [z] at h'
    obtain ⟨c, h'⟩ := Post.need h'
    obtain ⟨z1, z2⟩ := and2 z
    refine .inl ?_
    rw [tV_of R.second z1, tV_of R.head z2]
    exact ⟨c, hQ _ _ (BPost.val h' R.drop.drop k)⟩
  | false =>
    rw [z] at h'
    obtain ⟨d, hd, sd, h'⟩ := Post.data R R.second h'
    obtain ⟨e, he, se, h'⟩ := Post.data R R.head h'
    exact .inr ⟨d, e, hd, he, sd, se, hQ _ _ (BPost.val h' R.drop.drop k)⟩
theorem BPost.notb {Q : Bool → Hp → Prop} {f : M Bool} (cf : Calm f) (h : BPost ca K nv W σ s0 As0 Fs0 E0 Q ((do return !(← f) : M Bool) s2)) : BPost ca K nv W σ s0 As0 Fs0 E0 (fun b H => Q (!b) H) (f s2) := by
  cases e : f s2 with
  | ok r s3 =>
    intro H' As' Fs' Ds hl R k
    have h' := h.bind_ok e
    have e0 : Ds = [] := List.length_eq_zero_iff.mp hl
    subst e0
    exact BPost.val h' R k
  | exc c pl s3 => exact absurd e (cf s2 c pl s3)
  | stuck w => exact (h.bind_stuck e).elim
theorem cmp_ne (hu : X.A.units + 64 < cLine) : CmpOk X ca .NotEq (cmpop .ne) := by
  refine ⟨_, OpR.or op_ne (op_neD hu), fun nv σ W s0 s2 As0 Fs0 As2 Fs2 E0 H Q Q' x y A1 A2 hQ R k h => ?_⟩
  have h' := BPost.notb (calm_eqT x y) h
  unfold eqT at h'
  cases z : scalT x && scalT y with
  | true =>
    rw [z] at h'
    obtain ⟨c, h'⟩ := Post.need h'
    obtain ⟨z1, z2⟩ := and2 z
    refine .inl ?_
    rw [tV_of R.second z1, tV_of R.head z2]
    exact ⟨c, hQ _ _ (h' H As2 Fs2 [] rfl R.drop.drop k)⟩
  | false =>
    rw [z] at h'
    obtain ⟨d, hd, sd, h'⟩ := Post.data R R.second h'
    obtain ⟨e, he, se, h'⟩ := Post.data R R.head h'
    exact .inr ⟨d, e, hd, he, sd, se, hQ _ _ (h' H As2 Fs2 [] rfl R.drop.drop k)⟩
theorem cmp_ord {op : CmpOp} {g : Int → Int → Bool} (ho : OpR X (compareOp op) (rI0 fun i j => .bl (g i j))) : CmpOk X ca op fun x y => ordop x y g := by
  refine ⟨_, ho, fun nv σ W s0 s2 As0 Fs0 As2 Fs2 E0 H Q Q' x y A1 A2 hQ R k h => ?_⟩
  cases x with
  | int i =>
    cases y with
    | int j =>
      have e1 := rp_int R.second
      have e2 := rp_int R.head
      subst e1 e2
      exact ⟨i, j, rfl, rfl, hQ _ _ (BPost.val h R.drop.drop k)⟩
    | _ => exact h.elim
  | _ => exact h.elim
theorem cmp_lt : CmpOk X ca .Lt (cmpop .lt) := by
  refine ⟨_, OpR.or op_lt op_lt_str, fun nv σ W s0 s2 As0 Fs0 As2 Fs2 E0 H Q Q' x y A1 A2 hQ R k h => ?_⟩
  cases x with
  | int i =>
    cases y with
    | int j =>
      have e1 := rp_int R.second
      have e2 := rp_int R.head
      subst e1 e2
      exact .inl ⟨i, j, rfl, rfl, hQ _ _ (BPost.val h R.drop.drop k)⟩
    | _ => exact h.elim
  | str i =>
    cases y with
    | str j =>
      have e1 := rp_str R.second
      have e2 := rp_str R.head
      subst e1 e2
      exact .inr ⟨i, j, rfl, rfl, hQ _ _ (BPost.val h R.drop.drop k)⟩
    | _ => exact h.elim
  | _ => exact h.elim
theorem cmp_le : CmpOk X ca .LtE (cmpop .le) := cmp_ord op_le
theorem cmp_gt : CmpOk X ca .Gt (cmpop .gt) := cmp_ord op_gt
theorem cmp_ge : CmpOk X ca .GtE (cmpop .ge) := cmp_ord op_ge
/-- a dead pointer may be anything: 'is None' asks that it be alive -/
theorem cmp_is : CmpOk X ca .Is (cmpop .is) := by
  refine ⟨_, op_isN, fun nv σ W s0 s2 As0 Fs0 As2 Fs2 E0 H Q Q' x y A1 A2 hQ R k h => ?_⟩
  cases y with
  | non =>
    have e2 := rp_non R.head
    subst e2
    have h' : BPost ca X.K nv W σ s0 As0 Fs0 E0 Q (isNone x s2) := h
    refine ⟨rfl, ?_⟩
    cases x with
    | non => rw [rp_non R.second]; exact hQ _ _ (BPost.val h' R.drop.drop k)
    | bl z => rw [rp_bl R.second]; exact hQ _ _ (BPost.val h' R.drop.drop k)
    | int z => rw [rp_int R.second]; exact hQ _ _ (BPost.val h' R.drop.drop k)
    | str z => rw [rp_str R.second]; exact hQ _ _ (BPost.val h' R.drop.drop k)
    | nd sh ts => obtain ⟨a, Bs, e1, _⟩ := rp_nd R.second; subst e1; exact hQ _ _ (BPost.val h' R.drop.drop k)
    | ptr c n p =>
      unfold isNone at h'
      simp only at h'
      rcases deref_cases c n p s2 with ⟨⟨x, sh, ts⟩, e⟩ | ⟨w, e⟩
      · obtain ⟨_, hx, hg, al, hs, nt⟩ := deref_of e
        obtain ⟨v, e1, hp⟩ := rp_ptr R.second
        obtain ⟨A', a, Bs, hA, hB, ev, hN⟩ := ptr_node R hp hx al hs nt
        subst e1 ev
        have h2 := Post.bind_ok (f := deref c n p) (g := fun _ => (Pure.pure false : M Bool)) e h'
        exact hQ _ _ (BPost.val h2 R.drop.drop k)
      · exact (Post.bind_stuck (f := deref c n p) (g := fun _ => (Pure.pure false : M Bool)) e h').elim
    | hole => exact h'.elim
    | exc c => exact h'.elim
  | _ => exact h.elim
end
end Tk
end
section
/-! Tk9: membership, subscripts, slices, fields. -/
namespace Tk
open PySem L2
section
variable {X : Cx} {ca : Str → Addr} {K : PySem.W.Frag} {nv : Fr} {σ : L2.St} {H : Hp} {po : Po} {s s1 s2 s0 : St} {As Fs As1 Fs1 As2 Fs2 As0 Fs0 : List AT} {E E0 : List (T × AT)} {W : WX} {a b c e o : Expr} {fa fb fc : M T} {pos : Pos}
theorem keyOf_val {y : T} {A : AT} {k : L2.Key} (h : Rp ca K H po y A) (e : keyOf y = some k) : A.val = kV k := by
  cases y with
  | int i => rw [rp_int h]; cases e; rfl
  | str z => rw [rp_str h]; cases e; rfl
  | _ => cases e
theorem keysOf_val : ∀ {ts : List T} {Bs : List AT} {ks : List L2.Key}, Rps ca K H po ts Bs → keysOf ts = some ks → Bs.map AT.val = ks.map kV
  | [], [], ks, _, e => by cases e; rfl
  | [], _ :: _, _, h, _ => by simp [Rps] at h
  | _ :: _, [], _, h, _ => by simp [Rps] at h
  | t :: ts, B :: Bs, ks, h, e => by
    simp only [Rps] at h
    simp only [keysOf] at e
    cases q1 : keyOf t with
    | none => rw [q1] at e; cases e
    | some k =>
      cases q2 : keysOf ts with
      | none => rw [q1, q2] at e; cases e
      | some ks' =>
        rw [q1, q2] at e
        cases e
        simp only [List.map_cons, keyOf_val h.1 q1, keysOf_val h.2 q2]
/-- a key looked for in a dict -/
theorem dget_of {sh : Sh} {a : Addr} {Bs : List AT} {y : T} {A2 : AT} {r : Option Nat} (hH : HoOk ca K H sh a (Bs.map AT.val)) (hy : Rp ca K H po y A2) (e : place sh y = some r) : DGet H a A2.val (r.bind ((Bs.map AT.val)[·]?)) := by
  cases sh with
  | dK lk ks =>
    simp only [place] at e
    cases q : keyOf y with
    | none => rw [q] at e; cases e
    | some k =>
      rw [q] at e
      cases e
      refine .inl ⟨ks.zip (Bs.map AT.val), k, ?_, keyOf_val hy q, ?_⟩
      · cases lk with
        | false => exact .inl hH.2.2
        | true => exact .inr hH.2.2
      · exact (valV_zip k ks _ (by cases lk <;> exact hH.2.1)).symm
  | dT lk ks =>
    simp only [place] at e
    cases y with
    | nd sh' ts =>
      cases sh' with
      | tup =>
        simp only at e
        cases q : keysOf ts with
        | none => rw [q] at e; cases e
        | some k =>
          rw [q] at e
          cases e
          obtain ⟨b, Cs, eA, hb, _, hR⟩ := rp_nd hy
          subst eA
          have hb' : H b = some (.tup (Cs.map AT.val)) := hb
          rw [keysOf_val hR q] at hb'
          refine .inr ⟨ks.zip (Bs.map AT.val), k, b, ?_, rfl, hb', ?_⟩
          · cases lk with
            | false => exact .inl hH.2.2
            | true => exact .inr hH.2.2
          · exact (valV_zip k ks _ (by cases lk <;> exact hH.2.1)).symm
      | _ => cases e
    | _ => cases e
  | _ => cases e
theorem place_lt {sh : Sh} {y : T} {j : Nat} {a : Addr} {vs : List V} (hH : HoOk ca K H sh a vs) (e : place sh y = some (some j)) : j < vs.length := by
  cases sh with
  | dK lk ks =>
    simp only [place] at e
    cases q : keyOf y with
    | none => rw [q] at e; cases e
    | some k =>
      rw [q] at e
      simp only at e
      cases e' : placeG k ks 0 with
      | none => rw [e'] at e; cases e
      | some i =>
        rw [e'] at e
        cases e
        have z := (List.getElem?_eq_some_iff.mp (placeG_get e')).1
        have l : ks.length = vs.length := by cases lk <;> exact hH.2.1
        omega
  | dT lk ks =>
    simp only [place] at e
    cases y with
    | nd sh' ts =>
      cases sh' with
      | tup =>
        simp only at e
        cases q : keysOf ts with
        | none => rw [q] at e; cases e
        | some k =>
          rw [q] at e
          simp only at e
          cases e' : placeG k ks 0 with
          | none => rw [e'] at e; cases e
          | some i =>
            rw [e'] at e
            cases e
            have z := (List.getElem?_eq_some_iff.mp (placeG_get e')).1
            have l : ks.length = vs.length := by cases lk <;> exact hH.2.1
            omega
      | _ => cases e
    | _ => cases e
  | _ => cases e
theorem OpR.or4 {f : Value → Value → Sem Value} {r1 r2 r3 r4 : R2} (h1 : OpR X f r1) (h2 : OpR X f r2) (h3 : OpR X f r3) (h4 : OpR X f r4) : OpR X f (fun x y H Q => (r1 x y H Q ∨ r2 x y H Q) ∨ (r3 x y H Q ∨ r4 x y H Q)) := OpR.or (OpR.or h1 h2) (OpR.or h3 h4)
theorem hu1 (hu : X.A.units + 65 < cLine) : X.A.units + 1 < cLine := by omega
def rDIn (neg : Bool) : R2 := fun y x H Q => ∃ a o, x = .ref a ∧ DGet H a y o ∧ Q (.bl (if neg then !o.isSome else o.isSome)) H
theorem op_din (hu : X.A.units + 65 < cLine) : OpR X (compareOp .In) (rDIn false) := by
  intro pins s σ H x y v u Q I rx ry h
  obtain ⟨a, o, rfl, g, q⟩ := h
  cases ry
  exact d_in (hu1 hu) I g rx fun s' I' => ⟨.bl _, H, I', rfl, q⟩
theorem op_dnotin (hu : X.A.units + 65 < cLine) : OpR X (compareOp .NotIn) (rDIn true) := by
  intro pins s σ H x y v u Q I rx ry h
  obtain ⟨a, o, rfl, g, q⟩ := h
  cases ry
  exact d_notIn (hu1 hu) I g rx fun s' I' => ⟨.bl _, H, I', rfl, q⟩
abbrev rInC (K : PySem.W.Frag) : R2 := fun x y H Q => (((∃ (c : Nat) (z : Str), x = .str ⟨#[c]⟩ ∧ y = .str z ∧ Q (.bl (decide (c ∈ z.cps.toList))) H) ∨ (∃ i j, x = .str i ∧ y = .str j ∧ Q (.bl (!(Builtin.Str.occurrences j i 0 j.length 1).isEmpty)) H)) ∨ (rIn K false x y H Q ∨ rInD K x y H Q)) ∨ rDIn false x y H Q
abbrev rNotInC (K : PySem.W.Frag) : R2 := fun x y H Q => (((∃ (c : Nat) (z : Str), x = .str ⟨#[c]⟩ ∧ y = .str z ∧ Q (.bl (!decide (c ∈ z.cps.toList))) H) ∨ (∃ i j, x = .str i ∧ y = .str j ∧ Q (.bl (!(!(Builtin.Str.occurrences j i 0 j.length 1).isEmpty))) H)) ∨ (rIn K true x y H Q ∨ rNotInD K x y H Q)) ∨ rDIn true x y H Q
theorem op_inC (hu : X.A.units + 65 < cLine) : OpR X (compareOp .In) (rInC X.K) := OpR.or (OpR.or4 op_in_sign op_in_str op_in_seq (op_inD hu)) (op_din hu)
theorem op_notInC (hu : X.A.units + 65 < cLine) : OpR X (compareOp .NotIn) (rNotInC X.K) := OpR.or (OpR.or4 op_notIn_sign op_notIn_str op_notIn_seq (op_notInD hu)) (op_dnotin hu)
theorem flat_tV {t : T} (h : scalT t = true) : flatV (tV t) = true := by cases t <;> first | rfl | cases h
theorem vals_tV : ∀ {ts : List T} {Bs : List AT}, Rps ca K H po ts Bs → ts.all scalT = true → Bs.map AT.val = ts.map tV
  | [], [], _, _ => rfl
  | [], _ :: _, h, _ => by simp [Rps] at h
  | _ :: _, [], h, _ => by simp [Rps] at h
  | t :: ts, B :: Bs, h, z => by
    simp only [Rps] at h
    simp only [List.all_cons, Bool.and_eq_true] at z
    simp only [List.map_cons, tV_of h.1 z.1, vals_tV h.2 z.2]
theorem seq_of {sh : Sh} {a : Addr} {vs : List V} (hH : HoOk ca K H sh a vs) (nd : isDict sh = false) (ni : ∀ c fs, sh ≠ .ins c fs) : SqL K H a vs ∨ SqT K H a vs := by
  cases sh with
  | tup => exact .inr (SqT.of hH)
  | lst lk =>
    cases lk with
    | false => exact .inl (SqL.of hH)
    | true =>
      rcases hH with ⟨o, z⟩ | z
      · exact .inl (.inl (.inr ⟨o, z⟩))
      · exact .inl (.inr z)
  | dK _ _ => cases nd
  | dT _ _ => cases nd
  | ins c fs => exact absurd rfl (ni c fs)
theorem shaped_list {d : PyData} : True := trivial
/-- membership: what isinT finds is what the rule wants -/
theorem isin_post {Q : Bool → Hp → Prop} {x y : T} {A1 A2 : AT} (R : Rel ca K nv σ H s2 As2 Fs2 ((y, A2) :: (x, A1) :: E0)) (h : BPost ca K nv W σ s0 As0 Fs0 E0 Q (isinT x y s2)) :
    ∃ r, BPost ca K nv W σ s0 As0 Fs0 E0 Q (.ok r s2) ∧ ∀ Q' : VK, (Q' (.bl r) H → rInC K A1.val A2.val H Q') ∧ (Q' (.bl (!r)) H → rNotInC K A1.val A2.val H Q') := by
  unfold isinT at h
  split at h
  · rename_i bz
    have e2 := rp_str R.head
    subst e2
    split at h
    · rename_i az
      have e1 := rp_str R.second
      subst e1
      refine ⟨_, h, fun Q' => ?_⟩
      unfold isinS
      split
      · rename_i c hc
        have ea : az = ⟨#[c]⟩ := by
          cases az with
          | mk cps =>
            cases cps with
            | mk l => simp at hc; rw [hc]
        subst ea
        exact ⟨fun q => .inl (.inl (.inl ⟨c, bz, rfl, rfl, q⟩)), fun q => .inl (.inl (.inl ⟨c, bz, rfl, rfl, q⟩))⟩
      · exact ⟨fun q => .inl (.inl (.inr ⟨az, bz, rfl, rfl, q⟩)), fun q => .inl (.inl (.inr ⟨az, bz, rfl, rfl, q⟩))⟩
    · exact h.elim
  · obtain ⟨sh, ts, hl, h⟩ := Post.look h
    obtain ⟨_, a, Bs, ea, hH, la, hR, _, _⟩ := look_of R hl
    simp only at h
    cases nd : isDict sh with
    | true =>
      rw [nd] at h
      obtain ⟨j, hj, h⟩ := Post.opt h
      refine ⟨_, h, fun Q' => ?_⟩
      have g := dget_of hH R.second hj
      have ej : (j.bind ((Bs.map AT.val)[·]?)).isSome = j.isSome := by
        cases j with
        | none => rfl
        | some j => have z := place_lt hH hj; simp at z; simp [z]
      refine ⟨fun q => .inr ⟨a, _, ea, g, ?_⟩, fun q => .inr ⟨a, _, ea, g, ?_⟩⟩
      · simp only [Bool.false_eq_true, if_false, ej]; exact q
      · simp only [if_true, ej]; exact q
    | false =>
      rw [nd] at h
      simp only at h
      have key : (∀ c fs, sh ≠ .ins c fs) ∧ BPost ca K nv W σ s0 As0 Fs0 E0 Q ((match scalT x && ts.all scalT with
        | true => pure (ts.any fun t => L2.eqV (tV t) (tV x))
        | false => do
          let d ← dataOf x
          match ← dataOf y with
          | .list ds => pure (ds.any fun z => PyData.eqv z d)
          | _ => stuck "in" : M Bool) s2) := by
        cases sh with
        | ins c fs => exact h.elim
        | tup => exact ⟨by simp, h⟩
        | lst _ => exact ⟨by simp, h⟩
        | dK _ _ => exact ⟨by simp, h⟩
        | dT _ _ => exact ⟨by simp, h⟩
      obtain ⟨ni, h⟩ := key
      · cases z : scalT x && ts.all scalT with
        | true =>
          rw [z] at h
          obtain ⟨z1, z2⟩ := and2 z
          refine ⟨_, h, fun Q' => ?_⟩
          have hq := seq_of hH nd ni
          have ev := vals_tV hR z2
          have fs : (Bs.map AT.val).all flatV = true := by
            rw [ev, List.all_map]
            exact List.all_eq_true.mpr fun t ht => flat_tV (List.all_eq_true.mp z2 t ht)
          have ei : inV A1.val (Bs.map AT.val) = ts.any fun t => L2.eqV (tV t) (tV x) := by
            unfold inV
            rw [ev, List.any_map, tV_of R.second z1]
            rfl
          refine ⟨fun q => .inl (.inr (.inl ⟨a, Bs.map AT.val, ea, hq, by rw [tV_of R.second z1]; exact flat_tV z1, fs, ?_⟩)), fun q => .inl (.inr (.inl ⟨a, Bs.map AT.val, ea, hq, by rw [tV_of R.second z1]; exact flat_tV z1, fs, ?_⟩))⟩
          · simp only [Bool.false_eq_true, if_false, ei]; exact q
          · simp only [if_true, ei]; exact q
        | false =>
          rw [z] at h
          obtain ⟨d, hd, sd, h⟩ := Post.data R R.second h
          obtain ⟨e, he, se, h⟩ := Post.data R R.head h
          cases e with
          | list ds => exact ⟨_, h, fun Q' => ⟨fun q => .inl (.inr (.inr ⟨d, ds, hd, he, sd, se, q⟩)), fun q => .inl (.inr (.inr ⟨d, ds, hd, he, sd, se, q⟩))⟩⟩
          | _ => exact h.elim
theorem cmp_in (hu : X.A.units + 65 < cLine) : CmpOk X ca .In (cmpop .isin) := by
  refine ⟨_, op_inC hu, fun nv σ W s0 s2 As0 Fs0 As2 Fs2 E0 H Q Q' x y A1 A2 hQ R k h => ?_⟩
  obtain ⟨r, hr, g⟩ := isin_post R h
  exact (g Q').1 (hQ _ _ (BPost.val hr R.drop.drop k))
theorem cmp_notin (hu : X.A.units + 65 < cLine) : CmpOk X ca .NotIn (cmpop .notin) := by
  refine ⟨_, op_notInC hu, fun nv σ W s0 s2 As0 Fs0 As2 Fs2 E0 H Q Q' x y A1 A2 hQ R k h => ?_⟩
  have h' := BPost.notb (calm_isin x y) h
  obtain ⟨r, hr, g⟩ := isin_post R h'
  exact (g Q').2 (hQ _ _ (hr H As2 Fs2 [] rfl R.drop.drop k))
theorem cmp_isnot : CmpOk X ca .IsNot (cmpop .isnot) := by
  refine ⟨_, op_notN, fun nv σ W s0 s2 As0 Fs0 As2 Fs2 E0 H Q Q' x y A1 A2 hQ R k h => ?_⟩
  cases y with
  | non =>
    have e2 := rp_non R.head
    subst e2
    have h' := BPost.notb (calm_none x) h
    obtain ⟨r1, r2, hr⟩ := cmp_is (X := X) (ca := ca)
    refine ⟨rfl, ?_⟩
    cases x with
    | non => rw [rp_non R.second]; exact hQ _ _ (h' H As2 Fs2 [] rfl R.drop.drop k)
    | bl z => rw [rp_bl R.second]; exact hQ _ _ (h' H As2 Fs2 [] rfl R.drop.drop k)
    | int z => rw [rp_int R.second]; exact hQ _ _ (h' H As2 Fs2 [] rfl R.drop.drop k)
    | str z => rw [rp_str R.second]; exact hQ _ _ (h' H As2 Fs2 [] rfl R.drop.drop k)
    | nd sh ts => obtain ⟨a, Bs, e1, _⟩ := rp_nd R.second; subst e1; exact hQ _ _ (h' H As2 Fs2 [] rfl R.drop.drop k)
    | ptr c n p =>
      unfold isNone at h'
      simp only at h'
      rcases deref_cases c n p s2 with ⟨⟨x, sh, ts⟩, e⟩ | ⟨w, e⟩
      · obtain ⟨_, hx, hg, al, hs, nt⟩ := deref_of e
        obtain ⟨v, e1, hp⟩ := rp_ptr R.second
        obtain ⟨A', a, Bs, hA, hB, ev, hN⟩ := ptr_node R hp hx al hs nt
        subst e1 ev
        have h2 := Post.bind_ok (f := deref c n p) (g := fun _ => (Pure.pure false : M Bool)) e h'
        exact hQ _ _ (h2 H As2 Fs2 [] rfl R.drop.drop k)
      · exact (Post.bind_stuck (f := deref c n p) (g := fun _ => (Pure.pure false : M Bool)) e h').elim
    | hole => exact h'.elim
    | exc c => exact h'.elim
  | _ => exact h.elim
end
end Tk
end
section
/-! Tk10: cells: names, moves, what is taken out. -/
namespace Tk
open PySem L2
section
variable {X : Cx} {ca : Str → Addr} {K : PySem.W.Frag} {nv : Fr} {σ : L2.St} {H H' : Hp} {po : Po} {s s1 s2 s0 : St} {As Fs As1 Fs1 As2 Fs2 As0 Fs0 : List AT} {E E0 E' : List (T × AT)} {W : WX} {a b c e o : Expr} {fa fb fc : M T} {pos : Pos}
mutual
theorem below_top {m : Nat} : ∀ t : T, below m t = true ↔ top t ≤ m
  | .ptr c _ _ => by simp only [below, top, decide_eq_true_eq]; omega
  | .nd _ ts => by simp only [below, top]; exact belows_tops ts
  | .hole => by simp [below, top]
  | .non => by simp [below, top]
  | .bl _ => by simp [below, top]
  | .int _ => by simp [below, top]
  | .str _ => by simp [below, top]
  | .exc _ => by simp [below, top]
theorem belows_tops {m : Nat} : ∀ ts : List T, below.belows m ts = true ↔ top.tops ts ≤ m
  | [] => by simp [Tk.below.belows, Tk.top.tops]
  | t :: ts => by simp only [Tk.below.belows, Tk.top.tops, Bool.and_eq_true, below_top t, belows_tops ts]; omega
end
theorem below_setAt {m : Nat} {u : T} (hu : below m u = true) : ∀ (p : List Nat) (t : T), below m t = true → below m (setAt t p u) = true
  | [], t, h => by unfold setAt; exact hu
  | i :: p, t, h => by
    cases t with
    | nd sh ts =>
      simp only [setAt]
      cases e : ts[i]? with
      | none => simpa using h
      | some w =>
        simp only [below] at h ⊢
        refine belows_of fun v hv => ?_
        rcases List.mem_or_eq_of_mem_set hv with hv | hv
        · exact of_belows h v hv
        · rw [hv]
          exact below_setAt hu p w (of_belows h w (List.mem_of_getElem? e))
    | _ => simpa [setAt] using h
theorem get_put {c : Nat} {x x' : Cell} (h : s.get c = some x) : (s.put c x').S ++ (s.put c x').F = (s.S ++ s.F).set c x' ∧ (s.put c x').S.length = s.S.length ∧ (s.put c x').F.length = s.F.length := by
  unfold St.put
  by_cases hc : c < s.S.length
  · rw [if_pos hc]
    refine ⟨?_, by simp, rfl⟩
    rw [List.set_append_left _ _ hc]
  · rw [if_neg hc]
    refine ⟨?_, rfl, by simp⟩
    rw [List.set_append_right _ _ (by omega)]
/-- ONE CELL IS ANOTHER -/
theorem Rel.cell {c : Nat} {x x' : Cell} {A A' : AT} (R : Rel ca K nv σ H s As Fs E) (hx : s.get c = some x) (hA : (As ++ Fs)[c]? = some A)
    (J : Sim ca K H' ((s.S ++ s.F).set c x') ((As ++ Fs).set c A') E') (v : x'.val ≠ .hole → x.val ≠ .hole ∧ A'.val = A.val)
    (lo : c < s.S.length → top x'.val ≤ top x.val) (hi : below (s.S.length + s.F.length) x'.val = true) (bE : ∀ q ∈ E', below (s.S.length + s.F.length) q.1 = true) :
    ∃ As' Fs', Rel ca K nv σ H' (s.put c x') As' Fs' E' ∧ Kp s (s.put c x') As As' := by
  obtain ⟨e1, e2, e3⟩ := get_put (x' := x') hx
  have la := R.la
  have lf := R.lf
  by_cases hc : c < s.S.length
  · have ep : s.put c x' = ⟨s.S.set c x', s.F⟩ := by unfold St.put; rw [if_pos hc]
    have hxS : s.S[c]? = some x := by unfold St.get at hx; rw [if_pos hc] at hx; exact hx
    have hAS : As[c]? = some A := by rw [List.getElem?_append_left (by omega)] at hA; exact hA
    have lo := lo hc
    rw [ep]
    refine ⟨As.set c A', Fs, ⟨?_, by simpa using la, R.mt, R.sv, R.ln, fun y hy => ?_, ?_, ?_⟩, ⟨by simp, rfl, by simp, fun i y B h1 h2 h3 => ?_, fun i y h1 => ?_⟩⟩
    · show Sim ca K H' (s.S.set c x' ++ s.F) (As.set c A' ++ Fs) E'
      rw [← List.set_append_left _ _ hc, ← List.set_append_left _ _ (by omega)]
      exact J
    · show below (s.S.set c x').length y.val = true
      rw [List.length_set]
      rcases List.mem_or_eq_of_mem_set hy with hy | hy
      · exact R.bS y hy
      · rw [hy]
        have z := (below_top _).mp (R.bS x (List.mem_of_getElem? hxS))
        exact (below_top _).mpr (by omega)
    · show ∀ y ∈ s.F, below ((s.S.set c x').length + s.F.length) y.val = true
      rw [List.length_set]; exact R.bF
    · show ∀ q ∈ E', below ((s.S.set c x').length + s.F.length) q.1 = true
      rw [List.length_set]; exact bE
    · by_cases e : c = i
      · subst e
        have h1 : (s.S.set c x')[c]? = some y := h1
        rw [List.getElem?_set_self hc] at h1
        rw [List.getElem?_set_self (by omega)] at h2
        cases h1; cases h2
        exact ⟨x, A, hxS, hAS, v h3⟩
      · have h1 : (s.S.set c x')[i]? = some y := h1
        rw [List.getElem?_set_ne e] at h1 h2
        exact ⟨y, B, h1, h2, h3, rfl⟩
    · by_cases e : c = i
      · subst e
        have h1 : (s.S.set c x')[c]? = some y := h1
        rw [List.getElem?_set_self hc] at h1
        cases h1
        exact ⟨x, hxS, fun m z => (below_top _).mpr (Nat.le_trans lo ((below_top _).mp z))⟩
      · have h1 : (s.S.set c x')[i]? = some y := h1
        rw [List.getElem?_set_ne e] at h1
        exact ⟨y, h1, fun m z => z⟩
  · have ep : s.put c x' = ⟨s.S, s.F.set (c - s.S.length) x'⟩ := by unfold St.put; rw [if_neg hc]
    have hxF : s.F[c - s.S.length]? = some x := by unfold St.get at hx; rw [if_neg hc] at hx; exact hx
    have hAF : Fs[c - As.length]? = some A := by rw [List.getElem?_append_right (by omega)] at hA; exact hA
    rw [ep]
    refine ⟨As, Fs.set (c - As.length) A', ⟨?_, la, fun i y B hi h1 h2 h3 => ?_, R.sv, R.ln, R.bS, fun y hy => ?_, ?_⟩, ⟨rfl, by simp, rfl, fun i y B h1 h2 h3 => ⟨y, B, h1, h2, h3, rfl⟩, fun i y h1 => ⟨y, h1, fun m z => z⟩⟩⟩
    · show Sim ca K H' (s.S ++ s.F.set (c - s.S.length) x') (As ++ Fs.set (c - As.length) A') E'
      rw [← List.set_append_right _ _ (by omega), ← List.set_append_right _ _ (by omega)]
      exact J
    · have h1 : (s.F.set (c - s.S.length) x')[i]? = some y := h1
      by_cases e : c - s.S.length = i
      · subst e
        rw [List.getElem?_set_self (List.getElem?_eq_some_iff.mp hxF).1] at h1
        rw [la, List.getElem?_set_self (List.getElem?_eq_some_iff.mp hAF).1] at h2
        cases h1; cases h2
        obtain ⟨v1, v2⟩ := v h3
        rw [v2]
        exact R.mt _ x A hi hxF (by rw [la]; exact hAF) v1
      · rw [List.getElem?_set_ne e] at h1
        rw [List.getElem?_set_ne (by omega)] at h2
        exact R.mt i y B hi h1 h2 h3
    · have hy : y ∈ s.F.set (c - s.S.length) x' := hy
      show below (s.S.length + (s.F.set (c - s.S.length) x').length) y.val = true
      rw [List.length_set]
      rcases List.mem_or_eq_of_mem_set hy with hy | hy
      · exact R.bF y hy
      · rw [hy]; exact hi
    · show ∀ q ∈ E', below (s.S.length + (s.F.set (c - s.S.length) x').length) q.1 = true
      rw [List.length_set]; exact bE
/-- a value's run that ends well -/
theorem se_ret {t : TE} {f : M T} (h : PE X e t) (hf : ∀ (nv : Fr) (σ : L2.St) (s : St) (As Fs : List AT) (E : List (T × AT)) (H : Hp) (Q : VK), Rel ca X.K nv σ H s As Fs E → VPost ca X.K nv W σ s As Fs E Q (f s) → t σ H Q) (nv : Fr) : PE X e (RdE ca X.K nv W f) :=
  ⟨fun pins st σ H Q I ⟨s, As, Fs, E, R, q⟩ => h.run pins st σ H Q I (hf nv σ s As Fs E H Q R q)⟩
theorem get_F {i : Nat} {x : Cell} (h : s.F[i]? = some x) : s.get (s.S.length + i) = some x ∧ (s.S ++ s.F)[s.S.length + i]? = some x := by
  have z : s.get (s.S.length + i) = some x := by
    unfold St.get
    rw [if_neg (by omega), Nat.add_sub_cancel_left]; exact h
  exact ⟨z, get_cell z⟩
theorem Rel.atF (R : Rel ca K nv σ H s As Fs E) {i : Nat} {x : Cell} (h : s.F[i]? = some x) : ∃ A, Fs[i]? = some A ∧ (As ++ Fs)[s.S.length + i]? = some A ∧ Rp ca K H (PoS (s.S ++ s.F) (As ++ Fs)) x.val A := by
  obtain ⟨A, hA, hR⟩ := R.sim.cell (get_F h).2
  refine ⟨A, ?_, hA, hR⟩
  rw [List.getElem?_append_right (by have := R.la; omega)] at hA
  have la := R.la
  rw [show s.S.length + i - As.length = i by omega] at hA
  exact hA
theorem Rel.look {i : Nat} {x : Cell} (R : Rel ca K nv σ H s As Fs E) (hi : i < nv.n) (hx : s.F[i]? = some x) (nh : x.val ≠ .hole) :
    ∃ A, σ[i]? = some (some A.val) ∧ Rel ca K nv σ H s As Fs ((view (s.S.length + i) x.log.length x.val [], A) :: E) := by
  obtain ⟨A, h1, h2, h3⟩ := R.atF hx
  refine ⟨viewA x.val A, by rw [viewA_val]; exact R.mt i x A hi hx h1 nh, ?_⟩
  refine R.push (view_ok (get_F hx).2 h2 x.val A [] (by unfold sub; rfl) (by unfold AT.at; rfl) h3) (fun b => viewA_cnt _ _ h3) ?_
  have hl := (List.getElem?_eq_some_iff.mp hx).1
  exact below_view (by omega) _ _ (R.below_cell (get_F hx).2)
theorem se_var {i : Nat} {x : Str} (nv : Fr) (hi : i < nv.n) (hN : X.N[i]? = some x) (hv : Vis X.env.scope x) (hd : (x == ("__debug__" : Str)) = false) (hc : (x == ("__classdict__" : Str)) = false) : PE X (.Name x pos) (RdE ca X.K nv W (getVar i)) := by
  refine ⟨fun pins st σ H Q I ⟨s, As, Fs, E, R, q⟩ => (pe_var hN hv hd hc).run pins st σ H Q I ?_⟩
  unfold getVar at q
  cases hx : s.F[i]? with
  | none => simp only [hx] at q; exact q.elim
  | some x =>
    simp only [hx] at q
    by_cases nh : x.val = .hole
    · rw [nh] at q; exact q.elim
    · obtain ⟨A, h1, R'⟩ := R.look hi hx nh
      refine ⟨A.val, h1, ?_⟩
      cases hv : x.val with
      | hole => exact absurd hv nh
      | _ => rw [hv] at q R'; exact Post.val q R' Kp.refl
theorem se_mvv {i : Nat} {x : Str} (nv : Fr) (hi : i < nv.n) (hN : X.N[i]? = some x) (hv : Vis X.env.scope x) (hd : (x == ("__debug__" : Str)) = false) (hc : (x == ("__classdict__" : Str)) = false) : PE X (.Name x pos) (RdE ca X.K nv W (moveVar i)) := by
  refine ⟨fun pins st σ H Q I ⟨s, As, Fs, E, R, q⟩ => (pe_var hN hv hd hc).run pins st σ H Q I ?_⟩
  unfold moveVar at q
  cases hx : s.F[i]? with
  | none => simp only [hx] at q; exact q.elim
  | some x =>
    simp only [hx] at q
    by_cases nh : x.val = .hole
    · rw [nh] at q; exact q.elim
    · obtain ⟨A, h1, h2, h3⟩ := R.atF hx
      refine ⟨A.val, R.mt i x A hi hx h1 nh, ?_⟩
      have hl := (List.getElem?_eq_some_iff.mp hx).1
      have bx := R.below_cell (get_F hx).2
      have q' : VPost ca X.K nv W σ s As Fs E Q ((match noMut x.val with
        | true => Res.ok x.val s
        | false => Res.ok x.val ⟨s.S, s.F.set i ⟨x.log ++ [([], true)], .hole⟩⟩ : Res St T)) := by
        cases hv : x.val with
        | hole => exact absurd hv nh
        | _ => rw [hv] at q; exact q
      cases nm : noMut x.val with
      | true =>
        rw [nm] at q'
        exact Post.val q' (R.push h3 (fun b => Rp.flat b _ _ nm h3) bx) Kp.refl
      | false =>
        rw [nm] at q'
        have J := R.sim.takeOut (get_F hx).2 h2 (p := []) (t := x.val) (B := A) (by unfold sub; rfl) (by unfold AT.at; rfl)
        have e1 : setAt x.val [] .hole = .hole := by unfold setAt; rfl
        have e2 : A.setAt [] (.lf A.val) = .lf A.val := by unfold AT.setAt; rfl
        rw [e1, e2] at J
        obtain ⟨As', Fs', R', k⟩ := R.cell (x' := ⟨x.log ++ [([], true)], .hole⟩) (get_F hx).1 h2 J (fun z => absurd rfl z) (fun z => by simp [top]) rfl (fun r hr => by
          rcases List.mem_cons.mp hr with e | hr
          · rw [e]; exact bx
          · exact R.bE r hr)
        have ep : s.put (s.S.length + i) ⟨x.log ++ [([], true)], .hole⟩ = ⟨s.S, s.F.set i ⟨x.log ++ [([], true)], .hole⟩⟩ := by
          unfold St.put
          rw [if_neg (by omega), Nat.add_sub_cancel_left]
        rw [ep] at R' k
        exact Post.val q' R' k
/-! ### what is taken out -/
mutual
theorem take_of : ∀ (v : T) (A : AT) (s : St) (As Fs : List AT) (E : List (T × AT)), Rel ca K nv σ H s As Fs ((v, A) :: E) →
    (∃ t s' As' Fs' B, take v s = .ok t s' ∧ B.val = A.val ∧ Rel ca K nv σ H s' As' Fs' ((t, B) :: E) ∧ Kp s s' As As') ∨ ∃ w, take v s = .stuck w
  | .ptr c n p, A, s, As, Fs, E, R => by
    unfold take
    cases hc : decide (s.S.length ≤ c) with
    | false => exact .inl ⟨_, s, As, Fs, A, rfl, rfl, R, Kp.refl⟩
    | true =>
      simp only
      rcases deref_cases c n p s with ⟨⟨x, sh, ts⟩, e⟩ | ⟨w, e⟩
      · obtain ⟨_, hx, hg, al, hs, nt⟩ := deref_of e
        obtain ⟨v, eA, hp⟩ := rp_ptr R.head
        subst eA
        obtain ⟨A', a, Bs, hA, hB, ev, hN⟩ := ptr_node R hp hx al hs nt
        subst ev
        rw [e]
        have R0 := R.drop
        have J := R0.sim.takeOut hx hA hs hB
        have bx := R0.below_cell hx
        have hv : setAt x.val p .hole ≠ .hole → x.val ≠ .hole ∧ (A'.setAt p (.lf (AT.nd (own sh) a Bs).val)).val = A'.val := fun z => by
          cases p with
          | nil => exact absurd (by unfold setAt; rfl) z
          | cons i p => 
            refine ⟨fun hh => ?_, val_setAt _ _ _ _ hB rfl⟩
            rw [hh] at hs
            simp [sub] at hs
        obtain ⟨As', Fs', R', k⟩ := R0.cell (x' := ⟨x.log ++ [(p, true)], setAt x.val p .hole⟩) hg hA J hv (fun z => by have := of_decide_eq_true hc; omega) (below_setAt rfl p _ bx) (fun r hr => by
          rcases List.mem_cons.mp hr with e | hr
          · rw [e]; exact below_sub bx hs
          · exact R0.bE r hr)
        exact .inl ⟨_, _, As', Fs', .nd (own sh) a Bs, rfl, rfl, R', k⟩
      · exact .inr ⟨w, by rw [e]⟩
  | .nd sh ts, A, s, As, Fs, E, R => by
    by_cases e : sh = .tup
    · subst e
      obtain ⟨a, Bs, eA, hH, hl, hR⟩ := rp_nd R.head
      subst eA
      obtain ⟨_, a', Bs', e1, hH', hl', _, _, R1⟩ := look_of (ts := ts) (sh := .tup) (s1 := s) R rfl
      have e2 : a' = a := by cases e1; rfl
      subst e2
      have hu : take (.nd .tup ts) s = M.bind (take.takes ts) (fun r => (pure (.nd .tup r) : M T)) s := by unfold take; rfl
      rcases takes_of ts Bs' s As Fs E hl' R1 with ⟨us, s', As', Fs', Cs, h1, h2, h3, h4, h5⟩ | ⟨w, h1⟩
      · left
        refine ⟨.nd .tup us, s', As', Fs', .nd false a' Cs, ?_, rfl, ?_, h5⟩
        · rw [hu]; unfold M.bind; rw [h1]; rfl
        · refine tup_again h4 h3 ?_
          rw [h2]; exact hH'
      · right
        refine ⟨w, ?_⟩
        rw [hu]; unfold M.bind; rw [h1]
    · have hu : take (.nd sh ts) s = .ok (.nd sh ts) s := by
        cases sh <;> first | exact absurd rfl e | (unfold take; rfl)
      exact .inl ⟨_, s, As, Fs, A, hu, rfl, R, Kp.refl⟩
  | .hole, A, s, As, Fs, E, R => .inl ⟨_, s, As, Fs, A, by unfold take; rfl, rfl, R, Kp.refl⟩
  | .non, A, s, As, Fs, E, R => .inl ⟨_, s, As, Fs, A, by unfold take; rfl, rfl, R, Kp.refl⟩
  | .bl _, A, s, As, Fs, E, R => .inl ⟨_, s, As, Fs, A, by unfold take; rfl, rfl, R, Kp.refl⟩
  | .int _, A, s, As, Fs, E, R => .inl ⟨_, s, As, Fs, A, by unfold take; rfl, rfl, R, Kp.refl⟩
  | .str _, A, s, As, Fs, E, R => .inl ⟨_, s, As, Fs, A, by unfold take; rfl, rfl, R, Kp.refl⟩
  | .exc _, A, s, As, Fs, E, R => .inl ⟨_, s, As, Fs, A, by unfold take; rfl, rfl, R, Kp.refl⟩
theorem takes_of : ∀ (ts : List T) (Bs : List AT) (s : St) (As Fs : List AT) (E : List (T × AT)), ts.length = Bs.length → Rel ca K nv σ H s As Fs (ts.zip Bs ++ E) →
    (∃ us s' As' Fs' Cs, take.takes ts s = .ok us s' ∧ Cs.map AT.val = Bs.map AT.val ∧ us.length = Cs.length ∧ Rel ca K nv σ H s' As' Fs' (us.zip Cs ++ E) ∧ Kp s s' As As') ∨ ∃ w, take.takes ts s = .stuck w
  | [], [], s, As, Fs, E, _, R => .inl ⟨[], s, As, Fs, [], by unfold take.takes; rfl, rfl, rfl, R, Kp.refl⟩
  | [], _ :: _, _, _, _, _, h, _ => by simp at h
  | _ :: _, [], _, _, _, _, h, _ => by simp at h
  | t :: ts, B :: Bs, s, As, Fs, E, hl, R => by
    have hu : take.takes (t :: ts) s = M.bind (take t) (fun r => M.bind (take.takes ts) (fun rs => (pure (r :: rs) : M (List T)))) s := by rw [take.takes]; rfl
    have R1 : Rel ca K nv σ H s As Fs ((t, B) :: (ts.zip Bs ++ E)) := R
    rcases take_of t B s As Fs (ts.zip Bs ++ E) R1 with ⟨u, s1, As1, Fs1, C, h1, h2, h3, h4⟩ | ⟨w, h1⟩
    · have R2 : Rel ca K nv σ H s1 As1 Fs1 (ts.zip Bs ++ ((u, C) :: E)) := h3.perm (by
        refine List.perm_middle.symm)
      rcases takes_of ts Bs s1 As1 Fs1 ((u, C) :: E) (by simpa using hl) R2 with ⟨us, s', As', Fs', Cs, g1, g2, g3, g4, g5⟩ | ⟨w, g1⟩
      · left
        refine ⟨u :: us, s', As', Fs', C :: Cs, ?_, ?_, ?_, ?_, h4.trans g5⟩
        · rw [hu]; unfold M.bind; rw [h1]; simp only; rw [g1]; rfl
        · simp only [List.map_cons, h2, g2]
        · simp only [List.length_cons, g3]
        · exact g4.perm List.perm_middle
      · right
        exact ⟨w, by rw [hu]; unfold M.bind; rw [h1]; simp only; rw [g1]⟩
    · right
      exact ⟨w, by rw [hu]; unfold M.bind; rw [h1]⟩
end
theorem se_mv {f : M T} (h : PE X e (RdE ca X.K nv W f)) : PE X e (RdE ca X.K nv W (do let x ← f; take x)) := by
  refine ⟨fun pins st σ H Q I ⟨s, As, Fs, E, R, q⟩ => h.run pins st σ H Q I ?_⟩
  refine rd_one R q fun x s2 H2 As2 Fs2 A1 R2 k2 h2 => ?_
  rcases take_of x A1 s2 As2 Fs2 E R2 with ⟨t, s', As', Fs', B, e1, e2, R', k'⟩ | ⟨w, e1⟩
  · rw [e1] at h2
    rw [← e2]
    exact Post.val h2 R' (k2.trans k')
  · rw [e1] at h2
    exact h2.elim
end
end Tk
end
section
/-! Tk11: expressions. -/
namespace Tk
open PySem L2
section
variable {X : Cx} {ca : Str → Addr} {K : PySem.W.Frag} {nv : Fr} {σ : L2.St} {H H' : Hp} {po : Po} {s s1 s2 s0 : St} {As Fs As1 Fs1 As2 Fs2 As0 Fs0 : List AT} {E E0 E' : List (T × AT)} {W : WX} {a b c e o : Expr} {fa fb fc : M T} {ft ft' : M Bool} {fas : M (List T)} {pos : Pos} {es : List Expr} {rest : List Expr}
theorem Post.step {α : Type} {D : α → List T} {Φ : α → List AT → Hp → St → List AT → List AT → Prop} {r : Res St α} (h : Post ca K nv D W σ s0 As0 Fs0 E Φ r) (k : Kp s0 s2 As0 As2) : Post ca K nv D W σ s2 As2 Fs2 E Φ r := by
  cases r with
  | ok a s' => exact fun H' As' Fs' Ds hl R k' => h H' As' Fs' Ds hl R (k.trans k')
  | exc c pl s' => exact fun H' As' Fs' R k' => h H' As' Fs' R (k.trans k')
  | stuck w => exact h
theorem Post.stepE {α : Type} {D : α → List T} {Φ : α → List AT → Hp → St → List AT → List AT → Prop} {r : Res St α} {q : T × AT} (h : Post ca K nv D W σ s0 As0 Fs0 E Φ r) (k : Kp s0 s2 As0 As2) : Post ca K nv D W σ s2 As2 Fs2 E Φ r := h.step k
/-! ### constants -/
theorem se_int {i : Int} {j : Nat} (nv : Fr) : PE X (.Constant (.int i) j pos) (RdE ca X.K nv W (pure (.int i))) :=
  se_ret pe_int (fun nv σ s As Fs E H Q R q => Post.val q (R.int i) Kp.refl) nv
theorem se_bl {i : Bool} {j : Nat} (nv : Fr) : PE X (.Constant (.bool i) j pos) (RdE ca X.K nv W (pure (.bl i))) :=
  se_ret pe_bl (fun nv σ s As Fs E H Q R q => Post.val q (R.bl i) Kp.refl) nv
theorem se_str {i : Str} {j : Nat} (nv : Fr) : PE X (.Constant (.str i) j pos) (RdE ca X.K nv W (pure (.str i))) :=
  se_ret pe_str (fun nv σ s As Fs E H Q R q => Post.val q (R.str i) Kp.refl) nv
theorem se_non {j : Nat} (nv : Fr) : PE X (.Constant .none j pos) (RdE ca X.K nv W (pure .non)) :=
  se_ret pe_non (fun nv σ s As Fs E H Q R q => Post.val q R.non Kp.refl) nv
/-- a global that is a plain value -/
def immV : T → Option V
  | .non => some .non | .bl b => some (.bl b) | .int i => some (.int i) | .str z => some (.str z) | _ => none
theorem Rel.immV {t : T} {v : V} (R : Rel ca K nv σ H s As Fs E) (h : immV t = some v) : Rel ca K nv σ H s As Fs ((t, .lf v) :: E) := by
  cases t with
  | non => cases h; exact R.non
  | bl b => cases h; exact R.bl b
  | int i => cases h; exact R.int i
  | str z => cases h; exact R.str z
  | _ => cases h
theorem se_glo {x : Str} {t : T} {v : V} {u : Value} (nv : Fr) (hg : Gl X x) (hm : X.mg x = some u) (r : RelV v u) (h : immV t = some v) (hd : (x == ("__debug__" : Str)) = false) : PE X (.Name x pos) (RdE ca X.K nv W (pure t)) :=
  se_ret (pe_glob hg hm r hd) (fun nv σ s As Fs E H Q R q => Post.val q (R.immV h) Kp.refl) nv
/-! ### one-place -/
theorem se_neg (ha : PE X a (RdE ca X.K nv W fa)) : PE X (.UnaryOp .USub a pos) (RdE ca X.K nv W (do
    match ← fa with
    | .int i => pure (.int (-i))
    | _ => stuck "neg")) := by
  refine ⟨fun pins st σ H Q I ⟨s, As, Fs, E, R, q⟩ => (pe_un un_neg ha).run pins st σ H Q I ?_⟩
  refine rd_one R q fun x s2 H2 As2 Fs2 A1 R2 k2 h2 => ?_
  cases x with
  | int i =>
    have e1 := rp_int R2.head
    subst e1
    exact ⟨i, rfl, Post.val h2 (R2.drop.int _) k2⟩
  | _ => exact h2.elim
theorem Post.asB {α : Type} {D : α → List T} {Φ : α → List AT → Hp → St → List AT → List AT → Prop} {x : T} {g : Bool → M α} (h : Post ca K nv D W σ s0 As0 Fs0 E0 Φ ((Tk.asB x >>= g) s)) : ∃ b, x = .bl b ∧ Post ca K nv D W σ s0 As0 Fs0 E0 Φ (g b s) := by
  cases x with
  | bl b => exact ⟨b, rfl, h⟩
  | _ => exact h.elim
theorem se_not (ha : PE X a (RdE ca X.K nv W fa)) : PE X (.UnaryOp .Not a pos) (RdE ca X.K nv W (do
    let x ← fa
    let b ← Tk.asB x
    pure (.bl !b))) := by
  refine ⟨fun pins st σ H Q I ⟨s, As, Fs, E, R, q⟩ => (pe_not ha).run pins st σ H Q I ?_⟩
  refine rd_one R q fun x s2 H2 As2 Fs2 A1 R2 k2 h2 => ?_
  obtain ⟨b, e, h2⟩ := h2.asB
  subst e
  have e1 := rp_bl R2.head
  subst e1
  exact ⟨b, rfl, Post.val h2 (R2.drop.bl _) k2⟩
theorem se_and (ha : PE X a (RdE ca X.K nv W fa)) (hb : PE X (.BoolOp .And (b :: rest) pos) (RdE ca X.K nv W fb)) : PE X (.BoolOp .And (a :: b :: rest) pos) (RdE ca X.K nv W (do
    let x ← fa
    let c ← Tk.asB x
    match c with
    | true => fb
    | false => pure (.bl false))) := by
  refine ⟨fun pins st σ H Q I ⟨s, As, Fs, E, R, q⟩ => (pe_and ha hb).run pins st σ H Q I ?_⟩
  refine rd_one R q fun x s2 H2 As2 Fs2 A1 R2 k2 h2 => ?_
  obtain ⟨b, e, h2⟩ := h2.asB
  subst e
  have e1 := rp_bl R2.head
  subst e1
  cases b with
  | true => exact ⟨true, rfl, by rw [if_pos rfl]; exact ⟨s2, As2, Fs2, E, R2.drop, h2.step k2⟩⟩
  | false => exact ⟨false, rfl, by rw [if_neg (by simp)]; exact Post.val h2 (R2.drop.bl _) k2⟩
theorem se_or (ha : PE X a (RdE ca X.K nv W fa)) (hb : PE X (.BoolOp .Or (b :: rest) pos) (RdE ca X.K nv W fb)) : PE X (.BoolOp .Or (a :: b :: rest) pos) (RdE ca X.K nv W (do
    let x ← fa
    let c ← Tk.asB x
    match c with
    | true => pure (.bl true)
    | false => fb)) := by
  refine ⟨fun pins st σ H Q I ⟨s, As, Fs, E, R, q⟩ => (pe_or ha hb).run pins st σ H Q I ?_⟩
  refine rd_one R q fun x s2 H2 As2 Fs2 A1 R2 k2 h2 => ?_
  obtain ⟨b, e, h2⟩ := h2.asB
  subst e
  have e1 := rp_bl R2.head
  subst e1
  cases b with
  | true => exact ⟨true, rfl, by rw [if_pos rfl]; exact Post.val h2 (R2.drop.bl _) k2⟩
  | false => exact ⟨false, rfl, by rw [if_neg (by simp)]; exact ⟨s2, As2, Fs2, E, R2.drop, h2.step k2⟩⟩
/-! ### tests -/
theorem st_val (ha : PE X e (RdE ca X.K nv W fa)) (he : ∀ whole, isTrue e X.env whole = (do let v ← whole; standAt e.pos; holding [v] (truthy v))) : PT X e (RdT ca X.K nv W (do let x ← fa; Tk.asB x)) := by
  refine ⟨fun pins st σ H Q I ⟨s, As, Fs, E, R, q⟩ => (pt_val ha he).run pins st σ H Q I ?_⟩
  refine rd_one R q fun x s2 H2 As2 Fs2 A1 R2 k2 h2 => ?_
  cases x with
  | bl b =>
    have e1 := rp_bl R2.head
    subst e1
    exact ⟨b, rfl, h2 H2 As2 Fs2 [] rfl R2.drop k2⟩
  | _ => exact h2.elim
theorem st_not (ha : PT X a (RdT ca X.K nv W ft)) : PT X (.UnaryOp .Not a pos) (RdT ca X.K nv W (do let b ← ft; pure !b)) := by
  refine ⟨fun pins st σ H Q I ⟨s, As, Fs, E, R, q⟩ => (pt_not ha).run pins st σ H Q I ?_⟩
  exact rd_test R q fun b s2 H2 As2 Fs2 R2 k2 h2 => h2 H2 As2 Fs2 [] rfl R2 k2
theorem sw_and (ha : PT X a (RdT ca X.K nv W ft)) (hb : PW X (.BoolOp .And (b :: rest) pos) (RdT ca X.K nv W ft')) : PW X (.BoolOp .And (a :: b :: rest) pos) (RdT ca X.K nv W (do
    let c ← ft
    match c with
    | true => ft'
    | false => pure false)) := by
  refine ⟨fun wh pins st σ H Q I ⟨s, As, Fs, E, R, q⟩ => (pw_and ha hb).run wh pins st σ H Q I ?_⟩
  refine rd_test R q fun b s2 H2 As2 Fs2 R2 k2 h2 => ?_
  cases b with
  | true => rw [if_pos rfl]; exact ⟨s2, As2, Fs2, E, R2, h2.step k2⟩
  | false => rw [if_neg (by simp)]; exact h2 H2 As2 Fs2 [] rfl R2 k2
theorem sw_or (ha : PT X a (RdT ca X.K nv W ft)) (hb : PW X (.BoolOp .Or (b :: rest) pos) (RdT ca X.K nv W ft')) : PW X (.BoolOp .Or (a :: b :: rest) pos) (RdT ca X.K nv W (do
    let c ← ft
    match c with
    | true => pure true
    | false => ft')) := by
  refine ⟨fun wh pins st σ H Q I ⟨s, As, Fs, E, R, q⟩ => (pw_or ha hb).run wh pins st σ H Q I ?_⟩
  refine rd_test R q fun b s2 H2 As2 Fs2 R2 k2 h2 => ?_
  cases b with
  | true => rw [if_pos rfl]; exact h2 H2 As2 Fs2 [] rfl R2 k2
  | false => rw [if_neg (by simp)]; exact ⟨s2, As2, Fs2, E, R2, h2.step k2⟩
/-! ### chains -/
theorem BPost.out {Q : Bool → Hp → Prop} {f : M Bool} {α : Type} {D : α → List T} {Φ : α → List AT → Hp → St → List AT → List AT → Prop} {g : Bool → M α} (cf : Calm f) (h : Post ca K nv D W σ s0 As0 Fs0 E0 Φ ((f >>= g) s))
    (fin : ∀ b s', f s = .ok b s' → Post ca K nv D W σ s0 As0 Fs0 E0 Φ (g b s')) : True := trivial
theorem calmok {f : M Bool} {α : Type} {D : α → List T} {Φ : α → List AT → Hp → St → List AT → List AT → Prop} {g : Bool → M α} (cf : Calm f) (h : Post ca K nv D W σ s0 As0 Fs0 E0 Φ ((f >>= g) s)) : ∃ b s', f s = .ok b s' ∧ Post ca K nv D W σ s0 As0 Fs0 E0 Φ (g b s') := by
  cases e : f s with
  | ok b s' => exact ⟨b, s', rfl, h.bind_ok e⟩
  | exc c pl s' => exact absurd e (cf s c pl s')
  | stuck w => exact (h.bind_stuck e).elim
/-! ### displays and arguments -/
theorem zip_maps {α β : Type} : ∀ xs : List (α × β), (xs.map (·.1)).zip (xs.map (·.2)) = xs
  | [] => rfl
  | x :: xs => by simp only [List.map_cons, List.zip_cons_cons, zip_maps xs]
theorem sa_nil (nv : Fr) : PA X [] (RdA ca X.K nv W (pure [])) :=
  ⟨fun pos pins st σ H Q I ⟨s, As, Fs, E, R, q⟩ => pa_nil.run pos pins st σ H Q I (q H As Fs [] rfl R Kp.refl)⟩
theorem sa_cons (ha : PE X e (RdE ca X.K nv W fa)) (hr : PA X es (RdA ca X.K nv W fas)) (hs : starEach (e :: es) X.env = (false, eval e X.env) :: starEach es X.env) : PA X (e :: es) (RdA ca X.K nv W (do
    let t ← fa
    let ts ← fas
    pure (t :: ts))) := by
  refine ⟨fun pos pins st σ H Q I ⟨s, As, Fs, E, R, q⟩ => (pa_cons ha hr hs).run pos pins st σ H Q I ?_⟩
  refine rd_one R q fun x s2 H2 As2 Fs2 A1 R2 k2 h2 => ?_
  refine rd_args (E := (x, A1) :: E) (D := id) (Φ := fun _ Ds H' _ _ _ => Q (A1.val :: (Ds.map AT.val)) H') (fa := fas) (k := fun ts => pure ts) R2 ?_ fun xs s3 H3 As3 Fs3 R3 k3 h3 => ?_
  · have h2' : Post ca X.K nv id W σ s As Fs E (fun _ Ds H' _ _ _ => Q (Ds.map AT.val) H') (M.bind fas (fun ts => (pure (x :: ts) : M (List T))) s2) := h2
    show Post ca X.K nv id W σ s2 As2 Fs2 ((x, A1) :: E) _ (M.bind fas (fun ts => (pure ts : M (List T))) s2)
    unfold M.bind at h2' ⊢
    cases e : fas s2 with
    | ok ts s3 =>
      rw [e] at h2'
      intro H' As' Fs' Ds hl R' k'
      exact h2' H' As' Fs' (A1 :: Ds) (by simpa using hl) (R'.perm List.perm_middle) (k2.trans k')
    | exc c pl s3 =>
      rw [e] at h2'
      intro H' As' Fs' R' k'
      exact h2' H' As' Fs' R'.drop (k2.trans k')
    | stuck w => rw [e] at h2'; exact h2'
  · have hl : (xs.map (·.2)).length = (xs.map (·.1)).length := by simp
    have hz : (xs.map (·.1)).zip (xs.map (·.2)) = xs := zip_maps xs
    exact h3 H3 As3 Fs3 (xs.map (·.2)) hl (by show Rel ca X.K nv σ H3 s3 As3 Fs3 ((xs.map (·.1)).zip (xs.map (·.2)) ++ (x, A1) :: E); rw [hz]; exact R3) k3
theorem se_tup {x1 : Nat} (h : PA X es (RdA ca X.K nv W fas)) : PE X (.Tuple es x1 pos) (RdE ca X.K nv W (do
    let ts ← fas
    let _ ← need "tuple" (fitT ts.length)
    pure (.nd .tup ts))) := by
  refine ⟨fun pins st σ H Q I ⟨s, As, Fs, E, R, q⟩ => (pe_tup h).run pins st σ H Q I ?_⟩
  refine rd_args R q fun xs s2 H2 As2 Fs2 R2 k2 h2 => ?_
  obtain ⟨c, h2⟩ := Post.need h2
  exact ⟨by simpa using fitT_le c, fun p hp => VPost.newtup h2 R2 k2 hp⟩
theorem se_lst (h : PA X es (RdA ca X.K nv W fas)) : PE X (.List es pos) (RdE ca X.K nv W (do
    let ts ← fas
    let _ ← need "list" (fitT ts.length)
    pure (.nd (.lst false) ts))) := by
  refine ⟨fun pins st σ H Q I ⟨s, As, Fs, E, R, q⟩ => (pe_lst h).run pins st σ H Q I ?_⟩
  refine rd_args R q fun xs s2 H2 As2 Fs2 R2 k2 h2 => ?_
  obtain ⟨c, h2⟩ := Post.need h2
  exact ⟨by simpa using fitT_le c, fun p hp => VPost.newlist h2 R2 k2 hp⟩
theorem se_dnew {t : Bool} (nv : Fr) : PE X (.Dict [] [] pos) (RdE ca X.K nv W (pure (if t then .nd (.dT false []) [] else .nd (.dK false []) []))) := by
  cases t with
  | false =>
    exact se_ret pe_dnewK (fun nv σ s As Fs E H Q R q => fun p hp => Post.val q (R.alloc (D := []) (sh := .dK false []) hp (by simp) ⟨List.nodup_nil, rfl, by simp [L2.upd_same]⟩) Kp.refl) nv
  | true =>
    exact se_ret pe_dnewT (fun nv σ s As Fs E H Q R q => fun p hp => Post.val q (R.alloc (D := []) (sh := .dT false []) hp (by simp) ⟨List.nodup_nil, rfl, by simp [L2.upd_same]⟩) Kp.refl) nv
end
end Tk
end
section
/-! Tk12: subscripts, slices, fields, chains. -/
namespace Tk
open PySem PySem.Spec PyProof.Rows L2
section
variable {X : Cx} {ca : Str → Addr} {K : PySem.W.Frag} {nv : Fr} {σ : L2.St} {H H' : Hp} {po : Po} {s s1 s2 s0 : St} {As Fs As1 Fs1 As2 Fs2 As0 Fs0 : List AT} {E E0 E' : List (T × AT)} {W : WX} {a b c e o : Expr} {fa fb fc : M T} {ft ft' : M Bool} {fas : M (List T)} {pos p2 : Pos} {es : List Expr} {rest : List Expr}
/-! ### one more value, others in flight -/
theorem rd_m {β : Type} {D : β → List T} {Φ : β → List AT → Hp → St → List AT → List AT → Prop} {k : T → M β} {Z : V → Hp → Prop} {D0 : List (T × AT)} (R : Rel ca K nv σ H s As Fs (D0 ++ E)) (k0 : Kp s0 s As0 As)
    (h : Post ca K nv D W σ s0 As0 Fs0 E Φ ((do let x ← fa; k x : M β) s))
    (fin : ∀ x s2 H2 As2 Fs2 A1, Rel ca K nv σ H2 s2 As2 Fs2 ((x, A1) :: (D0 ++ E)) → Kp s0 s2 As0 As2 → Post ca K nv D W σ s0 As0 Fs0 E Φ (k x s2) → Z A1.val H2) :
    RdE ca K nv W fa σ H (fun x H1 => Z x H1) := by
  have h' : Post ca K nv D W σ s0 As0 Fs0 E Φ (M.bind fa (fun x => k x) s) := h
  refine ⟨s, As, Fs, D0 ++ E, R, ?_⟩
  cases e : fa s with
  | ok x s1 =>
    intro H1 As1 Fs1 Ds hl R1 K1 A1 eD
    subst eD
    have h1 : Post ca K nv D W σ s0 As0 Fs0 E Φ (k x s1) := by
      unfold M.bind at h'
      rw [e] at h'
      exact h'
    exact fin x s1 H1 As1 Fs1 A1 R1 (k0.trans K1) h1
  | exc c pl s1 =>
    intro H1 As1 Fs1 R1 K1
    have h1 : Post ca K nv D W σ s0 As0 Fs0 E Φ (.exc c pl s1) := by
      unfold M.bind at h'
      rw [e] at h'
      exact h'
    exact h1 H1 As1 Fs1 R1.drops (k0.trans K1)
  | stuck w =>
    unfold M.bind at h'
    rw [e] at h'
    exact h'
theorem rd_mA {β : Type} {D : β → List T} {Φ : β → List AT → Hp → St → List AT → List AT → Prop} {k : List T → M β} {Z : List V → Hp → Prop} {D0 : List (T × AT)} (R : Rel ca K nv σ H s As Fs (D0 ++ E)) (k0 : Kp s0 s As0 As)
    (h : Post ca K nv D W σ s0 As0 Fs0 E Φ ((do let x ← fas; k x : M β) s))
    (fin : ∀ (xs : List (T × AT)) s2 H2 As2 Fs2, Rel ca K nv σ H2 s2 As2 Fs2 (xs ++ (D0 ++ E)) → Kp s0 s2 As0 As2 → Post ca K nv D W σ s0 As0 Fs0 E Φ (k (xs.map (·.1)) s2) → Z ((xs.map (·.2)).map AT.val) H2) :
    RdA ca K nv W fas σ H (fun x H1 => Z x H1) := by
  have h' : Post ca K nv D W σ s0 As0 Fs0 E Φ (M.bind fas (fun x => k x) s) := h
  refine ⟨s, As, Fs, D0 ++ E, R, ?_⟩
  cases e : fas s with
  | ok x s1 =>
    intro H1 As1 Fs1 Ds hl R1 K1
    have h1 : Post ca K nv D W σ s0 As0 Fs0 E Φ (k x s1) := by
      unfold M.bind at h'
      rw [e] at h'
      exact h'
    have hl : Ds.length = x.length := hl
    have e1 : (x.zip Ds).map (·.1) = x := mem_zip_fst hl.symm
    have e2 : (x.zip Ds).map (·.2) = Ds := mem_zip_snd hl.symm
    have q := fin (x.zip Ds) s1 H1 As1 Fs1 R1 (k0.trans K1) (by rw [e1]; exact h1)
    rw [e2] at q
    exact q
  | exc c pl s1 =>
    intro H1 As1 Fs1 R1 K1
    have h1 : Post ca K nv D W σ s0 As0 Fs0 E Φ (.exc c pl s1) := by
      unfold M.bind at h'
      rw [e] at h'
      exact h'
    exact h1 H1 As1 Fs1 R1.drops (k0.trans K1)
  | stuck w =>
    unfold M.bind at h'
    rw [e] at h'
    exact h'
/-! ### subscripts -/
def ixAt (ts : List T) : T → M T
  | .int i => ofOpt "list index" (L2.atI ts i)
  | _ => stuck "index"
def rIxDG : R2 := fun x y H Q => ∃ a v, x = .ref a ∧ DGet H a y (some v) ∧ Q v H
theorem ix_dict (hu : X.A.units + 1 < cLine) : IxR X rIxDG := by
  intro value slice pins s σ H x y v u Q I rx ry q hs
  obtain ⟨a, w, rfl, g, q⟩ := q
  obtain rfl : v = Value.ref a := rx
  have hT := dict_typeIs I g
  unfold subscriptTail
  refine wpAny_bind ?_
  rw [getitemInPython_of_ne hT.not_modules]
  refine wpAny_bind (wpAny_specialOf hT PySem.F.slot_dict_getitem.lookup ?_)
  have fin : wpAny (model X.prog X.w) X.A (subscripted slice false (.ref a) u) (fun r s₃ => wpAny (model X.prog X.w) X.A (letTemporaryGo value (.ref a) r >>= fun _ => pure r) (EP X pins σ Q) X.xe s₃) X.xe s := by
    rw [hs]
    exact wpAny_operating (wpAny_mono (d_getItem hu I g ry fun w' s3 I3 rw' => (⟨w, H, I3, rw', q⟩ : EP X pins σ Q w' s3)) (fun r s₃ h₃ => wpAny_bind (wpAny_letTemporaryGo (wpAny_pure h₃))) fun _ _ x => x)
  first
    | exact wpAny_pure (wpAny_bind fin)
    | exact wpAny_bind (wpAny_pure (wpAny_bind fin))
    | exact wpAny_bind fin
theorem atI_map {α β : Type} (f : α → β) (xs : List α) (i : Int) : L2.atI (xs.map f) i = (L2.atI xs i).map f := by
  unfold L2.atI
  rw [List.length_map]
  cases ixN xs.length i with
  | none => rfl
  | some j => simp
theorem atI_at {α : Type} {xs : List α} {i : Int} {x : α} (h : L2.atI xs i = some x) : ∃ j, ixN xs.length i = some j ∧ xs[j]? = some x := by
  unfold L2.atI at h
  cases q : ixN xs.length i with
  | none => rw [q] at h; cases h
  | some j => rw [q] at h; exact ⟨j, rfl, h⟩
theorem Rel.pick {D : List (T × AT)} {j : Nat} {q : T × AT} (R : Rel ca K nv σ H s As Fs (D ++ E)) (h : D[j]? = some q) : Rel ca K nv σ H s As Fs (q :: E) := by
  have hj := (List.getElem?_eq_some_iff.mp h).1
  have e : D = D.take j ++ q :: D.drop (j + 1) := by
    have := List.getElem_cons_drop hj
    have h2 : D[j] = q := by have := List.getElem?_eq_some_iff.mp h; exact this.2
    rw [h2] at this
    rw [this, List.take_append_drop]
  rw [e] at R
  have R2 : Rel ca K nv σ H s As Fs (D.take j ++ (D.drop (j + 1) ++ (q :: E))) := R.perm (by
    rw [List.append_assoc]
    exact List.Perm.append_left _ List.perm_middle.symm)
  exact R2.drops.drops
theorem zip_at {ts : List T} {Bs : List AT} (hl : ts.length = Bs.length) {j : Nat} {t : T} (h : ts[j]? = some t) : ∃ B, Bs[j]? = some B ∧ (ts.zip Bs)[j]? = some (t, B) := by
  have hj := (List.getElem?_eq_some_iff.mp h).1
  refine ⟨Bs[j], by simp [← hl, hj], ?_⟩
  rw [List.getElem?_zip_eq_some]
  exact ⟨h, by simp [← hl, hj]⟩
theorem se_ix (hu : X.A.units + 1 < cLine) (ha : PE X a (RdE ca X.K nv W fa)) (hb : PE X b (RdE ca X.K nv W fb)) (hs : PlainIx b) : PE X (.Subscript a b pos) (RdE ca X.K nv W (do
    let x ← fa
    let y ← fb
    ixop x y)) := by
  refine ⟨fun pins st σ H Q I ⟨s, As, Fs, E, R, q⟩ => (pe_ix (IxR.or ix_seq (ix_dict hu)) ha hb hs).run pins st σ H Q I ?_⟩
  refine rd_two R q fun x y s2 H2 As2 Fs2 A1 A2 R2 k2 h2 => ?_
  have gen : VPost ca X.K nv W σ s As Fs E Q ((do
    let (sh, ts) ← look x
    match isDict sh with
    | true => do
      let j ← ofOpt "no key" (place sh y)
      let j ← ofOpt "key not there" j
      ofOpt "dict" ts[j]?
    | false => match sh with
      | .ins _ _ => stuck "index of an object"
      | _ => match y with
        | .int i => ofOpt "list index" (L2.atI ts i)
        | _ => stuck "index" : M T) s2) → rIx X.K A1.val A2.val H2 Q ∨ rIxDG A1.val A2.val H2 Q := fun h => by
    have R3 : Rel ca X.K nv σ H2 s2 As2 Fs2 ((x, A1) :: (y, A2) :: E) := R2.perm (List.Perm.swap _ _ _)
    obtain ⟨sh, ts, hl, h⟩ := Post.look h
    obtain ⟨_, a, Bs, ea, hH, la, hR, _, R4⟩ := look_of R3 hl
    have R5 : Rel ca X.K nv σ H2 s2 As2 Fs2 (ts.zip Bs ++ E) := by
      have z : Rel ca X.K nv σ H2 s2 As2 Fs2 ((y, A2) :: (ts.zip Bs ++ E)) := R4.perm List.perm_middle
      exact z.drop
    cases nd : isDict sh with
    | true =>
      simp only [nd] at h
      obtain ⟨j, hj, h⟩ := Post.opt h
      obtain ⟨j', hj', h⟩ := Post.opt h
      subst hj'
      obtain ⟨t, ht, h⟩ := Post.opt1 h
      have g := dget_of hH R2.head hj
      obtain ⟨B, hB, hz⟩ := zip_at la ht
      have e : ((some j' : Option Nat).bind ((Bs.map AT.val)[·]?)) = some B.val := by simp [hB]
      rw [e] at g
      exact .inr ⟨a, B.val, ea, g, Post.val h (R5.pick hz) k2⟩
    | false =>
      simp only [nd] at h
      have key : (∀ c fs, sh ≠ .ins c fs) ∧ VPost ca X.K nv W σ s As Fs E Q (ixAt ts y s2) := by
        cases sh with
        | ins c fs => exact h.elim
        | tup => exact ⟨by simp, h⟩
        | lst _ => exact ⟨by simp, h⟩
        | dK _ _ => exact ⟨by simp, h⟩
        | dT _ _ => exact ⟨by simp, h⟩
      obtain ⟨ni, h⟩ := key
      cases y with
      | int i =>
        have e2 := rp_int R2.head
        subst e2
        obtain ⟨t, ht, h⟩ := Post.opt1 h
        obtain ⟨j, hj, hx⟩ := atI_at ht
        obtain ⟨B, hB, hz⟩ := zip_at la hx
        have eB : L2.atI (Bs.map AT.val) i = some B.val := by
          unfold L2.atI
          rw [List.length_map, ← la, hj]
          simp [hB]
        have fin := Post.val h (R5.pick hz) k2
        rcases seq_of hH nd ni with z | z
        · exact .inl (.inl ⟨a, _, i, B.val, ea, rfl, z, eB, fin⟩)
        · exact .inl (.inr (.inl ⟨a, _, i, B.val, ea, rfl, z, eB, fin⟩))
      | _ => exact h.elim
  cases x with
  | str z =>
    have e1 := rp_str R2.second
    subst e1
    cases y with
    | int i =>
      have e2 := rp_int R2.head
      subst e2
      obtain ⟨f, h2⟩ := Post.need h2
      obtain ⟨c, hc, h2⟩ := Post.opt h2
      exact .inl (.inr (.inr ⟨z, i, c, rfl, rfl, fitT_le f, hc, Post.val h2 (R2.drop.drop.str _) k2⟩))
    | _ => exact h2.elim
  | _ => exact gen h2
/-! ### fields -/
theorem findIdx_look {f : Str} : ∀ {fs : List Str} {vs : List V} {j : Nat}, fs.length = vs.length → fs.findIdx? (· = f) = some j → (fs.zip vs).lookup f = vs[j]?
  | [], _, _, _, h => by simp at h
  | g :: fs, [], _, hl, _ => by simp at hl
  | g :: fs, v :: vs, j, hl, h => by
    rw [List.findIdx?_cons] at h
    by_cases e : g = f
    · rw [if_pos (by simpa using e)] at h
      cases h
      rw [List.zip_cons_cons, List.lookup_cons]
      have : (f == g) = true := by simp [e]
      rw [this]; rfl
    · rw [if_neg (by simpa using e)] at h
      cases q : fs.findIdx? (· = f) with
      | none => rw [q] at h; cases h
      | some i =>
        rw [q] at h
        cases h
        rw [List.zip_cons_cons, List.lookup_cons]
        have : (f == g) = false := by simp; exact fun z => e z.symm
        rw [this]
        simpa using findIdx_look (by simpa using hl) q
theorem se_fld {f : Str} (ha : PE X a (RdE ca X.K nv W fa)) (hb : attributeBase a f X.env (eval a X.env) = eval a X.env) : PE X (.Attribute a f pos) (RdE ca X.K nv W (do
    let x ← fa
    fldop x f)) := by
  refine ⟨fun pins st σ H Q I ⟨s, As, Fs, E, R, q⟩ => (pe_fld ha hb).run pins st σ H Q I ?_⟩
  refine rd_one R q fun x s2 H2 As2 Fs2 A1 R2 k2 h2 => ?_
  unfold fldop at h2
  obtain ⟨sh, ts, hl, h2⟩ := Post.look h2
  obtain ⟨_, a, Bs, ea, hH, la, hR, _, R4⟩ := look_of R2 hl
  cases sh with
  | ins c fs =>
    obtain ⟨j, hj, h2⟩ := Post.opt h2
    obtain ⟨t, ht, h2⟩ := Post.opt1 h2
    obtain ⟨B, hB, hz⟩ := zip_at la ht
    obtain ⟨⟨hc, hf⟩, hlen, dx, hh⟩ := hH
    have hmem : f ∈ fs := by
      obtain ⟨hlt, hp, _⟩ := List.findIdx?_eq_some_iff_getElem.mp hj
      have : fs[j] = f := by simpa using hp
      rw [← this]; exact List.getElem_mem hlt
    refine ⟨a, ca c, dx, _, B.val, ea, hh, hc.cl, hf f hmem, ?_, Post.val h2 (R4.pick hz) k2⟩
    rw [findIdx_look hlen hj]
    simp [hB]
  | _ => exact h2.elim
/-! ### slices -/
theorem Rel.cutR {D : List (T × AT)} (R : Rel ca K nv σ H s As Fs (D ++ E)) (n m : Nat) : Rel ca K nv σ H s As Fs ((D.drop n).take m ++ E) := by
  have e : D = D.take n ++ ((D.drop n).take m ++ (D.drop n).drop m) := by rw [List.take_append_drop, List.take_append_drop]
  rw [e] at R
  have R2 : Rel ca K nv σ H s As Fs (D.take n ++ ((D.drop n).drop m ++ ((D.drop n).take m ++ E))) := R.perm (by
    rw [List.append_assoc, List.append_assoc]
    refine List.Perm.append_left _ ?_
    rw [← List.append_assoc, ← List.append_assoc]
    exact List.Perm.append_right _ List.perm_append_comm)
  exact R2.drops.drops
theorem op_slice : SlR X (fun x lo hi H Q => (rSlL X.K x lo hi H Q ∨ rSlA X.K x lo hi H Q) ∨ rSlS x lo hi H Q) := SlR.or (SlR.or sl_list sl_tupA) sl_str
theorem cut_map {α β : Type} (f : α → β) (xs : List α) (lo hi : Option Int) : cut (xs.map f) lo hi = (cut xs lo hi).map f := by
  unfold cut
  rw [List.length_map, ← List.map_drop, ← List.map_take]
theorem slice_post {Q : VK} {x : T} {A : AT} {lo hi : Option Int} (R : Rel ca K nv σ H s2 As2 Fs2 ((x, A) :: E)) (k : Kp s0 s2 As0 As2) (h : VPost ca K nv W σ s0 As0 Fs0 E Q (slop x lo hi s2)) : (rSlL K A.val lo hi H Q ∨ rSlA K A.val lo hi H Q) ∨ rSlS A.val lo hi H Q := by
  have gen : VPost ca K nv W σ s0 As0 Fs0 E Q (slopL x lo hi s2) → (rSlL K A.val lo hi H Q ∨ rSlA K A.val lo hi H Q) ∨ rSlS A.val lo hi H Q := fun h => by
    obtain ⟨sh, ts, hl, h⟩ := Post.look h
    obtain ⟨_, a, Bs, ea, hH, la, hR, _, R4⟩ := look_of R hl
    have e1 : (cut (ts.zip Bs) lo hi).map (·.1) = cut ts lo hi := by rw [← cut_map, mem_zip_fst la]
    have e2 : ((cut (ts.zip Bs) lo hi).map (·.2)).map AT.val = cut (Bs.map AT.val) lo hi := by rw [← cut_map, mem_zip_snd la, ← cut_map]
    have R5 : Rel ca K nv σ H s2 As2 Fs2 (cut (ts.zip Bs) lo hi ++ E) := by unfold cut; exact R4.cutR _ _
    cases sh with
    | lst lk =>
      have hq : SqL K H a (Bs.map AT.val) := by
        cases lk with
        | false => exact SqL.of hH
        | true =>
          rcases hH with ⟨o, z⟩ | z
          · exact .inl (.inr ⟨o, z⟩)
          · exact .inr z
      refine .inl (.inl ⟨a, _, ea, hq, fun p hp => ?_⟩)
      have q := VPost.newlist (p := p) (D := cut (ts.zip Bs) lo hi) (by rw [e1]; exact h) R5 k hp
      rw [e2] at q
      exact q
    | tup =>
      obtain ⟨c, h⟩ := Post.need h
      have lb : (Bs.map AT.val).length = ts.length := by rw [List.length_map, la]
      refine .inl (.inr ⟨a, _, ea, SqT.of hH, fun q => ?_, fun _ p hp => ?_⟩)
      · rw [lb] at q
        rw [decide_eq_true q.1, decide_eq_true q.2] at c
        cases c
      · have q := VPost.newtup (p := p) (D := cut (ts.zip Bs) lo hi) (by rw [e1]; exact h) R5 k hp
        rw [e2] at q
        exact q
    | _ => exact h.elim
  cases x with
  | str z =>
    have e1 := rp_str R.head
    subst e1
    obtain ⟨f, h⟩ := Post.need h
    exact .inr ⟨z, rfl, fitT_le f, Post.val h (R.drop.str _) k⟩
  | _ => exact gen h
theorem Post.intOf {α : Type} {D : α → List T} {Φ : α → List AT → Hp → St → List AT → List AT → Prop} {x : T} {g : Int → M α} (h : Post ca K nv D W σ s0 As0 Fs0 E0 Φ ((Tk.intOf x >>= g) s)) : ∃ i, x = .int i ∧ Post ca K nv D W σ s0 As0 Fs0 E0 Φ (g i s) := by
  cases x with
  | int i => exact ⟨i, rfl, h⟩
  | _ => exact h.elim
theorem se_slF (ha : PE X a (RdE ca X.K nv W fa)) (hb : PE X b (RdE ca X.K nv W fb)) : PE X (.Subscript a (.Slice (some b) none none p2) pos) (RdE ca X.K nv W (do
    let x ← fa
    let y ← fb
    let i ← intOf y
    slop x (some i) none)) := by
  refine ⟨fun pins st σ H Q I ⟨s, As, Fs, E, R, q⟩ => (pe_slice op_slice ha (po_some hb) po_none).run pins st σ H Q I ?_⟩
  refine rd_two (Z := fun x y H2 => ∃ i, y = .int i ∧ ((rSlL X.K x (some i) none H2 Q ∨ rSlA X.K x (some i) none H2 Q) ∨ rSlS x (some i) none H2 Q)) R q fun x y s2 H2 As2 Fs2 A1 A2 R2 k2 h2 => ?_
  obtain ⟨i, e, h2⟩ := h2.intOf
  subst e
  have e2 := rp_int R2.head
  subst e2
  exact ⟨i, rfl, slice_post R2.drop k2 h2⟩
theorem se_slT (ha : PE X a (RdE ca X.K nv W fa)) (hb : PE X b (RdE ca X.K nv W fb)) : PE X (.Subscript a (.Slice none (some b) none p2) pos) (RdE ca X.K nv W (do
    let x ← fa
    let y ← fb
    let i ← intOf y
    slop x none (some i))) := by
  refine ⟨fun pins st σ H Q I ⟨s, As, Fs, E, R, q⟩ => (pe_slice op_slice ha po_none (po_some hb)).run pins st σ H Q I ?_⟩
  refine rd_two (Z := fun x y H2 => ∃ i, y = .int i ∧ ((rSlL X.K x none (some i) H2 Q ∨ rSlA X.K x none (some i) H2 Q) ∨ rSlS x none (some i) H2 Q)) R q fun x y s2 H2 As2 Fs2 A1 A2 R2 k2 h2 => ?_
  obtain ⟨i, e, h2⟩ := h2.intOf
  subst e
  have e2 := rp_int R2.head
  subst e2
  exact ⟨i, rfl, slice_post R2.drop k2 h2⟩
theorem se_slB (ha : PE X a (RdE ca X.K nv W fa)) (hb : PE X b (RdE ca X.K nv W fb)) (hc : PE X c (RdE ca X.K nv W fc)) : PE X (.Subscript a (.Slice (some b) (some c) none p2) pos) (RdE ca X.K nv W (do
    let x ← fa
    let y ← fb
    let i ← intOf y
    let z ← fc
    let j ← intOf z
    slop x (some i) (some j))) := by
  refine ⟨fun pins st σ H Q I ⟨s, As, Fs, E, R, q⟩ => (pe_slice op_slice ha (po_some hb) (po_some hc)).run pins st σ H Q I ?_⟩
  refine rd_two (Z := fun x y H2 => ∃ i, y = .int i ∧ RdE ca X.K nv W fc σ H2 fun z H3 => ∃ j, z = .int j ∧ ((rSlL X.K x (some i) (some j) H3 Q ∨ rSlA X.K x (some i) (some j) H3 Q) ∨ rSlS x (some i) (some j) H3 Q)) R q fun x y s2 H2 As2 Fs2 A1 A2 R2 k2 h2 => ?_
  obtain ⟨i, e, h2⟩ := h2.intOf
  subst e
  have e2 := rp_int R2.head
  subst e2
  refine ⟨i, rfl, ?_⟩
  have R2' : Rel ca X.K nv σ H2 s2 As2 Fs2 ([(x, A1)] ++ E) := R2.drop
  refine rd_m R2' k2 h2 fun z s3 H3 As3 Fs3 A3 R3 k3 h3 => ?_
  obtain ⟨j, e, h3⟩ := h3.intOf
  subst e
  have e3 := rp_int R3.head
  subst e3
  exact ⟨j, rfl, slice_post R3.drop k3 h3⟩
/-! ### chains -/
theorem chain_run {o o' : CmpOp} {f f' : T → T → M Bool} {r r' : R2} {β : Type} {D : β → List T} {Φ : β → List AT → Hp → St → List AT → List AT → Prop} {g : Bool → M β} {Q : VK}
    (hq : ∀ (nv : Fr) (σ : L2.St) (W : WX) (s0 s2 : St) (As0 Fs0 As2 Fs2 : List AT) (E0 : List (T × AT)) (H : Hp) (Q : Bool → Hp → Prop) (Q' : VK) (x y : T) (A1 A2 : AT), (∀ b H', Q b H' → Q' (.bl b) H') →
      Rel ca X.K nv σ H s2 As2 Fs2 ((y, A2) :: (x, A1) :: E0) → Kp s0 s2 As0 As2 → BPost ca X.K nv W σ s0 As0 Fs0 E0 Q (f x y s2) → r A1.val A2.val H Q')
    (hq' : ∀ (nv : Fr) (σ : L2.St) (W : WX) (s0 s2 : St) (As0 Fs0 As2 Fs2 : List AT) (E0 : List (T × AT)) (H : Hp) (Q : Bool → Hp → Prop) (Q' : VK) (x y : T) (A1 A2 : AT), (∀ b H', Q b H' → Q' (.bl b) H') →
      Rel ca X.K nv σ H s2 As2 Fs2 ((y, A2) :: (x, A1) :: E0) → Kp s0 s2 As0 As2 → BPost ca X.K nv W σ s0 As0 Fs0 E0 Q (f' x y s2) → r' A1.val A2.val H Q')
    (cf : ∀ x y, Calm (f x y)) (cf' : ∀ x y, Calm (f' x y)) (R : Rel ca X.K nv σ H s As Fs E)
    (g_ok : ∀ b s2 H2 As2 Fs2, Rel ca X.K nv σ H2 s2 As2 Fs2 E → Kp s s2 As As2 → Post ca X.K nv D W σ s As Fs E Φ (g b s2) → Q (.bl b) H2)
    (h : Post ca X.K nv D W σ s As Fs E Φ ((do
      let x ← fa
      let y ← fb
      let _ ← need "chain" (scalT y)
      let r ← f x y
      match r with
      | true => do
        let z ← fc
        let r' ← f' y z
        g r'
      | false => g false : M β) s)) : tChain r r' (RdE ca X.K nv W fa) (RdE ca X.K nv W fb) (RdE ca X.K nv W fc) σ H Q := by
  refine rd_two (Z := fun x y H2 => r x y H2 fun z H3 => ∃ k, z = .bl k ∧ (if k = true then RdE ca X.K nv W fc σ H3 (fun w H4 => r' y w H4 Q) else Q (.bl false) H3)) R h fun x y s2 H2 As2 Fs2 A1 A2 R2 k2 h2 => ?_
  obtain ⟨sy, h2⟩ := Post.need h2
  obtain ⟨b, s3, ef, h3⟩ := calmok (cf x y) h2
  have im : ∃ v, immV y = some v ∧ A2 = .lf v := by
    have hd := R2.head
    cases y with
    | non => exact ⟨_, rfl, rp_non hd⟩
    | bl _ => exact ⟨_, rfl, rp_bl hd⟩
    | int _ => exact ⟨_, rfl, rp_int hd⟩
    | str _ => exact ⟨_, rfl, rp_str hd⟩
    | _ => cases sy
  obtain ⟨v, iv, eA⟩ := im
  have R3 : Rel ca X.K nv σ H2 s2 As2 Fs2 ((y, A2) :: (x, A1) :: ((y, A2) :: E)) := by
    have z : Rel ca X.K nv σ H2 s2 As2 Fs2 ((y, .lf v) :: (y, A2) :: (x, A1) :: E) := R2.immV iv
    rw [← eA] at z
    exact z.perm (List.Perm.cons _ (List.Perm.swap _ _ _))
  refine hq nv σ W s2 s2 As2 Fs2 As2 Fs2 ((y, A2) :: E) H2 (fun b H3 => if b = true then RdE ca X.K nv W fc σ H3 (fun w H4 => r' A2.val w H4 Q) else Q (.bl false) H3) _ x y A1 A2 (fun b H' q => ⟨b, rfl, q⟩) R3 Kp.refl ?_
  rw [ef]
  intro H' As' Fs' Ds hl R' k'
  have e0 : Ds = [] := List.length_eq_zero_iff.mp hl
  subst e0
  have R'' : Rel ca X.K nv σ H' s3 As' Fs' ([(y, A2)] ++ E) := R'
  have k3 := k2.trans k'
  cases b with
  | true =>
    simp only [↓reduceIte]
    refine rd_m R'' k3 h3 fun z s4 H4 As4 Fs4 A4 R4 k4 h4 => ?_
    obtain ⟨b', s5, ef', h5⟩ := calmok (cf' y z) h4
    refine hq' nv σ W s4 s4 As4 Fs4 As4 Fs4 E H4 (fun b H5 => Q (.bl b) H5) Q y z A2 A4 (fun _ _ q => q) R4 Kp.refl ?_
    rw [ef']
    intro H5 As5 Fs5 Ds5 hl5 R5 k5
    have e5 : Ds5 = [] := List.length_eq_zero_iff.mp hl5
    subst e5
    exact g_ok b' s5 H5 As5 Fs5 R5 (k4.trans k5) h5
  | false =>
    simp only [Bool.false_eq_true, ↓reduceIte]
    exact g_ok false s3 H' As' Fs' R'.drop k3 h3
theorem se_chain {o o' : CmpOp} {f f' : T → T → M Bool} (ho : CmpOk X ca o f) (ho' : CmpOk X ca o' f') (cf : ∀ x y, Calm (f x y)) (cf' : ∀ x y, Calm (f' x y)) (ha : PE X a (RdE ca X.K nv W fa)) (hb : PE X b (RdE ca X.K nv W fb)) (hc : PE X c (RdE ca X.K nv W fc))
    (hm : lastMarks [o, o'] [b, c] = false) : PE X (.Compare a [o, o'] [b, c] pos) (RdE ca X.K nv W (do
      let x ← fa
      let y ← fb
      let _ ← need "chain" (scalT y)
      let r ← f x y
      match r with
      | true => do
        let z ← fc
        let r' ← f' y z
        pure (.bl r')
      | false => pure (.bl false))) := by
  obtain ⟨r, hr, hq⟩ := ho
  obtain ⟨r', hr', hq'⟩ := ho'
  refine ⟨fun pins st σ H Q I ⟨s, As, Fs, E, R, q⟩ => (pe_chain hr hr' ha hb hc hm).run pins st σ H Q I ?_⟩
  exact chain_run (o := o) (o' := o') (g := fun b => (pure (.bl b) : M T)) hq hq' cf cf' R (fun b s2 H2 As2 Fs2 R2 k2 h2 => Post.val h2 (R2.bl b) k2) q
theorem st_chain {o o' : CmpOp} {f f' : T → T → M Bool} (ho : CmpOk X ca o f) (ho' : CmpOk X ca o' f') (cf : ∀ x y, Calm (f x y)) (cf' : ∀ x y, Calm (f' x y)) (ha : PE X a (RdE ca X.K nv W fa)) (hb : PE X b (RdE ca X.K nv W fb)) (hc : PE X c (RdE ca X.K nv W fc))
    (hm : lastMarks [o, o'] [b, c] = false) : PT X (.Compare a [o, o'] [b, c] pos) (RdT ca X.K nv W (do
      let x ← fa
      let y ← fb
      let _ ← need "chain" (scalT y)
      let r ← f x y
      match r with
      | true => do
        let z ← fc
        f' y z >>= fun r' => (pure r' : M Bool)
      | false => pure false)) := by
  obtain ⟨r, hr, hq⟩ := ho
  obtain ⟨r', hr', hq'⟩ := ho'
  refine ⟨fun pins st σ H Q I ⟨s, As, Fs, E, R, q⟩ => (pt_chain hr hr' ha hb hc hm).run pins st σ H Q I ?_⟩
  exact chain_run (o := o) (o' := o') (D := fun _ => []) (Φ := fun b _ H' _ _ _ => Q b H') (g := fun b => (pure b : M Bool)) hq hq' cf cf' R (fun b s2 H2 As2 Fs2 R2 k2 h2 => ⟨b, rfl, h2 H2 As2 Fs2 [] rfl R2 k2⟩) q
end
end Tk
end
section
/-! Tk13: statements. -/
namespace Tk
open PySem L2
section
variable {X : Cx} {ca : Str → Addr} {K : PySem.W.Frag} {nv : Fr} {σ σ1 : L2.St} {H H' : Hp} {po : Po} {s s1 s2 s0 : St} {As Fs As1 Fs1 As2 Fs2 As0 Fs0 : List AT} {E E0 E' : List (T × AT)} {W : WX} {a b c e o : Expr} {fa fb fc : M T} {ft ft' : M Bool} {fas : M (List T)} {fs ft2 : M (Option T)} {pos p2 : Pos} {es : List Expr} {st : Stmt} {sts sts2 : List Stmt}
/-- what is wanted of a statement's run -/
def SPost (ca : Str → Addr) (K : PySem.W.Frag) (nv : Fr) (W : WX) (D : Ends) (s : St) (As : List AT) (E : List (T × AT)) : Res St (Option T) → Prop
  | .ok none s' => ∀ σ' H' As' Fs', Rel ca K nv σ' H' s' As' Fs' E → Kp s s' As As' → D.nx σ' H'
  | .ok (some v) s' => ∀ σ' H' As' Fs' A, Rel ca K nv σ' H' s' As' Fs' ((v, A) :: E) → Kp s s' As As' → D.rt A.val H'
  | .exc c pl s' => ∀ σ' H' As' Fs', Rel ca K nv σ' H' s' As' Fs' E → Kp s s' As As' → W (.ref (ca c)) (fl pl) σ' H'
  | .stuck _ => False
def RdS (ca : Str → Addr) (K : PySem.W.Frag) (nv : Fr) (W : WX) (f : M (Option T)) : TS := fun D σ H => ∃ s As Fs E, Rel ca K nv σ H s As Fs E ∧ SPost ca K nv W D s As E (f s)
theorem SPost.step {D : Ends} {r : Res St (Option T)} (h : SPost ca K nv W D s0 As0 E r) (k : Kp s0 s2 As0 As2) : SPost ca K nv W D s2 As2 E r := by
  cases r with
  | ok a s' =>
    cases a with
    | none => exact fun σ' H' As' Fs' R k' => h σ' H' As' Fs' R (k.trans k')
    | some v => exact fun σ' H' As' Fs' A R k' => h σ' H' As' Fs' A R (k.trans k')
  | exc c pl s' => exact fun σ' H' As' Fs' R k' => h σ' H' As' Fs' R (k.trans k')
  | stuck w => exact h
theorem ss_nil : PSs X [] (RdS ca X.K nv W (pure none)) :=
  ⟨fun pins st σ H D I ⟨s, As, Fs, E, R, q⟩ => pss_nil.run pins st σ H D I (q σ H As Fs R Kp.refl)⟩
theorem ss_cons (h1 : PS X st (RdS ca X.K nv W fs)) (h2 : PSs X sts (RdS ca X.K nv W ft2)) : PSs X (st :: sts) (RdS ca X.K nv W (do
    match ← fs with
    | none => ft2
    | some v => pure (some v))) := by
  refine ⟨fun pins st σ H D I ⟨s, As, Fs, E, R, q⟩ => (pss_cons h1 h2).run pins st σ H D I ?_⟩
  have q' : SPost ca X.K nv W D s As E (M.bind fs (fun r => match r with | none => ft2 | some v => pure (some v)) s) := q
  unfold M.bind at q'
  refine ⟨s, As, Fs, E, R, ?_⟩
  cases e : fs s with
  | ok r s' =>
    rw [e] at q'
    cases r with
    | none => exact fun σ' H' As' Fs' R' k' => ⟨s', As', Fs', E, R', SPost.step q' k'⟩
    | some v => exact q'
  | exc c pl s' => rw [e] at q'; exact q'
  | stuck w => rw [e] at q'; exact q'
/-- an expression ahead of what a statement does with it -/
theorem ss_one {D : Ends} {k : T → M (Option T)} {Z : V → Hp → Prop} {D0 : List (T × AT)} (R : Rel ca K nv σ H s As Fs (D0 ++ E)) (k0 : Kp s0 s As0 As)
    (h : SPost ca K nv W D s0 As0 E ((do let x ← fa; k x : M (Option T)) s))
    (fin : ∀ x s2 H2 As2 Fs2 A1, Rel ca K nv σ H2 s2 As2 Fs2 ((x, A1) :: (D0 ++ E)) → Kp s0 s2 As0 As2 → SPost ca K nv W D s0 As0 E (k x s2) → Z A1.val H2) :
    RdE ca K nv W fa σ H (fun x H1 => Z x H1) := by
  have h' : SPost ca K nv W D s0 As0 E (M.bind fa (fun x => k x) s) := h
  unfold M.bind at h'
  refine ⟨s, As, Fs, D0 ++ E, R, ?_⟩
  cases e : fa s with
  | ok x s1 =>
    rw [e] at h'
    intro H1 As1 Fs1 Ds hl R1 K1 A1 eD
    subst eD
    exact fin x s1 H1 As1 Fs1 A1 R1 (k0.trans K1) h'
  | exc c pl s1 =>
    rw [e] at h'
    exact fun H1 As1 Fs1 R1 K1 => h' σ H1 As1 Fs1 R1.drops (k0.trans K1)
  | stuck w => rw [e] at h'; exact h'
theorem SPost.bind_ok {D : Ends} {α : Type} {f : M α} {g : α → M (Option T)} {a : α} (e : f s = .ok a s1) (h : SPost ca K nv W D s0 As0 E ((f >>= g) s)) : SPost ca K nv W D s0 As0 E (g a s1) := by
  have h' : SPost ca K nv W D s0 As0 E (M.bind f g s) := h
  unfold M.bind at h'
  rw [e] at h'
  exact h'
theorem SPost.bind_stuck {D : Ends} {α : Type} {f : M α} {g : α → M (Option T)} {w : String} (e : f s = .stuck w) (h : SPost ca K nv W D s0 As0 E ((f >>= g) s)) : False := by
  have h' : SPost ca K nv W D s0 As0 E (M.bind f g s) := h
  unfold M.bind at h'
  rw [e] at h'
  exact h'
/-! ### variables are set -/
theorem Rel.setAny {i : Nat} {v : T} {A : AT} (R : Rel ca K nv σ H s As Fs ((v, A) :: E)) (e : setVar i v s = .ok () s1) (hσ : ∀ j, j < nv.n → j ≠ i → σ1[j]? = σ[j]?) (hi : i < nv.n → σ1[i]? = some (some A.val)) (sv : ∀ v, nv.slf = some v → σ1[0]? = some (some v)) (ln : nv.n ≤ σ1.length) :
    ∃ Fs', Rel ca K nv σ1 H s1 As Fs' E ∧ Kp s s1 As As ∧ Fs'[i]? = some A ∧ ∃ l, s1.F[i]? = some ⟨l, v⟩ := by
  unfold setVar at e
  cases hx : s.F[i]? with
  | none => rw [hx] at e; cases e
  | some x =>
    rw [hx] at e
    cases e
    have la := R.la
    have lf := R.lf
    have hl := (List.getElem?_eq_some_iff.mp hx).1
    have J := R.sim.setCell (get_F hx).2
    rw [List.set_append_right _ _ (by omega), List.set_append_right _ _ (by omega)] at J
    rw [show s.S.length + i - s.S.length = i by omega, show s.S.length + i - As.length = i by omega] at J
    refine ⟨Fs.set i A, ⟨J, la, fun j y B hj h1 h2 h3 => ?_, sv, ln, R.bS, fun y hy => ?_, fun q hq => ?_⟩, ⟨rfl, by simp, rfl, fun j y B h1 h2 h3 => ⟨y, B, h1, h2, h3, rfl⟩, fun j y h1 => ⟨y, h1, fun m z => z⟩⟩, by rw [List.getElem?_set_self (by omega)], _, by show (s.F.set i _)[i]? = _; rw [List.getElem?_set_self hl]⟩
    · by_cases ej : j = i
      · subst ej
        rw [List.getElem?_set_self (by omega)] at h2
        cases h2
        exact hi hj
      · have h1 : (s.F.set i _)[j]? = some y := h1
        rw [List.getElem?_set_ne (Ne.symm ej)] at h1 h2
        rw [hσ j hj ej]
        exact R.mt j y B hj h1 h2 h3
    · have hy : y ∈ s.F.set i _ := hy
      show below (s.S.length + (s.F.set i _).length) y.val = true
      rw [List.length_set]
      rcases List.mem_or_eq_of_mem_set hy with hy | hy
      · exact R.bF y hy
      · rw [hy]; exact R.bE (v, A) List.mem_cons_self
    · show below (s.S.length + (s.F.set i _).length) q.1 = true
      rw [List.length_set]; exact R.bE q (List.mem_cons_of_mem _ hq)
theorem Rel.setVar {i : Nat} {v : T} {A : AT} (R : Rel ca K nv σ H s As Fs ((v, A) :: E)) (e : Tk.setVar i v s = .ok () s1) (hi : i < nv.n) (h0 : nv.slf ≠ none → i ≠ 0) : ∃ Fs', Rel ca K nv (σ.set i (some A.val)) H s1 As Fs' E ∧ Kp s s1 As As := by
  have ln := R.ln
  obtain ⟨Fs', R', k', _⟩ := R.setAny (σ1 := σ.set i (some A.val)) e (fun j hj ej => List.getElem?_set_ne (Ne.symm ej)) (fun _ => List.getElem?_set_self (by omega)) (fun v hv => by
    have z := h0 (by rw [hv]; simp)
    rw [List.getElem?_set_ne z]
    exact R.sv v hv) (by simpa using ln)
  exact ⟨Fs', R', k'⟩
theorem Rel.setHid {i : Nat} {v : T} {A : AT} (R : Rel ca K nv σ H s As Fs ((v, A) :: E)) (e : Tk.setVar i v s = .ok () s1) (hi : nv.n ≤ i) : ∃ Fs', Rel ca K nv σ H s1 As Fs' E ∧ Kp s s1 As As ∧ Fs'[i]? = some A ∧ ∃ l, s1.F[i]? = some ⟨l, v⟩ :=
  R.setAny e (fun _ _ _ => rfl) (fun z => by omega) R.sv R.ln
theorem setVar_cases (i : Nat) (v : T) (s : St) : (∃ s', Tk.setVar i v s = .ok () s') ∨ ∃ w, Tk.setVar i v s = .stuck w := by
  unfold Tk.setVar
  cases s.F[i]? with
  | none => exact .inr ⟨_, rfl⟩
  | some x => exact .inl ⟨_, rfl⟩
/-- swapsWith asks of comprehensions alone -/
def plainE : Expr → Bool
  | .ListComp _ _ _ _ => false | .SetComp _ _ _ _ => false | .DictComp _ _ _ _ _ => false | _ => true
theorem swaps_plain {t : Option Expr} {n : Nat} {env : Env} (h : plainE e = true) : swapsWith e t n env = pure false := by
  cases e <;> first | rfl | cases h
theorem ss_set {i : Nat} {x : Str} {pos' : Pos} (hN : X.N.Nodup) (hi : X.N[i]? = some x) (hx : Loc X.env.scope x) (he : PE X e (RdE ca X.K nv W fa)) (hs : swapsWith e (some (.Name x pos')) pos.line X.env = pure false) (hf : X.fn x = true ∨ X.env.scope.names.lookup x = some .local) (hn : i < nv.n) (h0 : nv.slf ≠ none → i ≠ 0) :
    PS X (.Assign [.Name x pos'] e pos) (RdS ca X.K nv W (do
      let v ← fa
      let _ ← Tk.setVar i v
      pure none)) := by
  refine ⟨fun pins st σ H D I ⟨s, As, Fs, E, R, q⟩ => (ps_set hN hi hx he hs hf).run pins st σ H D I ?_⟩
  have R' : Rel ca X.K nv σ H s As Fs ([] ++ E) := R
  refine ss_one (Z := fun v H1 => D.nx (σ.set i (some v)) H1) R' Kp.refl q fun v s2 H2 As2 Fs2 A R2 k2 h2 => ?_
  rcases setVar_cases i v s2 with ⟨s3, e3⟩ | ⟨w, e3⟩
  · obtain ⟨Fs3, R3, k3⟩ := Rel.setVar R2 e3 hn h0
    exact (h2.bind_ok e3) _ _ _ _ R3 (k2.trans k3)
  · exact (h2.bind_stuck e3).elim
theorem ss_exp (he : PE X e (RdE ca X.K nv W fa)) (hs : swapsWith e none pos.line X.env = pure false) : PS X (.Expr e pos) (RdS ca X.K nv W (do
    let _ ← fa
    pure none)) := by
  refine ⟨fun pins st σ H D I ⟨s, As, Fs, E, R, q⟩ => (ps_expr he hs).run pins st σ H D I ?_⟩
  have R' : Rel ca X.K nv σ H s As Fs ([] ++ E) := R
  exact ss_one (Z := fun v H1 => D.nx σ H1) R' Kp.refl q fun v s2 H2 As2 Fs2 A R2 k2 h2 => h2 _ _ _ _ R2.drop k2
theorem ss_ret (he : PE X e (RdE ca X.K nv W fa)) : PS X (.Return (some e) pos) (RdS ca X.K nv W (do
    let v ← fa
    pure (some v))) := by
  refine ⟨fun pins st σ H D I ⟨s, As, Fs, E, R, q⟩ => (ps_ret he).run pins st σ H D I ?_⟩
  have R' : Rel ca X.K nv σ H s As Fs ([] ++ E) := R
  exact ss_one (Z := fun v H1 => D.rt v H1) R' Kp.refl q fun v s2 H2 As2 Fs2 A R2 k2 h2 => h2 _ _ _ _ A R2 k2
theorem ss_retN : PS X (.Return none pos) (RdS ca X.K nv W (pure (some .non))) :=
  ⟨fun pins st σ H D I ⟨s, As, Fs, E, R, q⟩ => ps_retN.run pins st σ H D I (q σ H As Fs _ R.non Kp.refl)⟩
theorem ss_pass : PS X (.Pass pos) (RdS ca X.K nv W (pure none)) :=
  ⟨fun pins st σ H D I ⟨s, As, Fs, E, R, q⟩ => ps_pass.run pins st σ H D I (q σ H As Fs R Kp.refl)⟩
theorem ss_stuck {w : String} : PS X st (RdS ca X.K nv W (Tk.stuck w)) := ⟨fun pins st σ H D I ⟨s, As, Fs, E, R, q⟩ => q.elim⟩
theorem ss_doc {x : Str} {j : Nat} {p' : Pos} : PS X (.Expr (.Constant (.str x) j p') pos) (RdS ca X.K nv W (pure none)) :=
  ⟨fun pins st σ H D I ⟨s, As, Fs, E, R, q⟩ => ps_doc.run pins st σ H D I (q σ H As Fs R Kp.refl)⟩
/-- a test ahead of a statement's parts -/
theorem ss_test {D : Ends} {k : Bool → M (Option T)} {Z : Bool → Hp → Prop} (R : Rel ca K nv σ H s As Fs E)
    (h : SPost ca K nv W D s As E ((do let x ← ft; k x : M (Option T)) s))
    (fin : ∀ x s2 H2 As2 Fs2, Rel ca K nv σ H2 s2 As2 Fs2 E → Kp s s2 As As2 → SPost ca K nv W D s As E (k x s2) → Z x H2) :
    RdT ca K nv W ft σ H (fun x H1 => Z x H1) := by
  have h' : SPost ca K nv W D s As E (M.bind ft (fun x => k x) s) := h
  unfold M.bind at h'
  refine ⟨s, As, Fs, E, R, ?_⟩
  cases e : ft s with
  | ok x s1 =>
    rw [e] at h'
    intro H1 As1 Fs1 Ds hl R1 K1
    have e0 : Ds = [] := List.length_eq_zero_iff.mp hl
    subst e0
    exact fin x s1 H1 As1 Fs1 R1 K1 h'
  | exc c pl s1 =>
    rw [e] at h'
    exact fun H1 As1 Fs1 R1 K1 => h' σ H1 As1 Fs1 R1 K1
  | stuck w => rw [e] at h'; exact h'
theorem ss_if (hc : PT X c (RdT ca X.K nv W ft)) (ha : PSs X sts (RdS ca X.K nv W fs)) (hb : PSs X sts2 (RdS ca X.K nv W ft2)) : PS X (.If c sts sts2 pos) (RdS ca X.K nv W (do
    let r ← ft
    match r with
    | true => fs
    | false => ft2)) := by
  refine ⟨fun pins st σ H D I ⟨s, As, Fs, E, R, q⟩ => (ps_if hc ha hb).run pins st σ H D I ?_⟩
  refine ss_test (Z := fun b H1 => if b = true then RdS ca X.K nv W fs D σ H1 else RdS ca X.K nv W ft2 D σ H1) R q fun b s2 H2 As2 Fs2 R2 k2 h2 => ?_
  cases b with
  | true => rw [if_pos rfl]; exact ⟨s2, As2, Fs2, E, R2, SPost.step h2 k2⟩
  | false => rw [if_neg (by simp)]; exact ⟨s2, As2, Fs2, E, R2, SPost.step h2 k2⟩
theorem ss_while (hp : PassesOwn (model X.prog X.w) X.A X.env X.xe) (hc : PT X c (RdT ca X.K nv W ft)) (hb : PSs X sts (RdS ca X.K nv W fs)) (fuel : Nat) : PS X (.While c sts [] pos) (RdS ca X.K nv W (whlN ft fs fuel)) := by
  refine ⟨fun pins st σ H D I ⟨s, As, Fs, E, R, q⟩ => (ps_while hp hc hb).run pins st σ H D I ?_⟩
  refine ⟨fun m σ' H' => ∃ s' As' Fs', Rel ca X.K nv σ' H' s' As' Fs' E ∧ SPost ca X.K nv W D s' As' E (whlN ft fs m s'), ⟨fuel, s, As, Fs, R, q⟩, fun m σ1 H1 hw => ?_⟩
  obtain ⟨s1, As1, Fs1, R1, q1⟩ := hw
  cases m with
  | zero => exact q1.elim
  | succ m =>
    have q1' : SPost ca X.K nv W D s1 As1 E ((do
      let r ← ft
      match r with
      | true => do
        match ← fs with
        | none => whlN ft fs m
        | some v => pure (some v)
      | false => pure none : M (Option T)) s1) := q1
    refine ss_test R1 q1' fun b s2 H2 As2 Fs2 R2 k2 h2 => ?_
    cases b with
    | true =>
      rw [if_pos rfl]
      refine ⟨fun σ' H' => ∃ s' As' Fs', Rel ca X.K nv σ' H' s' As' Fs' E ∧ SPost ca X.K nv W D s' As' E (whlN ft fs m s'), fun σ' H' hN => ⟨m, Nat.lt_succ_self m, hN⟩, ?_⟩
      refine ⟨s2, As2, Fs2, E, R2, ?_⟩
      have h2' : SPost ca X.K nv W D s1 As1 E (M.bind fs (fun r => match r with | none => whlN ft fs m | some v => pure (some v)) s2) := h2
      unfold M.bind at h2'
      cases e : fs s2 with
      | ok r s' =>
        rw [e] at h2'
        cases r with
        | none => exact fun σ' H' As' Fs' R' k' => ⟨s', As', Fs', R', SPost.step h2' (k2.trans k')⟩
        | some v => exact fun σ' H' As' Fs' A R' k' => h2' σ' H' As' Fs' A R' (k2.trans k')
      | exc c pl s' => rw [e] at h2'; exact fun σ' H' As' Fs' R' k' => h2' σ' H' As' Fs' R' (k2.trans k')
      | stuck w => rw [e] at h2'; exact h2'
    | false =>
      rw [if_neg (by simp)]
      exact h2 _ _ _ _ R2 k2
end
end Tk
end
section
/-! Tk14: stores into objects, methods of lists and dicts. -/
namespace Tk
open PySem L2
section
variable {X : Cx} {ca : Str → Addr} {K : PySem.W.Frag} {nv : Fr} {σ σ1 : L2.St} {H H' H2 : Hp} {po : Po} {s s1 s2 s0 : St} {As Fs As1 Fs1 As2 Fs2 As0 Fs0 : List AT} {E E0 E' : List (T × AT)} {W : WX} {a b c e o : Expr} {fa fb fc : M T} {ft ft' : M Bool} {fas : M (List T)} {fs ft2 : M (Option T)} {pos p2 : Pos} {es : List Expr} {st : Stmt} {sts sts2 : List Stmt}
theorem tops_mem {t : T} : ∀ {ts : List T}, t ∈ ts → top t ≤ top.tops ts
  | [], h => by simp at h
  | u :: ts, h => by
    simp only [top.tops]
    rcases List.mem_cons.mp h with e | h
    · rw [e]; omega
    · have := tops_mem h; omega
theorem tops_le {m : Nat} : ∀ {ts : List T}, (∀ t ∈ ts, top t ≤ m) → top.tops ts ≤ m
  | [], _ => by simp [top.tops]
  | u :: ts, h => by
    simp only [top.tops]
    have h1 := h u List.mem_cons_self
    have h2 := tops_le (ts := ts) fun t ht => h t (List.mem_cons_of_mem _ ht)
    omega
theorem top_setAt {u w : T} : ∀ (p : List Nat) (t : T), sub t p = some w → top u ≤ top t → top (setAt t p u) ≤ top t
  | [], t, h, hu => by unfold setAt; exact hu
  | i :: p, t, h, hu => by
    cases t with
    | nd sh ts =>
      cases e : ts[i]? with
      | none => simp [sub, e] at h
      | some v =>
        simp only [setAt, e]
        simp only [top] at hu ⊢
        refine tops_le fun z hz => ?_
        rcases List.mem_or_eq_of_mem_set hz with hz | hz
        · exact tops_mem hz
        · have hv : top.tops ts = max (top v) (top.tops ts) := by have := tops_mem (List.mem_of_getElem? e); omega
          have := (below_top (m := top.tops ts) _).mp (below_setAt (u := u) ((below_top _).mpr hu) p v ((below_top _).mpr (tops_mem (List.mem_of_getElem? e))))
          rw [hz]; exact this
    | _ => simp [sub] at h
/-- AN OBJECT IN A VARIABLE'S TREE IS WRITTEN -/
theorem Rel.poke {c : Nat} {p : List Nat} {x : Cell} {A : AT} {sh sh2 : Sh} {ts ts2 : List T} {m : Bool} {a : Addr} {Bs Bs2 : List AT} {D Rr : List (T × AT)} {ev : Bool}
    (R : Rel ca K nv σ H s As Fs (D ++ E)) (hx : s.get c = some x) (hA : (As ++ Fs)[c]? = some A) (hs : sub x.val p = some (.nd sh ts)) (hB : A.at p = some (.nd m a Bs)) (ho : own sh = true) (ho2 : own sh2 = true)
    (f : Off H H2 a) (hH : HoOk ca K H2 sh2 a (Bs2.map AT.val)) (hl : ts2.length = Bs2.length)
    (from_ : ∀ (i : Nat) (t : T) (B : AT), ts2[i]? = some t → Bs2[i]? = some B → (∃ j : Nat, ts[j]? = some t ∧ Bs[j]? = some B) ∨ (t, B) ∈ D)
    (res : ∀ q ∈ Rr, (∃ j : Nat, ts[j]? = some q.1 ∧ Bs[j]? = some q.2) ∨ q ∈ D)
    (num : ∀ b, cnts b Bs2 + cnts b (Rr.map (·.2)) ≤ cnts b Bs + cnts b (D.map (·.2)))
    (keep : ev = false → ∀ (i : Nat) (t : T) (B : AT), ts[i]? = some t → Bs[i]? = some B → noMut t = false → ts2[i]? = some t ∧ Bs2[i]? = some B)
    (tp : c < s.S.length → top.tops ts2 ≤ top.tops ts) :
    ∃ As' Fs', Rel ca K nv σ H2 (s.put c ⟨if ev then x.log ++ [(p, false)] else x.log, setAt x.val p (.nd sh2 ts2)⟩) As' Fs' (Rr ++ E) ∧ Kp s (s.put c ⟨if ev then x.log ++ [(p, false)] else x.log, setAt x.val p (.nd sh2 ts2)⟩) As As' := by
  have J := R.sim.poke (get_cell hx) hA hs hB ho ho2 f hH hl from_ res num keep
  have bx := R.below_cell (get_cell hx)
  have bt : below.belows (s.S.length + s.F.length) ts = true := by have := below_sub bx hs; simpa [below] using this
  refine R.cell hx hA J (fun z => ⟨fun hh => by rw [hh] at hs; cases p <;> simp [sub] at hs, val_setAt _ _ _ _ hB rfl⟩) (fun hc => ?_) (below_setAt ?_ p _ bx) (fun q hq => ?_)
  · have h1 : top (.nd sh2 ts2) ≤ top x.val := by
      have z : top (.nd sh ts) ≤ top x.val := by
        have := (below_top (m := top x.val) _).mp (below_sub ((below_top x.val).mpr (Nat.le_refl _)) hs)
        exact this
      simp only [top] at z ⊢
      have := tp hc
      omega
    exact top_setAt p _ hs h1
  · simp only [below]
    refine belows_of fun t ht => ?_
    obtain ⟨i, hi⟩ := List.getElem?_of_mem ht
    have hlt : i < Bs2.length := by rw [← hl]; exact (List.getElem?_eq_some_iff.mp hi).1
    rcases from_ i t Bs2[i] hi (by simp [hlt]) with ⟨j, h1, _⟩ | h1
    · exact of_belows bt t (List.mem_of_getElem? h1)
    · exact R.bE _ (List.mem_append_left _ h1)
  · rcases List.mem_append.mp hq with hq | hq
    · rcases res q hq with ⟨j, h1, _⟩ | h1
      · exact of_belows bt q.1 (List.mem_of_getElem? h1)
      · exact R.bE _ (List.mem_append_left _ h1)
    · exact R.bE _ (List.mem_append_right _ hq)
/-- a poke's run: what is found, what must be shown -/
theorem Post.poke {β : Type} {D : β → List T} {Φ : β → List AT → Hp → St → List AT → List AT → Prop} {v : T} {f : Sh → List T → M (T × Sh × List T × Bool)} {g : T → M β} {A0 : AT} (R : Rel ca K nv σ H s As Fs E) (hv : Rp ca K H (PoS (s.S ++ s.F) (As ++ Fs)) v A0)
    (hf : ∀ sh ts, (∃ r, f sh ts s = .ok r s) ∨ ∃ w, f sh ts s = .stuck w)
    (h : Post ca K nv D W σ s0 As0 Fs0 E0 Φ ((Tk.poke v f >>= g) s)) :
    ∃ c n p x sh ts r sh2 ts2 ev A a Bs, v = .ptr c n p ∧ s.get c = some x ∧ (As ++ Fs)[c]? = some A ∧ sub x.val p = some (.nd sh ts) ∧ A.at p = some (.nd (own sh) a Bs) ∧ A0.val = .ref a ∧ HoOk ca K H sh a (Bs.map AT.val) ∧ ts.length = Bs.length ∧
      Rps ca K H (PoS (s.S ++ s.F) (As ++ Fs)) ts Bs ∧ f sh ts s = .ok (r, sh2, ts2, ev) s ∧ (c < s.S.length → top.tops ts2 ≤ top.tops ts) ∧
      Post ca K nv D W σ s0 As0 Fs0 E0 Φ (g r (s.put c ⟨if ev then x.log ++ [(p, false)] else x.log, setAt x.val p (.nd sh2 ts2)⟩)) := by
  cases v with
  | ptr c n p =>
    have h' : Post ca K nv D W σ s0 As0 Fs0 E0 Φ (M.bind (M.bind (deref c n p) fun r0 => M.bind (f r0.2.1 r0.2.2) fun r1 => (fun s => match s.get c with
      | some x => match decide (c < s.S.length) && !decide (top.tops r1.2.2.1 ≤ top.tops r0.2.2) with
        | true => .stuck "a link into an elder frame"
        | false => .ok r1.1 (s.put c ⟨if r1.2.2.2 then x.log ++ [(p, false)] else x.log, setAt x.val p (.nd r1.2.1 r1.2.2.1)⟩)
      | none => .stuck "no cell")) g s) := h
    unfold M.bind at h'
    rcases deref_cases c n p s with ⟨⟨x, sh, ts⟩, e⟩ | ⟨w, e⟩
    · obtain ⟨_, hx, hg, al, hs, nt⟩ := deref_of e
      obtain ⟨v, eA, hp⟩ := rp_ptr hv
      obtain ⟨A, a, Bs, hA, hB, ev, hN⟩ := ptr_node R hp hx al hs nt
      obtain ⟨a', Bs', e2, hH, _, hR⟩ := rp_nd hN
      cases e2
      rw [e] at h'
      simp only at h'
      rcases hf sh ts with ⟨⟨r, sh2, ts2, ev2⟩, ef⟩ | ⟨w, ef⟩
      · rw [ef] at h'
        simp only [hg] at h'
        cases ec : decide (c < s.S.length) && !decide (top.tops ts2 ≤ top.tops ts) with
        | true => rw [ec] at h'; exact h'.elim
        | false =>
          rw [ec] at h'
          refine ⟨c, n, p, x, sh, ts, r, sh2, ts2, ev2, A, a, Bs, rfl, hg, hA, hs, hB, by rw [eA, ev]; rfl, hH, hR.length, hR, ef, fun hc => ?_, h'⟩
          rw [decide_eq_true hc] at ec
          simpa using ec
      · rw [ef] at h'; exact h'.elim
    · rw [e] at h'; exact h'.elim
  | _ => exact h.elim
end
end Tk
end
section
/-! Tk15: methods of built-in types. -/
namespace Tk
open PySem L2
section
variable {X : Cx} {ca : Str → Addr} {K : PySem.W.Frag} {nv : Fr} {σ σ1 : L2.St} {H H' H2 : Hp} {po : Po} {s s1 s2 s0 : St} {As Fs As1 Fs1 As2 Fs2 As0 Fs0 : List AT} {E E0 E' : List (T × AT)} {W : WX} {a b c e o : Expr} {fa fb fc fo : M T} {ft ft' : M Bool} {fas : M (List T)} {fs ft2 : M (Option T)} {pos p2 : Pos} {es : List Expr} {st : Stmt} {sts sts2 : List Stmt}
theorem calm_recv (m : Bm) (x : T) : Calm (recv m x) := by
  have hl : ∀ {α : Type} (g : Sh × List T → M α), (∀ r, Calm (g r)) → Calm (look x >>= g) := fun g h => Calm.bind Calm.look h
  cases m <;> unfold recv <;> simp only <;> first
    | (split <;> first | exact Calm.pure | exact Calm.stuck)
    | (refine hl _ fun r => ?_; obtain ⟨sh, ts⟩ := r; simp only; first
        | exact Calm.need
        | (split <;> first | exact Calm.pure | exact Calm.stuck))
theorem recv_state (m : Bm) (x : T) (s s1 : St) (h : recv m x s = .ok () s1) : s1 = s := by
  have hl : ∀ (g : Sh × List T → M Unit), (∀ r s s1, g r s = .ok () s1 → s1 = s) → (look x >>= g) s = .ok () s1 → s1 = s := fun g hg e => by
    have e' : M.bind (look x) g s = .ok () s1 := e
    unfold M.bind at e'
    rcases look_cases x s with ⟨r, q⟩ | ⟨w, q⟩
    · rw [q] at e'; exact hg r s s1 e'
    · rw [q] at e'; cases e'
  have hn : ∀ (w : String) (b : Bool) (s s1 : St), need w b s = .ok () s1 → s1 = s := fun w b s s1 e => by cases b <;> cases e; rfl
  cases m <;> unfold recv at h <;> simp only at h <;> first
    | (split at h <;> cases h <;> rfl)
    | (refine hl _ (fun r s s1 e => ?_) h; obtain ⟨sh, ts⟩ := r; simp only at e; first
        | exact hn _ _ _ _ e
        | (split at e <;> cases e <;> rfl))
/-- a method of a built-in type by its function on values -/
def BmOk (X : Cx) (ca : Str → Addr) (T : String) (id : String) (m : Bm) (Sel : Tk.T → Tk.St → Prop) : Prop :=
  ∃ r : V → List V → Hp → VK → Prop, MtR X id r ∧
    (∀ (nv : Fr) (σ : L2.St) (s : Tk.St) (As Fs : List AT) (E : List (Tk.T × AT)) (H : Hp) (x : Tk.T) (A : AT), Rel ca X.K nv σ H s As Fs ((x, A) :: E) → Sel x s → tyV X.K T A.val H) ∧
    ∀ (nv : Fr) (σ : L2.St) (W : WX) (s0 s2 : Tk.St) (As0 Fs0 As2 Fs2 : List AT) (E0 : List (Tk.T × AT)) (H : Hp) (Q : VK) (x : Tk.T) (A : AT) (xs : List (Tk.T × AT)), (∃ s, Sel x s) →
      Rel ca X.K nv σ H s2 As2 Fs2 (xs ++ ((x, A) :: E0)) → Kp s0 s2 As0 As2 → VPost ca X.K nv W σ s0 As0 Fs0 E0 Q (bmop m x (xs.map (·.1)) s2) → r A.val ((xs.map (·.2)).map AT.val) H Q
structure MSide (X : Cx) (o : Expr) (name : Str) (apos cpos : Pos) (e : Expr) (es : List Expr) : Prop where
  hbase : attributeBase o name X.env (eval o X.env) = eval o X.env
  hfew : ((backTo cpos (starEach (e :: es) X.env)).all (fun x => !x.1) && (backToKw cpos (keywordEach [] X.env)).all (fun x => x.1.isSome)
      && decide ((e :: es).length + ([] : List Keyword).length + (if ([] : List Keyword).isEmpty then 0 else 1) < 30)) = true
  hline : (apos.endLine == cpos.line) = true
  hs : starEach (e :: es) X.env = (false, eval e X.env) :: starEach es X.env
  hplain : (backTo cpos (starEach es X.env)).any (·.1) = false
/-- what recv tells, of the whole run -/
theorem bm_run {T : String} {m : Bm} {Sel : Tk.T → Tk.St → Prop} {r : V → List V → Hp → VK → Prop} {Q : VK}
    (h1 : ∀ (nv : Fr) (σ : L2.St) (s : Tk.St) (As Fs : List AT) (E : List (Tk.T × AT)) (H : Hp) (x : Tk.T) (A : AT), Rel ca X.K nv σ H s As Fs ((x, A) :: E) → Sel x s → tyV X.K T A.val H)
    (h2 : ∀ (nv : Fr) (σ : L2.St) (W : WX) (s0 s2 : Tk.St) (As0 Fs0 As2 Fs2 : List AT) (E0 : List (Tk.T × AT)) (H : Hp) (Q : VK) (x : Tk.T) (A : AT) (xs : List (Tk.T × AT)), (∃ s, Sel x s) →
      Rel ca X.K nv σ H s2 As2 Fs2 (xs ++ ((x, A) :: E0)) → Kp s0 s2 As0 As2 → VPost ca X.K nv W σ s0 As0 Fs0 E0 Q (bmop m x (xs.map (·.1)) s2) → r A.val ((xs.map (·.2)).map AT.val) H Q)
    (R : Rel ca X.K nv σ H s As Fs E)
    (sel : ∀ x s', fo s = .ok x s' → recv m x s' = .ok () s' → Sel x s')
    (q : VPost ca X.K nv W σ s As Fs E Q ((do
      let x ← fo
      let _ ← recv m x
      let as ← fas
      bmop m x as : M Tk.T) s)) : RdE ca X.K nv W fo σ H fun x H1 => tyV X.K T x H1 ∧ RdA ca X.K nv W fas σ H1 fun xs H2 => r x xs H2 Q := by
  have q' : VPost ca X.K nv W σ s As Fs E Q (M.bind fo (fun x => M.bind (recv m x) fun _ => M.bind fas fun as => bmop m x as) s) := q
  refine ⟨s, As, Fs, E, R, ?_⟩
  unfold M.bind at q'
  cases e : fo s with
  | ok x s1 =>
    intro H1 As1 Fs1 Ds hl R1 K1 A1 eD
    subst eD
    have R1' : Rel ca X.K nv σ H1 s1 As1 Fs1 ([(x, A1)] ++ E) := R1
    rw [e] at q'
    simp only at q'
    cases er : recv m x s1 with
    | ok u s2 =>
      have es := recv_state m x s1 s2 (by rw [er])
      subst es
      rw [er] at q'
      simp only at q'
      have hsel := sel x s2 e (by rw [er])
      refine ⟨h1 nv σ s2 As1 Fs1 E H1 x A1 R1 hsel, ?_⟩
      refine rd_mA (k := fun as => bmop m x as) R1' K1 q' fun xs s3 H3 As3 Fs3 R3 k3 h3 => ?_
      exact h2 nv σ W s s3 As Fs As3 Fs3 E H3 Q x A1 xs ⟨s2, hsel⟩ R3 k3 h3
    | exc c pl s2 => exact absurd er (calm_recv m x s1 c pl s2)
    | stuck w => rw [er] at q'; exact q'.elim
  | exc c pl s1 =>
    rw [e] at q'
    exact fun H1 As1 Fs1 R1 K1 => q' H1 As1 Fs1 R1 K1
  | stuck w => rw [e] at q'; exact q'
theorem se_bm {T id : String} {name : Str} {m : Bm} {Sel : Tk.T → Tk.St → Prop} {apos cpos : Pos} (B : BmOk X ca T id m Sel) (sel : ∀ x s, recv m x s = .ok () s → Sel x s) (pa : PlainAttrs T) (slot : Slot T name id) (hty : typeOf (.builtin id) = pure (.type "method_descriptor"))
    (ho : PE X o (RdE ca X.K nv W fo)) (ha : PA X (e :: es) (RdA ca X.K nv W fas)) (M : MSide X o name apos cpos e es) : PE X (.Call (.Attribute o name apos) (e :: es) [] cpos) (RdE ca X.K nv W (do
      let x ← fo
      let _ ← recv m x
      let as ← fas
      bmop m x as)) := by
  obtain ⟨r, hm, h1, h2⟩ := B
  refine ⟨fun pins st σ H Q I ⟨s, As, Fs, E, R, q⟩ => (pe_bm pa slot hty hm ho ha M.hbase M.hfew M.hline M.hs M.hplain).run pins st σ H Q I ?_⟩
  exact bm_run h1 h2 R (fun x s' _ h => sel x s' h) q
theorem se_bm0 {T id : String} {name : Str} {m : Bm} {Sel : Tk.T → Tk.St → Prop} {apos cpos : Pos} (B : BmOk X ca T id m Sel) (sel : ∀ x s, recv m x s = .ok () s → Sel x s) (pa : PlainAttrs T) (slot : Slot T name id) (hty : typeOf (.builtin id) = pure (.type "method_descriptor"))
    (ho : PE X o (RdE ca X.K nv W fo)) (hbase : attributeBase o name X.env (eval o X.env) = eval o X.env) (hline : (apos.endLine == cpos.line) = true) : PE X (.Call (.Attribute o name apos) [] [] cpos) (RdE ca X.K nv W (do
      let x ← fo
      let _ ← recv m x
      let as ← (pure [] : M (List Tk.T))
      bmop m x as)) := by
  obtain ⟨r, hm, h1, h2⟩ := B
  refine ⟨fun pins st σ H Q I ⟨s, As, Fs, E, R, q⟩ => (pe_bm0 pa slot hty hm ho hbase hline).run pins st σ H Q I ?_⟩
  have z := bm_run (fas := pure []) h1 h2 R (fun x s' _ h => sel x s' h) q
  obtain ⟨s', As', Fs', E', R', p⟩ := z
  refine ⟨s', As', Fs', E', R', ?_⟩
  cases er : fo s' with
  | ok x s1 =>
    rw [er] at p
    intro H1 As1 Fs1 Ds hl R1 K1 A1 eD
    obtain ⟨z1, s3, As3, Fs3, E3, R3, p3⟩ := p H1 As1 Fs1 Ds hl R1 K1 A1 eD
    exact ⟨z1, p3 H1 As3 Fs3 [] rfl R3 Kp.refl⟩
  | exc c pl s1 => rw [er] at p; exact p
  | stuck w => rw [er] at p; exact p
/-! ### what the objects are -/
def isLstAt (x : T) (s : Tk.St) : Prop := ∃ lk ts, look x s = .ok (.lst lk, ts) s
def isStrT (x : T) (s : Tk.St) : Prop := ∃ z, x = .str z
theorem look_run {x : T} {s : Tk.St} {g : Sh × List T → M Unit} (h : (look x >>= g) s = .ok () s1) : ∃ sh ts, look x s = .ok (sh, ts) s ∧ g (sh, ts) s = .ok () s1 := by
  have h' : M.bind (look x) g s = .ok () s1 := h
  unfold M.bind at h'
  rcases look_cases x s with ⟨r, q⟩ | ⟨w, q⟩
  · rw [q] at h'; exact ⟨r.1, r.2, q, h'⟩
  · rw [q] at h'; cases h'
theorem recv_lst {m : Bm} (hm : recv m = fun x => (do
    let (sh, _) ← look x
    match sh with
    | .lst _ => pure ()
    | _ => stuck "no list" : M Unit)) (x : T) (s : Tk.St) (h : recv m x s = .ok () s) : isLstAt x s := by
  rw [hm] at h
  obtain ⟨sh, ts, e, h⟩ := look_run h
  cases sh with
  | lst lk => exact ⟨lk, ts, e⟩
  | _ => cases h
theorem recv_str {m : Bm} (hm : recv m = fun x => (match x with
    | .str _ => pure ()
    | _ => stuck "no text" : M Unit)) (x : T) (s : Tk.St) (h : recv m x s = .ok () s) : isStrT x s := by
  rw [hm] at h
  cases x with
  | str z => exact ⟨z, rfl⟩
  | _ => cases h
theorem sqL_of {lk : Bool} {a : Addr} {vs : List V} (hH : HoOk ca K H (.lst lk) a vs) : SqL K H a vs := by
  cases lk with
  | false => exact SqL.of hH
  | true =>
    rcases hH with ⟨o, z⟩ | z
    · exact .inl (.inr ⟨o, z⟩)
    · exact .inr z
theorem ty_lst {x : T} {A : AT} (R : Rel ca K nv σ H s As Fs ((x, A) :: E)) (h : isLstAt x s) : tyV K "list" A.val H := by
  obtain ⟨lk, ts, e⟩ := h
  obtain ⟨_, a, Bs, ea, hH, _⟩ := look_of R e
  rw [ea]
  exact .inl ⟨rfl, _, sqL_of hH⟩
theorem ty_str {x : T} {A : AT} (R : Rel ca K nv σ H s As Fs ((x, A) :: E)) (h : isStrT x s) : tyV K "str" A.val H := by
  obtain ⟨z, e⟩ := h
  subst e
  have e1 := rp_str R.head
  subst e1
  rfl
theorem one_of {xs : List (T × AT)} {t : T} (h : xs.map (·.1) = [t]) : ∃ A, xs = [(t, A)] := by
  match xs, h with
  | [q], h => exact ⟨q.2, by cases q; simp at h; simp [h]⟩
theorem off_lst {a : Addr} {vs : List V} {o : HO} (h : H a = some (.lst vs)) : Off H (L2.upd H a o) a := Off.upd (fun vs q => by rw [h] at q; cases q) (fun o vs q => by rw [h] at q; cases q)
theorem Post.bindp {α : Type} {D : α → List T} {Φ : α → List AT → Hp → Tk.St → List AT → List AT → Prop} {f : M α} (h : Post ca K nv D W σ s0 As0 Fs0 E0 Φ (f s)) : Post ca K nv D W σ s0 As0 Fs0 E0 Φ ((f >>= fun r => pure r) s) := by
  show Post _ _ _ _ _ _ _ _ _ _ _ (M.bind _ _ _)
  unfold M.bind
  cases e : f s with
  | ok a s' => rw [e] at h; exact h
  | exc c pl s' => rw [e] at h; exact h
  | stuck w => rw [e] at h; exact h
/-! ### append -/
theorem apF_run (y : T) (sh : Sh) (ts : List T) (s : Tk.St) : (∃ r, apF y sh ts s = .ok r s) ∨ ∃ w, apF y sh ts s = .stuck w := by
  unfold apF
  cases sh with
  | lst lk => cases lk with
    | false => 
      cases q : decide (ts.length < sizeLine) with
      | true => exact .inl ⟨_, rfl⟩
      | false => exact .inr ⟨_, rfl⟩
    | true => exact .inr ⟨_, rfl⟩
  | _ => exact .inr ⟨_, rfl⟩
theorem bm_append : BmOk X ca "list" "list.append" .append isLstAt := by
  refine ⟨_, mt_append, fun nv σ s As Fs E H x A R h => ty_lst R h, fun nv σ W s0 s2 As0 Fs0 As2 Fs2 E0 H Q x A xs _ R k h => ?_⟩
  match xs, h, R with
  | [(y, B)], h, R =>
    have R1 : Rel ca X.K nv σ H s2 As2 Fs2 ([(y, B)] ++ ((x, A) :: E0)) := R
    have hx : Rp ca X.K H (PoS (s2.S ++ s2.F) (As2 ++ Fs2)) x A := R.second
    have h0 : VPost ca X.K nv W σ s0 As0 Fs0 E0 Q (poke x (apF y) s2) := h
    obtain ⟨c, n, p, cx, sh, ts, r, sh2, ts2, ev, A', a, Bs, ex, hg, hA, hs, hB, eA, hH, hl, hR, ef, tp, hp⟩ := Post.poke R1 hx (fun sh ts => apF_run y sh ts s2) (Post.bindp h0)
    unfold apF at ef
    cases sh with
    | lst lk => cases lk with
      | false =>
        cases q : decide (ts.length < sizeLine) with
        | true =>
          simp only [q] at ef
          cases ef
          have hH' : H a = some (.lst (Bs.map AT.val)) := hH
          refine ⟨a, _, B.val, eA, rfl, hH', by rw [List.length_map, ← hl]; exact of_decide_eq_true q, ?_⟩
          have e2 : (Bs.map AT.val) ++ [B.val] = (Bs ++ [B]).map AT.val := by simp
          rw [e2]
          obtain ⟨As', Fs', R', k'⟩ := Rel.poke (D := [(y, B)]) (Rr := []) (E := (x, A) :: E0) (ev := false) (sh2 := .lst false) (ts2 := ts ++ [y]) (Bs2 := Bs ++ [B]) (H2 := L2.upd H a (.lst ((Bs ++ [B]).map AT.val))) R1 hg hA hs hB rfl rfl (off_lst hH') (L2.upd_same) (by simp [hl]) (fun i t B' h1 h2 => by
            by_cases hi : i < ts.length
            · rw [List.getElem?_append_left hi] at h1
              rw [List.getElem?_append_left (by omega)] at h2
              exact .inl ⟨i, h1, h2⟩
            · rw [List.getElem?_append_right (by omega)] at h1
              rw [List.getElem?_append_right (by omega), ← hl] at h2
              cases e : i - ts.length with
              | zero => rw [e] at h1 h2; simp at h1 h2; subst h1; subst h2; exact .inr (by simp)
              | succ j => rw [e] at h1; simp at h1) (fun q hq => by simp at hq) (fun b => by simp only [cnts_append, List.map_cons, List.map_nil, cnts]; omega) (fun _ i t B' h1 h2 _ => by
            have hi := (List.getElem?_eq_some_iff.mp h1).1
            exact ⟨by rw [List.getElem?_append_left hi]; exact h1, by rw [List.getElem?_append_left (by omega)]; exact h2⟩) tp
          have R2 : Rel ca X.K nv σ _ _ As' Fs' ((x, A) :: E0) := R'
          exact Post.val hp (R2.drop.non) (k.trans k')
        | false => simp only [q] at ef; cases ef
      | true => cases ef
    | _ => cases ef
  | [], h, R => exact h.elim
  | _ :: _ :: _, h, R => exact h.elim
end
end Tk
end
section
/-! Tk16: texts' methods, built-in functions. -/
namespace Tk
open PySem L2
section
variable {X : Cx} {ca : Str → Addr} {K : PySem.W.Frag} {nv : Fr} {σ σ1 : L2.St} {H H' H2 : Hp} {po : Po} {s s1 s2 s0 : St} {As Fs As1 Fs1 As2 Fs2 As0 Fs0 : List AT} {E E0 E' : List (T × AT)} {W : WX} {a b c e o : Expr} {fa fb fc fo : M T} {ft ft' : M Bool} {fas : M (List T)} {fs ft2 : M (Option T)} {pos p p2 : Pos} {es : List Expr} {st : Stmt} {sts sts2 : List Stmt}
theorem Rel.strs (R : Rel ca K nv σ H s As Fs E) : ∀ ys : List Str, Rel ca K nv σ H s As Fs (ys.map (fun z => (T.str z, AT.lf (V.str z))) ++ E)
  | [] => R
  | y :: ys => (Rel.strs R ys).str y
theorem Rel.ints (R : Rel ca K nv σ H s As Fs E) : ∀ ys : List Int, Rel ca K nv σ H s As Fs (ys.map (fun z => (T.int z, AT.lf (V.int z))) ++ E)
  | [] => R
  | y :: ys => (Rel.ints R ys).int y
theorem strL_of : ∀ {ts : List T} {l : List Str} {Bs : List AT}, strL ts = some l → Rps ca K H po ts Bs → Bs.map AT.val = l.map V.str
  | [], l, Bs, e, h => by cases e; cases Bs <;> simp [Rps] at h ⊢
  | t :: ts, l, [], e, h => by simp [Rps] at h
  | t :: ts, l, B :: Bs, e, h => by
    simp only [Rps] at h
    cases t with
    | str z =>
      simp only [strL] at e
      cases q : strL ts with
      | none => rw [q] at e; cases e
      | some l' =>
        rw [q] at e
        cases e
        have e1 := rp_str h.1
        subst e1
        simp only [List.map_cons, strL_of q h.2]; rfl
    | _ => simp [strL] at e
theorem intL_of : ∀ {ts : List T} {l : List Int} {Bs : List AT}, intL ts = some l → Rps ca K H po ts Bs → Bs.map AT.val = l.map V.int
  | [], l, Bs, e, h => by cases e; cases Bs <;> simp [Rps] at h ⊢
  | t :: ts, l, [], e, h => by simp [Rps] at h
  | t :: ts, l, B :: Bs, e, h => by
    simp only [Rps] at h
    cases t with
    | int z =>
      simp only [intL] at e
      cases q : intL ts with
      | none => rw [q] at e; cases e
      | some l' =>
        rw [q] at e
        cases e
        have e1 := rp_int h.1
        subst e1
        simp only [List.map_cons, intL_of q h.2]; rfl
    | _ => simp [intL] at e
theorem bm_split : BmOk X ca "str" "str.split" .split isStrT := by
  refine ⟨_, mt_split, fun nv σ s As Fs E H x A R h => ty_str R h, fun nv σ W s0 s2 As0 Fs0 As2 Fs2 E0 H Q x A xs hs R k h => ?_⟩
  obtain ⟨_, z, ex⟩ := hs
  subst ex
  match xs, h, R with
  | [(y, B)], h, R =>
    cases y with
    | str y =>
      have e1 := rp_str R.second
      have e2 := rp_str R.head
      subst e1; subst e2
      obtain ⟨c, h⟩ := Post.need (show VPost ca X.K nv W σ s0 As0 Fs0 E0 Q ((need "split" (decide (y.length ≠ 0) && fitT (z.length + 2)) >>= fun _ => pure (.nd (.lst false) ((PySem.Txt.split z y).map .str))) s2) from h)
      obtain ⟨c1, c2⟩ := and2 c
      have c1 := of_decide_eq_true c1
      refine ⟨z, y, rfl, rfl, by simpa using c1, fitT_le c2, fun p hp => ?_⟩
      have R2 := Rel.strs (R.drop.drop) (PySem.Txt.split z y)
      have q := VPost.newlist (p := p) (D := (PySem.Txt.split z y).map (fun z => (T.str z, AT.lf (V.str z)))) (by rw [List.map_map]; exact h) R2 k hp
      rw [List.map_map, List.map_map] at q
      exact q
    | _ => exact h.elim
  | [], h, R => exact h.elim
  | (y, _) :: (z', _) :: _, h, R => cases y <;> first | exact h.elim | (cases z' <;> exact h.elim)
theorem bm_join : BmOk X ca "str" "str.join" .join isStrT := by
  refine ⟨_, mt_join, fun nv σ s As Fs E H x A R h => ty_str R h, fun nv σ W s0 s2 As0 Fs0 As2 Fs2 E0 H Q x A xs hs R k h => ?_⟩
  obtain ⟨_, z, ex⟩ := hs
  subst ex
  match xs, h, R with
  | [(y, B)], h, R =>
    have e1 := rp_str R.second
    subst e1
    have h : VPost ca X.K nv W σ s0 As0 Fs0 E0 Q ((do
      let (sh, ts) ← look y
      let l ← ofOpt "join" (strL ts)
      let _ ← need "join, long" (decide ((l.map (·.length)).sum + l.length * z.length ≤ 16777216))
      match sh with
      | .lst _ => pure (.str (PySem.Txt.join z l))
      | .tup => pure (.str (PySem.Txt.join z l))
      | _ => stuck "join" : M T) s2) := h
    obtain ⟨sh, ts, hl, h⟩ := Post.look h
    obtain ⟨_, a, Bs, ea, hH, la, hR, _, R4⟩ := look_of R hl
    obtain ⟨l, hL, h⟩ := Post.opt h
    obtain ⟨c, h⟩ := Post.need h
    have ev := strL_of hL hR
    rw [ev] at hH
    have fin : VPost ca X.K nv W σ s0 As0 Fs0 E0 Q (.ok (.str (PySem.Txt.join z l)) s2) ∧ (SqL X.K H a (l.map V.str) ∨ SqT X.K H a (l.map V.str)) := by
      cases sh with
      | lst lk => exact ⟨h, .inl (sqL_of hH)⟩
      | tup => exact ⟨h, .inr (SqT.of hH)⟩
      | _ => exact h.elim
    exact ⟨z, a, l, rfl, by simp only [List.map_cons, List.map_nil, ea], fin.2, of_decide_eq_true c, Post.val fin.1 (R.drop.drop.str _) k⟩
  | [], h, R => exact h.elim
  | (y, _) :: (z', _) :: _, h, R => cases y <;> first | exact h.elim | (cases z' <;> exact h.elim)
theorem bm_find : BmOk X ca "str" "str.find" .find isStrT := by
  refine ⟨_, mt_find3, fun nv σ s As Fs E H x A R h => ty_str R h, fun nv σ W s0 s2 As0 Fs0 As2 Fs2 E0 H Q x A xs hs R k h => ?_⟩
  obtain ⟨_, z, ex⟩ := hs
  subst ex
  match xs, h, R with
  | [(y, B), (i, C)], h, R =>
    cases y with
    | str y =>
      cases i with
      | int i =>
        have e3 := rp_str (R.get (List.mem_cons_of_mem _ (List.mem_cons_of_mem _ List.mem_cons_self)))
        have e1 := rp_int R.second
        have e2 := rp_str R.head
        subst e1; subst e2; subst e3
        obtain ⟨c, h⟩ := Post.need (show VPost ca X.K nv W σ s0 As0 Fs0 E0 Q ((need "find" (decide (0 ≤ i) && decide (i < 2 ^ 62)) >>= fun _ => pure (.int (PySem.Txt.find3 z y i))) s2) from h)
        exact ⟨z, y, i, rfl, rfl, Post.val h (R.drop.drop.drop.int _) k⟩
      | _ => exact h.elim
    | _ => cases i <;> exact h.elim
  | [], h, R => exact h.elim
  | [(y, _)], h, R => cases y <;> exact h.elim
  | (y, _) :: (z', _) :: _ :: _, h, R => cases y <;> first | exact h.elim | (cases z' <;> exact h.elim)
/-! ### functions -/
/-- a built-in function (or type) by its function on values -/
def BfOk (X : Cx) (ca : Str → Addr) (f : Value) (op : List Tk.T → M Tk.T) : Prop :=
  ∃ r : List V → Hp → VK → Prop, CallR X f r ∧
    ∀ (nv : Fr) (σ : L2.St) (W : WX) (s0 s2 : Tk.St) (As0 Fs0 As2 Fs2 : List AT) (E0 : List (Tk.T × AT)) (H : Hp) (Q : VK) (xs : List (Tk.T × AT)),
      Rel ca X.K nv σ H s2 As2 Fs2 (xs ++ E0) → Kp s0 s2 As0 As2 → VPost ca X.K nv W σ s0 As0 Fs0 E0 Q (op (xs.map (·.1)) s2) → r ((xs.map (·.2)).map AT.val) H Q
structure CSide (X : Cx) (x : Str) (pos : Pos) (e : Expr) (es : List Expr) : Prop where
  hg : Gl X x
  hm : X.mg x = none
  hn : x ≠ "__name__"
  hdb : (x == ("__debug__" : Str)) = false
  he : starEach (e :: es) X.env = (false, eval e X.env) :: starEach es X.env
  hpl : (backTo pos (starEach es X.env)).any (·.1) = false
theorem se_callB {id : String} {x : Str} {op : List T → M T} (B : BfOk X ca (.builtin id) op) (hv : bootBuiltins x = some (.builtin id)) (C : CSide X x pos e es) (ha : PA X (e :: es) (RdA ca X.K nv W fas)) :
    PE X (.Call (.Name x p) (e :: es) [] pos) (RdE ca X.K nv W (do let as ← fas; op as)) := by
  obtain ⟨r, hr, hq⟩ := B
  refine ⟨fun pins st σ H Q I ⟨s, As, Fs, E, R, q⟩ => (pe_callB hr C.hg C.hm hv ha C.hn C.hdb C.he C.hpl).run pins st σ H Q I ?_⟩
  exact rd_args R q fun xs s2 H2 As2 Fs2 R2 k2 h2 => hq nv σ W s s2 As Fs As2 Fs2 E H2 Q xs R2 k2 h2
theorem se_callTy {ty : String} {x : Str} {op : List T → M T} (B : BfOk X ca (.type ty) op) (hv : bootBuiltins x = some (.type ty)) (C : CSide X x pos e es) (ha : PA X (e :: es) (RdA ca X.K nv W fas)) :
    PE X (.Call (.Name x p) (e :: es) [] pos) (RdE ca X.K nv W (do let as ← fas; op as)) := by
  obtain ⟨r, hr, hq⟩ := B
  refine ⟨fun pins st σ H Q I ⟨s, As, Fs, E, R, q⟩ => (pe_callTy hr C.hg C.hm hv ha C.hn C.hdb C.he C.hpl).run pins st σ H Q I ?_⟩
  exact rd_args R q fun xs s2 H2 As2 Fs2 R2 k2 h2 => hq nv σ W s s2 As Fs As2 Fs2 E H2 Q xs R2 k2 h2
end
end Tk
end
section
/-! Tk17: built-in functions, isinstance. -/
namespace Tk
open PySem L2
section
variable {X : Cx} {ca : Str → Addr} {K : PySem.W.Frag} {nv : Fr} {σ σ1 : L2.St} {H H' H2 : Hp} {po : Po} {s s1 s2 s0 : St} {As Fs As1 Fs1 As2 Fs2 As0 Fs0 : List AT} {E E0 E' : List (T × AT)} {W : WX} {a b c e o : Expr} {fa fb fc fo : M T} {ft ft' : M Bool} {fas : M (List T)} {fs ft2 : M (Option T)} {pos p p2 : Pos} {es : List Expr} {st : Stmt} {sts sts2 : List Stmt}
theorem op_len_dK : CallR X (.builtin "len") (fun xs H Q => ∃ a kvs, xs = [.ref a] ∧ Rd H a (.dK kvs) ∧ Q (.int (kvs.length : Nat)) H) := by
  intro pins s σ H xs us Q I r h
  obtain ⟨a, kvs, rfl, e, q⟩ := h
  obtain ⟨u, rfl, rx⟩ := vals1 r
  cases rx
  exact d_len I e fun t s' I' => ⟨.int _, H, I', ⟨_, rfl⟩, q⟩
theorem bf_len : BfOk X ca (.builtin "len") (bfop .len) := by
  refine ⟨_, CallR.or (CallR.or call_len op_len_dK) call_len_dT, fun nv σ W s0 s2 As0 Fs0 As2 Fs2 E0 H Q xs R k h => ?_⟩
  match xs, h, R with
  | [], h, R => exact h.elim
  | (x, _) :: _ :: _, h, R => cases x <;> exact h.elim
  | [(x, A)], h, R =>
    have R' : Rel ca X.K nv σ H s2 As2 Fs2 ((x, A) :: E0) := R
    have gen : VPost ca X.K nv W σ s0 As0 Fs0 E0 Q ((do
      let (sh, ts) ← look x
      match sh with
      | .ins _ _ => stuck "len"
      | .dT true _ => stuck "len"
      | _ => pure (.int ts.length) : M T) s2) → ((∃ x n, [A.val] = [x] ∧ LenV X.K x H n ∧ Q (.int n) H) ∨ (∃ a kvs, [A.val] = [.ref a] ∧ Rd H a (.dK kvs) ∧ Q (.int (kvs.length : Nat)) H)) ∨ rLenT [A.val] H Q := fun h => by
      obtain ⟨sh, ts, hl, h⟩ := Post.look h
      obtain ⟨_, a, Bs, ea, hH, la, hR, _, R4⟩ := look_of R' hl
      have lb : (Bs.map AT.val).length = ts.length := by rw [List.length_map, la]
      cases sh with
      | tup => exact .inl (.inl ⟨A.val, ts.length, rfl, by rw [ea]; exact .inr ⟨_, SqT.of hH, lb.symm⟩, Post.val h (R'.drop.int _) k⟩)
      | lst lk => exact .inl (.inl ⟨A.val, ts.length, rfl, by rw [ea]; exact .inl ⟨_, sqL_of hH, lb.symm⟩, Post.val h (R'.drop.int _) k⟩)
      | dK lk ks =>
        have hz : (ks.zip (Bs.map AT.val)).length = ts.length := by
          have : ks.length = (Bs.map AT.val).length := by cases lk <;> exact hH.2.1
          rw [List.length_zip, this, lb, Nat.min_self]
        refine .inl (.inr ⟨a, ks.zip (Bs.map AT.val), by rw [ea], ?_, ?_⟩)
        · cases lk with
          | false => exact .inl hH.2.2
          | true => exact .inr hH.2.2
        · rw [hz]; exact Post.val h (R'.drop.int _) k
      | dT lk ks =>
        cases lk with
        | true => exact h.elim
        | false =>
          have hz : (ks.zip (Bs.map AT.val)).length = ts.length := by
            have : ks.length = (Bs.map AT.val).length := hH.2.1
            rw [List.length_zip, this, lb, Nat.min_self]
          refine .inr ⟨a, ks.zip (Bs.map AT.val), by rw [ea], hH.2.2, ?_⟩
          rw [hz]; exact Post.val h (R'.drop.int _) k
      | ins c fs => exact h.elim
    cases x with
    | str z =>
      have e1 := rp_str R'.head
      subst e1
      obtain ⟨f, h⟩ := Post.need (show VPost ca X.K nv W σ s0 As0 Fs0 E0 Q ((need "text too long" (fitT z.length) >>= fun _ => pure (.int z.length)) s2) from h)
      exact .inl (.inl ⟨.str z, z.length, rfl, ⟨fitT_le f, rfl⟩, Post.val h (R'.drop.int _) k⟩)
    | _ => exact gen h
theorem bf_int : BfOk X ca (.type "int") (bfop .int) := by
  refine ⟨_, CallR.or call_int1 call_int_str, fun nv σ W s0 s2 As0 Fs0 As2 Fs2 E0 H Q xs R k h => ?_⟩
  match xs, h, R with
  | [], h, R => exact h.elim
  | (x, _) :: _ :: _, h, R => cases x <;> exact h.elim
  | [(x, A)], h, R =>
    have R' : Rel ca X.K nv σ H s2 As2 Fs2 ((x, A) :: E0) := R
    cases x with
    | int i =>
      have e1 := rp_int R'.head
      subst e1
      exact .inl (.inl ⟨i, rfl, Post.val h (R'.drop.int _) k⟩)
    | bl b =>
      have e1 := rp_bl R'.head
      subst e1
      exact .inl (.inr ⟨b, rfl, Post.val h (R'.drop.int _) k⟩)
    | str z =>
      have e1 := rp_str R'.head
      subst e1
      obtain ⟨f, h⟩ := Post.need (show VPost ca X.K nv W σ s0 As0 Fs0 E0 Q ((do
        let _ ← need "int of a long text" (decide (z.length ≤ 640))
        let n ← ofOpt "int of no number" (PySem.intText? z)
        pure (.int n) : M T) s2) from h)
      obtain ⟨n, hn, h⟩ := Post.opt h
      exact .inr ⟨z, n, rfl, hn, of_decide_eq_true f, Post.val h (R'.drop.int _) k⟩
    | _ => exact h.elim
theorem bf_str : BfOk X ca (.type "str") (bfop .str) := by
  refine ⟨_, call_str_int, fun nv σ W s0 s2 As0 Fs0 As2 Fs2 E0 H Q xs R k h => ?_⟩
  match xs, h, R with
  | [], h, R => exact h.elim
  | (x, _) :: _ :: _, h, R => cases x <;> exact h.elim
  | [(x, A)], h, R =>
    have R' : Rel ca X.K nv σ H s2 As2 Fs2 ((x, A) :: E0) := R
    cases x with
    | int i =>
      have e1 := rp_int R'.head
      subst e1
      obtain ⟨f, h⟩ := Post.need (show VPost ca X.K nv W σ s0 As0 Fs0 E0 Q ((need "str of a great int" (decide (i.natAbs.log2 < 1920)) >>= fun _ => pure (.str (Str.ofString (toString i)))) s2) from h)
      exact ⟨i, rfl, of_decide_eq_true f, Post.val h (R'.drop.str _) k⟩
    | _ => exact h.elim
theorem bf_abs : BfOk X ca (.builtin "abs") (bfop .abs) := by
  refine ⟨_, call_abs, fun nv σ W s0 s2 As0 Fs0 As2 Fs2 E0 H Q xs R k h => ?_⟩
  match xs, h, R with
  | [], h, R => exact h.elim
  | (x, _) :: _ :: _, h, R => cases x <;> exact h.elim
  | [(x, A)], h, R =>
    have R' : Rel ca X.K nv σ H s2 As2 Fs2 ((x, A) :: E0) := R
    cases x with
    | int i =>
      have e1 := rp_int R'.head
      subst e1
      refine ⟨i, rfl, ?_⟩
      have e : (if i < 0 then -i else i) = (i.natAbs : Int) := by split <;> omega
      rw [e]
      exact Post.val h (R'.drop.int _) k
    | _ => exact h.elim
theorem keyT_ok (k : L2.Key) : Rp ca K H po (keyT k) (.lf (kV k)) := by cases k <;> simp [keyT, kV, Rp]
theorem Rel.keys (R : Rel ca K nv σ H s As Fs E) : ∀ ks : List L2.Key, Rel ca K nv σ H s As Fs (ks.map (fun k => (keyT k, AT.lf (kV k))) ++ E)
  | [] => R
  | k :: ks => (Rel.keys R ks).push (keyT_ok k) (fun _ => rfl) (by cases k <;> rfl)
theorem bf_list (hc : X.calm = true) : BfOk X ca (.type "list") (bfop .list) := by
  refine ⟨_, CallR.or call_list_of (call_listD hc), fun nv σ W s0 s2 As0 Fs0 As2 Fs2 E0 H Q xs R k h => ?_⟩
  match xs, h, R with
  | [], h, R => exact h.elim
  | _ :: _ :: _, h, R => exact h.elim
  | [(x, A)], h, R =>
    have R' : Rel ca X.K nv σ H s2 As2 Fs2 ((x, A) :: E0) := R
    have h : VPost ca X.K nv W σ s0 As0 Fs0 E0 Q ((do
      let (sh, ts) ← look x
      match sh with
      | .dK _ ks => pure (.nd (.lst false) (ks.map keyT))
      | .dT _ ks => stuck "list of a dict of tuples"
      | .ins _ _ => stuck "list"
      | _ => pure (.nd (.lst false) ts) : M T) s2) := h
    obtain ⟨sh, ts, hl, h⟩ := Post.look h
    obtain ⟨_, a, Bs, ea, hH, la, hR, _, R4⟩ := look_of R' hl
    have sq : VPost ca X.K nv W σ s0 As0 Fs0 E0 Q (.ok (.nd (.lst false) ts) s2) → ∀ l, H l = none → Q (.ref l) (L2.upd H l (.lst (Bs.map AT.val))) := fun h l hp => by
      have q := VPost.newlist (p := l) (D := ts.zip Bs) (by rw [mem_zip_fst la]; exact h) R4 k hp
      rw [mem_zip_snd la] at q
      exact q
    cases sh with
    | tup => exact .inl ⟨a, _, by simp only [List.map_cons, List.map_nil, ea], .inr (SqT.of hH), sq h⟩
    | lst lk => exact .inl ⟨a, _, by simp only [List.map_cons, List.map_nil, ea], .inl (sqL_of hH), sq h⟩
    | dK lk ks =>
      have hlen : ks.length = (Bs.map AT.val).length := by cases lk <;> exact hH.2.1
      refine .inr ⟨a, ks.zip (Bs.map AT.val), by simp only [List.map_cons, List.map_nil, ea], ?_, fun p hp => ?_⟩
      · cases lk with
        | false => exact .inl hH.2.2
        | true => exact .inr hH.2.2
      · have R5 := Rel.keys R'.drop ks
        have q := VPost.newlist (p := p) (D := ks.map (fun k => (keyT k, AT.lf (kV k)))) (by rw [List.map_map]; exact h) R5 k hp
        rw [List.map_map, List.map_map] at q
        have e : (ks.zip (Bs.map AT.val)).map (fun kv => kV kv.1) = ks.map kV := by
          rw [show (fun kv : L2.Key × V => kV kv.1) = kV ∘ Prod.fst from rfl, ← List.map_map, List.map_fst_zip (Nat.le_of_eq hlen)]
        rw [e]
        exact q
    | _ => exact h.elim
theorem bf_tuple : BfOk X ca (.type "tuple") (bfop .tuple) := by
  refine ⟨_, call_tuple_of, fun nv σ W s0 s2 As0 Fs0 As2 Fs2 E0 H Q xs R k h => ?_⟩
  match xs, h, R with
  | [], h, R => exact h.elim
  | _ :: _ :: _, h, R => exact h.elim
  | [(x, A)], h, R =>
    have R' : Rel ca X.K nv σ H s2 As2 Fs2 ((x, A) :: E0) := R
    have h : VPost ca X.K nv W σ s0 As0 Fs0 E0 Q ((do
      let (sh, ts) ← look x
      match sh with
      | .lst _ => pure (.nd .tup ts)
      | .tup => pure (.nd .tup ts)
      | _ => stuck "tuple" : M T) s2) := h
    obtain ⟨sh, ts, hl, h⟩ := Post.look h
    obtain ⟨_, a, Bs, ea, hH, la, hR, _, R4⟩ := look_of R' hl
    cases sh with
    | tup =>
      refine ⟨a, _, by simp only [List.map_cons, List.map_nil, ea], .inr ⟨SqT.of hH, ?_⟩⟩
      exact Post.val h (tup_again R4 la hH) k
    | lst lk =>
      refine ⟨a, _, by simp only [List.map_cons, List.map_nil, ea], .inl ⟨sqL_of hH, fun l hp => ?_⟩⟩
      have q := VPost.newtup (p := l) (D := ts.zip Bs) (by rw [mem_zip_fst la]; exact h) R4 k hp
      rw [mem_zip_snd la] at q
      exact q
    | _ => exact h.elim
theorem bf_dict : BfOk X ca (.type "dict") (bfop .dict) := by
  refine ⟨_, call_dictD, fun nv σ W s0 s2 As0 Fs0 As2 Fs2 E0 H Q xs R k h => ?_⟩
  match xs, h, R with
  | [], h, R => exact h.elim
  | _ :: _ :: _, h, R => exact h.elim
  | [(x, A)], h, R =>
    have R' : Rel ca X.K nv σ H s2 As2 Fs2 ((x, A) :: E0) := R
    have h : VPost ca X.K nv W σ s0 As0 Fs0 E0 Q ((do
      let (sh, ts) ← look x
      match sh with
      | .dK _ ks => pure (.nd (.dK false ks) ts)
      | _ => stuck "dict" : M T) s2) := h
    obtain ⟨sh, ts, hl, h⟩ := Post.look h
    obtain ⟨_, a, Bs, ea, hH, la, hR, _, R4⟩ := look_of R' hl
    cases sh with
    | dK lk ks =>
      have hlen : ks.length = (Bs.map AT.val).length := by cases lk <;> exact hH.2.1
      have hnd : ks.Nodup := by cases lk <;> exact hH.1
      refine ⟨a, ks.zip (Bs.map AT.val), by simp only [List.map_cons, List.map_nil, ea], ?_, fun p hp => ?_⟩
      · cases lk with
        | false => exact .inl hH.2.2
        | true => exact .inr hH.2.2
      · have R5 := R4.alloc (D := ts.zip Bs) (a := p) (o := .dK (ks.zip (Bs.map AT.val))) (sh := .dK false ks) hp (by simp) ⟨hnd, by rw [mem_zip_snd la]; exact hlen, by rw [mem_zip_snd la]; exact L2.upd_same⟩
        rw [mem_zip_fst la, mem_zip_snd la] at R5
        exact Post.val h R5 k
    | _ => exact h.elim
end
end Tk
end
section
/-! Tk17b: isinstance. -/
namespace Tk
open PySem L2
/-- a type's own value -/
def tyv (ca : Str → Addr) (t : Str) : Value :=
  if t = "NoneType" then .type "NoneType" else if t = "bool" then .type "bool" else if t = "int" then .type "int" else if t = "str" then .type "str" else if t = "tuple" then .type "tuple" else if t = "list" then .type "list" else if t = "dict" then .type "dict" else .ref (ca t)
theorem tyv_own {ca : Str → Addr} {c : Str} (h : btys.contains c = false) : tyv ca c = .ref (ca c) := by
  have hn : ∀ x ∈ btys, c ≠ x := fun x hx e => by
    rw [e] at h
    have : btys.contains x = true := List.contains_iff_mem.mpr hx
    rw [this] at h
    cases h
  unfold tyv
  rw [if_neg (hn _ (by simp [btys])), if_neg (hn _ (by simp [btys])), if_neg (hn _ (by simp [btys])), if_neg (hn _ (by simp [btys])), if_neg (hn _ (by simp [btys])), if_neg (hn _ (by simp [btys])), if_neg (hn _ (by simp [btys]))]
theorem tyv_non {ca : Str → Addr} : tyv ca "NoneType" = .type "NoneType" := if_pos rfl
theorem tyv_bool {ca : Str → Addr} : tyv ca "bool" = .type "bool" := by unfold tyv; rw [if_neg (by decide), if_pos rfl]
theorem tyv_int {ca : Str → Addr} : tyv ca "int" = .type "int" := by unfold tyv; rw [if_neg (by decide), if_neg (by decide), if_pos rfl]
theorem tyv_str {ca : Str → Addr} : tyv ca "str" = .type "str" := by unfold tyv; rw [if_neg (by decide), if_neg (by decide), if_neg (by decide), if_pos rfl]
theorem tyv_tuple {ca : Str → Addr} : tyv ca "tuple" = .type "tuple" := by unfold tyv; rw [if_neg (by decide), if_neg (by decide), if_neg (by decide), if_neg (by decide), if_pos rfl]
theorem tyv_list {ca : Str → Addr} : tyv ca "list" = .type "list" := by unfold tyv; rw [if_neg (by decide), if_neg (by decide), if_neg (by decide), if_neg (by decide), if_neg (by decide), if_pos rfl]
theorem tyv_dict {ca : Str → Addr} : tyv ca "dict" = .type "dict" := by unfold tyv; rw [if_neg (by decide), if_neg (by decide), if_neg (by decide), if_neg (by decide), if_neg (by decide), if_neg (by decide), if_pos rfl]
section
variable {X : Cx} {ca : Str → Addr} {K : PySem.W.Frag} {nv : Fr} {σ σ1 : L2.St} {H H' H2 : Hp} {po : Po} {s s1 s2 s0 : St} {As Fs As1 Fs1 As2 Fs2 As0 Fs0 : List AT} {E E0 E' : List (T × AT)} {W : WX} {e : Expr} {fa : M T} {pos p p2 : Pos}
theorem type_of {β : Type} {D : β → List T} {Φ : β → List AT → Hp → St → List AT → List AT → Prop} {x : T} {A : AT} {g : Str → M β} (R : Rel ca K nv σ H s As Fs ((x, A) :: E))
    (h : Post ca K nv D W σ s0 As0 Fs0 E0 Φ ((typeName x >>= g) s)) : ∃ t, TyX K H A.val (tyv ca t) ∧ Post ca K nv D W σ s0 As0 Fs0 E0 Φ (g t s) := by
  have gen : Post ca K nv D W σ s0 As0 Fs0 E0 Φ (M.bind (M.bind (look x) fun r => (match r.1 with
    | .tup => pure "tuple" | .lst _ => pure "list" | .dK _ _ => pure "dict" | .dT false _ => pure "dict" | .dT true _ => stuck "a walked dict's type" | .ins c _ => match btys.contains c with
      | true => stuck "a class named as a type"
      | false => pure c : M Str)) g s) → ∃ t, TyX K H A.val (tyv ca t) ∧ Post ca K nv D W σ s0 As0 Fs0 E0 Φ (g t s) := fun h => by
    unfold M.bind at h
    rcases look_cases x s with ⟨⟨sh, ts⟩, q⟩ | ⟨w, q⟩
    · rw [q] at h
      simp only at h
      obtain ⟨_, a, Bs, ea, hH, la, hR, _, R4⟩ := look_of R q
      rw [ea]
      cases sh with
      | tup => exact ⟨"tuple", by rw [tyv_tuple]; exact .base (.tup hH), h⟩
      | lst lk =>
        refine ⟨"list", ?_, h⟩
        rw [tyv_list]
        cases lk with
        | false => exact .base (.lst hH)
        | true =>
          rcases hH with ⟨o, z⟩ | ⟨o, its, n, z, zc, _⟩
          · exact .base (.frz z)
          · exact .kList z zc
      | dK lk ks =>
        refine ⟨"dict", ?_, h⟩
        rw [tyv_dict]
        cases lk with
        | false => exact .base (.dK hH.2.2)
        | true => obtain ⟨_, _, o, z⟩ := hH; exact .fDict z
      | dT lk ks =>
        cases lk with
        | false => exact ⟨"dict", by rw [tyv_dict]; exact .base (.dT hH.2.2), h⟩
        | true => exact h.elim
      | ins c fs =>
        obtain ⟨⟨hc, _⟩, _, dx, hh⟩ := hH
        simp only at h
        cases hb : btys.contains c with
        | true => rw [hb] at h; exact h.elim
        | false =>
          rw [hb] at h
          exact ⟨c, by rw [tyv_own hb]; exact .base (.ins hh hc.cl hc.ha hc.hn hc.htk hc.hm), h⟩
    · rw [q] at h; exact h.elim
  cases x with
  | non => rw [rp_non R.head]; exact ⟨"NoneType", by rw [tyv_non]; exact .base .non, h⟩
  | bl b => rw [rp_bl R.head]; exact ⟨"bool", by rw [tyv_bool]; exact .base (.bl b), h⟩
  | int i => rw [rp_int R.head]; exact ⟨"int", by rw [tyv_int]; exact .base (.int i), h⟩
  | str z => rw [rp_str R.head]; exact ⟨"str", by rw [tyv_str]; exact .base (.str z), h⟩
  | exc c =>
    have := R.head
    cases A <;> simp [Rp] at this
  | hole => exact gen h
  | ptr c n p => exact gen h
  | nd sh ts => exact gen h
theorem se_isi {P : Prog} {c : Str} {cv : V} {cu : Value} {g : Str} (ha : PE X e (RdE ca X.K nv W fa)) (hc : PE X (.Name c p2) (tC cv)) (hk : ClsV cv cu) (kit : ∀ t b, isiB P t c = some b → PySem.W.kitOne X.K (tyv ca t) cu = some b)
    (C : CSide X "isinstance" pos e [.Name c p2]) : PE X (.Call (.Name "isinstance" p) [e, .Name c p2] [] pos) (RdE ca X.K nv W (do
      let x ← fa
      let b ← isiop P x c
      pure (.bl b))) := by
  refine ⟨fun pins st σ H Q I ⟨s, As, Fs, E, R, q⟩ => (pe_callB call_isi C.hg C.hm (by decide +kernel) (pa_cons ha (pa_cons hc pa_nil rfl) C.he) C.hn C.hdb C.he C.hpl).run pins st σ H Q I ?_⟩
  show RdE ca X.K nv W fa σ H fun x H1 => rIsi X.K (x :: [cv]) H1 Q
  refine rd_one R q fun x s2 H2 As2 Fs2 A1 R2 k2 h2 => ?_
  have h2' : VPost ca X.K nv W σ s As Fs E Q (M.bind (M.bind (typeName x) fun t => ofOpt "isinstance" (isiB P t c)) (fun b => (pure (.bl b) : M T)) s2) := h2
  have h3 : VPost ca X.K nv W σ s As Fs E Q (M.bind (typeName x) (fun t => M.bind (ofOpt "isinstance" (isiB P t c)) fun b => (pure (.bl b) : M T)) s2) := by
    unfold M.bind at h2' ⊢
    cases e : typeName x s2 with
    | ok t s3 => rw [e] at h2'; exact h2'
    | exc _ _ _ => rw [e] at h2'; exact h2'
    | stuck w => rw [e] at h2'; exact h2'
  obtain ⟨t, ty, h4⟩ := type_of (g := fun t => M.bind (ofOpt "isinstance" (isiB P t c)) fun b => (pure (.bl b) : M T)) R2 h3
  obtain ⟨b, hb, h5⟩ := Post.opt (g := fun b => (pure (.bl b) : M T)) h4
  exact ⟨A1.val, cv, _, cu, b, rfl, hk, ty, kit t b hb, Post.val h5 (R2.drop.bl b) k2⟩
end
end Tk
end
section
/-! Tk18: loops. -/
namespace Tk
open PySem L2
section
variable {X : Cx} {ca : Str → Addr} {K : PySem.W.Frag} {nv : Fr} {σ σ1 : L2.St} {H H' H2 : Hp} {po : Po} {s s1 s2 s0 : Tk.St} {As Fs As1 Fs1 As2 Fs2 As0 Fs0 : List AT} {E E0 E' G : List (T × AT)} {W : WX} {a b c e o tg : Expr} {fa fb fc fo : M T} {ft ft' : M Bool} {fas : M (List T)} {fs ft2 : M (Option T)} {pos p p2 : Pos} {es : List Expr} {st : Stmt} {sts sts2 : List Stmt}
/-- ONE LOOP -/
theorem for_run {J : L2.It} {itm : Nat → M T} {fin : M Unit} {n : Nat} {stg : T → M Unit} {fb : M (Option T)} {g : TG} {D : Ends} (tb : TS)
    (htb : ∀ D σ H, RdS ca K nv W fb D σ H → tb D σ H)
    (go : ∀ i, i < n → ∀ σ H (s : Tk.St) As Fs t s', Rel ca K nv σ H s As Fs (G ++ E) → itm i s = .ok t s' → s' = s ∧ J.go i H ∧ ∀ x H', J.yld i H x H' → ∃ B : AT, B.val = x ∧ Rel ca K nv σ H' s As Fs ((t, B) :: (G ++ E)))
    (ci : ∀ i, Calm (itm i)) (cf : Calm fin) (cg : ∀ t, Calm (stg t))
    (stop : ∀ σ H (s : Tk.St) As Fs s', Rel ca K nv σ H s As Fs (G ++ E) → fin s = .ok () s' → s' = s ∧ J.stop n H)
    (hg : ∀ σ H (s : Tk.St) As Fs t B s', Rel ca K nv σ H s As Fs ((t, B) :: (G ++ E)) → stg t s = .ok () s' → ∀ Q : L2.St → Hp → Prop, (∀ σ' Fs', Rel ca K nv σ' H s' As Fs' (G ++ E) → Kp s s' As As → Q σ' H) → g B.val σ H Q)
    (R : Rel ca K nv σ H s As Fs (G ++ E)) (q : SPost ca K nv W D s As E (loopS (fun i => do let t ← itm i; let _ ← stg t; fb) fin n n s)) :
    ∃ Wn : Nat → Nat → L2.St → Hp → Prop, (∃ m, Wn 0 m σ H) ∧ ∀ i m σ H, Wn i m σ H →
      (J.stop i H ∧ D.nx σ H) ∨ (J.go i H ∧ ∃ N : L2.St → Hp → Prop, (∀ σ' H', N σ' H' → ∃ m', m' < m ∧ Wn (i + 1) m' σ' H') ∧ ∀ x H', J.yld i H x H' → g x σ H' fun σ2 H2 => tb { D with nx := N, ct := N, bk := D.nx } σ2 H2) := by
  refine ⟨fun i m σ' H' => i + m = n ∧ ∃ s' As' Fs', Rel ca K nv σ' H' s' As' Fs' (G ++ E) ∧ SPost ca K nv W D s' As' E (loopS (fun i => do let t ← itm i; let _ ← stg t; fb) fin n m s'), ⟨n, by omega, s, As, Fs, R, q⟩, fun i m σ1 H1 hw => ?_⟩
  obtain ⟨him, s1, As1, Fs1, R1, q1⟩ := hw
  cases m with
  | zero =>
    left
    have q1' : SPost ca K nv W D s1 As1 E (M.bind fin (fun _ => (pure none : M (Option T))) s1) := q1
    unfold M.bind at q1'
    cases e : fin s1 with
    | ok u s2 =>
      obtain ⟨es, hs⟩ := stop σ1 H1 s1 As1 Fs1 s2 R1 (by rw [e])
      subst es
      rw [e] at q1'
      have ei : i = n := by omega
      subst ei
      exact ⟨hs, q1' σ1 H1 As1 Fs1 R1.drops Kp.refl⟩
    | exc c pl s2 => exact absurd e (cf s1 c pl s2)
    | stuck w => rw [e] at q1'; exact q1'.elim
  | succ m =>
    right
    have ei : n - (m + 1) = i := by omega
    have q1' : SPost ca K nv W D s1 As1 E (M.bind (M.bind (itm (n - (m + 1))) fun t => M.bind (stg t) fun _ => fb) (fun r => match r with
      | none => loopS (fun i => do let t ← itm i; let _ ← stg t; fb) fin n m
      | some v => pure (some v)) s1) := q1
    rw [ei] at q1'
    unfold M.bind at q1'
    cases e : itm i s1 with
    | exc c pl s2 => exact absurd e (ci i s1 c pl s2)
    | stuck w => rw [e] at q1'; exact q1'.elim
    | ok t s2 =>
      obtain ⟨es, hgo, hy⟩ := go i (by omega) σ1 H1 s1 As1 Fs1 t s2 R1 e
      subst es
      rw [e] at q1'
      simp only at q1'
      refine ⟨hgo, fun σ' H' => i + 1 + m = n ∧ ∃ s' As' Fs', Rel ca K nv σ' H' s' As' Fs' (G ++ E) ∧ SPost ca K nv W D s' As' E (loopS (fun i => do let t ← itm i; let _ ← stg t; fb) fin n m s'), fun σ' H' hN => ⟨m, Nat.lt_succ_self m, hN⟩, fun x H' hx => ?_⟩
      obtain ⟨B, eB, R2⟩ := hy x H' hx
      subst eB
      cases e3 : stg t s2 with
      | exc c pl s3 => exact absurd e3 (cg t s2 c pl s3)
      | stuck w => rw [e3] at q1'; exact q1'.elim
      | ok u s3 =>
        rw [e3] at q1'
        simp only at q1'
        refine hg σ1 H' s2 As1 Fs1 t B s3 R2 (by rw [e3]) _ fun σ2 Fs3 R3 k3 => htb _ _ _ ⟨s3, As1, Fs3, G ++ E, R3, ?_⟩
        cases e4 : fb s3 with
        | ok r s4 =>
          rw [e4] at q1'
          cases r with
          | none => exact fun σ' H' As' Fs' R' k' => ⟨by omega, s4, As', Fs', R', SPost.step q1' (k3.trans k')⟩
          | some v =>
            intro σ' H' As' Fs' A' R' k'
            have R'' : Rel ca K nv σ' H' s4 As' Fs' (G ++ ((v, A') :: E)) := R'.perm List.perm_middle.symm
            exact q1' σ' H' As' Fs' A' R''.drops (k3.trans k')
        | exc c pl s4 =>
          rw [e4] at q1'
          exact fun σ' H' As' Fs' R' k' => q1' σ' H' As' Fs' R'.drops (k3.trans k')
        | stuck w => rw [e4] at q1'; exact q1'
/-! ### where the walked object stands -/
theorem Rel.dup {w : T} {A : AT} (R : Rel ca K nv σ H s As Fs ((w, A) :: E)) (z : ∀ b, cnt b A = 0) : Rel ca K nv σ H s As Fs ((w, A) :: (w, A) :: E) := R.push R.head z (R.bE _ List.mem_cons_self)
theorem calm_setVar (i : Nat) (v : T) : Calm (setVar i v) := fun s c pl s' e => by
  rcases setVar_cases i v s with ⟨s1, q⟩ | ⟨w, q⟩ <;> (rw [q] at e; cases e)
theorem park_of {h : Nat} {v : T} {A : AT} (R : Rel ca K nv σ H s As Fs ((v, A) :: E)) (hh : nv.n ≤ h) {w : T} (e : parkW h v s = .ok w s1) (hv : ∀ t : V, (v = .hole ∨ immV v = some t) → False) :
    ∃ Fs' B, Rel ca K nv σ H s1 As Fs' ((w, B) :: E) ∧ Kp s s1 As As ∧ B.val = A.val ∧ ∀ b, cnt b B = 0 := by
  have gen : ∀ sh ts, v = .nd sh ts → ∃ Fs' B, Rel ca K nv σ H s1 As Fs' ((w, B) :: E) ∧ Kp s s1 As As ∧ B.val = A.val ∧ ∀ b, cnt b B = 0 := fun sh ts ev => by
    subst ev
    have e' : M.bind (setVar h (.nd sh ts)) (fun _ => getVar h) s = .ok w s1 := e
    unfold M.bind at e'
    rcases setVar_cases h (.nd sh ts) s with ⟨s2, q⟩ | ⟨w', q⟩
    · rw [q] at e'
      obtain ⟨Fs', R', k', hF, l, hl⟩ := R.setHid q hh
      have e2 : getVar h s2 = .ok w s1 := e'
      unfold getVar at e2
      rw [hl] at e2
      simp only at e2
      cases e2
      obtain ⟨A', h1, h2, h3⟩ := R'.atF hl
      rw [hF] at h1
      cases h1
      refine ⟨Fs', viewA (.nd sh ts) A, ?_, k', viewA_val _ _, fun b => viewA_cnt _ _ h3⟩
      refine R'.push (view_ok (get_F hl).2 h2 (.nd sh ts) A [] (by unfold sub; rfl) (by unfold AT.at; rfl) h3) (fun b => viewA_cnt _ _ h3) ?_
      have hlt := (List.getElem?_eq_some_iff.mp hl).1
      exact below_view (by omega) _ _ (R'.below_cell (get_F hl).2)
    · rw [q] at e'; cases e'
  cases v with
  | ptr c n p =>
    cases e
    obtain ⟨v, e1, _⟩ := rp_ptr R.head
    subst e1
    exact ⟨Fs, _, R, Kp.refl, rfl, fun _ => rfl⟩
  | nd sh ts => exact gen sh ts rfl
  | hole => exact (hv .non (.inl rfl)).elim
  | non => exact (hv _ (.inr rfl)).elim
  | bl b => exact (hv _ (.inr rfl)).elim
  | int i => exact (hv _ (.inr rfl)).elim
  | str z => exact (hv _ (.inr rfl)).elim
  | exc c => obtain ⟨r1, r2⟩ := R; have := r1.es _ List.mem_cons_self; cases A <;> simp [Rp] at this
end
end Tk
end
section
/-! Tk19: for statements. -/
namespace Tk
open PySem L2
section
variable {X : Cx} {ca : Str → Addr} {K : PySem.W.Frag} {nv : Fr} {σ σ1 : L2.St} {H H' H2 : Hp} {po : Po} {s s1 s2 s0 : Tk.St} {As Fs As1 Fs1 As2 Fs2 As0 Fs0 : List AT} {E E0 E' G : List (T × AT)} {W : WX} {a b c e o tg : Expr} {fa fb fc fo : M T} {ft ft' : M Bool} {fas : M (List T)} {fs ft2 : M (Option T)} {pos p p2 : Pos} {es : List Expr} {st : Stmt} {sts sts2 : List Stmt}
theorem ss_oneE {D : Ends} {k : T → M (Option T)} {Z : V → Hp → Prop} (R : Rel ca K nv σ H s As Fs E)
    (h : SPost ca K nv W D s As E ((do let x ← fa; k x : M (Option T)) s))
    (fin : ∀ x s2 H2 As2 Fs2 A1, fa s = .ok x s2 → Rel ca K nv σ H2 s2 As2 Fs2 ((x, A1) :: E) → Kp s s2 As As2 → SPost ca K nv W D s As E (k x s2) → Z A1.val H2) :
    RdE ca K nv W fa σ H (fun x H1 => Z x H1) := by
  have h' : SPost ca K nv W D s As E (M.bind fa (fun x => k x) s) := h
  unfold M.bind at h'
  refine ⟨s, As, Fs, E, R, ?_⟩
  cases e : fa s with
  | ok x s1 =>
    rw [e] at h'
    intro H1 As1 Fs1 Ds hl R1 K1 A1 eD
    subst eD
    exact fin x s1 H1 As1 Fs1 A1 e R1 K1 h'
  | exc c pl s1 =>
    rw [e] at h'
    exact fun H1 As1 Fs1 R1 K1 => h' σ H1 As1 Fs1 R1 K1
  | stuck w => rw [e] at h'; exact h'
/-- what is stored at each turn -/
structure TgOk (X : Cx) (ca : Str → Addr) (nv : Fr) (g : TG) (stg : T → M Unit) : Prop where
  calm : ∀ t, Calm (stg t)
  run : ∀ {E : List (T × AT)} σ H (s : Tk.St) As Fs t B s', Rel ca X.K nv σ H s As Fs ((t, B) :: E) → stg t s = .ok () s' → ∀ Q : L2.St → Hp → Prop, (∀ σ' Fs', Rel ca X.K nv σ' H s' As Fs' E → Kp s s' As As → Q σ' H) → g B.val σ H Q
theorem tg_name {i : Nat} (hn : i < nv.n) (h0 : nv.slf ≠ none → i ≠ 0) : TgOk X ca nv (gName i) (setVar i) := ⟨fun t => calm_setVar i t, fun σ H s As Fs t B s' R e Q h => by
  obtain ⟨Fs', R', k'⟩ := Rel.setVar R e hn h0
  exact h _ Fs' R' k'⟩
theorem calm_item (w : Wk) (i : Nat) : Calm (w.item i) := by
  cases w <;> unfold Wk.item <;> simp only
  · exact Calm.bind Calm.opt fun _ => Calm.pure
  · exact Calm.pure
  · exact Calm.pure
  · refine Calm.bind Calm.look fun r => ?_
    obtain ⟨sh, ts⟩ := r
    exact Calm.bind Calm.need fun _ => Calm.bind Calm.opt fun _ => Calm.pure
  · exact Calm.opt
theorem calm_fin (w : Wk) : Calm w.fin := by
  cases w <;> unfold Wk.fin <;> simp only <;> first
    | exact Calm.pure
    | (refine Calm.bind Calm.look fun r => ?_; obtain ⟨sh, ts⟩ := r; exact Calm.need)
/-- a walk and its iterator -/
structure WkOk (ca : Str → Addr) (K : PySem.W.Frag) (nv : Fr) (J : L2.It) (w : Wk) (G : List (T × AT)) : Prop where
  go : ∀ {E : List (T × AT)} i, i < w.len → ∀ σ H (s : Tk.St) As Fs t s', Rel ca K nv σ H s As Fs (G ++ E) → w.item i s = .ok t s' → s' = s ∧ J.go i H ∧ ∀ x H', J.yld i H x H' → ∃ B : AT, B.val = x ∧ Rel ca K nv σ H' s As Fs ((t, B) :: (G ++ E))
  stop : ∀ {E : List (T × AT)} σ H (s : Tk.St) As Fs s', Rel ca K nv σ H s As Fs (G ++ E) → w.fin s = .ok () s' → s' = s ∧ J.stop w.len H
theorem walk_run {J : L2.It} {w : Wk} {stg : T → M Unit} {fb : M (Option T)} {g : TG} {D : Ends} (wo : WkOk ca X.K nv J w G) (tg : TgOk X ca nv g stg) (noff : w.off = pure ())
    (R : Rel ca X.K nv σ H s As Fs (G ++ E)) (k : Kp s0 s As0 As) (q : SPost ca X.K nv W D s0 As0 E (runWk w (fun v => do let _ ← stg v; fb) s)) :
    ∃ Wn : Nat → Nat → L2.St → Hp → Prop, (∃ m, Wn 0 m σ H) ∧ ∀ i m σ H, Wn i m σ H →
      (J.stop i H ∧ D.nx σ H) ∨ (J.go i H ∧ ∃ N : L2.St → Hp → Prop, (∀ σ' H', N σ' H' → ∃ m', m' < m ∧ Wn (i + 1) m' σ' H') ∧ ∀ x H', J.yld i H x H' → g x σ H' fun σ2 H2 => RdS ca X.K nv W fb { D with nx := N, ct := N, bk := D.nx } σ2 H2) := by
  refine for_run (itm := fun i => w.item i) (fin := w.fin) (n := w.len) (stg := stg) (fb := fb) (RdS ca X.K nv W fb) (fun _ _ _ h => h) (fun i hi => wo.go i hi) (calm_item w) (calm_fin w) tg.calm wo.stop (fun σ H s As Fs t B s' R e => tg.run σ H s As Fs t B s' R e) R ?_
  have q' : SPost ca X.K nv W D s0 As0 E (M.bind (loopS (fun i => do let t ← w.item i; let _ ← stg t; fb) w.fin w.len w.len) (fun r => M.bind w.off fun _ => (pure r : M (Option T))) s) := q
  rw [noff] at q'
  unfold M.bind at q'
  cases e : loopS (fun i => do let t ← w.item i; let _ ← stg t; fb) w.fin w.len w.len s with
  | ok r s' => rw [e] at q'; exact SPost.step q' k
  | exc c pl s' => rw [e] at q'; exact SPost.step q' k
  | stuck w => rw [e] at q'; exact q'.elim
theorem wk_chars {z : Str} : WkOk ca K nv (Its z) (.chars z) [] := by
  refine ⟨fun {E} i hi σ H s As Fs t s' R e => ?_, fun {E} σ H s As Fs s' R e => ?_⟩
  · have hi' : i < z.cps.size := hi
    have ec : z.cps[i]? = some z.cps[i] := by simp [hi']
    have e' : M.bind (ofOpt "sign" z.cps[i]?) (fun c => (pure (.str ⟨#[c]⟩) : M T)) s = .ok t s' := e
    rw [ec] at e'
    cases e'
    refine ⟨rfl, hi', fun x H' hy => ?_⟩
    obtain ⟨eH, c, hc, ex⟩ := hy
    subst eH
    rw [ec] at hc
    cases hc
    exact ⟨.lf x, rfl, by rw [ex]; exact R.str _⟩
  · cases e
    exact ⟨rfl, Nat.le_refl _⟩
theorem wk_rng {lo : Int} {n : Nat} : WkOk ca K nv (Itr lo n) (.rng lo n) [] := by
  refine ⟨fun {E} i hi σ H s As Fs t s' R e => ?_, fun {E} σ H s As Fs s' R e => ?_⟩
  · cases e
    refine ⟨rfl, hi, fun x H' hy => ?_⟩
    obtain ⟨eH, ex⟩ := hy
    subst eH
    exact ⟨.lf x, rfl, by rw [ex]; exact R.int _⟩
  · cases e
    exact ⟨rfl, Nat.le_refl _⟩
theorem item_seq {tup enum rev : Bool} {n i : Nat} {w t : T} (e : (Wk.seq tup enum rev n w).item i s = .ok t s1) : ∃ sh ts x, look w s = .ok (sh, ts) s ∧ ts.length = n ∧ seqSh sh = some tup ∧ ts[if rev then n - 1 - i else i]? = some x ∧ s1 = s ∧ t = enumT enum i x := by
  have e' : M.bind (look w) (fun r => M.bind (need "a walked list has changed" (decide (r.2.length = n) && decide (seqSh r.1 = some tup))) fun _ => M.bind (ofOpt "item" r.2[if rev then n - 1 - i else i]?) fun x => (pure (enumT enum i x) : M T)) s = .ok t s1 := e
  unfold M.bind at e'
  rcases look_cases w s with ⟨⟨sh, ts⟩, q⟩ | ⟨w', q⟩
  · rw [q] at e'
    simp only at e'
    cases hn : decide (ts.length = n) && decide (seqSh sh = some tup) with
    | false => rw [hn] at e'; cases e'
    | true =>
      rw [hn] at e'
      simp only [need] at e'
      obtain ⟨h1, h2⟩ := and2 hn
      cases hx : ts[if rev then n - 1 - i else i]? with
      | none => rw [hx] at e'; cases e'
      | some x =>
        rw [hx] at e'
        cases e'
        exact ⟨sh, ts, x, q, of_decide_eq_true h1, of_decide_eq_true h2, hx, rfl, rfl⟩
  · rw [q] at e'; cases e'
theorem fin_seq {tup enum rev : Bool} {n : Nat} {w : T} (e : (Wk.seq tup enum rev n w).fin s = .ok () s1) : ∃ sh ts, look w s = .ok (sh, ts) s ∧ ts.length = n ∧ seqSh sh = some tup ∧ s1 = s := by
  have e' : M.bind (look w) (fun r => need "a walked list has changed" (decide (r.2.length = n) && decide (seqSh r.1 = some tup))) s = .ok () s1 := e
  unfold M.bind at e'
  rcases look_cases w s with ⟨⟨sh, ts⟩, q⟩ | ⟨w', q⟩
  · rw [q] at e'
    simp only at e'
    cases hn : decide (ts.length = n) && decide (seqSh sh = some tup) with
    | false => rw [hn] at e'; cases e'
    | true =>
      rw [hn] at e'; cases e'
      obtain ⟨h1, h2⟩ := and2 hn
      exact ⟨sh, ts, q, of_decide_eq_true h1, of_decide_eq_true h2, rfl⟩
  · rw [q] at e'; cases e'
theorem seqSh_lst {sh : Sh} (h : seqSh sh = some false) : ∃ lk, sh = .lst lk := by cases sh <;> first | cases h; done | exact ⟨_, rfl⟩
theorem seqSh_tup {sh : Sh} (h : seqSh sh = some true) : sh = .tup := by cases sh <;> first | rfl | cases h
/-- a list walked: whatever stands there now is what the pointer sees -/
theorem wk_list {n : Nat} {w : T} {A : AT} {a : Addr} (ea : A.val = .ref a) (z : ∀ b, cnt b A = 0) : WkOk ca K nv (Itl K a) (.seq false false false n w) [(w, A)] := by
  refine ⟨fun {E} i hi σ H s As Fs t s' R e => ?_, fun {E} σ H s As Fs s' R e => ?_⟩
  · obtain ⟨sh, ts, x, hlk, hn, hsh, hx, es, et⟩ := item_seq e
    subst es
    simp only [Bool.false_eq_true, if_false] at hx
    simp only [enumT] at et
    subst et
    have R1 : Rel ca K nv σ H s' As Fs ((w, A) :: E) := R
    obtain ⟨_, a', Bs, ea', hH, la, hR, _, R4⟩ := look_of (R1.dup z) hlk
    have e2 : a' = a := by rw [ea] at ea'; cases ea'; rfl
    subst e2
    obtain ⟨lk, esh⟩ := seqSh_lst hsh
    subst esh
    obtain ⟨B, hB, hz⟩ := zip_at la hx
    have hs := sqL_of hH
    have hv : (Bs.map AT.val)[i]? = some B.val := by simp [hB]
    refine ⟨rfl, ⟨_, B.val, hs, hv⟩, fun y H' hy => ?_⟩
    obtain ⟨eH, hy⟩ := hy
    subst eH
    have hv2 := hy _ hs
    rw [hv] at hv2
    cases hv2
    exact ⟨B, rfl, R4.pick hz⟩
  · obtain ⟨sh, ts, hlk, hn, hsh, es⟩ := fin_seq e
    subst es
    have R1 : Rel ca K nv σ H s' As Fs ((w, A) :: E) := R
    obtain ⟨_, a', Bs, ea', hH, la, hR, _, R4⟩ := look_of (R1.dup z) hlk
    have e2 : a' = a := by rw [ea] at ea'; cases ea'; rfl
    subst e2
    obtain ⟨lk, esh⟩ := seqSh_lst hsh
    subst esh
    exact ⟨rfl, _, sqL_of hH, by rw [List.length_map, ← la, hn]; exact Nat.le_refl _⟩
theorem wk_tup {n : Nat} {w : T} {A : AT} {a : Addr} (ea : A.val = .ref a) (z : ∀ b, cnt b A = 0) : WkOk ca K nv (Itt K a) (.seq true false false n w) [(w, A)] := by
  refine ⟨fun {E} i hi σ H s As Fs t s' R e => ?_, fun {E} σ H s As Fs s' R e => ?_⟩
  · obtain ⟨sh, ts, x, hlk, hn, hsh, hx, es, et⟩ := item_seq e
    subst es
    simp only [Bool.false_eq_true, if_false] at hx
    simp only [enumT] at et
    subst et
    have R1 : Rel ca K nv σ H s' As Fs ((w, A) :: E) := R
    obtain ⟨_, a', Bs, ea', hH, la, hR, _, R4⟩ := look_of (R1.dup z) hlk
    have e2 : a' = a := by rw [ea] at ea'; cases ea'; rfl
    subst e2
    have esh := seqSh_tup hsh
    subst esh
    obtain ⟨B, hB, hz⟩ := zip_at la hx
    have hs : SqT K H a' (Bs.map AT.val) := SqT.of hH
    have hv : (Bs.map AT.val)[i]? = some B.val := by simp [hB]
    refine ⟨rfl, ⟨_, B.val, hs, hv⟩, fun y H' hy => ?_⟩
    obtain ⟨eH, hy⟩ := hy
    subst eH
    have hv2 := hy _ hs
    rw [hv] at hv2
    cases hv2
    exact ⟨B, rfl, R4.pick hz⟩
  · obtain ⟨sh, ts, hlk, hn, hsh, es⟩ := fin_seq e
    subst es
    have R1 : Rel ca K nv σ H s' As Fs ((w, A) :: E) := R
    obtain ⟨_, a', Bs, ea', hH, la, hR, _, R4⟩ := look_of (R1.dup z) hlk
    have e2 : a' = a := by rw [ea] at ea'; cases ea'; rfl
    subst e2
    have esh := seqSh_tup hsh
    subst esh
    exact ⟨rfl, _, SqT.of hH, by rw [List.length_map, ← la, hn]; exact Nat.le_refl _⟩
/-! ### the statements -/
structure ForSide (X : Cx) (iter : Expr) : Prop where
  hp : PassesOwn (model X.prog X.w) X.A X.env X.xe
  hc : X.calm = true
  hs : ∀ x, foldedSetIterable iter X.env x = pure x
/-- what a walked value's beginning is -/
theorem start_of {h : Nat} {v : T} {A : AT} {D : Ends} {k : Wk → M (Option T)} (R : Rel ca K nv σ H s As Fs ((v, A) :: E)) (hh : nv.n ≤ h) (nz : ∀ z, v ≠ .str z) (k0 : Kp s0 s As0 As)
    (q : SPost ca K nv W D s0 As0 E ((do let w ← startWk h false false v; k w : M (Option T)) s)) :
    ∃ (tup : Bool) (n : Nat) (w : T) (B : AT) (a : Addr) (s' : Tk.St) (Fs' : List AT) (ts : List T) (sh : Sh), Rel ca K nv σ H s' As Fs' ((w, B) :: E) ∧ Kp s0 s' As0 As ∧ A.val = .ref a ∧ B.val = .ref a ∧ (∀ b, cnt b B = 0) ∧ look w s' = .ok (sh, ts) s' ∧ seqSh sh = some tup ∧ startWk h false false v s = .ok (.seq tup false false n w) s' ∧ SPost ca K nv W D s0 As0 E (k (.seq tup false false n w) s') := by
  have q' : SPost ca K nv W D s0 As0 E (M.bind (M.bind (parkW h v) fun w => M.bind (look w) fun r => (match r.1 with
    | .lst _ => pure (.seq false false false r.2.length w)
    | .tup => pure (.seq true false false r.2.length w)
    | _ => stuck "walk" : M Wk)) k s) := by
    cases v with
    | str z => exact absurd rfl (nz z)
    | _ => exact q
  have est : startWk h false false v s = M.bind (parkW h v) (fun w => M.bind (look w) fun r => (match r.1 with
    | .lst _ => pure (.seq false false false r.2.length w)
    | .tup => pure (.seq true false false r.2.length w)
    | _ => stuck "walk" : M Wk)) s := by
    cases v with
    | str z => exact absurd rfl (nz z)
    | _ => rfl
  unfold M.bind at q' est
  cases ep : parkW h v s with
  | stuck w => rw [ep] at q'; exact q'.elim
  | exc c pl s' =>
    exfalso
    unfold parkW at ep
    split at ep
    · cases ep
    · have ep' : M.bind (setVar h v) (fun _ => getVar h) s = .exc c pl s' := ep
      unfold M.bind at ep'
      rcases setVar_cases h v s with ⟨s2, z⟩ | ⟨w', z⟩
      · rw [z] at ep'
        simp only at ep'
        unfold getVar at ep'
        split at ep' <;> first | cases ep' | (split at ep' <;> cases ep')
      · rw [z] at ep'; cases ep'
  | ok w s1 =>
    rw [ep] at q'
    simp only at q'
    have hv : ∀ t : V, (v = .hole ∨ immV v = some t) → False := fun t ht => by
      have hsm : (∃ sh ts, look w s1 = .ok (sh, ts) s1) := by
        rcases look_cases w s1 with ⟨r, z⟩ | ⟨w', z⟩
        · exact ⟨r.1, r.2, z⟩
        · rw [z] at q'; exact q'.elim
      obtain ⟨sh, ts, hsm⟩ := hsm
      have gen : ∀ u : T, v = u → (u = .hole ∨ ∃ t, immV u = some t) → False := fun u ev hu => by
        subst ev
        have ep' : M.bind (setVar h v) (fun _ => getVar h) s = .ok w s1 := by
          unfold parkW at ep
          cases v with
          | ptr c n p => rcases hu with hu | ⟨t, hu⟩ <;> cases hu
          | _ => exact ep
        unfold M.bind at ep'
        rcases setVar_cases h v s with ⟨s2, z⟩ | ⟨w', z⟩
        · rw [z] at ep'
          obtain ⟨Fs', R', k', hF, l, hl⟩ := R.setHid z hh
          have e2 : getVar h s2 = .ok w s1 := ep'
          unfold getVar at e2
          rw [hl] at e2
          simp only at e2
          cases v with
          | hole => cases e2
          | non => cases e2; cases hsm
          | bl _ => cases e2; cases hsm
          | int _ => cases e2; cases hsm
          | str _ => cases e2; cases hsm
          | _ => rcases hu with hu | ⟨t, hu⟩ <;> cases hu
        · rw [z] at ep'; cases ep'
      exact gen v rfl (ht.elim .inl fun z => .inr ⟨t, z⟩)
    obtain ⟨Fs', B, R', k', eB, zB⟩ := park_of R hh ep hv
    rw [ep] at est
    simp only at est
    rcases look_cases w s1 with ⟨⟨sh, ts⟩, z⟩ | ⟨w', z⟩
    · rw [z] at q' est
      simp only at q' est
      obtain ⟨_, a, Bs, ea, hH, la, hR, _, R4⟩ := look_of (R'.dup zB) z
      cases sh with
      | lst lk => exact ⟨false, ts.length, w, B, a, s1, Fs', ts, _, R', k0.trans k', by rw [← eB]; exact ea, ea, zB, z, rfl, est, q'⟩
      | tup => exact ⟨true, ts.length, w, B, a, s1, Fs', ts, _, R', k0.trans k', by rw [← eB]; exact ea, ea, zB, z, rfl, est, q'⟩
      | _ => exact q'.elim
    · rw [z] at q'; exact q'.elim
/-- which kind of walk it is, told by the run -/
theorem for_pick {h : Nat} {g : TG} {stg : T → M Unit} {D : Ends} {Go : Prop} (he : PE X e (RdE ca X.K nv W fa)) (tgo : TgOk X ca nv g stg) (hh : nv.n ≤ h) (R : Rel ca X.K nv σ H s As Fs E)
    (q : SPost ca X.K nv W D s As E ((do
      let x ← fa
      let w ← startWk h false false x
      runWk w fun v => do
        let _ ← stg v
        fs : M (Option T)) s))
    (go : ∀ wi, PI X tg e wi → tFor wi g (RdS ca X.K nv W fs) D σ H → Go) : Go := by
  have lst : (∀ x s1, fa s = .ok x s1 → (∀ z, x ≠ .str z) ∧ ∀ tup n w s2, startWk h false false x s1 = .ok (.seq tup false false n w) s2 → tup = false) → Go := fun hsel => by
    refine go _ (pi_list he) ?_
    unfold tFor iList
    refine ss_oneE R q fun x s2 H2 As2 Fs2 A1 ef R2 k2 h2 => ?_
    obtain ⟨nz, ht⟩ := hsel x s2 ef
    obtain ⟨tup, n, w, B, a, s', Fs', ts, sh, R', k', ea, eb, zb, hl, hsh, est, hq⟩ := start_of R2 hh nz k2 h2
    have et := ht tup n w s' est
    subst et
    obtain ⟨_, a', Bs, ea', hH, la, hR, _, R4⟩ := look_of (R'.dup zb) hl
    have e2 : a' = a := by rw [eb] at ea'; cases ea'; rfl
    subst e2
    obtain ⟨lk, esh⟩ := seqSh_lst hsh
    subst esh
    refine ⟨a', ea, ⟨_, sqL_of hH⟩, ?_⟩
    exact walk_run (wk_list eb zb) tgo rfl (show Rel ca X.K nv σ H2 s' As2 Fs' ([(w, B)] ++ E) from R') k' hq
  have tupc : (∀ x s1, fa s = .ok x s1 → (∀ z, x ≠ .str z) ∧ ∀ tup n w s2, startWk h false false x s1 = .ok (.seq tup false false n w) s2 → tup = true) → Go := fun hsel => by
    refine go _ (pi_tup he) ?_
    unfold tFor iTup
    refine ss_oneE R q fun x s2 H2 As2 Fs2 A1 ef R2 k2 h2 => ?_
    obtain ⟨nz, ht⟩ := hsel x s2 ef
    obtain ⟨tup, n, w, B, a, s', Fs', ts, sh, R', k', ea, eb, zb, hl, hsh, est, hq⟩ := start_of R2 hh nz k2 h2
    have et := ht tup n w s' est
    subst et
    obtain ⟨_, a', Bs, ea', hH, la, hR, _, R4⟩ := look_of (R'.dup zb) hl
    have e2 : a' = a := by rw [eb] at ea'; cases ea'; rfl
    subst e2
    have esh := seqSh_tup hsh
    subst esh
    refine ⟨a', ea, ⟨_, SqT.of hH⟩, ?_⟩
    exact walk_run (wk_tup eb zb) tgo rfl (show Rel ca X.K nv σ H2 s' As2 Fs' ([(w, B)] ++ E) from R') k' hq
  cases e0 : fa s with
  | exc c pl s1 => exact lst fun x s1 ef => by rw [e0] at ef; cases ef
  | stuck w => exact lst fun x s1 ef => by rw [e0] at ef; cases ef
  | ok x s1 =>
    by_cases hz : ∃ z, x = .str z
    · obtain ⟨z, ez⟩ := hz
      subst ez
      refine go _ (pi_str he) ?_
      unfold tFor iStr
      refine ss_oneE R q fun x s2 H2 As2 Fs2 A1 ef R2 k2 h2 => ?_
      rw [e0] at ef
      cases ef
      have e1 := rp_str R2.head
      subst e1
      refine ⟨z, rfl, ?_⟩
      exact walk_run (w := .chars z) (G := []) wk_chars tgo rfl (show Rel ca X.K nv σ H2 s1 As2 Fs2 ([] ++ E) from R2.drop) k2 h2
    · have nz : ∀ z, x ≠ .str z := fun z ez => hz ⟨z, ez⟩
      cases e1 : startWk h false false x s1 with
      | ok w s2 =>
        cases w with
        | seq tup enum rev n w =>
          cases tup with
          | false =>
            refine lst fun x' s1' ef => ?_
            rw [e0] at ef
            cases ef
            exact ⟨nz, fun tup n' w' s3 est => by rw [e1] at est; cases est; rfl⟩
          | true =>
            refine tupc fun x' s1' ef => ?_
            rw [e0] at ef
            cases ef
            exact ⟨nz, fun tup n' w' s3 est => by rw [e1] at est; cases est; rfl⟩
        | _ =>
          refine lst fun x' s1' ef => ?_
          rw [e0] at ef
          cases ef
          exact ⟨nz, fun tup n' w' s3 est => by rw [e1] at est; cases est⟩
      | exc c pl s2 =>
        refine lst fun x' s1' ef => ?_
        rw [e0] at ef
        cases ef
        exact ⟨nz, fun tup n' w' s3 est => by rw [e1] at est; cases est⟩
      | stuck w =>
        refine lst fun x' s1' ef => ?_
        rw [e0] at ef
        cases ef
        exact ⟨nz, fun tup n' w' s3 est => by rw [e1] at est; cases est⟩
theorem ss_for {h : Nat} {g : TG} {stg : T → M Unit} (F : ForSide X e) (he : PE X e (RdE ca X.K nv W fa)) (hgt : PG X tg g) (tgo : TgOk X ca nv g stg) (hh : nv.n ≤ h) (hb : PSs X sts (RdS ca X.K nv W fs)) :
    PS X (.For tg e sts [] pos) (RdS ca X.K nv W (do
      let x ← fa
      let w ← startWk h false false x
      runWk w fun v => do
        let _ ← stg v
        fs)) := by
  refine ⟨fun pins st σ H D I ⟨s, As, Fs, E, R, q⟩ => ?_⟩
  exact for_pick he tgo hh R q fun wi hi hw => (ps_for F.hp F.hc hi hgt hb F.hs).run pins st σ H D I hw
theorem inRg_of {i : Int} (h : inRg i = true) : -(2 ^ 62) ≤ i ∧ i < 2 ^ 62 := by
  obtain ⟨h1, h2⟩ := and2 h
  exact ⟨of_decide_eq_true h1, of_decide_eq_true h2⟩
theorem SPost.need {D : Ends} {w : String} {b : Bool} {g : Unit → M (Option T)} (h : SPost ca K nv W D s0 As0 E ((Tk.need w b >>= g) s)) : b = true ∧ SPost ca K nv W D s0 As0 E (g () s) := by
  cases b with
  | true => exact ⟨rfl, h.bind_ok rfl⟩
  | false => exact (h.bind_stuck rfl).elim
/-- arguments ahead of a statement -/
theorem ss_args {D : Ends} {k : List T → M (Option T)} {Z : List V → Hp → Prop} (R : Rel ca K nv σ H s As Fs E)
    (h : SPost ca K nv W D s As E ((do let x ← fas; k x : M (Option T)) s))
    (fin : ∀ (xs : List (T × AT)) s2 H2 As2 Fs2, fas s = .ok (xs.map (·.1)) s2 → Rel ca K nv σ H2 s2 As2 Fs2 (xs ++ E) → Kp s s2 As As2 → SPost ca K nv W D s As E (k (xs.map (·.1)) s2) → Z ((xs.map (·.2)).map AT.val) H2) :
    RdA ca K nv W fas σ H (fun x H1 => Z x H1) := by
  have h' : SPost ca K nv W D s As E (M.bind fas (fun x => k x) s) := h
  unfold M.bind at h'
  refine ⟨s, As, Fs, E, R, ?_⟩
  cases e : fas s with
  | ok x s1 =>
    rw [e] at h'
    intro H1 As1 Fs1 Ds hl R1 K1
    have hl : Ds.length = x.length := hl
    have e1 : (x.zip Ds).map (·.1) = x := mem_zip_fst hl.symm
    have e2 : (x.zip Ds).map (·.2) = Ds := mem_zip_snd hl.symm
    have q := fin (x.zip Ds) s1 H1 As1 Fs1 (by rw [e1]; exact e) R1 K1 (by rw [e1]; exact h')
    rw [e2] at q
    exact q
  | exc c pl s1 =>
    rw [e] at h'
    exact fun H1 As1 Fs1 R1 K1 => h' σ H1 As1 Fs1 R1 K1
  | stuck w => rw [e] at h'; exact h'
theorem ss_forR1 {g : TG} {stg : T → M Unit} {rp rpos : Pos} (F : ForSide X (.Call (.Name "range" rp) [a] [] rpos)) (hgr : Gl X "range") (hm : X.mg "range" = none) (ha : PA X [a] (RdA ca X.K nv W fas)) (hst : starEach [a] X.env = [(false, eval a X.env)]) (hgt : PG X tg g) (tgo : TgOk X ca nv g stg) (hb : PSs X sts (RdS ca X.K nv W fs))
    (h1 : ∀ s ts s', fas s = .ok ts s' → ts.length = 1) :
    PS X (.For tg (.Call (.Name "range" rp) [a] [] rpos) sts [] pos) (RdS ca X.K nv W (do
      let x ← fas
      let w ← rngOf x
      runWk w fun v => do
        let _ ← stg v
        fs)) := by
  refine ⟨fun pins st σ H D I ⟨s, As, Fs, E, R, q⟩ => (ps_for F.hp F.hc (pi_range1 hgr hm ha hst) hgt hb F.hs).run pins st σ H D I ?_⟩
  unfold tFor iRng1
  refine ss_args R q fun xs s2 H2 As2 Fs2 ef R2 k2 h2 => ?_
  have hlen := h1 _ _ _ ef
  match xs, hlen, R2, h2 with
  | [(x, A)], _, R2, h2 =>
    cases x with
    | int j =>
      have R2' : Rel ca X.K nv σ H2 s2 As2 Fs2 ((.int j, A) :: E) := R2
      have e1 := rp_int R2'.head
      subst e1
      have h2' : SPost ca X.K nv W D s As E (M.bind (M.bind (need "range" (inRg j)) fun _ => (pure (.rng 0 j.toNat) : M Wk)) (fun w => runWk w fun v => do let _ ← stg v; fs) s2) := h2
      cases hr : inRg j with
      | false => unfold M.bind at h2'; rw [hr] at h2'; exact h2'.elim
      | true =>
        unfold M.bind at h2'
        rw [hr] at h2'
        obtain ⟨b1, b2⟩ := inRg_of hr
        exact ⟨j, rfl, b1, b2, walk_run (w := .rng 0 j.toNat) (G := []) wk_rng tgo rfl (show Rel ca X.K nv σ H2 s2 As2 Fs2 ([] ++ E) from R2'.drop) k2 h2'⟩
    | _ => exact h2.elim
theorem ss_forR2 {g : TG} {stg : T → M Unit} {rp rpos : Pos} (F : ForSide X (.Call (.Name "range" rp) [a, b] [] rpos)) (hgr : Gl X "range") (hm : X.mg "range" = none) (ha : PA X [a, b] (RdA ca X.K nv W fas)) (hst : starEach [a, b] X.env = [(false, eval a X.env), (false, eval b X.env)]) (hst2 : starEach [b] X.env = [(false, eval b X.env)]) (hgt : PG X tg g) (tgo : TgOk X ca nv g stg) (hb : PSs X sts (RdS ca X.K nv W fs))
    (h1 : ∀ s ts s', fas s = .ok ts s' → ts.length = 2) :
    PS X (.For tg (.Call (.Name "range" rp) [a, b] [] rpos) sts [] pos) (RdS ca X.K nv W (do
      let x ← fas
      let w ← rngOf x
      runWk w fun v => do
        let _ ← stg v
        fs)) := by
  refine ⟨fun pins st σ H D I ⟨s, As, Fs, E, R, q⟩ => (ps_for F.hp F.hc (pi_range2 hgr hm ha hst hst2) hgt hb F.hs).run pins st σ H D I ?_⟩
  unfold tFor iRng2
  refine ss_args R q fun xs s2 H2 As2 Fs2 ef R2 k2 h2 => ?_
  have hlen := h1 _ _ _ ef
  match xs, hlen, R2, h2 with
  | [(x, A), (y, B)], _, R2, h2 =>
    cases x with
    | int i =>
      cases y with
      | int j =>
        have R2' : Rel ca X.K nv σ H2 s2 As2 Fs2 ((.int i, A) :: (.int j, B) :: E) := R2
        have e1 := rp_int R2'.head
        have e2 := rp_int R2'.second
        subst e1 e2
        have h2' : SPost ca X.K nv W D s As E (M.bind (M.bind (need "range" (inRg i && inRg j)) fun _ => (pure (.rng i (j - i).toNat) : M Wk)) (fun w => runWk w fun v => do let _ ← stg v; fs) s2) := h2
        cases hr : inRg i && inRg j with
        | false => unfold M.bind at h2'; rw [hr] at h2'; exact h2'.elim
        | true =>
          unfold M.bind at h2'
          rw [hr] at h2'
          obtain ⟨r1, r2⟩ := and2 hr
          obtain ⟨b1, b2⟩ := inRg_of r1
          obtain ⟨b3, b4⟩ := inRg_of r2
          exact ⟨i, j, rfl, ⟨b1, b2, b3, b4⟩, walk_run (w := .rng i (j - i).toNat) (G := []) wk_rng tgo rfl (show Rel ca X.K nv σ H2 s2 As2 Fs2 ([] ++ E) from R2'.drop.drop) k2 h2'⟩
      | _ => exact h2.elim
    | _ => cases y <;> exact h2.elim
end
end Tk
end
section
/-! Tk20: defs and their calls. -/
namespace Tk
open PySem L2
/-- what a call's runs are said of: the elders' cells and what is in flight -/
structure CRel (ca : Str → Addr) (K : PySem.W.Frag) (H : Hp) (C : List Cell) (Cs : List AT) (E : List (T × AT)) : Prop where
  sim : Sim ca K H C Cs E
  bC : ∀ x ∈ C, below C.length x.val = true
  bE : ∀ q ∈ E, below C.length q.1 = true
abbrev KpC (C C' : List Cell) (Cs Cs' : List AT) : Prop := Kp ⟨C, []⟩ ⟨C', []⟩ Cs Cs'
/-- what is wanted of a call's run -/
def CPost (ca : Str → Addr) (K : PySem.W.Frag) (mk : Bool) (slf : Option V) (Q : VK) (Ex : XK) (C : List Cell) (Cs : List AT) (E0 : List (T × AT)) : Res (List Cell) T → Prop
  | .ok v C' => ∀ H' Cs' A, CRel ca K H' C' Cs' ((v, A) :: E0) → KpC C C' Cs Cs' → (mk = true → slf = some A.val) → Q (if mk then .non else A.val) H'
  | .exc c pl C' => ∀ H' Cs', CRel ca K H' C' Cs' E0 → KpC C C' Cs Cs' → Ex (.ref (ca c)) (fl pl) H'
  | .stuck _ => False
/-- a def's promise: the run of the small language tells it -/
def spF (ca : Str → Addr) (K : PySem.W.Frag) (ini : Bool) (np : Nat) (r : List T → List Cell → Res (List Cell) T) : Sp := fun vs H Q Ex => ∃ (D : List (T × AT)) (C : List Cell) (Cs : List AT) (E0 : List (T × AT)),
  isNew (D.map (·.1)) = ini ∧ D.length = np ∧ vs = (D.map (·.2)).map AT.val ∧ CRel ca K H C Cs (D ++ E0) ∧ CPost ca K (isNew (D.map (·.1))) vs.head? Q Ex C Cs E0 (r (D.map (·.1)) C)
section
variable {X : Cx} {ca : Str → Addr} {K : PySem.W.Frag} {nv : Fr} {σ σ1 : L2.St} {H H' H2 : Hp} {po : Po} {s s1 s2 s0 : Tk.St} {As Fs As1 Fs1 As2 Fs2 As0 Fs0 : List AT} {E E0 E' G : List (T × AT)} {W : WX} {a b c e o tg : Expr} {fa fb fc fo : M T} {ft ft' : M Bool} {fas : M (List T)} {fs ft2 : M (Option T)} {pos p p2 : Pos} {es : List Expr} {st : Stmt} {sts sts2 : List Stmt} {C C' : List Cell} {Cs Cs' : List AT}
theorem below_le {m n : Nat} (h : m ≤ n) {t : T} (z : below m t = true) : below n t = true := (below_top t).mpr (Nat.le_trans ((below_top t).mp z) h)
theorem Rel.crel (R : Rel ca K nv σ H s As Fs E) : CRel ca K H (s.S ++ s.F) (As ++ Fs) E := by
  refine ⟨R.sim, fun x hx => ?_, fun q hq => by rw [List.length_append]; exact R.bE q hq⟩
  rw [List.length_append]
  rcases List.mem_append.mp hx with hx | hx
  · exact below_le (Nat.le_add_right _ _) (R.bS x hx)
  · exact R.bF x hx
/-- behind a call the caller's frame stands as before -/
theorem CRel.back {E2 : List (T × AT)} (R : Rel ca K nv σ H s As Fs E) (c : CRel ca K H' C' Cs' E2) (k : KpC (s.S ++ s.F) C' (As ++ Fs) Cs') :
    Rel ca K nv σ H' ⟨C'.take s.S.length, C'.drop s.S.length⟩ (Cs'.take s.S.length) (Cs'.drop s.S.length) E2 ∧ Kp s ⟨C'.take s.S.length, C'.drop s.S.length⟩ As (Cs'.take s.S.length) := by
  have la := R.la
  have lf := R.lf
  have lC : C'.length = s.S.length + s.F.length := by have := k.lS; simpa using this
  have lCs : Cs'.length = As.length + Fs.length := by have := k.lA; simpa using this
  have l1 : (C'.take s.S.length).length = s.S.length := by rw [List.length_take]; omega
  have l2 : (C'.drop s.S.length).length = s.F.length := by rw [List.length_drop]; omega
  have at_ : ∀ (i : Nat) (x' : Cell) (A' : AT), C'[i]? = some x' → Cs'[i]? = some A' → x'.val ≠ .hole → ∃ x A, (s.S ++ s.F)[i]? = some x ∧ (As ++ Fs)[i]? = some A ∧ x.val ≠ .hole ∧ A'.val = A.val := k.at_
  have bel : ∀ (i : Nat) (x' : Cell), C'[i]? = some x' → ∃ x, (s.S ++ s.F)[i]? = some x ∧ ∀ m, below m x.val = true → below m x'.val = true := k.bel
  refine ⟨⟨?_, ?_, fun i x A hi h1 h2 h3 => ?_, R.sv, R.ln, fun x hx => ?_, fun x hx => ?_, fun q hq => ?_⟩, ⟨l1, l2, ?_, fun i x A h1 h2 h3 => ?_, fun i x h1 => ?_⟩⟩
  · show Sim ca K H' (C'.take s.S.length ++ C'.drop s.S.length) (Cs'.take s.S.length ++ Cs'.drop s.S.length) E2
    rw [List.take_append_drop, List.take_append_drop]; exact c.sim
  · show (C'.take s.S.length).length = (Cs'.take s.S.length).length
    rw [l1, List.length_take]; omega
  · have h1 : (C'.drop s.S.length)[i]? = some x := h1
    rw [List.getElem?_drop] at h1 h2
    obtain ⟨x0, A0, g1, g2, g3, g4⟩ := at_ _ x A h1 h2 h3
    rw [g4]
    rw [List.getElem?_append_right (by omega)] at g1
    rw [List.getElem?_append_right (by omega)] at g2
    exact R.mt i x0 A0 hi (by rw [← g1]; congr 1; omega) (by rw [← g2]; congr 1; omega) g3
  · show below (C'.take s.S.length).length x.val = true
    have hx : x ∈ C'.take s.S.length := hx
    rw [l1]
    obtain ⟨i, hi⟩ := List.getElem?_of_mem hx
    have hlt := (List.getElem?_eq_some_iff.mp hi).1
    rw [l1] at hlt
    rw [List.getElem?_take, if_pos hlt] at hi
    obtain ⟨x0, g1, g2⟩ := bel i x hi
    rw [List.getElem?_append_left hlt] at g1
    exact g2 _ (R.bS x0 (List.mem_of_getElem? g1))
  · show below ((C'.take s.S.length).length + (C'.drop s.S.length).length) x.val = true
    have hx : x ∈ C'.drop s.S.length := hx
    rw [l1, l2, ← lC]
    exact c.bC x (List.mem_of_mem_drop hx)
  · show below ((C'.take s.S.length).length + (C'.drop s.S.length).length) q.1 = true
    rw [l1, l2, ← lC]
    exact c.bE q hq
  · rw [List.length_take]; omega
  · have h1 : (C'.take s.S.length)[i]? = some x := h1
    have hlt := (List.getElem?_eq_some_iff.mp h1).1
    rw [l1] at hlt
    rw [List.getElem?_take, if_pos hlt] at h1 h2
    obtain ⟨x0, A0, g1, g2, g3, g4⟩ := at_ _ x A h1 h2 h3
    rw [List.getElem?_append_left hlt] at g1
    rw [List.getElem?_append_left (by omega)] at g2
    exact ⟨x0, A0, g1, g2, g3, g4⟩
  · have h1 : (C'.take s.S.length)[i]? = some x := h1
    have hlt := (List.getElem?_eq_some_iff.mp h1).1
    rw [l1] at hlt
    rw [List.getElem?_take, if_pos hlt] at h1
    obtain ⟨x0, g1, g2⟩ := bel i x h1
    rw [List.getElem?_append_left hlt] at g1
    exact ⟨x0, g1, g2⟩
/-- a call's run within a caller's -/
theorem asM_post {β : Type} {D : β → List T} {Φ : β → List AT → Hp → Tk.St → List AT → List AT → Prop} {f : List Cell → Res (List Cell) T} {g : T → M β} {xs : List (T × AT)} (R : Rel ca K nv σ H s As Fs (xs ++ E)) (k0 : Kp s0 s As0 As)
    (h : Post ca K nv D W σ s0 As0 Fs0 E Φ ((asM f >>= g) s))
    {Q : VK} (fin : ∀ v s2 H2 As2 Fs2 A, Rel ca K nv σ H2 s2 As2 Fs2 ((v, A) :: E) → Kp s0 s2 As0 As2 → Post ca K nv D W σ s0 As0 Fs0 E Φ (g v s2) → Q A.val H2) :
    CPost ca K false (((xs.map (·.2)).map AT.val).head?) Q (WE W σ) (s.S ++ s.F) (As ++ Fs) E (f (s.S ++ s.F)) := by
  have h' : Post ca K nv D W σ s0 As0 Fs0 E Φ (M.bind (asM f) g s) := h
  unfold M.bind asM at h'
  cases e : f (s.S ++ s.F) with
  | ok v C' =>
    rw [e] at h'
    intro H' Cs' A c k _
    obtain ⟨R', k'⟩ := CRel.back R.drops c k
    exact fin v _ H' _ _ A R' (k0.trans k') h'
  | exc c pl C' =>
    rw [e] at h'
    intro H' Cs' c k
    obtain ⟨R', k'⟩ := CRel.back R.drops c k
    exact h' H' _ _ R' (k0.trans k')
  | stuck w => rw [e] at h'; exact h'.elim
end
end Tk
end
section
/-! Tk21: a def's body, calls by name. -/
namespace Tk
open PySem L2
section
variable {X : Cx} {ca : Str → Addr} {K : PySem.W.Frag} {nv : Fr} {σ σ1 : L2.St} {H H' H2 : Hp} {po : Po} {s s1 s2 s0 : Tk.St} {As Fs As1 Fs1 As2 Fs2 As0 Fs0 : List AT} {E E0 E' G : List (T × AT)} {W : WX} {a b c e o tg : Expr} {fa fb fc fo : M T} {ft ft' : M Bool} {fas : M (List T)} {fs ft2 : M (Option T)} {pos p p2 : Pos} {es : List Expr} {st : Stmt} {sts sts2 : List Stmt} {C C' : List Cell} {Cs Cs' : List AT}
/-- a frame is entered -/
theorem CRel.enter {D : List (T × AT)} {N : List Str} {F : Fn} {n : Nat} {slf : Option V} (c : CRel ca K H C Cs (D ++ E0)) (hD : D.length = F.np) (hn : n ≤ N.length) (hnp : F.np ≤ N.length) (hs : ∀ v, slf = some v → ((D.map (·.2)).map AT.val).head? = some v) :
    Rel ca K ⟨n, slf⟩ (L2.start N ((D.map (·.2)).map AT.val)) H ⟨C, frame F (D.map (·.1))⟩ Cs (D.map (·.2) ++ List.replicate (F.ns - D.length) (.lf .non)) E0 := by
  have hl := c.sim.len
  have ef : frame F (D.map (·.1)) = (D.map fun q => (⟨[], q.1⟩ : Cell)) ++ List.replicate (F.ns - D.length) ⟨[], .hole⟩ := by
    unfold frame
    rw [List.map_map, List.length_map]
    rfl
  have lf : (frame F (D.map (·.1))).length = D.length + (F.ns - D.length) := by rw [ef]; simp
  refine ⟨?_, hl, fun i x A hi h1 h2 h3 => ?_, fun v hv => ?_, ?_, c.bC, fun x hx => ?_, fun q hq => ?_⟩
  · show Sim ca K H (C ++ frame F (D.map (·.1))) (Cs ++ (D.map (·.2) ++ List.replicate (F.ns - D.length) (.lf .non))) E0
    rw [ef, ← List.append_assoc, ← List.append_assoc]
    exact c.sim.enter _
  · have h1 : (frame F (D.map (·.1)))[i]? = some x := h1
    rw [ef] at h1
    by_cases hiD : i < D.length
    · rw [List.getElem?_append_left (by simpa using hiD)] at h1 h2
      unfold L2.start
      rw [List.getElem?_append_left (by simpa using hiD)]
      rw [List.getElem?_map] at h2
      simp only [List.getElem?_map]
      cases hq : D[i]? with
      | none => rw [hq] at h2; cases h2
      | some q => rw [hq] at h2; cases h2; rfl
    · rw [List.getElem?_append_right (by simpa using hiD)] at h1
      have hr := List.mem_of_getElem? h1
      rw [List.mem_replicate] at hr
      rw [hr.2] at h3
      exact absurd rfl h3
  · have hz := hs v hv
    unfold L2.start
    cases hq : (D.map (·.2)).map AT.val with
    | nil => rw [hq] at hz; cases hz
    | cons w ws => rw [hq] at hz; cases hz; rfl
  · unfold L2.start
    simp
    omega
  · have hx : x ∈ frame F (D.map (·.1)) := hx
    rw [ef] at hx
    show below (C.length + (frame F (D.map (·.1))).length) x.val = true
    rcases List.mem_append.mp hx with hx | hx
    · obtain ⟨q, hq, e⟩ := List.mem_map.mp hx
      subst e
      exact below_le (Nat.le_add_right _ _) (c.bE q (List.mem_append_left _ hq))
    · rw [(List.mem_replicate.mp hx).2]; rfl
  · exact below_le (Nat.le_add_right _ _) (c.bE q (List.mem_append_right _ hq))
/-- .. and left -/
theorem Rel.leaveC {E2 : List (T × AT)} (R : Rel ca K nv σ H s As Fs E2) (bE : ∀ q ∈ E2, below s.S.length q.1 = true) : CRel ca K H s.S As E2 :=
  ⟨R.sim.leave R.la R.bS bE, R.bS, bE⟩
theorem Kp.toC {F0 : List Cell} (hS : s0.S = C) (k : Kp s0 s As0 As) : KpC C s.S As0 As := by
  subst hS
  exact ⟨k.lS, rfl, k.lA, k.at_, k.bel⟩
/-- a body's run is the call's -/
theorem body_post {F : Fn} {N : List Str} {D : List (T × AT)} {n : Nat} {Q : VK} {Ex : XK} {fb : M (Option T)} (c : CRel ca K H C Cs (D ++ E0)) (hD : D.length = F.np) (hn : n ≤ N.length) (hnp : F.np ≤ N.length) (hW : ∀ cls d σ H, Ex cls d H → W cls d σ H) (hn0 : isNew (D.map (·.1)) = true → 0 < n)
    (q : CPost ca K (isNew (D.map (·.1))) (((D.map (·.2)).map AT.val).head?) Q Ex C Cs E0 (match fb ⟨C, frame F (D.map (·.1))⟩ with
      | .ok r s => leave (isNew (D.map (·.1))) r s
      | .exc c pl s => .exc c pl s.S
      | .stuck w => .stuck w)) :
    RdS ca K ⟨n, if isNew (D.map (·.1)) then ((D.map (·.2)).map AT.val).head? else none⟩ W fb { nx := fun _ H' => Q .non H', rt := Q } (L2.start N ((D.map (·.2)).map AT.val)) H := by
  have bE0 : ∀ q ∈ E0, below C.length q.1 = true := fun q hq => c.bE q (List.mem_append_right _ hq)
  have R0 := c.enter (N := N) (F := F) (n := n) (slf := if isNew (D.map (·.1)) then ((D.map (·.2)).map AT.val).head? else none) hD hn hnp (fun v hv => by
    split at hv
    · exact hv
    · cases hv)
  refine ⟨_, _, _, _, R0, ?_⟩
  have lS : ∀ {s' : Tk.St} {As' : List AT}, Kp ⟨C, frame F (D.map (·.1))⟩ s' Cs As' → s'.S.length = C.length := fun k => k.lS
  have bE' : ∀ {s' : Tk.St} {As' : List AT}, Kp ⟨C, frame F (D.map (·.1))⟩ s' Cs As' → ∀ q ∈ E0, below s'.S.length q.1 = true := fun k q hq => by rw [lS k]; exact bE0 q hq
  -- an __init__ ends: its object is handed back
  have fin_ok : ∀ {σ' : L2.St} {H1 : Hp} {s' : Tk.St} {As' Fs' : List AT}, isNew (D.map (·.1)) = true →
      Rel ca K ⟨n, ((D.map (·.2)).map AT.val).head?⟩ σ' H1 s' As' Fs' E0 → Kp ⟨C, frame F (D.map (·.1))⟩ s' Cs As' →
      CPost ca K (isNew (D.map (·.1))) (((D.map (·.2)).map AT.val).head?) Q Ex C Cs E0 (leave.fin s') → Q .non H1 := fun {σ' H1 s' As' Fs'} hm R' k' q => by
    unfold leave.fin at q
    split at q
    · rename_i x rest hF
      split at q
      · rename_i hb
        by_cases nh' : x.val = .hole
        · rw [nh'] at q; exact q.elim
        · have q : CPost ca K (isNew (D.map (·.1))) (((D.map (·.2)).map AT.val).head?) Q Ex C Cs E0 (.ok x.val s'.S) := by
            cases hv : x.val with
            | hole => exact absurd hv nh'
            | _ => rw [hv] at q; exact q
          have hx0 : s'.F[0]? = some x := by rw [hF]; rfl
          obtain ⟨A, h1, h2, h3⟩ := R'.atF hx0
          have J := R'.sim.takeOut (get_F hx0).2 h2 (p := []) (t := x.val) (B := A) (by unfold sub; rfl) (by unfold AT.at; rfl)
          have e1 : setAt x.val [] .hole = .hole := by unfold setAt; rfl
          have e2 : A.setAt [] (.lf A.val) = .lf A.val := by unfold AT.setAt; rfl
          rw [e1, e2] at J
          obtain ⟨As2, Fs2, R2, k2⟩ := R'.cell (x' := ⟨x.log ++ [([], true)], .hole⟩) (get_F hx0).1 h2 J (fun z => absurd rfl z) (fun z => by simp [top]) rfl (fun r hr => by
            rcases List.mem_cons.mp hr with e | hr
            · rw [e]; exact below_le (Nat.le_add_right _ _) hb
            · exact R'.bE r hr)
          have ep : s'.put (s'.S.length + 0) ⟨x.log ++ [([], true)], .hole⟩ = ⟨s'.S, s'.F.set 0 ⟨x.log ++ [([], true)], .hole⟩⟩ := by
            unfold St.put
            rw [if_neg (by omega)]
            simp
          rw [ep] at R2 k2
          have c2 := R2.leaveC (fun q hq => by
            show below s'.S.length q.1 = true
            rcases List.mem_cons.mp hq with e | hq
            · rw [e]; exact hb
            · exact bE' k' q hq)
          have hself : ((D.map (·.2)).map AT.val).head? = some A.val := by
            have hmt := R'.mt 0 x A (hn0 hm) hx0 h1 nh'
            cases hd : ((D.map (·.2)).map AT.val).head? with
            | none =>
              exfalso
              cases hq : D with
              | nil => rw [hq] at hm; cases hm
              | cons d ds => rw [hq] at hd; cases hd
            | some v =>
              have := R'.sv v hd
              rw [hmt] at this
              cases this
              rfl
          have := q H1 As2 A c2 (by
            have kk := k'.trans k2
            exact ⟨kk.lS, rfl, kk.lA, kk.at_, kk.bel⟩) (fun _ => hself)
          rw [hm] at this
          exact this
      · exact q.elim
    · exact q.elim
  cases e : fb ⟨C, frame F (D.map (·.1))⟩ with
  | stuck w => rw [e] at q; exact q
  | exc cc pl s' =>
    rw [e] at q
    intro σ' H1 As' Fs' R' k'
    exact hW _ _ _ _ (q H1 As' (R'.leaveC (bE' k')) ⟨k'.lS, rfl, k'.lA, k'.at_, k'.bel⟩)
  | ok r s' =>
    rw [e] at q
    simp only at q
    cases hm : isNew (D.map (·.1)) with
    | false =>
      cases r with
      | none =>
        intro σ' H1 As' Fs' R' k'
        rw [hm] at q
        have c2 := (R'.non).leaveC (fun q hq => by
          rcases List.mem_cons.mp hq with e | hq
          · rw [e]; rfl
          · exact bE' k' q hq)
        exact q H1 As' _ c2 ⟨k'.lS, rfl, k'.lA, k'.at_, k'.bel⟩ (fun z => nomatch z)
      | some v =>
        intro σ' H1 As' Fs' A R' k'
        rw [hm] at q
        unfold leave at q
        simp only at q
        cases hb : below s'.S.length v with
        | false => rw [hb] at q; exact q.elim
        | true =>
          rw [hb] at q
          have c2 := R'.leaveC (fun q hq => by
            rcases List.mem_cons.mp hq with e | hq
            · rw [e]; exact hb
            · exact bE' k' q hq)
          exact q H1 As' A c2 ⟨k'.lS, rfl, k'.lA, k'.at_, k'.bel⟩ (fun z => nomatch z)
    | true =>
      cases r with
      | none =>
        intro σ' H1 As' Fs' R' k'
        simp only [if_true] at R'
        rw [hm] at q
        refine fin_ok hm R' k' ?_
        rw [hm]
        exact q
      | some v =>
        intro σ' H1 As' Fs' A R' k'
        rw [hm] at q
        cases v with
        | non =>
          have eA := rp_non R'.head
          subst eA
          have R2 := R'.drop
          simp only [if_true] at R2
          refine fin_ok hm R2 k' ?_
          rw [hm]
          exact q
        | _ => exact q.elim
end
end Tk
end
section
/-! Tk22: the checker of expressions. -/
namespace Tk
open PySem L2
/-! ### sides -/
def noStar : Expr → Bool
  | .Starred _ _ => false | _ => true
theorem star_of {env : Env} {e : Expr} {es : List Expr} (h : noStar e = true) : starEach (e :: es) env = (false, eval e env) :: starEach es env := by
  cases e <;> first | rfl | cases h
theorem star_fst {env : Env} : ∀ {es : List Expr}, es.all noStar = true → ∀ x ∈ starEach es env, x.1 = false
  | [], _, x, hx => by cases hx
  | e :: es, h, x, hx => by
    simp only [List.all_cons, Bool.and_eq_true] at h
    rw [star_of h.1] at hx
    rcases List.mem_cons.mp hx with q | q
    · rw [q]
    · exact star_fst h.2 x q
theorem back_any {env : Env} {pos : Pos} {es : List Expr} (h : es.all noStar = true) : (backTo pos (starEach es env)).any (·.1) = false := by
  rw [List.any_eq_false]
  intro x hx
  unfold backTo at hx
  obtain ⟨y, hy, e⟩ := List.mem_map.mp hx
  rw [← e]
  have := star_fst h y hy
  simp [this]
theorem back_all {env : Env} {pos : Pos} {es : List Expr} (h : es.all noStar = true) : (backTo pos (starEach es env)).all (fun x => !x.1) = true := by
  rw [List.all_eq_true]
  intro x hx
  unfold backTo at hx
  obtain ⟨y, hy, e⟩ := List.mem_map.mp hx
  rw [← e]
  have := star_fst h y hy
  simp [this]
theorem few_of {env : Env} {pos : Pos} {es : List Expr} (h : es.all noStar = true) (hl : es.length < 29) : ((backTo pos (starEach es env)).all (fun x => !x.1) && (backToKw pos (keywordEach [] env)).all (fun x => x.1.isSome)
      && decide (es.length + ([] : List Keyword).length + (if ([] : List Keyword).isEmpty then 0 else 1) < 30)) = true := by
  rw [back_all h]
  simp [backToKw, keywordEach]
  omega
def baseB : Expr → Bool
  | .Call _ _ _ _ => false
  | _ => true
theorem base_of {env : Env} {e : Expr} {f : Str} (h : baseB e = true) : attributeBase e f env (eval e env) = eval e env := by
  cases e <;> first | rfl | cases h
def plainIxB : Expr → Bool
  | .Slice _ _ _ _ => false | _ => true
theorem plainIx_of {e : Expr} (h : plainIxB e = true) : PlainIx e := fun o i => by
  cases e <;> first | rfl | cases h
def notSetB : Expr → Bool
  | .Set _ _ _ => false | _ => true
theorem behind_of {op : CmpOp} {e : Expr} (h : notSetB e = true) : behindInMarks op e = false := by
  cases e <;> first | rfl | cases h
def leafT : Expr → Bool
  | .UnaryOp .Not _ _ => false | .BoolOp _ _ _ => false | .IfExp _ _ _ _ => false | .Compare _ _ _ _ => false | _ => true
theorem leaf_of {env : Env} {e : Expr} (h : leafT e = true) : ∀ whole, isTrue e env whole = (do let v ← whole; standAt e.pos; holding [v] (truthy v)) := fun whole => by
  cases e <;> first | rfl | (cases h; done) | (rename_i op _ _; cases op <;> first | rfl | cases h)
theorem folded_of {env : Env} {e : Expr} (h : notSetB e = true) : ∀ x, foldedSetIterable e env x = pure x := fun x => by
  cases e <;> first | rfl | cases h
/-! ### monad laws -/
theorem M.assoc {α β γ : Type} (x : M α) (f : α → M β) (g : β → M γ) : M.bind (M.bind x f) g = M.bind x (fun a => M.bind (f a) g) := by
  funext s
  unfold M.bind
  cases x s <;> rfl
theorem M.pure_bind {α β : Type} (a : α) (f : α → M β) : M.bind (pure a) f = f a := rfl
theorem M.bind_pure {α : Type} (x : M α) : M.bind x (fun a => pure a) = x := by
  funext s
  unfold M.bind
  cases x s <;> rfl
/-! ### what a text's check leans on -/
structure Ct where
  N : List Str
  sc : Scope
  ini : Bool
  P : Prog
  /-- the module's plain values; the defs that are called by name -/
  gls : List (Str × T)
  top : List Str
def bltNames : List Str := ["len", "int", "str", "list", "dict", "tuple", "abs", "sorted", "min", "max", "sum", "any", "isinstance", "range", "enumerate", "reversed", "set"]
structure FnAt (X : Cx) (ca : Str → Addr) (call : Cl) (f : Str) (F : Fn) : Prop where
  ex : ∃ (lev : Nat) (a : Addr) (fd : FuncData) (ps : List Str), FnOk X.prog X.w X.K X.mg X.base (L2.CX X.prog X.w) lev a fd ps (spF ca X.K false F.np (call false f)) ∧ Room lev X.A ∧ X.mg f = some (.ref a) ∧ PySem.W.keepIn X.K (.ref a) = true ∧ Binds X.K fd ps []
structure XOk (X : Cx) (ca : Str → Addr) (C : Ct) (call : Cl) (W : WX) : Prop where
  hN : X.N = C.N
  nd : C.N.Nodup
  hsc : X.env.scope = C.sc
  fn : ∀ x, X.fn x = true
  calm : X.calm = true
  hp : PassesOwn (model X.prog X.w) X.A X.env X.xe
  tk : Takes X W
  room : X.A.units + 200 < cLine
  gls : ∀ x t, C.gls.lookup x = some t → ∃ u v, X.mg x = some u ∧ RelV v u ∧ immV t = some v
  blt : ∀ x ∈ bltNames, X.mg x = none
  fns : ∀ f F, C.top.contains f = true → C.P.fns.lookup f = some F → FnAt X ca call f F
  isi : ∀ c yn, C.P.isi.lookup c = some yn → ∃ cv u, ClsV cv (tyv ca c) ∧ RelV cv u ∧ (X.mg c = some u ∨ (X.mg c = none ∧ (c ≠ "__name__" ∧ bootBuiltins c = some u)))
  kit : ∀ t c b, isiB C.P t c = some b → PySem.W.kitOne X.K (tyv ca t) (tyv ca c) = some b
section
variable {X : Cx} {ca : Str → Addr} {C : Ct} {call : Cl} {W : WX} (O : XOk X ca C call W)
include O
theorem XOk.hu1 : X.A.units + 1 < cLine := by have := O.room; omega
theorem XOk.hu64 : X.A.units + 64 < cLine := by have := O.room; omega
theorem XOk.hu65 : X.A.units + 65 < cLine := by have := O.room; omega
end
def okName (x : Str) : Bool := !(x == ("__debug__" : Str)) && (!(x == ("__classdict__" : Str)) && !decide (x = "__name__"))
theorem okName_1 {x : Str} (h : okName x = true) : (x == ("__debug__" : Str)) = false := by simpa using (and2 h).1
theorem okName_2 {x : Str} (h : okName x = true) : (x == ("__classdict__" : Str)) = false := by simpa using (and2 (and2 h).2).1
theorem okName_3 {x : Str} (h : okName x = true) : x ≠ "__name__" := by simpa using (and2 (and2 h).2).2
def locB (sc : Scope) (x : Str) : Bool := decide (sc.names.lookup x = some .local) || decide (sc.names.lookup x = some .cell)
theorem loc_of {sc : Scope} {x : Str} (h : locB sc x = true) : Loc sc x := by
  unfold locB at h
  simp only [Bool.or_eq_true, decide_eq_true_eq] at h
  exact h
theorem vis_of {sc : Scope} {x : Str} (h : locB sc x = true) : Vis sc x := by
  rcases loc_of h with z | z
  · exact .inl z
  · exact .inr (.inl z)
def gloB (sc : Scope) (x : Str) : Bool := decide (sc.names.lookup x = some .globalImplicit)
theorem gl_of {X : Cx} {C : Ct} {x : Str} (hsc : X.env.scope = C.sc) (h : gloB C.sc x = true) : Gl X x := by
  show X.env.scope.names.lookup x = _
  rw [hsc]; exact of_decide_eq_true h
def isTup : T → Bool
  | .nd _ _ => true | _ => false
def binB : Bop → Operator → Bool
  | .add, .Add => true | .sub, .Sub => true | .mul, .Mult => true | .fdiv, .FloorDiv => true | .mod, .Mod => true | .pow, .Pow => true | .shl, .LShift => true | .shr, .RShift => true | .bor, .BitOr => true | .band, .BitAnd => true | _, _ => false
theorem bin_of {X : Cx} {ca : Str → Addr} {o : Bop} {op : Operator} (h : binB o op = true) : BinOk X ca op (binop o) := by
  cases o <;> cases op <;> first
    | (cases h; done) | exact bin_add | exact bin_sub | exact bin_mul | exact bin_fdiv | exact bin_mod | exact bin_pow | exact bin_shl | exact bin_shr | exact bin_bor | exact bin_band
def cmpB : Cop → CmpOp → Bool
  | .eq, .Eq => true | .ne, .NotEq => true | .lt, .Lt => true | .le, .LtE => true | .gt, .Gt => true | .ge, .GtE => true | .isin, .In => true | .notin, .NotIn => true | .is, .Is => true | .isnot, .IsNot => true | _, _ => false
theorem cmp_of {X : Cx} {ca : Str → Addr} (hu : X.A.units + 200 < cLine) {o : Cop} {op : CmpOp} (h : cmpB o op = true) : CmpOk X ca op (cmpop o) := by
  have h1 : X.A.units + 64 < cLine := by omega
  have h2 : X.A.units + 65 < cLine := by omega
  cases o <;> cases op <;> first
    | (cases h; done) | exact cmp_eq h1 | exact cmp_ne h1 | exact cmp_lt | exact cmp_le | exact cmp_gt | exact cmp_ge | exact cmp_in h2 | exact cmp_notin h2 | exact cmp_is | exact cmp_isnot
def all2 {α β : Type} (f : α → β → Bool) : List α → List β → Bool
  | [], [] => true
  | a :: as, b :: bs => f a b && all2 f as bs
  | _, _ => false
def bfB : Bf → Str → Bool
  | .len, x => decide (x = "len") | .int, x => decide (x = "int") | .str, x => decide (x = "str") | .list, x => decide (x = "list") | .tuple, x => decide (x = "tuple") | .dict, x => decide (x = "dict") | .abs, x => decide (x = "abs") | _, _ => false
def bmB : Bm → Str → Bool
  | .append, x => decide (x = "append") | .split, x => decide (x = "split") | .join, x => decide (x = "join") | .find, x => decide (x = "find") | _, _ => false
/-- the text of an expression is the small language's -/
def chkE (C : Ct) : Nat → Expr → Ex → Bool
  | 0, _, _ => false
  | n + 1, e, x => match x, e with
    | .cst (.int i), .Constant (.int j) _ _ => decide (i = j)
    | .cst (.bl i), .Constant (.bool j) _ _ => decide (i = j)
    | .cst (.str i), .Constant (.str j) _ _ => decide (i = j)
    | .cst .non, .Constant .none _ _ => true
    | .glo y t, .Name z _ => decide (y = z) && ((C.gls.lookup z).isSome && (gloB C.sc z && (okName z && match C.gls.lookup z, t with
        | some (.int i), .int j => decide (i = j) | some (.str i), .str j => decide (i = j) | some (.bl i), .bl j => decide (i = j) | some .non, .non => true | _, _ => false)))
    | .var i, .Name z _ => decide (C.N[i]? = some z) && (locB C.sc z && okName z)
    | .mvv i, .Name z _ => decide (C.N[i]? = some z) && (locB C.sc z && okName z)
    | .mv x, e => chkE C n e x
    | .bin o x y, .BinOp a op b _ => binB o op && (chkE C n a x && chkE C n b y)
    | .neg x, .UnaryOp .USub a _ => chkE C n a x
    | .not x, .UnaryOp .Not a _ => chkE C n a x
    | .and x y, .BoolOp .And (a :: b :: rest) p => chkE C n a x && chkE C n (.BoolOp .And (b :: rest) p) y
    | .or x y, .BoolOp .Or (a :: b :: rest) p => chkE C n a x && chkE C n (.BoolOp .Or (b :: rest) p) y
    | .cmp o x y, .Compare a [op] [b] _ => cmpB o op && (notSetB b && (chkE C n a x && chkE C n b y))
    | .chain o o' x y z, .Compare a [op, op'] [b, c] _ => cmpB o op && (cmpB o' op' && (notSetB c && (chkE C n a x && (chkE C n b y && chkE C n c z))))
    | .tup xs, .Tuple es _ _ => es.all noStar && all2 (chkE C n) es xs
    | .lst xs, .List es _ => es.all noStar && all2 (chkE C n) es xs
    | .dnew _, .Dict [] [] _ => true
    | .slF x y, .Subscript a (.Slice (some b) none none _) _ => chkE C n a x && chkE C n b y
    | .slT x y, .Subscript a (.Slice none (some b) none _) _ => chkE C n a x && chkE C n b y
    | .slB x y z, .Subscript a (.Slice (some b) (some c) none _) _ => chkE C n a x && (chkE C n b y && chkE C n c z)
    | .ix x y, .Subscript a b _ => plainIxB b && (chkE C n a x && chkE C n b y)
    | .fld x f, .Attribute a g _ => decide (f = g) && (baseB a && chkE C n a x)
    | .call f xs, .Call (.Name g _) (e :: es) [] _ => decide (f = g) && (gloB C.sc g && (okName g && (C.top.contains f && ((match C.P.fns.lookup f with | some F => decide (F.np = (e :: es).length) | none => false) && ((e :: es).all noStar && all2 (chkE C n) (e :: es) xs)))))
    | .bf f xs, .Call (.Name g _) (e :: es) [] _ => bfB f g && (gloB C.sc g && (okName g && ((e :: es).all noStar && all2 (chkE C n) (e :: es) xs)))
    | .bm m x xs, .Call (.Attribute o g ap) (e :: es) [] cp => bmB m g && (baseB o && (chkE C n o x && (decide ((e :: es).length < 29) && ((ap.endLine == cp.line) && ((e :: es).all noStar && all2 (chkE C n) (e :: es) xs)))))
    | .isi x c, .Call (.Name g _) [e, .Name d _] [] _ => decide (g = "isinstance") && (decide (c = d) && (gloB C.sc g && (gloB C.sc d && (okName d && ((C.P.isi.lookup c).isSome && (noStar e && chkE C n e x))))))
    | x, .BoolOp _ [e] _ => chkE C n e x
    | _, _ => false
end Tk
end
section
/-! Tk23: the checker of expressions is sound. -/
namespace Tk
open PySem L2
section
variable {X : Cx} {ca : Str → Addr} {C : Ct} {call : Cl} {W : WX} {nv : Fr}
theorem sa_all {f : Expr → Ex → Bool} (hf : ∀ e x, f e x = true → PE X e (RdE ca X.K nv W (ev C.P call false x))) : ∀ {es : List Expr} {xs : List Ex}, all2 f es xs = true → es.all noStar = true → PA X es (RdA ca X.K nv W (evs C.P call false xs))
  | [], [], _, _ => by
    have : evs C.P call false [] = (pure [] : M (List T)) := by rw [evs]
    rw [this]
    exact sa_nil nv
  | [], _ :: _, h, _ => by cases h
  | _ :: _, [], h, _ => by cases h
  | e :: es, x :: xs, h, hs => by
    simp only [List.all_cons, Bool.and_eq_true] at hs
    obtain ⟨h1, h2⟩ := and2 h
    rw [evs]
    exact sa_cons (hf e x h1) (sa_all hf h2 hs.2) (star_of hs.1)
theorem evs_len {P : Prog} {hot : Bool} : ∀ {xs : List Ex} {s s' : Tk.St} {ts : List T}, evs P call hot xs s = .ok ts s' → ts.length = xs.length
  | [], s, s', ts, h => by rw [evs] at h; cases h; rfl
  | x :: xs, s, s', ts, h => by
    rw [evs] at h
    have h' : M.bind (ev P call hot x) (fun t => M.bind (evs P call hot xs) fun ts => (pure (t :: ts) : M (List T))) s = .ok ts s' := h
    unfold M.bind at h'
    cases e1 : ev P call hot x s with
    | ok t s1 =>
      rw [e1] at h'
      simp only at h'
      cases e2 : evs P call hot xs s1 with
      | ok us s2 =>
        rw [e2] at h'
        cases h'
        simp [evs_len e2]
      | exc _ _ _ => rw [e2] at h'; cases h'
      | stuck _ => rw [e2] at h'; cases h'
    | exc _ _ _ => rw [e1] at h'; cases h'
    | stuck _ => rw [e1] at h'; cases h'
theorem all2_len {α β : Type} {f : α → β → Bool} : ∀ {as : List α} {bs : List β}, all2 f as bs = true → as.length = bs.length
  | [], [], _ => rfl
  | [], _ :: _, h => by cases h
  | _ :: _, [], h => by cases h
  | a :: as, b :: bs, h => by simp [all2_len (and2 h).2]
/-- a def called by its name -/
theorem se_call {f : Str} {F : Fn} {e : Expr} {es : List Expr} {xs : List Ex} {p pos : Pos} (O : XOk X ca C call W) (hf : FnAt X ca call f F) (hg : Gl X f) (hdb : (f == ("__debug__" : Str)) = false) (hn : F.np = (e :: es).length) (hl : xs.length = (e :: es).length) (hs : (e :: es).all noStar = true)
    (ha : PA X (e :: es) (RdA ca X.K nv W (evs C.P call false xs))) : PE X (.Call (.Name f p) (e :: es) [] pos) (RdE ca X.K nv W (do
      let as ← evs C.P call false xs
      let _ ← need "a bare object handed in" (!isNew as)
      asM (call false f as))) := by
  obtain ⟨lev, a, fd, ps, FO, rm, hm, hk, hb⟩ := hf.ex
  simp only [List.all_cons, Bool.and_eq_true] at hs
  refine ⟨fun pins st σ H Q I ⟨s, As, Fs, E, R, q⟩ => (pe_callS (E := WE W) FO rm hg hm hk hb (fun σ => passAt O.tk σ) ha hdb (star_of hs.1) (back_any hs.2)).run pins st σ H Q I ?_⟩
  have q0 : VPost ca X.K nv W σ s As Fs E Q (M.bind (evs C.P call false xs) (fun as => M.bind (need "a bare object handed in" (!isNew as)) fun _ => asM (call false f as)) s) := q
  unfold tCallS
  refine ⟨s, As, Fs, E, R, ?_⟩
  unfold M.bind at q0
  cases ee : evs C.P call false xs s with
  | ok ts s1 =>
    rw [ee] at q0
    intro H1 As1 Fs1 Ds hd R1 K1
    have hd : Ds.length = ts.length := hd
    have hts := evs_len ee
    have e1 : (ts.zip Ds).map (·.1) = ts := mem_zip_fst hd.symm
    have e2 : (ts.zip Ds).map (·.2) = Ds := mem_zip_snd hd.symm
    simp only at q0
    cases hi : isNew ts with
    | true => rw [hi] at q0; exact q0.elim
    | false =>
      rw [hi] at q0
      refine ⟨ts.zip Ds, s1.S ++ s1.F, As1 ++ Fs1, E, by rw [e1]; exact hi, by rw [List.length_zip, hd, Nat.min_self, hts, hl, hn], by rw [e2], R1.crel, ?_⟩
      rw [e1, hi]
      have R1' : Rel ca X.K nv σ H1 s1 As1 Fs1 (ts.zip Ds ++ E) := R1
      have z := asM_post (g := fun v => (pure v : M T)) R1' K1 (D := fun v => [v]) (Φ := fun _ Ds H' _ _ _ => ∀ A, Ds = [A] → Q A.val H') (f := call false f ts) (by
        show Post ca X.K nv (fun v => [v]) W σ s As Fs E _ (M.bind (asM (call false f ts)) (fun v => pure v) s1)
        rw [M.bind_pure]
        exact q0) (Q := Q) (fun v s2 H2 As2 Fs2 A R2 k2 h2 => Post.val h2 R2 k2)
      rw [e2] at z
      exact z
  | exc c pl s1 =>
    rw [ee] at q0
    exact q0
  | stuck w => rw [ee] at q0; exact q0
theorem keep_of {x : Str} (O : XOk X ca C call W) (h : x ∈ bltNames) : X.mg x = none := O.blt x h
theorem bf_side {f : Bf} {g : Str} (h : bfB f g = true) : g ∈ bltNames := by
  unfold bltNames
  cases f <;> simp only [bfB, decide_eq_true_eq] at h <;> first | (cases h; done) | (subst h; simp)
theorem se_bf {f : Bf} {g : Str} {e : Expr} {es : List Expr} {fas : M (List T)} {p pos : Pos} (O : XOk X ca C call W) (h : bfB f g = true) (hg : gloB C.sc g = true) (ok : okName g = true) (hs : (e :: es).all noStar = true) (ha : PA X (e :: es) (RdA ca X.K nv W fas)) :
    PE X (.Call (.Name g p) (e :: es) [] pos) (RdE ca X.K nv W (do let as ← fas; bfop f as)) := by
  have hm := keep_of O (bf_side h)
  simp only [List.all_cons, Bool.and_eq_true] at hs
  have side : CSide X g pos e es := ⟨gl_of O.hsc hg, hm, okName_3 ok, okName_1 ok, star_of hs.1, back_any hs.2⟩
  cases f <;> simp only [bfB, decide_eq_true_eq] at h <;> first | (cases h; done) | subst h
  · exact se_callB bf_len (by decide +kernel) side ha
  · exact se_callTy bf_int (by decide +kernel) side ha
  · exact se_callTy bf_str (by decide +kernel) side ha
  · exact se_callTy (bf_list O.calm) (by decide +kernel) side ha
  · exact se_callTy bf_dict (by decide +kernel) side ha
  · exact se_callTy bf_tuple (by decide +kernel) side ha
  · exact se_callB bf_abs (by decide +kernel) side ha
theorem se_bmC {m : Bm} {g : Str} {o e : Expr} {es : List Expr} {fo : M T} {fas : M (List T)} {ap cp : Pos} (h : bmB m g = true) (hb : baseB o = true) (hl : (e :: es).length < 29) (hp : (ap.endLine == cp.line) = true) (hs : (e :: es).all noStar = true) (ho : PE X o (RdE ca X.K nv W fo)) (ha : PA X (e :: es) (RdA ca X.K nv W fas)) :
    PE X (.Call (.Attribute o g ap) (e :: es) [] cp) (RdE ca X.K nv W (do
      let x ← fo
      let _ ← recv m x
      let as ← fas
      bmop m x as)) := by
  have hs' := hs
  simp only [List.all_cons, Bool.and_eq_true] at hs
  have side : MSide X o g ap cp e es := ⟨base_of hb, few_of hs' hl, hp, star_of hs.1, back_any hs.2⟩
  cases m <;> simp only [bmB, decide_eq_true_eq] at h <;> first | (cases h; done) | subst h
  · exact se_bm bm_append (recv_lst rfl) PySem.F.plainAttrs_list PySem.F.slot_list_append PySem.F.type_list_append ho ha side
  · exact se_bm bm_split (recv_str rfl) PySem.F.plainAttrs_str PySem.F.slot_str_split PySem.F.type_str_split ho ha side
  · exact se_bm bm_join (recv_str rfl) PySem.F.plainAttrs_str PySem.F.slot_str_join PySem.F.type_str_join ho ha side
  · exact se_bm bm_find (recv_str rfl) PySem.F.plainAttrs_str PySem.F.slot_str_find PySem.F.type_str_find ho ha side
end
end Tk
end
section
/-! Tk24: the checker of expressions is sound. -/
namespace Tk
open PySem L2
section
variable {X : Cx} {ca : Str → Addr} {C : Ct} {call : Cl} {W : WX} {nv : Fr}
theorem se_isiC {c : Str} {e : Expr} {fa : M T} {p p2 pos : Pos} (O : XOk X ca C call W) (h3 : gloB C.sc "isinstance" = true) (h4 : gloB C.sc c = true) (h5 : okName c = true) (hS : (C.P.isi.lookup c).isSome = true) (h6 : noStar e = true) (ha : PE X e (RdE ca X.K nv W fa)) : PE X (.Call (.Name "isinstance" p) [e, .Name c p2] [] pos) (RdE ca X.K nv W (do
      let x ← fa
      let b ← isiop C.P x c
      pure (.bl b))) := by
  have side : CSide X "isinstance" pos e [.Name c p2] := ⟨gl_of O.hsc h3, O.blt _ (by simp [bltNames]), by decide, by decide, star_of h6, back_any rfl⟩
  cases hc : C.P.isi.lookup c with
  | none => rw [hc] at hS; cases hS
  | some yn =>
    obtain ⟨cv, u, hk, r, hm⟩ := O.isi c yn hc
    rcases hm with hm | ⟨hm, hn, hb⟩
    · exact se_isi (g := "x") ha (pe_glob (gl_of O.hsc h4) hm r (okName_1 h5)) hk (fun t b hb => O.kit t c b hb) side
    · exact se_isi (g := "x") ha (pe_bltn (gl_of O.hsc h4) hm hb r hn (okName_1 h5)) hk (fun t b hb => O.kit t c b hb) side
theorem chkE_ok (O : XOk X ca C call W) (hn : nv.n = C.N.length) : ∀ (n : Nat) (e : Expr) (x : Ex), chkE C n e x = true → PE X e (RdE ca X.K nv W (ev C.P call false x)) := by
  have hlt : ∀ {i : Nat} {z : Str}, C.N[i]? = some z → i < nv.n := fun h => by rw [hn]; exact (List.getElem?_eq_some_iff.mp h).1
  have hsc := O.hsc
  intro n
  induction n with
  | zero => intro e x h; cases h
  | succ n ih =>
    intro e x h
    unfold chkE at h
    split at h
    · have z := of_decide_eq_true h; subst z; rw [ev]; exact se_int nv
    · have z := of_decide_eq_true h; subst z; rw [ev]; exact se_bl nv
    · have z := of_decide_eq_true h; subst z; rw [ev]; exact se_str nv
    · rw [ev]; exact se_non nv
    · rename_i y t z _
      obtain ⟨h1, h⟩ := and2 h
      obtain ⟨h2, h⟩ := and2 h
      obtain ⟨h3, h⟩ := and2 h
      obtain ⟨h4, h⟩ := and2 h
      have e1 := of_decide_eq_true h1
      subst e1
      cases hg : C.gls.lookup y with
      | none => rw [hg] at h2; cases h2
      | some t' =>
        rw [hg] at h
        have et : t' = t := by
          cases t' <;> cases t <;> first | (cases h; done) | rfl | (simp only [decide_eq_true_eq] at h; rw [h])
        subst et
        obtain ⟨u, v, hm, r, hi⟩ := O.gls y t' hg
        rw [ev]
        exact se_glo nv (gl_of hsc h3) hm r hi (okName_1 h4)
    · obtain ⟨h1, h⟩ := and2 h
      obtain ⟨h2, h⟩ := and2 h
      have e1 := of_decide_eq_true h1
      rw [ev]
      exact se_var nv (hlt e1) (by rw [O.hN]; exact e1) (by rw [hsc]; exact vis_of h2) (okName_1 h) (okName_2 h)
    · obtain ⟨h1, h⟩ := and2 h
      obtain ⟨h2, h⟩ := and2 h
      have e1 := of_decide_eq_true h1
      rw [ev]
      exact se_mvv nv (hlt e1) (by rw [O.hN]; exact e1) (by rw [hsc]; exact vis_of h2) (okName_1 h) (okName_2 h)
    · rw [ev]; exact se_mv (ih _ _ h)
    · obtain ⟨h1, h⟩ := and2 h
      obtain ⟨h2, h3⟩ := and2 h
      rw [ev]; exact se_bin (bin_of h1) (ih _ _ h2) (ih _ _ h3)
    · rw [ev]; exact se_neg (ih _ _ h)
    · rw [ev]; exact se_not (ih _ _ h)
    · obtain ⟨h1, h2⟩ := and2 h
      rw [ev]; exact se_and (ih _ _ h1) (ih _ _ h2)
    · obtain ⟨h1, h2⟩ := and2 h
      rw [ev]; exact se_or (ih _ _ h1) (ih _ _ h2)
    · obtain ⟨h1, h⟩ := and2 h
      obtain ⟨h2, h⟩ := and2 h
      obtain ⟨h3, h4⟩ := and2 h
      rw [ev]; exact se_cmp (cmp_of O.room h1) (calm_cmp _) (ih _ _ h3) (ih _ _ h4) (behind_of h2)
    · obtain ⟨h1, h⟩ := and2 h
      obtain ⟨h1', h⟩ := and2 h
      obtain ⟨h2, h⟩ := and2 h
      obtain ⟨h3, h⟩ := and2 h
      obtain ⟨h4, h5⟩ := and2 h
      rw [ev]; exact se_chain (cmp_of O.room h1) (cmp_of O.room h1') (calm_cmp _) (calm_cmp _) (ih _ _ h3) (ih _ _ h4) (ih _ _ h5) (behind_of h2)
    · obtain ⟨h1, h2⟩ := and2 h
      rw [ev]; exact se_tup (sa_all ih h2 h1)
    · obtain ⟨h1, h2⟩ := and2 h
      rw [ev]; exact se_lst (sa_all ih h2 h1)
    · rw [ev]; exact se_dnew nv
    · obtain ⟨h1, h2⟩ := and2 h
      rw [ev]; exact se_slF (ih _ _ h1) (ih _ _ h2)
    · obtain ⟨h1, h2⟩ := and2 h
      rw [ev]; exact se_slT (ih _ _ h1) (ih _ _ h2)
    · obtain ⟨h1, h⟩ := and2 h
      obtain ⟨h2, h3⟩ := and2 h
      rw [ev]; exact se_slB (ih _ _ h1) (ih _ _ h2) (ih _ _ h3)
    · obtain ⟨h1, h⟩ := and2 h
      obtain ⟨h2, h3⟩ := and2 h
      rw [ev]; exact se_ix O.hu1 (ih _ _ h2) (ih _ _ h3) (plainIx_of h1)
    · obtain ⟨h1, h⟩ := and2 h
      obtain ⟨h2, h3⟩ := and2 h
      have e1 := of_decide_eq_true h1
      subst e1
      rw [ev]; exact se_fld (ih _ _ h3) (base_of h2)
    · obtain ⟨h1, h⟩ := and2 h
      obtain ⟨h2, h⟩ := and2 h
      obtain ⟨h3, h⟩ := and2 h
      obtain ⟨h4, h⟩ := and2 h
      obtain ⟨h5, h⟩ := and2 h
      obtain ⟨h6, h7⟩ := and2 h
      have e1 := of_decide_eq_true h1
      subst e1
      split at h5
      · rename_i F hF
        rw [ev]
        exact se_call O (O.fns _ F h4 hF) (gl_of hsc h2) (okName_1 h3) (of_decide_eq_true h5) (all2_len h7).symm h6 (sa_all ih h7 h6)
      · cases h5
    · obtain ⟨h1, h⟩ := and2 h
      obtain ⟨h2, h⟩ := and2 h
      obtain ⟨h3, h⟩ := and2 h
      obtain ⟨h4, h5⟩ := and2 h
      rw [ev]; exact se_bf O h1 h2 h3 h4 (sa_all ih h5 h4)
    · obtain ⟨h1, h⟩ := and2 h
      obtain ⟨h2, h⟩ := and2 h
      obtain ⟨h3, h⟩ := and2 h
      obtain ⟨h4, h⟩ := and2 h
      obtain ⟨h5, h⟩ := and2 h
      obtain ⟨h6, h7⟩ := and2 h
      rw [ev]; exact se_bmC h1 h2 (of_decide_eq_true h4) h5 h6 (ih _ _ h3) (sa_all ih h7 h6)
    · obtain ⟨h1, h⟩ := and2 h
      obtain ⟨h2, h⟩ := and2 h
      obtain ⟨h3, h⟩ := and2 h
      obtain ⟨h4, h⟩ := and2 h
      obtain ⟨h5, h⟩ := and2 h
      obtain ⟨hS, h⟩ := and2 h
      obtain ⟨h6, h7⟩ := and2 h
      have e1 := of_decide_eq_true h1
      have e2 := of_decide_eq_true h2
      subst e1 e2
      rw [ev]
      exact se_isiC O h3 h4 h5 hS h6 (ih _ _ h7)
    · exact pe_one (ih _ _ h)
    · cases h
end
end Tk
end
section
/-! Tk25: tests and statements: the checker. -/
namespace Tk
open PySem L2
def testOf (m : M T) : M Bool := M.bind m asB
theorem testOf_not (m : M T) : testOf (do let x ← m; let b ← asB x; pure (.bl !b)) = (do let b ← testOf m; pure !b) := by
  show M.bind (M.bind m fun x => M.bind (asB x) fun b => (pure (.bl !b) : M T)) asB = M.bind (M.bind m asB) fun b => (pure !b : M Bool)
  rw [M.assoc, M.assoc]
  congr 1
  funext x
  rw [M.assoc]
  rfl
theorem testOf_and (m m' : M T) : testOf (do let x ← m; let c ← asB x; match c with | true => m' | false => pure (.bl false)) = (do let c ← testOf m; match c with | true => testOf m' | false => pure false) := by
  show M.bind (M.bind m fun x => M.bind (asB x) fun c => (match c with | true => m' | false => pure (.bl false) : M T)) asB = M.bind (M.bind m asB) fun c => (match c with | true => testOf m' | false => pure false : M Bool)
  rw [M.assoc, M.assoc]
  congr 1
  funext x
  rw [M.assoc]
  congr 1
  funext c
  cases c <;> rfl
theorem testOf_or (m m' : M T) : testOf (do let x ← m; let c ← asB x; match c with | true => pure (.bl true) | false => m') = (do let c ← testOf m; match c with | true => pure true | false => testOf m') := by
  show M.bind (M.bind m fun x => M.bind (asB x) fun c => (match c with | true => pure (.bl true) | false => m' : M T)) asB = M.bind (M.bind m asB) fun c => (match c with | true => pure true | false => testOf m' : M Bool)
  rw [M.assoc, M.assoc]
  congr 1
  funext x
  rw [M.assoc]
  congr 1
  funext c
  cases c <;> rfl
theorem testOf_cmp (m m' : M T) (f : T → T → M Bool) : testOf (do let x ← m; let y ← m'; let r ← f x y; pure (.bl r)) = (do let x ← m; let y ← m'; f x y) := by
  show M.bind (M.bind m fun x => M.bind m' fun y => M.bind (f x y) fun r => (pure (.bl r) : M T)) asB = M.bind m fun x => M.bind m' fun y => f x y
  rw [M.assoc]
  congr 1
  funext x
  rw [M.assoc]
  congr 1
  funext y
  rw [M.assoc]
  show M.bind (f x y) (fun r => (pure r : M Bool)) = f x y
  exact M.bind_pure _
theorem testOf_chain (m m' m'' : M T) (f f' : T → T → M Bool) : testOf (do
      let x ← m
      let y ← m'
      let _ ← need "chain" (scalT y)
      let r ← f x y
      match r with
      | true => do
        let z ← m''
        let r' ← f' y z
        pure (.bl r')
      | false => pure (.bl false)) = (do
      let x ← m
      let y ← m'
      let _ ← need "chain" (scalT y)
      let r ← f x y
      match r with
      | true => do
        let z ← m''
        f' y z >>= fun r' => (pure r' : M Bool)
      | false => pure false) := by
  show M.bind (M.bind m fun x => M.bind m' fun y => M.bind (need "chain" (scalT y)) fun _ => M.bind (f x y) fun r => (match r with
      | true => M.bind m'' fun z => M.bind (f' y z) fun r' => (pure (.bl r') : M T)
      | false => pure (.bl false) : M T)) asB = M.bind m fun x => M.bind m' fun y => M.bind (need "chain" (scalT y)) fun _ => M.bind (f x y) fun r => (match r with
      | true => M.bind m'' fun z => M.bind (f' y z) fun r' => (pure r' : M Bool)
      | false => pure false : M Bool)
  rw [M.assoc]
  congr 1
  funext x
  rw [M.assoc]
  congr 1
  funext y
  rw [M.assoc]
  congr 1
  funext u
  rw [M.assoc]
  congr 1
  funext r
  cases r with
  | false => rfl
  | true =>
    show M.bind (M.bind m'' fun z => M.bind (f' y z) fun r' => (pure (.bl r') : M T)) asB = _
    rw [M.assoc]
    congr 1
    funext z
    rw [M.assoc]
    rfl
def chkT (C : Ct) : Nat → Bool → Expr → Ex → Bool
  | 0, _, _, _ => false
  | n + 1, true, e, x => match x, e with
    | .and x y, .BoolOp .And (a :: b :: rest) p => chkT C n false a x && chkT C n true (.BoolOp .And (b :: rest) p) y
    | .or x y, .BoolOp .Or (a :: b :: rest) p => chkT C n false a x && chkT C n true (.BoolOp .Or (b :: rest) p) y
    | x, .BoolOp _ [e] _ => chkT C n false e x
    | _, _ => false
  | n + 1, false, e, x => match x, e with
    | .not x, .UnaryOp .Not a _ => chkT C n false a x
    | .cmp o x y, .Compare a [op] [b] _ => cmpB o op && (notSetB b && (chkE C n a x && chkE C n b y))
    | .chain o o' x y z, .Compare a [op, op'] [b, c] _ => cmpB o op && (cmpB o' op' && (notSetB c && (chkE C n a x && (chkE C n b y && chkE C n c z))))
    | x, .BoolOp op es p => chkT C n true (.BoolOp op es p) x
    | x, e => leafT e && chkE C n e x
def okTg (C : Ct) (i : Nat) (z : Str) : Bool := decide (C.N[i]? = some z) && (locB C.sc z && (okName z && !(C.ini && decide (i = 0))))
def chkIt (C : Ct) (n h : Nat) (e : Expr) (it : Tk.It) : Bool := match it, e with
  | .rng [x], .Call (.Name r _) [a] [] _ => decide (r = "range") && (gloB C.sc r && (noStar a && chkE C n a x))
  | .rng [x, y], .Call (.Name r _) [a, b] [] _ => decide (r = "range") && (gloB C.sc r && ((noStar a && noStar b) && (chkE C n a x && chkE C n b y)))
  | .ex x, e => notSetB e && (decide (C.N.length ≤ h) && chkE C n e x)
  | _, _ => false
def chkS (C : Ct) : Nat → Stmt → Sm → Bool
  | 0, _, _ => false
  | n + 1, st, x => match x, st with
    | .set i x, .Assign [.Name z _] e _ => okTg C i z && (plainE e && chkE C n e x)
    | .exp x, .Expr e _ => plainE e && chkE C n e x
    | .ret x, .Return (some e) _ => chkE C n e x
    | .retN, .Return none _ => true
    | .pas, .Pass _ => true
    | .pas, .Expr (.Constant (.str _) _ _) _ => true
    | .rse _ _, _ => false
    | .ite c xs ys, .If t a b _ => chkT C n false t c && (all2 (chkS C n) a xs && all2 (chkS C n) b ys)
    | .for_ [i] h it xs, .For (.Name z _) e a [] _ => okTg C i z && (chkIt C n h e it && all2 (chkS C n) a xs)
    | .whl c xs, .While t a [] _ => chkT C n false t c && all2 (chkS C n) a xs
    | _, _ => false
section
variable {X : Cx} {ca : Str → Addr} {C : Ct} {call : Cl} {W : WX} {nv : Fr}
theorem pw_one {op : BoolOp} {e : Expr} {t : TT} {p : Pos} (z : PT X e t) : PW X (.BoolOp op [e] p) t := by
  cases op
  · exact pw_and1 z
  · exact pw_or1 z
theorem pwc {e : Expr} {f g : M Bool} (h : f = g) (z : PW X e (RdT ca X.K nv W g)) : PW X e (RdT ca X.K nv W f) := by rw [h]; exact z
theorem ptc {e : Expr} {f g : M Bool} (h : f = g) (z : PT X e (RdT ca X.K nv W g)) : PT X e (RdT ca X.K nv W f) := by rw [h]; exact z
theorem chkT_ok (O : XOk X ca C call W) (hn : nv.n = C.N.length) : ∀ (n : Nat) (w : Bool) (e : Expr) (x : Ex), chkT C n w e x = true → (w = true → PW X e (RdT ca X.K nv W (testOf (ev C.P call false x)))) ∧ (w = false → PT X e (RdT ca X.K nv W (testOf (ev C.P call false x)))) := by
  have hE := chkE_ok (nv := nv) O hn
  intro n
  induction n with
  | zero => intro w e x h; cases w <;> cases h
  | succ n ih =>
    intro w e x h
    cases w with
    | true =>
      refine ⟨fun _ => ?_, (fun z => nomatch z)⟩
      unfold chkT at h
      split at h
      · obtain ⟨h1, h2⟩ := and2 h
        have z := sw_and ((ih _ _ _ h1).2 rfl) ((ih _ _ _ h2).1 rfl)
        rw [ev]
        exact pwc (testOf_and _ _) z
      · obtain ⟨h1, h2⟩ := and2 h
        have z := sw_or ((ih _ _ _ h1).2 rfl) ((ih _ _ _ h2).1 rfl)
        rw [ev]
        exact pwc (testOf_or _ _) z
      · exact pw_one ((ih _ _ _ h).2 rfl)
      · cases h
    | false =>
      refine ⟨(fun z => nomatch z), fun _ => ?_⟩
      unfold chkT at h
      split at h
      · rw [ev, testOf_not]
        exact st_not ((ih _ _ _ h).2 rfl)
      · obtain ⟨h1, h⟩ := and2 h
        obtain ⟨h2, h⟩ := and2 h
        obtain ⟨h3, h4⟩ := and2 h
        rw [ev]
        exact ptc (testOf_cmp _ _ _) (st_cmp (cmp_of O.room h1) (hE _ _ _ h3) (hE _ _ _ h4) (behind_of h2))
      · obtain ⟨h1, h⟩ := and2 h
        obtain ⟨h1', h⟩ := and2 h
        obtain ⟨h2, h⟩ := and2 h
        obtain ⟨h3, h⟩ := and2 h
        obtain ⟨h4, h5⟩ := and2 h
        rw [ev]
        refine ptc (testOf_chain _ _ _ _ _) (st_chain (cmp_of O.room h1) (cmp_of O.room h1') (calm_cmp _) (calm_cmp _) (hE _ _ _ h3) (hE _ _ _ h4) (hE _ _ _ h5) (behind_of h2))
      · exact ((ih _ _ _ h).1 rfl).pt
      · obtain ⟨h1, h2⟩ := and2 h
        exact st_val (hE _ _ _ h2) (leaf_of h1)
variable {fuel : Nat}
theorem ss_all {f : Stmt → Sm → Bool} (hf : ∀ st x, f st x = true → PS X st (RdS ca X.K nv W (exec C.P call fuel false x))) : ∀ {sts : List Stmt} {xs : List Sm}, all2 f sts xs = true → PSs X sts (RdS ca X.K nv W (execs C.P call fuel false xs))
  | [], [], _ => by rw [execs]; exact ss_nil
  | [], _ :: _, h => by cases h
  | _ :: _, [], h => by cases h
  | st :: sts, x :: xs, h => by
    obtain ⟨h1, h2⟩ := and2 h
    rw [execs]
    exact ss_cons (hf st x h1) (ss_all hf h2)
theorem asB_eq (m : M T) : (do let v ← m; asB v) = testOf m := rfl
theorem if_eq (m : M T) (a b : M (Option T)) : (do let r ← testOf m; match r with | true => a | false => b) = (do let v ← m; let r ← asB v; match r with | true => a | false => b : M (Option T)) := by
  show M.bind (M.bind m asB) _ = M.bind m fun v => M.bind (asB v) _
  rw [M.assoc]
theorem for_eq {α : Type} (m : M α) (f : α → M Wk) (k : Wk → M (Option T)) : (do let x ← m; let w ← f x; k w) = (do let w ← (do let x ← m; f x); k w : M (Option T)) := by
  show M.bind m (fun x => M.bind (f x) k) = M.bind (M.bind m f) k
  rw [M.assoc]
theorem psc {st : Stmt} {f g : M (Option T)} (e : f = g) (h : PS X st (RdS ca X.K nv W f)) : PS X st (RdS ca X.K nv W g) := by rw [← e]; exact h
theorem mod_of {x : Str} (O : XOk X ca C call W) (h : x ∈ bltNames) : X.mg x = none := O.blt x h
theorem chkS_ok (O : XOk X ca C call W) (hn : nv.n = C.N.length) (hi : nv.slf ≠ none → C.ini = true) : ∀ (n : Nat) (st : Stmt) (x : Sm), chkS C n st x = true → PS X st (RdS ca X.K nv W (exec C.P call fuel false x)) := by
  have hE := chkE_ok (nv := nv) O hn
  have hT := chkT_ok (nv := nv) O hn
  have hsc := O.hsc
  have tgt : ∀ {i : Nat} {z : Str}, okTg C i z = true → C.N[i]? = some z ∧ Loc X.env.scope z ∧ i < nv.n ∧ (nv.slf ≠ none → i ≠ 0) := fun {i z} h => by
    obtain ⟨h1, h⟩ := and2 h
    obtain ⟨h2, h⟩ := and2 h
    obtain ⟨h3, h4⟩ := and2 h
    have e1 := of_decide_eq_true h1
    refine ⟨e1, by rw [hsc]; exact loc_of h2, by rw [hn]; exact (List.getElem?_eq_some_iff.mp e1).1, fun hs hz => ?_⟩
    rw [hi hs, hz] at h4
    cases h4
  intro n
  induction n with
  | zero => intro st x h; cases h
  | succ n ih =>
    intro st x h
    unfold chkS at h
    split at h
    · obtain ⟨h1, h⟩ := and2 h
      obtain ⟨h2, h3⟩ := and2 h
      obtain ⟨g1, g2, g3, g4⟩ := tgt h1
      rw [exec]
      exact ss_set (by rw [O.hN]; exact O.nd) (by rw [O.hN]; exact g1) g2 (hE _ _ _ h3) (swaps_plain h2) (.inl (O.fn _)) g3 g4
    · obtain ⟨h2, h3⟩ := and2 h
      rw [exec]; exact ss_exp (hE _ _ _ h3) (swaps_plain h2)
    · rw [exec]; exact ss_ret (hE _ _ _ h)
    · rw [exec]; exact ss_retN
    · rw [exec]; exact ss_pass
    · rw [exec]; exact ss_doc
    · cases h
    · obtain ⟨h1, h⟩ := and2 h
      obtain ⟨h2, h3⟩ := and2 h
      rw [exec]
      exact psc (if_eq _ _ _) (ss_if ((hT _ _ _ _ h1).2 rfl) (ss_all ih h2) (ss_all ih h3))
    · obtain ⟨h1, h⟩ := and2 h
      obtain ⟨h2, h3⟩ := and2 h
      obtain ⟨g1, g2, g3, g4⟩ := tgt h1
      have hg := fun pos => pg_name (X := X) (pos := pos) (by rw [O.hN]; exact O.nd) (by rw [O.hN]; exact g1) g2 (.inl (O.fn _))
      have hto := tg_name (X := X) (ca := ca) g3 g4
      have hb := ss_all (fuel := fuel) ih h3
      unfold chkIt at h2
      split at h2
      · obtain ⟨r1, h2⟩ := and2 h2
        obtain ⟨r2, h2⟩ := and2 h2
        obtain ⟨r3, r4⟩ := and2 h2
        have er := of_decide_eq_true r1
        subst er
        have hA := sa_all (es := [_]) (xs := [_]) (hE n) (Bool.and_eq_true_iff.mpr ⟨r4, rfl⟩) (Bool.and_eq_true_iff.mpr ⟨r3, rfl⟩)
        rw [exec, evIt]
        exact psc (for_eq _ _ _) (ss_forR1 ⟨O.hp, O.calm, folded_of rfl⟩ (gl_of hsc r2) (O.blt _ (by simp [bltNames])) hA (star_of r3) (hg _) hto hb (fun s ts s' h => evs_len h))
      · obtain ⟨r1, h2⟩ := and2 h2
        obtain ⟨r2, h2⟩ := and2 h2
        obtain ⟨r3, r4⟩ := and2 h2
        obtain ⟨r5, r6⟩ := and2 r3
        obtain ⟨r7, r8⟩ := and2 r4
        have er := of_decide_eq_true r1
        subst er
        have hA := sa_all (es := [_, _]) (xs := [_, _]) (hE n) (Bool.and_eq_true_iff.mpr ⟨r7, Bool.and_eq_true_iff.mpr ⟨r8, rfl⟩⟩) (Bool.and_eq_true_iff.mpr ⟨r5, Bool.and_eq_true_iff.mpr ⟨r6, rfl⟩⟩)
        rw [exec, evIt]
        exact psc (for_eq _ _ _) (ss_forR2 ⟨O.hp, O.calm, folded_of rfl⟩ (gl_of hsc r2) (O.blt _ (by simp [bltNames])) hA (by rw [star_of r5, star_of r6, starEach]) (star_of r6) (hg _) hto hb (fun s ts s' h => evs_len h))
      · obtain ⟨r1, h2⟩ := and2 h2
        obtain ⟨r2, r3⟩ := and2 h2
        rw [exec, evIt]
        exact psc (for_eq _ _ _) (ss_for ⟨O.hp, O.calm, folded_of r1⟩ (hE _ _ _ r3) (hg _) hto (by rw [hn]; exact of_decide_eq_true r2) hb)
      · cases h2
    · obtain ⟨h1, h2⟩ := and2 h
      rw [exec]
      exact ss_while O.hp ((hT _ _ _ _ h1).2 rfl) (ss_all ih h2) fuel
    · cases h
end
end Tk
end
section
/-! Tk26: all defs of a program keep their promises. -/
namespace Tk
open PySem PySem.Spec PyProof.Rows L2
def isIni (P : Prog) (f : Str) : Bool := P.cls.any fun c => decide (c.2.lookup ("__init__" : Str) = some f)
/-- what is known of a def: where it stands, that its text is the small language's -/
structure DefOk (K : PySem.W.Frag) (mg : Str → Option Value) (P : Prog) (gls : List (Str × T)) (top : List Str) (f : Str) (F : Fn) : Prop where
  ex : ∃ (a : Addr) (fd : FuncData) (x qual : Str) (params : Arguments) (body : List Stmt) (scope : Scope) (N ps : List Str) (n : Nat), FunD K x qual params body scope [] [] a fd ∧ FnScope N ps scope ∧ ps.length = F.np ∧ F.np ≤ N.length ∧
    (top.contains f = true → mg f = some (.ref a)) ∧ Binds K fd ps [] ∧ all2 (chkS ⟨N, scope, isIni P f, P, gls, top⟩ n) body F.body = true ∧ 0 < N.length
/-- what the module gives -/
structure ModOk (K : PySem.W.Frag) (mg : Str → Option Value) (ca : Str → Addr) (P : Prog) (gls : List (Str × T)) (top : List Str) : Prop where
  hgl : ∀ x t, gls.lookup x = some t → ∃ u v, mg x = some u ∧ RelV v u ∧ immV t = some v
  blt : ∀ x ∈ bltNames, mg x = none
  fns : ∀ f F, top.contains f = true → P.fns.lookup f = some F → DefOk K mg P gls top f F
  isi : ∀ c yn, P.isi.lookup c = some yn → ∃ cv u, ClsV cv (tyv ca c) ∧ RelV cv u ∧ (mg c = some u ∨ (mg c = none ∧ (c ≠ "__name__" ∧ bootBuiltins c = some u)))
  kit : ∀ t c b, isiB P t c = some b → PySem.W.kitOne K (tyv ca t) (tyv ca c) = some b
theorem spF_len {ca : Str → Addr} {K : PySem.W.Frag} {ini : Bool} {np : Nat} {r : List T → List Cell → Res (List Cell) T} (vs : List V) (H : Hp) (Q : VK) (E : XK) (h : spF ca K ini np r vs H Q E) : vs.length = np := by
  obtain ⟨D, C, Cs, E0, _, hD, ev, _⟩ := h
  rw [ev, List.length_map, List.length_map, hD]
theorem lookup_mem {α : Type} {f : Str} {F : α} : ∀ {l : List (Str × α)}, l.lookup f = some F → True := fun _ => trivial
theorem callF_succ {P : Prog} {fuel k : Nat} {hot : Bool} {f : Str} {F : Fn} {as : List T} {C : List Cell} (hF : P.fns.lookup f = some F) (hl : as.length = F.np) (Post : Res (List Cell) T → Prop) (hs : ∀ w w', Post (.stuck w) → Post (.stuck w'))
    (h : Post (callF P fuel (k + 1) hot f as C)) : Post (match execs P (callF P fuel k) fuel hot F.body ⟨C, frame F as⟩ with
      | .ok r s => leave (isNew as) r s
      | .exc c pl s => .exc c pl s.S
      | .stuck w => .stuck w) := by
  unfold callF at h
  rw [hF] at h
  simp only at h
  have e1 : as ++ F.dfl.drop (as.length + F.dfl.length - F.np) = as := by
    rw [hl, Nat.add_sub_cancel_left, List.drop_length, List.append_nil]
  rw [e1, hl] at h
  simp only [decide_true] at h
  cases e : execs P (callF P fuel k) fuel hot F.body ⟨C, frame F as⟩ with
  | ok r s => rw [e] at h; exact h
  | exc c pl s => rw [e] at h; exact h
  | stuck w => rw [e] at h; exact hs _ _ h
/-- EVERY DEF: its promise is its run -/
theorem defs_ok {P' : Program} {w : World} {K : PySem.W.Frag} {mg : Str → Option Value} {base : Heap} {ca : Str → Addr} {P : Prog} {gls : List (Str × T)} {top : List Str} (M : ModOk K mg ca P gls top) (hini : ∀ f, top.contains f = true → isIni P f = false) (fuel : Nat) : ∀ (k : Nat) (f : Str) (F : Fn), top.contains f = true → P.fns.lookup f = some F →
    ∃ (a : Addr) (fd : FuncData) (ps : List Str), FnOk P' w K mg base (L2.CX P' w) (k + 1) a fd ps (spF ca K (isIni P f) F.np (callF P fuel k false f)) ∧ mg f = some (.ref a) ∧ PySem.W.keepIn K (.ref a) = true ∧ Binds K fd ps [] ∧ ps.length = F.np := by
  intro k
  induction k with
  | zero =>
    intro f F ht hF
    obtain ⟨a, fd, x, qual, params, body, scope, N, ps, n, FD, S, hps, hN, hm, hb, hc, h0⟩ := (M.fns f F ht hF).ex
    refine ⟨a, fd, ps, ?_, hm ht, FD.kp, hb, hps⟩
    refine FD.ok S (fun vs H Q E h => (spF_len vs H Q E h).trans hps.symm) fun cdv A outer s H vs Q E hr h => ?_
    obtain ⟨D, C, Cs, E0, hI, hD, ev, c, q⟩ := h
    exact q.elim
  | succ k ih =>
    intro f F ht hF
    obtain ⟨a, fd, x, qual, params, body, scope, N, ps, n, FD, S, hps, hN, hm, hb, hc, h0⟩ := (M.fns f F ht hF).ex
    refine ⟨a, fd, ps, ?_, hm ht, FD.kp, hb, hps⟩
    refine FD.ok S (fun vs H Q E h => (spF_len vs H Q E h).trans hps.symm) fun cdv A outer s H vs Q E hr h => ?_
    obtain ⟨D, C, Cs, E0, hI, hD, ev, c, q⟩ := h
    have tk : L2.Takes (cxOf (L2.CX P' w) P' w K mg base N qual scope a cdv A outer s H E) (fun cls d _ H' => E cls d H') := L2.takes_of rfl rfl rfl (E₁ := _) rfl
    have O : XOk (cxOf (L2.CX P' w) P' w K mg base N qual scope a cdv A outer s H E) ca ⟨N, scope, isIni P f, P, gls, top⟩ (callF P fuel k) (fun cls d _ H' => E cls d H') := by
      refine ⟨rfl, S.nd, rfl, fun _ => rfl, rfl, L2.passes_of (E₁ := _) rfl, tk, ?_, M.hgl, M.blt, fun g G hg hG => ?_, M.isi, M.kit⟩
      · have z := hr.un
        show (A.deeper (envOfC qual scope s.heap.objs.size a cdv)).units + 200 < cLine
        omega
      · obtain ⟨a', fd', ps', F', m', kp', b', _⟩ := ih g G hg hG
        rw [hini g hg] at F'
        exact ⟨k + 1, a', fd', ps', F', hr, m', kp', b'⟩
    have q2 := callF_succ (fuel := fuel) (k := k) (hot := false) hF (by rw [List.length_map]; exact hD) (fun r => CPost ca K (isNew (D.map (·.1))) vs.head? Q E C Cs E0 r) (fun _ _ z => z) q
    rw [ev] at q2
    have R := body_post (N := N) (F := F) (n := N.length) (W := fun cls d _ H' => E cls d H') c hD (Nat.le_refl _) hN (fun _ _ _ _ z => z) (fun _ => h0) q2
    rw [← ev, hI] at R
    refine ⟨_, ss_all (nv := ⟨N.length, if isIni P f = true then vs.head? else none⟩) (fun st x hx => chkS_ok (fuel := fuel) O rfl (fun z => ?_) n st x hx) hc, R⟩
    show isIni P f = true
    cases hi : isIni P f with
    | true => rfl
    | false => rw [hi] at z; exact absurd rfl z
end Tk
end
section
/-! Tk27: the law's call; statements where a token is out. -/
namespace Tk
open PySem PySem.Spec PyProof.Rows L2
/-! ### the law's call -/
theorem rps_script {ca : Str → Addr} {K : PySem.W.Frag} {H : Hp} {po : Po} : ∀ ns : List Int, Rps ca K H po (ns.map T.int) (ns.map fun i => AT.lf (V.int i))
  | [] => by simp [Rps]
  | n :: ns => by simp only [List.map_cons, Rps]; exact ⟨by simp [Rp], rps_script ns⟩
theorem cnts_script {b : Addr} : ∀ ns : List Int, cnts b (ns.map fun i => AT.lf (V.int i)) = 0
  | [] => rfl
  | n :: ns => by simp only [List.map_cons, cnts, cnt, cnts_script ns]
theorem flat_script : ∀ ns : List Int, noMut.noMuts (ns.map T.int) = true
  | [] => rfl
  | n :: ns => by simp only [List.map_cons, noMut.noMuts, noMut, Bool.true_and]; exact flat_script ns
theorem below_script {m : Nat} : ∀ ns : List Int, below.belows m (ns.map T.int) = true
  | [] => rfl
  | n :: ns => by simp only [List.map_cons, Tk.below.belows, below, Bool.true_and]; exact below_script ns
theorem law_sp {ca : Str → Addr} {K : PySem.W.Frag} {P : Prog} {fuel k : Nat} (ns : List Int) (h : callF P fuel k false "law" [.nd (.lst true) (ns.map T.int)] [] = .ok (.bl true) []) (H : Hp) (a : Addr) (hO : Only H) (hS : SqL K H a (ns.map V.int)) :
    spF ca K false 1 (callF P fuel k false "law") [.ref a] H (fun v _ => v = .bl true) (fun _ _ _ => False) := by
  refine ⟨[(.nd (.lst true) (ns.map T.int), .nd false a (ns.map fun i => AT.lf (V.int i)))], [], [], [], rfl, rfl, rfl, ⟨⟨by simp [Rps], fun q hq => ?_, fun b => ?_⟩, (fun x hx => by cases hx), fun q hq => ?_⟩, ?_⟩
  · have e : q = _ := List.mem_singleton.mp hq
    subst e
    unfold Rp
    refine ⟨rfl, ?_, fun _ => flat_script ns, rps_script ns⟩
    have ev : (ns.map fun i => AT.lf (V.int i)).map AT.val = ns.map V.int := by rw [List.map_map]; rfl
    rw [ev]
    rcases hS with z | z
    · rcases z with z | ⟨o, z⟩
      · rcases hO a with y | ⟨o, xs, y⟩
        · rw [y] at z; cases z
        · rw [y] at z; cases z
      · exact .inl ⟨o, z⟩
    · exact .inr z
  · show cnts b [] + cnts b [.nd false a (ns.map fun i => AT.lf (V.int i))] ≤ 1
    simp only [cnts, cnt, cnts_script]
    simp
  · have e : q = _ := List.mem_singleton.mp hq
    subst e
    unfold below
    exact below_script ns
  · show CPost ca K (isNew _) _ _ _ [] [] [] (callF P fuel k false "law" [.nd (.lst true) (ns.map T.int)] [])
    rw [h]
    intro H' Cs' A c k' _
    have e : A = .lf (.bl true) := rp_bl (c.sim.es (.bl true, A) List.mem_cons_self)
    subst e
    rfl
/-! ### a token is out -/
section
variable {X : Cx} {ca : Str → Addr} {K : PySem.W.Frag} {nv : Fr} {σ : L2.St} {H : Hp} {s : Tk.St} {As Fs : List AT} {E : List (T × AT)} {W : WX} {e tg iter : Expr} {fs ft2 : M (Option T)} {pos : Pos} {st : Stmt} {sts : List Stmt}
theorem sst_cons (h1 : PST X st (RdS ca X.K nv W fs)) (h2 : PSsT X sts (RdS ca X.K nv W ft2)) : PSsT X (st :: sts) (RdS ca X.K nv W (do
    match ← fs with
    | none => ft2
    | some v => pure (some v))) := by
  intro pins st σ H D h0 I ⟨s, As, Fs, E, R, q⟩
  refine psst_cons h1 h2 pins st σ H D h0 I ?_
  have q' : SPost ca X.K nv W D s As E (M.bind fs (fun r => match r with | none => ft2 | some v => pure (some v)) s) := q
  unfold M.bind at q'
  refine ⟨s, As, Fs, E, R, ?_⟩
  cases e : fs s with
  | ok r s' =>
    rw [e] at q'
    cases r with
    | none => exact fun σ' H' As' Fs' R' k' => ⟨s', As', Fs', E, R', SPost.step q' k'⟩
    | some v => exact q'
  | exc c pl s' => rw [e] at q'; exact q'
  | stuck w => rw [e] at q'; exact q'
/-- a loop whose body leans on the token -/
theorem pst_forT {body : List Stmt} {wi : TI} {g : TG} {tb : TS} (hp : PassesOwn (model X.prog X.w) X.A X.env X.xe) (hc : X.calm = true) (hi : PI X tg iter wi) (hg : PG X tg g) (hb : PSsT X body tb)
    (hs : ∀ x, foldedSetIterable iter X.env x = pure x) : PST X (.For tg iter body [] pos) (tFor wi g tb) := by
  intro pins s σ H D h0 I h
  refine wpAny_For (wpAny_mono (PySem.wpAny_toks (hi.run pins s σ H _ I h)) (fun v s1 h1 => wpAny_mono (PySem.wpAny_toks h1.2) (fun itv s2 h2 => ?_) fun _ _ z => z.2) fun _ _ z => z.2) hs
  have t2 : 1 ≤ s2.toks := Nat.le_trans h0 (Nat.le_trans h1.1 h2.1)
  obtain ⟨it, fp, tn, J, H2, e, I2, T, st2, f2, Wn, ⟨m0, w0⟩, turn⟩ := h2.2
  subst e
  have stat : ∀ {H' : Hp}, (∀ b ∈ fp, H' b = none) → ∀ b ∈ fp, FpOk X pins H' b := fun hn b hb => ⟨hn b hb, (f2 b hb).2⟩
  refine codeAny_forLoop_any (fun n s' => 1 ≤ s'.toks ∧ ∃ i σ' H', Inv X pins σ' H' s' ∧ tn i s'.heap ∧ (∀ b ∈ fp, H' b = none) ∧ Wn i n σ' H') ?_ m0 ⟨t2, 0, σ, H2, I2, st2, fun b hb => (f2 b hb).1, w0⟩
  rintro n s3 ⟨t3, i, σ3, H3, I3, st3, fr3, w3⟩
  rcases turn i n σ3 H3 w3 with ⟨stop, qn⟩ | ⟨go, N, hN, step⟩
  · refine wpAny_passesOwn hp (thn (T.done X rfl rfl rfl hc i pins s3 σ3 H3 X.xe I3 (stat fr3) st3 stop) fun r s4 ⟨hr, I4⟩ => ?_)
    subst hr
    exact wpAny_execs_nil ⟨σ3, H3, I4, qn⟩
  · refine wpAny_passesOwn hp (wpAny_mono (PySem.wpAny_toks (T.item X rfl rfl rfl hc i pins s3 σ3 H3 X.xe I3 (stat fr3) st3 go)) (fun r s4 h4 => ?_) fun _ _ z => z.2)
    obtain ⟨k4, u, hr, h4⟩ := h4
    subst hr
    refine wpAny_passesOwn hp (wpAny_mono (PySem.wpAny_toks h4) (fun _ s5 h5 => ?_) fun _ _ z => z.2)
    obtain ⟨k5, x, H5, I5, r5, y5, st5, fr5⟩ := h5
    have I5' := I5.pinned (stat fr5) (T.obj _ _ st5)
    refine wpAny_passesOwn hp (wpAny_mono (PySem.wpAny_toks (hg.run _ s5 σ3 H5 x u _ I5' r5 (step x H5 y5))) (fun _ s6 h6 => ?_) fun _ _ z => z.2)
    obtain ⟨k6, σ6, H6, I6, q6⟩ := h6
    have t6 : 1 ≤ s6.toks := Nat.le_trans t3 (Nat.le_trans k4 (Nat.le_trans k5 k6))
    refine wpAny_passesOwn hp (wpAny_mono (PySem.wpAny_toks (hb _ s6 σ6 H6 _ t6 I6 q6)) (fun f s7 h7 => ?_) fun _ _ z => z.2)
    obtain ⟨k7, q7⟩ := h7
    have t7 : 1 ≤ s7.toks := Nat.le_trans t6 k7
    have again : ∀ {σ7 : L2.St} {H7 : Hp}, Inv X (pins ++ pinsAt fp s5.heap) σ7 H7 s7 → N σ7 H7 → ∃ m, m < n ∧ (1 ≤ s7.toks ∧ ∃ i σ' H', Inv X pins σ' H' s7 ∧ tn i s7.heap ∧ (∀ b ∈ fp, H' b = none) ∧ Wn i m σ' H') := fun {σ7 H7} I7 n7 => by
      obtain ⟨m', hm, w7⟩ := hN σ7 H7 n7
      have at7 : ∀ b ∈ fp, ∀ o, s5.heap.get? b = some o → s7.heap.get? b = some o ∧ H7 b = none := fun b hb o e => by
        have z := I7.pin (b, o) (List.mem_append_right _ (List.mem_append_right _ (mem_pinsAt hb e)))
        exact ⟨z.1, z.2.1⟩
      refine ⟨m', hm, t7, i + 1, σ7, H7, I7.unpinned, T.keep _ _ _ st5 fun b hb o e => (at7 b hb o e).1, fun b hb => ?_, w7⟩
      obtain ⟨o, e, d⟩ := T.obj _ _ st5 b hb
      exact (at7 b hb o e).2
    cases f with
    | next => obtain ⟨σ7, H7, I7, n7⟩ := q7; exact again I7 n7
    | cont => obtain ⟨σ7, H7, I7, n7⟩ := q7; exact again I7 n7
    | brk => obtain ⟨σ7, H7, I7, q7⟩ := q7; exact ⟨σ7, H7, I7.unpinned, q7⟩
    | ret v => obtain ⟨x7, σ7, H7, I7, r7, q7⟩ := q7; exact ⟨x7, σ7, H7, I7.unpinned, r7, q7⟩
/-- o.m(e) where e wants a token -/
theorem pet_bm1 {o e : Expr} {to te : TE} {T id : String} {name : PySem.Str} {r : V → List V → Hp → VK → Prop} {apos cpos : Pos} (pa : PlainAttrs T) (slot : Slot T name id) (hty : typeOf (.builtin id) = pure (.type "method_descriptor")) (hm : MtR X id r) (ho : PE X o to) (he : PET X e te)
    (M : MSide X o name apos cpos e []) : PET X (.Call (.Attribute o name apos) [e] [] cpos) (tBM X.K T r to (tCons te tNil)) := by
  intro pins s σ H Q h0 I h
  refine wpAny_Call_method_late M.hbase M.hfew M.hline rfl (wpAny_mono (PySem.wpAny_toks (ho.run pins s σ H _ I h)) (fun v s1 q => ?_) fun _ _ z => z.2)
  obtain ⟨hk, x, H1, I1, r1, ty, q1⟩ := q
  obtain ⟨h1, h2⟩ := tyV_is I1 r1 ty
  refine ⟨T, id, pa, slot, hty, h1, h2, ?_⟩
  have hA := pat_cons he pat_nil M.hs cpos pins s1 σ H1 _ (Nat.le_trans h0 hk) I1 q1
  rw [M.hs] at hA ⊢
  refine Calls.callWith_builtin (by show (false || (backTo cpos (starEach [] X.env)).any (·.1)) = false; rw [M.hplain] <;> rfl) (Calls.evalArgs_plain ?_)
  exact thn hA fun us s2 ⟨vs, H2, I2, r2, q2⟩ => hm pins s2 σ H2 x vs v us Q I2 r1 r2 q2
theorem pst_expr {e : Expr} {te : TE} (he : PET X e te) (hs : swapsWith e none pos.line X.env = pure false) : PST X (.Expr e pos) (tDrop te) := by
  intro pins s σ H D h0 I h
  exact wpAny_Expr_any (thn (he pins s σ H _ h0 I h) fun v s1 ⟨x, H1, I1, r1, q1⟩ => ⟨σ, H1, I1, q1⟩) I.quiet hs
/-- e.replace(y, z) of written texts -/
theorem set_repl {o : Expr} {fo : M T} {y z : PySem.Str} {j k : Nat} {c0 c1 apos p : Pos} (ho : PE X o (RdE ca X.K nv W fo)) (hyz : (y == z) = false) (hbase : attributeBase o "replace" X.env (eval o X.env) = eval o X.env) (hline : (apos.endLine == p.line) = true) :
    PET X (.Call (.Attribute o "replace" apos) [.Constant (.str y) j c0, .Constant (.str z) k c1] [] p) (RdE ca X.K nv W (do
      let x ← fo
      let _ ← recv .replace x
      bmop .replace x [.str y, .str z])) := by
  intro pins st σ H Q h0 I ⟨s, As, Fs, E, R, q⟩
  refine CwR.pet_replC ho hyz rfl hbase hline pins st σ H Q h0 I ?_
  unfold CwR.tReplC
  refine rd_one R q fun x s2 H2 As2 Fs2 A1 R2 k2 h2 => ?_
  cases x with
  | str x =>
    have e1 := rp_str R2.head
    subst e1
    obtain ⟨c, h3⟩ := Post.need (show VPost ca X.K nv W σ s As Fs E Q ((need "replace" (!(y == z) && decide (x.length + (x.length + 1) * z.length ≤ 16777216)) >>= fun _ => pure (.str (PySem.Txt.replace x y z))) s2) from h2)
    exact ⟨x, rfl, of_decide_eq_true (and2 c).2, Post.val h3 (R2.drop.str _) k2⟩
  | _ => exact h2.elim
/-- rows.append(e) -/
theorem sst_append {o e : Expr} {fo fe : M T} {apos cpos : Pos} (ho : PE X o (RdE ca X.K nv W fo)) (he : PET X e (RdE ca X.K nv W fe)) (Ms : MSide X o "append" apos cpos e []) :
    PST X (.Expr (.Call (.Attribute o "append" apos) [e] [] cpos) pos) (RdS ca X.K nv W (do
      let _ ← (do
        let x ← fo
        let _ ← recv .append x
        let as ← (do let t ← fe; let ts ← (pure [] : M (List T)); pure (t :: ts))
        bmop .append x as)
      pure none)) := by
  obtain ⟨r, hm, h1, h2⟩ := bm_append (X := X) (ca := ca)
  have hE := pet_bm1 PySem.F.plainAttrs_list PySem.F.slot_list_append PySem.F.type_list_append hm ho he Ms
  intro pins st σ H D h0 I ⟨s, As, Fs, E, R, q⟩
  refine pst_expr hE rfl pins st σ H D h0 I ?_
  unfold tDrop
  -- as a value's run whose end is the statement's
  have q' : VPost ca X.K nv W σ s As Fs E (fun _ H1 => D.nx σ H1) ((do
        let x ← fo
        let _ ← recv .append x
        let as ← (do let t ← fe; let ts ← (pure [] : M (List T)); pure (t :: ts))
        bmop .append x as : M T) s) := by
    have q0 : SPost ca X.K nv W D s As E (M.bind (do
        let x ← fo
        let _ ← recv .append x
        let as ← (do let t ← fe; let ts ← (pure [] : M (List T)); pure (t :: ts))
        bmop .append x as : M T) (fun _ => (pure none : M (Option T))) s) := q
    unfold M.bind at q0
    cases ez : (do
        let x ← fo
        let _ ← recv .append x
        let as ← (do let t ← fe; let ts ← (pure [] : M (List T)); pure (t :: ts))
        bmop .append x as : M T) s with
    | ok v s' =>
      rw [ez] at q0
      intro H1 As1 Fs1 Ds hl R1 k1 A hA
      subst hA
      exact q0 σ H1 As1 Fs1 (Rel.drop (q := (v, A)) R1) k1
    | exc c pl s' => rw [ez] at q0; exact fun H1 As1 Fs1 R1 k1 => q0 σ H1 As1 Fs1 R1 k1
    | stuck w => rw [ez] at q0; exact q0
  have z := bm_run (fas := (do let t ← fe; let ts ← (pure [] : M (List T)); pure (t :: ts))) (W := W) h1 h2 R (fun x s' _ hh => recv_lst rfl x s' hh) q'
  obtain ⟨s1, As1, Fs1, E1, R1, z1⟩ := z
  refine ⟨s1, As1, Fs1, E1, R1, ?_⟩
  cases ef : fo s1 with
  | ok x s2 =>
    rw [ef] at z1
    intro H2 As2 Fs2 Ds hl R2 k2 A hA
    obtain ⟨ty, s3, As3, Fs3, E3, R3, z3⟩ := z1 H2 As2 Fs2 Ds hl R2 k2 A hA
    refine ⟨ty, ?_⟩
    show RdE ca X.K nv W fe σ H2 fun y H3 => r A.val [y] H3 fun _ H1 => D.nx σ H1
    refine rd_one (D := id) (Φ := fun _ Ds H' _ _ _ => r A.val (Ds.map AT.val) H' fun _ H1 => D.nx σ H1) (k := fun t => (pure [t] : M (List T))) R3 z3 fun y s4 H4 As4 Fs4 A4 R4 k4 h4 => ?_
    exact h4 H4 As4 Fs4 [A4] rfl R4 k4
  | exc c pl s2 => rw [ef] at z1; exact z1
  | stuck w => rw [ef] at z1; exact z1
end
end Tk
end
section
/-! Tk28: a def whose statements lean on a token (str.replace). -/
namespace Tk
open PySem PySem.Spec PyProof.Rows L2
def chkU (C : Ct) : Nat → Stmt → Sm → Bool
  | 0, _, _ => false
  | n + 1, st, x => match x, st with
    | .exp (.bm .append x [.bm .replace y [.cst (.str u), .cst (.str v)]]), .Expr (.Call (.Attribute o g ap) [.Call (.Attribute o2 g2 ap2) [.Constant (.str u') _ _, .Constant (.str v') _ _] [] p2] [] cp) _ =>
      decide (g = "append") && (decide (g2 = "replace") && (decide (u = u') && (decide (v = v') && (!(u == v) && (baseB o && (baseB o2 && ((ap.endLine == cp.line) && ((ap2.endLine == p2.line) && (chkE C n o x && chkE C n o2 y)))))))))
    | .for_ [i] h (.ex x) xs, .For (.Name z _) e a [] _ => okTg C i z && ((notSetB e && (decide (C.N.length ≤ h) && chkE C n e x)) && all2 (chkU C n) a xs)
    | x, st => chkS C n st x
section
variable {X : Cx} {ca : Str → Addr} {C : Ct} {call : Cl} {W : WX} {nv : Fr} {fuel : Nat}
theorem sst_all {f : Stmt → Sm → Bool} (hf : ∀ st x, f st x = true → PST X st (RdS ca X.K nv W (exec C.P call fuel false x))) : ∀ {sts : List Stmt} {xs : List Sm}, all2 f sts xs = true → PSsT X sts (RdS ca X.K nv W (execs C.P call fuel false xs))
  | [], [], _ => by rw [execs]; exact PSsT.of ss_nil
  | [], _ :: _, h => by cases h
  | _ :: _, [], h => by cases h
  | st :: sts, x :: xs, h => by
    obtain ⟨h1, h2⟩ := and2 h
    rw [execs]
    exact sst_cons (hf st x h1) (sst_all hf h2)
theorem pstc {st : Stmt} {f g : M (Option T)} (e : f = g) (h : PST X st (RdS ca X.K nv W f)) : PST X st (RdS ca X.K nv W g) := by rw [← e]; exact h
theorem sst_for {e tg : Expr} {sts : List Stmt} {fa : M T} {fs : M (Option T)} {pos : Pos} {h : Nat} {g : TG} {stg : T → M Unit} (F : ForSide X e) (he : PE X e (RdE ca X.K nv W fa)) (hgt : PG X tg g) (tgo : TgOk X ca nv g stg) (hh : nv.n ≤ h) (hb : PSsT X sts (RdS ca X.K nv W fs)) :
    PST X (.For tg e sts [] pos) (RdS ca X.K nv W (do
      let x ← fa
      let w ← startWk h false false x
      runWk w fun v => do
        let _ ← stg v
        fs)) := by
  intro pins st σ H D h0 I ⟨s, As, Fs, E, R, q⟩
  exact for_pick he tgo hh R q fun wi hi hw => pst_forT F.hp F.hc hi hgt hb F.hs pins st σ H D h0 I hw
theorem repl_args {y : Ex} {u v : Str} : ev C.P call false (.bm .replace y [.cst (.str u), .cst (.str v)]) = (do
      let x ← ev C.P call false y
      let _ ← recv .replace x
      bmop .replace x [.str u, .str v]) := by
  rw [ev]
  have : evs C.P call false [.cst (.str u), .cst (.str v)] = (pure [.str u, .str v] : M (List T)) := by
    rw [evs, evs, evs, ev, ev]
    rfl
  rw [this]
  rfl
theorem chkU_ok (O : XOk X ca C call W) (hn : nv.n = C.N.length) (hi : nv.slf ≠ none → C.ini = true) : ∀ (n : Nat) (st : Stmt) (x : Sm), chkU C n st x = true → PST X st (RdS ca X.K nv W (exec C.P call fuel false x)) := by
  have hE := chkE_ok (nv := nv) O hn
  have hS := chkS_ok (nv := nv) (fuel := fuel) O hn hi
  have hsc := O.hsc
  have tgt : ∀ {i : Nat} {z : Str}, okTg C i z = true → C.N[i]? = some z ∧ Loc X.env.scope z ∧ i < nv.n ∧ (nv.slf ≠ none → i ≠ 0) := fun {i z} h => by
    obtain ⟨h1, h⟩ := and2 h
    obtain ⟨h2, h⟩ := and2 h
    obtain ⟨h3, h4⟩ := and2 h
    have e1 := of_decide_eq_true h1
    refine ⟨e1, by rw [hsc]; exact loc_of h2, by rw [hn]; exact (List.getElem?_eq_some_iff.mp e1).1, fun hs hz => ?_⟩
    rw [hi hs, hz] at h4
    cases h4
  intro n
  induction n with
  | zero => intro st x h; cases h
  | succ n ih =>
    intro st x h
    unfold chkU at h
    split at h
    · obtain ⟨g1, h⟩ := and2 h
      obtain ⟨g2, h⟩ := and2 h
      obtain ⟨g3, h⟩ := and2 h
      obtain ⟨g4, h⟩ := and2 h
      obtain ⟨g5, h⟩ := and2 h
      obtain ⟨g6, h⟩ := and2 h
      obtain ⟨g7, h⟩ := and2 h
      obtain ⟨g8, h⟩ := and2 h
      obtain ⟨g9, h⟩ := and2 h
      obtain ⟨g10, g11⟩ := and2 h
      have e1 := of_decide_eq_true g1
      have e2 := of_decide_eq_true g2
      have e3 := of_decide_eq_true g3
      have e4 := of_decide_eq_true g4
      subst e1 e2 e3 e4
      rw [exec, ev]
      have ea : ∀ z : Ex, evs C.P call false [z] = (do let t ← ev C.P call false z; let ts ← (pure [] : M (List T)); pure (t :: ts)) := fun z => by rw [evs, evs]
      rw [ea, repl_args]
      exact sst_append (hE _ _ _ g10) (set_repl (hE _ _ _ g11) (by simpa using g5) (base_of g7) g9) ⟨base_of g6, few_of (by rfl) (by show 1 < 29; omega), g8, rfl, rfl⟩
    · obtain ⟨h1, h⟩ := and2 h
      obtain ⟨h2, h3⟩ := and2 h
      obtain ⟨r1, h2⟩ := and2 h2
      obtain ⟨r2, r3⟩ := and2 h2
      obtain ⟨g1, g2, g3, g4⟩ := tgt h1
      rw [exec, evIt]
      exact pstc (for_eq _ _ _) (sst_for ⟨O.hp, O.calm, folded_of r1⟩ (hE _ _ _ r3) (pg_name (by rw [O.hN]; exact O.nd) (by rw [O.hN]; exact g1) g2 (.inl (O.fn _))) (tg_name g3 g4) (by rw [hn]; exact of_decide_eq_true r2) (sst_all ih h3))
    · exact PST.of (hS _ _ _ h)
end
/-- the law's def, where a token is wanted -/
theorem law_okT {P' : Program} {w : World} {K : PySem.W.Frag} {mg : Str → Option Value} {base : Heap} {ca : Str → Addr} {P : Prog} {gls : List (Str × T)} {top : List Str} (M : ModOk K mg ca P gls top) (hini : ∀ f, top.contains f = true → isIni P f = false) (fuel k : Nat)
    {f : Str} {F : Fn} (hF : P.fns.lookup f = some F) {a : Addr} {fd : FuncData} {x qual : Str} {params : Arguments} {body : List Stmt} {scope : Scope} {N ps : List Str} {n : Nat} (FD : FunD K x qual params body scope [] [] a fd) (S : FnScope N ps scope) (hps : ps.length = F.np) (h1 : 1 ≤ ps.length) (hN : F.np ≤ N.length) (h0 : 0 < N.length) (hnc : ∀ y ∈ scope.names, y.2 ≠ .cell)
    (hc : all2 (chkU ⟨N, scope, false, P, gls, top⟩ n) body F.body = true) : FnOk P' w K mg base (L2.CX P' w) (k + 2) a fd ps (spF ca K false F.np (callF P fuel (k + 1) false f)) := by
  obtain ⟨oc, od, dV, kV, doc, pm, an, cdv, ct, osl, rfl, lk, hcd, _, _⟩ := FD.ex
  refine fn_ofT lk hcd S hnc h1 (fun vs H Q E h => (spF_len vs H Q E h).trans hps.symm) fun A outer s H vs Q E hr h => ?_
  obtain ⟨D, C, Cs, E0, hI, hD, ev, c, q⟩ := h
  have tk : L2.Takes (cxOf (L2.CX P' w) P' w K mg base N qual scope a cdv A outer s H E) (fun cls d _ H' => E cls d H') := L2.takes_of rfl rfl rfl (E₁ := _) rfl
  have O : XOk (cxOf (L2.CX P' w) P' w K mg base N qual scope a cdv A outer s H E) ca ⟨N, scope, false, P, gls, top⟩ (callF P fuel k) (fun cls d _ H' => E cls d H') := by
    refine ⟨rfl, S.nd, rfl, fun _ => rfl, rfl, L2.passes_of (E₁ := _) rfl, tk, ?_, M.hgl, M.blt, fun g G hg hG => ?_, M.isi, M.kit⟩
    · have z := hr.un
      show (A.deeper (envOfC qual scope s.heap.objs.size a cdv)).units + 200 < cLine
      omega
    · obtain ⟨a', fd', ps', F', m', kp', b', _⟩ := defs_ok (P' := P') (w := w) (base := base) M hini fuel k g G hg hG
      rw [hini g hg] at F'
      exact ⟨k + 1, a', fd', ps', F', hr, m', kp', b'⟩
  have q2 := callF_succ (fuel := fuel) (k := k) (hot := false) hF (by rw [List.length_map]; exact hD) (fun r => CPost ca K (isNew (D.map (·.1))) vs.head? Q E C Cs E0 r) (fun _ _ z => z) q
  rw [ev] at q2
  have R := body_post (N := N) (F := F) (n := N.length) (W := fun cls d _ H' => E cls d H') c hD (Nat.le_refl _) hN (fun _ _ _ _ z => z) (fun _ => h0) q2
  rw [← ev, hI] at R
  exact ⟨_, sst_all (nv := ⟨N.length, none⟩) (fun st x hx => chkU_ok (fuel := fuel) O rfl (fun z => absurd rfl z) n st x hx) hc, R⟩
end Tk
end
section
/-! Tk29: what the head gives. -/
namespace Tk
open PySem PySem.Spec PyProof.Rows L2
/-! ### isinstance among the built-in types -/
def nmS (t : Str) : String := if t = "NoneType" then "NoneType" else if t = "bool" then "bool" else if t = "int" then "int" else if t = "str" then "str" else if t = "tuple" then "tuple" else if t = "list" then "list" else "dict"
theorem tyv_nm {ca : Str → Addr} {t : Str} (h : btys.contains t = true) : tyv ca t = .type (nmS t) := by
  have hm : t ∈ btys := List.contains_iff_mem.mp h
  unfold tyv nmS
  split
  · rfl
  split
  · rfl
  split
  · rfl
  split
  · rfl
  split
  · rfl
  split
  · rfl
  rename_i h1 h2 h3 h4 h5 h6
  simp [btys, h1, h2, h3, h4, h5, h6] at hm
  rw [if_pos hm]
def kitTab (l : List (Str × List Str × List Str)) : Bool := l.all fun r => btys.contains r.1 && ((r.2.1.all fun t => btys.contains t && decide (kitB (nmS t) (nmS r.1) = some true)) && (r.2.2.all fun t => btys.contains t && decide (kitB (nmS t) (nmS r.1) = some false)))
theorem lookup_mem' {α : Type} {f : Str} {F : α} : ∀ {l : List (Str × α)}, l.lookup f = some F → (f, F) ∈ l
  | [], h => by cases h
  | (g, G) :: l, h => by
    rw [List.lookup_cons] at h
    cases e : f == g with
    | true =>
      rw [e] at h
      cases h
      have : f = g := by simpa using e
      rw [this]; exact List.mem_cons_self
    | false => rw [e] at h; exact List.mem_cons_of_mem _ (lookup_mem' h)
theorem kit_tab {K : PySem.W.Frag} {ca : Str → Addr} {P : Prog} (h : kitTab P.isi = true) (t c : Str) (b : Bool) (e : isiB P t c = some b) : PySem.W.kitOne K (tyv ca t) (tyv ca c) = some b := by
  unfold isiB at e
  cases hl : P.isi.lookup c with
  | none => rw [hl] at e; cases e
  | some yn =>
    rw [hl] at e
    have hm := List.all_eq_true.mp h _ (lookup_mem' hl)
    obtain ⟨h1, h2⟩ := and2 hm
    obtain ⟨h2, h3⟩ := and2 h2
    simp only at e
    split at e
    · rename_i hy
      cases e
      obtain ⟨g1, g2⟩ := and2 (List.all_eq_true.mp h2 t (List.contains_iff_mem.mp hy))
      rw [tyv_nm g1, tyv_nm h1]
      exact kit_ty (of_decide_eq_true g2)
    · split at e
      · rename_i hy
        cases e
        obtain ⟨g1, g2⟩ := and2 (List.all_eq_true.mp h3 t (List.contains_iff_mem.mp hy))
        rw [tyv_nm g1, tyv_nm h1]
        exact kit_ty (of_decide_eq_true g2)
      · cases e
theorem isi_tab {mg : Str → Option Value} {ca : Str → Addr} {l : List (Str × List Str × List Str)} (h : l.all (fun r => btys.contains r.1 && decide (bootBuiltins r.1 = some (.type (nmS r.1)))) = true) (hm : ∀ r ∈ l, mg r.1 = none) (hn : ∀ r ∈ l, r.1 ≠ "__name__") (c : Str) (yn : List Str × List Str) (e : l.lookup c = some yn) :
    ∃ cv u, ClsV cv (tyv ca c) ∧ RelV cv u ∧ (mg c = some u ∨ (mg c = none ∧ (c ≠ "__name__" ∧ bootBuiltins c = some u))) := by
  have hmem := lookup_mem' e
  obtain ⟨g1, g2⟩ := and2 (List.all_eq_true.mp h _ hmem)
  refine ⟨.ty (nmS c), .type (nmS c), ?_, rfl, .inr ⟨hm _ hmem, hn _ hmem, of_decide_eq_true g2⟩⟩
  rw [tyv_nm g1]
  exact .ty _
/-- the law's end, with what a call may let out -/
theorem walk_end {l : PySem.W.OpenLaw} {n k : Nat} {q : Program} {loose : List PySem.Str} {XP : (PySem.Str → Option Value) → Heap → Prop} {YP : World → Heap → Prop} {d : DefRec} {x : PySem.Str}
    (hn : l.most = some n) (hn2 : n ≤ sizeLine) (hdf : d.params.defaults = []) (hr : Room k callerA)
    (F : ∀ (w : World) (mg : PySem.Str → Option Value) (fa : Addr) (h : Heap), YP w h → h.Ns mainGlobals mg → mg d.name = some (.ref fa) →
      ∃ (K : PySem.W.Frag) (fd : FuncData) (sp : Sp), K.In h ∧ (∀ (s : Shared) (u : Value), BindsTo s fd ⟨[u], []⟩ [(x, u)]) ∧
        (∀ (H : Hp) (a : Addr) (ns : List Int), ns.length ≤ n → Only H → SqL K H a (ns.map V.int) → sp [.ref a] H (fun v _ => v = .bl true) fun _ _ _ => False) ∧
        ∀ base : Heap, K.In base → base.Ns mainGlobals mg → FnOk l.prog w K mg base (L2.CX l.prog w) k fa fd [x] sp) :
    PySem.W.WalkO q loose XP YP l.row.toRowW d [] (fun f vs => PySem.call f vs) := by
  refine Att.attach_call hn hdf fun w s₀ s₁ mg mb fa o pm cd doc a vs ns G Y ho hd hcd hmg hobj hints hlen hg => ?_
  obtain ⟨K, fd, sp, KX, hb, hsp, hF⟩ := F w mg fa _ Y G.T.g hmg
  refine law_call KX G.T.g G.T.b G.T.builtins G.T.nolimit hg hobj hints (Nat.le_trans hlen hn2) hr hF hb (fun H hO hS => hsp H a ns hlen hO hS) fun H e s' hc => ?_
  obtain ⟨_, _, _, _, _, _, _, _, _, _, _, _, z⟩ := hc
  exact z
end Tk
end
section
set_option maxHeartbeats 0

open PySem L2 Tk
namespace Pk
def d_rows_of : Fn := ⟨1, 1, [], [
  .ite (.cmp .eq (.var 0) (.cst (.str ""))) [.ret (.lst [])] [],
  .ret (.bm .split (.var 0) [.cst (.str "\n")])]⟩
def d_text_of : Fn := ⟨1, 1, [], [
  .ret (.bm .join (.cst (.str "\n")) [.mvv 0])]⟩
def d__law_text : Fn := ⟨1, 5, [], [
  .set 1 (.cst (.str "")),
  .set 2 (.bin .fdiv (.var 0) (.cst (.int 13))),
  .for_ [3] 4 (.rng [.bin .mod (.var 0) (.cst (.int 13))]) [.set 1 (.bin .add (.var 1) (.ix (.cst (.str "\nab \n07-?[<=A)")) (.bin .mod (.var 2) (.cst (.int 14))))), .set 2 (.bin .fdiv (.var 2) (.cst (.int 14)))],
  .ret (.mvv 1)]⟩
def d__law_cut : Fn := ⟨1, 5, [], [
  .set 1 (.lst []),
  .set 2 (.cst (.str "")),
  .for_ [3] 4 (.ex (.var 0)) [.ite (.cmp .eq (.var 3) (.cst (.str "\n"))) [.exp (.bm .append (.var 1) [.mvv 2]), .set 2 (.cst (.str ""))] [.set 2 (.bin .add (.var 2) (.var 3))]],
  .ite (.cmp .ne (.var 0) (.cst (.str ""))) [.exp (.bm .append (.var 1) [.mvv 2])] [],
  .ret (.mvv 1)]⟩
def d__law_joined : Fn := ⟨1, 4, [], [
  .set 1 (.cst (.str "")),
  .for_ [2] 3 (.rng [.bf .len [.var 0]]) [.ite (.cmp .gt (.var 2) (.cst (.int 0))) [.set 1 (.bin .add (.var 1) (.cst (.str "\n")))] [], .set 1 (.bin .add (.var 1) (.ix (.var 0) (.var 2)))],
  .ret (.mvv 1)]⟩
def d__law_right : Fn := ⟨1, 3, [], [
  .set 1 (.call "rows_of" [.var 0]),
  .ite (.or (.not (.isi (.var 1) "list")) (.cmp .ne (.var 1) (.call "_law_cut" [.var 0]))) [.ret (.cst (.bl false))] [],
  .set 2 (.call "text_of" [.bf .list [.var 1]]),
  .exp (.bm .append (.var 1) [.cst (.str "a")]),
  .ret (.and (.isi (.var 2) "str") (.and (.cmp .eq (.var 2) (.var 0)) (.cmp .eq (.call "rows_of" [.var 0]) (.call "_law_cut" [.mvv 0]))))]⟩
def d_law : Fn := ⟨1, 8, [], [
  .set 1 (.cst (.str "")),
  .set 2 (.lst []),
  .for_ [3] 7 (.ex (.var 0)) [.set 4 (.call "_law_text" [.var 3]), .ite (.not (.call "_law_right" [.var 4])) [.ret (.cst (.bl false))] [], .exp (.bm .append (.var 2) [.bm .replace (.var 4) [.cst (.str "\n"), .cst (.str "")]]), .set 1 (.bin .add (.var 1) (.ix (.cst (.str "\na 1")) (.bin .mod (.var 3) (.cst (.int 4)))))],
  .set 5 (.bf .list [.var 2]),
  .set 6 (.call "text_of" [.var 5]),
  .ite (.or (.not (.isi (.var 6) "str")) (.or (.cmp .ne (.var 6) (.call "_law_joined" [.var 2])) (.cmp .ne (.var 5) (.var 2)))) [.ret (.cst (.bl false))] [],
  .ret (.call "_law_right" [.mvv 1])]⟩
def prog : Prog := ⟨[("rows_of", d_rows_of), ("text_of", d_text_of), ("_law_text", d__law_text), ("_law_cut", d__law_cut), ("_law_joined", d__law_joined), ("_law_right", d__law_right), ("law", d_law)],
 [],
 [("list", ["list"], ["NoneType", "bool", "int", "str", "tuple", "dict"]), ("str", ["str"], ["NoneType", "bool", "int", "list", "tuple", "dict"])],
 []⟩
end Pk
end
section
namespace Pk
open PySem L2 Tk
def fuelN : Nat := 1000
theorem bindA {α β : Type} (x : M α) (f : α → M β) (s : Tk.St) : (x >>= f) s = (match x s with | .ok a s => f a s | .exc c pl s => .exc c pl s | .stuck w => .stuck w) := rfl
theorem pureA {α : Type} (a : α) (s : Tk.St) : (Pure.pure a : M α) s = .ok a s := rfl
theorem scal_str (x y : PySem.Str) : L2.scal (.str x) (.str y) = true := rfl
theorem loopS_run {f : Nat → M (Option T)} {fin : M Unit} {n : Nat} (st : Nat → Tk.St) (h : ∀ i, i < n → f i (st i) = .ok none (st (i + 1))) (hf : fin (st n) = .ok () (st n)) : ∀ m, m ≤ n → loopS f fin n m (st (n - m)) = .ok none (st n)
  | 0, _ => by
    show (fin >>= fun _ => (Pure.pure none : M (Option T))) (st n) = _
    rw [bindA, hf]
    rfl
  | m + 1, hm => by
    show (f (n - (m + 1)) >>= fun r => match r with | none => loopS f fin n m | some v => Pure.pure (some v)) (st (n - (m + 1))) = _
    rw [bindA, h (n - (m + 1)) (by omega)]
    have e : n - (m + 1) + 1 = n - m := by omega
    rw [e]
    exact loopS_run st h hf m (by omega)
theorem loop_run {f : Nat → M (Option T)} {fin : M Unit} {n : Nat} (st : Nat → Tk.St) (h : ∀ i, i < n → f i (st i) = .ok none (st (i + 1))) (hf : fin (st n) = .ok () (st n)) : loopS f fin n n (st 0) = .ok none (st n) := by
  have := loopS_run st h hf n (Nat.le_refl n)
  rw [Nat.sub_self] at this
  exact this
theorem lk_rows : prog.fns.lookup ("rows_of" : PySem.Str) = some d_rows_of := by rfl
theorem lk_text : prog.fns.lookup ("text_of" : PySem.Str) = some d_text_of := by rfl
theorem lk_ltext : prog.fns.lookup ("_law_text" : PySem.Str) = some d__law_text := by rfl
theorem lk_cut : prog.fns.lookup ("_law_cut" : PySem.Str) = some d__law_cut := by rfl
theorem lk_joined : prog.fns.lookup ("_law_joined" : PySem.Str) = some d__law_joined := by rfl
theorem lk_right : prog.fns.lookup ("_law_right" : PySem.Str) = some d__law_right := by rfl
theorem lk_law : prog.fns.lookup ("law" : PySem.Str) = some d_law := by rfl
theorem belows_str {m : Nat} : ∀ l : List PySem.Str, below.belows m (l.map .str) = true
  | [] => rfl
  | x :: l => by simp only [List.map_cons, Tk.below.belows, below, Bool.true_and]; exact belows_str l
theorem noMuts_str : ∀ l : List PySem.Str, noMut.noMuts (l.map .str) = true
  | [] => rfl
  | x :: l => by simp only [List.map_cons, noMut.noMuts, noMut, Bool.true_and]; exact noMuts_str l
theorem strL_str : ∀ l : List PySem.Str, strL (l.map .str) = some l
  | [] => rfl
  | x :: l => by simp only [List.map_cons, strL, strL_str l]
theorem views_str {c n : Nat} : ∀ (l : List PySem.Str) (p : List Nat) (i : Nat), view.views c n (l.map .str) p i = l.map .str
  | [], _, _ => rfl
  | x :: l, p, i => by simp only [List.map_cons, view.views, view, views_str l]
theorem fit {n : Nat} (h : n ≤ 16777216) : fitT n = true := by unfold fitT; rw [sizeLine_eq]; exact decide_eq_true h
/-! ### rows_of -/
def rowsS (z : PySem.Str) : List PySem.Str := if z = "" then [] else PySem.Txt.split z "\n"
theorem run_rows (z : PySem.Str) (hl : z.length + 2 ≤ 16777216) (fuel k : Nat) (hot : Bool) (C : List Cell) : callF prog fuel (k + 1) hot "rows_of" [.str z] C = .ok (.nd (.lst false) ((rowsS z).map .str)) C := by
  unfold callF
  rw [lk_rows]
  have hf := fit hl
  have h0 := fit (n := 0) (by omega)
  have hn : (Str.ofString "\n").length ≠ 0 := by decide
  unfold rowsS
  by_cases hz : z = ""
  · subst hz
    simp [d_rows_of, Tk.execs, Tk.exec, ev, evs, frame, bindA, pureA, getVar, view, cmpop, eqT, scalT, need, tV, scal_str, eqS, asB, h0, leave, isNew, below, Tk.below.belows]
  · simp [d_rows_of, Tk.execs, Tk.exec, ev, evs, frame, bindA, pureA, getVar, view, cmpop, eqT, scalT, need, tV, scal_str, eqS, hz, asB, recv, bmop, hf, hn, leave, isNew, below, belows_str]
/-! ### text_of -/
theorem run_text (l : List PySem.Str) (hl : (l.map (·.length)).sum + l.length ≤ 16777216) (fuel k : Nat) (hot : Bool) (C : List Cell) : callF prog fuel (k + 1) hot "text_of" [.nd (.lst false) (l.map .str)] C = .ok (.str (PySem.Txt.join "\n" l)) C := by
  unfold callF
  rw [lk_text]
  have hn : (Str.ofString "\n").length = 1 := by decide
  simp [d_text_of, Tk.execs, Tk.exec, ev, evs, frame, bindA, pureA, moveVar, noMut, getVar, view, recv, bmop, look, strL_str, ofOpt, need, hn, hl, leave, isNew, below]
/-! ### _law_cut -/
def stepC (r : List PySem.Str × PySem.Str) (c : Nat) : List PySem.Str × PySem.Str := if c = 10 then (r.1 ++ [r.2], "") else (r.1, r.2 ++ ⟨#[c]⟩)
def cutN (z : PySem.Str) (i : Nat) : List PySem.Str × PySem.Str := (z.cps.toList.take i).foldl stepC ([], "")
theorem cutN_succ {z : PySem.Str} {i c : Nat} (h : z.cps[i]? = some c) : cutN z (i + 1) = stepC (cutN z i) c := by
  unfold cutN
  have h' : z.cps.toList[i]? = some c := by simpa using h
  rw [List.take_add_one, h']
  simp
theorem cutN_len (z : PySem.Str) : ∀ i, i ≤ z.length → (cutN z i).1.length ≤ i ∧ (cutN z i).2.length ≤ i
  | 0, _ => by unfold cutN; simp [Str.length]; rfl
  | i + 1, h => by
    have hi : i < z.cps.size := h
    obtain ⟨h1, h2⟩ := cutN_len z i (by omega)
    rw [cutN_succ (c := z.cps[i]) (by simp [hi])]
    unfold stepC
    split
    · refine ⟨by simp; omega, ?_⟩
      show (Str.ofString "").length ≤ i + 1
      have : (Str.ofString "").length = 0 := by decide
      omega
    · refine ⟨by simp; omega, ?_⟩
      have e : ((cutN z i).2 ++ (⟨#[z.cps[i]]⟩ : PySem.Str)).length = (cutN z i).2.length + 1 := by
        show ((cutN z i).2.cps ++ #[z.cps[i]]).size = _
        rw [Array.size_append]; rfl
      rw [e]; omega
def cutS (z : PySem.Str) : List PySem.Str := if z = "" then [] else (cutN z z.length).1 ++ [(cutN z z.length).2]
def sg (z : PySem.Str) : Nat → T
  | 0 => .hole
  | j + 1 => .str ⟨#[z.cps.getD j 0]⟩
theorem sg_flat (z : PySem.Str) (i : Nat) : noMut (sg z i) = true := by cases i <;> rfl
theorem sg_succ {z : PySem.Str} {i c : Nat} (h : z.cps[i]? = some c) : sg z (i + 1) = .str ⟨#[c]⟩ := by
  have : z.cps.getD i 0 = c := by
    rw [Array.getD_eq_getD_getElem?, h]; rfl
  show T.str ⟨#[z.cps.getD i 0]⟩ = _
  rw [this]
def stC (z : PySem.Str) (C : List Cell) (i : Nat) : Tk.St := ⟨C, [⟨[], .str z⟩, ⟨[], .nd (.lst false) ((cutN z i).1.map .str)⟩, ⟨[], .str (cutN z i).2⟩, ⟨[], sg z i⟩, ⟨[], .hole⟩]⟩
theorem nl_eq : (Str.ofString "\n") = ⟨#[10]⟩ := by decide
def bodyCut : List Sm := [.ite (.cmp .eq (.var 3) (.cst (.str "\n"))) [.exp (.bm .append (.var 1) [.mvv 2]), .set 2 (.cst (.str ""))] [.set 2 (.bin .add (.var 2) (.var 3))]]
theorem d_cut : d__law_cut = ⟨1, 5, [], [.set 1 (.lst []), .set 2 (.cst (.str "")), .for_ [3] 4 (.ex (.var 0)) bodyCut, .ite (.cmp .ne (.var 0) (.cst (.str ""))) [.exp (.bm .append (.var 1) [.mvv 2])] [], .ret (.mvv 1)]⟩ := rfl
theorem one_eq (c d : Nat) : ((⟨#[c]⟩ : PySem.Str) = ⟨#[d]⟩) = (c = d) := by simp
theorem cut_step (z : PySem.Str) (hz : z.length ≤ 1000000) (call : Cl) (fuel : Nat) (hot : Bool) (C : List Cell) (i : Nat) (hi : i < z.cps.size) :
    (do let t ← Wk.item i (.chars z); let _ ← setTg [3] t; Tk.execs prog call fuel hot bodyCut : M (Option T)) (stC z C i) = .ok none (stC z C (i + 1)) := by
  obtain ⟨c, hc⟩ : ∃ c, z.cps[i]? = some c := ⟨z.cps[i], by simp [hi]⟩
  obtain ⟨l1, l2⟩ := cutN_len z i (Nat.le_of_lt hi)
  have hi' : i < z.length := hi
  have f1 : decide ((cutN z i).1.length < sizeLine) = true := by rw [sizeLine_eq]; exact decide_eq_true (by omega)
  have f2 : fitT ((cutN z i).2.length + (⟨#[c]⟩ : PySem.Str).length) = true := fit (by show _ + 1 ≤ _; omega)
  unfold stC
  rw [cutN_succ hc, sg_succ hc]
  have hs := sg_flat z i
  generalize sg z i = g at hs
  generalize cutN z i = r at *
  obtain ⟨r1, r2⟩ := r
  unfold stepC
  simp only at f1 f2 ⊢
  have hlt : ¬ (C.length + 1 < C.length) := by omega
  by_cases h : c = 10
  · subst h
    simp [hlt, views_str, bodyCut, Wk.item, hc, ofOpt, bindA, pureA, setTg, setVar, hs, noMut, Tk.execs, Tk.exec, ev, evs, getVar, view, cmpop, eqT, scalT, need, tV, scal_str, eqS, asB, nl_eq, recv, look, deref, St.get, alive, sub, moveVar, bmop, poke, apF, f1, St.put, setAt, top.tops]
  · have hd : decide (V.str ⟨#[c]⟩ = V.str ⟨#[10]⟩) = false := decide_eq_false (by simp [h])
    simp [bodyCut, Wk.item, hc, ofOpt, bindA, pureA, setTg, setVar, hs, noMut, Tk.execs, Tk.exec, ev, evs, getVar, view, cmpop, eqT, scalT, need, tV, scal_str, eqS, asB, nl_eq, h, binop, addop, f2]
theorem cut_loop (z : PySem.Str) (hz : z.length ≤ 1000000) (call : Cl) (fuel : Nat) (hot : Bool) (C : List Cell) :
    runWk (.chars z) (fun v => do let _ ← setTg [3] v; Tk.execs prog call fuel hot bodyCut) (stC z C 0) = .ok none (stC z C z.length) := by
  unfold runWk
  rw [bindA]
  have h := loop_run (f := fun i => (do let t ← Wk.item i (.chars z); let _ ← setTg [3] t; Tk.execs prog call fuel hot bodyCut : M (Option T))) (fin := Wk.fin (.chars z)) (n := z.cps.size) (stC z C) (fun i hi => cut_step z hz call fuel hot C i hi) rfl
  erw [h]
  rfl
theorem run_cut (z : PySem.Str) (hz : z.length ≤ 1000000) (fuel k : Nat) (hot : Bool) (C : List Cell) : callF prog fuel (k + 1) hot "_law_cut" [.str z] C = .ok (.nd (.lst false) ((cutS z).map .str)) C := by
  unfold callF
  rw [lk_cut, d_cut]
  have h0 := fit (n := 0) (by omega)
  have hl := cut_loop z hz (callF prog fuel k) fuel hot C
  have es : stC z C 0 = ⟨C, [⟨[], .str z⟩, ⟨[], .nd (.lst false) []⟩, ⟨[], .str ""⟩, ⟨[], .hole⟩, ⟨[], .hole⟩]⟩ := rfl
  rw [es] at hl
  obtain ⟨l1, l2⟩ := cutN_len z z.length (Nat.le_refl _)
  have f1 : decide ((cutN z z.length).1.length < sizeLine) = true := by rw [sizeLine_eq]; exact decide_eq_true (by omega)
  have hlt : ¬ (C.length + 1 < C.length) := by omega
  simp [Tk.execs, Tk.exec, ev, evs, evIt, frame, bindA, pureA, getVar, view, h0, need, setVar, noMut, startWk, hl]
  unfold cutS stC
  have hs := sg_flat z z.length
  generalize sg z z.length = g at *
  generalize cutN z z.length = r at *
  obtain ⟨r1, r2⟩ := r
  simp only at f1
  have l0 : z = "" → r1.map T.str = [] := fun e => by
    have : r1.length ≤ 0 := by rw [e] at l1; exact l1
    rw [List.length_eq_zero_iff.mp (Nat.le_zero.mp this)]; rfl
  by_cases h : z = ""
  · have l0 := l0 h
    subst h
    simp [Tk.execs, Tk.exec, ev, evs, bindA, pureA, getVar, view, cmpop, eqT, scalT, need, tV, scal_str, eqS, asB, moveVar, noMut, leave, isNew, below, l0, Tk.below.belows]
  · simp [hlt, views_str, h, Tk.execs, Tk.exec, ev, evs, bindA, pureA, getVar, view, cmpop, eqT, scalT, need, tV, scal_str, eqS, asB, recv, look, deref, St.get, alive, sub, moveVar, noMut, bmop, poke, apF, f1, St.put, setAt, top.tops, leave, isNew, below, belows_str]
    have hb := belows_str (m := C.length) (r1 ++ [r2])
    rw [List.map_append] at hb
    rw [show List.map T.str r1 ++ [T.str r2] = List.map T.str r1 ++ List.map T.str [r2] from rfl, hb]
/-! ### _law_text -/
def pool : PySem.Str := "\nab \n07-?[<=A)"
def textN (rest : Int) (made : PySem.Str) : Nat → Int × PySem.Str
  | 0 => (rest, made)
  | n + 1 => let r := textN rest made n; (r.1 / 14, r.2 ++ ⟨#[pool.cps.getD (r.1 % 14).toNat 0]⟩)
def textS (cell : Int) : PySem.Str := (textN (cell / 13) "" (cell % 13).toNat).2
theorem textN_len (rest : Int) : ∀ n, (textN rest "" n).2.length = n
  | 0 => by show (Str.ofString "").length = 0; decide
  | n + 1 => by
    show ((textN rest "" n).2.cps ++ #[_]).size = _
    rw [Array.size_append]
    have := textN_len rest n
    show (textN rest "" n).2.length + 1 = n + 1
    omega
theorem textS_len (cell : Int) : (textS cell).length ≤ 12 := by
  unfold textS
  rw [textN_len]
  have := Int.emod_lt_of_pos cell (by decide : (0 : Int) < 13)
  omega
def bodyT : List Sm := [.set 1 (.bin .add (.var 1) (.ix (.cst (.str "\nab \n07-?[<=A)")) (.bin .mod (.var 2) (.cst (.int 14))))), .set 2 (.bin .fdiv (.var 2) (.cst (.int 14)))]
theorem d_ltext : d__law_text = ⟨1, 5, [], [.set 1 (.cst (.str "")), .set 2 (.bin .fdiv (.var 0) (.cst (.int 13))), .for_ [3] 4 (.rng [.bin .mod (.var 0) (.cst (.int 13))]) bodyT, .ret (.mvv 1)]⟩ := rfl
def sgT : Nat → T
  | 0 => .hole
  | j + 1 => .int j
theorem sgT_flat (i : Nat) : noMut (sgT i) = true := by cases i <;> rfl
def stT (cell : Int) (C : List Cell) (i : Nat) : Tk.St := ⟨C, [⟨[], .int cell⟩, ⟨[], .str (textN (cell / 13) "" i).2⟩, ⟨[], .int (textN (cell / 13) "" i).1⟩, ⟨[], sgT i⟩, ⟨[], .hole⟩]⟩
theorem pool_at (r : Int) : L2.atI pool.cps.toList (r % 14) = some (pool.cps.getD (r % 14).toNat 0) := by
  have h1 := Int.emod_nonneg r (by decide : (14 : Int) ≠ 0)
  have h2 := Int.emod_lt_of_pos r (by decide : (0 : Int) < 14)
  have hl : pool.cps.toList.length = 14 := by decide
  have hz : pool.cps.size = 14 := by decide
  unfold L2.atI L2.ixN
  rw [if_pos h1, if_pos (by rw [hl]; exact h2)]
  have hlt : (r % 14).toNat < pool.cps.size := by rw [hz]; omega
  simp [hlt]
theorem text_step (cell : Int) (call : Cl) (fuel : Nat) (hot : Bool) (C : List Cell) (n i : Nat) (hi : i < n) (hn : n ≤ 12) :
    (do let t ← Wk.item i (.rng 0 n); let _ ← setTg [3] t; Tk.execs prog call fuel hot bodyT : M (Option T)) (stT cell C i) = .ok none (stT cell C (i + 1)) := by
  have hl := textN_len (cell / 13) i
  have hp := pool_at (textN (cell / 13) "" i).1
  unfold stT
  rw [show textN (cell / 13) "" (i + 1) = ((textN (cell / 13) "" i).1 / 14, (textN (cell / 13) "" i).2 ++ ⟨#[pool.cps.getD ((textN (cell / 13) "" i).1 % 14).toNat 0]⟩) from rfl, show sgT (i + 1) = .int i from rfl]
  have hs := sgT_flat i
  generalize sgT i = g at hs
  generalize textN (cell / 13) "" i = r at *
  obtain ⟨r1, r2⟩ := r
  simp only at hl hp ⊢
  have f0 : fitT pool.length = true := fit (by decide)
  generalize pool.cps.getD (r1 % 14).toNat 0 = d at *
  have f2 : fitT (r2.length + (⟨#[d]⟩ : PySem.Str).length) = true := fit (by show _ + 1 ≤ _; omega)
  have ep : (Str.ofString "\nab \n07-?[<=A)") = pool := rfl
  simp [bodyT, Wk.item, ofOpt, bindA, pureA, setTg, setVar, hs, noMut, Tk.execs, Tk.exec, ev, evs, getVar, view, binop, intop, need, ixop, ep, f0, hp, addop, f2]
theorem text_loop (cell : Int) (call : Cl) (fuel : Nat) (hot : Bool) (C : List Cell) (n : Nat) (hn : n ≤ 12) :
    runWk (.rng 0 n) (fun v => do let _ ← setTg [3] v; Tk.execs prog call fuel hot bodyT) (stT cell C 0) = .ok none (stT cell C n) := by
  unfold runWk
  rw [bindA]
  have h := loop_run (f := fun i => (do let t ← Wk.item i (.rng 0 n); let _ ← setTg [3] t; Tk.execs prog call fuel hot bodyT : M (Option T))) (fin := Wk.fin (.rng 0 n)) (n := n) (stT cell C) (fun i hi => text_step cell call fuel hot C n i hi hn) rfl
  erw [h]
  rfl
theorem run_ltext (cell : Int) (fuel k : Nat) (hot : Bool) (C : List Cell) : callF prog fuel (k + 1) hot "_law_text" [.int cell] C = .ok (.str (textS cell)) C := by
  unfold callF
  rw [lk_ltext, d_ltext]
  have h1 := Int.emod_nonneg cell (by decide : (13 : Int) ≠ 0)
  have h2 := Int.emod_lt_of_pos cell (by decide : (0 : Int) < 13)
  have hl := text_loop cell (callF prog fuel k) fuel hot C (cell % 13).toNat (by omega)
  have es : stT cell C 0 = ⟨C, [⟨[], .int cell⟩, ⟨[], .str ""⟩, ⟨[], .int (cell / 13)⟩, ⟨[], .hole⟩, ⟨[], .hole⟩]⟩ := rfl
  rw [es] at hl
  have hr : inRg (cell % 13) = true := by unfold inRg; rw [decide_eq_true (by omega : -(2 ^ 62) ≤ cell % 13), decide_eq_true (by omega : cell % 13 < 2 ^ 62)]; rfl
  simp [Tk.execs, Tk.exec, ev, evs, evIt, frame, bindA, pureA, getVar, view, need, setVar, noMut, binop, intop, rngOf, hr, hl]
  unfold textS stT
  have hs := sgT_flat (cell % 13).toNat
  generalize sgT (cell % 13).toNat = g at *
  simp [pureA, moveVar, noMut, leave, isNew, below]
/-! ### _law_joined -/
def joinN (l : List PySem.Str) (i : Nat) : PySem.Str := PySem.Str.join "\n" (l.take i)
theorem join_snoc (sep x : PySem.Str) : ∀ l : List PySem.Str, l ≠ [] → PySem.Str.join sep (l ++ [x]) = PySem.Str.join sep l ++ sep ++ x
  | [], h => absurd rfl h
  | [y], _ => rfl
  | y :: z :: l, _ => by
    show y ++ sep ++ PySem.Str.join sep (z :: l ++ [x]) = y ++ sep ++ PySem.Str.join sep (z :: l) ++ sep ++ x
    rw [join_snoc sep x (z :: l) (by simp)]
    simp only [← PySem.Str.append_assoc]
def bodyJ : List Sm := [.ite (.cmp .gt (.var 2) (.cst (.int 0))) [.set 1 (.bin .add (.var 1) (.cst (.str "\n")))] [], .set 1 (.bin .add (.var 1) (.ix (.var 0) (.var 2)))]
theorem d_joined : d__law_joined = ⟨1, 4, [], [.set 1 (.cst (.str "")), .for_ [2] 3 (.rng [.bf .len [.var 0]]) bodyJ, .ret (.mvv 1)]⟩ := rfl
theorem joinN_succ {l : List PySem.Str} {i : Nat} {x : PySem.Str} (h : l[i]? = some x) : joinN l (i + 1) = if 0 < i then joinN l i ++ "\n" ++ x else x := by
  unfold joinN
  rw [List.take_add_one, h]
  cases i with
  | zero => rfl
  | succ j =>
    rw [if_pos (by omega)]
    have hl := (List.getElem?_eq_some_iff.mp h).1
    exact join_snoc "\n" x (l.take (j + 1)) (by
      intro e
      have := congrArg List.length e
      rw [List.length_take, List.length_nil] at this
      omega)
theorem str_app_len (a b : PySem.Str) : (a ++ b).length = a.length + b.length := by
  show (a.cps ++ b.cps).size = _
  rw [Array.size_append]; rfl
theorem joinN_len {l : List PySem.Str} {m : Nat} (h : ∀ x ∈ l, x.length ≤ m) : ∀ i, i ≤ l.length → (joinN l i).length ≤ i * (m + 1)
  | 0, _ => by show (Str.ofString "").length ≤ _; have : (Str.ofString "").length = 0 := by decide
               omega
  | i + 1, hi => by
    have ih := joinN_len h i (by omega)
    have hx : l[i]? = some l[i] := by simp [show i < l.length by omega]
    have hm := h l[i] (List.getElem_mem _)
    rw [joinN_succ hx]
    have e : (i + 1) * (m + 1) = i * (m + 1) + (m + 1) := by rw [Nat.add_mul, Nat.one_mul]
    split
    · rw [str_app_len, str_app_len]
      have : (Str.ofString "\n").length = 1 := by decide
      omega
    · omega
def stJ (c n : Nat) (p : List Nat) (l : List PySem.Str) (C : List Cell) (i : Nat) : Tk.St := ⟨C, [⟨[], .ptr c n p⟩, ⟨[], .str (joinN l i)⟩, ⟨[], sgT i⟩, ⟨[], .hole⟩]⟩
theorem atI_str {l : List PySem.Str} {i : Nat} {x : PySem.Str} (h : l[i]? = some x) : L2.atI (l.map T.str) (i : Int) = some (.str x) := by
  refine L2.atI_nat ?_
  rw [List.getElem?_map, h]; rfl
theorem join_step (c n : Nat) (p : List Nat) (l : List PySem.Str) (C : List Cell) (hlk : ∀ F, look (.ptr c n p) ⟨C, F⟩ = .ok (.lst false, l.map .str) ⟨C, F⟩) (m : Nat) (hm : ∀ x ∈ l, x.length ≤ m) (hb : (l.length + 1) * (m + 1) + m ≤ 16777216) (call : Cl) (fuel : Nat) (hot : Bool) (i : Nat) (hi : i < l.length) :
    (do let t ← Wk.item i (.rng 0 l.length); let _ ← setTg [2] t; Tk.execs prog call fuel hot bodyJ : M (Option T)) (stJ c n p l C i) = .ok none (stJ c n p l C (i + 1)) := by
  obtain ⟨x, hx⟩ : ∃ x, l[i]? = some x := ⟨l[i], by simp [hi]⟩
  have hxm := hm x (List.mem_of_getElem? hx)
  have hl := joinN_len hm i (by omega)
  have hmul : i * (m + 1) + (m + 1) ≤ (l.length + 1) * (m + 1) := by
    rw [← Nat.succ_mul]
    exact Nat.mul_le_mul_right _ (by omega)
  have ha := atI_str hx
  unfold stJ
  rw [joinN_succ hx, show sgT (i + 1) = .int i from rfl]
  have hj : i = 0 → joinN l i = "" := fun e => by rw [e]; rfl
  have hs := sgT_flat i
  generalize sgT i = g at hs
  generalize joinN l i = r at *
  have hn : (Str.ofString "\n").length = 1 := by decide
  have f1 : fitT (r.length + 1) = true := fit (by omega)
  have f2 : fitT ((r ++ (Str.ofString "\n")).length + x.length) = true := fit (by rw [str_app_len, hn]; omega)
  have f3 : fitT (r.length + x.length) = true := fit (by omega)
  by_cases h : 0 < i
  · have hd : decide ((0 : Int) < (i : Int)) = true := decide_eq_true (by omega)
    simp [bodyJ, Wk.item, bindA, pureA, setTg, setVar, hs, noMut, Tk.execs, Tk.exec, ev, evs, getVar, view, cmpop, ordop, asB, binop, addop, ixop, hlk, isDict, ha, ofOpt, need, hn, f1, f2, h, hd]
  · have h0 : i = 0 := by omega
    have hr := hj h0
    subst hr
    have hd : decide ((0 : Int) < (i : Int)) = false := decide_eq_false (by omega)
    have he : (Str.ofString "") ++ x = x := PySem.Str.empty_append x
    simp [bodyJ, Wk.item, bindA, pureA, setTg, setVar, hs, noMut, Tk.execs, Tk.exec, ev, evs, getVar, view, cmpop, ordop, asB, binop, addop, ixop, hlk, isDict, ha, ofOpt, need, f3, h, hd, he]
theorem join_loop (c n : Nat) (p : List Nat) (l : List PySem.Str) (C : List Cell) (hlk : ∀ F, look (.ptr c n p) ⟨C, F⟩ = .ok (.lst false, l.map .str) ⟨C, F⟩) (m : Nat) (hm : ∀ x ∈ l, x.length ≤ m) (hb : (l.length + 1) * (m + 1) + m ≤ 16777216) (call : Cl) (fuel : Nat) (hot : Bool) :
    runWk (.rng 0 l.length) (fun v => do let _ ← setTg [2] v; Tk.execs prog call fuel hot bodyJ) (stJ c n p l C 0) = .ok none (stJ c n p l C l.length) := by
  unfold runWk
  rw [bindA]
  have h := loop_run (f := fun i => (do let t ← Wk.item i (.rng 0 l.length); let _ ← setTg [2] t; Tk.execs prog call fuel hot bodyJ : M (Option T))) (fin := Wk.fin (.rng 0 l.length)) (n := l.length) (stJ c n p l C) (fun i hi => join_step c n p l C hlk m hm hb call fuel hot i hi) rfl
  erw [h]
  rfl
theorem run_joined (c n : Nat) (p : List Nat) (l : List PySem.Str) (C : List Cell) (hlk : ∀ F, look (.ptr c n p) ⟨C, F⟩ = .ok (.lst false, l.map .str) ⟨C, F⟩) (m : Nat) (hm : ∀ x ∈ l, x.length ≤ m) (hb : (l.length + 1) * (m + 1) + m ≤ 16777216) (fuel k : Nat) (hot : Bool) : callF prog fuel (k + 1) hot "_law_joined" [.ptr c n p] C = .ok (.str (PySem.Str.join "\n" l)) C := by
  unfold callF
  rw [lk_joined, d_joined]
  have hl := join_loop c n p l C hlk m hm hb (callF prog fuel k) fuel hot
  have es : stJ c n p l C 0 = ⟨C, [⟨[], .ptr c n p⟩, ⟨[], .str ""⟩, ⟨[], .hole⟩, ⟨[], .hole⟩]⟩ := rfl
  rw [es] at hl
  have hle : l.length ≤ 16777216 := by
    have : (l.length + 1) * 1 ≤ (l.length + 1) * (m + 1) := Nat.mul_le_mul_left _ (by omega)
    omega
  have hr : inRg (l.length : Int) = true := by unfold inRg; rw [decide_eq_true (by omega : -(2 ^ 62) ≤ (l.length : Int)), decide_eq_true (by omega : (l.length : Int) < 2 ^ 62)]; rfl
  simp [Tk.execs, Tk.exec, ev, evs, evIt, frame, bindA, pureA, getVar, view, need, setVar, noMut, bfop, hlk, rngOf, hr, hl]
  unfold stJ
  have hs := sgT_flat l.length
  generalize sgT l.length = g at *
  have ej : joinN l l.length = PySem.Str.join "\n" l := by unfold joinN; rw [List.take_length]
  rw [ej]
  simp [pureA, moveVar, noMut, leave, isNew, below]
/-! ### the cut is the split -/
def cutL (row : List Nat) : List Nat → List (List Nat)
  | [] => [row]
  | c :: l => if c = 10 then row :: cutL [] l else cutL (row ++ [c]) l
theorem cutL_free (row : List Nat) : ∀ p rest : List Nat, 10 ∉ p → cutL row (p ++ rest) = cutL (row ++ p) rest
  | [], rest, _ => by simp
  | c :: p, rest, h => by
    have hc : c ≠ 10 := fun e => h (by rw [e]; exact List.mem_cons_self)
    show (if c = 10 then _ else cutL (row ++ [c]) (p ++ rest)) = _
    rw [if_neg hc, cutL_free (row ++ [c]) p rest (fun m => h (List.mem_cons_of_mem _ m))]
    simp
theorem cutL_join : ∀ ps : List PySem.Str, ps ≠ [] → (∀ p ∈ ps, 10 ∉ p.cps.toList) → cutL [] (PySem.Str.join "\n" ps).cps.toList = ps.map fun p => p.cps.toList
  | [], h, _ => absurd rfl h
  | [p], _, hf => by
    have := cutL_free [] p.cps.toList [] (hf p List.mem_cons_self)
    rw [List.append_nil] at this
    show cutL [] p.cps.toList = _
    rw [this]
    rfl
  | p :: q :: r, _, hf => by
    have e : (PySem.Str.join "\n" (p :: q :: r)).cps.toList = p.cps.toList ++ 10 :: (PySem.Str.join "\n" (q :: r)).cps.toList := by
      show ((p.cps ++ (Str.ofString "\n").cps) ++ (PySem.Str.join "\n" (q :: r)).cps).toList = _
      have en : (Str.ofString "\n").cps = #[10] := by decide
      rw [en]
      simp
    rw [e, cutL_free [] _ _ (hf p List.mem_cons_self)]
    show (if (10 : Nat) = 10 then _ else _) = _
    rw [if_pos rfl, cutL_join (q :: r) (by simp) (fun x hx => hf x (List.mem_cons_of_mem _ hx))]
    rfl
theorem fold_cutL : ∀ (l : List Nat) (rows : List PySem.Str) (row : PySem.Str), ((l.foldl stepC (rows, row)).1 ++ [(l.foldl stepC (rows, row)).2]).map (fun p => p.cps.toList) = rows.map (fun p => p.cps.toList) ++ cutL row.cps.toList l
  | [], rows, row => by simp [cutL]
  | c :: l, rows, row => by
    show ((l.foldl stepC (stepC (rows, row) c)).1 ++ [(l.foldl stepC (stepC (rows, row) c)).2]).map (fun p => p.cps.toList) = rows.map (fun p => p.cps.toList) ++ (if c = 10 then row.cps.toList :: cutL [] l else cutL (row.cps.toList ++ [c]) l)
    by_cases h : c = 10
    · rw [if_pos h]
      have e : stepC (rows, row) c = (rows ++ [row], Str.ofString "") := by unfold stepC; rw [if_pos h]
      rw [e, fold_cutL l (rows ++ [row]) ""]
      have e0 : (Str.ofString "").cps.toList = [] := by decide
      rw [e0]
      simp
    · rw [if_neg h]
      have e : stepC (rows, row) c = (rows, row ++ ⟨#[c]⟩) := by unfold stepC; rw [if_neg h]
      rw [e, fold_cutL l rows (row ++ ⟨#[c]⟩)]
      have e0 : (row ++ (⟨#[c]⟩ : PySem.Str)).cps.toList = row.cps.toList ++ [c] := by
        show (row.cps ++ #[c]).toList = _
        simp
      rw [e0]
theorem map_cps_inj : ∀ {a b : List PySem.Str}, a.map (fun p => p.cps.toList) = b.map (fun p => p.cps.toList) → a = b
  | [], [], _ => rfl
  | [], _ :: _, h => by simp at h
  | _ :: _, [], h => by simp at h
  | x :: a, y :: b, h => by
    simp only [List.map_cons, List.cons.injEq] at h
    have e : x = y := PySem.Str.ext' (Array.toList_inj.mp h.1)
    rw [e, map_cps_inj h.2]
theorem rows_cut (z : PySem.Str) : rowsS z = cutS z := by
  unfold rowsS cutS
  by_cases h : z = ""
  · rw [if_pos h, if_pos h]
  · rw [if_neg h, if_neg h]
    have hj : PySem.Str.join (⟨#[10]⟩ : PySem.Str) (PySem.Txt.split z ⟨#[10]⟩) = z := PySem.StrLaws.join_split z ⟨#[10]⟩
    rw [nl_eq]
    have hne : PySem.Txt.split z ⟨#[10]⟩ ≠ [] := fun e => by
      rw [e] at hj
      exact h (by rw [← hj]; rfl)
    have h1 := cutL_join (PySem.Txt.split z ⟨#[10]⟩) hne (PySem.StrLaws.split_free z 10)
    rw [nl_eq, hj] at h1
    refine map_cps_inj ?_
    rw [← h1]
    unfold cutN
    rw [List.take_of_length_le (by simp [PySem.Str.length])]
    have h2 := fold_cutL z.cps.toList [] ""
    have e0 : (Str.ofString "").cps.toList = [] := by decide
    rw [e0] at h2
    exact h2.symm
theorem join_cut (z : PySem.Str) : PySem.Str.join "\n" (rowsS z) = z := by
  unfold rowsS
  by_cases h : z = ""
  · rw [if_pos h, h]; rfl
  · rw [if_neg h, nl_eq]
    exact PySem.StrLaws.join_split z ⟨#[10]⟩
/-! ### data of texts -/
theorem datas_str : ∀ l : List PySem.Str, data.datas (l.map T.str) = some (l.map PyData.str)
  | [] => rfl
  | x :: l => by simp only [List.map_cons, data.datas, data, datas_str l]
theorem eqvAll_str : ∀ l : List PySem.Str, PyData.eqvAll (l.map PyData.str) (l.map PyData.str) = true
  | [] => by simp [PyData.eqvAll]
  | x :: l => by simp [PyData.eqvAll, PyData.eqv, eqvAll_str l]
theorem eqv_str (l : List PySem.Str) : PyData.eqv (.list (l.map PyData.str)) (.list (l.map PyData.str)) = true := by
  simp only [PyData.eqv, eqvAll_str]
def okS (z : PySem.Str) : Prop := PyData.strOk z = true
theorem ok_iff {z : PySem.Str} : okS z ↔ ∀ c ∈ z.cps.toList, c < 0x110000 := by
  unfold okS PyData.strOk
  rw [Array.all_eq_true_iff_forall_mem]
  constructor
  · intro h c hc
    have := h c (by simpa using hc)
    simpa using this
  · intro h c hc
    have := h c (by simpa using hc)
    simpa using this
theorem ok_app {a b : PySem.Str} (ha : okS a) (hb : okS b) : okS (a ++ b) := by
  rw [ok_iff] at *
  intro c hc
  have e : (a ++ b).cps.toList = a.cps.toList ++ b.cps.toList := by
    show (a.cps ++ b.cps).toList = _
    simp
  rw [e] at hc
  rcases List.mem_append.mp hc with h | h
  · exact ha c h
  · exact hb c h
theorem join_chars (sep : PySem.Str) : ∀ (ps : List PySem.Str) (p : PySem.Str), p ∈ ps → ∀ c ∈ p.cps.toList, c ∈ (PySem.Str.join sep ps).cps.toList
  | [], p, h, _, _ => by simp at h
  | [q], p, h, c, hc => by
    have e : p = q := by simpa using h
    subst e
    exact hc
  | q :: r :: l, p, h, c, hc => by
    have e : (PySem.Str.join sep (q :: r :: l)).cps.toList = q.cps.toList ++ sep.cps.toList ++ (PySem.Str.join sep (r :: l)).cps.toList := by
      show ((q.cps ++ sep.cps) ++ (PySem.Str.join sep (r :: l)).cps).toList = _
      simp
    rw [e]
    rcases List.mem_cons.mp h with h | h
    · subst h
      simp [hc]
    · have := join_chars sep (r :: l) p h c hc
      simp [this]
theorem ok_rows {z : PySem.Str} (h : okS z) : ∀ x ∈ rowsS z, okS x := fun x hx => by
  rw [ok_iff] at *
  intro c hc
  have := join_chars "\n" (rowsS z) x hx c hc
  rw [join_cut] at this
  exact h c this
theorem lay_str : ∀ l : List PySem.Str, (∀ x ∈ l, okS x) → PyData.canLayAll0 (l.map PyData.str) = true
  | [], _ => by simp [PyData.canLayAll0]
  | x :: l, h => by
    have h1 : PyData.strOk x = true := h x List.mem_cons_self
    have h2 := lay_str l fun y hy => h y (List.mem_cons_of_mem _ hy)
    simp [PyData.canLayAll0, PyData.canLay0, h1, h2]
theorem depth_str : ∀ l : List PySem.Str, PyData.depthAll (l.map PyData.str) = 0
  | [] => by simp [PyData.depthAll]
  | x :: l => by simp [PyData.depthAll, PyData.depth, depth_str l]
theorem shaped_str (l : List PySem.Str) (h : ∀ x ∈ l, okS x) : SeqAt.shaped (.list (l.map PyData.str)) = true := by
  unfold SeqAt.shaped
  simp [PyData.canLay0, PyData.depth, lay_str l h, depth_str l]
theorem txt_join (sep : PySem.Str) (l : List PySem.Str) : PySem.Txt.join sep l = PySem.Str.join sep l := by
  have := PyProof.Rows.join_plain_closes sep l
  simpa using this
theorem asM_ok {f : List Cell → Res (List Cell) T} {v : T} {C F : List Cell} (h : f (C ++ F) = .ok v (C ++ F)) : asM f ⟨C, F⟩ = .ok v ⟨C, F⟩ := by
  unfold asM
  simp only [h, List.take_left, List.drop_left]
theorem data_lst (lk : Bool) (l : List PySem.Str) : data (.nd (.lst lk) (l.map T.str)) = some (.list (l.map PyData.str)) := by simp only [data, datas_str]
theorem isi_ll : isiB prog "list" "list" = some true := by rfl
theorem isi_ss : isiB prog "str" "str" = some true := by rfl
theorem len_rows (z : PySem.Str) : ((rowsS z).map (·.length)).sum ≤ z.length ∧ (rowsS z).length ≤ z.length + 1 := by
  have hj := join_cut z
  cases e : rowsS z with
  | nil => simp
  | cons a l =>
    rw [e] at hj
    have h := PyProof.Rows.len_join_cons "\n" a l
    rw [hj] at h
    have hn : (Str.ofString "\n").length = 1 := by decide
    rw [hn] at h
    rw [List.length_cons]
    omega
theorem run_right (z : PySem.Str) (hz : z.length ≤ 100000) (ok : okS z) (fuel k : Nat) (hot : Bool) (C : List Cell) : callF prog fuel (k + 2) hot "_law_right" [.str z] C = .ok (.bl true) C := by
  unfold callF
  rw [lk_right]
  obtain ⟨b1, b2⟩ := len_rows z
  have r1 : ∀ F, asM (callF prog fuel (k + 1) hot "rows_of" [.str z]) ⟨C, F⟩ = .ok (.nd (.lst false) ((rowsS z).map .str)) ⟨C, F⟩ := fun F => asM_ok (run_rows z (by omega) fuel k hot _)
  have r2 : ∀ F, asM (callF prog fuel (k + 1) hot "_law_cut" [.str z]) ⟨C, F⟩ = .ok (.nd (.lst false) ((rowsS z).map .str)) ⟨C, F⟩ := fun F => asM_ok (by rw [rows_cut]; exact run_cut z (by omega) fuel k hot _)
  have r3 : ∀ F, asM (callF prog fuel (k + 1) hot "text_of" [.nd (.lst false) ((rowsS z).map .str)]) ⟨C, F⟩ = .ok (.str z) ⟨C, F⟩ := fun F => asM_ok (by rw [run_text (rowsS z) (by omega) fuel k hot _, txt_join, join_cut])
  have hsh := shaped_str (rowsS z) (ok_rows ok)
  have f1 : decide ((rowsS z).length < sizeLine) = true := by rw [sizeLine_eq]; exact decide_eq_true (by omega)
  have hlt : ¬ (C.length + 1 < C.length) := by omega
  generalize rowsS z = l at *
  have hdd := data_lst false l
  have hev := eqv_str l
  have hii := isi_ll
  have hjj := isi_ss
  have hn0 : isNew [T.str z] = false := rfl
  have hn1 : isNew [T.nd (.lst false) (l.map .str)] = false := rfl
  simp [d__law_right, Tk.execs, Tk.exec, ev, evs, frame, bindA, pureA, getVar, view, need, hn0, r1, setVar, noMut, isiop, Tk.typeName, look, deref, St.get, hlt, alive, sub, views_str, ofOpt, hii, asB, cmpop, eqT, scalT, r2, dataOf, whole, hdd, hsh, hev, bfop, hn1, r3, recv, bmop, poke, apF, f1, St.put, setAt, top.tops, top, hjj, tV, scal_str, eqS, moveVar, leave, isNew, below]
/-! ### the law -/
def strike (x : PySem.Str) : PySem.Str := PySem.Txt.replace x "\n" ""
def four : PySem.Str := "\na 1"
def wholeN (ns : List Int) : PySem.Str := ns.foldl (fun w n => w ++ ⟨#[four.cps.getD (n % 4).toNat 0]⟩) ""
def bodyL : List Sm := [.set 4 (.call "_law_text" [.var 3]), .ite (.not (.call "_law_right" [.var 4])) [.ret (.cst (.bl false))] [], .exp (.bm .append (.var 2) [.bm .replace (.var 4) [.cst (.str "\n"), .cst (.str "")]]), .set 1 (.bin .add (.var 1) (.ix (.cst (.str "\na 1")) (.bin .mod (.var 3) (.cst (.int 4)))))]
theorem d_lawE : d_law = ⟨1, 8, [], [.set 1 (.cst (.str "")), .set 2 (.lst []), .for_ [3] 7 (.ex (.var 0)) bodyL, .set 5 (.bf .list [.var 2]), .set 6 (.call "text_of" [.var 5]),
  .ite (.or (.not (.isi (.var 6) "str")) (.or (.cmp .ne (.var 6) (.call "_law_joined" [.var 2])) (.cmp .ne (.var 5) (.var 2)))) [.ret (.cst (.bl false))] [],
  .ret (.call "_law_right" [.mvv 1])]⟩ := rfl
theorem strike_chars (x : PySem.Str) : (strike x).cps.toList = x.cps.toList.filter (· != 10) := by
  unfold strike
  rw [nl_eq]
  exact PyProof.Rows.replace_strikes x 10
theorem strike_len (x : PySem.Str) : (strike x).length ≤ x.length := by
  have h := congrArg List.length (strike_chars x)
  have h2 := List.length_filter_le (fun c => c != 10) x.cps.toList
  have e1 : (strike x).cps.toList.length = (strike x).length := by simp [PySem.Str.length]
  have e2 : x.cps.toList.length = x.length := by simp [PySem.Str.length]
  omega
theorem strike_ok {x : PySem.Str} (h : okS x) : okS (strike x) := by
  rw [ok_iff] at *
  rw [strike_chars]
  exact fun c hc => h c (List.mem_filter.mp hc).1
theorem ok_one {c : Nat} (h : c < 0x110000) : okS ⟨#[c]⟩ := by
  rw [ok_iff]
  intro d hd
  have : d = c := by simpa using hd
  rw [this]; exact h
theorem ok_empty : okS "" := by
  show PyData.strOk (Str.ofString "") = true
  decide +kernel
theorem getD_lt {z : PySem.Str} (h : okS z) (i : Nat) : z.cps.getD i 0 < 0x110000 := by
  rw [ok_iff] at h
  rw [Array.getD_eq_getD_getElem?]
  cases e : z.cps[i]? with
  | none => show 0 < _; omega
  | some c =>
    show c < _
    refine h c ?_
    have : z.cps.toList[i]? = some c := by simpa using e
    exact List.mem_of_getElem? this
theorem ok_text (rest : Int) : ∀ n, okS (textN rest "" n).2
  | 0 => ok_empty
  | n + 1 => ok_app (ok_text rest n) (ok_one (getD_lt (by show PyData.strOk pool = true; decide +kernel) _))
theorem ok_textS (cell : Int) : okS (textS cell) := ok_text _ _
theorem whole_snoc (ns : List Int) (n : Int) : wholeN (ns ++ [n]) = wholeN ns ++ ⟨#[four.cps.getD (n % 4).toNat 0]⟩ := by unfold wholeN; rw [List.foldl_append]; rfl
theorem whole_succ {ns : List Int} {i : Nat} {n : Int} (h : ns[i]? = some n) : wholeN (ns.take (i + 1)) = wholeN (ns.take i) ++ ⟨#[four.cps.getD (n % 4).toNat 0]⟩ := by
  rw [List.take_add_one, h]
  exact whole_snoc _ _
theorem whole_ok (ns : List Int) : ∀ i, i ≤ ns.length → okS (wholeN (ns.take i)) ∧ (wholeN (ns.take i)).length = i
  | 0, _ => ⟨ok_empty, by show (Str.ofString "").length = 0; decide⟩
  | i + 1, hi => by
    have ih := whole_ok ns i (by omega)
    rw [whole_succ (n := ns[i]) (by simp [show i < ns.length by omega])]
    refine ⟨ok_app ih.1 (ok_one (getD_lt (by show PyData.strOk four = true; decide +kernel) _)), ?_⟩
    rw [str_app_len, ih.2]
    rfl
theorem four_at (r : Int) : L2.atI four.cps.toList (r % 4) = some (four.cps.getD (r % 4).toNat 0) := by
  have h1 := Int.emod_nonneg r (by decide : (4 : Int) ≠ 0)
  have h2 := Int.emod_lt_of_pos r (by decide : (0 : Int) < 4)
  have hl : four.cps.toList.length = 4 := by decide
  have hz : four.cps.size = 4 := by decide
  unfold L2.atI L2.ixN
  rw [if_pos h1, if_pos (by rw [hl]; exact h2)]
  have hlt : (r % 4).toNat < four.cps.size := by rw [hz]; omega
  simp [hlt]
/-- slots 3 and 4: the cell, its text -/
def sgL (ns : List Int) : Nat → T × T
  | 0 => (.hole, .hole)
  | j + 1 => (.int (ns.getD j 0), .str (textS (ns.getD j 0)))
theorem sgL_flat (ns : List Int) (i : Nat) : noMut (sgL ns i).1 = true ∧ noMut (sgL ns i).2 = true := by cases i <;> exact ⟨rfl, rfl⟩
theorem sgL_succ {ns : List Int} {i : Nat} {n : Int} (h : ns[i]? = some n) : sgL ns (i + 1) = (.int n, .str (textS n)) := by
  show ((.int (ns.getD i 0), .str (textS (ns.getD i 0))) : T × T) = _
  have : ns.getD i 0 = n := by rw [List.getD_eq_getElem?_getD, h]; rfl
  rw [this]
def rowsN (ns : List Int) (i : Nat) : List PySem.Str := (ns.take i).map fun n => strike (textS n)
def scr (ns : List Int) : T := .nd (.lst true) (ns.map T.int)
def stL (ns : List Int) (i : Nat) : Tk.St := ⟨[], [⟨[], scr ns⟩, ⟨[], .str (wholeN (ns.take i))⟩, ⟨[], .nd (.lst false) ((rowsN ns i).map T.str)⟩, ⟨[], (sgL ns i).1⟩, ⟨[], (sgL ns i).2⟩, ⟨[], .hole⟩, ⟨[], .hole⟩, ⟨[], .hole⟩]⟩
theorem views_int {c n : Nat} : ∀ (l : List Int) (p : List Nat) (i : Nat), view.views c n (l.map T.int) p i = l.map T.int
  | [], _, _ => rfl
  | x :: l, p, i => by simp only [List.map_cons, view.views, view, views_int l]
theorem law_step (ns : List Int) (hn : ns.length ≤ 63) (fuel k : Nat) (i : Nat) (hi : i < ns.length) :
    (do let t ← Wk.item i (.seq false false false ns.length (.ptr 0 0 [])); let _ ← setTg [3] t; Tk.execs prog (callF prog fuel (k + 2)) fuel false bodyL : M (Option T)) (stL ns i) = .ok none (stL ns (i + 1)) := by
  obtain ⟨n, hx⟩ : ∃ n, ns[i]? = some n := ⟨ns[i], by simp [hi]⟩
  have hxm : (ns.map T.int)[i]? = some (.int n) := by rw [List.getElem?_map, hx]; rfl
  obtain ⟨w1, w2⟩ := whole_ok ns i (by omega)
  have er : rowsN ns (i + 1) = rowsN ns i ++ [strike (textS n)] := by unfold rowsN; rw [List.take_add_one, hx]; simp
  have rl : (rowsN ns i).length ≤ 63 := by unfold rowsN; rw [List.length_map, List.length_take]; omega
  have tl := textS_len n
  have c1 : ∀ F, asM (callF prog fuel (k + 2) false "_law_text" [.int n]) ⟨[], F⟩ = .ok (.str (textS n)) ⟨[], F⟩ := fun F => asM_ok (run_ltext n fuel (k + 1) false _)
  have c2 : ∀ F, asM (callF prog fuel (k + 2) false "_law_right" [.str (textS n)]) ⟨[], F⟩ = .ok (.bl true) ⟨[], F⟩ := fun F => asM_ok (run_right (textS n) (by omega) (ok_textS n) fuel k false _)
  have hne : ((Str.ofString "\n") == (Str.ofString "")) = false := by decide
  have hz0 : (Str.ofString "").length = 0 := by decide
  have f0 : decide ((textS n).length ≤ 16777216) = true := decide_eq_true (by omega)
  have f1 : decide ((rowsN ns i).length < sizeLine) = true := by rw [sizeLine_eq]; exact decide_eq_true (by omega)
  have f4 : fitT four.length = true := fit (by decide)
  have hp := four_at n
  unfold stL
  rw [whole_succ hx, er, sgL_succ hx]
  obtain ⟨s3, s4⟩ := sgL_flat ns i
  generalize sgL ns i = g at s3 s4
  obtain ⟨g3, g4⟩ := g
  simp only at s3 s4
  generalize wholeN (ns.take i) = w at *
  generalize rowsN ns i = l at *
  generalize four.cps.getD (n % 4).toNat 0 = d at *
  generalize textS n = t at *
  have f2 : fitT (w.length + (⟨#[d]⟩ : PySem.Str).length) = true := fit (by show _ + 1 ≤ _; omega)
  have ep : (Str.ofString "\na 1") = four := rfl
  have es : PySem.Txt.replace t (Str.ofString "\n") (Str.ofString "") = strike t := rfl
  have hn0 : isNew [T.int n] = false := rfl
  have hn1 : isNew [T.str t] = false := rfl
  simp [bodyL, Wk.item, scr, look, deref, St.get, alive, sub, views_int, seqSh, enumT, hxm, ofOpt, bindA, pureA, setTg, setVar, s3, s4, noMut, Tk.execs, Tk.exec, ev, evs, getVar, view, need, hn0, c1, hn1, c2, asB, recv, bmop, hne, hz0, f0, es, poke, apF, f1, St.put, setAt, top.tops, top, views_str, binop, intop, ixop, ep, f4, hp, addop, f2]
theorem law_loop (ns : List Int) (hn : ns.length ≤ 63) (fuel k : Nat) :
    runWk (.seq false false false ns.length (.ptr 0 0 [])) (fun v => do let _ ← setTg [3] v; Tk.execs prog (callF prog fuel (k + 2)) fuel false bodyL) (stL ns 0) = .ok none (stL ns ns.length) := by
  unfold runWk
  rw [bindA]
  have hf : Wk.fin (.seq false false false ns.length (.ptr 0 0 [])) (stL ns ns.length) = .ok () (stL ns ns.length) := by
    unfold stL
    simp [Wk.fin, scr, look, deref, St.get, alive, sub, views_int, seqSh, bindA, need]
  have h := loop_run (f := fun i => (do let t ← Wk.item i (.seq false false false ns.length (.ptr 0 0 [])); let _ ← setTg [3] t; Tk.execs prog (callF prog fuel (k + 2)) fuel false bodyL : M (Option T))) (fin := Wk.fin (.seq false false false ns.length (.ptr 0 0 []))) (n := ns.length) (stL ns) (fun i hi => law_step ns hn fuel k i hi) hf
  erw [h]
  rfl
theorem run_textP (c n : Nat) (p : List Nat) (l : List PySem.Str) (C : List Cell) (hlk : ∀ F, look (.ptr c n p) ⟨C, F⟩ = .ok (.lst false, l.map .str) ⟨C, F⟩) (hl : (l.map (·.length)).sum + l.length ≤ 16777216) (fuel k : Nat) (hot : Bool) : callF prog fuel (k + 1) hot "text_of" [.ptr c n p] C = .ok (.str (PySem.Txt.join "\n" l)) C := by
  unfold callF
  rw [lk_text]
  have hn : (Str.ofString "\n").length = 1 := by decide
  simp [d_text_of, Tk.execs, Tk.exec, ev, evs, frame, bindA, pureA, moveVar, noMut, getVar, view, recv, bmop, hlk, strL_str, ofOpt, need, hn, hl, leave, isNew, below]
theorem sum_len {m : Nat} : ∀ l : List PySem.Str, (∀ x ∈ l, x.length ≤ m) → (l.map (·.length)).sum ≤ l.length * m
  | [], _ => by simp
  | x :: l, h => by
    have h1 := h x List.mem_cons_self
    have h2 := sum_len l fun y hy => h y (List.mem_cons_of_mem _ hy)
    simp only [List.map_cons, List.sum_cons, List.length_cons, Nat.add_mul, Nat.one_mul]
    omega
def tailL : List Sm := [.set 5 (.bf .list [.var 2]), .set 6 (.call "text_of" [.var 5]),
  .ite (.or (.not (.isi (.var 6) "str")) (.or (.cmp .ne (.var 6) (.call "_law_joined" [.var 2])) (.cmp .ne (.var 5) (.var 2)))) [.ret (.cst (.bl false))] [],
  .ret (.call "_law_right" [.mvv 1])]
def G (a : T) (w : PySem.Str) (l : List PySem.Str) (g3 g4 x y : T) : Tk.St := ⟨[], [⟨[], a⟩, ⟨[], .str w⟩, ⟨[], .nd (.lst false) (l.map T.str)⟩, ⟨[], g3⟩, ⟨[], g4⟩, ⟨[], x⟩, ⟨[], y⟩, ⟨[], .hole⟩]⟩
theorem tail_run (call : Cl) (fuel : Nat) (a : T) (w : PySem.Str) (l : List PySem.Str) (g3 g4 : T) (j : PySem.Str) (hsh : SeqAt.shaped (.list (l.map PyData.str)) = true)
    (r5 : asM (call false "text_of" [.ptr 5 0 []]) (G a w l g3 g4 (.nd (.lst false) (l.map T.str)) .hole) = .ok (.str j) (G a w l g3 g4 (.nd (.lst false) (l.map T.str)) .hole))
    (r6 : asM (call false "_law_joined" [.ptr 2 0 []]) (G a w l g3 g4 (.nd (.lst false) (l.map T.str)) (.str j)) = .ok (.str j) (G a w l g3 g4 (.nd (.lst false) (l.map T.str)) (.str j)))
    (r4 : asM (call false "_law_right" [.str w]) (G a w l g3 g4 (.nd (.lst false) (l.map T.str)) (.str j)) = .ok (.bl true) (G a w l g3 g4 (.nd (.lst false) (l.map T.str)) (.str j))) :
    Tk.execs prog call fuel false tailL (G a w l g3 g4 .hole .hole) = .ok (some (.bl true)) (G a w l g3 g4 (.nd (.lst false) (l.map T.str)) (.str j)) := by
  have hpn : ∀ c n, isNew [T.ptr c n []] = false := fun c n => rfl
  have hi0 : isNew [T.str w] = false := rfl
  have hev := eqv_str l
  have hdd := data_lst false l
  have hjj := isi_ss
  unfold G at *
  simp [tailL, Tk.execs, Tk.exec, ev, evs, bindA, pureA, getVar, view, need, setVar, noMut, bfop, look, deref, St.get, alive, sub, views_str, hpn, r5, isiop, Tk.typeName, ofOpt, hjj, asB, cmpop, eqT, scalT, r6, tV, scal_str, eqS, dataOf, whole, hdd, hsh, hev, moveVar, hi0, r4]
theorem d_lawE' : d_law = ⟨1, 8, [], .set 1 (.cst (.str "")) :: .set 2 (.lst []) :: .for_ [3] 7 (.ex (.var 0)) bodyL :: tailL⟩ := rfl
theorem pureK (ns : List Int) (hn : ns.length ≤ 63) (fuel k : Nat) : callF prog fuel (k + 3) false "law" [.nd (.lst true) (ns.map T.int)] [] = .ok (.bl true) [] := by
  have hloop := law_loop ns hn fuel k
  have e0 : stL ns 0 = G (scr ns) "" [] .hole .hole .hole .hole := rfl
  obtain ⟨w1, w2⟩ := whole_ok ns ns.length (Nat.le_refl _)
  have hm : ∀ x ∈ rowsN ns ns.length, x.length ≤ 12 := fun x hx => by
    unfold rowsN at hx
    obtain ⟨n, _, e⟩ := List.mem_map.mp hx
    rw [← e]
    exact Nat.le_trans (strike_len _) (textS_len n)
  have ho : ∀ x ∈ rowsN ns ns.length, okS x := fun x hx => by
    unfold rowsN at hx
    obtain ⟨n, _, e⟩ := List.mem_map.mp hx
    rw [← e]
    exact strike_ok (ok_textS n)
  have hlen : (rowsN ns ns.length).length ≤ 63 := by unfold rowsN; rw [List.length_map, List.length_take]; omega
  have hst : stL ns ns.length = G (scr ns) (wholeN (ns.take ns.length)) (rowsN ns ns.length) (sgL ns ns.length).1 (sgL ns ns.length).2 .hole .hole := rfl
  rw [hst, e0] at hloop
  generalize (sgL ns ns.length).1 = g3 at *
  generalize (sgL ns ns.length).2 = g4 at *
  generalize wholeN (ns.take ns.length) = w at *
  generalize rowsN ns ns.length = l at *
  have hsum := sum_len l hm
  have hsh := shaped_str l ho
  have h0 := fit (n := 0) (by omega)
  have hsl : l.length * 12 ≤ 63 * 12 := Nat.mul_le_mul_right _ hlen
  have hj : PySem.Txt.join "\n" l = PySem.Str.join "\n" l := txt_join _ _
  have hb6 : (l.length + 1) * (12 + 1) + 12 ≤ 16777216 := by
    have : (l.length + 1) * (12 + 1) ≤ 64 * 13 := Nat.mul_le_mul_right _ (by omega)
    omega
  have tail := tail_run (callF prog fuel (k + 2)) fuel (scr ns) w l g3 g4 (PySem.Str.join "\n" l) hsh
    (asM_ok (by rw [← hj]; exact run_textP 5 0 [] l _ (fun F => by simp [look, deref, St.get, alive, sub, views_str]) (by omega) fuel (k + 1) false))
    (asM_ok (run_joined 2 0 [] l _ (fun F => by simp [look, deref, St.get, alive, sub, views_str]) 12 hm hb6 fuel (k + 1) false))
    (asM_ok (run_right w (by omega) w1 fuel k false _))
  unfold callF
  rw [lk_law, d_lawE']
  have hs0 : startWk 7 false false (.ptr 0 0 []) (G (scr ns) "" [] .hole .hole .hole .hole) = .ok (.seq false false false ns.length (.ptr 0 0 [])) (G (scr ns) "" [] .hole .hole .hole .hole) := by
    unfold G
    simp [startWk, parkW, bindA, pureA, look, deref, St.get, alive, sub, scr, views_int]
  have hfr : frame ⟨1, 8, [], .set 1 (.cst (.str "")) :: .set 2 (.lst []) :: .for_ [3] 7 (.ex (.var 0)) bodyL :: tailL⟩ [scr ns] = [⟨[], scr ns⟩, ⟨[], .hole⟩, ⟨[], .hole⟩, ⟨[], .hole⟩, ⟨[], .hole⟩, ⟨[], .hole⟩, ⟨[], .hole⟩, ⟨[], .hole⟩] := rfl
  have hg0 : Tk.execs prog (callF prog fuel (k + 2)) fuel false (.set 1 (.cst (.str "")) :: .set 2 (.lst []) :: .for_ [3] 7 (.ex (.var 0)) bodyL :: tailL) ⟨[], [⟨[], scr ns⟩, ⟨[], .hole⟩, ⟨[], .hole⟩, ⟨[], .hole⟩, ⟨[], .hole⟩, ⟨[], .hole⟩, ⟨[], .hole⟩, ⟨[], .hole⟩]⟩ = .ok (some (.bl true)) (G (scr ns) w l g3 g4 (.nd (.lst false) (l.map T.str)) (.str (PySem.Str.join "\n" l))) := by
    generalize callF prog fuel (k + 2) = call at *
    have hv : view 0 0 (scr ns) [] = .ptr 0 0 [] := rfl
    have hgv : getVar 0 (G (scr ns) "" [] .hole .hole .hole .hole) = .ok (.ptr 0 0 []) (G (scr ns) "" [] .hole .hole .hole .hole) := rfl
    have e1 : Tk.exec prog call fuel false (.set 1 (.cst (.str ""))) ⟨[], [⟨[], scr ns⟩, ⟨[], .hole⟩, ⟨[], .hole⟩, ⟨[], .hole⟩, ⟨[], .hole⟩, ⟨[], .hole⟩, ⟨[], .hole⟩, ⟨[], .hole⟩]⟩ = .ok none ⟨[], [⟨[], scr ns⟩, ⟨[], .str ""⟩, ⟨[], .hole⟩, ⟨[], .hole⟩, ⟨[], .hole⟩, ⟨[], .hole⟩, ⟨[], .hole⟩, ⟨[], .hole⟩]⟩ := by
      simp [Tk.exec, ev, bindA, pureA, setVar, noMut]
    have e2 : Tk.exec prog call fuel false (.set 2 (.lst [])) ⟨[], [⟨[], scr ns⟩, ⟨[], .str ""⟩, ⟨[], .hole⟩, ⟨[], .hole⟩, ⟨[], .hole⟩, ⟨[], .hole⟩, ⟨[], .hole⟩, ⟨[], .hole⟩]⟩ = .ok none (G (scr ns) "" [] .hole .hole .hole .hole) := by
      unfold G
      simp [Tk.exec, ev, evs, bindA, pureA, setVar, noMut, need, h0]
    have e3 : Tk.exec prog call fuel false (.for_ [3] 7 (.ex (.var 0)) bodyL) (G (scr ns) "" [] .hole .hole .hole .hole) = .ok none (G (scr ns) w l g3 g4 .hole .hole) := by
      rw [Tk.exec, evIt, bindA, bindA, ev, hgv]
      simp only [hs0]
      exact hloop
    rw [Tk.execs, bindA, e1]
    show Tk.execs prog call fuel false (.set 2 (.lst []) :: .for_ [3] 7 (.ex (.var 0)) bodyL :: tailL) _ = _
    rw [Tk.execs, bindA, e2]
    show Tk.execs prog call fuel false (.for_ [3] 7 (.ex (.var 0)) bodyL :: tailL) _ = _
    rw [Tk.execs, bindA, e3]
    exact tail
  have hfr2 : frame ⟨1, 8, [], .set 1 (.cst (.str "")) :: .set 2 (.lst []) :: .for_ [3] 7 (.ex (.var 0)) bodyL :: tailL⟩ ([scr ns] ++ []) = [⟨[], scr ns⟩, ⟨[], .hole⟩, ⟨[], .hole⟩, ⟨[], .hole⟩, ⟨[], .hole⟩, ⟨[], .hole⟩, ⟨[], .hole⟩, ⟨[], .hole⟩] := rfl
  show (match Tk.execs prog (callF prog fuel (k + 2)) fuel false (.set 1 (.cst (.str "")) :: .set 2 (.lst []) :: .for_ [3] 7 (.ex (.var 0)) bodyL :: tailL) ⟨[], [⟨[], scr ns⟩, ⟨[], .hole⟩, ⟨[], .hole⟩, ⟨[], .hole⟩, ⟨[], .hole⟩, ⟨[], .hole⟩, ⟨[], .hole⟩, ⟨[], .hole⟩]⟩ with
      | .ok r s => leave (isNew [scr ns]) r s
      | .exc c pl s => .exc c pl s.S
      | .stuck w => .stuck _) = _
  rw [hg0]
  rfl
theorem pure (ns : List Int) (hn : ns.length ≤ 63) : callF prog fuelN 11 false "law" [.nd (.lst true) (ns.map T.int)] [] = .ok (.bl true) [] := pureK ns hn fuelN 8
end Pk
end
set_option maxHeartbeats 0

namespace Pk
open PySem PySem.Spec PyProof.Rows L2 Tk
def top (i : Nat) : Stmt := PySem.Challenge.pw_tieseek_k11_rows_cut_and_put.main.body.getD i (.Pass ⟨0, 0, 0, 0⟩)
def topn : List PySem.Str := ["rows_of", "text_of", "_law_text", "_law_cut", "_law_joined", "_law_right"]
def fn : List He.DefD := [⟨("rows_of", none), "rows_of", "rows_of", defArgs (top 1), defBody (top 1), defScope (top 1), [], []⟩,
  ⟨("text_of", none), "text_of", "text_of", defArgs (top 2), defBody (top 2), defScope (top 2), [], []⟩,
  ⟨("_law_text", none), "_law_text", "_law_text", defArgs (top 4), defBody (top 4), defScope (top 4), [], []⟩,
  ⟨("_law_cut", none), "_law_cut", "_law_cut", defArgs (top 5), defBody (top 5), defScope (top 5), [], []⟩,
  ⟨("_law_joined", none), "_law_joined", "_law_joined", defArgs (top 6), defBody (top 6), defScope (top 6), [], []⟩,
  ⟨("_law_right", none), "_law_right", "_law_right", defArgs (top 7), defBody (top 7), defScope (top 7), [], []⟩,
  ⟨("law", none), "law", "law", defArgs (top 8), defBody (top 8), defScope (top 8), [], []⟩]
def fa : List He.Fa := [.glo "rows_of", .glo "text_of", .glo "_law_text", .glo "_law_cut", .glo "_law_joined", .glo "_law_right", .glo "law", .free "len", .free "int", .free "str", .free "list", .free "dict", .free "tuple", .free "abs", .free "sorted", .free "min", .free "max", .free "sum", .free "any", .free "isinstance", .free "range", .free "enumerate", .free "reversed", .free "set"]
def nm : List PySem.Str := ["rows_of", "text_of", "_law_text", "_law_cut", "_law_joined", "_law_right"]
abbrev R : PySem.W.OpenRow := PySem.W.OpenLaw.row PySem.Challenge.rw_tieseek_k11_rows_cut_and_put
abbrev hk : PySem.W.Hook := He.hookD 4 fa fn
def ob (s : PySem.W.SharedT) : He.AlD := He.obsDG 4 fa fn (HandSHeadRun.getT s)
theorem ob_eq (s : PySem.W.SharedT) : ob s = hk.obs s.abs := He.obsDG_eq (HandSHeadRun.getT_eq s)
theorem run (w : World) : HandSHeadRun.RunEq R (PySem.W.view R.prog [8]) hk ob 20000 nm w := by
  intro os
  kernel_rfl
def caN : PySem.Str → Addr := fun _ => 0
abbrev N_rows_of : List PySem.Str := ["text"]
theorem sc_rows_of : FnScope N_rows_of ["text"] (defScope (top 1)) := ⟨by kernel_rfl, by kernel_rfl, by kernel_rfl, by decide +kernel, by rfl, by decide +kernel, by decide +kernel⟩
theorem ck_rows_of : all2 (chkS ⟨N_rows_of, defScope (top 1), false, prog, [], topn⟩ 60) (defBody (top 1)) d_rows_of.body = true := by kernel_rfl
abbrev N_text_of : List PySem.Str := ["rows"]
theorem sc_text_of : FnScope N_text_of ["rows"] (defScope (top 2)) := ⟨by kernel_rfl, by kernel_rfl, by kernel_rfl, by decide +kernel, by rfl, by decide +kernel, by decide +kernel⟩
theorem ck_text_of : all2 (chkS ⟨N_text_of, defScope (top 2), false, prog, [], topn⟩ 60) (defBody (top 2)) d_text_of.body = true := by kernel_rfl
abbrev N__law_text : List PySem.Str := ["cell", "made", "rest", "k"]
theorem sc__law_text : FnScope N__law_text ["cell"] (defScope (top 4)) := ⟨by kernel_rfl, by kernel_rfl, by kernel_rfl, by decide +kernel, by rfl, by decide +kernel, by decide +kernel⟩
theorem ck__law_text : all2 (chkS ⟨N__law_text, defScope (top 4), false, prog, [], topn⟩ 60) (defBody (top 4)) d__law_text.body = true := by kernel_rfl
abbrev N__law_cut : List PySem.Str := ["text", "rows", "row", "sign"]
theorem sc__law_cut : FnScope N__law_cut ["text"] (defScope (top 5)) := ⟨by kernel_rfl, by kernel_rfl, by kernel_rfl, by decide +kernel, by rfl, by decide +kernel, by decide +kernel⟩
theorem ck__law_cut : all2 (chkS ⟨N__law_cut, defScope (top 5), false, prog, [], topn⟩ 60) (defBody (top 5)) d__law_cut.body = true := by kernel_rfl
abbrev N__law_joined : List PySem.Str := ["rows", "made", "k"]
theorem sc__law_joined : FnScope N__law_joined ["rows"] (defScope (top 6)) := ⟨by kernel_rfl, by kernel_rfl, by kernel_rfl, by decide +kernel, by rfl, by decide +kernel, by decide +kernel⟩
theorem ck__law_joined : all2 (chkS ⟨N__law_joined, defScope (top 6), false, prog, [], topn⟩ 60) (defBody (top 6)) d__law_joined.body = true := by kernel_rfl
abbrev N__law_right : List PySem.Str := ["text", "found", "made"]
theorem sc__law_right : FnScope N__law_right ["text"] (defScope (top 7)) := ⟨by kernel_rfl, by kernel_rfl, by kernel_rfl, by decide +kernel, by rfl, by decide +kernel, by decide +kernel⟩
theorem ck__law_right : all2 (chkS ⟨N__law_right, defScope (top 7), false, prog, [], topn⟩ 60) (defBody (top 7)) d__law_right.body = true := by kernel_rfl
abbrev N_law : List PySem.Str := ["script", "whole", "rows", "cell", "text", "handed", "made"]
theorem sc_law : FnScope N_law ["script"] (defScope (top 8)) := ⟨by kernel_rfl, by kernel_rfl, by kernel_rfl, by decide +kernel, by rfl, by decide +kernel, by decide +kernel⟩
theorem ck_law : all2 (chkU ⟨N_law, defScope (top 8), false, prog, [], topn⟩ 60) (defBody (top 8)) d_law.body = true := by kernel_rfl
theorem modok {K : PySem.W.Frag} {h : Heap} {mg : PySem.Str → Option Value} (X : K.In h) (G : h.Ns mainGlobals mg) (c : He.SaysD fa fn K) : ModOk K mg caN prog [] topn := by
  have hfree : ∀ x ∈ bltNames, mg x = none := by
    intro x hx
    unfold bltNames at hx
    simp only [List.mem_cons, List.not_mem_nil, or_false] at hx
    rcases hx with rfl | rfl | rfl | rfl | rfl | rfl | rfl | rfl | rfl | rfl | rfl | rfl | rfl | rfl | rfl | rfl | rfl
    · exact He.free_ok X G (c.fact 7 (f := .free "len") rfl)
    · exact He.free_ok X G (c.fact 8 (f := .free "int") rfl)
    · exact He.free_ok X G (c.fact 9 (f := .free "str") rfl)
    · exact He.free_ok X G (c.fact 10 (f := .free "list") rfl)
    · exact He.free_ok X G (c.fact 11 (f := .free "dict") rfl)
    · exact He.free_ok X G (c.fact 12 (f := .free "tuple") rfl)
    · exact He.free_ok X G (c.fact 13 (f := .free "abs") rfl)
    · exact He.free_ok X G (c.fact 14 (f := .free "sorted") rfl)
    · exact He.free_ok X G (c.fact 15 (f := .free "min") rfl)
    · exact He.free_ok X G (c.fact 16 (f := .free "max") rfl)
    · exact He.free_ok X G (c.fact 17 (f := .free "sum") rfl)
    · exact He.free_ok X G (c.fact 18 (f := .free "any") rfl)
    · exact He.free_ok X G (c.fact 19 (f := .free "isinstance") rfl)
    · exact He.free_ok X G (c.fact 20 (f := .free "range") rfl)
    · exact He.free_ok X G (c.fact 21 (f := .free "enumerate") rfl)
    · exact He.free_ok X G (c.fact 22 (f := .free "reversed") rfl)
    · exact He.free_ok X G (c.fact 23 (f := .free "set") rfl)
  refine ⟨(fun x t h => by cases h), hfree, fun f F ht hF => ?_, fun x yn h => isi_tab (l := prog.isi) (by decide +kernel) (fun r hr => hfree _ ?_) (fun r hr => ?_) x yn h, kit_tab (by decide +kernel)⟩
  · have hm : f ∈ topn := List.contains_iff_mem.mp ht
    unfold topn at hm
    simp only [List.mem_cons, List.not_mem_nil, or_false] at hm
    rcases hm with rfl | rfl | rfl | rfl | rfl | rfl
    · have e : prog.fns.lookup ("rows_of" : PySem.Str) = some d_rows_of := by rfl
      rw [e] at hF
      cases hF
      obtain ⟨fd, FD⟩ := c.def_ 0 rfl
      exact ⟨_, fd, _, _, _, _, _, N_rows_of, _, 60, FD, sc_rows_of, rfl, by decide, fun _ => He.glo_ok X G (c.fact 0 (f := .glo "rows_of") rfl), FD.bindsN fun _ _ _ _ _ _ us hl => match us, hl with | [_], _ => rfl, ck_rows_of, by decide⟩
    · have e : prog.fns.lookup ("text_of" : PySem.Str) = some d_text_of := by rfl
      rw [e] at hF
      cases hF
      obtain ⟨fd, FD⟩ := c.def_ 1 rfl
      exact ⟨_, fd, _, _, _, _, _, N_text_of, _, 60, FD, sc_text_of, rfl, by decide, fun _ => He.glo_ok X G (c.fact 1 (f := .glo "text_of") rfl), FD.bindsN fun _ _ _ _ _ _ us hl => match us, hl with | [_], _ => rfl, ck_text_of, by decide⟩
    · have e : prog.fns.lookup ("_law_text" : PySem.Str) = some d__law_text := by rfl
      rw [e] at hF
      cases hF
      obtain ⟨fd, FD⟩ := c.def_ 2 rfl
      exact ⟨_, fd, _, _, _, _, _, N__law_text, _, 60, FD, sc__law_text, rfl, by decide, fun _ => He.glo_ok X G (c.fact 2 (f := .glo "_law_text") rfl), FD.bindsN fun _ _ _ _ _ _ us hl => match us, hl with | [_], _ => rfl, ck__law_text, by decide⟩
    · have e : prog.fns.lookup ("_law_cut" : PySem.Str) = some d__law_cut := by rfl
      rw [e] at hF
      cases hF
      obtain ⟨fd, FD⟩ := c.def_ 3 rfl
      exact ⟨_, fd, _, _, _, _, _, N__law_cut, _, 60, FD, sc__law_cut, rfl, by decide, fun _ => He.glo_ok X G (c.fact 3 (f := .glo "_law_cut") rfl), FD.bindsN fun _ _ _ _ _ _ us hl => match us, hl with | [_], _ => rfl, ck__law_cut, by decide⟩
    · have e : prog.fns.lookup ("_law_joined" : PySem.Str) = some d__law_joined := by rfl
      rw [e] at hF
      cases hF
      obtain ⟨fd, FD⟩ := c.def_ 4 rfl
      exact ⟨_, fd, _, _, _, _, _, N__law_joined, _, 60, FD, sc__law_joined, rfl, by decide, fun _ => He.glo_ok X G (c.fact 4 (f := .glo "_law_joined") rfl), FD.bindsN fun _ _ _ _ _ _ us hl => match us, hl with | [_], _ => rfl, ck__law_joined, by decide⟩
    · have e : prog.fns.lookup ("_law_right" : PySem.Str) = some d__law_right := by rfl
      rw [e] at hF
      cases hF
      obtain ⟨fd, FD⟩ := c.def_ 5 rfl
      exact ⟨_, fd, _, _, _, _, _, N__law_right, _, 60, FD, sc__law_right, rfl, by decide, fun _ => He.glo_ok X G (c.fact 5 (f := .glo "_law_right") rfl), FD.bindsN fun _ _ _ _ _ _ us hl => match us, hl with | [_], _ => rfl, ck__law_right, by decide⟩
  · exact (by decide +kernel : ∀ r ∈ prog.isi, r.1 ∈ bltNames) r hr
  · exact (by decide +kernel : ∀ r ∈ prog.isi, r.1 ≠ ("__name__" : PySem.Str)) r hr
theorem ini : ∀ f, topn.contains f = true → isIni prog f = false := fun f _ => rfl
theorem facts {P : Program} {w : World} {K : PySem.W.Frag} {h : Heap} {mg : PySem.Str → Option Value} {f : Addr} (X : K.In h) (G : h.Ns mainGlobals mg) (hfa : mg ("law" : PySem.Str) = some (.ref f)) (c : He.SaysD fa fn K) :
    ∃ fd : FuncData, (∀ (s : Shared) (v : Value), BindsTo s fd ⟨[v], []⟩ [("script", v)]) ∧ ∀ base : Heap, K.In base → base.Ns mainGlobals mg → FnOk P w K mg base (L2.CX P w) 12 f fd ["script"] (spF caN K false 1 (callF prog fuelN 11 false "law")) := by
  obtain ⟨fd, FD⟩ := c.def_ 6 rfl
  have e := hfa.symm.trans (He.glo_ok X G (c.fact 6 (f := .glo "law") rfl))
  cases e
  have b := FunD.bindsA (ps := ["script"]) FD fun _ _ _ _ _ _ us hl => match us, hl with | [_], _ => rfl
  refine ⟨fd, fun s v => b s [v] rfl, fun base KB GB => ?_⟩
  exact law_okT (F := d_law) (modok X G c) ini fuelN 10 (by rfl) FD sc_law rfl (by decide) (by decide) (by decide) (by decide +kernel) ck_law
end Pk
open PySem PySem.W PySem.Calls PyProof.Rows
theorem PySem.Challenge.cw_tieseek_k11_rows_cut_and_put_holds : PySem.Challenge.rw_tieseek_k11_rows_cut_and_put.Holds := by
  w_on; o_law
  refine HandSHeadRun.head_any (r := OpenLaw.row PySem.Challenge.rw_tieseek_k11_rows_cut_and_put) (q := view (OpenLaw.row PySem.Challenge.rw_tieseek_k11_rows_cut_and_put).prog [8]) (H := Pk.hk) (ob := Pk.ob) (M := 20000) (loose := Pk.nm) (d := HandSHeadRun.topDef (OpenLaw.row PySem.Challenge.rw_tieseek_k11_rows_cut_and_put).prog 8) (kwd := []) Pk.ob_eq
    (by kernel_rfl) (fun s => by kernel_rfl) Pk.run (by kernel_rfl) (by kernel_rfl) (by kernel_rfl) (by rfl) (by first | assumption | decide +kernel) (by decide +kernel) ⟨rfl, rfl, rfl, rfl, rfl, by decide +kernel⟩ ?hw ?hc
  case hw => w_witness2
  case hc =>
    refine Tk.walk_end (l := PySem.Challenge.rw_tieseek_k11_rows_cut_and_put) (n := 63) (k := 12) (x := "script") rfl (by decide) (by kernel_rfl) ⟨rfl, by decide, by decide⟩ ?F
    intro w mg fa h Y G hmg0
    obtain ⟨K, KX, c⟩ := Y
    have hmg : mg ("law" : PySem.Str) = some (.ref fa) := by
      have e : (HandSHeadRun.topDef (OpenLaw.row PySem.Challenge.rw_tieseek_k11_rows_cut_and_put).prog 8).name = ("law" : PySem.Str) := by kernel_rfl
      rw [← e]
      exact hmg0
    obtain ⟨fd, hb, hF⟩ := Pk.facts (P := (PySem.Challenge.rw_tieseek_k11_rows_cut_and_put).prog) (w := w) KX G hmg c
    exact ⟨K, fd, _, KX, hb, fun H a ns hl hO hS => Tk.law_sp ns (Pk.pure ns hl) H a hO hS, hF⟩
