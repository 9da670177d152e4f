import PyProof.Rows.All
import Wide.All
import OpenK.AllK
import Wide.FinOn
import KE.IntText
import KE.KDictList
import KE.KDictOf
import KE.KIntText
import PyProof.CallStr
import PyProof.CallTypeRange
import PyProof.Cells
import PyProof.CompFree
import PyProof.CompIC
import PyProof.CompMap
import PyProof.ConsumeWalk
import PyProof.DictCalls
import PyProof.DictDisplay
import PyProof.DictRoads
import PyProof.DictStraight
import PyProof.DictTruth
import PyProof.DictUpdate
import PyProof.DictWalks
import PyProof.Ends
import PyProof.EnumMake
import PyProof.EqKinds
import PyProof.ForAny
import PyProof.ForRange
import PyProof.IsiHeapPairs
import PyProof.IsiNone
import PyProof.IsiPairs
import PyProof.IsiSeqPairs
import PyProof.LetGo
import PyProof.ListCopy
import PyProof.ListIndex
import PyProof.ListIndexNeg
import PyProof.ListOps
import PyProof.MeetsDictList
import PyProof.Methods
import PyProof.NeKinds
import PyProof.NsMap
import PyProof.P3Eq
import PyProof.P3Statements
import PyProof.PureInt
import PyProof.PureStr
import PyProof.Raises
import PyProof.ReprBulk
import PyProof.ReprReads
import PyProof.ReprRoads
import PyProof.Rows.IntRules
import PyProof.Rows.RuleB_floordiv
import PyProof.Rows.RuleB_mod
import PyProof.Rows.RuleB_pow
import PyProof.Rows.RuleB_small
import PyProof.Rows.RuleN_abs
import PyProof.Rows.SortStr
import PyProof.Rows.SortWalk
import PyProof.Rows.StrRules
import PyProof.Rows.StrTemp
import PyProof.Rows.Top
import PyProof.Rows.Walk
import PyProof.Rules2
import PyProof.Rules3
import PyProof.SeqInW
import PyProof.SliceMore
import PyProof.SliceStr2
import PyProof.StrBlock
import PyProof.StrBlock2
import PyProof.StrBlockI
import PyProof.StrBlockL
import PyProof.StrCalls3
import PyProof.StrOps2
import PyProof.StrWalks
import PyProof.TableCode
import PyProof.TupleKey
import PyProof.TupleOfSeq
import PyProof.TupleOps
import PyProof.WalkInts
import PyProof.WalksEnum
import PyProof.WalksMore
import PySem.PyData
import PySem.Syntax
import Wide.Seal
import Wide.Well
import Lean
import PySem.Challenge.RW_uf010037_01
set_option Elab.async false
set_option linter.all false
namespace Mine
open PySem

structure Exn where
  cls : Str
  args : List PyData

inductive P (α : Type) where
  | no
  | err (e : Exn)
  | ok (a : α)

noncomputable def P.bind {α β : Type} (x : P α) (f : α → P β) : P β :=
  match x with
  | .no => .no
  | .err e => .err e
  | .ok a => f a

inductive V where
  | fz (d : PyData)
  | own (d : PyData)
  | exc (e : Exn)

abbrev Store := List (Str × Option V)

noncomputable def Store.get : Store → Str → Option (Option V)
  | [], _ => none
  | (y, v) :: r, x => if x = y then some v else Store.get r x

noncomputable def Store.set : Store → Str → V → Store
  | [], _, _ => []
  | (y, v) :: r, x, u => if x = y then (y, some u) :: r else (y, v) :: Store.set r x u

noncomputable def V.clear : V → V
  | .own d => .fz d
  | v => v

noncomputable def Store.clear : Store → List Str → Store
  | [], _ => []
  | (y, v) :: r, xs => (y, if xs.contains y then v.map V.clear else v) :: Store.clear r xs

noncomputable def dOf : V → P PyData
  | .fz d => .ok d
  | .own d => .ok d
  | .exc _ => .no

noncomputable def ofO {α : Type} : Option α → P α
  | some a => .ok a
  | none => .no

/-! data -/
noncomputable def isNum : PyData → Option Int
  | .int i => some i
  | _ => none

noncomputable def truth : PyData → P Bool
  | .bool b => .ok b
  | _ => .no

noncomputable def truthV : V → P Bool
  | .fz d => truth d
  | _ => .no

noncomputable def strN : Nat := 16777216

noncomputable def mkS (s : Str) : P V := if s.length ≤ strN then .ok (.fz (.str s)) else .no

noncomputable def repS (x : Str) (n : Int) : Str :=
  if n < 1 then Str.empty else if (n == 1 || x.length == 0) = true then x else ⟨(List.replicate n.toNat x.cps).foldl (· ++ ·) #[]⟩

noncomputable def binop (op : Operator) (a b : PyData) : P V :=
  match op, a, b with
  | .Add, .int x, .int y => .ok (.fz (.int (x + y)))
  | .Sub, .int x, .int y => .ok (.fz (.int (x - y)))
  | .Mult, .int x, .int y => if x.natAbs < 2 ^ 63 ∨ y.natAbs < 2 ^ 63 then .ok (.fz (.int (x * y))) else .no
  | .FloorDiv, .int x, .int y => if y ≠ 0 ∧ y.natAbs < 2 ^ 63 then .ok (.fz (.int (x.fdiv y))) else .no
  | .Mod, .int x, .int y => if y ≠ 0 then .ok (.fz (.int (x.fmod y))) else .no
  | .Pow, .int x, .int y => if 0 ≤ y ∧ y ≤ 1000 ∧ x.natAbs < 2 ^ 63 then .ok (.fz (.int (x ^ y.toNat))) else .no
  | .Add, .str x, .str y => if x.length + y.length ≤ strN then .ok (.fz (.str (x ++ y))) else .no
  | .Mult, .str x, .int y => if -100 ≤ y ∧ y ≤ 1024 ∧ x.length ≤ 1024 then .ok (.fz (.str (repS x y))) else .no
  | .Add, .list x, .list y => if x.length + y.length ≤ strN then .ok (.own (.list (x ++ y))) else .no
  | .Add, .tuple x, .tuple y => if x.length + y.length ≤ strN ∧ x.length ≠ 0 ∧ y.length ≠ 0 then .ok (.fz (.tuple (x ++ y))) else .no
  | _, _, _ => .no

mutual
/-- no dict within -/
noncomputable def flat : PyData → Bool
  | .dict _ => false
  | .list xs => flatAll xs
  | .tuple xs => flatAll xs
  | _ => true
noncomputable def flatAll : List PyData → Bool
  | [] => true
  | x :: r => flat x && flatAll r
end

/-- equality, where it is told -/
noncomputable def eqO (a b : PyData) : Option Bool := if flat a && flat b && decide (a.depth ≤ 60) then some (PyData.eqv a b) else none

noncomputable def insS (a : Str) : List Str → List Str
  | [] => [a]
  | b :: r => if b.cps.toList < a.cps.toList then b :: insS a r else a :: b :: r
noncomputable def sortS : List Str → List Str
  | [] => []
  | a :: r => insS a (sortS r)

noncomputable def strs? : List PyData → Option (List Str)
  | [] => some []
  | .str s :: r => (strs? r).map (s :: ·)
  | _ :: _ => none

noncomputable def keyEq : PyData → PyData → Bool
  | .str x, .str y => x == y
  | _, _ => false

noncomputable def strKeys : List (PyData × PyData) → Bool
  | [] => true
  | (.str _, _) :: r => strKeys r
  | _ => false

noncomputable def dGet : List (PyData × PyData) → Str → Option PyData
  | [], _ => none
  | (.str y, v) :: r, x => if x = y then some v else dGet r x
  | _ :: r, x => dGet r x

noncomputable def dSet : List (PyData × PyData) → Str → PyData → List (PyData × PyData)
  | [], x, u => [(.str x, u)]
  | (.str y, v) :: r, x, u => if x = y then (.str y, u) :: r else (.str y, v) :: dSet r x u
  | p :: r, x, u => p :: dSet r x u

noncomputable def dDel : List (PyData × PyData) → Str → List (PyData × PyData)
  | [], _ => []
  | (.str y, v) :: r, x => if x = y then r else (.str y, v) :: dDel r x
  | p :: r, x => p :: dDel r x

noncomputable def idx (n : Nat) (i : Int) : Option Nat := seqIndex? i n

noncomputable def slice {α : Type} (l : List α) (lo hi : Option Int) : List α := (l.drop (lo.elim 0 (clipAt l.length))).take (hi.elim l.length (clipAt l.length) - lo.elim 0 (clipAt l.length))

noncomputable def charD (c : Nat) : PyData := .str ⟨#[c]⟩

noncomputable def getItem (a i : PyData) : P V :=
  match a, i with
  | .list l, .int k => match idx l.length k with
    | some j => match l[j]? with | some d => .ok (.fz d) | none => .no
    | none => .no
  | .tuple l, .int k => match idx l.length k with
    | some j => match l[j]? with | some d => .ok (.fz d) | none => .no
    | none => .no
  | .str s, .int k => match idx s.cps.size k with
    | some j => match s.cps[j]? with | some c => .ok (.fz (charD c)) | none => .no
    | none => .no
  | .dict l, .str x => if strKeys l then (match dGet l x with | some d => .ok (.fz d) | none => .no) else .no
  | _, _ => .no

noncomputable def getSlice (a : PyData) (lo hi : Option Int) : P V :=
  match a with
  | .list l => .ok (.own (.list (slice l lo hi)))
  | .str s => .ok (.fz (.str ⟨(slice s.cps.toList lo hi).toArray⟩))
  | _ => .no

noncomputable def contains (a b : PyData) : P Bool :=
  match a, b with
  | .str x, .str y => .ok (Txt.contains y x)
  | .str x, .dict l => if strKeys l then .ok (dGet l x).isSome else .no
  | .str x, .list l => (ofO (strs? l)).bind fun ss => .ok (ss.contains x)
  | .str x, .tuple l => (ofO (strs? l)).bind fun ss => .ok (ss.contains x)
  | _, _ => .no

noncomputable def notP : P Bool → P Bool
  | .ok b => .ok (!b)
  | .err e => .err e
  | .no => .no

noncomputable def isNoneD : PyData → Bool
  | .none => true
  | _ => false

noncomputable def isSame (a b : PyData) : P Bool :=
  match b with
  | .none => .ok (isNoneD a)
  | .bool y => match a with
    | .bool x => .ok (x == y)
    | _ => .no
  | _ => .no

noncomputable def cmp (op : CmpOp) (a b : PyData) : P Bool :=
  match op with
  | .Eq => ofO (eqO a b)
  | .NotEq => notP (ofO (eqO a b))
  | .Lt => match a, b with | .int x, .int y => .ok (decide (x < y)) | _, _ => .no
  | .LtE => match a, b with | .int x, .int y => .ok (decide (x ≤ y)) | _, _ => .no
  | .Gt => match a, b with | .int x, .int y => .ok (decide (y < x)) | _, _ => .no
  | .GtE => match a, b with | .int x, .int y => .ok (decide (y ≤ x)) | _, _ => .no
  | .In => contains a b
  | .NotIn => notP (contains a b)
  | .Is => isSame a b
  | .IsNot => notP (isSame a b)

noncomputable def items : PyData → P (List PyData)
  | .list l => .ok l
  | .tuple l => .ok l
  | .dict l => .ok (l.map (·.1))
  | .str s => .ok (s.cps.toList.map charD)
  | _ => .no

noncomputable def enumFrom (i : Int) : List PyData → List PyData
  | [] => []
  | x :: r => .tuple [.int i, x] :: enumFrom (i + 1) r

noncomputable def zipD : List PyData → List PyData → List PyData
  | a :: x, b :: y => .tuple [a, b] :: zipD x y
  | _, _ => []

noncomputable def rangeD (i : Int) : Nat → List PyData
  | 0 => []
  | n + 1 => .int i :: rangeD (i + 1) n

noncomputable def bools? : List PyData → Option (List Bool)
  | [] => some []
  | .bool b :: r => (bools? r).map (b :: ·)
  | _ :: _ => none

noncomputable def allD (l : List PyData) : P Bool := (ofO (bools? l)).bind fun bs => .ok (bs.all id)

noncomputable def dedup : List Str → List Str
  | [] => []
  | a :: r => if r.contains a then dedup r else a :: dedup r

noncomputable def ofPairs : List PyData → List (PyData × PyData) → Option (List (PyData × PyData))
  | [], acc => some acc
  | .tuple [.str k, v] :: r, acc => ofPairs r (dSet acc k v)
  | _ :: _, _ => none

noncomputable def strOfInt (i : Int) : Str := Str.ofString (toString i)

noncomputable def reprX (d : PyData) : P V := if d.showable && decide (d.depth ≤ 60) && decide (d.shown.length ≤ strN) then .ok (.fz (.str d.shown)) else .no

noncomputable def dupdate : List (PyData × PyData) → List (PyData × PyData) → List (PyData × PyData)
  | acc, [] => acc
  | acc, (.str k, v) :: r => dupdate (dSet acc k v) r
  | acc, _ :: r => dupdate acc r

noncomputable def typ (t : Str) (d : PyData) : Option Bool :=
  if t = "dict" then some (match d with | .dict _ => true | _ => false)
  else if t = "int" then some (match d with | .int _ => true | .bool _ => true | _ => false)
  else if t = "bool" then some (match d with | .bool _ => true | _ => false)
  else if t = "str" then some (match d with | .str _ => true | _ => false)
  else if t = "list" then some (match d with | .list _ => true | _ => false)
  else if t = "tuple" then some (match d with | .tuple _ => true | _ => false)
  else none

noncomputable def isExc (t : Str) (e : Exn) : Bool := t == e.cls || t == "ViewError" || t == "ValueError"

structure Ctx where
  call : Str → List V → P V
  has : Str → Bool
  const : Str → Option PyData

noncomputable def fz (d : PyData) : P V := .ok (.fz d)
noncomputable def own (d : PyData) : P V := .ok (.own d)
noncomputable def fzb (b : P Bool) : P V := b.bind fun b => .ok (.fz (.bool b))

noncomputable def strItems : PyData → P (List Str)
  | .list l => ofO (strs? l)
  | _ => .no

noncomputable def lenD : PyData → P V
  | .list l => fz (.int l.length)
  | .tuple l => fz (.int l.length)
  | .dict l => if strKeys l then fz (.int l.length) else .no
  | .str s => fz (.int s.cps.size)
  | _ => .no
noncomputable def allB : PyData → P V
  | .list l => fzb (allD l)
  | _ => .no
noncomputable def sortD (d : PyData) : P V := (strItems d).bind fun l => if l.length < 64 then own (.list ((sortS l).map .str)) else .no
noncomputable def listD : PyData → P V
  | .list l => own (.list l)
  | .tuple l => own (.list l)
  | .dict l => if strKeys l then own (.list (l.map (·.1))) else .no
  | _ => .no
noncomputable def tupD : PyData → P V
  | .list l => fz (.tuple l)
  | _ => .no
noncomputable def dictD : PyData → P V
  | .dict l => if strKeys l then own (.dict l) else .no
  | _ => .no
noncomputable def intD : PyData → P V
  | .int i => fz (.int i)
  | .bool b => fz (.int (if b then 1 else 0))
  | .str s => if s.length ≤ 640 then (ofO (PySem.intText? s)).bind fun i => fz (.int i) else .no
  | _ => .no
noncomputable def strD : PyData → P V
  | .str s => fz (.str s)
  | .int i => if i.natAbs.log2 < 1920 then fz (.str (strOfInt i)) else .no
  | _ => .no
noncomputable def absD : PyData → P V
  | .int i => fz (.int (if i < 0 then -i else i))
  | _ => .no

noncomputable def builtin1 (f : Str) (d : PyData) : P V :=
  if f = "len" then lenD d
  else if f = "all" then allB d
  else if f = "sorted" then sortD d
  else if f = "list" then listD d
  else if f = "tuple" then tupD d
  else if f = "dict" then dictD d
  else if f = "repr" then reprX d
  else if f = "int" then intD d
  else if f = "str" then strD d
  else if f = "abs" then absD d
  else .no

noncomputable def isB1 (f : Str) : Bool := f == "len" || f == "all" || f == "sorted" || f == "list" || f == "tuple" || f == "dict" || f == "repr" || f == "int" || f == "str" || f == "abs"

noncomputable def mGet (o : PyData) (as : List PyData) : P V :=
  match o, as with
  | .dict l, [.str k] => if strKeys l then fz ((dGet l k).getD .none) else .no
  | .dict l, [.str k, d] => if strKeys l then fz ((dGet l k).getD d) else .no
  | _, _ => .no
noncomputable def mJoin (o : PyData) (as : List PyData) : P V :=
  match o, as with
  | .str sep, [.list l] => (ofO (strs? l)).bind fun l => if JoinOk sep l then fz (.str (Txt.join sep l)) else .no
  | _, _ => .no

noncomputable def mOk (m : Str) (o : PyData) : Bool :=
  match o with
  | .dict l => decide (m = "get") && strKeys l
  | .str _ => decide (m = "join")
  | _ => false

noncomputable def method (m : Str) (o : PyData) (as : List PyData) : P V :=
  if m = "get" then mGet o as
  else if m = "join" then mJoin o as
  else .no

noncomputable def optInt : Option (P V) → P (Option Int)
  | none => .ok none
  | some x => x.bind fun v => match v with | .fz (.int i) => .ok (some i) | _ => .no

/-- expressions, one layer -/
noncomputable def evs (rec : Expr → P V) : List Expr → P (List V)
  | [] => .ok []
  | e :: r => (rec e).bind fun v => (evs rec r).bind fun vs => .ok (v.clear :: vs)

noncomputable def dsOf : List V → P (List PyData)
  | [] => .ok []
  | v :: r => (dOf v).bind fun d => (dsOf r).bind fun ds => .ok (d :: ds)

noncomputable def isG (sc : Scope) (x : Str) : Bool := sc.names.lookup x == some .globalImplicit

noncomputable def isL (sc : Scope) (x : Str) : Bool :=
  match sc.names.lookup x with
  | some .local => true
  | some .cell => true
  | some .free => true
  | _ => false

noncomputable def evAnd (rec : Expr → P V) : List Expr → P V
  | [] => .no
  | e :: r => match r with
    | [] => rec e
    | r => (rec e).bind fun v => (truthV v).bind fun b => if b then evAnd rec r else .ok v
noncomputable def evOr (rec : Expr → P V) : List Expr → P V
  | [] => .no
  | e :: r => match r with
    | [] => rec e
    | r => (rec e).bind fun v => (truthV v).bind fun b => if b then .ok v else evOr rec r

noncomputable def evCmp1 (rec : Expr → P V) (a : PyData) (op : CmpOp) (e : Expr) : P Bool := (rec e).bind fun v => (dOf v).bind fun b => cmp op a b

noncomputable def evCmp (rec : Expr → P V) (a : PyData) (ops : List CmpOp) (es : List Expr) : P Bool :=
  match ops, es with
  | [op], [e] => evCmp1 rec a op e
  | [op, op'], [e, e'] => (rec e).bind fun v => (dOf v).bind fun b => (cmp op a b).bind fun t => if t then evCmp1 rec b op' e' else .ok false
  | _, _ => .no

noncomputable def evPairs (rec : Expr → P V) : List (Option Expr) → List Expr → P (List (PyData × PyData))
  | [], [] => .ok []
  | some k :: ks, e :: es => (rec k).bind fun k => (dOf k).bind fun k => (rec e).bind fun v => (dOf v).bind fun v => (evPairs rec ks es).bind fun r => .ok ((k, v) :: r)
  | _, _ => .no

noncomputable def dispSet : List (PyData × PyData) → List (PyData × PyData) → Option (List (PyData × PyData))
  | acc, [] => some acc
  | acc, (.str k, v) :: r => dispSet (dSet acc k v) r
  | _, _ => none

noncomputable def oddKey : PyData → Bool
  | .int _ => true
  | .none => true
  | .tuple [.str _] => true
  | _ => false

noncomputable def evDisp (l : List (PyData × PyData)) : P V :=
  match dispSet [] l with
  | some l => .ok (.own (.dict l))
  | none => match l with
    | [(k, v)] => if oddKey k then .ok (.fz (.dict [(k, v)])) else .no
    | _ => .no

noncomputable def bindT (target : Expr) (d : PyData) (σ : Store) : Option Store :=
  match target with
  | .Name x _ => some ((".0", none) :: (x, some (.fz d)) :: σ)
  | .Tuple [.Name x _, .Name y _] _ _ => match d with | .tuple [a, b] => some ((".0", none) :: (y, some (.fz b)) :: (x, some (.fz a)) :: σ) | _ => none
  | _ => none

noncomputable def starred : Expr → Bool
  | .Starred _ _ => true
  | _ => false

noncomputable def evPlain (rec : Expr → P V) (e : Expr) : P (List PyData) := (rec e).bind fun v => (dOf v).bind items

noncomputable def rangeOf (a b : Int) : P (List PyData) := if -4096 ≤ a ∧ a ≤ 4096 ∧ -4096 ≤ b ∧ b ≤ 4096 then .ok (rangeD a (b - a).toNat) else .no

noncomputable def evRange1 (rec : Expr → P V) (a : Expr) : P (List PyData) := (rec a).bind fun v => match v with
  | .fz (.int n) => rangeOf 0 n
  | _ => .no

noncomputable def evRange2 (rec : Expr → P V) (a b : Expr) : P (List PyData) := if starred b then .no else (rec a).bind fun v => match v with
  | .fz (.int n) => (rec b).bind fun u => match u with
    | .fz (.int m) => rangeOf n m
    | _ => .no
  | _ => .no

noncomputable def tupTarget : Expr → Bool
  | .Tuple _ _ _ => true
  | _ => false

noncomputable def evEnum (rec : Expr → P V) (a : Expr) : P (List PyData) := (rec a).bind fun v => (dOf v).bind fun d => match d with
  | .list l => .ok (enumFrom 0 l)
  | _ => .no

noncomputable def evIter (rec : Expr → P V) (sc : Scope) (target : Expr) (e : Expr) : P (List PyData) :=
  match e with
  | .Call (.Name f p) [a] [] q =>
    if f = "range" then (if isG sc f then evRange1 rec a else .no)
    else if f = "enumerate" then (if isG sc f && tupTarget target then evEnum rec a else .no)
    else evPlain rec (.Call (.Name f p) [a] [] q)
  | .Call (.Name f p) [a, b] [] q =>
    if f = "range" then (if isG sc f then evRange2 rec a b else .no)
    else evPlain rec (.Call (.Name f p) [a, b] [] q)
  | e => evPlain rec e

noncomputable def compF (test : Store → P Bool) (elt : Store → P V) (target : Expr) (σ : Store) : List PyData → P (List PyData)
  | [] => .ok []
  | d :: r => match bindT target d σ with
    | none => .no
    | some σ' => (test σ').bind fun b =>
      if b then (elt σ').bind fun v => (dOf v).bind fun x => (compF test elt target σ r).bind fun xs => .ok (x :: xs)
      else compF test elt target σ r

noncomputable def recv (rec : Expr → P V) (sc : Scope) (σ : Store) (o : Expr) : P PyData :=
  match o with
  | .Name x _ => match Store.get σ x with
    | some (some (.own d)) => if isL sc x then .ok d else .no
    | _ => (rec o).bind dOf
  | _ => (rec o).bind dOf

noncomputable def targets : Expr → List Str
  | .Name x _ => [x]
  | .Tuple [.Name x _, .Name y _] _ _ => [x, y]
  | _ => []

noncomputable def isCF : Option NameKind → Bool
  | some .cell => true
  | some .free => true
  | _ => false

/-- a comprehension's block: its own names are its targets -/
noncomputable def compOk (sc sc' : Scope) (target : Expr) : Bool :=
  sc'.kind == .function && (sc'.names.all fun p => match p.2 with
    | .local => (p.1 == ".0" || (targets target).contains p.1) && sc'.names.lookup p.1 == some .local
    | .cell => false
    | .free => isCF (sc.names.lookup p.1)
    | _ => true) && ((targets target).all fun x => x != ".0" && sc'.names.lookup x == some .local) && (sc'.names.lookup (Str.ofString "__debug__")).isNone && (sc'.names.lookup (Str.ofString "__classdict__")).isNone && (match targets target with
    | [x, y] => x != y
    | _ => true)

noncomputable def apply1 (f : Str) (vs : List V) : P V :=
  match vs with
  | [v] => (dOf v).bind fun d => builtin1 f d
  | _ => .no

noncomputable def minV : List V → P V
  | [.fz (.int x), .fz (.int y)] => fz (.int (if y < x then y else x))
  | _ => .no

noncomputable def apply2 (f : Str) (vs : List V) : P V := if f = "min" then minV vs else .no

noncomputable def isinst (t : Str) (v : V) : P V :=
  match v with
  | .exc e => fz (.bool (isExc t e))
  | .fz d => (ofO (typ t d)).bind fun b => fz (.bool b)
  | .own d => (ofO (typ t d)).bind fun b => fz (.bool b)

noncomputable def setOrItems : Expr → Bool
  | .Call (.Name g _) _ _ _ => decide (g = "set")
  | .Call (.Attribute _ m _) _ _ _ => decide (m = "items")
  | _ => false

noncomputable def evCallName (rec : Expr → P V) (K : Ctx) (sc : Scope) (f : Str) (as : List Expr) : P V :=
  if isG sc f then
    if f = "isinstance" then match as with
      | [a, .Name t _] => if isG sc t then (rec a).bind fun v => isinst t v else .no
      | _ => .no
    else if f = "min" then (if as.any starred then .no else (evs rec as).bind fun vs => apply2 f vs)
    else if isB1 f then match as with
      | [a] => if setOrItems a then .no else (rec a).bind fun v => (dOf v).bind fun d => builtin1 f d
      | _ => .no
    else if as.any starred = true ∨ K.has f = false then .no else (evs rec as).bind fun vs => K.call f vs
  else .no

noncomputable def testOf (rec : Scope → Store → Expr → P V) (sc' : Scope) : List Expr → Option (Store → P Bool)
  | [] => some fun _ => .ok true
  | [c] => some fun σ' => (rec sc' σ' c).bind truthV
  | _ => none

noncomputable def evComp (rec : Scope → Store → Expr → P V) (sc : Scope) (σ : Store) (elt : Expr) (g : Comprehension) (sc' : Scope) : P V :=
  if compOk sc sc' g.target && g.is_async == 0 then match testOf rec sc' g.ifs with
    | none => .no
    | some t => ((evIter (rec sc σ) sc g.target g.iter).bind fun l => compF t (fun σ' => rec sc' σ' elt) g.target σ l).bind fun r => own (.list r)
  else .no

noncomputable def evName (K : Ctx) (sc : Scope) (σ : Store) (x : Str) : P V :=
  if isL sc x then match Store.get σ x with
    | some (some (.fz d)) => .ok (.fz d)
    | some (some (.exc e)) => .ok (.exc e)
    | _ => .no
  else if isG sc x then match K.const x with | some d => fz d | none => .no
  else .no

noncomputable def evConst : Const → P V
  | .none => fz .none
  | .bool b => fz (.bool b)
  | .int i => fz (.int i)
  | .str s => mkS s
  | _ => .no

noncomputable def evUn (op : UnaryOp) (v : V) : P V :=
  match op with
  | .Not => (truthV v).bind fun b => fz (.bool !b)
  | .USub => match v with | .fz (.int i) => fz (.int (-i)) | _ => .no
  | _ => .no

noncomputable def evIdx (rec : Expr → P V) (a : PyData) (i : Expr) : P V := (rec i).bind fun i => (dOf i).bind fun i => getItem a i

noncomputable def evSub (rec : Expr → P V) (sc : Scope) (σ : Store) (o i : Expr) : P V :=
  (recv rec sc σ o).bind fun a => match i with
    | .Slice lo hi st _ => match st with
      | none => (optInt (lo.map rec)).bind fun lo => (optInt (hi.map rec)).bind fun hi => getSlice a lo hi
      | some _ => .no
    | i => evIdx rec a i

noncomputable def plainBase : Expr → Bool
  | .Call (.Name _ _) _ _ _ => false
  | _ => true

noncomputable def evAttr (attr : Str) (v : V) : P V :=
  match v with
  | .exc ⟨c, as⟩ => if c = "BadPut" then match as with
      | [w, k, p] => if attr = "way" then fz w else if attr = "kind" then fz k else if attr = "part" then fz p else .no
      | _ => .no
    else .no
  | _ => .no

noncomputable def stepE (rec : Scope → Store → Expr → P V) (K : Ctx) (sc : Scope) (σ : Store) (e : Expr) : P V :=
  match e with
  | .Constant c _ _ => evConst c
  | .Name x _ => evName K sc σ x
  | .BoolOp op vs _ => match op with | .And => evAnd (rec sc σ) vs | .Or => evOr (rec sc σ) vs
  | .BinOp l op r _ => (rec sc σ l).bind fun a => (dOf a).bind fun a => (rec sc σ r).bind fun b => (dOf b).bind fun b => binop op a b
  | .UnaryOp op x _ => (rec sc σ x).bind fun v => evUn op v
  | .IfExp t b o _ => (rec sc σ t).bind fun v => (truthV v).bind fun c => if c then rec sc σ b else rec sc σ o
  | .Dict ks vs _ => if ks.all Option.isSome = true ∧ ks.length = vs.length ∧ vs.length ≤ 15 then (evPairs (rec sc σ) ks vs).bind fun l => evDisp l else .no
  | .List es _ => (evs (rec sc σ) es).bind fun l => (dsOf l).bind fun l => if l.length ≤ strN then own (.list l) else .no
  | .Tuple es _ _ => (evs (rec sc σ) es).bind fun l => (dsOf l).bind fun l => if l.length ≤ strN then fz (.tuple l) else .no
  | .ListComp elt gens sc' _ => match gens with
    | [g] => evComp rec sc σ elt g sc'
    | _ => .no
  | .Compare l ops es _ => (rec sc σ l).bind fun a => (dOf a).bind fun a => fzb (evCmp (rec sc σ) a ops es)
  | .Subscript o i _ => evSub (rec sc σ) sc σ o i
  | .Call f as kws cp => match kws with
    | [] => match f with
      | .Attribute o m ap => if m = "items" ∨ plainBase o = false ∨ (ap.endLine == cp.line) = false ∨ as.any starred = true ∨ 3 < as.length then .no else
        (rec sc σ o).bind fun o => (dOf o).bind fun o => if mOk m o then (evs (rec sc σ) as).bind fun as => (dsOf as).bind fun as => method m o as else .no
      | .Name f _ => evCallName (rec sc σ) K sc f as
      | _ => .no
    | _ => .no
  | _ => .no

noncomputable def evE (K : Ctx) : Nat → Scope → Store → Expr → P V
  | 0 => fun _ _ _ => .no
  | k + 1 => stepE (evE K k) K

noncomputable def findDef (f : Str) : List Stmt → Option (Arguments × List Stmt × Scope)
  | [] => none
  | .FunctionDef n a b _ _ _ sc _ _ _ :: r => if f = n then some (a, b, sc) else findDef f r
  | _ :: r => findDef f r

noncomputable def constOf (body : List Stmt) (x : Str) : Option PyData :=
  if x = "__name__" then none else
  body.findSome? fun s => match s with
    | .Assign [.Name y _] (.Constant c _ _) _ => if x = y then (match c with | .int i => some (PyData.int i) | .str s => if s.length ≤ strN then some (.str s) else none | _ => none) else none
    | _ => none

end Mine

namespace Mine
open PySem

/-- a tuple, plainly -/
noncomputable def PlT (h : Heap) (a : Addr) (vs : Array Value) : Prop := ∃ n, h.get? a = some { cls := .type "tuple", data := .seq vs n }
theorem PlT.isTuple {h : Heap} {a : Addr} {vs : Array Value} (x : PlT h a vs) : h.IsTuple a vs := let ⟨n, e⟩ := x; ⟨_, e, rfl, n, rfl⟩
theorem PlT.at {h h' : Heap} {a : Addr} {vs : Array Value} (x : PlT h a vs) (hk : ∀ o, h.get? a = some o → h'.get? a = some o) : PlT h' a vs := let ⟨n, e⟩ := x; ⟨n, hk _ e⟩

section
variable (prog : Program) (w : World)

/-- what lies at an address, its parts reading off the addresses that are kept apart -/
inductive Rep (h : Heap) (av : Addr → Prop) : Value → PyData → Prop where
  | none : Rep h av .none .none
  | bool (b : Bool) : Rep h av (.bool b) (.bool b)
  | int (i : Int) (t : Tok) : Rep h av (.int i t) (.int i)
  | str (x : Str) (t : Tok) : x.length ≤ sizeLine → Rep h av (.str x t) (.str x)
  | list {a : Addr} {vs : List Value} {ds : List PyData} : ¬ av a → h.PlainList a vs.toArray → vs.length = ds.length → vs.length ≤ sizeLine →
      (∀ (i : Nat) (v : Value) (d : PyData), vs[i]? = some v → ds[i]? = some d → Rep h av v d) → Rep h av (.ref a) (.list ds)
  | tuple {a : Addr} {vs : List Value} {ds : List PyData} : ¬ av a → PlT h a vs.toArray → vs.length = ds.length → vs.length ≤ sizeLine →
      (∀ (i : Nat) (v : Value) (d : PyData), vs[i]? = some v → ds[i]? = some d → Rep h av v d) → Rep h av (.ref a) (.tuple ds)
  | dict {a : Addr} {kvs : List (Str × Value)} {ds : List (PyData × PyData)} : ¬ av a → h.DictOf (strKind prog w) a kvs → (kvs.length ≤ sizeLine ∧ ∀ kv ∈ kvs, kv.1.length ≤ sizeLine) → (a == sysModules) = false →
      ds.map (·.1) = kvs.map (fun kv => PyData.str kv.1) → (∀ (i : Nat) (kv : Str × Value) (d : PyData × PyData), kvs[i]? = some kv → ds[i]? = some d → Rep h av kv.2 d.2) →
      Rep h av (.ref a) (.dict ds)
  | dict1 {a : Addr} {o : Obj} {hv : Int} {key v : Value} {ep : Nat} {k d : PyData} : ¬ av a → h.get? a = some o → o.ExactDict → o.data = .dict #[⟨hv, key, v⟩] ep → (a == sysModules) = false → (∀ x, k ≠ .str x) →
      Rep h av key k → Rep h av v d → Rep h av (.ref a) (.dict [(k, d)])

variable {prog w}

theorem dict_live {h : Heap} {a : Addr} {kvs : List (Str × Value)} (x : h.DictOf (strKind prog w) a kvs) : ∃ o, h.get? a = some o := let ⟨o, _, _, e, _⟩ := x; ⟨o, e⟩
theorem Rep.mono {h h' : Heap} {av av' : Addr → Prop} (hk : ∀ b o, ¬ av b → h.get? b = some o → h'.get? b = some o) (ha : ∀ b o, h.get? b = some o → av' b → av b) {v : Value} {d : PyData} (r : Rep prog w h av v d) :
    Rep prog w h' av' v d := by
  induction r with
  | none => exact .none
  | bool b => exact .bool b
  | int i t => exact .int i t
  | str x t hx => exact .str x t hx
  | list h1 h2 h3 h4 _ ih => exact .list (fun x => h1 (let ⟨_, e⟩ := h2; ha _ _ e x)) (h2.at fun o e => hk _ o h1 e) h3 h4 ih
  | tuple h1 h2 h3 h4 _ ih => exact .tuple (fun x => h1 (let ⟨_, e⟩ := h2; ha _ _ e x)) (h2.at fun o e => hk _ o h1 e) h3 h4 ih
  | dict h1 h2 h3 h4 h5 _ ih =>
    obtain ⟨o, es, ep, e, r⟩ := h2
    exact .dict (fun x => h1 (ha _ _ e x)) ⟨o, es, ep, hk _ o h1 e, r⟩ h3 h4 h5 ih
  | dict1 h1 h2 h3 h4 h5 h6 _ _ i1 i2 => exact .dict1 (fun x => h1 (ha _ _ h2 x)) (hk _ _ h1 h2) h3 h4 h5 h6 i1 i2

theorem Rep.keeps {h h' : Heap} {av : Addr → Prop} (hk : ∀ b o, h.get? b = some o → h'.get? b = some o) {v : Value} {d : PyData} (r : Rep prog w h av v d) : Rep prog w h' av v d :=
  r.mono (fun b o _ e => hk b o e) fun _ _ _ x => x

variable (prog w)
/-- an object that may be changed: what lies at its address -/
noncomputable def Body (h : Heap) (av : Addr → Prop) (a : Addr) : PyData → Prop
  | .list ds => ∃ vs : List Value, h.PlainList a vs.toArray ∧ vs.length = ds.length ∧ vs.length ≤ sizeLine ∧ ∀ (i : Nat) (v : Value) (d : PyData), vs[i]? = some v → ds[i]? = some d → Rep prog w h av v d
  | .dict ds => ∃ kvs : List (Str × Value), h.DictOf (strKind prog w) a kvs ∧ (kvs.length ≤ sizeLine ∧ ∀ kv ∈ kvs, kv.1.length ≤ sizeLine) ∧ (a == sysModules) = false ∧ ds.map (·.1) = kvs.map (fun kv => PyData.str kv.1) ∧
      ∀ (i : Nat) (kv : Str × Value) (d : PyData × PyData), kvs[i]? = some kv → ds[i]? = some d → Rep prog w h av kv.2 d.2
  | _ => False
variable {prog w}

theorem Body.mono {h h' : Heap} {av av' : Addr → Prop} {a : Addr} (hk : ∀ b o, ¬ av b → h.get? b = some o → h'.get? b = some o) (ha : ∀ b o, h.get? b = some o → av' b → av b) (hs : ∀ o, h.get? a = some o → h'.get? a = some o)
    {d : PyData} (r : Body prog w h av a d) : Body prog w h' av' a d := by
  cases d with
  | list ds => obtain ⟨vs, h1, h2, h3, h4⟩ := r; exact ⟨vs, h1.at hs, h2, h3, fun i v d e1 e2 => (h4 i v d e1 e2).mono hk ha⟩
  | dict ds =>
    obtain ⟨kvs, ⟨o, es, ep, e, r⟩, h2, h3, h4, h5⟩ := r
    exact ⟨kvs, ⟨o, es, ep, hs _ e, r⟩, h2, h3, h4, fun i v d e1 e2 => (h5 i v d e1 e2).mono hk ha⟩
  | _ => exact r.elim

theorem Body.rep {h : Heap} {av : Addr → Prop} {a : Addr} {d : PyData} (ha : ¬ av a) (r : Body prog w h av a d) : Rep prog w h av (.ref a) d := by
  cases d with
  | list ds => obtain ⟨vs, h1, h2, h3, h4⟩ := r; exact .list ha h1 h2 h3 h4
  | dict ds => obtain ⟨kvs, h1, h2, h3, h4, h5⟩ := r; exact .dict ha h1 h2 h3 h4 h5
  | _ => exact r.elim

variable (prog w)
/-- a new object, met by nothing else -/
noncomputable def Own (s : Shared) (h : Heap) (av : Addr → Prop) (v : Value) (d : PyData) : Prop :=
  ∃ a, v = .ref a ∧ s.heap.get? a = none ∧ Body prog w h (fun b => av b ∨ b = a) a d

/-- what an expression came to -/
noncomputable def RepV (s : Shared) (h : Heap) (av : Addr → Prop) (v : Value) : V → Prop
  | .fz d => Rep prog w h av v d
  | .own d => Own prog w s h av v d
  | .exc _ => False

/-- what a name holds -/
noncomputable def RepS (h : Heap) (av : Addr → Prop) (v : Value) : V → Prop
  | .fz d => Rep prog w h av v d
  | .own d => ∃ a, v = .ref a ∧ Body prog w h av a d
  | .exc _ => False
variable {prog w}

theorem Own.rep {s : Shared} {h : Heap} {av : Addr → Prop} {v : Value} {d : PyData} (hlt : ∀ b, av b → ∃ o, s.heap.get? b = some o) (r : Own prog w s h av v d) : Rep prog w h av v d := by
  obtain ⟨a, rfl, ha, r⟩ := r
  exact Body.rep (fun x => by obtain ⟨o, e⟩ := hlt _ x; rw [ha] at e; cases e) (r.mono (fun _ _ x e => e) (fun _ _ _ x => .inl x) fun _ e => e)

theorem RepV.rep {s : Shared} {h : Heap} {av : Addr → Prop} {v : Value} {u : V} {d : PyData} (hlt : ∀ b, av b → ∃ o, s.heap.get? b = some o) (hd : dOf u = .ok d) (r : RepV prog w s h av v u) : Rep prog w h av v d := by
  cases u with
  | fz d' => cases hd; exact r
  | own d' => cases hd; exact Own.rep hlt r
  | exc e => cases hd

noncomputable def Kp (s s' : Shared) : Prop := Keeps s s'
theorem Kp.rfl' (s : Shared) : Kp s s := ⟨s.heap, s.toks, rfl, fun _ _ e => e⟩
theorem Kp.tr {s s' s'' : Shared} (x : Kp s s') (y : Kp s' s'') : Kp s s'' := by
  obtain ⟨h, t, rfl, k⟩ := x
  obtain ⟨h', t', rfl, k'⟩ := y
  exact ⟨h', t', rfl, fun b o e => k' b o (k b o e)⟩
theorem Kp.heap {s s' : Shared} (x : Kp s s') : ∀ b o, s.heap.get? b = some o → s'.heap.get? b = some o := by
  obtain ⟨h, t, rfl, k⟩ := x; exact k
theorem Kp.tok' (s : Shared) (t : Nat) : Kp s { s with toks := t } := ⟨s.heap, t, rfl, fun _ _ e => e⟩
theorem Kp.push' (s : Shared) (o : Obj) : Kp s { s with heap := s.heap.push o } := ⟨s.heap.push o, s.toks, rfl, fun _ _ e => Heap.get?_push_of_some o e⟩

end

/-! trees and what they come to -/
abbrev WP (γ : Type) := (γ → Shared → Prop) → (Value → Shared → Prop) → Prop

noncomputable def Yd {γ β : Type} (W : WP γ) (R : γ → Shared → β → Prop) (X : Value → Shared → Exn → Prop) : P β → Prop
  | .no => True
  | .ok b => ∀ Q E, (∀ v s', R v s' b → Q v s') → W Q E
  | .err en => ∀ Q E, (∀ x s', X x s' en → E x s') → W Q E

theorem Yd.bind {γ δ β β' : Type} {W1 : WP γ} {W : WP δ} {W2 : γ → Shared → WP δ} {R1 : γ → Shared → β → Prop} {R2 : δ → Shared → β' → Prop} {X : Value → Shared → Exn → Prop} {p : P β} {f : β → P β'}
    (h : Yd W1 R1 X p) (hw : ∀ Q E, W1 (fun v s' => W2 v s' Q E) E → W Q E) (k : ∀ v s' b, R1 v s' b → p = .ok b → Yd (W2 v s') R2 X (f b)) : Yd W R2 X (p.bind f) := by
  cases p with
  | no => exact trivial
  | err en => exact fun Q E hx => hw Q E (h _ E hx)
  | ok b =>
    show Yd W R2 X (f b)
    cases hf : f b with
    | no => exact trivial
    | ok c => exact fun Q E hq => hw Q E (h _ E fun v s' r => by have := k v s' b r rfl; rw [hf] at this; exact this Q E hq)
    | err en => exact fun Q E hx => hw Q E (h _ E fun v s' r => by have := k v s' b r rfl; rw [hf] at this; exact this Q E hx)

theorem Yd.mono {γ β : Type} {W W' : WP γ} {R R' : γ → Shared → β → Prop} {X X' : Value → Shared → Exn → Prop} {p : P β} (h : Yd W R X p) (hw : ∀ Q E, W Q E → W' Q E) (hr : ∀ v s' b, p = .ok b → R v s' b → R' v s' b)
    (hx : ∀ x s' en, X x s' en → X' x s' en) : Yd W' R' X' p := by
  cases p with
  | no => exact trivial
  | ok b => exact fun Q E hq => hw Q E (h Q E fun v s' r => hq v s' (hr v s' b rfl r))
  | err en => exact fun Q E hq => hw Q E (h Q E fun v s' r => hq v s' (hx v s' en r))

/-- a plain step that only looks at what came -/
theorem Yd.pureBind {γ β β' : Type} {W : WP γ} {R : γ → Shared → β' → Prop} {X : Value → Shared → Exn → Prop} {p : P β} {f : β → P β'} (hp : ∀ en, p ≠ .err en) (k : ∀ b, p = .ok b → Yd W R X (f b)) :
    Yd W R X (p.bind f) := by
  cases p with
  | no => exact trivial
  | err en => exact absurd rfl (hp en)
  | ok b => exact k b rfl

theorem dOf_noerr (v : V) (en : Exn) : dOf v ≠ .err en := by cases v <;> intro h <;> cases h
theorem ofO_noerr {α : Type} (o : Option α) (en : Exn) : ofO o ≠ .err en := by cases o <;> intro h <;> cases h

end Mine

set_option maxRecDepth 100000
namespace Mine
open PySem

section
variable (prog : Program) (w : World) (mg mb : Str → Option Value)

/-- the built-in names that are used -/
noncomputable def bltOf (x : Str) : Option Value :=
  if x = "isinstance" then some (.builtin "isinstance")
  else if x = "len" then some (.builtin "len")
  else if x = "all" then some (.builtin "all")
  else if x = "sorted" then some (.builtin "sorted")
  else if x = "repr" then some (.builtin "repr")
  else if x = "abs" then some (.builtin "abs")
  else if x = "min" then some (.builtin "min")
  else if x = "list" then some (.type "list")
  else if x = "tuple" then some (.type "tuple")
  else if x = "dict" then some (.type "dict")
  else if x = "set" then some (.type "set")
  else if x = "int" then some (.type "int")
  else if x = "str" then some (.type "str")
  else if x = "bool" then some (.type "bool")
  else if x = "range" then some (.type "range")
  else if x = "enumerate" then some (.type "enumerate")
  else if x = "zip" then some (.type "zip")
  else if x = "reversed" then some (.type "reversed")
  else none

structure Glo (h : Heap) : Prop where
  g : h.Ns mainGlobals mg
  b : h.Ns builtinsNs mb
  nolimit : h.NoLimit
  mods : ∃ mm, h.Ns sysModules mm
  fn : ∀ f a b sc, findDef f prog.main.body = some (a, b, sc) → ∃ ad o pm cd doc, mg f = some (.ref ad) ∧ h.get? ad = some o ∧ o.data = .func (Calls.docDef f a b sc pm cd doc) ∧ h.CodeRec cd f
  const : ∀ x d, constOf prog.main.body x = some d → ∃ v, mg x = some v ∧ ∀ h' av, Rep prog w h' av v d
  blt : ∀ x v, bltOf x = some v → mg x = none ∧ mb x = some v

structure Room (n : Nat) (A : Around) : Prop where
  depth : A.depth + n < recursionLimit
  units : A.units + 16 * n + 300 < cLine
  handled : A.handled = none
  guards : A.guards = some []

/-- a name's value -/
noncomputable def VarAt (env : Env) (h : Heap) (x : Str) (u : Value) : Prop :=
  (env.kindOf x = some .local ∧ ∃ m, h.Ns env.locals m ∧ m x = some u) ∨
  ((env.kindOf x = some .cell ∨ env.kindOf x = some .free) ∧ ∃ c, env.cells.lookup x = some c ∧ h.IsCell c (some u))

structure Inv0 (env : Env) (sc : Scope) (σ : Store) (av : Addr → Prop) (s : Shared) : Prop where
  glo : Glo prog w mg mb s.heap
  kind : env.scope.kind = .function
  eg : env.globals = mainGlobals
  eb : env.builtins = builtinsNs
  avlt : ∀ b, av b → ∃ o, s.heap.get? b = some o
  avS : av sysModules
  dbg : sc.names.lookup (Str.ofString "__debug__") = none
  cld : sc.names.lookup (Str.ofString "__classdict__") = none
  glob : ∀ x, isG sc x = true → env.kindOf x = some .globalImplicit
  kinds : ∀ x, isCF (sc.names.lookup x) = true → isCF (env.kindOf x) = true ∧ ∃ c, env.cells.lookup x = some c
  get : ∀ x v, isL sc x = true → Store.get σ x = some (some v) → ∃ u, VarAt env s.heap x u ∧ RepS prog w s.heap av u v

/-- an exception that left a tree -/
noncomputable def Raised (s : Shared) (x : Value) (s' : Shared) (en : Exn) : Prop := False

noncomputable def ESound (n : Nat) (sc : Scope) (σ : Store) (e : Expr) (r : P V) : Prop :=
  ∀ (A : Around) (env : Env) (s : Shared) (av : Addr → Prop), Room n A → Inv0 prog w mg mb env sc σ av s →
    Yd (fun Q E => wpAny (model prog w) A (eval e env) Q E s) (fun v s' u => Kp s s' ∧ RepV prog w s s'.heap av v u) (Raised s) r

variable {prog w mg mb}

theorem Glo.keeps {h h' : Heap} (G : Glo prog w mg mb h) (hk : ∀ b o, h.get? b = some o → h'.get? b = some o) : Glo prog w mg mb h' where
  g := G.g.keeps hk
  b := G.b.keeps hk
  nolimit := G.nolimit.keeps hk
  mods := let ⟨mm, x⟩ := G.mods; ⟨mm, x.keeps hk⟩
  fn := fun f a b sc e => let ⟨ad, o, pm, cd, doc, h1, h2, h3, h4⟩ := G.fn f a b sc e; ⟨ad, o, pm, cd, doc, h1, hk _ _ h2, h3, h4.keeps hk⟩
  const := G.const
  blt := G.blt

theorem VarAt.keeps {env : Env} {h h' : Heap} {x : Str} {u : Value} (v : VarAt env h x u) (hk : ∀ b o, h.get? b = some o → h'.get? b = some o) : VarAt env h' x u := by
  rcases v with ⟨k, m, hn, e⟩ | ⟨k, c, e, hc⟩
  · exact .inl ⟨k, m, hn.keeps hk, e⟩
  · exact .inr ⟨k, c, e, hc.keeps hk⟩

theorem RepS.keeps {h h' : Heap} {av : Addr → Prop} {v : Value} {u : V} (hk : ∀ b o, h.get? b = some o → h'.get? b = some o) (r : RepS prog w h av v u) : RepS prog w h' av v u := by
  cases u with
  | fz d => exact Rep.keeps hk r
  | own d => obtain ⟨a, e, r⟩ := r; exact ⟨a, e, r.mono (fun b o _ e => hk b o e) (fun _ _ _ x => x) fun o e => hk _ o e⟩
  | exc e => exact r

theorem Inv0.keeps {env : Env} {sc : Scope} {σ : Store} {av : Addr → Prop} {s s' : Shared} (I : Inv0 prog w mg mb env sc σ av s) (k : Kp s s') : Inv0 prog w mg mb env sc σ av s' where
  glo := I.glo.keeps k.heap
  kind := I.kind
  eg := I.eg
  eb := I.eb
  avlt := fun b hb => let ⟨o, e⟩ := I.avlt b hb; ⟨o, k.heap _ _ e⟩
  avS := I.avS
  dbg := I.dbg
  cld := I.cld
  glob := I.glob
  kinds := I.kinds
  get := fun x v hl e => let ⟨u, h1, h2⟩ := I.get x v hl e; ⟨u, h1.keeps k.heap, h2.keeps k.heap⟩

theorem Own.back {s s' : Shared} {h : Heap} {av : Addr → Prop} {v : Value} {d : PyData} (k : Kp s s') (r : Own prog w s' h av v d) : Own prog w s h av v d := by
  obtain ⟨a, e, hn, r⟩ := r
  refine ⟨a, e, ?_, r⟩
  cases h : s.heap.get? a with
  | none => rfl
  | some o => rw [k.heap _ _ h] at hn; cases hn

theorem RepV.back {s s' : Shared} {h : Heap} {av : Addr → Prop} {v : Value} {u : V} (k : Kp s s') (r : RepV prog w s' h av v u) : RepV prog w s h av v u := by
  cases u with
  | fz d => exact r
  | own d => exact Own.back k r
  | exc e => exact r

theorem Raised.back {s s' : Shared} (_k : Kp s s') (x : Value) (s'' : Shared) (en : Exn) (r : Raised s' x s'' en) : Raised s x s'' en := r

/-- two steps -/
theorem Yd.seq {γ β : Type} {W : WP γ} {s s₁ : Shared} {av : Addr → Prop} {G : γ → Value} {p : P V} (k : Kp s s₁)
    (h : Yd W (fun v s' u => Kp s₁ s' ∧ RepV prog w s₁ s'.heap av (G v) u) (Raised s₁) p) : Yd W (fun v s' u => Kp s s' ∧ RepV prog w s s'.heap av (G v) u) (Raised s) p :=
  h.mono (fun _ _ x => x) (fun _ _ _ _ r => ⟨k.tr r.1, r.2.back k⟩) (Raised.back k)

theorem nodebug {env : Env} {sc : Scope} {σ : Store} {av : Addr → Prop} {s : Shared} (I : Inv0 prog w mg mb env sc σ av s) {x : Str} (h : isL sc x = true ∨ isG sc x = true) : (x == ("__debug__" : Str)) = false := by
  cases hx : x == ("__debug__" : Str) with
  | false => rfl
  | true =>
    have e : x = Str.ofString "__debug__" := eq_of_beq hx
    subst e
    rcases h with h | h
    · rw [isL, I.dbg] at h; cases h
    · rw [isG, I.dbg] at h; cases h

theorem noclassdict {env : Env} {sc : Scope} {σ : Store} {av : Addr → Prop} {s : Shared} (I : Inv0 prog w mg mb env sc σ av s) {x : Str} (h : isL sc x = true) : (x == ("__classdict__" : Str)) = false := by
  cases hx : x == ("__classdict__" : Str) with
  | false => rfl
  | true =>
    have e : x = Str.ofString "__classdict__" := eq_of_beq hx
    subst e
    rw [isL, I.cld] at h; cases h

/-- a name of the frame's -/
theorem name_var {A : Around} {env : Env} {sc : Scope} {σ : Store} {av : Addr → Prop} {s : Shared} {x : Str} {u : Value} {Q : Value → Shared → Prop} {E : Value → Shared → Prop} {pos : Pos} (I : Inv0 prog w mg mb env sc σ av s) (hl : isL sc x = true)
    (v : VarAt env s.heap x u) (h : Q u s) : wpAny (model prog w) A (eval (.Name x pos) env) Q E s := by
  refine wpAny_Name ?_ (nodebug I (.inl hl))
  rcases v with ⟨k, m, hn, e⟩ | ⟨k | k, c, e, hc⟩
  · exact wpAny_loadName_local I.kind k hn e h
  · exact wpAny_loadName_cell I.kind k e hc h
  · exact wpAny_loadName_free I.kind k e hc h (noclassdict I hl)

theorem name_glob {A : Around} {env : Env} {sc : Scope} {σ : Store} {av : Addr → Prop} {s : Shared} {x : Str} {u : Value} {Q : Value → Shared → Prop} {E : Value → Shared → Prop} {pos : Pos} (I : Inv0 prog w mg mb env sc σ av s) (hg : isG sc x = true)
    (v : mg x = some u) (h : Q u s) : wpAny (model prog w) A (eval (.Name x pos) env) Q E s :=
  Calls.Name_function_global I.kind (I.glob x hg) (Calls.loadGlobal_global (I.eg ▸ I.glo.g) v h) (nodebug I (.inr hg))

theorem name_blt {A : Around} {env : Env} {sc : Scope} {σ : Store} {av : Addr → Prop} {s : Shared} {x : Str} {u : Value} {Q : Value → Shared → Prop} {E : Value → Shared → Prop} {pos : Pos} (I : Inv0 prog w mg mb env sc σ av s) (hg : isG sc x = true)
    (v : bltOf x = some u) (h : Q u s) : wpAny (model prog w) A (eval (.Name x pos) env) Q E s :=
  Calls.Name_function_global I.kind (I.glob x hg) (Calls.loadGlobal_builtin (I.eg ▸ I.glo.g) (I.glo.blt x u v).1 (I.eb ▸ I.glo.b) (I.glo.blt x u v).2 h) (nodebug I (.inr hg))

theorem sound_Name {n : Nat} {K : Ctx} {sc : Scope} {σ : Store} {x : Str} {pos : Pos} (hc : K.const = constOf prog.main.body) : ESound prog w mg mb n sc σ (.Name x pos) (evName K sc σ x) := by
  intro A env s av hA I
  unfold evName
  split
  · rename_i hl
    split
    · rename_i d e
      obtain ⟨u, h1, h2⟩ := I.get _ _ hl e
      exact fun Q E hq => name_var I hl h1 (hq _ _ ⟨Kp.rfl' s, h2⟩)
    · rename_i en e
      obtain ⟨u, h1, h2⟩ := I.get _ _ hl e
      exact h2.elim
    · exact trivial
  · split
    · rename_i hg
      split
      · rename_i d e
        rw [hc] at e
        obtain ⟨v, h1, h2⟩ := I.glo.const _ _ e
        exact fun Q E hq => name_glob I hg h1 (hq _ _ ⟨Kp.rfl' s, h2 _ _⟩)
      · exact trivial
    · exact trivial

theorem sound_Const {n : Nat} {sc : Scope} {σ : Store} {c : Const} {k : Nat} {pos : Pos} : ESound prog w mg mb n sc σ (.Constant c k pos) (evConst c) := by
  intro A env s av hA I
  cases c with
  | none => exact fun Q E hq => wpAny_Constant_none (hq _ _ ⟨Kp.rfl' s, .none⟩)
  | bool b => exact fun Q E hq => wpAny_Constant_bool (hq _ _ ⟨Kp.rfl' s, .bool b⟩)
  | int i => exact fun Q E hq => wpAny_Constant_int (hq _ _ ⟨Kp.tok' s _, .int i _⟩)
  | str x =>
    show Yd _ _ _ (mkS x)
    unfold mkS
    split
    · rename_i hx
      exact fun Q E hq => wpAny_Constant_str (hq _ _ ⟨Kp.tok' s _, .str x _ hx⟩)
    · exact trivial
  | _ => exact trivial

end
end Mine

set_option maxRecDepth 100000
namespace Mine
open PySem

section
variable {prog : Program} {w : World}

theorem flatAll_at : ∀ {xs : List PyData} {i : Nat} {d : PyData}, flatAll xs = true → xs[i]? = some d → flat d = true
  | x :: xs, 0, d, h, e => by
    have h' : flat x = true ∧ flatAll xs = true := by simpa [flatAll] using h
    simp only [List.getElem?_cons_zero, Option.some.injEq] at e; subst e; exact h'.1
  | x :: xs, i + 1, d, h, e => by
    have h' : flat x = true ∧ flatAll xs = true := by simpa [flatAll] using h
    exact flatAll_at h'.2 (by simpa using e)
theorem flat_at {xs : List PyData} {i : Nat} {d : PyData} (h : flatAll xs = true) (e : xs[i]? = some d) : flat d = true := flatAll_at h e
theorem depth_at : ∀ {xs : List PyData} {i : Nat} {d : PyData}, xs[i]? = some d → d.depth ≤ PyData.depthAll xs
  | x :: xs, 0, d, e => by
    simp only [List.getElem?_cons_zero, Option.some.injEq] at e; subst e; rw [PyData.depthAll]; omega
  | x :: xs, i + 1, d, e => by
    have := depth_at (xs := xs) (i := i) (d := d) (by simpa using e)
    rw [PyData.depthAll]; omega

mutual
theorem eqv_refl' : ∀ d : PyData, flat d = true → PyData.eqv d d = true
  | .none, _ => rfl
  | .bool b, _ => by simp [PyData.eqv]
  | .int i, _ => by simp [PyData.eqv]
  | .str x, _ => by simp [PyData.eqv]
  | .list xs, h => by rw [PyData.eqv]; exact eqvAll_refl' xs (by simpa [flat] using h)
  | .tuple xs, h => by rw [PyData.eqv]; exact eqvAll_refl' xs (by simpa [flat] using h)
  | .dict _, h => nomatch h
theorem eqvAll_refl' : ∀ xs : List PyData, flatAll xs = true → PyData.eqvAll xs xs = true
  | [], _ => rfl
  | x :: xs, h => by
    have h' : flat x = true ∧ flatAll xs = true := by simpa [flatAll] using h
    rw [PyData.eqvAll, eqv_refl' x h'.1, eqvAll_refl' xs h'.2]; rfl
end

theorem list_ext_len {α : Type} {xs ys : List α} (hl : xs.length = ys.length) (h : ∀ (i : Nat) (x y : α), xs[i]? = some x → ys[i]? = some y → x = y) : xs = ys := by
  apply List.ext_getElem? 
  intro i
  by_cases hi : i < xs.length
  · have hi' : i < ys.length := hl ▸ hi
    rw [List.getElem?_eq_getElem hi, List.getElem?_eq_getElem hi', h i _ _ (List.getElem?_eq_getElem hi) (List.getElem?_eq_getElem hi')]
  · rw [List.getElem?_eq_none (by omega), List.getElem?_eq_none (by omega)]

theorem get_of_len {α β : Type} {xs : List α} {ys : List β} (hl : xs.length = ys.length) {i : Nat} {y : β} (e : ys[i]? = some y) : ∃ x, xs[i]? = some x := by
  have hi : i < ys.length := by
    rcases Nat.lt_or_ge i ys.length with h | h
    · exact h
    · rw [List.getElem?_eq_none h] at e; cases e
  exact ⟨_, List.getElem?_eq_getElem (hl ▸ hi)⟩

theorem plain_inj {h : Heap} {a : Addr} {xs ys : List Value} (p : h.PlainList a xs.toArray) (q : h.PlainList a ys.toArray) : xs = ys := by
  obtain ⟨n, e⟩ := p
  obtain ⟨m, e'⟩ := q
  rw [e] at e'
  injection e' with e'
  injection e' with _ _ e'
  injection e' with e'
  simpa using e'
theorem tup_inj {h : Heap} {a : Addr} {xs ys : List Value} (p : h.IsTuple a xs.toArray) (q : h.IsTuple a ys.toArray) : xs = ys := by
  obtain ⟨o, e, _, n, d⟩ := p
  obtain ⟨o', e', _, n', d'⟩ := q
  rw [e] at e'; cases e'
  rw [d] at d'
  injection d' with d'
  simpa using d'
theorem list_not_tuple {h : Heap} {a : Addr} {xs ys : Array Value} (p : h.PlainList a xs) (q : h.IsTuple a ys) : False := by
  obtain ⟨n, e⟩ := p
  obtain ⟨o', e', c, _⟩ := q
  rw [e] at e'; cases e'
  have c' : Value.type "list" = Value.type "tuple" := c
  exact absurd c' (by decide)
theorem list_not_exact {h : Heap} {a : Addr} {xs : Array Value} {o : Obj} (p : h.PlainList a xs) (e : h.get? a = some o) (x : o.ExactDict) : False := by
  obtain ⟨n, e'⟩ := p
  rw [e] at e'
  have := (Option.some.inj e') ▸ x
  have c' : Value.type "list" = Value.type "dict" := this.1
  exact absurd c' (by decide)
theorem tuple_not_exact {h : Heap} {a : Addr} {xs : Array Value} {o : Obj} (p : h.IsTuple a xs) (e : h.get? a = some o) (x : o.ExactDict) : False := by
  obtain ⟨o', e', c, _⟩ := p
  rw [e] at e'
  have := (Option.some.inj e') ▸ x
  have c' : Value.type "tuple" = Value.type "dict" := c.symm.trans this.1
  exact absurd c' (by decide)
theorem list_not_dict {h : Heap} {a : Addr} {xs : Array Value} {kvs : List (Str × Value)} (p : h.PlainList a xs) (q : h.DictOf (strKind prog w) a kvs) : False := by
  obtain ⟨n, e⟩ := p
  obtain ⟨o', es, ep, e', c, _⟩ := q
  rw [e] at e'; cases e'
  have c' : Value.type "list" = Value.type "dict" := c.1
  exact absurd c' (by decide)
theorem tuple_not_dict {h : Heap} {a : Addr} {xs : Array Value} {kvs : List (Str × Value)} (p : h.IsTuple a xs) (q : h.DictOf (strKind prog w) a kvs) : False := by
  obtain ⟨o, e, c, _⟩ := p
  obtain ⟨o', es, ep, e', c', _⟩ := q
  rw [e] at e'; cases e'
  have c2 := c'.1
  rw [c] at c2
  exact absurd c2 (by decide)

theorem Rep.uniq {h : Heap} {av : Addr → Prop} {v : Value} {d d' : PyData} (r : Rep prog w h av v d) (hf : flat d = true) (r' : Rep prog w h av v d') : d = d' := by
  induction r generalizing d' with
  | none => cases r'; rfl
  | bool b => cases r'; rfl
  | int i t => cases r'; rfl
  | str x t _ => cases r'; rfl
  | @list a vs ds h1 h2 h3 h4 h5 ih =>
    cases r' with
    | list k1 k2 k3 k4 k5 =>
      cases plain_inj h2 k2
      congr 1
      refine list_ext_len (by omega) fun i x y e1 e2 => ?_
      obtain ⟨u, e⟩ := get_of_len h3 e1
      exact ih i u x e e1 (flat_at (by simpa [flat] using hf) e1) (k5 i u y e e2)
    | tuple k1 k2 => exact (list_not_tuple h2 k2.isTuple).elim
    | dict k1 k2 => exact (list_not_dict h2 k2).elim
    | dict1 k1 k2 k3 => exact (list_not_exact h2 k2 k3).elim
  | @tuple a vs ds h1 h2 h3 h4 h5 ih =>
    cases r' with
    | tuple k1 k2 k3 k4 k5 =>
      cases tup_inj h2.isTuple k2.isTuple
      congr 1
      refine list_ext_len (by omega) fun i x y e1 e2 => ?_
      obtain ⟨u, e⟩ := get_of_len h3 e1
      exact ih i u x e e1 (flat_at (by simpa [flat] using hf) e1) (k5 i u y e e2)
    | list k1 k2 => exact (list_not_tuple k2 h2.isTuple).elim
    | dict k1 k2 => exact (tuple_not_dict h2.isTuple k2).elim
    | dict1 k1 k2 k3 => exact (tuple_not_exact h2.isTuple k2 k3).elim
  | dict => exact nomatch hf
  | dict1 => exact nomatch hf

theorem elts_eq {A : Around} {s : Shared} {vs vs' : List Value} {xs ys : List PyData} (h3 : vs.length = xs.length) (k3 : vs'.length = ys.length)
    (h : ∀ (i : Nat) (v : Value) (d : PyData) (b : Value) (db : PyData), vs[i]? = some v → xs[i]? = some d → vs'[i]? = some b → ys[i]? = some db → SeqAt.EqAt A s v b (PyData.eqv d db)) (j : Nat) (j1 : j < vs.length) (j2 : j < vs'.length) :
    SeqAt.EqAt A s vs.toArray[j] vs'.toArray[j] (SeqAt.pairEq xs ys j) := by
  have e1 : xs[j]? = some (xs[j]'(h3 ▸ j1)) := List.getElem?_eq_getElem _
  have e2 : ys[j]? = some (ys[j]'(k3 ▸ j2)) := List.getElem?_eq_getElem _
  have := h j vs[j] _ vs'[j] _ (List.getElem?_eq_getElem j1) e1 (List.getElem?_eq_getElem j2) e2
  simpa [SeqAt.pairEq, List.getD, e1, e2] using this

theorem eqAt_rep {av : Addr → Prop} {A : Around} {s : Shared} {a b : Value} {da db : PyData} (ra : Rep prog w s.heap av a da) (ha : flat da = true) (rb : Rep prog w s.heap av b db) (hb : flat db = true) (hu : A.units + da.depth < cLine) :
    SeqAt.EqAt A s a b (PyData.eqv da db) := by
  induction ra generalizing b db A with
  | none =>
    have hu0 : A.units < cLine := by omega
    cases rb with
    | none => exact SeqAt.EqAt.same _
    | bool y2 => exact SeqAt.EqAt.none_bool y2
    | int y2 u2 => exact SeqAt.EqAt.none_int y2 u2
    | str y2 u2 _ => exact SeqAt.EqAt.none_str y2 u2
    | list k1 k2 k3 k4 k5 => exact SeqAt.EqAt.none_list (k2.isList) hu0
    | tuple k1 k2 k3 k4 k5 => exact SeqAt.EqAt.none_tuple (k2.isTuple) hu0
    | dict => exact nomatch hb
    | dict1 => exact nomatch hb
  | bool y1 =>
    have hu0 : A.units < cLine := by omega
    cases rb with
    | none => exact SeqAt.EqAt.bool_none y1
    | bool y2 => exact SeqAt.EqAt.bool_bool y1 y2
    | int y2 u2 => exact SeqAt.EqAt.bool_int y1 y2 u2
    | str y2 u2 _ => exact SeqAt.EqAt.bool_str y1 y2 u2
    | list k1 k2 k3 k4 k5 => exact SeqAt.EqAt.bool_list y1 (k2.isList) hu0
    | tuple k1 k2 k3 k4 k5 => exact SeqAt.EqAt.bool_tuple y1 (k2.isTuple) hu0
    | dict => exact nomatch hb
    | dict1 => exact nomatch hb
  | int y1 u1 =>
    have hu0 : A.units < cLine := by omega
    cases rb with
    | none => exact SeqAt.EqAt.int_none y1 u1
    | bool y2 => exact SeqAt.EqAt.int_bool y1 u1 y2
    | int y2 u2 => exact SeqAt.EqAt.int_int y1 u1 y2 u2
    | str y2 u2 _ => exact SeqAt.EqAt.int_str y1 u1 y2 u2
    | list k1 k2 k3 k4 k5 => exact SeqAt.EqAt.int_list y1 u1 (k2.isList) hu0
    | tuple k1 k2 k3 k4 k5 => exact SeqAt.EqAt.int_tuple y1 u1 (k2.isTuple) hu0
    | dict => exact nomatch hb
    | dict1 => exact nomatch hb
  | str y1 u1 _ =>
    have hu0 : A.units < cLine := by omega
    cases rb with
    | none => exact SeqAt.EqAt.str_none y1 u1
    | bool y2 => exact SeqAt.EqAt.str_bool y1 u1 y2
    | int y2 u2 => exact SeqAt.EqAt.str_int y1 u1 y2 u2
    | str y2 u2 _ => exact SeqAt.EqAt.str_str y1 u1 y2 u2
    | list k1 k2 k3 k4 k5 => exact SeqAt.EqAt.str_list y1 u1 (k2.isList) hu0
    | tuple k1 k2 k3 k4 k5 => exact SeqAt.EqAt.str_tuple y1 u1 (k2.isTuple) hu0
    | dict => exact nomatch hb
    | dict1 => exact nomatch hb
  | @list l vs xs h1 h2 h3 h4 h5 ih =>
    have hu0 : A.units < cLine := by omega
    have hl : s.heap.IsList l vs.toArray := h2.isList
    cases rb with
    | none => exact SeqAt.EqAt.list_none hl hu0
    | bool y2 => exact SeqAt.EqAt.list_bool y2 hl hu0
    | int y2 u2 => exact SeqAt.EqAt.list_int y2 u2 hl hu0
    | str y2 u2 _ => exact SeqAt.EqAt.list_str y2 u2 hl hu0
    | tuple k1 k2 k3 k4 k5 => exact SeqAt.EqAt.list_tuple hl (k2.isTuple) hu0
    | dict => exact nomatch hb
    | dict1 => exact nomatch hb
    | @list l' vs' ys k1 k2 k3 k4 k5 =>
      have hl' : s.heap.IsList l' vs'.toArray := k2.isList
      have he : ∀ j (j1 : j < vs.toArray.size) (j2 : j < vs'.toArray.size), SeqAt.EqAt A.in1 s vs.toArray[j] vs'.toArray[j] (SeqAt.pairEq xs ys j) := fun j j1 j2 => elts_eq h3 k3 (fun i v d b db e1 e2 e3 e4 => ih i v d e1 e2 (A := A.in1) (flat_at ha e2) (k5 i b db e3 e4) (flat_at hb e4) (by have := depth_at e2; simp only [PyData.depth, Around.in1_units] at hu ⊢; omega)) j (by simpa using j1) (by simpa using j2)
      show SeqAt.EqAt A s (.ref l) (.ref l') (PyData.eqvAll xs ys)
      by_cases hll : l = l'
      · subst hll
        have e : PyData.list xs = PyData.list ys := Rep.uniq (.list h1 h2 h3 h4 h5) (ha) (.list k1 k2 k3 k4 k5)
        injection e with e
        subst e
        rw [eqvAll_refl' xs ha]
        exact SeqAt.EqAt.same _
      · by_cases hsz : vs.length = vs'.length
        · rw [← SeqAt.eqvAll_same_length (by omega : xs.length = ys.length), ← h3]
          have := SeqAt.EqAt.of_refs hll (SeqAt.RcAt.lists hl hl' (by simpa using hsz) hu0 he)
          simpa using this
        · rw [SeqAt.eqvAll_other_length (by omega : xs.length ≠ ys.length)]
          exact SeqAt.EqAt.of_refs hll (SeqAt.RcAt.lists_lengths hl hl' (by simpa using hsz) hu0)
  | @tuple l vs xs h1 h2 h3 h4 h5 ih =>
    have hu0 : A.units < cLine := by omega
    have hl : s.heap.IsTuple l vs.toArray := h2.isTuple
    cases rb with
    | none => exact SeqAt.EqAt.tuple_none hl hu0
    | bool y2 => exact SeqAt.EqAt.tuple_bool y2 hl hu0
    | int y2 u2 => exact SeqAt.EqAt.tuple_int y2 u2 hl hu0
    | str y2 u2 _ => exact SeqAt.EqAt.tuple_str y2 u2 hl hu0
    | list k1 k2 k3 k4 k5 => exact SeqAt.EqAt.tuple_list hl (k2.isList) hu0
    | dict => exact nomatch hb
    | dict1 => exact nomatch hb
    | @tuple l' vs' ys k1 k2 k3 k4 k5 =>
      have hl' : s.heap.IsTuple l' vs'.toArray := k2.isTuple
      have he : ∀ j (j1 : j < vs.toArray.size) (j2 : j < vs'.toArray.size), SeqAt.EqAt A.in1 s vs.toArray[j] vs'.toArray[j] (SeqAt.pairEq xs ys j) := fun j j1 j2 => elts_eq h3 k3 (fun i v d b db e1 e2 e3 e4 => ih i v d e1 e2 (A := A.in1) (flat_at ha e2) (k5 i b db e3 e4) (flat_at hb e4) (by have := depth_at e2; simp only [PyData.depth, Around.in1_units] at hu ⊢; omega)) j (by simpa using j1) (by simpa using j2)
      show SeqAt.EqAt A s (.ref l) (.ref l') (PyData.eqvAll xs ys)
      by_cases hll : l = l'
      · subst hll
        have e : PyData.tuple xs = PyData.tuple ys := Rep.uniq (.tuple h1 h2 h3 h4 h5) (ha) (.tuple k1 k2 k3 k4 k5)
        injection e with e
        subst e
        rw [eqvAll_refl' xs ha]
        exact SeqAt.EqAt.same _
      · rw [← SeqAt.eqvAll_eq xs ys, ← h3, ← k3]
        have := SeqAt.EqAt.of_refs hll (SeqAt.RcAt.tuples hl hl' hu0 he)
        simpa using this
  | dict => exact nomatch ha
  | dict1 => exact nomatch ha

theorem rcAt_rep {av : Addr → Prop} {A : Around} {s : Shared} {a b : Value} {da db : PyData} (ra : Rep prog w s.heap av a da) (ha : flat da = true) (rb : Rep prog w s.heap av b db) (hb : flat db = true) (hu : A.units + da.depth < cLine) :
    SeqAt.RcAt A s a b (PyData.eqv da db) := by
  cases ra with
  | none =>
    have hu0 : A.units < cLine := by omega
    cases rb with
    | none => exact SeqAt.RcAt.none_none
    | bool y2 => exact SeqAt.RcAt.none_bool y2
    | int y2 u2 => exact SeqAt.RcAt.none_int y2 u2
    | str y2 u2 _ => exact SeqAt.RcAt.none_str y2 u2
    | list k1 k2 k3 k4 k5 => exact SeqAt.RcAt.none_list (k2.isList) hu0
    | tuple k1 k2 k3 k4 k5 => exact SeqAt.RcAt.none_tuple (k2.isTuple) hu0
    | dict => exact nomatch hb
    | dict1 => exact nomatch hb
  | bool y1 =>
    have hu0 : A.units < cLine := by omega
    cases rb with
    | none => exact SeqAt.RcAt.bool_none y1
    | bool y2 => exact SeqAt.RcAt.bool_bool y1 y2
    | int y2 u2 => exact SeqAt.RcAt.bool_int y1 y2 u2
    | str y2 u2 _ => exact SeqAt.RcAt.bool_str y1 y2 u2
    | list k1 k2 k3 k4 k5 => exact SeqAt.RcAt.bool_list y1 (k2.isList) hu0
    | tuple k1 k2 k3 k4 k5 => exact SeqAt.RcAt.bool_tuple y1 (k2.isTuple) hu0
    | dict => exact nomatch hb
    | dict1 => exact nomatch hb
  | int y1 u1 =>
    have hu0 : A.units < cLine := by omega
    cases rb with
    | none => exact SeqAt.RcAt.int_none y1 u1
    | bool y2 => exact SeqAt.RcAt.int_bool y1 u1 y2
    | int y2 u2 => exact SeqAt.RcAt.int_int y1 u1 y2 u2
    | str y2 u2 _ => exact SeqAt.RcAt.int_str y1 u1 y2 u2
    | list k1 k2 k3 k4 k5 => exact SeqAt.RcAt.int_list y1 u1 (k2.isList) hu0
    | tuple k1 k2 k3 k4 k5 => exact SeqAt.RcAt.int_tuple y1 u1 (k2.isTuple) hu0
    | dict => exact nomatch hb
    | dict1 => exact nomatch hb
  | str y1 u1 _ =>
    have hu0 : A.units < cLine := by omega
    cases rb with
    | none => exact SeqAt.RcAt.str_none y1 u1
    | bool y2 => exact SeqAt.RcAt.str_bool y1 u1 y2
    | int y2 u2 => exact SeqAt.RcAt.str_int y1 u1 y2 u2
    | str y2 u2 _ => exact SeqAt.RcAt.str_str y1 u1 y2 u2
    | list k1 k2 k3 k4 k5 => exact SeqAt.RcAt.str_list y1 u1 (k2.isList) hu0
    | tuple k1 k2 k3 k4 k5 => exact SeqAt.RcAt.str_tuple y1 u1 (k2.isTuple) hu0
    | dict => exact nomatch hb
    | dict1 => exact nomatch hb
  | @list l vs xs h1 h2 h3 h4 h5 =>
    have hu0 : A.units < cLine := by omega
    have hl : s.heap.IsList l vs.toArray := h2.isList
    cases rb with
    | none => exact SeqAt.RcAt.list_none hl hu0
    | bool y2 => exact SeqAt.RcAt.list_bool y2 hl hu0
    | int y2 u2 => exact SeqAt.RcAt.list_int y2 u2 hl hu0
    | str y2 u2 _ => exact SeqAt.RcAt.list_str y2 u2 hl hu0
    | tuple k1 k2 k3 k4 k5 => exact SeqAt.RcAt.list_tuple hl (k2.isTuple) hu0
    | dict => exact nomatch hb
    | dict1 => exact nomatch hb
    | @list l' vs' ys k1 k2 k3 k4 k5 =>
      have hl' : s.heap.IsList l' vs'.toArray := k2.isList
      have he : ∀ j (j1 : j < vs.toArray.size) (j2 : j < vs'.toArray.size), SeqAt.EqAt A.in1 s vs.toArray[j] vs'.toArray[j] (SeqAt.pairEq xs ys j) := fun j j1 j2 => elts_eq h3 k3 (fun i v d b db e1 e2 e3 e4 => eqAt_rep (h5 i v d e1 e2) (flat_at ha e2) (k5 i b db e3 e4) (flat_at hb e4) (by have := depth_at e2; simp only [PyData.depth, Around.in1_units] at hu ⊢; omega)) j (by simpa using j1) (by simpa using j2)
      show SeqAt.RcAt A s (.ref l) (.ref l') (PyData.eqvAll xs ys)
      by_cases hsz : vs.length = vs'.length
      · rw [← SeqAt.eqvAll_same_length (by omega : xs.length = ys.length), ← h3]
        have := (SeqAt.RcAt.lists hl hl' (by simpa using hsz) hu0 he)
        simpa using this
      · rw [SeqAt.eqvAll_other_length (by omega : xs.length ≠ ys.length)]
        exact (SeqAt.RcAt.lists_lengths hl hl' (by simpa using hsz) hu0)
  | @tuple l vs xs h1 h2 h3 h4 h5 =>
    have hu0 : A.units < cLine := by omega
    have hl : s.heap.IsTuple l vs.toArray := h2.isTuple
    cases rb with
    | none => exact SeqAt.RcAt.tuple_none hl hu0
    | bool y2 => exact SeqAt.RcAt.tuple_bool y2 hl hu0
    | int y2 u2 => exact SeqAt.RcAt.tuple_int y2 u2 hl hu0
    | str y2 u2 _ => exact SeqAt.RcAt.tuple_str y2 u2 hl hu0
    | list k1 k2 k3 k4 k5 => exact SeqAt.RcAt.tuple_list hl (k2.isList) hu0
    | dict => exact nomatch hb
    | dict1 => exact nomatch hb
    | @tuple l' vs' ys k1 k2 k3 k4 k5 =>
      have hl' : s.heap.IsTuple l' vs'.toArray := k2.isTuple
      have he : ∀ j (j1 : j < vs.toArray.size) (j2 : j < vs'.toArray.size), SeqAt.EqAt A.in1 s vs.toArray[j] vs'.toArray[j] (SeqAt.pairEq xs ys j) := fun j j1 j2 => elts_eq h3 k3 (fun i v d b db e1 e2 e3 e4 => eqAt_rep (h5 i v d e1 e2) (flat_at ha e2) (k5 i b db e3 e4) (flat_at hb e4) (by have := depth_at e2; simp only [PyData.depth, Around.in1_units] at hu ⊢; omega)) j (by simpa using j1) (by simpa using j2)
      show SeqAt.RcAt A s (.ref l) (.ref l') (PyData.eqvAll xs ys)
      rw [← SeqAt.eqvAll_eq xs ys, ← h3, ← k3]
      have := (SeqAt.RcAt.tuples hl hl' hu0 he)
      simpa using this
  | dict => exact nomatch ha
  | dict1 => exact nomatch ha

theorem rcNeAt_rep {av : Addr → Prop} {A : Around} {s : Shared} {a b : Value} {da db : PyData} (ra : Rep prog w s.heap av a da) (ha : flat da = true) (rb : Rep prog w s.heap av b db) (hb : flat db = true) (hu : A.units + da.depth < cLine) :
    SeqAt.RcNeAt A s a b (!PyData.eqv da db) := by
  cases ra with
  | none =>
    have hu0 : A.units < cLine := by omega
    cases rb with
    | none => exact SeqAt.RcNeAt.none_none
    | bool y2 => exact SeqAt.RcNeAt.none_bool y2
    | int y2 u2 => exact SeqAt.RcNeAt.none_int y2 u2
    | str y2 u2 _ => exact SeqAt.RcNeAt.none_str y2 u2
    | list k1 k2 k3 k4 k5 => exact SeqAt.RcNeAt.none_list (k2.isList) hu0
    | tuple k1 k2 k3 k4 k5 => exact SeqAt.RcNeAt.none_tuple (k2.isTuple) hu0
    | dict => exact nomatch hb
    | dict1 => exact nomatch hb
  | bool y1 =>
    have hu0 : A.units < cLine := by omega
    cases rb with
    | none => exact SeqAt.RcNeAt.bool_none y1
    | bool y2 => exact SeqAt.RcNeAt.bool_bool y1 y2
    | int y2 u2 => exact SeqAt.RcNeAt.bool_int y1 y2 u2
    | str y2 u2 _ => exact SeqAt.RcNeAt.bool_str y1 y2 u2
    | list k1 k2 k3 k4 k5 => exact SeqAt.RcNeAt.bool_list y1 (k2.isList) hu0
    | tuple k1 k2 k3 k4 k5 => exact SeqAt.RcNeAt.bool_tuple y1 (k2.isTuple) hu0
    | dict => exact nomatch hb
    | dict1 => exact nomatch hb
  | int y1 u1 =>
    have hu0 : A.units < cLine := by omega
    cases rb with
    | none => exact SeqAt.RcNeAt.int_none y1 u1
    | bool y2 => exact SeqAt.RcNeAt.int_bool y1 u1 y2
    | int y2 u2 => exact SeqAt.RcNeAt.int_int y1 u1 y2 u2
    | str y2 u2 _ => exact SeqAt.RcNeAt.int_str y1 u1 y2 u2
    | list k1 k2 k3 k4 k5 => exact SeqAt.RcNeAt.int_list y1 u1 (k2.isList) hu0
    | tuple k1 k2 k3 k4 k5 => exact SeqAt.RcNeAt.int_tuple y1 u1 (k2.isTuple) hu0
    | dict => exact nomatch hb
    | dict1 => exact nomatch hb
  | str y1 u1 _ =>
    have hu0 : A.units < cLine := by omega
    cases rb with
    | none => exact SeqAt.RcNeAt.str_none y1 u1
    | bool y2 => exact SeqAt.RcNeAt.str_bool y1 u1 y2
    | int y2 u2 => exact SeqAt.RcNeAt.str_int y1 u1 y2 u2
    | str y2 u2 _ => exact SeqAt.RcNeAt.str_str y1 u1 y2 u2
    | list k1 k2 k3 k4 k5 => exact SeqAt.RcNeAt.str_list y1 u1 (k2.isList) hu0
    | tuple k1 k2 k3 k4 k5 => exact SeqAt.RcNeAt.str_tuple y1 u1 (k2.isTuple) hu0
    | dict => exact nomatch hb
    | dict1 => exact nomatch hb
  | @list l vs xs h1 h2 h3 h4 h5 =>
    have hu0 : A.units < cLine := by omega
    have hl : s.heap.IsList l vs.toArray := h2.isList
    cases rb with
    | none => exact SeqAt.RcNeAt.list_none hl hu0
    | bool y2 => exact SeqAt.RcNeAt.list_bool y2 hl hu0
    | int y2 u2 => exact SeqAt.RcNeAt.list_int y2 u2 hl hu0
    | str y2 u2 _ => exact SeqAt.RcNeAt.list_str y2 u2 hl hu0
    | tuple k1 k2 k3 k4 k5 => exact SeqAt.RcNeAt.list_tuple hl (k2.isTuple) hu0
    | dict => exact nomatch hb
    | dict1 => exact nomatch hb
    | @list l' vs' ys k1 k2 k3 k4 k5 =>
      have hl' : s.heap.IsList l' vs'.toArray := k2.isList
      have he : ∀ j (j1 : j < vs.toArray.size) (j2 : j < vs'.toArray.size), SeqAt.EqAt A.in1 s vs.toArray[j] vs'.toArray[j] (SeqAt.pairEq xs ys j) := fun j j1 j2 => elts_eq h3 k3 (fun i v d b db e1 e2 e3 e4 => eqAt_rep (h5 i v d e1 e2) (flat_at ha e2) (k5 i b db e3 e4) (flat_at hb e4) (by have := depth_at e2; simp only [PyData.depth, Around.in1_units] at hu ⊢; omega)) j (by simpa using j1) (by simpa using j2)
      show SeqAt.RcNeAt A s (.ref l) (.ref l') (!PyData.eqvAll xs ys)
      by_cases hsz : vs.length = vs'.length
      · rw [← SeqAt.eqvAll_same_length (by omega : xs.length = ys.length), ← h3]
        have := (SeqAt.RcNeAt.lists hl hl' (by simpa using hsz) hu0 he)
        simpa using this
      · rw [SeqAt.eqvAll_other_length (by omega : xs.length ≠ ys.length)]
        exact (SeqAt.RcNeAt.lists_lengths hl hl' (by simpa using hsz) hu0)
  | @tuple l vs xs h1 h2 h3 h4 h5 =>
    have hu0 : A.units < cLine := by omega
    have hl : s.heap.IsTuple l vs.toArray := h2.isTuple
    cases rb with
    | none => exact SeqAt.RcNeAt.tuple_none hl hu0
    | bool y2 => exact SeqAt.RcNeAt.tuple_bool y2 hl hu0
    | int y2 u2 => exact SeqAt.RcNeAt.tuple_int y2 u2 hl hu0
    | str y2 u2 _ => exact SeqAt.RcNeAt.tuple_str y2 u2 hl hu0
    | list k1 k2 k3 k4 k5 => exact SeqAt.RcNeAt.tuple_list hl (k2.isList) hu0
    | dict => exact nomatch hb
    | dict1 => exact nomatch hb
    | @tuple l' vs' ys k1 k2 k3 k4 k5 =>
      have hl' : s.heap.IsTuple l' vs'.toArray := k2.isTuple
      have he : ∀ j (j1 : j < vs.toArray.size) (j2 : j < vs'.toArray.size), SeqAt.EqAt A.in1 s vs.toArray[j] vs'.toArray[j] (SeqAt.pairEq xs ys j) := fun j j1 j2 => elts_eq h3 k3 (fun i v d b db e1 e2 e3 e4 => eqAt_rep (h5 i v d e1 e2) (flat_at ha e2) (k5 i b db e3 e4) (flat_at hb e4) (by have := depth_at e2; simp only [PyData.depth, Around.in1_units] at hu ⊢; omega)) j (by simpa using j1) (by simpa using j2)
      show SeqAt.RcNeAt A s (.ref l) (.ref l') (!PyData.eqvAll xs ys)
      rw [← SeqAt.eqvAll_eq xs ys, ← h3, ← k3]
      have := (SeqAt.RcNeAt.tuples hl hl' hu0 he)
      simpa using this
  | dict => exact nomatch ha
  | dict1 => exact nomatch ha

end
end Mine

set_option maxRecDepth 100000
namespace Mine
open PySem

section
variable {prog : Program} {w : World}

theorem isStr_self (x : Str) (t : Tok) : (strKind prog w).is x (.str x t) = true := by
  show Value.isStrOf x (.str x t) = true
  simp [Value.isStrOf]

theorem Rep.str_inv {h : Heap} {av : Addr → Prop} {v : Value} {x : Str} (r : Rep prog w h av v (.str x)) : ∃ t, v = .str x t ∧ x.length ≤ sizeLine := by
  cases r with
  | str _ t hx => exact ⟨t, rfl, hx⟩
theorem Rep.int_inv {h : Heap} {av : Addr → Prop} {v : Value} {i : Int} (r : Rep prog w h av v (.int i)) : ∃ t, v = .int i t := by
  cases r with
  | int _ t => exact ⟨t, rfl⟩
theorem Rep.bool_inv {h : Heap} {av : Addr → Prop} {v : Value} {b : Bool} (r : Rep prog w h av v (.bool b)) : v = .bool b := by cases r; rfl

theorem valueAt_dGet : ∀ {ds : List (PyData × PyData)} {kvs : List (Str × Value)} (x : Str), ds.map (·.1) = kvs.map (fun kv => PyData.str kv.1) →
    (valueAt kvs x = none ∧ dGet ds x = none) ∨ ∃ (i : Nat) (v : Value) (d : PyData), valueAt kvs x = some v ∧ dGet ds x = some d ∧ kvs[i]? = some (x, v) ∧ ds[i]? = some (.str x, d)
  | [], [], x, _ => .inl ⟨rfl, rfl⟩
  | [], _ :: _, x, h => by simp at h
  | _ :: _, [], x, h => by simp at h
  | (k, d) :: ds, (y, v) :: kvs, x, h => by
    simp only [List.map_cons, List.cons.injEq] at h
    obtain ⟨h1, h2⟩ := h
    subst h1
    by_cases hx : x = y
    · subst hx
      exact .inr ⟨0, v, d, by simp [valueAt], by simp [dGet], rfl, rfl⟩
    · have hx' : ¬ y = x := fun e => hx e.symm
      rcases valueAt_dGet (ds := ds) (kvs := kvs) x h2 with ⟨a, b⟩ | ⟨i, v', d', a, b, c, e⟩
      · refine .inl ⟨?_, ?_⟩
        · simpa [valueAt, List.find?_cons, hx'] using a
        · simpa [dGet, hx] using b
      · refine .inr ⟨i + 1, v', d', ?_, ?_, by simpa using c, by simpa using e⟩
        · simpa [valueAt, List.find?_cons, hx'] using a
        · simpa [dGet, hx] using b

theorem strs_rep {h : Heap} {av : Addr → Prop} : ∀ {vs : List Value} {ds : List PyData} {ss : List Str}, vs.length = ds.length → (∀ (i : Nat) (v : Value) (d : PyData), vs[i]? = some v → ds[i]? = some d → Rep prog w h av v d) →
    strs? ds = some ss → ∃ ts : List Tok, ts.length = ss.length ∧ vs = List.zipWith (fun x t => Value.str x t) ss ts ∧ ∀ x ∈ ss, x.length ≤ sizeLine
  | [], [], ss, _, _, hs => by simp [strs?] at hs; subst hs; exact ⟨[], rfl, rfl, by simp⟩
  | [], _ :: _, _, hl, _, _ => by simp at hl
  | _ :: _, [], _, hl, _, _ => by simp at hl
  | v :: vs, d :: ds, ss, hl, hr, hs => by
    have h0 := hr 0 v d rfl rfl
    cases d with
    | str x =>
      obtain ⟨t, rfl, hx⟩ := h0.str_inv
      simp only [strs?, Option.map_eq_some_iff] at hs
      obtain ⟨ss', hs', rfl⟩ := hs
      obtain ⟨ts, h1, h2, h3⟩ := strs_rep (vs := vs) (ds := ds) (by simpa using hl) (fun i v d e1 e2 => hr (i + 1) v d (by simpa using e1) (by simpa using e2)) hs'
      exact ⟨t :: ts, by simp [h1], by simp [h2], by simpa using ⟨hx, h3⟩⟩
    | _ => simp [strs?] at hs

noncomputable def strIs (x : Str) : Value → Bool
  | .str y _ => y == x
  | _ => false

theorem any_strIs (x : Str) : ∀ (ss : List Str) (ts : List Tok), ts.length = ss.length → (List.zipWith (fun x t => Value.str x t) ss ts).any (strIs x) = ss.contains x
  | [], [], _ => rfl
  | [], _ :: _, h => by simp at h
  | _ :: _, [], h => by simp at h
  | s :: ss, t :: ts, h => by
    have ih := any_strIs x ss ts (by simpa using h)
    simp only [List.zipWith_cons_cons, List.any_cons, ih, List.contains_cons, strIs]
    rw [Bool.beq_comm]

theorem eqAt_strs {A : Around} {s : Shared} (x : Str) (t : Tok) : ∀ (ss : List Str) (ts : List Tok) (y : Value), y ∈ List.zipWith (fun x t => Value.str x t) ss ts → SeqAt.EqAt A s y (.str x t) (strIs x y)
  | [], _, y, h => by simp at h
  | _ :: _, [], y, h => by simp at h
  | s' :: ss, t' :: ts, y, h => by
    rcases List.mem_cons.mp h with h | h
    · subst h; exact SeqAt.EqAt.str_str _ _ _ _
    · exact eqAt_strs x t ss ts y h

theorem strKeys_one {k d : PyData} (h : ∀ x, k ≠ .str x) : strKeys [(k, d)] = false := by
  cases k <;> first | rfl | exact absurd rfl (h _)

theorem on_ints {β : Type} (f : Int → Int → P β) (a b : PyData) : (match a, b with | .int x, .int y => f x y | _, _ => P.no) = .no ∨ ∃ x y, a = .int x ∧ b = .int y := by
  cases a with
  | int x =>
    cases b with
    | int y => exact .inr ⟨x, y, rfl, rfl⟩
    | _ => exact .inl rfl
  | _ => exact .inl rfl

/-- comparisons -/
theorem sound_cmp {A : Around} {s : Shared} {av : Addr → Prop} {op : CmpOp} {va vb : Value} {a b : PyData} (hu : A.units + 70 < cLine) (ra : Rep prog w s.heap av va a) (rb : Rep prog w s.heap av vb b) :
    Yd (fun Q E => wpAny (model prog w) A (compareOp op va vb) Q E s) (fun v s' r => Kp s s' ∧ v = .bool r) (Raised s) (cmp op a b) := by
  have heq : ∀ r, eqO a b = some r → flat a = true ∧ flat b = true ∧ a.depth ≤ 60 ∧ r = PyData.eqv a b := fun r h => by
    unfold eqO at h
    split at h
    · rename_i hc
      simp only [Bool.and_eq_true, decide_eq_true_eq] at hc
      exact ⟨hc.1.1, hc.1.2, hc.2, (Option.some.inj h).symm⟩
    · cases h
  have hin : ∀ neg : Bool, Yd (fun Q E => wpAny (model prog w) A (compareOp (if neg then .NotIn else .In) va vb) Q E s) (fun v s' r => Kp s s' ∧ v = .bool r) (Raised s) (if neg then notP (contains a b) else contains a b) := by
    intro neg
    cases a with
    | str x =>
      obtain ⟨t, rfl, hx⟩ := ra.str_inv
      cases b with
      | str y =>
        obtain ⟨u, rfl, hy⟩ := rb.str_inv
        cases neg with
        | false => exact fun Q E hq => SB.contains (hq _ _ ⟨Kp.rfl' s, rfl⟩)
        | true => exact fun Q E hq => SB.notContains (hq _ _ ⟨Kp.rfl' s, rfl⟩)
      | dict l =>
        cases rb with
        | dict1 h1 h2 h3 h4 h5 h6 =>
          cases neg <;> (simp only [contains, strKeys_one h6]; exact trivial)
        | dict h1 h2 h3 h4 h5 h6 =>
          have hsome : ∀ kvs : List (Str × Value), l.map (·.1) = kvs.map (fun kv => PyData.str kv.1) → (valueAt kvs x).isSome = (dGet l x).isSome := fun kvs h => by
            rcases valueAt_dGet x h with ⟨e1, e2⟩ | ⟨i, v, d, e1, e2, _⟩ <;> rw [e1, e2] <;> rfl
          cases neg with
          | false =>
            show Yd _ _ _ (if strKeys l = true then P.ok (dGet l x).isSome else .no)
            by_cases hk : strKeys l = true
            · rw [if_pos hk]
              exact fun Q E hq => wpAny_in_of (isStr_self x t) h4 h2.mapOf (hq _ _ ⟨Kp.tok' s _, by rw [hsome _ h5]⟩)
            · rw [if_neg hk]; exact trivial
          | true =>
            show Yd _ _ _ (notP (if strKeys l = true then P.ok (dGet l x).isSome else .no))
            by_cases hk : strKeys l = true
            · rw [if_pos hk]
              exact fun Q E hq => wpAny_notIn_of (isStr_self x t) h4 h2.mapOf (hq _ _ ⟨Kp.tok' s _, by rw [hsome _ h5]⟩)
            · rw [if_neg hk]; exact trivial
      | list l =>
        cases rb with
        | list h1 h2 h3 h4 h5 =>
          cases hs : strs? l with
          | none => cases neg <;> (simp only [contains, hs, ofO, P.bind, notP]; exact trivial)
          | some ss =>
            obtain ⟨ts, e1, e2, e3⟩ := strs_rep h3 h5 hs
            subst e2
            have hany : (List.zipWith (fun x t => Value.str x t) ss ts).toArray.any (strIs x) = ss.contains x := by simpa using any_strIs x ss ts e1
            have he : ∀ y, y ∈ (List.zipWith (fun x t => Value.str x t) ss ts).toArray → SeqAt.EqAt A.in1 s y (.str x t) (strIs x y) := fun y hy => eqAt_strs x t ss ts y (by simpa using hy)
            cases neg with
            | false =>
              simp only [contains, hs, ofO, P.bind]
              exact fun Q E hq => SeqAt.in_listAt (strIs x) h2.isList he (hq _ _ ⟨Kp.rfl' s, by rw [hany]⟩)
            | true =>
              simp only [contains, hs, ofO, P.bind, notP]
              exact fun Q E hq => SeqAt.notIn_listAt (strIs x) h2.isList he (hq _ _ ⟨Kp.rfl' s, by rw [hany]⟩)
      | tuple l =>
        cases rb with
        | tuple h1 h2 h3 h4 h5 =>
          cases hs : strs? l with
          | none => cases neg <;> (simp only [contains, hs, ofO, P.bind, notP]; exact trivial)
          | some ss =>
            obtain ⟨ts, e1, e2, e3⟩ := strs_rep h3 h5 hs
            subst e2
            have hany : (List.zipWith (fun x t => Value.str x t) ss ts).toArray.any (strIs x) = ss.contains x := by simpa using any_strIs x ss ts e1
            have he : ∀ y, y ∈ (List.zipWith (fun x t => Value.str x t) ss ts).toArray → SeqAt.EqAt A.in1 s y (.str x t) (strIs x y) := fun y hy => eqAt_strs x t ss ts y (by simpa using hy)
            cases neg with
            | false =>
              simp only [contains, hs, ofO, P.bind]
              exact fun Q E hq => SeqAt.in_tupleAt (strIs x) h2.isTuple he (hq _ _ ⟨Kp.rfl' s, by rw [hany]⟩)
            | true =>
              simp only [contains, hs, ofO, P.bind, notP]
              exact fun Q E hq => SeqAt.notIn_tupleAt (strIs x) h2.isTuple he (hq _ _ ⟨Kp.rfl' s, by rw [hany]⟩)
      | _ => cases neg <;> exact trivial
    | _ => cases neg <;> exact trivial
  have his : ∀ neg : Bool, Yd (fun Q E => wpAny (model prog w) A (compareOp (if neg then .IsNot else .Is) va vb) Q E s) (fun v s' r => Kp s s' ∧ v = .bool r) (Raised s) (if neg then notP (isSame a b) else isSame a b) := by
    intro neg
    cases b with
    | none =>
      cases rb
      have hv : (va == Value.none) = isNoneD a := by cases ra <;> rfl
      cases neg with
      | false => exact fun Q E hq => is_none (hq _ _ ⟨Kp.rfl' s, by rw [hv]⟩)
      | true => exact fun Q E hq => isNot_none (hq _ _ ⟨Kp.rfl' s, by rw [hv]⟩)
    | bool y =>
      cases rb
      cases a with
      | bool x =>
        cases ra
        have hv : (Value.bool x == Value.bool y) = (x == y) := by cases x <;> cases y <;> rfl
        cases neg with
        | false => exact fun Q E hq => wpAny_is_plain rfl (hq _ _ ⟨Kp.rfl' s, by rw [hv]⟩)
        | true => exact fun Q E hq => wpAny_isNot_plain rfl (hq _ _ ⟨Kp.rfl' s, by rw [hv]⟩)
      | _ => cases neg <;> exact trivial
    | _ => cases neg <;> exact trivial
  cases op with
  | Eq =>
    show Yd _ _ _ (ofO (eqO a b))
    cases h : eqO a b with
    | none => exact trivial
    | some r =>
      obtain ⟨h1, h2, h3, rfl⟩ := heq r h
      exact fun Q E hq => rcAt_rep ra h1 rb h2 (by omega) prog w E Q (hq _ _ ⟨Kp.rfl' s, rfl⟩)
  | NotEq =>
    show Yd _ _ _ (notP (ofO (eqO a b)))
    cases h : eqO a b with
    | none => exact trivial
    | some r =>
      obtain ⟨h1, h2, h3, rfl⟩ := heq r h
      exact fun Q E hq => rcNeAt_rep ra h1 rb h2 (by omega) prog w E Q (hq _ _ ⟨Kp.rfl' s, rfl⟩)
  | In => exact hin false
  | NotIn => exact hin true
  | Is => exact his false
  | IsNot => exact his true
  | Lt =>
    rcases on_ints (fun x y => P.ok (decide (x < y))) a b with h | ⟨x, y, rfl, rfl⟩
    · exact (show Yd _ _ _ (match a, b with | .int x, .int y => P.ok (decide (x < y)) | _, _ => .no) from by rw [h]; exact trivial)
    · obtain ⟨t, rfl⟩ := ra.int_inv
      obtain ⟨u, rfl⟩ := rb.int_inv
      exact fun Q E hq => PyProof.Rows.lt_int (hq _ _ ⟨Kp.rfl' s, rfl⟩)
  | LtE =>
    rcases on_ints (fun x y => P.ok (decide (x ≤ y))) a b with h | ⟨x, y, rfl, rfl⟩
    · exact (show Yd _ _ _ (match a, b with | .int x, .int y => P.ok (decide (x ≤ y)) | _, _ => .no) from by rw [h]; exact trivial)
    · obtain ⟨t, rfl⟩ := ra.int_inv
      obtain ⟨u, rfl⟩ := rb.int_inv
      exact fun Q E hq => P.le_int (hq _ _ ⟨Kp.rfl' s, rfl⟩)
  | Gt =>
    rcases on_ints (fun x y => P.ok (decide (y < x))) a b with h | ⟨x, y, rfl, rfl⟩
    · exact (show Yd _ _ _ (match a, b with | .int x, .int y => P.ok (decide (y < x)) | _, _ => .no) from by rw [h]; exact trivial)
    · obtain ⟨t, rfl⟩ := ra.int_inv
      obtain ⟨u, rfl⟩ := rb.int_inv
      exact fun Q E hq => PyProof.Rows.gt_int (hq _ _ ⟨Kp.rfl' s, rfl⟩)
  | GtE =>
    rcases on_ints (fun x y => P.ok (decide (y ≤ x))) a b with h | ⟨x, y, rfl, rfl⟩
    · exact (show Yd _ _ _ (match a, b with | .int x, .int y => P.ok (decide (y ≤ x)) | _, _ => .no) from by rw [h]; exact trivial)
    · obtain ⟨t, rfl⟩ := ra.int_inv
      obtain ⟨u, rfl⟩ := rb.int_inv
      exact fun Q E hq => P.ge_int (hq _ _ ⟨Kp.rfl' s, rfl⟩)

end
end Mine

set_option maxRecDepth 100000
namespace Mine
open PySem

section
variable {prog : Program} {w : World}

theorem fresh_none (h : Heap) : h.get? h.objs.size = none := by
  cases e : h.get? h.objs.size with
  | none => rfl
  | some o => exact absurd (Heap.lt_size e) (Nat.lt_irrefl _)

/-- a new object is nothing's part -/
theorem Rep.apart {h : Heap} {av : Addr → Prop} {v : Value} {d : PyData} {a : Addr} (hn : h.get? a = Option.none) (r : Rep prog w h av v d) : Rep prog w h (fun b => av b ∨ b = a) v d :=
  r.mono (fun _ _ _ e => e) fun b o e x => x.elim id fun x => by subst x; rw [hn] at e; cases e

theorem push_at (h : Heap) (o : Obj) (ho : o.isFreed = false) : (h.push o).get? h.objs.size = some o := Heap.get?_push_size h ho

theorem append_rep {h : Heap} {av : Addr → Prop} {xs ys : List Value} {as bs : List PyData} (hx : xs.length = as.length) (_hy : ys.length = bs.length)
    (rx : ∀ (i : Nat) (v : Value) (d : PyData), xs[i]? = some v → as[i]? = some d → Rep prog w h av v d) (ry : ∀ (i : Nat) (v : Value) (d : PyData), ys[i]? = some v → bs[i]? = some d → Rep prog w h av v d) :
    ∀ (i : Nat) (v : Value) (d : PyData), (xs ++ ys)[i]? = some v → (as ++ bs)[i]? = some d → Rep prog w h av v d := by
  intro i v d e1 e2
  by_cases hi : i < xs.length
  · rw [List.getElem?_append_left hi] at e1
    rw [List.getElem?_append_left (hx ▸ hi)] at e2
    exact rx i v d e1 e2
  · rw [List.getElem?_append_right (by omega)] at e1
    rw [List.getElem?_append_right (by omega), ← hx] at e2
    exact ry _ v d e1 e2

/-- a list that was made: all that is known of it -/
theorem own_list {s s₁ : Shared} {av : Addr → Prop} {vs : List Value} {ds : List PyData} (k : Kp s s₁) (hl : vs.length = ds.length) (hz : vs.length ≤ sizeLine)
    (hr : ∀ (i : Nat) (v : Value) (d : PyData), vs[i]? = some v → ds[i]? = some d → Rep prog w s₁.heap av v d) :
    Kp s { s₁ with heap := s₁.heap.push { cls := .type "list", data := .seq vs.toArray } } ∧
      RepV prog w s (s₁.heap.push { cls := .type "list", data := .seq vs.toArray }) av (.ref s₁.heap.objs.size) (.own (.list ds)) := by
  refine ⟨k.tr (Kp.push' _ _), Own.back k ⟨_, rfl, fresh_none _, vs, ⟨0, push_at _ _ rfl⟩, hl, hz, fun i v d e1 e2 => ?_⟩⟩
  exact (((hr i v d e1 e2).apart (fresh_none _)).keeps fun b o e => Heap.get?_push_of_some _ e)

theorem new_tuple {s s₁ : Shared} {av : Addr → Prop} {vs : List Value} {ds : List PyData} (k : Kp s s₁) (ha : ∀ b, av b → ∃ o, s₁.heap.get? b = some o) (hl : vs.length = ds.length) (hz : vs.length ≤ sizeLine)
    (hr : ∀ (i : Nat) (v : Value) (d : PyData), vs[i]? = some v → ds[i]? = some d → Rep prog w s₁.heap av v d) :
    Kp s { s₁ with heap := s₁.heap.push { cls := .type "tuple", data := .seq vs.toArray } } ∧
      RepV prog w s (s₁.heap.push { cls := .type "tuple", data := .seq vs.toArray }) av (.ref s₁.heap.objs.size) (.fz (.tuple ds)) := by
  refine ⟨k.tr (Kp.push' _ _), Rep.tuple (fun x => ?_) ⟨0, push_at _ _ rfl⟩ hl hz fun i v d e1 e2 => (hr i v d e1 e2).keeps fun b o e => Heap.get?_push_of_some _ e⟩
  obtain ⟨o, e⟩ := ha _ x
  rw [fresh_none] at e; cases e

theorem noPylong {x y : Int} (hy : y.natAbs < 2 ^ 63) : Builtin.divisionGoesByPylong x y = false := by
  unfold Builtin.divisionGoesByPylong
  have : (if (y == 0) = true then 0 else y.natAbs.log2 / 30 + 1) ≤ 300 := by
    split
    · omega
    · rename_i h0
      have hn : y.natAbs ≠ 0 := by simpa using h0
      have : y.natAbs.log2 < 63 := (Nat.log2_lt hn).mpr hy
      omega
  simp only [Bool.and_eq_false_iff, decide_eq_false_iff_not]
  left; omega

theorem bits_short {x : Int} (h : x.natAbs < 2 ^ 63) : Builtin.Int.intBits x ≤ 64 := intBits_le_64 (by omega) (by omega)

theorem repS_length {x : Str} {n : Int} (hn : n ≤ 1024) (hx : x.length ≤ 1024) : (repS x n).length ≤ sizeLine := by
  unfold repS
  split
  · exact Nat.zero_le _
  · split
    · rw [sizeLine_eq]; omega
    · have hf : ∀ (k : Nat) (acc : Array Nat), ((List.replicate k x.cps).foldl (· ++ ·) acc).size = acc.size + k * x.cps.size := by
        intro k
        induction k with
        | zero => intro acc; simp
        | succ k ih => intro acc; rw [List.replicate_succ, List.foldl_cons, ih, Array.size_append, Nat.succ_mul]; omega
      show ((List.replicate n.toNat x.cps).foldl (· ++ ·) #[]).size ≤ sizeLine
      rw [hf]
      have h1 : n.toNat ≤ 1024 := by omega
      have h2 : x.cps.size ≤ 1024 := hx
      have h3 : n.toNat * x.cps.size ≤ 1024 * 1024 := Nat.mul_le_mul h1 h2
      rw [sizeLine_eq]; simp; omega

theorem Rep.list_inv {h : Heap} {av : Addr → Prop} {v : Value} {ds : List PyData} (r : Rep prog w h av v (.list ds)) : ∃ a vs, v = .ref a ∧ ¬ av a ∧ h.PlainList a (List.toArray vs) ∧ vs.length = ds.length ∧ vs.length ≤ sizeLine ∧ ∀ (i : Nat) (v : Value) (d : PyData), vs[i]? = some v → ds[i]? = some d → Rep prog w h av v d := by
  cases r with
  | list h1 h2 h3 h4 h5 => exact ⟨_, _, rfl, h1, h2, h3, h4, h5⟩
theorem Rep.tuple_inv {h : Heap} {av : Addr → Prop} {v : Value} {ds : List PyData} (r : Rep prog w h av v (.tuple ds)) : ∃ a vs, v = .ref a ∧ ¬ av a ∧ PlT h a (List.toArray vs) ∧ vs.length = ds.length ∧ vs.length ≤ sizeLine ∧ ∀ (i : Nat) (v : Value) (d : PyData), vs[i]? = some v → ds[i]? = some d → Rep prog w h av v d := by
  cases r with
  | tuple h1 h2 h3 h4 h5 => exact ⟨_, _, rfl, h1, h2, h3, h4, h5⟩

theorem binop_kinds (op : Operator) (a b : PyData) : binop op a b = .no ∨ (∃ x y, a = .int x ∧ b = .int y) ∨ (∃ x y, a = .str x ∧ b = .str y ∧ op = .Add) ∨ (∃ x n, a = .str x ∧ b = .int n ∧ op = .Mult) ∨ (∃ x y, a = .list x ∧ b = .list y ∧ op = .Add) ∨ (∃ x y, a = .tuple x ∧ b = .tuple y ∧ op = .Add) := by
  cases op with
  | Add =>
    cases a with
    | int x =>
      cases b with
      | int y => exact .inr (.inl ⟨x, y, rfl, rfl⟩)
      | _ => exact .inl rfl
    | str x =>
      cases b with
      | str y => exact .inr (.inr (.inl ⟨x, y, rfl, rfl, rfl⟩))
      | _ => exact .inl rfl
    | list x =>
      cases b with
      | list y => exact .inr (.inr (.inr (.inr (.inl ⟨x, y, rfl, rfl, rfl⟩))))
      | _ => exact .inl rfl
    | tuple x =>
      cases b with
      | tuple y => exact .inr (.inr (.inr (.inr (.inr ⟨x, y, rfl, rfl, rfl⟩))))
      | _ => exact .inl rfl
    | _ => exact .inl rfl
  | Mult =>
    cases a with
    | int x =>
      cases b with
      | int y => exact .inr (.inl ⟨x, y, rfl, rfl⟩)
      | _ => exact .inl rfl
    | str x =>
      cases b with
      | int n => exact .inr (.inr (.inr (.inl ⟨x, n, rfl, rfl, rfl⟩)))
      | _ => exact .inl rfl
    | _ => exact .inl rfl
  | _ =>
    cases a with
    | int x =>
      cases b with
      | int y => exact .inr (.inl ⟨x, y, rfl, rfl⟩)
      | _ => exact .inl rfl
    | _ => exact .inl rfl

/-- arithmetic -/
theorem sound_binop {A : Around} {s : Shared} {av : Addr → Prop} {op : Operator} {va vb : Value} {a b : PyData} (ha : ∀ b, av b → ∃ o, s.heap.get? b = some o) (ra : Rep prog w s.heap av va a) (rb : Rep prog w s.heap av vb b) :
    Yd (fun Q E => wpAny (model prog w) A (binaryOp op va vb) Q E s) (fun v s' u => Kp s s' ∧ RepV prog w s s'.heap av v u) (Raised s) (binop op a b) := by
  rcases binop_kinds op a b with h | ⟨x, y, rfl, rfl⟩ | ⟨x, y, rfl, rfl, rfl⟩ | ⟨x, n, rfl, rfl, rfl⟩ | ⟨ds, ds', rfl, rfl, rfl⟩ | ⟨ds, ds', rfl, rfl, rfl⟩
  · rw [h]; exact trivial
  · obtain ⟨t, rfl⟩ := ra.int_inv
    obtain ⟨u, rfl⟩ := rb.int_inv
    · cases op with
      | Add => exact fun Q E hq => PyProof.Rows.add_int (hq _ _ ⟨Kp.tok' s _, .int _ _⟩)
      | Sub => exact fun Q E hq => PyProof.Rows.sub_int (hq _ _ ⟨Kp.tok' s _, .int _ _⟩)
      | Mult =>
        show Yd _ _ _ (if x.natAbs < 2 ^ 63 ∨ y.natAbs < 2 ^ 63 then P.ok (V.fz (.int (x * y))) else .no)
        split
        · rename_i h
          exact fun Q E hq => P.mul_int (hq _ _ ⟨Kp.tok' s _, .int _ _⟩) (h.elim (fun h => .of_left (bits_short h)) fun h => .of_right (bits_short h))
        · exact trivial
      | FloorDiv =>
        show Yd _ _ _ (if y ≠ 0 ∧ y.natAbs < 2 ^ 63 then P.ok (V.fz (.int (x.fdiv y))) else .no)
        split
        · rename_i h
          exact fun Q E hq => PyProof.Rows.floordiv_int h.1 (hq _ _ ⟨Kp.tok' s _, .int _ _⟩) (.inl (noPylong h.2))
        · exact trivial
      | Mod =>
        show Yd _ _ _ (if y ≠ 0 then P.ok (V.fz (.int (x.fmod y))) else .no)
        split
        · rename_i h
          exact fun Q E hq => PyProof.Rows.mod_int' h (hq _ _ ⟨Kp.tok' s _, .int _ _⟩)
        · exact trivial
      | Pow =>
        show Yd _ _ _ (if 0 ≤ y ∧ y ≤ 1000 ∧ x.natAbs < 2 ^ 63 then P.ok (V.fz (.int (x ^ y.toNat))) else .no)
        split
        · rename_i h
          exact fun Q E hq => PyProof.Rows.pow_int_small h.1 (by omega) (by omega) (hq _ _ ⟨Kp.tok' s _, .int _ _⟩)
        · exact trivial
      | _ => exact trivial
  · obtain ⟨t, rfl, hx⟩ := ra.str_inv
    obtain ⟨u, rfl, hy⟩ := rb.str_inv
    · · show Yd _ _ _ (if x.length + y.length ≤ strN then P.ok (V.fz (.str (x ++ y))) else .no)
        split
        · rename_i h
          exact fun Q E hq => SB.add (fun t' k => hq _ _ ⟨Kp.tok' s _, .str _ _ (by rw [strLen_append]; exact h)⟩) h
        · exact trivial
  · obtain ⟨t, rfl, hx⟩ := ra.str_inv
    obtain ⟨u, rfl⟩ := rb.int_inv
    · · show Yd _ _ _ (if -100 ≤ n ∧ n ≤ 1024 ∧ x.length ≤ 1024 then P.ok (V.fz (.str (repS x n))) else .no)
        split
        · rename_i h
          intro Q E hq
          have hlen := repS_length h.2.1 h.2.2
          refine P.mul_str (by simp only [Bool.or_eq_false_iff, decide_eq_false_iff_not]; omega) (fun h1 _ => ?_) (fun h1 _ => ?_) ?_
          · have h3 : (x.length : Int) ≤ 1024 := by omega
            have h4 : (2 ^ 63 - 1 : Int) / 1024 ≤ (2 ^ 63 - 1) / n := Int.le_ediv_of_mul_le (by omega) (by
              have : (2 ^ 63 - 1 : Int) / 1024 * n ≤ (2 ^ 63 - 1 : Int) / 1024 * 1024 := Int.mul_le_mul_of_nonneg_left (by omega) (by decide)
              exact Int.le_trans this (by decide))
            have h5 : (1024 : Int) ≤ (2 ^ 63 - 1 : Int) / 1024 := by decide
            omega
          · show (decide (x.length * n.toNat > sizeLine)) = false
            have h3 : x.length * n.toNat ≤ 1024 * 1024 := Nat.mul_le_mul h.2.2 (by omega)
            rw [sizeLine_eq]; simp; omega
          · unfold repS at hlen hq
            split
            · rename_i hn
              rw [if_pos hn] at hq hlen
              exact ⟨hlen, hq _ _ ⟨Kp.tok' s _, .str _ _ hlen⟩⟩
            · rename_i hn
              rw [if_neg hn] at hq hlen
              split
              · rename_i h1
                rw [if_pos h1] at hq hlen
                exact hq _ _ ⟨Kp.rfl' s, .str _ _ hlen⟩
              · rename_i h1
                rw [if_neg h1] at hq hlen
                exact ⟨hlen, hq _ _ ⟨Kp.tok' s _, .str _ _ hlen⟩⟩
        · exact trivial
  · obtain ⟨l, vs, rfl, h1, h2, h3, h4, h5⟩ := ra.list_inv
    obtain ⟨l', vs', rfl, k1, k2, k3, k4, k5⟩ := rb.list_inv
    · · show Yd _ _ _ (if ds.length + ds'.length ≤ strN then P.ok (V.own (.list (ds ++ ds'))) else .no)
        split
        · rename_i h
          intro Q E hq
          obtain ⟨n, e⟩ := h2
          obtain ⟨n', e'⟩ := k2
          have := own_list (prog := prog) (w := w) (vs := vs ++ vs') (ds := ds ++ ds') (Kp.rfl' s) (by simp [h3, k3]) (by rw [List.length_append, h3, k3]; exact h) (append_rep h3 k3 h5 k5)
          refine P.add_list e e' ?_ (by simp; rw [h3, k3]; exact h)
          have e2 : vs.toArray ++ vs'.toArray = (vs ++ vs').toArray := by simp
          rw [e2]
          exact hq _ _ this
        · exact trivial
  · obtain ⟨l, vs, rfl, h1, h2, h3, h4, h5⟩ := ra.tuple_inv
    obtain ⟨l', vs', rfl, k1, k2, k3, k4, k5⟩ := rb.tuple_inv
    · · show Yd _ _ _ (if ds.length + ds'.length ≤ strN ∧ ds.length ≠ 0 ∧ ds'.length ≠ 0 then P.ok (V.fz (.tuple (ds ++ ds'))) else .no)
        split
        · rename_i h
          intro Q E hq
          obtain ⟨n, e⟩ := h2
          obtain ⟨n', e'⟩ := k2
          have := new_tuple (prog := prog) (w := w) (vs := vs ++ vs') (ds := ds ++ ds') (Kp.rfl' s) ha (by simp [h3, k3]) (by rw [List.length_append, h3, k3]; exact h.1) (append_rep h3 k3 h5 k5)
          refine P.add_tuple e e' (by simp; intro hh; subst hh; simp at h3; omega) (by simp; intro hh; subst hh; simp at k3; omega) ?_ (by simp; rw [h3, k3]; exact h.1)
          have e2 : vs.toArray ++ vs'.toArray = (vs ++ vs').toArray := by simp
          rw [e2]
          exact hq _ _ this
        · exact trivial

end
end Mine

set_option maxRecDepth 100000
namespace Mine
open PySem

section
variable {prog : Program} {w : World} {mg mb : Str → Option Value}

theorem RepV.keeps {s : Shared} {h h' : Heap} {av : Addr → Prop} {v : Value} {u : V} (hk : ∀ b o, h.get? b = some o → h'.get? b = some o) (r : RepV prog w s h av v u) : RepV prog w s h' av v u := by
  cases u with
  | fz d => exact Rep.keeps hk r
  | own d => obtain ⟨a, e, hn, r⟩ := r; exact ⟨a, e, hn, r.mono (fun b o _ e => hk b o e) (fun _ _ _ x => x) fun o e => hk _ o e⟩
  | exc e => exact r

/-- what came, as a part of something else -/
theorem RepV.clear {s : Shared} {h : Heap} {av : Addr → Prop} {v : Value} {u : V} (hlt : ∀ b, av b → ∃ o, s.heap.get? b = some o) (r : RepV prog w s h av v u) : RepS prog w h av v u.clear := by
  cases u with
  | fz d => exact r
  | own d => exact Own.rep hlt r
  | exc e => exact r

theorem Room.units80 {n : Nat} {A : Around} (h : Room n A) : A.units + 70 < cLine := by have := h.units; omega

theorem sound_BinOp {n : Nat} {sc : Scope} {σ : Store} {l r : Expr} {op : Operator} {pos : Pos} {pl pr : P V} (hl : ESound prog w mg mb n sc σ l pl) (hr : ESound prog w mg mb n sc σ r pr) :
    ESound prog w mg mb n sc σ (.BinOp l op r pos) (pl.bind fun a => (dOf a).bind fun a => pr.bind fun b => (dOf b).bind fun b => binop op a b) := by
  intro A env s av hA I
  refine Yd.bind (hl A env s av hA I) (W2 := fun va s₁ Q E => wpAny (model prog w) A (eval r env) (fun b s₂ => wpAny (model prog w) A (binaryOp op va b) Q E s₂) E s₁) (fun Q E h => wpAny_BinOp h) fun va s₁ a ra _ => ?_
  refine Yd.pureBind (dOf_noerr a) fun da ea => ?_
  have I1 := I.keeps ra.1
  refine Yd.bind ((hr A env s₁ av hA I1).mono (fun _ _ x => x) (fun _ _ _ _ r => r) (Raised.back ra.1)) (W2 := fun vb s₂ Q E => wpAny (model prog w) A (binaryOp op va vb) Q E s₂) (fun Q E h => h) fun vb s₂ b rb _ => ?_
  refine Yd.pureBind (dOf_noerr b) fun db eb => ?_
  have k := ra.1.tr rb.1
  exact (sound_binop (I1.keeps rb.1).avlt ((ra.2.rep I.avlt ea).keeps rb.1.heap) (rb.2.rep I1.avlt eb)).mono (fun _ _ x => x) (fun _ _ _ _ r => ⟨k.tr r.1, r.2.back k⟩) (Raised.back k)

theorem truthV_inv {u : V} {b : Bool} (h : truthV u = .ok b) : u = .fz (.bool b) := by
  cases u with
  | fz d => cases d <;> first | (cases h; rfl) | cases h
  | _ => cases h
theorem truthV_noerr (u : V) (en : Exn) : truthV u ≠ .err en := by
  cases u with
  | fz d => cases d <;> (intro h; cases h)
  | _ => intro h; cases h

theorem sound_Un {n : Nat} {sc : Scope} {σ : Store} {x : Expr} {op : UnaryOp} {pos : Pos} {p : P V} (hx : ESound prog w mg mb n sc σ x p) : ESound prog w mg mb n sc σ (.UnaryOp op x pos) (p.bind fun v => evUn op v) := by
  intro A env s av hA I
  refine Yd.bind (hx A env s av hA I) (W2 := fun va s₁ Q E => wpAny (model prog w) A (unaryOp op va) Q E s₁) (fun Q E h => wpAny_UnaryOp h) fun va s₁ a ra _ => ?_
  cases op with
  | Not =>
    refine Yd.pureBind (truthV_noerr a) fun b eb => ?_
    cases truthV_inv eb
    cases (show Rep prog w s₁.heap av va (.bool b) from ra.2).bool_inv
    exact fun Q E hq => not_value (wpAny_truthy_bool (hq _ _ ⟨ra.1, .bool _⟩))
  | USub =>
    cases a with
    | fz d =>
      cases d with
      | int i =>
        obtain ⟨t, rfl⟩ := (show Rep prog w s₁.heap av va (.int i) from ra.2).int_inv
        exact fun Q E hq => P.neg_int (hq _ _ ⟨ra.1.tr (Kp.tok' _ _), .int _ _⟩)
      | _ => exact trivial
    | _ => exact trivial
  | _ => exact trivial

/-- a test -/
noncomputable def TSound (prog : Program) (w : World) (mg mb : Str → Option Value) (n : Nat) (sc : Scope) (σ : Store) (e : Expr) (r : P V) : Prop :=
  ∀ (A : Around) (env : Env) (s : Shared) (av : Addr → Prop), Room n A → Inv0 prog w mg mb env sc σ av s →
    Yd (fun Q E => wpAny (model prog w) A (isTrue e env (eval e env)) Q E s) (fun v s' b => Kp s s' ∧ v = b) (Raised s) (r.bind truthV)

theorem sound_If {n : Nat} {sc : Scope} {σ : Store} {t b o : Expr} {pos : Pos} {pt pb po : P V} (ht : TSound prog w mg mb n sc σ t pt) (hb : ESound prog w mg mb n sc σ b pb) (ho : ESound prog w mg mb n sc σ o po) :
    ESound prog w mg mb n sc σ (.IfExp t b o pos) (pt.bind fun v => (truthV v).bind fun c => if c then pb else po) := by
  intro A env s av hA I
  have h := ht A env s av hA I
  have e : (pt.bind fun v => (truthV v).bind fun c => if c then pb else po) = (pt.bind truthV).bind fun c => if c then pb else po := by
    cases pt <;> rfl
  rw [e]
  refine Yd.bind h (W2 := fun c s₁ Q E => if c then wpAny (model prog w) A (eval b env) Q E s₁ else wpAny (model prog w) A (eval o env) Q E s₁) (fun Q E h => wpAny_IfExp h) fun c s₁ c' r _ => ?_
  obtain ⟨k, rfl⟩ := r
  cases c with
  | true => exact (hb A env s₁ av hA (I.keeps k)).mono (fun _ _ x => x) (fun _ _ _ _ r => ⟨k.tr r.1, r.2.back k⟩) (Raised.back k)
  | false => exact (ho A env s₁ av hA (I.keeps k)).mono (fun _ _ x => x) (fun _ _ _ _ r => ⟨k.tr r.1, r.2.back k⟩) (Raised.back k)

theorem P.bind_assoc' {α β γ : Type} (p : P α) (f : α → P β) (g : β → P γ) : (p.bind f).bind g = p.bind fun a => (f a).bind g := by cases p <;> rfl

/-- a plain value as a test -/
theorem test_value {n : Nat} {sc : Scope} {σ : Store} {e : Expr} {r : P V} (h : ESound prog w mg mb n sc σ e r) (he : ∀ env whole, isTrue e env whole = (do let v ← whole; standAt e.pos; holding [v] (truthy v))) : TSound prog w mg mb n sc σ e r := by
  intro A env s av hA I
  refine Yd.bind (h A env s av hA I) (W2 := fun v s₁ Q E => wpAny (model prog w) A (truthy v) Q E s₁) (fun Q E h => wpAny_isTrue_value h (he env _)) fun v s₁ a ra _ => ?_
  cases ht : truthV a with
  | no => exact trivial
  | err en => exact absurd ht (truthV_noerr a en)
  | ok b =>
    cases truthV_inv ht
    cases (show Rep prog w s₁.heap av v (.bool b) from ra.2).bool_inv
    exact fun Q E hq => wpAny_truthy_bool (hq _ _ ⟨ra.1, rfl⟩)

/-- and, or: by turns -/
theorem sound_And {n : Nat} {sc : Scope} {σ : Store} {rec : Expr → P V} : ∀ {vs : List Expr} {A : Around} {env : Env} {s : Shared} {av : Addr → Prop} {pos : Pos}, (∀ e ∈ vs, ESound prog w mg mb n sc σ e (rec e)) → Room n A → Inv0 prog w mg mb env sc σ av s →
    Yd (fun Q E => wpAny (model prog w) A (boolOp pos .And (evalEach vs env)) Q E s) (fun v s' u => Kp s s' ∧ RepV prog w s s'.heap av v u) (Raised s) (evAnd rec vs)
  | [], _, _, _, _, _, _, _, _ => trivial
  | [e], A, env, s, av, pos, h, hA, I => h e (by simp) A env s av hA I
  | e :: e' :: r, A, env, s, av, pos, h, hA, I => by
    show Yd _ _ _ ((rec e).bind fun v => (truthV v).bind fun b => if b then evAnd rec (e' :: r) else .ok v)
    refine Yd.bind (h e (by simp) A env s av hA I) (W2 := fun v s₁ Q E => wpAny (model prog w) A (truthy v) (fun t s₂ => if t then wpAny (model prog w) A (boolOp pos .And (evalEach (e' :: r) env)) Q E s₂ else Q v s₂) E s₁) (fun Q E h => ?_) fun v s₁ a ra _ => ?_
    · refine wpAny_bind (wpAny_mono h (fun v s₁ h₁ => wpAny_bind (wpAny_standAt (wpAny_bind (wpAny_holding (wpAny_mono h₁ (fun t s₂ h₂ => ?_) fun _ _ x => x))))) fun _ _ x => x)
      cases t with
      | true => exact h₂
      | false => exact wpAny_pure h₂
    · refine Yd.pureBind (truthV_noerr a) fun b eb => ?_
      cases truthV_inv eb
      cases (show Rep prog w s₁.heap av v (.bool b) from ra.2).bool_inv
      cases b with
      | true => exact (sound_And (vs := e' :: r) (fun x hx => h x (List.mem_cons_of_mem _ hx)) hA (I.keeps ra.1)).mono (fun _ _ x => wpAny_truthy_bool x) (fun _ _ _ _ r => ⟨ra.1.tr r.1, r.2.back ra.1⟩) (Raised.back ra.1)
      | false => exact fun Q E hq => wpAny_truthy_bool (hq _ _ ⟨ra.1, .bool _⟩)
theorem sound_Or {n : Nat} {sc : Scope} {σ : Store} {rec : Expr → P V} : ∀ {vs : List Expr} {A : Around} {env : Env} {s : Shared} {av : Addr → Prop} {pos : Pos}, (∀ e ∈ vs, ESound prog w mg mb n sc σ e (rec e)) → Room n A → Inv0 prog w mg mb env sc σ av s →
    Yd (fun Q E => wpAny (model prog w) A (boolOp pos .Or (evalEach vs env)) Q E s) (fun v s' u => Kp s s' ∧ RepV prog w s s'.heap av v u) (Raised s) (evOr rec vs)
  | [], _, _, _, _, _, _, _, _ => trivial
  | [e], A, env, s, av, pos, h, hA, I => h e (by simp) A env s av hA I
  | e :: e' :: r, A, env, s, av, pos, h, hA, I => by
    show Yd _ _ _ ((rec e).bind fun v => (truthV v).bind fun b => if b then .ok v else evOr rec (e' :: r))
    refine Yd.bind (h e (by simp) A env s av hA I) (W2 := fun v s₁ Q E => wpAny (model prog w) A (truthy v) (fun t s₂ => if t then Q v s₂ else wpAny (model prog w) A (boolOp pos .Or (evalEach (e' :: r) env)) Q E s₂) E s₁) (fun Q E h => ?_) fun v s₁ a ra _ => ?_
    · refine wpAny_bind (wpAny_mono h (fun v s₁ h₁ => wpAny_bind (wpAny_standAt (wpAny_bind (wpAny_holding (wpAny_mono h₁ (fun t s₂ h₂ => ?_) fun _ _ x => x))))) fun _ _ x => x)
      cases t with
      | true => exact wpAny_pure h₂
      | false => exact h₂
    · refine Yd.pureBind (truthV_noerr a) fun b eb => ?_
      cases truthV_inv eb
      cases (show Rep prog w s₁.heap av v (.bool b) from ra.2).bool_inv
      cases b with
      | false => exact (sound_Or (vs := e' :: r) (fun x hx => h x (List.mem_cons_of_mem _ hx)) hA (I.keeps ra.1)).mono (fun _ _ x => wpAny_truthy_bool x) (fun _ _ _ _ r => ⟨ra.1.tr r.1, r.2.back ra.1⟩) (Raised.back ra.1)
      | true => exact fun Q E hq => wpAny_truthy_bool (hq _ _ ⟨ra.1, .bool _⟩)

/-- and, or as tests -/
theorem test_And {n : Nat} {sc : Scope} {σ : Store} {rec : Expr → P V} : ∀ {vs : List Expr} {A : Around} {env : Env} {s : Shared} {av : Addr → Prop}, (∀ e ∈ vs, TSound prog w mg mb n sc σ e (rec e)) → Room n A → Inv0 prog w mg mb env sc σ av s →
    Yd (fun Q E => wpAny (model prog w) A (allTrue .And vs env) Q E s) (fun v s' b => Kp s s' ∧ v = b) (Raised s) ((evAnd rec vs).bind truthV)
  | [], _, _, _, _, _, _, _ => trivial
  | [e], A, env, s, av, h, hA, I => by
    refine (h e (by simp) A env s av hA I).mono (fun Q E x => ?_) (fun _ _ _ _ r => r) fun _ _ _ r => r
    exact wpAny_allTrue_And_cons (wpAny_mono x (fun b s₁ hb => by cases b with | true => exact wpAny_allTrue_And_nil hb | false => exact hb) fun _ _ y => y)
  | e :: e' :: r, A, env, s, av, h, hA, I => by
    have eq : (evAnd rec (e :: e' :: r)).bind truthV = ((rec e).bind truthV).bind fun b => if b then (evAnd rec (e' :: r)).bind truthV else .ok false := by
      show ((rec e).bind fun v => (truthV v).bind fun b => if b then evAnd rec (e' :: r) else .ok v).bind truthV = _
      rw [P.bind_assoc', P.bind_assoc']
      cases rec e with
      | ok v =>
        show ((truthV v).bind _).bind truthV = (truthV v).bind _
        cases ht : truthV v with
        | ok b => cases truthV_inv ht; cases b <;> rfl
        | _ => rfl
      | _ => rfl
    rw [eq]
    refine Yd.bind (h e (by simp) A env s av hA I) (W2 := fun b s₁ Q E => if b then wpAny (model prog w) A (allTrue .And (e' :: r) env) Q E s₁ else Q false s₁) (fun Q E h => wpAny_allTrue_And_cons h) fun b s₁ b' rb _ => ?_
    obtain ⟨k, rfl⟩ := rb
    cases b with
    | true => exact (test_And (vs := e' :: r) (fun x hx => h x (List.mem_cons_of_mem _ hx)) hA (I.keeps k)).mono (fun _ _ x => x) (fun _ _ _ _ r => ⟨k.tr r.1, r.2⟩) (Raised.back k)
    | false => exact fun Q E hq => hq _ _ ⟨k, rfl⟩
theorem test_Or {n : Nat} {sc : Scope} {σ : Store} {rec : Expr → P V} : ∀ {vs : List Expr} {A : Around} {env : Env} {s : Shared} {av : Addr → Prop}, (∀ e ∈ vs, TSound prog w mg mb n sc σ e (rec e)) → Room n A → Inv0 prog w mg mb env sc σ av s →
    Yd (fun Q E => wpAny (model prog w) A (allTrue .Or vs env) Q E s) (fun v s' b => Kp s s' ∧ v = b) (Raised s) ((evOr rec vs).bind truthV)
  | [], _, _, _, _, _, _, _ => trivial
  | [e], A, env, s, av, h, hA, I => by
    refine (h e (by simp) A env s av hA I).mono (fun Q E x => ?_) (fun _ _ _ _ r => r) fun _ _ _ r => r
    exact wpAny_allTrue_Or_cons (wpAny_mono x (fun b s₁ hb => by cases b with | true => exact hb | false => exact wpAny_allTrue_Or_nil hb) fun _ _ y => y)
  | e :: e' :: r, A, env, s, av, h, hA, I => by
    have eq : (evOr rec (e :: e' :: r)).bind truthV = ((rec e).bind truthV).bind fun b => if b then .ok true else (evOr rec (e' :: r)).bind truthV := by
      show ((rec e).bind fun v => (truthV v).bind fun b => if b then .ok v else evOr rec (e' :: r)).bind truthV = _
      rw [P.bind_assoc', P.bind_assoc']
      cases rec e with
      | ok v =>
        show ((truthV v).bind _).bind truthV = (truthV v).bind _
        cases ht : truthV v with
        | ok b => cases truthV_inv ht; cases b <;> rfl
        | _ => rfl
      | _ => rfl
    rw [eq]
    refine Yd.bind (h e (by simp) A env s av hA I) (W2 := fun b s₁ Q E => if b then Q true s₁ else wpAny (model prog w) A (allTrue .Or (e' :: r) env) Q E s₁) (fun Q E h => wpAny_allTrue_Or_cons h) fun b s₁ b' rb _ => ?_
    obtain ⟨k, rfl⟩ := rb
    cases b with
    | false => exact (test_Or (vs := e' :: r) (fun x hx => h x (List.mem_cons_of_mem _ hx)) hA (I.keeps k)).mono (fun _ _ x => x) (fun _ _ _ _ r => ⟨k.tr r.1, r.2⟩) (Raised.back k)
    | true => exact fun Q E hq => hq _ _ ⟨k, rfl⟩

end
end Mine

set_option maxRecDepth 100000
namespace Mine
open PySem

section
variable {prog : Program} {w : World} {mg mb : Str → Option Value}

theorem wp_operate' {M : Model} {A : Around} {vs : List Value} {m : Sem Value} {Q : Value → Shared → Prop} {E : Value → Shared → Prop} {s : Shared} (h : wpAny M A m Q E s) : wpAny M A (operate vs m) Q E s :=
  fun Γ p hΓ => by rw [Sem.wp_operate]; exact h Γ p hΓ
theorem wp_release' {M : Model} {A : Around} {vs ks : List Value} {Q : Unit → Shared → Prop} {E : Value → Shared → Prop} {s : Shared} (h : Q () s) : wpAny M A (release vs ks) Q E s :=
  fun Γ p hΓ => by rw [Sem.wp_release]; exact h

theorem notSet_marks {op : CmpOp} {e : Expr} (h : ∀ elts k pos, e ≠ .Set elts k pos) : behindInMarks op e = false := by
  unfold behindInMarks
  split
  · exact absurd rfl (h _ _ _)
  · rfl

theorem markedBehindIn_of {op : CmpOp} {e : Expr} {t : Sem Value} (h : ∀ elts k pos, e ≠ .Set elts k pos) : markedBehindIn op e t = t := markedBehindIn_of_false (notSet_marks h)

/-- one comparison -/
theorem sound_chain1 {n : Nat} {sc : Scope} {σ : Store} {rec : Expr → P V} (hset : ∀ elts k pos, rec (.Set elts k pos) = .no) {e : Expr} {op : CmpOp} {A : Around} {env : Env} {s : Shared} {av : Addr → Prop} {pos : Pos} {va : Value} {a : PyData}
    (h : ESound prog w mg mb n sc σ e (rec e)) (hA : Room n A) (I : Inv0 prog w mg mb env sc σ av s) (ra : Rep prog w s.heap av va a) :
    Yd (fun Q E => wpAny (model prog w) A (compareChain pos va [op] [markedBehindIn op e (eval e env)]) Q E s) (fun v s' b => Kp s s' ∧ v = .bool b) (Raised s) (evCmp1 rec a op e) ∧
    Yd (fun Q E => wpAny (model prog w) A (testChain pos va [op] [markedBehindIn op e (eval e env)]) Q E s) (fun v s' b => Kp s s' ∧ v = b) (Raised s) (evCmp1 rec a op e) := by
  unfold evCmp1
  by_cases hS : ∃ elts k pos, e = .Set elts k pos
  · obtain ⟨elts, k, pos', rfl⟩ := hS
    rw [hset]; exact ⟨trivial, trivial⟩
  rw [markedBehindIn_of fun elts k pos hh => hS ⟨_, _, _, hh⟩]
  have hE := h A env s av hA I
  have hk : ∀ vb s₁ u, (Kp s s₁ ∧ RepV prog w s s₁.heap av vb u) → Yd (fun Q E => wpAny (model prog w) A (compareOp op va vb) Q E s₁) (fun v s' b => Kp s s' ∧ v = .bool b) (Raised s) ((dOf u).bind fun b => cmp op a b) := fun vb s₁ u rb => by
    refine Yd.pureBind (dOf_noerr u) fun b eb => ?_
    exact (sound_cmp hA.units80 (ra.keeps rb.1.heap) (rb.2.rep I.avlt eb)).mono (fun _ _ x => x) (fun _ _ _ _ r => ⟨rb.1.tr r.1, r.2⟩) (Raised.back rb.1)
  constructor
  · refine Yd.bind hE (W2 := fun vb s₁ Q E => wpAny (model prog w) A (compareOp op va vb) Q E s₁) (fun Q E h => ?_) fun vb s₁ u rb _ => hk vb s₁ u rb
    exact wpAny_bind (wpAny_holding (wpAny_mono h (fun vb s₁ h₁ => wpAny_bind (wpAny_standAt (wp_operate' h₁))) fun _ _ x => x))
  · refine Yd.bind hE (W2 := fun vb s₁ Q E => wpAny (model prog w) A (compareOp op va vb) (fun c s₂ => wpAny (model prog w) A (truthy c) Q E s₂) E s₁) (fun Q E h => ?_) fun vb s₁ u rb _ => ?_
    · exact wpAny_bind (wpAny_holding (wpAny_mono h (fun vb s₁ h₁ => wpAny_bind (wpAny_standAt (wpAny_bind (wpAny_mono (wp_operate' h₁) (fun c s₂ h₂ => wpAny_holding h₂) fun _ _ x => x)))) fun _ _ x => x))
    · have := hk vb s₁ u rb
      cases hc : (dOf u).bind fun b => cmp op a b with
      | no => exact trivial
      | err en => rw [hc] at this; exact fun Q E hx => this _ E hx
      | ok b => rw [hc] at this; exact fun Q E hq => this _ E fun v s' r => by rw [r.2]; exact wpAny_truthy_bool (hq _ _ ⟨r.1, rfl⟩)

/-- chains of comparisons -/
theorem sound_chain {n : Nat} {sc : Scope} {σ : Store} {rec : Expr → P V} (hset : ∀ elts k pos, rec (.Set elts k pos) = .no) {es : List Expr} {ops : List CmpOp} {A : Around} {env : Env} {s : Shared} {av : Addr → Prop} {pos : Pos} {va : Value} {a : PyData}
    (h : ∀ e ∈ es, ESound prog w mg mb n sc σ e (rec e)) (hA : Room n A) (I : Inv0 prog w mg mb env sc σ av s) (ra : Rep prog w s.heap av va a) :
    Yd (fun Q E => wpAny (model prog w) A (compareChain pos va ops (markedEach ops es (evalEach es env))) Q E s) (fun v s' b => Kp s s' ∧ v = .bool b) (Raised s) (evCmp rec a ops es) ∧
    Yd (fun Q E => wpAny (model prog w) A (testChain pos va ops (markedEach ops es (evalEach es env))) Q E s) (fun v s' b => Kp s s' ∧ v = b) (Raised s) (evCmp rec a ops es) := by
  unfold evCmp
  split
  · rename_i op e
    exact sound_chain1 hset (h e (by simp)) hA I ra
  · rename_i op op' e e'
    have hE := h e (by simp) A env s av hA I
    have step : ∀ vb s₁ u, (Kp s s₁ ∧ RepV prog w s s₁.heap av vb u) → ∀ b, dOf u = .ok b → Yd (fun Q E => wpAny (model prog w) A (compareOp op va vb) Q E s₁) (fun v s' b => Kp s₁ s' ∧ v = .bool b) (Raised s) (cmp op a b) := fun vb s₁ u rb b eb =>
      (sound_cmp hA.units80 (ra.keeps rb.1.heap) (rb.2.rep I.avlt eb)).mono (fun _ _ x => x) (fun _ _ _ _ r => r) (Raised.back rb.1)
    constructor
    · refine Yd.bind hE (W2 := fun vb s₁ Q E => wpAny (model prog w) A (compareOp op va vb) (fun c s₂ => wpAny (model prog w) A (truthy c) (fun t s₃ => if t then wpAny (model prog w) A (compareChain pos vb [op'] [markedBehindIn op' e' (eval e' env)]) Q E s₃ else Q c s₃) E s₂) E s₁) (fun Q E h => ?_) fun vb s₁ u rb _ => ?_
      · refine wpAny_bind (wpAny_holding (wpAny_mono h (fun vb s₁ h₁ => wpAny_bind (wpAny_standAt (wpAny_bind (wpAny_holding (wpAny_mono h₁ (fun c s₂ h₂ => wpAny_bind (wp_release' (wpAny_bind (wpAny_holding (wpAny_mono h₂ (fun t s₃ h₃ => ?_) fun _ _ x => x))))) fun _ _ x => x))))) fun _ _ x => x))
        cases t with
        | true => exact h₃
        | false => exact wpAny_pure h₃
      · refine Yd.pureBind (dOf_noerr u) fun b eb => ?_
        refine Yd.bind (step vb s₁ u rb b eb) (W2 := fun c s₂ Q E => wpAny (model prog w) A (truthy c) (fun t s₃ => if t then wpAny (model prog w) A (compareChain pos vb [op'] [markedBehindIn op' e' (eval e' env)]) Q E s₃ else Q c s₃) E s₂) (fun Q E h => h) fun c s₂ t rc _ => ?_
        obtain ⟨k, rfl⟩ := rc
        have k2 := rb.1.tr k
        cases t with
        | false => exact fun Q E hq => wpAny_truthy_bool (hq _ _ ⟨k2, rfl⟩)
        | true => exact (sound_chain1 (pos := pos) hset (h e' (by simp)) hA (I.keeps k2) ((rb.2.rep I.avlt eb).keeps k.heap)).1.mono (fun _ _ x => wpAny_truthy_bool x) (fun _ _ _ _ r => ⟨k2.tr r.1, r.2⟩) (Raised.back k2)
    · refine Yd.bind hE (W2 := fun vb s₁ Q E => wpAny (model prog w) A (compareOp op va vb) (fun c s₂ => wpAny (model prog w) A (truthy c) (fun t s₃ => if t then wpAny (model prog w) A (testChain pos vb [op'] [markedBehindIn op' e' (eval e' env)]) Q E s₃ else Q false s₃) E s₂) E s₁) (fun Q E h => ?_) fun vb s₁ u rb _ => ?_
      · refine wpAny_bind (wpAny_holding (wpAny_mono h (fun vb s₁ h₁ => wpAny_bind (wpAny_standAt (wpAny_bind (wpAny_holding (wpAny_mono h₁ (fun c s₂ h₂ => wpAny_bind (wp_release' (wpAny_bind (wpAny_holding (wpAny_mono h₂ (fun t s₃ h₃ => ?_) fun _ _ x => x))))) fun _ _ x => x))))) fun _ _ x => x))
        cases t with
        | true => exact h₃
        | false => exact wpAny_pure h₃
      · refine Yd.pureBind (dOf_noerr u) fun b eb => ?_
        refine Yd.bind (step vb s₁ u rb b eb) (W2 := fun c s₂ Q E => wpAny (model prog w) A (truthy c) (fun t s₃ => if t then wpAny (model prog w) A (testChain pos vb [op'] [markedBehindIn op' e' (eval e' env)]) Q E s₃ else Q false s₃) E s₂) (fun Q E h => h) fun c s₂ t rc _ => ?_
        obtain ⟨k, rfl⟩ := rc
        have k2 := rb.1.tr k
        cases t with
        | false => exact fun Q E hq => wpAny_truthy_bool (hq _ _ ⟨k2, rfl⟩)
        | true => exact (sound_chain1 (pos := pos) hset (h e' (by simp)) hA (I.keeps k2) ((rb.2.rep I.avlt eb).keeps k.heap)).2.mono (fun _ _ x => wpAny_truthy_bool x) (fun _ _ _ _ r => ⟨k2.tr r.1, r.2⟩) (Raised.back k2)
  · exact ⟨trivial, trivial⟩

theorem sound_Compare {n : Nat} {sc : Scope} {σ : Store} {rec : Expr → P V} (hset : ∀ elts k pos, rec (.Set elts k pos) = .no) {l : Expr} {ops : List CmpOp} {es : List Expr} {pos : Pos} (hl : ESound prog w mg mb n sc σ l (rec l))
    (h : ∀ e ∈ es, ESound prog w mg mb n sc σ e (rec e)) : ESound prog w mg mb n sc σ (.Compare l ops es pos) ((rec l).bind fun a => (dOf a).bind fun a => fzb (evCmp rec a ops es)) := by
  intro A env s av hA I
  refine Yd.bind (hl A env s av hA I) (W2 := fun va s₁ Q E => wpAny (model prog w) A (compareChain pos va ops (markedEach ops es (evalEach es env))) Q E s₁) (fun Q E h => wpAny_bind h) fun va s₁ a ra _ => ?_
  refine Yd.pureBind (dOf_noerr a) fun da ea => ?_
  have := (sound_chain (pos := pos) (ops := ops) hset h hA (I.keeps ra.1) (ra.2.rep I.avlt ea)).1
  unfold fzb
  cases hc : evCmp rec da ops es with
  | no => exact trivial
  | err en => rw [hc] at this; exact fun Q E hx => this Q E fun x s' r => hx _ _ (Raised.back ra.1 _ _ _ r)
  | ok b => rw [hc] at this; exact fun Q E hq => this Q E fun v s' r => hq _ _ ⟨ra.1.tr r.1, by rw [r.2]; exact .bool b⟩

theorem test_Compare {n : Nat} {sc : Scope} {σ : Store} {rec : Expr → P V} (hset : ∀ elts k pos, rec (.Set elts k pos) = .no) {l : Expr} {ops : List CmpOp} {es : List Expr} {pos : Pos} (hl : ESound prog w mg mb n sc σ l (rec l))
    (h : ∀ e ∈ es, ESound prog w mg mb n sc σ e (rec e)) : TSound prog w mg mb n sc σ (.Compare l ops es pos) ((rec l).bind fun a => (dOf a).bind fun a => fzb (evCmp rec a ops es)) := by
  intro A env s av hA I
  rw [P.bind_assoc']
  refine Yd.bind (hl A env s av hA I) (W2 := fun va s₁ Q E => wpAny (model prog w) A (testChain pos va ops (markedEach ops es (evalEach es env))) Q E s₁) (fun Q E h => wpAny_bind h) fun va s₁ a ra _ => ?_
  rw [P.bind_assoc']
  refine Yd.pureBind (dOf_noerr a) fun da ea => ?_
  have := (sound_chain (pos := pos) (ops := ops) hset h hA (I.keeps ra.1) (ra.2.rep I.avlt ea)).2
  unfold fzb
  cases hc : evCmp rec da ops es with
  | no => exact trivial
  | err en => rw [hc] at this; exact fun Q E hx => this Q E fun x s' r => hx _ _ (Raised.back ra.1 _ _ _ r)
  | ok b => rw [hc] at this; exact fun Q E hq => this Q E fun v s' r => hq _ _ ⟨ra.1.tr r.1, r.2⟩

theorem test_Not {n : Nat} {sc : Scope} {σ : Store} {x : Expr} {pos : Pos} {p : P V} (hx : TSound prog w mg mb n sc σ x p) : TSound prog w mg mb n sc σ (.UnaryOp .Not x pos) (p.bind fun v => evUn .Not v) := by
  intro A env s av hA I
  have h := hx A env s av hA I
  have e : (p.bind fun v => evUn .Not v).bind truthV = (p.bind truthV).bind fun b => .ok !b := by
    rw [P.bind_assoc', P.bind_assoc']
    cases p with
    | ok v =>
      show ((truthV v).bind _).bind truthV = (truthV v).bind _
      cases truthV v <;> rfl
    | _ => rfl
  rw [e]
  exact Yd.bind h (W2 := fun b s₁ Q E => Q (!b) s₁) (fun Q E h => wpAny_isTrue_Not h) fun b s₁ b' r _ => fun Q E hq => hq _ _ ⟨r.1, by rw [r.2]⟩

theorem test_IfExp {n : Nat} {sc : Scope} {σ : Store} {t b o : Expr} {pos : Pos} {pt pb po : P V} (ht : TSound prog w mg mb n sc σ t pt) (hb : TSound prog w mg mb n sc σ b pb) (ho : TSound prog w mg mb n sc σ o po) :
    TSound prog w mg mb n sc σ (.IfExp t b o pos) (pt.bind fun v => (truthV v).bind fun c => if c then pb else po) := by
  intro A env s av hA I
  have e : (pt.bind fun v => (truthV v).bind fun c => if c then pb else po).bind truthV = (pt.bind truthV).bind fun c => if c then pb.bind truthV else po.bind truthV := by
    cases pt with
    | ok v =>
      show ((truthV v).bind _).bind truthV = (truthV v).bind _
      cases truthV v with
      | ok c => cases c <;> rfl
      | _ => rfl
    | _ => rfl
  rw [e]
  refine Yd.bind (ht A env s av hA I) (W2 := fun c s₁ Q E => if c then wpAny (model prog w) A (isTrue b env (eval b env)) Q E s₁ else wpAny (model prog w) A (isTrue o env (eval o env)) Q E s₁) (fun Q E h => ?_) fun c s₁ c' r _ => ?_
  · refine wpAny_bind (wpAny_mono h (fun c s₁ h₁ => ?_) fun _ _ x => x)
    cases c <;> exact h₁
  · obtain ⟨k, rfl⟩ := r
    cases c with
    | true => exact (hb A env s₁ av hA (I.keeps k)).mono (fun _ _ x => x) (fun _ _ _ _ r => ⟨k.tr r.1, r.2⟩) (Raised.back k)
    | false => exact (ho A env s₁ av hA (I.keeps k)).mono (fun _ _ x => x) (fun _ _ _ _ r => ⟨k.tr r.1, r.2⟩) (Raised.back k)

/-- what an argument came to -/
noncomputable def ArgsRep (prog : Program) (w : World) (h : Heap) (av : Addr → Prop) (vs : List Value) (us : List V) : Prop :=
  vs.length = us.length ∧ ∀ (i : Nat) (v : Value) (u : V), vs[i]? = some v → us[i]? = some u → RepS prog w h av v u ∧ ∀ d, u ≠ .own d

theorem ArgsRep.keeps {h h' : Heap} {av : Addr → Prop} {vs : List Value} {us : List V} (r : ArgsRep prog w h av vs us) (hk : ∀ b o, h.get? b = some o → h'.get? b = some o) : ArgsRep prog w h' av vs us :=
  ⟨r.1, fun i v u e1 e2 => ⟨(r.2 i v u e1 e2).1.keeps hk, (r.2 i v u e1 e2).2⟩⟩

theorem clear_not_own (u : V) (d : PyData) : u.clear ≠ .own d := by cases u <;> (intro h; cases h)

theorem ArgsRep.cons {h : Heap} {av : Addr → Prop} {v : Value} {u : V} {vs : List Value} {us : List V} (r : RepS prog w h av v u.clear) (rs : ArgsRep prog w h av vs us) : ArgsRep prog w h av (v :: vs) (u.clear :: us) := by
  refine ⟨by simp [rs.1], fun i v' u' e1 e2 => ?_⟩
  cases i with
  | zero => simp at e1 e2; subst e1; subst e2; exact ⟨r, clear_not_own u⟩
  | succ i => exact rs.2 i v' u' (by simpa using e1) (by simpa using e2)

/-- items and arguments -/
theorem sound_evs {n : Nat} {sc : Scope} {σ : Store} {rec : Expr → P V} (hstar : ∀ e pos, rec (.Starred e pos) = .no) : ∀ {es : List Expr} {A : Around} {env : Env} {s : Shared} {av : Addr → Prop} {pos : Pos}, (∀ e ∈ es, ESound prog w mg mb n sc σ e (rec e)) → Room n A → Inv0 prog w mg mb env sc σ av s →
    Yd (fun Q E => wpAny (model prog w) A (spliced (backTo pos (starEach es env))) Q E s) (fun vs s' us => Kp s s' ∧ ArgsRep prog w s'.heap av vs us) (Raised s) (evs rec es)
  | [], A, env, s, av, pos, _, _, _ => fun Q E hq => wpAny_items_nil (hq _ _ ⟨Kp.rfl' s, rfl, fun i v u e => by simp at e⟩)
  | e :: es, A, env, s, av, pos, h, hA, I => by
    show Yd _ _ _ ((rec e).bind fun v => (evs rec es).bind fun vs => .ok (v.clear :: vs))
    by_cases hS : ∃ e' p', e = .Starred e' p'
    · obtain ⟨e', p', rfl⟩ := hS
      rw [hstar]; exact trivial
    have hst : starEach (e :: es) env = (false, eval e env) :: starEach es env := by
      cases e <;> first | rfl | exact absurd ⟨_, _, rfl⟩ hS
    refine Yd.bind (h e (by simp) A env s av hA I) (W2 := fun v s₁ Q E => wpAny (model prog w) A (spliced (backTo pos (starEach es env))) (fun vs s₂ => Q (v :: vs) s₂) E s₁) (fun Q E h => wpAny_items_cons h hst) fun v s₁ u r _ => ?_
    refine Yd.bind ((sound_evs (es := es) (pos := pos) hstar (fun x hx => h x (List.mem_cons_of_mem _ hx)) hA (I.keeps r.1)).mono (fun _ _ x => x) (fun _ _ _ _ r => r) (Raised.back r.1)) (W2 := fun vs s₂ Q E => Q (v :: vs) s₂) (fun Q E h => h) fun vs s₂ us rs _ => ?_
    exact fun Q E hq => hq _ _ ⟨r.1.tr rs.1, ArgsRep.cons ((r.2.clear I.avlt).keeps rs.1.heap) rs.2⟩

theorem dsOf_rep {h : Heap} {av : Addr → Prop} : ∀ {vs : List Value} {us : List V} {ds : List PyData}, ArgsRep prog w h av vs us → dsOf us = .ok ds →
    vs.length = ds.length ∧ ∀ (i : Nat) (v : Value) (d : PyData), vs[i]? = some v → ds[i]? = some d → Rep prog w h av v d
  | [], [], ds, _, e => by cases e; exact ⟨rfl, fun i v d e => by simp at e⟩
  | [], _ :: _, _, r, _ => by simp [ArgsRep] at r
  | _ :: _, [], _, r, _ => by simp [ArgsRep] at r
  | v :: vs, u :: us, ds, r, e => by
    have r0 := r.2 0 v u rfl rfl
    have e' : (dOf u).bind (fun d => (dsOf us).bind fun ds => .ok (d :: ds)) = .ok ds := e
    cases u with
    | own d => exact absurd rfl (r0.2 d)
    | exc en => cases e'
    | fz d =>
      cases hd : dsOf us with
      | no => rw [hd] at e'; cases e'
      | err en => rw [hd] at e'; cases e'
      | ok ds' =>
        rw [hd] at e'
        cases e'
        obtain ⟨h1, h2⟩ := dsOf_rep (vs := vs) (us := us) ⟨by simpa using r.1, fun i v u e1 e2 => r.2 (i + 1) v u (by simpa using e1) (by simpa using e2)⟩ hd
        refine ⟨by simp [h1], fun i v' d' e1 e2 => ?_⟩
        cases i with
        | zero => simp at e1 e2; subst e1; subst e2; exact r0.1
        | succ i => exact h2 i v' d' (by simpa using e1) (by simpa using e2)

theorem dsOf_noerr : ∀ (us : List V) (en : Exn), dsOf us ≠ .err en
  | [], en => fun h => by cases h
  | u :: us, en => fun h => by
    have h' : (dOf u).bind (fun d => (dsOf us).bind fun ds => .ok (d :: ds)) = .err en := h
    cases hu : dOf u with
    | no => rw [hu] at h'; cases h'
    | err e => exact dOf_noerr u e hu
    | ok d =>
      rw [hu] at h'
      cases hd : dsOf us with
      | no => rw [hd] at h'; cases h'
      | err e => exact dsOf_noerr us e hd
      | ok ds => rw [hd] at h'; cases h'

theorem evs_length {rec : Expr → P V} : ∀ {es : List Expr} {us : List V}, evs rec es = .ok us → us.length = es.length
  | [], us, h => by cases h; rfl
  | e :: es, us, h => by
    have h' : (rec e).bind (fun v => (evs rec es).bind fun vs => .ok (v.clear :: vs)) = .ok us := h
    cases he : rec e with
    | no => rw [he] at h'; cases h'
    | err e => rw [he] at h'; cases h'
    | ok v =>
      rw [he] at h'
      cases hs : evs rec es with
      | no => rw [hs] at h'; cases h'
      | err e => rw [hs] at h'; cases h'
      | ok vs => rw [hs] at h'; cases h'; simp [evs_length hs]

theorem sound_List {n : Nat} {sc : Scope} {σ : Store} {rec : Expr → P V} (hstar : ∀ e pos, rec (.Starred e pos) = .no) {es : List Expr} {pos : Pos} (h : ∀ e ∈ es, ESound prog w mg mb n sc σ e (rec e)) :
    ESound prog w mg mb n sc σ (.List es pos) ((evs rec es).bind fun l => (dsOf l).bind fun l => if l.length ≤ strN then own (.list l) else .no) := by
  intro A env s av hA I
  refine Yd.bind (sound_evs (pos := pos) hstar h hA I) (W2 := fun vs s₁ Q E => vs.length ≤ sizeLine ∧ Q (.ref s₁.heap.objs.size) { s₁ with heap := s₁.heap.push { cls := .type "list", data := .seq vs.toArray } }) (fun Q E h => wpAny_List h) fun vs s₁ us r _ => ?_
  refine Yd.pureBind (dsOf_noerr us) fun ds eds => ?_
  obtain ⟨h1, h2⟩ := dsOf_rep r.2 eds
  split
  · rename_i hz
    have hz' : vs.length ≤ sizeLine := by rw [h1]; exact hz
    exact fun Q E hq => ⟨hz', hq _ _ (own_list r.1 h1 hz' h2)⟩
  · exact trivial

theorem sound_Tuple {n : Nat} {sc : Scope} {σ : Store} {rec : Expr → P V} (hstar : ∀ e pos, rec (.Starred e pos) = .no) {es : List Expr} {k : Nat} {pos : Pos} (h : ∀ e ∈ es, ESound prog w mg mb n sc σ e (rec e)) :
    ESound prog w mg mb n sc σ (.Tuple es k pos) ((evs rec es).bind fun l => (dsOf l).bind fun l => if l.length ≤ strN then fz (.tuple l) else .no) := by
  intro A env s av hA I
  refine Yd.bind (sound_evs (pos := pos) hstar h hA I) (W2 := fun vs s₁ Q E => vs.length ≤ sizeLine ∧ Q (.ref s₁.heap.objs.size) { s₁ with heap := s₁.heap.push { cls := .type "tuple", data := .seq vs.toArray } }) (fun Q E h => wpAny_Tuple h) fun vs s₁ us r _ => ?_
  refine Yd.pureBind (dsOf_noerr us) fun ds eds => ?_
  obtain ⟨h1, h2⟩ := dsOf_rep r.2 eds
  split
  · rename_i hz
    have hz' : vs.length ≤ sizeLine := by rw [h1]; exact hz
    exact fun Q E hq => ⟨hz', hq _ _ (new_tuple r.1 (I.keeps r.1).avlt h1 hz' h2)⟩
  · exact trivial

end
end Mine

set_option maxRecDepth 100000
namespace Mine
open PySem

section
variable {prog : Program} {w : World} {mg mb : Str → Option Value}

/-- what may be read off a value, its own object apart -/
noncomputable def Top1 (prog : Program) (w : World) (h : Heap) (av : Addr → Prop) (v : Value) (d : PyData) : Prop := Rep prog w h av v d ∨ ∃ a, v = .ref a ∧ Body prog w h av a d

theorem Top1.keeps {h h' : Heap} {av : Addr → Prop} {v : Value} {d : PyData} (hk : ∀ b o, h.get? b = some o → h'.get? b = some o) (r : Top1 prog w h av v d) : Top1 prog w h' av v d :=
  r.imp (·.keeps hk) fun ⟨a, e, r⟩ => ⟨a, e, r.mono (fun b o _ e => hk b o e) (fun _ _ _ x => x) fun o e => hk _ o e⟩

theorem Top1.list {h : Heap} {av : Addr → Prop} {v : Value} {ds : List PyData} (r : Top1 prog w h av v (.list ds)) : ∃ a vs, v = .ref a ∧ h.PlainList a (List.toArray vs) ∧ vs.length = ds.length ∧ vs.length ≤ sizeLine ∧
    ∀ (i : Nat) (v : Value) (d : PyData), vs[i]? = some v → ds[i]? = some d → Rep prog w h av v d := by
  rcases r with r | ⟨a, e, vs, r⟩
  · cases r with
    | list h1 h2 h3 h4 h5 => exact ⟨_, _, rfl, h2, h3, h4, h5⟩
  · exact ⟨a, vs, e, r⟩
theorem Top1.tuple {h : Heap} {av : Addr → Prop} {v : Value} {ds : List PyData} (r : Top1 prog w h av v (.tuple ds)) : ∃ a vs, v = .ref a ∧ PlT h a (List.toArray vs) ∧ vs.length = ds.length ∧ vs.length ≤ sizeLine ∧
    ∀ (i : Nat) (v : Value) (d : PyData), vs[i]? = some v → ds[i]? = some d → Rep prog w h av v d := by
  rcases r with r | ⟨a, e, r⟩
  · cases r with
    | tuple h1 h2 h3 h4 h5 => exact ⟨_, _, rfl, h2, h3, h4, h5⟩
  · exact r.elim
theorem Top1.dict {h : Heap} {av : Addr → Prop} {v : Value} {ds : List (PyData × PyData)} (r : Top1 prog w h av v (.dict ds)) (hk : strKeys ds = true) : ∃ a kvs, v = .ref a ∧ h.DictOf (strKind prog w) a kvs ∧ (kvs.length ≤ sizeLine ∧ ∀ kv ∈ kvs, kv.1.length ≤ sizeLine) ∧ (a == sysModules) = false ∧
    ds.map (·.1) = kvs.map (fun kv => PyData.str kv.1) ∧ ∀ (i : Nat) (kv : Str × Value) (d : PyData × PyData), kvs[i]? = some kv → ds[i]? = some d → Rep prog w h av kv.2 d.2 := by
  rcases r with r | ⟨a, e, kvs, r⟩
  · cases r with
    | dict h1 h2 h3 h4 h5 h6 => exact ⟨_, _, rfl, h2, h3, h4, h5, h6⟩
    | dict1 h1 h2 h3 h4 h5 h6 => rw [strKeys_one h6] at hk; cases hk
  · exact ⟨a, kvs, e, r⟩
theorem Top1.str {h : Heap} {av : Addr → Prop} {v : Value} {x : Str} (r : Top1 prog w h av v (.str x)) : ∃ t, v = .str x t ∧ x.length ≤ sizeLine := by
  rcases r with r | ⟨a, e, r⟩
  · exact r.str_inv
  · exact r.elim

theorem seqIndex_inv {i : Int} {n k : Nat} (h : seqIndex? i n = some k) : k < n ∧ ((0 ≤ i ∧ k = i.toNat ∧ i < n) ∨ (i < 0 ∧ -(n : Int) ≤ i ∧ k = (i + n).toNat)) := by
  unfold seqIndex? at h
  by_cases hi : i < 0
  · simp only [hi, if_true, Bool.and_eq_true, decide_eq_true_eq] at h
    by_cases hc : 0 ≤ i + (n : Int) ∧ i + (n : Int) < n
    · rw [if_pos hc] at h
      have := Option.some.inj h
      exact ⟨by omega, .inr ⟨hi, by omega, by omega⟩⟩
    · rw [if_neg hc] at h; cases h
  · simp only [hi, if_false, Bool.and_eq_true, decide_eq_true_eq] at h
    by_cases hc : 0 ≤ i ∧ i < (n : Int)
    · rw [if_pos hc] at h
      have := Option.some.inj h
      exact ⟨by omega, .inl ⟨by omega, by omega, by omega⟩⟩
    · rw [if_neg hc] at h; cases h

/-- items -/
theorem sound_getItem {A : Around} {s : Shared} {av : Addr → Prop} {va vi : Value} {a i : PyData} (ra : Top1 prog w s.heap av va a) (ri : Rep prog w s.heap av vi i) :
    Yd (fun Q E => wpAny (model prog w) A (PySem.getItem va vi) Q E s) (fun v s' u => Kp s s' ∧ RepV prog w s s'.heap av v u) (Raised s) (getItem a i) := by
  cases a with
  | list l =>
    cases ri with
    | int k t =>
      obtain ⟨ad, vs, rfl, h2, h3, h4, h5⟩ := ra.list
      show Yd _ _ _ (match idx l.length k with | some j => (match l[j]? with | some d => P.ok (V.fz d) | none => .no) | none => .no)
      cases hi : idx l.length k with
      | none => exact trivial
      | some j =>
        obtain ⟨hj, hc⟩ := seqIndex_inv hi
        have e2 : l[j]? = some l[j] := List.getElem?_eq_getElem hj
        have e1 : vs[j]? = some (vs[j]'(h3 ▸ hj)) := List.getElem?_eq_getElem _
        simp only [e2]
        have hs : sizeLine = 16777216 := sizeLine_eq
        rcases hc with ⟨c1, rfl, c3⟩ | ⟨c1, c2, rfl⟩
        · exact fun Q E hq => wpAny_getItem_list h2.isList c1 (by omega) (by simpa using e1) (hq _ _ ⟨Kp.rfl' s, h5 _ _ _ e1 e2⟩)
        · have e3 : vs.toArray[(k + (vs.toArray.size : Int)).toNat]? = some (vs[(k + l.length).toNat]'(h3 ▸ hj)) := by
            have : (vs.toArray.size : Int) = (l.length : Int) := by simp [h3]
            rw [this]; simpa using e1
          exact fun Q E hq => wpAny_getItem_list_neg h2.isList c1 (by simp [h3]; omega) (by omega) e3 (hq _ _ ⟨Kp.rfl' s, h5 _ _ _ e1 e2⟩)
    | _ => exact trivial
  | tuple l =>
    cases ri with
    | int k t =>
      obtain ⟨ad, vs, rfl, ⟨n, h2⟩, h3, h4, h5⟩ := ra.tuple
      show Yd _ _ _ (match idx l.length k with | some j => (match l[j]? with | some d => P.ok (V.fz d) | none => .no) | none => .no)
      cases hi : idx l.length k with
      | none => exact trivial
      | some j =>
        obtain ⟨hj, hc⟩ := seqIndex_inv hi
        have e2 : l[j]? = some l[j] := List.getElem?_eq_getElem hj
        have e1 : vs[j]? = some (vs[j]'(h3 ▸ hj)) := List.getElem?_eq_getElem _
        simp only [e2]
        have hs : sizeLine = 16777216 := sizeLine_eq
        exact fun Q E hq => P.getItem_tuple h2 (by omega) (by omega) (k := j) (by have : vs.toArray.size = l.length := by simp [h3]
                                                                                  rw [this]; exact hi) (by simpa using e1) (hq _ _ ⟨Kp.rfl' s, h5 _ _ _ e1 e2⟩)
    | _ => exact trivial
  | str x =>
    cases ri with
    | int k t =>
      obtain ⟨t', rfl, hx⟩ := ra.str
      show Yd _ _ _ (match idx x.cps.size k with | some j => (match x.cps[j]? with | some c => P.ok (V.fz (charD c)) | none => .no) | none => .no)
      cases hi : idx x.cps.size k with
      | none => exact trivial
      | some j =>
        obtain ⟨hj, hc⟩ := seqIndex_inv hi
        have e2 : x.cps[j]? = some x.cps[j] := Array.getElem?_eq_getElem hj
        simp only [e2]
        have hs : sizeLine = 16777216 := sizeLine_eq
        have hx' : x.cps.size ≤ 16777216 := hs ▸ hx
        exact fun Q E hq => PyProof.Rows.getItem_str (by simp only [Bool.or_eq_false_iff, decide_eq_false_iff_not]; omega) (c := x.cps[j]) (by
          have : seqIndex? k x.length = some j := hi
          rw [this]; exact e2) (hq _ _ ⟨Kp.tok' s _, .str _ _ (by rw [hs]; show (#[x.cps[j]] : Array Nat).size ≤ _; simp)⟩)
    | _ => exact trivial
  | dict l =>
    cases ri with
    | str x t hx =>
      show Yd _ _ _ (if strKeys l = true then (match dGet l x with | some d => P.ok (V.fz d) | none => .no) else .no)
      split
      · rename_i hk
        obtain ⟨ad, kvs, rfl, h2, h3, h4, h5, h6⟩ := ra.dict hk
        rcases valueAt_dGet x h5 with ⟨e1, e2⟩ | ⟨i, v, d, e1, e2, e3, e4⟩
        · rw [e2]; exact trivial
        · rw [e2]
          exact fun Q E hq => wpAny_getItem_of (isStr_self x t) h2.mapOf e1 (hq _ _ ⟨Kp.tok' s _, h6 i _ _ e3 e4⟩)
      · exact trivial
    | _ => exact trivial
  | _ => cases ri <;> exact trivial

/-- a subscript's tail -/
theorem wp_subscript {A : Around} {E : Value → Shared → Prop} {s : Shared} {env : Env} {value slice : Expr} {pos : Pos} {Q : Value → Shared → Prop}
    (h : wpAny (model prog w) A (eval value env) (fun o s₁ => wpAny (model prog w) A (eval slice env) (fun i s₂ => (∃ T id, s₂.TypeIs o T ∧ typeLookup (.type T) "__getitem__" = pure (some (.builtin id))) ∧ wpAny (model prog w) A (PySem.getItem o i) Q E s₂) E s₁) E s) :
    wpAny (model prog w) A (eval (.Subscript value slice pos) env) Q E s := by
  rw [eval_Subscript]
  refine wpAny_bind (wpAny_mono h (fun o s₁ h₁ => wpAny_bind (wpAny_holding (wpAny_mono h₁ (fun i s₂ h₂ => wpAny_bind (wpAny_standAt ?_)) fun _ _ x => x))) fun _ _ x => x)
  obtain ⟨⟨T, id, hT, hl⟩, hg⟩ := h₂
  refine wpAny_bind ?_
  rw [getitemInPython_of_ne hT.not_modules]
  refine wpAny_bind (wpAny_specialOf hT hl ?_)
  have fin : wpAny (model prog w) A (subscripted slice false o i) (fun r s₃ => wpAny (model prog w) A (letTemporaryGo value o r >>= fun _ => pure r) Q E s₃) E s₂ := by
    have hs : ∃ ops, subscripted slice false o i = operate ops (PySem.getItem o i) := by
      unfold subscripted
      split
      all_goals first | exact ⟨_, rfl⟩ | contradiction
    obtain ⟨ops, hs⟩ := hs
    rw [hs]
    exact wpAny_operating (wpAny_mono hg (fun r s₃ h₃ => wpAny_bind (wpAny_letTemporaryGo (wpAny_pure h₃))) fun _ _ x => x)
  first
    | exact wpAny_pure (wpAny_bind fin)
    | exact wpAny_bind (wpAny_pure (wpAny_bind fin))
    | exact wpAny_bind fin

/-- reading a value that stays as it is -/
noncomputable def RSound (prog : Program) (w : World) (mg mb : Str → Option Value) (n : Nat) (sc : Scope) (σ : Store) (e : Expr) (r : P PyData) : Prop :=
  ∀ (A : Around) (env : Env) (s : Shared) (av : Addr → Prop), Room n A → Inv0 prog w mg mb env sc σ av s →
    Yd (fun Q E => wpAny (model prog w) A (eval e env) Q E s) (fun v s' d => Kp s s' ∧ Top1 prog w s'.heap av v d) (Raised s) r

theorem sound_recv0 {n : Nat} {sc : Scope} {σ : Store} {o : Expr} {p : P V} (h : ESound prog w mg mb n sc σ o p) : RSound prog w mg mb n sc σ o (p.bind dOf) := by
  intro A env s av hA I
  refine Yd.bind (h A env s av hA I) (W2 := fun v s₁ Q E => Q v s₁) (fun Q E h => h) fun v s₁ u r _ => ?_
  cases hd : dOf u with
  | no => exact trivial
  | err en => exact absurd hd (dOf_noerr u en)
  | ok d => exact fun Q E hq => hq _ _ ⟨r.1, .inl (r.2.rep I.avlt hd)⟩

theorem sound_recv {n : Nat} {sc : Scope} {σ : Store} {rec : Expr → P V} {o : Expr} (h : ESound prog w mg mb n sc σ o (rec o)) : RSound prog w mg mb n sc σ o (recv rec sc σ o) := by
  unfold recv
  split
  · rename_i x pos
    split
    · rename_i d e
      split
      · rename_i hl
        intro A env s av hA I
        obtain ⟨u, h1, h2⟩ := I.get _ _ hl e
        exact fun Q E hq => name_var I hl h1 (hq _ _ ⟨Kp.rfl' s, .inr h2⟩)
      · exact fun _ _ _ _ _ _ => trivial
    · exact sound_recv0 h
  · exact sound_recv0 h

theorem Top1.typeIs {s : Shared} {av : Addr → Prop} {v : Value} {a i : PyData} {u : V} (ra : Top1 prog w s.heap av v a) (hg : getItem a i = .ok u) : ∃ T id, s.TypeIs v T ∧ typeLookup (.type T) "__getitem__" = pure (some (.builtin id)) := by
  cases a with
  | list l => obtain ⟨ad, vs, rfl, h2, _⟩ := ra.list; exact ⟨"list", _, h2.isList.typeIs, list_getitem_lookup⟩
  | tuple l => obtain ⟨ad, vs, rfl, h2, _⟩ := ra.tuple; exact ⟨"tuple", _, h2.isTuple.typeIs, PyProof.Rows.slot_tuple_getitem.lookup⟩
  | dict l =>
    have hk : strKeys l = true := by
      cases i with
      | str x =>
        have hg' : (if strKeys l = true then (match dGet l x with | some d => P.ok (V.fz d) | none => .no) else .no) = P.ok u := hg
        by_cases hk : strKeys l = true
        · exact hk
        · rw [if_neg hk] at hg'; cases hg'
      | _ => cases hg
    obtain ⟨ad, kvs, rfl, h2, _⟩ := ra.dict hk; exact ⟨"dict", _, h2.typeIs, F.slot_dict_getitem.lookup⟩
  | str x => obtain ⟨t, rfl, _⟩ := ra.str; exact ⟨"str", _, rfl, PyProof.Rows.slot_str_getitem.lookup⟩
  | _ => cases i <;> cases hg

end
end Mine

set_option maxRecDepth 100000
namespace Mine
open PySem

section
variable {prog : Program} {w : World} {mg mb : Str → Option Value}

theorem slice_length_le {α : Type} (l : List α) (lo hi : Option Int) : (slice l lo hi).length ≤ l.length := by
  unfold slice
  rw [List.length_take, List.length_drop]
  omega

theorem slice_get {α β : Type} {l : List α} {m : List β} (hl : l.length = m.length) {lo hi : Option Int} {i : Nat} {x : α} {y : β} (e1 : (slice l lo hi)[i]? = some x) (e2 : (slice m lo hi)[i]? = some y) :
    ∃ j : Nat, l[j]? = some x ∧ m[j]? = some y := by
  unfold slice at e1 e2
  rw [← hl] at e2
  rw [List.getElem?_take] at e1 e2
  split at e1
  · rename_i h
    rw [if_pos h] at e2
    rw [List.getElem?_drop] at e1 e2
    exact ⟨_, e1, e2⟩
  · cases e1

theorem slice_len_eq {α β : Type} {l : List α} {m : List β} (hl : l.length = m.length) (lo hi : Option Int) : (slice l lo hi).length = (slice m lo hi).length := by
  unfold slice
  rw [List.length_take, List.length_take, List.length_drop, List.length_drop, hl]

theorem strSlice_eq (x : Str) (lo hi : Option Int) : Txt.slice x lo hi = ⟨(slice x.cps.toList lo hi).toArray⟩ := by
  have key : (Builtin.Str.strSliceIndices lo hi 1 x.length).filterMap (x.cps[·]?) = slice x.cps.toList lo hi := by
    have e : Builtin.Str.strSliceIndices lo hi 1 x.length = sliceRange (sliceBounds lo hi none x.length).1 (sliceBounds lo hi none x.length).2.1 (sliceBounds lo hi none x.length).2.2 := by
      cases lo <;> cases hi <;> rfl
    rw [e, sliceBounds_plain]
    simp only [sliceRange_one, pick_run]
    unfold slice
    rw [Array.length_toList]
    rfl
  unfold Txt.slice
  split
  · rename_i h
    rw [← key]
    have hlen : (Builtin.Str.strSliceIndices lo hi 1 x.length).length = x.length := by simpa using h
    have e : Builtin.Str.strSliceIndices lo hi 1 x.length = sliceRange (sliceBounds lo hi none x.length).1 (sliceBounds lo hi none x.length).2.1 (sliceBounds lo hi none x.length).2.2 := by
      cases lo <;> cases hi <;> rfl
    rw [key]
    rw [e, sliceBounds_plain] at hlen
    simp only [sliceRange_one, List.length_map, List.length_range] at hlen
    have hx : x.cps.toList.length = x.length := by simp [Str.length]
    have hc : ∀ i, clipAt x.length i ≤ x.length := fun i => by have := clipAt_cast x.length i; omega
    have hlo : lo.elim 0 (clipAt x.length) = 0 ∨ x.length = 0 := by
      by_cases h0 : x.length = 0
      · exact .inr h0
      · left
        have : hi.elim x.length (clipAt x.length) ≤ x.length := by cases hi with | none => exact Nat.le_refl _ | some j => exact hc j
        omega
    have : slice x.cps.toList lo hi = x.cps.toList := by
      unfold slice
      rw [hx, hlen]
      rcases hlo with h | h
      · rw [h, List.drop_zero, ← hx, List.take_length]
      · have : x.cps.toList = [] := List.length_eq_zero_iff.mp (hx.trans h)
        rw [this]; simp
    rw [this]
  · rw [key]

/-- a slice's ends -/
theorem sound_part {n : Nat} {sc : Scope} {σ : Store} {rec : Expr → P V} {e : Option Expr} (h : ∀ x, e = some x → ESound prog w mg mb n sc σ x (rec x)) {A : Around} {env : Env} {s : Shared} {av : Addr → Prop} (hA : Room n A) (I : Inv0 prog w mg mb env sc σ av s) :
    Yd (fun Q E => wpAny (model prog w) A (evalPart e env) Q E s) (fun v s' k => Kp s s' ∧ IsPart v k ∧ ∃ p, v = partValue p ∧ p.map (·.1) = k) (Raised s) (optInt (e.map rec)) := by
  cases e with
  | none => exact fun Q E hq => wpAny_evalPart_none (hq _ _ ⟨Kp.rfl' s, .none, none, rfl, rfl⟩)
  | some x =>
    show Yd _ _ _ ((rec x).bind _)
    refine Yd.bind (h x rfl A env s av hA I) (W2 := fun v s₁ Q E => Q v s₁) (fun Q E h => wpAny_evalPart_some h) fun v s₁ u r _ => ?_
    cases u with
    | fz d =>
      cases d with
      | int i =>
        obtain ⟨t, rfl⟩ := (show Rep prog w s₁.heap av v (.int i) from r.2).int_inv
        exact fun Q E hq => hq _ _ ⟨r.1, .int i t, some (i, t), rfl, rfl⟩
      | _ => exact trivial
    | _ => exact trivial

theorem sound_Sub {n : Nat} {sc : Scope} {σ : Store} {rec : Expr → P V} {o i : Expr} {pos : Pos} (ho : ESound prog w mg mb n sc σ o (rec o)) (hidx : ESound prog w mg mb n sc σ i (rec i))
    (hs : ∀ lo hi st p, i = .Slice lo hi st p → (∀ x, lo = some x → ESound prog w mg mb n sc σ x (rec x)) ∧ (∀ x, hi = some x → ESound prog w mg mb n sc σ x (rec x))) :
    ESound prog w mg mb n sc σ (.Subscript o i pos) (evSub rec sc σ o i) := by
  intro A env s av hA I
  unfold evSub
  refine Yd.bind (sound_recv ho A env s av hA I) (W2 := fun va s₁ Q E => wpAny (model prog w) A (eval i env) (fun vi s₂ => (∃ T id, s₂.TypeIs va T ∧ typeLookup (.type T) "__getitem__" = pure (some (.builtin id))) ∧ wpAny (model prog w) A (PySem.getItem va vi) Q E s₂) E s₁)
    (fun Q E h => wp_subscript h) fun va s₁ a ra _ => ?_
  split
  · rename_i lo hi st p
    split
    · obtain ⟨h1, h2⟩ := hs lo hi none p rfl
      have I1 := I.keeps ra.1
      refine Yd.bind ((sound_part h1 hA I1).mono (fun _ _ x => x) (fun _ _ _ _ r => r) (Raised.back ra.1)) (W2 := fun vl s₂ Q E => wpAny (model prog w) A (evalPart hi env) (fun vu s₃ => (∃ T id, Shared.TypeIs { s₃ with heap := s₃.heap.push { cls := .type "slice", data := .fields #[vl, vu, .none] } } va T ∧ typeLookup (.type T) "__getitem__" = pure (some (.builtin id))) ∧
          wpAny (model prog w) A (PySem.getItem va (.ref s₃.heap.objs.size)) Q E { s₃ with heap := s₃.heap.push { cls := .type "slice", data := .fields #[vl, vu, .none] } }) E s₂) (fun Q E h => ?_) fun vl s₂ kl rl _ => ?_
      · exact wpAny_Slice (wpAny_mono h (fun vl s₂ h₂ => wpAny_mono h₂ (fun vu s₃ h₃ => wpAny_evalPart_none h₃) fun _ _ x => x) fun _ _ x => x)
      have k2 := ra.1.tr rl.1
      refine Yd.bind ((sound_part h2 hA (I.keeps k2)).mono (fun _ _ x => x) (fun _ _ _ _ r => r) (Raised.back k2)) (W2 := fun vu s₃ Q E => (∃ T id, Shared.TypeIs { s₃ with heap := s₃.heap.push { cls := .type "slice", data := .fields #[vl, vu, .none] } } va T ∧ typeLookup (.type T) "__getitem__" = pure (some (.builtin id))) ∧
          wpAny (model prog w) A (PySem.getItem va (.ref s₃.heap.objs.size)) Q E { s₃ with heap := s₃.heap.push { cls := .type "slice", data := .fields #[vl, vu, .none] } }) (fun Q E h => h) fun vu s₃ kh rh _ => ?_
      have k3 := k2.tr rh.1
      have k4 := k3.tr (Kp.push' s₃ { cls := .type "slice", data := .fields #[vl, vu, .none] })
      have rt : Top1 prog w (s₃.heap.push { cls := .type "slice", data := .fields #[vl, vu, .none] }) av va a := ra.2.keeps fun b o e => Heap.get?_push_of_some _ (rh.1.heap b o (rl.1.heap b o e))
      cases a with
      | list l =>
        obtain ⟨ad, vs, rfl, p2, p3, p4, p5⟩ := rt.list
        intro Q E hq
        refine ⟨⟨"list", _, p2.isList.typeIs, list_getitem_lookup⟩, ?_⟩
        refine wpAny_getItem_list_slice p2.isList (Heap.IsSliceOf.new ..) rl.2.1 rh.2.1 .none (by simp) ?_ (by simpa using p4)
        have e : slicePick vs.toArray kl kh none = (slice vs kl kh).toArray := by rw [slicePick_plain]; simp [slice]
        rw [e]
        exact hq _ _ (own_list (s₁ := { s₃ with heap := s₃.heap.push { cls := .type "slice", data := .fields #[vl, vu, .none] } }) k4 (slice_len_eq p3 kl kh) (Nat.le_trans (slice_length_le _ _ _) p4) fun i v d e1 e2 => by
          obtain ⟨j, e3, e4⟩ := slice_get p3 e1 e2
          exact p5 j v d e3 e4)
      | str x =>
        obtain ⟨t, rfl, hx⟩ := rt.str
        intro Q E hq
        refine ⟨⟨"str", _, rfl, PyProof.Rows.slot_str_getitem.lookup⟩, ?_⟩
        obtain ⟨_, pl, epl, mpl⟩ := rl.2
        obtain ⟨_, pu, epu, mpu⟩ := rh.2
        subst epl epu mpl mpu
        have hlen : (Txt.slice x (pl.map (·.1)) (pu.map (·.1))).length ≤ sizeLine := Nat.le_trans (Txt.slice_le x _ _) hx
        refine wpAny_getItem_str_slice (l := pl) (u := pu) (st := none) ⟨_, Heap.get?_push_size _ rfl, rfl, rfl⟩ rfl (post_val_or_str ⟨hlen, fun t' k => hq _ _ ⟨k4.tr (Kp.tok' _ _), ?_⟩⟩)
        have := strSlice_eq x (pl.map (·.1)) (pu.map (·.1))
        show Rep prog w _ av _ (.str _)
        rw [← this]
        exact .str _ _ hlen
      | _ => exact trivial
    · exact trivial
  · rename_i hn
    unfold evIdx
    have I1 := I.keeps ra.1
    refine Yd.bind ((hidx A env s₁ av hA I1).mono (fun _ _ x => x) (fun _ _ _ _ r => r) (Raised.back ra.1)) (W2 := fun vi s₂ Q E => (∃ T id, s₂.TypeIs va T ∧ typeLookup (.type T) "__getitem__" = pure (some (.builtin id))) ∧ wpAny (model prog w) A (PySem.getItem va vi) Q E s₂) (fun Q E h => h) fun vi s₂ u r _ => ?_
    refine Yd.pureBind (dOf_noerr u) fun di ei => ?_
    have rt := ra.2.keeps (prog := prog) (w := w) r.1.heap
    have k2 := ra.1.tr r.1
    have hg : Yd (fun Q E => wpAny (model prog w) A (PySem.getItem va vi) Q E s₂) (fun v s' u => Kp s s' ∧ RepV prog w s s'.heap av v u) (Raised s) (getItem a di) := (sound_getItem (A := A) rt (r.2.rep I1.avlt ei)).mono (fun _ _ x => x) (fun _ _ _ _ r => ⟨k2.tr r.1, r.2.back k2⟩) (Raised.back k2)
    cases hgi : getItem a di with
    | no => exact trivial
    | err en => rw [hgi] at hg; exact absurd hgi (by
        intro h
        unfold getItem at h
        repeat' split at h
        all_goals cases h)
    | ok uu => rw [hgi] at hg; exact fun Q E hq => ⟨rt.typeIs hgi, hg Q E hq⟩

end
end Mine

set_option maxRecDepth 100000
namespace Mine
open PySem

section
variable {prog : Program} {w : World} {mg mb : Str → Option Value}

/-- what is asked of a call of the text's own -/
structure KSound (prog : Program) (w : World) (mg mb : Str → Option Value) (n : Nat) (K : Ctx) : Prop where
  const : K.const = constOf prog.main.body
  has : ∀ f, K.has f = true → ∃ a b sc, findDef f prog.main.body = some (a, b, sc)
  call : ∀ f us ad, mg f = some (.ref ad) → K.has f = true → ∀ (A : Around) (s : Shared) (av : Addr → Prop) (vs : List Value), Room n A → Glo prog w mg mb s.heap → (∀ b, av b → ∃ o, s.heap.get? b = some o) → av sysModules → ArgsRep prog w s.heap av vs us →
    Yd (fun Q E => wpAny (model prog w) A (call (.ref ad) vs) Q E s) (fun v s' u => Kp s s' ∧ RepV prog w s s'.heap av v u) (Raised s) (K.call f us)

theorem evalArgs_any {M : Model} {A : Around} {f : Value} {env : Env} {es : List Expr} {pos : Pos} {Q : Args → Shared → Prop} {E : Value → Shared → Prop} {s : Shared} (hs : ∀ e ∈ es, ∀ e' p', e ≠ .Starred e' p')
    (h : wpAny M A (spliced (backTo pos (starEach es env))) (fun vs s' => Q ⟨vs, []⟩ s') E s) : wpAny M A (evalArgs f true (backTo pos (starEach es env)) []) Q E s := by
  cases es with
  | nil =>
    have e0 : backTo pos (starEach [] env) = [] := rfl
    rw [e0] at h ⊢
    unfold evalArgs
    refine wpAny_bind (wpAny_bind (wpAny_mono h (fun vs s' h' => ?_) fun _ _ x => x))
    refine wpAny_pure (wpAny_holding ?_)
    show wpAny M A (do
      let kw := (([] : List (Option Str × Sem Value)).filterMap (·.1)).zip (← evalAll [])
      return ⟨vs, kw⟩) Q E s'
    exact wpAny_bind (wpAny_pure (wpAny_pure h'))
  | cons e r =>
    have hst : starEach (e :: r) env = (false, eval e env) :: starEach r env := by
      have := hs e (by simp)
      cases e <;> first | rfl | exact absurd rfl (this _ _)
    rw [hst] at h ⊢
    have hb : ∀ l, backTo pos ((false, eval e env) :: l) = (false, eval e env) :: backTo pos l := fun l => rfl
    rw [hb] at h ⊢
    exact Calls.evalArgs_plain h

theorem noStar_any {env : Env} {pos : Pos} : ∀ {es : List Expr}, (∀ e ∈ es, ∀ e' p', e ≠ .Starred e' p') → (backTo pos (starEach es env)).any (·.1) = false
  | [], _ => rfl
  | e :: es, h => by
    have hst : starEach (e :: es) env = (false, eval e env) :: starEach es env := by
      have := h e (by simp)
      cases e <;> first | rfl | exact absurd rfl (this _ _)
    rw [hst]
    show (false || (backTo pos (starEach es env)).any (·.1)) = false
    rw [noStar_any fun x hx => h x (List.mem_cons_of_mem _ hx)]; rfl

theorem noStar_of {es : List Expr} (h : es.any starred = false) : ∀ e ∈ es, ∀ e' p', e ≠ .Starred e' p' := by
  intro e he e' p' hh
  subst hh
  have := List.any_eq_false.mp h _ he
  exact this rfl

theorem isi_rep {A : Around} {s : Shared} {av : Addr → Prop} {v : Value} {d : PyData} {t : Str} {b : Bool} (r : Top1 prog w s.heap av v d) (ht : typ t d = some b) :
    ∃ T, bltOf t = some (.type T) ∧ ∀ Q E, (∀ tk, Q (.bool b) { s with toks := tk }) → wpAny (model prog w) A (call (.builtin "isinstance") [v, .type T]) Q E s := by
  unfold typ at ht
  split at ht
  · rename_i e
    subst e
    refine ⟨"dict", by decide +kernel, fun Q E hq => ?_⟩
    rcases r with r | ⟨a, rfl, r⟩
    · cases r with
      | none => cases ht; exact IsiPair.NoneType_dict (hq _)
      | bool _ => cases ht; exact IsiPair.bool_dict (hq _)
      | int _ _ => cases ht; exact IsiPair.int_dict (hq _)
      | str _ _ _ => cases ht; exact IsiPair.str_dict (hq _)
      | list _ h2 => cases ht; obtain ⟨n, e⟩ := h2; exact IsiPair.list_dict e rfl (hq _)
      | tuple _ h2 => cases ht; obtain ⟨n, e⟩ := h2; exact IsiPair.tuple_dict e rfl (hq _)
      | dict _ h2 => cases ht; obtain ⟨o, es, ep, e, c, _⟩ := h2; exact IsiPair.dict_dict e c.1 (hq _)
      | dict1 _ h2 h3 => cases ht; exact IsiPair.dict_dict h2 h3.1 (hq _)
    · cases d with
      | list ds => cases ht; obtain ⟨vs, ⟨n, e⟩, _⟩ := r; exact IsiPair.list_dict e rfl (hq _)
      | dict ds => cases ht; obtain ⟨kvs, ⟨o, es, ep, e, c, _⟩, _⟩ := r; exact IsiPair.dict_dict e c.1 (hq _)
      | _ => exact r.elim
  split at ht
  · rename_i e
    subst e
    refine ⟨"int", by decide +kernel, fun Q E hq => ?_⟩
    rcases r with r | ⟨a, rfl, r⟩
    · cases r with
      | none => cases ht; exact IsiPair.NoneType_int (hq _)
      | bool _ => cases ht; exact IsiPair.bool_int (hq _)
      | int _ _ => cases ht; exact IsiPair.int_int (hq _)
      | str _ _ _ => cases ht; exact IsiPair.str_int (hq _)
      | list _ h2 => cases ht; obtain ⟨n, e⟩ := h2; exact IsiPair.list_int e rfl (hq _)
      | tuple _ h2 => cases ht; obtain ⟨n, e⟩ := h2; exact IsiPair.tuple_int e rfl (hq _)
      | dict _ h2 => cases ht; obtain ⟨o, es, ep, e, c, _⟩ := h2; exact IsiPair.dict_int e c.1 (hq _)
      | dict1 _ h2 h3 => cases ht; exact IsiPair.dict_int h2 h3.1 (hq _)
    · cases d with
      | list ds => cases ht; obtain ⟨vs, ⟨n, e⟩, _⟩ := r; exact IsiPair.list_int e rfl (hq _)
      | dict ds => cases ht; obtain ⟨kvs, ⟨o, es, ep, e, c, _⟩, _⟩ := r; exact IsiPair.dict_int e c.1 (hq _)
      | _ => exact r.elim
  split at ht
  · rename_i e
    subst e
    refine ⟨"bool", by decide +kernel, fun Q E hq => ?_⟩
    rcases r with r | ⟨a, rfl, r⟩
    · cases r with
      | none => cases ht; exact IsiPair.NoneType_bool (hq _)
      | bool _ => cases ht; exact IsiPair.bool_bool (hq _)
      | int _ _ => cases ht; exact IsiPair.int_bool (hq _)
      | str _ _ _ => cases ht; exact IsiPair.str_bool (hq _)
      | list _ h2 => cases ht; obtain ⟨n, e⟩ := h2; exact IsiPair.list_bool e rfl (hq _)
      | tuple _ h2 => cases ht; obtain ⟨n, e⟩ := h2; exact IsiPair.tuple_bool e rfl (hq _)
      | dict _ h2 => cases ht; obtain ⟨o, es, ep, e, c, _⟩ := h2; exact IsiPair.dict_bool e c.1 (hq _)
      | dict1 _ h2 h3 => cases ht; exact IsiPair.dict_bool h2 h3.1 (hq _)
    · cases d with
      | list ds => cases ht; obtain ⟨vs, ⟨n, e⟩, _⟩ := r; exact IsiPair.list_bool e rfl (hq _)
      | dict ds => cases ht; obtain ⟨kvs, ⟨o, es, ep, e, c, _⟩, _⟩ := r; exact IsiPair.dict_bool e c.1 (hq _)
      | _ => exact r.elim
  split at ht
  · rename_i e
    subst e
    refine ⟨"str", by decide +kernel, fun Q E hq => ?_⟩
    rcases r with r | ⟨a, rfl, r⟩
    · cases r with
      | none => cases ht; exact IsiPair.NoneType_str (hq _)
      | bool _ => cases ht; exact IsiPair.bool_str (hq _)
      | int _ _ => cases ht; exact IsiPair.int_str (hq _)
      | str _ _ _ => cases ht; exact IsiPair.str_str (hq _)
      | list _ h2 => cases ht; obtain ⟨n, e⟩ := h2; exact IsiPair.list_str e rfl (hq _)
      | tuple _ h2 => cases ht; obtain ⟨n, e⟩ := h2; exact IsiPair.tuple_str e rfl (hq _)
      | dict _ h2 => cases ht; obtain ⟨o, es, ep, e, c, _⟩ := h2; exact IsiPair.dict_str e c.1 (hq _)
      | dict1 _ h2 h3 => cases ht; exact IsiPair.dict_str h2 h3.1 (hq _)
    · cases d with
      | list ds => cases ht; obtain ⟨vs, ⟨n, e⟩, _⟩ := r; exact IsiPair.list_str e rfl (hq _)
      | dict ds => cases ht; obtain ⟨kvs, ⟨o, es, ep, e, c, _⟩, _⟩ := r; exact IsiPair.dict_str e c.1 (hq _)
      | _ => exact r.elim
  split at ht
  · rename_i e
    subst e
    refine ⟨"list", by decide +kernel, fun Q E hq => ?_⟩
    rcases r with r | ⟨a, rfl, r⟩
    · cases r with
      | none => cases ht; exact IsiPair.NoneType_list (hq _)
      | bool _ => cases ht; exact IsiPair.bool_list (hq _)
      | int _ _ => cases ht; exact IsiPair.int_list (hq _)
      | str _ _ _ => cases ht; exact IsiPair.str_list (hq _)
      | list _ h2 => cases ht; obtain ⟨n, e⟩ := h2; exact IsiPair.list_list e rfl (hq _)
      | tuple _ h2 => cases ht; obtain ⟨n, e⟩ := h2; exact IsiPair.tuple_list e rfl (hq _)
      | dict _ h2 => cases ht; obtain ⟨o, es, ep, e, c, _⟩ := h2; exact IsiPair.dict_list e c.1 (hq _)
      | dict1 _ h2 h3 => cases ht; exact IsiPair.dict_list h2 h3.1 (hq _)
    · cases d with
      | list ds => cases ht; obtain ⟨vs, ⟨n, e⟩, _⟩ := r; exact IsiPair.list_list e rfl (hq _)
      | dict ds => cases ht; obtain ⟨kvs, ⟨o, es, ep, e, c, _⟩, _⟩ := r; exact IsiPair.dict_list e c.1 (hq _)
      | _ => exact r.elim
  split at ht
  · rename_i e
    subst e
    refine ⟨"tuple", by decide +kernel, fun Q E hq => ?_⟩
    rcases r with r | ⟨a, rfl, r⟩
    · cases r with
      | none => cases ht; exact IsiPair.NoneType_tuple (hq _)
      | bool _ => cases ht; exact IsiPair.bool_tuple (hq _)
      | int _ _ => cases ht; exact IsiPair.int_tuple (hq _)
      | str _ _ _ => cases ht; exact IsiPair.str_tuple (hq _)
      | list _ h2 => cases ht; obtain ⟨n, e⟩ := h2; exact IsiPair.list_tuple e rfl (hq _)
      | tuple _ h2 => cases ht; obtain ⟨n, e⟩ := h2; exact IsiPair.tuple_tuple e rfl (hq _)
      | dict _ h2 => cases ht; obtain ⟨o, es, ep, e, c, _⟩ := h2; exact IsiPair.dict_tuple e c.1 (hq _)
      | dict1 _ h2 h3 => cases ht; exact IsiPair.dict_tuple h2 h3.1 (hq _)
    · cases d with
      | list ds => cases ht; obtain ⟨vs, ⟨n, e⟩, _⟩ := r; exact IsiPair.list_tuple e rfl (hq _)
      | dict ds => cases ht; obtain ⟨kvs, ⟨o, es, ep, e, c, _⟩, _⟩ := r; exact IsiPair.dict_tuple e c.1 (hq _)
      | _ => exact r.elim
  cases ht


/-- one of the built-in things is called -/
theorem callWith1 {M : Model} {A : Around} {fv : Value} (hf : (∃ id, fv = .builtin id) ∨ ∃ T, fv = .type T) {pos : Pos} {t : Sem Value} {Q : Value → Shared → Prop} {E : Value → Shared → Prop} {s : Shared}
    (h : wpAny M A t (fun v s₁ => wpAny M A (call fv [v]) Q E s₁) E s) : wpAny M A (callWith pos fv [] [(false, t)] []) Q E s := by
  rcases hf with ⟨id, rfl⟩ | ⟨T, rfl⟩
  · exact PySem.callWith_builtin1 h
  · exact PySem.callWith_type1 h

theorem star1 {e : Expr} (h : ∀ e' p', e ≠ .Starred e' p') (env : Env) : starEach [e] env = [(false, eval e env)] := by
  cases e <;> first | rfl | exact absurd rfl (h _ _)

theorem sound_call1 {n : Nat} {sc : Scope} {σ : Store} {f : Str} {fv : Value} {β : Type} {a : Expr} {p pos : Pos} {r : P β} {g : β → P V} {R : Shared → (Addr → Prop) → Value → β → Prop} (hg : isG sc f = true) (hb : bltOf f = some fv)
    (hf : (∃ id, fv = .builtin id) ∨ ∃ T, fv = .type T) (hns : ∀ e' p', a ≠ .Starred e' p')
    (ha : ∀ (A : Around) (env : Env) (s : Shared) (av : Addr → Prop), Room n A → Inv0 prog w mg mb env sc σ av s → Yd (fun Q E => wpAny (model prog w) A (eval a env) Q E s) (fun v s' b => Kp s s' ∧ R s' av v b) (Raised s) r)
    (hc : ∀ (A : Around) (env : Env) (s : Shared) (av : Addr → Prop) (v : Value) (b : β), Room n A → Inv0 prog w mg mb env sc σ av s → R s av v b →
      Yd (fun Q E => wpAny (model prog w) A (call fv [v]) Q E s) (fun v s' u => Kp s s' ∧ RepV prog w s s'.heap av v u) (Raised s) (g b)) :
    ESound prog w mg mb n sc σ (.Call (.Name f p) [a] [] pos) (r.bind g) := by
  intro A env s av hA I
  refine Yd.bind (ha A env s av hA I) (W2 := fun v s₁ Q E => wpAny (model prog w) A (call fv [v]) Q E s₁) (fun Q E h => PySem.Call_name1 (star1 hns env) (name_blt I hg hb (callWith1 hf h))) fun v s₁ b r _ => ?_
  exact (hc A env s₁ av v b hA (I.keeps r.1) r.2).mono (fun _ _ x => x) (fun _ _ _ _ r' => ⟨r.1.tr r'.1, r'.2.back r.1⟩) (Raised.back r.1)

theorem sound_user {n : Nat} {sc : Scope} {σ : Store} {K : Ctx} (hK : KSound prog w mg mb n K) {rec : Expr → P V} (hstar : ∀ e pos, rec (.Starred e pos) = .no) {f : Str} {as : List Expr} {p pos : Pos} (hg : isG sc f = true) (hns : as.any starred = false) (hh : K.has f = true)
    (h : ∀ e ∈ as, ESound prog w mg mb n sc σ e (rec e)) : ESound prog w mg mb n sc σ (.Call (.Name f p) as [] pos) ((evs rec as).bind fun vs => K.call f vs) := by
  intro A env s av hA I
  obtain ⟨a, b, sc', hd⟩ := hK.has f hh
  obtain ⟨ad, o, pm, cd, doc, h1, h2, h3, h4⟩ := I.glo.fn f a b sc' hd
  refine Yd.bind (sound_evs (pos := pos) hstar h hA I) (W2 := fun vs s₁ Q E => s₁.heap.get? ad = some o ∧ wpAny (model prog w) A (call (.ref ad) vs) Q E s₁) (fun Q E h => ?_) fun vs s₁ us r _ => ?_
  · refine wpAny_Call_NameR (name_glob I hg h1 (Calls.callWith_function (o := o) (fd := Calls.docDef f a b sc' pm cd doc) (evalArgs_any (noStar_of hns) (wpAny_mono h (fun vs s₁ h₁ => ?_) fun _ _ x => x))))
    exact ⟨⟨h₁.1, h3⟩, h₁.2⟩
  · have := hK.call f us ad h1 hh A s₁ av vs hA (I.keeps r.1).glo (I.keeps r.1).avlt I.avS r.2
    exact this.mono (fun Q E x => ⟨r.1.heap _ _ h2, x⟩) (fun _ _ _ _ r' => ⟨r.1.tr r'.1, r'.2.back r.1⟩) (Raised.back r.1)

end
end Mine

set_option maxRecDepth 100000
namespace Mine
open PySem

section
variable {prog : Program} {w : World} {mg mb : Str → Option Value}

theorem Kp.mk' {s : Shared} {h' : Heap} {tk : Nat} (k : ∀ b o, s.heap.get? b = some o → h'.get? b = some o) : Kp s { s with heap := h', toks := tk } := ⟨h', tk, rfl, k⟩
theorem Kp.mkh {s : Shared} {h' : Heap} (k : ∀ b o, s.heap.get? b = some o → h'.get? b = some o) : Kp s { s with heap := h' } := ⟨h', s.toks, rfl, k⟩

/-- a new list -/
theorem own_at {s s₁ s' : Shared} {av : Addr → Prop} {a : Addr} {vs : List Value} {ds : List PyData} (k0 : Kp s s₁) (k : Kp s₁ s') (hn : s₁.heap.get? a = none) (hp : s'.heap.PlainList a vs.toArray) (hl : vs.length = ds.length) (hz : vs.length ≤ sizeLine)
    (h : ∀ (i : Nat) (v : Value) (d : PyData), vs[i]? = some v → ds[i]? = some d → Rep prog w s₁.heap av v d) : Kp s s' ∧ RepV prog w s s'.heap av (.ref a) (.own (.list ds)) := by
  refine ⟨k0.tr k, RepV.back k0 ⟨a, rfl, hn, vs, hp, hl, hz, fun i v d e1 e2 => ((h i v d e1 e2).apart hn).keeps k.heap⟩⟩

theorem own_dict {s s₁ s' : Shared} {av : Addr → Prop} {a : Addr} {kvs : List (Str × Value)} {ds : List (PyData × PyData)} (k0 : Kp s s₁) (k : Kp s₁ s') (hn : s₁.heap.get? a = none) (hm : (a == sysModules) = false) (hp : s'.heap.DictOf (strKind prog w) a kvs)
    (hz : kvs.length ≤ sizeLine ∧ ∀ kv ∈ kvs, kv.1.length ≤ sizeLine) (hl : ds.map (·.1) = kvs.map (fun kv => PyData.str kv.1))
    (h : ∀ (i : Nat) (kv : Str × Value) (d : PyData × PyData), kvs[i]? = some kv → ds[i]? = some d → Rep prog w s₁.heap av kv.2 d.2) : Kp s s' ∧ RepV prog w s s'.heap av (.ref a) (.own (.dict ds)) := by
  refine ⟨k0.tr k, RepV.back k0 ⟨a, rfl, hn, kvs, hp, hz, hm, hl, fun i v d e1 e2 => ((h i v d e1 e2).apart hn).keeps k.heap⟩⟩

theorem fresh_mods {h : Heap} (G : Glo prog w mg mb h) : (h.objs.size == sysModules) = false := by
  have : sysModules < h.objs.size := PyProof.Rows.modules_low G.nolimit
  exact beq_eq_false_iff_ne.mpr (Nat.ne_of_gt this)

/-! what is read off -/
theorem readsAll_of {h : Heap} : ∀ {vs : List Value} {ds : List PyData}, vs.length = ds.length → (∀ (i : Nat) (v : Value) (d : PyData), vs[i]? = some v → ds[i]? = some d → ∃ as, Reads h v d as ∧ sysModules ∉ as) →
    ∃ as, ReadsAll h vs ds as ∧ sysModules ∉ as
  | [], [], _, _ => ⟨[], .nil, by simp⟩
  | [], _ :: _, e, _ => by simp at e
  | _ :: _, [], e, _ => by simp at e
  | v :: vs, d :: ds, e, h => by
    obtain ⟨as, h1, h2⟩ := h 0 v d rfl rfl
    obtain ⟨bs, h3, h4⟩ := readsAll_of (vs := vs) (ds := ds) (by simpa using e) fun i v d e1 e2 => h (i + 1) v d (by simpa using e1) (by simpa using e2)
    exact ⟨as ++ bs, .cons h1 h3, by simp [h2, h4]⟩

theorem pairs_keys {es : List DictEntry} {kvs : List (Str × Value)} (p : Pairs (strKind prog w) es kvs) (h : Heap) : ReadsAll h (es.map (·.key)) (kvs.map fun kv => PyData.str kv.1) [] := by
  induction p with
  | nil => exact .nil
  | @cons e kv es kvs hk _ _ ih =>
    obtain ⟨t, ht⟩ := Value.isStrOf_shape hk
    have := ReadsAll.cons (h := h) (Reads.str kv.1 t) ih
    simp only [List.map_cons]
    rw [ht]
    exact this

theorem pairs_vals {es : List DictEntry} {kvs : List (Str × Value)} (p : Pairs (strKind prog w) es kvs) : es.map (·.val) = kvs.map (·.2) := by
  induction p with
  | nil => rfl
  | cons _ hv _ ih => simp [hv, ih]

theorem Rep.reads {h : Heap} {av : Addr → Prop} (hs : av sysModules) {v : Value} {d : PyData} (r : Rep prog w h av v d) : ∃ as, Reads h v d as ∧ sysModules ∉ as := by
  induction r with
  | none => exact ⟨[], .none, by simp⟩
  | bool b => exact ⟨[], .bool b, by simp⟩
  | int i t => exact ⟨[], .int i t, by simp⟩
  | str x t _ => exact ⟨[], .str x t, by simp⟩
  | @list a vs ds h1 h2 h3 h4 h5 ih =>
    obtain ⟨as, r1, r2⟩ := readsAll_of h3 ih
    obtain ⟨n, e⟩ := h2
    exact ⟨a :: as, .list e rfl rfl (by simpa using r1), by
      simp only [List.mem_cons, not_or]
      exact ⟨fun e => h1 (e ▸ hs), r2⟩⟩
  | @tuple a vs ds h1 h2 h3 h4 h5 ih =>
    obtain ⟨as, r1, r2⟩ := readsAll_of h3 ih
    obtain ⟨n, e⟩ := h2
    exact ⟨as, .tuple e rfl rfl (by simpa using r1), r2⟩
  | @dict a kvs ds h1 h2 h3 h4 h5 h6 ih =>
    obtain ⟨o, es, ep, e, c, hd, _, hp, _⟩ := h2
    have hlen : kvs.length = ds.length := by have := congrArg List.length h5; simpa using this.symm
    obtain ⟨bs, r1, r2⟩ := readsAll_of (h := h) (vs := kvs.map (·.2)) (ds := ds.map (·.2)) (by simpa using hlen) fun i v d e1 e2 => by
      rw [List.getElem?_map] at e1 e2
      cases hk : kvs[i]? with
      | none => rw [hk] at e1; cases e1
      | some kv =>
        cases hd : ds[i]? with
        | none => rw [hd] at e2; cases e2
        | some dd =>
          rw [hk] at e1; rw [hd] at e2
          cases e1; cases e2
          exact ih i kv dd hk hd
    refine ⟨a :: [] ++ bs, .dict e c.1 hd (h5 ▸ pairs_keys hp h) (pairs_vals hp ▸ r1), ?_⟩
    simp only [List.cons_append, List.nil_append, List.mem_cons, not_or]
    exact ⟨fun e => h1 (e ▸ hs), r2⟩
  | @dict1 a o hv key v ep k d h1 h2 h3 h4 h5 h6 _ _ i1 i2 =>
    obtain ⟨as, r1, r2⟩ := i1
    obtain ⟨bs, r3, r4⟩ := i2
    refine ⟨a :: (as ++ []) ++ (bs ++ []), .dict h2 h3.1 h4 (by simpa using ReadsAll.cons r1 .nil) (by simpa using ReadsAll.cons r3 .nil), ?_⟩
    simp only [List.append_nil, List.cons_append, List.mem_cons, List.mem_append, not_or]
    exact ⟨fun e => h1 (e ▸ hs), r2, r4⟩

/-- repr -/
theorem sound_repr {A : Around} {s : Shared} {av : Addr → Prop} {v : Value} {d : PyData} (hs : av sysModules) (hg : A.guards = some []) (hu : A.units + 80 < cLine) (r : Rep prog w s.heap av v d) :
    Yd (fun Q E => wpAny (model prog w) A (call (.builtin "repr") [v]) Q E s) (fun v s' u => Kp s s' ∧ RepV prog w s s'.heap av v u) (Raised s) (reprX d) := by
  unfold reprX
  split
  · rename_i hc
    simp only [Bool.and_eq_true, decide_eq_true_eq] at hc
    obtain ⟨⟨h1, h2⟩, h3⟩ := hc
    have hz : d.shown.length ≤ sizeLine := by rw [sizeLine_eq]; exact h3
    intro Q E hq
    have fin : ∀ h' u tk, (∀ b o, s.heap.get? b = some o → h'.get? b = some o) → Q (.str d.shown u) { s with heap := h', toks := tk } := fun h' u tk k => hq _ _ ⟨Kp.mk' k, .str _ _ hz⟩
    obtain ⟨as, ra, rs⟩ := r.reads hs
    cases r with
    | none => exact P.repr_of_none (fin s.heap _ _ fun _ _ e => e)
    | bool b => exact P.repr_of_bool (fin s.heap _ _ fun _ _ e => e)
    | int i t => exact P.repr_of_int (by simpa [PyData.showable] using h1) (fin s.heap _ _ fun _ _ e => e)
    | str x t _ => exact P.repr_of_str (fin s.heap _ _ fun _ _ e => e) hz
    | list _ _ _ _ _ => exact repr_of_reads' ra h1 (fun _ => rs) hg (by omega) (fun _ _ e => e) fin hz
    | tuple _ _ _ _ _ => exact repr_of_reads' ra h1 (fun _ => rs) hg (by omega) (fun _ _ e => e) fin hz
    | dict _ _ _ _ _ _ => exact repr_of_reads' ra h1 (fun _ => rs) hg (by omega) (fun _ _ e => e) fin hz
    | dict1 _ _ _ _ _ _ _ _ => exact repr_of_reads' ra h1 (fun _ => rs) hg (by omega) (fun _ _ e => e) fin hz
  · exact trivial

/-! sorting -/
noncomputable def leS (x y : Str) : Prop := ¬ (y.cps.toList < x.cps.toList)
theorem leS_trans {x y z : Str} (h : leS x y) (h' : leS y z) : leS x z := by
  have a : x.cps.toList ≤ y.cps.toList := List.not_lt.mp h
  have b : y.cps.toList ≤ z.cps.toList := List.not_lt.mp h'
  exact List.not_lt.mpr (List.le_trans a b)
theorem leS_anti {x y : Str} (h : leS x y) (h' : leS y x) : x = y := by
  have a : x.cps.toList ≤ y.cps.toList := List.not_lt.mp h
  have b : y.cps.toList ≤ x.cps.toList := List.not_lt.mp h'
  have := List.le_antisymm a b
  cases x; cases y; simp_all [Array.toList_inj]
theorem leS_total (x y : Str) : leS x y ∨ leS y x := by
  rcases List.le_total x.cps.toList y.cps.toList with a | a
  · exact .inl (List.not_lt.mpr a)
  · exact .inr (List.not_lt.mpr a)

theorem insS_perm (a : Str) : ∀ l, (insS a l).Perm (a :: l)
  | [] => .refl _
  | b :: r => by
    unfold insS
    split
    · exact ((insS_perm a r).cons b).trans (.swap a b r)
    · exact .refl _
theorem sortS_perm : ∀ l, (sortS l).Perm l
  | [] => .refl _
  | a :: r => (insS_perm a _).trans ((sortS_perm r).cons a)
theorem insS_pw (a : Str) : ∀ {l}, l.Pairwise leS → (insS a l).Pairwise leS
  | [], _ => List.pairwise_singleton _ _
  | b :: r, h => by
    rw [List.pairwise_cons] at h
    unfold insS
    split
    · rename_i hlt
      rw [List.pairwise_cons]
      refine ⟨fun x hx => ?_, insS_pw a h.2⟩
      rcases List.mem_cons.mp ((insS_perm a r).mem_iff.mp hx) with rfl | hx
      · exact List.not_lt.mpr (List.le_of_lt hlt)
      · exact h.1 x hx
    · rename_i hlt
      rw [List.pairwise_cons]
      refine ⟨fun x hx => ?_, by rw [List.pairwise_cons]; exact h⟩
      rcases List.mem_cons.mp hx with rfl | hx
      · exact hlt
      · exact leS_trans hlt (h.1 x hx)
theorem sortS_pw : ∀ l, (sortS l).Pairwise leS
  | [] => .nil
  | a :: r => insS_pw a (sortS_pw r)

theorem rising_pw : ∀ (p : Str) (l : List Str), PyProof.Rows.risingS p l = true → (p :: l).Pairwise leS
  | p, [], _ => List.pairwise_singleton _ _
  | p, x :: r, h => by
    unfold PyProof.Rows.risingS at h
    simp only [Bool.and_eq_true, Bool.not_eq_true'] at h
    have hr := rising_pw x r h.2
    have hpx : leS p x := by
      have := PyProof.Rows.lt_meets x p
      rw [h.1, decide_eq_false_iff_not] at this
      exact this
    rw [List.pairwise_cons]
    refine ⟨fun y hy => ?_, hr⟩
    rcases List.mem_cons.mp hy with rfl | hy
    · exact hpx
    · exact leS_trans hpx ((List.pairwise_cons.mp hr).1 y hy)
theorem sorted_pw {l : List Str} (h : PyProof.Rows.sortedS l = true) : l.Pairwise leS := by
  cases l with
  | nil => exact .nil
  | cons x r => exact rising_pw x r h
theorem sorted_unique {l l' : List Str} (h : PyProof.Rows.sortedS l' = true) (p : l'.Perm l) : l' = sortS l :=
  List.Perm.eq_of_pairwise (le := leS) (fun _ _ _ _ a b => leS_anti a b) (sorted_pw h) (sortS_pw l) (p.trans (sortS_perm l).symm)

theorem strsAre_of : ∀ {ss : List Str} {ts : List Tok}, ts.length = ss.length → PyProof.Rows.StrsAre (List.zipWith (fun x t => Value.str x t) ss ts) ss
  | [], [], _ => .nil
  | [], _ :: _, h => by simp at h
  | _ :: _, [], h => by simp at h
  | s :: ss, t :: ts, h => .cons s t (strsAre_of (by simpa using h))

theorem strsAre_rep {h : Heap} {av : Addr → Prop} : ∀ {vs : List Value} {ss : List Str}, PyProof.Rows.StrsAre vs ss → (∀ x ∈ ss, x.length ≤ sizeLine) →
    vs.length = (ss.map PyData.str).length ∧ ∀ (i : Nat) (v : Value) (d : PyData), vs[i]? = some v → (ss.map PyData.str)[i]? = some d → Rep prog w h av v d
  | _, _, .nil, _ => ⟨rfl, fun i v d e => by simp at e⟩
  | _, _, .cons y t (vs := vs) (ys := ys) r, hx => by
    obtain ⟨h1, h2⟩ := strsAre_rep r fun x hx' => hx x (List.mem_cons_of_mem _ hx')
    refine ⟨by simpa using h1, fun i v d e1 e2 => ?_⟩
    cases i with
    | zero => simp at e1 e2; subst e1; subst e2; exact .str y t (hx y (by simp))
    | succ i => exact h2 i v d (by simpa using e1) (by simpa using e2)

end
end Mine

set_option maxRecDepth 100000
namespace Mine
open PySem

section
variable {prog : Program} {w : World} {mg mb : Str → Option Value}

theorem small_fit {n : Nat} (h : n ≤ sizeLine) : ((n : Nat) : Int) < 2 ^ 63 := by
  have : sizeLine = 16777216 := sizeLine_eq
  omega

abbrev YV (prog : Program) (w : World) (A : Around) (s : Shared) (av : Addr → Prop) (t : Sem Value) (p : P V) : Prop :=
  Yd (fun Q E => wpAny (model prog w) A t Q E s) (fun v s' u => Kp s s' ∧ RepV prog w s s'.heap av v u) (Raised s) p

theorem sound_len {A : Around} {s : Shared} {av : Addr → Prop} {v : Value} {d : PyData} (r : Rep prog w s.heap av v d) : YV prog w A s av (call (.builtin "len") [v]) (lenD d) := by
  cases r with
  | list h1 h2 h3 h4 h5 => exact fun Q E hq => Calls.call_len_list h2.isList (by simpa using small_fit h4) (hq _ _ ⟨Kp.tok' s _, show Rep _ _ _ _ _ _ from (by simpa [h3] using Rep.int _ _)⟩)
  | tuple h1 h2 h3 h4 h5 =>
    obtain ⟨n, e⟩ := h2
    exact fun Q E hq => P.len_tuple e (by have := small_fit h4; simp; omega) (hq _ _ ⟨Kp.tok' s _, show Rep _ _ _ _ _ _ from (by simpa [h3] using Rep.int _ _)⟩)
  | @dict a kvs ds h1 h2 h3 h4 h5 h6 =>
    show YV prog w A s av _ (if strKeys ds then fz (.int ds.length) else .no)
    split
    · have hl : kvs.length = ds.length := by have := congrArg List.length h5; simpa using this.symm
      exact fun Q E hq => call_len_dict h4 h2 (small_fit h3.1) (hq _ _ ⟨Kp.tok' s _, show Rep _ _ _ _ _ _ from (by simpa [hl] using Rep.int _ _)⟩)
    · exact trivial
  | dict1 h1 h2 h3 h4 h5 h6 => simp only [lenD, strKeys_one h6]; exact trivial
  | str x t hx => exact fun Q E hq => P.len_str (by have := small_fit hx; omega) (hq _ _ ⟨Kp.tok' s _, Rep.int _ _⟩)
  | _ => exact trivial

theorem bools_rep {h : Heap} {av : Addr → Prop} : ∀ {vs : List Value} {ds : List PyData} {bs : List Bool}, vs.length = ds.length → (∀ (i : Nat) (v : Value) (d : PyData), vs[i]? = some v → ds[i]? = some d → Rep prog w h av v d) →
    bools? ds = some bs → vs = bs.map Value.bool
  | [], [], bs, _, _, e => by cases e; rfl
  | [], _ :: _, _, h, _, _ => by simp at h
  | _ :: _, [], _, h, _, _ => by simp at h
  | v :: vs, d :: ds, bs, hl, h, e => by
    cases d with
    | bool b =>
      have e' : (bools? ds).map (b :: ·) = some bs := e
      cases hb : bools? ds with
      | none => rw [hb] at e'; cases e'
      | some bs' =>
        rw [hb] at e'; cases e'
        have := bools_rep (vs := vs) (ds := ds) (by simpa using hl) (fun i v d e1 e2 => h (i + 1) v d (by simpa using e1) (by simpa using e2)) hb
        rw [this, (h 0 v _ rfl rfl).bool_inv]; rfl
    | _ => cases e

theorem all_range (bs : List Bool) : (List.range bs.length).all (fun i => (bs[i]?).getD true) = bs.all id := by
  rw [Bool.eq_iff_iff, List.all_eq_true, List.all_eq_true]
  constructor
  · intro h b hb
    obtain ⟨i, hi, rfl⟩ := List.mem_iff_getElem.mp hb
    have := h i (List.mem_range.mpr hi)
    simpa [List.getElem?_eq_getElem hi] using this
  · intro h i hi
    have hi' := List.mem_range.mp hi
    rw [List.getElem?_eq_getElem hi']
    exact h _ (List.getElem_mem hi')

theorem sound_all {A : Around} {s : Shared} {av : Addr → Prop} {v : Value} {d : PyData} (hh : A.handled = none) (r : Rep prog w s.heap av v d) : YV prog w A s av (call (.builtin "all") [v]) (allB d) := by
  cases r with
  | @list a vs ds h1 h2 h3 h4 h5 =>
    show YV prog w A s av _ (((ofO (bools? ds)).bind fun bs => .ok (bs.all id)).bind fun b => .ok (.fz (.bool b)))
    cases hb : bools? ds with
    | none => exact trivial
    | some bs =>
      have hv := bools_rep h3 h5 hb
      subst hv
      intro Q E hq
      have hli : s.heap.IsList a (bs.map Value.bool).toArray := h2.isList
      have hne : a ≠ s.heap.objs.size := fun e => by
        obtain ⟨o, ho, _⟩ := hli
        rw [e, fresh_none] at ho; cases ho
      refine call_all_walk (wpAny_pyIter_list hli ⟨s.heap.objs.size, _, _, _, _, _, fun i => (bs[i]?).getD true, rfl, Walks.list (by exact hh) s.heap.objs.size a hne (bs.map Value.bool).toArray,
        ⟨⟨_, push_at _ _ rfl, rfl, rfl⟩, let ⟨o, e, r⟩ := hli; ⟨o, Heap.get?_push_of_some _ e, r⟩⟩, fun i v s Q E hP hQ => ?_, fun h' tk hk => ?_⟩)
      · have hP : (bs.map Value.bool).toArray[i]? = some v := hP
        rw [List.getElem?_toArray, List.getElem?_map] at hP
        cases hbi : bs[i]? with
        | none => rw [hbi] at hP; cases hP
        | some b => rw [hbi] at hP; cases hP; exact wpAny_truthy_bool (by simpa [hbi] using hQ)
      · have e : (List.range ((bs.map Value.bool).toArray.size)).all (fun i => (bs[i]?).getD true) = bs.all id := by simpa using all_range bs
        rw [e]
        refine hq _ _ ⟨⟨h', tk, rfl, fun b o e => hk b o (fun hb => ?_) (Heap.get?_push_of_some _ e)⟩, .bool _⟩
        rw [List.mem_singleton.mp hb, fresh_none] at e; cases e
  | _ => exact trivial

theorem sound_sorted {A : Around} {s : Shared} {av : Addr → Prop} {v : Value} {d : PyData} (r : Rep prog w s.heap av v d) : YV prog w A s av (call (.builtin "sorted") [v]) (sortD d) := by
  show YV prog w A s av _ ((strItems d).bind fun l => if l.length < 64 then own (.list ((sortS l).map .str)) else .no)
  cases r with
  | @list a vs ds h1 h2 h3 h4 h5 =>
    show YV prog w A s av _ ((ofO (strs? ds)).bind fun l => if l.length < 64 then own (.list ((sortS l).map .str)) else .no)
    cases hs : strs? ds with
    | none => exact trivial
    | some ss =>
      show YV prog w A s av _ (if ss.length < 64 then own (.list ((sortS ss).map .str)) else .no)
      split
      · rename_i hlt
        obtain ⟨ts, e1, e2, e3⟩ := strs_rep h3 h5 hs
        subst e2
        intro Q E hq
        refine PyProof.Rows.sorted_strs h2.isList (strsAre_of e1) (by simp [e1]; omega) fun out ss' hS hp hso => ?_
        have hu := sorted_unique hso hp
        subst hu
        obtain ⟨q1, q2⟩ := strsAre_rep (prog := prog) (w := w) (h := s.heap) (av := av) hS fun x hx => e3 x (hp.mem_iff.mp hx)
        obtain ⟨e, he⟩ := PyProof.Rows.sortedAll_at s.heap (List.zipWith (fun x t => Value.str x t) ss ts) out
        refine hq _ _ (own_at (vs := out.toList) (Kp.rfl' s) (Kp.mkh fun b o e => PyProof.Rows.sortedAll_old e) ?_ ⟨e, by simpa using he⟩ q1 (by rw [q1]; have := sizeLine_eq; simp [(sortS_perm ss).length_eq]; omega) q2)
        exact Heap.get?_none_of_le (by omega)
      · exact trivial
  | _ => exact trivial

theorem sound_list {A : Around} {s : Shared} {av : Addr → Prop} {v : Value} {d : PyData} (hh : A.handled = none) (r : Rep prog w s.heap av v d) : YV prog w A s av (call (.type "list") [v]) (listD d) := by
  cases r with
  | @list a vs ds h1 h2 h3 h4 h5 =>
    obtain ⟨n, e⟩ := h2
    exact fun Q E hq => call_list_seq a (.inl rfl) e rfl rfl (fun h' c' hk he => hq _ _ (own_at (Kp.rfl' s) (Kp.mkh hk) (fresh_none _) ⟨c', he⟩ h3 h4 h5)) (by simpa using h4)
  | @tuple a vs ds h1 h2 h3 h4 h5 =>
    obtain ⟨n, e⟩ := h2
    exact fun Q E hq => call_list_seq a (.inr rfl) e rfl rfl (fun h' c' hk he => hq _ _ (own_at (Kp.rfl' s) (Kp.mkh hk) (fresh_none _) ⟨c', he⟩ h3 h4 h5)) (by simpa using h4)
  | @dict a kvs ds h1 h2 h3 h4 h5 h6 =>
    show YV prog w A s av _ (if strKeys ds then own (.list (ds.map (·.1))) else .no)
    split
    · intro Q E hq
      obtain ⟨o, es, ep, hd⟩ := h2
      refine W.kdl_call (W.kdl_dict (knd := strKind prog w) (kvs := kvs) (ep := ep) h4) hh ⟨o, es, hd⟩ h3.1 fun h' tk acc c' hk he hit => ?_
      have hsz : acc.toList.length = kvs.length := by simpa using hit.1
      refine hq _ _ (own_at (vs := acc.toList) (Kp.rfl' s) (Kp.mk' hk) (fresh_none _) ⟨c', by simpa using he⟩ (by rw [hsz, h5]; simp) (by rw [hsz]; exact h3.1) fun i v d e1 e2 => ?_)
      obtain ⟨k, x, e3, e4⟩ := hit.2 i v (by simpa using e1)
      obtain ⟨t, rfl⟩ := Value.isStrOf_shape e4
      rw [h5, List.getElem?_map, e3] at e2
      cases e2
      exact .str k t (h3.2 _ (List.mem_of_getElem? e3))
    · exact trivial
  | dict1 h1 h2 h3 h4 h5 h6 => simp only [listD, strKeys_one h6]; exact trivial
  | _ => exact trivial

theorem sound_tuple1 {A : Around} {s : Shared} {av : Addr → Prop} {v : Value} {d : PyData} (ha : ∀ b, av b → ∃ o, s.heap.get? b = some o) (r : Rep prog w s.heap av v d) : YV prog w A s av (call (.type "tuple") [v]) (tupD d) := by
  cases r with
  | @list a vs ds h1 h2 h3 h4 h5 =>
    intro Q E hq
    refine call_tuple_list h2.isList (fun h' hk => ?_) (by simpa using h4)
    have k : Kp s { s with heap := h' } := Kp.mkh hk
    exact hq _ _ (new_tuple (s₁ := { s with heap := h' }) k (fun b hb => let ⟨o, e⟩ := ha b hb; ⟨o, hk _ _ e⟩) h3 h4 fun i v d e1 e2 => (h5 i v d e1 e2).keeps hk)
  | _ => exact trivial

theorem sameBut_keeps {h h' : Heap} {o : Obj} (hs : Heap.SameBut h.objs.size (h.push o) h') : ∀ b o', h.get? b = some o' → h'.get? b = some o' := by
  intro b o' e
  have hb : b ≠ h.objs.size := fun hh => by rw [hh, fresh_none] at e; cases e
  rw [hs.2 b hb]
  exact Heap.get?_push_of_some _ e

theorem sound_dict1 {A : Around} {s : Shared} {av : Addr → Prop} {v : Value} {d : PyData} (G : Glo prog w mg mb s.heap) (r : Rep prog w s.heap av v d) : YV prog w A s av (call (.type "dict") [v]) (dictD d) := by
  cases r with
  | @dict a kvs ds h1 h2 h3 h4 h5 h6 =>
    show YV prog w A s av _ (if strKeys ds then own (.dict ds) else .no)
    split
    · intro Q E hq
      refine kt_call_dict h4 h2 h3.1 fun h' hd hs => ?_
      exact hq _ _ (own_dict (Kp.rfl' s) (Kp.mkh (sameBut_keeps hs)) (fresh_none _) (fresh_mods G) hd h3 h5 h6)
    · exact trivial
  | dict1 h1 h2 h3 h4 h5 h6 => simp only [dictD, strKeys_one h6]; exact trivial
  | _ => exact trivial

theorem sound_int1 {A : Around} {s : Shared} {av : Addr → Prop} {v : Value} {d : PyData} (r : Rep prog w s.heap av v d) : YV prog w A s av (call (.type "int") [v]) (intD d) := by
  cases r with
  | int i t => exact fun Q E hq => call_int_int (hq _ _ ⟨Kp.rfl' s, .int i t⟩)
  | bool b => exact fun Q E hq => call_int_bool (hq _ _ ⟨Kp.tok' s _, .int _ _⟩)
  | str x t hx =>
    show YV prog w A s av _ (if x.length ≤ 640 then (ofO (PySem.intText? x)).bind fun i => fz (.int i) else .no)
    split
    · rename_i hl
      cases hi : PySem.intText? x with
      | none => exact trivial
      | some i => exact fun Q E hq => W.KIN.call_text hi hl (hq _ _ ⟨Kp.tok' s _, .int _ _⟩)
    · exact trivial
  | _ => exact trivial

theorem log_digits {i : Int} (h : i.natAbs.log2 < 1920) : (strOfInt i).length ≤ sizeLine := int_text_fits h

theorem sound_str1 {A : Around} {s : Shared} {av : Addr → Prop} {v : Value} {d : PyData} (r : Rep prog w s.heap av v d) : YV prog w A s av (call (.type "str") [v]) (strD d) := by
  cases r with
  | str x t hx => exact fun Q E hq => P.str_of_str (hq _ _ ⟨Kp.rfl' s, .str x t hx⟩)
  | int i t =>
    show YV prog w A s av _ (if i.natAbs.log2 < 1920 then fz (.str (strOfInt i)) else .no)
    split
    · rename_i hl
      exact fun Q E hq => P.str_of_int hl (hq _ _ ⟨Kp.tok' s _, .str _ _ (log_digits hl)⟩)
    · exact trivial
  | _ => exact trivial

theorem sound_abs1 {A : Around} {s : Shared} {av : Addr → Prop} {v : Value} {d : PyData} (r : Rep prog w s.heap av v d) : YV prog w A s av (call (.builtin "abs") [v]) (absD d) := by
  cases r with
  | int i t => exact fun Q E hq => PyProof.Rows.call_abs_int fun u tk => hq _ _ ⟨Kp.tok' s _, .int _ _⟩
  | _ => exact trivial

end
end Mine

set_option maxRecDepth 100000
namespace Mine
open PySem

section
variable {prog : Program} {w : World} {mg mb : Str → Option Value}

theorem sound_builtin1 {n : Nat} {sc : Scope} {σ : Store} {f : Str} {fv : Value} (hb : isB1 f = true) (hv : bltOf f = some fv) {A : Around} {env : Env} {s : Shared} {av : Addr → Prop} {v : Value} {d : PyData} (hA : Room n A) (I : Inv0 prog w mg mb env sc σ av s)
    (r : Rep prog w s.heap av v d) : YV prog w A s av (call fv [v]) (builtin1 f d) := by
  unfold builtin1
  have hu : A.units + 80 < cLine := by have := hA.units; omega
  split
  · rename_i e; subst e; cases hv; exact sound_len r
  split
  · rename_i e; subst e; cases hv; exact sound_all hA.handled r
  split
  · rename_i e; subst e; cases hv; exact sound_sorted r
  split
  · rename_i e; subst e; cases hv; exact sound_list hA.handled r
  split
  · rename_i e; subst e; cases hv; exact sound_tuple1 I.avlt r
  split
  · rename_i e; subst e; cases hv; exact sound_dict1 I.glo r
  split
  · rename_i e; subst e; cases hv; exact sound_repr I.avS hA.guards hu r
  split
  · rename_i e; subst e; cases hv; exact sound_int1 r
  split
  · rename_i e; subst e; cases hv; exact sound_str1 r
  split
  · rename_i e; subst e; cases hv; exact sound_abs1 r
  · exact trivial

theorem blt_of_B1 {f : Str} (h : isB1 f = true) : ∃ fv, bltOf f = some fv ∧ ((∃ id, fv = .builtin id) ∨ ∃ T, fv = .type T) := by
  unfold isB1 at h
  simp only [Bool.or_eq_true, beq_iff_eq] at h
  rcases h with ((((((((h | h) | h) | h) | h) | h) | h) | h) | h) | h <;> subst h
  all_goals first
    | exact ⟨.builtin _, rfl, .inl ⟨_, rfl⟩⟩
    | exact ⟨.type _, rfl, .inr ⟨_, rfl⟩⟩

theorem call_min {A : Around} {s : Shared} {av : Addr → Prop} {vs : List Value} {us : List V} (hh : A.handled = none) (r : ArgsRep prog w s.heap av vs us) : YV prog w A s av (call (.builtin "min") vs) (apply2 "min" us) := by
  show YV prog w A s av _ (minV us)
  unfold minV
  split
  · rename_i x y
    obtain ⟨hl, hr⟩ := r
    match vs, hl with
    | [v1, v2], _ =>
      obtain ⟨t, rfl⟩ := (show Rep prog w s.heap av v1 (.int x) from (hr 0 _ _ rfl rfl).1).int_inv
      obtain ⟨u, rfl⟩ := (show Rep prog w s.heap av v2 (.int y) from (hr 1 _ _ rfl rfl).1).int_inv
      refine fun Q E hq => min_two_ints hh fun h' tk hk => hq _ _ ⟨Kp.mk' hk, ?_⟩
      by_cases c : y < x
      · simp only [if_pos c]; exact .int _ _
      · simp only [if_neg c]; exact .int _ _
  · exact trivial

theorem star2 {a b : Expr} (h : ∀ e' p', a ≠ .Starred e' p') (h2 : ∀ e' p', b ≠ .Starred e' p') : ([a, b] : List Expr).any starred = false := by
  have : ∀ e : Expr, (∀ e' p', e ≠ .Starred e' p') → starred e = false := fun e h => by
    cases e <;> first | rfl | exact absurd rfl (h _ _)
  simp [this a h, this b h2]

/-- a call of a built-in function with any arguments -/
theorem callWith_fv {M : Model} {A : Around} {id : String} {env : Env} {as : List Expr} {pos : Pos} {first : List Value} {Q : Value → Shared → Prop} {E : Value → Shared → Prop} {s : Shared} (hs : as.any starred = false)
    (h : wpAny M A (spliced (backTo pos (starEach as env))) (fun vs s₁ => wpAny M A (call (.builtin id) (first ++ vs)) Q E s₁) E s) : wpAny M A (callWith pos (.builtin id) first (backTo pos (starEach as env)) []) Q E s :=
  Calls.callWith_builtin (noStar_any (noStar_of hs)) (evalArgs_any (noStar_of hs) h)

theorem sound_min {n : Nat} {sc : Scope} {σ : Store} {rec : Expr → P V} (hstar : ∀ e pos, rec (.Starred e pos) = .no) {as : List Expr} {p pos : Pos} (hg : isG sc "min" = true) (hns : as.any starred = false)
    (h : ∀ e ∈ as, ESound prog w mg mb n sc σ e (rec e)) : ESound prog w mg mb n sc σ (.Call (.Name "min" p) as [] pos) ((evs rec as).bind fun vs => apply2 "min" vs) := by
  intro A env s av hA I
  refine Yd.bind (sound_evs (pos := pos) hstar h hA I) (W2 := fun vs s₁ Q E => wpAny (model prog w) A (call (.builtin "min") vs) Q E s₁) (fun Q E h => ?_) fun vs s₁ us r _ => ?_
  · exact wpAny_Call_NameR (name_blt I hg rfl (callWith_fv hns h))
  · exact (call_min hA.handled r.2).mono (fun _ _ x => x) (fun _ _ _ _ r' => ⟨r.1.tr r'.1, r'.2.back r.1⟩) (Raised.back r.1)

theorem isinst_noerr (t : Str) (v : V) (en : Exn) : isinst t v ≠ .err en := by
  unfold isinst
  intro h
  split at h
  · cases h
  · cases ht : typ t (by assumption) <;> (rw [ht] at h; cases h)
  · cases ht : typ t (by assumption) <;> (rw [ht] at h; cases h)

theorem sound_isinstance {n : Nat} {sc : Scope} {σ : Store} {rec : Expr → P V} {a : Expr} {t : Str} {p p' pos : Pos} (hg : isG sc "isinstance" = true) (hns : ∀ e' p', a ≠ .Starred e' p')
    (ht : isG sc t = true) (h : ESound prog w mg mb n sc σ a (rec a)) : ESound prog w mg mb n sc σ (.Call (.Name "isinstance" p) [a, .Name t p'] [] pos) ((rec a).bind fun v => isinst t v) := by
  intro A env s av hA I
  refine Yd.bind (h A env s av hA I) (W2 := fun v s₁ Q E => wpAny (model prog w) A (eval (.Name t p') env) (fun c s₂ => wpAny (model prog w) A (call (.builtin "isinstance") [v, c]) Q E s₂) E s₁) (fun Q E h => ?_) fun v s₁ u r _ => ?_
  · refine wpAny_Call_NameR (name_blt I hg rfl (callWith_fv (star2 hns fun _ _ => nofun) ?_))
    have hst : starEach [a, .Name t p'] env = (false, eval a env) :: starEach [.Name t p'] env := by
      cases a <;> first | rfl | exact absurd rfl (hns _ _)
    exact wpAny_items_cons (wpAny_mono h (fun v s₁ h₁ => wpAny_items_cons (wpAny_mono h₁ (fun c s₂ h₂ => wpAny_items_nil h₂) fun _ _ x => x) rfl) fun _ _ x => x) hst
  · have fin : ∀ d b, Rep prog w s₁.heap av v d → typ t d = some b → Yd (fun Q E => wpAny (model prog w) A (eval (.Name t p') env) (fun c s₂ => wpAny (model prog w) A (call (.builtin "isinstance") [v, c]) Q E s₂) E s₁) (fun v s' u => Kp s s' ∧ RepV prog w s s'.heap av v u) (Raised s) (fz (.bool b)) := fun d b rd hb => by
      obtain ⟨T, hT, hc⟩ := isi_rep (A := A) (.inl rd) hb
      exact fun Q E hq => name_blt (I.keeps r.1) ht hT (hc _ _ fun tk => hq _ _ ⟨r.1.tr (Kp.tok' s₁ tk), .bool b⟩)
    cases u with
    | exc en => exact r.2.elim
    | fz d =>
      show Yd _ _ _ ((ofO (typ t d)).bind fun b => fz (.bool b))
      cases hty : typ t d with
      | none => exact trivial
      | some b => exact fin d b r.2 hty
    | own d =>
      show Yd _ _ _ ((ofO (typ t d)).bind fun b => fz (.bool b))
      cases hty : typ t d with
      | none => exact trivial
      | some b => exact fin d b (r.2.rep I.avlt rfl) hty

/-- calls by name -/
theorem sound_CallName {n : Nat} {sc : Scope} {σ : Store} {K : Ctx} (hK : KSound prog w mg mb n K) {rec : Expr → P V} (hstar : ∀ e pos, rec (.Starred e pos) = .no) {f : Str} {as : List Expr} {p pos : Pos}
    (h : ∀ e ∈ as, ESound prog w mg mb n sc σ e (rec e)) : ESound prog w mg mb n sc σ (.Call (.Name f p) as [] pos) (evCallName rec K sc f as) := by
  unfold evCallName
  split
  · rename_i hg
    split
    · rename_i e; subst e
      split
      · rename_i a t q
        split
        · rename_i ht
          by_cases hS : ∃ e' p', a = .Starred e' p'
          · obtain ⟨e', p', rfl⟩ := hS
            rw [hstar]; exact fun _ _ _ _ _ _ => trivial
          · exact sound_isinstance hg (fun e' p' x => hS ⟨e', p', x⟩) ht (h a (by simp))
        · exact fun _ _ _ _ _ _ => trivial
      · exact fun _ _ _ _ _ _ => trivial
    split
    · rename_i e; subst e
      split
      · exact fun _ _ _ _ _ _ => trivial
      · rename_i hns
        exact sound_min hstar hg (by simpa using hns) h
    split
    · rename_i hb
      split
      · rename_i a
        split
        · exact fun _ _ _ _ _ _ => trivial
        · by_cases hS : ∃ e' p', a = .Starred e' p'
          · obtain ⟨e', p', rfl⟩ := hS
            rw [hstar]; exact fun _ _ _ _ _ _ => trivial
          · obtain ⟨fv, hv, hf⟩ := blt_of_B1 hb
            refine sound_call1 (R := fun s av v u => ∀ d, dOf u = .ok d → Rep prog w s.heap av v d) hg hv hf (fun e' p' x => hS ⟨e', p', x⟩) (fun A env s av hA I => ?_) fun A env s av v u hA I r => ?_
            · exact (h a (by simp) A env s av hA I).mono (fun _ _ x => x) (fun v s' u _ r => ⟨r.1, fun d hd => r.2.rep I.avlt hd⟩) fun _ _ _ x => x
            · refine Yd.pureBind (dOf_noerr u) fun d hd => ?_
              exact sound_builtin1 hb hv hA I (r d hd)
      · exact fun _ _ _ _ _ _ => trivial
    split
    · exact fun _ _ _ _ _ _ => trivial
    · rename_i hc
      simp only [not_or, Bool.not_eq_true, Bool.not_eq_false] at hc
      exact sound_user hK hstar hg hc.1 hc.2 h
  · exact fun _ _ _ _ _ _ => trivial

end
end Mine

set_option maxRecDepth 100000
namespace Mine
open PySem

section
variable {prog : Program} {w : World} {mg mb : Str → Option Value}

theorem Rep.getD {h : Heap} {av : Addr → Prop} {ds : List (PyData × PyData)} {kvs : List (Str × Value)} {x : Str} {dv : Value} {dd : PyData} (h5 : ds.map (·.1) = kvs.map (fun kv => PyData.str kv.1))
    (h6 : ∀ (i : Nat) (kv : Str × Value) (d : PyData × PyData), kvs[i]? = some kv → ds[i]? = some d → Rep prog w h av kv.2 d.2) (hd : Rep prog w h av dv dd) : Rep prog w h av ((valueAt kvs x).getD dv) ((dGet ds x).getD dd) := by
  rcases valueAt_dGet x h5 with ⟨e1, e2⟩ | ⟨i, v, d, e1, e2, e3, e4⟩
  · rw [e1, e2]; exact hd
  · rw [e1, e2]; exact h6 i _ _ e3 e4

theorem sound_mget {A : Around} {s : Shared} {av : Addr → Prop} {o : Value} {od : PyData} {vs : List Value} {ds : List PyData} (ro : Rep prog w s.heap av o od) (hl : vs.length = ds.length)
    (r : ∀ (i : Nat) (v : Value) (d : PyData), vs[i]? = some v → ds[i]? = some d → Rep prog w s.heap av v d) : YV prog w A s av (call (.builtin "dict.get") (o :: vs)) (mGet od ds) := by
  unfold mGet
  split
  · rename_i l k
    split
    · rename_i hk
      obtain ⟨a, kvs, rfl, h2, h3, h4, h5, h6⟩ := Top1.dict (.inl ro) hk
      match vs, hl with
      | [v], _ =>
        obtain ⟨t, rfl, hk⟩ := (r 0 v _ rfl rfl).str_inv
        exact fun Q E hq => call_meetsIn F.slot_dict_get h2.typeIs F.entry_dict_get (F.args_dict_get_2 _ _) (meets_dict_get (strKind prog w) a (isStr_self k t) h4) ⟨_, h2.mapOf, hq _ _ ⟨Kp.tok' s _, Rep.getD h5 h6 .none⟩⟩
    · exact trivial
  · rename_i l k d
    split
    · rename_i hk
      obtain ⟨a, kvs, rfl, h2, h3, h4, h5, h6⟩ := Top1.dict (.inl ro) hk
      match vs, hl with
      | [v, u], _ =>
        obtain ⟨t, rfl, hk⟩ := (r 0 v _ rfl rfl).str_inv
        exact fun Q E hq => call_meetsIn F.slot_dict_get h2.typeIs F.entry_dict_get (F.args_dict_get_3 _ _ _) (meets_dict_get_default (strKind prog w) a (isStr_self k t) h4 u) ⟨_, h2.mapOf, hq _ _ ⟨Kp.tok' s _, Rep.getD h5 h6 (r 1 u d rfl rfl)⟩⟩
    · exact trivial
  · exact trivial

theorem sound_mjoin {A : Around} {s : Shared} {av : Addr → Prop} {o : Value} {od : PyData} {vs : List Value} {ds : List PyData} (ro : Rep prog w s.heap av o od) (hl : vs.length = ds.length)
    (r : ∀ (i : Nat) (v : Value) (d : PyData), vs[i]? = some v → ds[i]? = some d → Rep prog w s.heap av v d) : YV prog w A s av (call (.builtin "str.join") (o :: vs)) (mJoin od ds) := by
  unfold mJoin
  split
  · rename_i x l
    obtain ⟨t, rfl, hx⟩ := ro.str_inv
    match vs, hl with
    | [v], _ =>
      have rv := r 0 v _ rfl rfl
      cases rv with
      | @list a vl dl h1 h2 h3 h4 h5 =>
        cases hs : strs? l with
        | none => exact trivial
        | some ss =>
          show YV prog w A s av _ (if JoinOk x ss then fz (.str (Txt.join x ss)) else .no)
          split
          · rename_i hok
            obtain ⟨ts, e1, e2, e3⟩ := strs_rep h3 h5 hs
            have hz : (strValues (ss.zip ts)) = vl := by
              rw [e2]; unfold strValues
              rw [List.zip, List.map_zipWith]
            have hz2 : (ss.zip ts).map (·.1) = ss := List.map_fst_zip (by omega)
            exact fun Q E hq => SC.join (l := ss.zip ts) (by rw [hz]; exact h2.isList) hz2 hok fun t' k => hq _ _ ⟨Kp.tok' s _, .str _ _ (joinOk_length hok)⟩
          · exact trivial
  · exact trivial

/-- a method that is there -/
theorem method_there {m : Str} {od : PyData} (hm : mOk m od = true) : ∃ T id, PlainAttrs T ∧ Slot T m id ∧ typeOf (.builtin id) = pure (.type "method_descriptor") ∧
    (∀ (s : Shared) (av : Addr → Prop) (o : Value), Rep prog w s.heap av o od → s.TypeIs o T ∧ (∀ a, o = .ref a → ∃ ob, s.heap.get? a = some ob ∧ ob.dict = none)) ∧
    ∀ (A : Around) (s : Shared) (av : Addr → Prop) (o : Value) (vs : List Value) (ds : List PyData), Rep prog w s.heap av o od → vs.length = ds.length →
      (∀ (i : Nat) (v : Value) (d : PyData), vs[i]? = some v → ds[i]? = some d → Rep prog w s.heap av v d) → YV prog w A s av (call (.builtin id) (o :: vs)) (method m od ds) := by
  unfold mOk at hm
  split at hm
  · rename_i l
    simp only [Bool.and_eq_true, decide_eq_true_eq] at hm
    obtain ⟨rfl, hk⟩ := hm
    refine ⟨"dict", "dict.get", F.plainAttrs_dict, F.slot_dict_get, by kernel_rfl, fun s av o ro => ?_, fun A s av o vs ds ro hl r => sound_mget ro hl r⟩
    obtain ⟨a, kvs, rfl, h2, _⟩ := Top1.dict (.inl ro) hk
    refine ⟨h2.typeIs, fun a' ha => ?_⟩
    cases ha
    obtain ⟨ob, es, ep, e, c, _⟩ := h2
    exact ⟨ob, e, c.2.1⟩
  · simp only [decide_eq_true_eq] at hm
    subst hm
    refine ⟨"str", "str.join", F.plainAttrs_str, F.slot_str_join, by kernel_rfl, fun s av o ro => ?_, fun A s av o vs ds ro hl r => sound_mjoin ro hl r⟩
    obtain ⟨t, rfl, _⟩ := ro.str_inv
    exact ⟨rfl, fun a ha => by cases ha⟩
  · cases hm

theorem base_plain {o : Expr} (h : plainBase o = true) (name : Str) (env : Env) : attributeBase o name env (eval o env) = eval o env := by
  unfold attributeBase
  split
  · cases h
  · rfl

theorem few_args {as : List Expr} (hs : as.any starred = false) (hl : as.length ≤ 3) (pos : Pos) (env : Env) : ((backTo pos (starEach as env)).all (fun x => !x.1) && (backToKw pos (keywordEach [] env)).all (fun x => x.1.isSome)
      && decide (as.length + ([] : List Keyword).length + (if ([] : List Keyword).isEmpty then 0 else 1) < 30)) = true := by
  have h1 := noStar_any (env := env) (pos := pos) (noStar_of hs)
  have h2 : (backTo pos (starEach as env)).all (fun x => !x.1) = true := by
    rw [List.all_eq_true]
    intro x hx
    have := List.any_eq_false.mp h1 x hx
    simpa using this
  rw [h2]
  have : (backToKw pos (keywordEach [] env)).all (fun x => x.1.isSome) = true := rfl
  rw [this]
  simp
  omega

theorem sound_Method {n : Nat} {sc : Scope} {σ : Store} {rec : Expr → P V} (hstar : ∀ e pos, rec (.Starred e pos) = .no) {o : Expr} {m : Str} {as : List Expr} {ap cp : Pos} (ho : ESound prog w mg mb n sc σ o (rec o))
    (h : ∀ e ∈ as, ESound prog w mg mb n sc σ e (rec e)) : ESound prog w mg mb n sc σ (.Call (.Attribute o m ap) as [] cp)
      (if m = "items" ∨ plainBase o = false ∨ (ap.endLine == cp.line) = false ∨ as.any starred = true ∨ 3 < as.length then .no else
        (rec o).bind fun o => (dOf o).bind fun o => if mOk m o then (evs rec as).bind fun as => (dsOf as).bind fun as => method m o as else .no) := by
  intro A env s av hA I
  split
  · exact trivial
  rename_i hc
  simp only [not_or, Bool.not_eq_true, Bool.not_eq_false, Nat.not_lt] at hc
  obtain ⟨_, c2, c3, c4, c5⟩ := hc
  refine Yd.bind (ho A env s av hA I) (W2 := fun ov s₁ Q E => MethodOnS prog w A E m ov cp (backTo cp (starEach as env)) Q s₁) (fun Q E h => wpAny_Call_method_lateS (base_plain c2 m env) (few_args c4 c5 cp env) c3 h) fun ov s₁ u r _ => ?_
  refine Yd.pureBind (dOf_noerr u) fun od hd => ?_
  split
  · rename_i hm
    obtain ⟨T, id, t1, t2, t3, t4, t5⟩ := method_there (prog := prog) (w := w) hm
    have ro := r.2.rep I.avlt hd
    obtain ⟨q1, q2⟩ := t4 s₁ av ov ro
    have I1 := I.keeps r.1
    have body : Yd (fun Q E => wpAny (model prog w) A (callWith cp (.builtin id) [ov] (backTo cp (starEach as env)) []) Q E s₁) (fun v s' u => Kp s s' ∧ RepV prog w s s'.heap av v u) (Raised s) ((evs rec as).bind fun as => (dsOf as).bind fun as => method m od as) := by
      refine Yd.bind ((sound_evs (pos := cp) hstar h hA I1).mono (fun _ _ x => x) (fun _ _ _ _ r => r) (Raised.back r.1)) (W2 := fun vs s₂ Q E => wpAny (model prog w) A (call (.builtin id) (ov :: vs)) Q E s₂) (fun Q E h => callWith_fv c4 h) fun vs s₂ us r2 _ => ?_
      refine Yd.pureBind (dsOf_noerr us) fun ds eds => ?_
      obtain ⟨g1, g2⟩ := dsOf_rep r2.2 eds
      have k2 := r.1.tr r2.1
      exact (t5 A s₂ av ov vs ds (ro.keeps r2.1.heap) g1 g2).mono (fun _ _ x => x) (fun _ _ _ _ r' => ⟨k2.tr r'.1, r'.2.back k2⟩) (Raised.back k2)
    exact body.mono (fun Q E x => ⟨T, id, t1, t2, t3, q1, q2, x⟩) (fun _ _ _ _ r => r) fun _ _ _ x => x
  · exact trivial

end
end Mine

set_option maxRecDepth 100000
namespace Mine
open PySem

section
variable {prog : Program} {w : World} {mg mb : Str → Option Value}

/-- entries, one by one -/
noncomputable def KV (prog : Program) (w : World) (h : Heap) (av : Addr → Prop) : List (Str × Value) → List (PyData × PyData) → Prop
  | [], [] => True
  | kv :: r, d :: t => d.1 = .str kv.1 ∧ Rep prog w h av kv.2 d.2 ∧ KV prog w h av r t
  | _, _ => False

theorem KV.out {h : Heap} {av : Addr → Prop} : ∀ {kvs : List (Str × Value)} {ds : List (PyData × PyData)}, KV prog w h av kvs ds →
    ds.map (·.1) = kvs.map (fun kv => PyData.str kv.1) ∧ ∀ (i : Nat) (kv : Str × Value) (d : PyData × PyData), kvs[i]? = some kv → ds[i]? = some d → Rep prog w h av kv.2 d.2
  | [], [], _ => ⟨rfl, fun i kv d e => by simp at e⟩
  | kv :: r, d :: t, x => by
    obtain ⟨x1, x2, x3⟩ := x
    obtain ⟨y1, y2⟩ := KV.out x3
    refine ⟨by simp [x1, y1], fun i kv' d' e1 e2 => ?_⟩
    cases i with
    | zero => simp at e1 e2; subst e1; subst e2; exact x2
    | succ i => exact y2 i kv' d' (by simpa using e1) (by simpa using e2)
  | [], _ :: _, x => x.elim
  | _ :: _, [], x => x.elim

theorem KV.of {h : Heap} {av : Addr → Prop} : ∀ {kvs : List (Str × Value)} {ds : List (PyData × PyData)}, ds.map (·.1) = kvs.map (fun kv => PyData.str kv.1) →
    (∀ (i : Nat) (kv : Str × Value) (d : PyData × PyData), kvs[i]? = some kv → ds[i]? = some d → Rep prog w h av kv.2 d.2) → KV prog w h av kvs ds
  | [], [], _, _ => trivial
  | kv :: r, d :: t, e, x => by
    simp at e
    exact ⟨e.1, x 0 kv d rfl rfl, KV.of (by simpa using e.2) fun i kv d e1 e2 => x (i + 1) kv d (by simpa using e1) (by simpa using e2)⟩
  | [], _ :: _, e, _ => by simp at e
  | _ :: _, [], e, _ => by simp at e

theorem KV.mono {h h' : Heap} {av av' : Addr → Prop} (hk : ∀ b o, ¬ av b → h.get? b = some o → h'.get? b = some o) (ha : ∀ b o, h.get? b = some o → av' b → av b) : ∀ {kvs : List (Str × Value)} {ds : List (PyData × PyData)},
    KV prog w h av kvs ds → KV prog w h' av' kvs ds
  | [], [], _ => trivial
  | _ :: _, _ :: _, x => ⟨x.1, x.2.1.mono hk ha, x.2.2.mono hk ha⟩
  | [], _ :: _, x => x.elim
  | _ :: _, [], x => x.elim

theorem stored_cons {y : Str} {v0 : Value} {r : List (Str × Value)} {k : Str} {v : Value} (hn : (((y, v0) :: r).map (·.1)).Nodup) : stored ((y, v0) :: r) k v = if k = y then (y, v) :: r else (y, v0) :: stored r k v := by
  unfold stored
  by_cases h : k = y
  · subst h
    simp only [List.any_cons, decide_true, Bool.true_or, if_true, List.map_cons]
    congr 1
    have hn' : k ∉ r.map (·.1) := (List.nodup_cons.mp (show (k :: r.map (·.1)).Nodup from hn)).1
    have : ∀ kv ∈ r, (if kv.1 = k then (kv.1, v) else kv) = kv := fun kv hkv => by
      rw [if_neg]
      intro e
      exact hn' (e ▸ List.mem_map_of_mem hkv)
    exact (List.map_congr_left this).trans (List.map_id' r)
  · rw [if_neg h]
    have hne : ¬ y = k := fun e => h e.symm
    simp only [List.any_cons, hne, decide_false, Bool.false_or, List.map_cons, if_false, List.cons_append]
    split <;> rfl

theorem stored_keys {kvs : List (Str × Value)} {k : Str} {v : Value} (hn : (kvs.map (·.1)).Nodup) : ((stored kvs k v).map (·.1)).Nodup := by
  unfold stored
  split
  · have : (kvs.map (fun kv => if kv.1 = k then (kv.1, v) else kv)).map (·.1) = kvs.map (·.1) := by
      rw [List.map_map]
      refine List.map_congr_left fun kv _ => ?_
      show (if kv.1 = k then (kv.1, v) else kv).1 = kv.1
      split <;> rfl
    rw [this]; exact hn
  · rename_i h
    rw [List.map_append, List.nodup_append]
    refine ⟨hn, by simp, fun a ha b hb hab => ?_⟩
    simp at hb
    subst hb; subst hab
    obtain ⟨kv, hkv, rfl⟩ := List.mem_map.mp ha
    exact h (List.any_eq_true.mpr ⟨kv, hkv, by simp⟩)

theorem stored_mem {kvs : List (Str × Value)} {k : Str} {v : Value} (hx : ∀ kv ∈ kvs, kv.1.length ≤ sizeLine) (hk : k.length ≤ sizeLine) : ∀ kv ∈ stored kvs k v, kv.1.length ≤ sizeLine := by
  intro kv h
  unfold stored at h
  split at h
  · obtain ⟨kv', h', rfl⟩ := List.mem_map.mp h
    split
    · exact hx kv' h'
    · exact hx kv' h'
  · rcases List.mem_append.mp h with h | h
    · exact hx kv h
    · simp at h; subst h; exact hk

theorem KV.set {h : Heap} {av : Addr → Prop} {k : Str} {v : Value} {d : PyData} (hv : Rep prog w h av v d) : ∀ {kvs : List (Str × Value)} {ds : List (PyData × PyData)}, (kvs.map (·.1)).Nodup → KV prog w h av kvs ds → KV prog w h av (stored kvs k v) (dSet ds k d)
  | [], [], _, _ => ⟨rfl, hv, trivial⟩
  | (y, v0) :: r, (dk, d0) :: t, hn, x => by
    obtain ⟨x1, x2, x3⟩ := x
    have x1 : dk = .str y := x1
    subst x1
    rw [stored_cons hn]
    show KV prog w h av _ (if k = y then (.str y, d) :: t else (.str y, d0) :: dSet t k d)
    split
    · exact ⟨rfl, hv, x3⟩
    · exact ⟨rfl, x2, KV.set hv (List.nodup_cons.mp (show (y :: r.map (·.1)).Nodup from hn)).2 x3⟩
  | [], _ :: _, _, x => x.elim
  | _ :: _, [], _, x => x.elim

/-- pairs that were worked out -/
noncomputable def PR (prog : Program) (w : World) (h : Heap) (av : Addr → Prop) : List (Value × Value) → List (PyData × PyData) → Prop
  | [], [] => True
  | kv :: r, d :: t => Rep prog w h av kv.1 d.1 ∧ Rep prog w h av kv.2 d.2 ∧ PR prog w h av r t
  | _, _ => False

noncomputable def pairsOf (env : Env) (pos : Pos) : List (Option Expr) → List Expr → List (Sem Value × Sem Value)
  | some k :: ks, e :: es => (eval k env, (do let x ← eval e env; standAt pos; pure x)) :: pairsOf env pos ks es
  | _, _ => []

theorem pairs_shape (env : Env) (pos : Pos) : ∀ {ks : List (Option Expr)} {es : List Expr}, ks.all Option.isSome = true → ks.length = es.length →
    (evalEachOpt ks env).zip ((evalEach es env).map fun v => do let x ← v; standAt pos; pure x) = (pairsOf env pos ks es).map fun p => (some p.1, p.2)
  | [], [], _, _ => rfl
  | [], _ :: _, _, h => by simp at h
  | _ :: _, [], _, h => by simp at h
  | none :: ks, e :: es, h, _ => by simp at h
  | some k :: ks, e :: es, h, h' => by
    have ih := pairs_shape env pos (ks := ks) (es := es) (by simpa using h) (by simpa using h')
    show (some (eval k env), _) :: _ = _
    rw [show (pairsOf env pos (some k :: ks) (e :: es)).map (fun p => (some p.1, p.2)) = (some (eval k env), _) :: (pairsOf env pos ks es).map (fun p => (some p.1, p.2)) from rfl]
    congr 1

theorem pairs_ne (env : Env) (pos : Pos) : ∀ {ks : List (Option Expr)} {es : List Expr}, ks.all Option.isSome = true → ks.length = es.length → es ≠ [] → pairsOf env pos ks es ≠ []
  | [], [], _, _, h => absurd rfl h
  | [], _ :: _, _, h, _ => by simp at h
  | _ :: _, [], _, h, _ => by simp at h
  | none :: ks, e :: es, h, _, _ => by simp at h
  | some k :: ks, e :: es, _, _, _ => by simp [pairsOf]

theorem pairs_length (env : Env) (pos : Pos) : ∀ {ks : List (Option Expr)} {es : List Expr}, (pairsOf env pos ks es).length ≤ es.length
  | [], es => by simp [pairsOf]
  | none :: ks, es => by simp [pairsOf]
  | some k :: ks, [] => by simp [pairsOf]
  | some k :: ks, e :: es => by
    have := pairs_length env pos (ks := ks) (es := es)
    simp [pairsOf]; exact this

theorem PR.keeps {h h' : Heap} {av : Addr → Prop} (hk : ∀ b o, h.get? b = some o → h'.get? b = some o) : ∀ {vs : List (Value × Value)} {ds : List (PyData × PyData)}, PR prog w h av vs ds → PR prog w h' av vs ds
  | [], [], _ => trivial
  | _ :: _, _ :: _, x => ⟨x.1.keeps hk, x.2.1.keeps hk, x.2.2.keeps hk⟩
  | [], _ :: _, x => x.elim
  | _ :: _, [], x => x.elim

theorem sound_evPairs {n : Nat} {sc : Scope} {σ : Store} {rec : Expr → P V} {env : Env} {pos : Pos} {A : Around} {av : Addr → Prop} (hA : Room n A) : ∀ {ks : List (Option Expr)} {es : List Expr} {s : Shared}, (∀ k, some k ∈ ks → ESound prog w mg mb n sc σ k (rec k)) →
    (∀ e ∈ es, ESound prog w mg mb n sc σ e (rec e)) → Inv0 prog w mg mb env sc σ av s →
    Yd (fun Q E => wpAny (model prog w) A (evalPairs (pairsOf env pos ks es)) Q E s) (fun vs s' ds => Kp s s' ∧ PR prog w s'.heap av vs ds) (Raised s) (evPairs rec ks es)
  | [], [], s, _, _, _ => fun Q E hq => evalPairs_nil (hq _ _ ⟨Kp.rfl' s, trivial⟩)
  | [], _ :: _, _, _, _, _ => trivial
  | none :: _, [], _, _, _, _ => trivial
  | none :: _, _ :: _, _, _, _, _ => trivial
  | some _ :: _, [], _, _, _, _ => trivial
  | some k :: ks, e :: es, s, hk, he, I => by
    show Yd _ _ _ ((rec k).bind fun k => (dOf k).bind fun k => (rec e).bind fun v => (dOf v).bind fun v => (evPairs rec ks es).bind fun r => .ok ((k, v) :: r))
    refine Yd.bind (hk k (by simp) A env s av hA I) (W2 := fun kv s₁ Q E => wpAny (model prog w) A (eval e env) (fun vv s₂ => wpAny (model prog w) A (evalPairs (pairsOf env pos ks es)) (fun vs s₃ => Q ((kv, vv) :: vs) s₃) E s₂) E s₁) (fun Q E h => ?_) fun kv s₁ u r _ => ?_
    · refine evalPairs_cons (wpAny_mono h (fun kv s₁ h₁ => ?_) fun _ _ x => x)
      exact wpAny_bind (wpAny_mono h₁ (fun vv s₂ h₂ => wpAny_bind (wpAny_standAt (wpAny_pure h₂))) fun _ _ x => x)
    refine Yd.pureBind (dOf_noerr u) fun kd hkd => ?_
    have I1 := I.keeps r.1
    refine Yd.bind ((he e (by simp) A env s₁ av hA I1).mono (fun _ _ x => x) (fun _ _ _ _ r => r) (Raised.back r.1)) (W2 := fun vv s₂ Q E => wpAny (model prog w) A (evalPairs (pairsOf env pos ks es)) (fun vs s₃ => Q ((kv, vv) :: vs) s₃) E s₂) (fun Q E h => h) fun vv s₂ u2 r2 _ => ?_
    refine Yd.pureBind (dOf_noerr u2) fun vd hvd => ?_
    have k2 := r.1.tr r2.1
    refine Yd.bind ((sound_evPairs (pos := pos) hA (ks := ks) (es := es) (fun x hx => hk x (List.mem_cons_of_mem _ hx)) (fun x hx => he x (List.mem_cons_of_mem _ hx)) (I.keeps k2)).mono (fun _ _ x => x) (fun _ _ _ _ r => r) (Raised.back k2)) (W2 := fun vs s₃ Q E => Q ((kv, vv) :: vs) s₃) (fun Q E h => h) fun vs s₃ ds r3 _ => ?_
    exact fun Q E hq => hq _ _ ⟨k2.tr r3.1, (r.2.rep I.avlt hkd).keeps (r2.1.tr r3.1).heap, (r2.2.rep I1.avlt hvd).keeps r3.1.heap, r3.2⟩

theorem Inv0.apart {env : Env} {sc : Scope} {σ : Store} {av : Addr → Prop} {s : Shared} (I : Inv0 prog w mg mb env sc σ av s) (o : Obj) (ho : o.isFreed = false) :
    Inv0 prog w mg mb env sc σ (fun b => av b ∨ b = s.heap.objs.size) { s with heap := s.heap.push o } where
  glo := I.glo.keeps fun b o e => Heap.get?_push_of_some _ e
  kind := I.kind
  eg := I.eg
  eb := I.eb
  avlt := fun b hb => hb.elim (fun hb => let ⟨o, e⟩ := I.avlt b hb; ⟨o, Heap.get?_push_of_some _ e⟩) fun hb => ⟨o, hb ▸ push_at _ _ ho⟩
  avS := .inl I.avS
  dbg := I.dbg
  cld := I.cld
  glob := I.glob
  kinds := I.kinds
  get := fun x v hl e => by
    obtain ⟨u, h1, h2⟩ := I.get x v hl e
    refine ⟨u, h1.keeps fun b o e => Heap.get?_push_of_some _ e, ?_⟩
    have hk : ∀ b o', s.heap.get? b = some o' → (s.heap.push o).get? b = some o' := fun b o' e => Heap.get?_push_of_some _ e
    have ha : ∀ b o, s.heap.get? b = some o → (av b ∨ b = s.heap.objs.size) → av b := fun b o e hb => hb.elim id fun hb => by rw [hb, fresh_none] at e; cases e
    cases v with
    | fz d => exact (show Rep prog w s.heap av u d from h2).mono (fun b o _ e => hk b o e) ha
    | own d => obtain ⟨a, e, r⟩ := h2; exact ⟨a, e, r.mono (fun b o _ e => hk b o e) ha fun o e => hk _ o e⟩
    | exc en => exact h2

theorem dispSet_rep {h : Heap} {av : Addr → Prop} : ∀ {vs : List (Value × Value)} {ds : List (PyData × PyData)} {acc : List (Str × Value)} {dacc dres : List (PyData × PyData)}, PR prog w h av vs ds → (acc.map (·.1)).Nodup → KV prog w h av acc dacc →
    (∀ kv ∈ acc, kv.1.length ≤ sizeLine) → dispSet dacc ds = some dres → ∃ kvs, Carries (strKind prog w) vs kvs ∧ KV prog w h av (merged acc kvs) dres ∧ ∀ kv ∈ merged acc kvs, kv.1.length ≤ sizeLine
  | [], [], acc, dacc, dres, _, _, hk, hz, e => by
    have e' : some dacc = some dres := by simpa [dispSet] using e
    cases e'
    exact ⟨[], trivial, hk, hz⟩
  | (key, v) :: vs, (dk, d) :: ds, acc, dacc, dres, x, hn, hk, hz, e => by
    obtain ⟨x1, x2, x3⟩ := x
    cases dk with
    | str k =>
      obtain ⟨t, e1, hkl⟩ := x1.str_inv
      have e1 : key = .str k t := e1
      subst e1
      have e' : dispSet (dSet dacc k d) ds = some dres := by simpa [dispSet] using e
      obtain ⟨kvs, y1, y2, y3⟩ := dispSet_rep x3 (stored_keys (k := k) (v := v) hn) (KV.set x2 hn hk) (stored_mem hz hkl) e'
      exact ⟨(k, v) :: kvs, ⟨isStr_self k t, rfl, y1⟩, y2, y3⟩
    | _ => simp [dispSet] at e
  | [], _ :: _, _, _, _, x, _, _, _, _ => x.elim
  | _ :: _, [], _, _, _, x, _, _, _, _ => x.elim

end
end Mine

set_option maxRecDepth 100000
namespace Mine
open PySem

section
variable {prog : Program} {w : World} {mg mb : Str → Option Value}

theorem eqBool_none {A : Around} {E : Value → Shared → Prop} {s : Shared} {Q : Bool → Shared → Prop} (h : Q true s) : wpAny (model prog w) A (PySem.eqBool .none .none) Q E s := by
  unfold PySem.eqBool
  rw [if_pos (show (Value.none == Value.none) = true from rfl)]
  exact wpAny_bind (wpAny_rule (wpAny_pure h))

noncomputable def isNone : Value → Bool
  | .none => true
  | _ => false
theorem isNone_inv {v : Value} (h : isNone v = true) : v = .none := by cases v <;> first | rfl | cases h

noncomputable def noneKind (prog : Program) (w : World) : KeyKind prog w Unit where
  is := fun _ v => isNone v
  hash := fun _ => W.hashW w.params .none
  inj := fun _ _ _ _ _ => rfl
  byValue := fun _ v h => by rw [isNone_inv h]; rfl
  pyHash := fun {A E s k v Q} hv h => by
    rw [isNone_inv hv]
    exact W.pyHash_slot (T := "NoneType") rfl F.slot_NoneType_hash F.entry_NoneType_hash (F.args_NoneType_hash_1 _) (by rfl) (.inl rfl) (wpAny_bind (wpAny_pure (wpAny_bind (wpAny_mkInt (wpAny_pure ⟨_, _, rfl, h⟩)))))
  eqBool := fun {A E s a b u v Q} hu hv h => by
    rw [isNone_inv hu, isNone_inv hv]
    exact eqBool_none h
  «strs» := fun _ x t v h => by cases h

/-- where nothing but the new object changed -/
theorem Kp.but {s s₁ : Shared} {o : Obj} {h' : Heap} {tk : Nat} (k : Kp { s with heap := s.heap.push o } s₁) (hs : Heap.SameBut s.heap.objs.size s₁.heap h') : Kp s { s₁ with heap := h', toks := tk } := by
  obtain ⟨hh, tt, rfl, kk⟩ := k
  refine ⟨h', tk, rfl, fun b o' e => ?_⟩
  have hb : b ≠ s.heap.objs.size := fun x => by rw [x, fresh_none] at e; cases e
  rw [hs.2 b hb]
  exact kk b o' (Heap.get?_push_of_some _ e)

theorem sameBut_av {h h' : Heap} {D : Addr} {av : Addr → Prop} (hs : Heap.SameBut D h h') : ∀ b o, ¬ (av b ∨ b = D) → h.get? b = some o → h'.get? b = some o := fun b o hb e => by
  rw [hs.2 b (fun x => hb (.inr x))]; exact e

theorem one_pair {K : Type} [DecidableEq K] {knd : KeyKind prog w K} {h : Heap} {a : Addr} {k : K} {v : Value} (x : h.DictOf knd a [(k, v)]) : ∃ o hv key ep, h.get? a = some o ∧ o.ExactDict ∧ o.data = .dict #[⟨hv, key, v⟩] ep ∧ knd.is k key = true := by
  obtain ⟨o, es, ep, e, c, hd, _, hp, _⟩ := x
  obtain ⟨l⟩ := es
  have hp : Pairs knd l [(k, v)] := hp
  cases hp with
  | @cons en _ _ _ h1 h2 h3 =>
    cases h3
    refine ⟨o, en.hash, en.key, ep, e, c, ?_, h1⟩
    have h2 : en.val = v := h2
    rw [hd, ← h2]

theorem odd_rep {s s₁ : Shared} {h' : Heap} {tk : Nat} {av : Addr → Prop} {hv : Int} {key v : Value} {k d : PyData} {o : Obj} {ep : Nat} (G : Glo prog w mg mb s.heap) (ha : ∀ b, av b → ∃ o, s.heap.get? b = some o) (k0 : Kp { s with heap := s.heap.push { cls := .type "dict", data := .dict #[] } } s₁)
    (hs : Heap.SameBut s.heap.objs.size s₁.heap h') (h1 : h'.get? s.heap.objs.size = some o) (h2 : o.ExactDict) (h3 : o.data = .dict #[⟨hv, key, v⟩] ep) (hn : ∀ x, k ≠ .str x)
    (rk : Rep prog w h' (fun b => av b ∨ b = s.heap.objs.size) key k) (rv : Rep prog w s₁.heap (fun b => av b ∨ b = s.heap.objs.size) v d) :
    Kp s { s₁ with heap := h', toks := tk } ∧ RepV prog w s h' av (.ref s.heap.objs.size) (.fz (.dict [(k, d)])) := by
  refine ⟨Kp.but k0 hs, Rep.dict1 (fun x => ?_) h1 h2 h3 (fresh_mods G) hn ?_ ?_⟩
  · obtain ⟨o, e⟩ := ha _ x; rw [fresh_none] at e; cases e
  · exact rk.mono (fun _ _ _ e => e) fun _ _ _ x => .inl x
  · exact rv.mono (sameBut_av hs) fun _ _ _ x => .inl x

theorem new_dictOf {K : Type} [DecidableEq K] {knd : KeyKind prog w K} (h : Heap) : (h.push { cls := .type "dict", data := .dict #[] }).DictOf knd h.objs.size [] :=
  ⟨_, #[], 0, push_at _ _ rfl, ⟨rfl, rfl, rfl⟩, rfl, fun _ he => by simp at he, .nil, List.nodup_nil⟩

theorem PR.one {h : Heap} {av : Addr → Prop} {vs : List (Value × Value)} {k d : PyData} (x : PR prog w h av vs [(k, d)]) : ∃ kv vv, vs = [(kv, vv)] ∧ Rep prog w h av kv k ∧ Rep prog w h av vv d := by
  match vs, x with
  | [(kv, vv)], x => exact ⟨kv, vv, rfl, x.1, x.2.1⟩
  | [], x => exact x.elim
  | _ :: _ :: _, x => exact x.2.2.elim

theorem PR.length {h : Heap} {av : Addr → Prop} : ∀ {vs : List (Value × Value)} {ds : List (PyData × PyData)}, PR prog w h av vs ds → vs.length = ds.length
  | [], [], _ => rfl
  | _ :: _, _ :: _, x => by simp [x.2.2.length]
  | [], _ :: _, x => x.elim
  | _ :: _, [], x => x.elim

theorem P.bind_ok {α β : Type} {x : P α} {f : α → P β} {b : β} (h : x.bind f = .ok b) : ∃ a, x = .ok a ∧ f a = .ok b := by
  cases x with
  | ok a => exact ⟨a, rfl, h⟩
  | _ => cases h

theorem evPairs_length {rec : Expr → P V} : ∀ {ks : List (Option Expr)} {es : List Expr} {ds : List (PyData × PyData)}, evPairs rec ks es = .ok ds → ds.length = es.length
  | [], [], ds, h => by cases h; rfl
  | [], _ :: _, _, h => by cases h
  | none :: _, [], _, h => by cases h
  | none :: _, _ :: _, _, h => by cases h
  | some _ :: _, [], _, h => by cases h
  | some k :: ks, e :: es, ds, h => by
    obtain ⟨_, _, h⟩ := P.bind_ok h
    obtain ⟨_, _, h⟩ := P.bind_ok h
    obtain ⟨_, _, h⟩ := P.bind_ok h
    obtain ⟨_, _, h⟩ := P.bind_ok h
    obtain ⟨r, hr, h⟩ := P.bind_ok h
    cases h
    simp [evPairs_length hr]

theorem wpAny_Dict_any {A : Around} {E : Value → Shared → Prop} {s : Shared} {env : Env} {keys : List (Option Expr)} {values : List Expr} {pos : Pos} {pairs : List (Sem Value × Sem Value)} {Q : Value → Shared → Prop}
    (hshape : (evalEachOpt keys env).zip ((evalEach values env).map fun v => do let x ← v; standAt pos; pure x) = pairs.map fun p => (some p.1, p.2)) (h0 : pairs ≠ []) (hlen : pairs.length ≤ 15)
    (h : wpAny (model prog w) A (evalPairs pairs) (fun vs s₁ => wpAny (model prog w) A (forIn vs PUnit.unit fun (x : Value × Value) (_ : PUnit) => (do dictSet s.heap.objs.size x.1 x.2; pure (ForInStep.yield PUnit.unit) : Sem (ForInStep PUnit))) (fun _ s₂ => Q (.ref s.heap.objs.size) s₂) E s₁) E
      { s with heap := s.heap.push { cls := .type "dict", data := .dict #[] } }) :
    wpAny (model prog w) A (eval (.Dict keys values pos) env) Q E s := by
  rw [arm_eval_Dict, hshape, dictDisplay_pairs pairs h0 (by omega)]
  refine wpAny_bind (wpAny_standAt (wpAny_bind ?_))
  unfold subDict
  refine wpAny_bind (wpAny_alloc ?_)
  refine wpAny_bind (wpAny_holding ?_)
  rw [if_pos hlen]
  refine wpAny_bind (wpAny_mono h (fun vs s₁ h₁ => ?_) fun _ _ e => e)
  refine wpAny_holding ?_
  exact wpAny_bind (wpAny_mono h₁ (fun _ s₂ h₂ => wpAny_pure (wpAny_pure (wpAny_pure h₂))) fun _ _ e => e)

theorem sound_Dict {n : Nat} {sc : Scope} {σ : Store} {rec : Expr → P V} {ks : List (Option Expr)} {es : List Expr} {pos : Pos} (hk : ∀ k, some k ∈ ks → ESound prog w mg mb n sc σ k (rec k)) (he : ∀ e ∈ es, ESound prog w mg mb n sc σ e (rec e)) :
    ESound prog w mg mb n sc σ (.Dict ks es pos) (if ks.all Option.isSome = true ∧ ks.length = es.length ∧ es.length ≤ 15 then (evPairs rec ks es).bind fun l => evDisp l else .no) := by
  intro A env s av hA I
  by_cases hc : ks.all Option.isSome = true ∧ ks.length = es.length ∧ es.length ≤ 15
  rotate_left
  · rw [if_neg hc]; exact trivial
  rw [if_pos hc]
  obtain ⟨c1, c2, c3⟩ := hc
  by_cases hne : es = []
  · subst hne
    have : ks = [] := List.length_eq_zero_iff.mp c2
    subst this
    show Yd _ _ _ (evDisp [])
    show Yd _ _ _ (P.ok (V.own (.dict [])))
    intro Q E hq
    refine wpAny_Dict_empty (hq _ _ ?_)
    exact own_dict (kvs := []) (Kp.rfl' s) (Kp.push' s _) (fresh_none _) (fresh_mods I.glo) (new_dictOf s.heap) ⟨by simp, by simp⟩ rfl fun i kv d e => by simp at e
  have shape := pairs_shape env pos c1 c2
  have hpn := pairs_ne env pos c1 c2 hne
  have hpl : (pairsOf env pos ks es).length ≤ 15 := Nat.le_trans (pairs_length env pos) c3
  have I0 := I.apart { cls := .type "dict", data := .dict #[] } rfl
  have k0 : Kp s { s with heap := s.heap.push { cls := .type "dict", data := .dict #[] } } := Kp.push' s _
  have hp := sound_evPairs (pos := pos) hA hk he I0
  cases hev : evPairs rec ks es with
  | no => exact trivial
  | err en =>
    rw [hev] at hp
    exact fun Q E hx => wpAny_Dict_pairs (knd := strKind prog w) shape hpn hpl (hp _ E fun x s' r => hx _ _ (Raised.back k0 _ _ _ r))
  | ok ds =>
    rw [hev] at hp
    show Yd _ _ _ (evDisp ds)
    unfold evDisp
    split
    · rename_i dres hds
      intro Q E hq
      refine wpAny_Dict_pairs (knd := strKind prog w) shape hpn hpl (hp _ E fun vs s₁ r => ?_)
      obtain ⟨kvs, q1, q2, q3⟩ := dispSet_rep r.2 (by simp) (show KV prog w s₁.heap _ [] [] from trivial) (by simp) hds
      refine ⟨kvs, q1, (new_dictOf s.heap).keep r.1.heap, fun h' hd hs => hq _ _ ⟨Kp.but r.1 hs, ?_⟩⟩
      have hkv := (q2.mono (h' := h') (av' := fun b => av b ∨ b = s.heap.objs.size) (sameBut_av hs) fun _ _ _ x => x).out
      have hlen : (merged [] kvs).length ≤ sizeLine := by
        have h1 := merged_length_le ([] : List (Str × Value)) kvs
        have h2 := q1.length
        have h3 := evPairs_length hev
        have h4 := r.2.length
        have h5 := sizeLine_eq
        simp at h1
        omega
      exact ⟨s.heap.objs.size, rfl, fresh_none _, merged [] kvs, hd, ⟨hlen, q3⟩, fresh_mods I.glo, hkv.1, hkv.2⟩
    · split
      · rename_i k d _
        split
        · rename_i hodd
          unfold oddKey at hodd
          split at hodd
          · rename_i i _
            intro Q E hq
            refine wpAny_Dict_pairs (knd := intKind prog w) shape hpn hpl (hp _ E fun vs s₁ r => ?_)
            obtain ⟨kv, vv, rfl, r1, r2⟩ := r.2.one
            obtain ⟨t, rfl⟩ := r1.int_inv
            refine ⟨[(i, vv)], ⟨by simp [intKind, Value.isInt], rfl, trivial⟩, (new_dictOf s.heap).keep r.1.heap, fun h' hd hs => ?_⟩
            obtain ⟨o, hv, key, ep, e1, e2, e3, e4⟩ := one_pair (show h'.DictOf (intKind prog w) s.heap.objs.size [(i, vv)] from hd)
            obtain ⟨t', rfl⟩ := Value.isInt_shape e4
            exact hq _ _ (odd_rep I.glo I.avlt r.1 hs e1 e2 e3 (fun x => nofun) (.int i t') r2)
          · intro Q E hq
            refine wpAny_Dict_pairs (knd := noneKind prog w) shape hpn hpl (hp _ E fun vs s₁ r => ?_)
            obtain ⟨kv, vv, rfl, r1, r2⟩ := r.2.one
            cases r1
            refine ⟨[((), vv)], ⟨rfl, rfl, trivial⟩, (new_dictOf s.heap).keep r.1.heap, fun h' hd hs => ?_⟩
            obtain ⟨o, hv, key, ep, e1, e2, e3, e4⟩ := one_pair (show h'.DictOf (noneKind prog w) s.heap.objs.size [((), vv)] from hd)
            cases isNone_inv e4
            exact hq _ _ (odd_rep I.glo I.avlt r.1 hs e1 e2 e3 (fun x => nofun) .none r2)
          · rename_i x _
            intro Q E hq
            refine wpAny_Dict_any shape hpn hpl (hp _ E fun vs s₁ r => ?_)
            obtain ⟨kv, vv, rfl, r1, r2⟩ := r.2.one
            have r1' := r1
            cases r1' with
            | @tuple ak kvs ds h1 h2 h3 h4 h5 =>
              match kvs, h3 with
              | [v0], _ =>
                obtain ⟨t, rfl, _⟩ := (h5 0 v0 _ rfl rfl).str_inv
                obtain ⟨nn, e0⟩ := h2
                have hkey : (tupleKind (strKind prog w)).is s₁.heap [x] ak := ⟨_, _, _, e0, rfl, rfl, .cons (isStr_self x t) .nil⟩
                have hm : s₁.heap.DictOfH (tupleKind (strKind prog w)) s.heap.objs.size [] := by
                  obtain ⟨o, es, ep, f1, f2⟩ := Heap.DictOfH.new (knd := tupleKind (strKind prog w)) s.heap
                  refine ⟨o, es, ep, r.1.heap _ _ f1, f2.1, f2.2.1, f2.2.2.1, fun _ hx => by simp at hx, List.nodup_nil⟩
                rw [List.forIn_cons]
                refine wpAny_bind (wpAny_bind (wpAny_dictSet_heap (by have := hA.units; show A.units < cLine; omega) hkey hm (fun h' hd hs => wpAny_pure ?_) (by simp)))
                show wpAny _ _ (forIn [] PUnit.unit _) _ _ _
                rw [List.forIn_nil]
                refine wpAny_pure ?_
                obtain ⟨o, es, ep, f1, f2, f3, f4, _⟩ := hd
                have f4 : es.toList = [⟨_, .ref ak, vv⟩] := f4
                obtain ⟨l⟩ := es
                cases f4
                exact hq _ _ (odd_rep I.glo I.avlt r.1 hs f1 f2 f3 (fun x => nofun) (r1.mono (sameBut_av hs) fun _ _ _ x => x) r2)
          · cases hodd
        · exact trivial
      · exact trivial

end
end Mine

set_option maxRecDepth 100000
namespace Mine
open PySem

section
variable {prog : Program} {w : World} {mg mb : Str → Option Value}

/-- what is walked over -/
structure Src (prog : Program) (w : World) (A : Around) (h0 : Heap) (av0 : Addr → Prop) (target : Expr) (it : Value) (wr : Addr → Prop) (St : Nat → Heap → Prop) (ds : List PyData) : Prop where
  live : ∀ i h, St i h → ∀ b, wr b → ∃ o, h.get? b = some o
  frame : ∀ i h h', St i h → (∀ b o, wr b → h.get? b = some o → h'.get? b = some o) → (∀ b o, h0.get? b = some o → ¬ av0 b → h'.get? b = some o) → St i h'
  item : ∀ i d (s : Shared) (E : Value → Shared → Prop) (Q : Value → Shared → Prop), ds[i]? = some d → St i s.heap →
    (∀ v h' tk, (∀ b o, ¬ wr b → s.heap.get? b = some o → h'.get? b = some o) → St (i + 1) h' →
      (∀ avn : Addr → Prop, (∀ b, avn b → ∃ o, s.heap.get? b = some o) → (∀ b o, h0.get? b = some o → avn b → av0 b) → Rep prog w h' avn v d) → Q v { s with heap := h', toks := tk }) →
    wpAny (model prog w) A (pyNext it) (fun r s₁ => match r with | none => False | some v => wpAny (model prog w) A (letOwnedTupleGo target it v) (fun _ s₂ => Q v s₂) E s₁) E s
  done : ∀ (s : Shared) (E : Value → Shared → Prop) (Q : Shared → Prop), St ds.length s.heap → (∀ h' tk, (∀ b o, ¬ wr b → s.heap.get? b = some o → h'.get? b = some o) → Q { s with heap := h', toks := tk }) →
    wpAny (model prog w) A (pyNext it) (fun r s₁ => match r with | none => Q s₁ | some _ => False) E s
  self : ∀ i (s : Shared) (Q : Value → Shared → Prop) (E : Value → Shared → Prop), St i s.heap → Q it s → wpAny (model prog w) A (pyIter it) Q E s

noncomputable def ownsTup (n : String) : Bool := ["enumerate", "zip", "dict_itemiterator", "dict_reverseitemiterator", "odict_iterator", "itertools.zip_longest", "itertools.pairwise"].contains n

theorem go_plain {M : Model} {A : Around} {E : Value → Shared → Prop} {s : Shared} {target : Expr} {I : Addr} {v : Value} {o : Obj} {n : String} {Q : Unit → Shared → Prop} (hI : s.heap.get? I = some o) (hc : o.cls = .type n) (hn : ownsTup n = false) (h : Q () s) :
    wpAny M A (letOwnedTupleGo target (.ref I) v) Q E s := by
  have key : wpAny M A (match (Value.ref I, v) with
    | (.ref r, .ref a) => (do
      let o ← load r
      match o.cls, o.data with
      | .type n, .fields vs => if ["enumerate", "zip", "dict_itemiterator", "dict_reverseitemiterator", "odict_iterator", "itertools.zip_longest", "itertools.pairwise"].contains n && vs[0]? == some (rawInt a) then do
          rule "for.unpacks-the-owned-tuple"; updateField r 0 .none else pure ()
      | _, _ => pure () : Sem Unit)
    | _ => pure ()) Q E s := by
    cases v with
    | ref a =>
      refine wpAny_bind (wpAny_load hI ?_)
      rw [hc]
      cases o.data <;> first | exact wpAny_pure h | skip
      have : ["enumerate", "zip", "dict_itemiterator", "dict_reverseitemiterator", "odict_iterator", "itertools.zip_longest", "itertools.pairwise"].contains n = false := hn
      simp only [this, Bool.false_and, Bool.false_eq_true, if_false]
      exact wpAny_pure h
    | _ => exact wpAny_pure h
  unfold letOwnedTupleGo
  split
  · exact key
  · exact key
  · exact wpAny_pure h

theorem Src.ofWalks {A : Around} {h0 : Heap} {av0 : Addr → Prop} {target : Expr} {I : Addr} {fp : List Addr} {ds : List PyData} {n : Nat} {P : Nat → Value → Prop} {St0 : Nat → Heap → Prop} (W : Walks prog w A I fp [I] n P St0) (hn : n = ds.length)
    (hfp : ∀ b ∈ fp, b = I ∨ ((∃ o, h0.get? b = some o) ∧ ¬ av0 b)) (hcls : ∀ i h, St0 i h → ∃ o T, h.get? I = some o ∧ o.cls = .type T ∧ ownsTup T = false)
    (hI0 : h0.get? I = none) (hP : ∀ i v d, P i v → ds[i]? = some d → Rep prog w h0 av0 v d) :
    Src prog w A h0 av0 target (.ref I) (fun b => b = I) (fun i h => St0 i h ∧ ∀ b o, h0.get? b = some o → ¬ av0 b → h.get? b = some o) ds where
  live := fun i h st b hb => by
    have hb : b = I := hb
    obtain ⟨o, T, e, _⟩ := hcls i h st.1
    exact ⟨o, hb ▸ e⟩
  frame := fun i h h' st hk hk0 => ⟨W.frame i h h' st.1 fun b hb o e => by
    rcases hfp b hb with rfl | ⟨⟨o', e'⟩, hav⟩
    · exact hk b o rfl e
    · have := st.2 b o' e' hav
      rw [e] at this; cases this
      exact hk0 b o e' hav, hk0⟩
  item := fun i d s E Q hd st hQ => by
    have hi : i < n := by
      rw [hn]
      rcases Nat.lt_or_ge i ds.length with h | h
      · exact h
      · rw [List.getElem?_eq_none h] at hd; cases hd
    refine W.item i s _ E hi st.1 fun v h' tk hPv st' hk => ?_
    obtain ⟨o, T, e1, e2, e3⟩ := hcls _ _ st'
    have hk' : ∀ b o, ¬ (b = I) → s.heap.get? b = some o → h'.get? b = some o := fun b o hb e => hk b o (by simpa using hb) e
    have hkk : ∀ b o, h0.get? b = some o → ¬ av0 b → h'.get? b = some o := fun b o e hav => hk' b o (fun x => by rw [x, hI0] at e; cases e) (st.2 b o e hav)
    refine go_plain (s := { s with heap := h', toks := tk }) e1 e2 e3 (hQ v h' tk hk' ⟨st', hkk⟩ fun avn hlive hsub => ?_)
    exact (hP i v d hPv hd).mono (fun b o hb e => hkk b o e hb) hsub
  done := fun s E Q st hQ => by
    have st' : St0 n s.heap := hn ▸ st.1
    exact W.done s _ E st' fun h' tk hk => hQ h' tk fun b o hb e => hk b o (by simpa using hb) e
  self := fun i s Q E st hQ => W.self i s Q E st.1 hQ


/-! raw dicts -/
noncomputable def RawD (h : Heap) (d : Addr) (es : Array DictEntry) (ep : Nat) : Prop := ∃ o, h.get? d = some o ∧ o.ExactDict ∧ o.data = .dict es ep

theorem pyIter_raw {A : Around} {E : Value → Shared → Prop} {s : Shared} {d : Addr} {es : Array DictEntry} {ep : Nat} {Q : Value → Shared → Prop} (hd : (d == sysModules) = false) (hm : RawD s.heap d es ep)
    (hQ : Q (.ref s.heap.objs.size) { s with heap := s.heap.push { cls := .type "dict_keyiterator", data := .fields #[.ref d, .int 0 0, .int es.size 0, .int ep 0] } }) :
    wpAny (model prog w) A (pyIter (.ref d)) Q E s := by
  obtain ⟨o, ho, hc, hdat⟩ := id hm
  have hT : s.TypeIs (.ref d) "dict" := ⟨o, ho, hc.1⟩
  refine wpAny_pyIter_slot hT F.slot_dict_iter (wpAny_call_entry F.slot_dict_iter hT F.entry_dict_iter ?_ (F.args_dict_iter_1 _))
  unfold Builtin.«dict.__iter__»
  refine wpAny_bind ?_
  unfold Builtin.Dict.dictSlotNone
  refine wpAny_bind (wpAny_notOrdered_dict hT ?_)
  show wpAny _ _ (pure (Value.ref d)) _ _ s
  refine wpAny_pure ?_
  show wpAny _ _ (Builtin.Dict.showsAll d >>= _) _ _ s
  unfold Builtin.Dict.showsAll
  rw [if_neg (by rw [hd]; exact Bool.false_ne_true)]
  refine wpAny_bind (wpAny_pure ?_)
  refine wpAny_bind (wpAny_dictEntries ho hdat ?_)
  refine wpAny_bind (wpAny_dictEpoch ho hdat ?_)
  refine wpAny_bind (wpAny_newObj_type (wpAny_pure ⟨_, rfl, "dict_keyiterator", _, ⟨_, Heap.get?_push_size _ rfl, rfl⟩, F.slot_dict_keyiterator_next.lookup, ?_⟩))
  simpa [rawInt] using hQ

theorem pyNext_raw_item {A : Around} {E : Value → Shared → Prop} {s : Shared} {it d : Addr} {i ep : Nat} {es : Array DictEntry} {Q : Option Value → Shared → Prop} (hit : s.heap.IsKeyIter it d i es.size ep)
    (hm : RawD s.heap d es ep) (hlt' : i < es.size)
    (hQ : ∀ h', h'.IsKeyIter it d (i + 1) es.size ep → Heap.SameBut it s.heap h' → Q (some es[i].key) { s with heap := h' }) :
    wpAny (model prog w) A (pyNext (.ref it)) Q E s := by
  obtain ⟨o, ho, hc, hd⟩ := id hit
  obtain ⟨od, hod, hcd, hdd⟩ := id hm
  unfold pyNext
  refine wpAny_bind (wpAny_attempt (wpAny_callSpecial?_slot (name := Str.ofString "__next__") hit.typeIs F.slot_dict_keyiterator_next
    (wpAny_call_entry F.slot_dict_keyiterator_next hit.typeIs F.entry_dict_keyiterator_next ?_ (F.args_dict_keyiterator_next_1 _))))
  refine wpAny_bind (wpAny_pure ?_)
  refine wpAny_bind ?_
  refine wpAny_bind ?_
  first | refine wpAny_bind (wpAny_typeNameOfWhole_keyiter hit.typeIs (wpAny_pure ?_)) | refine wpAny_bind (wpAny_typeNameOf_keyiter hit.typeIs (wpAny_pure ?_))
  refine wpAny_bind (wpAny_fieldsOf ho hd ?_)
  have hown : Builtin.Dict_items.ownsTuple "dict_keyiterator" = false := by decide
  simp only [hown, Bool.false_eq_true, if_false]
  show wpAny _ _ (if (Value.ref d == Value.none) = true then _ else _) _ _ s
  rw [if_neg (show ¬ ((Value.ref d == Value.none) = true) from Bool.false_ne_true)]
  refine wpAny_bind (wpAny_pure ?_)
  refine wpAny_bind (wpAny_dictEntries hod hdd ?_)
  rw [if_neg (by simp)]
  refine wpAny_bind (wpAny_pure ?_)
  refine wpAny_bind (wpAny_dictEpoch hod hdd ?_)
  rw [if_neg (by simp)]
  refine wpAny_pure ?_
  simp only [show ¬ ((i : Int) < 0) from by omega, if_false, Int.toNat_natCast, Array.getElem?_eq_getElem hlt']
  refine wpAny_bind ?_
  first | refine wpAny_bind (wpAny_typeNameOfWhole_keyiter hit.typeIs (wpAny_pure ?_)) | refine wpAny_bind (wpAny_typeNameOf_keyiter hit.typeIs (wpAny_pure ?_))
  refine wpAny_bind (wpAny_isOneOf_keyiter hit.typeIs ?_)
  show wpAny _ _ (setField (.ref it) 1 (rawInt ((i : Int) + 1)) >>= _) _ _ s
  refine wpAny_bind (wpAny_setField ho hd (by simp) ?_)
  have hit' : (s.heap.update it (Obj.mapFields (·.setIfInBounds 1 (rawInt ((i : Int) + 1))))).IsKeyIter it d (i + 1) es.size ep :=
    ⟨_, Heap.get?_update_self _ ho (Obj.isFreed_of_fields (Obj.data_mapFields hd _)), (Obj.cls_mapFields ..).trans hc, by rw [Obj.data_mapFields hd]; simp [rawInt]⟩
  refine wpAny_bind (wpAny_holding ?_)
  refine wpAny_bind (wpAny_isOneOf_keyiter (s := { s with heap := s.heap.update it (Obj.mapFields (·.setIfInBounds 1 (rawInt ((i : Int) + 1)))) }) hit'.typeIs ?_)
  show wpAny _ _ (pure es[i].key) _ _ _
  exact wpAny_pure (wpAny_pure ⟨_, rfl, wpAny_pure (hQ _ hit' (Heap.SameBut.update ..))⟩)

theorem pyNext_raw_end {A : Around} {E : Value → Shared → Prop} {s : Shared} {it d : Addr} {ep : Nat} {es : Array DictEntry} {Q : Option Value → Shared → Prop} (hh : A.handled = none) (hit : s.heap.IsKeyIter it d es.size es.size ep)
    (hm : RawD s.heap d es ep) (hQ : ∀ h', Heap.ExtBut it s.heap h' → Q none { s with heap := h' }) : wpAny (model prog w) A (pyNext (.ref it)) Q E s := by
  obtain ⟨o, ho, hc, hd⟩ := id hit
  obtain ⟨od, hod, hcd, hdd⟩ := id hm
  unfold pyNext
  refine wpAny_bind (wpAny_attempt (wpAny_callSpecial?_slot (name := Str.ofString "__next__") hit.typeIs F.slot_dict_keyiterator_next
    (wpAny_call_entry F.slot_dict_keyiterator_next hit.typeIs F.entry_dict_keyiterator_next ?_ (F.args_dict_keyiterator_next_1 _))))
  refine wpAny_bind (wpAny_pure ?_)
  refine wpAny_bind ?_
  refine wpAny_bind ?_
  first | refine wpAny_bind (wpAny_typeNameOfWhole_keyiter hit.typeIs (wpAny_pure ?_)) | refine wpAny_bind (wpAny_typeNameOf_keyiter hit.typeIs (wpAny_pure ?_))
  refine wpAny_bind (wpAny_fieldsOf ho hd ?_)
  have hown : Builtin.Dict_items.ownsTuple "dict_keyiterator" = false := by decide
  simp only [hown, Bool.false_eq_true, if_false]
  show wpAny _ _ (if (Value.ref d == Value.none) = true then _ else _) _ _ s
  rw [if_neg (show ¬ ((Value.ref d == Value.none) = true) from Bool.false_ne_true)]
  refine wpAny_bind (wpAny_pure ?_)
  refine wpAny_bind (wpAny_dictEntries hod hdd ?_)
  rw [if_neg (by simp)]
  refine wpAny_bind (wpAny_pure ?_)
  refine wpAny_bind (wpAny_dictEpoch hod hdd ?_)
  rw [if_neg (by simp)]
  refine wpAny_pure ?_
  simp only [show ¬ ((es.size : Int) < 0) from by omega, if_false, Int.toNat_natCast, Array.getElem?_eq_none (Nat.le_refl es.size)]
  refine wpAny_bind ?_
  first | refine wpAny_bind (wpAny_typeNameOfWhole_keyiter hit.typeIs (wpAny_pure ?_)) | refine wpAny_bind (wpAny_typeNameOf_keyiter hit.typeIs (wpAny_pure ?_))
  show wpAny _ _ (setField (.ref it) 0 .none >>= _) _ _ s
  refine wpAny_bind (wpAny_setField ho hd (by simp) ?_)
  show wpAny _ _ (newExc (.type "StopIteration") [] >>= _) _ _ _
  refine wpAny_bind ?_
  simp only [newExc, newTuple]
  refine wpAny_bind (wpAny_newObj_type ?_ (by size_fits))
  refine wpAny_bind (m := firstArgMember _ _) (wpAny_of_eq (a := Value.none) (by first | rfl | (simp only [firstArgMember]; rfl)) ?_)
  refine wpAny_newObj_type ?_ (by size_fits)
  simp only [raiseNew]
  refine wpAny_bind (wpAny_handled ?_)
  rw [show A.in1.handled = none from hh]
  refine wpAny_bind (wpAny_pure (wpAny_throw ?_))
  refine wpAny_bind (wpAny_isInstance (T := "StopIteration") (b := true) ⟨_, Heap.get?_push_size _ rfl, rfl⟩ isSubtype_stop ?_)
  exact wpAny_pure (hQ _ (((Heap.SameBut.update ..).extBut.push _).push _))

theorem RawD.at {h h' : Heap} {d : Addr} {es : Array DictEntry} {ep : Nat} (x : RawD h d es ep) (e : ∀ o, h.get? d = some o → h'.get? d = some o) : RawD h' d es ep := let ⟨o, ho, r⟩ := x; ⟨o, e _ ho, r⟩

theorem walks_raw {A : Around} (hh : A.handled = none) (I d : Addr) (hne : d ≠ I) (es : Array DictEntry) (ep : Nat) :
    Walks prog w A I [I, d] [I] es.size (fun i v => ∃ e, es[i]? = some e ∧ v = e.key) (fun i h => h.IsKeyIter I d i es.size ep ∧ RawD h d es ep) where
  sub := fun b hb => by simp at hb; simp [hb]
  frame := fun _ _ _ st hk => ⟨st.1.at fun o e => hk I (by simp) o e, st.2.at fun o e => hk d (by simp) o e⟩
  item := fun i s Q E hi st hQ => by
    refine pyNext_raw_item st.1 st.2 hi fun h' hit' hs' => ?_
    exact hQ _ h' s.toks ⟨es[i], by simp [hi], rfl⟩ ⟨hit', st.2.at fun o e => hs'.extBut d o hne e⟩ fun b o hb e => hs'.extBut b o (fun h => hb (by simp [h])) e
  done := fun s Q E st hQ => pyNext_raw_end hh st.1 st.2 fun h' he' => hQ h' s.toks fun b o hb e => he' b o (fun h => hb (by simp [h])) e
  self := fun _ _ _ _ st hQ => wpAny_pyIter_keyiter st.1 hQ

end
end Mine

set_option maxRecDepth 100000
namespace Mine
open PySem

section
variable {prog : Program} {w : World} {mg mb : Str → Option Value}

noncomputable def IterAt (prog : Program) (w : World) (A : Around) (target : Expr) (s : Shared) (av : Addr → Prop) (it : Value) (s' : Shared) (ds : List PyData) : Prop :=
  ∃ h0 wr St, Src prog w A h0 av target it wr St ds ∧ St 0 s'.heap ∧ (∀ b, wr b → s.heap.get? b = none ∧ h0.get? b = none ∧ ∃ o, s'.heap.get? b = some o) ∧ (∀ b o, s.heap.get? b = some o → h0.get? b = some o) ∧
    (∀ b o, h0.get? b = some o → s'.heap.get? b = some o) ∧ ds.length ≤ sizeLine

theorem IterAt.back {A : Around} {target : Expr} {s s₁ s' : Shared} {av : Addr → Prop} {it : Value} {ds : List PyData} (k : Kp s s₁) (x : IterAt prog w A target s₁ av it s' ds) : IterAt prog w A target s av it s' ds := by
  obtain ⟨h0, wr, St, h1, h2, h3, h4, h5, h6⟩ := x
  refine ⟨h0, wr, St, h1, h2, fun b hb => ?_, fun b o e => h4 b o (k.heap b o e), h5, h6⟩
  obtain ⟨q1, q2, q3⟩ := h3 b hb
  refine ⟨?_, q2, q3⟩
  cases e : s.heap.get? b with
  | none => rfl
  | some o => rw [k.heap b o e] at q1; cases q1

theorem ne_fresh {h : Heap} {a : Addr} {o : Obj} (e : h.get? a = some o) : a ≠ h.objs.size := fun x => by rw [x, fresh_none] at e; cases e

/-- one new iterator over what lies there -/
theorem iter_one {A : Around} {target : Expr} {s : Shared} {av : Addr → Prop} {ds : List PyData} {o : Obj} (ho : o.isFreed = false) {fp : List Addr} {n : Nat} {P : Nat → Value → Prop} {St0 : Nat → Heap → Prop}
    (W : Walks prog w A s.heap.objs.size fp [s.heap.objs.size] n P St0) (hn : n = ds.length) (hz : ds.length ≤ sizeLine)
    (hfp : ∀ b ∈ fp, b = s.heap.objs.size ∨ ((∃ o, s.heap.get? b = some o) ∧ ¬ av b)) (hcls : ∀ i h, St0 i h → ∃ o T, h.get? s.heap.objs.size = some o ∧ o.cls = .type T ∧ ownsTup T = false)
    (hP : ∀ i v d, P i v → ds[i]? = some d → Rep prog w s.heap av v d) (hst : St0 0 (s.heap.push o)) :
    IterAt prog w A target s av (.ref s.heap.objs.size) { s with heap := s.heap.push o } ds := by
  refine ⟨s.heap, _, _, Src.ofWalks W hn hfp hcls (fresh_none _) hP, ⟨hst, fun b o' e _ => Heap.get?_push_of_some _ e⟩, fun b hb => ?_, fun _ _ e => e, fun b o' e => Heap.get?_push_of_some _ e, hz⟩
  have hb : b = s.heap.objs.size := hb
  subst hb
  exact ⟨fresh_none _, fresh_none _, o, push_at _ _ ho⟩

theorem sound_iterOf {A : Around} {target : Expr} {s : Shared} {av : Addr → Prop} {v : Value} {d : PyData} {ds : List PyData} (hh : A.handled = none) (r : Rep prog w s.heap av v d) (hi : items d = .ok ds)
    {Q : Value → Shared → Prop} {E : Value → Shared → Prop} (hq : ∀ it s', Kp s s' → IterAt prog w A target s av it s' ds → Q it s') : wpAny (model prog w) A (pyIter v) Q E s := by
  cases r with
  | @list a vs dl h1 h2 h3 h4 h5 =>
    cases hi
    obtain ⟨n, e⟩ := h2
    have hl : s.heap.IsList a vs.toArray := ⟨_, e, rfl, _, rfl⟩
    refine wpAny_pyIter_list hl (hq _ _ (Kp.push' s _) (iter_one rfl (Walks.list hh s.heap.objs.size a (ne_fresh e) vs.toArray) (by simpa using h3) (by rw [← h3]; exact h4) (fun b hb => ?_) (fun i h st => ?_) (fun i v d hP hd => ?_) ⟨⟨_, push_at _ _ rfl, rfl, rfl⟩, ?_⟩))
    · simp at hb
      rcases hb with rfl | rfl
      · exact .inl rfl
      · exact .inr ⟨⟨_, e⟩, h1⟩
    · obtain ⟨⟨o, e, c, _⟩, _⟩ := st
      exact ⟨o, _, e, c, by decide⟩
    · exact h5 i v d (by simpa using hP) hd
    · exact ⟨_, Heap.get?_push_of_some _ e, rfl, _, rfl⟩
  | @tuple a vs dl h1 h2 h3 h4 h5 =>
    cases hi
    obtain ⟨n, e⟩ := h2
    have hl : s.heap.IsTuple a vs.toArray := ⟨_, e, rfl, _, rfl⟩
    refine wpAny_pyIter_tuple hl (hq _ _ (Kp.push' s _) (iter_one rfl (Walks.tuple hh s.heap.objs.size a (ne_fresh e) vs.toArray) (by simpa using h3) (by rw [← h3]; exact h4) (fun b hb => ?_) (fun i h st => ?_) (fun i v d hP hd => ?_) ⟨⟨_, push_at _ _ rfl, rfl, rfl⟩, ?_⟩))
    · simp at hb
      rcases hb with rfl | rfl
      · exact .inl rfl
      · exact .inr ⟨⟨_, e⟩, h1⟩
    · obtain ⟨⟨o, e, c, _⟩, _⟩ := st
      exact ⟨o, _, e, c, by decide⟩
    · exact h5 i v d (by simpa using hP) hd
    · exact ⟨_, Heap.get?_push_of_some _ e, rfl, _, rfl⟩
  | @dict a kvs dl h1 h2 h3 h4 h5 h6 =>
    cases hi
    obtain ⟨o, es, ep, e, c, hd, _, hp, _⟩ := h2
    have hraw : RawD s.heap a es ep := ⟨o, e, c, hd⟩
    have hlen : es.size = kvs.length := by have := hp.length; simpa using this
    refine pyIter_raw h4 hraw (hq _ _ (Kp.push' s _) (iter_one rfl (walks_raw hh s.heap.objs.size a (ne_fresh e) es ep) (by rw [hlen, h5]; simp) (by rw [h5]; simpa using h3.1) (fun b hb => ?_) (fun i h st => ?_) (fun i v d hP hd => ?_) ⟨⟨_, push_at _ _ rfl, rfl, rfl⟩, ?_⟩))
    · simp at hb
      rcases hb with rfl | rfl
      · exact .inl rfl
      · exact .inr ⟨⟨_, e⟩, h1⟩
    · obtain ⟨⟨o, e, c, _⟩, _⟩ := st
      exact ⟨o, _, e, c, by decide⟩
    · obtain ⟨en, e1, rfl⟩ := hP
      rw [h5, List.getElem?_map] at hd
      cases hk : kvs[i]? with
      | none => rw [hk] at hd; cases hd
      | some kv =>
        rw [hk] at hd; cases hd
        obtain ⟨q1, q2⟩ := hp.get? (e := en) (k := kv.1) (v := kv.2) (by simpa using e1) hk
        obtain ⟨t, ht⟩ := Value.isStrOf_shape q1
        rw [ht]
        exact .str _ t (h3.2 _ (List.mem_of_getElem? hk))
    · exact hraw.at fun o e => Heap.get?_push_of_some _ e
  | @dict1 a o hv key v ep k d h1 h2 h3 h4 h5 h6 rk rv =>
    cases hi
    have hraw : RawD s.heap a #[⟨hv, key, v⟩] ep := ⟨o, h2, h3, h4⟩
    refine pyIter_raw h5 hraw (hq _ _ (Kp.push' s _) (iter_one rfl (walks_raw hh s.heap.objs.size a (ne_fresh h2) #[⟨hv, key, v⟩] ep) rfl (by rw [sizeLine_eq]; simp) (fun b hb => ?_) (fun i h st => ?_) (fun i v' d' hP hd => ?_) ⟨⟨_, push_at _ _ rfl, rfl, rfl⟩, ?_⟩))
    · simp at hb
      rcases hb with rfl | rfl
      · exact .inl rfl
      · exact .inr ⟨⟨_, h2⟩, h1⟩
    · obtain ⟨⟨o, e, c, _⟩, _⟩ := st
      exact ⟨o, _, e, c, by decide⟩
    · obtain ⟨en, e1, rfl⟩ := hP
      cases i with
      | zero => simp at e1 hd; subst e1; subst hd; exact rk
      | succ i => simp at hd
    · exact hraw.at fun o e => Heap.get?_push_of_some _ e
  | str x t hx =>
    cases hi
    refine wpAny_pyIter_strU (hq _ _ (Kp.push' s _) ?_)
    have hP : ∀ (i : Nat) (v : Value) (d : PyData), SignAt x i v → (x.cps.toList.map charD)[i]? = some d → Rep prog w s.heap av v d := fun i v d hP hd => by
      obtain ⟨c, u, e1, rfl⟩ := hP
      rw [List.getElem?_map, Array.getElem?_toList, e1] at hd
      cases hd
      exact .str _ u (by rw [sizeLine_eq]; show (#[c] : Array Nat).size ≤ _; simp)
    have hfp : ∀ b ∈ [s.heap.objs.size], b = s.heap.objs.size ∨ ((∃ o, s.heap.get? b = some o) ∧ ¬ av b) := fun b hb => .inl (by simpa using hb)
    by_cases ha : x.cps.all (· < 128) = true
    · have e : strIterType x = "str_ascii_iterator" := by unfold strIterType; rw [if_pos ha]
      rw [e]
      refine iter_one rfl (Walks.strAscii hh s.heap.objs.size x t) (by simp) (by simpa using (show x.cps.size ≤ sizeLine from hx)) hfp (fun i h st => ?_) hP ⟨_, push_at _ _ rfl, rfl, rfl⟩
      obtain ⟨o, e, c, _⟩ := st
      exact ⟨o, _, e, c, by decide⟩
    · have e : strIterType x = "str_iterator" := by unfold strIterType; rw [if_neg ha]
      rw [e]
      refine iter_one rfl (Walks.strWide hh s.heap.objs.size x t) (by simp) (by simpa using (show x.cps.size ≤ sizeLine from hx)) hfp (fun i h st => ?_) hP ⟨_, push_at _ _ rfl, rfl, rfl⟩
      obtain ⟨o, e, c, _⟩ := st
      exact ⟨o, _, e, c, by decide⟩
  | none => cases hi
  | bool b => cases hi
  | int i t => cases hi

end
end Mine

set_option maxRecDepth 100000
namespace Mine
open PySem

section
variable {prog : Program} {w : World} {mg mb : Str → Option Value}

theorem rangeD_get : ∀ (n : Nat) (a : Int) (i : Nat) (d : PyData), (rangeD a n)[i]? = some d → d = .int (a + i)
  | 0, a, i, d, h => by simp [rangeD] at h
  | n + 1, a, 0, d, h => by simp [rangeD] at h; rw [← h]; simp
  | n + 1, a, i + 1, d, h => by
    have := rangeD_get n (a + 1) i d (by simpa [rangeD] using h)
    rw [this]; congr 1; push_cast; omega
theorem rangeD_length : ∀ (n : Nat) (a : Int), (rangeD a n).length = n
  | 0, _ => rfl
  | n + 1, a => by simp [rangeD, rangeD_length n]

/-- a walk over a range that was made -/
theorem sound_rangeAt {A : Around} {target : Expr} {s : Shared} {av : Addr → Prop} {r : Addr} {a b : Int} {t u v : Tok} (hh : A.handled = none) (hr : IsRange s.heap r a b 1 t u v) (h1 : -4096 ≤ a) (h2 : a ≤ 4096) (h3 : -4096 ≤ b) (h4 : b ≤ 4096)
    {Q : Value → Shared → Prop} {E : Value → Shared → Prop} (hq : ∀ it s', Kp s s' → IterAt prog w A target s av it s' (rangeD a (b - a).toNat) → Q it s') : wpAny (model prog w) A (pyIter (.ref r)) Q E s := by
  have hsz : Builtin.Range.rangeSize a b 1 = ((b - a).toNat : Int) := by
    rw [rangeSize_one]
    split <;> omega
  have hsm : Builtin.Range.small a b 1 = true := by
    unfold Builtin.Range.small
    rw [hsz]
    have f : ∀ i : Int, -10000 ≤ i → i ≤ 10000 → Builtin.Range.rangeFitsLong i = true := fun i q1 q2 => by
      unfold Builtin.Range.rangeFitsLong
      simp only [Bool.and_eq_true, decide_eq_true_eq]
      omega
    rw [f a (by omega) (by omega), f b (by omega) (by omega), f 1 (by omega) (by omega), f _ (by omega) (by omega)]
    have : ((1 : Int) > 0) := by omega
    simp only [this, if_true, Bool.and_self, Bool.true_and]
    rw [f (b + (1 - 1)) (by omega) (by omega)]
    simp
  refine wpAny_pyIter_range hr hsm (hq _ _ (Kp.push' s _) (iter_one rfl (Walks.range hh s.heap.objs.size a 1 (b - a).toNat) (by rw [rangeD_length]) (by rw [rangeD_length, sizeLine_eq]; omega) (fun x hx => .inl (by simpa using hx)) (fun i h st => ⟨_, _, st, rfl, by decide⟩) (fun i v d hP hd => ?_) ?_))
  · obtain ⟨t, rfl⟩ := hP
    rw [rangeD_get _ _ _ _ hd]
    have : a + (i : Int) * 1 = a + i := by omega
    rw [this]
    exact .int _ _
  · show (s.heap.push _).get? _ = _
    rw [push_at _ _ rfl, hsz]
    simp

noncomputable def YI (prog : Program) (w : World) (A : Around) (target : Expr) (s : Shared) (av : Addr → Prop) (W : WP Value) (p : P (List PyData)) : Prop :=
  Yd W (fun it s' ds => Kp s s' ∧ IterAt prog w A target s av it s' ds) (Raised s) p

/-- what is told of a walk's source -/
noncomputable def ISound (prog : Program) (w : World) (mg mb : Str → Option Value) (n : Nat) (sc : Scope) (σ : Store) (target e : Expr) (r : P (List PyData)) : Prop :=
  ∀ (A : Around) (env : Env) (s : Shared) (av : Addr → Prop), Room n A → Inv0 prog w mg mb env sc σ av s →
    YI prog w A target s av (fun Q E => wpAny (model prog w) A (eval e env) (fun x s₁ => wpAny (model prog w) A (pyIter x) Q E s₁) E s) r

theorem items_noerr (d : PyData) (en : Exn) : items d ≠ .err en := by cases d <;> (intro h; cases h)

theorem sound_evPlain {n : Nat} {sc : Scope} {σ : Store} {rec : Expr → P V} {target e : Expr} (h : ESound prog w mg mb n sc σ e (rec e)) : ISound prog w mg mb n sc σ target e (evPlain rec e) := by
  intro A env s av hA I
  unfold evPlain
  refine Yd.bind (h A env s av hA I) (W2 := fun x s₁ Q E => wpAny (model prog w) A (pyIter x) Q E s₁) (fun Q E h => h) fun v s₁ u r _ => ?_
  refine Yd.pureBind (dOf_noerr u) fun d hd => ?_
  cases hi : items d with
  | no => exact trivial
  | err en => exact absurd hi (items_noerr d en)
  | ok ds => exact fun Q E hq => sound_iterOf hA.handled (r.2.rep I.avlt hd) hi fun it s' k x => hq _ _ ⟨r.1.tr k, x.back r.1⟩

theorem rangeOf_sound {A : Around} {target : Expr} {s : Shared} {av : Addr → Prop} {vs : List Value} {a b : Int} (hh : A.handled = none)
    (hmake : ∀ Q E, (∀ r s' t u v, Kp s s' → IsRange s'.heap r a b 1 t u v → Q (.ref r) s') → wpAny (model prog w) A (call (.type "range") vs) Q E s) :
    YI prog w A target s av (fun Q E => wpAny (model prog w) A (call (.type "range") vs) (fun x s₁ => wpAny (model prog w) A (pyIter x) Q E s₁) E s) (rangeOf a b) := by
  unfold rangeOf
  split
  · rename_i hc
    obtain ⟨h1, h2, h3, h4⟩ := hc
    exact fun Q E hq => hmake _ E fun r s' t u v k hr => sound_rangeAt hh hr h1 h2 h3 h4 fun it s'' k' x => hq _ _ ⟨k.tr k', x.back k⟩
  · exact trivial

theorem sound_range1 {n : Nat} {sc : Scope} {σ : Store} {rec : Expr → P V} (hstar : ∀ e pos, rec (.Starred e pos) = .no) {target a : Expr} {p q : Pos} (hg : isG sc "range" = true) (h : ESound prog w mg mb n sc σ a (rec a)) :
    ISound prog w mg mb n sc σ target (.Call (.Name "range" p) [a] [] q) (evRange1 rec a) := by
  intro A env s av hA I
  unfold evRange1
  by_cases hS : ∃ e' p', a = .Starred e' p'
  · obtain ⟨e', p', rfl⟩ := hS
    rw [hstar]; exact trivial
  have hns : ∀ e' p', a ≠ .Starred e' p' := fun e' p' x => hS ⟨e', p', x⟩
  refine Yd.bind (h A env s av hA I) (W2 := fun x s₁ Q E => wpAny (model prog w) A (call (.type "range") [x]) (fun x s₁ => wpAny (model prog w) A (pyIter x) Q E s₁) E s₁) (fun Q E h => PySem.Call_name1 (star1 hns env) (name_blt I hg rfl (callWith1 (.inr ⟨_, rfl⟩) h))) fun v s₁ u r _ => ?_
  split
  · rename_i i _
    obtain ⟨t, rfl⟩ := (show Rep prog w s₁.heap av v (.int i) from r.2).int_inv
    refine (rangeOf_sound (s := s₁) hA.handled fun Q E hq => call_range_1 (hq _ _ _ _ _ ⟨_, _, rfl, fun b o e => Heap.get?_push_of_some _ e⟩ (push_at _ _ rfl))).mono (fun _ _ x => x) (fun _ _ _ _ r' => ⟨r.1.tr r'.1, r'.2.back r.1⟩) (Raised.back r.1)
  · exact trivial

theorem sound_range2 {n : Nat} {sc : Scope} {σ : Store} {rec : Expr → P V} (hstar : ∀ e pos, rec (.Starred e pos) = .no) {target a b : Expr} {p q : Pos} (hg : isG sc "range" = true) (h : ESound prog w mg mb n sc σ a (rec a)) (h' : ESound prog w mg mb n sc σ b (rec b)) :
    ISound prog w mg mb n sc σ target (.Call (.Name "range" p) [a, b] [] q) (evRange2 rec a b) := by
  intro A env s av hA I
  unfold evRange2
  by_cases hS2 : ∃ e' p', b = .Starred e' p'
  · obtain ⟨e', p', rfl⟩ := hS2
    exact trivial
  by_cases hS : ∃ e' p', a = .Starred e' p'
  · obtain ⟨e', p', rfl⟩ := hS
    rw [hstar]
    cases starred b <;> exact trivial
  have hns : ∀ e' p', a ≠ .Starred e' p' := fun e' p' x => hS ⟨e', p', x⟩
  have hns2 : ∀ e' p', b ≠ .Starred e' p' := fun e' p' x => hS2 ⟨e', p', x⟩
  have hs2 := star2 hns hns2
  have hsb : starred b = false := by cases b <;> first | rfl | exact absurd rfl (hns2 _ _)
  rw [hsb]
  refine Yd.bind (h A env s av hA I) (W2 := fun x s₁ Q E => wpAny (model prog w) A (eval b env) (fun y s₂ => wpAny (model prog w) A (call (.type "range") [x, y]) (fun x s₁ => wpAny (model prog w) A (pyIter x) Q E s₁) E s₂) E s₁) (fun Q E h => ?_) fun v s₁ u r _ => ?_
  · refine wpAny_Call_NameR (name_blt I hg rfl (callWith_type (noStar_any (noStar_of hs2)) (evalArgs_any (noStar_of hs2) ?_)))
    have hst : starEach [a, b] env = (false, eval a env) :: starEach [b] env := by
      cases a <;> first | rfl | exact absurd rfl (hns _ _)
    have hst2 : starEach [b] env = (false, eval b env) :: starEach [] env := star1 hns2 env
    exact wpAny_items_cons (wpAny_mono h (fun v s₁ h₁ => wpAny_items_cons (wpAny_mono h₁ (fun c s₂ h₂ => wpAny_items_nil h₂) fun _ _ x => x) hst2) fun _ _ x => x) hst
  split
  · rename_i i _
    obtain ⟨t, rfl⟩ := (show Rep prog w s₁.heap av v (.int i) from r.2).int_inv
    have I1 := I.keeps r.1
    refine Yd.bind ((h' A env s₁ av hA I1).mono (fun _ _ x => x) (fun _ _ _ _ r => r) (Raised.back r.1)) (W2 := fun y s₂ Q E => wpAny (model prog w) A (call (.type "range") [.int i t, y]) (fun x s₁ => wpAny (model prog w) A (pyIter x) Q E s₁) E s₂) (fun Q E h => h) fun v2 s₂ u2 r2 _ => ?_
    split
    · rename_i j _
      obtain ⟨t', rfl⟩ := (show Rep prog w s₂.heap av v2 (.int j) from r2.2).int_inv
      have k2 := r.1.tr r2.1
      exact (rangeOf_sound (s := s₂) hA.handled fun Q E hq => call_range_2 (hq _ _ _ _ _ ⟨_, _, rfl, fun b o e => Heap.get?_push_of_some _ e⟩ (push_at _ _ rfl))).mono (fun _ _ x => x) (fun _ _ _ _ r' => ⟨k2.tr r'.1, r'.2.back k2⟩) (Raised.back k2)
    · exact trivial
  · exact trivial

theorem enumFrom_get : ∀ (l : List PyData) (a : Int) (i : Nat) (d : PyData), (enumFrom a l)[i]? = some d → ∃ x, l[i]? = some x ∧ d = .tuple [.int (a + i), x]
  | [], a, i, d, h => by simp [enumFrom] at h
  | x :: l, a, 0, d, h => by simp [enumFrom] at h; exact ⟨x, rfl, by rw [← h]; simp⟩
  | x :: l, a, i + 1, d, h => by
    obtain ⟨y, h1, h2⟩ := enumFrom_get l (a + 1) i d (by simpa [enumFrom] using h)
    refine ⟨y, by simpa using h1, ?_⟩
    rw [h2]
    have : a + 1 + (i : Int) = a + ((i + 1 : Nat) : Int) := by push_cast; omega
    rw [this]
theorem enumFrom_length : ∀ (l : List PyData) (a : Int), (enumFrom a l).length = l.length
  | [], _ => rfl
  | x :: l, a => by simp [enumFrom, enumFrom_length l]


structure WT (prog : Program) (w : World) (A : Around) (I : Addr) (fp wr : List Addr) (n : Nat) (Pt : Nat → List Value → Prop) (St : Nat → Heap → Prop) (Mid : Nat → Addr → Heap → Prop) : Prop where
  live : ∀ i h, St i h → ∀ b ∈ wr, ∃ o, h.get? b = some o
  frame : ∀ i h h', St i h → (∀ b ∈ fp, ∀ o, h.get? b = some o → h'.get? b = some o) → St i h'
  item : ∀ i (s : Shared) (Q : Option Value → Shared → Prop) (E : Value → Shared → Prop), i < n → St i s.heap →
    (∀ T vals h' tk, Pt i vals → s.heap.objs.size ≤ T → PlT h' T vals.toArray → Mid i T h' → (∀ b o, b ∉ wr → s.heap.get? b = some o → h'.get? b = some o) → Q (some (.ref T)) { s with heap := h', toks := tk }) →
    wpAny (model prog w) A (pyNext (.ref I)) Q E s
  go : ∀ (elts : List Expr) (k : Nat) (pos : Pos) i T (s : Shared) (Q : Unit → Shared → Prop) (E : Value → Shared → Prop), Mid i T s.heap →
    (∀ h', St (i + 1) h' → (∀ b o, b ∉ wr → s.heap.get? b = some o → h'.get? b = some o) → Q () { s with heap := h' }) →
    wpAny (model prog w) A (letOwnedTupleGo (.Tuple elts k pos) (.ref I) (.ref T)) Q E s
  apart : ∀ i T h, Mid i T h → T ∉ wr
  done : ∀ (s : Shared) (Q : Option Value → Shared → Prop) (E : Value → Shared → Prop), St n s.heap →
    (∀ h' tk, (∀ b o, b ∉ wr → s.heap.get? b = some o → h'.get? b = some o) → Q none { s with heap := h', toks := tk }) → wpAny (model prog w) A (pyNext (.ref I)) Q E s
  self : ∀ i (s : Shared) (Q : Value → Shared → Prop) (E : Value → Shared → Prop), St i s.heap → Q (.ref I) s → wpAny (model prog w) A (pyIter (.ref I)) Q E s

theorem WT.enumerate {A : Around} (hh : A.handled = none) (e it l : Addr) (hei : e ≠ it) (hle : l ≠ e) (hli : l ≠ it) (items : Array Value) :
    WT prog w A e [e, it, l] [e, it] items.size
      (fun i vals => ∃ t x, items[i]? = some x ∧ vals = [.int i t, x])
      (fun i h => (∃ old, IsEnum h e it i old) ∧ h.IsListIter it l i ∧ h.IsList l items)
      (fun i T h => (∃ x, IsEnumOut h e it ((i : Int) + 1) x T) ∧ h.IsListIter it l (i + 1) ∧ h.IsList l items ∧ T ≠ e ∧ T ≠ it) where
  live := fun i h hst b hb => by
    obtain ⟨⟨old, he⟩, ⟨o, hit, _⟩, hl⟩ := hst
    simp at hb
    rcases hb with rfl | rfl
    · exact ⟨_, he⟩
    · exact ⟨o, hit⟩
  frame := fun i h h' hst hk => by
    obtain ⟨⟨old, he⟩, hit, hl⟩ := hst
    exact ⟨⟨old, hk e (by simp) _ he⟩, hit.at fun o x => hk it (by simp) o x, hl.at fun o x => hk l (by simp) o x⟩
  item := fun i s Q E hi hst hQ => by
    obtain ⟨⟨old, he⟩, hit, hl⟩ := hst
    have hx : items[i]? = some items[i] := Array.getElem?_eq_getElem hi
    refine wpAny_pyNext_enum_item he hit hl hx hei fun h' ho hit' hT hsz hk => ?_
    have helt : e < s.heap.objs.size := Heap.lt_size he
    have hilt : it < s.heap.objs.size := by obtain ⟨_, x, _⟩ := hit; exact Heap.lt_size x
    exact hQ s.heap.objs.size [.int i s.toks, items[i]] h' (s.toks + 1) ⟨_, _, hx, rfl⟩ (Nat.le_refl _) ⟨_, hT⟩
      ⟨⟨_, ho⟩, hit', hl.at fun o x => hk l o hle hli x, Nat.ne_of_gt helt, Nat.ne_of_gt hilt⟩
      fun b o hb x => hk b o (fun e' => hb (by simp [e'])) (fun e' => hb (by simp [e'])) x
  go := fun elts k pos i T s Q E hm hQ => by
    obtain ⟨⟨x, ho⟩, hit, hl, hTe, hTi⟩ := hm
    refine wpAny_letOwnedTupleGo_enum ho fun h' he' hs' => hQ h' ⟨⟨x, by simpa using he'⟩, hit.at fun o y => (hs'.2 it hei.symm).trans y, hl.at fun o y => (hs'.2 l hle).trans y⟩ fun b o hb y => ?_
    exact (hs'.2 b fun e' => hb (by simp [e'])).trans y
  apart := fun i T h hm hT => by
    obtain ⟨_, _, _, hTe, hTi⟩ := hm
    rcases List.mem_cons.mp hT with rfl | hT
    · exact hTe rfl
    · rcases List.mem_cons.mp hT with rfl | hT
      · exact hTi rfl
      · cases hT
  done := fun s Q E hst hQ => by
    obtain ⟨⟨old, he⟩, hit, hl⟩ := hst
    exact wpAny_pyNext_enum_end hh he hit hl (Array.getElem?_eq_none (Nat.le_refl _)) fun h' hx => hQ h' s.toks fun b o hb y => hx b o (fun e' => hb (by simp [e'])) y
  self := fun i s Q E hst hQ => by
    obtain ⟨⟨old, he⟩, _, _⟩ := hst
    exact wpAny_pyIter_enum he hQ

theorem iterAt_T {A : Around} {elts : List Expr} {k : Nat} {pos : Pos} {s s' : Shared} {av : Addr → Prop} {I : Addr} {fp wr : List Addr} {ds : List PyData} {n : Nat} {Pt : Nat → List Value → Prop} {St0 : Nat → Heap → Prop} {Mid : Nat → Addr → Heap → Prop}
    (W : WT prog w A I fp wr n Pt St0 Mid) (hn : n = ds.length) (hz : ds.length ≤ sizeLine) (hfp : ∀ b ∈ fp, b ∈ wr ∨ ((∃ o, s.heap.get? b = some o) ∧ ¬ av b)) (hwr : ∀ b ∈ wr, s.heap.get? b = none ∧ ∃ o, s'.heap.get? b = some o)
    (hk : Kp s s')
    (hP : ∀ i vals d, Pt i vals → ds[i]? = some d → ∃ es, d = .tuple es ∧ vals.length = es.length ∧ es.length ≤ 3 ∧ ∀ (j : Nat) (v : Value) (e : PyData), vals[j]? = some v → es[j]? = some e → Rep prog w s.heap av v e)
    (hst : St0 0 s'.heap) :
    IterAt prog w A (.Tuple elts k pos) s av (.ref I) s' ds := by
  refine ⟨s.heap, fun b => b ∈ wr, fun i h => St0 i h ∧ ∀ b o, s.heap.get? b = some o → ¬ av b → h.get? b = some o, ⟨fun i h st b hb => W.live i h st.1 b hb, fun i h h' st hkk hk0 => ?_, fun i d s₁ E Q hd st hQ => ?_, fun s₁ E Q st hQ => ?_, fun i s₁ Q E st hQ => W.self i s₁ Q E st.1 hQ⟩, ⟨hst, fun b o e _ => hk.heap b o e⟩,
    fun b hb => ⟨(hwr b hb).1, (hwr b hb).1, (hwr b hb).2⟩, fun _ _ e => e, hk.heap, hz⟩
  · refine ⟨W.frame i h h' st.1 fun b hb o e => ?_, hk0⟩
    rcases hfp b hb with hb | ⟨⟨o', e'⟩, hav⟩
    · exact hkk b o hb e
    · have := st.2 b o' e' hav
      rw [e] at this; cases this
      exact hk0 b o e' hav
  · have hi : i < n := by
      rw [hn]
      rcases Nat.lt_or_ge i ds.length with h | h
      · exact h
      · rw [List.getElem?_eq_none h] at hd; cases hd
    refine W.item i s₁ _ E hi st.1 fun T vals h' tk hPt hT hpl hMid hk1 => ?_
    refine W.go elts k pos i T _ _ _ hMid fun h'' st'' hk2 => ?_
    have hTn : s₁.heap.get? T = none := Heap.get?_none_of_le hT
    have hTwr := W.apart i T h' hMid
    have kept : ∀ b o, ¬ (b ∈ wr) → s₁.heap.get? b = some o → h''.get? b = some o := fun b o hb e => hk2 b o hb (hk1 b o hb e)
    have keep0 : ∀ b o, s.heap.get? b = some o → ¬ av b → h''.get? b = some o := fun b o e hav => kept b o (fun hb => by rw [(hwr b hb).1] at e; cases e) (st.2 b o e hav)
    refine hQ (.ref T) h'' tk kept ⟨st'', keep0⟩ fun avn hlive hsub => ?_
    obtain ⟨es, rfl, hlen, hes, hrep⟩ := hP i vals d hPt hd
    obtain ⟨nn, e1⟩ := hpl
    refine Rep.tuple (vs := vals) (fun hx => ?_) ⟨nn, hk2 T _ hTwr e1⟩ hlen (by rw [hlen, sizeLine_eq]; omega) fun j v e e2 e3 => (hrep j v e e2 e3).mono (fun b o hb e => keep0 b o e hb) hsub
    obtain ⟨o, e⟩ := hlive _ hx
    rw [hTn] at e; cases e
  · have st' : St0 n s₁.heap := hn ▸ st.1
    exact W.done s₁ _ E st' fun h' tk hk => hQ h' tk fun b o hb e => hk b o hb e

theorem sound_enum {n : Nat} {sc : Scope} {σ : Store} {rec : Expr → P V} (hstar : ∀ e pos, rec (.Starred e pos) = .no) {target a : Expr} {p q : Pos} (hg : isG sc "enumerate" = true) (ht : tupTarget target = true) (h : ESound prog w mg mb n sc σ a (rec a)) :
    ISound prog w mg mb n sc σ target (.Call (.Name "enumerate" p) [a] [] q) (evEnum rec a) := by
  intro A env s av hA I
  unfold evEnum
  by_cases hS : ∃ e' p', a = .Starred e' p'
  · obtain ⟨e', p', rfl⟩ := hS
    rw [hstar]; exact trivial
  have hns : ∀ e' p', a ≠ .Starred e' p' := fun e' p' x => hS ⟨e', p', x⟩
  refine Yd.bind (h A env s av hA I) (W2 := fun x s₁ Q E => wpAny (model prog w) A (call (.type "enumerate") [x]) (fun x s₁ => wpAny (model prog w) A (pyIter x) Q E s₁) E s₁) (fun Q E h => PySem.Call_name1 (star1 hns env) (name_blt I hg rfl (callWith1 (.inr ⟨_, rfl⟩) h))) fun v s₁ u r _ => ?_
  refine Yd.pureBind (dOf_noerr u) fun d hd => ?_
  split
  · rename_i l
    have rd := r.2.rep I.avlt hd
    cases rd with
    | @list ad vs dl h1 h2 h3 h4 h5 =>
      intro Q E hq
      obtain ⟨nn, e⟩ := h2
      have hl : s₁.heap.IsList ad vs.toArray := ⟨_, e, rfl, _, rfl⟩
      refine call_enumerate_list hl fun h' he hit hsz hk => ?_
      have halt := Heap.lt_size e
      have W := WT.enumerate (prog := prog) (w := w) hA.handled (s₁.heap.objs.size + 1) s₁.heap.objs.size ad (Nat.ne_of_gt (Nat.lt_succ_self _)) (Nat.ne_of_lt (Nat.lt_succ_of_lt halt)) (Nat.ne_of_lt halt) vs.toArray
      have hst : (∃ old, IsEnum h' (s₁.heap.objs.size + 1) s₁.heap.objs.size ((0 : Nat) : Int) old) ∧ h'.IsListIter s₁.heap.objs.size ad 0 ∧ h'.IsList ad vs.toArray := ⟨⟨_, he⟩, hit, ⟨_, hk _ _ e, rfl, _, rfl⟩⟩
      have k1 : Kp s₁ { s₁ with heap := h' } := Kp.mkh hk
      refine W.self 0 _ _ _ hst (hq _ _ ⟨r.1.tr k1, IterAt.back r.1 ?_⟩)
      cases target with
      | Tuple elts kk pos =>
        refine iterAt_T W (by rw [enumFrom_length]; simpa using h3) (by rw [enumFrom_length, ← h3]; exact h4) (fun b hb => ?_) (fun b hb => ?_) k1 (fun i vals d hP hd => ?_) hst
        · simp at hb
          rcases hb with rfl | rfl | rfl
          · exact .inl (by simp)
          · exact .inl (by simp)
          · exact .inr ⟨⟨_, e⟩, h1⟩
        · simp at hb
          rcases hb with rfl | rfl
          · exact ⟨Heap.get?_none_of_le (Nat.le_succ _), _, he⟩
          · obtain ⟨o, eo, _⟩ := hit
            exact ⟨fresh_none _, o, eo⟩
        · obtain ⟨t, x, hx, rfl⟩ := hP
          obtain ⟨y, hy, rfl⟩ := enumFrom_get _ _ _ _ hd
          refine ⟨_, rfl, rfl, by simp, fun j v e' e1 e2 => ?_⟩
          match j with
          | 0 =>
            simp at e1 e2; subst e1; subst e2
            exact .int _ _
          | 1 =>
            simp at e1 e2; subst e1; subst e2
            exact h5 i _ _ (by simpa using hx) hy
          | j + 2 => simp at e1
      | _ => cases ht
  · exact trivial

theorem sound_evIter {n : Nat} {sc : Scope} {σ : Store} {rec : Expr → P V} (hstar : ∀ e pos, rec (.Starred e pos) = .no) {target e : Expr} (h : ESound prog w mg mb n sc σ e (rec e))
    (hsub : ∀ f as kws q, e = .Call f as kws q → ∀ a ∈ as, ESound prog w mg mb n sc σ a (rec a)) : ISound prog w mg mb n sc σ target e (evIter rec sc target e) := by
  unfold evIter
  split
  · rename_i f p a q
    have ha := hsub _ _ _ _ rfl a (by simp)
    split
    · rename_i hf; subst hf
      split
      · rename_i hg; exact sound_range1 hstar hg ha
      · exact fun _ _ _ _ _ _ => trivial
    split
    · rename_i hf; subst hf
      split
      · rename_i hg
        simp only [Bool.and_eq_true] at hg
        exact sound_enum hstar hg.1 hg.2 ha
      · exact fun _ _ _ _ _ _ => trivial
    · exact sound_evPlain h
  · rename_i f p a b q
    split
    · rename_i hf; subst hf
      split
      · rename_i hg; exact sound_range2 hstar hg (hsub _ _ _ _ rfl a (by simp)) (hsub _ _ _ _ rfl b (by simp))
      · exact fun _ _ _ _ _ _ => trivial
    · exact sound_evPlain h
  · exact sound_evPlain h

end
end Mine

set_option maxRecDepth 100000
namespace Mine
open PySem

section
variable {prog : Program} {w : World} {mg mb : Str → Option Value}

/-! closures -/
theorem closure_loop {env : Env} : ∀ (names : List (Str × NameKind)) (acc : List (Str × Addr)), (∀ p ∈ names, p.2 = .free → ∃ c, env.cells.lookup p.1 = some c) → (∀ q ∈ acc, env.cells.lookup q.1 = some q.2) →
    ∃ cl, (forIn names acc (fun (x : Str × NameKind) (cs : List (Str × Addr)) => if (x.2 == NameKind.free) = true then (do let c ← cellOf env x.1; pure (ForInStep.yield ((x.1, c) :: cs))) else pure (ForInStep.yield cs)) : Sem (List (Str × Addr))) = pure cl ∧
      (∀ q ∈ cl, env.cells.lookup q.1 = some q.2) ∧ (∀ q ∈ acc, q ∈ cl) ∧ ∀ p ∈ names, p.2 = .free → ∃ c, (p.1, c) ∈ cl
  | [], acc, _, ha => ⟨acc, by simp, ha, fun _ h => h, fun _ h => by simp at h⟩
  | (x, k) :: r, acc, hn, ha => by
    rw [List.forIn_cons]
    by_cases hk : k = .free
    · subst hk
      obtain ⟨c, hc⟩ := hn (x, .free) (by simp) rfl
      obtain ⟨cl, h1, h2, h3, h4⟩ := closure_loop r ((x, c) :: acc) (fun p hp => hn p (List.mem_cons_of_mem _ hp)) (fun q hq => by
        rcases List.mem_cons.mp hq with rfl | hq
        · exact hc
        · exact ha q hq)
      refine ⟨cl, ?_, h2, fun q hq => h3 q (List.mem_cons_of_mem _ hq), fun p hp hpk => ?_⟩
      · have e : cellOf env x = pure c := by unfold cellOf; rw [hc]
        simp only [e]
        exact h1
      · rcases List.mem_cons.mp hp with rfl | hp
        · exact ⟨c, h3 _ (by simp)⟩
        · exact h4 p hp hpk
    · obtain ⟨cl, h1, h2, h3, h4⟩ := closure_loop r acc (fun p hp => hn p (List.mem_cons_of_mem _ hp)) ha
      refine ⟨cl, ?_, h2, h3, fun p hp hpk => ?_⟩
      · have e : (k == NameKind.free) = false := beq_eq_false_iff_ne.mpr hk
        simp only [e]
        exact h1
      · rcases List.mem_cons.mp hp with rfl | hp
        · exact absurd hpk hk
        · exact h4 p hp hpk

theorem lookup_of_mem {α : Type} : ∀ {l : List (Str × α)} {x : Str} {c : α}, (x, c) ∈ l → ∃ c', l.lookup x = some c' ∧ (x, c') ∈ l
  | (y, d) :: r, x, c, h => by
    by_cases hxy : x = y
    · subst hxy
      exact ⟨d, by simp [List.lookup], by simp⟩
    · rcases List.mem_cons.mp h with h | h
      · exact absurd (congrArg Prod.fst h) hxy
      · obtain ⟨c', h1, h2⟩ := lookup_of_mem h
        have : (x == y) = false := beq_eq_false_iff_ne.mpr hxy
        exact ⟨c', by simp only [List.lookup, this]; exact h1, List.mem_cons_of_mem _ h2⟩

theorem mem_of_lookup {α : Type} : ∀ {l : List (Str × α)} {x : Str} {c : α}, l.lookup x = some c → (x, c) ∈ l
  | (y, d) :: r, x, c, h => by
    by_cases hxy : x = y
    · subst hxy
      simp [List.lookup] at h
      simp [h]
    · have : (x == y) = false := beq_eq_false_iff_ne.mpr hxy
      simp only [List.lookup, this] at h
      exact List.mem_cons_of_mem _ (mem_of_lookup h)

theorem closure_of {env : Env} {scope : Scope} (h : ∀ p ∈ scope.names, p.2 = .free → ∃ c, env.cells.lookup p.1 = some c) : ∃ cl, closureFor scope env = pure cl ∧ ∀ x c, (x, NameKind.free) ∈ scope.names → env.cells.lookup x = some c → cl.lookup x = some c := by
  obtain ⟨cl, h1, h2, _, h4⟩ := closure_loop (env := env) scope.names [] h (by simp)
  refine ⟨cl, ?_, fun x c hx hc => ?_⟩
  · unfold closureFor
    show (forIn scope.names [] _ : Sem _) >>= _ = _
    have : (forIn scope.names [] (fun (x : Str × NameKind) (cs : List (Str × Addr)) => if (x.2 == NameKind.free) = true then (do let c ← cellOf env x.1; pure (ForInStep.yield ((x.1, c) :: cs))) else pure (ForInStep.yield cs)) : Sem (List (Str × Addr))) = pure cl := h1
    rw [show (forIn scope.names [] (fun (x : Str × NameKind) (cs : List (Str × Addr)) => _) : Sem (List (Str × Addr))) = pure cl from this]
    rfl
  · obtain ⟨c', hc'⟩ := h4 (x, .free) hx rfl
    obtain ⟨c'', e1, e2⟩ := lookup_of_mem hc'
    have := h2 _ e2
    rw [hc] at this
    rw [e1]; exact this.symm ▸ rfl

/-- a comprehension's turns -/
theorem compLoop_go {A : Around} {R : Result → Shared → Prop} {s : Shared} {elt target iter : Expr} {ifs : List Expr} {scope : Scope} {pos : Pos} {it acc : Value} {env : Env} (I : Nat → Shared → Prop)
    (turn : ∀ n s, I n s → wpAny (model prog w) A (pyNext it) (fun r s₁ => match r with
      | none => R (.ok .next) s₁
      | some v => wpAny (model prog w) A (letOwnedTupleGo target it v) (fun _ s₁ => wpAny (model prog w) A (assign target env v) (fun _ s₂ =>
          wpAny (model prog w) A (forIn ifs true fun c r => if r = true then do let ok ← isTrue c env (eval c env); pure (ForInStep.yield ok) else pure (ForInStep.yield r)) (fun ok s₃ =>
            if ok = true then wpAny (model prog w) A (eval elt env) (fun x s₄ =>
              wpAny (model prog w) A (call (.builtin "list.append") [acc, x]) (fun _ s₅ => ∃ m, m < n ∧ I m s₅) (notedBy (model prog w) A env fun e s' => R (.error e) s') s₄) (notedBy (model prog w) A env fun e s' => R (.error e) s') s₃
            else ∃ m, m < n ∧ I m s₃) (notedBy (model prog w) A env fun e s' => R (.error e) s') s₂) (notedBy (model prog w) A env fun e s' => R (.error e) s') s₁) (notedBy (model prog w) A env fun e s' => R (.error e) s') s₁) (notedBy (model prog w) A env fun e s' => R (.error e) s') s)
    (n : Nat) (h : I n s) :
    codeAny (model prog w) A (.compLoop (.ListComp elt [⟨target, iter, ifs, 0⟩] scope pos) 0 it acc env) R s := by
  refine codeAny_loop rfl I (fun n s hI => ?_) n h
  show wpAny _ A ((compTurn (.ListComp elt [⟨target, iter, ifs, 0⟩] scope pos) 0 it acc env).onRaise (fun x => do noteFrame x env; theTreesLotGoes x)) _ _ s
  refine wpAny_noted ?_
  rw [compTurn_list]
  refine wpAny_bind (wpAny_standAt (wpAny_bind (wpAny_mono (turn n s hI) (fun r s₁ h₁ => ?_) fun _ _ h' => h')))
  cases r with
  | none => exact wpAny_pure h₁
  | some v =>
    refine wpAny_bind (wpAny_mono h₁ (fun _ s₁ h₁ => ?_) fun _ _ h' => h')
    refine wpAny_bind (wpAny_mono h₁ (fun _ s₂ h₂ => wpAny_bind (wpAny_mono h₂ (fun ok s₃ h₃ => ?_) fun _ _ h' => h')) fun _ _ h' => h')
    cases ok with
    | false => exact wpAny_pure ⟨rfl, h₃⟩
    | true =>
      exact wpAny_bind (wpAny_bind (wpAny_mono h₃ (fun x s₄ h₄ => wpAny_bind (wpAny_mono h₄ (fun _ s₅ h₅ => wpAny_pure (wpAny_pure ⟨rfl, h₅⟩)) fun _ _ h' => h')) fun _ _ h' => h'))


noncomputable def relK (env : Env) (x : Str) (k : NameKind) : NameKind := if (k == NameKind.free && env.scope.kind == ScopeKind.function && env.kindOf x == some NameKind.cell) = true then NameKind.cell else k

theorem lookup_map2 (f : Str → NameKind → NameKind) (x : Str) : ∀ (names : List (Str × NameKind)), (names.map fun p => (p.1, f p.1 p.2)).lookup x = (names.lookup x).map (f x)
  | [] => rfl
  | (y, k) :: r => by
    by_cases hxy : x = y
    · subst hxy
      simp [List.lookup]
    · have h2 : (x == y) = false := beq_eq_false_iff_ne.mpr hxy
      simp only [List.map_cons, List.lookup, h2]
      exact lookup_map2 f x r

theorem relabel_names (env : Env) (sc' : Scope) : (relabel sc' env).names = sc'.names.map fun p => (p.1, relK env p.1 p.2) := by
  unfold relabel
  show List.map _ sc'.names = _
  refine List.map_congr_left fun p _ => ?_
  obtain ⟨n, k⟩ := p
  show (if _ then (n, NameKind.cell) else (n, k)) = (n, relK env n k)
  unfold relK
  split <;> rfl

theorem comp_kindOf {sc' : Scope} {cl : List (Str × Addr)} {C : Addr} {env : Env} (x : Str) : (compEnvC sc' cl C env).kindOf x = (sc'.names.lookup x).map (relK env x) := by
  show (relabel sc' env).names.lookup x = _
  rw [relabel_names]
  exact lookup_map2 (relK env) x sc'.names

structure CompOk (sc sc' : Scope) (target : Expr) : Prop where
  kind : sc'.kind = .function
  loc : ∀ p ∈ sc'.names, p.2 = .local → (p.1 = ".0" ∨ p.1 ∈ targets target) ∧ sc'.names.lookup p.1 = some .local
  cell : ∀ p ∈ sc'.names, p.2 ≠ .cell
  free : ∀ p ∈ sc'.names, p.2 = .free → isCF (sc.names.lookup p.1) = true
  tgt : ∀ x ∈ targets target, x ≠ ".0" ∧ sc'.names.lookup x = some .local
  dbg : sc'.names.lookup (Str.ofString "__debug__") = none
  cld : sc'.names.lookup (Str.ofString "__classdict__") = none
  two : ∀ x y, targets target = [x, y] → x ≠ y

theorem compOk_out {sc sc' : Scope} {target : Expr} (h : compOk sc sc' target = true) : CompOk sc sc' target := by
  unfold compOk at h
  simp only [Bool.and_eq_true] at h
  obtain ⟨⟨⟨⟨⟨h1, h2⟩, h3⟩, h4⟩, h5⟩, h6⟩ := h
  have h2' := List.all_eq_true.mp h2
  have h3' := List.all_eq_true.mp h3
  refine ⟨by simpa using h1, fun p hp hk => ?_, fun p hp hk => ?_, fun p hp hk => ?_, fun x hx => ?_, by simpa using h4, by simpa using h5, fun x y e => ?_⟩
  · have := h2' p hp
    rw [hk] at this
    simp only [Bool.and_eq_true, Bool.or_eq_true, beq_iff_eq, List.contains_iff_mem] at this
    exact ⟨this.1, this.2⟩
  · have := h2' p hp
    rw [hk] at this; cases this
  · have := h2' p hp
    rw [hk] at this; exact this
  · have := h3' x hx
    simp only [Bool.and_eq_true, bne_iff_ne, ne_eq, beq_iff_eq] at this
    exact this
  · rw [e] at h6
    simpa using h6

theorem Store.get_cons_ne {x y : Str} {v : Option V} {σ : Store} (h : x ≠ y) : Store.get ((y, v) :: σ) x = Store.get σ x := by
  show (if x = y then some v else Store.get σ x) = _
  rw [if_neg h]
theorem Store.get_cons_eq {x : Str} {v : Option V} {σ : Store} : Store.get ((x, v) :: σ) x = some v := by
  show (if x = x then some v else Store.get σ x) = _
  rw [if_pos rfl]

theorem bindT_get {target : Expr} {d : PyData} {σ σ' : Store} (hb : bindT target d σ = some σ') : Store.get σ' ".0" = some none ∧ ∀ x : Str, x ≠ ".0" → x ∉ targets target → Store.get σ' x = Store.get σ x := by
  unfold bindT at hb
  split at hb
  · rename_i x p
    cases hb
    exact ⟨Store.get_cons_eq, fun y h0 hy => by
      rw [Store.get_cons_ne h0, Store.get_cons_ne (fun e => hy (by simp [targets, e]))]⟩
  · rename_i x p y q k r
    split at hb
    · cases hb
      exact ⟨Store.get_cons_eq, fun z h0 hz => by
        rw [Store.get_cons_ne h0, Store.get_cons_ne (fun e => hz (by simp [targets, e])), Store.get_cons_ne (fun e => hz (by simp [targets, e]))]⟩
    · cases hb
  · cases hb

theorem Inv0.comp {env : Env} {sc sc' : Scope} {σ σ' : Store} {av avn : Addr → Prop} {s s' : Shared} {target : Expr} {d : PyData} {cl : List (Str × Addr)} {C : Addr} {m : Str → Option Value} (I : Inv0 prog w mg mb env sc σ av s) (hok : CompOk sc sc' target)
    (hb : bindT target d σ = some σ') (hcl : ∀ x c, (x, NameKind.free) ∈ sc'.names → env.cells.lookup x = some c → cl.lookup x = some c) (hk : ∀ b o, s.heap.get? b = some o → s'.heap.get? b = some o) (hav : ∀ b o, s.heap.get? b = some o → avn b → av b)
    (hS : avn sysModules) (hlive : ∀ b, avn b → ∃ o, s'.heap.get? b = some o) (hns : s'.heap.Ns C m) (hm : ∀ x v, x ∈ targets target → Store.get σ' x = some (some v) → ∃ u, m x = some u ∧ RepS prog w s'.heap avn u v) :
    Inv0 prog w mg mb (compEnvC sc' cl C env) sc' σ' avn s' where
  glo := I.glo.keeps hk
  kind := hok.kind
  eg := I.eg
  eb := I.eb
  avlt := hlive
  avS := hS
  dbg := hok.dbg
  cld := hok.cld
  glob := fun x hx => by
    unfold isG at hx
    rw [comp_kindOf, eq_of_beq hx]
    rfl
  kinds := fun x hx => by
    cases hl : sc'.names.lookup x with
    | none => rw [hl] at hx; cases hx
    | some k =>
      rw [hl] at hx
      have hmem := mem_of_lookup hl
      cases k with
      | free =>
        obtain ⟨h1, c, h2⟩ := I.kinds x (hok.free _ hmem rfl)
        rw [comp_kindOf, hl]
        refine ⟨?_, c, hcl x c hmem h2⟩
        simp only [Option.map_some]
        unfold relK
        split <;> rfl
      | cell => exact absurd rfl (hok.cell _ hmem)
      | _ => cases hx
  get := fun x v hl hg => by
    obtain ⟨b1, b2⟩ := bindT_get hb
    have hx0 : x ≠ ".0" := fun e => by rw [e, b1] at hg; cases hg
    unfold isL at hl
    cases hk' : sc'.names.lookup x with
    | none => rw [hk'] at hl; cases hl
    | some k =>
      rw [hk'] at hl
      have hmem := mem_of_lookup hk'
      cases k with
      | «local» =>
        have ht : x ∈ targets target := (hok.loc _ hmem rfl).1.resolve_left hx0
        obtain ⟨u, h1, h2⟩ := hm x v ht hg
        exact ⟨u, .inl ⟨by rw [comp_kindOf, hk']; rfl, m, hns, h1⟩, h2⟩
      | cell => exact absurd rfl (hok.cell _ hmem)
      | free =>
        have hcf := hok.free _ hmem rfl
        have hnt : x ∉ targets target := fun ht => by have := (hok.tgt x ht).2; rw [hk'] at this; cases this
        rw [b2 x hx0 hnt] at hg
        have hsl : isL sc x = true := by
          unfold isL
          cases h : sc.names.lookup x with
          | none => rw [h] at hcf; cases hcf
          | some k => cases k <;> first | rfl | (rw [h] at hcf; cases hcf)
        obtain ⟨u, h1, h2⟩ := I.get x v hsl hg
        obtain ⟨k1, c, k2⟩ := I.kinds x hcf
        refine ⟨u, .inr ⟨?_, ?_⟩, ?_⟩
        · rw [comp_kindOf, hk']
          simp only [Option.map_some]
          unfold relK
          split
          · exact .inl rfl
          · exact .inr rfl
        · rcases h1 with ⟨e, _⟩ | ⟨_, c', e1, e2⟩
          · rw [e] at k1; cases k1
          · exact ⟨c', hcl x c' hmem e1, e2.keeps hk⟩
        · cases v with
          | fz d => exact (show Rep prog w s.heap av u d from h2).mono (fun b o _ e => hk b o e) hav
          | own d => obtain ⟨a, e, r⟩ := h2; exact ⟨a, e, r.mono (fun b o _ e => hk b o e) hav fun o e => hk _ o e⟩
          | exc en => exact h2
      | _ => cases hl

end
end Mine

set_option maxRecDepth 100000
namespace Mine
open PySem

section
variable {prog : Program} {w : World} {mg mb : Str → Option Value}

theorem noted_of {A : Around} {env : Env} {s x s' en} {R : Value → Shared → Prop} (h : Raised s x s' en) : notedBy (model prog w) A env R x s' := h.elim

/-- names are given their values -/
theorem assign_targets {A : Around} {E : Value → Shared → Prop} {s : Shared} {env : Env} {target : Expr} {d : PyData} {σ σ' : Store} {avn : Addr → Prop} {v : Value} {m : Str → Option Value} {Q : Unit → Shared → Prop} (hh : A.handled = none)
    (hb : bindT target d σ = some σ') (hv : Rep prog w s.heap avn v d) (hC : avn env.locals) (hn : s.heap.Ns env.locals m) (hl : ∀ x ∈ targets target, x ≠ ".0" ∧ env.kindOf x = some .local) (h2 : ∀ x y, targets target = [x, y] → x ≠ y) (hf : env.scope.kind = .function)
    (h : ∀ h' tk m', h'.Ns env.locals m' → (∀ b o, b ≠ env.locals → s.heap.get? b = some o → h'.get? b = some o) → (∀ x v, x ∈ targets target → Store.get σ' x = some (some v) → ∃ u, m' x = some u ∧ RepS prog w h' avn u v) → Q () { s with heap := h', toks := tk }) :
    wpAny (model prog w) A (assign target env v) Q E s := by
  have hp : (env.scope.kind == .class || (env.scope.kind == .module && env.locals != env.globals)) = false := by rw [hf]; rfl
  have mono : ∀ {h1 h2 : Heap} {v : Value} {d : PyData}, Heap.SameBut env.locals h1 h2 → Rep prog w h1 avn v d → Rep prog w h2 avn v d := fun hs r =>
    r.mono (fun b o hb e => by rw [hs.2 b (fun x => hb (x ▸ hC))]; exact e) fun _ _ _ x => x
  unfold bindT at hb
  split at hb
  · rename_i x p
    cases hb
    obtain ⟨q1, q2⟩ := hl x (by simp [targets])
    refine wpAny_assign_Name (wpAny_storeName_local q2 hn (fun h' hn' hs' => ?_) hp)
    refine h h' _ _ hn' (fun b o hb e => by rw [hs'.2 b hb]; exact e) fun y u hy hg => ?_
    have hy : y = x := by simpa [targets] using hy
    subst hy
    rw [Store.get_cons_ne q1, Store.get_cons_eq] at hg
    cases hg
    exact ⟨v, by simp, mono hs' hv⟩
  · rename_i x p y q k r
    split at hb
    · rename_i a b
      cases hb
      obtain ⟨q1, q2⟩ := hl x (by simp [targets])
      obtain ⟨q3, q4⟩ := hl y (by simp [targets])
      have hxy : x ≠ y := h2 x y rfl
      cases hv with
      | @tuple ad vs ds g1 g2 g3 g4 g5 =>
        match vs, g3 with
        | [v1, v2], _ =>
          have r1 := g5 0 v1 a rfl rfl
          have r2 := g5 1 v2 b rfl rfl
          refine wpAny_assign_Tuple hh g2.isTuple rfl rfl fun h1 he => ?_
          have k1 : ∀ b o, s.heap.get? b = some o → h1.get? b = some o := fun b o e => he b o (ne_fresh e) e
          refine wpAny_assignInOrder_more (wpAny_assign_Name (wpAny_storeName_local q2 (hn.keeps k1) (fun h2 hn2 hs2 => ?_) hp))
          refine wpAny_assignInOrder_more (wpAny_assign_Name (wpAny_storeName_local q4 hn2 (fun h3 hn3 hs3 => ?_) hp))
          refine wpAny_assignInOrder_none ?_
          refine h h3 _ _ hn3 (fun b o hb e => by rw [hs3.2 b hb, hs2.2 b hb]; exact k1 b o e) fun z u hz hg => ?_
          have hz : z = x ∨ z = y := by simpa [targets] using hz
          rcases hz with rfl | rfl
          · rw [Store.get_cons_ne q1, Store.get_cons_ne hxy, Store.get_cons_eq] at hg
            cases hg
            exact ⟨v1, by simp [hxy], mono hs3 (mono hs2 (r1.keeps k1))⟩
          · rw [Store.get_cons_ne q3, Store.get_cons_eq] at hg
            cases hg
            exact ⟨v2, by simp, mono hs3 (mono hs2 (r2.keeps k1))⟩
    · cases hb
  · cases hb

/-- how far a comprehension has come -/
structure Fin' (prog : Program) (w : World) (s₂ : Shared) (wr avn : Addr → Prop) (D C : Addr) (xs : List PyData) (st : Shared) : Prop where
  same : ∃ h tk, st = { s₂ with heap := h, toks := tk }
  keep : ∀ b o, s₂.heap.get? b = some o → ¬ wr b → st.heap.get? b = some o
  ns : ∃ m, st.heap.Ns C m
  lst : ∃ ys : List Value, st.heap.PlainList D ys.toArray ∧ ys.length = xs.length ∧ ∀ (j : Nat) (v : Value) (d : PyData), ys[j]? = some v → xs[j]? = some d → Rep prog w st.heap avn v d

noncomputable def Tests (prog : Program) (w : World) (mg mb : Str → Option Value) (n : Nat) (sc : Scope) (σ : Store) (ifs : List Expr) (p : P Bool) : Prop :=
  ∀ (A : Around) (env : Env) (s : Shared) (av : Addr → Prop), Room n A → Inv0 prog w mg mb env sc σ av s →
    Yd (fun Q E => wpAny (model prog w) A (forIn ifs true fun c r => if r = true then do let ok ← isTrue c env (eval c env); pure (ForInStep.yield ok) else pure (ForInStep.yield r)) Q E s) (fun b s' t => Kp s s' ∧ b = t) (Raised s) p

theorem P.bind_ne_no {α β : Type} {x : P α} {f : α → P β} (h : x.bind f ≠ .no) : (∃ en, x = .err en) ∨ ∃ a, x = .ok a ∧ f a ≠ .no := by
  cases x with
  | no => exact absurd rfl h
  | err en => exact .inl ⟨en, rfl⟩
  | ok a => exact .inr ⟨a, rfl, h⟩

theorem comp_turns {n : Nat} {A : Around} {env : Env} {sc sc' : Scope} {σ : Store} {av : Addr → Prop} {s s₂ : Shared} {target elt iter : Expr} {ifs : List Expr} {pos : Pos} {cl : List (Str × Addr)} {it : Value} {h0 : Heap} {wr : Addr → Prop} {St : Nat → Heap → Prop} {ds : List PyData} {D C : Addr}
    {test : Store → P Bool} {eltF : Store → P V} (hA : Room n A) (I : Inv0 prog w mg mb env sc σ av s) (hok : CompOk sc sc' target) (hcl : ∀ x c, (x, NameKind.free) ∈ sc'.names → env.cells.lookup x = some c → cl.lookup x = some c)
    (hT : ∀ d σ', bindT target d σ = some σ' → Tests prog w mg mb n sc' σ' ifs (test σ')) (hE : ∀ d σ', bindT target d σ = some σ' → ESound prog w mg mb n sc' σ' elt (eltF σ'))
    (S : Src prog w A h0 av target it wr St ds) (hs2 : ∀ b o, s.heap.get? b = some o → s₂.heap.get? b = some o) (hwr : ∀ b, wr b → s.heap.get? b = none ∧ h0.get? b = none) (h02 : ∀ b o, h0.get? b = some o → s₂.heap.get? b = some o)
    (hD : s₂.heap.get? D = none) (hC : s₂.heap.get? C = none) (hDC : D ≠ C) (hlen : ds.length ≤ sizeLine) (hDwr : ¬ wr D) (hCwr : ¬ wr C)
    {R : Result → Shared → Prop} {res : P (List PyData)} (hres : res ≠ .no) (hR : match res with
      | .ok l => ∀ st', Fin' prog w s₂ wr (fun b => av b ∨ wr b ∨ b = D ∨ b = C) D C l st' → R (.ok .next) st'
      | .err en => ∀ x s', Raised s x s' en → R (.error x) s'
      | .no => True)
    {st : Shared} (h : ∃ (i : Nat) (xs : List PyData), i ≤ ds.length ∧ xs.length ≤ i ∧ Fin' prog w s₂ wr (fun b => av b ∨ wr b ∨ b = D ∨ b = C) D C xs st ∧ St i st.heap ∧ ((compF test eltF target σ (ds.drop i)).bind fun ys => .ok (xs ++ ys)) = res) :
    codeAny (model prog w) A (.compLoop (.ListComp elt [⟨target, iter, ifs, 0⟩] sc' pos) 0 it (.ref D) (compEnvC sc' cl C env)) R st := by
  obtain ⟨i, xs, hi, hx, F, hst, hp⟩ := h
  refine compLoop_go (I := fun k st => ∃ (i : Nat) (xs : List PyData), i + k = ds.length ∧ xs.length ≤ i ∧ Fin' prog w s₂ wr (fun b => av b ∨ wr b ∨ b = D ∨ b = C) D C xs st ∧ St i st.heap ∧ ((compF test eltF target σ (ds.drop i)).bind fun ys => .ok (xs ++ ys)) = res) ?_ (ds.length - i)
    ⟨i, xs, by omega, hx, F, hst, hp⟩
  clear hi hx F hst hp i xs st
  rintro k st ⟨i, xs, hi, hx, F, hst, hp⟩
  obtain ⟨⟨hh, tt, rfl⟩, keep, ⟨m, hns⟩, ys, hpl, hyl, hys⟩ := F
  have live : ∀ b, (av b ∨ wr b ∨ b = D ∨ b = C) → ∃ o, hh.get? b = some o := fun b hb => by
    rcases hb with hb | hb | rfl | rfl
    · obtain ⟨o, e⟩ := I.avlt b hb
      refine ⟨o, keep b o (hs2 b o e) fun hw => ?_⟩
      rw [(hwr b hw).1] at e; cases e
    · exact S.live i _ hst b hb
    · obtain ⟨nn, e⟩ := hpl; exact ⟨_, e⟩
    · obtain ⟨o, _, _, e, _⟩ := hns; exact ⟨o, e⟩
  by_cases hend : i = ds.length
  · subst hend
    rw [List.drop_length] at hp
    have hp : P.ok (xs ++ []) = res := hp
    rw [List.append_nil] at hp
    subst hp
    refine wpAny_mono (S.done { s₂ with heap := hh, toks := tt } _ (fun s' => R (.ok .next) s') hst fun h' tk hk => hR _ ⟨⟨h', tk, rfl⟩, fun b o e hb => hk b o hb (keep b o e hb), ⟨m, ?_⟩, ys, ?_, hyl, ?_⟩) (fun r s₁ h₁ => ?_) fun _ _ x => x
    · exact hns.at' fun o e => hk C o hCwr e
    · exact hpl.at fun o e => hk D o hDwr e
    · intro j v d e1 e2
      exact (hys j v d e1 e2).mono (fun b o hb e => hk b o (fun hw => hb (.inr (.inl hw))) e) fun _ _ _ x => x
    · cases r with
      | none => exact h₁
      | some v => exact h₁.elim
  · have hlt : i < ds.length := by omega
    have hd : ds[i]? = some ds[i] := List.getElem?_eq_getElem hlt
    rw [List.drop_eq_getElem_cons hlt] at hp
    have hu : compF test eltF target σ (ds[i] :: ds.drop (i + 1)) = match bindT target ds[i] σ with
      | none => .no
      | some σ' => (test σ').bind fun b => if b then (eltF σ').bind fun v => (dOf v).bind fun x => (compF test eltF target σ (ds.drop (i + 1))).bind fun xs => .ok (x :: xs) else compF test eltF target σ (ds.drop (i + 1)) := rfl
    rw [hu] at hp
    cases hb : bindT target ds[i] σ with
    | none => rw [hb] at hp; exact absurd hp.symm hres
    | some σ' =>
      rw [hb] at hp
      have hp : ((test σ').bind fun b => if b then (eltF σ').bind fun v => (dOf v).bind fun x => (compF test eltF target σ (ds.drop (i + 1))).bind fun xs => .ok (x :: xs) else compF test eltF target σ (ds.drop (i + 1))).bind (fun ys => .ok (xs ++ ys)) = res := hp
      refine wpAny_mono (S.item i ds[i] { s₂ with heap := hh, toks := tt } _ ?QQ hd hst ?body) ?link fun _ _ x => x
      case link =>
        intro r s₁ h₁
        cases r with
        | none => exact h₁.elim
        | some v => exact h₁
      intro v h1 tk1 hk1 st1 hrep
      have rv := hrep (fun b => av b ∨ wr b ∨ b = D ∨ b = C) live (fun b o e hb => by
        rcases hb with hb | hb | rfl | rfl
        · exact hb
        · rw [(hwr b hb).2] at e; cases e
        · rw [h02 _ _ e] at hD; cases hD
        · rw [h02 _ _ e] at hC; cases hC)
      have hloc : (compEnvC sc' cl C env).locals = C := rfl
      refine assign_targets hA.handled hb rv (.inr (.inr (.inr rfl))) (hns.at' fun o e => hk1 C o hCwr e) (fun x hx => ⟨(hok.tgt x hx).1, by rw [comp_kindOf, (hok.tgt x hx).2]; rfl⟩) hok.two hok.kind fun h2 tk2 m2 hn2 hk2 hm2 => ?_
      -- where we are now
      have keep2 : ∀ b o, s₂.heap.get? b = some o → ¬ wr b → h2.get? b = some o := fun b o e hb => hk2 b o (fun x => by rw [x, hloc, hC] at e; cases e) (hk1 b o hb (keep b o e hb))
      have st2 : St (i + 1) h2 := S.frame _ _ _ st1 (fun b o hb e => hk2 b o (fun x => hCwr (hloc ▸ x ▸ hb)) e) fun b o e hav => keep2 b o (h02 b o e) fun hw => by rw [(hwr b hw).2] at e; cases e
      have pl2 : h2.PlainList D ys.toArray := hpl.at fun o e => hk2 D o (fun x => hDC x) (hk1 D o hDwr e)
      have ys2 : ∀ (j : Nat) (v : Value) (d : PyData), ys[j]? = some v → xs[j]? = some d → Rep prog w h2 (fun b => av b ∨ wr b ∨ b = D ∨ b = C) v d := fun j v d e1 e2 =>
        (hys j v d e1 e2).mono (fun b o hb e => hk2 b o (fun x => hb (.inr (.inr (.inr x)))) (hk1 b o (fun hw => hb (.inr (.inl hw))) e)) fun _ _ _ x => x
      have ks2 : ∀ b o, s.heap.get? b = some o → h2.get? b = some o := fun b o e => keep2 b o (hs2 b o e) fun hw => by rw [(hwr b hw).1] at e; cases e
      have live2 : ∀ b, (av b ∨ wr b ∨ b = D ∨ b = C) → ∃ o, h2.get? b = some o := fun b hb => by
        rcases hb with hb | hb | rfl | rfl
        · obtain ⟨o, e⟩ := I.avlt b hb; exact ⟨o, ks2 b o e⟩
        · exact S.live _ _ st2 b hb
        · obtain ⟨nn, e⟩ := pl2; exact ⟨_, e⟩
        · obtain ⟨o, _, _, e, _⟩ := hn2; exact ⟨o, e⟩
      have I2 : Inv0 prog w mg mb (compEnvC sc' cl C env) sc' σ' (fun b => av b ∨ wr b ∨ b = D ∨ b = C) { s₂ with heap := h2, toks := tk2 } :=
        I.comp hok hb hcl ks2 (fun b o e hb => by
          rcases hb with hb | hb | rfl | rfl
          · exact hb
          · rw [(hwr b hb).1] at e; cases e
          · rw [hs2 _ _ e] at hD; cases hD
          · rw [hs2 _ _ e] at hC; cases hC) (.inl I.avS) live2 hn2 hm2
      have T := hT _ _ hb A _ _ _ hA I2
      cases htest : test σ' with
      | no => rw [htest] at hp; exact absurd hp.symm hres
      | err en =>
        rw [htest] at T
        exact T _ _ fun x s' r => noted_of r
      | ok b =>
        rw [htest] at hp T
        refine T _ _ fun b' s₃ r => ?_
        obtain ⟨k3, rfl⟩ := r
        obtain ⟨h3, tk3, rfl, kk3⟩ := k3
        have keep3 : ∀ b o, s₂.heap.get? b = some o → ¬ wr b → h3.get? b = some o := fun b o e hb => kk3 b o (keep2 b o e hb)
        have st3 : St (i + 1) h3 := S.frame _ _ _ st2 (fun b o hb e => kk3 b o e) fun b o e hav => keep3 b o (h02 b o e) fun hw => by rw [(hwr b hw).2] at e; cases e
        cases b' with
        | false =>
          have hp : (compF test eltF target σ (ds.drop (i + 1))).bind (fun ys => .ok (xs ++ ys)) = res := hp
          exact ⟨k - 1, by omega, i + 1, xs, by omega, by omega, ⟨⟨h3, tk3, rfl⟩, keep3, ⟨m2, hn2.keeps kk3⟩, ys, pl2.at fun o e => kk3 _ _ e, hyl, fun j v d e1 e2 => (ys2 j v d e1 e2).keeps kk3⟩, st3, hp⟩
        | true =>
          have I3 := I2.keeps ⟨h3, tk3, rfl, kk3⟩
          have X := hE _ _ hb A _ _ _ hA I3
          have hp : ((eltF σ').bind fun v => (dOf v).bind fun x => (compF test eltF target σ (ds.drop (i + 1))).bind fun xs => .ok (x :: xs)).bind (fun ys => .ok (xs ++ ys)) = res := hp
          show wpAny _ A (eval elt _) _ _ _
          cases helt : eltF σ' with
          | no => rw [helt] at hp; exact absurd hp.symm hres
          | err en =>
            rw [helt] at X
            exact X _ _ fun x s' r => noted_of r
          | ok u =>
            rw [helt] at hp X
            refine X _ _ fun xv s₄ r => ?_
            have hp : ((dOf u).bind fun x => (compF test eltF target σ (ds.drop (i + 1))).bind fun xs => .ok (x :: xs)).bind (fun ys => .ok (xs ++ ys)) = res := hp
            cases hdo : dOf u with
            | no => rw [hdo] at hp; exact absurd hp.symm hres
            | err en => exact absurd hdo (dOf_noerr u en)
            | ok x =>
              rw [hdo] at hp
              have rx := r.2.rep I3.avlt hdo
              obtain ⟨⟨h4, tk4, rfl, kk4⟩, _⟩ := r
              have pl4 : h4.PlainList D ys.toArray := pl2.at fun o e => kk4 _ _ (kk3 _ _ e)
              refine wpAny_list_append_plain pl4 (fun h5 pl5 hs5 => ?_) (by simp; omega)
              have hp : (compF test eltF target σ (ds.drop (i + 1))).bind (fun ys => .ok ((xs ++ [x]) ++ ys)) = res := by
                rw [← hp]
                cases compF test eltF target σ (ds.drop (i + 1)) with
                | ok l => show P.ok _ = P.ok _; simp
                | _ => rfl
              have k45 : ∀ b o, ¬ (av b ∨ wr b ∨ b = D ∨ b = C) → h4.get? b = some o → h5.get? b = some o := fun b o hb e => by rw [hs5.2 b fun x => hb (.inr (.inr (.inl x)))]; exact e
              refine ⟨k - 1, by omega, i + 1, xs ++ [x], by omega, by simp; omega, ⟨⟨h5, tk4, rfl⟩, fun b o e hb => ?_, ⟨m2, ?_⟩, ys ++ [xv], by simpa using pl5, by simp [hyl], fun j v d e1 e2 => ?_⟩, ?_, hp⟩
              · show h5.get? b = some o
                rw [hs5.2 b fun x => by rw [x, hD] at e; cases e]
                exact kk4 b o (keep3 b o e hb)
              · exact (hn2.keeps fun b o e => kk4 b o (kk3 b o e)).at' fun o e => by show h5.get? C = some o; rw [hs5.2 _ (fun x => hDC x.symm)]; exact e
              · refine Rep.mono k45 (fun _ _ _ x => x) ?_
                rw [List.getElem?_append] at e1 e2
                split at e1
                · rename_i hj
                  rw [if_pos (by omega)] at e2
                  exact (ys2 j v d e1 e2).keeps fun b o e => kk4 b o (kk3 b o e)
                · rename_i hj
                  rw [if_neg (by omega), ← hyl] at e2
                  cases hjj : j - ys.length with
                  | zero =>
                    rw [hjj] at e1 e2
                    simp at e1 e2
                    subst e1; subst e2
                    exact rx
                  | succ q => rw [hjj] at e1; simp at e1
              · refine S.frame _ _ _ st3 (fun b o hb e => ?_) fun b o e hav => ?_
                · rw [hs5.2 b fun x => hDwr (x ▸ hb)]; exact kk4 b o e
                · rw [hs5.2 b fun x => by rw [x] at e; rw [h02 _ _ e] at hD; cases hD]
                  exact kk4 b o (keep3 b o (h02 b o e) fun hw => by rw [(hwr b hw).2] at e; cases e)

end
end Mine

set_option maxRecDepth 100000
namespace Mine
open PySem

section
variable {prog : Program} {w : World} {mg mb : Str → Option Value}

theorem compF_length {test : Store → P Bool} {eltF : Store → P V} {target : Expr} {σ : Store} : ∀ {ds l : List PyData}, compF test eltF target σ ds = .ok l → l.length ≤ ds.length
  | [], l, h => by cases h; exact Nat.le_refl _
  | d :: ds, l, h => by
    have h : (match bindT target d σ with
      | none => P.no
      | some σ' => (test σ').bind fun b => if b then (eltF σ').bind fun v => (dOf v).bind fun x => (compF test eltF target σ ds).bind fun xs => .ok (x :: xs) else compF test eltF target σ ds) = .ok l := h
    split at h
    · cases h
    · obtain ⟨b, _, h⟩ := P.bind_ok h
      split at h
      · obtain ⟨_, _, h⟩ := P.bind_ok h
        obtain ⟨_, _, h⟩ := P.bind_ok h
        obtain ⟨xs, h1, h⟩ := P.bind_ok h
        cases h
        have := compF_length h1
        simp; omega
      · have := compF_length h
        simp; omega

/-- a comprehension, up to what becomes of its list -/
theorem comp_gen {n : Nat} {A : Around} {env : Env} {sc sc' : Scope} {σ : Store} {av : Addr → Prop} {s : Shared} {target elt iter : Expr} {ifs : List Expr} {pos cpos : Pos}
    {test : Store → P Bool} {eltF : Store → P V} {q : P (List PyData)} {use : Option (Value → Sem Unit)} (hA : Room n A) (I : Inv0 prog w mg mb env sc σ av s) (hok : CompOk sc sc' target) (hset : ∀ es k p, iter ≠ .Set es k p)
    (hI : ISound prog w mg mb n sc σ target iter q)
    (hT : ∀ d σ', bindT target d σ = some σ' → Tests prog w mg mb n sc' σ' ifs (test σ')) (hE : ∀ d σ', bindT target d σ = some σ' → ESound prog w mg mb n sc' σ' elt (eltF σ'))
    {Q : Value → Shared → Prop} {E : Value → Shared → Prop} {res : P (List PyData)} (hr : (q.bind fun l => compF test eltF target σ l) = res) (hres : res ≠ .no) (hq : match res with
      | .ok l => ∀ s₂ wr D C st', Kp s s₂ → (∀ b, wr b → s.heap.get? b = none) → s₂.heap.get? D = none → s₂.heap.get? C = none → D ≠ C → Fin' prog w s₂ wr (fun b => av b ∨ wr b ∨ b = D ∨ b = C) D C l st' → l.length ≤ sizeLine → compPost (model prog w) A E use Q (.ref D) C (.ok .next) st'
      | .err en => ∀ x s', Raised s x s' en → E x s'
      | .no => True) :
    wpAny (model prog w) A (comprehension (.ListComp elt [⟨target, iter, ifs, 0⟩] sc' pos) sc' env cpos (newList []) false (eval iter env) use) Q E s := by
  obtain ⟨cl, hclos, hcl⟩ := closure_of (env := env) (scope := sc') fun p hp hk => (I.kinds p.1 (hok.free p hp hk)).2
  have hs : ∀ x, foldedSetIterable iter env x = pure x := fun x => by
    unfold foldedSetIterable
    cases iter <;> first | rfl | exact absurd rfl (hset _ _ _)
  refine wpAny_comprehension_free (g := ⟨target, iter, ifs, 0⟩) (gs := []) rfl hs hclos hok.kind (fun p hp hk => (hok.loc p hp hk).2) ?_
  have hI' := hI A env s av hA I
  cases hq' : q with
  | no => rw [hq'] at hr; exact absurd hr.symm hres
  | err en =>
    rw [hq'] at hr hI'
    have hr : P.err en = res := hr
    subst hr
    exact hI' _ E hq
  | ok ds =>
    rw [hq'] at hr hI'
    have hr : compF test eltF target σ ds = res := hr
    refine hI' _ E fun it s₂ r => ?_
    obtain ⟨k2, h0, wr, St, S, hst, hwr, hs0, h02, hlen⟩ := r
    refine wpAny_newObj_type (wpAny_newFunctionEnv hok.cell (by intro y hy; simp at hy) (fun h₁ hns₁ hsb₁ => ?_) hok.kind)
    dsimp only at hns₁ hsb₁ ⊢
    generalize hH2 : s₂.heap.push { cls := .type "list", dict := none, data := .seq ([] : List Value).toArray } = H2 at hns₁ hsb₁ ⊢
    have hC : H2.objs.size = s₂.heap.objs.size + 1 := by rw [← hH2, Heap.size_push]
    have hDC : s₂.heap.objs.size ≠ H2.objs.size := by rw [hC]; exact Nat.ne_of_lt (Nat.lt_succ_self _)
    have below : ∀ b, b < s₂.heap.objs.size → b ≠ H2.objs.size := fun b hb => by rw [hC]; exact Nat.ne_of_lt (Nat.lt_succ_of_lt hb)
    have old : ∀ b o, s₂.heap.get? b = some o → h₁.get? b = some o := fun b o e => hsb₁.extBut b o (below b (Heap.lt_size e)) (Heap.get?_push_of_some _ (hH2 ▸ Heap.get?_push_of_some _ e))
    have hacc : h₁.PlainList s₂.heap.objs.size #[] := ⟨_, hsb₁.extBut _ _ hDC (Heap.get?_push_of_some _ (hH2 ▸ Heap.get?_push_size _ rfl))⟩
    have hDn : s₂.heap.get? s₂.heap.objs.size = none := fresh_none _
    have hCn : s₂.heap.get? H2.objs.size = none := Heap.get?_none_of_le (by rw [hC]; exact Nat.le_succ _)
    have hst₁ : St 0 h₁ := S.frame _ _ _ hst (fun b o _ e => old b o e) fun b o e _ => old b o (h02 b o e)
    have loop : ∀ s₃ : Shared, s₃ = { s₂ with heap := h₁, toks := s₂.toks + ([] : List (Str × Value)).length } →
        codeAny (model prog w) A (.compLoop (.ListComp elt [⟨target, iter, ifs, 0⟩] sc' pos) 0 it (.ref s₂.heap.objs.size) (compEnvC sc' cl H2.objs.size env)) (compPost (model prog w) A E use Q (.ref s₂.heap.objs.size) H2.objs.size) s₃ := by
      rintro s₃ rfl
      refine comp_turns (s := s) (s₂ := s₂) hA I hok hcl hT hE S k2.heap (fun b hb => ⟨(hwr b hb).1, (hwr b hb).2.1⟩) h02 hDn hCn hDC hlen (fun hw => ?_) (fun hw => ?_) hres ?_ ⟨0, [], by omega, by simp, ⟨⟨_, _, rfl⟩, fun b o e _ => old b o e, ⟨_, hns₁⟩, [], hacc, rfl, fun j v d e => by simp at e⟩, hst₁, ?_⟩
      · obtain ⟨o, e⟩ := (hwr _ hw).2.2; rw [hDn] at e; cases e
      · obtain ⟨o, e⟩ := (hwr _ hw).2.2; rw [hCn] at e; cases e
      · cases res with
        | no => exact absurd rfl hres
        | err en => exact fun x s' r => r.elim
        | ok l => exact fun st' F => hq s₂ wr _ _ st' k2 (fun b hb => (hwr b hb).1) hDn hCn hDC F (Nat.le_trans (compF_length hr) hlen)
      · rw [List.drop_zero, hr]
        cases res <;> rfl
    exact codeAny_compStart_list (loop _ rfl) (S.self 0 _ _ _ hst₁ (loop _ rfl))

/-- what a comprehension leaves -/
theorem fin_rep {av : Addr → Prop} {s s₂ : Shared} {wr : Addr → Prop} {D C : Addr} {l : List PyData} {st : Shared} {h' : Heap} (k2 : Kp s s₂) (hwr : ∀ b, wr b → s.heap.get? b = none) (hD : s₂.heap.get? D = none) (hC : s₂.heap.get? C = none) (hDC : D ≠ C)
    (F : Fin' prog w s₂ wr (fun b => av b ∨ wr b ∨ b = D ∨ b = C) D C l st) (hl : l.length ≤ sizeLine) (hs : Heap.SameBut C st.heap h') : Kp s { st with heap := h' } ∧ RepV prog w s h' av (.ref D) (.own (.list l)) := by
  obtain ⟨⟨hh, tt, rfl⟩, keep, _, ys, hpl, hyl, hys⟩ := F
  have hsD : s.heap.get? D = none := by
    cases e : s.heap.get? D with
    | none => rfl
    | some o => rw [k2.heap _ _ e] at hD; cases hD
  have hk : ∀ b o, s.heap.get? b = some o → h'.get? b = some o := fun b o e => by
    rw [hs.2 b fun x => by rw [x] at e; rw [k2.heap _ _ e] at hC; cases hC]
    exact keep b o (k2.heap b o e) fun hw => by rw [hwr b hw] at e; cases e
  refine ⟨?_, D, rfl, hsD, ys, hpl.at fun o e => by rw [hs.2 _ hDC]; exact e, hyl, by rw [hyl]; exact hl, fun j v d e1 e2 => ?_⟩
  · obtain ⟨h2, t2, rfl, kk⟩ := k2
    exact ⟨h', tt, rfl, hk⟩
  · refine (hys j v d e1 e2).mono (fun b o hb e => ?_) fun b o _ hb => ?_
    · rw [hs.2 b fun x => hb (.inr (.inr (.inr x)))]; exact e
    · rcases hb with hb | hb
      · exact .inl hb
      · exact .inr (.inr (.inl hb))


theorem tests_nil {n : Nat} {sc : Scope} {σ : Store} : Tests prog w mg mb n sc σ [] (.ok true) := fun A env s av _ _ Q E hq => wpAny_tests_nil (hq _ _ ⟨Kp.rfl' s, rfl⟩)

theorem tests_one {n : Nat} {sc : Scope} {σ : Store} {c : Expr} {p : P V} (h : TSound prog w mg mb n sc σ c p) : Tests prog w mg mb n sc σ [c] (p.bind truthV) := fun A env s av hA I =>
  (h A env s av hA I).mono (fun _ _ x => wpAny_tests_one x) (fun _ _ _ _ r => r) fun _ _ _ x => x

theorem sound_Comp {n : Nat} {rec : Scope → Store → Expr → P V} {sc sc' : Scope} {σ : Store} {elt : Expr} {g : Comprehension} {pos : Pos} (hstar : ∀ e pos, rec sc σ (.Starred e pos) = .no) (hset : ∀ es k p, rec sc σ (.Set es k p) = .no)
    (hit : ESound prog w mg mb n sc σ g.iter (rec sc σ g.iter)) (hsub : ∀ f as kws q, g.iter = .Call f as kws q → ∀ a ∈ as, ESound prog w mg mb n sc σ a (rec sc σ a))
    (hT : ∀ c ∈ g.ifs, ∀ σ', TSound prog w mg mb n sc' σ' c (rec sc' σ' c)) (hE : ∀ σ', ESound prog w mg mb n sc' σ' elt (rec sc' σ' elt)) :
    ESound prog w mg mb n sc σ (.ListComp elt [g] sc' pos) (evComp rec sc σ elt g sc') := by
  intro A env s av hA I
  unfold evComp
  split
  · rename_i hc
    simp only [Bool.and_eq_true, beq_iff_eq] at hc
    obtain ⟨target, iter, ifs, as⟩ := g
    obtain ⟨c1, c2⟩ := hc
    have c2 : as = 0 := c2
    subst c2
    have hI := sound_evIter (target := target) hstar hit hsub
    by_cases hS : ∃ es k p, iter = .Set es k p
    · obtain ⟨es, k, p, rfl⟩ := hS
      have : evIter (rec sc σ) sc target (.Set es k p) = .no := by
        show evPlain _ _ = _
        unfold evPlain; rw [hset]; rfl
      show Yd _ _ _ (match testOf rec sc' ifs with
        | none => .no
        | some t => ((evIter (rec sc σ) sc target (.Set es k p)).bind fun l => compF t (fun σ' => rec sc' σ' elt) target σ l).bind fun r => own (.list r))
      rw [this]
      cases testOf rec sc' ifs <;> exact trivial
    have hS' : ∀ es k p, iter ≠ .Set es k p := fun es k p x => hS ⟨es, k, p, x⟩
    show Yd _ _ _ (match testOf rec sc' ifs with
        | none => .no
        | some t => ((evIter (rec sc σ) sc target iter).bind fun l => compF t (fun σ' => rec sc' σ' elt) target σ l).bind fun r => own (.list r))
    cases htt : testOf rec sc' ifs with
    | none => exact trivial
    | some t =>
      have hT' : ∀ d σ', bindT target d σ = some σ' → Tests prog w mg mb n sc' σ' ifs (t σ') := fun d σ' _ => by
        match ifs, htt, hT with
        | [], htt, _ => cases htt; exact tests_nil
        | [c], htt, hT => cases htt; exact tests_one (hT c (by simp) σ')
        | _ :: _ :: _, htt, _ => cases htt
      show Yd _ _ _ (((evIter (rec sc σ) sc target iter).bind fun l => compF t (fun σ' => rec sc' σ' elt) target σ l).bind fun r => own (.list r))
      have gen := fun (Q : Value → Shared → Prop) E res hr hres hq => comp_gen (use := none) (pos := pos) (cpos := firstIterPos [⟨target, iter, ifs, 0⟩] pos) (Q := Q) (E := E) (res := res) hA I (compOk_out c1) hS' hI hT' (fun d σ' _ => hE σ') hr hres hq
      cases hres : (evIter (rec sc σ) sc target iter).bind fun l => compF t (fun σ' => rec sc' σ' elt) target σ l with
      | no => exact trivial
      | err en => exact fun Q E hx => by rw [eval_ListComp]; exact gen Q E _ hres nofun hx
      | ok l =>
        intro Q E hq
        rw [eval_ListComp]
        refine gen Q E _ hres nofun ?_
        intro s₂ wr D C st' k2 hwr hD hC hDC F hl
        obtain ⟨m, hn⟩ := F.ns
        exact ⟨m, hn, fun h' hs => hq _ _ (fin_rep k2 hwr hD hC hDC F hl hs)⟩
  · exact trivial

end
end Mine

set_option maxRecDepth 100000
namespace Mine
open PySem

section
variable {prog : Program} {w : World} {mg mb : Str → Option Value}

/-- all that one layer tells -/
theorem sound_stepE {n : Nat} {K : Ctx} (hK : KSound prog w mg mb n K) {rec : Scope → Store → Expr → P V} (hstar : ∀ sc σ e pos, rec sc σ (.Starred e pos) = .no) (hset : ∀ sc σ es k pos, rec sc σ (.Set es k pos) = .no)
    (ih : ∀ sc σ e, ESound prog w mg mb n sc σ e (rec sc σ e) ∧ TSound prog w mg mb n sc σ e (rec sc σ e)) (sc : Scope) (σ : Store) (e : Expr) : ESound prog w mg mb n sc σ e (stepE rec K sc σ e) ∧ TSound prog w mg mb n sc σ e (stepE rec K sc σ e) := by
  have hE : ∀ e, ESound prog w mg mb n sc σ e (rec sc σ e) := fun e => (ih sc σ e).1
  have hT : ∀ e, TSound prog w mg mb n sc σ e (rec sc σ e) := fun e => (ih sc σ e).2
  have tv : ∀ {e p}, ESound prog w mg mb n sc σ e p → (∀ env whole, PySem.isTrue e env whole = (do let v ← whole; standAt e.pos; holding [v] (truthy v))) → ESound prog w mg mb n sc σ e p ∧ TSound prog w mg mb n sc σ e p := fun h he => ⟨h, test_value h he⟩
  have tn : ∀ {e}, ESound prog w mg mb n sc σ e .no ∧ TSound prog w mg mb n sc σ e .no := ⟨fun _ _ _ _ _ _ => trivial, fun _ _ _ _ _ _ => trivial⟩
  cases e with
  | Constant c k p => exact tv sound_Const fun _ _ => rfl
  | Name x p => exact tv (sound_Name hK.const) fun _ _ => rfl
  | BoolOp op vs p =>
    cases op with
    | And => exact ⟨fun A env s av hA I => sound_And (fun e _ => hE e) hA I, fun A env s av hA I => test_And (fun e _ => hT e) hA I⟩
    | Or => exact ⟨fun A env s av hA I => sound_Or (fun e _ => hE e) hA I, fun A env s av hA I => test_Or (fun e _ => hT e) hA I⟩
  | BinOp l op r p => exact tv (sound_BinOp (hE l) (hE r)) fun _ _ => rfl
  | UnaryOp op x p =>
    refine ⟨sound_Un (hE x), ?_⟩
    cases op with
    | Not => exact test_Not (hT x)
    | _ => exact test_value (sound_Un (hE x)) fun _ _ => rfl
  | IfExp t b o p => exact ⟨sound_If (hT t) (hE b) (hE o), test_IfExp (hT t) (hT b) (hT o)⟩
  | Dict ks vs p => exact tv (sound_Dict (fun k _ => hE k) fun e _ => hE e) fun _ _ => rfl
  | List es p => exact tv (sound_List (hstar sc σ) fun e _ => hE e) fun _ _ => rfl
  | Tuple es k p => exact tv (sound_Tuple (hstar sc σ) fun e _ => hE e) fun _ _ => rfl
  | ListComp elt gens sc' p =>
    match gens with
    | [g] => exact tv (sound_Comp (hstar sc σ) (hset sc σ) (hE _) (fun _ _ _ _ _ a _ => hE a) (fun c _ σ' => (ih sc' σ' c).2) fun σ' => (ih sc' σ' elt).1) fun _ _ => rfl
    | [] => exact tn
    | _ :: _ :: _ => exact tn
  | Compare l ops es p => exact ⟨sound_Compare (hset sc σ) (hE l) fun e _ => hE e, test_Compare (hset sc σ) (hE l) fun e _ => hE e⟩
  | Subscript o i p => exact tv (sound_Sub (hE o) (hE i) fun lo hi st p _ => ⟨fun x _ => hE x, fun x _ => hE x⟩) fun _ _ => rfl
  | Call f as kws p =>
    cases kws with
    | cons => exact tn
    | nil =>
      cases f with
      | Attribute o m ap => exact tv (sound_Method (hstar sc σ) (hE o) fun e _ => hE e) fun _ _ => rfl
      | Name f q => exact tv (sound_CallName hK (hstar sc σ) fun e _ => hE e) fun _ _ => rfl
      | _ => exact tn
  | _ => exact tn

theorem sound_evE {n : Nat} {K : Ctx} (hK : KSound prog w mg mb n K) : ∀ (k : Nat) (sc : Scope) (σ : Store) (e : Expr), ESound prog w mg mb n sc σ e (evE K k sc σ e) ∧ TSound prog w mg mb n sc σ e (evE K k sc σ e)
  | 0, _, _, _ => ⟨fun _ _ _ _ _ _ => trivial, fun _ _ _ _ _ _ => trivial⟩
  | k + 1, sc, σ, e => by
    refine sound_stepE hK (rec := evE K k) (fun sc σ e pos => ?_) (fun sc σ es k' pos => ?_) (fun sc σ e => sound_evE hK k sc σ e) sc σ e
    · cases k <;> rfl
    · cases k <;> rfl

end
end Mine

namespace Mine
open PySem

/-- the names that a value may leave by -/
noncomputable def esc : Nat → Expr → List Str
  | 0, _ => []
  | k + 1, e =>
    match e with
    | .Name x _ => [x]
    | .BoolOp _ vs _ => vs.flatMap (esc k)
    | .BinOp l _ r _ => esc k l ++ esc k r
    | .UnaryOp _ x _ => esc k x
    | .IfExp a b c _ => esc k a ++ esc k b ++ esc k c
    | .Dict ks vs _ => ks.flatMap (fun o => match o with | some k' => esc k k' | none => []) ++ vs.flatMap (esc k)
    | .List es _ => es.flatMap (esc k)
    | .Tuple es _ _ => es.flatMap (esc k)
    | .ListComp elt gens _ _ => esc k elt ++ gens.flatMap fun g => esc k g.iter ++ g.ifs.flatMap (esc k)
    | .Compare l _ es _ => esc k l ++ es.flatMap (esc k)
    | .Subscript (.Name _ _) i _ => esc k i
    | .Subscript o i _ => esc k o ++ esc k i
    | .Slice a b _ _ => (match a with | some a => esc k a | none => []) ++ (match b with | some b => esc k b | none => [])
    | .Attribute o _ _ => esc k o
    | .Call f as _ _ => (match f with | .Attribute o _ _ => esc k o | _ => []) ++ as.flatMap (esc k)
    | _ => []

inductive Fl where
  | next
  | ret (v : V)

noncomputable def setName (x : Str) (v : V) (σ : Store) : P Store :=
  match Store.get σ x with
  | some _ => .ok (Store.set σ x v)
  | none => .no

noncomputable def assignT (target : Expr) (d : PyData) (σ : Store) : P Store :=
  match target with
  | .Name x _ => setName x (.fz d) σ
  | .Tuple [.Name x _, .Name y _] _ _ => match d with | .tuple [a, b] => (setName x (.fz a) σ).bind (setName y (.fz b)) | _ => .no
  | _ => .no

noncomputable def forF (body : Store → P (Fl × Store)) (target : Expr) : List PyData → Store → P (Fl × Store)
  | [], σ => .ok (.next, σ)
  | d :: r, σ => (assignT target d σ).bind fun σ => (body σ).bind fun fs => match fs.1 with
    | .next => forF body target r fs.2
    | .ret v => .ok (.ret v, fs.2)

/-- an item is set in an object of the activation's own -/
noncomputable def setItem (o : PyData) (i d : PyData) : P PyData :=
  match o, i with
  | .dict l, .str k => if strKeys l && decide (l.length < strN) then .ok (.dict (dSet l k d)) else .no
  | .list l, .int k => if 0 ≤ k ∧ k < l.length then .ok (.list (l.set k.toNat d)) else .no
  | _, _ => .no

noncomputable def getOwn (σ : Store) (x : Str) : P PyData :=
  match Store.get σ x with
  | some (some (.own d)) => .ok d
  | _ => .no

noncomputable def evBlk (rec : Store → Stmt → P (Fl × Store)) : List Stmt → Store → P (Fl × Store)
  | [], σ => .ok (.next, σ)
  | s :: r, σ => (rec σ s).bind fun fs => match fs.1 with
    | .next => evBlk rec r fs.2
    | .ret v => .ok (.ret v, fs.2)

noncomputable def mutOk (m : Str) : PyData → Bool
  | .list _ => decide (m = "append")
  | .dict l => decide (m = "pop") && strKeys l
  | _ => false

noncomputable def mutate (o : PyData) (as : List PyData) : P PyData :=
  match o, as with
  | .list l, [d] => if l.length < strN then .ok (.list (l ++ [d])) else .no
  | .dict l, [.str k] => if (dGet l k).isSome then .ok (.dict (dDel l k)) else .no
  | _, _ => .no

noncomputable def nameOf : Expr → Option Str
  | .Name x _ => some x
  | _ => none

inductive Tg where
  | name (x : Str)
  | sub (x : Str) (i : Expr)
  | other

noncomputable def tgt : Expr → Tg
  | .Name x _ => .name x
  | .Subscript (.Name x _) i _ => .sub x i
  | _ => .other

/-- a method called of a name -/
noncomputable def mcall : Expr → Option (Str × Str × Pos × List Expr × Pos)
  | .Call (.Attribute (.Name x _) m ap) as [] cp => some (x, m, ap, as, cp)
  | _ => none

noncomputable def isComp : Expr → Bool
  | .ListComp _ _ _ _ => true
  | .SetComp _ _ _ _ => true
  | .DictComp _ _ _ _ _ => true
  | _ => false

noncomputable def isSlice : Expr → Bool
  | .Slice _ _ _ _ => true
  | _ => false

noncomputable def evRet (F : Nat) (K : Ctx) (sc : Scope) (σ : Store) (e : Expr) : P (Fl × Store) :=
  match nameOf e with
  | some x => (match Store.get σ x with
    | some (some (.own d)) => if isL sc x then .ok (.ret (.own d), σ) else .no
    | _ => (evE K F sc σ e).bind fun v => .ok (.ret v, σ))
  | none => (evE K F sc (Store.clear σ (esc F e)) e).bind fun v => .ok (.ret v, Store.clear σ (esc F e))

noncomputable def evSetSub (F : Nat) (K : Ctx) (sc : Scope) (σ : Store) (x : Str) (i e : Expr) : P (Fl × Store) :=
  if isSlice i then .no else
  (evE K F sc σ e).bind fun v => (dOf v).bind fun d => (getOwn σ x).bind fun o => (evE K F sc σ i).bind fun iv => (dOf iv).bind fun id => (setItem o id d).bind fun o => (setName x (.own o) σ).bind fun σ => .ok (.next, σ)

noncomputable def evAssign (F : Nat) (K : Ctx) (sc : Scope) (σ : Store) (t e : Expr) : P (Fl × Store) :=
  match tgt t with
  | .name x => (evE K F sc (Store.clear σ (esc F e)) e).bind fun v => (setName x v (Store.clear σ (esc F e))).bind fun σ => .ok (.next, σ)
  | .sub x i => evSetSub F K sc (Store.clear σ (esc F e)) x i e
  | .other => .no

noncomputable def evMut (F : Nat) (K : Ctx) (sc : Scope) (σ : Store) (x m : Str) (ap : Pos) (as : List Expr) (cp : Pos) : P (Fl × Store) :=
  if (ap.endLine == cp.line) = false ∨ as.any starred = true ∨ 3 < as.length then .no else
  (getOwn σ x).bind fun o => if mutOk m o then (evs (evE K F sc σ) as).bind fun as' => (dsOf as').bind fun ds => (mutate o ds).bind fun o => (setName x (.own o) σ).bind fun σ => .ok (.next, σ) else .no

noncomputable def evExprS (F : Nat) (K : Ctx) (sc : Scope) (σ : Store) (e : Expr) : P (Fl × Store) :=
  match mcall e with
  | some (x, m, ap, as, cp) => evMut F K sc (Store.clear σ (as.flatMap (esc F))) x m ap as cp
  | none => if isComp e then .no else (evE K F sc (Store.clear σ (esc F e)) e).bind fun _ => .ok (.next, Store.clear σ (esc F e))

noncomputable def evIf (F : Nat) (K : Ctx) (sc : Scope) (rec : Store → Stmt → P (Fl × Store)) (σ : Store) (t : Expr) (b o : List Stmt) : P (Fl × Store) :=
  (evE K F sc σ t).bind fun v => (truthV v).bind fun c => if c then evBlk rec b σ else evBlk rec o σ

noncomputable def evFor (F : Nat) (K : Ctx) (sc : Scope) (rec : Store → Stmt → P (Fl × Store)) (σ : Store) (t it : Expr) (b : List Stmt) : P (Fl × Store) :=
  (evIter (evE K F sc σ) sc t it).bind fun l => forF (evBlk rec b) t l σ

noncomputable def stepS (F : Nat) (K : Ctx) (sc : Scope) (rec : Store → Stmt → P (Fl × Store)) (σ : Store) (s : Stmt) : P (Fl × Store) :=
  match s with
  | .Return none _ => .ok (.ret (.fz .none), σ)
  | .Return (some e) _ => evRet F K sc σ e
  | .Assign ts e _ => match ts with
    | [t] => evAssign F K sc σ t e
    | _ => .no
  | .Expr e _ => evExprS F K sc σ e
  | .If t b o _ => evIf F K sc rec (Store.clear σ (esc F t)) t b o
  | .For t it b o _ => match o with
    | [] => evFor F K sc rec (Store.clear σ (esc F it)) t it b
    | _ => .no
  | .Pass _ => .ok (.next, σ)
  | _ => .no

noncomputable def evS (F : Nat) (K : Ctx) (sc : Scope) : Nat → Store → Stmt → P (Fl × Store)
  | 0 => fun _ _ => .no
  | k + 1 => stepS F K sc (evS F K sc k)

noncomputable def initS (ps : List Str) (vs : List V) : List (Str × NameKind) → Store
  | [] => []
  | (x, k) :: r => match k with
    | .local => (x, (ps.zip vs).lookup x) :: initS ps vs r
    | .cell => (x, (ps.zip vs).lookup x) :: initS ps vs r
    | _ => initS ps vs r

noncomputable def astF : Nat := 24

noncomputable def retV : Fl → V
  | .next => .fz .none
  | .ret v => v

noncomputable def nodupS : List Str → Bool
  | [] => true
  | x :: r => !r.contains x && nodupS r

/-- a function that is told of -/
noncomputable def fnOk (a : Arguments) (sc : Scope) : Bool :=
  a.posonlyargs.isEmpty && a.vararg.isNone && a.kwonlyargs.isEmpty && a.kwarg.isNone && a.defaults.isEmpty && a.kw_defaults.isEmpty &&
  sc.kind == .function && !sc.isGenerator && !sc.isCoroutine && nodupS (sc.names.map (·.1)) && nodupS (a.args.map (·.arg)) &&
  (sc.names.all fun p => p.2 != .free) && (a.args.all fun x => match sc.names.lookup x.arg with | some .local => true | some .cell => true | _ => false) &&
  (sc.names.lookup (Str.ofString "__debug__")).isNone && (sc.names.lookup (Str.ofString "__classdict__")).isNone

noncomputable def run (body : List Stmt) : Nat → Str → List V → P V
  | 0, _, _ => .no
  | n + 1, f, vs => match findDef f body with
    | none => .no
    | some (a, b, sc) =>
      if a.args.length = vs.length ∧ fnOk a sc = true then
        (evBlk (evS astF ⟨run body n, fun f => (findDef f body).isSome, constOf body⟩ sc astF) b (initS (a.args.map (·.arg)) vs sc.names)).bind fun fs => .ok (retV fs.1)
      else .no

end Mine

set_option maxRecDepth 100000
namespace Mine
open PySem

section
variable {prog : Program} {w : World} {mg mb : Str → Option Value}

theorem IsCell.uniq {h : Heap} {c : Addr} {v v' : Option Value} (x : h.IsCell c v) (y : h.IsCell c v') : v = v' := by
  obtain ⟨o, e, d⟩ := x
  obtain ⟨o', e', d'⟩ := y
  rw [e] at e'; cases e'
  rw [d] at d'; cases d'; rfl

theorem VarAt.uniq {env : Env} {h : Heap} {x : Str} {u u' : Value} (a : VarAt env h x u) (b : VarAt env h x u') : u = u' := by
  rcases a with ⟨k, m, hn, e⟩ | ⟨k, c, e, hc⟩
  · rcases b with ⟨k', m', hn', e'⟩ | ⟨k', c', e', hc'⟩
    · rw [hn.eq_nsMap] at e; rw [hn'.eq_nsMap] at e'
      rw [e] at e'; exact Option.some.inj e'
    · rw [k] at k'; rcases k' with k' | k' <;> cases k'
  · rcases b with ⟨k', m', hn', e'⟩ | ⟨k', c', e', hc'⟩
    · rw [k'] at k; rcases k with k | k <;> cases k
    · rw [e] at e'; cases e'
      exact Option.some.inj (IsCell.uniq hc hc')

/-- an activation -/
structure Act (prog : Program) (w : World) (mg mb : Str → Option Value) (env : Env) (sc : Scope) (av₀ : Addr → Prop) (s₀ : Shared) (σ : Store) (av : Addr → Prop) (s : Shared) : Prop where
  inv : Inv0 prog w mg mb env sc σ av s
  glo0 : Glo prog w mg mb s₀.heap
  same : ∃ h tk, s = { s₀ with heap := h, toks := tk }
  keep : ∀ b o, s₀.heap.get? b = some o → s.heap.get? b = some o
  base : ∀ b, av₀ b → av b
  ns : ∃ m, s.heap.Ns env.locals m
  loc : av env.locals ∧ s₀.heap.get? env.locals = none
  cells : ∀ x c, env.cells.lookup x = some c → av c ∧ s₀.heap.get? c = none ∧ c ≠ env.locals ∧ ∃ v, s.heap.IsCell c v
  capart : ∀ x y c, env.cells.lookup x = some c → env.cells.lookup y = some c → x = y
  names : ∀ x v, Store.get σ x = some v → isL sc x = true ∧ (env.kindOf x = some .local ∨ (env.kindOf x = some .cell ∧ ∃ c, env.cells.lookup x = some c))
  ownA : ∀ x d a, Store.get σ x = some (some (.own d)) → VarAt env s.heap x (.ref a) → av a ∧ s₀.heap.get? a = none ∧ a ≠ env.locals ∧ ∀ y c, env.cells.lookup y = some c → a ≠ c
  ownB : ∀ x d a, Store.get σ x = some (some (.own d)) → VarAt env s.heap x (.ref a) → ¬ av₀ a
  locB : ¬ av₀ env.locals
  celB : ∀ x c, env.cells.lookup x = some c → ¬ av₀ c
  ownI : ∀ x y d d' a, Store.get σ x = some (some (.own d)) → Store.get σ y = some (some (.own d')) → VarAt env s.heap x (.ref a) → VarAt env s.heap y (.ref a) → x = y

variable {env : Env} {sc : Scope} {av₀ : Addr → Prop} {s₀ : Shared}

theorem VarAt.kept {h h' : Heap} {x : Str} {u : Value} (v : VarAt env h x u) (hL : ∀ o, env.kindOf x = some .local → h.get? env.locals = some o → h'.get? env.locals = some o) (hc : ∀ c o, env.cells.lookup x = some c → h.get? c = some o → h'.get? c = some o) : VarAt env h' x u := by
  rcases v with ⟨k, m, hn, e⟩ | ⟨k, c, e, hcl⟩
  · exact .inl ⟨k, m, hn.at' fun o e => hL o k e, e⟩
  · obtain ⟨o, e1, e2⟩ := hcl
    exact .inr ⟨k, c, e, o, hc c o e e1, e2⟩

theorem Act.varBack {σ : Store} {av : Addr → Prop} {s s' : Shared} (X : Act prog w mg mb env sc av₀ s₀ σ av s) {x : Str} {v : V} {u : Value} (hg : Store.get σ x = some (some v)) (hk : ∀ u, VarAt env s.heap x u → VarAt env s'.heap x u) (hv : VarAt env s'.heap x u) : VarAt env s.heap x u := by
  obtain ⟨u', h1, _⟩ := X.inv.get x v (X.names x _ hg).1 hg
  have := VarAt.uniq (hk _ h1) hv
  exact this ▸ h1

theorem Act.kp {σ : Store} {av : Addr → Prop} {s s' : Shared} (X : Act prog w mg mb env sc av₀ s₀ σ av s) (k : Kp s s') : Act prog w mg mb env sc av₀ s₀ σ av s' where
  inv := X.inv.keeps k
  glo0 := X.glo0
  same := by
    obtain ⟨h, tk, rfl⟩ := X.same
    obtain ⟨h', tk', rfl, _⟩ := k
    exact ⟨h', tk', rfl⟩
  keep := fun b o e => k.heap b o (X.keep b o e)
  base := X.base
  ns := let ⟨m, hn⟩ := X.ns; ⟨m, hn.keeps k.heap⟩
  loc := X.loc
  cells := fun x c e => let ⟨h1, h2, h3, v, h4⟩ := X.cells x c e; ⟨h1, h2, h3, v, h4.keeps k.heap⟩
  capart := X.capart
  names := X.names
  ownA := fun x d a hg hv => X.ownA x d a hg (X.varBack hg (fun u h => h.keeps k.heap) hv)
  ownB := fun x d a hg hv => X.ownB x d a hg (X.varBack hg (fun u h => h.keeps k.heap) hv)
  locB := X.locB
  celB := X.celB
  ownI := fun x y d d' a hx hy h1 h2 => X.ownI x y d d' a hx hy (X.varBack hx (fun u h => h.keeps k.heap) h1) (X.varBack hy (fun u h => h.keeps k.heap) h2)

/-- a new object of its own -/
theorem Act.grow {σ : Store} {av : Addr → Prop} {s s' : Shared} {a : Addr} (X : Act prog w mg mb env sc av₀ s₀ σ av s) (k : Kp s s') (hn : s.heap.get? a = none) (hl : ∃ o, s'.heap.get? a = some o) :
    Act prog w mg mb env sc av₀ s₀ σ (fun b => av b ∨ b = a) s' := by
  have Y := X.kp k
  refine { Y with inv := ?_, base := fun b hb => .inl (X.base b hb), loc := ⟨.inl X.loc.1, X.loc.2⟩, cells := fun x c e => ?_, ownA := fun x d a' hg hv => ?_ }
  · have I := X.inv
    refine { Y.inv with avlt := fun b hb => ?_, avS := .inl I.avS, get := fun x v hl' hg => ?_ }
    · rcases hb with hb | rfl
      · exact Y.inv.avlt b hb
      · exact hl
    · obtain ⟨u, h1, h2⟩ := I.get x v hl' hg
      have ha : ∀ b o, s.heap.get? b = some o → (av b ∨ b = a) → av b := fun b o e hb => hb.elim id fun hb => by rw [hb, hn] at e; cases e
      refine ⟨u, h1.keeps k.heap, ?_⟩
      cases v with
      | fz d => exact (show Rep prog w s.heap av u d from h2).mono (fun b o _ e => k.heap b o e) ha
      | own d => obtain ⟨a', e, r⟩ := h2; exact ⟨a', e, r.mono (fun b o _ e => k.heap b o e) ha fun o e => k.heap _ o e⟩
      | exc en => exact h2
  · obtain ⟨h1, h2, h3, h4⟩ := Y.cells x c e
    exact ⟨.inl h1, h2, h3, h4⟩
  · obtain ⟨h1, h2⟩ := Y.ownA x d a' hg hv
    exact ⟨.inl h1, h2⟩

/-- new objects of its own -/
theorem Act.growS {σ : Store} {av : Addr → Prop} {s s' : Shared} {S : Addr → Prop} (X : Act prog w mg mb env sc av₀ s₀ σ av s) (k : Kp s s') (hn : ∀ a, S a → s.heap.get? a = none) (hl : ∀ a, S a → ∃ o, s'.heap.get? a = some o) :
    Act prog w mg mb env sc av₀ s₀ σ (fun b => av b ∨ S b) s' := by
  have Y := X.kp k
  refine { Y with inv := ?_, base := fun b hb => .inl (X.base b hb), loc := ⟨.inl X.loc.1, X.loc.2⟩, cells := fun x c e => ?_, ownA := fun x d a' hg hv => ?_ }
  · have I := X.inv
    refine { Y.inv with avlt := fun b hb => ?_, avS := .inl I.avS, get := fun x v hl' hg => ?_ }
    · rcases hb with hb | hb
      · exact Y.inv.avlt b hb
      · exact hl b hb
    · obtain ⟨u, h1, h2⟩ := I.get x v hl' hg
      have ha : ∀ b o, s.heap.get? b = some o → (av b ∨ S b) → av b := fun b o e hb => hb.elim id fun hb => by rw [hn b hb] at e; cases e
      refine ⟨u, h1.keeps k.heap, ?_⟩
      cases v with
      | fz d => exact (show Rep prog w s.heap av u d from h2).mono (fun b o _ e => k.heap b o e) ha
      | own d => obtain ⟨a', e, r⟩ := h2; exact ⟨a', e, r.mono (fun b o _ e => k.heap b o e) ha fun o e => k.heap _ o e⟩
      | exc en => exact h2
  · obtain ⟨h1, h2, h3, h4⟩ := Y.cells x c e
    exact ⟨.inl h1, h2, h3, h4⟩
  · obtain ⟨h1, h2⟩ := Y.ownA x d a' hg hv
    exact ⟨.inl h1, h2⟩

theorem Store.get_clear (xs : List Str) (x : Str) : ∀ σ : Store, Store.get (Store.clear σ xs) x = (Store.get σ x).map fun v => if xs.contains x then v.map V.clear else v
  | [] => rfl
  | (y, v) :: r => by
    show (if x = y then some (if xs.contains y then v.map V.clear else v) else Store.get (Store.clear r xs) x) = (if x = y then some v else Store.get r x).map _
    by_cases h : x = y
    · subst h; simp
    · rw [if_neg h, if_neg h]; exact Store.get_clear xs x r

theorem Act.clear {σ : Store} {av : Addr → Prop} {s : Shared} (X : Act prog w mg mb env sc av₀ s₀ σ av s) (xs : List Str) : ∃ av1, Act prog w mg mb env sc av₀ s₀ (Store.clear σ xs) av1 s ∧ ∀ b, av1 b → av b := by
  refine ⟨fun b => av b ∧ ¬ ∃ x d, xs.contains x = true ∧ Store.get σ x = some (some (.own d)) ∧ VarAt env s.heap x (.ref b), ?_, fun b h => h.1⟩
  have back : ∀ x d, Store.get (Store.clear σ xs) x = some (some (.own d)) → xs.contains x = false ∧ Store.get σ x = some (some (.own d)) := fun x d h => by
    rw [Store.get_clear] at h
    cases hg : Store.get σ x with
    | none => rw [hg] at h; cases h
    | some v =>
      rw [hg] at h
      simp only [Option.map_some, Option.some.injEq] at h
      split at h
      · cases v with
        | none => cases h
        | some v => cases v <;> cases h
      · rename_i hc
        exact ⟨by simpa using hc, by rw [h]⟩
  have notown : ∀ b, (s₀.heap.get? b ≠ none ∨ b = env.locals ∨ ∃ y, env.cells.lookup y = some b) → ¬ ∃ x d, xs.contains x = true ∧ Store.get σ x = some (some (.own d)) ∧ VarAt env s.heap x (.ref b) := by
    rintro b hb ⟨x, d, _, hg, hv⟩
    obtain ⟨h1, h2, h3, h4⟩ := X.ownA x d b hg hv
    rcases hb with hb | hb | ⟨y, hb⟩
    · exact hb h2
    · exact h3 hb
    · exact h4 y b hb rfl
  refine { X with inv := ?_, base := fun b hb => ⟨X.base b hb, fun ⟨x, d, _, hg, hv⟩ => X.ownB x d b hg hv hb⟩, loc := ⟨⟨X.loc.1, notown _ (.inr (.inl rfl))⟩, X.loc.2⟩, cells := fun x c e => ?_, names := fun x v h => ?_, ownA := fun x d a hg hv => ?_, ownB := fun x d a hg hv => X.ownB x d a (back x d hg).2 hv, ownI := fun x y d d' a hx hy h1 h2 => ?_ }
  · refine { X.inv with avlt := fun b hb => X.inv.avlt b hb.1, avS := ⟨X.inv.avS, notown _ (.inl fun e => ?_)⟩, get := fun x v hl hg => ?_ }
    · obtain ⟨mm, o, es, ep, h, _⟩ := X.glo0.mods
      rw [e] at h; cases h
    · rw [Store.get_clear] at hg
      cases hg0 : Store.get σ x with
      | none => rw [hg0] at hg; cases hg
      | some v0 =>
        rw [hg0] at hg
        simp only [Option.map_some, Option.some.injEq] at hg
        have mono : ∀ {u d}, Rep prog w s.heap av u d → Rep prog w s.heap (fun b => av b ∧ ¬ ∃ x d, xs.contains x = true ∧ Store.get σ x = some (some (.own d)) ∧ VarAt env s.heap x (.ref b)) u d := fun r => r.mono (fun _ _ _ e => e) fun _ _ _ h => h.1
        cases v0 with
        | none => split at hg <;> cases hg
        | some v0 =>
          obtain ⟨u, h1, h2⟩ := X.inv.get x v0 hl hg0
          refine ⟨u, h1, ?_⟩
          split at hg
          · rename_i hc
            have hg : v0.clear = v := Option.some.inj hg
            subst hg
            cases v0 with
            | fz d => exact mono h2
            | own d =>
              obtain ⟨a, rfl, r⟩ := h2
              exact Body.rep (fun h => h.2 ⟨x, d, hc, hg0, h1⟩) (r.mono (fun _ _ _ e => e) (fun _ _ _ h => h.1) fun _ e => e)
            | exc en => exact h2
          · have hg : v0 = v := Option.some.inj hg
            subst hg
            cases v0 with
            | fz d => exact mono h2
            | own d =>
              obtain ⟨a, rfl, r⟩ := h2
              exact ⟨a, rfl, r.mono (fun _ _ _ e => e) (fun _ _ _ h => h.1) fun _ e => e⟩
            | exc en => exact h2
  · obtain ⟨h1, h2, h3, h4⟩ := X.cells x c e
    exact ⟨⟨h1, notown _ (.inr (.inr ⟨x, e⟩))⟩, h2, h3, h4⟩
  · rw [Store.get_clear] at h
    cases hg : Store.get σ x with
    | none => rw [hg] at h; cases h
    | some v0 => exact X.names x v0 hg
  · obtain ⟨hc, hg'⟩ := back x d hg
    obtain ⟨h1, h2⟩ := X.ownA x d a hg' hv
    refine ⟨⟨h1, ?_⟩, h2⟩
    rintro ⟨y, d', hcy, hgy, hvy⟩
    have := X.ownI x y d d' a hg' hgy hv hvy
    subst this
    rw [hc] at hcy; cases hcy
  · exact X.ownI x y d d' a (back x d hx).2 (back y d' hy).2 h1 h2

theorem Act.weaken {av₁ : Addr → Prop} {σ : Store} {av : Addr → Prop} {s : Shared} (X : Act prog w mg mb env sc av₁ s₀ σ av s) (h : ∀ b, av₀ b → av₁ b) : Act prog w mg mb env sc av₀ s₀ σ av s :=
  { X with base := fun b hb => X.base b (h b hb), ownB := fun x d a hg hv hb => X.ownB x d a hg hv (h a hb), locB := fun hb => X.locB (h _ hb), celB := fun x c e hb => X.celB x c e (h c hb) }

/-- new addresses are pinned -/
theorem Act.pin {σ : Store} {av S : Addr → Prop} {s s' : Shared} (X : Act prog w mg mb env sc av₀ s₀ σ av s) (k : Kp s s') (hn : ∀ a, S a → s.heap.get? a = none) (hl : ∀ a, S a → ∃ o, s'.heap.get? a = some o) :
    Act prog w mg mb env sc (fun b => av₀ b ∨ S b) s₀ σ (fun b => av b ∨ S b) s' := by
  have Y := X.growS k hn hl
  refine { Y with base := fun b hb => hb.imp (X.base b) id, ownB := fun x d a hg hv hb => ?_, locB := fun hb => ?_, celB := fun x c e hb => ?_ }
  rotate_left
  · rcases hb with hb | hb
    · exact X.locB hb
    · obtain ⟨m, o, es, ep, e, _⟩ := X.ns
      rw [hn _ hb] at e; cases e
  · rcases hb with hb | hb
    · exact X.celB x c e hb
    · obtain ⟨_, _, _, v, o, e', _⟩ := X.cells x c e
      rw [hn _ hb] at e'; cases e'
  have hv' := X.varBack hg (fun u h => h.keeps k.heap) hv
  rcases hb with hb | hb
  · exact X.ownB x d a hg hv' hb
  · obtain ⟨o, e⟩ := X.inv.avlt a (X.ownA x d a hg hv').1
    rw [hn a hb] at e; cases e

/-- addresses that are nobody's are changed -/
theorem Act.wildS {σ : Store} {av av' S : Addr → Prop} {s : Shared} {h' : Heap} {tk : Nat} (X : Act prog w mg mb env sc av₀ s₀ σ av s) (hS : ∀ b, S b → av b) (h0 : ∀ b, S b → s₀.heap.get? b = none) (hL : ¬ S env.locals) (hc : ∀ y c, env.cells.lookup y = some c → ¬ S c)
    (ho : ∀ x d a, Store.get σ x = some (some (.own d)) → VarAt env s.heap x (.ref a) → ¬ S a) (hs : ∀ b o, ¬ S b → s.heap.get? b = some o → h'.get? b = some o)
    (h1 : ∀ b, av' b → av b) (h2 : ∀ b, av b → ¬ S b → av' b) (h3 : ∀ b, av' b → S b → ∃ o, h'.get? b = some o) (h4 : ∀ b, av₀ b → av' b) : Act prog w mg mb env sc av₀ s₀ σ av' { s with heap := h', toks := tk } := by
  have frame : ∀ b o, s.heap.get? b = some o → ¬ av b → h'.get? b = some o := fun b o e hb => hs b o (fun h => hb (hS b h)) e
  have keep0 : ∀ b o, s₀.heap.get? b = some o → h'.get? b = some o := fun b o e => hs b o (fun h => by rw [h0 b h] at e; cases e) (X.keep b o e)
  have hvar : ∀ y u, VarAt env s.heap y u → VarAt env h' y u := fun y u h => h.kept (fun o _ e => hs _ o hL e) fun c o hcc e => hs c o (hc y c hcc) e
  have hmod : ¬ S sysModules := fun h => by
    obtain ⟨mm, o, es, ep, e, _⟩ := X.glo0.mods
    rw [h0 _ h] at e; cases e
  refine { X with inv := ?_, same := ?_, keep := keep0, base := h4, ns := ?_, loc := ⟨h2 _ X.loc.1 hL, X.loc.2⟩, cells := fun y c e => ?_, ownA := fun y e b h1 h2' => ?_, ownB := fun y e b h1 h2 => X.ownB y e b h1 (X.varBack h1 (s' := { s with heap := h', toks := tk }) (hvar y) h2), ownI := fun y z e e' b hy hz h1 h2 => ?_ }
  · refine { X.inv with glo := X.glo0.keeps keep0, avS := h2 _ X.inv.avS hmod, avlt := fun b hb => ?_, get := fun y w' hl' h => ?_ }
    · by_cases hb' : S b
      · exact h3 b hb hb'
      · obtain ⟨o, e⟩ := X.inv.avlt b (h1 b hb); exact ⟨o, hs b o hb' e⟩
    · obtain ⟨u', g1, g2⟩ := X.inv.get y w' hl' h
      refine ⟨u', hvar _ _ g1, ?_⟩
      cases w' with
      | fz e => exact (show Rep prog w s.heap av u' e from g2).mono (fun b o hb e => frame b o e hb) fun b _ _ h => h1 b h
      | own e =>
        obtain ⟨a', rfl, r⟩ := g2
        exact ⟨a', rfl, r.mono (fun b o hb e => frame b o e hb) (fun b _ _ h => h1 b h) fun o e' => hs _ o (ho y e a' h g1) e'⟩
      | exc en => exact g2
  · obtain ⟨hh, tt, rfl⟩ := X.same; exact ⟨h', tk, rfl⟩
  · obtain ⟨m, hn⟩ := X.ns
    exact ⟨m, hn.at' fun o e => hs _ o hL e⟩
  · obtain ⟨p1, p2, p3, v, o, e1, e2⟩ := X.cells y c e
    exact ⟨h2 _ p1 (hc y c e), p2, p3, v, o, hs c o (hc y c e) e1, e2⟩
  · have hv' := X.varBack h1 (s' := { s with heap := h', toks := tk }) (hvar y) h2'
    obtain ⟨q1, q2⟩ := X.ownA y e b h1 hv'
    exact ⟨h2 _ q1 (ho y e b h1 hv'), q2⟩
  · exact X.ownI y z e e' b hy hz (X.varBack hy (s' := { s with heap := h', toks := tk }) (hvar y) h1) (X.varBack hz (s' := { s with heap := h', toks := tk }) (hvar z) h2)

end
end Mine

set_option maxRecDepth 100000
namespace Mine
open PySem

section
variable {prog : Program} {w : World} {mg mb : Str → Option Value} {env : Env} {sc : Scope} {av₀ : Addr → Prop} {s₀ : Shared}

theorem Store.get_set (x : Str) (u : V) (y : Str) : ∀ σ : Store, Store.get (Store.set σ x u) y = if y = x then (Store.get σ x).map (fun _ => some u) else Store.get σ y
  | [] => by
    show none = if y = x then none else none
    split <;> rfl
  | (z, v) :: r => by
    have ih := Store.get_set x u y r
    by_cases hxz : x = z
    · subst hxz
      have e : Store.set ((x, v) :: r) x u = (x, some u) :: r := by
        show (if x = x then (x, some u) :: r else (x, v) :: Store.set r x u) = _
        rw [if_pos rfl]
      rw [e]
      by_cases hy : y = x
      · subst hy
        rw [Store.get_cons_eq, if_pos rfl, Store.get_cons_eq]; rfl
      · rw [Store.get_cons_ne hy, if_neg hy, Store.get_cons_ne hy]
    · have e : Store.set ((z, v) :: r) x u = (z, v) :: Store.set r x u := by
        show (if x = z then (z, some u) :: r else (z, v) :: Store.set r x u) = _
        rw [if_neg hxz]
      rw [e, Store.get_cons_ne hxz]
      by_cases hy : y = z
      · subst hy
        rw [Store.get_cons_eq, if_neg (fun h => hxz h.symm), Store.get_cons_eq]
      · rw [Store.get_cons_ne hy, ih, Store.get_cons_ne hy]

/-- where one address of the activation's own is changed -/
theorem Act.put {A : Around} {E : Value → Shared → Prop} {σ : Store} {av : Addr → Prop} {s : Shared} {x : Str} {v0 : Option V} {u : Value} {v : V} {Q : Unit → Shared → Prop} (X : Act prog w mg mb env sc av₀ s₀ σ av s) (hx : Store.get σ x = some v0) (hv : RepS prog w s.heap av u v)
    (hob : ∀ d a, v = .own d → u = .ref a → ¬ av₀ a)
    (ho : ∀ d a, v = .own d → u = .ref a → av a ∧ s₀.heap.get? a = none ∧ a ≠ env.locals ∧ (∀ y c, env.cells.lookup y = some c → a ≠ c) ∧ ∀ y d', y ≠ x → Store.get σ y = some (some (.own d')) → ¬ VarAt env s.heap y (.ref a))
    (hq : ∀ s', Act prog w mg mb env sc av₀ s₀ (Store.set σ x v) av s' → (∀ b o, s.heap.get? b = some o → ¬ av b → s'.heap.get? b = some o) → (∀ b o, b ≠ env.locals → (∀ y c, env.cells.lookup y = some c → b ≠ c) → s.heap.get? b = some o → s'.heap.get? b = some o) → VarAt env s'.heap x u → (∀ y w', y ≠ x → VarAt env s.heap y w' → VarAt env s'.heap y w') → Q () s') : wpAny (model prog w) A (storeName env x u) Q E s := by
  obtain ⟨hlx, hkx⟩ := X.names x v0 hx
  have hp : (env.scope.kind == .class || (env.scope.kind == .module && env.locals != env.globals)) = false := by rw [X.inv.kind]; rfl
  -- the general end: one address p, of the activation's own, has changed
  have fin : ∀ (p : Addr) (h' : Heap) (tk : Nat), av p → s₀.heap.get? p = none → Heap.SameBut p s.heap h' → (p = env.locals ∨ ∃ y, env.cells.lookup y = some p) → (∃ m, h'.Ns env.locals m) → (∀ y c, env.cells.lookup y = some c → ∃ v, h'.IsCell c v) →
      VarAt env h' x u → (∀ y w', y ≠ x → VarAt env s.heap y w' → VarAt env h' y w') → Q () { s with heap := h', toks := tk } := by
    intro p h' tk hap hp0 hs hpk hns hcells hvx hvy
    have kept : ∀ b o, b ≠ p → s.heap.get? b = some o → h'.get? b = some o := fun b o hb e => by rw [hs.2 b hb]; exact e
    have frame : ∀ b o, s.heap.get? b = some o → ¬ av b → h'.get? b = some o := fun b o e hb => kept b o (fun h => hb (h ▸ hap)) e
    have keep0 : ∀ b o, s₀.heap.get? b = some o → h'.get? b = some o := fun b o e => kept b o (fun h => by rw [h, hp0] at e; cases e) (X.keep b o e)
    have rmono : ∀ {w' d}, Rep prog w s.heap av w' d → Rep prog w h' av w' d := fun r => r.mono (fun b o hb e => frame b o e hb) fun _ _ _ h => h
    have bmono : ∀ {a d}, a ≠ p → Body prog w s.heap av a d → Body prog w h' av a d := fun hap' r => r.mono (fun b o hb e => frame b o e hb) (fun _ _ _ h => h) fun o e => kept _ o hap' e
    have live : ∀ b, av b → ∃ o, h'.get? b = some o := fun b hb => by
      by_cases hbp : b = p
      · subst hbp
        rcases hpk with h | ⟨y, h⟩
        · obtain ⟨m, o, es, ep, e, _⟩ := hns; exact ⟨o, h ▸ e⟩
        · obtain ⟨v, o, e, _⟩ := hcells y b h; exact ⟨o, e⟩
      · obtain ⟨o, e⟩ := X.inv.avlt b hb; exact ⟨o, kept b o hbp e⟩
    have hg : ∀ y w', y ≠ x → Store.get (Store.set σ x v) y = some w' → Store.get σ y = some w' := fun y w' hy h => by rw [Store.get_set, if_neg hy] at h; exact h
    have hgx : ∀ w', Store.get (Store.set σ x v) x = some (some w') → w' = v := fun w' h => by
      rw [Store.get_set, if_pos rfl, hx] at h
      simp at h; exact h.symm
    have pnot : ∀ y d a, Store.get σ y = some (some (.own d)) → VarAt env s.heap y (.ref a) → a ≠ p := fun y d a h1 h2 => by
      obtain ⟨_, _, q3, q4⟩ := X.ownA y d a h1 h2
      rcases hpk with h | ⟨z, h⟩
      · rw [h]; exact q3
      · exact q4 z p h
    have back : ∀ y d a, y ≠ x → Store.get σ y = some (some (.own d)) → VarAt env h' y (.ref a) → VarAt env s.heap y (.ref a) := fun y d a hy h1 h2 => by
      obtain ⟨u', h3, _⟩ := X.inv.get y _ (X.names y _ h1).1 h1
      have := VarAt.uniq (hvy y u' hy h3) h2
      exact this ▸ h3
    refine hq _ { glo0 := X.glo0, same := ?_, keep := keep0, base := X.base, ns := hns, loc := X.loc, locB := X.locB, celB := X.celB, cells := fun y c e => ?_, capart := X.capart, names := fun y w' h => ?_, inv := ?_, ownA := fun y d a h1 h2 => ?_, ownB := fun y d a h1 h2 => ?_, ownI := fun y z d d' a hy hz h1 h2 => ?_ } frame (fun b o hb hbc e => kept b o (fun h => ?_) e) hvx hvy
    · refine { X.inv with glo := X.glo0.keeps keep0, avlt := live, get := fun y w' hl h => ?_ }
      by_cases hy : y = x
      · subst hy
        have := hgx w' h
        subst this
        refine ⟨u, hvx, ?_⟩
        cases w' with
        | fz d => exact rmono hv
        | own d =>
          obtain ⟨a, rfl, r⟩ := hv
          obtain ⟨_, _, q3, q4, _⟩ := ho d a rfl rfl
          refine ⟨a, rfl, bmono ?_ r⟩
          rcases hpk with h | ⟨z, h⟩
          · rw [h]; exact q3
          · exact q4 z p h
        | exc en => exact hv
      · have h := hg y _ hy h
        obtain ⟨u', h1, h2⟩ := X.inv.get y w' hl h
        refine ⟨u', hvy y u' hy h1, ?_⟩
        cases w' with
        | fz d => exact rmono h2
        | own d =>
          obtain ⟨a, rfl, r⟩ := h2
          exact ⟨a, rfl, bmono (pnot y d a h h1) r⟩
        | exc en => exact h2
    · obtain ⟨hh, tt, rfl⟩ := X.same; exact ⟨h', tk, rfl⟩
    · obtain ⟨q1, q2, q3, _⟩ := X.cells y c e; exact ⟨q1, q2, q3, hcells y c e⟩
    · by_cases hy : y = x
      · subst hy; exact X.names y v0 hx
      · exact X.names y w' (hg y w' hy h)
    · by_cases hy : y = x
      · subst hy
        have := hgx _ h1
        have hu := VarAt.uniq hvx h2
        obtain ⟨q1, q2, q3, q4, _⟩ := ho d a this.symm hu
        exact ⟨q1, q2, q3, q4⟩
      · exact X.ownA y d a (hg y _ hy h1) (back y d a hy (hg y _ hy h1) h2)
    · by_cases hy : y = x
      · subst hy
        exact hob d a (hgx _ h1).symm (VarAt.uniq hvx h2)
      · exact X.ownB y d a (hg y _ hy h1) (back y d a hy (hg y _ hy h1) h2)
    · by_cases hyx : y = x
      · by_cases hzx : z = x
        · rw [hyx, hzx]
        · subst hyx
          have hv' := hgx _ hy
          have hu := VarAt.uniq hvx h1
          obtain ⟨_, _, _, _, q5⟩ := ho d a hv'.symm hu
          exact absurd (back z d' a hzx (hg z _ hzx hz) h2) (q5 z d' hzx (hg z _ hzx hz))
      · by_cases hzx : z = x
        · subst hzx
          have hv' := hgx _ hz
          have hu := VarAt.uniq hvx h2
          obtain ⟨_, _, _, _, q5⟩ := ho d' a hv'.symm hu
          exact absurd (back y d a hyx (hg y _ hyx hy) h1) (q5 y d hyx (hg y _ hyx hy))
        · exact X.ownI y z d d' a (hg y _ hyx hy) (hg z _ hzx hz) (back y d a hyx (hg y _ hyx hy) h1) (back z d' a hzx (hg z _ hzx hz) h2)
    · rcases hpk with h' | ⟨z, h'⟩
      · exact hb (h.trans h')
      · exact hbc z b (h ▸ h') rfl
  obtain ⟨m, hn⟩ := X.ns
  rcases hkx with hk | ⟨hk, c, hc⟩
  · refine wpAny_storeName_local hk hn (fun h' hn' hs' => ?_) hp
    refine fin env.locals h' _ X.loc.1 X.loc.2 hs' (.inl rfl) ⟨_, hn'⟩ (fun y c e => ?_) (.inl ⟨hk, _, hn', by simp⟩) fun y w' hy hv' => ?_
    · obtain ⟨_, _, q3, v, o, e1, e2⟩ := X.cells y c e
      exact ⟨v, o, by rw [hs'.2 c q3]; exact e1, e2⟩
    · rcases hv' with ⟨k', m', hn2, e⟩ | ⟨k', c', e, o, e1, e2⟩
      · have : m' = m := hn2.eq_nsMap.trans hn.eq_nsMap.symm
        subst this
        exact .inl ⟨k', _, hn', by simp [hy, e]⟩
      · obtain ⟨_, _, q3, _⟩ := X.cells y c' e
        exact .inr ⟨k', c', e, o, by rw [hs'.2 c' q3]; exact e1, e2⟩
  · obtain ⟨q1, q2, q3, v1, q4⟩ := X.cells x c hc
    refine wpAny_storeName_cell X.inv.kind hk hc q4 fun h' hc' hs' => ?_
    have hn' : h'.Ns env.locals m := hn.at' fun o e => by rw [hs'.2 _ (fun h => q3 h.symm)]; exact e
    refine fin c h' _ q1 q2 hs' (.inr ⟨x, hc⟩) ⟨m, hn'⟩ (fun y c' e => ?_) (.inr ⟨.inl hk, c, hc, hc'⟩) fun y w' hy hv' => ?_
    · by_cases hcc : c' = c
      · subst hcc; exact ⟨_, hc'⟩
      · obtain ⟨_, _, _, v, o, e1, e2⟩ := X.cells y c' e
        exact ⟨v, o, by rw [hs'.2 c' hcc]; exact e1, e2⟩
    · rcases hv' with ⟨k', m', hn2, e⟩ | ⟨k', c', e, o, e1, e2⟩
      · have : m' = m := hn2.eq_nsMap.trans hn.eq_nsMap.symm
        subst this
        exact .inl ⟨k', _, hn', e⟩
      · have hcc : c' ≠ c := fun h => hy (X.capart y x c (h ▸ e) hc)
        exact .inr ⟨k', c', e, o, by rw [hs'.2 c' hcc]; exact e1, e2⟩

end
end Mine

set_option maxRecDepth 100000
namespace Mine
open PySem

section
variable {prog : Program} {w : World} {mg mb : Str → Option Value} {env : Env} {sc : Scope} {av₀ : Addr → Prop} {s₀ : Shared}

/-- an object of the activation's own is changed in place -/
theorem Act.mut {σ : Store} {av : Addr → Prop} {s : Shared} {x : Str} {d d' : PyData} {a : Addr} {h' : Heap} {tk : Nat} (X : Act prog w mg mb env sc av₀ s₀ σ av s) (hx : Store.get σ x = some (some (.own d))) (hv : VarAt env s.heap x (.ref a))
    (hs : Heap.SameBut a s.heap h') (hb : Body prog w h' av a d') : Act prog w mg mb env sc av₀ s₀ (Store.set σ x (.own d')) av { s with heap := h', toks := tk } ∧ (∀ b o, s.heap.get? b = some o → ¬ av b → h'.get? b = some o) := by
  obtain ⟨q1, q2, q3, q4⟩ := X.ownA x d a hx hv
  have kept : ∀ b o, b ≠ a → s.heap.get? b = some o → h'.get? b = some o := fun b o hb e => by rw [hs.2 b hb]; exact e
  have frame : ∀ b o, s.heap.get? b = some o → ¬ av b → h'.get? b = some o := fun b o e hb => kept b o (fun h => hb (h ▸ q1)) e
  have keep0 : ∀ b o, s₀.heap.get? b = some o → h'.get? b = some o := fun b o e => kept b o (fun h => by rw [h, q2] at e; cases e) (X.keep b o e)
  have hvar : ∀ y u, VarAt env s.heap y u → VarAt env h' y u := fun y u h => h.kept (fun o _ e => kept _ o (fun h => q3 h.symm) e) fun c o hc e => kept c o (fun h => q4 y c hc h.symm) e
  have hlive : ∃ o, h'.get? a = some o := by
    cases d' with
    | list ds => obtain ⟨vs, ⟨n, e⟩, _⟩ := hb; exact ⟨_, e⟩
    | dict ds => obtain ⟨kvs, ⟨o, es, ep, e, _⟩, _⟩ := hb; exact ⟨_, e⟩
    | _ => exact hb.elim
  have hg : ∀ y w', y ≠ x → Store.get (Store.set σ x (.own d')) y = some w' → Store.get σ y = some w' := fun y w' hy h => by rw [Store.get_set, if_neg hy] at h; exact h
  have hgx : ∀ w', Store.get (Store.set σ x (.own d')) x = some (some w') → w' = .own d' := fun w' h => by
    rw [Store.get_set, if_pos rfl, hx] at h
    simp at h; exact h.symm
  have hgo : ∀ y e, Store.get (Store.set σ x (.own d')) y = some (some (.own e)) → ∃ e', Store.get σ y = some (some (.own e')) := fun y e h => by
    by_cases hy : y = x
    · subst hy; exact ⟨d, hx⟩
    · exact ⟨e, hg y _ hy h⟩
  have back : ∀ y e u, Store.get σ y = some (some (.own e)) → VarAt env h' y u → VarAt env s.heap y u := fun y e u h1 h2 => by
    obtain ⟨u', h3, _⟩ := X.inv.get y _ (X.names y _ h1).1 h1
    have := VarAt.uniq (hvar y u' h3) h2
    exact this ▸ h3
  refine ⟨{ X with inv := ?_, same := ?_, keep := keep0, ns := ?_, cells := fun y c e => ?_, names := fun y w' h => ?_, ownA := fun y e b h1 h2 => ?_, ownB := fun y e b h1 h2 => ?_, ownI := fun y z e e' b hy hz h1 h2 => ?_ }, frame⟩
  · refine { X.inv with glo := X.glo0.keeps keep0, avlt := fun b hb => ?_, get := fun y w' hl h => ?_ }
    · by_cases hba : b = a
      · subst hba; exact hlive
      · obtain ⟨o, e⟩ := X.inv.avlt b hb; exact ⟨o, kept b o hba e⟩
    · by_cases hy : y = x
      · subst hy
        have := hgx w' h
        subst this
        exact ⟨.ref a, hvar _ _ hv, a, rfl, hb⟩
      · have h := hg y _ hy h
        obtain ⟨u', h1, h2⟩ := X.inv.get y w' hl h
        refine ⟨u', hvar _ _ h1, ?_⟩
        cases w' with
        | fz e => exact (show Rep prog w s.heap av u' e from h2).mono (fun b o hb e => frame b o e hb) fun _ _ _ h => h
        | own e =>
          obtain ⟨a', rfl, r⟩ := h2
          have hne : a' ≠ a := fun h' => hy (X.ownI y x e d a h hx (h' ▸ h1) hv)
          exact ⟨a', rfl, r.mono (fun b o hb e => frame b o e hb) (fun _ _ _ h => h) fun o e => kept _ o hne e⟩
        | exc en => exact h2
  · obtain ⟨hh, tt, rfl⟩ := X.same; exact ⟨h', tk, rfl⟩
  · obtain ⟨m, hn⟩ := X.ns
    exact ⟨m, hn.at' fun o e => kept _ o (fun h => q3 h.symm) e⟩
  · obtain ⟨p1, p2, p3, v, o, e1, e2⟩ := X.cells y c e
    exact ⟨p1, p2, p3, v, o, kept c o (fun h => q4 y c e h.symm) e1, e2⟩
  · by_cases hy : y = x
    · subst hy; exact X.names y _ hx
    · exact X.names y w' (hg y w' hy h)
  · obtain ⟨e', he⟩ := hgo y e h1
    exact X.ownA y e' b he (back y e' _ he h2)
  · obtain ⟨e', he⟩ := hgo y e h1
    exact X.ownB y e' b he (back y e' _ he h2)
  · obtain ⟨f, hf⟩ := hgo y e hy
    obtain ⟨f', hf'⟩ := hgo z e' hz
    exact X.ownI y z f f' b hf hf' (back y f _ hf h1) (back z f' _ hf' h2)

theorem mapSeq_list (f : Array Value → Array Value) (its : Array Value) (n : Nat) : ∃ n', Obj.mapSeq f { cls := .type "list", data := .seq its n } = { cls := .type "list", data := .seq (f its) n' } := ⟨_, rfl⟩

theorem setItem_plain {A : Around} {E : Value → Shared → Prop} {s : Shared} {l : Addr} {items : Array Value} {k : Int} {t : Tok} {v : Value} {Q : Unit → Shared → Prop} (hp : s.heap.PlainList l items)
    (h0 : 0 ≤ k) (hfit : k < 2 ^ 63) (hn : k < items.size)
    (hQ : ∀ h', h'.PlainList l (items.setIfInBounds k.toNat v) → Heap.SameBut l s.heap h' → Q () { s with heap := h' }) :
    wpAny (model prog w) A (PySem.setItem (.ref l) (.int k t) v) Q E s := by
  have hl := hp.isList
  obtain ⟨ne, ho⟩ := hp
  unfold PySem.setItem
  try with_reducible refine wpAny_holding ?_
  first | refine wpAny_bind (wpAny_pure ?_) | skip
  refine wpAny_bind (wpAny_sequenceKey hl.typeIs (by decide) ?_)
  refine wpAny_bind (wpAny_callSpecial?_slot (name := Str.ofString "__setitem__") hl.typeIs slot_list_setitem
    (wpAny_call_entry slot_list_setitem hl.typeIs entry_list_setitem ?_ (args_list_setitem _ _ _)))
  show wpAny _ _ (Builtin.List.listSubscript? (.int k t) >>= _) _ _ s
  refine wpAny_bind (wpAny_listSubscript_int (fitsIndex_of h0 hfit) ?_)
  clear hfit
  obtain ⟨j, rfl⟩ := Int.eq_ofNat_of_zero_le h0
  have hj : j < items.size := by omega
  have hx' : items[j]? = some items[j] := Array.getElem?_eq_getElem hj
  show wpAny _ _ ((seqItemAt l j >>= fun r => pure (r.map (j, ·))) >>= _) _ _ s
  refine wpAny_bind (wpAny_bind (wpAny_seqItemAt ho rfl (wpAny_pure ?_)))
  rw [hx']
  show wpAny _ _ (setSeqItemAt l j v >>= _) _ _ s
  obtain ⟨n', hm⟩ := mapSeq_list (·.setIfInBounds j v) items ne
  have hfin : (s.heap.update l (Obj.mapSeq (·.setIfInBounds j v))).PlainList l (items.setIfInBounds j v) :=
    ⟨n', by rw [Heap.get?_update_self _ ho (by rw [hm]; rfl), hm]⟩
  refine wpAny_bind (wpAny_setSeqItemAt ho rfl ?_)
  first
    | exact wpAny_bind (wpAny_pure (wpAny_pure ⟨.none, rfl, wpAny_pure (hQ _ hfin (Heap.SameBut.update ..))⟩))
    | exact wpAny_pure ⟨.none, rfl, wpAny_pure (hQ _ hfin (Heap.SameBut.update ..))⟩

end
end Mine

set_option maxRecDepth 100000
namespace Mine
open PySem

section
variable {prog : Program} {w : World} {mg mb : Str → Option Value} {env : Env} {sc : Scope} {av₀ : Addr → Prop} {s₀ : Shared}

/-- what a step leaves alone -/
structure Fr' (av₀ : Addr → Prop) (s : Shared) (av : Addr → Prop) (s' : Shared) (av' : Addr → Prop) : Prop where
  keep : ∀ b o, s.heap.get? b = some o → ¬ av b → s'.heap.get? b = some o
  grow : ∀ b o, s.heap.get? b = some o → av' b → av b
  pins : ∀ b o, av₀ b → s.heap.get? b = some o → s'.heap.get? b = some o

theorem Fr'.tr {s s' s'' : Shared} {av av' av'' : Addr → Prop} (x : Fr' av₀ s av s' av') (y : Fr' av₀ s' av' s'' av'') : Fr' av₀ s av s'' av'' where
  keep := fun b o e hb => y.keep b o (x.keep b o e hb) fun h => hb (x.grow b o e h)
  grow := fun b o e h => Classical.byContradiction fun hb => hb (x.grow b o e (y.grow b o (x.keep b o e hb) h))
  pins := fun b o hb e => y.pins b o hb (x.pins b o hb e)
theorem Fr'.rfl' (s : Shared) (av : Addr → Prop) : Fr' av₀ s av s av := ⟨fun _ _ e _ => e, fun _ _ _ h => h, fun _ _ _ e => e⟩
theorem Fr'.ofKp {s s' : Shared} {av : Addr → Prop} (k : Kp s s') : Fr' av₀ s av s' av := ⟨fun b o e _ => k.heap b o e, fun _ _ _ h => h, fun b o _ e => k.heap b o e⟩
theorem Fr'.sub {s : Shared} {av av1 : Addr → Prop} (h : ∀ b, av1 b → av b) : Fr' av₀ s av s av1 := ⟨fun _ _ e _ => e, fun b _ _ x => h b x, fun _ _ _ e => e⟩
theorem Fr'.weaken {av₁ : Addr → Prop} {s s' : Shared} {av av' : Addr → Prop} (h : ∀ b, av₀ b → av₁ b) (x : Fr' av₁ s av s' av') : Fr' av₀ s av s' av' := ⟨x.keep, x.grow, fun b o hb e => x.pins b o (h b hb) e⟩
/-- what a store leaves alone -/
theorem Act.frPut {σ : Store} {av : Addr → Prop} {s s' : Shared} (X : Act prog w mg mb env sc av₀ s₀ σ av s) (f : ∀ b o, s.heap.get? b = some o → ¬ av b → s'.heap.get? b = some o)
    (fk : ∀ b o, b ≠ env.locals → (∀ y c, env.cells.lookup y = some c → b ≠ c) → s.heap.get? b = some o → s'.heap.get? b = some o) : Fr' av₀ s av s' av :=
  ⟨f, fun _ _ _ h => h, fun b o hb e => fk b o (fun h => X.locB (h ▸ hb)) (fun y c hc h => X.celB y c hc (h ▸ hb)) e⟩
theorem Act.frMut {σ : Store} {av : Addr → Prop} {s s' : Shared} {x : Str} {d : PyData} {a : Addr} (X : Act prog w mg mb env sc av₀ s₀ σ av s) (hx : Store.get σ x = some (some (.own d))) (hv : VarAt env s.heap x (.ref a))
    (hs : Heap.SameBut a s.heap s'.heap) : Fr' av₀ s av s' av :=
  have hk : ∀ b o, b ≠ a → s.heap.get? b = some o → s'.heap.get? b = some o := fun b o hb e => by rw [hs.2 b hb]; exact e
  ⟨fun b o e hb => hk b o (fun h => hb (h ▸ (X.ownA x d a hx hv).1)) e, fun _ _ _ h => h, fun b o hb e => hk b o (fun h => X.ownB x d a hx hv (h ▸ hb)) e⟩

theorem Act.kp0 {σ : Store} {av : Addr → Prop} {s : Shared} (X : Act prog w mg mb env sc av₀ s₀ σ av s) : Kp s₀ s := by
  obtain ⟨h, tk, e⟩ := X.same
  exact ⟨h, tk, e, fun b o e' => by have := X.keep b o e'; rw [e] at this; exact this⟩

/-- a value is given to a name -/
theorem Act.bindVal {A : Around} {E : Value → Shared → Prop} {σ : Store} {av : Addr → Prop} {s s₁ : Shared} {x : Str} {v0 : Option V} {v : Value} {u : V} {Q : Unit → Shared → Prop} (X : Act prog w mg mb env sc av₀ s₀ σ av s) (k : Kp s s₁) (r : RepV prog w s s₁.heap av v u)
    (hx : Store.get σ x = some v0) (hq : ∀ s' av', Act prog w mg mb env sc av₀ s₀ (Store.set σ x u) av' s' → Fr' av₀ s av s' av' → Q () s') : wpAny (model prog w) A (storeName env x v) Q E s₁ := by
  cases u with
  | exc en => exact r.elim
  | fz d => exact (X.kp k).put hx (show RepS prog w s₁.heap av v (.fz d) from r) (fun d a e => by cases e) (fun d a e => by cases e) fun s' Y f fk _ _ => hq s' av Y ((Fr'.ofKp k).tr ((X.kp k).frPut f fk))
  | own d =>
    obtain ⟨a, rfl, hn, rb⟩ := r
    have hl : ∃ o, s₁.heap.get? a = some o := by
      cases d with
      | list ds => obtain ⟨vs, ⟨n, e⟩, _⟩ := rb; exact ⟨_, e⟩
      | dict ds => obtain ⟨kvs, ⟨o, es, ep, e, _⟩, _⟩ := rb; exact ⟨_, e⟩
      | _ => exact rb.elim
    have Y := X.grow k hn hl
    have g : Fr' av₀ s av s₁ (fun b => av b ∨ b = a) := ⟨fun b o e _ => k.heap b o e, fun b o e h => h.elim id (fun h => by rw [h, hn] at e; cases e), fun b o _ e => k.heap b o e⟩
    refine Y.put hx (show RepS prog w s₁.heap _ (.ref a) (.own d) from ⟨a, rfl, rb⟩) (fun d' a' e1 e2 hb => by
      cases e2
      obtain ⟨o, e⟩ := X.inv.avlt a (X.base a hb)
      rw [hn] at e; cases e) (fun d' a' e1 e2 => ?_) fun s' Z f fk _ _ => hq s' _ Z (g.tr (Y.frPut f fk))
    cases e2
    refine ⟨.inr rfl, ?_, fun h => ?_, fun y c hc h => ?_, fun y d' hy hg hv => ?_⟩
    · cases e : s₀.heap.get? a with
      | none => rfl
      | some o => rw [X.keep _ _ e] at hn; cases hn
    · obtain ⟨m, o, es, ep, e, _⟩ := X.ns
      rw [h, e] at hn; cases hn
    · obtain ⟨_, _, _, v, o, e, _⟩ := X.cells y c hc
      rw [h, e] at hn; cases hn
    · have hv' := X.varBack hg (fun u h => h.keeps k.heap) hv
      obtain ⟨q1, _⟩ := X.ownA y d' a hg hv'
      obtain ⟨o, e⟩ := X.inv.avlt a q1
      rw [hn] at e; cases e

noncomputable def FlowOk (prog : Program) (w : World) (mg mb : Str → Option Value) (env : Env) (sc : Scope) (av₀ : Addr → Prop) (s₀ : Shared) (s : Shared) (av : Addr → Prop) (f : Flow) (s' : Shared) (r : Fl × Store) : Prop :=
  match r.1 with
  | .next => f = .next ∧ ∃ av', Act prog w mg mb env sc av₀ s₀ r.2 av' s' ∧ Fr' av₀ s av s' av'
  | .ret u => ∃ v, f = .ret v ∧ Kp s₀ s' ∧ RepV prog w s₀ s'.heap av₀ v u

noncomputable def SSound (prog : Program) (w : World) (mg mb : Str → Option Value) (n : Nat) (env : Env) (sc : Scope) (av₀ : Addr → Prop) (s₀ : Shared) (σ : Store) (t : Sem Flow) (r : P (Fl × Store)) : Prop :=
  ∀ (A : Around) (s : Shared) (av : Addr → Prop), Room n A → Act prog w mg mb env sc av₀ s₀ σ av s →
    Yd (fun Q E => wpAny (model prog w) A t Q E s) (FlowOk prog w mg mb env sc av₀ s₀ s av) (Raised s₀) r

theorem Raised.back0 {σ : Store} {av : Addr → Prop} {s : Shared} (_X : Act prog w mg mb env sc av₀ s₀ σ av s) (x : Value) (s' : Shared) (en : Exn) (r : Raised s x s' en) : Raised s₀ x s' en := r

theorem FlowOk.before {s s₁ : Shared} {av av1 : Addr → Prop} {f : Flow} {s' : Shared} {r : Fl × Store} (x : Fr' av₀ s av s₁ av1) (h : FlowOk prog w mg mb env sc av₀ s₀ s₁ av1 f s' r) : FlowOk prog w mg mb env sc av₀ s₀ s av f s' r := by
  unfold FlowOk at h ⊢
  cases hr : r.1 with
  | next =>
    rw [hr] at h
    obtain ⟨h1, av', h2, h3⟩ := h
    exact ⟨h1, av', h2, x.tr h3⟩
  | ret u => rw [hr] at h; exact h

theorem sound_blk {n : Nat} {rec : Store → Stmt → P (Fl × Store)} : ∀ {b : List Stmt} {σ : Store}, (∀ st ∈ b, ∀ σ, SSound prog w mg mb n env sc av₀ s₀ σ (exec st env) (rec σ st)) → SSound prog w mg mb n env sc av₀ s₀ σ (execs b env) (evBlk rec b σ)
  | [], σ, _ => fun A s av hA X Q E hq => wpAny_execs_nil (hq _ _ ⟨rfl, av, X, Fr'.rfl' s av⟩)
  | st :: r, σ, h => fun A s av hA X => by
    show Yd _ _ _ ((rec σ st).bind fun fs => match fs.1 with
      | .next => evBlk rec r fs.2
      | .ret v => .ok (.ret v, fs.2))
    refine Yd.bind (h st (by simp) σ A s av hA X) (W2 := fun f s₁ Q E => match f with | .next => wpAny (model prog w) A (execs r env) Q E s₁ | f => Q f s₁) (fun Q E h => wpAny_execs_cons h) fun f s₁ fs hf _ => ?_
    unfold FlowOk at hf
    cases hfs : fs.1 with
    | next =>
      rw [hfs] at hf
      obtain ⟨rfl, av1, Y, fr⟩ := hf
      exact (sound_blk (b := r) (fun st hst => h st (List.mem_cons_of_mem _ hst)) A s₁ av1 hA Y).mono (fun _ _ x => x) (fun _ _ _ _ q => q.before fr) fun _ _ _ x => x
    | ret u =>
      rw [hfs] at hf
      obtain ⟨v, rfl, k, rv⟩ := hf
      exact fun Q E hq => hq _ _ ⟨v, rfl, k, rv⟩

theorem RepV.out {σ : Store} {av : Addr → Prop} {s : Shared} {h : Heap} {v : Value} {u : V} (X : Act prog w mg mb env sc av₀ s₀ σ av s) (r : RepV prog w s h av v u) : RepV prog w s₀ h av₀ v u := by
  have r' := r.back X.kp0
  cases u with
  | exc en => exact r
  | fz d => exact (show Rep prog w h av v d from r).mono (fun _ _ _ e => e) fun b _ _ x => X.base b x
  | own d =>
    obtain ⟨a, e, hn, rb⟩ := r'
    exact ⟨a, e, hn, rb.mono (fun _ _ _ e => e) (fun b _ _ x => x.imp (X.base b) id) fun _ e => e⟩

theorem sound_Return {n : Nat} {σ : Store} {e : Expr} {pos : Pos} {xs : List Str} {p : P V} (h : ESound prog w mg mb n sc (Store.clear σ xs) e p) :
    SSound prog w mg mb n env sc av₀ s₀ σ (exec (.Return (some e) pos) env) (p.bind fun v => .ok (.ret v, Store.clear σ xs)) := by
  intro A s av hA X
  obtain ⟨av1, Y, hsub⟩ := X.clear xs
  refine Yd.bind ((h A env s av1 hA Y.inv).mono (fun _ _ x => x) (fun _ _ _ _ r => r) (Raised.back0 Y)) (W2 := fun v s₁ Q E => Q (.ret v) s₁) (fun Q E h => wpAny_Return_some h) fun v s₁ u r _ => ?_
  exact fun Q E hq => hq _ _ ⟨v, rfl, X.kp0.tr r.1, r.2.out Y⟩

theorem sound_ReturnName {n : Nat} {σ : Store} {e : Expr} {pos : Pos} {p : P V} (h : ESound prog w mg mb n sc σ e p) :
    SSound prog w mg mb n env sc av₀ s₀ σ (exec (.Return (some e) pos) env) (p.bind fun v => .ok (.ret v, σ)) := by
  intro A s av hA X
  refine Yd.bind ((h A env s av hA X.inv).mono (fun _ _ x => x) (fun _ _ _ _ r => r) (Raised.back0 X)) (W2 := fun v s₁ Q E => Q (.ret v) s₁) (fun Q E h => wpAny_Return_some h) fun v s₁ u r _ => ?_
  exact fun Q E hq => hq _ _ ⟨v, rfl, X.kp0.tr r.1, r.2.out X⟩

theorem sound_ReturnOwn {n : Nat} {σ : Store} {x : Str} {p pos : Pos} {d : PyData} (hg : Store.get σ x = some (some (.own d))) (hl : isL sc x = true) :
    SSound prog w mg mb n env sc av₀ s₀ σ (exec (.Return (some (.Name x p)) pos) env) (.ok (.ret (.own d), σ)) := by
  intro A s av hA X Q E hq
  obtain ⟨u, h1, a, rfl, h2⟩ := X.inv.get x _ hl hg
  obtain ⟨q1, q2, _⟩ := X.ownA x d a hg h1
  refine wpAny_Return_some (name_var X.inv hl h1 (hq _ _ ⟨.ref a, rfl, X.kp0, a, rfl, q2, h2.mono (fun _ _ _ e => e) (fun b _ _ h => ?_) fun _ e => e⟩))
  rcases h with h | h
  · exact X.base b h
  · exact h ▸ q1

theorem setName_out {x : Str} {u : V} {σ σ' : Store} (h : setName x u σ = .ok σ') : ∃ v0, Store.get σ x = some v0 ∧ σ' = Store.set σ x u := by
  unfold setName at h
  split at h
  · rename_i v0 hg; cases h; exact ⟨v0, hg, rfl⟩
  · cases h
theorem setName_noerr (x : Str) (u : V) (σ : Store) (en : Exn) : setName x u σ ≠ .err en := by
  unfold setName; split <;> (intro h; cases h)

theorem sound_AssignName {n : Nat} {σ : Store} {e : Expr} {x : Str} {p pos : Pos} {xs : List Str} {q : P V} (hs : swapsWith e (some (.Name x p)) pos.line env = pure false) (h : ESound prog w mg mb n sc (Store.clear σ xs) e q) :
    SSound prog w mg mb n env sc av₀ s₀ σ (exec (.Assign [.Name x p] e pos) env) (q.bind fun v => (setName x v (Store.clear σ xs)).bind fun σ => .ok (.next, σ)) := by
  intro A s av hA X
  obtain ⟨av1, Y, hsub⟩ := X.clear xs
  refine Yd.bind ((h A env s av1 hA Y.inv).mono (fun _ _ x => x) (fun _ _ _ _ r => r) (Raised.back0 Y)) (W2 := fun v s₁ Q E => wpAny (model prog w) A (storeName env x v) (fun _ => Q .next) E s₁) (fun Q E h => wpAny_Assign_Name h hs) fun v s₁ u r _ => ?_
  refine Yd.pureBind (setName_noerr x u _) fun σ' hσ => ?_
  obtain ⟨v0, hg, rfl⟩ := setName_out hσ
  exact fun Q E hq => Y.bindVal r.1 r.2 hg fun s' av' Z fr => hq _ _ ⟨rfl, av', Z, (Fr'.sub hsub).tr fr⟩

theorem sound_If' {n : Nat} {σ : Store} {t : Expr} {b o : List Stmt} {pos : Pos} {xs : List Str} {q : P V} {rb ro : P (Fl × Store)} (h : TSound prog w mg mb n sc (Store.clear σ xs) t q)
    (hb : SSound prog w mg mb n env sc av₀ s₀ (Store.clear σ xs) (execs b env) rb) (ho : SSound prog w mg mb n env sc av₀ s₀ (Store.clear σ xs) (execs o env) ro) :
    SSound prog w mg mb n env sc av₀ s₀ σ (exec (.If t b o pos) env) (q.bind fun v => (truthV v).bind fun c => if c then rb else ro) := by
  intro A s av hA X
  obtain ⟨av1, Y, hsub⟩ := X.clear xs
  have e : (q.bind fun v => (truthV v).bind fun c => if c then rb else ro) = (q.bind truthV).bind fun c => if c then rb else ro := by rw [P.bind_assoc']
  rw [e]
  refine Yd.bind ((h A env s av1 hA Y.inv).mono (fun _ _ x => x) (fun _ _ _ _ r => r) (Raised.back0 Y)) (W2 := fun c s₁ Q E => if c then wpAny (model prog w) A (execs b env) Q E s₁ else wpAny (model prog w) A (execs o env) Q E s₁) (fun Q E h => wpAny_If h) fun c s₁ c' r _ => ?_
  obtain ⟨k, rfl⟩ := r
  have fr := (Fr'.sub (av₀ := av₀) (s := s) hsub).tr (Fr'.ofKp (av := av1) k)
  cases c with
  | true => exact (hb A s₁ av1 hA (Y.kp k)).mono (fun _ _ x => x) (fun _ _ _ _ q => q.before fr) fun _ _ _ x => x
  | false => exact (ho A s₁ av1 hA (Y.kp k)).mono (fun _ _ x => x) (fun _ _ _ _ q => q.before fr) fun _ _ _ x => x

end
end Mine

set_option maxRecDepth 100000
namespace Mine
open PySem

section
variable {prog : Program} {w : World} {mg mb : Str → Option Value} {env : Env} {sc : Scope} {av₀ : Addr → Prop} {s₀ : Shared}

theorem swaps_cases (e : Expr) (x : Str) (p : Pos) (line : Nat) : ∃ b : Bool, swapsWith e (some (.Name x p)) line env = pure b := by
  unfold swapsWith
  cases e <;> exact ⟨_, rfl⟩

theorem swaps_true {e : Expr} {x : Str} {p : Pos} {line : Nat} (h : swapsWith e (some (.Name x p)) line env = pure true) : (∃ elt gens sc' pos, e = .ListComp elt gens sc' pos) ∨ (∃ elt gens sc' pos, e = .SetComp elt gens sc' pos) ∨ ∃ k v gens sc' pos, e = .DictComp k v gens sc' pos := by
  have hne : (pure false : Sem Bool) ≠ pure true := fun h => by cases h
  cases e <;> first
    | exact .inl ⟨_, _, _, _, rfl⟩
    | exact .inr (.inl ⟨_, _, _, _, rfl⟩)
    | exact .inr (.inr ⟨_, _, _, _, _, rfl⟩)
    | exact absurd h hne

/-- a comprehension's list is given to a name as it ends -/
theorem sound_AssignComp {n : Nat} {σ : Store} {elt : Expr} {g : Comprehension} {sc' : Scope} {cpos : Pos} {x : Str} {p pos : Pos} {xs : List Str} {rec : Scope → Store → Expr → P V}
    (hs : swapsWith (.ListComp elt [g] sc' cpos) (some (.Name x p)) pos.line env = pure true) (hstar : ∀ e pos, rec sc (Store.clear σ xs) (.Starred e pos) = .no) (hset : ∀ es k p, rec sc (Store.clear σ xs) (.Set es k p) = .no)
    (hit : ESound prog w mg mb n sc (Store.clear σ xs) g.iter (rec sc (Store.clear σ xs) g.iter)) (hsub : ∀ f as kws q, g.iter = .Call f as kws q → ∀ a ∈ as, ESound prog w mg mb n sc (Store.clear σ xs) a (rec sc (Store.clear σ xs) a))
    (hT : ∀ c ∈ g.ifs, ∀ σ', TSound prog w mg mb n sc' σ' c (rec sc' σ' c)) (hE : ∀ σ', ESound prog w mg mb n sc' σ' elt (rec sc' σ' elt)) :
    SSound prog w mg mb n env sc av₀ s₀ σ (exec (.Assign [.Name x p] (.ListComp elt [g] sc' cpos) pos) env) ((evComp rec sc (Store.clear σ xs) elt g sc').bind fun v => (setName x v (Store.clear σ xs)).bind fun σ => P.ok (Fl.next, σ)) := by
  intro A s av hA X
  obtain ⟨av1, Y, hsb⟩ := X.clear xs
  unfold evComp
  by_cases hc : (compOk sc sc' g.target && g.is_async == 0) = true
  rotate_left
  · rw [if_neg hc]; exact trivial
  rw [if_pos hc]
  simp only [Bool.and_eq_true, beq_iff_eq] at hc
  obtain ⟨target, iter, ifs, as⟩ := g
  obtain ⟨c1, c2⟩ := hc
  have c2 : as = 0 := c2
  subst c2
  have hI := sound_evIter (target := target) hstar hit hsub
  cases htt : testOf rec sc' ifs with
  | none => exact trivial
  | some t =>
    show Yd _ _ _ ((((evIter (rec sc (Store.clear σ xs)) sc target iter).bind fun l => compF t (fun σ' => rec sc' σ' elt) target (Store.clear σ xs) l).bind fun r => own (.list r)).bind fun v => (setName x v (Store.clear σ xs)).bind fun σ => P.ok (Fl.next, σ))
    by_cases hS : ∃ es k p, iter = .Set es k p
    · obtain ⟨es, k, p, rfl⟩ := hS
      have : evIter (rec sc (Store.clear σ xs)) sc target (.Set es k p) = .no := by
        show evPlain _ _ = _
        unfold evPlain; rw [hset]; rfl
      rw [this]; exact trivial
    have hS' : ∀ es k p, iter ≠ .Set es k p := fun es k p x => hS ⟨es, k, p, x⟩
    have hT' : ∀ d σ', bindT target d (Store.clear σ xs) = some σ' → Tests prog w mg mb n sc' σ' ifs (t σ') := fun d σ' _ => by
      match ifs, htt, hT with
      | [], htt, _ => cases htt; exact tests_nil
      | [c], htt, hT => cases htt; exact tests_one (hT c (by simp) σ')
      | _ :: _ :: _, htt, _ => cases htt
    have gen := fun (Q : Value → Shared → Prop) E res hr hres hq => comp_gen (use := some (assign (.Name x p) env)) (pos := cpos) (cpos := firstIterPos [⟨target, iter, ifs, 0⟩] cpos) (Q := Q) (E := E) (res := res) hA Y.inv (compOk_out c1) hS' hI hT' (fun d σ' _ => hE σ') hr hres hq
    have top : ∀ (Q : Flow → Shared → Prop) (E : Value → Shared → Prop), wpAny (model prog w) A (comprehension (.ListComp elt [⟨target, iter, ifs, 0⟩] sc' cpos) sc' env (firstIterPos [⟨target, iter, ifs, 0⟩] cpos) (newList []) false (eval iter env) (some (assign (.Name x p) env))) (fun _ s' => Q .next s') E s →
        wpAny (model prog w) A (exec (.Assign [.Name x p] (.ListComp elt [⟨target, iter, ifs, 0⟩] sc' cpos) pos) env) Q E s := fun Q E h => by
      rw [exec_Assign_Name_used _ _ _ _ hs]
      refine wpAny_bind (wpAny_standAt (wpAny_bind ?_))
      rw [arm_evalThenUse_ListComp]
      exact wpAny_bind (wpAny_mono h (fun _ s' hq => wpAny_pure (wpAny_pure hq)) fun _ _ e => e)
    cases hres : (evIter (rec sc (Store.clear σ xs)) sc target iter).bind fun l => compF t (fun σ' => rec sc' σ' elt) target (Store.clear σ xs) l with
    | no => exact trivial
    | err en => exact fun Q E hx => top Q E (gen _ E _ hres nofun fun x s' r => hx _ _ (Raised.back0 Y _ _ _ r))
    | ok l =>
      show Yd _ _ _ ((setName x (.own (.list l)) (Store.clear σ xs)).bind fun σ => P.ok (Fl.next, σ))
      refine Yd.pureBind (setName_noerr x _ _) fun σ' hσ => ?_
      obtain ⟨v0, hg, rfl⟩ := setName_out hσ
      intro Q E hq
      refine top Q E (gen _ E _ hres nofun ?_)
      intro s₂ wr D C st' k2 hwr hD hC hDC F hl
      have k := (fin_rep (av := av1) k2 hwr hD hC hDC F hl (Heap.SameBut.refl C st'.heap)).1
      have none0 : ∀ b, s₂.heap.get? b = none → s.heap.get? b = none := fun b hb => by
        cases e : s.heap.get? b with
        | none => rfl
        | some o => rw [k2.heap _ _ e] at hb; cases hb
      have sD := none0 D hD
      have sC := none0 C hC
      have zero : ∀ b, s.heap.get? b = none → s₀.heap.get? b = none := fun b hb => by
        cases e : s₀.heap.get? b with
        | none => rfl
        | some o => rw [Y.keep _ _ e] at hb; cases hb
      have not0 : ∀ b, s.heap.get? b = none → ¬ av₀ b := fun b hb h => by
        obtain ⟨o, e⟩ := Y.inv.avlt b (Y.base b h)
        rw [hb] at e; cases e
      have notL : ∀ b, s.heap.get? b = none → b ≠ env.locals := fun b hb h => by
        obtain ⟨m, o, es, ep, e, _⟩ := Y.ns
        rw [h, e] at hb; cases hb
      have notC : ∀ b, s.heap.get? b = none → ∀ y c, env.cells.lookup y = some c → b ≠ c := fun b hb y c hc h => by
        obtain ⟨_, _, _, v, o, e, _⟩ := Y.cells y c hc
        rw [h, e] at hb; cases hb
      obtain ⟨hh, tt, rfl⟩ := F.same
      obtain ⟨mC, hnsC⟩ := F.ns
      obtain ⟨ys, hpl, hyl, hys⟩ := F.lst
      have k : Kp s { s₂ with heap := hh, toks := tt } := k
      have Z := Y.growS (S := fun b => b = D ∨ b = C) k (fun a ha => ha.elim (fun h => h ▸ sD) fun h => h ▸ sC) (fun a ha => ha.elim (fun h => by
        obtain ⟨n, e⟩ := hpl; exact ⟨_, h ▸ e⟩) fun h => by
        obtain ⟨o, es, ep, e, _⟩ := hnsC; exact ⟨o, h ▸ e⟩)
      have notV : ∀ b, s.heap.get? b = none → ∀ y d', Store.get (Store.clear σ xs) y = some (some (.own d')) → ¬ VarAt env hh y (.ref b) := fun b hb y d' hgy hv => by
        have hv' := Y.varBack (s' := { s₂ with heap := hh, toks := tt }) hgy (fun u h => h.keeps k.heap) hv
        obtain ⟨q1, _⟩ := Y.ownA y d' b hgy hv'
        obtain ⟨o, e⟩ := Y.inv.avlt b q1
        rw [hb] at e; cases e
      have g : Fr' av₀ s av1 { s₂ with heap := hh, toks := tt } (fun b => av1 b ∨ b = D ∨ b = C) := ⟨fun b o e _ => k.heap b o e, fun b o e h => h.elim id (fun h => by
        rcases h with h | h
        · rw [h, sD] at e; cases e
        · rw [h, sC] at e; cases e), fun b o _ e => k.heap b o e⟩
      refine wpAny_assign_Name (Z.put hg (v := .own (.list l)) ⟨D, rfl, ys, hpl, hyl, by rw [hyl]; exact hl, fun j v d e1 e2 => ?_⟩ (fun d a e1 e2 => ?_) (fun d a e1 e2 => ?_) fun s' Z' f fk hvx hvy => ?_)
      · refine (hys j v d e1 e2).mono (fun b o hb e => e) fun b o _ hb => ?_
        rcases hb with hb | hb | hb
        · exact .inl hb
        · exact .inr (.inr (.inl hb))
        · exact .inr (.inr (.inr hb))
      · cases e2
        exact fun hb => not0 D sD hb
      · cases e2
        exact ⟨.inr (.inl rfl), zero D sD, notL D sD, notC D sD, fun y d' _ hgy => notV D sD y d' hgy⟩
      · have hown : ∀ y d', Store.get (Store.set (Store.clear σ xs) x (.own (.list l))) y = some (some (.own d')) → ¬ VarAt env s'.heap y (.ref C) := fun y d' hgy hv => by
          by_cases hyx : y = x
          · subst hyx
            have := VarAt.uniq hvx hv
            cases this
            exact hDC rfl
          · rw [Store.get_set, if_neg hyx] at hgy
            obtain ⟨u', h3, _⟩ := Z.inv.get y _ (Z.names y _ hgy).1 hgy
            have hu := VarAt.uniq (hvy y u' hyx h3) hv
            subst hu
            exact notV C sC y d' hgy h3
        refine ⟨mC, hnsC.at' fun o e => fk C o (notL C sC) (notC C sC) e, fun h' hs' => ?_⟩
        have hkeep : ∀ b o, ¬ b = C → s'.heap.get? b = some o → h'.get? b = some o := fun b o hb e => by rw [hs'.2 b hb]; exact e
        have W := Z'.wildS (S := fun b => b = C) (av' := fun b => (av1 b ∨ b = D ∨ b = C) ∧ b ≠ C) (h' := h') (tk := s'.toks) (fun b hb => .inr (.inr hb)) (fun b hb => hb ▸ zero C sC) (fun h => notL C sC h.symm) (fun y c hc h => notC C sC y c hc h.symm)
          (fun y d' a hgy hv ha => hown y d' hgy (ha ▸ hv)) hkeep (fun b hb => hb.1) (fun b hb hb' => ⟨hb, hb'⟩) (fun b hb hb' => absurd hb' hb.2) (fun b hb => ⟨.inl (Y.base b hb), fun h => not0 C sC (h ▸ hb)⟩)
        have fr : Fr' av₀ s' (fun b => av1 b ∨ b = D ∨ b = C) { s' with heap := h' } (fun b => (av1 b ∨ b = D ∨ b = C) ∧ b ≠ C) := ⟨fun b o e hb => hkeep b o (fun h => hb (.inr (.inr h))) e, fun _ _ _ h => h.1, fun b o hb e => hkeep b o (fun h => not0 C sC (h ▸ hb)) e⟩
        exact hq _ _ ⟨rfl, _, W, (Fr'.sub hsb).tr (g.tr ((Z.frPut f fk).tr fr))⟩

end
end Mine

set_option maxRecDepth 100000
namespace Mine
open PySem

section
variable {prog : Program} {w : World} {mg mb : Str → Option Value} {env : Env} {sc : Scope} {av₀ : Addr → Prop} {s₀ : Shared}

theorem getOwn_out {σ : Store} {x : Str} {d : PyData} (h : getOwn σ x = .ok d) : Store.get σ x = some (some (.own d)) := by
  unfold getOwn at h
  split at h
  · rename_i d' hg; cases h; exact hg
  · cases h
theorem getOwn_noerr (σ : Store) (x : Str) (en : Exn) : getOwn σ x ≠ .err en := by
  unfold getOwn; split <;> (intro h; cases h)

theorem without_cons {y : Str} {v : Value} {r : List (Str × Value)} {k : Str} (hn : (((y, v) :: r).map (·.1)).Nodup) : without ((y, v) :: r) k = if k = y then r else (y, v) :: without r k := by
  by_cases h : k = y
  · subst h
    rw [if_pos rfl]
    have hnot : k ∉ r.map (·.1) := (List.nodup_cons.mp (show (k :: r.map (·.1)).Nodup from hn)).1
    have : without ((k, v) :: r) k = without r k := by
      unfold without; simp
    rw [this, without_of_not_mem r k hnot]
  · rw [if_neg h]
    unfold without
    have : (decide ((y, v).1 ≠ k)) = true := by simp; exact fun e => h e.symm
    rw [List.filter_cons, if_pos this]

theorem KV.del {h : Heap} {av : Addr → Prop} {k : Str} : ∀ {kvs : List (Str × Value)} {ds : List (PyData × PyData)}, (kvs.map (·.1)).Nodup → KV prog w h av kvs ds → KV prog w h av (without kvs k) (dDel ds k)
  | [], [], _, _ => trivial
  | (y, v0) :: r, (dk, d0) :: t, hn, x => by
    obtain ⟨x1, x2, x3⟩ := x
    have x1 : dk = .str y := x1
    subst x1
    rw [without_cons hn]
    show KV prog w h av _ (if k = y then t else (.str y, d0) :: dDel t k)
    split
    · exact x3
    · exact ⟨rfl, x2, KV.del (List.nodup_cons.mp (show (y :: r.map (·.1)).Nodup from hn)).2 x3⟩
  | [], _ :: _, _, x => x.elim
  | _ :: _, [], _, x => x.elim

theorem dictOf_nodup {h : Heap} {a : Addr} {kvs : List (Str × Value)} (x : h.DictOf (strKind prog w) a kvs) : (kvs.map (·.1)).Nodup := by
  obtain ⟨o, es, ep, _, _, _, _, _, hn⟩ := x
  exact hn

theorem mutOk_there {m : Str} {od : PyData} (hm : mutOk m od = true) : ∃ T id, PlainAttrs T ∧ Slot T m id ∧ typeOf (.builtin id) = pure (.type "method_descriptor") ∧
    (∀ (s : Shared) (av : Addr → Prop) (a : Addr), Body prog w s.heap av a od → s.TypeIs (.ref a) T ∧ ∃ ob, s.heap.get? a = some ob ∧ ob.dict = none) ∧
    ∀ (A : Around) (s : Shared) (av : Addr → Prop) (a : Addr) (vs : List Value) (ds : List PyData) (od' : PyData) (Q : Value → Shared → Prop) (E : Value → Shared → Prop), av a → Body prog w s.heap av a od → vs.length = ds.length →
      (∀ (i : Nat) (v : Value) (d : PyData), vs[i]? = some v → ds[i]? = some d → Rep prog w s.heap av v d) → mutate od ds = .ok od' →
      (∀ v h' tk, Heap.SameBut a s.heap h' → Body prog w h' av a od' → Q v { s with heap := h', toks := tk }) → wpAny (model prog w) A (call (.builtin id) (.ref a :: vs)) Q E s := by
  unfold mutOk at hm
  split at hm
  · rename_i l
    simp only [decide_eq_true_eq] at hm
    subst hm
    refine ⟨"list", "list.append", F.plainAttrs_list, F.slot_list_append, by kernel_rfl, fun s av a hb => ?_, fun A s av a vs ds od' Q E ha hb hl hr hmu hq => ?_⟩
    · obtain ⟨vs, ⟨n, e⟩, _⟩ := hb
      exact ⟨⟨_, e, rfl⟩, _, e, rfl⟩
    · unfold mutate at hmu
      split at hmu
      · rename_i l' d he
        split at hmu
        · rename_i hlt
          cases hmu
          cases he
          obtain ⟨xs, hp, hxl, hxz, hxr⟩ := hb
          match vs, hl with
          | [v], _ =>
            have rv := hr 0 v d rfl rfl
            refine wpAny_list_append_plain hp (fun h' hp' hs => ?_) (by simp; exact hxz)
            have hsb : ∀ b o, ¬ av b → s.heap.get? b = some o → h'.get? b = some o := fun b o hb e => by rw [hs.2 b (fun h => hb (h ▸ ha))]; exact e
            refine hq .none h' s.toks hs ⟨xs ++ [v], by simpa using hp', by simp [hxl], ?_, fun i u du e1 e2 => ?_⟩
            · have : strN = sizeLine := rfl
              simp
              omega
            · rw [List.getElem?_append] at e1 e2
              split at e1
              · rename_i hj
                rw [if_pos (by omega)] at e2
                exact (hxr i u du e1 e2).mono hsb fun _ _ _ x => x
              · rename_i hj
                rw [if_neg (by omega), ← hxl] at e2
                cases hjj : i - xs.length with
                | zero =>
                  rw [hjj] at e1 e2
                  simp at e1 e2
                  subst e1; subst e2
                  exact rv.mono hsb fun _ _ _ x => x
                | succ q => rw [hjj] at e1; simp at e1
        · cases hmu
      · rename_i he; cases he
      · cases hmu
  · rename_i l
    simp only [Bool.and_eq_true, decide_eq_true_eq] at hm
    obtain ⟨rfl, hk⟩ := hm
    refine ⟨"dict", "dict.pop", F.plainAttrs_dict, F.slot_dict_pop, by kernel_rfl, fun s av a hb => ?_, fun A s av a vs ds od' Q E ha hb hl hr hmu hq => ?_⟩
    · obtain ⟨kvs, h2, _⟩ := hb
      refine ⟨h2.typeIs, ?_⟩
      obtain ⟨ob, es, ep, e, c, _⟩ := h2
      exact ⟨ob, e, c.2.1⟩
    · unfold mutate at hmu
      split at hmu
      · rename_i he; cases he
      · rename_i l' k he
        split at hmu
        · rename_i hsome
          cases hmu
          cases he
          obtain ⟨kvs, h2, h3, h4, h5, h6⟩ := hb
          match vs, hl with
          | [v], _ =>
            obtain ⟨t, rfl, hkl⟩ := (hr 0 v _ rfl rfl).str_inv
            have : ∃ u, valueAt kvs k = some u := by
              rcases valueAt_dGet k h5 with ⟨_, hno⟩ | ⟨_, u, _, hu, _⟩
              · rw [hno] at hsome; cases hsome
              · exact ⟨u, hu⟩
            obtain ⟨u, hu⟩ := this
            refine call_meetsIn F.slot_dict_pop h2.typeIs F.entry_dict_pop (F.args_dict_pop_2 _ _) (meets_dict_pop_there (strKind prog w) a (isStr_self k t) [] (.inl rfl) rfl) ⟨kvs, u, h2, h3.1, hu, fun h' hd' hs => ?_⟩
            have hsb : ∀ b o, ¬ av b → s.heap.get? b = some o → h'.get? b = some o := fun b o hb e => by rw [hs.2 b (fun h => hb (h ▸ ha))]; exact e
            have kv := (KV.del (k := k) (dictOf_nodup h2) (KV.of h5 h6)).mono hsb fun _ _ _ x => x
            obtain ⟨g1, g2⟩ := kv.out
            refine hq u h' _ hs ⟨without kvs k, hd', ⟨Nat.le_trans (List.length_filter_le _ _) h3.1, fun kv hkv => h3.2 kv (List.mem_filter.mp hkv).1⟩, h4, g1, g2⟩
        · cases hmu
      · cases hmu
  · cases hm

theorem mutate_noerr (o : PyData) (as : List PyData) (en : Exn) : mutate o as ≠ .err en := by
  unfold mutate
  split
  · split <;> (intro h; cases h)
  · split <;> (intro h; cases h)
  · intro h; cases h

theorem sound_Mut {n F : Nat} {K : Ctx} {σ : Store} {x m : Str} {as : List Expr} {xp ap cp pos : Pos} {xs : List Str} (hstar : ∀ e pos, evE K F sc (Store.clear σ xs) (.Starred e pos) = .no)
    (h : ∀ e ∈ as, ESound prog w mg mb n sc (Store.clear σ xs) e (evE K F sc (Store.clear σ xs) e)) :
    SSound prog w mg mb n env sc av₀ s₀ σ (exec (.Expr (.Call (.Attribute (.Name x xp) m ap) as [] cp) pos) env) (evMut F K sc (Store.clear σ xs) x m ap as cp) := by
  intro A s av hA X
  obtain ⟨av1, Y, hsub⟩ := X.clear xs
  unfold evMut
  split
  · exact trivial
  rename_i hc
  simp only [not_or, Bool.not_eq_true, Bool.not_eq_false, Nat.not_lt] at hc
  obtain ⟨c3, c4, c5⟩ := hc
  refine Yd.pureBind (getOwn_noerr _ x) fun od hod => ?_
  have hg := getOwn_out hod
  obtain ⟨hlx, _⟩ := Y.names x _ hg
  obtain ⟨u, hv, a, rfl, hb⟩ := Y.inv.get x _ hlx hg
  have ha := (Y.ownA x od a hg hv).1
  split
  · rename_i hm
    obtain ⟨T, id, t1, t2, t3, t4, t5⟩ := mutOk_there (prog := prog) (w := w) hm
    obtain ⟨q1, q2⟩ := t4 s av1 a hb
    have top : ∀ (Q : Flow → Shared → Prop) (E : Value → Shared → Prop), wpAny (model prog w) A (callWith cp (.builtin id) [.ref a] (backTo cp (starEach as env)) []) (fun _ s' => Q .next s') E s → wpAny (model prog w) A (exec (.Expr (.Call (.Attribute (.Name x xp) m ap) as [] cp) pos) env) Q E s := fun Q E h' => by
      refine wpAny_Expr_any ?_ (by unfold interactive; rw [X.inv.kind]; rfl) rfl
      refine wpAny_Call_method_lateS rfl (few_args c4 c5 cp env) c3 ?_
      refine name_var Y.inv hlx hv ?_
      exact ⟨T, id, t1, t2, t3, q1, fun a' e => by cases e; exact q2, h'⟩
    refine Yd.bind ((sound_evs (pos := cp) hstar h hA Y.inv).mono (fun _ _ x => x) (fun _ _ _ _ r => r) (Raised.back0 Y)) (W2 := fun vs s₂ Q E => wpAny (model prog w) A (call (.builtin id) (.ref a :: vs)) (fun _ s' => Q Flow.next s') E s₂) (fun Q E h => top Q E (callWith_fv c4 h)) fun vs s₂ us r2 _ => ?_
    refine Yd.pureBind (dsOf_noerr us) fun ds eds => ?_
    refine Yd.pureBind (mutate_noerr od ds) fun od' hmu => ?_
    refine Yd.pureBind (setName_noerr x _ _) fun σ' hσ => ?_
    obtain ⟨v0, _, rfl⟩ := setName_out hσ
    obtain ⟨g1, g2⟩ := dsOf_rep r2.2 eds
    have Y2 := Y.kp r2.1
    intro Q E hq
    refine t5 A s₂ av1 a vs ds od' _ E ha (hb.mono (fun b o _ e => r2.1.heap b o e) (fun _ _ _ x => x) fun o e => r2.1.heap _ o e) g1 g2 hmu fun v h' tk hs hb' => ?_
    obtain ⟨Z, _⟩ := Y2.mut (tk := tk) hg (hv.keeps r2.1.heap) hs hb'
    have fr := Y2.frMut (s' := { s₂ with heap := h', toks := tk }) hg (hv.keeps r2.1.heap) hs
    exact hq _ _ ⟨rfl, av1, Z, (Fr'.sub hsub).tr ((Fr'.ofKp r2.1).tr fr)⟩
  · exact trivial

theorem sound_ExprPlain {n : Nat} {σ : Store} {e : Expr} {pos : Pos} {xs : List Str} {q : P V} (hc : isComp e = false) (h : ESound prog w mg mb n sc (Store.clear σ xs) e q) :
    SSound prog w mg mb n env sc av₀ s₀ σ (exec (.Expr e pos) env) (q.bind fun _ => .ok (.next, Store.clear σ xs)) := by
  intro A s av hA X
  obtain ⟨av1, Y, hsub⟩ := X.clear xs
  have hsw : swapsWith e none pos.line env = pure false := by
    unfold swapsWith
    cases e <;> first | rfl | cases hc
  refine Yd.bind ((h A env s av1 hA Y.inv).mono (fun _ _ x => x) (fun _ _ _ _ r => r) (Raised.back0 Y)) (W2 := fun v s₁ Q E => Q Flow.next s₁) (fun Q E h => wpAny_Expr_any h (by unfold interactive; rw [X.inv.kind]; rfl) hsw) fun v s₁ u r _ => ?_
  exact fun Q E hq => hq _ _ ⟨rfl, av1, Y.kp r.1, (Fr'.sub hsub).tr (Fr'.ofKp r.1)⟩

end
end Mine

set_option maxRecDepth 100000
namespace Mine
open PySem

section
variable {prog : Program} {w : World} {mg mb : Str → Option Value} {env : Env} {sc : Scope} {av₀ : Addr → Prop} {s₀ : Shared}

theorem setItem_noerr (o i d : PyData) (en : Exn) : setItem o i d ≠ .err en := by
  unfold setItem
  split
  · split <;> (intro h; cases h)
  · split <;> (intro h; cases h)
  · intro h; cases h

theorem stored_length (kvs : List (Str × Value)) (k : Str) (v : Value) : (stored kvs k v).length ≤ kvs.length + 1 := by
  unfold stored
  split
  · simp
  · simp

theorem sound_setItem {A : Around} {s : Shared} {av : Addr → Prop} {a : Addr} {vi vd : Value} {o i d o' : PyData} {Q : Unit → Shared → Prop} {E : Value → Shared → Prop} (ha : av a) (hb : Body prog w s.heap av a o) (ri : Rep prog w s.heap av vi i) (rd : Rep prog w s.heap av vd d)
    (hs : setItem o i d = .ok o') (hq : ∀ h' tk, Heap.SameBut a s.heap h' → Body prog w h' av a o' → Q () { s with heap := h', toks := tk }) : wpAny (model prog w) A (PySem.setItem (.ref a) vi vd) Q E s := by
  unfold setItem at hs
  have mono : ∀ {h' : Heap}, Heap.SameBut a s.heap h' → ∀ b o, ¬ av b → s.heap.get? b = some o → h'.get? b = some o := fun hs b o hb e => by rw [hs.2 b (fun h => hb (h ▸ ha))]; exact e
  split at hs
  · rename_i l k
    split at hs
    · rename_i hc
      cases hs
      simp only [Bool.and_eq_true, decide_eq_true_eq] at hc
      obtain ⟨kvs, h2, h3, h4, h5, h6⟩ := hb
      obtain ⟨t, rfl, hkl⟩ := ri.str_inv
      have hlen : kvs.length = l.length := by
        have := congrArg List.length h5
        simpa using this.symm
      refine wpAny_setItem_pairs (isStr_self k t) h2 (fun h' hd' hsb => ?_) h3.1
      have kv := KV.set (k := k) (rd.mono (mono hsb) fun _ _ _ x => x) (dictOf_nodup h2) ((KV.of h5 h6).mono (mono hsb) fun _ _ _ x => x)
      obtain ⟨g1, g2⟩ := kv.out
      refine hq h' _ hsb ⟨_, hd', ⟨?_, stored_mem h3.2 hkl⟩, h4, g1, g2⟩
      have := stored_length kvs k vd
      have : strN = sizeLine := rfl
      omega
    · cases hs
  · rename_i l k
    split at hs
    · rename_i hc
      cases hs
      obtain ⟨xs, hp, hxl, hxz, hxr⟩ := hb
      obtain ⟨t, rfl⟩ := ri.int_inv
      have hsz : sizeLine = strN := rfl
      have hN : strN = 16777216 := rfl
      refine setItem_plain hp hc.1 (by omega) (by simp; omega) fun h' hp' hsb => ?_
      refine hq h' _ hsb ⟨xs.set k.toNat vd, ?_, by simp [hxl], by simpa using hxz, fun i u du e1 e2 => ?_⟩
      · have : (xs.set k.toNat vd).toArray = xs.toArray.setIfInBounds k.toNat vd := by simp
        rw [this]; exact hp'
      · rw [List.getElem?_set] at e1 e2
        split at e1
        · rename_i hj
          rw [if_pos hj] at e2
          split at e1
          · split at e2
            · cases e1; cases e2
              exact rd.mono (mono hsb) fun _ _ _ x => x
            · cases e2
          · cases e1
        · rename_i hj
          rw [if_neg hj] at e2
          exact (hxr i u du e1 e2).mono (mono hsb) fun _ _ _ x => x
    · cases hs
  · cases hs

theorem sound_SetSub {n F : Nat} {K : Ctx} {σ : Store} {x : Str} {i e : Expr} {xp p pos : Pos} {xs : List Str} (he : ESound prog w mg mb n sc (Store.clear σ xs) e (evE K F sc (Store.clear σ xs) e)) (hi : ESound prog w mg mb n sc (Store.clear σ xs) i (evE K F sc (Store.clear σ xs) i)) :
    SSound prog w mg mb n env sc av₀ s₀ σ (exec (.Assign [.Subscript (.Name x xp) i p] e pos) env) (evSetSub F K sc (Store.clear σ xs) x i e) := by
  intro A s av hA X
  obtain ⟨av1, Y, hsub⟩ := X.clear xs
  unfold evSetSub
  split
  · exact trivial
  rename_i hsl
  have hsw : swapsWith e (some (.Subscript (.Name x xp) i p)) pos.line env = pure false := by
    unfold swapsWith
    cases e <;> rfl
  refine Yd.bind ((he A env s av1 hA Y.inv).mono (fun _ _ x => x) (fun _ _ _ _ r => r) (Raised.back0 Y)) (W2 := fun v s₁ Q E => wpAny (model prog w) A (eval (.Name x xp) env) (fun ov s₂ => wpAny (model prog w) A (eval i env) (fun iv s₃ => wpAny (model prog w) A (PySem.setItem ov iv v) (fun _ => Q Flow.next) E s₃) E s₂) E s₁)
    (fun Q E h => wpAny_Assign_Subscript h hsw) fun v s₁ u r _ => ?_
  refine Yd.pureBind (dOf_noerr u) fun d hd => ?_
  refine Yd.pureBind (getOwn_noerr _ x) fun od hod => ?_
  have hg := getOwn_out hod
  obtain ⟨hlx, _⟩ := Y.names x _ hg
  have Y1 := Y.kp r.1
  have rd := r.2.rep Y.inv.avlt hd
  obtain ⟨u', hv, a, rfl, hb⟩ := Y1.inv.get x _ hlx hg
  have ha := (Y1.ownA x od a hg hv).1
  refine Yd.bind ((hi A env s₁ av1 hA Y1.inv).mono (fun _ _ x => x) (fun _ _ _ _ r => r) (Raised.back0 Y1)) (W2 := fun iv s₃ Q E => wpAny (model prog w) A (PySem.setItem (.ref a) iv v) (fun _ => Q Flow.next) E s₃)
    (fun Q E h => name_var Y1.inv hlx hv h) fun iv s₂ ui r2 _ => ?_
  refine Yd.pureBind (dOf_noerr ui) fun id hid => ?_
  refine Yd.pureBind (setItem_noerr od id d) fun od' hso => ?_
  refine Yd.pureBind (setName_noerr x _ _) fun σ' hσ => ?_
  obtain ⟨v0, _, rfl⟩ := setName_out hσ
  have Y2 := Y1.kp r2.1
  intro Q E hq
  refine sound_setItem ha (hb.mono (fun b o _ e => r2.1.heap b o e) (fun _ _ _ x => x) fun o e => r2.1.heap _ o e) (r2.2.rep Y1.inv.avlt hid) (rd.keeps r2.1.heap) hso fun h' tk hs hb' => ?_
  obtain ⟨Z, _⟩ := Y2.mut (tk := tk) hg (hv.keeps r2.1.heap) hs hb'
  have fr := Y2.frMut (s' := { s₂ with heap := h', toks := tk }) hg (hv.keeps r2.1.heap) hs
  exact hq _ _ ⟨rfl, av1, Z, (Fr'.sub hsub).tr ((Fr'.ofKp (r.1.tr r2.1)).tr fr)⟩

/-- names are given what is told -/
theorem sound_assignT {A : Around} {E : Value → Shared → Prop} {σ σ' : Store} {av : Addr → Prop} {s : Shared} {target : Expr} {v : Value} {d : PyData} {Q : Unit → Shared → Prop} (hh : A.handled = none) (X : Act prog w mg mb env sc av₀ s₀ σ av s) (r : Rep prog w s.heap av v d) (ha : assignT target d σ = .ok σ')
    (hq : ∀ s', Act prog w mg mb env sc av₀ s₀ σ' av s' → Fr' av₀ s av s' av → Q () s') : wpAny (model prog w) A (assign target env v) Q E s := by
  unfold assignT at ha
  split at ha
  · rename_i x p
    obtain ⟨v0, hg, rfl⟩ := setName_out ha
    refine wpAny_assign_Name (X.put hg (show RepS prog w s.heap av v (.fz d) from r) (fun _ _ e => by cases e) (fun _ _ e => by cases e) fun s' Y f fk _ _ => hq s' Y (X.frPut f fk))
  · rename_i x p y q k r'
    split at ha
    · rename_i a b
      obtain ⟨σ1, h1, h2⟩ := P.bind_ok ha
      obtain ⟨v0, hg, rfl⟩ := setName_out h1
      obtain ⟨v1, hg2, rfl⟩ := setName_out h2
      cases r with
      | @tuple ad vs ds g1 g2 g3 g4 g5 =>
        match vs, g3 with
        | [u1, u2], _ =>
          have r1 := g5 0 u1 a rfl rfl
          have r2 := g5 1 u2 b rfl rfl
          refine wpAny_assign_Tuple hh g2.isTuple rfl rfl fun h1 he => ?_
          have k1 : ∀ b o, s.heap.get? b = some o → h1.get? b = some o := fun b o e => he b o (ne_fresh e) e
          have kk : ∀ tk, Kp s { s with heap := h1, toks := tk } := fun tk => ⟨h1, tk, rfl, k1⟩
          have X1 := X.kp (kk s.toks)
          refine wpAny_assignInOrder_more (wpAny_assign_Name (X1.put hg (show RepS prog w h1 av u1 (.fz a) from r1.keeps k1) (fun _ _ e => by cases e) (fun _ _ e => by cases e) fun s1 Y1 f1 fk1 _ _ => ?_))
          refine wpAny_assignInOrder_more (wpAny_assign_Name (Y1.put hg2 (show RepS prog w s1.heap av u2 (.fz b) from (r2.keeps k1).mono (fun b o hb e => f1 b o e hb) fun _ _ _ h => h) (fun _ _ e => by cases e) (fun _ _ e => by cases e) fun s2 Y2 f2 fk2 _ _ => ?_))
          exact wpAny_assignInOrder_none (hq s2 Y2 ((Fr'.ofKp (kk s.toks)).tr ((X1.frPut f1 fk1).tr (Y1.frPut f2 fk2))))
    · cases ha
  · cases ha

end
end Mine

set_option maxRecDepth 100000
namespace Mine
open PySem

section
variable {prog : Program} {w : World} {mg mb : Str → Option Value} {env : Env} {sc : Scope} {av₀ : Addr → Prop} {s₀ : Shared}

theorem assignT_noerr (t : Expr) (d : PyData) (σ : Store) (en : Exn) : assignT t d σ ≠ .err en := by
  unfold assignT
  split
  · exact setName_noerr _ _ _ _
  · split
    · intro h
      cases h1 : setName _ _ σ with
      | no => rw [h1] at h; cases h
      | err e => exact setName_noerr _ _ _ _ h1
      | ok σ1 => rw [h1] at h; exact setName_noerr _ _ _ _ h
    · intro h; cases h
  · intro h; cases h

theorem for_turns {n : Nat} {A : Around} {σ : Store} {av : Addr → Prop} {s s₂ : Shared} {t : Expr} {b : List Stmt} {it : Value} {h0 : Heap} {wr : Addr → Prop} {St : Nat → Heap → Prop} {ds : List PyData} {body : Store → P (Fl × Store)}
    (hA : Room n A) (Y : Act prog w mg mb env sc av₀ s₀ σ av s) (hb : ∀ av₁ σ, SSound prog w mg mb n env sc av₁ s₀ σ (execs b env) (body σ))
    (k : Kp s s₂) (S : Src prog w A h0 av t it wr St ds) (hst : St 0 s₂.heap) (hwr : ∀ b, wr b → s.heap.get? b = none ∧ h0.get? b = none ∧ ∃ o, s₂.heap.get? b = some o) (h02 : ∀ b o, h0.get? b = some o → s₂.heap.get? b = some o)
    {R : Result → Shared → Prop} {res : P (Fl × Store)} (hf : forF body t ds σ = res) (hres : res ≠ .no) (hR : match res with
      | .ok fs => ∀ f st', FlowOk prog w mg mb env sc av₀ s₀ s av f st' fs → R (.ok f) st'
      | .err en => ∀ x s', Raised s₀ x s' en → R (.error x) s'
      | .no => True) :
    codeAny (model prog w) A (.forLoop t it b [] env) R s₂ := by
  have Z := Y.pin (S := wr) k (fun a ha => (hwr a ha).1) (fun a ha => (hwr a ha).2.2)
  have fr0 : Fr' av₀ s av s₂ (fun b => av b ∨ wr b) := ⟨fun b o e _ => k.heap b o e, fun b o e h => h.elim id (fun h => by rw [(hwr b h).1] at e; cases e), fun b o _ e => k.heap b o e⟩
  have zero : ∀ b, wr b → s₀.heap.get? b = none := fun b hb => by
    cases e : s₀.heap.get? b with
    | none => rfl
    | some o => have := Y.keep _ _ e; rw [(hwr b hb).1] at this; cases this
  have notL : ¬ wr env.locals := fun h => by
    obtain ⟨m, o, es, ep, e, _⟩ := Y.ns
    rw [(hwr _ h).1] at e; cases e
  have notC : ∀ y c, env.cells.lookup y = some c → ¬ wr c := fun y c hc h => by
    obtain ⟨_, _, _, v, o, e, _⟩ := Y.cells y c hc
    rw [(hwr _ h).1] at e; cases e
  have not0 : ∀ b, av₀ b → ¬ wr b := fun b hb h => by
    obtain ⟨o, e⟩ := Y.inv.avlt b (Y.base b hb)
    rw [(hwr _ h).1] at e; cases e
  refine codeAny_forLoop_any (fun k st => ∃ (i : Nat) (σi : Store) (avi : Addr → Prop), i + k = ds.length ∧ Act prog w mg mb env sc (fun b => av₀ b ∨ wr b) s₀ σi avi st ∧ Fr' av₀ s av st avi ∧ (∀ b o, h0.get? b = some o → ¬ av b → st.heap.get? b = some o) ∧
      (∀ b o, h0.get? b = some o → avi b → av b) ∧ St i st.heap ∧ forF body t (ds.drop i) σi = res) ?_ ds.length
    ⟨0, σ, _, by omega, Z, fr0, fun b o e _ => h02 b o e, fun b o e h => h.elim id (fun h => by rw [(hwr b h).2.1] at e; cases e), hst, hf⟩
  rintro k' st ⟨i, σi, avi, hi, X, fr, keep0, grow0, sti, hfi⟩
  by_cases hend : i = ds.length
  · subst hend
    rw [List.drop_length] at hfi
    have hfi : P.ok (Fl.next, σi) = res := hfi
    subst hfi
    refine wpAny_mono (S.done st _ (fun s' => R (.ok .next) s') sti fun h' tk hk => hR _ _ ⟨rfl, fun b => avi b ∧ ¬ wr b, ?_, fr.tr ⟨fun b o e hb => hk b o (fun hw => hb (X.base b (.inr hw))) e, fun _ _ _ h => h.1, fun b o hb e => hk b o (not0 b hb) e⟩⟩) (fun r s₁ h₁ => ?_) fun _ _ x => x
    · exact (X.weaken fun b hb => .inl hb).wildS (S := wr) (fun b hb => X.base b (.inr hb)) zero notL notC (fun x d a hg hv hw => X.ownB x d a hg hv (.inr hw)) hk (fun b hb => hb.1) (fun b hb hw => ⟨hb, hw⟩) (fun b hb hw => absurd hw hb.2) (fun b hb => ⟨X.base b (.inl hb), not0 b hb⟩)
    · cases r with
      | none => exact wpAny_execs_nil h₁
      | some v => exact h₁.elim
  · have hlt : i < ds.length := by omega
    have hd : ds[i]? = some ds[i] := List.getElem?_eq_getElem hlt
    rw [List.drop_eq_getElem_cons hlt] at hfi
    have hfi : ((assignT t ds[i] σi).bind fun σ => (body σ).bind fun fs => match fs.1 with
      | .next => forF body t (ds.drop (i + 1)) fs.2
      | .ret v => .ok (.ret v, fs.2)) = res := hfi
    cases hasg : assignT t ds[i] σi with
    | no => rw [hasg] at hfi; exact absurd hfi.symm hres
    | err en => exact absurd hasg (assignT_noerr _ _ _ _)
    | ok σ1 =>
      rw [hasg] at hfi
      have hfi : ((body σ1).bind fun fs => match fs.1 with
        | .next => forF body t (ds.drop (i + 1)) fs.2
        | .ret v => .ok (.ret v, fs.2)) = res := hfi
      refine wpAny_mono (S.item i ds[i] st _ ?QQ hd sti ?body) ?link fun _ _ x => x
      case link =>
        intro r s₁ h₁
        cases r with
        | none => exact h₁.elim
        | some v => exact h₁
      intro v h1 tk1 hk1 st1 hrep
      have X1 : Act prog w mg mb env sc (fun b => av₀ b ∨ wr b) s₀ σi avi { st with heap := h1, toks := tk1 } :=
        X.wildS (S := wr) (fun b hb => X.base b (.inr hb)) zero notL notC (fun x d a hg hv hw => X.ownB x d a hg hv (.inr hw)) hk1 (fun b hb => hb) (fun b hb _ => hb) (fun b _ hw => S.live _ _ st1 b hw) X.base
      have rv := hrep avi X.inv.avlt grow0
      have fr1 : Fr' av₀ st avi { st with heap := h1, toks := tk1 } avi := ⟨fun b o e hb => hk1 b o (fun hw => hb (X.base b (.inr hw))) e, fun _ _ _ h => h, fun b o hb e => hk1 b o (not0 b hb) e⟩
      refine sound_assignT hA.handled X1 rv hasg fun s2 Y2 fr2 => ?_
      have B := hb _ σ1 A s2 avi hA Y2
      cases hbody : body σ1 with
      | no => rw [hbody] at hfi; exact absurd hfi.symm hres
      | err en =>
        rw [hbody] at B
        exact B _ _ fun x s' r => noted_of r
      | ok fs =>
        rw [hbody] at hfi B
        refine B _ _ fun f s3 hfl => ?_
        unfold FlowOk at hfl
        cases hfs : fs.1 with
        | next =>
          rw [hfs] at hfl
          obtain ⟨rfl, av3, Y3, fr3⟩ := hfl
          have hfi : (match fs.1 with
            | .next => forF body t (ds.drop (i + 1)) fs.2
            | .ret v => .ok (.ret v, fs.2)) = res := hfi
          rw [hfs] at hfi
          have hfi : forF body t (ds.drop (i + 1)) fs.2 = res := hfi
          have frA := fr1.tr ((fr2.weaken fun b hb => .inl hb).tr (fr3.weaken fun b hb => .inl hb))
          have hnw : ∀ b o, h0.get? b = some o → ¬ wr b := fun b o e hw => by rw [(hwr b hw).2.1] at e; cases e
          have keep3 : ∀ b o, h0.get? b = some o → ¬ av b → s3.heap.get? b = some o := fun b o e hb => frA.keep b o (keep0 b o e hb) fun h => hb (grow0 b o e h)
          refine ⟨k' - 1, by omega, i + 1, fs.2, av3, by omega, Y3, fr.tr frA, keep3, fun b o e h => ?_, ?_, hfi⟩
          · exact Classical.byContradiction fun hb => hb (grow0 b o e (frA.grow b o (keep0 b o e hb) h))
          · exact S.frame _ _ _ st1 (fun b o hw e => fr3.pins b o (.inr hw) (fr2.pins b o (.inr hw) e)) keep3
        | ret u =>
          rw [hfs] at hfl
          obtain ⟨v', rfl, kk, rv'⟩ := hfl
          have hfi : (match fs.1 with
            | .next => forF body t (ds.drop (i + 1)) fs.2
            | .ret v => .ok (.ret v, fs.2)) = res := hfi
          rw [hfs] at hfi
          have hfi : P.ok (.ret u, fs.2) = res := hfi
          subst hfi
          refine hR _ _ ⟨v', rfl, kk, ?_⟩
          cases u with
          | exc en => exact rv'
          | fz d => exact (show Rep prog w s3.heap _ v' d from rv').mono (fun _ _ _ e => e) fun b _ _ x => .inl x
          | own d =>
            obtain ⟨a, e, hn, rb⟩ := rv'
            exact ⟨a, e, hn, rb.mono (fun _ _ _ e => e) (fun b _ _ x => x.imp .inl id) fun _ e => e⟩

theorem sound_For {n F : Nat} {K : Ctx} {σ : Store} {t it : Expr} {b : List Stmt} {pos : Pos} {xs : List Str} {rec : Store → Stmt → P (Fl × Store)} (hstar : ∀ e pos, evE K F sc (Store.clear σ xs) (.Starred e pos) = .no) (hset : ∀ es k p, evE K F sc (Store.clear σ xs) (.Set es k p) = .no)
    (hit : ESound prog w mg mb n sc (Store.clear σ xs) it (evE K F sc (Store.clear σ xs) it)) (hsub : ∀ f as kws q, it = .Call f as kws q → ∀ a ∈ as, ESound prog w mg mb n sc (Store.clear σ xs) a (evE K F sc (Store.clear σ xs) a))
    (hb : ∀ av₁ σ, SSound prog w mg mb n env sc av₁ s₀ σ (execs b env) (evBlk rec b σ)) :
    SSound prog w mg mb n env sc av₀ s₀ σ (exec (.For t it b [] pos) env) (evFor F K sc rec (Store.clear σ xs) t it b) := by
  intro A s av hA X
  obtain ⟨av1, Y, hsb⟩ := X.clear xs
  unfold evFor
  by_cases hS : ∃ es k p, it = .Set es k p
  · obtain ⟨es, k, p, rfl⟩ := hS
    have : evIter (evE K F sc (Store.clear σ xs)) sc t (.Set es k p) = .no := by
      show evPlain _ _ = _
      unfold evPlain; rw [hset]; rfl
    rw [this]; exact trivial
  have hs : ∀ x, foldedSetIterable it env x = pure x := fun x => by
    unfold foldedSetIterable
    cases it <;> first | rfl | exact absurd ⟨_, _, _, rfl⟩ hS
  have hI := sound_evIter (target := t) hstar hit hsub A env s av1 hA Y.inv
  refine Yd.bind (hI.mono (fun _ _ x => x) (fun _ _ _ _ r => r) (Raised.back0 Y)) (W2 := fun itv s₂ Q E => codeAny (model prog w) A (.forLoop t itv b [] env) (fun r s' => match r with | .ok f => Q f s' | .error e => cameBackBy (model prog w) A env E e s') s₂) (fun Q E h => wpAny_For h hs) fun itv s₂ ds r _ => ?_
  obtain ⟨k, h0, wr, St, S, hst, hwr, _, h02, _⟩ := r
  cases hf : forF (evBlk rec b) t ds (Store.clear σ xs) with
  | no => exact trivial
  | err en => exact fun Q E hx => for_turns hA Y hb k S hst hwr h02 hf nofun fun x s' r => r.elim
  | ok fs => exact fun Q E hq => for_turns hA Y hb k S hst hwr h02 hf nofun fun f st' hfl => hq _ _ (hfl.before (Fr'.sub hsb))

end
end Mine

set_option maxRecDepth 100000
namespace Mine
open PySem

section
variable {prog : Program} {w : World} {mg mb : Str → Option Value} {env : Env} {sc : Scope} {s₀ : Shared}

theorem evE_star (K : Ctx) (F : Nat) (sc : Scope) (σ : Store) (e : Expr) (pos : Pos) : evE K F sc σ (.Starred e pos) = .no := by cases F <;> rfl
theorem evE_set (K : Ctx) (F : Nat) (sc : Scope) (σ : Store) (es : List Expr) (k : Nat) (pos : Pos) : evE K F sc σ (.Set es k pos) = .no := by cases F <;> rfl

theorem nameOf_out {e : Expr} {x : Str} (h : nameOf e = some x) : ∃ p, e = .Name x p := by
  unfold nameOf at h
  split at h
  · cases h; exact ⟨_, rfl⟩
  · cases h

theorem tgt_name {t : Expr} {x : Str} (h : tgt t = .name x) : ∃ p, t = .Name x p := by
  unfold tgt at h
  split at h
  · cases h; exact ⟨_, rfl⟩
  · cases h
  · cases h
theorem tgt_sub {t : Expr} {x : Str} {i : Expr} (h : tgt t = .sub x i) : ∃ p q, t = .Subscript (.Name x p) i q := by
  unfold tgt at h
  split at h
  · cases h
  · cases h; exact ⟨_, _, rfl⟩
  · cases h
theorem mcall_out {e : Expr} {x m : Str} {ap cp : Pos} {as : List Expr} (h : mcall e = some (x, m, ap, as, cp)) : ∃ p, e = .Call (.Attribute (.Name x p) m ap) as [] cp := by
  unfold mcall at h
  split at h
  · cases h; exact ⟨_, rfl⟩
  · cases h

theorem SSound.no {n : Nat} {av₀ : Addr → Prop} {σ : Store} {t : Sem Flow} : SSound prog w mg mb n env sc av₀ s₀ σ t .no := fun _ _ _ _ _ => trivial

theorem sound_evRet {n F : Nat} {K : Ctx} (hK : KSound prog w mg mb n K) {av₀ : Addr → Prop} {σ : Store} {e : Expr} {pos : Pos} : SSound prog w mg mb n env sc av₀ s₀ σ (exec (.Return (some e) pos) env) (evRet F K sc σ e) := by
  unfold evRet
  split
  · rename_i x hx
    obtain ⟨p, rfl⟩ := nameOf_out hx
    split
    · rename_i d hg
      split
      · rename_i hl; exact sound_ReturnOwn hg hl
      · exact SSound.no
    · exact sound_ReturnName (sound_evE hK F sc σ _).1
  · exact sound_Return (sound_evE hK F sc _ _).1

theorem sound_evAssign {n F : Nat} {K : Ctx} (hK : KSound prog w mg mb n K) {av₀ : Addr → Prop} {σ : Store} {t e : Expr} {pos : Pos} : SSound prog w mg mb n env sc av₀ s₀ σ (exec (.Assign [t] e pos) env) (evAssign F K sc σ t e) := by
  unfold evAssign
  split
  · rename_i x hx
    obtain ⟨p, rfl⟩ := tgt_name hx
    obtain ⟨b, hsw⟩ := swaps_cases (env := env) e x p pos.line
    cases b with
    | false => exact sound_AssignName hsw (sound_evE hK F sc _ e).1
    | true =>
      cases F with
      | zero => exact SSound.no
      | succ k =>
        rcases swaps_true hsw with ⟨elt, gens, sc', cpos, rfl⟩ | ⟨elt, gens, sc', cpos, rfl⟩ | ⟨kk, vv, gens, sc', cpos, rfl⟩
        · match gens with
          | [] => exact SSound.no
          | _ :: _ :: _ => exact SSound.no
          | [g] => exact sound_AssignComp (rec := evE K k) hsw (fun e pos => evE_star K k sc _ e pos) (fun es k' p => evE_set K k sc _ es k' p) (sound_evE hK k sc _ _).1 (fun _ _ _ _ _ a _ => (sound_evE hK k sc _ a).1) (fun c _ σ' => (sound_evE hK k sc' σ' c).2) (fun σ' => (sound_evE hK k sc' σ' elt).1)
        · exact SSound.no
        · exact SSound.no
  · rename_i x i hx
    obtain ⟨p, q, rfl⟩ := tgt_sub hx
    exact sound_SetSub (sound_evE hK F sc _ e).1 (sound_evE hK F sc _ i).1
  · exact SSound.no

theorem sound_evExprS {n F : Nat} {K : Ctx} (hK : KSound prog w mg mb n K) {av₀ : Addr → Prop} {σ : Store} {e : Expr} {pos : Pos} : SSound prog w mg mb n env sc av₀ s₀ σ (exec (.Expr e pos) env) (evExprS F K sc σ e) := by
  unfold evExprS
  split
  · rename_i x m ap as cp hx
    obtain ⟨p, rfl⟩ := mcall_out hx
    exact sound_Mut (fun e pos => evE_star K F sc _ e pos) fun e _ => (sound_evE hK F sc _ e).1
  · split
    · exact SSound.no
    · rename_i hc
      exact sound_ExprPlain (by simpa using hc) (sound_evE hK F sc _ e).1

theorem sound_stepS {n F : Nat} {K : Ctx} (hK : KSound prog w mg mb n K) {rec : Store → Stmt → P (Fl × Store)} (ih : ∀ av₀ σ st, SSound prog w mg mb n env sc av₀ s₀ σ (exec st env) (rec σ st)) (av₀ : Addr → Prop) (σ : Store) (st : Stmt) :
    SSound prog w mg mb n env sc av₀ s₀ σ (exec st env) (stepS F K sc rec σ st) := by
  cases st with
  | Return e pos =>
    cases e with
    | none => exact fun A s av hA X Q E hq => wpAny_Return_none (hq _ _ ⟨.none, rfl, X.kp0, .none⟩)
    | some e => exact sound_evRet hK
  | Assign ts e pos =>
    match ts with
    | [] => exact SSound.no
    | [t] => exact sound_evAssign hK
    | _ :: _ :: _ => exact SSound.no
  | Expr e pos => exact sound_evExprS hK
  | If t b o pos => exact sound_If' (sound_evE hK F sc _ t).2 (sound_blk fun st _ σ => ih av₀ σ st) (sound_blk fun st _ σ => ih av₀ σ st)
  | For t it b o pos =>
    match o with
    | [] => exact sound_For (fun e pos => evE_star K F sc _ e pos) (fun es k' p => evE_set K F sc _ es k' p) (sound_evE hK F sc _ it).1 (fun _ _ _ _ _ a _ => (sound_evE hK F sc _ a).1) fun av₁ σ => sound_blk fun st _ σ => ih av₁ σ st
    | _ :: _ => exact SSound.no
  | Pass pos => exact fun A s av hA X Q E hq => wpAny_Pass (hq _ _ ⟨rfl, av, X, Fr'.rfl' s av⟩)
  | _ => exact SSound.no

theorem sound_evS {n F : Nat} {K : Ctx} (hK : KSound prog w mg mb n K) : ∀ (k : Nat) (av₀ : Addr → Prop) (σ : Store) (st : Stmt), SSound prog w mg mb n env sc av₀ s₀ σ (exec st env) (evS F K sc k σ st)
  | 0, _, _, _ => SSound.no
  | k + 1, av₀, σ, st => sound_stepS hK (fun av₀ σ st => sound_evS hK k av₀ σ st) av₀ σ st

end
end Mine

set_option maxRecDepth 100000
namespace Mine
open PySem

theorem lookup_zip_at {α : Type} : ∀ {ps : List Str} {us : List α} {x : Str} {v : α}, (ps.zip us).lookup x = some v → ∃ i : Nat, ps[i]? = some x ∧ us[i]? = some v
  | [], _, _, _, h => by simp at h
  | _ :: _, [], _, _, h => by simp at h
  | p :: ps, u :: us, x, v, h => by
    rw [List.zip_cons_cons, List.lookup_cons] at h
    cases hb : x == p with
    | true =>
      rw [hb] at h
      cases h
      exact ⟨0, by simp [beq_iff_eq.mp hb], rfl⟩
    | false =>
      rw [hb] at h
      obtain ⟨i, h1, h2⟩ := lookup_zip_at h
      exact ⟨i + 1, by simpa using h1, by simpa using h2⟩

theorem lookup_zip_of {α : Type} : ∀ {ps : List Str} {us : List α} {x : Str} {v : α} {i : Nat}, ps.Nodup → ps[i]? = some x → us[i]? = some v → (ps.zip us).lookup x = some v
  | [], _, _, _, _, _, h, _ => by simp at h
  | _ :: _, [], _, _, _, _, _, h => by simp at h
  | p :: ps, u :: us, x, v, i, hn, h1, h2 => by
    rw [List.zip_cons_cons, List.lookup_cons]
    cases i with
    | zero =>
      simp at h1 h2
      subst h1; subst h2
      simp
    | succ i =>
      simp at h1 h2
      have hne : (x == p) = false := by
        rw [beq_eq_false_iff_ne]
        intro e; subst e
        exact (List.nodup_cons.mp hn).1 (List.mem_of_getElem? h1)
      rw [hne]
      exact lookup_zip_of (List.nodup_cons.mp hn).2 h1 h2

theorem filterMap_zip : ∀ (ps : List Str) (vs : List Value) (f : Str → Option Value), ps.length = vs.length → (∀ (i : Nat) x v, ps[i]? = some x → vs[i]? = some v → f x = some v) → (ps.filterMap fun n => (f n).map (n, ·)) = ps.zip vs
  | [], [], _, _, _ => rfl
  | [], _ :: _, _, h, _ => by simp at h
  | _ :: _, [], _, h, _ => by simp at h
  | p :: ps, v :: vs, f, hl, h => by
    have h0 := h 0 p v rfl rfl
    rw [List.filterMap_cons, h0, List.zip_cons_cons]
    simp only [Option.map_some]
    rw [filterMap_zip ps vs f (by simpa using hl) fun i x v' h1 h2 => h (i + 1) x v' (by simpa using h1) (by simpa using h2)]

theorem bindArgs_plain {fd : FuncData} {as : List Arg} {kwd : List (Option Expr)} {dfl : List Expr} {vals : List Value} (hp : fd.params = ⟨[], as, none, [], kwd, none, dfl⟩) (hd : fd.defaults = .none) (hl : as.length = vals.length) (hn : (as.map (·.arg)).Nodup) :
    bindArgs fd ⟨vals, []⟩ = pure ((as.map (·.arg)).zip vals) := by
  have hf : ((as.map (·.arg)).filterMap fun n => (((as.map (·.arg)).zip vals).lookup n).map (n, ·)) = (as.map (·.arg)).zip vals :=
    filterMap_zip _ _ _ (by simpa using hl) fun i x v h1 h2 => lookup_zip_of hn h1 h2
  have hm : ((as.map (·.arg)).filter fun n => (((as.map (·.arg)).zip vals).lookup n).isNone) = [] := by
    rw [List.filter_eq_nil_iff]
    intro x hx
    obtain ⟨i, hi⟩ := List.mem_iff_getElem?.mp hx
    have hlt : i < vals.length := by
      have := (List.getElem?_eq_some_iff.mp hi).1
      simp at this; omega
    rw [lookup_zip_of hn hi (List.getElem?_eq_getElem hlt)]
    simp
  unfold bindArgs
  rw [hp, hd]
  have hs : seqItems? .none = pure none := rfl
  simp only [hs, pure_bind, List.forIn_nil, List.map_nil, List.nil_append, List.append_nil, Option.getD_none, Option.isNone_none, List.length_nil, Nat.zero_sub, Nat.sub_zero, List.drop_nil, List.take_length, List.zip_nil_right, List.drop_length]
  simp only [List.length_map, hl, gt_iff_lt, Nat.lt_irrefl, decide_false, Bool.false_and, Bool.false_eq_true, if_false]
  simp [hm, hf]

theorem bindL_off {kindOf : Str → Option NameKind} : ∀ {ps : List Str} {vs : List Value} {m : Str → Option Value} {x : Str}, x ∉ ps → bindL kindOf (ps.zip vs) m x = m x
  | [], _, _, _, _ => rfl
  | _ :: _, [], _, _, _ => rfl
  | p :: ps, v :: vs, m, x, h => by
    show bindL kindOf (ps.zip vs) _ x = m x
    simp at h
    rw [bindL_off h.2]
    split
    · exact if_neg h.1
    · rfl
theorem bindC_off {kindOf : Str → Option NameKind} : ∀ {ps : List Str} {vs : List Value} {m : Str → Option Value} {x : Str}, x ∉ ps → bindC kindOf (ps.zip vs) m x = m x
  | [], _, _, _, _ => rfl
  | _ :: _, [], _, _, _ => rfl
  | p :: ps, v :: vs, m, x, h => by
    show bindC kindOf (ps.zip vs) _ x = m x
    simp at h
    rw [bindC_off h.2]
    split
    · rfl
    · exact if_neg h.1
theorem bindL_get {kindOf : Str → Option NameKind} : ∀ {ps : List Str} {vs : List Value} {m : Str → Option Value} {x : Str} {v : Value} {i : Nat}, ps.Nodup → ps[i]? = some x → vs[i]? = some v → kindOf x = some .local → bindL kindOf (ps.zip vs) m x = some v
  | [], _, _, _, _, _, _, h, _, _ => by simp at h
  | _ :: _, [], _, _, _, _, _, _, h, _ => by simp at h
  | p :: ps, u :: vs, m, x, v, i, hn, h1, h2, hk => by
    show bindL kindOf (ps.zip vs) _ x = some v
    obtain ⟨n1, n2⟩ := List.nodup_cons.mp hn
    cases i with
    | zero =>
      simp at h1 h2
      subst h1; subst h2
      rw [bindL_off n1, if_pos hk]
      exact if_pos rfl
    | succ i => exact bindL_get n2 (by simpa using h1) (by simpa using h2) hk
theorem bindC_get {kindOf : Str → Option NameKind} : ∀ {ps : List Str} {vs : List Value} {m : Str → Option Value} {x : Str} {v : Value} {i : Nat}, ps.Nodup → ps[i]? = some x → vs[i]? = some v → kindOf x ≠ some .local → bindC kindOf (ps.zip vs) m x = some v
  | [], _, _, _, _, _, _, h, _, _ => by simp at h
  | _ :: _, [], _, _, _, _, _, _, h, _ => by simp at h
  | p :: ps, u :: vs, m, x, v, i, hn, h1, h2, hk => by
    show bindC kindOf (ps.zip vs) _ x = some v
    obtain ⟨n1, n2⟩ := List.nodup_cons.mp hn
    cases i with
    | zero =>
      simp at h1 h2
      subst h1; subst h2
      rw [bindC_off n1, if_neg hk]
      exact if_pos rfl
    | succ i => exact bindC_get n2 (by simpa using h1) (by simpa using h2) hk

theorem cellsFrom_acc : ∀ (names : List (Str × NameKind)) (k : Nat) (acc : List (Str × Addr)) (x : Str), (acc.lookup x).isSome = true → ((cellsFrom k names acc).lookup x).isSome = true
  | [], _, _, _, h => h
  | (y, kd) :: r, k, acc, x, h => by
    unfold cellsFrom
    split
    · refine cellsFrom_acc r _ _ x ?_
      rw [List.lookup_cons]
      split
      · rfl
      · exact h
    · exact cellsFrom_acc r _ _ x h
theorem cellsFrom_some : ∀ (names : List (Str × NameKind)) (k : Nat) (acc : List (Str × Addr)) (x : Str), (x, NameKind.cell) ∈ names → ((cellsFrom k names acc).lookup x).isSome = true
  | (y, kd) :: r, k, acc, x, h => by
    unfold cellsFrom
    rcases List.mem_cons.mp h with e | h
    · cases e
      rw [if_pos (by rfl)]
      refine cellsFrom_acc r _ _ _ ?_
      rw [List.lookup_cons]
      simp
    · split
      · exact cellsFrom_some r _ _ x h
      · exact cellsFrom_some r _ _ x h

theorem initS_get {ps : List Str} {us : List V} : ∀ {names : List (Str × NameKind)} {x : Str} {v : Option V}, Store.get (initS ps us names) x = some v → v = (ps.zip us).lookup x ∧ ((x, NameKind.local) ∈ names ∨ (x, NameKind.cell) ∈ names)
  | [], _, _, h => by cases h
  | (y, k) :: r, x, v, h => by
    have step : ∀ {k'}, (k' = NameKind.local ∨ k' = NameKind.cell) → Store.get ((y, (ps.zip us).lookup y) :: initS ps us r) x = some v → v = (ps.zip us).lookup x ∧ ((x, NameKind.local) ∈ (y, k') :: r ∨ (x, NameKind.cell) ∈ (y, k') :: r) := fun hk' h => by
      by_cases hxy : x = y
      · subst hxy
        rw [Store.get_cons_eq] at h
        cases h
        refine ⟨rfl, ?_⟩
        rcases hk' with rfl | rfl
        · exact .inl (by simp)
        · exact .inr (by simp)
      · rw [Store.get_cons_ne hxy] at h
        obtain ⟨h1, h2⟩ := initS_get h
        exact ⟨h1, h2.imp (List.mem_cons_of_mem _) (List.mem_cons_of_mem _)⟩
    have skip : ∀ {k'}, Store.get (initS ps us r) x = some v → v = (ps.zip us).lookup x ∧ ((x, NameKind.local) ∈ (y, k') :: r ∨ (x, NameKind.cell) ∈ (y, k') :: r) := fun h => by
      obtain ⟨h1, h2⟩ := initS_get h
      exact ⟨h1, h2.imp (List.mem_cons_of_mem _) (List.mem_cons_of_mem _)⟩
    cases k with
    | «local» => exact step (.inl rfl) h
    | cell => exact step (.inr rfl) h
    | _ => exact skip h

theorem nodupS_out : ∀ {l : List Str}, nodupS l = true → l.Nodup
  | [], _ => List.nodup_nil
  | x :: r, h => by
    have h : (!r.contains x && nodupS r) = true := h
    simp only [Bool.and_eq_true, Bool.not_eq_true', Bool.eq_false_iff] at h
    exact List.nodup_cons.mpr ⟨by simpa using h.1, nodupS_out h.2⟩

theorem lookup_of_nodup {α : Type} : ∀ {l : List (Str × α)} {x : Str} {k : α}, (l.map (·.1)).Nodup → (x, k) ∈ l → l.lookup x = some k
  | (y, d) :: r, x, k, hn, h => by
    obtain ⟨n1, n2⟩ := List.nodup_cons.mp (show (y :: r.map (·.1)).Nodup from hn)
    rcases List.mem_cons.mp h with e | h
    · cases e; simp [List.lookup]
    · have hne : (x == y) = false := by
        rw [beq_eq_false_iff_ne]
        intro e
        exact n1 (by rw [← e]; exact List.mem_map.mpr ⟨(x, k), h, rfl⟩)
      rw [List.lookup_cons, hne]
      exact lookup_of_nodup n2 h

structure FnOk (a : Arguments) (sc : Scope) : Prop where
  params : ∃ kwd dfl, a = ⟨[], a.args, none, [], kwd, none, dfl⟩
  kind : sc.kind = .function
  gen : sc.isGenerator = false
  cor : sc.isCoroutine = false
  nodup : (sc.names.map (·.1)).Nodup
  anodup : (a.args.map (·.arg)).Nodup
  nofree : ∀ p ∈ sc.names, p.2 ≠ .free
  akind : ∀ x ∈ a.args, sc.names.lookup x.arg = some .local ∨ sc.names.lookup x.arg = some .cell
  dbg : sc.names.lookup (Str.ofString "__debug__") = none
  cld : sc.names.lookup (Str.ofString "__classdict__") = none

theorem fnOk_out {a : Arguments} {sc : Scope} (h : fnOk a sc = true) : FnOk a sc := by
  unfold fnOk at h
  simp only [Bool.and_eq_true] at h
  obtain ⟨⟨⟨⟨⟨⟨⟨⟨⟨⟨⟨⟨⟨⟨h1, h2⟩, h3⟩, h4⟩, h5⟩, h6⟩, h7⟩, h8⟩, h9⟩, h10⟩, h11⟩, h12⟩, h13⟩, h14⟩, h15⟩ := h
  refine ⟨?_, by simpa using h7, by simpa using h8, by simpa using h9, nodupS_out h10, nodupS_out h11, fun p hp => by simpa using List.all_eq_true.mp h12 p hp, fun x hx => ?_, by simpa using h14, by simpa using h15⟩
  · obtain ⟨po, as, va, ko, kd, kw, df⟩ := a
    simp only [List.isEmpty_iff, Option.isNone_iff_eq_none] at h1 h2 h3 h4
    subst h1; subst h2; subst h3; subst h4
    exact ⟨kd, df, rfl⟩
  · have := List.all_eq_true.mp h13 x hx
    split at this
    · rename_i e; exact .inl e
    · rename_i e; exact .inr e
    · cases this

section
variable {prog : Program} {w : World} {mg mb : Str → Option Value}

/-- an activation as it begins -/
theorem act_init {s s₁ : Shared} {av : Addr → Prop} {a : Arguments} {b : List Stmt} {sc : Scope} {f : Str} {pm cd doc : Value} {ad : Addr} {vs : List Value} {us : List V} (G : Glo prog w mg mb s.heap) (hlt : ∀ b, av b → ∃ o, s.heap.get? b = some o) (havS : av sysModules)
    (hargs : ArgsRep prog w s.heap av vs us) (hok : FnOk a sc) (hin : InCallC s (callEnvC (Calls.docDef f a b sc pm cd doc) s.heap.objs.size ad).locals (bindL (callEnvC (Calls.docDef f a b sc pm cd doc) s.heap.objs.size ad).kindOf ((a.args.map (·.arg)).zip vs) fun _ => none) (callEnvC (Calls.docDef f a b sc pm cd doc) s.heap.objs.size ad).cells
      (bindC (callEnvC (Calls.docDef f a b sc pm cd doc) s.heap.objs.size ad).kindOf ((a.args.map (·.arg)).zip vs) fun _ => none) s₁) :
    ∃ av1, Act prog w mg mb (callEnvC (Calls.docDef f a b sc pm cd doc) s.heap.objs.size ad) sc av s (initS (a.args.map (·.arg)) us sc.names) av1 s₁ := by
  have hkind : ∀ x, (callEnvC (Calls.docDef f a b sc pm cd doc) s.heap.objs.size ad).kindOf x = sc.names.lookup x := fun _ => rfl
  have hL : (callEnvC (Calls.docDef f a b sc pm cd doc) s.heap.objs.size ad).locals = s.heap.objs.size := rfl
  have hcells : (callEnvC (Calls.docDef f a b sc pm cd doc) s.heap.objs.size ad).cells = cellsFrom (s.heap.objs.size + 1) sc.names [] := rfl
  generalize hE : callEnvC (Calls.docDef f a b sc pm cd doc) s.heap.objs.size ad = env at *
  have ek : env.scope.kind = .function := by rw [← hE]; exact hok.kind
  have eg : env.globals = mainGlobals := by rw [← hE]; rfl
  have eb : env.builtins = builtinsNs := by rw [← hE]; rfl
  have deadL : s.heap.get? env.locals = none := by rw [hL]; exact fresh_none _
  have deadC : ∀ x c, env.cells.lookup x = some c → s.heap.get? c = none := fun x c e => Heap.get?_none_of_le (by
    have := hin.above x c (mem_of_lookup e)
    rw [hL] at this; exact Nat.le_of_lt this)
  have neL : ∀ x c, env.cells.lookup x = some c → c ≠ env.locals := fun x c e => Nat.ne_of_gt (hin.above x c (mem_of_lookup e))
  have notown : ∀ x d, Store.get (initS (a.args.map (·.arg)) us sc.names) x ≠ some (some (.own d)) := fun x d h => by
    obtain ⟨h1, _⟩ := initS_get h
    obtain ⟨i, _, h3⟩ := lookup_zip_at h1.symm
    have hlt' : i < vs.length := by
      have := (List.getElem?_eq_some_iff.mp h3).1
      rw [hargs.1]; exact this
    exact (hargs.2 i _ _ (List.getElem?_eq_getElem hlt') h3).2 d rfl
  have cellOfName : ∀ x, sc.names.lookup x = some .cell → ∃ c, env.cells.lookup x = some c := fun x hx => by
    have := cellsFrom_some sc.names (s.heap.objs.size + 1) [] x (mem_of_lookup hx)
    rw [← hcells] at this
    exact Option.isSome_iff_exists.mp this
  refine ⟨fun b => av b ∨ b = env.locals ∨ ∃ x, env.cells.lookup x = some b, ?_⟩
  have back : ∀ b o, s.heap.get? b = some o → (av b ∨ b = env.locals ∨ ∃ x, env.cells.lookup x = some b) → av b := fun b o e h => by
    rcases h with h | h | ⟨x, h⟩
    · exact h
    · rw [h, deadL] at e; cases e
    · rw [deadC x b h] at e; cases e
  have keep := hin.toInCall.keep
  refine { inv := ?_, glo0 := G, same := hin.toInCall.same, keep := keep, base := fun b hb => .inl hb, ns := ⟨_, hin.toInCall.ns⟩, loc := ⟨.inr (.inl rfl), deadL⟩, cells := fun x c e => ⟨.inr (.inr ⟨x, e⟩), deadC x c e, neL x c e, _, hin.cell x c e⟩, capart := fun x y c hx hy => name_of_addr hin.apart (mem_of_lookup hx) (mem_of_lookup hy), names := fun x v h => ?_, ownA := fun x d a' h => absurd h (notown x d), ownB := fun x d a' h => absurd h (notown x d), ownI := fun x y d d' a' h => absurd h (notown x d), locB := fun h => ?_, celB := fun x c e h => ?_ }
  · refine { glo := G.keeps keep, kind := ek, eg := eg, eb := eb, avlt := fun b hb => ?_, avS := .inl havS, dbg := hok.dbg, cld := hok.cld, glob := fun x hx => ?_, kinds := fun x hx => ?_, get := fun x v hl hg => ?_ }
    · rcases hb with hb | hb | ⟨x, hb⟩
      · obtain ⟨o, e⟩ := hlt b hb; exact ⟨o, keep b o e⟩
      · obtain ⟨o, es, ep, e, _⟩ := hin.toInCall.ns; exact ⟨o, hb ▸ e⟩
      · obtain ⟨o, e, _⟩ := hin.cell x b hb; exact ⟨o, e⟩
    · unfold isG at hx
      rw [hkind]; exact eq_of_beq hx
    · rw [hkind]
      refine ⟨hx, ?_⟩
      cases hk : sc.names.lookup x with
      | none => rw [hk] at hx; cases hx
      | some k =>
        rw [hk] at hx
        cases k with
        | cell => exact cellOfName x hk
        | free => exact absurd rfl (hok.nofree _ (mem_of_lookup hk))
        | _ => cases hx
    · obtain ⟨h1, h2⟩ := initS_get hg
      obtain ⟨i, h3, h4⟩ := lookup_zip_at h1.symm
      have hlt' : i < vs.length := by
        have := (List.getElem?_eq_some_iff.mp h4).1
        rw [hargs.1]; exact this
      have h5 := List.getElem?_eq_getElem hlt'
      obtain ⟨r, hno⟩ := hargs.2 i _ _ h5 h4
      refine ⟨vs[i], ?_, ?_⟩
      · rcases h2 with h2 | h2
        · have hk := lookup_of_nodup hok.nodup h2
          exact .inl ⟨by rw [hkind]; exact hk, _, hin.toInCall.ns, bindL_get hok.anodup h3 h5 (by rw [hkind]; exact hk)⟩
        · have hk := lookup_of_nodup hok.nodup h2
          obtain ⟨c, hc⟩ := cellOfName x hk
          refine .inr ⟨.inl (by rw [hkind]; exact hk), c, hc, ?_⟩
          have := hin.cell x c hc
          rwa [bindC_get hok.anodup h3 h5 (by rw [hkind, hk]; intro e; cases e)] at this
      · cases v with
        | fz d => exact (show Rep prog w s.heap av _ d from r).mono (fun b o _ e => keep b o e) back
        | own d => exact absurd rfl (hno d)
        | exc en => exact r
  · obtain ⟨_, h2⟩ := initS_get h
    rcases h2 with h2 | h2
    · have hk := lookup_of_nodup hok.nodup h2
      exact ⟨by unfold isL; rw [hk], .inl (by rw [hkind]; exact hk)⟩
    · have hk := lookup_of_nodup hok.nodup h2
      exact ⟨by unfold isL; rw [hk], .inr ⟨by rw [hkind]; exact hk, cellOfName x hk⟩⟩
  · obtain ⟨o, e⟩ := hlt _ h
    rw [deadL] at e; cases e
  · obtain ⟨o, e'⟩ := hlt _ h
    rw [deadC x c e] at e'; cases e'

theorem Room.deeper {n : Nat} {A : Around} (h : Room (n + 1) A) (env : Env) : Room n (A.deeper env) where
  depth := by have := h.depth; show A.depth + 1 + n < _; omega
  units := by have := h.units; show A.units + 3 + 16 * n + 300 < _; omega
  handled := h.handled
  guards := h.guards

/-- the whole evaluator is sound -/
theorem hasOf (f : Str) (h : (findDef f prog.main.body).isSome = true) : ∃ a b sc, findDef f prog.main.body = some (a, b, sc) := by
  obtain ⟨⟨a, b, sc⟩, e⟩ := Option.isSome_iff_exists.mp h
  exact ⟨a, b, sc, e⟩

theorem sound_run : ∀ n, KSound prog w mg mb n ⟨run prog.main.body n, fun f => (findDef f prog.main.body).isSome, constOf prog.main.body⟩
  | 0 => ⟨rfl, hasOf, fun f us ad hf hh A s av vs hA G hlt hS hargs => trivial⟩
  | n + 1 => by
    refine ⟨rfl, hasOf, fun f us ad hf hh A s av vs hA G hlt hS hargs => ?_⟩
    obtain ⟨⟨a, b, sc⟩, e⟩ := Option.isSome_iff_exists.mp hh
    have ih := sound_run n
    show Yd _ _ _ (match findDef f prog.main.body with
      | none => .no
      | some (a, b, sc) =>
        if a.args.length = us.length ∧ fnOk a sc = true then
          (evBlk (evS astF ⟨run prog.main.body n, fun f => (findDef f prog.main.body).isSome, constOf prog.main.body⟩ sc astF) b (initS (a.args.map (·.arg)) us sc.names)).bind fun fs => .ok (retV fs.1)
        else .no)
    rw [e]
    show Yd _ _ _ (if a.args.length = us.length ∧ fnOk a sc = true then _ else .no)
    by_cases hc : a.args.length = us.length ∧ fnOk a sc = true
    rotate_left
    · rw [if_neg hc]; exact trivial
    rw [if_pos hc]
    obtain ⟨hlen, hfn⟩ := hc
    have hok := fnOk_out hfn
    obtain ⟨ad', o, pm, cd, doc, g1, g2, g3, g4⟩ := G.fn f a b sc e
    rw [hf] at g1
    cases g1
    obtain ⟨kwd, dfl, hpar⟩ := hok.params
    have body : ∀ s₁, InCallC s (callEnvC (Calls.docDef f a b sc pm cd doc) s.heap.objs.size ad).locals (bindL (callEnvC (Calls.docDef f a b sc pm cd doc) s.heap.objs.size ad).kindOf ((a.args.map (·.arg)).zip vs) fun _ => none) (callEnvC (Calls.docDef f a b sc pm cd doc) s.heap.objs.size ad).cells
          (bindC (callEnvC (Calls.docDef f a b sc pm cd doc) s.heap.objs.size ad).kindOf ((a.args.map (·.arg)).zip vs) fun _ => none) s₁ →
        ∃ av1, Yd (fun Q E => wpAny (model prog w) (A.deeper (callEnvC (Calls.docDef f a b sc pm cd doc) s.heap.objs.size ad)) (execs b (callEnvC (Calls.docDef f a b sc pm cd doc) s.heap.objs.size ad)) Q E s₁)
          (FlowOk prog w mg mb (callEnvC (Calls.docDef f a b sc pm cd doc) s.heap.objs.size ad) sc av s s₁ av1) (Raised s) (evBlk (evS astF ⟨run prog.main.body n, fun f => (findDef f prog.main.body).isSome, constOf prog.main.body⟩ sc astF) b (initS (a.args.map (·.arg)) us sc.names)) := fun s₁ hin => by
      obtain ⟨av1, X⟩ := act_init G hlt hS hargs hok hin
      exact ⟨av1, sound_blk (fun st _ σ => sound_evS ih astF av σ st) _ s₁ av1 (hA.deeper _) X⟩
    have top : ∀ (Q : Value → Shared → Prop) (E : Value → Shared → Prop), (∀ s₁, InCallC s (callEnvC (Calls.docDef f a b sc pm cd doc) s.heap.objs.size ad).locals (bindL (callEnvC (Calls.docDef f a b sc pm cd doc) s.heap.objs.size ad).kindOf ((a.args.map (·.arg)).zip vs) fun _ => none) (callEnvC (Calls.docDef f a b sc pm cd doc) s.heap.objs.size ad).cells
          (bindC (callEnvC (Calls.docDef f a b sc pm cd doc) s.heap.objs.size ad).kindOf ((a.args.map (·.arg)).zip vs) fun _ => none) s₁ →
          wpAny (model prog w) (A.deeper (callEnvC (Calls.docDef f a b sc pm cd doc) s.heap.objs.size ad)) (execs b (callEnvC (Calls.docDef f a b sc pm cd doc) s.heap.objs.size ad)) (fun fl s' => Q (match fl with | .ret v => v | _ => .none) s') (fun _ _ => False) s₁) → wpAny (model prog w) A (call (.ref ad) vs) Q E s := fun Q E h => by
      refine wpAny_call ?_
      refine codeAny_call_cells (binds := (a.args.map (·.arg)).zip vs) (by have := hA.depth; omega) g2 g3 G.nolimit g4 rfl (bindArgs_plain hpar rfl (by rw [hlen, hargs.1]) hok.anodup) rfl (fun x hx => ?_) (fun s₁ hin => wpAny_mono (h s₁ hin) (fun _ _ q => q) fun _ _ e => e.elim) hok.cor hok.gen hok.kind
      have hx1 := (List.of_mem_zip hx).1
      obtain ⟨ar, har, e⟩ := List.mem_map.mp hx1
      show sc.names.lookup x.1 = _ ∨ _
      rw [← e]
      rcases hok.akind ar har with h | h
      · exact .inl h
      · exact .inr ⟨h, cellsFrom_some _ _ _ _ (mem_of_lookup h)⟩
    cases hb : evBlk (evS astF ⟨run prog.main.body n, fun f => (findDef f prog.main.body).isSome, constOf prog.main.body⟩ sc astF) b (initS (a.args.map (·.arg)) us sc.names) with
    | no => exact trivial
    | err en =>
        refine fun Q E hx => top Q E fun s₁ hin => ?_
        obtain ⟨av1, Y⟩ := body s₁ hin
        rw [hb] at Y
        exact Y _ _ fun x s' r => r.elim
    | ok fs =>
        refine fun Q E hq => top Q E fun s₁ hin => ?_
        obtain ⟨av1, Y⟩ := body s₁ hin
        rw [hb] at Y
        refine Y _ _ fun fl s' hfl => hq _ _ ?_
        unfold FlowOk at hfl
        cases hfs : fs.1 with
        | next =>
          rw [hfs] at hfl
          obtain ⟨rfl, av', Z, _⟩ := hfl
          exact ⟨Z.kp0, .none⟩
        | ret u =>
          rw [hfs] at hfl
          obtain ⟨v, rfl, k, rv⟩ := hfl
          exact ⟨k, rv⟩

end
end Mine

set_option maxRecDepth 100000
namespace Mine
open PySem PySem.W PyProof.Rows

noncomputable def findRec (f : Str) : List DefRec → Option (Arguments × List Stmt × Scope)
  | [] => none
  | d :: r => if f = d.name then some (d.params, d.body, d.scope) else findRec f r

theorem findRec_out {f : Str} {a : Arguments} {b : List Stmt} {sc : Scope} : ∀ {l : List DefRec}, findRec f l = some (a, b, sc) → ∃ d ∈ l, d.name = f ∧ d.params = a ∧ d.body = b ∧ d.scope = sc
  | d :: r, h => by
    have h : (if f = d.name then some (d.params, d.body, d.scope) else findRec f r) = some (a, b, sc) := h
    split at h
    · rename_i e
      cases h
      exact ⟨d, by simp, e.symm, rfl, rfl, rfl⟩
    · obtain ⟨d', h1, h2⟩ := findRec_out h
      exact ⟨d', List.mem_cons_of_mem _ h1, h2⟩

noncomputable def bltNames : List Str := ["isinstance", "len", "all", "sorted", "repr", "abs", "min", "list", "tuple", "dict", "set", "int", "str", "bool", "range", "enumerate", "zip", "reversed"]

theorem ite_cases {c : Prop} [Decidable c] {α : Type} {a : α} {o : Option α} {v : α} (h : (if c then some a else o) = some v) : (c ∧ v = a) ∨ o = some v := by
  by_cases hc : c
  · rw [if_pos hc] at h; exact .inl ⟨hc, (Option.some.inj h).symm⟩
  · rw [if_neg hc] at h; exact .inr h

theorem blt_in {x : Str} {v : Value} (h : bltOf x = some v) : x ∈ bltNames ∧ bootBuiltins x = some v ∧ x ≠ "__name__" := by
  unfold bltOf at h
  iterate 18 (rcases ite_cases h with ⟨rfl, rfl⟩ | h; · exact ⟨by decide, by kernel_rfl, by decide⟩)
  cases h

noncomputable def cnames (body : List Stmt) : List Str := body.filterMap fun s => match s with
  | .Assign [.Name y _] (.Constant _ _ _) _ => some y
  | _ => none

theorem constOf_mem {body : List Stmt} {x : Str} {d : PyData} (h : constOf body x = some d) : x ∈ cnames body ∧ x ≠ "__name__" := by
  unfold constOf at h
  split at h
  · cases h
  · rename_i hne
    refine ⟨?_, hne⟩
    obtain ⟨s, hs, he⟩ := List.exists_of_findSome?_eq_some h
    unfold cnames
    rw [List.mem_filterMap]
    refine ⟨s, hs, ?_⟩
    split at he
    · split at he
      · rename_i e; rw [e]
      · cases he
    · cases he

noncomputable def cEq : Option PyData → Option PyData → Bool
  | none, _ => true
  | some (.int a), some (.int b) => a == b
  | some (.str a), some (.str b) => a == b && decide (a.length ≤ strN)
  | _, _ => false

theorem cEq_out {o : Option PyData} {d : PyData} (h : cEq (some d) o = true) : o = some d ∧ ((∃ i, d = .int i) ∨ ∃ s, d = .str s ∧ s.length ≤ strN) := by
  unfold cEq at h
  split at h
  · rename_i e; cases e
  · rename_i a b e; cases e
    have := eq_of_beq h; subst this
    exact ⟨rfl, .inl ⟨_, rfl⟩⟩
  · rename_i a b e; cases e
    simp only [Bool.and_eq_true, decide_eq_true_eq] at h
    have := eq_of_beq h.1; subst this
    exact ⟨rfl, .inr ⟨_, rfl, h.2⟩⟩
  · cases h

theorem glo_of_top {p prog : Program} {w : World} {loose : List Str} {mean : ExcName → Option Value} {mg mb : Str → Option Value} {h : Heap} (T : Top p loose mean mg mb h)
    (hfn : ∀ f, findDef f prog.main.body = findRec f (recsOf p)) (hc : ((cnames prog.main.body).all fun x => cEq (constOf prog.main.body x) (valOf p x)) = true)
    (hfree : (bltNames.all fun x => !startupNames.contains x && !loose.contains x && !((recsOf p).map (·.name)).contains x && !((litsOf p).map (·.1)).contains x && !((clssOf p loose).map (·.name)).contains x) = true) (himp : importsNone p = true) :
    Glo prog w mg mb h where
  g := T.g
  b := T.b
  nolimit := T.nolimit
  mods := by
    obtain ⟨mm, hm, _⟩ := (T.seer himp).mods
    exact ⟨mm, hm⟩
  fn := fun f a b sc e => by
    rw [hfn] at e
    obtain ⟨d, hd, h1, h2, h3, h4⟩ := findRec_out e
    obtain ⟨ad, o, pm, code, doc, g1, g2, g3, g4⟩ := T.fn d hd
    subst h1; subst h2; subst h3; subst h4
    exact ⟨ad, o, pm, code, doc, g1, g2, g3, g4⟩
  const := fun x d e => by
    obtain ⟨h1, h2⟩ := constOf_mem e
    have := List.all_eq_true.mp hc x h1
    rw [e] at this
    obtain ⟨h3, h4⟩ := cEq_out this
    obtain ⟨v, h5, h6⟩ := T.const x d h3
    refine ⟨v, h5, fun h' av => ?_⟩
    have r := h6 h'
    rcases h4 with ⟨i, rfl⟩ | ⟨s, rfl, hl⟩
    · cases r; exact .int _ _
    · cases r; exact .str _ _ hl
  blt := fun x v e => by
    obtain ⟨h1, h2, h3⟩ := blt_in e
    have := List.all_eq_true.mp hfree x h1
    simp only [Bool.and_eq_true, Bool.not_eq_true', List.contains_eq_mem, decide_eq_false_iff_not] at this
    obtain ⟨⟨⟨⟨q1, q2⟩, q3⟩, q4⟩, q5⟩ := this
    exact ⟨T.free x q1 q2 q3 q4 q5, (T.builtins x h3).trans h2⟩

theorem ints_well {P : Params} {h : Heap} : ∀ {vs : List Value} {ns : List Int}, WellAll P h vs (ofPys (ns.map .int)) → vs.length = ns.length ∧ ∀ (i : Nat) (v : Value) (d : PyData), vs[i]? = some v → (ns.map PyData.int)[i]? = some d → ∃ k t, v = .int k t ∧ d = .int k
  | [], [], _ => ⟨rfl, fun i v d e => by simp at e⟩
  | v :: vs, n :: ns, hw => by
    have hw : WellAll P h (v :: vs) (WData.int n :: ofPys (ns.map .int)) := hw
    cases hw with
    | cons h1 h2 =>
      obtain ⟨g1, g2⟩ := ints_well h2
      refine ⟨by simp [g1], fun i u d e1 e2 => ?_⟩
      cases i with
      | zero =>
        simp at e1 e2
        subst e1; subst e2
        cases h1
        exact ⟨_, _, rfl, rfl⟩
      | succ i => exact g2 i u d (by simpa using e1) (by simpa using e2)
  | [], n :: ns, hw => by
    have hw : WellAll P h [] (WData.int n :: ofPys (ns.map .int)) := hw
    cases hw
  | v :: vs, [], hw => by
    have hw : WellAll P h (v :: vs) [] := hw
    cases hw

/-- the law's call -/
theorem law_done {prog : Program} {w : World} {mg mb : Str → Option Value} {s₁ : Shared} {fa l : Addr} {ns : List Int} {N : Nat} {Q : Value → Shared → Prop} {E : Value → Shared → Prop} (GL : Glo prog w mg mb s₁.heap) (hmg : mg (Str.ofString "law") = some (.ref fa))
    (hw : Well w.params s₁.heap (.ref l) (ofPy (.list (ns.map .int)))) (hn : ns.length ≤ 63) (hf : (findDef (Str.ofString "law") prog.main.body).isSome = true) (hN : N ≤ 400)
    (hrun : run prog.main.body N (Str.ofString "law") [.fz (.list (ns.map .int))] = .ok (.fz (.bool true))) (hq : ∀ s', Kp s₁ s' → Q (.bool true) s') : wpAny (model prog w) callerA (call (.ref fa) [.ref l]) Q E s₁ := by
  have hw : Well w.params s₁.heap (.ref l) (.list (ofPys (ns.map .int))) := hw
  cases hw with
  | @list _ vs _ h1 h2 =>
    obtain ⟨g1, g2⟩ := ints_well h2
    obtain ⟨mm, hm⟩ := GL.mods
    have hne : ¬ l = sysModules := fun e => by
      obtain ⟨o, es, ep, e1, e2, _⟩ := hm
      rw [← e, h1] at e1
      cases e1
      cases e2
    have rep : Rep prog w s₁.heap (fun b => b = sysModules) (.ref l) (.list (ns.map .int)) := by
      refine .list hne ⟨_, h1⟩ (by simp [g1]) ?_ fun i v d e1 e2 => ?_
      · have : sizeLine = 16777216 := rfl
        omega
      · obtain ⟨k, t, rfl, rfl⟩ := g2 i v d e1 e2
        exact .int k t
    have room : Room N callerA := by
      refine ⟨?_, ?_, rfl, rfl⟩
      · have : callerA.depth + 400 < recursionLimit := by decide
        omega
      · have : callerA.units + 16 * 400 + 300 < cLine := by decide
        omega
    have K := (sound_run (prog := prog) (w := w) (mg := mg) (mb := mb) N).call (Str.ofString "law") [.fz (.list (ns.map .int))] fa hmg hf callerA s₁ (fun b => b = sysModules) [.ref l] room GL (fun b hb => by
      obtain ⟨o, es, ep, e1, _⟩ := hm
      exact ⟨o, hb ▸ e1⟩) rfl ⟨rfl, fun i v u e1 e2 => by
        cases i with
        | zero => simp at e1 e2; subst e1; subst e2; exact ⟨rep, fun d => by intro h; cases h⟩
        | succ i => simp at e1⟩
    have K : Yd _ _ _ (run prog.main.body N (Str.ofString "law") [.fz (.list (ns.map .int))]) := K
    rw [hrun] at K
    refine K Q E fun v s' r => ?_
    obtain ⟨k, rv⟩ := r
    have := Rep.bool_inv rv
    subst this
    exact hq s' k

end Mine

namespace Mine
open PySem

/-! the same evaluator, statements by continuations -/
noncomputable def cont (kn : Store → P V) (kr : V → P V) (fs : Fl × Store) : P V :=
  match fs.1 with
  | .next => kn fs.2
  | .ret v => kr v

noncomputable def retC (F : Nat) (K : Ctx) (sc : Scope) (σ : Store) (e : Expr) (kr : V → P V) : P V :=
  match nameOf e with
  | some x => (match Store.get σ x with
    | some (some (.own d)) => if isL sc x then kr (.own d) else .no
    | _ => (evE K F sc σ e).bind kr)
  | none => (evE K F sc (Store.clear σ (esc F e)) e).bind kr

noncomputable def setSubC (F : Nat) (K : Ctx) (sc : Scope) (σ : Store) (x : Str) (i e : Expr) (kn : Store → P V) : P V :=
  if isSlice i then .no else
  (evE K F sc σ e).bind fun v => (dOf v).bind fun d => (getOwn σ x).bind fun o => (evE K F sc σ i).bind fun iv => (dOf iv).bind fun id => (setItem o id d).bind fun o => (setName x (.own o) σ).bind kn

noncomputable def assignC (F : Nat) (K : Ctx) (sc : Scope) (σ : Store) (t e : Expr) (kn : Store → P V) : P V :=
  match tgt t with
  | .name x => (evE K F sc (Store.clear σ (esc F e)) e).bind fun v => (setName x v (Store.clear σ (esc F e))).bind kn
  | .sub x i => setSubC F K sc (Store.clear σ (esc F e)) x i e kn
  | .other => .no

noncomputable def mutC (F : Nat) (K : Ctx) (sc : Scope) (σ : Store) (x m : Str) (ap : Pos) (as : List Expr) (cp : Pos) (kn : Store → P V) : P V :=
  if (ap.endLine == cp.line) = false ∨ as.any starred = true ∨ 3 < as.length then .no else
  (getOwn σ x).bind fun o => if mutOk m o then (evs (evE K F sc σ) as).bind fun as' => (dsOf as').bind fun ds => (mutate o ds).bind fun o => (setName x (.own o) σ).bind kn else .no

noncomputable def exprC (F : Nat) (K : Ctx) (sc : Scope) (σ : Store) (e : Expr) (kn : Store → P V) : P V :=
  match mcall e with
  | some (x, m, ap, as, cp) => mutC F K sc (Store.clear σ (as.flatMap (esc F))) x m ap as cp kn
  | none => if isComp e then .no else (evE K F sc (Store.clear σ (esc F e)) e).bind fun _ => kn (Store.clear σ (esc F e))

noncomputable def forC (b : Store → (Store → P V) → (V → P V) → P V) (t : Expr) : List PyData → Store → (Store → P V) → (V → P V) → P V
  | [], σ, kn, _ => kn σ
  | d :: r, σ, kn, kr => (assignT t d σ).bind fun σ => b σ (fun σ => forC b t r σ kn kr) kr

noncomputable def stepC (F : Nat) (K : Ctx) (sc : Scope) (recB : List Stmt → Store → (Store → P V) → (V → P V) → P V) (s : Stmt) (σ : Store) (kn : Store → P V) (kr : V → P V) : P V :=
  match s with
  | .Return none _ => kr (.fz .none)
  | .Return (some e) _ => retC F K sc σ e kr
  | .Assign ts e _ => match ts with
    | [t] => assignC F K sc σ t e kn
    | _ => .no
  | .Expr e _ => exprC F K sc σ e kn
  | .If t b o _ => (evE K F sc (Store.clear σ (esc F t)) t).bind fun v => (truthV v).bind fun c => if c then recB b (Store.clear σ (esc F t)) kn kr else recB o (Store.clear σ (esc F t)) kn kr
  | .For t it b o _ => match o with
    | [] => (evIter (evE K F sc (Store.clear σ (esc F it))) sc t it).bind fun l => forC (recB b) t l (Store.clear σ (esc F it)) kn kr
    | _ => .no
  | .Pass _ => kn σ
  | _ => .no

noncomputable def blkC (stp : Stmt → Store → (Store → P V) → (V → P V) → P V) : List Stmt → Store → (Store → P V) → (V → P V) → P V
  | [], σ, kn, _ => kn σ
  | s :: r, σ, kn, kr => stp s σ (fun σ => blkC stp r σ kn kr) kr

noncomputable def evC (F : Nat) (K : Ctx) (sc : Scope) : Nat → Stmt → Store → (Store → P V) → (V → P V) → P V
  | 0 => fun _ _ _ _ => .no
  | k + 1 => stepC F K sc (blkC (evC F K sc k))

theorem P.assoc {α β γ : Type} (p : P α) (f : α → P β) (g : β → P γ) : (p.bind f).bind g = p.bind fun a => (f a).bind g := by cases p <;> rfl
theorem P.congr {α β : Type} {p : P α} {f g : α → P β} (h : ∀ a, f a = g a) : p.bind f = p.bind g := by cases p <;> first | rfl | exact h _

theorem P.tail {α β γ : Type} {p : P α} {f : α → P β} {g : β → P γ} {h : α → P γ} (e : ∀ a, h a = (f a).bind g) : p.bind h = (p.bind f).bind g := by cases p <;> first | rfl | exact e _

theorem blkC_eq {F : Nat} {K : Ctx} {sc : Scope} {k : Nat} (h : ∀ s σ kn kr, evC F K sc k s σ kn kr = (evS F K sc k σ s).bind (cont kn kr)) : ∀ b σ kn kr, blkC (evC F K sc k) b σ kn kr = (evBlk (evS F K sc k) b σ).bind (cont kn kr)
  | [], _, _, _ => rfl
  | s :: r, σ, kn, kr => by
    show evC F K sc k s σ (fun σ => blkC (evC F K sc k) r σ kn kr) kr = ((evS F K sc k σ s).bind fun fs => match fs.1 with
      | .next => evBlk (evS F K sc k) r fs.2
      | .ret v => .ok (.ret v, fs.2)).bind (cont kn kr)
    rw [h, P.assoc]
    refine P.congr fun fs => ?_
    obtain ⟨f, σ'⟩ := fs
    cases f with
    | next => exact blkC_eq h r σ' kn kr
    | ret v => rfl

theorem forC_eq {body : Store → P (Fl × Store)} {b : Store → (Store → P V) → (V → P V) → P V} {t : Expr} (h : ∀ σ kn kr, b σ kn kr = (body σ).bind (cont kn kr)) : ∀ l σ kn kr, forC b t l σ kn kr = (forF body t l σ).bind (cont kn kr)
  | [], _, _, _ => rfl
  | d :: r, σ, kn, kr => by
    show (assignT t d σ).bind (fun σ => b σ (fun σ => forC b t r σ kn kr) kr) = ((assignT t d σ).bind fun σ => (body σ).bind fun fs => match fs.1 with
      | .next => forF body t r fs.2
      | .ret v => .ok (.ret v, fs.2)).bind (cont kn kr)
    rw [P.assoc]
    refine P.congr fun σ => ?_
    rw [h, P.assoc]
    refine P.congr fun fs => ?_
    obtain ⟨f, σ'⟩ := fs
    cases f with
    | next => exact forC_eq h r σ' kn kr
    | ret v => rfl

theorem evC_eq {F : Nat} {K : Ctx} {sc : Scope} : ∀ k s σ kn kr, evC F K sc k s σ kn kr = (evS F K sc k σ s).bind (cont kn kr)
  | 0, _, _, _, _ => rfl
  | k + 1, s, σ, kn, kr => by
    show stepC F K sc (blkC (evC F K sc k)) s σ kn kr = (stepS F K sc (evS F K sc k) σ s).bind (cont kn kr)
    have ih := blkC_eq (fun s σ kn kr => evC_eq (F := F) (K := K) (sc := sc) k s σ kn kr)
    cases s with
    | Return e p =>
      cases e with
      | none => rfl
      | some e =>
        show retC F K sc σ e kr = (evRet F K sc σ e).bind (cont kn kr)
        unfold retC evRet
        cases nameOf e with
        | none => exact P.tail (h := kr) fun _ => rfl
        | some x =>
          have fall : (evE K F sc σ e).bind kr = ((evE K F sc σ e).bind fun v => P.ok (Fl.ret v, σ)).bind (cont kn kr) := P.tail fun _ => rfl
          show (match Store.get σ x with
            | some (some (.own d)) => if isL sc x then kr (.own d) else .no
            | _ => (evE K F sc σ e).bind kr) = (match Store.get σ x with
            | some (some (.own d)) => if isL sc x then (P.ok (Fl.ret (.own d), σ) : P (Fl × Store)) else P.no
            | _ => (evE K F sc σ e).bind fun v => P.ok (Fl.ret v, σ)).bind (cont kn kr)
          cases Store.get σ x with
          | none => exact fall
          | some o =>
            cases o with
            | none => exact fall
            | some v =>
              cases v with
              | own d =>
                show (if isL sc x = true then kr (.own d) else P.no) = (if isL sc x = true then P.ok (Fl.ret (.own d), σ) else P.no).bind (cont kn kr)
                split <;> rfl
              | fz d => exact fall
              | exc en => exact fall
    | Assign ts e p =>
      match ts with
      | [] => rfl
      | _ :: _ :: _ => rfl
      | [t] =>
        show assignC F K sc σ t e kn = (evAssign F K sc σ t e).bind (cont kn kr)
        unfold assignC evAssign
        cases tgt t with
        | name x =>
          show (evE K F sc (Store.clear σ (esc F e)) e).bind _ = ((evE K F sc (Store.clear σ (esc F e)) e).bind fun v => (setName x v (Store.clear σ (esc F e))).bind fun σ => .ok (.next, σ)).bind (cont kn kr)
          rw [P.assoc]
          refine P.congr fun v => ?_
          exact P.tail fun _ => rfl
        | sub x i =>
          show setSubC F K sc (Store.clear σ (esc F e)) x i e kn = (evSetSub F K sc (Store.clear σ (esc F e)) x i e).bind (cont kn kr)
          unfold setSubC evSetSub
          cases isSlice i with
          | true => rfl
          | false =>
            simp only [Bool.false_eq_true, if_false, P.assoc]
            rfl
        | other => rfl
    | Expr e p =>
      show exprC F K sc σ e kn = (evExprS F K sc σ e).bind (cont kn kr)
      unfold exprC evExprS
      cases mcall e with
      | some q =>
        obtain ⟨x, m, ap, as, cp⟩ := q
        show mutC F K sc (Store.clear σ (as.flatMap (esc F))) x m ap as cp kn = (evMut F K sc (Store.clear σ (as.flatMap (esc F))) x m ap as cp).bind (cont kn kr)
        unfold mutC evMut
        by_cases hc : (ap.endLine == cp.line) = false ∨ as.any starred = true ∨ 3 < as.length
        · rw [if_pos hc, if_pos hc]; rfl
        · rw [if_neg hc, if_neg hc, P.assoc]
          refine P.congr fun o => ?_
          cases mutOk m o with
          | true =>
            simp only [if_true, P.assoc]
            rfl
          | false => rfl
      | none =>
        show (if isComp e = true then P.no else _) = (if isComp e = true then P.no else _).bind (cont kn kr)
        cases isComp e with
        | true => rfl
        | false => exact P.tail (h := fun _ => kn (Store.clear σ (esc F e))) fun _ => rfl
    | If t b o p =>
      show _ = (evIf F K sc (evS F K sc k) (Store.clear σ (esc F t)) t b o).bind (cont kn kr)
      unfold evIf
      show (evE K F sc (Store.clear σ (esc F t)) t).bind _ = _
      rw [P.assoc]
      refine P.congr fun v => ?_
      rw [P.assoc]
      refine P.congr fun c => ?_
      cases c with
      | true => exact ih b _ kn kr
      | false => exact ih o _ kn kr
    | For t it b o p =>
      match o with
      | _ :: _ => rfl
      | [] =>
        show _ = (evFor F K sc (evS F K sc k) (Store.clear σ (esc F it)) t it b).bind (cont kn kr)
        unfold evFor
        rw [P.assoc]
        exact P.congr fun l => forC_eq (fun σ kn kr => ih b σ kn kr) l _ kn kr
    | Pass p => rfl
    | _ => rfl

/-- a call, by continuations -/
noncomputable def runC (body : List Stmt) (n : Nat) (f : Str) (vs : List V) : P V :=
  match findDef f body with
  | none => .no
  | some (a, b, sc) =>
    if a.args.length = vs.length ∧ fnOk a sc = true then
      blkC (evC astF ⟨run body n, fun f => (findDef f body).isSome, constOf body⟩ sc astF) b (initS (a.args.map (·.arg)) vs sc.names) (fun _ => .ok (.fz .none)) .ok
    else .no

theorem run_eq (body : List Stmt) (n : Nat) (f : Str) (vs : List V) : run body (n + 1) f vs = runC body n f vs := by
  show (match findDef f body with
    | none => (P.no : P V)
    | some (a, b, sc) =>
      if a.args.length = vs.length ∧ fnOk a sc = true then
        (evBlk (evS astF ⟨run body n, fun f => (findDef f body).isSome, constOf body⟩ sc astF) b (initS (a.args.map Arg.arg) vs sc.names)).bind fun fs => P.ok (retV fs.1)
      else P.no) = _
  unfold runC
  cases findDef f body with
  | none => rfl
  | some q =>
    obtain ⟨a, b, sc⟩ := q
    show (if a.args.length = vs.length ∧ fnOk a sc = true then _ else _) = (if a.args.length = vs.length ∧ fnOk a sc = true then _ else _)
    by_cases hc : a.args.length = vs.length ∧ fnOk a sc = true
    · rw [if_pos hc, if_pos hc, blkC_eq (fun s σ kn kr => evC_eq _ s σ kn kr)]
      refine P.congr fun fs => ?_
      obtain ⟨f, σ⟩ := fs
      cases f <;> rfl
    · rw [if_neg hc, if_neg hc]

/-! shallow forms -/
noncomputable def rdN : V → P V
  | .fz d => .ok (.fz d)
  | .exc e => .ok (.exc e)
  | _ => .no

noncomputable def rcv (v : V) : P PyData :=
  match v with
  | .own d => .ok d
  | _ => (rdN v).bind dOf

noncomputable def retN (v : V) : P V :=
  match v with
  | .own d => .ok (.own d)
  | _ => (rdN v).bind .ok

noncomputable def gown (v : V) : P PyData :=
  match v with
  | .own d => .ok d
  | _ => .no

/-- a comprehension over items -/
noncomputable def compG (f : PyData → P Bool) (g : PyData → P V) : List PyData → P (List PyData)
  | [] => .ok []
  | d :: r => (f d).bind fun b => if b then (g d).bind fun v => (dOf v).bind fun x => (compG f g r).bind fun xs => .ok (x :: xs) else compG f g r

noncomputable def compG2 (f : PyData → PyData → P Bool) (g : PyData → PyData → P V) : List PyData → P (List PyData)
  | [] => .ok []
  | d :: r => match d with
    | .tuple [a, b] => (f a b).bind fun t => if t then (g a b).bind fun v => (dOf v).bind fun x => (compG2 f g r).bind fun xs => .ok (x :: xs) else compG2 f g r
    | _ => .no

noncomputable def bin (op : Operator) (T U : P V) : P V := T.bind fun a => (dOf a).bind fun a => U.bind fun b => (dOf b).bind fun b => binop op a b
noncomputable def un (op : UnaryOp) (T : P V) : P V := T.bind fun v => evUn op v
noncomputable def ifx (T B O : P V) : P V := T.bind fun v => (truthV v).bind fun c => if c then B else O
noncomputable def cmp1 (T : P V) (op : CmpOp) (U : P V) : P V := T.bind fun a => (dOf a).bind fun a => fzb (U.bind fun v => (dOf v).bind fun b => cmp op a b)
noncomputable def cmp2 (T : P V) (op : CmpOp) (U : P V) (op' : CmpOp) (W : P V) : P V := T.bind fun a => (dOf a).bind fun a => fzb (U.bind fun v => (dOf v).bind fun b => (cmp op a b).bind fun t => if t then (W.bind fun v => (dOf v).bind fun c => cmp op' b c) else .ok false)
noncomputable def and_ (T R : P V) : P V := T.bind fun v => (truthV v).bind fun b => if b then R else .ok v
noncomputable def or_ (T R : P V) : P V := T.bind fun v => (truthV v).bind fun b => if b then .ok v else R
noncomputable def evsS : List (P V) → P (List V)
  | [] => .ok []
  | T :: r => T.bind fun v => (evsS r).bind fun vs => .ok (v.clear :: vs)
noncomputable def lstS (ts : List (P V)) : P V := (evsS ts).bind fun l => (dsOf l).bind fun l => if l.length ≤ strN then own (.list l) else .no
noncomputable def tupS (ts : List (P V)) : P V := (evsS ts).bind fun l => (dsOf l).bind fun l => if l.length ≤ strN then fz (.tuple l) else .no
noncomputable def prsS : List (P V × P V) → P (List (PyData × PyData))
  | [] => .ok []
  | p :: r => p.1.bind fun k => (dOf k).bind fun k => p.2.bind fun v => (dOf v).bind fun v => (prsS r).bind fun r => .ok ((k, v) :: r)
noncomputable def dicS (ps : List (P V × P V)) : P V := (prsS ps).bind fun l => evDisp l
noncomputable def itm (A : P PyData) (I : P V) : P V := A.bind fun a => I.bind fun i => (dOf i).bind fun i => getItem a i
noncomputable def slc (A : P PyData) (lo hi : Option (P V)) : P V := A.bind fun a => (optInt lo).bind fun lo => (optInt hi).bind fun hi => getSlice a lo hi
noncomputable def cal (c : Str → List V → P V) (f : Str) (ts : List (P V)) : P V := (evsS ts).bind fun vs => c f vs
noncomputable def bl1 (f : PyData → P V) (T : P V) : P V := T.bind fun v => (dOf v).bind fun d => f d
noncomputable def isi (t : Str) (T : P V) : P V := T.bind fun v => isinst t v
noncomputable def mnm (ts : List (P V)) : P V := (evsS ts).bind fun vs => minV vs
noncomputable def mtd (m : Str) (T : P V) (as : List (P V)) : P V := T.bind fun o => (dOf o).bind fun o => if mOk m o then (evsS as).bind fun as => (dsOf as).bind fun as => method m o as else .no
noncomputable def lcm (I : P (List PyData)) (f : PyData → P Bool) (g : PyData → P V) : P V := (I.bind fun l => compG f g l).bind fun r => own (.list r)
noncomputable def lcm2 (I : P (List PyData)) (f : PyData → PyData → P Bool) (g : PyData → PyData → P V) : P V := (I.bind fun l => compG2 f g l).bind fun r => own (.list r)
noncomputable def plI (T : P V) : P (List PyData) := T.bind fun v => (dOf v).bind items
noncomputable def rg1 (T : P V) : P (List PyData) := T.bind fun v => match v with
  | .fz (.int n) => rangeOf 0 n
  | _ => .no
noncomputable def rg2 (T U : P V) : P (List PyData) := T.bind fun v => match v with
  | .fz (.int n) => U.bind fun u => match u with
    | .fz (.int m) => rangeOf n m
    | _ => .no
  | _ => .no
noncomputable def enm (T : P V) : P (List PyData) := T.bind fun v => (dOf v).bind fun d => match d with
  | .list l => .ok (enumFrom 0 l)
  | _ => .no
noncomputable def set_ (T : P V) (X : P PyData) (I : P V) (k : PyData → P V) : P V := T.bind fun v => (dOf v).bind fun d => X.bind fun o => I.bind fun iv => (dOf iv).bind fun id => (setItem o id d).bind k
noncomputable def mut_ (X : P PyData) (m : Str) (as : List (P V)) (k : PyData → P V) : P V := X.bind fun o => if mutOk m o then (evsS as).bind fun as => (dsOf as).bind fun ds => (mutate o ds).bind k else .no
noncomputable def ifS (T B O : P V) : P V := T.bind fun v => (truthV v).bind fun c => if c then B else O

/-! places in a text -/
noncomputable def bodyOf (body : List Stmt) (f : Str) : List Stmt := match findDef f body with
  | some (_, b, _) => b
  | none => []
noncomputable def scOf (body : List Stmt) (f : Str) : Scope := match findDef f body with
  | some (_, _, sc) => sc
  | none => ⟨.function, [], false, false, []⟩
noncomputable def ctxOf (body : List Stmt) (n : Nat) : Ctx := ⟨run body n, fun f => (findDef f body).isSome, constOf body⟩
noncomputable def forB : List Stmt → List Stmt
  | .For _ _ b _ _ :: _ => b
  | _ => []
noncomputable def forT : List Stmt → Expr
  | .For t _ _ _ _ :: _ => t
  | _ => .Name Str.empty ⟨0, 0, 0, 0⟩
noncomputable def thenB : List Stmt → List Stmt
  | .If _ b _ _ :: _ => b
  | _ => []
noncomputable def elseB : List Stmt → List Stmt
  | .If _ _ b _ :: _ => b
  | _ => []

end Mine

set_option maxRecDepth 100000
set_option linter.unusedVariables false
namespace Mine
open PySem

theorem P.ok_bind {α β : Type} (a : α) (f : α → P β) : P.bind (.ok a) f = f a := rfl
theorem dOf_fz (d : PyData) : dOf (.fz d) = .ok d := rfl
theorem dOf_own (d : PyData) : dOf (.own d) = .ok d := rfl
theorem truthV_bool (b : Bool) : truthV (.fz (.bool b)) = .ok b := rfl
theorem rdN_fz (d : PyData) : rdN (.fz d) = .ok (.fz d) := rfl
theorem rcv_fz (d : PyData) : rcv (.fz d) = .ok d := rfl
theorem rcv_own (d : PyData) : rcv (.own d) = .ok d := rfl
theorem retN_fz (d : PyData) : retN (.fz d) = .ok (.fz d) := rfl
theorem retN_own (d : PyData) : retN (.own d) = .ok (.own d) := rfl
theorem gown_own (d : PyData) : gown (.own d) = .ok d := rfl
theorem clear_fz (d : PyData) : V.clear (.fz d) = .fz d := rfl
theorem clear_own (d : PyData) : V.clear (.own d) = .fz d := rfl
theorem evsS_nil : evsS [] = .ok [] := rfl
theorem evsS_cons (T : P V) (r : List (P V)) : evsS (T :: r) = T.bind fun v => (evsS r).bind fun vs => .ok (v.clear :: vs) := rfl
theorem dsOf_nil : dsOf [] = .ok [] := rfl
theorem dsOf_fz (d : PyData) (r : List V) : dsOf (.fz d :: r) = (dsOf r).bind fun ds => .ok (d :: ds) := rfl
theorem fzb_ok (b : Bool) : fzb (.ok b) = .ok (.fz (.bool b)) := rfl
theorem evUn_not (b : Bool) : evUn .Not (.fz (.bool b)) = .ok (.fz (.bool !b)) := rfl
theorem evUn_neg (i : Int) : evUn .USub (.fz (.int i)) = .ok (.fz (.int (-i))) := rfl
theorem bo_add (x y : Int) : binop .Add (.int x) (.int y) = .ok (.fz (.int (x + y))) := rfl
theorem bo_sub (x y : Int) : binop .Sub (.int x) (.int y) = .ok (.fz (.int (x - y))) := rfl
theorem bo_mul_r (x : Int) {y : Int} (h : y.natAbs < 2 ^ 63) : binop .Mult (.int x) (.int y) = .ok (.fz (.int (x * y))) := if_pos (.inr h)
theorem bo_mul_l {x : Int} (y : Int) (h : x.natAbs < 2 ^ 63) : binop .Mult (.int x) (.int y) = .ok (.fz (.int (x * y))) := if_pos (.inl h)
theorem bo_div (x : Int) {y : Int} (h : y ≠ 0 ∧ y.natAbs < 2 ^ 63) : binop .FloorDiv (.int x) (.int y) = .ok (.fz (.int (x.fdiv y))) := if_pos h
theorem bo_mod (x : Int) {y : Int} (h : y ≠ 0) : binop .Mod (.int x) (.int y) = .ok (.fz (.int (x.fmod y))) := if_pos h
theorem bo_pow {x y : Int} (h : 0 ≤ y ∧ y ≤ 1000 ∧ x.natAbs < 2 ^ 63) : binop .Pow (.int x) (.int y) = .ok (.fz (.int (x ^ y.toNat))) := if_pos h
theorem bo_adds {x y : Str} (h : x.length + y.length ≤ strN) : binop .Add (.str x) (.str y) = .ok (.fz (.str (x ++ y))) := if_pos h
theorem bo_addl {x y : List PyData} (h : x.length + y.length ≤ strN) : binop .Add (.list x) (.list y) = .ok (.own (.list (x ++ y))) := if_pos h
theorem cmp_lt (x y : Int) : cmp .Lt (.int x) (.int y) = .ok (decide (x < y)) := rfl
theorem cmp_le (x y : Int) : cmp .LtE (.int x) (.int y) = .ok (decide (x ≤ y)) := rfl
theorem cmp_gt (x y : Int) : cmp .Gt (.int x) (.int y) = .ok (decide (y < x)) := rfl
theorem cmp_ge (x y : Int) : cmp .GtE (.int x) (.int y) = .ok (decide (y ≤ x)) := rfl
theorem cmp_eq (a b : PyData) : cmp .Eq a b = ofO (eqO a b) := rfl
theorem cmp_ne (a b : PyData) : cmp .NotEq a b = notP (ofO (eqO a b)) := rfl
theorem cmp_is (a b : PyData) : cmp .Is a b = isSame a b := rfl
theorem cmp_isnot (a b : PyData) : cmp .IsNot a b = notP (isSame a b) := rfl
theorem cmp_in (a b : PyData) : cmp .In a b = contains a b := rfl
theorem cmp_notin (a b : PyData) : cmp .NotIn a b = notP (contains a b) := rfl
theorem isSame_bool (a b : Bool) : isSame (.bool a) (.bool b) = .ok (a == b) := rfl
theorem notP_ok (b : Bool) : notP (.ok b) = .ok (!b) := rfl
theorem ofO_some {α : Type} (a : α) : ofO (some a) = .ok a := rfl
theorem eqO_int (a b : Int) : eqO (.int a) (.int b) = some (a == b) := by
  unfold eqO
  have h : PyData.eqv (.int a) (.int b) = (a == b) := by simp [PyData.eqv]
  rw [h]; rfl
theorem eqO_str (a b : Str) : eqO (.str a) (.str b) = some (a == b) := by
  unfold eqO
  have h : PyData.eqv (.str a) (.str b) = (a == b) := by simp [PyData.eqv]
  rw [h]; rfl
theorem isinst_fz (t : Str) (d : PyData) : isinst t (.fz d) = (ofO (typ t d)).bind fun b => .ok (.fz (.bool b)) := rfl
theorem isinst_own (t : Str) (d : PyData) : isinst t (.own d) = (ofO (typ t d)).bind fun b => .ok (.fz (.bool b)) := rfl
noncomputable def isStrD : PyData → Bool
  | .str _ => true
  | _ => false
noncomputable def isDictD : PyData → Bool
  | .dict _ => true
  | _ => false
noncomputable def isIntD : PyData → Bool
  | .int _ => true
  | .bool _ => true
  | _ => false
noncomputable def isBoolD : PyData → Bool
  | .bool _ => true
  | _ => false
theorem typ_str (d : PyData) : typ (Str.ofString "str") d = some (isStrD d) := rfl
theorem typ_dict (d : PyData) : typ (Str.ofString "dict") d = some (isDictD d) := rfl
theorem typ_int (d : PyData) : typ (Str.ofString "int") d = some (isIntD d) := rfl
theorem typ_bool (d : PyData) : typ (Str.ofString "bool") d = some (isBoolD d) := rfl
theorem lst_ok {l : List PyData} (h : l.length ≤ strN) : (if l.length ≤ strN then own (.list l) else P.no) = .ok (.own (.list l)) := if_pos h
theorem contains_str (x y : Str) : contains (.str x) (.str y) = .ok (Txt.contains y x) := rfl
theorem optInt_none : optInt none = .ok none := rfl
theorem optInt_int (i : Int) : optInt (some (.ok (.fz (.int i)))) = .ok (some i) := rfl
theorem getSlice_list (l : List PyData) (lo hi : Option Int) : getSlice (.list l) lo hi = .ok (.own (.list (slice l lo hi))) := rfl
theorem getSlice_str (s : Str) (lo hi : Option Int) : getSlice (.str s) lo hi = .ok (.fz (.str ⟨(slice s.cps.toList lo hi).toArray⟩)) := rfl
theorem items_list (l : List PyData) : items (.list l) = .ok l := rfl
theorem items_dict (l : List (PyData × PyData)) : items (.dict l) = .ok (l.map (·.1)) := rfl
theorem items_str (s : Str) : items (.str s) = .ok (s.cps.toList.map charD) := rfl

/-! reading an item -/
theorem gi_list (l : List PyData) {k : Int} (h0 : 0 ≤ k) (h1 : k < l.length) : ∃ d, d ∈ l ∧ l[k.toNat]? = some d ∧ getItem (.list l) (.int k) = .ok (.fz d) := by
  have hi : idx l.length k = some k.toNat := by
    unfold idx seqIndex?
    simp only [if_neg (Int.not_lt.mpr h0)]
    rw [if_pos (by simp; omega)]
  have hlt : k.toNat < l.length := by omega
  refine ⟨l[k.toNat], List.getElem_mem hlt, List.getElem?_eq_getElem hlt, ?_⟩
  show (match idx l.length k with
    | some j => match l[j]? with | some d => P.ok (V.fz d) | none => .no
    | none => .no) = _
  rw [hi]
  show (match l[k.toNat]? with | some d => P.ok (V.fz d) | none => .no) = _
  rw [List.getElem?_eq_getElem hlt]

theorem gi_str (s : Str) {k : Int} (h0 : 0 ≤ k) (h1 : k < s.cps.size) : ∃ c, c ∈ s.cps.toList ∧ s.cps[k.toNat]? = some c ∧ getItem (.str s) (.int k) = .ok (.fz (charD c)) := by
  have hi : idx s.cps.size k = some k.toNat := by
    unfold idx seqIndex?
    simp only [if_neg (Int.not_lt.mpr h0)]
    rw [if_pos (by simp; omega)]
  have hlt : k.toNat < s.cps.size := by omega
  refine ⟨s.cps[k.toNat], by simp, Array.getElem?_eq_getElem hlt, ?_⟩
  show (match idx s.cps.size k with
    | some j => match s.cps[j]? with | some c => P.ok (V.fz (charD c)) | none => .no
    | none => .no) = _
  rw [hi]
  show (match s.cps[k.toNat]? with | some c => P.ok (V.fz (charD c)) | none => .no) = _
  rw [Array.getElem?_eq_getElem hlt]

theorem fmod_rng (a : Int) {n : Int} (h : 0 < n) : 0 ≤ a.fmod n ∧ a.fmod n < n := by
  rw [Int.fmod_eq_emod_of_nonneg a (by omega)]
  exact ⟨Int.emod_nonneg a (by omega), Int.emod_lt_of_pos a h⟩

/-- a comprehension without a test -/
theorem compG_map {g : PyData → P V} {h : PyData → PyData} : ∀ {l : List PyData}, (∀ d ∈ l, ∃ v, g d = .ok v ∧ dOf v = .ok (h d)) → compG (fun _ => .ok true) g l = .ok (l.map h)
  | [], _ => rfl
  | d :: r, hg => by
    obtain ⟨v, h1, h2⟩ := hg d (by simp)
    show (g d).bind (fun v => (dOf v).bind fun x => (compG (fun _ => .ok true) g r).bind fun xs => .ok (x :: xs)) = _
    rw [h1, P.ok_bind, h2, P.ok_bind, compG_map fun d hd => hg d (List.mem_cons_of_mem _ hd)]
    rfl

theorem compG_ex {g : PyData → P V} {Q : PyData → Prop} : ∀ {l : List PyData}, (∀ d ∈ l, ∃ v x, g d = .ok v ∧ dOf v = .ok x ∧ Q x) → ∃ xs, compG (fun _ => .ok true) g l = .ok xs ∧ xs.length = l.length ∧ ∀ x ∈ xs, Q x
  | [], _ => ⟨[], rfl, rfl, by simp⟩
  | d :: r, hg => by
    obtain ⟨v, x, h1, h2, h3⟩ := hg d (by simp)
    obtain ⟨xs, e, hl, hq⟩ := compG_ex fun d hd => hg d (List.mem_cons_of_mem _ hd)
    refine ⟨x :: xs, ?_, by simp [hl], fun y hy => ?_⟩
    · show (g d).bind (fun v => (dOf v).bind fun x => (compG (fun _ => .ok true) g r).bind fun xs => .ok (x :: xs)) = _
      rw [h1, P.ok_bind, h2, P.ok_bind, e]; rfl
    · rcases List.mem_cons.mp hy with rfl | hy
      · exact h3
      · exact hq y hy

end Mine

namespace Mine
open PySem PySem.W PyProof.Rows
noncomputable def keepS : Stmt → Bool
  | .Assign [.Name x _] _ _ => !(x == "__name__")
  | _ => true
noncomputable def viewOf (p : Program) : Program := { p with main := { p.main with body := p.main.body.filter keepS } }
end Mine

set_option maxRecDepth 100000
set_option linter.unusedVariables false
namespace Mine
open PySem
noncomputable def B1 : List Stmt := PySem.Challenge.rw_uf010037_01.prog.main.body

noncomputable def S_law_table (o0 o1 o2 o3 o4 o5 o6 o7 o8 o9 : Option V) : Store := [((Str.ofString "_law_script"), o0), ((Str.ofString "_law_k"), o1), ((Str.ofString "_law_names_here"), o2), ((Str.ofString "_law_fields"), o3), ((Str.ofString "_law_found"), o4), ((Str.ofString "_law_j"), o5), ((Str.ofString "_law_row"), o6), ((Str.ofString "_law_i"), o7), ((Str.ofString "_law_field"), o8), ((Str.ofString "_law_cell"), o9)]

noncomputable def S_law_house (o0 o1 o2 o3 : Option V) : Store := [((Str.ofString "_law_script"), o0), ((Str.ofString "_law_names_here"), o1), ((Str.ofString "_law_found"), o2), ((Str.ofString "_law_k"), o3)]

noncomputable def S_law (o0 o1 o2 o3 o4 o5 o6 o7 o8 o9 o10 : Option V) : Store := [((Str.ofString "_law_script"), o0), ((Str.ofString "_law_names_here"), o1), ((Str.ofString "_law_tree"), o2), ((Str.ofString "_law_cell"), o3), ((Str.ofString "_law_odd_here"), o4), ((Str.ofString "_law_kept"), o5), ((Str.ofString "_law_things"), o6), ((Str.ofString "_law_thing"), o7), ((Str.ofString "_law_table_here"), o8), ((Str.ofString "_law_due"), o9), ((Str.ofString "_law_found"), o10)]

theorem eq_is_name (n : Nat) (a1 : PyData) : run B1 (n + 1) (Str.ofString "is_name") [.fz a1] = (ifS (or_ (un .Not (isi (Str.ofString "str") (.ok (.fz a1)))) (un .Not (cmp2 (.ok (.fz (.int 1))) .LtE (bl1 lenD (.ok (.fz a1))) .LtE (.ok (.fz (.int 8)))))) (P.ok (.fz (.bool false))) (P.bind (bl1 allB (lcm (plI (.ok (.fz a1))) (fun d1 => (.ok true)) (fun d1 => (cmp1 (.ok (.fz d1)) .In (.ok (.fz (.str (Str.ofString "abcdefghijklmnopqrstuvwxyz")))))))) P.ok)) := (run_eq _ _ _ _).trans (by kernel_rfl)

theorem eq_is_whole (n : Nat) (a1 : PyData) : run B1 (n + 1) (Str.ofString "is_whole") [.fz a1] = (P.bind (and_ (isi (Str.ofString "int") (.ok (.fz a1))) (un .Not (isi (Str.ofString "bool") (.ok (.fz a1))))) P.ok) := (run_eq _ _ _ _).trans (by kernel_rfl)

theorem eq_is_tree (n : Nat) (a1 : PyData) : run B1 (n + 1) (Str.ofString "is_tree") [.fz a1] = (ifS (cal (run B1 n) (Str.ofString "is_whole") [(.ok (.fz a1))]) (P.ok (.fz (.bool true))) (ifS (un .Not (isi (Str.ofString "dict") (.ok (.fz a1)))) (P.ok (.fz (.bool false))) (P.bind (bl1 allB (lcm (plI (.ok (.fz a1))) (fun d1 => (.ok true)) (fun d1 => (and_ (cal (run B1 n) (Str.ofString "is_name") [(.ok (.fz d1))]) (cal (run B1 n) (Str.ofString "is_tree") [(itm (.ok a1) (.ok (.fz d1)))]))))) P.ok))) := (run_eq _ _ _ _).trans (by kernel_rfl)

theorem eq_all_branches (n : Nat) (a1 : PyData) : run B1 (n + 1) (Str.ofString "all_branches") [.fz a1] = (P.bind (and_ (isi (Str.ofString "dict") (.ok (.fz a1))) (bl1 allB (lcm (plI (.ok (.fz a1))) (fun d1 => (.ok true)) (fun d1 => (isi (Str.ofString "dict") (itm (.ok a1) (.ok (.fz d1)))))))) P.ok) := (run_eq _ _ _ _).trans (by kernel_rfl)

theorem eq_is_table (n : Nat) (a1 : PyData) : run B1 (n + 1) (Str.ofString "is_table") [.fz a1] = (P.bind (and_ (cal (run B1 n) (Str.ofString "is_tree") [(.ok (.fz a1))]) (cal (run B1 n) (Str.ofString "all_branches") [(.ok (.fz a1))])) P.ok) := (run_eq _ _ _ _).trans (by kernel_rfl)

theorem eq_law_cell_at (n : Nat) (a1 a2 : PyData) : run B1 (n + 1) (Str.ofString "_law_cell_at") [.fz a1, .fz a2] = (ifS (cmp1 (.ok (.fz a2)) .Lt (bl1 lenD (.ok (.fz a1)))) (P.bind (itm (.ok a1) (.ok (.fz a2))) P.ok) (P.ok (.fz (.int 0)))) := (run_eq _ _ _ _).trans (by kernel_rfl)

theorem eq_law_mixed (n : Nat) (a1 a2 : PyData) : run B1 (n + 1) (Str.ofString "_law_mixed") [.fz a1, .fz a2] = (P.bind (bin .Mod (bin .Add (bin .Add (bin .Mult (cal (run B1 n) (Str.ofString "_law_cell_at") [(.ok (.fz a1)), (bin .Add (.ok (.fz (.int 2))) (bin .Mod (.ok (.fz a2)) (.ok (.fz (.int 24)))))]) (.ok (.fz (.int 48271)))) (bin .Mult (.ok (.fz (.int 7919))) (.ok (.fz a2)))) (.ok (.fz (.int 12345)))) (.ok (.fz (.int 2147483647)))) P.ok) := (run_eq _ _ _ _).trans (by kernel_rfl)

theorem eq_law_name (n : Nat) (a1 a2 : PyData) : run B1 (n + 1) (Str.ofString "_law_name") [.fz a1, .fz a2] = (P.bind (bin .Add (.ok (.fz (.int 1))) (bin .Mod (.ok (.fz a1)) (.ok (.fz (.int 8))))) fun v1 => (P.bind (lcm (rg1 (.ok (.fz (.int 8)))) (fun d2 => (.ok true)) (fun d2 => (itm (.ok (.str (Str.ofString "abcdefghijklmnopqrstuvwxyz"))) (bin .Mod (bin .Add (bin .FloorDiv (.ok (.fz a1)) (.ok (.fz (.int 8)))) (bin .Mult (.ok (.fz (.int 5))) (.ok (.fz d2)))) (.ok (.fz (.int 26))))))) fun v3 => (ifS (cmp1 (bin .Mod (bin .FloorDiv (.ok (.fz a1)) (.ok (.fz (.int 1664)))) (.ok (.fz (.int 3)))) .Eq (.ok (.fz (.int 1)))) (set_ (itm (.ok (.str (Str.ofString "abcdefghijklmnopqrstuvwxyz"))) (bin .Mod (bin .Add (bin .FloorDiv (.ok (.fz a1)) (.ok (.fz (.int 8)))) (bin .FloorDiv (.ok (.fz a2)) (.ok (.fz (.int 8))))) (.ok (.fz (.int 26))))) (gown v3) (.ok (.fz (.int 0))) fun o4 => (P.bind (mtd (Str.ofString "join") (.ok (.fz (.str (Str.ofString "")))) [(slc (.ok o4) none (some (bin .Add (.ok (.fz (.int 1))) (bin .Mod (.ok (.fz a2)) (.ok (.fz (.int 8)))))))]) P.ok)) (set_ (itm (.ok (.str (Str.ofString "abcdefghijklmnopqrstuvwxyz"))) (bin .Mod (bin .Add (bin .Add (bin .FloorDiv (.ok (.fz a1)) (.ok (.fz (.int 8)))) (.ok (.fz (.int 7)))) (.ok (.fz a2))) (.ok (.fz (.int 26))))) (gown v3) (bin .Mod (bin .FloorDiv (.ok (.fz a1)) (.ok (.fz (.int 208)))) (rdN v1)) fun o5 => (P.bind (mtd (Str.ofString "join") (.ok (.fz (.str (Str.ofString "")))) [(slc (.ok o5) none (some (rdN (V.clear v1))))]) P.ok))))) := (run_eq _ _ _ _).trans (by kernel_rfl)

theorem eq_law_names (n : Nat) (a1 : PyData) : run B1 (n + 1) (Str.ofString "_law_names") [.fz a1] = (P.bind (lcm (rg1 (.ok (.fz (.int 14)))) (fun d1 => (.ok true)) (fun d1 => (cal (run B1 n) (Str.ofString "_law_name") [(cal (run B1 n) (Str.ofString "_law_cell_at") [(.ok (.fz a1)), (.ok (.fz (.int 0)))]), (.ok (.fz d1))]))) P.ok) := (run_eq _ _ _ _).trans (by kernel_rfl)

theorem eq_law_number (n : Nat) (a1 : PyData) : run B1 (n + 1) (Str.ofString "_law_number") [.fz a1] = (ifS (cmp1 (bin .Mod (.ok (.fz a1)) (.ok (.fz (.int 5)))) .Eq (.ok (.fz (.int 4)))) (P.bind (bin .Add (itm (P.bind (lstS [(bin .Pow (.ok (.fz (.int 10))) (.ok (.fz (.int 20)))), (un .USub (bin .Pow (.ok (.fz (.int 10))) (.ok (.fz (.int 20))))), (bin .Pow (.ok (.fz (.int 10))) (.ok (.fz (.int 12)))), (.ok (.fz (.int 0)))]) dOf) (bin .Mod (bin .FloorDiv (.ok (.fz a1)) (.ok (.fz (.int 5)))) (.ok (.fz (.int 4))))) (bin .Mod (bin .FloorDiv (.ok (.fz a1)) (.ok (.fz (.int 20)))) (.ok (.fz (.int 3))))) P.ok) (ifS (cmp1 (bin .Mod (.ok (.fz a1)) (.ok (.fz (.int 5)))) .Eq (.ok (.fz (.int 3)))) (P.bind (bin .Sub (bin .Mod (bin .Mult (bin .FloorDiv (.ok (.fz a1)) (.ok (.fz (.int 5)))) (.ok (.fz (.int 48271)))) (.ok (.fz (.int 2000003)))) (.ok (.fz (.int 1000001)))) P.ok) (ifS (cmp1 (bin .Mod (.ok (.fz a1)) (.ok (.fz (.int 15)))) .Eq (.ok (.fz (.int 2)))) (P.bind (bin .Mult (bl1 intD (bin .Mult (.ok (.fz (.str (Str.ofString "37")))) (bin .Add (.ok (.fz (.int 1))) (bin .Mod (bin .FloorDiv (.ok (.fz a1)) (.ok (.fz (.int 15)))) (.ok (.fz (.int 14))))))) (bin .Sub (.ok (.fz (.int 1))) (bin .Mult (bin .Mod (bin .FloorDiv (.ok (.fz a1)) (.ok (.fz (.int 210)))) (.ok (.fz (.int 2)))) (.ok (.fz (.int 2)))))) P.ok) (P.bind (bin .Sub (bin .Mod (bin .FloorDiv (.ok (.fz a1)) (.ok (.fz (.int 5)))) (.ok (.fz (.int 9)))) (.ok (.fz (.int 4)))) P.ok)))) := (run_eq _ _ _ _).trans (by kernel_rfl)

noncomputable def b_law_table_1 (n : Nat) (σ : Store) (kn : Store → P V) (kr : V → P V) : P V := blkC (evC astF (ctxOf B1 n) (scOf B1 (Str.ofString "_law_table")) 23) (forB (List.drop 1 (bodyOf B1 (Str.ofString "_law_table")))) σ kn kr
noncomputable def t_law_table_1 : Expr := forT (List.drop 1 (bodyOf B1 (Str.ofString "_law_table")))
noncomputable def r_law_table_1 (n : Nat) (σ : Store) (kn : Store → P V) (kr : V → P V) : P V := blkC (evC astF (ctxOf B1 n) (scOf B1 (Str.ofString "_law_table")) 24) (List.drop 1 (List.drop 1 (bodyOf B1 (Str.ofString "_law_table")))) σ kn kr
theorem eq_law_table (n : Nat) (a1 a2 a3 a4 : PyData) : run B1 (n + 1) (Str.ofString "_law_table") [.fz a1, .fz a2, .fz a3, .fz a4] = (P.bind (rg1 (.ok (.fz (.int 4)))) fun l1 => forC (b_law_table_1 n) t_law_table_1 l1 (S_law_table (some (.fz a1)) (some (.fz a2)) (some (.fz a3)) (some (.fz a4)) (some (.own (.dict []))) none none none none none) (fun σ => r_law_table_1 n σ (fun _ => P.ok (.fz .none)) P.ok) P.ok) := (run_eq _ _ _ _).trans (by kernel_rfl)

noncomputable def b_law_house_1 (n : Nat) (σ : Store) (kn : Store → P V) (kr : V → P V) : P V := blkC (evC astF (ctxOf B1 n) (scOf B1 (Str.ofString "_law_house")) 23) (forB (List.drop 1 (List.drop 1 (List.drop 1 (List.drop 1 (List.drop 1 (bodyOf B1 (Str.ofString "_law_house")))))))) σ kn kr
noncomputable def t_law_house_1 : Expr := forT (List.drop 1 (List.drop 1 (List.drop 1 (List.drop 1 (List.drop 1 (bodyOf B1 (Str.ofString "_law_house")))))))
noncomputable def r_law_house_1 (n : Nat) (σ : Store) (kn : Store → P V) (kr : V → P V) : P V := blkC (evC astF (ctxOf B1 n) (scOf B1 (Str.ofString "_law_house")) 24) (List.drop 1 (List.drop 1 (List.drop 1 (List.drop 1 (List.drop 1 (List.drop 1 (bodyOf B1 (Str.ofString "_law_house")))))))) σ kn kr
theorem eq_law_house (n : Nat) (a1 a2 : PyData) : run B1 (n + 1) (Str.ofString "_law_house") [.fz a1, .fz a2] = (P.bind (dicS [((itm (.ok a2) (.ok (.fz (.int 0)))), (cal (run B1 n) (Str.ofString "_law_number") [(cal (run B1 n) (Str.ofString "_law_mixed") [(.ok (.fz a1)), (.ok (.fz (.int 1)))])]))]) fun v1 => (set_ (dicS [((itm (.ok a2) (.ok (.fz (.int 5)))), (cal (run B1 n) (Str.ofString "_law_number") [(cal (run B1 n) (Str.ofString "_law_mixed") [(.ok (.fz a1)), (.ok (.fz (.int 2)))])])), ((itm (.ok a2) (.ok (.fz (.int 6)))), (dicS [((itm (.ok a2) (.ok (.fz (.int 0)))), (.ok (.fz (.int 3))))]))]) (gown v1) (itm (.ok a2) (.ok (.fz (.int 1)))) fun o2 => (set_ (cal (run B1 n) (Str.ofString "_law_table") [(.ok (.fz a1)), (.ok (.fz (.int 20))), (.ok (.fz a2)), (slc (.ok a2) (some (.ok (.fz (.int 5)))) (some (.ok (.fz (.int 7)))))]) (.ok o2) (itm (.ok a2) (.ok (.fz (.int 2)))) fun o3 => (set_ (cal (run B1 n) (Str.ofString "_law_table") [(.ok (.fz a1)), (.ok (.fz (.int 70))), (.ok (.fz a2)), (slc (.ok a2) (some (.ok (.fz (.int 7)))) (some (.ok (.fz (.int 9)))))]) (.ok o3) (itm (.ok a2) (.ok (.fz (.int 3)))) fun o4 => (set_ (dicS [((itm (.ok a2) (.ok (.fz (.int 2)))), (cal (run B1 n) (Str.ofString "_law_table") [(.ok (.fz a1)), (.ok (.fz (.int 120))), (.ok (.fz a2)), (slc (.ok a2) (some (.ok (.fz (.int 5)))) (some (.ok (.fz (.int 9)))))])), ((itm (.ok a2) (.ok (.fz (.int 0)))), (.ok (.fz (.int 1))))]) (.ok o4) (itm (.ok a2) (.ok (.fz (.int 4)))) fun o5 => (P.bind (rg1 (.ok (.fz (.int 5)))) fun l6 => forC (b_law_house_1 n) t_law_house_1 l6 (S_law_house (some (.fz a1)) (some (.fz a2)) (some (.own o5)) none) (fun σ => r_law_house_1 n σ (fun _ => P.ok (.fz .none)) P.ok) P.ok)))))) := (run_eq _ _ _ _).trans (by kernel_rfl)

theorem eq_law_odd (n : Nat) (a1 a2 : PyData) : run B1 (n + 1) (Str.ofString "_law_odd") [.fz a1, .fz a2] = (P.bind (lstS [(.ok (.fz (.bool true))), (.ok (.fz (.bool false))), (.ok (.fz .none)), (.ok (.fz (.str (Str.ofString "")))), (.ok (.fz (.str (Str.ofString "a")))), (.ok (.fz (.int 1))), (un .USub (.ok (.fz (.int 1)))), (bin .Pow (.ok (.fz (.int 10))) (.ok (.fz (.int 30)))), (.ok (.fz (.tuple []))), (.ok (.own (.list []))), (dicS [((.ok (.fz (.int 1))), (.ok (.fz (.int 2))))]), (dicS [((.ok (.fz a2)), (.ok (.fz (.bool true))))]), (dicS [((.ok (.fz a2)), (.ok (.fz .none)))]), (dicS [((.ok (.fz (.str (Str.ofString "")))), (.ok (.fz (.int 1))))])]) fun v1 => (P.bind (bin .Add (rdN (V.clear v1)) (lstS [(dicS [((.ok (.fz (.str (Str.ofString "A")))), (.ok (.fz (.int 1))))]), (dicS [((bin .Add (.ok (.fz a2)) (bin .Mult (.ok (.fz (.str (Str.ofString "b")))) (.ok (.fz (.int 8))))), (.ok (.fz (.int 1))))]), (dicS [((.ok (.fz a2)), (lstS [(.ok (.fz (.int 1)))]))]), (dicS [((.ok (.fz a2)), (dicS [((.ok (.fz a2)), (.ok (.fz (.str (Str.ofString "a")))))]))]), (dicS [((tupS [(.ok (.fz a2))]), (.ok (.fz (.int 1))))])])) fun v2 => (P.bind (bin .Add (rdN (V.clear v2)) (lstS [(dicS [((.ok (.fz (.str (Str.ofString "a1")))), (.ok (.fz (.int 1))))]), (dicS [((.ok (.fz a2)), (dicS [((.ok (.fz .none)), (.ok (.fz (.int 1))))]))])])) fun v3 => (P.bind (itm (rcv v3) (bin .Mod (.ok (.fz a1)) (.ok (.fz (.int 21))))) P.ok)))) := (run_eq _ _ _ _).trans (by kernel_rfl)

theorem eq_law_is_name (n : Nat) (a1 : PyData) : run B1 (n + 1) (Str.ofString "_law_is_name") [.fz a1] = (ifS (or_ (un .Not (isi (Str.ofString "str") (.ok (.fz a1)))) (or_ (cmp1 (bl1 lenD (.ok (.fz a1))) .Lt (.ok (.fz (.int 1)))) (cmp1 (bl1 lenD (.ok (.fz a1))) .Gt (.ok (.fz (.int 8)))))) (P.ok (.fz (.bool false))) (P.bind (cmp1 (lcm (plI (.ok (.fz a1))) (fun d1 => (P.bind (cmp1 (.ok (.fz d1)) .NotIn (.ok (.fz (.str (Str.ofString "abcdefghijklmnopqrstuvwxyz"))))) truthV)) (fun d1 => (.ok (.fz d1)))) .Eq (.ok (.own (.list [])))) P.ok)) := (run_eq _ _ _ _).trans (by kernel_rfl)

theorem eq_law_is_tree (n : Nat) (a1 : PyData) : run B1 (n + 1) (Str.ofString "_law_is_tree") [.fz a1] = (ifS (isi (Str.ofString "dict") (.ok (.fz a1))) (P.bind (bl1 allB (lcm (plI (.ok (.fz a1))) (fun d1 => (.ok true)) (fun d1 => (and_ (cal (run B1 n) (Str.ofString "_law_is_name") [(.ok (.fz d1))]) (cal (run B1 n) (Str.ofString "_law_is_tree") [(itm (.ok a1) (.ok (.fz d1)))]))))) P.ok) (P.bind (and_ (isi (Str.ofString "int") (.ok (.fz a1))) (un .Not (isi (Str.ofString "bool") (.ok (.fz a1))))) P.ok)) := (run_eq _ _ _ _).trans (by kernel_rfl)

theorem eq_law_put_in (n : Nat) (a1 a2 a3 : PyData) : run B1 (n + 1) (Str.ofString "_law_put_in") [.fz a1, .fz a2, .fz a3] = (ifS (or_ (un .Not (isi (Str.ofString "dict") (.ok (.fz a1)))) (cmp1 (bl1 lenD (.ok (.fz a1))) .Eq (.ok (.fz (.int 0))))) (P.ok (.fz a3)) (P.bind (bl1 sortD (bl1 listD (.ok (.fz a1)))) fun v1 => (P.bind (bl1 dictD (.ok (.fz a1))) fun v2 => (P.bind (itm (rcv (V.clear v1)) (bin .Mod (.ok (.fz a2)) (bl1 lenD (rdN (V.clear v1))))) fun v3 => (set_ (ifx (cmp1 (bin .Mod (bin .FloorDiv (.ok (.fz a2)) (.ok (.fz (.int 8)))) (.ok (.fz (.int 3)))) .Eq (.ok (.fz (.int 0)))) (.ok (.fz a3)) (cal (run B1 n) (Str.ofString "_law_put_in") [(itm (.ok a1) (rdN (V.clear v3))), (bin .FloorDiv (.ok (.fz a2)) (.ok (.fz (.int 24)))), (.ok (.fz a3))])) (gown v2) (rdN (V.clear v3)) fun o4 => (P.ok (.own o4))))))) := (run_eq _ _ _ _).trans (by kernel_rfl)

theorem eq_law_text (n : Nat) (a1 a2 : PyData) : run B1 (n + 1) (Str.ofString "_law_text") [.fz a1, .fz a2] = (P.bind (bin .Mod (bin .FloorDiv (.ok (.fz a1)) (.ok (.fz (.int 4)))) (bin .Add (bl1 lenD (.ok (.fz a2))) (.ok (.fz (.int 1))))) fun v1 => (ifS (cmp1 (bin .Mod (.ok (.fz a1)) (.ok (.fz (.int 4)))) .Eq (.ok (.fz (.int 0)))) (P.bind (bin .Add (bin .Add (slc (.ok a2) none (some (rdN (V.clear v1)))) (itm (.ok (.str (Str.ofString " !#&()*+,-./0123456789:;<=>?@ABCDEFGHIJKLMNOPQRSTUVWXYZ[]^_{|}~"))) (bin .Mod (bin .FloorDiv (.ok (.fz a1)) (.ok (.fz (.int 40)))) (bl1 lenD (.ok (.fz (.str (Str.ofString " !#&()*+,-./0123456789:;<=>?@ABCDEFGHIJKLMNOPQRSTUVWXYZ[]^_{|}~")))))))) (slc (.ok a2) (some (rdN (V.clear v1))) none)) P.ok) (P.bind (itm (P.bind (lstS [(.ok (.fz a2)), (bin .Mult (.ok (.fz a2)) (.ok (.fz (.int 2)))), (slc (.ok (.str (Str.ofString "abcdefghi"))) none (some (bin .Mod (bin .FloorDiv (.ok (.fz a1)) (.ok (.fz (.int 4)))) (.ok (.fz (.int 10)))))), (slc (.ok a2) none (some (rdN (V.clear v1))))]) dOf) (bin .Mod (.ok (.fz a1)) (.ok (.fz (.int 4))))) P.ok))) := (run_eq _ _ _ _).trans (by kernel_rfl)

noncomputable def b_law_1 (n : Nat) (σ : Store) (kn : Store → P V) (kr : V → P V) : P V := blkC (evC astF (ctxOf B1 n) (scOf B1 (Str.ofString "law")) 23) (forB (List.drop 1 (List.drop 1 (bodyOf B1 (Str.ofString "law"))))) σ kn kr
noncomputable def t_law_1 : Expr := forT (List.drop 1 (List.drop 1 (bodyOf B1 (Str.ofString "law"))))
noncomputable def r_law_1 (n : Nat) (σ : Store) (kn : Store → P V) (kr : V → P V) : P V := blkC (evC astF (ctxOf B1 n) (scOf B1 (Str.ofString "law")) 24) (List.drop 1 (List.drop 1 (List.drop 1 (bodyOf B1 (Str.ofString "law"))))) σ kn kr
theorem eq_law (n : Nat) (a1 : PyData) : run B1 (n + 1) (Str.ofString "law") [.fz a1] = (P.bind (cal (run B1 n) (Str.ofString "_law_names") [(.ok (.fz a1))]) fun v1 => (P.bind (cal (run B1 n) (Str.ofString "_law_house") [(.ok (.fz a1)), (rdN (V.clear v1))]) fun v2 => (P.bind (plI (slc (.ok a1) (some (.ok (.fz (.int 2)))) (some (.ok (.fz (.int 26)))))) fun l3 => forC (b_law_1 n) t_law_1 l3 (S_law (some (.fz a1)) (some (V.clear v1)) (some v2) none none none none none none none none) (fun σ => r_law_1 n σ (fun _ => P.ok (.fz .none)) P.ok) P.ok))) := (run_eq _ _ _ _).trans (by kernel_rfl)

noncomputable def b_law_table_2 (n : Nat) (σ : Store) (kn : Store → P V) (kr : V → P V) : P V := blkC (evC astF (ctxOf B1 n) (scOf B1 (Str.ofString "_law_table")) 21) (forB (List.drop 1 (thenB (forB (List.drop 1 (bodyOf B1 (Str.ofString "_law_table"))))))) σ kn kr
noncomputable def t_law_table_2 : Expr := forT (List.drop 1 (thenB (forB (List.drop 1 (bodyOf B1 (Str.ofString "_law_table"))))))
noncomputable def r_law_table_2 (n : Nat) (σ : Store) (kn : Store → P V) (kr : V → P V) : P V := blkC (evC astF (ctxOf B1 n) (scOf B1 (Str.ofString "_law_table")) 22) (List.drop 1 (List.drop 1 (thenB (forB (List.drop 1 (bodyOf B1 (Str.ofString "_law_table"))))))) σ kn kr
theorem eb_law_table_1 (n : Nat) (a1 a2 a3 a4 fo dj : PyData) (o1 o2 o3 o4 : Option V) (kn : Store → P V) (kr : V → P V) : b_law_table_1 n (S_law_table (some (.fz a1)) (some (.fz a2)) (some (.fz a3)) (some (.fz a4)) (some (.own fo)) (some (.fz dj)) o1 o2 o3 o4) kn kr = (ifS (cmp1 (bin .Mod (cal (run B1 n) (Str.ofString "_law_mixed") [(.ok (.fz a1)), (bin .Add (.ok (.fz a2)) (bin .Mult (.ok (.fz (.int 10))) (.ok (.fz dj))))]) (.ok (.fz (.int 3)))) .Gt (.ok (.fz (.int 0)))) (P.bind (enm (.ok (.fz a4))) fun l1 => forC (b_law_table_2 n) t_law_table_2 l1 (S_law_table (some (.fz a1)) (some (.fz a2)) (some (.fz a3)) (some (.fz a4)) (some (.own fo)) (some (.fz dj)) (some (.own (.dict []))) o2 o3 o4) (fun σ => r_law_table_2 n σ (fun σ => blkC (evC astF (ctxOf B1 n) (scOf B1 (Str.ofString "_law_table")) 23) (List.drop 1 (forB (List.drop 1 (bodyOf B1 (Str.ofString "_law_table"))))) σ kn kr) kr) kr) (kn (S_law_table (some (.fz a1)) (some (.fz a2)) (some (.fz a3)) (some (.fz a4)) (some (.own fo)) (some (.fz dj)) o1 o2 o3 o4))) := by kernel_rfl

theorem ea_law_table_1 (d0 : PyData) (p0 p1 p2 p3 p4 p5 p6 p7 p8 p9 : Option V) : assignT t_law_table_1 d0 (S_law_table p0 p1 p2 p3 p4 p5 p6 p7 p8 p9) = .ok (S_law_table p0 p1 p2 p3 p4 (some (.fz d0)) p6 p7 p8 p9) := by kernel_rfl

theorem eb_law_table_2 (n : Nat) (a1 a2 a3 a4 fo dj ro di df : PyData) (o4 : Option V) (kn : Store → P V) (kr : V → P V) : b_law_table_2 n (S_law_table (some (.fz a1)) (some (.fz a2)) (some (.fz a3)) (some (.fz a4)) (some (.own fo)) (some (.fz dj)) (some (.own ro)) (some (.fz di)) (some (.fz df)) o4) kn kr = (P.bind (cal (run B1 n) (Str.ofString "_law_mixed") [(.ok (.fz a1)), (bin .Add (bin .Add (bin .Add (.ok (.fz a2)) (bin .Mult (.ok (.fz (.int 10))) (.ok (.fz dj)))) (.ok (.fz di))) (.ok (.fz (.int 1))))]) fun v1 => (ifS (cmp1 (bin .Mod (rdN (V.clear v1)) (.ok (.fz (.int 4)))) .Gt (.ok (.fz (.int 0)))) (set_ (cal (run B1 n) (Str.ofString "_law_number") [(bin .FloorDiv (rdN (V.clear (V.clear v1))) (.ok (.fz (.int 4))))]) (.ok ro) (.ok (.fz df)) fun o2 => (kn (S_law_table (some (.fz a1)) (some (.fz a2)) (some (.fz a3)) (some (.fz a4)) (some (.own fo)) (some (.fz dj)) (some (.own o2)) (some (.fz di)) (some (.fz df)) (some (V.clear (V.clear v1)))))) (ifS (cmp1 (bin .Mod (rdN (V.clear (V.clear v1))) (.ok (.fz (.int 12)))) .Eq (.ok (.fz (.int 0)))) (set_ (dicS [((itm (.ok a3) (.ok (.fz (.int 0)))), (bin .Mod (bin .FloorDiv (rdN (V.clear (V.clear (V.clear v1)))) (.ok (.fz (.int 12)))) (.ok (.fz (.int 5)))))]) (.ok ro) (.ok (.fz df)) fun o3 => (kn (S_law_table (some (.fz a1)) (some (.fz a2)) (some (.fz a3)) (some (.fz a4)) (some (.own fo)) (some (.fz dj)) (some (.own o3)) (some (.fz di)) (some (.fz df)) (some (V.clear (V.clear (V.clear v1))))))) (kn (S_law_table (some (.fz a1)) (some (.fz a2)) (some (.fz a3)) (some (.fz a4)) (some (.own fo)) (some (.fz dj)) (some (.own ro)) (some (.fz di)) (some (.fz df)) (some (V.clear (V.clear v1)))))))) := by kernel_rfl

theorem ea_law_table_2 (d0 d1 : PyData) (p0 p1 p2 p3 p4 p5 p6 p7 p8 p9 : Option V) : assignT t_law_table_2 (.tuple [d0, d1]) (S_law_table p0 p1 p2 p3 p4 p5 p6 p7 p8 p9) = .ok (S_law_table p0 p1 p2 p3 p4 p5 p6 (some (.fz d0)) (some (.fz d1)) p9) := by kernel_rfl

theorem er_law_table_2 (n : Nat) (a1 a2 a3 a4 fo dj ro : PyData) (o2 o3 o4 : Option V) (kn : Store → P V) (kr : V → P V) : r_law_table_2 n (S_law_table (some (.fz a1)) (some (.fz a2)) (some (.fz a3)) (some (.fz a4)) (some (.own fo)) (some (.fz dj)) (some (.own ro)) o2 o3 o4) kn kr = (set_ (.ok (.fz ro)) (.ok fo) (itm (.ok a3) (bin .Add (.ok (.fz (.int 9))) (.ok (.fz dj)))) fun o1 => (kn (S_law_table (some (.fz a1)) (some (.fz a2)) (some (.fz a3)) (some (.fz a4)) (some (.own o1)) (some (.fz dj)) (some (.fz ro)) o2 o3 o4))) := by kernel_rfl

theorem er_law_table_1 (n : Nat) (a1 a2 a3 a4 fo : PyData) (o0 o1 o2 o3 o4 : Option V) (kn : Store → P V) (kr : V → P V) : r_law_table_1 n (S_law_table (some (.fz a1)) (some (.fz a2)) (some (.fz a3)) (some (.fz a4)) (some (.own fo)) o0 o1 o2 o3 o4) kn kr = (kr (.own fo)) := by kernel_rfl

theorem eb_law_house_1 (n : Nat) (a1 a2 fo dk : PyData)  (kn : Store → P V) (kr : V → P V) : b_law_house_1 n (S_law_house (some (.fz a1)) (some (.fz a2)) (some (.own fo)) (some (.fz dk))) kn kr = (ifS (cmp1 (bin .Mod (cal (run B1 n) (Str.ofString "_law_mixed") [(.ok (.fz a1)), (bin .Add (.ok (.fz (.int 200))) (.ok (.fz dk)))]) (.ok (.fz (.int 9)))) .Eq (.ok (.fz (.int 0)))) (mut_ (.ok fo) (Str.ofString "pop") [(itm (.ok a2) (.ok (.fz dk)))] fun o1 => (kn (S_law_house (some (.fz a1)) (some (.fz a2)) (some (.own o1)) (some (.fz dk))))) (kn (S_law_house (some (.fz a1)) (some (.fz a2)) (some (.own fo)) (some (.fz dk))))) := by kernel_rfl

theorem ea_law_house_1 (d0 : PyData) (p0 p1 p2 p3 : Option V) : assignT t_law_house_1 d0 (S_law_house p0 p1 p2 p3) = .ok (S_law_house p0 p1 p2 (some (.fz d0))) := by kernel_rfl

theorem er_law_house_1 (n : Nat) (a1 a2 fo : PyData) (o1 : Option V) (kn : Store → P V) (kr : V → P V) : r_law_house_1 n (S_law_house (some (.fz a1)) (some (.fz a2)) (some (.own fo)) o1) kn kr = (P.bind (itm (P.bind (lstS [(.ok (.fz fo)), (mtd (Str.ofString "get") (.ok (.fz fo)) [(itm (.ok a2) (.ok (.fz (.int 2)))), (.ok (.own (.dict [])))]), (mtd (Str.ofString "get") (.ok (.fz fo)) [(itm (.ok a2) (.ok (.fz (.int 4)))), (.ok (.fz (.int 5)))])]) dOf) (bin .Mod (bin .Mod (cal (run B1 n) (Str.ofString "_law_cell_at") [(.ok (.fz a1)), (.ok (.fz (.int 1)))]) (.ok (.fz (.int 5)))) (.ok (.fz (.int 3))))) kr) := by kernel_rfl

noncomputable def b_law_2 (n : Nat) (σ : Store) (kn : Store → P V) (kr : V → P V) : P V := blkC (evC astF (ctxOf B1 n) (scOf B1 (Str.ofString "law")) 22) (forB (List.drop 1 (List.drop 1 (List.drop 1 (forB (List.drop 1 (List.drop 1 (bodyOf B1 (Str.ofString "law"))))))))) σ kn kr
noncomputable def t_law_2 : Expr := forT (List.drop 1 (List.drop 1 (List.drop 1 (forB (List.drop 1 (List.drop 1 (bodyOf B1 (Str.ofString "law"))))))))
noncomputable def r_law_2 (n : Nat) (σ : Store) (kn : Store → P V) (kr : V → P V) : P V := blkC (evC astF (ctxOf B1 n) (scOf B1 (Str.ofString "law")) 23) (List.drop 1 (List.drop 1 (List.drop 1 (List.drop 1 (forB (List.drop 1 (List.drop 1 (bodyOf B1 (Str.ofString "law"))))))))) σ kn kr
theorem eb_law_1 (n : Nat) (a1 a2 a3 dc : PyData) (o1 o2 o3 o4 o5 o6 o7 : Option V) (kn : Store → P V) (kr : V → P V) : b_law_1 n (S_law (some (.fz a1)) (some (.fz a2)) (some (.fz a3)) (some (.fz dc)) o1 o2 o3 o4 o5 o6 o7) kn kr = (P.bind (cal (run B1 n) (Str.ofString "_law_put_in") [(.ok (.fz a3)), (bin .FloorDiv (.ok (.fz dc)) (.ok (.fz (.int 3)))), (cal (run B1 n) (Str.ofString "_law_odd") [(.ok (.fz dc)), (itm (.ok a2) (bin .Mod (.ok (.fz dc)) (.ok (.fz (.int 14)))))])]) fun v1 => (P.bind (bl1 reprX (rdN (V.clear v1))) fun v2 => (P.bind (lstS [(.ok (.fz a3)), (rdN (V.clear (V.clear v1))), (cal (run B1 n) (Str.ofString "_law_odd") [(bin .FloorDiv (.ok (.fz dc)) (.ok (.fz (.int 21)))), (itm (.ok a2) (.ok (.fz (.int 3))))]), (cal (run B1 n) (Str.ofString "_law_text") [(.ok (.fz dc)), (itm (.ok a2) (bin .Mod (bin .FloorDiv (.ok (.fz dc)) (.ok (.fz (.int 5)))) (.ok (.fz (.int 14)))))])]) fun v3 => (P.bind (plI (rdN (V.clear v3))) fun l4 => forC (b_law_2 n) t_law_2 l4 (S_law (some (.fz a1)) (some (.fz a2)) (some (.fz a3)) (some (.fz dc)) (some (V.clear (V.clear v1))) (some v2) (some (V.clear v3)) o4 o5 o6 o7) (fun σ => r_law_2 n σ kn kr) kr)))) := by kernel_rfl

theorem ea_law_1 (d0 : PyData) (p0 p1 p2 p3 p4 p5 p6 p7 p8 p9 p10 : Option V) : assignT t_law_1 d0 (S_law p0 p1 p2 p3 p4 p5 p6 p7 p8 p9 p10) = .ok (S_law p0 p1 p2 (some (.fz d0)) p4 p5 p6 p7 p8 p9 p10) := by kernel_rfl

theorem eb_law_2 (n : Nat) (a1 a2 a3 dc d1 d2 d3 dt : PyData) (o5 o6 o7 : Option V) (kn : Store → P V) (kr : V → P V) : b_law_2 n (S_law (some (.fz a1)) (some (.fz a2)) (some (.fz a3)) (some (.fz dc)) (some (.fz d1)) (some (.fz d2)) (some (.fz d3)) (some (.fz dt)) o5 o6 o7) kn kr = (P.bind (and_ (isi (Str.ofString "dict") (.ok (.fz dt))) (cal (run B1 n) (Str.ofString "_law_is_tree") [(.ok (.fz dt))])) fun v1 => (P.bind (and_ (rdN (V.clear v1)) (bl1 allB (lcm (plI (.ok (.fz dt))) (fun d2 => (.ok true)) (fun d2 => (isi (Str.ofString "dict") (itm (.ok dt) (.ok (.fz d2)))))))) fun v3 => (P.bind (lstS [(cal (run B1 n) (Str.ofString "_law_is_name") [(.ok (.fz dt))]), (cal (run B1 n) (Str.ofString "_law_is_tree") [(.ok (.fz dt))]), (rdN (V.clear v3))]) fun v4 => (P.bind (lstS [(cal (run B1 n) (Str.ofString "is_name") [(.ok (.fz dt))]), (cal (run B1 n) (Str.ofString "is_tree") [(.ok (.fz dt))]), (cal (run B1 n) (Str.ofString "is_table") [(.ok (.fz dt))])]) fun v5 => (ifS (or_ (cmp1 (lcm (plI (rdN (V.clear v5))) (fun d6 => (P.bind (un .Not (isi (Str.ofString "bool") (.ok (.fz d6)))) truthV)) (fun d6 => (.ok (.fz d6)))) .NotEq (.ok (.own (.list [])))) (cmp1 (rdN (V.clear v5)) .NotEq (rdN (V.clear v4)))) (kr (.fz (.bool false))) (kn (S_law (some (.fz a1)) (some (.fz a2)) (some (.fz a3)) (some (.fz dc)) (some (.fz d1)) (some (.fz d2)) (some (.fz d3)) (some (.fz dt)) (some (V.clear v3)) (some (V.clear v4)) (some (V.clear v5))))))))) := by kernel_rfl

theorem ea_law_2 (d0 : PyData) (p0 p1 p2 p3 p4 p5 p6 p7 p8 p9 p10 : Option V) : assignT t_law_2 d0 (S_law p0 p1 p2 p3 p4 p5 p6 p7 p8 p9 p10) = .ok (S_law p0 p1 p2 p3 p4 p5 p6 (some (.fz d0)) p8 p9 p10) := by kernel_rfl

theorem er_law_2 (n : Nat) (a1 a2 a3 dc d1 d2 d3 : PyData) (o4 o5 o6 o7 : Option V) (kn : Store → P V) (kr : V → P V) : r_law_2 n (S_law (some (.fz a1)) (some (.fz a2)) (some (.fz a3)) (some (.fz dc)) (some (.fz d1)) (some (.fz d2)) (some (.fz d3)) o4 o5 o6 o7) kn kr = (ifS (cmp1 (bl1 reprX (.ok (.fz d1))) .NotEq (.ok (.fz d2))) (kr (.fz (.bool false))) (kn (S_law (some (.fz a1)) (some (.fz a2)) (some (.fz a3)) (some (.fz dc)) (some (.fz d1)) (some (.fz d2)) (some (.fz d3)) o4 o5 o6 o7))) := by kernel_rfl

theorem er_law_1 (n : Nat) (a1 a2 a3 : PyData) (o0 o1 o2 o3 o4 o5 o6 o7 : Option V) (kn : Store → P V) (kr : V → P V) : r_law_1 n (S_law (some (.fz a1)) (some (.fz a2)) (some (.fz a3)) o0 o1 o2 o3 o4 o5 o6 o7) kn kr = (ifS (cmp1 (cal (run B1 n) (Str.ofString "is_table") [(itm (.ok a2) (.ok (.fz (.int 0))))]) .IsNot (.ok (.fz (.bool false)))) (kr (.fz (.bool false))) (P.bind (and_ (cmp1 (cal (run B1 n) (Str.ofString "is_table") [(.ok (.own (.dict [])))]) .Is (.ok (.fz (.bool true)))) (cmp1 (cal (run B1 n) (Str.ofString "is_tree") [(.ok (.fz (.int 0)))]) .Is (.ok (.fz (.bool true))))) kr)) := by kernel_rfl

end Mine

set_option maxRecDepth 100000
set_option linter.unusedVariables false
namespace Mine
open PySem

noncomputable def Li (s : List Int) : PyData := .list (s.map .int)
noncomputable def cellAt (s : List Int) (k : Int) : Int := if k < s.length then (s[k.toNat]?).getD 0 else 0
noncomputable def mixed (s : List Int) (k : Int) : Int := (cellAt s (2 + k.fmod 24) * 48271 + 7919 * k + 12345).fmod 2147483647

theorem r_cell (n : Nat) (s : List Int) {k : Int} (hk : 0 ≤ k) : run B1 (n + 1) (Str.ofString "_law_cell_at") [.fz (Li s), .fz (.int k)] = .ok (.fz (.int (cellAt s k))) := by
  rw [eq_law_cell_at]
  unfold Li
  simp (decide := true) only [bin, un, ifx, cmp1, cmp2, and_, or_, lstS, tupS, dicS, prsS, itm, slc, cal, bl1, isi, mnm, mtd, lcm, plI, rg1, rg2, enm, set_, mut_, ifS, own, fz, P.ok_bind, dOf_fz, dOf_own, truthV_bool, rdN_fz, rcv_fz, rcv_own, retN_fz, retN_own, gown_own, clear_fz, clear_own, evsS_nil, evsS_cons, dsOf_nil, dsOf_fz, fzb_ok, evUn_not, evUn_neg, bo_add, bo_sub, bo_mul_r, bo_mul_l, bo_div, bo_mod, bo_pow, cmp_lt, cmp_le, cmp_gt, cmp_ge, cmp_eq, cmp_ne, cmp_is, cmp_isnot, cmp_in, cmp_notin, isSame_bool, notP_ok, ofO_some, eqO_int, eqO_str, isinst_fz, isinst_own, typ_str, typ_dict, typ_int, typ_bool, contains_str, optInt_none, optInt_int, getSlice_list, getSlice_str, items_list, items_dict, items_str, lenD, isStrD, isDictD, isIntD, isBoolD, if_true, if_false, Bool.not_true, Bool.not_false, Bool.false_eq_true]
  simp only [List.length_map]
  unfold cellAt
  by_cases h : k < s.length
  · obtain ⟨d, _, h2, h3⟩ := gi_list (s.map PyData.int) hk (by simpa using h)
    simp only [h, decide_true, if_true, h3, P.ok_bind]
    rw [List.getElem?_map] at h2
    cases hs : s[k.toNat]? with
    | none => rw [hs] at h2; cases h2
    | some i => rw [hs] at h2; cases h2; rfl
  · simp [h]

theorem r_mixed (n : Nat) (s : List Int) {k : Int} (hk : 0 ≤ k) : run B1 (n + 2) (Str.ofString "_law_mixed") [.fz (Li s), .fz (.int k)] = .ok (.fz (.int (mixed s k))) := by
  rw [eq_law_mixed]
  have h := (fmod_rng k (n := 24) (by decide)).1
  simp (decide := true) only [bin, un, ifx, cmp1, cmp2, and_, or_, lstS, tupS, dicS, prsS, itm, slc, cal, bl1, isi, mnm, mtd, lcm, plI, rg1, rg2, enm, set_, mut_, ifS, own, fz, P.ok_bind, dOf_fz, dOf_own, truthV_bool, rdN_fz, rcv_fz, rcv_own, retN_fz, retN_own, gown_own, clear_fz, clear_own, evsS_nil, evsS_cons, dsOf_nil, dsOf_fz, fzb_ok, evUn_not, evUn_neg, bo_add, bo_sub, bo_mul_r, bo_mul_l, bo_div, bo_mod, bo_pow, cmp_lt, cmp_le, cmp_gt, cmp_ge, cmp_eq, cmp_ne, cmp_is, cmp_isnot, cmp_in, cmp_notin, isSame_bool, notP_ok, ofO_some, eqO_int, eqO_str, isinst_fz, isinst_own, typ_str, typ_dict, typ_int, typ_bool, contains_str, optInt_none, optInt_int, getSlice_list, getSlice_str, items_list, items_dict, items_str, lenD, isStrD, isDictD, isIntD, isBoolD, if_true, if_false, Bool.not_true, Bool.not_false, Bool.false_eq_true]
  rw [r_cell n s (by omega)]
  simp (decide := true) only [bin, un, ifx, cmp1, cmp2, and_, or_, lstS, tupS, dicS, prsS, itm, slc, cal, bl1, isi, mnm, mtd, lcm, plI, rg1, rg2, enm, set_, mut_, ifS, own, fz, P.ok_bind, dOf_fz, dOf_own, truthV_bool, rdN_fz, rcv_fz, rcv_own, retN_fz, retN_own, gown_own, clear_fz, clear_own, evsS_nil, evsS_cons, dsOf_nil, dsOf_fz, fzb_ok, evUn_not, evUn_neg, bo_add, bo_sub, bo_mul_r, bo_mul_l, bo_div, bo_mod, bo_pow, cmp_lt, cmp_le, cmp_gt, cmp_ge, cmp_eq, cmp_ne, cmp_is, cmp_isnot, cmp_in, cmp_notin, isSame_bool, notP_ok, ofO_some, eqO_int, eqO_str, isinst_fz, isinst_own, typ_str, typ_dict, typ_int, typ_bool, contains_str, optInt_none, optInt_int, getSlice_list, getSlice_str, items_list, items_dict, items_str, lenD, isStrD, isDictD, isIntD, isBoolD, if_true, if_false, Bool.not_true, Bool.not_false, Bool.false_eq_true]
  rfl

theorem mixed_rng (s : List Int) (k : Int) : 0 ≤ mixed s k ∧ mixed s k < 2147483647 := fmod_rng _ (by decide)

theorem four {m : Int} (h : 0 ≤ m ∧ m < 4) : m = 0 ∨ m = 1 ∨ m = 2 ∨ m = 3 := by omega

theorem intD37 {m : Int} (h : 0 ≤ m ∧ m < 14) : ∃ i : Int, (binop .Mult (.str (Str.ofString "37")) (.int (1 + m))).bind (fun v => (dOf v).bind intD) = .ok (.fz (.int i)) ∧ 0 ≤ i ∧ i ≤ 10 ^ 28 := by
  have : m = 0 ∨ m = 1 ∨ m = 2 ∨ m = 3 ∨ m = 4 ∨ m = 5 ∨ m = 6 ∨ m = 7 ∨ m = 8 ∨ m = 9 ∨ m = 10 ∨ m = 11 ∨ m = 12 ∨ m = 13 := by omega
  rcases this with h | h | h | h | h | h | h | h | h | h | h | h | h | h <;> subst h
  · exact ⟨37, by kernel_rfl, by decide⟩
  · exact ⟨3737, by kernel_rfl, by decide⟩
  · exact ⟨373737, by kernel_rfl, by decide⟩
  · exact ⟨37373737, by kernel_rfl, by decide⟩
  · exact ⟨3737373737, by kernel_rfl, by decide⟩
  · exact ⟨373737373737, by kernel_rfl, by decide⟩
  · exact ⟨37373737373737, by kernel_rfl, by decide⟩
  · exact ⟨3737373737373737, by kernel_rfl, by decide⟩
  · exact ⟨373737373737373737, by kernel_rfl, by decide⟩
  · exact ⟨37373737373737373737, by kernel_rfl, by decide⟩
  · exact ⟨3737373737373737373737, by kernel_rfl, by decide⟩
  · exact ⟨373737373737373737373737, by kernel_rfl, by decide⟩
  · exact ⟨37373737373737373737373737, by kernel_rfl, by decide⟩
  · exact ⟨3737373737373737373737373737, by kernel_rfl, by decide⟩

theorem r_number (n : Nat) (c : Int) : ∃ i : Int, run B1 (n + 1) (Str.ofString "_law_number") [.fz (.int c)] = .ok (.fz (.int i)) ∧ i.natAbs ≤ 10 ^ 30 := by
  rw [eq_law_number]
  simp (decide := true) only [bin, un, ifx, cmp1, cmp2, and_, or_, lstS, tupS, dicS, prsS, itm, slc, cal, bl1, isi, mnm, mtd, lcm, plI, rg1, rg2, enm, set_, mut_, ifS, own, fz, P.ok_bind, dOf_fz, dOf_own, truthV_bool, rdN_fz, rcv_fz, rcv_own, retN_fz, retN_own, gown_own, clear_fz, clear_own, evsS_nil, evsS_cons, dsOf_nil, dsOf_fz, fzb_ok, evUn_not, evUn_neg, bo_add, bo_sub, bo_mul_r, bo_mul_l, bo_div, bo_mod, bo_pow, cmp_lt, cmp_le, cmp_gt, cmp_ge, cmp_eq, cmp_ne, cmp_is, cmp_isnot, cmp_in, cmp_notin, isSame_bool, notP_ok, ofO_some, eqO_int, eqO_str, isinst_fz, isinst_own, typ_str, typ_dict, typ_int, typ_bool, contains_str, optInt_none, optInt_int, getSlice_list, getSlice_str, items_list, items_dict, items_str, lenD, isStrD, isDictD, isIntD, isBoolD, if_true, if_false, Bool.not_true, Bool.not_false, Bool.false_eq_true]
  by_cases h1 : c.fmod 5 = 4
  · simp only [h1, beq_self_eq_true, if_true]
    have hr := fmod_rng ((c.fdiv 5)) (n := 4) (by decide)
    have hs := fmod_rng ((c.fdiv 20)) (n := 3) (by decide)
    generalize (c.fdiv 5).fmod 4 = m at *
    generalize (c.fdiv 20).fmod 3 = q at *
    rcases four hr with h | h | h | h <;> subst h
    · exact ⟨10 ^ 20 + q, by kernel_rfl, by omega⟩
    · exact ⟨-10 ^ 20 + q, by kernel_rfl, by omega⟩
    · exact ⟨10 ^ 12 + q, by kernel_rfl, by omega⟩
    · exact ⟨0 + q, by kernel_rfl, by omega⟩
  · have e1 : (c.fmod 5 == 4) = false := beq_eq_false_iff_ne.mpr h1
    simp only [e1, Bool.false_eq_true, if_false]
    by_cases h2 : c.fmod 5 = 3
    · simp only [h2, beq_self_eq_true, if_true]
      refine ⟨_, rfl, ?_⟩
      have := fmod_rng (c.fdiv 5 * 48271) (n := 2000003) (by decide)
      omega
    · have e2 : (c.fmod 5 == 3) = false := beq_eq_false_iff_ne.mpr h2
      simp only [e2, Bool.false_eq_true, if_false]
      by_cases h3 : c.fmod 15 = 2
      · simp only [h3, beq_self_eq_true, if_true]
        obtain ⟨i, hi, hb⟩ := intD37 (fmod_rng (c.fdiv 15) (n := 14) (by decide))
        have hq := fmod_rng (c.fdiv 210) (n := 2) (by decide)
        rw [hi]
        simp (decide := true) only [bin, un, ifx, cmp1, cmp2, and_, or_, lstS, tupS, dicS, prsS, itm, slc, cal, bl1, isi, mnm, mtd, lcm, plI, rg1, rg2, enm, set_, mut_, ifS, own, fz, P.ok_bind, dOf_fz, dOf_own, truthV_bool, rdN_fz, rcv_fz, rcv_own, retN_fz, retN_own, gown_own, clear_fz, clear_own, evsS_nil, evsS_cons, dsOf_nil, dsOf_fz, fzb_ok, evUn_not, evUn_neg, bo_add, bo_sub, bo_mul_r, bo_mul_l, bo_div, bo_mod, bo_pow, cmp_lt, cmp_le, cmp_gt, cmp_ge, cmp_eq, cmp_ne, cmp_is, cmp_isnot, cmp_in, cmp_notin, isSame_bool, notP_ok, ofO_some, eqO_int, eqO_str, isinst_fz, isinst_own, typ_str, typ_dict, typ_int, typ_bool, contains_str, optInt_none, optInt_int, getSlice_list, getSlice_str, items_list, items_dict, items_str, lenD, isStrD, isDictD, isIntD, isBoolD, if_true, if_false, Bool.not_true, Bool.not_false, Bool.false_eq_true]
        refine ⟨i * (1 - (c.fdiv 210).fmod 2 * 2), ?_, ?_⟩
        · rw [bo_mul_r _ (by omega)]; rfl
        · have : (c.fdiv 210).fmod 2 = 0 ∨ (c.fdiv 210).fmod 2 = 1 := by omega
          rcases this with h | h <;> rw [h] <;> omega
      · have e3 : (c.fmod 15 == 2) = false := beq_eq_false_iff_ne.mpr h3
        simp only [e3, Bool.false_eq_true, if_false]
        refine ⟨_, rfl, ?_⟩
        have := fmod_rng (c.fdiv 5) (n := 9) (by decide)
        omega

end Mine

set_option maxRecDepth 100000
set_option linter.unusedVariables false
namespace Mine
open PySem

theorem foldl_chars : ∀ (r : List Nat) (acc : Array Nat), (r.map fun c => (⟨#[c]⟩ : Str)).foldl (fun acc p => acc ++ (Str.ofString "").cps ++ p.cps) acc = acc ++ r.toArray
  | [], acc => by simp
  | c :: r, acc => by
    simp only [List.map_cons, List.foldl_cons]
    rw [foldl_chars r]
    have : (Str.ofString "").cps = #[] := rfl
    rw [this]
    simp
    

theorem glued_chars (cs : List Nat) : Txt.join (Str.ofString "") (cs.map fun c => ⟨#[c]⟩) = ⟨cs.toArray⟩ := by
  show Builtin.Str.glued _ _ = _
  unfold Builtin.Str.glued
  cases cs with
  | nil => rfl
  | cons c r =>
    simp only [List.map_cons, List.drop_succ_cons, List.drop_zero, List.headD_cons]
    rw [foldl_chars]
    simp

theorem strs_chars : ∀ cs : List Nat, strs? (cs.map charD) = some (cs.map fun c => ⟨#[c]⟩)
  | [] => rfl
  | c :: r => by
    show (strs? (r.map charD)).map (_ :: ·) = _
    rw [strs_chars r]; rfl

theorem foldl_len : ∀ (cs : List Nat) (a : Nat), (cs.map fun c => (⟨#[c]⟩ : Str)).foldl (fun x y => x + y.length + (Str.ofString "").length) a = a + cs.length
  | [], a => by simp
  | c :: r, a => by
    simp only [List.map_cons, List.foldl_cons]
    rw [foldl_len r]
    have : (Str.ofString "").length = 0 := rfl
    have h1 : (⟨#[c]⟩ : Str).length = 1 := rfl
    rw [this, h1]
    simp; omega

theorem join_chars {cs : List Nat} (h : cs.length ≤ 1000) : method (Str.ofString "join") (.str (Str.ofString "")) [.list (cs.map charD)] = .ok (.fz (.str ⟨cs.toArray⟩)) := by
  have e : method (Str.ofString "join") (.str (Str.ofString "")) [.list (cs.map charD)] = (ofO (strs? (cs.map charD))).bind fun l => if JoinOk (Str.ofString "") l then fz (.str (Txt.join (Str.ofString "") l)) else .no := rfl
  rw [e, strs_chars]
  simp (decide := true) only [bin, un, ifx, cmp1, cmp2, and_, or_, lstS, tupS, dicS, prsS, itm, slc, cal, bl1, isi, mnm, mtd, lcm, plI, rg1, rg2, enm, set_, mut_, ifS, own, fz, P.ok_bind, dOf_fz, dOf_own, truthV_bool, rdN_fz, rcv_fz, rcv_own, retN_fz, retN_own, gown_own, clear_fz, clear_own, evsS_nil, evsS_cons, dsOf_nil, dsOf_fz, fzb_ok, evUn_not, evUn_neg, bo_add, bo_sub, bo_mul_r, bo_mul_l, bo_div, bo_mod, bo_pow, cmp_lt, cmp_le, cmp_gt, cmp_ge, cmp_eq, cmp_ne, cmp_is, cmp_isnot, cmp_in, cmp_notin, isSame_bool, notP_ok, ofO_some, eqO_int, eqO_str, isinst_fz, isinst_own, typ_str, typ_dict, typ_int, typ_bool, contains_str, optInt_none, optInt_int, getSlice_list, getSlice_str, items_list, items_dict, items_str, lenD, isStrD, isDictD, isIntD, isBoolD, if_true, if_false, Bool.not_true, Bool.not_false, Bool.false_eq_true]
  have hj : JoinOk (Str.ofString "") (cs.map fun c => ⟨#[c]⟩) = true := by
    unfold JoinOk Builtin.Str.tooLong
    rw [List.foldl_toArray', foldl_len] <;> simp [sizeLine]
    omega
  rw [if_pos hj, glued_chars]

theorem slice_to {α : Type} (l : List α) {k : Int} (h : 0 ≤ k) : slice l none (some k) = l.take k.toNat := by
  unfold slice clipAt
  simp only [Option.elim, List.drop_zero, Nat.sub_zero]
  rw [if_neg (Int.not_lt.mpr h)]
  by_cases hk : k ≤ l.length
  · congr 1; omega
  · rw [List.take_of_length_le (by omega), List.take_of_length_le (by omega)]

noncomputable def LET : Str := Str.ofString "abcdefghijklmnopqrstuvwxyz"
noncomputable def ltr (m : Int) : Nat := (LET.cps[m.toNat]?).getD 0
theorem ltr_get (x : Int) : getItem (.str (Str.ofString "abcdefghijklmnopqrstuvwxyz")) (.int (x.fmod 26)) = .ok (.fz (charD (ltr (x.fmod 26)))) := by
  have h := fmod_rng x (n := 26) (by decide)
  obtain ⟨c, _, h2, h3⟩ := gi_str LET (k := x.fmod 26) h.1 (by show _ < ((26 : Nat) : Int); omega)
  show getItem (.str LET) _ = _
  rw [h3]
  unfold ltr
  rw [h2]; rfl
theorem ltr_inj {a b : Int} (ha : 0 ≤ a ∧ a < 26) (hb : 0 ≤ b ∧ b < 26) (h : ltr a = ltr b) : a = b := by
  have key : ∀ i j : Fin 26, (LET.cps[i.val]?).getD 0 = (LET.cps[j.val]?).getD 0 → i = j := by decide
  have := key ⟨a.toNat, by omega⟩ ⟨b.toNat, by omega⟩ h
  have := congrArg Fin.val this
  simp at this
  omega
theorem ltr_small {a : Int} (ha : 0 ≤ a ∧ a < 26) : ltr a < 123 := by
  have key : ∀ i : Fin 26, (LET.cps[i.val]?).getD 0 < 123 := by decide
  exact key ⟨a.toNat, by omega⟩

noncomputable def csOf (c : Int) : List Nat := [0, 1, 2, 3, 4, 5, 6, 7].map fun j : Int => ltr ((c.fdiv 8 + 5 * j).fmod 26)
noncomputable def nm (c k : Int) : List Nat :=
  if (c.fdiv 1664).fmod 3 = 1 then ((csOf c).set 0 (ltr ((c.fdiv 8 + k.fdiv 8).fmod 26))).take (1 + k.fmod 8).toNat
  else ((csOf c).set ((c.fdiv 208).fmod (1 + c.fmod 8)).toNat (ltr ((c.fdiv 8 + 7 + k).fmod 26))).take (1 + c.fmod 8).toNat

theorem setItem_chars {cs : List Nat} {k : Int} (h : 0 ≤ k ∧ k < cs.length) (x : Nat) : setItem (.list (cs.map charD)) (.int k) (charD x) = .ok (.list ((cs.set k.toNat x).map charD)) := by
  show (if 0 ≤ k ∧ k < (cs.map charD).length then P.ok (PyData.list ((cs.map charD).set k.toNat (charD x))) else .no) = _
  rw [if_pos (by simpa using h), List.map_set]

theorem signs (c : Int) : compG (fun _ => P.ok true) (fun d => itm (.ok (.str (Str.ofString "abcdefghijklmnopqrstuvwxyz"))) (bin .Mod (bin .Add (bin .FloorDiv (.ok (.fz (.int c))) (.ok (.fz (.int 8)))) (bin .Mult (.ok (.fz (.int 5))) (.ok (.fz d)))) (.ok (.fz (.int 26))))) (rangeD 0 8) = .ok ((csOf c).map charD) := by
  have e : rangeD 0 8 = [0, 1, 2, 3, 4, 5, 6, 7].map PyData.int := by rfl
  rw [e]
  rw [compG_map (h := fun d => match d with | .int j => charD (ltr ((c.fdiv 8 + 5 * j).fmod 26)) | d => d)]
  · rfl
  · intro d hd
    obtain ⟨j, _, rfl⟩ := List.mem_map.mp hd
    refine ⟨.fz (charD (ltr ((c.fdiv 8 + 5 * j).fmod 26))), ?_, rfl⟩
    simp (decide := true) only [bin, un, ifx, cmp1, cmp2, and_, or_, lstS, tupS, dicS, prsS, itm, slc, cal, bl1, isi, mnm, mtd, lcm, plI, rg1, rg2, enm, set_, mut_, ifS, own, fz, P.ok_bind, dOf_fz, dOf_own, truthV_bool, rdN_fz, rcv_fz, rcv_own, retN_fz, retN_own, gown_own, clear_fz, clear_own, evsS_nil, evsS_cons, dsOf_nil, dsOf_fz, fzb_ok, evUn_not, evUn_neg, bo_add, bo_sub, bo_mul_r, bo_mul_l, bo_div, bo_mod, bo_pow, cmp_lt, cmp_le, cmp_gt, cmp_ge, cmp_eq, cmp_ne, cmp_is, cmp_isnot, cmp_in, cmp_notin, isSame_bool, notP_ok, ofO_some, eqO_int, eqO_str, isinst_fz, isinst_own, typ_str, typ_dict, typ_int, typ_bool, contains_str, optInt_none, optInt_int, getSlice_list, getSlice_str, items_list, items_dict, items_str, lenD, isStrD, isDictD, isIntD, isBoolD, if_true, if_false, Bool.not_true, Bool.not_false, Bool.false_eq_true]
    exact ltr_get _

theorem range8 : rangeOf 0 8 = .ok (rangeD 0 8) := by rfl

theorem cs_len (c : Int) : (csOf c).length = 8 := rfl

theorem r_name (n : Nat) (c k : Int) : run B1 (n + 1) (Str.ofString "_law_name") [.fz (.int c), .fz (.int k)] = .ok (.fz (.str ⟨(nm c k).toArray⟩)) := by
  rw [eq_law_name]
  have h8 := fmod_rng c (n := 8) (by decide)
  have k8 := fmod_rng k (n := 8) (by decide)
  have hp := fmod_rng (c.fdiv 208) (n := 1 + c.fmod 8) (by omega)
  have hs := signs c
  simp (decide := true) only [bin, un, ifx, cmp1, cmp2, and_, or_, lstS, tupS, dicS, prsS, itm, slc, cal, bl1, isi, mnm, mtd, lcm, plI, rg1, rg2, enm, set_, mut_, ifS, own, fz, P.ok_bind, dOf_fz, dOf_own, truthV_bool, rdN_fz, rcv_fz, rcv_own, retN_fz, retN_own, gown_own, clear_fz, clear_own, evsS_nil, evsS_cons, dsOf_nil, dsOf_fz, fzb_ok, evUn_not, evUn_neg, bo_add, bo_sub, bo_mul_r, bo_mul_l, bo_div, bo_mod, bo_pow, cmp_lt, cmp_le, cmp_gt, cmp_ge, cmp_eq, cmp_ne, cmp_is, cmp_isnot, cmp_in, cmp_notin, isSame_bool, notP_ok, ofO_some, eqO_int, eqO_str, isinst_fz, isinst_own, typ_str, typ_dict, typ_int, typ_bool, contains_str, optInt_none, optInt_int, getSlice_list, getSlice_str, items_list, items_dict, items_str, lenD, isStrD, isDictD, isIntD, isBoolD, if_true, if_false, Bool.not_true, Bool.not_false, Bool.false_eq_true]
  simp (decide := true) only [bin, un, ifx, cmp1, cmp2, and_, or_, lstS, tupS, dicS, prsS, itm, slc, cal, bl1, isi, mnm, mtd, lcm, plI, rg1, rg2, enm, set_, mut_, ifS, own, fz, P.ok_bind, dOf_fz, dOf_own, truthV_bool, rdN_fz, rcv_fz, rcv_own, retN_fz, retN_own, gown_own, clear_fz, clear_own, evsS_nil, evsS_cons, dsOf_nil, dsOf_fz, fzb_ok, evUn_not, evUn_neg, bo_add, bo_sub, bo_mul_r, bo_mul_l, bo_div, bo_mod, bo_pow, cmp_lt, cmp_le, cmp_gt, cmp_ge, cmp_eq, cmp_ne, cmp_is, cmp_isnot, cmp_in, cmp_notin, isSame_bool, notP_ok, ofO_some, eqO_int, eqO_str, isinst_fz, isinst_own, typ_str, typ_dict, typ_int, typ_bool, contains_str, optInt_none, optInt_int, getSlice_list, getSlice_str, items_list, items_dict, items_str, lenD, isStrD, isDictD, isIntD, isBoolD, if_true, if_false, Bool.not_true, Bool.not_false, Bool.false_eq_true] at hs
  simp only [range8, P.ok_bind]
  rw [hs]
  simp (decide := true) only [bin, un, ifx, cmp1, cmp2, and_, or_, lstS, tupS, dicS, prsS, itm, slc, cal, bl1, isi, mnm, mtd, lcm, plI, rg1, rg2, enm, set_, mut_, ifS, own, fz, P.ok_bind, dOf_fz, dOf_own, truthV_bool, rdN_fz, rcv_fz, rcv_own, retN_fz, retN_own, gown_own, clear_fz, clear_own, evsS_nil, evsS_cons, dsOf_nil, dsOf_fz, fzb_ok, evUn_not, evUn_neg, bo_add, bo_sub, bo_mul_r, bo_mul_l, bo_div, bo_mod, bo_pow, cmp_lt, cmp_le, cmp_gt, cmp_ge, cmp_eq, cmp_ne, cmp_is, cmp_isnot, cmp_in, cmp_notin, isSame_bool, notP_ok, ofO_some, eqO_int, eqO_str, isinst_fz, isinst_own, typ_str, typ_dict, typ_int, typ_bool, contains_str, optInt_none, optInt_int, getSlice_list, getSlice_str, items_list, items_dict, items_str, lenD, isStrD, isDictD, isIntD, isBoolD, if_true, if_false, Bool.not_true, Bool.not_false, Bool.false_eq_true]
  unfold nm
  by_cases h : (c.fdiv 1664).fmod 3 = 1
  · simp only [h, beq_self_eq_true, if_true]
    rw [ltr_get]
    simp (decide := true) only [bin, un, ifx, cmp1, cmp2, and_, or_, lstS, tupS, dicS, prsS, itm, slc, cal, bl1, isi, mnm, mtd, lcm, plI, rg1, rg2, enm, set_, mut_, ifS, own, fz, P.ok_bind, dOf_fz, dOf_own, truthV_bool, rdN_fz, rcv_fz, rcv_own, retN_fz, retN_own, gown_own, clear_fz, clear_own, evsS_nil, evsS_cons, dsOf_nil, dsOf_fz, fzb_ok, evUn_not, evUn_neg, bo_add, bo_sub, bo_mul_r, bo_mul_l, bo_div, bo_mod, bo_pow, cmp_lt, cmp_le, cmp_gt, cmp_ge, cmp_eq, cmp_ne, cmp_is, cmp_isnot, cmp_in, cmp_notin, isSame_bool, notP_ok, ofO_some, eqO_int, eqO_str, isinst_fz, isinst_own, typ_str, typ_dict, typ_int, typ_bool, contains_str, optInt_none, optInt_int, getSlice_list, getSlice_str, items_list, items_dict, items_str, lenD, isStrD, isDictD, isIntD, isBoolD, if_true, if_false, Bool.not_true, Bool.not_false, Bool.false_eq_true]
    rw [setItem_chars (by simp [cs_len])]
    simp (decide := true) only [bin, un, ifx, cmp1, cmp2, and_, or_, lstS, tupS, dicS, prsS, itm, slc, cal, bl1, isi, mnm, mtd, lcm, plI, rg1, rg2, enm, set_, mut_, ifS, own, fz, P.ok_bind, dOf_fz, dOf_own, truthV_bool, rdN_fz, rcv_fz, rcv_own, retN_fz, retN_own, gown_own, clear_fz, clear_own, evsS_nil, evsS_cons, dsOf_nil, dsOf_fz, fzb_ok, evUn_not, evUn_neg, bo_add, bo_sub, bo_mul_r, bo_mul_l, bo_div, bo_mod, bo_pow, cmp_lt, cmp_le, cmp_gt, cmp_ge, cmp_eq, cmp_ne, cmp_is, cmp_isnot, cmp_in, cmp_notin, isSame_bool, notP_ok, ofO_some, eqO_int, eqO_str, isinst_fz, isinst_own, typ_str, typ_dict, typ_int, typ_bool, contains_str, optInt_none, optInt_int, getSlice_list, getSlice_str, items_list, items_dict, items_str, lenD, isStrD, isDictD, isIntD, isBoolD, if_true, if_false, Bool.not_true, Bool.not_false, Bool.false_eq_true]
    rw [slice_to _ (by omega), ← List.map_take]
    rw [join_chars (by simp [cs_len]; omega)]
    rfl
  · have e1 : ((c.fdiv 1664).fmod 3 == 1) = false := beq_eq_false_iff_ne.mpr h
    simp only [e1, Bool.false_eq_true, if_false, if_neg h]
    rw [ltr_get]
    rw [bo_mod _ (by omega)]
    simp (decide := true) only [bin, un, ifx, cmp1, cmp2, and_, or_, lstS, tupS, dicS, prsS, itm, slc, cal, bl1, isi, mnm, mtd, lcm, plI, rg1, rg2, enm, set_, mut_, ifS, own, fz, P.ok_bind, dOf_fz, dOf_own, truthV_bool, rdN_fz, rcv_fz, rcv_own, retN_fz, retN_own, gown_own, clear_fz, clear_own, evsS_nil, evsS_cons, dsOf_nil, dsOf_fz, fzb_ok, evUn_not, evUn_neg, bo_add, bo_sub, bo_mul_r, bo_mul_l, bo_div, bo_mod, bo_pow, cmp_lt, cmp_le, cmp_gt, cmp_ge, cmp_eq, cmp_ne, cmp_is, cmp_isnot, cmp_in, cmp_notin, isSame_bool, notP_ok, ofO_some, eqO_int, eqO_str, isinst_fz, isinst_own, typ_str, typ_dict, typ_int, typ_bool, contains_str, optInt_none, optInt_int, getSlice_list, getSlice_str, items_list, items_dict, items_str, lenD, isStrD, isDictD, isIntD, isBoolD, if_true, if_false, Bool.not_true, Bool.not_false, Bool.false_eq_true]
    rw [setItem_chars (by simp [cs_len]; omega)]
    simp (decide := true) only [bin, un, ifx, cmp1, cmp2, and_, or_, lstS, tupS, dicS, prsS, itm, slc, cal, bl1, isi, mnm, mtd, lcm, plI, rg1, rg2, enm, set_, mut_, ifS, own, fz, P.ok_bind, dOf_fz, dOf_own, truthV_bool, rdN_fz, rcv_fz, rcv_own, retN_fz, retN_own, gown_own, clear_fz, clear_own, evsS_nil, evsS_cons, dsOf_nil, dsOf_fz, fzb_ok, evUn_not, evUn_neg, bo_add, bo_sub, bo_mul_r, bo_mul_l, bo_div, bo_mod, bo_pow, cmp_lt, cmp_le, cmp_gt, cmp_ge, cmp_eq, cmp_ne, cmp_is, cmp_isnot, cmp_in, cmp_notin, isSame_bool, notP_ok, ofO_some, eqO_int, eqO_str, isinst_fz, isinst_own, typ_str, typ_dict, typ_int, typ_bool, contains_str, optInt_none, optInt_int, getSlice_list, getSlice_str, items_list, items_dict, items_str, lenD, isStrD, isDictD, isIntD, isBoolD, if_true, if_false, Bool.not_true, Bool.not_false, Bool.false_eq_true]
    rw [slice_to _ (by omega), ← List.map_take]
    rw [join_chars (by simp [cs_len]; omega)]
    rfl

theorem nm_len (c k : Int) : (nm c k).length ≤ 8 := by
  unfold nm
  split <;> simp [cs_len] <;> omega
theorem nm_small (c k : Int) : ∀ x ∈ nm c k, x < 123 := by
  have base : ∀ x ∈ csOf c, x < 123 := by
    intro x hx
    obtain ⟨j, _, rfl⟩ := List.mem_map.mp hx
    exact ltr_small (fmod_rng _ (by decide))
  intro x hx
  unfold nm at hx
  split at hx
  · have := List.mem_of_mem_take hx
    rcases List.mem_or_eq_of_mem_set this with h | h
    · exact base x h
    · rw [h]; exact ltr_small (fmod_rng _ (by decide))
  · have := List.mem_of_mem_take hx
    rcases List.mem_or_eq_of_mem_set this with h | h
    · exact base x h
    · rw [h]; exact ltr_small (fmod_rng _ (by decide))

theorem nm_inj {c k k' : Int} (hk : 0 ≤ k ∧ k < 5) (hk' : 0 ≤ k' ∧ k' < 5) (h : nm c k = nm c k') : k = k' := by
  unfold nm at h
  split at h
  · have e1 : k.fmod 8 = k := by rw [Int.fmod_eq_emod_of_nonneg _ (by decide)]; omega
    have e2 : k'.fmod 8 = k' := by rw [Int.fmod_eq_emod_of_nonneg _ (by decide)]; omega
    have hl := congrArg List.length h
    simp only [List.length_take, List.length_set, cs_len, e1, e2] at hl
    omega
  · have h8 := fmod_rng c (n := 8) (by decide)
    have hp := fmod_rng (c.fdiv 208) (n := 1 + c.fmod 8) (by omega)
    have he := congrArg (fun l => l[((c.fdiv 208).fmod (1 + c.fmod 8)).toNat]?) h
    have hlt : ((c.fdiv 208).fmod (1 + c.fmod 8)).toNat < (csOf c).length := by rw [cs_len]; omega
    have hlt2 : ((c.fdiv 208).fmod (1 + c.fmod 8)).toNat < (1 + c.fmod 8).toNat := by omega
    simp only [List.getElem?_take, List.getElem?_set, if_pos hlt2, if_pos hlt, if_true] at he
    have hl := ltr_inj (fmod_rng _ (by decide)) (fmod_rng _ (by decide)) (Option.some.inj he)
    rw [Int.fmod_eq_emod_of_nonneg _ (by decide), Int.fmod_eq_emod_of_nonneg _ (by decide)] at hl
    omega

end Mine

set_option maxRecDepth 100000
set_option linter.unusedVariables false
set_option linter.unusedSimpArgs false
namespace Mine
open PySem

inductive OkD : PyData → Prop where
  | atom (d : PyData) : isDictD d = false → OkD d
  | dict (l : List (PyData × PyData)) : strKeys l = true → (∀ p ∈ l, OkD p.2) → OkD (.dict l)
  | odd (k v : PyData) : oddKey k = true → OkD (.dict [(k, v)])

theorem bools_map : ∀ bs : List Bool, bools? (bs.map PyData.bool) = some bs
  | [] => rfl
  | b :: r => by
    show (bools? (r.map PyData.bool)).map (b :: ·) = _
    rw [bools_map r]; rfl

theorem allB_bools (bs : List Bool) : allB (.list (bs.map PyData.bool)) = .ok (.fz (.bool (bs.all id))) := by
  show fzb ((ofO (bools? (bs.map PyData.bool))).bind fun bs => .ok (bs.all id)) = _
  rw [bools_map]; rfl

theorem compG_two {g g' : Nat → PyData → P V} {N : Nat} : ∀ {l : List PyData}, (∀ d ∈ l, ∃ b, ∀ n, N ≤ n → g n d = .ok (.fz (.bool b)) ∧ g' n d = .ok (.fz (.bool b))) → ∃ bs : List Bool, ∀ n, N ≤ n → compG (fun _ => .ok true) (g n) l = .ok (bs.map PyData.bool) ∧ compG (fun _ => .ok true) (g' n) l = .ok (bs.map PyData.bool)
  | [], _ => ⟨[], fun _ _ => ⟨rfl, rfl⟩⟩
  | d :: r, h => by
    obtain ⟨b, h1⟩ := h d (by simp)
    obtain ⟨bs, e⟩ := compG_two fun d hd => h d (List.mem_cons_of_mem _ hd)
    refine ⟨b :: bs, fun n hn => ⟨?_, ?_⟩⟩
    · show (g n d).bind (fun v => (dOf v).bind fun x => (compG (fun _ => .ok true) (g n) r).bind fun xs => .ok (x :: xs)) = _
      rw [(h1 n hn).1, (e n hn).1]; rfl
    · show (g' n d).bind (fun v => (dOf v).bind fun x => (compG (fun _ => .ok true) (g' n) r).bind fun xs => .ok (x :: xs)) = _
      rw [(h1 n hn).2, (e n hn).2]; rfl

/-! names -/
noncomputable def inL (c : Nat) : Bool := Txt.contains (Str.ofString "abcdefghijklmnopqrstuvwxyz") ⟨#[c]⟩

theorem comp_in (cs : List Nat) : compG (fun _ => P.ok true) (fun d1 => cmp1 (.ok (.fz d1)) .In (.ok (.fz (.str (Str.ofString "abcdefghijklmnopqrstuvwxyz"))))) (cs.map charD) = .ok ((cs.map inL).map PyData.bool) := by
  rw [compG_map (h := fun d => match d with | .str s => .bool (Txt.contains (Str.ofString "abcdefghijklmnopqrstuvwxyz") s) | d => d)]
  · rw [List.map_map, List.map_map]; rfl
  · intro d hd
    obtain ⟨c, _, rfl⟩ := List.mem_map.mp hd
    exact ⟨_, rfl, rfl⟩

theorem comp_notin : ∀ cs : List Nat, compG (fun d1 => P.bind (cmp1 (.ok (.fz d1)) .NotIn (.ok (.fz (.str (Str.ofString "abcdefghijklmnopqrstuvwxyz"))))) truthV) (fun d1 => .ok (.fz d1)) (cs.map charD) = .ok ((cs.filter fun c => !inL c).map charD)
  | [] => rfl
  | c :: r => by
    show ((P.ok (V.fz (.bool !inL c))).bind truthV).bind (fun b => if b then (P.ok (V.fz (charD c))).bind fun v => (dOf v).bind fun x => (compG _ _ (r.map charD)).bind fun xs => .ok (x :: xs) else compG _ _ (r.map charD)) = _
    rw [comp_notin r]
    cases h : inL c with
    | true => simp [h]; rfl
    | false => simp [h]; rfl

theorem flat_chars : ∀ cs : List Nat, flatAll (cs.map charD) = true
  | [] => rfl
  | c :: r => by
    show (flat (charD c) && flatAll (r.map charD)) = true
    rw [flat_chars r]; rfl
theorem depth_chars : ∀ cs : List Nat, PyData.depthAll (cs.map charD) = 0
  | [] => rfl
  | c :: r => by
    show max _ (PyData.depthAll (r.map charD)) = 0
    rw [depth_chars r]; rfl
theorem eqO_chars (cs : List Nat) : eqO (.list (cs.map charD)) (.list []) = some cs.isEmpty := by
  unfold eqO
  have h1 : flat (.list (cs.map charD)) = true := flat_chars cs
  have h2 : PyData.depth (.list (cs.map charD)) = 1 := by
    show PyData.depthAll _ + 1 = 1
    rw [depth_chars]
  have h3 : flat (.list []) = true := rfl
  rw [h1, h2, h3]
  cases cs with
  | nil => simp [PyData.eqv, PyData.eqvAll]
  | cons c r => simp [PyData.eqv, PyData.eqvAll]

theorem filter_empty_iff : ∀ cs : List Nat, (cs.filter fun c => !inL c).isEmpty = (cs.map inL).all id
  | [] => rfl
  | c :: r => by
    have ih := filter_empty_iff r
    cases h : inL c with
    | true => simp [h]; simpa using ih
    | false => simp [h]

theorem name_agree (d : PyData) : ∃ b, (∀ n, run B1 (n + 1) (Str.ofString "is_name") [.fz d] = .ok (.fz (.bool b)) ∧ run B1 (n + 1) (Str.ofString "_law_is_name") [.fz d] = .ok (.fz (.bool b))) ∧ (isStrD d = false → b = false) := by
  cases hd : isStrD d with
  | false => 
    refine ⟨false, fun n => ?_, fun _ => rfl⟩
    rw [eq_is_name, eq_law_is_name]
    refine ⟨?_, ?_⟩
    · simp only [ifS, or_, un, isi, isinst_fz, typ_str, hd, P.ok_bind, ofO_some, evUn_not, truthV_bool, Bool.not_false, if_true]
    · simp only [ifS, or_, un, isi, isinst_fz, typ_str, hd, P.ok_bind, ofO_some, evUn_not, truthV_bool, Bool.not_false, if_true]
  | true =>
    cases d with
    | str s =>
      by_cases h : 1 ≤ s.cps.size ∧ s.cps.size ≤ 8
      · refine ⟨(s.cps.toList.map inL).all id, fun n => ?_, fun e => by cases e⟩
        rw [eq_is_name, eq_law_is_name]
        refine ⟨?_, ?_⟩
        · have h1 : ((1 : Int) ≤ (s.cps.size : Int)) := by omega
          have h2 : ((s.cps.size : Int) ≤ 8) := by omega
          have hc := comp_in s.cps.toList
          simp (decide := true) only [bin, un, ifx, cmp1, cmp2, and_, or_, lstS, tupS, dicS, prsS, itm, slc, cal, bl1, isi, mnm, mtd, lcm, plI, rg1, rg2, enm, set_, mut_, ifS, own, fz, P.ok_bind, dOf_fz, dOf_own, truthV_bool, rdN_fz, rcv_fz, rcv_own, retN_fz, retN_own, gown_own, clear_fz, clear_own, evsS_nil, evsS_cons, dsOf_nil, dsOf_fz, fzb_ok, evUn_not, evUn_neg, bo_add, bo_sub, bo_mul_r, bo_mul_l, bo_div, bo_mod, bo_pow, cmp_lt, cmp_le, cmp_gt, cmp_ge, cmp_eq, cmp_ne, cmp_is, cmp_isnot, cmp_in, cmp_notin, isSame_bool, notP_ok, ofO_some, eqO_int, eqO_str, isinst_fz, isinst_own, typ_str, typ_dict, typ_int, typ_bool, contains_str, optInt_none, optInt_int, getSlice_list, getSlice_str, items_list, items_dict, items_str, lenD, isStrD, isDictD, isIntD, isBoolD, if_true, if_false, Bool.not_true, Bool.not_false, Bool.false_eq_true]
          simp (decide := true) only [bin, un, ifx, cmp1, cmp2, and_, or_, lstS, tupS, dicS, prsS, itm, slc, cal, bl1, isi, mnm, mtd, lcm, plI, rg1, rg2, enm, set_, mut_, ifS, own, fz, P.ok_bind, dOf_fz, dOf_own, truthV_bool, rdN_fz, rcv_fz, rcv_own, retN_fz, retN_own, gown_own, clear_fz, clear_own, evsS_nil, evsS_cons, dsOf_nil, dsOf_fz, fzb_ok, evUn_not, evUn_neg, bo_add, bo_sub, bo_mul_r, bo_mul_l, bo_div, bo_mod, bo_pow, cmp_lt, cmp_le, cmp_gt, cmp_ge, cmp_eq, cmp_ne, cmp_is, cmp_isnot, cmp_in, cmp_notin, isSame_bool, notP_ok, ofO_some, eqO_int, eqO_str, isinst_fz, isinst_own, typ_str, typ_dict, typ_int, typ_bool, contains_str, optInt_none, optInt_int, getSlice_list, getSlice_str, items_list, items_dict, items_str, lenD, isStrD, isDictD, isIntD, isBoolD, if_true, if_false, Bool.not_true, Bool.not_false, Bool.false_eq_true] at hc
          simp only [h1, h2, decide_true, P.ok_bind, if_true, Bool.not_true, Bool.false_eq_true, if_false, fzb_ok]
          rw [hc, P.ok_bind, P.ok_bind, dOf_own, P.ok_bind, allB_bools]; rfl
        · have h1 : ¬ ((s.cps.size : Int) < 1) := by omega
          have h2 : ¬ ((8 : Int) < (s.cps.size : Int)) := by omega
          have hc := comp_notin s.cps.toList
          simp (decide := true) only [bin, un, ifx, cmp1, cmp2, and_, or_, lstS, tupS, dicS, prsS, itm, slc, cal, bl1, isi, mnm, mtd, lcm, plI, rg1, rg2, enm, set_, mut_, ifS, own, fz, P.ok_bind, dOf_fz, dOf_own, truthV_bool, rdN_fz, rcv_fz, rcv_own, retN_fz, retN_own, gown_own, clear_fz, clear_own, evsS_nil, evsS_cons, dsOf_nil, dsOf_fz, fzb_ok, evUn_not, evUn_neg, bo_add, bo_sub, bo_mul_r, bo_mul_l, bo_div, bo_mod, bo_pow, cmp_lt, cmp_le, cmp_gt, cmp_ge, cmp_eq, cmp_ne, cmp_is, cmp_isnot, cmp_in, cmp_notin, isSame_bool, notP_ok, ofO_some, eqO_int, eqO_str, isinst_fz, isinst_own, typ_str, typ_dict, typ_int, typ_bool, contains_str, optInt_none, optInt_int, getSlice_list, getSlice_str, items_list, items_dict, items_str, lenD, isStrD, isDictD, isIntD, isBoolD, if_true, if_false, Bool.not_true, Bool.not_false, Bool.false_eq_true]
          simp (decide := true) only [bin, un, ifx, cmp1, cmp2, and_, or_, lstS, tupS, dicS, prsS, itm, slc, cal, bl1, isi, mnm, mtd, lcm, plI, rg1, rg2, enm, set_, mut_, ifS, own, fz, P.ok_bind, dOf_fz, dOf_own, truthV_bool, rdN_fz, rcv_fz, rcv_own, retN_fz, retN_own, gown_own, clear_fz, clear_own, evsS_nil, evsS_cons, dsOf_nil, dsOf_fz, fzb_ok, evUn_not, evUn_neg, bo_add, bo_sub, bo_mul_r, bo_mul_l, bo_div, bo_mod, bo_pow, cmp_lt, cmp_le, cmp_gt, cmp_ge, cmp_eq, cmp_ne, cmp_is, cmp_isnot, cmp_in, cmp_notin, isSame_bool, notP_ok, ofO_some, eqO_int, eqO_str, isinst_fz, isinst_own, typ_str, typ_dict, typ_int, typ_bool, contains_str, optInt_none, optInt_int, getSlice_list, getSlice_str, items_list, items_dict, items_str, lenD, isStrD, isDictD, isIntD, isBoolD, if_true, if_false, Bool.not_true, Bool.not_false, Bool.false_eq_true] at hc
          simp only [h1, h2, decide_false, P.ok_bind, if_false, Bool.false_eq_true]
          rw [hc, P.ok_bind, P.ok_bind, dOf_own, P.ok_bind, eqO_chars, filter_empty_iff]; rfl
      · refine ⟨false, fun n => ?_, fun e => rfl⟩
        rw [eq_is_name, eq_law_is_name]
        refine ⟨?_, ?_⟩
        · simp (decide := true) only [bin, un, ifx, cmp1, cmp2, and_, or_, lstS, tupS, dicS, prsS, itm, slc, cal, bl1, isi, mnm, mtd, lcm, plI, rg1, rg2, enm, set_, mut_, ifS, own, fz, P.ok_bind, dOf_fz, dOf_own, truthV_bool, rdN_fz, rcv_fz, rcv_own, retN_fz, retN_own, gown_own, clear_fz, clear_own, evsS_nil, evsS_cons, dsOf_nil, dsOf_fz, fzb_ok, evUn_not, evUn_neg, bo_add, bo_sub, bo_mul_r, bo_mul_l, bo_div, bo_mod, bo_pow, cmp_lt, cmp_le, cmp_gt, cmp_ge, cmp_eq, cmp_ne, cmp_is, cmp_isnot, cmp_in, cmp_notin, isSame_bool, notP_ok, ofO_some, eqO_int, eqO_str, isinst_fz, isinst_own, typ_str, typ_dict, typ_int, typ_bool, contains_str, optInt_none, optInt_int, getSlice_list, getSlice_str, items_list, items_dict, items_str, lenD, isStrD, isDictD, isIntD, isBoolD, if_true, if_false, Bool.not_true, Bool.not_false, Bool.false_eq_true]
          by_cases h1 : ((1 : Int) ≤ (s.cps.size : Int))
          · have h2 : ¬ ((s.cps.size : Int) ≤ 8) := by omega
            simp [h1, h2, P.ok_bind, fzb_ok, evUn_not, truthV_bool]
          · simp [h1, P.ok_bind, fzb_ok, evUn_not, truthV_bool]
        · simp (decide := true) only [bin, un, ifx, cmp1, cmp2, and_, or_, lstS, tupS, dicS, prsS, itm, slc, cal, bl1, isi, mnm, mtd, lcm, plI, rg1, rg2, enm, set_, mut_, ifS, own, fz, P.ok_bind, dOf_fz, dOf_own, truthV_bool, rdN_fz, rcv_fz, rcv_own, retN_fz, retN_own, gown_own, clear_fz, clear_own, evsS_nil, evsS_cons, dsOf_nil, dsOf_fz, fzb_ok, evUn_not, evUn_neg, bo_add, bo_sub, bo_mul_r, bo_mul_l, bo_div, bo_mod, bo_pow, cmp_lt, cmp_le, cmp_gt, cmp_ge, cmp_eq, cmp_ne, cmp_is, cmp_isnot, cmp_in, cmp_notin, isSame_bool, notP_ok, ofO_some, eqO_int, eqO_str, isinst_fz, isinst_own, typ_str, typ_dict, typ_int, typ_bool, contains_str, optInt_none, optInt_int, getSlice_list, getSlice_str, items_list, items_dict, items_str, lenD, isStrD, isDictD, isIntD, isBoolD, if_true, if_false, Bool.not_true, Bool.not_false, Bool.false_eq_true]
          by_cases h1 : ((s.cps.size : Int) < 1)
          · simp [h1, P.ok_bind, truthV_bool]
          · have h2 : ((8 : Int) < (s.cps.size : Int)) := by omega
            simp [h1, h2, P.ok_bind, truthV_bool]
    | _ => cases hd

theorem whole_run (n : Nat) (d : PyData) : run B1 (n + 1) (Str.ofString "is_whole") [.fz d] = .ok (.fz (.bool (isIntD d && !isBoolD d))) := by
  rw [eq_is_whole]
  cases d <;> rfl

theorem dGet_mem : ∀ {l : List (PyData × PyData)} {s : Str}, strKeys l = true → (.str s) ∈ l.map (·.1) → ∃ v, dGet l s = some v ∧ (.str s, v) ∈ l
  | [], _, _, h => by cases h
  | (k, v) :: r, s, hk, h => by
    cases k with
    | str y =>
      have hk : strKeys r = true := hk
      show ∃ u, (if s = y then some v else dGet r s) = some u ∧ _
      by_cases e : s = y
      · subst e
        rw [if_pos rfl]
        exact ⟨v, rfl, by simp⟩
      · rw [if_neg e]
        have : (PyData.str s) ∈ r.map (·.1) := by
          rcases List.mem_cons.mp h with h | h
          · exact absurd (PyData.str.inj h) e
          · exact h
        obtain ⟨u, h1, h2⟩ := dGet_mem hk this
        exact ⟨u, h1, List.mem_cons_of_mem _ h2⟩
    | _ => cases hk

theorem strKeys_mem : ∀ {l : List (PyData × PyData)} {k : PyData}, strKeys l = true → k ∈ l.map (·.1) → ∃ s, k = .str s
  | [], _, _, h => by cases h
  | (k0, v) :: r, k, hk, h => by
    cases k0 with
    | str y =>
      rcases List.mem_cons.mp h with h | h
      · exact ⟨y, h⟩
      · exact strKeys_mem (l := r) hk h
    | _ => cases hk

theorem gi_dict {l : List (PyData × PyData)} (hk : strKeys l = true) {s : Str} {v : PyData} (h : dGet l s = some v) : getItem (.dict l) (.str s) = .ok (.fz v) := by
  show (if strKeys l then (match dGet l s with | some d => P.ok (V.fz d) | none => .no) else .no) = _
  rw [if_pos hk, h]

theorem depthKv_mem : ∀ {l : List (PyData × PyData)} {p : PyData × PyData}, p ∈ l → p.2.depth ≤ PyData.depthKv l
  | (a, b) :: r, p, h => by
    show _ ≤ max (max a.depth b.depth) (PyData.depthKv r)
    rcases List.mem_cons.mp h with h | h
    · subst h; exact Nat.le_trans (Nat.le_max_right _ _) (Nat.le_max_left _ _)
    · exact Nat.le_trans (depthKv_mem h) (Nat.le_max_right _ _)

theorem oddKey_not {k : PyData} (h : oddKey k = true) : isStrD k = false := by
  cases k <;> first | rfl | cases h

theorem tree_agree {d : PyData} (hd : OkD d) : ∃ b, (∀ n, d.depth ≤ n → run B1 (n + 3) (Str.ofString "is_tree") [.fz d] = .ok (.fz (.bool b)) ∧ run B1 (n + 3) (Str.ofString "_law_is_tree") [.fz d] = .ok (.fz (.bool b))) ∧ (∀ l, d = .dict l → strKeys l = false → b = false) := by
  induction hd with
  | atom d h =>
    refine ⟨isIntD d && !isBoolD d, fun n _ => ?_, fun l e => by subst e; cases h⟩
    rw [eq_is_tree, eq_law_is_tree]
    refine ⟨?_, ?_⟩
    · simp only [ifS, cal, evsS_cons, evsS_nil, P.ok_bind, clear_fz, whole_run, truthV_bool, un, isi, isinst_fz, typ_dict, h, ofO_some, evUn_not, Bool.not_false, if_true]
      cases isIntD d && !isBoolD d <;> rfl
    · simp only [ifS, isi, isinst_fz, typ_dict, h, P.ok_bind, ofO_some, truthV_bool, Bool.false_eq_true, if_false]
      cases d <;> first | rfl | cases h
  | dict l hk hv ih =>
    have two := compG_two (l := l.map (·.1)) (N := PyData.depthKv l) (g := fun m d1 => and_ (cal (run B1 (m + 3)) (Str.ofString "is_name") [(.ok (.fz d1))]) (cal (run B1 (m + 3)) (Str.ofString "is_tree") [(itm (.ok (.dict l)) (.ok (.fz d1)))]))
      (g' := fun m d1 => and_ (cal (run B1 (m + 3)) (Str.ofString "_law_is_name") [(.ok (.fz d1))]) (cal (run B1 (m + 3)) (Str.ofString "_law_is_tree") [(itm (.ok (.dict l)) (.ok (.fz d1)))])) (fun k hkm => by
        obtain ⟨s, rfl⟩ := strKeys_mem hk hkm
        obtain ⟨v, hg, hm⟩ := dGet_mem hk hkm
        obtain ⟨b1, h1, _⟩ := name_agree (.str s)
        obtain ⟨b2, h3, _⟩ := ih _ hm
        have hgi := gi_dict hk hg
        refine ⟨b1 && b2, fun m hm' => ?_⟩
        obtain ⟨x1, x2⟩ := h1 (m + 2)
        obtain ⟨x3, x4⟩ := h3 m (Nat.le_trans (depthKv_mem hm) hm')
        refine ⟨?_, ?_⟩
        · simp only [and_, cal, itm, evsS_cons, evsS_nil, P.ok_bind, clear_fz, x1, truthV_bool, dOf_fz, hgi, x3]
          cases b1 <;> rfl
        · simp only [and_, cal, itm, evsS_cons, evsS_nil, P.ok_bind, clear_fz, x2, truthV_bool, dOf_fz, hgi, x4]
          cases b1 <;> rfl)
    obtain ⟨bs, e⟩ := two
    refine ⟨bs.all id, fun n hn => ?_, fun l' e hf => by cases e; rw [hk] at hf; cases hf⟩
    have hn : PyData.depthKv l + 1 ≤ n := hn
    obtain ⟨m, rfl⟩ : ∃ m, n = m + 1 := ⟨n - 1, by omega⟩
    obtain ⟨e1, e2⟩ := e m (by omega)
    rw [eq_is_tree, eq_law_is_tree]
    refine ⟨?_, ?_⟩
    · simp only [ifS, cal, evsS_cons, evsS_nil, P.ok_bind, clear_fz, whole_run, truthV_bool, un, isi, isinst_fz, typ_dict, isDictD, isIntD, Bool.false_and, ofO_some, evUn_not, Bool.not_true, Bool.false_eq_true, if_false, lcm, plI, dOf_fz, items_dict, bl1, own] at e1 ⊢
      rw [e1, P.ok_bind, P.ok_bind, dOf_own, P.ok_bind, allB_bools]; rfl
    · simp only [ifS, cal, evsS_cons, evsS_nil, P.ok_bind, clear_fz, truthV_bool, un, isi, isinst_fz, typ_dict, isDictD, ofO_some, if_true, lcm, plI, dOf_fz, items_dict, bl1, own] at e2 ⊢
      rw [e2, P.ok_bind, P.ok_bind, dOf_own, P.ok_bind, allB_bools]; rfl
  | odd k v h =>
    obtain ⟨b, h12, h3⟩ := name_agree k
    have hb := h3 (oddKey_not h)
    subst hb
    refine ⟨false, fun n hn => ?_, fun _ _ _ => rfl⟩
    obtain ⟨h1, h2⟩ := h12 (n + 1)
    rw [eq_is_tree, eq_law_is_tree]
    refine ⟨?_, ?_⟩
    · simp only [ifS, cal, evsS_cons, evsS_nil, P.ok_bind, clear_fz, whole_run, truthV_bool, un, isi, isinst_fz, typ_dict, isDictD, isIntD, Bool.false_and, ofO_some, evUn_not, Bool.not_true, Bool.false_eq_true, if_false, lcm, plI, dOf_fz, items_dict, bl1, own, List.map_cons, List.map_nil, compG, and_, h1, if_true]
      rfl
    · simp only [ifS, cal, evsS_cons, evsS_nil, P.ok_bind, clear_fz, truthV_bool, un, isi, isinst_fz, typ_dict, isDictD, ofO_some, if_true, lcm, plI, dOf_fz, items_dict, bl1, own, List.map_cons, List.map_nil, compG, and_, h2, Bool.false_eq_true, if_false]
      rfl

/-- whether every branch is one -/
theorem branches {l : List (PyData × PyData)} (hk : strKeys l = true) : ∃ b, bl1 allB (lcm (plI (.ok (.fz (.dict l)))) (fun d2 => (.ok true)) (fun d2 => (isi (Str.ofString "dict") (itm (.ok (.dict l)) (.ok (.fz d2)))))) = .ok (.fz (.bool b)) := by
  obtain ⟨bs, e⟩ := compG_two (l := l.map (·.1)) (N := 0) (g := fun _ d2 => isi (Str.ofString "dict") (itm (.ok (.dict l)) (.ok (.fz d2)))) (g' := fun _ d2 => isi (Str.ofString "dict") (itm (.ok (.dict l)) (.ok (.fz d2)))) (fun k hkm => by
    obtain ⟨s, rfl⟩ := strKeys_mem hk hkm
    obtain ⟨v, hg, hm⟩ := dGet_mem hk hkm
    have hgi := gi_dict hk hg
    refine ⟨isDictD v, fun _ _ => ?_⟩
    have : isi (Str.ofString "dict") (itm (.ok (.dict l)) (.ok (.fz (.str s)))) = .ok (.fz (.bool (isDictD v))) := by
      simp only [isi, itm, P.ok_bind, dOf_fz, hgi, isinst_fz, typ_dict, ofO_some]
    exact ⟨this, this⟩)
  refine ⟨bs.all id, ?_⟩
  have e1 := (e 0 (Nat.le_refl _)).1
  simp only [bl1, lcm, plI, P.ok_bind, dOf_fz, items_dict, own]
  rw [e1, P.ok_bind, P.ok_bind, dOf_own, P.ok_bind, allB_bools]

theorem table_agree {d : PyData} (hd : OkD d) : ∃ b t, (∀ n, d.depth ≤ n → run B1 (n + 3) (Str.ofString "is_tree") [.fz d] = .ok (.fz (.bool b)) ∧ run B1 (n + 3) (Str.ofString "_law_is_tree") [.fz d] = .ok (.fz (.bool b)) ∧ run B1 (n + 4) (Str.ofString "is_table") [.fz d] = .ok (.fz (.bool t))) ∧
    and_ (and_ (isi (Str.ofString "dict") (.ok (.fz d))) (.ok (.fz (.bool b)))) (bl1 allB (lcm (plI (.ok (.fz d))) (fun d2 => (.ok true)) (fun d2 => (isi (Str.ofString "dict") (itm (.ok d) (.ok (.fz d2))))))) = .ok (.fz (.bool t)) := by
  obtain ⟨b, h, hodd⟩ := tree_agree hd
  cases d with
  | dict l =>
    cases hk : strKeys l with
    | true =>
      obtain ⟨q, hq⟩ := branches hk
      refine ⟨b, b && q, fun n hn => ⟨(h n hn).1, (h n hn).2, ?_⟩, ?_⟩
      · rw [eq_is_table]
        simp only [and_, cal, evsS_cons, evsS_nil, P.ok_bind, clear_fz, (h n hn).1, truthV_bool]
        cases b with
        | false => rfl
        | true =>
          simp only [if_true]
          rw [eq_all_branches, hq]
          rfl
      · simp only [and_, isi, isinst_fz, typ_dict, isDictD, P.ok_bind, ofO_some, truthV_bool, if_true]
        cases b with
        | false => rfl
        | true => simp only [if_true]; exact hq
    | false =>
      have := hodd l rfl hk
      subst this
      refine ⟨false, false, fun n hn => ⟨(h n hn).1, (h n hn).2, ?_⟩, ?_⟩
      · rw [eq_is_table]
        simp only [and_, cal, evsS_cons, evsS_nil, P.ok_bind, clear_fz, (h n hn).1, truthV_bool]
        rfl
      · simp only [and_, isi, isinst_fz, typ_dict, isDictD, P.ok_bind, ofO_some, truthV_bool, if_true]
        rfl
  | _ =>
    refine ⟨b, false, fun n hn => ⟨(h n hn).1, (h n hn).2, ?_⟩, rfl⟩
    rw [eq_is_table]
    simp only [and_, cal, evsS_cons, evsS_nil, P.ok_bind, clear_fz, (h n hn).1, truthV_bool]
    cases b with
    | false => rfl
    | true =>
      simp only [if_true]
      rw [eq_all_branches]
      rfl

end Mine

set_option maxRecDepth 100000
set_option linter.unusedVariables false
set_option linter.unusedSimpArgs false
namespace Mine
open PySem

/-- a kind of data -/
structure Cl (X : PyData → Prop) : Prop where
  atom : ∀ d, isDictD d = false → X d
  dict : ∀ l, strKeys l = true → l.length < 64 → (∀ p ∈ l, X p.2) → X (.dict l)
theorem cl_ok : Cl OkD := ⟨fun d h => .atom d h, fun l h _ h' => .dict l h h'⟩
inductive Tr : PyData → Prop where
  | atom (d : PyData) : isDictD d = false → Tr d
  | dict (l : List (PyData × PyData)) : strKeys l = true → l.length < 64 → (∀ p ∈ l, Tr p.2) → Tr (.dict l)
theorem cl_tr : Cl Tr := ⟨.atom, .dict⟩
theorem Tr.ok {d : PyData} (h : Tr d) : OkD d := by
  induction h with
  | atom d h => exact .atom d h
  | dict l h _ _ ih => exact .dict l h ih

section
variable {X : PyData → Prop}
noncomputable def SLow (s : Str) : Prop := ∀ c ∈ s.cps.toList, c < 16 ^ 8
/-- a text that may be a key -/
structure SOk (s : Str) : Prop where
  len : s.cps.size ≤ 40
  low : SLow s

theorem sok_nm (c k : Int) : SOk ⟨(nm c k).toArray⟩ := ⟨by
  have := nm_len c k
  simp; omega, fun x hx => by
  have := nm_small c k x (by simpa using hx)
  omega⟩

/-- data that are shown -/
structure Gd (X : PyData → Prop) (h w : Nat) (d : PyData) : Prop where
  ok : X d
  sh : d.showable = true
  lv : d.leavesShort 40 = true
  dp : d.depth ≤ h
  bk : d.bulk ≤ w

theorem Gd.to {Z : PyData → Prop} {h w : Nat} {d : PyData} (g : Gd X h w d) (hz : Z d) : Gd Z h w d := ⟨hz, g.sh, g.lv, g.dp, g.bk⟩
theorem Gd.mono {h w h' w' : Nat} {d : PyData} (g : Gd X h w d) (hh : h ≤ h') (hw : w ≤ w') : Gd X h' w' d := ⟨g.ok, g.sh, g.lv, Nat.le_trans g.dp hh, Nat.le_trans g.bk hw⟩

/-- an entry -/
structure En (X : PyData → Prop) (h : Nat) (p : PyData × PyData) : Prop where
  key : ∃ s, p.1 = .str s ∧ SLow s
  ok : X p.2
  sh : p.2.showable = true
  lv : p.2.leavesShort 40 = true
  dp : p.2.depth ≤ h

theorem leaf_str {s : Str} (h : SLow s) : PyData.leavesShort 40 (.str s) = true := by
  show (s.cps.toList.all fun c => decide (c < 16 ^ 8)) = true
  rw [List.all_eq_true]
  intro c hc
  simpa using h c hc

theorem gd_str (C : Cl X) {s : Str} (h : SOk s) : Gd X 0 40 (.str s) := ⟨C.atom _ rfl, rfl, leaf_str h.low, Nat.le_refl _, h.len⟩

theorem en_kv : ∀ {h : Nat} {l : List (PyData × PyData)}, (∀ p ∈ l, En X h p) → strKeys l = true ∧ PyData.showableKv l = true ∧ PyData.leavesShortKv 40 l = true ∧ PyData.depthKv l ≤ h
  | h, [], _ => ⟨rfl, rfl, rfl, Nat.zero_le _⟩
  | h, (k, v) :: r, e => by
    obtain ⟨i1, i2, i3, i4⟩ := en_kv fun p hp => e p (List.mem_cons_of_mem _ hp)
    have g := e (k, v) (by simp)
    obtain ⟨s, hs, hk⟩ := g.key
    have hs : k = .str s := hs
    subst hs
    refine ⟨i1, ?_, ?_, ?_⟩
    · show (true && v.showable && PyData.showableKv r) = true
      rw [show v.showable = true from g.sh, i2]; rfl
    · show (PyData.leavesShort 40 (.str s) && v.leavesShort 40 && PyData.leavesShortKv 40 r) = true
      rw [leaf_str hk, show v.leavesShort 40 = true from g.lv, i3]; rfl
    · show max (max 0 v.depth) (PyData.depthKv r) ≤ h
      have : v.depth ≤ h := g.dp
      omega

structure GdL (X : PyData → Prop) (h w : Nat) (l : List (PyData × PyData)) : Prop where
  en : ∀ p ∈ l, En X h p
  bk : PyData.bulkKv l ≤ w

theorem GdL.keys {h w : Nat} {l : List (PyData × PyData)} (g : GdL X h w l) : strKeys l = true := (en_kv g.en).1
theorem GdL.dict (C : Cl X) {h w : Nat} {l : List (PyData × PyData)} (g : GdL X h w l) (hl : l.length < 64) : Gd X (h + 1) w (.dict l) := by
  obtain ⟨i1, i2, i3, i4⟩ := en_kv g.en
  exact ⟨C.dict l i1 hl fun p hp => (g.en p hp).ok, i2, i3, Nat.succ_le_succ i4, g.bk⟩
theorem GdL.mono {h w h' w' : Nat} {l : List (PyData × PyData)} (g : GdL X h w l) (hh : h ≤ h') (hw : w ≤ w') : GdL X h' w' l :=
  ⟨fun p hp => let e := g.en p hp; ⟨e.key, e.ok, e.sh, e.lv, Nat.le_trans e.dp hh⟩, Nat.le_trans g.bk hw⟩
theorem GdL.nil (h w : Nat) : GdL X h w [] := ⟨by simp, Nat.zero_le _⟩

theorem dSet_mem : ∀ {l : List (PyData × PyData)} {s : Str} {v : PyData} {p : PyData × PyData}, p ∈ dSet l s v → p ∈ l ∨ p = (.str s, v)
  | [], s, v, p, h => .inr (by simpa [dSet] using h)
  | (k, u) :: r, s, v, p, h => by
    cases k with
    | str y =>
      have h : p ∈ (if s = y then (PyData.str y, v) :: r else (.str y, u) :: dSet r s v) := h
      split at h
      · rename_i e; subst e
        rcases List.mem_cons.mp h with h | h
        · exact .inr h
        · exact .inl (List.mem_cons_of_mem _ h)
      · rcases List.mem_cons.mp h with h | h
        · exact .inl (by rw [h]; simp)
        · exact (dSet_mem h).imp (List.mem_cons_of_mem _) id
    | _ =>
      rcases List.mem_cons.mp (show p ∈ _ :: dSet r s v from h) with h | h
      · exact .inl (by rw [h]; simp)
      · exact (dSet_mem h).imp (List.mem_cons_of_mem _) id
theorem dSet_bulk : ∀ (l : List (PyData × PyData)) (s : Str) (v : PyData), PyData.bulkKv (dSet l s v) ≤ PyData.bulkKv l + s.cps.size + v.bulk + 2
  | [], s, v => by show s.cps.size + v.bulk + 2 + 0 ≤ 0 + s.cps.size + v.bulk + 2; omega
  | (k, u) :: r, s, v => by
    have ih := dSet_bulk r s v
    cases k with
    | str y =>
      show PyData.bulkKv (if s = y then (PyData.str y, v) :: r else (.str y, u) :: dSet r s v) ≤ y.cps.size + u.bulk + 2 + PyData.bulkKv r + s.cps.size + v.bulk + 2
      split
      · show y.cps.size + v.bulk + 2 + PyData.bulkKv r ≤ _; omega
      · show y.cps.size + u.bulk + 2 + PyData.bulkKv (dSet r s v) ≤ _; omega
    | none => show PyData.bulk _ + u.bulk + 2 + PyData.bulkKv (dSet r s v) ≤ PyData.bulk _ + u.bulk + 2 + PyData.bulkKv r + s.cps.size + v.bulk + 2; omega
    | bool b => show PyData.bulk _ + u.bulk + 2 + PyData.bulkKv (dSet r s v) ≤ PyData.bulk _ + u.bulk + 2 + PyData.bulkKv r + s.cps.size + v.bulk + 2; omega
    | int b => show PyData.bulk _ + u.bulk + 2 + PyData.bulkKv (dSet r s v) ≤ PyData.bulk _ + u.bulk + 2 + PyData.bulkKv r + s.cps.size + v.bulk + 2; omega
    | list b => show PyData.bulk _ + u.bulk + 2 + PyData.bulkKv (dSet r s v) ≤ PyData.bulk _ + u.bulk + 2 + PyData.bulkKv r + s.cps.size + v.bulk + 2; omega
    | tuple b => show PyData.bulk _ + u.bulk + 2 + PyData.bulkKv (dSet r s v) ≤ PyData.bulk _ + u.bulk + 2 + PyData.bulkKv r + s.cps.size + v.bulk + 2; omega
    | dict b => show PyData.bulk _ + u.bulk + 2 + PyData.bulkKv (dSet r s v) ≤ PyData.bulk _ + u.bulk + 2 + PyData.bulkKv r + s.cps.size + v.bulk + 2; omega
theorem dSet_length : ∀ (l : List (PyData × PyData)) (s : Str) (v : PyData), (dSet l s v).length ≤ l.length + 1
  | [], s, v => by simp [dSet]
  | (k, u) :: r, s, v => by
    have ih := dSet_length r s v
    cases k with
    | str y =>
      show (if s = y then (PyData.str y, v) :: r else (.str y, u) :: dSet r s v).length ≤ _
      split
      · simp
      · simp; omega
    | _ =>
      show (_ :: dSet r s v).length ≤ _
      simp; omega
theorem GdL.set {h w wv : Nat} {l : List (PyData × PyData)} {s : Str} {v : PyData} (g : GdL X h w l) (hs : SOk s) (hv : Gd X h wv v) : GdL X h (w + wv + 42) (dSet l s v) where
  en := fun p hp => by
    rcases dSet_mem hp with hp | rfl
    · exact g.en p hp
    · exact ⟨⟨s, rfl, hs.low⟩, hv.ok, hv.sh, hv.lv, hv.dp⟩
  bk := by
    have := dSet_bulk l s v
    have := g.bk; have := hv.bk; have := hs.len
    omega
theorem GdL.setK {h w wv : Nat} {l : List (PyData × PyData)} {s : Str} {v : PyData} (g : GdL X h w l) (hs : SLow s) (hv : Gd X h wv v) : GdL X h (w + wv + s.cps.size + 2) (dSet l s v) where
  en := fun p hp => by
    rcases dSet_mem hp with hp | rfl
    · exact g.en p hp
    · exact ⟨⟨s, rfl, hs⟩, hv.ok, hv.sh, hv.lv, hv.dp⟩
  bk := by
    have := dSet_bulk l s v
    have := g.bk; have := hv.bk
    omega
theorem low_of {s : Str} (h : PyData.leavesShort 40 (.str s) = true) : SLow s := by
  have h : (s.cps.toList.all fun c => decide (c < 16 ^ 8)) = true := h
  rw [List.all_eq_true] at h
  intro c hc
  simpa using h c hc
theorem en_of : ∀ {h : Nat} {l : List (PyData × PyData)}, strKeys l = true → PyData.showableKv l = true → PyData.leavesShortKv 40 l = true → PyData.depthKv l ≤ h → (∀ p ∈ l, X p.2) → ∀ p ∈ l, En X h p
  | h, (k, v) :: r, h1, h2, h3, h4, h5, p, hp => by
    cases k with
    | str y =>
      have h2 : (true && v.showable && PyData.showableKv r) = true := h2
      have h3 : (PyData.leavesShort 40 (.str y) && v.leavesShort 40 && PyData.leavesShortKv 40 r) = true := h3
      have h4 : max (max 0 v.depth) (PyData.depthKv r) ≤ h := h4
      simp only [Bool.and_eq_true] at h2 h3
      rcases List.mem_cons.mp hp with rfl | hp
      · exact ⟨⟨y, rfl, low_of h3.1.1⟩, h5 _ (by simp), h2.1.2, h3.1.2, by show v.depth ≤ h; omega⟩
      · exact en_of (l := r) h1 h2.2 h3.2 (by omega) (fun q hq => h5 q (List.mem_cons_of_mem _ hq)) p hp
    | _ => cases h1
theorem Gd.entries {h w : Nat} {l : List (PyData × PyData)} (g : Gd X (h + 1) w (.dict l)) (hk : strKeys l = true) (hv : ∀ p ∈ l, X p.2) : GdL X h w l :=
  ⟨en_of hk g.sh g.lv (by have : PyData.depthKv l + 1 ≤ h + 1 := g.dp; omega) hv, g.bk⟩
theorem dDel_mem : ∀ {l : List (PyData × PyData)} {s : Str} {p : PyData × PyData}, p ∈ dDel l s → p ∈ l
  | (k, u) :: r, s, p, h => by
    cases k with
    | str y =>
      have h : p ∈ (if s = y then r else (PyData.str y, u) :: dDel r s) := h
      split at h
      · exact List.mem_cons_of_mem _ h
      · rcases List.mem_cons.mp h with h | h
        · rw [h]; simp
        · exact List.mem_cons_of_mem _ (dDel_mem h)
    | _ =>
      rcases List.mem_cons.mp (show p ∈ _ :: dDel r s from h) with h | h
      · rw [h]; simp
      · exact List.mem_cons_of_mem _ (dDel_mem h)
theorem dDel_bulk : ∀ (l : List (PyData × PyData)) (s : Str), strKeys l = true → PyData.bulkKv (dDel l s) ≤ PyData.bulkKv l
  | [], s, _ => Nat.le_refl _
  | (k, u) :: r, s, hk => by
    cases k with
    | str y =>
      have ih := dDel_bulk r s hk
      show PyData.bulkKv (if s = y then r else (PyData.str y, u) :: dDel r s) ≤ y.cps.size + u.bulk + 2 + PyData.bulkKv r
      split
      · omega
      · show y.cps.size + u.bulk + 2 + PyData.bulkKv (dDel r s) ≤ _; omega
    | _ => cases hk
theorem GdL.del {h w : Nat} {l : List (PyData × PyData)} (g : GdL X h w l) (s : Str) : GdL X h w (dDel l s) :=
  ⟨fun p hp => g.en p (dDel_mem hp), Nat.le_trans (dDel_bulk l s g.keys) g.bk⟩
theorem GdL.get {h w : Nat} {l : List (PyData × PyData)} (g : GdL X h w l) {p : PyData × PyData} (hp : p ∈ l) : Gd X h w p.2 := by
  have e := g.en p hp
  refine ⟨e.ok, e.sh, e.lv, e.dp, Nat.le_trans ?_ g.bk⟩
  clear g e
  induction l with
  | nil => cases hp
  | cons q r ih =>
    obtain ⟨a, b⟩ := q
    show _ ≤ a.bulk + b.bulk + 2 + PyData.bulkKv r
    rcases List.mem_cons.mp hp with h | h
    · subst h; show b.bulk ≤ _; omega
    · have := ih h; omega

/-- small numbers -/
theorem digits_le {i : Int} (h : i.natAbs ≤ 10 ^ 30) : PyData.leavesShort 40 (.int i) = true ∧ PyData.showable (.int i) = true := by
  constructor
  · simp only [PyData.leavesShort, decide_eq_true_eq]
    show (Str.ofString (toString i)).length ≤ 40
    rw [PySem.ofString_length]
    exact Nat.le_trans (PySem.int_text_length_le10 (k := 31) (by decide) (by omega)) (by decide)
  · simp only [PyData.showable, decide_eq_true_eq]
    by_cases hz : i.natAbs = 0
    · rw [hz]; decide
    · exact Nat.lt_of_lt_of_le ((Nat.log2_lt hz).2 (Nat.lt_of_le_of_lt h (by decide : 10 ^ 30 < 2 ^ 100))) (by decide)
theorem gd_int (C : Cl X) {i : Int} (h : i.natAbs ≤ 10 ^ 30) : Gd X 0 0 (.int i) := ⟨C.atom _ rfl, (digits_le h).2, (digits_le h).1, Nat.le_refl _, Nat.le_refl _⟩

/-- the names -/
structure Names (ns : List PyData) (N : Nat → Str) : Prop where
  len : ns.length = 14
  get : ∀ i, i < 14 → ns[i]? = some (.str (N i))
  ok : ∀ i, SOk (N i)

theorem Names.item {ns : List PyData} {N : Nat → Str} (h : Names ns N) {k : Int} (h0 : 0 ≤ k) (h1 : k < 14) : getItem (.list ns) (.int k) = .ok (.fz (.str (N k.toNat))) := by
  obtain ⟨d, _, h2, h3⟩ := gi_list ns h0 (by rw [h.len]; omega)
  rw [h.get _ (by omega)] at h2
  cases h2
  exact h3

noncomputable def FOk (fs : List PyData) : Prop := ∀ x ∈ fs, ∃ s, x = .str s ∧ SOk s
theorem Names.fok {ns : List PyData} {N : Nat → Str} (h : Names ns N) (lo hi : Option Int) : FOk (slice ns lo hi) := fun x hx => by
  have hx : x ∈ ns := List.mem_of_mem_drop (List.mem_of_mem_take hx)
  obtain ⟨i, hi⟩ := List.mem_iff_getElem?.mp hx
  have hlt : i < 14 := by rw [← h.len]; exact (List.getElem?_eq_some_iff.mp hi).1
  rw [h.get i hlt] at hi
  cases hi
  exact ⟨_, rfl, h.ok i⟩

theorem setItem_dict {h w : Nat} {l : List (PyData × PyData)} (g : GdL X h w l) (hl : l.length < strN) (s : Str) (v : PyData) : setItem (.dict l) (.str s) v = .ok (.dict (dSet l s v)) := by
  show (if strKeys l && decide (l.length < strN) then P.ok (PyData.dict (dSet l s v)) else .no) = _
  rw [g.keys]
  simp [hl]

theorem disp1 (s : Str) (v : PyData) : evDisp [(.str s, v)] = .ok (.own (.dict [(.str s, v)])) := rfl

end
end Mine

set_option maxRecDepth 100000
set_option linter.unusedVariables false
set_option linter.unusedSimpArgs false
namespace Mine
open PySem

theorem forC_cons (b : Store → (Store → P V) → (V → P V) → P V) (t : Expr) (d : PyData) (r : List PyData) (σ : Store) (kn : Store → P V) (kr : V → P V) : forC b t (d :: r) σ kn kr = (assignT t d σ).bind fun σ => b σ (fun σ => forC b t r σ kn kr) kr := rfl
theorem forC_nil (b : Store → (Store → P V) → (V → P V) → P V) (t : Expr) (σ : Store) (kn : Store → P V) (kr : V → P V) : forC b t [] σ kn kr = kn σ := rfl

section
variable {X : PyData → Prop}

theorem inner_loop (C : Cl X) (n : Nat) (s : List Int) {k j : Int} (hk : 0 ≤ k) (hj : 0 ≤ j) {ns : List PyData} {N : Nat → Str} (hN : Names ns N) (a4 fo : PyData) (kn : Store → P V) (kr : V → P V) : ∀ (fs : List PyData) (i : Int) (r : List (PyData × PyData)) (w : Nat) (o2 o3 o4 : Option V), FOk fs → 0 ≤ i → GdL X 1 w r → r.length + fs.length ≤ 1000 →
    ∃ r' o2' o3' o4', forC (b_law_table_2 (n + 2)) t_law_table_2 (enumFrom i fs) (S_law_table (some (.fz (Li s))) (some (.fz (.int k))) (some (.fz (.list ns))) (some (.fz a4)) (some (.own fo)) (some (.fz (.int j))) (some (.own (.dict r))) o2 o3 o4) kn kr =
      kn (S_law_table (some (.fz (Li s))) (some (.fz (.int k))) (some (.fz (.list ns))) (some (.fz a4)) (some (.own fo)) (some (.fz (.int j))) (some (.own (.dict r'))) o2' o3' o4') ∧ GdL X 1 (w + 84 * fs.length) r' ∧ r'.length ≤ r.length + fs.length
  | [], i, r, w, o2, o3, o4, _, _, g, _ => ⟨r, o2, o3, o4, rfl, g.mono (Nat.le_refl _) (by simp), by simp⟩
  | x :: fs, i, r, w, o2, o3, o4, hf, hi, g, hl => by
    obtain ⟨f, rfl, hfk⟩ := hf x (by simp)
    have hf' : FOk fs := fun y hy => hf y (List.mem_cons_of_mem _ hy)
    have hl' : r.length + (fs.length + 1) ≤ 1000 := by simpa using hl
    have hsz : strN = 16777216 := rfl
    show ∃ r' o2' o3' o4', forC (b_law_table_2 (n + 2)) t_law_table_2 (.tuple [.int i, .str f] :: enumFrom (i + 1) fs) _ kn kr = _ ∧ _
    simp only [forC_cons, ea_law_table_2, P.ok_bind, eb_law_table_2]
    have hm := r_mixed n s (k := k + 10 * j + i + 1) (by omega)
    simp (decide := true) only [bin, un, ifx, cmp1, cmp2, and_, or_, lstS, tupS, dicS, prsS, itm, slc, cal, bl1, isi, mnm, mtd, lcm, plI, rg1, rg2, enm, set_, mut_, ifS, own, fz, P.ok_bind, dOf_fz, dOf_own, truthV_bool, rdN_fz, rcv_fz, rcv_own, retN_fz, retN_own, gown_own, clear_fz, clear_own, evsS_nil, evsS_cons, dsOf_nil, dsOf_fz, fzb_ok, evUn_not, evUn_neg, bo_add, bo_sub, bo_mul_r, bo_mul_l, bo_div, bo_mod, bo_pow, cmp_lt, cmp_le, cmp_gt, cmp_ge, cmp_eq, cmp_ne, cmp_is, cmp_isnot, cmp_in, cmp_notin, isSame_bool, notP_ok, ofO_some, eqO_int, eqO_str, isinst_fz, isinst_own, typ_str, typ_dict, typ_int, typ_bool, contains_str, optInt_none, optInt_int, getSlice_list, getSlice_str, items_list, items_dict, items_str, lenD, isStrD, isDictD, isIntD, isBoolD, if_true, if_false, Bool.not_true, Bool.not_false, Bool.false_eq_true]
    rw [hm]
    simp (decide := true) only [bin, un, ifx, cmp1, cmp2, and_, or_, lstS, tupS, dicS, prsS, itm, slc, cal, bl1, isi, mnm, mtd, lcm, plI, rg1, rg2, enm, set_, mut_, ifS, own, fz, P.ok_bind, dOf_fz, dOf_own, truthV_bool, rdN_fz, rcv_fz, rcv_own, retN_fz, retN_own, gown_own, clear_fz, clear_own, evsS_nil, evsS_cons, dsOf_nil, dsOf_fz, fzb_ok, evUn_not, evUn_neg, bo_add, bo_sub, bo_mul_r, bo_mul_l, bo_div, bo_mod, bo_pow, cmp_lt, cmp_le, cmp_gt, cmp_ge, cmp_eq, cmp_ne, cmp_is, cmp_isnot, cmp_in, cmp_notin, isSame_bool, notP_ok, ofO_some, eqO_int, eqO_str, isinst_fz, isinst_own, typ_str, typ_dict, typ_int, typ_bool, contains_str, optInt_none, optInt_int, getSlice_list, getSlice_str, items_list, items_dict, items_str, lenD, isStrD, isDictD, isIntD, isBoolD, if_true, if_false, Bool.not_true, Bool.not_false, Bool.false_eq_true]
    generalize mixed s (k + 10 * j + i + 1) = c
    have ih := inner_loop C n s hk hj hN a4 fo kn kr fs (i + 1)
    by_cases h1 : 0 < c.fmod 4
    · simp only [h1, decide_true, if_true]
      obtain ⟨z, hz, hb⟩ := r_number (n + 1) (c.fdiv 4)
      rw [hz]
      simp (decide := true) only [bin, un, ifx, cmp1, cmp2, and_, or_, lstS, tupS, dicS, prsS, itm, slc, cal, bl1, isi, mnm, mtd, lcm, plI, rg1, rg2, enm, set_, mut_, ifS, own, fz, P.ok_bind, dOf_fz, dOf_own, truthV_bool, rdN_fz, rcv_fz, rcv_own, retN_fz, retN_own, gown_own, clear_fz, clear_own, evsS_nil, evsS_cons, dsOf_nil, dsOf_fz, fzb_ok, evUn_not, evUn_neg, bo_add, bo_sub, bo_mul_r, bo_mul_l, bo_div, bo_mod, bo_pow, cmp_lt, cmp_le, cmp_gt, cmp_ge, cmp_eq, cmp_ne, cmp_is, cmp_isnot, cmp_in, cmp_notin, isSame_bool, notP_ok, ofO_some, eqO_int, eqO_str, isinst_fz, isinst_own, typ_str, typ_dict, typ_int, typ_bool, contains_str, optInt_none, optInt_int, getSlice_list, getSlice_str, items_list, items_dict, items_str, lenD, isStrD, isDictD, isIntD, isBoolD, if_true, if_false, Bool.not_true, Bool.not_false, Bool.false_eq_true]
      rw [setItem_dict g (by omega)]
      simp (decide := true) only [bin, un, ifx, cmp1, cmp2, and_, or_, lstS, tupS, dicS, prsS, itm, slc, cal, bl1, isi, mnm, mtd, lcm, plI, rg1, rg2, enm, set_, mut_, ifS, own, fz, P.ok_bind, dOf_fz, dOf_own, truthV_bool, rdN_fz, rcv_fz, rcv_own, retN_fz, retN_own, gown_own, clear_fz, clear_own, evsS_nil, evsS_cons, dsOf_nil, dsOf_fz, fzb_ok, evUn_not, evUn_neg, bo_add, bo_sub, bo_mul_r, bo_mul_l, bo_div, bo_mod, bo_pow, cmp_lt, cmp_le, cmp_gt, cmp_ge, cmp_eq, cmp_ne, cmp_is, cmp_isnot, cmp_in, cmp_notin, isSame_bool, notP_ok, ofO_some, eqO_int, eqO_str, isinst_fz, isinst_own, typ_str, typ_dict, typ_int, typ_bool, contains_str, optInt_none, optInt_int, getSlice_list, getSlice_str, items_list, items_dict, items_str, lenD, isStrD, isDictD, isIntD, isBoolD, if_true, if_false, Bool.not_true, Bool.not_false, Bool.false_eq_true]
      obtain ⟨r', p2, p3, p4, e1, e2, e3⟩ := ih (dSet r f (.int z)) (w + 84) (some (.fz (.int i))) (some (.fz (.str f))) (some (.fz (.int c))) hf' (by omega) ((g.set hfk ((gd_int C hb).mono (Nat.zero_le 1) (Nat.zero_le 42))).mono (Nat.le_refl _) (by omega)) (by have := dSet_length r f (.int z); omega)
      refine ⟨r', p2, p3, p4, e1, e2.mono (Nat.le_refl _) (by simp; omega), ?_⟩
      have := dSet_length r f (.int z); simp; omega
    · simp only [h1, decide_false, Bool.false_eq_true, if_false]
      by_cases h2 : c.fmod 12 = 0
      · simp only [h2, beq_self_eq_true, if_true]
        rw [hN.item (by decide) (by decide)]
        simp (decide := true) only [bin, un, ifx, cmp1, cmp2, and_, or_, lstS, tupS, dicS, prsS, itm, slc, cal, bl1, isi, mnm, mtd, lcm, plI, rg1, rg2, enm, set_, mut_, ifS, own, fz, P.ok_bind, dOf_fz, dOf_own, truthV_bool, rdN_fz, rcv_fz, rcv_own, retN_fz, retN_own, gown_own, clear_fz, clear_own, evsS_nil, evsS_cons, dsOf_nil, dsOf_fz, fzb_ok, evUn_not, evUn_neg, bo_add, bo_sub, bo_mul_r, bo_mul_l, bo_div, bo_mod, bo_pow, cmp_lt, cmp_le, cmp_gt, cmp_ge, cmp_eq, cmp_ne, cmp_is, cmp_isnot, cmp_in, cmp_notin, isSame_bool, notP_ok, ofO_some, eqO_int, eqO_str, isinst_fz, isinst_own, typ_str, typ_dict, typ_int, typ_bool, contains_str, optInt_none, optInt_int, getSlice_list, getSlice_str, items_list, items_dict, items_str, lenD, isStrD, isDictD, isIntD, isBoolD, if_true, if_false, Bool.not_true, Bool.not_false, Bool.false_eq_true]
        rw [disp1]
        simp (decide := true) only [bin, un, ifx, cmp1, cmp2, and_, or_, lstS, tupS, dicS, prsS, itm, slc, cal, bl1, isi, mnm, mtd, lcm, plI, rg1, rg2, enm, set_, mut_, ifS, own, fz, P.ok_bind, dOf_fz, dOf_own, truthV_bool, rdN_fz, rcv_fz, rcv_own, retN_fz, retN_own, gown_own, clear_fz, clear_own, evsS_nil, evsS_cons, dsOf_nil, dsOf_fz, fzb_ok, evUn_not, evUn_neg, bo_add, bo_sub, bo_mul_r, bo_mul_l, bo_div, bo_mod, bo_pow, cmp_lt, cmp_le, cmp_gt, cmp_ge, cmp_eq, cmp_ne, cmp_is, cmp_isnot, cmp_in, cmp_notin, isSame_bool, notP_ok, ofO_some, eqO_int, eqO_str, isinst_fz, isinst_own, typ_str, typ_dict, typ_int, typ_bool, contains_str, optInt_none, optInt_int, getSlice_list, getSlice_str, items_list, items_dict, items_str, lenD, isStrD, isDictD, isIntD, isBoolD, if_true, if_false, Bool.not_true, Bool.not_false, Bool.false_eq_true]
        rw [setItem_dict g (by omega)]
        simp (decide := true) only [bin, un, ifx, cmp1, cmp2, and_, or_, lstS, tupS, dicS, prsS, itm, slc, cal, bl1, isi, mnm, mtd, lcm, plI, rg1, rg2, enm, set_, mut_, ifS, own, fz, P.ok_bind, dOf_fz, dOf_own, truthV_bool, rdN_fz, rcv_fz, rcv_own, retN_fz, retN_own, gown_own, clear_fz, clear_own, evsS_nil, evsS_cons, dsOf_nil, dsOf_fz, fzb_ok, evUn_not, evUn_neg, bo_add, bo_sub, bo_mul_r, bo_mul_l, bo_div, bo_mod, bo_pow, cmp_lt, cmp_le, cmp_gt, cmp_ge, cmp_eq, cmp_ne, cmp_is, cmp_isnot, cmp_in, cmp_notin, isSame_bool, notP_ok, ofO_some, eqO_int, eqO_str, isinst_fz, isinst_own, typ_str, typ_dict, typ_int, typ_bool, contains_str, optInt_none, optInt_int, getSlice_list, getSlice_str, items_list, items_dict, items_str, lenD, isStrD, isDictD, isIntD, isBoolD, if_true, if_false, Bool.not_true, Bool.not_false, Bool.false_eq_true]
        have q := fmod_rng (c.fdiv 12) (n := 5) (by decide)
        have gv : Gd X 1 42 (.dict [(.str (N (0 : Int).toNat), .int ((c.fdiv 12).fmod 5))]) := by
          have := ((GdL.nil 0 0).set (hN.ok (0 : Int).toNat) (gd_int C (i := (c.fdiv 12).fmod 5) (by omega))).dict C (by simp [dSet])
          exact this
        obtain ⟨r', p2, p3, p4, e1, e2, e3⟩ := ih (dSet r f (.dict [(.str (N (0 : Int).toNat), .int ((c.fdiv 12).fmod 5))])) (w + 84) (some (.fz (.int i))) (some (.fz (.str f))) (some (.fz (.int c))) hf' (by omega) ((g.set hfk gv).mono (Nat.le_refl _) (by omega)) (by have := dSet_length r f (.dict [(.str (N (0 : Int).toNat), .int ((c.fdiv 12).fmod 5))]); omega)
        refine ⟨r', p2, p3, p4, e1, e2.mono (Nat.le_refl _) (by simp; omega), ?_⟩
        have := dSet_length r f (.dict [(.str (N (0 : Int).toNat), .int ((c.fdiv 12).fmod 5))]); simp; omega
      · have e2 : (c.fmod 12 == 0) = false := beq_eq_false_iff_ne.mpr h2
        simp only [e2, Bool.false_eq_true, if_false]
        obtain ⟨r', p2, p3, p4, e1, e2, e3⟩ := ih r (w + 84) (some (.fz (.int i))) (some (.fz (.str f))) (some (.fz (.int c))) hf' (by omega) (g.mono (Nat.le_refl _) (by omega)) (by omega)
        exact ⟨r', p2, p3, p4, e1, e2.mono (Nat.le_refl _) (by simp; omega), by simp; omega⟩

theorem outer_loop (C : Cl X) (n : Nat) (s : List Int) {k : Int} (hk : 0 ≤ k) {ns : List PyData} {N : Nat → Str} (hN : Names ns N) {fs : List PyData} (hf : FOk fs) (hfl : fs.length ≤ 50) (kn : Store → P V) (kr : V → P V) : ∀ (js : List Int) (l : List (PyData × PyData)) (w : Nat) (o0 o1 o2 o3 o4 : Option V), (∀ j ∈ js, 0 ≤ j ∧ j < 5) → GdL X 2 w l → l.length + js.length ≤ 1000 →
    ∃ l' o0' o1' o2' o3' o4', forC (b_law_table_1 (n + 2)) t_law_table_1 (js.map PyData.int) (S_law_table (some (.fz (Li s))) (some (.fz (.int k))) (some (.fz (.list ns))) (some (.fz (.list fs))) (some (.own (.dict l))) o0 o1 o2 o3 o4) kn kr =
      kn (S_law_table (some (.fz (Li s))) (some (.fz (.int k))) (some (.fz (.list ns))) (some (.fz (.list fs))) (some (.own (.dict l'))) o0' o1' o2' o3' o4') ∧ GdL X 2 (w + (84 * fs.length + 42) * js.length) l' ∧ l'.length ≤ l.length + js.length
  | [], l, w, o0, o1, o2, o3, o4, _, g, _ => ⟨l, o0, o1, o2, o3, o4, rfl, g.mono (Nat.le_refl _) (by simp), by simp⟩
  | j :: js, l, w, o0, o1, o2, o3, o4, hj, g, hl => by
    obtain ⟨j0, j5⟩ := hj j (by simp)
    have hj' : ∀ j ∈ js, 0 ≤ j ∧ j < 5 := fun y hy => hj y (List.mem_cons_of_mem _ hy)
    have hl' : l.length + (js.length + 1) ≤ 1000 := by simpa using hl
    have hsz : strN = 16777216 := rfl
    have hmul : (84 * fs.length + 42) * (j :: js).length = (84 * fs.length + 42) + (84 * fs.length + 42) * js.length := by rw [List.length_cons, Nat.mul_succ]; omega
    simp only [List.map_cons, forC_cons, ea_law_table_1, P.ok_bind, eb_law_table_1]
    have hm := r_mixed n s (k := k + 10 * j) (by omega)
    simp (decide := true) only [bin, un, ifx, cmp1, cmp2, and_, or_, lstS, tupS, dicS, prsS, itm, slc, cal, bl1, isi, mnm, mtd, lcm, plI, rg1, rg2, enm, set_, mut_, ifS, own, fz, P.ok_bind, dOf_fz, dOf_own, truthV_bool, rdN_fz, rcv_fz, rcv_own, retN_fz, retN_own, gown_own, clear_fz, clear_own, evsS_nil, evsS_cons, dsOf_nil, dsOf_fz, fzb_ok, evUn_not, evUn_neg, bo_add, bo_sub, bo_mul_r, bo_mul_l, bo_div, bo_mod, bo_pow, cmp_lt, cmp_le, cmp_gt, cmp_ge, cmp_eq, cmp_ne, cmp_is, cmp_isnot, cmp_in, cmp_notin, isSame_bool, notP_ok, ofO_some, eqO_int, eqO_str, isinst_fz, isinst_own, typ_str, typ_dict, typ_int, typ_bool, contains_str, optInt_none, optInt_int, getSlice_list, getSlice_str, items_list, items_dict, items_str, lenD, isStrD, isDictD, isIntD, isBoolD, if_true, if_false, Bool.not_true, Bool.not_false, Bool.false_eq_true]
    rw [hm]
    simp (decide := true) only [bin, un, ifx, cmp1, cmp2, and_, or_, lstS, tupS, dicS, prsS, itm, slc, cal, bl1, isi, mnm, mtd, lcm, plI, rg1, rg2, enm, set_, mut_, ifS, own, fz, P.ok_bind, dOf_fz, dOf_own, truthV_bool, rdN_fz, rcv_fz, rcv_own, retN_fz, retN_own, gown_own, clear_fz, clear_own, evsS_nil, evsS_cons, dsOf_nil, dsOf_fz, fzb_ok, evUn_not, evUn_neg, bo_add, bo_sub, bo_mul_r, bo_mul_l, bo_div, bo_mod, bo_pow, cmp_lt, cmp_le, cmp_gt, cmp_ge, cmp_eq, cmp_ne, cmp_is, cmp_isnot, cmp_in, cmp_notin, isSame_bool, notP_ok, ofO_some, eqO_int, eqO_str, isinst_fz, isinst_own, typ_str, typ_dict, typ_int, typ_bool, contains_str, optInt_none, optInt_int, getSlice_list, getSlice_str, items_list, items_dict, items_str, lenD, isStrD, isDictD, isIntD, isBoolD, if_true, if_false, Bool.not_true, Bool.not_false, Bool.false_eq_true]
    have ih := outer_loop C n s hk hN hf hfl kn kr js
    by_cases h1 : 0 < (mixed s (k + 10 * j)).fmod 3
    · simp only [h1, decide_true, if_true]
      obtain ⟨r', p2, p3, p4, e1, e2, e3⟩ := inner_loop C n s hk j0 hN (.list fs) (.dict l) (fun σ => r_law_table_2 (n + 2) σ (fun σ => blkC (evC astF (ctxOf B1 (n + 2)) (scOf B1 (Str.ofString "_law_table")) 23) (List.drop 1 (forB (List.drop 1 (bodyOf B1 (Str.ofString "_law_table"))))) σ (fun σ => forC (b_law_table_1 (n + 2)) t_law_table_1 (js.map PyData.int) σ kn kr) kr) kr) kr fs 0 [] 0 o2 o3 o4 hf (by decide) (GdL.nil 1 0) (by simp; omega)
      rw [e1, er_law_table_2]
      simp (decide := true) only [bin, un, ifx, cmp1, cmp2, and_, or_, lstS, tupS, dicS, prsS, itm, slc, cal, bl1, isi, mnm, mtd, lcm, plI, rg1, rg2, enm, set_, mut_, ifS, own, fz, P.ok_bind, dOf_fz, dOf_own, truthV_bool, rdN_fz, rcv_fz, rcv_own, retN_fz, retN_own, gown_own, clear_fz, clear_own, evsS_nil, evsS_cons, dsOf_nil, dsOf_fz, fzb_ok, evUn_not, evUn_neg, bo_add, bo_sub, bo_mul_r, bo_mul_l, bo_div, bo_mod, bo_pow, cmp_lt, cmp_le, cmp_gt, cmp_ge, cmp_eq, cmp_ne, cmp_is, cmp_isnot, cmp_in, cmp_notin, isSame_bool, notP_ok, ofO_some, eqO_int, eqO_str, isinst_fz, isinst_own, typ_str, typ_dict, typ_int, typ_bool, contains_str, optInt_none, optInt_int, getSlice_list, getSlice_str, items_list, items_dict, items_str, lenD, isStrD, isDictD, isIntD, isBoolD, if_true, if_false, Bool.not_true, Bool.not_false, Bool.false_eq_true]
      rw [hN.item (by omega) (by omega)]
      simp (decide := true) only [bin, un, ifx, cmp1, cmp2, and_, or_, lstS, tupS, dicS, prsS, itm, slc, cal, bl1, isi, mnm, mtd, lcm, plI, rg1, rg2, enm, set_, mut_, ifS, own, fz, P.ok_bind, dOf_fz, dOf_own, truthV_bool, rdN_fz, rcv_fz, rcv_own, retN_fz, retN_own, gown_own, clear_fz, clear_own, evsS_nil, evsS_cons, dsOf_nil, dsOf_fz, fzb_ok, evUn_not, evUn_neg, bo_add, bo_sub, bo_mul_r, bo_mul_l, bo_div, bo_mod, bo_pow, cmp_lt, cmp_le, cmp_gt, cmp_ge, cmp_eq, cmp_ne, cmp_is, cmp_isnot, cmp_in, cmp_notin, isSame_bool, notP_ok, ofO_some, eqO_int, eqO_str, isinst_fz, isinst_own, typ_str, typ_dict, typ_int, typ_bool, contains_str, optInt_none, optInt_int, getSlice_list, getSlice_str, items_list, items_dict, items_str, lenD, isStrD, isDictD, isIntD, isBoolD, if_true, if_false, Bool.not_true, Bool.not_false, Bool.false_eq_true]
      rw [setItem_dict g (by omega)]
      simp (decide := true) only [bin, un, ifx, cmp1, cmp2, and_, or_, lstS, tupS, dicS, prsS, itm, slc, cal, bl1, isi, mnm, mtd, lcm, plI, rg1, rg2, enm, set_, mut_, ifS, own, fz, P.ok_bind, dOf_fz, dOf_own, truthV_bool, rdN_fz, rcv_fz, rcv_own, retN_fz, retN_own, gown_own, clear_fz, clear_own, evsS_nil, evsS_cons, dsOf_nil, dsOf_fz, fzb_ok, evUn_not, evUn_neg, bo_add, bo_sub, bo_mul_r, bo_mul_l, bo_div, bo_mod, bo_pow, cmp_lt, cmp_le, cmp_gt, cmp_ge, cmp_eq, cmp_ne, cmp_is, cmp_isnot, cmp_in, cmp_notin, isSame_bool, notP_ok, ofO_some, eqO_int, eqO_str, isinst_fz, isinst_own, typ_str, typ_dict, typ_int, typ_bool, contains_str, optInt_none, optInt_int, getSlice_list, getSlice_str, items_list, items_dict, items_str, lenD, isStrD, isDictD, isIntD, isBoolD, if_true, if_false, Bool.not_true, Bool.not_false, Bool.false_eq_true]
      have gr : Gd X 2 (84 * fs.length) (.dict r') := (e2.dict C (by simp at e3; omega)).mono (Nat.le_refl _) (by omega)
      obtain ⟨l', q0, q1, q2, q3, q4, f1, f2, f3⟩ := ih (dSet l (N (9 + j).toNat) (.dict r')) (w + (84 * fs.length + 42)) (some (.fz (.int j))) (some (.fz (.dict r'))) p2 p3 p4 hj' ((g.set (hN.ok _) gr).mono (Nat.le_refl _) (by omega)) (by have := dSet_length l (N (9 + j).toNat) (.dict r'); omega)
      refine ⟨l', q0, q1, q2, q3, q4, ?_, f2.mono (Nat.le_refl _) (by omega), ?_⟩
      · rw [← f1]; rfl
      · have := dSet_length l (N (9 + j).toNat) (.dict r'); simp; omega
    · simp only [h1, decide_false, Bool.false_eq_true, if_false]
      obtain ⟨l', q0, q1, q2, q3, q4, f1, f2, f3⟩ := ih l (w + (84 * fs.length + 42)) (some (.fz (.int j))) o1 o2 o3 o4 hj' (g.mono (Nat.le_refl _) (by omega)) (by omega)
      exact ⟨l', q0, q1, q2, q3, q4, f1, f2.mono (Nat.le_refl _) (by omega), by simp; omega⟩

theorem r_table (C : Cl X) (n : Nat) (s : List Int) {k : Int} (hk : 0 ≤ k) {ns : List PyData} {N : Nat → Str} (hN : Names ns N) {fs : List PyData} (hf : FOk fs) (hfl : fs.length ≤ 50) :
    ∃ l, run B1 (n + 3) (Str.ofString "_law_table") [.fz (Li s), .fz (.int k), .fz (.list ns), .fz (.list fs)] = .ok (.own (.dict l)) ∧ GdL X 2 ((84 * fs.length + 42) * 4) l ∧ l.length ≤ 4 := by
  rw [eq_law_table]
  have e4 : rangeOf 0 4 = .ok (([0, 1, 2, 3] : List Int).map PyData.int) := by rfl
  simp (decide := true) only [bin, un, ifx, cmp1, cmp2, and_, or_, lstS, tupS, dicS, prsS, itm, slc, cal, bl1, isi, mnm, mtd, lcm, plI, rg1, rg2, enm, set_, mut_, ifS, own, fz, P.ok_bind, dOf_fz, dOf_own, truthV_bool, rdN_fz, rcv_fz, rcv_own, retN_fz, retN_own, gown_own, clear_fz, clear_own, evsS_nil, evsS_cons, dsOf_nil, dsOf_fz, fzb_ok, evUn_not, evUn_neg, bo_add, bo_sub, bo_mul_r, bo_mul_l, bo_div, bo_mod, bo_pow, cmp_lt, cmp_le, cmp_gt, cmp_ge, cmp_eq, cmp_ne, cmp_is, cmp_isnot, cmp_in, cmp_notin, isSame_bool, notP_ok, ofO_some, eqO_int, eqO_str, isinst_fz, isinst_own, typ_str, typ_dict, typ_int, typ_bool, contains_str, optInt_none, optInt_int, getSlice_list, getSlice_str, items_list, items_dict, items_str, lenD, isStrD, isDictD, isIntD, isBoolD, if_true, if_false, Bool.not_true, Bool.not_false, Bool.false_eq_true]
  rw [e4, P.ok_bind]
  obtain ⟨l', q0, q1, q2, q3, q4, f1, f2, f3⟩ := outer_loop C n s hk hN hf hfl (fun σ => r_law_table_1 (n + 2) σ (fun _ => P.ok (.fz .none)) P.ok) P.ok [0, 1, 2, 3] [] 0 none none none none none (by decide) (GdL.nil 2 0) (by decide)
  rw [f1, er_law_table_1]
  exact ⟨l', rfl, f2.mono (Nat.le_refl _) (by simp), by simpa using f3⟩

end
end Mine

set_option maxRecDepth 100000
set_option linter.unusedVariables false
set_option linter.unusedSimpArgs false
namespace Mine
open PySem

noncomputable def NM (s : List Int) (i : Nat) : Str := ⟨(nm (cellAt s 0) i).toArray⟩

theorem r_names (n : Nat) (s : List Int) : ∃ ns, run B1 (n + 2) (Str.ofString "_law_names") [.fz (Li s)] = .ok (.own (.list ns)) ∧ Names ns (NM s) := by
  rw [eq_law_names]
  have e : rangeOf 0 14 = .ok (([0, 1, 2, 3, 4, 5, 6, 7, 8, 9, 10, 11, 12, 13] : List Int).map PyData.int) := by rfl
  have hc : compG (fun _ => P.ok true) (fun d1 => cal (run B1 (n + 1)) (Str.ofString "_law_name") [(cal (run B1 (n + 1)) (Str.ofString "_law_cell_at") [(.ok (.fz (Li s))), (.ok (.fz (.int 0)))]), (.ok (.fz d1))]) (([0, 1, 2, 3, 4, 5, 6, 7, 8, 9, 10, 11, 12, 13] : List Int).map PyData.int) = .ok ((([0, 1, 2, 3, 4, 5, 6, 7, 8, 9, 10, 11, 12, 13] : List Int).map PyData.int).map fun d => match d with | .int k => .str ⟨(nm (cellAt s 0) k).toArray⟩ | d => d) := by
    refine compG_map fun d hd => ?_
    obtain ⟨k, _, rfl⟩ := List.mem_map.mp hd
    refine ⟨.fz (.str ⟨(nm (cellAt s 0) k).toArray⟩), ?_, rfl⟩
    simp (decide := true) only [bin, un, ifx, cmp1, cmp2, and_, or_, lstS, tupS, dicS, prsS, itm, slc, cal, bl1, isi, mnm, mtd, lcm, plI, rg1, rg2, enm, set_, mut_, ifS, own, fz, P.ok_bind, dOf_fz, dOf_own, truthV_bool, rdN_fz, rcv_fz, rcv_own, retN_fz, retN_own, gown_own, clear_fz, clear_own, evsS_nil, evsS_cons, dsOf_nil, dsOf_fz, fzb_ok, evUn_not, evUn_neg, bo_add, bo_sub, bo_mul_r, bo_mul_l, bo_div, bo_mod, bo_pow, cmp_lt, cmp_le, cmp_gt, cmp_ge, cmp_eq, cmp_ne, cmp_is, cmp_isnot, cmp_in, cmp_notin, isSame_bool, notP_ok, ofO_some, eqO_int, eqO_str, isinst_fz, isinst_own, typ_str, typ_dict, typ_int, typ_bool, contains_str, optInt_none, optInt_int, getSlice_list, getSlice_str, items_list, items_dict, items_str, lenD, isStrD, isDictD, isIntD, isBoolD, if_true, if_false, Bool.not_true, Bool.not_false, Bool.false_eq_true]
    rw [r_cell n s (by decide)]
    simp (decide := true) only [bin, un, ifx, cmp1, cmp2, and_, or_, lstS, tupS, dicS, prsS, itm, slc, cal, bl1, isi, mnm, mtd, lcm, plI, rg1, rg2, enm, set_, mut_, ifS, own, fz, P.ok_bind, dOf_fz, dOf_own, truthV_bool, rdN_fz, rcv_fz, rcv_own, retN_fz, retN_own, gown_own, clear_fz, clear_own, evsS_nil, evsS_cons, dsOf_nil, dsOf_fz, fzb_ok, evUn_not, evUn_neg, bo_add, bo_sub, bo_mul_r, bo_mul_l, bo_div, bo_mod, bo_pow, cmp_lt, cmp_le, cmp_gt, cmp_ge, cmp_eq, cmp_ne, cmp_is, cmp_isnot, cmp_in, cmp_notin, isSame_bool, notP_ok, ofO_some, eqO_int, eqO_str, isinst_fz, isinst_own, typ_str, typ_dict, typ_int, typ_bool, contains_str, optInt_none, optInt_int, getSlice_list, getSlice_str, items_list, items_dict, items_str, lenD, isStrD, isDictD, isIntD, isBoolD, if_true, if_false, Bool.not_true, Bool.not_false, Bool.false_eq_true]
    exact r_name n _ _
  simp (decide := true) only [bin, un, ifx, cmp1, cmp2, and_, or_, lstS, tupS, dicS, prsS, itm, slc, cal, bl1, isi, mnm, mtd, lcm, plI, rg1, rg2, enm, set_, mut_, ifS, own, fz, P.ok_bind, dOf_fz, dOf_own, truthV_bool, rdN_fz, rcv_fz, rcv_own, retN_fz, retN_own, gown_own, clear_fz, clear_own, evsS_nil, evsS_cons, dsOf_nil, dsOf_fz, fzb_ok, evUn_not, evUn_neg, bo_add, bo_sub, bo_mul_r, bo_mul_l, bo_div, bo_mod, bo_pow, cmp_lt, cmp_le, cmp_gt, cmp_ge, cmp_eq, cmp_ne, cmp_is, cmp_isnot, cmp_in, cmp_notin, isSame_bool, notP_ok, ofO_some, eqO_int, eqO_str, isinst_fz, isinst_own, typ_str, typ_dict, typ_int, typ_bool, contains_str, optInt_none, optInt_int, getSlice_list, getSlice_str, items_list, items_dict, items_str, lenD, isStrD, isDictD, isIntD, isBoolD, if_true, if_false, Bool.not_true, Bool.not_false, Bool.false_eq_true]
  simp (decide := true) only [bin, un, ifx, cmp1, cmp2, and_, or_, lstS, tupS, dicS, prsS, itm, slc, cal, bl1, isi, mnm, mtd, lcm, plI, rg1, rg2, enm, set_, mut_, ifS, own, fz, P.ok_bind, dOf_fz, dOf_own, truthV_bool, rdN_fz, rcv_fz, rcv_own, retN_fz, retN_own, gown_own, clear_fz, clear_own, evsS_nil, evsS_cons, dsOf_nil, dsOf_fz, fzb_ok, evUn_not, evUn_neg, bo_add, bo_sub, bo_mul_r, bo_mul_l, bo_div, bo_mod, bo_pow, cmp_lt, cmp_le, cmp_gt, cmp_ge, cmp_eq, cmp_ne, cmp_is, cmp_isnot, cmp_in, cmp_notin, isSame_bool, notP_ok, ofO_some, eqO_int, eqO_str, isinst_fz, isinst_own, typ_str, typ_dict, typ_int, typ_bool, contains_str, optInt_none, optInt_int, getSlice_list, getSlice_str, items_list, items_dict, items_str, lenD, isStrD, isDictD, isIntD, isBoolD, if_true, if_false, Bool.not_true, Bool.not_false, Bool.false_eq_true] at hc
  rw [e, P.ok_bind, hc]
  refine ⟨_, rfl, rfl, fun i hi => ?_, fun i => sok_nm _ _⟩
  have : i = 0 ∨ i = 1 ∨ i = 2 ∨ i = 3 ∨ i = 4 ∨ i = 5 ∨ i = 6 ∨ i = 7 ∨ i = 8 ∨ i = 9 ∨ i = 10 ∨ i = 11 ∨ i = 12 ∨ i = 13 := by omega
  rcases this with rfl | rfl | rfl | rfl | rfl | rfl | rfl | rfl | rfl | rfl | rfl | rfl | rfl | rfl <;> rfl

theorem NM_inj (s : List Int) {i j : Nat} (hi : i < 5) (hj : j < 5) (h : NM s i = NM s j) : i = j := by
  have h1 : (nm (cellAt s 0) i).toArray = (nm (cellAt s 0) j).toArray := congrArg Str.cps h
  have h2 : nm (cellAt s 0) (i : Int) = nm (cellAt s 0) (j : Int) := by simpa using h1
  have := nm_inj (by omega) (by omega) h2
  omega

theorem dGet_set : ∀ (l : List (PyData × PyData)) (a b : Str) (v : PyData), dGet (dSet l a v) b = if b = a then some v else dGet l b
  | [], a, b, v => by
    show (if b = a then some v else none) = _
    rfl
  | (k, u) :: r, a, b, v => by
    have ih := dGet_set r a b v
    cases k with
    | str y =>
      show dGet (if a = y then (PyData.str y, v) :: r else (.str y, u) :: dSet r a v) b = if b = a then some v else (if b = y then some u else dGet r b)
      by_cases h : a = y
      · subst h
        rw [if_pos rfl]
        show (if b = a then some v else dGet r b) = _
        by_cases h2 : b = a
        · rw [if_pos h2, if_pos h2]
        · rw [if_neg h2, if_neg h2, if_neg h2]
      · rw [if_neg h]
        show (if b = y then some u else dGet (dSet r a v) b) = _
        by_cases h2 : b = y
        · subst h2
          rw [if_pos rfl, if_pos rfl, if_neg (fun e => h e.symm)]
        · rw [if_neg h2, ih, if_neg h2]
    | _ => exact ih

theorem dGet_del : ∀ (l : List (PyData × PyData)) (a b : Str), b ≠ a → dGet (dDel l a) b = dGet l b
  | [], a, b, _ => rfl
  | (k, u) :: r, a, b, hne => by
    have ih := dGet_del r a b hne
    cases k with
    | str y =>
      show dGet (if a = y then r else (.str y, u) :: dDel r a) b = if b = y then some u else dGet r b
      by_cases h : a = y
      · subst h
        rw [if_pos rfl, if_neg hne]
      · rw [if_neg h]
        show (if b = y then some u else dGet (dDel r a) b) = _
        rw [ih]
    | _ => exact ih

theorem dDel_length : ∀ (l : List (PyData × PyData)) (s : Str), (dDel l s).length ≤ l.length
  | [], s => by simp [dDel]
  | (k, u) :: r, s => by
    have ih := dDel_length r s
    cases k with
    | str y =>
      show (if s = y then r else (PyData.str y, u) :: dDel r s).length ≤ _
      split
      · simp
      · simp; omega
    | _ =>
      show (_ :: dDel r s).length ≤ _
      simp; omega

theorem house_loop {X : PyData → Prop} (C : Cl X) (n : Nat) (s : List Int) {ns : List PyData} (hN : Names ns (NM s)) (kn : Store → P V) (kr : V → P V) : ∀ (m : Nat) (k : Nat) (l : List (PyData × PyData)) (o1 : Option V), k + m = 5 → GdL X 4 5000 l → l.length ≤ 5 → (∀ i, k ≤ i → i < 5 → (dGet l (NM s i)).isSome = true) →
    ∃ l' o1', forC (b_law_house_1 (n + 2)) t_law_house_1 (rangeD k m) (S_law_house (some (.fz (Li s))) (some (.fz (.list ns))) (some (.own (.dict l))) o1) kn kr = kn (S_law_house (some (.fz (Li s))) (some (.fz (.list ns))) (some (.own (.dict l'))) o1') ∧ GdL X 4 5000 l' ∧ l'.length ≤ 5
  | 0, k, l, o1, _, g, hl, _ => ⟨l, o1, rfl, g, hl⟩
  | m + 1, k, l, o1, hkm, g, hl, hs => by
    show ∃ l' o1', forC (b_law_house_1 (n + 2)) t_law_house_1 (.int k :: rangeD (k + 1) m) _ kn kr = _ ∧ _
    simp only [forC_cons, ea_law_house_1, P.ok_bind, eb_law_house_1]
    have hm := r_mixed n s (k := 200 + (k : Int)) (by omega)
    simp (decide := true) only [bin, un, ifx, cmp1, cmp2, and_, or_, lstS, tupS, dicS, prsS, itm, slc, cal, bl1, isi, mnm, mtd, lcm, plI, rg1, rg2, enm, set_, mut_, ifS, own, fz, P.ok_bind, dOf_fz, dOf_own, truthV_bool, rdN_fz, rcv_fz, rcv_own, retN_fz, retN_own, gown_own, clear_fz, clear_own, evsS_nil, evsS_cons, dsOf_nil, dsOf_fz, fzb_ok, evUn_not, evUn_neg, bo_add, bo_sub, bo_mul_r, bo_mul_l, bo_div, bo_mod, bo_pow, cmp_lt, cmp_le, cmp_gt, cmp_ge, cmp_eq, cmp_ne, cmp_is, cmp_isnot, cmp_in, cmp_notin, isSame_bool, notP_ok, ofO_some, eqO_int, eqO_str, isinst_fz, isinst_own, typ_str, typ_dict, typ_int, typ_bool, contains_str, optInt_none, optInt_int, getSlice_list, getSlice_str, items_list, items_dict, items_str, lenD, isStrD, isDictD, isIntD, isBoolD, if_true, if_false, Bool.not_true, Bool.not_false, Bool.false_eq_true]
    rw [hm]
    simp (decide := true) only [bin, un, ifx, cmp1, cmp2, and_, or_, lstS, tupS, dicS, prsS, itm, slc, cal, bl1, isi, mnm, mtd, lcm, plI, rg1, rg2, enm, set_, mut_, ifS, own, fz, P.ok_bind, dOf_fz, dOf_own, truthV_bool, rdN_fz, rcv_fz, rcv_own, retN_fz, retN_own, gown_own, clear_fz, clear_own, evsS_nil, evsS_cons, dsOf_nil, dsOf_fz, fzb_ok, evUn_not, evUn_neg, bo_add, bo_sub, bo_mul_r, bo_mul_l, bo_div, bo_mod, bo_pow, cmp_lt, cmp_le, cmp_gt, cmp_ge, cmp_eq, cmp_ne, cmp_is, cmp_isnot, cmp_in, cmp_notin, isSame_bool, notP_ok, ofO_some, eqO_int, eqO_str, isinst_fz, isinst_own, typ_str, typ_dict, typ_int, typ_bool, contains_str, optInt_none, optInt_int, getSlice_list, getSlice_str, items_list, items_dict, items_str, lenD, isStrD, isDictD, isIntD, isBoolD, if_true, if_false, Bool.not_true, Bool.not_false, Bool.false_eq_true]
    have ih := house_loop C n s hN kn kr m (k + 1)
    by_cases h1 : (mixed s (200 + k)).fmod 9 = 0
    · simp only [h1, beq_self_eq_true, if_true]
      rw [hN.item (by omega) (by omega)]
      have hmo : mutOk (Str.ofString "pop") (.dict l) = true := by
        show (decide (Str.ofString "pop" = "pop") && strKeys l) = true
        rw [g.keys]; rfl
      have hk : ((k : Int).toNat) = k := by omega
      simp (decide := true) only [bin, un, ifx, cmp1, cmp2, and_, or_, lstS, tupS, dicS, prsS, itm, slc, cal, bl1, isi, mnm, mtd, lcm, plI, rg1, rg2, enm, set_, mut_, ifS, own, fz, P.ok_bind, dOf_fz, dOf_own, truthV_bool, rdN_fz, rcv_fz, rcv_own, retN_fz, retN_own, gown_own, clear_fz, clear_own, evsS_nil, evsS_cons, dsOf_nil, dsOf_fz, fzb_ok, evUn_not, evUn_neg, bo_add, bo_sub, bo_mul_r, bo_mul_l, bo_div, bo_mod, bo_pow, cmp_lt, cmp_le, cmp_gt, cmp_ge, cmp_eq, cmp_ne, cmp_is, cmp_isnot, cmp_in, cmp_notin, isSame_bool, notP_ok, ofO_some, eqO_int, eqO_str, isinst_fz, isinst_own, typ_str, typ_dict, typ_int, typ_bool, contains_str, optInt_none, optInt_int, getSlice_list, getSlice_str, items_list, items_dict, items_str, lenD, isStrD, isDictD, isIntD, isBoolD, if_true, if_false, Bool.not_true, Bool.not_false, Bool.false_eq_true]
      rw [hk, hmo]
      simp (decide := true) only [bin, un, ifx, cmp1, cmp2, and_, or_, lstS, tupS, dicS, prsS, itm, slc, cal, bl1, isi, mnm, mtd, lcm, plI, rg1, rg2, enm, set_, mut_, ifS, own, fz, P.ok_bind, dOf_fz, dOf_own, truthV_bool, rdN_fz, rcv_fz, rcv_own, retN_fz, retN_own, gown_own, clear_fz, clear_own, evsS_nil, evsS_cons, dsOf_nil, dsOf_fz, fzb_ok, evUn_not, evUn_neg, bo_add, bo_sub, bo_mul_r, bo_mul_l, bo_div, bo_mod, bo_pow, cmp_lt, cmp_le, cmp_gt, cmp_ge, cmp_eq, cmp_ne, cmp_is, cmp_isnot, cmp_in, cmp_notin, isSame_bool, notP_ok, ofO_some, eqO_int, eqO_str, isinst_fz, isinst_own, typ_str, typ_dict, typ_int, typ_bool, contains_str, optInt_none, optInt_int, getSlice_list, getSlice_str, items_list, items_dict, items_str, lenD, isStrD, isDictD, isIntD, isBoolD, if_true, if_false, Bool.not_true, Bool.not_false, Bool.false_eq_true]
      have hmu : mutate (.dict l) [.str (NM s k)] = .ok (.dict (dDel l (NM s k))) := if_pos (hs k (Nat.le_refl _) (by omega))
      rw [hmu]
      simp (decide := true) only [bin, un, ifx, cmp1, cmp2, and_, or_, lstS, tupS, dicS, prsS, itm, slc, cal, bl1, isi, mnm, mtd, lcm, plI, rg1, rg2, enm, set_, mut_, ifS, own, fz, P.ok_bind, dOf_fz, dOf_own, truthV_bool, rdN_fz, rcv_fz, rcv_own, retN_fz, retN_own, gown_own, clear_fz, clear_own, evsS_nil, evsS_cons, dsOf_nil, dsOf_fz, fzb_ok, evUn_not, evUn_neg, bo_add, bo_sub, bo_mul_r, bo_mul_l, bo_div, bo_mod, bo_pow, cmp_lt, cmp_le, cmp_gt, cmp_ge, cmp_eq, cmp_ne, cmp_is, cmp_isnot, cmp_in, cmp_notin, isSame_bool, notP_ok, ofO_some, eqO_int, eqO_str, isinst_fz, isinst_own, typ_str, typ_dict, typ_int, typ_bool, contains_str, optInt_none, optInt_int, getSlice_list, getSlice_str, items_list, items_dict, items_str, lenD, isStrD, isDictD, isIntD, isBoolD, if_true, if_false, Bool.not_true, Bool.not_false, Bool.false_eq_true]
      obtain ⟨l', p1, e1, e2, e3⟩ := ih (dDel l (NM s k)) (some (.fz (.int k))) (by omega) (g.del _) (Nat.le_trans (dDel_length _ _) hl) (fun i h1 h2 => by
        rw [dGet_del _ _ _ (fun e => by have := NM_inj s h2 (by omega) e; omega)]
        exact hs i (by omega) h2)
      exact ⟨l', p1, e1, e2, e3⟩
    · have e0 : ((mixed s (200 + k)).fmod 9 == 0) = false := beq_eq_false_iff_ne.mpr h1
      simp only [e0, Bool.false_eq_true, if_false]
      obtain ⟨l', p1, e1, e2, e3⟩ := ih l (some (.fz (.int k))) (by omega) g hl (fun i h1 h2 => hs i (by omega) h2)
      exact ⟨l', p1, e1, e2, e3⟩

theorem disp2 (a b : Str) (x y : PyData) : evDisp [(.str a, x), (.str b, y)] = .ok (.own (.dict (dSet (dSet [] a x) b y))) := rfl

theorem mget_eq {l : List (PyData × PyData)} (hk : strKeys l = true) (k : Str) (d : PyData) : method (Str.ofString "get") (.dict l) [.str k, d] = .ok (.fz ((dGet l k).getD d)) := by
  show (if strKeys l then fz ((dGet l k).getD d) else .no) = _
  rw [if_pos hk]; rfl
theorem mok_get {l : List (PyData × PyData)} (hk : strKeys l = true) : mOk (Str.ofString "get") (.dict l) = true := by
  show (decide (Str.ofString "get" = "get") && strKeys l) = true
  rw [hk]; rfl

theorem GdL.getD {X : PyData → Prop} {h w : Nat} {l : List (PyData × PyData)} (g : GdL X h w l) {k : Str} {d : PyData} (hd : Gd X h w d) : Gd X h w ((dGet l k).getD d) := by
  cases e : dGet l k with
  | none => exact hd
  | some v =>
    have : ∀ {l : List (PyData × PyData)}, dGet l k = some v → ∃ p ∈ l, p.2 = v := by
      intro l
      induction l with
      | nil => intro h; cases h
      | cons q r ih =>
        intro h
        obtain ⟨a, b⟩ := q
        cases a with
        | str y =>
          have h : (if k = y then some b else dGet r k) = some v := h
          split at h
          · cases h; exact ⟨_, List.mem_cons_self, rfl⟩
          · obtain ⟨p, h1, h2⟩ := ih h; exact ⟨p, List.mem_cons_of_mem _ h1, h2⟩
        | _ => obtain ⟨p, h1, h2⟩ := ih h; exact ⟨p, List.mem_cons_of_mem _ h1, h2⟩
    obtain ⟨p, h1, h2⟩ := this e
    have := g.get h1
    rw [h2] at this
    exact this

theorem three {m : Int} (h : 0 ≤ m ∧ m < 3) : m = 0 ∨ m = 1 ∨ m = 2 := by omega

theorem r_house (n : Nat) (s : List Int) {ns : List PyData} (hN : Names ns (NM s)) : ∃ d, run B1 (n + 4) (Str.ofString "_law_house") [.fz (Li s), .fz (.list ns)] = .ok (.fz d) ∧ Gd Tr 5 5000 d := by
  have C := cl_tr
  rw [eq_law_house]
  obtain ⟨z1, hz1, b1⟩ := r_number (n + 2) (mixed s 1)
  obtain ⟨z2, hz2, b2⟩ := r_number (n + 2) (mixed s 2)
  have m1 := r_mixed (n + 1) s (k := 1) (by decide)
  have m2 := r_mixed (n + 1) s (k := 2) (by decide)
  have i0 := hN.item (k := 0) (by decide) (by decide)
  have i1 := hN.item (k := 1) (by decide) (by decide)
  have i2 := hN.item (k := 2) (by decide) (by decide)
  have i3 := hN.item (k := 3) (by decide) (by decide)
  have i4 := hN.item (k := 4) (by decide) (by decide)
  have i5 := hN.item (k := 5) (by decide) (by decide)
  have i6 := hN.item (k := 6) (by decide) (by decide)
  have sl : ∀ a b : Int, (slice ns (some a) (some b)).length ≤ 14 := fun a b => by
    unfold slice
    rw [List.length_take, List.length_drop, hN.len]; omega
  have s2 : (slice ns (some 5) (some 7)).length = 2 := by
    unfold slice; rw [List.length_take, List.length_drop, hN.len]; rfl
  have s3 : (slice ns (some 7) (some 9)).length = 2 := by
    unfold slice; rw [List.length_take, List.length_drop, hN.len]; rfl
  have s4 : (slice ns (some 5) (some 9)).length = 4 := by
    unfold slice; rw [List.length_take, List.length_drop, hN.len]; rfl
  obtain ⟨t1, ht1, g1, l1⟩ := r_table C n s (k := 20) (by decide) hN (hN.fok (some 5) (some 7)) (by have := sl 5 7; omega)
  obtain ⟨t2, ht2, g2, l2⟩ := r_table C n s (k := 70) (by decide) hN (hN.fok (some 7) (some 9)) (by have := sl 7 9; omega)
  obtain ⟨t3, ht3, g3, l3⟩ := r_table C n s (k := 120) (by decide) hN (hN.fok (some 5) (some 9)) (by have := sl 5 9; omega)
  rw [s2] at g1; rw [s3] at g2; rw [s4] at g3
  -- what is built
  have k := fun i => hN.ok i
  have G0 : GdL Tr 4 42 [(.str (NM s (0 : Int).toNat), .int z1)] := (((GdL.nil 4 0).set (k _) ((gd_int C b1).mono (Nat.zero_le 4) (Nat.le_refl 0))) : _)
  have D1 : Gd Tr 4 126 (.dict (dSet (dSet [] (NM s (5 : Int).toNat) (.int z2)) (NM s (6 : Int).toNat) (.dict [(.str (NM s (0 : Int).toNat), .int 3)]))) := by
    have a := ((GdL.nil 0 0).set (k (0 : Int).toNat) (gd_int C (i := 3) (by decide))).dict C (by simp [dSet])
    have b := (((GdL.nil 1 0).set (k (5 : Int).toNat) ((gd_int C b2).mono (Nat.zero_le 1) (Nat.le_refl 0))).set (k (6 : Int).toNat) a).dict C (by have := dSet_length (dSet [] (NM s (5 : Int).toNat) (.int z2)) (NM s (6 : Int).toNat) (.dict (dSet [] (NM s (0 : Int).toNat) (.int 3))); have := dSet_length [] (NM s (5 : Int).toNat) (.int z2); simp at *; omega)
    exact b.mono (by omega) (by omega)
  have D4 : Gd Tr 4 1596 (.dict (dSet (dSet [] (NM s (2 : Int).toNat) (.dict t3)) (NM s (0 : Int).toNat) (.int 1))) := by
    have a := g3.dict C (by omega)
    have b := (((GdL.nil 3 0).set (k (2 : Int).toNat) a).set (k (0 : Int).toNat) ((gd_int C (i := 1) (by decide)).mono (Nat.zero_le 3) (Nat.le_refl 0))).dict C (by have := dSet_length (dSet [] (NM s (2 : Int).toNat) (.dict t3)) (NM s (0 : Int).toNat) (.int 1); have := dSet_length [] (NM s (2 : Int).toNat) (.dict t3); simp at *; omega)
    exact b.mono (by omega) (by omega)
  have T1 : Gd Tr 4 840 (.dict t1) := (g1.dict C (by omega)).mono (by omega) (by omega)
  have T2 : Gd Tr 4 840 (.dict t2) := (g2.dict C (by omega)).mono (by omega) (by omega)
  have G1 := G0.set (k (1 : Int).toNat) D1
  have G2 := G1.set (k (2 : Int).toNat) T1
  have G3 := G2.set (k (3 : Int).toNat) T2
  have G4 := G3.set (k (4 : Int).toNat) D4
  have len0 : ([(.str (NM s (0 : Int).toNat), .int z1)] : List (PyData × PyData)).length = 1 := rfl
  have len1 := dSet_length [(.str (NM s (0 : Int).toNat), .int z1)] (NM s (1 : Int).toNat) (.dict (dSet (dSet [] (NM s (5 : Int).toNat) (.int z2)) (NM s (6 : Int).toNat) (.dict [(.str (NM s (0 : Int).toNat), .int 3)])))
  generalize hF1 : dSet [(.str (NM s (0 : Int).toNat), .int z1)] (NM s (1 : Int).toNat) (.dict (dSet (dSet [] (NM s (5 : Int).toNat) (.int z2)) (NM s (6 : Int).toNat) (.dict [(.str (NM s (0 : Int).toNat), .int 3)]))) = F1 at *
  have len2 := dSet_length F1 (NM s (2 : Int).toNat) (.dict t1)
  generalize hF2 : dSet F1 (NM s (2 : Int).toNat) (.dict t1) = F2 at *
  have len3 := dSet_length F2 (NM s (3 : Int).toNat) (.dict t2)
  generalize hF3 : dSet F2 (NM s (3 : Int).toNat) (.dict t2) = F3 at *
  have len4 := dSet_length F3 (NM s (4 : Int).toNat) (.dict (dSet (dSet [] (NM s (2 : Int).toNat) (.dict t3)) (NM s (0 : Int).toNat) (.int 1)))
  generalize hF4 : dSet F3 (NM s (4 : Int).toNat) (.dict (dSet (dSet [] (NM s (2 : Int).toNat) (.dict t3)) (NM s (0 : Int).toNat) (.int 1))) = F4 at *
  have hsz : strN = 16777216 := rfl
  have q1 := setItem_dict G0 (by omega) (NM s (1 : Int).toNat) (.dict (dSet (dSet [] (NM s (5 : Int).toNat) (.int z2)) (NM s (6 : Int).toNat) (.dict [(.str (NM s (0 : Int).toNat), .int 3)])))
  have q2 := setItem_dict G1 (by omega) (NM s (2 : Int).toNat) (.dict t1)
  have q3 := setItem_dict G2 (by omega) (NM s (3 : Int).toNat) (.dict t2)
  have q4 := setItem_dict G3 (by omega) (NM s (4 : Int).toNat) (.dict (dSet (dSet [] (NM s (2 : Int).toNat) (.dict t3)) (NM s (0 : Int).toNat) (.int 1)))
  rw [hF1] at q1; rw [hF2] at q2; rw [hF3] at q3; rw [hF4] at q4
  have r5 : rangeOf 0 5 = .ok (rangeD (0 : Nat) 5) := by rfl
  simp (decide := true) only [bin, un, ifx, cmp1, cmp2, and_, or_, lstS, tupS, dicS, prsS, itm, slc, cal, bl1, isi, mnm, mtd, lcm, plI, rg1, rg2, enm, set_, mut_, ifS, own, fz, P.ok_bind, dOf_fz, dOf_own, truthV_bool, rdN_fz, rcv_fz, rcv_own, retN_fz, retN_own, gown_own, clear_fz, clear_own, evsS_nil, evsS_cons, dsOf_nil, dsOf_fz, fzb_ok, evUn_not, evUn_neg, bo_add, bo_sub, bo_mul_r, bo_mul_l, bo_div, bo_mod, bo_pow, cmp_lt, cmp_le, cmp_gt, cmp_ge, cmp_eq, cmp_ne, cmp_is, cmp_isnot, cmp_in, cmp_notin, isSame_bool, notP_ok, ofO_some, eqO_int, eqO_str, isinst_fz, isinst_own, typ_str, typ_dict, typ_int, typ_bool, contains_str, optInt_none, optInt_int, getSlice_list, getSlice_str, items_list, items_dict, items_str, lenD, isStrD, isDictD, isIntD, isBoolD, if_true, if_false, Bool.not_true, Bool.not_false, Bool.false_eq_true, i0, i1, i2, i3, i4, i5, i6, m1, m2, hz1, hz2, disp1, disp2, ht1, ht2, ht3, q1, q2, q3, q4, r5]
  have there : ∀ i, 0 ≤ i → i < 5 → (dGet F4 (NM s i)).isSome = true := fun i _ hi => by
    rw [← hF4, dGet_set]
    split
    · rfl
    · rw [← hF3, dGet_set]
      split
      · rfl
      · rw [← hF2, dGet_set]
        split
        · rfl
        · rw [← hF1, dGet_set]
          split
          · rfl
          · rename_i n4 n3 n2 n1
            have : i = 0 ∨ i = 1 ∨ i = 2 ∨ i = 3 ∨ i = 4 := by omega
            rcases this with rfl | rfl | rfl | rfl | rfl
            · show ((if NM s 0 = NM s 0 then some _ else none) : Option PyData).isSome = true
              rw [if_pos rfl]; rfl
            · exact absurd rfl n1
            · exact absurd rfl n2
            · exact absurd rfl n3
            · exact absurd rfl n4
  obtain ⟨l', p1, e1, g', gl⟩ := house_loop C (n + 1) s hN (fun σ => r_law_house_1 (n + 3) σ (fun _ => P.ok (.fz .none)) P.ok) P.ok 5 0 F4 none rfl (G4.mono (Nat.le_refl _) (by omega)) (by omega) there
  rw [e1, er_law_house_1]
  have c1 := r_cell (n + 2) s (k := 1) (by decide)
  simp (decide := true) only [bin, un, ifx, cmp1, cmp2, and_, or_, lstS, tupS, dicS, prsS, itm, slc, cal, bl1, isi, mnm, mtd, lcm, plI, rg1, rg2, enm, set_, mut_, ifS, own, fz, P.ok_bind, dOf_fz, dOf_own, truthV_bool, rdN_fz, rcv_fz, rcv_own, retN_fz, retN_own, gown_own, clear_fz, clear_own, evsS_nil, evsS_cons, dsOf_nil, dsOf_fz, fzb_ok, evUn_not, evUn_neg, bo_add, bo_sub, bo_mul_r, bo_mul_l, bo_div, bo_mod, bo_pow, cmp_lt, cmp_le, cmp_gt, cmp_ge, cmp_eq, cmp_ne, cmp_is, cmp_isnot, cmp_in, cmp_notin, isSame_bool, notP_ok, ofO_some, eqO_int, eqO_str, isinst_fz, isinst_own, typ_str, typ_dict, typ_int, typ_bool, contains_str, optInt_none, optInt_int, getSlice_list, getSlice_str, items_list, items_dict, items_str, lenD, isStrD, isDictD, isIntD, isBoolD, if_true, if_false, Bool.not_true, Bool.not_false, Bool.false_eq_true, i2, i4, mok_get g'.keys, mget_eq g'.keys, c1]
  have hr := fmod_rng ((cellAt s 1).fmod 5) (n := 3) (by decide)
  have gd5 : Gd Tr 4 5000 (.int 5) := (gd_int C (by decide)).mono (Nat.zero_le _) (Nat.zero_le _)
  have gdE : Gd Tr 4 5000 (.dict []) := ((GdL.nil 0 0).dict C (by decide)).mono (by omega) (by omega)
  rcases three hr with h | h | h <;> rw [h]
  · exact ⟨_, rfl, (g'.dict C (by omega))⟩
  · exact ⟨_, rfl, (g'.getD gdE).mono (by omega) (Nat.le_refl _)⟩
  · exact ⟨_, rfl, (g'.getD gd5).mono (by omega) (Nat.le_refl _)⟩

end Mine

set_option maxRecDepth 100000
set_option linter.unusedVariables false
set_option linter.unusedSimpArgs false
namespace Mine
open PySem

/-! odd things -/
noncomputable def b8 : Str := Str.ofString "bbbbbbbb"
noncomputable def oddL (s : Str) : List PyData :=
  [.bool true, .bool false, .none, .str (Str.ofString ""), .str (Str.ofString "a"), .int 1, .int (-1), .int (10 ^ 30), .tuple [], .list [], .dict [(.int 1, .int 2)], .dict [(.str s, .bool true)], .dict [(.str s, .none)], .dict [(.str (Str.ofString ""), .int 1)],
   .dict [(.str (Str.ofString "A"), .int 1)], .dict [(.str (s ++ b8), .int 1)], .dict [(.str s, .list [.int 1])], .dict [(.str s, .dict [(.str s, .str (Str.ofString "a"))])], .dict [(.tuple [.str s], .int 1)],
   .dict [(.str (Str.ofString "a1"), .int 1)], .dict [(.str s, .dict [(.none, .int 1)])]]

theorem dispA : evDisp [(.int 1, .int 2)] = .ok (.fz (.dict [(.int 1, .int 2)])) := rfl
theorem dispB : evDisp [(.none, .int 1)] = .ok (.fz (.dict [(.none, .int 1)])) := rfl
theorem dispC (s : Str) : evDisp [(.tuple [.str s], .int 1)] = .ok (.fz (.dict [(.tuple [.str s], .int 1)])) := rfl
theorem mul8 : binop .Mult (.str (Str.ofString "b")) (.int 8) = .ok (.fz (.str b8)) := by kernel_rfl

theorem odd_eq (n : Nat) (c : Int) {s : Str} (hs : s.cps.size ≤ 40) : run B1 (n + 1) (Str.ofString "_law_odd") [.fz (.int c), .fz (.str s)] = (getItem (.list (oddL s)) (.int (c.fmod 21))).bind P.ok := by
  rw [eq_law_odd]
  have ha : binop .Add (.str s) (.str b8) = .ok (.fz (.str (s ++ b8))) := bo_adds (by
    have h1 : s.length ≤ 40 := hs
    have h2 : b8.length = 8 := rfl
    have h3 : strN = 16777216 := rfl
    omega)
  simp (decide := true) only [bin, un, ifx, cmp1, cmp2, and_, or_, lstS, tupS, dicS, prsS, itm, slc, cal, bl1, isi, mnm, mtd, lcm, plI, rg1, rg2, enm, set_, mut_, ifS, own, fz, P.ok_bind, dOf_fz, dOf_own, truthV_bool, rdN_fz, rcv_fz, rcv_own, retN_fz, retN_own, gown_own, clear_fz, clear_own, evsS_nil, evsS_cons, dsOf_nil, dsOf_fz, fzb_ok, evUn_not, evUn_neg, bo_add, bo_sub, bo_mul_r, bo_mul_l, bo_div, bo_mod, bo_pow, cmp_lt, cmp_le, cmp_gt, cmp_ge, cmp_eq, cmp_ne, cmp_is, cmp_isnot, cmp_in, cmp_notin, isSame_bool, notP_ok, ofO_some, eqO_int, eqO_str, isinst_fz, isinst_own, typ_str, typ_dict, typ_int, typ_bool, contains_str, optInt_none, optInt_int, getSlice_list, getSlice_str, items_list, items_dict, items_str, lenD, isStrD, isDictD, isIntD, isBoolD, if_true, if_false, Bool.not_true, Bool.not_false, Bool.false_eq_true, dispA, dispB, dispC, disp1, mul8, ha]
  rfl

theorem gd_odd {s : Str} (hs : SOk s) (h8 : s.cps.size ≤ 8) : ∀ d ∈ oddL s, Gd OkD 3 200 d := by
  have C := cl_ok
  have sE : SOk (Str.ofString "") := ⟨by decide, by unfold SLow; decide⟩
  have sa : SOk (Str.ofString "a") := ⟨by decide, by unfold SLow; decide⟩
  have sA : SOk (Str.ofString "A") := ⟨by decide, by unfold SLow; decide⟩
  have s1 : SOk (Str.ofString "a1") := ⟨by decide, by unfold SLow; decide⟩
  have sb : SOk (s ++ b8) := ⟨by
    show (s.cps ++ b8.cps).size ≤ 40
    rw [Array.size_append]
    have : b8.cps.size = 8 := rfl
    omega, fun c hc => by
    have hc : c ∈ (s.cps ++ b8.cps).toList := hc
    rw [Array.toList_append] at hc
    rcases List.mem_append.mp hc with h | h
    · exact hs.low c h
    · have : ∀ c ∈ b8.cps.toList, c < 16 ^ 8 := by decide
      exact this c h⟩
  have one : ∀ {k : Str} {v : PyData}, SOk k → Gd OkD 2 100 v → Gd OkD 3 200 (.dict [(.str k, v)]) := fun hk hv => (((GdL.nil 2 0).set hk hv).dict C (by simp [dSet])).mono (Nat.le_refl _) (by omega)
  have at' : ∀ {d : PyData} (h w : Nat), isDictD d = false → d.showable = true → d.leavesShort 40 = true → d.depth ≤ h → d.bulk ≤ w → Gd OkD h w d := fun h w h1 h2 h3 h4 h5 => ⟨.atom _ h1, h2, h3, h4, h5⟩
  have i1 : Gd OkD 2 100 (.int 1) := (gd_int C (by decide)).mono (Nat.zero_le _) (Nat.zero_le _)
  intro d hd
  simp only [oddL, List.mem_cons, List.not_mem_nil, or_false] at hd
  rcases hd with rfl | rfl | rfl | rfl | rfl | rfl | rfl | rfl | rfl | rfl | rfl | rfl | rfl | rfl | rfl | rfl | rfl | rfl | rfl | rfl | rfl
  · exact at' 3 200 rfl rfl rfl (by decide) (by decide)
  · exact at' 3 200 rfl rfl rfl (by decide) (by decide)
  · exact at' 3 200 rfl rfl rfl (by decide) (by decide)
  · exact (gd_str C sE).mono (by omega) (by omega)
  · exact (gd_str C sa).mono (by omega) (by omega)
  · exact i1.mono (by omega) (by omega)
  · exact (gd_int C (by decide)).mono (Nat.zero_le _) (Nat.zero_le _)
  · exact (gd_int C (by decide)).mono (Nat.zero_le _) (Nat.zero_le _)
  · exact at' 3 200 rfl rfl rfl (by decide) (by decide)
  · exact at' 3 200 rfl rfl rfl (by decide) (by decide)
  · exact ⟨.odd _ _ rfl, by kernel_rfl, by kernel_rfl, by decide, by decide⟩
  · exact one hs (at' 2 100 rfl rfl rfl (by decide) (by decide))
  · exact one hs (at' 2 100 rfl rfl rfl (by decide) (by decide))
  · exact one sE i1
  · exact one sA i1
  · exact one sb i1
  · exact one hs (at' 2 100 rfl (by kernel_rfl) (by kernel_rfl) (by decide) (by decide))
  · exact one hs ((((GdL.nil 1 0).set hs ((gd_str C sa).mono (Nat.zero_le _) (Nat.le_refl _))).dict C (by simp [dSet])).mono (Nat.le_refl _) (by omega))
  · refine ⟨.odd _ _ rfl, rfl, ?_, Nat.le_of_ble_eq_true (by kernel_rfl), ?_⟩
    · show ((PyData.leavesShort 40 (.str s) && true) && PyData.leavesShort 40 (.int 1) && true) = true
      rw [leaf_str hs.low]; kernel_rfl
    · show s.cps.size + 1 + 0 + 0 + 2 + 0 ≤ 200; omega
  · exact one s1 i1
  · exact one hs ⟨.odd _ _ rfl, by kernel_rfl, by kernel_rfl, by decide, by decide⟩

theorem r_odd (n : Nat) (c : Int) {s : Str} (hs : SOk s) (h8 : s.cps.size ≤ 8) : ∃ d, run B1 (n + 1) (Str.ofString "_law_odd") [.fz (.int c), .fz (.str s)] = .ok (.fz d) ∧ Gd OkD 3 200 d := by
  rw [odd_eq n c hs.len]
  have h := fmod_rng c (n := 21) (by decide)
  obtain ⟨d, hd, _, e⟩ := gi_list (oddL s) h.1 (by show _ < ((21 : Nat) : Int); omega)
  rw [e]
  exact ⟨d, rfl, gd_odd hs h8 d hd⟩

/-! sorting -/
theorem mem_insS (a x : Str) : ∀ l : List Str, x ∈ insS a l ↔ x = a ∨ x ∈ l
  | [] => by simp [insS]
  | b :: r => by
    show x ∈ (if b.cps.toList < a.cps.toList then b :: insS a r else a :: b :: r) ↔ _
    split
    · rw [List.mem_cons, mem_insS a x r, List.mem_cons]
      constructor
      · rintro (h | h | h)
        · exact .inr (.inl h)
        · exact .inl h
        · exact .inr (.inr h)
      · rintro (h | h | h)
        · exact .inr (.inl h)
        · exact .inl h
        · exact .inr (.inr h)
    · simp
theorem mem_sortS (x : Str) : ∀ l : List Str, x ∈ sortS l ↔ x ∈ l
  | [] => Iff.rfl
  | a :: r => by
    show x ∈ insS a (sortS r) ↔ _
    rw [mem_insS, mem_sortS x r, List.mem_cons]
theorem len_insS (a : Str) : ∀ l : List Str, (insS a l).length = l.length + 1
  | [] => rfl
  | b :: r => by
    show (if b.cps.toList < a.cps.toList then b :: insS a r else a :: b :: r).length = _
    split
    · simp [len_insS a r]
    · rfl
theorem len_sortS : ∀ l : List Str, (sortS l).length = l.length
  | [] => rfl
  | a :: r => by
    show (insS a (sortS r)).length = _
    rw [len_insS, len_sortS r]; rfl

theorem keys_strs : ∀ {l : List (PyData × PyData)}, strKeys l = true → ∃ ks : List Str, l.map (·.1) = ks.map PyData.str
  | [], _ => ⟨[], rfl⟩
  | (k, v) :: r, h => by
    cases k with
    | str y =>
      obtain ⟨ks, e⟩ := keys_strs (l := r) h
      exact ⟨y :: ks, by simp [e]⟩
    | _ => cases h
theorem strs_map : ∀ ks : List Str, strs? (ks.map PyData.str) = some ks
  | [] => rfl
  | a :: r => by
    show (strs? (r.map PyData.str)).map (a :: ·) = _
    rw [strs_map r]; rfl

theorem bulk_key {k : Str} {v : PyData} : ∀ {l : List (PyData × PyData)}, (.str k, v) ∈ l → k.cps.size ≤ PyData.bulkKv l
  | (a, b) :: r, h => by
    show _ ≤ a.bulk + b.bulk + 2 + PyData.bulkKv r
    rcases List.mem_cons.mp h with h | h
    · cases h; show k.cps.size ≤ k.cps.size + v.bulk + 2 + PyData.bulkKv r; omega
    · have := bulk_key h; omega

theorem GdL.dictOk {h w : Nat} {l : List (PyData × PyData)} (g : GdL OkD h w l) : Gd OkD (h + 1) w (.dict l) := by
  obtain ⟨i1, i2, i3, i4⟩ := en_kv g.en
  exact ⟨.dict l i1 fun p hp => (g.en p hp).ok, i2, i3, Nat.succ_le_succ i4, g.bk⟩

theorem r_put {x : PyData} {hx wx w : Nat} (gx : Gd OkD hx wx x) {t : PyData} (ht : Tr t) : ∀ (h n : Nat) (c : Int), Gd Tr h w t → h ≤ n → ∃ v d, run B1 (n + 1) (Str.ofString "_law_put_in") [.fz t, .fz (.int c), .fz x] = .ok v ∧ V.clear v = .fz d ∧ Gd OkD (h + hx) ((2 * w + 2) * h + wx) d := by
  induction ht with
  | atom t h0 =>
    intro h n c g hn
    rw [eq_law_put_in]
    simp only [ifS, or_, un, isi, isinst_fz, typ_dict, h0, P.ok_bind, ofO_some, evUn_not, truthV_bool, Bool.not_false, if_true]
    exact ⟨.fz x, x, rfl, rfl, gx.mono (by omega) (by omega)⟩
  | dict l hk hl hv ih =>
    intro h n c g hn
    obtain ⟨h', rfl⟩ : ∃ h', h = h' + 1 := ⟨h - 1, by have : PyData.depthKv l + 1 ≤ h := g.dp; omega⟩
    rw [eq_law_put_in]
    have hlen : lenD (.dict l) = .ok (.fz (.int l.length)) := by
      show (if strKeys l then fz (.int l.length) else .no) = _
      rw [if_pos hk]; rfl
    simp only [ifS, or_, un, isi, isinst_fz, typ_dict, isDictD, P.ok_bind, ofO_some, evUn_not, truthV_bool, Bool.not_true, Bool.false_eq_true, if_false, cmp1, bl1, dOf_fz, hlen, cmp_eq, eqO_int, fzb_ok]
    by_cases h0 : l.length = 0
    · have : ((l.length : Int) == 0) = true := by simp [h0]
      simp only [this, if_true]
      exact ⟨.fz x, x, rfl, rfl, gx.mono (by omega) (by omega)⟩
    have hne : ((l.length : Int) == 0) = false := by simp [h0]
    simp only [hne, Bool.false_eq_true, if_false]
    obtain ⟨ks, hks⟩ := keys_strs hk
    have hkl : ks.length = l.length := by
      have := congrArg List.length hks
      simpa using this.symm
    have e1 : listD (.dict l) = .ok (.own (.list (ks.map PyData.str))) := by
      show (if strKeys l then own (.list (l.map (·.1))) else .no) = _
      rw [if_pos hk, hks]; rfl
    have e2 : sortD (.list (ks.map PyData.str)) = .ok (.own (.list ((sortS ks).map PyData.str))) := by
      show ((ofO (strs? (ks.map PyData.str))).bind fun l => if l.length < 64 then own (.list ((sortS l).map .str)) else .no) = _
      rw [strs_map]
      show (if ks.length < 64 then own (.list ((sortS ks).map .str)) else P.no) = _
      rw [if_pos (by omega)]; rfl
    have e3 : dictD (.dict l) = .ok (.own (.dict l)) := by
      show (if strKeys l then own (.dict l) else .no) = _
      rw [if_pos hk]; rfl
    have hsl : ((sortS ks).map PyData.str).length = l.length := by rw [List.length_map, len_sortS, hkl]
    have hm := fmod_rng c (n := (l.length : Int)) (by omega)
    obtain ⟨d, hd, _, e4⟩ := gi_list ((sortS ks).map PyData.str) hm.1 (by rw [hsl]; exact hm.2)
    obtain ⟨k, hkm, rfl⟩ := List.mem_map.mp hd
    rw [mem_sortS] at hkm
    have hkk : (PyData.str k) ∈ l.map (·.1) := by rw [hks]; exact List.mem_map.mpr ⟨k, hkm, rfl⟩
    obtain ⟨v, hg, hmem⟩ := dGet_mem hk hkk
    have hgi := gi_dict hk hg
    have G := g.entries hk hv
    have hkey : SLow k ∧ k.cps.size ≤ w := by
      obtain ⟨s', hs', hlow⟩ := (G.en _ hmem).key
      cases hs'
      exact ⟨hlow, Nat.le_trans (bulk_key hmem) g.bk⟩
    have hmod : binop .Mod (.int c) (.int (l.length : Int)) = .ok (.fz (.int (c.fmod l.length))) := bo_mod c (by omega)
    have hsz : strN = 16777216 := rfl
    have hset : ∀ u, setItem (.dict l) (.str k) u = .ok (.dict (dSet l k u)) := fun u => setItem_dict G (by omega) k u
    have hll : lenD (.list ((sortS ks).map PyData.str)) = .ok (.fz (.int l.length)) := by
      show fz (.int (((sortS ks).map PyData.str).length : Nat)) = _
      rw [hsl]; rfl
    simp only [e1, e2, e3, P.ok_bind, dOf_own, clear_own, clear_fz, rcv_fz, rdN_fz, dOf_fz, itm, bin, hll, hmod, e4, set_, ifx, gown_own]
    have GO : GdL OkD (h' + hx) w l := (⟨fun p hp => let e := G.en p hp; ⟨e.key, (hv p hp).ok, e.sh, e.lv, Nat.le_trans e.dp (by omega)⟩, G.bk⟩)
    have fin : ∀ (u : PyData) (wu : Nat), wu ≤ (2 * w + 2) * h' + wx → Gd OkD (h' + hx) wu u → Gd OkD (h' + 1 + hx) ((2 * w + 2) * (h' + 1) + wx) (.dict (dSet l k u)) := fun u wu hwu hu => by
      have := (GO.setK hkey.1 hu).dictOk
      refine this.mono (by omega) ?_
      have hmul : (2 * w + 2) * (h' + 1) = (2 * w + 2) * h' + (2 * w + 2) := Nat.mul_succ _ _
      have := hkey.2
      omega
    simp (decide := true) only [bin, un, ifx, cmp1, cmp2, and_, or_, lstS, tupS, dicS, prsS, itm, slc, cal, bl1, isi, mnm, mtd, lcm, plI, rg1, rg2, enm, set_, mut_, ifS, own, fz, P.ok_bind, dOf_fz, dOf_own, truthV_bool, rdN_fz, rcv_fz, rcv_own, retN_fz, retN_own, gown_own, clear_fz, clear_own, evsS_nil, evsS_cons, dsOf_nil, dsOf_fz, fzb_ok, evUn_not, evUn_neg, bo_add, bo_sub, bo_mul_r, bo_mul_l, bo_div, bo_mod, bo_pow, cmp_lt, cmp_le, cmp_gt, cmp_ge, cmp_eq, cmp_ne, cmp_is, cmp_isnot, cmp_in, cmp_notin, isSame_bool, notP_ok, ofO_some, eqO_int, eqO_str, isinst_fz, isinst_own, typ_str, typ_dict, typ_int, typ_bool, contains_str, optInt_none, optInt_int, getSlice_list, getSlice_str, items_list, items_dict, items_str, lenD, isStrD, isDictD, isIntD, isBoolD, if_true, if_false, Bool.not_true, Bool.not_false, Bool.false_eq_true]
    by_cases h3 : (c.fdiv 8).fmod 3 = 0
    · simp only [h3, beq_self_eq_true, if_true, P.ok_bind, dOf_fz, hset]
      exact ⟨_, _, rfl, rfl, fin x wx (by omega) (gx.mono (by omega) (Nat.le_refl _))⟩
    · have h3' : ((c.fdiv 8).fmod 3 == 0) = false := beq_eq_false_iff_ne.mpr h3
      simp only [h3', Bool.false_eq_true, if_false, hgi, P.ok_bind, clear_fz]
      obtain ⟨m, rfl⟩ : ∃ m, n = m + 1 := ⟨n - 1, by omega⟩
      obtain ⟨v', d', r1, r2, r3⟩ := ih _ hmem h' m (c.fdiv 24) (G.get hmem) (by omega)
      rw [r1]
      have hdo : dOf v' = .ok d' := by
        cases v' with
        | fz q => cases r2; rfl
        | own q => cases r2; rfl
        | exc q => cases r2
      simp only [P.ok_bind, hdo, hset]
      exact ⟨_, _, rfl, rfl, fin d' _ (Nat.le_refl _) r3⟩

end Mine

set_option maxRecDepth 100000
set_option linter.unusedVariables false
set_option linter.unusedSimpArgs false
namespace Mine
open PySem

theorem repr_ok {h w : Nat} {d : PyData} (g : Gd OkD h w d) (hh : h ≤ 60) (hw : 42 * w + 40 ≤ strN) : reprX d = .ok (.fz (.str d.shown)) := by
  have h1 := PyData.shown_le_bulk 40 (by decide) d g.lv
  have h2 : d.shown.length ≤ strN := by
    have := g.bk
    have : (40 + 2) * d.bulk ≤ 42 * w := Nat.mul_le_mul_left 42 g.bk
    omega
  unfold reprX
  rw [g.sh, decide_eq_true (Nat.le_trans g.dp hh), decide_eq_true h2]
  rfl

theorem slice_len (l : List Nat) (lo hi : Option Int) : (slice l lo hi).length ≤ l.length := by
  unfold slice
  rw [List.length_take, List.length_drop]; omega

theorem r_text (n : Nat) (c : Int) {s : Str} (hs : s.cps.size ≤ 8) : ∃ t, run B1 (n + 1) (Str.ofString "_law_text") [.fz (.int c), .fz (.str s)] = .ok (.fz (.str t)) := by
  rw [eq_law_text]
  have hm : binop .Mod (.int (c.fdiv 4)) (.int ((s.cps.size : Int) + 1)) = .ok (.fz (.int ((c.fdiv 4).fmod ((s.cps.size : Int) + 1)))) := bo_mod _ (by omega)
  have hsz : strN = 16777216 := rfl
  simp (decide := true) only [bin, un, ifx, cmp1, cmp2, and_, or_, lstS, tupS, dicS, prsS, itm, slc, cal, bl1, isi, mnm, mtd, lcm, plI, rg1, rg2, enm, set_, mut_, ifS, own, fz, P.ok_bind, dOf_fz, dOf_own, truthV_bool, rdN_fz, rcv_fz, rcv_own, retN_fz, retN_own, gown_own, clear_fz, clear_own, evsS_nil, evsS_cons, dsOf_nil, dsOf_fz, fzb_ok, evUn_not, evUn_neg, bo_add, bo_sub, bo_mul_r, bo_mul_l, bo_div, bo_mod, bo_pow, cmp_lt, cmp_le, cmp_gt, cmp_ge, cmp_eq, cmp_ne, cmp_is, cmp_isnot, cmp_in, cmp_notin, isSame_bool, notP_ok, ofO_some, eqO_int, eqO_str, isinst_fz, isinst_own, typ_str, typ_dict, typ_int, typ_bool, contains_str, optInt_none, optInt_int, getSlice_list, getSlice_str, items_list, items_dict, items_str, lenD, isStrD, isDictD, isIntD, isBoolD, if_true, if_false, Bool.not_true, Bool.not_false, Bool.false_eq_true, hm]
  have hl : lenD (.str (Str.ofString " !#&()*+,-./0123456789:;<=>?@ABCDEFGHIJKLMNOPQRSTUVWXYZ[]^_{|}~")) = .ok (.fz (.int 63)) := by rfl
  by_cases h : c.fmod 4 = 0
  · simp only [h, beq_self_eq_true, if_true]
    have q := fmod_rng (c.fdiv 40) (n := 63) (by decide)
    obtain ⟨ch, _, _, e⟩ := gi_str (Str.ofString " !#&()*+,-./0123456789:;<=>?@ABCDEFGHIJKLMNOPQRSTUVWXYZ[]^_{|}~") q.1 (by show _ < ((63 : Nat) : Int); omega)
    have hsize : ((Str.ofString " !#&()*+,-./0123456789:;<=>?@ABCDEFGHIJKLMNOPQRSTUVWXYZ[]^_{|}~").cps.size : Int) = 63 := by rfl
    simp only [hsize]
    simp only [P.ok_bind, dOf_fz, e]
    unfold charD
    have l1 := slice_len s.cps.toList none (some ((c.fdiv 4).fmod ((s.cps.size : Int) + 1)))
    have l2 := slice_len s.cps.toList (some ((c.fdiv 4).fmod ((s.cps.size : Int) + 1))) none
    have l0 : s.cps.toList.length = s.cps.size := Array.length_toList
    generalize slice s.cps.toList none (some ((c.fdiv 4).fmod ((s.cps.size : Int) + 1))) = A at *
    generalize slice s.cps.toList (some ((c.fdiv 4).fmod ((s.cps.size : Int) + 1))) none = B at *
    have a1 : (⟨A.toArray⟩ : Str).length = A.length := by show A.toArray.size = _; simp
    have a2 : (⟨B.toArray⟩ : Str).length = B.length := by show B.toArray.size = _; simp
    have a3 : (⟨#[ch]⟩ : Str).length = 1 := rfl
    have a4 : ((⟨A.toArray⟩ : Str) ++ ⟨#[ch]⟩).length = A.length + 1 := by
      show (A.toArray ++ #[ch]).size = _; simp
    rw [bo_adds (by omega)]
    simp only [P.ok_bind, dOf_fz]
    rw [bo_adds (by omega)]
    exact ⟨_, rfl⟩
  · have h' : (c.fmod 4 == 0) = false := beq_eq_false_iff_ne.mpr h
    simp only [h', Bool.false_eq_true, if_false]
    have hmul : binop .Mult (.str s) (.int 2) = .ok (.fz (.str (repS s 2))) := if_pos ⟨by decide, by decide, by show s.cps.size ≤ 1024; omega⟩
    simp (decide := true) only [bin, un, ifx, cmp1, cmp2, and_, or_, lstS, tupS, dicS, prsS, itm, slc, cal, bl1, isi, mnm, mtd, lcm, plI, rg1, rg2, enm, set_, mut_, ifS, own, fz, P.ok_bind, dOf_fz, dOf_own, truthV_bool, rdN_fz, rcv_fz, rcv_own, retN_fz, retN_own, gown_own, clear_fz, clear_own, evsS_nil, evsS_cons, dsOf_nil, dsOf_fz, fzb_ok, evUn_not, evUn_neg, bo_add, bo_sub, bo_mul_r, bo_mul_l, bo_div, bo_mod, bo_pow, cmp_lt, cmp_le, cmp_gt, cmp_ge, cmp_eq, cmp_ne, cmp_is, cmp_isnot, cmp_in, cmp_notin, isSame_bool, notP_ok, ofO_some, eqO_int, eqO_str, isinst_fz, isinst_own, typ_str, typ_dict, typ_int, typ_bool, contains_str, optInt_none, optInt_int, getSlice_list, getSlice_str, items_list, items_dict, items_str, lenD, isStrD, isDictD, isIntD, isBoolD, if_true, if_false, Bool.not_true, Bool.not_false, Bool.false_eq_true, hmul]
    have q := fmod_rng c (n := 4) (by decide)
    have : c.fmod 4 = 1 ∨ c.fmod 4 = 2 ∨ c.fmod 4 = 3 := by omega
    rcases this with e | e | e <;> rw [e] <;> exact ⟨_, rfl⟩

theorem eq3 (a b c : Bool) : eqO (.list [.bool a, .bool b, .bool c]) (.list [.bool a, .bool b, .bool c]) = some true := by
  cases a <;> cases b <;> cases c <;> rfl

theorem things_loop (n : Nat) (a1 a2 a3 dc d1 d2 d3 : PyData) (kn : Store → P V) (kr : V → P V) : ∀ (ds : List PyData) (o4 o5 o6 o7 : Option V), (∀ d ∈ ds, OkD d ∧ d.depth ≤ n) →
    ∃ o4' o5' o6' o7', forC (b_law_2 (n + 4)) t_law_2 ds (S_law (some (.fz a1)) (some (.fz a2)) (some (.fz a3)) (some (.fz dc)) (some (.fz d1)) (some (.fz d2)) (some (.fz d3)) o4 o5 o6 o7) kn kr =
      kn (S_law (some (.fz a1)) (some (.fz a2)) (some (.fz a3)) (some (.fz dc)) (some (.fz d1)) (some (.fz d2)) (some (.fz d3)) o4' o5' o6' o7')
  | [], o4, o5, o6, o7, _ => ⟨o4, o5, o6, o7, rfl⟩
  | d :: ds, o4, o5, o6, o7, h => by
    obtain ⟨hd, hdp⟩ := h d (by simp)
    obtain ⟨b, t, hb, ht⟩ := table_agree hd
    obtain ⟨q, hq, _⟩ := name_agree d
    obtain ⟨x1, x2, _⟩ := hb (n + 1) (by omega)
    obtain ⟨_, _, x3⟩ := hb n hdp
    obtain ⟨y1, y2⟩ := hq (n + 3)
    have x1 : run B1 (n + 4) (Str.ofString "is_tree") [.fz d] = .ok (.fz (.bool b)) := x1
    have x2 : run B1 (n + 4) (Str.ofString "_law_is_tree") [.fz d] = .ok (.fz (.bool b)) := x2
    have y1 : run B1 (n + 4) (Str.ofString "is_name") [.fz d] = .ok (.fz (.bool q)) := y1
    have y2 : run B1 (n + 4) (Str.ofString "_law_is_name") [.fz d] = .ok (.fz (.bool q)) := y2
    have c1 : and_ (isi (Str.ofString "dict") (.ok (.fz d))) (.ok (.fz (.bool b))) = .ok (.fz (.bool (isDictD d && b))) := by
      simp only [and_, isi, isinst_fz, typ_dict, P.ok_bind, ofO_some, truthV_bool]
      cases isDictD d <;> rfl
    rw [c1] at ht
    have hc : ∀ f ts, cal (run B1 (n + 4)) f ts = (evsS ts).bind fun vs => run B1 (n + 4) f vs := fun _ _ => rfl
    simp only [forC_cons, ea_law_2, P.ok_bind, eb_law_2]
    simp only [hc, evsS_cons, evsS_nil, P.ok_bind, clear_fz, x1, x2, x3, y1, y2]
    rw [c1]
    simp only [P.ok_bind, clear_fz, rdN_fz]
    rw [ht]
    simp only [P.ok_bind, clear_fz, rdN_fz, lstS, evsS_cons, evsS_nil, dsOf_fz, dsOf_nil]
    have three : ([.bool q, .bool b, .bool t] : List PyData).length ≤ strN := by
      show 3 ≤ strN; decide
    rw [if_pos three]
    simp only [own, P.ok_bind, clear_own, rdN_fz]
    have comp0 : lcm (plI (.ok (.fz (.list [.bool q, .bool b, .bool t])))) (fun d6 => (P.bind (un .Not (isi (Str.ofString "bool") (.ok (.fz d6)))) truthV)) (fun d6 => (.ok (.fz d6))) = .ok (.own (.list [])) := rfl
    rw [comp0]
    have t1 : cmp1 (.ok (.own (.list []))) .NotEq (.ok (.own (.list []))) = .ok (.fz (.bool false)) := rfl
    have t2 : cmp1 (.ok (.fz (.list [.bool q, .bool b, .bool t]))) .NotEq (.ok (.fz (.list [.bool q, .bool b, .bool t]))) = .ok (.fz (.bool false)) := by
      simp only [cmp1, P.ok_bind, dOf_fz, cmp_ne, eq3, ofO_some, notP_ok, fzb_ok, Bool.not_true]
    simp only [or_, ifS, t1, t2, P.ok_bind, truthV_bool, Bool.false_eq_true, if_false]
    exact things_loop n a1 a2 a3 dc d1 d2 d3 kn kr ds _ _ _ _ fun x hx => h x (List.mem_cons_of_mem _ hx)

theorem cells_loop (n : Nat) (hn : 12 ≤ n) (a1 : PyData) {s : List Int} {ns : List PyData} (hN : Names ns (NM s)) {tr : PyData} (gt : Gd Tr 5 5000 tr) (kn : Store → P V) (kr : V → P V) : ∀ (cs : List Int) (o0 o1 o2 o3 o4 o5 o6 o7 : Option V),
    ∃ o0' o1' o2' o3' o4' o5' o6' o7', forC (b_law_1 (n + 4)) t_law_1 (cs.map PyData.int) (S_law (some (.fz a1)) (some (.fz (.list ns))) (some (.fz tr)) o0 o1 o2 o3 o4 o5 o6 o7) kn kr = kn (S_law (some (.fz a1)) (some (.fz (.list ns))) (some (.fz tr)) o0' o1' o2' o3' o4' o5' o6' o7')
  | [], o0, o1, o2, o3, o4, o5, o6, o7 => ⟨o0, o1, o2, o3, o4, o5, o6, o7, rfl⟩
  | c :: cs, o0, o1, o2, o3, o4, o5, o6, o7 => by
    have n8 : ∀ i, (NM s i).cps.size ≤ 8 := fun i => by
      show (nm (cellAt s 0) i).toArray.size ≤ 8
      have := nm_len (cellAt s 0) i
      simpa using this
    have m14 := fmod_rng c (n := 14) (by decide)
    have m14' := fmod_rng (c.fdiv 5) (n := 14) (by decide)
    have i1 := hN.item m14.1 m14.2
    have i2 := hN.item (k := 3) (by decide) (by decide)
    have i3 := hN.item m14'.1 m14'.2
    obtain ⟨od, h1, g1⟩ := r_odd (n + 3) c (hN.ok (c.fmod 14).toNat) (n8 _)
    obtain ⟨od2, h2, g2⟩ := r_odd (n + 3) (c.fdiv 21) (hN.ok (3 : Int).toNat) (n8 _)
    obtain ⟨tx, h3⟩ := r_text (n + 3) c (n8 ((c.fdiv 5).fmod 14).toNat)
    obtain ⟨v, d, h4, h5, g4⟩ := r_put g1 gt.ok 5 (n + 3) (c.fdiv 3) gt (by omega)
    have hc : ∀ f ts, cal (run B1 (n + 4)) f ts = (evsS ts).bind fun vs => run B1 (n + 4) f vs := fun _ _ => rfl
    have hr := repr_ok g4 (by omega) (by decide)
    have hv : V.clear (V.clear v) = .fz d := by rw [h5]; rfl
    simp only [List.map_cons, forC_cons, ea_law_1, P.ok_bind, eb_law_1]
    simp (decide := true) only [bin, un, ifx, cmp1, cmp2, and_, or_, lstS, tupS, dicS, prsS, itm, slc, cal, bl1, isi, mnm, mtd, lcm, plI, rg1, rg2, enm, set_, mut_, ifS, own, fz, P.ok_bind, dOf_fz, dOf_own, truthV_bool, rdN_fz, rcv_fz, rcv_own, retN_fz, retN_own, gown_own, clear_fz, clear_own, evsS_nil, evsS_cons, dsOf_nil, dsOf_fz, fzb_ok, evUn_not, evUn_neg, bo_add, bo_sub, bo_mul_r, bo_mul_l, bo_div, bo_mod, bo_pow, cmp_lt, cmp_le, cmp_gt, cmp_ge, cmp_eq, cmp_ne, cmp_is, cmp_isnot, cmp_in, cmp_notin, isSame_bool, notP_ok, ofO_some, eqO_int, eqO_str, isinst_fz, isinst_own, typ_str, typ_dict, typ_int, typ_bool, contains_str, optInt_none, optInt_int, getSlice_list, getSlice_str, items_list, items_dict, items_str, lenD, isStrD, isDictD, isIntD, isBoolD, if_true, if_false, Bool.not_true, Bool.not_false, Bool.false_eq_true, hc, i1, h1, h4, h5, hv, hr, i2, h2, i3, h3]
    obtain ⟨p4, p5, p6, p7, e⟩ := things_loop n a1 (.list ns) tr (.int c) d (.str d.shown) (.list [tr, d, od2, .str tx]) (fun σ => r_law_2 (n + 4) σ (fun σ => forC (b_law_1 (n + 4)) t_law_1 (cs.map PyData.int) σ kn kr) kr) kr [tr, d, od2, .str tx] o4 o5 o6 o7 (fun x hx => by
      simp only [List.mem_cons, List.not_mem_nil, or_false] at hx
      rcases hx with rfl | rfl | rfl | rfl
      · exact ⟨gt.ok.ok, by have := gt.dp; omega⟩
      · exact ⟨g4.ok, by have := g4.dp; omega⟩
      · exact ⟨g2.ok, by have := g2.dp; omega⟩
      · exact ⟨.atom _ rfl, Nat.zero_le _⟩)
    have four : ([tr, d, od2, .str tx] : List PyData).length ≤ strN := by show 4 ≤ strN; decide
    rw [if_pos four]
    simp only [P.ok_bind, clear_own, rdN_fz, dOf_fz, items_list]
    rw [e, er_law_2]
    simp (decide := true) only [bin, un, ifx, cmp1, cmp2, and_, or_, lstS, tupS, dicS, prsS, itm, slc, cal, bl1, isi, mnm, mtd, lcm, plI, rg1, rg2, enm, set_, mut_, ifS, own, fz, P.ok_bind, dOf_fz, dOf_own, truthV_bool, rdN_fz, rcv_fz, rcv_own, retN_fz, retN_own, gown_own, clear_fz, clear_own, evsS_nil, evsS_cons, dsOf_nil, dsOf_fz, fzb_ok, evUn_not, evUn_neg, bo_add, bo_sub, bo_mul_r, bo_mul_l, bo_div, bo_mod, bo_pow, cmp_lt, cmp_le, cmp_gt, cmp_ge, cmp_eq, cmp_ne, cmp_is, cmp_isnot, cmp_in, cmp_notin, isSame_bool, notP_ok, ofO_some, eqO_int, eqO_str, isinst_fz, isinst_own, typ_str, typ_dict, typ_int, typ_bool, contains_str, optInt_none, optInt_int, getSlice_list, getSlice_str, items_list, items_dict, items_str, lenD, isStrD, isDictD, isIntD, isBoolD, if_true, if_false, Bool.not_true, Bool.not_false, Bool.false_eq_true, hr]
    have beq : (d.shown == d.shown) = true := beq_self_eq_true _
    rw [beq]
    simp only [Bool.not_true, Bool.false_eq_true, if_false]
    exact cells_loop n hn a1 hN gt kn kr cs _ _ _ _ _ _ _ _

theorem slice_ints (s : List Int) (lo hi : Option Int) : slice (s.map PyData.int) lo hi = (slice s lo hi).map PyData.int := by
  unfold slice
  rw [List.map_take, List.map_drop, List.length_map]

theorem law1_true (s : List Int) : run B1 40 (Str.ofString "law") [.fz (.list (s.map .int))] = .ok (.fz (.bool true)) := by
  show run B1 (39 + 1) _ _ = _
  rw [eq_law]
  obtain ⟨ns, h1, hN⟩ := r_names 37 s
  obtain ⟨tr, h2, g⟩ := r_house 35 s hN
  have hc : ∀ f ts, cal (run B1 39) f ts = (evsS ts).bind fun vs => run B1 39 f vs := fun _ _ => rfl
  have h1 : run B1 39 (Str.ofString "_law_names") [.fz (.list (s.map .int))] = .ok (.own (.list ns)) := h1
  have h2 : run B1 39 (Str.ofString "_law_house") [.fz (.list (s.map .int)), .fz (.list ns)] = .ok (.fz tr) := h2
  simp (decide := true) only [bin, un, ifx, cmp1, cmp2, and_, or_, lstS, tupS, dicS, prsS, itm, slc, cal, bl1, isi, mnm, mtd, lcm, plI, rg1, rg2, enm, set_, mut_, ifS, own, fz, P.ok_bind, dOf_fz, dOf_own, truthV_bool, rdN_fz, rcv_fz, rcv_own, retN_fz, retN_own, gown_own, clear_fz, clear_own, evsS_nil, evsS_cons, dsOf_nil, dsOf_fz, fzb_ok, evUn_not, evUn_neg, bo_add, bo_sub, bo_mul_r, bo_mul_l, bo_div, bo_mod, bo_pow, cmp_lt, cmp_le, cmp_gt, cmp_ge, cmp_eq, cmp_ne, cmp_is, cmp_isnot, cmp_in, cmp_notin, isSame_bool, notP_ok, ofO_some, eqO_int, eqO_str, isinst_fz, isinst_own, typ_str, typ_dict, typ_int, typ_bool, contains_str, optInt_none, optInt_int, getSlice_list, getSlice_str, items_list, items_dict, items_str, lenD, isStrD, isDictD, isIntD, isBoolD, if_true, if_false, Bool.not_true, Bool.not_false, Bool.false_eq_true, hc, h1, h2]
  rw [slice_ints]
  obtain ⟨p0, p1, p2, p3, p4, p5, p6, p7, e⟩ := cells_loop 35 (by decide) (.list (s.map .int)) hN g (fun σ => r_law_1 39 σ (fun _ => P.ok (.fz .none)) P.ok) P.ok (slice s (some 2) (some 26)) none none none none none none none none
  rw [e, er_law_1]
  have i0 := hN.item (k := 0) (by decide) (by decide)
  obtain ⟨b, t, hb, ht⟩ := table_agree (d := .str (NM s (0 : Int).toNat)) (.atom _ rfl)
  have ht : (P.ok (V.fz (.bool false)) : P V) = P.ok (V.fz (.bool t)) := ht
  cases ht
  have x1 : run B1 39 (Str.ofString "is_table") [.fz (.str (NM s (0 : Int).toNat))] = .ok (.fz (.bool false)) := (hb 35 (Nat.zero_le _)).2.2
  have x2 : run B1 39 (Str.ofString "is_table") [.fz (.dict [])] = .ok (.fz (.bool true)) := by kernel_rfl
  have x3 : run B1 39 (Str.ofString "is_tree") [.fz (.int 0)] = .ok (.fz (.bool true)) := by kernel_rfl
  simp (decide := true) only [bin, un, ifx, cmp1, cmp2, and_, or_, lstS, tupS, dicS, prsS, itm, slc, cal, bl1, isi, mnm, mtd, lcm, plI, rg1, rg2, enm, set_, mut_, ifS, own, fz, P.ok_bind, dOf_fz, dOf_own, truthV_bool, rdN_fz, rcv_fz, rcv_own, retN_fz, retN_own, gown_own, clear_fz, clear_own, evsS_nil, evsS_cons, dsOf_nil, dsOf_fz, fzb_ok, evUn_not, evUn_neg, bo_add, bo_sub, bo_mul_r, bo_mul_l, bo_div, bo_mod, bo_pow, cmp_lt, cmp_le, cmp_gt, cmp_ge, cmp_eq, cmp_ne, cmp_is, cmp_isnot, cmp_in, cmp_notin, isSame_bool, notP_ok, ofO_some, eqO_int, eqO_str, isinst_fz, isinst_own, typ_str, typ_dict, typ_int, typ_bool, contains_str, optInt_none, optInt_int, getSlice_list, getSlice_str, items_list, items_dict, items_str, lenD, isStrD, isDictD, isIntD, isBoolD, if_true, if_false, Bool.not_true, Bool.not_false, Bool.false_eq_true, hc, i0, x1, x2, x3]
  rfl

end Mine

set_option Elab.async false
namespace Mine
open PySem PySem.W PyProof.Rows
noncomputable def V1 : Program := viewOf PySem.Challenge.rw_uf010037_01.prog
set_option maxRecDepth 100000 in
set_option maxHeartbeats 8000000 in
theorem left1 : LeftO PySem.Challenge.rw_uf010037_01.row.prog V1 [] (fun s => xlAt V1 [] s && recOk (RowW.records PySem.Challenge.rw_uf010037_01.row.toRowW) s) (Hook.obs Hook.none) (Hook.val Hook.none) 1346 := fun w => by kernel_rfl
set_option maxRecDepth 100000 in
set_option maxHeartbeats 8000000 in
theorem said1 : PySem.Challenge.rw_uf010037_01.wellSaid = true := by
  unfold OpenLaw.wellSaid OpenRow.wellSaid OpenRow.partSaid looksOpen
  with_reducible repeat' (refine look_both ?_ ?_)
  all_goals decide +kernel
end Mine
open PySem PySem.W PyProof.Rows Mine
set_option maxRecDepth 100000 in
set_option maxHeartbeats 8000000 in
theorem PySem.Challenge.cw_uf010037_01_holds : PySem.Challenge.rw_uf010037_01.Holds := by
  refine holds_law Mine.said1 fun said => ?_
  refine holds_open (q := Mine.V1) (loose := []) (Xt := fun s => xlAt Mine.V1 [] s && recOk (RowW.records PySem.Challenge.rw_uf010037_01.row.toRowW) s) (XP := XL Mine.V1 []) (Yf := Hook.obs Hook.none) (Ya := Hook.val Hook.none) (YP := Hook.says Hook.none) (N := 1346)
    Mine.left1 (Hook.of Hook.none) (Hook.keeps Hook.none) (fun s e => xl_of s (Bool.and_eq_true_iff.mp e).1) XL.keeps (by rfl) (by rfl) (by rfl) (fun s e => recFacts_of (Bool.and_eq_true_iff.mp e).2) (by rfl) said (by decide +kernel) ⟨rfl, rfl, rfl, rfl, rfl, by decide +kernel⟩ ?hw ?hc
  case hw => w_witness2
  intro w s₀ s₁ mg mb G Y fa o pm cd doc dV kV ho hd hcd hD hmg hg args vals as hpre hlay hrd hwl hlo
  have GL : Mine.Glo PySem.Challenge.rw_uf010037_01.row.prog w mg mb s₁.heap := Mine.glo_of_top G.T (fun f => by kernel_rfl) (by kernel_rfl) (by kernel_rfl) (by kernel_rfl)
  replace hmg : mg (Str.ofString "law") = some (.ref fa) := hmg
  clear ho hd hcd hD G Y
  wrow_args hpre hlay hrd hwl hlo
  rename_i ns _ _ _ _ _ _ _ l _ _ _ _ hw _ _ _ hn _
  refine Mine.law_done GL hmg hw (by omega) (by kernel_rfl) (N := 40) (by decide) (Mine.law1_true ns) fun s' k => ?_
  obtain ⟨h', tk, rfl, hk⟩ := k
  exact GoodW.toG ⟨.inl ⟨_, .bool true, [], rfl, fun _ => by kernel_rfl, .bool true, by kernel_rfl, fun _ => ⟨List.nodup_nil, by simp⟩⟩, hk, rfl, hg⟩

