import PyProof.Rows.All
import Wide.All
import OpenK.KWalk
import OpenK.KGet
import OpenK.KMake
import OpenK.KOwn
import OpenK.KCls
import OpenK.KCall
import OpenK.Peek
import KE.BytesMake
import KE.IntText
import KE.KBytesCut
import KE.KBytesWalk
import KE.KIntText
import KE.KPop
import KE.KxBytes
import KE.KSortAsk
import KE.KSortKey
import KE.KSortTup
import PySem.Challenge.RW_nt0289_01
set_option Elab.async false
set_option linter.all false
set_option maxRecDepth 1000000
section
open PySem PySem.W PyProof.Rows
set_option backward.match.sparseCases false
namespace Mine
section
noncomputable abbrev Byt := Array UInt8
inductive PV where
 | none
 | bool (b : Bool)
 | int (i : Int)
 | str (s : Str)
 | byt (b : Byt)
 | tup (l : List PV)
 | list (l : List PV)
 | inst (c : Nat) (fs : List (Str × PV))
 | exn (told : PV)
 | deck
deriving Inhabited
inductive Slot where
 | fz (v : PV)
 | ol (l : List PV)
 | od (l : List Byt)
 | oi (c : Nat) (fs : List (Str × PV))
deriving Inhabited
noncomputable def Slot.isOwn : Slot->Bool
 | .fz _ => false
 | _ => true
noncomputable abbrev Sto := List (Option Slot)
inductive T (α : Type) where
 | ret (a : α)
 | exc (told : PV) (σ : Sto)
 | draw (n : Nat) (k : Nat->T α)
 | need (c : Bool) (t : T α)
 | stuck (why : String)
namespace T
noncomputable def bind {α β : Type} : T α->(α->T β)->T β
 | ret a,f => f a
 | exc e σ,_ => exc e σ
 | draw n k,f => draw n fun r => (k r).bind f
 | need c t,f => need c (t.bind f)
 | stuck w,_ => stuck w
noncomputable instance : Monad T where
 pure := ret
 bind := bind
noncomputable def atSto {α : Type} (σ : Sto) : T α->T α
 | ret a => ret a
 | exc e _ => exc e σ
 | draw n k => draw n fun r => (k r).atSto σ
 | need c t => need c (t.atSto σ)
 | stuck w => stuck w
noncomputable def noExc {α : Type} : T α->T α
 | ret a => ret a
 | exc .. => stuck "a raise where none is looked for"
 | draw n k => draw n fun r => (k r).noExc
 | need c t => need c t.noExc
 | stuck w => stuck w
noncomputable def catchE {α : Type} : T α->(PV->Sto->T α)->T α
 | ret a,_ => ret a
 | exc e σ,h => h e σ
 | draw n k,h => draw n fun r => (k r).catchE h
 | need c t,h => need c (t.catchE h)
 | stuck w,_ => stuck w
end T
inductive Fl where
 | next
 | ret (v : PV)
deriving Inhabited
structure Fn where
 name : Str
 params : List Str
 scope : Scope
 body : List Stmt
deriving Inhabited
inductive Bi where
 | len | abs | chr | ord | list | tuple | bytes | int | str | none
deriving Inhabited
inductive G where
 | val (v : PV)
 | fn (f : Fn)
 | cls (c : Nat) (init : Fn) (own exc : Bool)
 | bi (id : Bi)
 | draw | sorted | hex
deriving Inhabited
structure Cx where
 glob : Str->Option G
 meth : Nat->Str->Option Fn
 attr : Nat->Str->Bool
noncomputable def strEq : List Nat->List Nat->Bool
 | [],[] => true
 | a :: r,b :: q => Nat.beq a b && strEq r q
 | _,_ => false
noncomputable def seq (a b : Str) : Bool := strEq a.cps.toList b.cps.toList
noncomputable def idx : List (Str × NameKind)->Str->Nat
 | [],_ => 0
 | p :: r,x => match seq p.1 x with
  | true => 0
  | false => idx r x + 1
noncomputable def kindOf : List (Str × NameKind)->Str->Option NameKind
 | [],_ => none
 | p :: r,x => match seq p.1 x with
  | true => some p.2
  | false => kindOf r x
set_option backward.match.sparseCases true in
noncomputable def getS (σ : Sto) (i : Nat) : Option Slot := match σ[i]? with
 | some (some s) => some s
 | _ => none
noncomputable def putS (σ : Sto) (i : Nat) (s : Slot) : Sto := σ.set i (some s)
noncomputable def field (fs : List (Str × PV)) (x : Str) : Option PV := match fs with
 | [] => none
 | p :: r => match seq p.1 x with
  | true => some p.2
  | false => field r x
noncomputable def setField (fs : List (Str × PV)) (x : Str) (v : PV) : List (Str × PV) := match fs with
 | [] => [(x,v)]
 | p :: r => match seq p.1 x with
  | true => (p.1,v) :: r
  | false => p :: setField r x v
noncomputable def constPV : Const->T PV
 | .none => .ret .none
 | .bool b => .ret (.bool b)
 | .int i => .ret (.int i)
 | .str s => if s.cps.size ≤ 1000 then .ret (.str s) else .stuck "const"
 | .bytes b => if b.length ≤ 1000 then .ret (.byt b.toArray) else .stuck "const"
 | _ => .stuck "const"
noncomputable def bytEq (a b : Byt) : Bool := a.toList == b.toList
noncomputable def pvEqs (eq : PV->PV->Option Bool) : List PV->List PV->Option Bool
 | [],m => match m with
  | [] => some true
  | _ => none
 | a :: r,m => match m with
  | [] => none
  | b :: q => (eq a b).bind fun x => (pvEqs eq r q).map fun y => x && y
noncomputable def pvEqN : Nat->PV->PV->Option Bool
 | 0,_,_ => none
 | n + 1,a,b => match a with
  | .none => (match b with
   | .none => some true
   | _ => none)
  | .bool a => (match b with
   | .bool b => some (a == b)
   | _ => none)
  | .int a => (match b with
   | .int b => some (decide (a = b))
   | _ => none)
  | .str a => (match b with
   | .str b => some (seq a b)
   | _ => none)
  | .byt a => (match b with
   | .byt b => some (bytEq a b)
   | _ => none)
  | .tup a => (match b with
   | .tup b => pvEqs (pvEqN n) a b
   | _ => none)
  | .list a => (match b with
   | .list b => (match Nat.beq a.length b.length with
    | true => pvEqs (pvEqN n) a b
    | false => some false)
   | _ => none)
  | _ => none
noncomputable def pvEq (a b : PV) : Option Bool := pvEqN 8 a b
noncomputable def bytLe : List UInt8->List UInt8->Bool
 | [],_ => true
 | _ :: _,[] => false
 | a :: r,b :: q => if a.toNat < b.toNat then true else if b.toNat < a.toNat then false else bytLe r q
noncomputable def startsAt : List UInt8->List UInt8->Bool
 | [],_ => true
 | _ :: _,[] => false
 | a :: r,b :: q => a == b && startsAt r q
noncomputable def findFrom (n : List UInt8) : List UInt8->Nat->Option Nat
 | [],k => if n.isEmpty then some k else none
 | b :: q,k => if startsAt n (b :: q) then some k else findFrom n q (k + 1)
noncomputable def bytFind (h n : Byt) (at_ : Nat) : Int := if at_ ≤ h.size then (match findFrom n.toList (h.toList.drop at_) at_ with | some k => (k : Int) | none => -1) else -1
noncomputable def lowerB (b : UInt8) : UInt8 := if 65 ≤ b.toNat ∧ b.toNat ≤ 90 then b + 32 else b
noncomputable def truthyPV : PV->Option Bool
 | .bool b => some b
 | _ => none
noncomputable def plainR : Expr->Bool
 | .Set .. => false
 | .Starred .. => false
 | _ => true
noncomputable def opt {α : Type} (w : String) : Option α->T α
 | some a => .ret a
 | none => .stuck w
noncomputable def chk {β : Type} (b : Bool) (k : T β) : T β := match b with
 | true => k
 | false => .stuck "test"
noncomputable def fzV {β : Type} (s : Slot) (k : PV->T β) : T β := match s with
 | .fz v => k v
 | _ => .stuck "own"
noncomputable def isGlob (k : Option NameKind) : Bool := k == some .globalImplicit
noncomputable def isLoc (k : Option NameKind) : Bool := k == some .local
noncomputable def optB (o : Option Bool) : T Bool := .need o.isSome (.ret (o.getD false))
noncomputable def lineB : Nat := 1000000
noncomputable def intV {β : Type} (a : PV) (k : Int->T β) : T β := match a with
 | .int x => k x
 | _ => .stuck "int"
noncomputable def bytV {β : Type} (a : PV) (k : Byt->T β) : T β := match a with
 | .byt x => k x
 | _ => .stuck "bytes"
noncomputable def strV {β : Type} (v : PV) (k : Str->T β) : T β := match v with
 | .str s => k s
 | _ => .stuck "str"
noncomputable def tupV {β : Type} (a : PV) (k : List PV->T β) : T β := match a with
 | .tup x => k x
 | _ => .stuck "tuple"
noncomputable def deckV {β : Type} (v : PV) (k : T β) : T β := match v with
 | .deck => k
 | _ => .stuck "deck"
noncomputable def listV {β : Type} (a : PV) (k : List PV->T β) : T β := match a with
 | .list x => k x
 | _ => .stuck "list"
noncomputable def addT (a b : PV) : T PV := match a with
 | .int x => intV b fun y => .ret (.int (x + y))
 | .byt x => bytV b fun y => T.need (Nat.ble (x.size + y.size) lineB) (.ret (.byt (x ++ y)))
 | .str x => (match b with
  | .str y => if x.cps.size + y.cps.size ≤ lineB then .ret (.str (x ++ y)) else .stuck "str: size"
  | _ => .stuck "add")
 | .list x => listV b fun y => T.need (Nat.ble (x.length + y.length) lineB) (.ret (.list (x ++ y)))
 | _ => .stuck "add"
noncomputable def mulT (a b : PV) : T PV := match a with
 | .int x => intV b fun y => if (x.natAbs < 2 ^ 60 ∧ y.natAbs < 2 ^ 100) ∨ (x.natAbs < 2 ^ 100 ∧ y.natAbs < 2 ^ 60) then .ret (.int (x * y)) else .stuck "mul"
 | .list x => intV b fun y => T.need (decide (y = 0) || decide (y = 1)) (.ret (.list (if y = 0 then [] else x)))
 | _ => .stuck "mul"
noncomputable def binop (op : Operator) (a b : PV) : T PV := match op with
 | .Add => addT a b
 | .Sub => intV a fun x => intV b fun y => .ret (.int (x - y))
 | .Mult => mulT a b
 | .Mod => intV a fun x => intV b fun y => if y > 0 then .ret (.int (x.fmod y)) else .stuck "mod"
 | .Pow => intV a fun x => intV b fun y => if x = 2 ∧ 0 ≤ y ∧ y < 100 then .ret (.int (2 ^ y.toNat)) else .stuck "pow"
 | _ => .stuck "binop"
noncomputable def inSeq (a : PV) : List PV->Option Bool
 | [] => some false
 | b :: r => (pvEq b a).bind fun x => (inSeq a r).map fun y => x || y
noncomputable def isNoneV : PV->Bool
 | .none => true
 | _ => false
noncomputable def noneV {β : Type} (a : PV) (k : T β) : T β := match a with
 | .none => k
 | _ => .stuck "None"
noncomputable def leT (a b : PV) : T PV := match a with
 | .int x => intV b fun y => .ret (.bool (decide (x ≤ y)))
 | .byt x => bytV b fun y => .ret (.bool (bytLe x.toList y.toList))
 | _ => .stuck "cmp"
noncomputable def inT (g : Bool->Bool) (a b : PV) : T PV := match b with
 | .byt h => (match a with
  | .int x => if 0 ≤ x ∧ x < 256 then .ret (.bool (g (h.toList.any fun u => decide ((u.toNat : Int) = x)))) else .stuck "in: no octet"
  | .byt n => .ret (.bool (g (decide (0 ≤ bytFind h n 0))))
  | _ => .stuck "in")
 | .tup l => do return .bool (g (← optB (inSeq a l)))
 | .list l => do return .bool (g (← optB (inSeq a l)))
 | _ => .stuck "in"
noncomputable def cmpop (op : CmpOp) (a b : PV) : T PV := match op with
 | .Eq => do return .bool (← optB (pvEq a b))
 | .NotEq => do return .bool (!(← optB (pvEq a b)))
 | .Lt => intV a fun x => intV b fun y => .ret (.bool (decide (x < y)))
 | .LtE => leT a b
 | .Gt => intV a fun x => intV b fun y => .ret (.bool (decide (x > y)))
 | .GtE => intV a fun x => intV b fun y => .ret (.bool (decide (x ≥ y)))
 | .Is => noneV b (.ret (.bool (isNoneV a)))
 | .IsNot => noneV b (.ret (.bool (!isNoneV a)))
 | .In => inT (fun b => b) a b
 | .NotIn => inT (fun b => !b) a b
noncomputable def itemT (k : Int) (at_ : Nat->Option PV) : T PV := match decide (0 ≤ k) with
 | true => opt "index" (at_ k.toNat)
 | false => .stuck "index out"
noncomputable def indexPV (o i : PV) : T PV := match o with
 | .tup l => intV i fun k => itemT k fun j => l[j]?
 | .list l => intV i fun k => itemT k fun j => l[j]?
 | .byt b => intV i fun k => itemT k fun j => b[j]?.map fun u => .int u.toNat
 | .str s => intV i fun k => itemT k fun j => s.cps[j]?.map fun u => .str ⟨#[u]⟩
 | _ => .stuck "subscript"
noncomputable def partOf : PV->Option (Option Int)
 | .none => some none
 | .int i => some (some i)
 | _ => none
noncomputable def cutBy {α : Type} (l : List α) (n : Nat) (lo hi : Option Int) : List α := match lo.elim 0 (clipAt n) with
 | a => (l.drop a).take (hi.elim n (clipAt n) - a)
noncomputable def slicePV (o a b : PV) : T PV := do
 let lo ← opt "slice" (partOf a)
 let hi ← opt "slice" (partOf b)
 match o with
 | .list l => .ret (.list (cutBy l l.length lo hi))
 | .byt s => .ret (.byt (cutBy s.toList s.size lo hi).toArray)
 | _ => .stuck "slice of"
noncomputable def natOfB (l : List Nat) : Option Nat := l.foldl (fun a c => a.bind fun n => if 48 ≤ c ∧ c ≤ 57 then some (10 * n + (c - 48)) else none) (some 0)
noncomputable def octs : List PV->Option (List UInt8)
 | [] => some []
 | .int i :: r => if 0 ≤ i ∧ i < 256 then (octs r).map (UInt8.ofNat i.toNat :: ·) else none
 | _ :: _ => none
noncomputable def strsOf : List PV->Option (List Nat)
 | [] => some []
 | .str s :: r => (strsOf r).map (s.cps.toList ++ ·)
 | _ :: _ => none
noncomputable def bytsOf : List PV->Option (List UInt8)
 | [] => some []
 | .byt s :: r => (bytsOf r).map (s.toList ++ ·)
 | _ :: _ => none
noncomputable def items : PV->Option (List PV)
 | .list l => some l
 | .tup l => some l
 | .byt b => some (b.toList.map fun u => .int u.toNat)
 | .str s => some (s.cps.toList.map fun u => .str ⟨#[u]⟩)
 | _ => none
noncomputable def one {α β : Type} (l : List α) (k : α->T β) : T β := match l with
 | [a] => k a
 | _ => .stuck "one"
noncomputable def two {α β : Type} (l : List α) (k : α->α->T β) : T β := match l with
 | [a,b] => k a b
 | _ => .stuck "two"
noncomputable def biCall (id : Bi) (args : List PV) : T PV := one args fun a => match id with
 | .len => (match a with
  | .list l => .ret (.int l.length)
  | .tup l => .ret (.int l.length)
  | .byt l => .ret (.int l.size)
  | .str l => .ret (.int l.cps.size)
  | _ => .stuck "len")
 | .abs => intV a fun i => .ret (.int i.natAbs)
 | .chr => intV a fun i => if 0 ≤ i ∧ i < 256 then .ret (.str ⟨#[i.toNat]⟩) else .stuck "chr"
 | .ord => strV a fun s => one s.cps.toList fun c => .ret (.int c)
 | .list => listV a fun l => .ret (.list l)
 | .tuple => (match a with
  | .tup l => .ret (.tup l)
  | _ => .stuck "tuple")
 | .bytes => listV a fun l => do return .byt (← opt "bytes" (octs l)).toArray
 | .int => (match a with
  | .bool b => .ret (.int (if b then 1 else 0))
  | .int i => .ret (.int i)
  | .str s => two s.cps.toList fun a b => do return .int (← opt "int" (natOfB [a,b]) : Nat)
  | _ => .stuck "int of")
 | .str => intV a fun i => if 0 ≤ i ∧ i < 2 ^ 100 ∧ (Str.ofString (toString i.toNat)).cps.size ≤ lineB then .ret (.str (Str.ofString (toString i.toNat))) else .stuck "str of int"
 | .none => .stuck "call"
noncomputable def joinB (l : List PV) : T PV := do
 let r ← opt "join" (bytsOf l)
 chk (Nat.ble l.length 2) (.need (Nat.ble r.length lineB) (.ret (.byt r.toArray)))
noncomputable def joinS (l : List PV) : T PV := do
 let r ← opt "join" (strsOf l)
 chk (Nat.ble r.length lineB) (.ret (.str ⟨r.toArray⟩))
inductive Mt where
 | find (b : Byt) | starts (b : Byt) | lower (b : Byt) | joinB | findS (s : Str) | joinS
noncomputable def mtOf (o : PV) (m : Str) : Option Mt := match o with
 | .byt b => if seq m "find" then some (.find b) else if seq m "startswith" then some (.starts b) else if seq m "lower" then some (.lower b) else if seq m "join" && b.size == 0 then some .joinB else none
 | .str b => if seq m "find" then some (.findS b) else if seq m "join" && b.cps.size == 0 then some .joinS else none
 | _ => none
noncomputable def findT (b : Byt) : List PV->T PV
 | [] => .stuck "find"
 | x :: r => match r with
  | [] => bytV x fun n => .ret (.int (bytFind b n 0))
  | y :: r => chk r.isEmpty (bytV x fun n => intV y fun k => if 0 ≤ k then .ret (.int (bytFind b n k.toNat)) else .stuck "find")
noncomputable def mtCall (k : Mt) (args : List PV) : T PV := match k with
 | .find b => findT b args
 | .starts b => two args fun x y => bytV x fun n => intV y fun k => if 0 ≤ k then .ret (.bool (decide (k.toNat ≤ b.size) && startsAt n.toList (b.toList.drop k.toNat))) else .stuck "startswith"
 | .lower b => chk args.isEmpty (.ret (.byt (b.map lowerB)))
 | .joinB => one args fun x => listV x joinB
 | .findS b => one args fun x => strV x fun n => one n.cps.toList fun c => .ret (.int (match b.cps.toList.findIdx? (· == c) with | some k => (k : Int) | none => -1))
 | .joinS => one args fun x => listV x joinS
noncomputable def compScope (sc outer : Scope) : Scope := { sc with names := sc.names.map fun p => if p.2 == .free && outer.kind == .function && kindOf outer.names p.1 == some .cell then (p.1,.cell) else p }
noncomputable def compSto (sc : List (Str × NameKind)) (outer : Scope) (σ : Sto) : Sto := sc.map fun p => match p.2 with
 | .cell => (match getS σ (idx outer.names p.1) with | some (.fz v) => some (.fz v) | _ => none)
 | _ => none
structure Lv where
 ev : Scope->Sto->Expr->T (PV × Sto)
 isT : Scope->Sto->Expr->T (Bool × Sto)
 ex : Scope->Sto->Stmt->T (Fl × Sto)
 call : Fn->List Slot->T (PV × Option Slot)
noncomputable def Lv.zero : Lv := ⟨fun _ _ _ => .stuck "fuel",fun _ _ _ => .stuck "fuel",fun _ _ _ => .stuck "fuel",fun _ _ => .stuck "fuel"⟩
section
variable (C : Cx) (P : Lv)
noncomputable def evs (sc : Scope) : Sto->List Expr->T (List PV × Sto)
 | σ,[] => .ret ([],σ)
 | σ,e :: r => chk (plainR e) do
  let v ← P.ev sc σ e
  let vs ← evs sc v.2 r
  return (v.1 :: vs.1,vs.2)
noncomputable def afterT (y : Fl × Sto) (k : Sto->T (Fl × Sto)) : T (Fl × Sto) := match y.1 with
 | .next => k y.2
 | .ret v => .ret (.ret v,y.2)
noncomputable def exs (sc : Scope) : Sto->List Stmt->T (Fl × Sto)
 | σ,[] => .ret (.next,σ)
 | σ,s :: r => do
  let y ← P.ex sc σ s
  afterT y fun σ => exs sc σ r
noncomputable def slotFz (σ : Sto) (i : Nat) : Slot->T (PV × Sto)
 | .fz v => .ret (v,σ)
 | .ol l => .ret (.list l,putS σ i (.fz (.list l)))
 | _ => .stuck "a thing of one's own"
noncomputable def nameFz (σ : Sto) (i : Nat) : T (PV × Sto) := do slotFz σ i (← opt "unbound" (getS σ i))
noncomputable def nameOf : Expr->Option Str
 | .Name x _ => some x
 | _ => none
noncomputable def ownS (i : Nat) : Option Slot->Option (Nat × Slot)
 | some s => match s.isOwn with
  | true => some (i,s)
  | false => none
 | none => none
noncomputable def ownAt (sc : Scope) (σ : Sto) (e : Expr) : Option (Nat × Slot) := match nameOf e with
 | some x => (match isLoc (kindOf sc.names x) with
  | true => ownS (idx sc.names x) (getS σ (idx sc.names x))
  | false => none)
 | none => none
set_option backward.match.sparseCases true in
noncomputable def boolChain (op : BoolOp) (sc : Scope) : Sto->List Expr->T (PV × Sto)
 | _,[] => .stuck "bool"
 | σ,[e] => P.ev sc σ e
 | σ,e :: r => do
  let (v,σ) ← P.ev sc σ e
  let t ← opt "truth" (truthyPV v)
  match op,t with
  | .And,false | .Or,true => .ret (v,σ)
  | _,_ => boolChain op sc σ r
set_option backward.match.sparseCases true in
noncomputable def allT (op : BoolOp) (sc : Scope) : Sto->List Expr->T (Bool × Sto)
 | σ,[] => .ret (op == .And,σ)
 | σ,e :: r => do
  let (t,σ) ← P.isT sc σ e
  match op,t with
  | .And,false => .ret (false,σ)
  | .Or,true => .ret (true,σ)
  | _,_ => allT op sc σ r
noncomputable def inOwn (σ : Sto) (op : CmpOp) (a : PV) : Slot->T (PV × Sto)
 | .od ks => (match op with
  | .In => bytV a fun k => .ret (.bool (ks.any (bytEq · k)),σ)
  | _ => .stuck "in a dict")
 | _ => .stuck "in"
noncomputable def isOd : Option (Nat × Slot)->Option Slot
 | some s => (match s.2 with
  | .od ks => some (.od ks)
  | _ => none)
 | none => none
noncomputable def cmpAt (sc : Scope) (σ : Sto) (a : PV) (op : CmpOp) (r : Expr) : Option Slot->T (PV × Sto)
 | some s => inOwn σ op a s
 | none => do
  let b ← P.ev sc σ r
  return (← cmpop op a b.1,b.2)
noncomputable def evCmp (sc : Scope) (σ : Sto) (l : Expr) (op : CmpOp) (r : Expr) : T (PV × Sto) := chk (plainR r) do
 let a ← P.ev sc σ l
 cmpAt P sc a.2 a.1 op r (isOd (ownAt sc a.2 r))
noncomputable def shortT {β : Type} (vs : List PV) (r : β) : T β := match Nat.ble vs.length 1000 with
 | true => .ret r
 | false => .stuck "long"
noncomputable def partE (sc : Scope) (σ : Sto) : Option Expr->T (PV × Sto)
 | none => .ret (.none,σ)
 | some e => P.ev sc σ e
noncomputable def isRow : PV->Bool
 | .tup [.int _,.byt b,.byt _] => Nat.ble b.size 1000
 | _ => false
noncomputable def sortDraw (l : List PV) : Nat->T (List PV)
 | 0 => .ret []
 | n + 1 => .draw l.length fun r => (match l[r]? with
  | some v => (sortDraw l n).bind fun vs => .ret (v :: vs)
  | none => .stuck "sorted")
noncomputable def hexSigns : List UInt8 := [48,49,50,51,52,53,54,55,56,57,97,98,99,100,101,102]
noncomputable def hexOf (b : Byt) : Byt := (b.toList.flatMap fun u => [hexSigns.getD (u.toNat / 16) 0,hexSigns.getD (u.toNat % 16) 0]).toArray
noncomputable def instV {β : Type} (v : PV) (k : Nat->List (Str × PV)->T β) : T β := match v with
 | .inst c fs => k c fs
 | _ => .stuck "inst"
noncomputable def oiV {β : Type} (v : Slot) (k : Nat->List (Str × PV)->T β) : T β := match v with
 | .oi c fs => k c fs
 | _ => .stuck "inst"
noncomputable def madeS (c : Nat) (v : PV) : Option Slot->T (List (Str × PV))
 | some s => oiV s fun c' fs => noneV v (chk (Nat.beq c c') (.ret fs))
 | none => .stuck "init"
noncomputable def madeT (c : Nat) (r : PV × Option Slot) : T (List (Str × PV)) := madeS c r.1 r.2
noncomputable def callG (σ : Sto) (g : G) (args : List PV) : T PV := match g with
 | .fn f => do return (← (P.call f (args.map .fz)).atSto σ).1
 | .cls c init _ exc => chk (!exc) do return .inst c (← madeT c (← (P.call init (.oi c [] :: args.map .fz)).noExc))
 | .bi id => biCall id args
 | .draw => two args fun a b => deckV a (intV b fun n => .need (decide (0 < n) && decide (n < 1000)) (.draw n.toNat fun r => .ret (.int r)))
 | .hex => one args fun a => bytV a fun b => .need (Nat.beq b.size 2) (.ret (.byt (hexOf b)))
 | _ => .stuck "called"
noncomputable def rangeOf : List PV->Option (List PV)
 | [] => none
 | a :: r => match a with
  | .int n => (match r with
   | [] => if 0 ≤ n ∧ n < 1000 then some ((List.range n.toNat).map fun k : Nat => .int (k : Int)) else none
   | b :: r => match b with
    | .int b => (match r with
     | [c] => (match c with
      | .int c => if n = 0 ∧ b = 4 ∧ c = 2 then some ((List.range 2).map fun k : Nat => .int (2 * (k : Int))) else none
      | _ => none)
     | _ => none)
    | _ => none)
  | _ => none
noncomputable def evArgs (sc : Scope) (σ : Sto) (args : List Expr) : T (List PV × Sto) := chk (args.all plainR) (evs P sc σ args)
noncomputable def biArgs (sc : Scope) (b : Str) : Expr->Option (List Expr)
 | .Call f args kws _ => (match f with
  | .Name f _ => (match kws.isEmpty && isGlob (kindOf sc.names f) && seq f b with
   | true => some args
   | false => none)
  | _ => none)
 | _ => none
noncomputable def rangeArgs (sc : Scope) (e : Expr) : Option (List Expr) := biArgs sc "range" e
noncomputable def enumArgs (sc : Scope) (e : Expr) : Option (List Expr) := biArgs sc "enumerate" e
noncomputable def iterAt (sc : Scope) (σ : Sto) (e : Expr) : Option (List Expr)->T (List PV × Sto)
 | some args => do
  let vs ← evArgs P sc σ args
  return (← opt "range" (rangeOf vs.1),vs.2)
 | none => do
  let v ← P.ev sc σ e
  return (← opt "iter" (items v.1),v.2)
noncomputable def iterOf (sc : Scope) (σ : Sto) (e : Expr) : T (List PV × Sto) := chk (plainR e) (iterAt P sc σ e (rangeArgs sc e))
noncomputable def bindN (sc : Scope) (σ : Sto) (v : PV) : Option Str->T Sto
 | some x => chk (isLoc (kindOf sc.names x)) (.ret (putS σ (idx sc.names x) (.fz v)))
 | none => .stuck "target"
noncomputable def bindGo (sc : Scope) : Sto->List Expr->List PV->T Sto
 | σ,[],vs => chk vs.isEmpty (.ret σ)
 | σ,t :: ts,vs => match vs with
  | [] => .stuck "target"
  | v :: vs => do
   let σ ← bindN sc σ v (nameOf t)
   bindGo sc σ ts vs
noncomputable def bindT (sc : Scope) (σ : Sto) (t : Expr) (v : PV) : T Sto := match t with
 | .Name x _ => bindN sc σ v (some x)
 | .Tuple ts _ _ => tupV v fun vs => chk (ts.length == vs.length) (bindGo sc σ ts vs)
 | _ => .stuck "target"
noncomputable def testAll (sc : Scope) : Sto->List Expr->T (Bool × Sto)
 | σ,[] => .ret (true,σ)
 | σ,e :: r => do
  let c ← P.isT sc σ e
  match c.1 with
  | true => testAll sc c.2 r
  | false => .ret (false,c.2)
noncomputable def isName : Expr->Bool
 | .Name .. => true
 | _ => false
noncomputable def compLoop (sc : Scope) (elt target : Expr) (ifs : List Expr) : Sto->List PV->T (List PV × Sto)
 | σ,[] => .ret ([],σ)
 | σ,v :: r => do
  let σ ← bindT sc σ target v
  let c ← testAll P sc σ ifs
  match c.1 with
  | true => do
   let x ← P.ev sc c.2 elt
   let xs ← compLoop sc elt target ifs x.2 r
   return (x.1 :: xs.1,xs.2)
  | false => compLoop sc elt target ifs c.2 r
noncomputable def methOk (apos pos : Pos) (args : List Expr) : Bool := apos.endLine == pos.line && args.all plainR && Nat.blt args.length 28
noncomputable def simpleBase : Expr->Bool
 | .Name .. => true
 | .Constant .. => true
 | _ => false
noncomputable def methOf (c : Nat) (m : Str) (fs : List (Str × PV)) : Option Fn := match field fs m with
 | none => C.meth c m
 | some _ => none
noncomputable def selfBack (σ : Sto) (i c : Nat) (r : PV) : Option Slot->T (PV × Sto)
 | some s => oiV s fun c₂ fs => chk (Nat.beq c c₂) (.ret (r,putS σ i (.oi c fs)))
 | none => .stuck "self"
noncomputable def methOwn (sc : Scope) (σ : Sto) (i : Nat) (m : Str) (args : List Expr) (c : Nat) (q : List (Str × PV)) : T (PV × Sto) := do
 let fn ← opt "no such method" (methOf C c m q)
 let vs ← evs P sc σ args
 let s ← opt "self" (getS vs.2 i)
 oiV s fun c₁ fs => chk (Nat.beq c c₁) do
  let r ← (P.call fn (.oi c fs :: vs.1.map .fz)).noExc
  selfBack vs.2 i c r.1 r.2
noncomputable def methInst (sc : Scope) (σ : Sto) (m : Str) (args : List Expr) (c : Nat) (fs : List (Str × PV)) : T (PV × Sto) := do
 let fn ← opt "no such method" (methOf C c m fs)
 let vs ← evs P sc σ args
 let r ← (P.call fn (.fz (.inst c fs) :: vs.1.map .fz)).noExc
 return (r.1,vs.2)
noncomputable def methVal (sc : Scope) (σ : Sto) (m : Str) (args : List Expr) (ov : PV) : T (PV × Sto) := match ov with
 | .inst c fs => methInst C P sc σ m args c fs
 | ov => do
  let k ← opt "no such method" (mtOf ov m)
  let vs ← evs P sc σ args
  return (← mtCall k vs.1,vs.2)
noncomputable def methAt (sc : Scope) (σ : Sto) (o : Expr) (m : Str) (args : List Expr) : Option (Nat × Slot)->T (PV × Sto)
 | some s => oiV s.2 fun c q => methOwn C P sc σ s.1 m args c q
 | none => do
  let v ← P.ev sc σ o
  methVal C P sc v.2 m args v.1
noncomputable def evMeth (sc : Scope) (σ : Sto) (o : Expr) (m : Str) (args : List Expr) : T (PV × Sto) := methAt C P sc σ o m args (ownAt sc σ o)
noncomputable def compOk (cs sc : Scope) (σ : Sto) : Bool := cs.kind == .function && (kindOf cs.names "__debug__").isNone && cs.names.all fun p => kindOf cs.names p.1 == some p.2 && (match p.2 with
 | .local => true
 | .globalImplicit => true
 | .free => sc.kind == .function && kindOf sc.names p.1 == some .cell && (match getS σ (idx sc.names p.1) with | some (.fz _) => true | _ => false)
 | _ => false)
noncomputable def evComp (sc : Scope) (σ : Sto) (elt t it : Expr) (ifs : List Expr) (cs : Scope) : T (List PV × Sto) := chk (isName t && compOk cs sc σ) do
 let xs ← iterOf P sc σ it
 chk (Nat.ble xs.1.length 1000) do
  let vs ← (compLoop P (compScope cs sc) elt t ifs (compSto (compScope cs sc).names sc xs.2) xs.1).noExc
  return (vs.1,xs.2)
noncomputable def constOf : Expr->Option Const
 | .Constant c _ _ => some c
 | _ => none
noncomputable def litI (o : Option Expr) : Option Int := o.bind fun e => (constOf e).bind fun c => match c with
 | .int k => some k
 | _ => none
noncomputable def litB (e : Expr) : Option Byt := (constOf e).bind fun c => match c with
 | .bytes b => if Nat.ble b.length 1000 then some b.toArray else none
 | _ => none
noncomputable def litTab : List (Option Expr)->List Expr->Option (List (Int × Byt))
 | [],ds => match ds with
  | [] => some []
  | _ => none
 | k :: ks,ds => match ds with
  | [] => none
  | e :: ds => (litI k).bind fun k => (litB e).bind fun b => (litTab ks ds).map fun r => (k,b) :: r
noncomputable def tabAt : List (Int × Byt)->Int->Option Byt
 | [],_ => none
 | p :: r,k => if p.1 = k then some p.2 else tabAt r k
noncomputable def distinct : List Int->Bool
 | [] => true
 | a :: r => !(r.any fun b => decide (b = a)) && distinct r
noncomputable def callable : Option G->Option G
 | some g => (match g with
  | .val _ => none
  | .sorted => none
  | g => some g)
 | none => none
noncomputable def keyed : List Keyword->Option (Str × Str)
 | [k] => (match k.arg with
  | some a => (match nameOf k.value with
   | some y => some (a,y)
   | none => none)
  | none => none)
 | _ => none
noncomputable def isSorted : Option G->Bool
 | some g => (match g with
  | .sorted => true
  | _ => false)
 | none => false
noncomputable def callKey (sc : Scope) (σ : Sto) (x : Str) (args : List Expr) (k y : Str) : T (PV × Sto) := chk (isGlob (kindOf sc.names x) && isSorted (C.glob x) && (seq k "key" && seq y "_law_key" && isGlob (kindOf sc.names y))) do
 let vs ← evArgs P sc σ args
 one vs.1 fun v => listV v fun l => chk (Nat.ble l.length 3) (.need (l.all isRow) (do return (.list (← sortDraw l l.length),vs.2)))
noncomputable def callName (sc : Scope) (σ : Sto) (x : Str) (args : List Expr) : List Keyword->T (PV × Sto)
 | [] => chk (isGlob (kindOf sc.names x)) do
  let g ← opt "no such name" (callable (C.glob x))
  let vs ← evArgs P sc σ args
  return (← callG P vs.2 g vs.1,vs.2)
 | k :: r => do
  let q ← opt "keywords" (keyed (k :: r))
  callKey C P sc σ x args q.1 q.2
noncomputable def getT (sc : Scope) (σ : Sto) (tab : List (Int × Byt)) (args : List Expr) : T (PV × Sto) := chk (distinct (tab.map (·.1)) && !tab.isEmpty) do
 let vs ← evs P sc σ args
 two vs.1 fun k d => intV k fun k => match tabAt tab k with
  | some b => .ret (.byt b,vs.2)
  | none => .ret (d,vs.2)
noncomputable def callMeth (sc : Scope) (σ : Sto) (o : Expr) (m : Str) (apos : Pos) (args : List Expr) (pos : Pos) : T (PV × Sto) := match o with
 | .Dict ks ds _ => chk (seq m "get" && methOk apos pos args && Nat.ble ks.length 15) do getT P sc σ (← opt "dict" (litTab ks ds)) args
 | o => chk (methOk apos pos args && simpleBase o) (evMeth C P sc σ o m args)
noncomputable def evCall (sc : Scope) (σ : Sto) (f : Expr) (args : List Expr) (kws : List Keyword) (pos : Pos) : T (PV × Sto) := match f with
 | .Name x _ => callName C P sc σ x args kws
 | .Attribute o m apos => chk kws.isEmpty (callMeth C P sc σ o m apos args pos)
 | _ => .stuck "call"
noncomputable def cellT (σ : Sto) : Option Slot->T (PV × Sto)
 | some s => (match s with
  | .fz v => .ret (v,σ)
  | _ => .stuck "cell")
 | none => .stuck "cell"
noncomputable def globT (σ : Sto) : Option G->T (PV × Sto)
 | some g => (match g with
  | .val v => .ret (v,σ)
  | _ => .stuck "global")
 | none => .stuck "global"
noncomputable def nameT (σ : Sto) (i : Nat) (g : Option G) : Option NameKind->T (PV × Sto)
 | some k => (match k with
  | .local => nameFz σ i
  | .cell => cellT σ (getS σ i)
  | .globalImplicit => globT σ g
  | _ => .stuck "name")
 | none => .stuck "name"
noncomputable def attrOf (σ : Sto) (a : Str) (c : Nat) (fs : List (Str × PV)) : T (PV × Sto) := chk (C.attr c a) do return (← opt "attr" (field fs a),σ)
noncomputable def attrT (sc : Scope) (σ : Sto) (o : Expr) (a : Str) : Option (Nat × Slot)->T (PV × Sto)
 | some s => oiV s.2 fun c fs => attrOf C σ a c fs
 | none => do
  let r ← P.ev sc σ o
  instV r.1 fun c fs => attrOf C r.2 a c fs
noncomputable def attrE (sc : Scope) (σ : Sto) (o : Expr) (a : Str) : Option Str->T (PV × Sto)
 | some _ => attrT C P sc σ o a (ownAt sc σ o)
 | none => .stuck "attribute of"
noncomputable def sliceT (sc : Scope) (σ : Sto) (o : Expr) (a b : Option Expr) : T (PV × Sto) := do
 let r ← P.ev sc σ o
 let x ← partE P sc r.2 a
 let y ← partE P sc x.2 b
 return (← slicePV r.1 x.1 y.1,y.2)
noncomputable def itemE (sc : Scope) (σ : Sto) (o i : Expr) : T (PV × Sto) := do
 let r ← P.ev sc σ o
 let k ← P.ev sc r.2 i
 return (← indexPV r.1 k.1,k.2)
noncomputable def sliceOf : Expr->Option (Option Expr × Option Expr)
 | .Slice a b none _ => some (a,b)
 | _ => none
noncomputable def subT (sc : Scope) (σ : Sto) (o i : Expr) : Option (Option Expr × Option Expr)->T (PV × Sto)
 | some p => sliceT P sc σ o p.1 p.2
 | none => itemE P sc σ o i
noncomputable def genOf : List Comprehension->Option (Expr × Expr × List Expr)
 | [g] => if g.is_async = 0 then some (g.target,g.iter,g.ifs) else none
 | _ => none
noncomputable def evStep (sc : Scope) (σ : Sto) (e : Expr) : T (PV × Sto) := match e with
 | .Constant c _ _ => do return (← constPV c,σ)
 | .Name x _ => nameT σ (idx sc.names x) (C.glob x) (kindOf sc.names x)
 | .BinOp l op r _ => do
  let a ← P.ev sc σ l
  let b ← P.ev sc a.2 r
  return (← binop op a.1 b.1,b.2)
 | .UnaryOp op x _ => (match op with
  | .Not => do
   let v ← P.ev sc σ x
   return (.bool (!(← opt "not" (truthyPV v.1))),v.2)
  | .USub => do
   let v ← P.ev sc σ x
   intV v.1 fun i => .ret (.int (-i),v.2)
  | _ => .stuck "unary")
 | .BoolOp op es _ => boolChain P op sc σ es
 | .IfExp t b o _ => do
  let c ← P.isT sc σ t
  if c.1 then P.ev sc c.2 b else P.ev sc c.2 o
 | .Compare l ops rs _ => one ops fun op => one rs fun r => evCmp P sc σ l op r
 | .Call f args kws p => evCall C P sc σ f args kws p
 | .Attribute o a _ => attrE C P sc σ o a (nameOf o)
 | .Subscript o i _ => subT P sc σ o i (sliceOf i)
 | .Tuple es _ _ => do
  let v ← evs P sc σ es
  shortT v.1 (.tup v.1,v.2)
 | .List es _ => do
  let v ← evs P sc σ es
  shortT v.1 (.list v.1,v.2)
 | .ListComp elt gs cs _ => do
  let g ← opt "comprehension" (genOf gs)
  let v ← evComp P sc σ elt g.1 g.2.1 g.2.2 cs
  return (.list v.1,v.2)
 | _ => .stuck "expr"
noncomputable def truthT (r : PV × Sto) : T (Bool × Sto) := do return (← opt "truth" (truthyPV r.1),r.2)
noncomputable def chainT (sc : Scope) (σ : Sto) (l : Expr) (op₁ op₂ : CmpOp) (r₁ r₂ : Expr) : T (Bool × Sto) := chk (plainR r₁ && plainR r₂) do
 let a ← P.ev sc σ l
 let b ← P.ev sc a.2 r₁
 let c ← cmpop op₁ a.1 b.1
 let t ← opt "truth" (truthyPV c)
 if t then
  let z ← P.ev sc b.2 r₂
  let c ← cmpop op₂ b.1 z.1
  return (← opt "truth" (truthyPV c),z.2)
 else .ret (false,b.2)
noncomputable def valT : Expr->Bool
 | .UnaryOp .. => false
 | .BoolOp .. => false
 | .IfExp .. => false
 | .Compare .. => false
 | _ => true
noncomputable def isTStep (sc : Scope) (σ : Sto) (e : Expr) : T (Bool × Sto) := match e with
 | .UnaryOp op x p => (match op with
  | .Not => do
   let t ← P.isT sc σ x
   return (!t.1,t.2)
  | op => P.ev sc σ (.UnaryOp op x p) >>= truthT)
 | .BoolOp op es _ => allT P op sc σ es
 | .IfExp t b o _ => do
  let c ← P.isT sc σ t
  if c.1 then P.isT sc c.2 b else P.isT sc c.2 o
 | .Compare l ops rs _ => (match ops with
  | [] => .stuck "chain"
  | op :: os => (match rs with
   | [] => .stuck "chain"
   | r :: rs => (match os with
    | [] => (match rs with
     | [] => evCmp P sc σ l op r >>= truthT
     | _ => .stuck "chain")
    | op₂ :: os => (match os with
     | [] => one rs fun r₂ => chainT P sc σ l op op₂ r r₂
     | _ => .stuck "chain"))))
 | e => P.ev sc σ e >>= truthT
noncomputable def ownList (sc : Scope) (σ : Sto) (es : List Expr) : T (Slot × Sto) := do
 let v ← evs P sc σ es
 shortT v.1 (.ol v.1,v.2)
noncomputable def listOf : Expr->Option (List Expr)
 | .List es _ => some es
 | _ => none
noncomputable def clsOf : Option G->Option (Nat × Fn)
 | some g => (match g with
  | .cls c init own exc => (match own && !exc with
   | true => some (c,init)
   | false => none)
  | _ => none)
 | none => none
noncomputable def ownCls (sc : Scope) (f : Expr) (kws : List Keyword) : Option (Nat × Fn) := match f with
 | .Name x _ => (match kws.isEmpty && isGlob (kindOf sc.names x) with
  | true => clsOf (C.glob x)
  | false => none)
 | _ => none
noncomputable def plainOwn (sc : Scope) (σ : Sto) (e : Expr) : T (Slot × Sto) := do
 let v ← P.ev sc σ e
 return (.fz v.1,v.2)
noncomputable def makeOwn (sc : Scope) (σ : Sto) (args : List Expr) (e : Expr) : Option (Nat × Fn)->T (Slot × Sto)
 | some k => do
  let vs ← evArgs P sc σ args
  let r ← (P.call k.2 (.oi k.1 [] :: vs.1.map .fz)).noExc
  let q ← madeT k.1 r
  return (.oi k.1 q,vs.2)
 | none => plainOwn P sc σ e
noncomputable def ifOwn (sc : Scope) (σ : Sto) (t : Expr) (e : Expr) : Option (List Expr)->Option (List Expr)->T (Slot × Sto)
 | some b,some o => do
  let c ← P.isT sc σ t
  ownList P sc c.2 (if c.1 then b else o)
 | _,_ => plainOwn P sc σ e
noncomputable def evOwn (sc : Scope) (σ : Sto) (e : Expr) : T (Slot × Sto) := match e with
 | .List es _ => ownList P sc σ es
 | .Dict ks vs _ => chk (ks.isEmpty && vs.isEmpty) (.ret (.od [],σ))
 | .IfExp t b o p => ifOwn P sc σ t (.IfExp t b o p) (listOf b) (listOf o)
 | .Call f args kws p => makeOwn P sc σ args (.Call f args kws p) (ownCls C sc f kws)
 | e => plainOwn P sc σ e
noncomputable def evOwns (sc : Scope) : Sto->List Expr->T (List Slot × Sto)
 | σ,[] => .ret ([],σ)
 | σ,e :: r => do
  let (v,σ) ← evOwn C P sc σ e
  let (vs,σ) ← evOwns sc σ r
  return (v :: vs,σ)
noncomputable def putN (sc : Scope) (σ : Sto) (x : Str) (s : Slot) : T Sto := chk (isLoc (kindOf sc.names x) && !(s.isOwn && Nat.beq (idx sc.names x) 0)) (.ret (putS σ (idx sc.names x) s))
noncomputable def putNm (sc : Scope) (σ : Sto) (s : Slot) : Option Str->T Sto
 | some x => putN sc σ x s
 | none => .stuck "target"
noncomputable def putAll (sc : Scope) : Sto->List (Slot × Expr)->T Sto
 | σ,[] => .ret σ
 | σ,q :: ts => do putAll sc (← putNm sc σ q.1 (nameOf q.2)) ts
noncomputable def noComp : Expr->Bool
 | .ListComp .. => false
 | .SetComp .. => false
 | .DictComp .. => false
 | _ => true
set_option backward.match.sparseCases true in
noncomputable def swapN (sc : Scope) (ts vs : List Expr) : Option Bool :=
 match (ts.length == 2 || ts.length == 3) && vs.length == ts.length with
 | false => some false
 | true => match ts.filterMap fun
   | .Name id pos => if kindOf sc.names id == some .local && pos.line == (ts.head?.map (·.pos.line)).getD 0 then some id else none
   | _ => none with
  | names => match names.length != ts.length || names.eraseDups.length != names.length with
   | true => some false
   | false => match vs.all (foldedForSure 8) with
    | true => some false
    | false => match vs.all (constantsAlone 8) with
     | true => none
     | false => some true
noncomputable def forLoop (sc : Scope) (t : Expr) (body : List Stmt) : Sto->List PV->T (Fl × Sto)
 | σ,[] => .ret (.next,σ)
 | σ,v :: r => do
  let σ ← bindT sc σ t v
  let y ← exs P sc σ body
  afterT y fun σ => forLoop sc t body σ r
noncomputable def whileLoop (sc : Scope) (test : Expr) (body : List Stmt) : Nat->Sto->T (Fl × Sto)
 | 0,_ => .stuck "while: fuel"
 | n + 1,σ => do
  let c ← P.isT sc σ test
  match c.1 with
  | true => do
   let y ← exs P sc c.2 body
   afterT y fun σ => whileLoop sc test body n σ
  | false => .ret (.next,c.2)
noncomputable def constB (e : Expr) : Option Bool := (constOf e).bind fun c => match c with
 | .bool b => some b
 | _ => none
noncomputable def toldOf (y : Str) : Expr->Bool
 | .Attribute o a _ => (match nameOf o with
  | some x => seq x y && seq a "told"
  | none => false)
 | _ => false
noncomputable def single {α : Type} : List α->Option α
 | [a] => some a
 | _ => none
noncomputable def asgOf : Stmt->Option (Str × Expr)
 | .Assign ts e _ => (match single ts with
  | some t => (match nameOf t with
   | some x => some (x,e)
   | none => none)
  | none => none)
 | _ => none
noncomputable def retOf : Stmt->Option Expr
 | .Return e _ => (match e with
  | some e => (match listOf e with
   | some l => single l
   | none => none)
  | none => none)
 | _ => none
noncomputable def caughtPlain (sc : Scope) (σ : Sto) (s : Stmt) : T (Fl × Sto) := do
 let q ← opt "handler" (asgOf s)
 let b ← opt "handler" (constB q.2)
 chk (isLoc (kindOf sc.names q.1)) (.ret (.next,putS σ (idx sc.names q.1) (.fz (.bool b))))
noncomputable def caughtAs (sc : Scope) (σ : Sto) (n : Str) (told : PV) (s : Stmt) : Option (Str × Expr)->T (Fl × Sto)
 | some q => chk (isLoc (kindOf sc.names n) && isLoc (kindOf sc.names q.1) && (toldOf n q.2 && !seq q.1 n)) (.ret (.next,putS (σ.set (idx sc.names n) none) (idx sc.names q.1) (.fz told)))
 | none => do
  let e ← opt "handler" (retOf s)
  chk (isLoc (kindOf sc.names n) && toldOf n e) (.ret (.ret (.list [told]),σ.set (idx sc.names n) none))
noncomputable def caughtT (sc : Scope) (σ : Sto) (nm : Option Str) (told : PV) (hb : List Stmt) : T (Fl × Sto) := one hb fun s => match nm with
 | none => caughtPlain sc σ s
 | some n => caughtAs sc σ n told s (asgOf s)
noncomputable def compOf : Expr->Option (Expr × (Expr × Expr × List Expr) × Scope)
 | .ListComp elt gs cs _ => (match genOf gs with
  | some g => some (elt,g,cs)
  | none => none)
 | _ => none
noncomputable def asgName (sc : Scope) (σ : Sto) (x : Str) (e : Expr) : Option (Expr × (Expr × Expr × List Expr) × Scope)->T (Fl × Sto)
 | some g => do
  let v ← evComp P sc σ g.1 g.2.1.1 g.2.1.2.1 g.2.1.2.2 g.2.2
  return (.next,← putN sc v.2 x (.fz (.list v.1)))
 | none => chk (noComp e) do
  let s ← evOwn C P sc σ e
  return (.next,← putN sc s.2 x s.1)
noncomputable def tupOf : Expr->Option (List Expr)
 | .Tuple es _ _ => some es
 | _ => none
noncomputable def asgTuple (sc : Scope) (σ : Sto) (t : Expr) (ts : List Expr) (e : Expr) : Option (List Expr)->T (Fl × Sto)
 | some es => chk (ts.length == es.length && es.all plainR && Nat.ble es.length 1000) do
  let sw ← opt "targets" (swapN sc ts es)
  let vs ← evOwns C P sc σ es
  let σ ← putAll sc vs.2 (if sw then (vs.1.zip ts).reverse else vs.1.zip ts)
  return (.next,σ)
 | none => do
  let v ← P.ev sc σ e
  return (.next,← bindT sc v.2 t v.1)
noncomputable def asgAttr (sc : Scope) (σ : Sto) (o : Expr) (a : Str) (e : Expr) : T (Fl × Sto) := do
 let v ← P.ev sc σ e
 let s ← opt "attribute target" (ownAt sc v.2 o)
 oiV s.2 fun c fs => chk (C.attr c a && Nat.ble fs.length 50) (.ret (.next,putS v.2 s.1 (.oi c (setField fs a v.1))))
noncomputable def odV {β : Type} (v : Slot) (k : List Byt->T β) : T β := match v with
 | .od ks => k ks
 | _ => .stuck "dict"
noncomputable def isTrueV : PV->Bool
 | .bool b => b
 | _ => false
noncomputable def asgItem (sc : Scope) (σ : Sto) (o i : Expr) (e : Expr) : T (Fl × Sto) := do
 let v ← P.ev sc σ e
 let s ← opt "subscript target" (ownAt sc v.2 o)
 odV s.2 fun _ => chk (isTrueV v.1) do
  let k ← P.ev sc v.2 i
  let s' ← opt "key" (getS k.2 s.1)
  odV s' fun ks => bytV k.1 fun b => chk (Nat.ble ks.length 500) (.ret (.next,putS k.2 s.1 (.od (if ks.any (bytEq · b) then ks else ks ++ [b]))))
noncomputable def augT (sc : Scope) (σ : Sto) (o : Expr) (a : Str) (e : Expr) : T (Fl × Sto) := do
 let s ← opt "+= target" (ownAt sc σ o)
 oiV s.2 fun c fs => chk (C.attr c a) do
  let old ← opt "attr" (field fs a)
  let v ← P.ev sc σ e
  let s' ← opt "+=" (getS v.2 s.1)
  oiV s' fun c₁ fs => intV old fun x => intV v.1 fun y => chk (Nat.beq c c₁ && Nat.ble fs.length 50) (.ret (.next,putS v.2 s.1 (.oi c (setField fs a (.int (x + y))))))
noncomputable def asgT (sc : Scope) (σ : Sto) (t e : Expr) : T (Fl × Sto) := match t with
 | .Name x _ => asgName C P sc σ x e (compOf e)
 | .Tuple ts k p => asgTuple C P sc σ (.Tuple ts k p) ts e (tupOf e)
 | .Attribute o a _ => asgAttr C P sc σ o a e
 | .Subscript o i _ => asgItem P sc σ o i e
 | _ => .stuck "target"
noncomputable def enumT (sc : Scope) (σ : Sto) (t it : Expr) (b : List Stmt) : Option (List Expr)->T (Fl × Sto)
 | some args => do
  let vs ← evArgs P sc σ args
  one vs.1 fun v => listV v fun l => (forLoop P sc t b vs.2 ((l.zipIdx).map fun p => .tup [.int p.2,p.1])).noExc
 | none => do
  let xs ← iterOf P sc σ it
  chk xs.1.isEmpty (.ret (.next,xs.2))
noncomputable def forT (sc : Scope) (σ : Sto) (t it : Expr) (b : List Stmt) : T (Fl × Sto) := match t with
 | .Name .. => do
  let xs ← iterOf P sc σ it
  (forLoop P sc t b xs.2 xs.1).noExc
 | .Tuple .. => enumT P sc σ t it b (enumArgs sc it)
 | _ => .stuck "target"
noncomputable def growB (σ : Sto) (i : Nat) (l : List PV) (v : PV) (app : Bool) (ext : Bool) : T (Fl × Sto) := match app with
 | true => T.need (Nat.blt l.length 1000) (.ret (.next,putS σ i (.ol (l ++ [v]))))
 | false => chk ext (listV v fun q => T.need (Nat.ble (l.length + q.length) 1000) (.ret (.next,putS σ i (.ol (l ++ q)))))
noncomputable def growT (σ : Sto) (i : Nat) (l : List PV) (m : Str) (v : PV) : T (Fl × Sto) := growB σ i l v (seq m "append") (seq m "extend")
noncomputable def olV {β : Type} (v : Slot) (k : List PV->T β) : T β := match v with
 | .ol l => k l
 | _ => .stuck "list of one's own"
noncomputable def appT (sc : Scope) (σ : Sto) (o : Expr) (m : Str) (e : Expr) : T (Fl × Sto) := do
 let s ← opt "expr stmt" (ownAt sc σ o)
 olV s.2 fun _ => do
  let v ← P.ev sc σ e
  let s' ← opt "method of a list" (getS v.2 s.1)
  olV s' fun l => growT v.2 s.1 l m v.1
noncomputable def dropT (r : PV × Sto) : T (Fl × Sto) := noneV r.1 (.ret (.next,r.2))
noncomputable def appOf : Expr->List Expr->Pos->Option (Expr × Str × Expr)
 | .Attribute o m apos,args,pos => (match single args with
  | some e => (match isName o with
   | true => (match methOk apos pos args && (seq m "append" || seq m "extend") with
    | true => some (o,m,e)
    | false => none)
   | false => none)
  | none => none)
 | _,_,_ => none
noncomputable def exprT (sc : Scope) (σ : Sto) (e : Expr) : Option (Expr × Str × Expr)->T (Fl × Sto)
 | some q => appT P sc σ q.1 q.2.1 q.2.2
 | none => P.ev sc σ e >>= dropT
noncomputable def isExc : Option G->Bool
 | some g => (match g with
  | .cls c _ _ exc => exc && Nat.beq c 7
  | _ => false)
 | none => false
noncomputable def raiseT (sc : Scope) (σ : Sto) (e : Expr) : T (Fl × Sto) := match e with
 | .Call f args kws _ => (match f with
  | .Name x _ => chk (kws.isEmpty && isGlob (kindOf sc.names x) && isExc (C.glob x)) do
   let vs ← evArgs P sc σ args
   one vs.1 fun v => .exc v vs.2
  | _ => .stuck "raise")
 | _ => .stuck "raise"
noncomputable def handOf : ExceptHandler->Option (Str × Option Str × List Stmt)
 | .ExceptHandler t nm hb _ => (match t with
  | some t => (match nameOf t with
   | some x => some (x,nm,hb)
   | none => none)
  | none => none)
noncomputable def tryT (sc : Scope) (σ : Sto) (s : Stmt) (h : ExceptHandler) : T (Fl × Sto) := do
 let q ← opt "try" (handOf h)
 chk (isGlob (kindOf sc.names q.1) && isExc (C.glob q.1)) (T.catchE (P.ex sc σ s) fun told σ => caughtT sc σ q.2.1 told q.2.2)
noncomputable def opAdd : Operator->Bool
 | .Add => true
 | _ => false
noncomputable def exStep (sc : Scope) (σ : Sto) (s : Stmt) : T (Fl × Sto) := match s with
 | .Return e _ => do
  let v ← P.ev sc σ (← opt "return" e)
  return (.ret v.1,v.2)
 | .Assign ts e _ => one ts fun t => asgT C P sc σ t e
 | .AugAssign t op e _ => (match t with
  | .Attribute o a _ => chk (opAdd op) (augT C P sc σ o a e)
  | _ => .stuck "+=")
 | .If t b o _ => do
  let c ← P.isT sc σ t
  exs P sc c.2 (if c.1 then b else o)
 | .While t b o _ => chk o.isEmpty (whileLoop P sc t b 60 σ)
 | .For t it b o _ => chk o.isEmpty (forT P sc σ t it b)
 | .Expr e _ => (match e with
  | .Call f args kws p => chk kws.isEmpty (exprT P sc σ (.Call f args kws p) (appOf f args p))
  | _ => .stuck "expr stmt")
 | .Raise e c _ => chk c.isNone do raiseT C P sc σ (← opt "raise" e)
 | .Try b hs o fin _ => chk (o.isEmpty && fin.isEmpty) (one b fun s => one hs fun h => tryT C P sc σ s h)
 | _ => .stuck "stmt"
noncomputable def cellPlain (k : NameKind) (s : Slot) : Bool := match k with
 | .cell => !s.isOwn
 | _ => true
noncomputable def callStep (f : Fn) (args : List Slot) : T (PV × Option Slot) :=
 chk (f.params.length == args.length && ((f.scope.names.map (·.1)).zip f.params).all (fun p => seq p.1 p.2) && (f.scope.names.zip args).all (fun p => cellPlain p.1.2 p.2)) do
  let y ← (exs P f.scope (args.map some ++ List.replicate (f.scope.names.length - args.length) none) f.body).atSto []
  return ((match y.1 with | .ret v => v | .next => .none),getS y.2 0)
end
noncomputable def lvl (C : Cx) : Nat->Lv
 | 0 => Lv.zero
 | n + 1 => ⟨evStep C (lvl C n),isTStep (lvl C n),exStep C (lvl C n),callStep (lvl C n)⟩
end
noncomputable abbrev pw := PySem.Challenge.pw_nt0289_01
noncomputable def argNames (a : Arguments) : List Str := a.args.map (·.arg)
noncomputable abbrev DRow := Str × Fn × Arguments
noncomputable def fnA : Stmt->Option DRow
 | .FunctionDef n a b _ _ _ sc _ _ _ => some (n,⟨n,argNames a,sc,b⟩,a)
 | _ => none
noncomputable def clA : Stmt->Option (Str × List Stmt)
 | .ClassDef n _ _ b _ _ _ _ _ _ _ => some (n,b)
 | _ => none
noncomputable def lookS {α : Type} : List (Str × α)->Str->Option α
 | [],_ => none
 | p :: r,x => match seq p.1 x with
  | true => some p.2
  | false => lookS r x
noncomputable def topRows : List DRow := pw.main.body.filterMap fnA
noncomputable def clsRows (c : Str) : List DRow := ((lookS (pw.main.body.filterMap clA) c).getD []).filterMap fnA
noncomputable def isSelf (f : Fn) : Bool := match f.params with
 | p :: _ => seq p "self"
 | [] => false
noncomputable def fnNamed (x : Str) : Option Fn := ((lookS topRows x).map (·.1)).filter fun f => seq f.name x && !isSelf f
noncomputable def methNamed (c m : Str) : Option Fn := ((lookS (clsRows c) m).map (·.1)).filter isSelf
noncomputable def clsTable : List (Str × Nat × Str × Bool × Bool) := [("Person",1, "Person",false,false),("Entry",2, "Entry",false,false),("Tree",3, "Tree",false,false),("ObjectHeadWalk",4, "ObjectHeadWalk",true,false),
 ("Commit",5, "Commit",false,false),("Tag",6, "Tag",false,false),("BadObject",7, "GitError",false,true)]
noncomputable def valTable : List (Str × PV) := [("HEX_SIGNS",.str "0123456789abcdef"),("NOUGHT_SIGN",.int 48),("DIR",.int 16384),("SUB",.int 57344),
 ("OBJECT_KINDS",.tup [.byt #[98,108,111,98],.byt #[116,114,101,101],.byt #[99,111,109,109,105,116],.byt #[116,97,103]]),
 ("OBJECT_MODES",.tup [.int 33188,.int 33261,.int 40960,.int 16384,.int 57344]),("OBJECT_OLD_MODE",.int 33204),
 ("OBJECT_HEX",.byt #[48,49,50,51,52,53,54,55,56,57,97,98,99,100,101,102]),("OBJECT_DIGITS",.byt #[48,49,50,51,52,53,54,55,56,57]),
 ("OBJECT_HEADS",.tup [.byt "tree".toUTF8.data,.byt "parent".toUTF8.data,.byt "author".toUTF8.data,.byt "committer".toUTF8.data]),
 ("OBJECT_SIGNATURES",.tup [.byt "-----BEGIN PGP SIGNATURE-----".toUTF8.data,.byt "-----BEGIN PGP MESSAGE-----".toUTF8.data,.byt "-----BEGIN SIGNED MESSAGE-----".toUTF8.data,.byt "-----BEGIN SSH SIGNATURE-----".toUTF8.data]),
 ("OBJECT_LAST_MOMENT",.int (2 ^ 63))]
noncomputable def biTable : List (Str × Bi) := [("len",.len),("abs",.abs),("chr",.chr),("ord",.ord),("list",.list),("tuple",.tuple),("bytes",.bytes),("int",.int),("str",.str)]
noncomputable def gSpec : List (Str × G) := [("_law_draw",.draw),("sorted",.sorted),("_law_hex",.hex)]
noncomputable def gTable : List (Str × G) := gSpec ++ (valTable.map (fun p => (p.1,.val p.2)) ++ biTable.map fun p => (p.1,.bi p.2))
noncomputable def glob0 (x : Str) : Option G := match lookS gTable x with
 | some g => some g
 | none => match lookS clsTable x with
  | some q => (methNamed q.2.1 "__init__").map fun f => .cls q.1 f q.2.2.1 q.2.2.2
  | none => (fnNamed x).map .fn
noncomputable def className : Nat->Str
 | 1 => "Person" | 2 => "Entry" | 3 => "Tree" | 4 => "ObjectHeadWalk" | 5 => "Commit" | 6 => "Tag" | _ => "GitError"
noncomputable def attrTable : Nat->List Str
 | 1 => ["name", "email", "when", "zone"] | 2 => ["mode", "name", "oid"] | 3 => ["entries"] | 4 => ["heads", "at"] | 5 => ["tree", "parents", "author", "committer", "extra", "message"]
 | 6 => ["target", "kind", "name", "tagger", "message", "signature"] | _ => []
noncomputable def cx0 : Cx := ⟨glob0,fun c m => match Nat.ble 1 c && Nat.ble c 6 with
 | true => methNamed (className c) m
 | false => none,fun c a => (attrTable c).any (seq · a)⟩
end Mine
end
section
open PySem PySem.W PyProof.Rows
namespace Mine
section
namespace T
noncomputable def SatT {α : Type} (t : T α) : Nat->(Nat->α->Prop)->(Nat->PV->Sto->Prop)->Prop :=
 T.rec (motive := fun _ => Nat->(Nat->α->Prop)->(Nat->PV->Sto->Prop)->Prop) (fun a d Q _ => Q d a) (fun e σ d _ E => E d e σ)
  (fun n _ ih d Q E => Nat.rec (motive := fun _ => Prop) False (fun d _ => ∀ r,r < n->ih r d Q E) d) (fun c _ ih d Q E => c = true ∧ ih d Q E) (fun _ _ _ _ => False) t
noncomputable def Sat {α : Type} (d : Nat) (t : T α) (Q : Nat->α->Prop) (E : Nat->PV->Sto->Prop) : Prop := SatT t d Q E
section
variable {α β : Type} {d : Nat}
@[simp] theorem sat_ret {a : α} {Q E} : Sat d (ret a) Q E ↔ Q d a := Iff.rfl
@[simp] theorem sat_pure {a : α} {Q E} : Sat d (pure a : T α) Q E ↔ Q d a := Iff.rfl
@[simp] theorem sat_exc {e σ} {Q : Nat->α->Prop} {E} : Sat d (exc e σ : T α) Q E ↔ E d e σ := Iff.rfl
@[simp] theorem sat_stuck {w} {Q : Nat->α->Prop} {E} : Sat d (stuck w : T α) Q E ↔ False := Iff.rfl
@[simp] theorem sat_draw0 {n} {k : Nat->T α} {Q E} : Sat 0 (draw n k) Q E ↔ False := Iff.rfl
@[simp] theorem sat_draw {n} {k : Nat->T α} {Q E} : Sat (d + 1) (draw n k) Q E ↔ ∀ r,r < n->Sat d (k r) Q E := Iff.rfl
@[simp] theorem sat_need {c : Bool} {t : T α} {Q E} : Sat d (need c t) Q E ↔ c = true ∧ Sat d t Q E := Iff.rfl
theorem sat_bind {t : T α} {f : α->T β} {Q E} : Sat d (t >>= f) Q E ↔ Sat d t (fun d a => Sat d (f a) Q E) E := by
 show Sat d (t.bind f) Q E ↔ _
 induction t generalizing d with
 | need c t ih => exact and_congr_right fun _ => ih
 | draw n k ih => cases d with
  | zero => exact Iff.rfl
  | succ d => exact forall_congr' fun r => forall_congr' fun _ => ih r
 | _ => exact Iff.rfl
theorem Sat.mono {t : T α} {Q Q' : Nat->α->Prop} {E E' : Nat->PV->Sto->Prop} (h : Sat d t Q E) (hQ : ∀ d a,Q d a->Q' d a) (hE : ∀ d e σ,E d e σ->E' d e σ) : Sat d t Q' E' := by
 induction t generalizing d with
 | ret a => exact hQ _ _ h
 | exc e σ => exact hE _ _ _ h
 | stuck w => exact h
 | need c t ih => exact ⟨h.1,ih h.2⟩
 | draw n k ih => cases d with
  | zero => exact h
  | succ d => exact fun r hr => ih r (h r hr)
theorem sat_atSto {t : T α} {σ : Sto} {Q E} : Sat d (t.atSto σ) Q E ↔ Sat d t Q (fun d e _ => E d e σ) := by
 induction t generalizing d with
 | need c t ih => exact and_congr_right fun _ => ih
 | draw n k ih => cases d with
  | zero => exact Iff.rfl
  | succ d => exact forall_congr' fun r => forall_congr' fun _ => ih r
 | _ => exact Iff.rfl
theorem sat_noExc {t : T α} {Q E} : Sat d (t.noExc) Q E ↔ Sat d t Q (fun _ _ _ => False) := by
 induction t generalizing d with
 | need c t ih => exact and_congr_right fun _ => ih
 | draw n k ih => cases d with
  | zero => exact Iff.rfl
  | succ d => exact forall_congr' fun r => forall_congr' fun _ => ih r
 | _ => exact Iff.rfl
theorem sat_catch {t : T α} {h : PV->Sto->T α} {Q E} : Sat d (t.catchE h) Q E ↔ Sat d t Q (fun d e σ => Sat d (h e σ) Q E) := by
 induction t generalizing d with
 | need c t ih => exact and_congr_right fun _ => ih
 | draw n k ih => cases d with
  | zero => exact Iff.rfl
  | succ d => exact forall_congr' fun r => forall_congr' fun _ => ih r
 | _ => exact Iff.rfl
theorem sat_optB {o : Option Bool} {Q E} : Sat d (optB o) Q E ↔ ∃ a,o = some a ∧ Q d a := by
 cases o with
 | none => exact ⟨fun h => (Bool.false_ne_true h.1).elim,fun ⟨_,h,_⟩ => by cases h⟩
 | some a => exact ⟨fun h => ⟨a,rfl,h.2⟩,fun ⟨_,h,q⟩ => ⟨rfl,by cases h; exact q⟩⟩
theorem sat_opt {w : String} {o : Option α} {Q E} : Sat d (opt w o) Q E ↔ ∃ a,o = some a ∧ Q d a := by
 cases o with
 | none => exact ⟨fun h => h.elim,fun ⟨_,h,_⟩ => by cases h⟩
 | some a => exact ⟨fun h => ⟨a,rfl,h⟩,fun ⟨_,h,q⟩ => by cases h; exact q⟩
theorem Sat.bind {t : T α} {f : α->T β} {Q E} (H : Sat d (t >>= f) Q E) : Sat d t (fun d a => Sat d (f a) Q E) E := sat_bind.mp H
theorem Sat.assoc {γ : Type} {m : T α} {k : α->T β} {t₂ : β->T γ} {Q E} (H : Sat d ((m >>= k) >>= t₂) Q E) : Sat d (m >>= fun x => k x >>= t₂) Q E := sat_bind.mpr ((sat_bind.mp (sat_bind.mp H)).mono (fun _ _ q => sat_bind.mpr q) fun _ _ _ q => q)
theorem Sat.opt {w : String} {o : Option α} {f : α->T β} {Q E} (H : Sat d (opt w o >>= f) Q E) : ∃ a,o = some a ∧ Sat d (f a) Q E := sat_opt.mp (sat_bind.mp H)
theorem Sat.optB {o : Option Bool} {f : Bool->T β} {Q E} (H : Sat d (optB o >>= f) Q E) : ∃ a,o = some a ∧ Sat d (f a) Q E := sat_optB.mp (sat_bind.mp H)
theorem Sat.ite {c : Prop} [Decidable c] {t : T α} {w : String} {Q E} (H : Sat d (if c then t else stuck w) Q E) : c ∧ Sat d t Q E := by
 by_cases h : c
 ·rw [if_pos h] at H; exact ⟨h,H⟩
 ·rw [if_neg h] at H; exact H.elim
theorem Sat.chk {b : Bool} {t : T α} {Q E} (H : Sat d (chk b t) Q E) : b = true ∧ Sat d t Q E := by
 cases b with
 | true => exact ⟨rfl,H⟩
 | false => exact H.elim
theorem Sat.one {γ : Type} {l : List γ} {k : γ->T α} {Q E} (H : Sat d (one l k) Q E) : ∃ a,l = [a] ∧ Sat d (k a) Q E := by
 match l,H with
 | [a],H => exact ⟨a,rfl,H⟩
theorem Sat.two {γ : Type} {l : List γ} {k : γ->γ->T α} {Q E} (H : Sat d (two l k) Q E) : ∃ a b,l = [a,b] ∧ Sat d (k a b) Q E := by
 match l,H with
 | [a,b],H => exact ⟨a,b,rfl,H⟩
theorem Sat.intV {a : PV} {k : Int->T α} {Q E} (H : Sat d (intV a k) Q E) : ∃ x,a = .int x ∧ Sat d (k x) Q E := by
 cases a with
 | int x => exact ⟨x,rfl,H⟩
 | _ => exact H.elim
theorem Sat.bytV {a : PV} {k : Byt->T α} {Q E} (H : Sat d (bytV a k) Q E) : ∃ x,a = .byt x ∧ Sat d (k x) Q E := by
 cases a with
 | byt x => exact ⟨x,rfl,H⟩
 | _ => exact H.elim
theorem Sat.listV {a : PV} {k : List PV->T α} {Q E} (H : Sat d (listV a k) Q E) : ∃ x,a = .list x ∧ Sat d (k x) Q E := by
 cases a with
 | list x => exact ⟨x,rfl,H⟩
 | _ => exact H.elim
theorem Sat.instV {a : PV} {k : Nat->List (Str × PV)->T α} {Q E} (H : Sat d (instV a k) Q E) : ∃ c fs,a = .inst c fs ∧ Sat d (k c fs) Q E := by
 cases a with
 | inst c x => exact ⟨c,x,rfl,H⟩
 | _ => exact H.elim
theorem Sat.noneV {a : PV} {k : T α} {Q E} (H : Sat d (noneV a k) Q E) : a = .none ∧ Sat d k Q E := by
 cases a with
 | none => exact ⟨rfl,H⟩
 | _ => exact H.elim
theorem Sat.tupV {a : PV} {k : List PV->T α} {Q E} (H : Sat d (tupV a k) Q E) : ∃ x,a = .tup x ∧ Sat d (k x) Q E := by
 cases a with
 | tup x => exact ⟨x,rfl,H⟩
 | _ => exact H.elim
theorem Sat.deckV {a : PV} {k : T α} {Q E} (H : Sat d (deckV a k) Q E) : a = .deck ∧ Sat d k Q E := by
 cases a with
 | deck => exact ⟨rfl,H⟩
 | _ => exact H.elim
theorem Sat.fzV {a : Slot} {k : PV->T α} {Q E} (H : Sat d (fzV a k) Q E) : ∃ x,a = .fz x ∧ Sat d (k x) Q E := by
 cases a with
 | fz x => exact ⟨x,rfl,H⟩
 | _ => exact H.elim
theorem Sat.strV {a : PV} {k : Str->T α} {Q E} (H : Sat d (strV a k) Q E) : ∃ x,a = .str x ∧ Sat d (k x) Q E := by
 cases a with
 | str x => exact ⟨x,rfl,H⟩
 | _ => exact H.elim
theorem Sat.oiV {a : Slot} {k : Nat->List (Str × PV)->T α} {Q E} (H : Sat d (oiV a k) Q E) : ∃ c fs,a = .oi c fs ∧ Sat d (k c fs) Q E := by
 cases a with
 | oi c x => exact ⟨c,x,rfl,H⟩
 | _ => exact H.elim
theorem Sat.odV {a : Slot} {k : List Byt->T α} {Q E} (H : Sat d (odV a k) Q E) : ∃ ks,a = .od ks ∧ Sat d (k ks) Q E := by
 cases a with
 | od x => exact ⟨x,rfl,H⟩
 | _ => exact H.elim
theorem Sat.olV {a : Slot} {k : List PV->T α} {Q E} (H : Sat d (olV a k) Q E) : ∃ l,a = .ol l ∧ Sat d (k l) Q E := by
 cases a with
 | ol x => exact ⟨x,rfl,H⟩
 | _ => exact H.elim
theorem Sat.iteB {c : Prop} [Decidable c] {t : T α} {w : String} {f : α->T β} {Q E} (H : Sat d ((if c then t else stuck w) >>= f) Q E) : c ∧ Sat d (t >>= f) Q E := by
 by_cases h : c
 ·rw [if_pos h] at H; exact ⟨h,H⟩
 ·rw [if_neg h] at H; exact H.elim
section
variable {Z : Prop}
theorem Sat.optE {w : String} {o : Option α} {f : α->T β} {Q E} (H : Sat d (Mine.opt w o >>= f) Q E) (k : ∀ a,o = some a->Sat d (f a) Q E->Z) : Z := let ⟨a,e,h⟩ := Sat.opt H; k a e h
theorem Sat.chkE {b : Bool} {t : T α} {Q E} (H : Sat d (Mine.chk b t) Q E) (k : b = true->Sat d t Q E->Z) : Z := k (Sat.chk H).1 (Sat.chk H).2
theorem Sat.needE {b : Bool} {t : T α} {Q E} (H : Sat d (need b t) Q E) (k : b = true->Sat d t Q E->Z) : Z := k H.1 H.2
theorem Sat.iteE {c : Prop} [Decidable c] {t : T α} {w : String} {Q E} (H : Sat d (if c then t else stuck w) Q E) (k : c->Sat d t Q E->Z) : Z := k (Sat.ite H).1 (Sat.ite H).2
theorem Sat.iteBE {c : Prop} [Decidable c] {t : T α} {w : String} {f : α->T β} {Q E} (H : Sat d ((if c then t else stuck w) >>= f) Q E) (k : c->Sat d (t >>= f) Q E->Z) : Z := k (Sat.iteB H).1 (Sat.iteB H).2
theorem Sat.oneE {γ : Type} {l : List γ} {g : γ->T α} {Q E} (H : Sat d (Mine.one l g) Q E) (k : ∀ a,l = [a]->Sat d (g a) Q E->Z) : Z := let ⟨a,e,h⟩ := Sat.one H; k a e h
theorem Sat.twoE {γ : Type} {l : List γ} {g : γ->γ->T α} {Q E} (H : Sat d (Mine.two l g) Q E) (k : ∀ a b,l = [a,b]->Sat d (g a b) Q E->Z) : Z := let ⟨a,b,e,h⟩ := Sat.two H; k a b e h
theorem Sat.optBE {o : Option Bool} {f : Bool->T β} {Q E} (H : Sat d (Mine.optB o >>= f) Q E) (k : ∀ a,o = some a->Sat d (f a) Q E->Z) : Z := let ⟨a,e,h⟩ := Sat.optB H; k a e h
theorem Sat.intVE {a : PV} {g : Int->T α} {Q E} (H : Sat d (Mine.intV a g) Q E) (k : ∀ x,a = .int x->Sat d (g x) Q E->Z) : Z := let ⟨x,e,h⟩ := Sat.intV H; k x e h
theorem Sat.bytVE {a : PV} {g : Byt->T α} {Q E} (H : Sat d (Mine.bytV a g) Q E) (k : ∀ x,a = .byt x->Sat d (g x) Q E->Z) : Z := let ⟨x,e,h⟩ := Sat.bytV H; k x e h
theorem Sat.listVE {a : PV} {g : List PV->T α} {Q E} (H : Sat d (Mine.listV a g) Q E) (k : ∀ x,a = .list x->Sat d (g x) Q E->Z) : Z := let ⟨x,e,h⟩ := Sat.listV H; k x e h
theorem Sat.tupVE {a : PV} {g : List PV->T α} {Q E} (H : Sat d (Mine.tupV a g) Q E) (k : ∀ x,a = .tup x->Sat d (g x) Q E->Z) : Z := let ⟨x,e,h⟩ := Sat.tupV H; k x e h
theorem Sat.strVE {a : PV} {g : Str->T α} {Q E} (H : Sat d (Mine.strV a g) Q E) (k : ∀ x,a = .str x->Sat d (g x) Q E->Z) : Z := let ⟨x,e,h⟩ := Sat.strV H; k x e h
theorem Sat.instVE {a : PV} {g : Nat->List (Str × PV)->T α} {Q E} (H : Sat d (Mine.instV a g) Q E) (k : ∀ c x,a = .inst c x->Sat d (g c x) Q E->Z) : Z := let ⟨c,x,e,h⟩ := Sat.instV H; k c x e h
theorem Sat.oiVE {a : Slot} {g : Nat->List (Str × PV)->T α} {Q E} (H : Sat d (Mine.oiV a g) Q E) (k : ∀ c x,a = .oi c x->Sat d (g c x) Q E->Z) : Z := let ⟨c,x,e,h⟩ := Sat.oiV H; k c x e h
theorem Sat.odVE {a : Slot} {g : List Byt->T α} {Q E} (H : Sat d (Mine.odV a g) Q E) (k : ∀ x,a = .od x->Sat d (g x) Q E->Z) : Z := let ⟨x,e,h⟩ := Sat.odV H; k x e h
theorem Sat.olVE {a : Slot} {g : List PV->T α} {Q E} (H : Sat d (Mine.olV a g) Q E) (k : ∀ x,a = .ol x->Sat d (g x) Q E->Z) : Z := let ⟨x,e,h⟩ := Sat.olV H; k x e h
theorem Sat.fzVE {a : Slot} {g : PV->T α} {Q E} (H : Sat d (Mine.fzV a g) Q E) (k : ∀ x,a = .fz x->Sat d (g x) Q E->Z) : Z := let ⟨x,e,h⟩ := Sat.fzV H; k x e h
theorem Sat.noneVE {a : PV} {t : T α} {Q E} (H : Sat d (Mine.noneV a t) Q E) (k : a = .none->Sat d t Q E->Z) : Z := k (Sat.noneV H).1 (Sat.noneV H).2
theorem Sat.deckVE {a : PV} {t : T α} {Q E} (H : Sat d (Mine.deckV a t) Q E) (k : a = .deck->Sat d t Q E->Z) : Z := k (Sat.deckV H).1 (Sat.deckV H).2
end
end
end T
theorem noB {P : Prop} (h : false = true) : P := Bool.noConfusion h
theorem and2 {a b : Bool} {Z : Prop} (h : (a && b) = true) (k : a = true->b = true->Z) : Z := let x := (Bool.and_eq_true_iff (x := a) (y := b)).mp h; k x.1 x.2
theorem noOpt {β : Type} {b : β} {P : Prop} (e : none = some b) : P := by cases e
noncomputable abbrev Ob := Addr->Option Obj
structure Pl where
 ca : Nat->Addr
 dk : Addr
 dc : Addr
 off : Bool
 P : Params
mutual
inductive Rep (p : Pl) (φ : Ob) : Value->PV->Prop
 | none : Rep p φ .none .none
 | bool (b : Bool) : Rep p φ (.bool b) (.bool b)
 | int (i : Int) (t : Tok) : Rep p φ (.int i t) (.int i)
 | str (s : Str) (t : Tok) : s.cps.size ≤ lineB->Rep p φ (.str s t) (.str s)
 | byt (b : Byt) (t : Tok) : b.size ≤ lineB->Rep p φ (.bytes b t) (.byt b)
 | tup {a : Addr} {o : Obj} {vs : List Value} {n : Nat} {l : List PV} : φ a = some o->o.cls = .type "tuple"->o.data = .seq vs.toArray n->vs.length ≤ lineB->Reps p φ vs l->Rep p φ (.ref a) (.tup l)
 | list {a : Addr} {vs : List Value} {n : Nat} {l : List PV} : φ a = some { cls := .type "list",data := .seq vs.toArray n }->vs.length ≤ lineB->Reps p φ vs l->Rep p φ (.ref a) (.list l)
 | inst {x dx : Addr} {es : List DictEntry} {n c : Nat} {fs : List (Str × PV)} : φ x = some (instObj (p.ca c) dx)->φ dx = some (dictOf es n)->Ents p φ es fs->Rep p φ (.ref x) (.inst c fs)
 | deck : Rep p φ (.ref p.dk) .deck
inductive Reps (p : Pl) (φ : Ob) : List Value->List PV->Prop
 | nil : Reps p φ [] []
 | cons {v : Value} {x : PV} {vs : List Value} {xs : List PV} : Rep p φ v x->Reps p φ vs xs->Reps p φ (v :: vs) (x :: xs)
inductive Ents (p : Pl) (φ : Ob) : List DictEntry->List (Str × PV)->Prop
 | nil : Ents p φ [] []
 | cons {x : Str} {t : Tok} {v : Value} {pv : PV} {es : List DictEntry} {fs : List (Str × PV)} : Rep p φ v pv->Ents p φ es fs->Ents p φ (⟨PyData.keyHash p.P x,.str x t,v⟩ :: es) ((x,pv) :: fs)
end
noncomputable def Le (φ φ' : Ob) : Prop := ∀ a o,φ a = some o->φ' a = some o
theorem Le.refl (φ : Ob) : Le φ φ := fun _ _ h => h
theorem Le.trans {a b c : Ob} (x : Le a b) (y : Le b c) : Le a c := fun _ _ h => y _ _ (x _ _ h)
section
variable {p : Pl} {φ φ' : Ob}
theorem Rep.monos (k : Le φ φ') : (∀ {v : Value} {x : PV},Rep p φ v x->Rep p φ' v x) ∧ (∀ {v : List Value} {x : List PV},Reps p φ v x->Reps p φ' v x) ∧ ∀ {v : List DictEntry} {x : List (Str × PV)},Ents p φ v x->Ents p φ' v x := by
 refine ⟨fun {v x} h => ?_,fun {v x} h => ?_,fun {v x} h => ?_⟩
 ·exact Rep.rec (motive_1 := fun v x _ => Rep p φ' v x) (motive_2 := fun v x _ => Reps p φ' v x) (motive_3 := fun v x _ => Ents p φ' v x)
   .none .bool .int .str .byt (fun h1 h2 h3 h4 _ h5 => .tup (k _ _ h1) h2 h3 h4 h5) (fun h1 h4 _ h5 => .list (k _ _ h1) h4 h5) (fun h1 h2 _ h3 => .inst (k _ _ h1) (k _ _ h2) h3) .deck .nil (fun _ _ a b => .cons a b) .nil (fun _ _ a b => .cons a b) h
 ·exact Reps.rec (motive_1 := fun v x _ => Rep p φ' v x) (motive_2 := fun v x _ => Reps p φ' v x) (motive_3 := fun v x _ => Ents p φ' v x)
   .none .bool .int .str .byt (fun h1 h2 h3 h4 _ h5 => .tup (k _ _ h1) h2 h3 h4 h5) (fun h1 h4 _ h5 => .list (k _ _ h1) h4 h5) (fun h1 h2 _ h3 => .inst (k _ _ h1) (k _ _ h2) h3) .deck .nil (fun _ _ a b => .cons a b) .nil (fun _ _ a b => .cons a b) h
 ·exact Ents.rec (motive_1 := fun v x _ => Rep p φ' v x) (motive_2 := fun v x _ => Reps p φ' v x) (motive_3 := fun v x _ => Ents p φ' v x)
   .none .bool .int .str .byt (fun h1 h2 h3 h4 _ h5 => .tup (k _ _ h1) h2 h3 h4 h5) (fun h1 h4 _ h5 => .list (k _ _ h1) h4 h5) (fun h1 h2 _ h3 => .inst (k _ _ h1) (k _ _ h2) h3) .deck .nil (fun _ _ a b => .cons a b) .nil (fun _ _ a b => .cons a b) h
theorem Rep.mono (k : Le φ φ') {v : Value} {x : PV} (h : Rep p φ v x) : Rep p φ' v x := (Rep.monos k).1 h
theorem Reps.mono (k : Le φ φ') {v : List Value} {x : List PV} (h : Reps p φ v x) : Reps p φ' v x := (Rep.monos k).2.1 h
theorem Ents.mono (k : Le φ φ') {v : List DictEntry} {x : List (Str × PV)} (h : Ents p φ v x) : Ents p φ' v x := (Rep.monos k).2.2 h
theorem Reps.ind {M : List Value->List PV->Prop} (nil : M [] []) (cons : ∀ {v x vs xs},Rep p φ v x->Reps p φ vs xs->M vs xs->M (v :: vs) (x :: xs)) {v : List Value} {x : List PV} (h : Reps p φ v x) : M v x :=
 Reps.rec (motive_1 := fun _ _ _ => True) (motive_2 := fun v x _ => M v x) (motive_3 := fun _ _ _ => True) trivial (fun _ => trivial) (fun _ _ => trivial) (fun _ _ _ => trivial) (fun _ _ _ => trivial) (fun _ _ _ _ _ _ => trivial)
  (fun _ _ _ _ => trivial) (fun _ _ _ _ => trivial) trivial nil (fun a b _ c => cons a b c) trivial (fun _ _ _ _ => trivial) h
theorem Ents.ind {M : List DictEntry->List (Str × PV)->Prop} (nil : M [] []) (cons : ∀ {x t v pv es fs},Rep p φ v pv->Ents p φ es fs->M es fs->M (⟨PyData.keyHash p.P x,.str x t,v⟩ :: es) ((x,pv) :: fs)) {v : List DictEntry} {x : List (Str × PV)} (h : Ents p φ v x) : M v x :=
 Ents.rec (motive_1 := fun _ _ _ => True) (motive_2 := fun _ _ _ => True) (motive_3 := fun v x _ => M v x) trivial (fun _ => trivial) (fun _ _ => trivial) (fun _ _ _ => trivial) (fun _ _ _ => trivial) (fun _ _ _ _ _ _ => trivial)
  (fun _ _ _ _ => trivial) (fun _ _ _ _ => trivial) trivial trivial (fun _ _ _ _ => trivial) nil (fun a b _ c => cons a b c) h
theorem Reps.length {v : List Value} {x : List PV} (h : Reps p φ v x) : v.length = x.length := h.ind (M := fun v x => v.length = x.length) rfl fun _ _ e => congrArg (· + 1) e
theorem Reps.append {v v' : List Value} {x x' : List PV} (h : Reps p φ v x) (h' : Reps p φ v' x') : Reps p φ (v ++ v') (x ++ x') := h.ind (M := fun v x => Reps p φ (v ++ v') (x ++ x')) h' fun a _ b => .cons a b
theorem Reps.get {v : List Value} {x : List PV} {i : Nat} {pv : PV} (h : Reps p φ v x) : x[i]? = some pv->∃ u,v[i]? = some u ∧ Rep p φ u pv :=
 h.ind (M := fun v x => ∀ i,x[i]? = some pv->∃ u,v[i]? = some u ∧ Rep p φ u pv) (fun _ q => by cases q) (fun a _ c i => match i with
  | 0 => fun q => ⟨_,rfl,Option.some.inj q ▸ a⟩
  | i + 1 => c i) i
theorem Reps.take {v : List Value} {x : List PV} (n : Nat) (h : Reps p φ v x) : Reps p φ (v.take n) (x.take n) :=
 h.ind (M := fun v x => ∀ n,Reps p φ (v.take n) (x.take n)) (fun n => by rw [List.take_nil,List.take_nil]; exact .nil) (fun a _ c n => match n with
  | 0 => .nil
  | n + 1 => .cons a (c n)) n
theorem Reps.drop {v : List Value} {x : List PV} (n : Nat) (h : Reps p φ v x) : Reps p φ (v.drop n) (x.drop n) :=
 h.ind (M := fun v x => ∀ n,Reps p φ (v.drop n) (x.drop n)) (fun n => by rw [List.drop_nil,List.drop_nil]; exact .nil) (fun a b c n => match n with
  | 0 => .cons a b
  | n + 1 => c n) n
noncomputable def RepI (p : Pl) (φ : Ob) (v : Value) : PV->Prop
 | .none => v = .none
 | .bool b => v = .bool b
 | .int i => ∃ t,v = .int i t
 | .str s => ∃ t,v = .str s t ∧ s.cps.size ≤ lineB
 | .byt b => ∃ t,v = .bytes b t ∧ b.size ≤ lineB
 | .tup l => ∃ a o vs n,v = .ref a ∧ φ a = some o ∧ o.cls = .type "tuple" ∧ o.data = .seq vs.toArray n ∧ vs.length ≤ lineB ∧ Reps p φ vs l
 | .list l => ∃ a vs n,v = .ref a ∧ φ a = some { cls := .type "list",data := .seq vs.toArray n } ∧ vs.length ≤ lineB ∧ Reps p φ vs l
 | .inst c fs => ∃ x dx es n,v = .ref x ∧ φ x = some (instObj (p.ca c) dx) ∧ φ dx = some (dictOf es n) ∧ Ents p φ es fs
 | .exn _ => False
 | .deck => v = .ref p.dk
theorem Rep.inv {v : Value} {x : PV} (h : Rep p φ v x) : RepI p φ v x := by
 cases h with
 | none => rfl
 | bool => rfl
 | int i t => exact ⟨t,rfl⟩
 | str s t h => exact ⟨t,rfl,h⟩
 | byt s t h => exact ⟨t,rfl,h⟩
 | tup a b c d e => exact ⟨_,_,_,_,rfl,a,b,c,d,e⟩
 | list a b c => exact ⟨_,_,_,rfl,a,b,c⟩
 | inst a b c => exact ⟨_,_,_,_,rfl,a,b,c⟩
 | deck => rfl
end
theorem strEq_iff : ∀ {a b : List Nat},strEq a b = true ↔ a = b
 | [],[] => ⟨fun _ => rfl,fun _ => rfl⟩
 | [],_ :: _ => ⟨fun h => Bool.noConfusion h,fun h => by cases h⟩
 | _ :: _,[] => ⟨fun h => Bool.noConfusion h,fun h => by cases h⟩
 | a :: r,b :: q => (Bool.and_eq_true_iff (x := Nat.beq a b) (y := strEq r q)).trans ⟨fun h => by rw [Nat.eq_of_beq_eq_true h.1,strEq_iff.mp h.2],fun h => by cases h; exact ⟨Nat.beq_refl a,strEq_iff.mpr rfl⟩⟩
theorem seq_iff {a b : Str} : seq a b = true ↔ a = b :=
 strEq_iff.trans ⟨fun h => congrArg Str.mk (Array.ext' h),fun h => h ▸ rfl⟩
theorem seq_self (a : Str) : seq a a = true := seq_iff.mpr rfl
theorem seq_ne {a b : Str} (h : a ≠ b) : seq a b = false := Bool.eq_false_iff.mpr fun q => h (seq_iff.mp q)
theorem kindOf_eq (l : List (Str × NameKind)) (x : Str) : kindOf l x = l.lookup x := by
 induction l with
 | nil => rfl
 | cons p r ih =>
  obtain ⟨y,k⟩ := p
  unfold kindOf
  by_cases h : y = x
  ·subst h; simp [seq_self,List.lookup_cons]
  ·have : (x == y) = false := by simpa using fun e => h e.symm
   rw [seq_ne h]
   simp only [List.lookup_cons,this]
   exact ih
theorem idx_inj {l : List (Str × NameKind)} {x y : Str} (hx : kindOf l x ≠ none) (hy : kindOf l y ≠ none) (e : idx l x = idx l y) : x = y := by
 induction l with
 | nil => exact absurd rfl hx
 | cons p r ih =>
  obtain ⟨z,k⟩ := p
  unfold idx at e
  unfold kindOf at hx hy
  by_cases h1 : z = x <;> by_cases h2 : z = y
  ·exact h1.symm.trans h2
  ·subst h1; rw [seq_self,seq_ne h2] at e; cases e
  ·subst h2; rw [seq_self,seq_ne h1] at e; cases e
  ·rw [seq_ne h1,seq_ne h2] at e
   rw [seq_ne h1] at hx; rw [seq_ne h2] at hy
   exact ih hx hy (Nat.succ.inj e)
theorem idx_lt {l : List (Str × NameKind)} {x : Str} (hx : kindOf l x ≠ none) : idx l x < l.length := by
 induction l with
 | nil => exact absurd rfl hx
 | cons p r ih =>
  obtain ⟨z,k⟩ := p
  unfold idx
  unfold kindOf at hx
  by_cases h : z = x
  ·subst h; rw [seq_self]; exact Nat.succ_pos _
  ·rw [seq_ne h] at hx ⊢
   exact Nat.succ_lt_succ (ih hx)
theorem getS_set {σ : Sto} {i j : Nat} {s : Slot} : getS (σ.set i (some s)) j = if i = j ∧ i < σ.length then some s else getS σ j := by
 unfold getS
 rw [List.getElem?_set]
 by_cases h : i = j
 ·subst h
  by_cases q : i < σ.length
  ·simp [q]
  ·have : σ[i]? = none := List.getElem?_eq_none (Nat.le_of_not_lt q)
   simp [q,this]
 ·simp [h]
theorem getS_setNone {σ : Sto} {i j : Nat} : getS (σ.set i none) j = if i = j then none else getS σ j := by
 unfold getS
 rw [List.getElem?_set]
 by_cases h : i = j
 ·subst h
  by_cases q : i < σ.length
  ·simp [q]
  ·simp [q]
 ·simp [h]
structure DeckV (P : Params) (dc : Addr) (d : Nat) (m t : Int) (um ut : Tok) (vs : List Value) (a b : Option Obj) : Prop where
 dict : ∃ es n,a = some (dictOf es n) ∧ ∀ (prog : Program) (w : World),w.params = P->(dictOf es n).IsDictOf (strKind prog w) [(Str.ofString "cells",.ref dc),(Str.ofString "mixed",.int m um),(Str.ofString "turn",.int t ut)]
 list : ∃ k,b = some { cls := .type "list",data := .seq vs.toArray k }
 its : ∃ ns,IntsAre vs ns
 len : vs.length ≤ 8
 m0 : 0 ≤ m
 m1 : m < 2147483587
 t0 : 0 ≤ t
 t1 : t + d ≤ 1000000
structure DeckAt (p : Pl) (d : Nat) (a b : Option Obj) : Prop where
 dict : ∃ es n,a = some (dictOf es n)
 cell : ∃ o,b = some o ∧ ∀ vs,o.data ≠ .fields vs
 or : (p.off = true ∧ p.dc = p.dk ∧ a = some emptyDict) ∨ (p.dk ≠ p.dc ∧ ∃ m t um ut vs,DeckV p.P p.dc d m t um ut vs a b)
noncomputable def DeckOk (p : Pl) (d : Nat) (h : Heap) : Prop := DeckAt p d (h.get? p.dk) (h.get? p.dc)
noncomputable def Thing (h : Heap) (a : Addr) : Prop := ∃ o,h.get? a = some o ∧ ∀ vs,o.data ≠ .fields vs
theorem Thing.nn {h : Heap} {a : Addr} (x : Thing h a) : h.get? a ≠ none := let ⟨_,q,_⟩ := x; fun z => by rw [q] at z; cases z
theorem Thing.ne {h : Heap} {a b : Addr} (x : Thing h a) (q : h.get? b = none) : b ≠ a := fun z => x.nn (z ▸ q)
theorem DeckOk.dkT {p : Pl} {d : Nat} {h : Heap} (x : DeckOk p d h) : Thing h p.dk := by
 obtain ⟨_,_,a⟩ := x.dict; exact ⟨_,a,fun _ q => by cases q⟩
theorem DeckOk.dcT {p : Pl} {d : Nat} {h : Heap} (x : DeckOk p d h) : Thing h p.dc := by
 exact x.cell
noncomputable def SlotV (p : Pl) (φ : Ob) (a : Addr) (v : Value) : Slot->Prop
 | .fz x => Rep p φ v x
 | .ol _ => v = .ref a
 | .od _ => v = .ref a
 | .oi c _ => ∃ x,v = .ref x ∧ φ x = some (instObj (p.ca c) a)
noncomputable def KeysAre (P : Params) (es : List DictEntry) (n : Nat) (ks : List Byt) : Prop :=
 ∀ (prog : Program) (w : World),w.params = P->(dictOf es n).IsDictOf (bytesKind prog w) (ks.map fun k => (k.toList,Value.bool true))
theorem KeysAre.nil (P : Params) : KeysAre P [] 0 [] := fun _ _ _ => ⟨#[],0,⟨rfl,rfl,rfl⟩,rfl,fun _ h => (by simp at h),.nil,by simp⟩
structure Own (p : Pl) (g : Heap) (fs : List Addr) (L : Addr) (φ : Ob) (a : Addr) : Prop where
 fs : a ∉ fs
 g : g.get? a = none
 φ : φ a = none
 L : a ≠ L
 dk : a ≠ p.dk
 dc : a ≠ p.dc
noncomputable def OwnAt (p : Pl) (e g : Heap) (fs : List Addr) (L : Addr) (φ : Ob) (h : Heap) (a : Addr) : Slot->Prop
 | .fz _ => True
 | .ol l => (∃ vs,h.PlainList a (List.toArray vs) ∧ vs.length ≤ lineB ∧ Reps p φ vs l ∧ e.get? a = none) ∧ Own p g fs L φ a
 | .od ks => (∃ es n,h.get? a = some (dictOf es n) ∧ KeysAre p.P es n ks ∧ es.length ≤ 1000 ∧ e.get? a = none) ∧ Own p g fs L φ a
 | .oi _ xs => (∃ es n,h.get? a = some (dictOf es n) ∧ Ents p φ es xs ∧ es.length ≤ 100) ∧ Own p g fs L φ a
structure FrN (g : Heap) (L : Addr) (h : Heap) (m : Str->Option Value) : Prop where
 ns : h.Ns L m
 keep : ∀ b o,g.get? b = some o->h.get? b = some o
 above : g.get? L = none
theorem FrN.set {g h h' : Heap} {L : Addr} {m m' : Str->Option Value} (F : FrN g L h m) (hn : h'.Ns L m') (hs : Heap.SameBut L h h') : FrN g L h' m' :=
 ⟨hn,fun b o e => (hs.2 b fun q => by rw [q,F.above] at e; cases e).trans (F.keep b o e),F.above⟩
theorem FrN.keeps {g h h' : Heap} {L : Addr} {m : Str->Option Value} (F : FrN g L h m) (hk : ∀ b o,h.get? b = some o->h'.get? b = some o) : FrN g L h' m :=
 ⟨F.ns.keeps hk,fun b o e => hk b o (F.keep b o e),F.above⟩
structure FI (K : Frag) (p : Pl) (e g : Heap) (fs : List Addr) (env : Env) (φ : Ob) (α : Nat->Addr) (d : Nat) (σ : Sto) (h : Heap) : Prop where
 loc : ∃ m,FrN g env.locals h m ∧ ∀ x s,kindOf env.scope.names x = some .local->getS σ (idx env.scope.names x) = some s->∃ v,m x = some v ∧ SlotV p φ (α (idx env.scope.names x)) v s
 cel : ∀ x s,kindOf env.scope.names x = some .cell->getS σ (idx env.scope.names x) = some s->∃ c o v pv,env.cells.lookup x = some c ∧ φ c = some o ∧ o.data = .cell (some v) ∧ s = .fz pv ∧ Rep p φ v pv
 own : ∀ i s,getS σ i = some s->OwnAt p e g fs env.locals φ h (α i) s
 inj : ∀ i j s s',getS σ i = some s->getS σ j = some s'->s.isOwn = true->s'.isOwn = true->α i = α j->i = j
 sub : ∀ a o,φ a = some o->h.get? a = some o
 stat : ∀ a o,K.lookup a = some o->φ a = some o
 kin : K.In g
 nL : φ env.locals = none
 ndk : φ p.dk = none
 ndc : φ p.dc = none
 dkL : p.dk ≠ env.locals
 dcL : p.dc ≠ env.locals
 deck : DeckOk p d h
 old : ∀ a,e.get? a = none->g.get? a = none
 live : ∀ a,h.get? a = none->e.get? a = none
 eL : e.get? env.locals = none
 gdk : g.get? p.dk = none
 gdc : g.get? p.dc = none
 ffs : ∀ b ∈ fs,φ b = none ∧ g.get? b = none ∧ b ≠ p.dk ∧ b ≠ p.dc ∧ ∃ o,h.get? b = some o ∧ ∀ vs,o.data ≠ .fields vs
 ups : ∀ b ∈ fs,∀ o,e.get? b = some o->∃ sl,h.get? b = some { o with slots := sl }
noncomputable def Ext (e : Heap) (φ φ' : Ob) : Prop := Le φ φ' ∧ ∀ a,φ a = none->φ' a ≠ none->e.get? a = none
theorem Ext.refl (e : Heap) (φ : Ob) : Ext e φ φ := ⟨Le.refl φ,fun _ h k => absurd h k⟩
theorem Ext.trans {e : Heap} {a b c : Ob} (x : Ext e a b) (y : Ext e b c) : Ext e a c := ⟨x.1.trans y.1,fun q h k => by
 cases r : b q with
 | none => exact y.2 q r k
 | some o => exact x.2 q h (by rw [r]; simp)⟩
section
variable {K : Frag} {p : Pl} {e g : Heap} {fs : List Addr} {env : Env} {φ : Ob} {α : Nat->Addr} {d : Nat} {σ : Sto} {h h' : Heap}
theorem Thing.eq {a : Addr} (x : Thing h a) (k : ∀ o,h.get? a = some o->h'.get? a = some o) : h'.get? a = h.get? a := let ⟨_,q,_⟩ := x; (k _ q).trans q.symm
theorem DeckOk.at2 (kd : ∀ o,h.get? p.dk = some o->h'.get? p.dk = some o) (kc : ∀ o,h.get? p.dc = some o->h'.get? p.dc = some o) (x : DeckOk p d h) : DeckOk p d h' := by
 show DeckAt p d (h'.get? p.dk) (h'.get? p.dc)
 rw [x.dkT.eq kd,x.dcT.eq kc]; exact x
theorem DeckOk.keeps (k : ∀ b o,h.get? b = some o->h'.get? b = some o) (x : DeckOk p d h) : DeckOk p d h' := x.at2 (fun o q => k _ o q) fun o q => k _ o q
theorem OwnAt.at {L a : Addr} {s : Slot} (k : s.isOwn = true->∀ o,(∀ vs,o.data ≠ .fields vs)->h.get? a = some o->h'.get? a = some o) (x : OwnAt p e g fs L φ h a s) : OwnAt p e g fs L φ h' a s := by
 cases s with
 | fz v => trivial
 | ol l => obtain ⟨⟨vs,⟨n,a⟩,b⟩,c⟩ := x; exact ⟨⟨vs,⟨n,k rfl _ (fun _ q => by cases q) a⟩,b⟩,c⟩
 | od l => obtain ⟨⟨es,n,a,b⟩,c⟩ := x; exact ⟨⟨es,n,k rfl _ (fun _ q => by cases q) a,b⟩,c⟩
 | oi q fs => obtain ⟨⟨es,n,a,b⟩,c⟩ := x; exact ⟨⟨es,n,k rfl _ (fun _ q => by cases q) a,b⟩,c⟩
theorem OwnAt.keeps {L a : Addr} {s : Slot} (k : ∀ b o,h.get? b = some o->h'.get? b = some o) (x : OwnAt p e g fs L φ h a s) : OwnAt p e g fs L φ h' a s := x.at fun _ _ _ q => k _ _ q
theorem none_of_keeps (k : ∀ b o,h.get? b = some o->h'.get? b = some o) {a : Addr} (q : h'.get? a = none) : h.get? a = none := by
 cases r : h.get? a with
 | none => rfl
 | some o => have := k _ _ r; rw [q] at this; cases this
noncomputable def put (φ : Ob) (a : Addr) (o : Obj) : Ob := fun b => if b = a then some o else φ b
theorem put_le {a : Addr} {o : Obj} (hn : φ a = none) : Le φ (put φ a o) := fun b o' e => by
 unfold put
 by_cases q : b = a
 ·subst q; rw [hn] at e; cases e
 ·rw [if_neg q]; exact e
theorem put_self (φ : Ob) (a : Addr) (o : Obj) : put φ a o a = some o := by simp [put]
theorem put_other {a b : Addr} {o : Obj} (h : b ≠ a) : put φ a o b = φ b := by simp [put,h]
theorem SlotV.mono {φ' : Ob} (k : Le φ φ') {a : Addr} {v : Value} {s : Slot} (x : SlotV p φ a v s) : SlotV p φ' a v s := by
 cases s with
 | fz y => exact Rep.mono k x
 | ol l => exact x
 | od l => exact x
 | oi c fs => obtain ⟨y,e,q⟩ := x; exact ⟨y,e,k _ _ q⟩
theorem OwnAt.grows {φ' : Ob} (k : Le φ φ') {L a : Addr} {s : Slot} (ha : s.isOwn = true->φ' a = none) (x : OwnAt p e g fs L φ h a s) : OwnAt p e g fs L φ' h a s := by
 cases s with
 | fz v => trivial
 | ol l => obtain ⟨⟨vs,a,b,c,q⟩,r⟩ := x; exact ⟨⟨vs,a,b,c.mono k,q⟩,⟨r.fs,r.g,ha rfl,r.L,r.dk,r.dc⟩⟩
 | od l => obtain ⟨y,r⟩ := x; exact ⟨y,⟨r.fs,r.g,ha rfl,r.L,r.dk,r.dc⟩⟩
 | oi q fs => obtain ⟨⟨es,n,a,b,z⟩,r⟩ := x; exact ⟨⟨es,n,a,b.mono k,z⟩,⟨r.fs,r.g,ha rfl,r.L,r.dk,r.dc⟩⟩
theorem nn {α : Type} {a : Option α} {o : α} (q : a = some o) : a ≠ none := fun z => by rw [q] at z; cases z
theorem FI.LT (I : FI K p e g fs env φ α d σ h) : h.get? env.locals ≠ none := let ⟨_,F,_⟩ := I.loc; let ⟨_,_,_,q,_⟩ := F.ns; nn q
theorem Ob.keepNone {x : Option Obj} {b : Heap} {a : Addr} (k : ∀ o,x = some o->b.get? a = some o) (q : b.get? a = none) : x = none := by
 cases x with
 | none => rfl
 | some o => exact absurd q (nn (k o rfl))
theorem FI.re2 {φ' : Ob} {d' : Nat} {σ' : Sto} {α' : Nat->Addr} (I : FI K p e g fs env φ α d σ h) (le : Le φ φ')
  (loc : ∃ m,FrN g env.locals h' m ∧ ∀ x s,kindOf env.scope.names x = some .local->getS σ' (idx env.scope.names x) = some s->∃ v,m x = some v ∧ SlotV p φ' (α' (idx env.scope.names x)) v s)
  (cel : ∀ x s,kindOf env.scope.names x = some .cell->getS σ' (idx env.scope.names x) = some s->getS σ (idx env.scope.names x) = some s)
  (own : ∀ i s,getS σ' i = some s->OwnAt p e g fs env.locals φ' h' (α' i) s)
  (inj : ∀ i j s s',getS σ' i = some s->getS σ' j = some s'->s.isOwn = true->s'.isOwn = true->α' i = α' j->i = j)
  (sub : ∀ a o,φ' a = some o->h'.get? a = some o) (nL : φ' env.locals = none) (ndk : φ' p.dk = none) (ndc : φ' p.dc = none) (dk : DeckOk p d' h')
  (live : ∀ a,h'.get? a = none->e.get? a = none) (ffs : ∀ b ∈ fs,φ' b = none ∧ Thing h' b) (ups : ∀ b ∈ fs,∀ o,e.get? b = some o->h.get? b ≠ none->∀ o,h.get? b = some o->∃ sl,h'.get? b = some { o with slots := sl }) : FI K p e g fs env φ' α' d' σ' h' where
 loc := loc
 cel x s hx hs := let ⟨c,o,v,pv,a1,a2,a3,a4,a5⟩ := I.cel x s hx (cel x s hx hs); ⟨c,o,v,pv,a1,le _ _ a2,a3,a4,a5.mono le⟩
 own := own
 inj := inj
 sub := sub
 stat a o q := le _ _ (I.stat a o q)
 kin := I.kin
 nL := nL
 ndk := ndk
 ndc := ndc
 dkL := I.dkL
 dcL := I.dcL
 deck := dk
 old := I.old
 live := live
 eL := I.eL
 gdk := I.gdk
 gdc := I.gdc
 ffs b hb := let x := I.ffs b hb; let y := ffs b hb; ⟨y.1,x.2.1,x.2.2.1,x.2.2.2.1,y.2⟩
 ups b hb o q := let ⟨_,r⟩ := I.ups b hb o q; let ⟨sl,r'⟩ := ups b hb o q (nn r) _ r; ⟨sl,r'⟩
theorem FI.re {φ' : Ob} {d' : Nat} (I : FI K p e g fs env φ α d σ h) (le : Le φ φ') (ns : ∀ m,h.Ns env.locals m->h'.Ns env.locals m) (hg : ∀ b o,g.get? b = some o->h'.get? b = some o)
  (own : ∀ i s,getS σ i = some s->OwnAt p e g fs env.locals φ' h' (α i) s) (sub : ∀ a o,φ' a = some o->h'.get? a = some o) (nL : φ' env.locals = none) (ndk : φ' p.dk = none) (ndc : φ' p.dc = none) (dk : DeckOk p d' h')
  (live : ∀ a,h'.get? a = none->e.get? a = none) (ffs : ∀ b ∈ fs,φ' b = none ∧ Thing h' b) (ups : ∀ b ∈ fs,∀ o,h.get? b = some o->∃ sl,h'.get? b = some { o with slots := sl }) : FI K p e g fs env φ' α d' σ h' :=
 I.re2 le (let ⟨m,F,V⟩ := I.loc; ⟨m,⟨ns m F.ns,hg,F.above⟩,fun x s hx hs => let ⟨v,q,r⟩ := V x s hx hs; ⟨v,q,r.mono le⟩⟩) (fun _ _ _ q => q) own I.inj sub nL ndk ndc dk live ffs fun b hb _ _ _ o q => ups b hb o q
theorem FI.ffT (I : FI K p e g fs env φ α d σ h) {b : Addr} (hb : b ∈ fs) : Thing h b := (I.ffs b hb).2.2.2.2
theorem FI.keeps (I : FI K p e g fs env φ α d σ h) (k : ∀ b o,h.get? b = some o->h'.get? b = some o) : FI K p e g fs env φ α d σ h' :=
 I.re (Le.refl _) (fun _ x => x.keeps k) (fun b o q => let ⟨_,F,_⟩ := I.loc; k _ _ (F.keep b o q)) (fun i s hs => (I.own i s hs).keeps k) (fun a o q => k _ _ (I.sub a o q)) I.nL I.ndk I.ndc (I.deck.keeps k) (fun _ q => I.live _ (none_of_keeps k q))
  (fun b hb => ⟨(I.ffs b hb).1,let ⟨o,q,r⟩ := I.ffT hb; ⟨o,k _ _ q,r⟩⟩) fun _ _ _ q => ⟨_,k _ _ q⟩
theorem OwnAt.thing {L a : Addr} {s : Slot} (hs : s.isOwn = true) (x : OwnAt p e g fs L φ h a s) : Thing h a := by
 cases s with
 | fz v => cases hs
 | ol l => obtain ⟨⟨vs,⟨n,a⟩,_⟩,_⟩ := x; exact ⟨_,a,fun _ q => by cases q⟩
 | od l => obtain ⟨⟨es,n,a,_⟩,_⟩ := x; exact ⟨_,a,fun _ q => by cases q⟩
 | oi q fs => obtain ⟨⟨es,n,a,_⟩,_⟩ := x; exact ⟨_,a,fun _ q => by cases q⟩
theorem OwnAt.there {L a : Addr} {s : Slot} (hs : s.isOwn = true) (x : OwnAt p e g fs L φ h a s) : ∃ o,h.get? a = some o := let ⟨o,q,_⟩ := x.thing hs; ⟨o,q⟩
theorem OwnAt.free {L a : Addr} {s : Slot} (hs : s.isOwn = true) (x : OwnAt p e g fs L φ h a s) : Own p g fs L φ a := by
 cases s with
 | fz v => cases hs
 | ol l => exact x.2
 | od l => exact x.2
 | oi q fs => exact x.2
theorem FI.grows {φ' : Ob} (I : FI K p e g fs env φ α d σ h) (k : Le φ φ') (hs : ∀ a o,φ' a = some o->h.get? a = some o) (ho : ∀ i s,getS σ i = some s->s.isOwn = true->φ' (α i) = none)
  (hL : φ' env.locals = none) (h1 : φ' p.dk = none) (h2 : φ' p.dc = none) (hf : ∀ b ∈ fs,φ' b = none) : FI K p e g fs env φ' α d σ h :=
 I.re k (fun _ x => x) (fun b o q => let ⟨_,F,_⟩ := I.loc; F.keep b o q) (fun i s hg => (I.own i s hg).grows k (ho i s hg)) hs hL h1 h2 I.deck I.live (fun b hb => ⟨hf b hb,I.ffT hb⟩) fun _ _ _ q => ⟨_,q⟩
theorem FI.new {D : Addr} {o : Obj} (I : FI K p e g fs env φ α d σ h) (k : ∀ b o,h.get? b = some o->h'.get? b = some o) (hD : h'.get? D = some o) (hn : h.get? D = none) :
  FI K p e g fs env (put φ D o) α d σ h' ∧ Ext e φ (put φ D o) := by
 have pn : φ D = none := Ob.keepNone (fun o q => I.sub _ o q) hn
 have po : ∀ b,h.get? b ≠ none->φ b = none->put φ D o b = none := fun b hb q => by rw [put_other (show b ≠ D from fun z => hb (z ▸ hn))]; exact q
 refine ⟨FI.grows (I.keeps k) (put_le pn) (fun a o' q => ?_) (fun i s hs so => ?_) (po _ I.LT I.nL) (po _ I.deck.dkT.nn I.ndk) (po _ I.deck.dcT.nn I.ndc) (fun b hb => po _ (I.ffT hb).nn (I.ffs b hb).1),put_le pn,fun a h1 h2 => ?_⟩
 ·by_cases r : a = D
  ·subst r; rw [put_self] at q; cases q; exact hD
  ·rw [put_other r] at q; exact k _ _ (I.sub _ _ q)
 ·obtain ⟨o',hh⟩ := (I.own i s hs).there so
  exact po _ (nn hh) ((I.own i s hs).free so).φ
 ·by_cases r : a = D
  ·subst r; exact I.live _ hn
  ·rw [put_other r] at h2; exact absurd h1 h2
theorem ns_ups {a : Addr} {m : Str->Option Value} (hn : h.Ns a m) (u : ∀ o,h.get? a = some o->∃ sl,h'.get? a = some { o with slots := sl }) : h'.Ns a m := by
 obtain ⟨o,es,ep,ho,hd,r⟩ := hn
 obtain ⟨sl,q⟩ := u o ho
 exact ⟨_,es,ep,q,hd,r⟩
theorem ns_at {a : Addr} {m : Str->Option Value} (hn : h.Ns a m) (u : ∀ o,h.get? a = some o->h'.get? a = some o) : h'.Ns a m := ns_ups hn fun o q => ⟨o.slots,u o q⟩
theorem FI.back {φ' : Ob} {d' : Nat} (I : FI K p e g fs env φ α d σ h) (k : ∀ b o,h.get? b = some o->b ∉ fs->b ≠ p.dk->b ≠ p.dc->h'.get? b = some o)
  (u : ∀ b ∈ fs,∀ o,h.get? b = some o->∃ sl,h'.get? b = some { o with slots := sl }) (dk' : DeckOk p d' h') (le : Le φ φ') (sub' : ∀ a o,φ' a = some o->h'.get? a = some o)
  (new : ∀ a,φ a = none->φ' a ≠ none->h.get? a = none) : FI K p e g fs env φ' α d' σ h' ∧ Ext e φ φ' := by
 have there : ∀ b,h.get? b ≠ none->φ b = none->φ' b = none := fun b hb hn => Classical.byContradiction fun q => hb (new b hn q)
 have lv : ∀ a,h'.get? a = none->h.get? a = none := fun a ha => Ob.keepNone (b := h') (fun o q => by
  by_cases h1 : a ∈ fs
  ·obtain ⟨sl,r⟩ := u a h1 o q; exact absurd ha (nn r)
  ·exact k a o q h1 (dk'.dkT.ne ha) (dk'.dcT.ne ha)) ha
 refine ⟨I.re le (fun m x => ?_) (fun b o q => ?_) (fun i s hs => ?_) sub' (there _ I.LT I.nL) (there _ I.deck.dkT.nn I.ndk) (there _ I.deck.dcT.nn I.ndc) dk' (fun a q => I.live a (lv a q)) (fun b hb => ⟨there _ (I.ffT hb).nn (I.ffs b hb).1,?_⟩) u,le,fun a h1 h2 => I.live a (new a h1 h2)⟩
 ·by_cases h1 : env.locals ∈ fs
  ·exact ns_ups x (u _ h1)
  ·exact ns_at x fun o q => k _ o q h1 I.dkL.symm I.dcL.symm
 ·obtain ⟨m,F,_⟩ := I.loc
  exact k b o (F.keep b o q) (fun z => by rw [(I.ffs b z).2.1] at q; cases q) (fun z => by rw [z,I.gdk] at q; cases q) (fun z => by rw [z,I.gdc] at q; cases q)
 ·have x := I.own i s hs
  exact (x.at fun so o _ q => k _ _ q (x.free so).fs (x.free so).dk (x.free so).dc).grows le fun so => by
   obtain ⟨o,q⟩ := x.there so
   exact there _ (nn q) (x.free so).φ
 ·obtain ⟨o,q,r⟩ := I.ffT hb
  obtain ⟨sl,q'⟩ := u b hb o q
  exact ⟨_,q',r⟩
theorem getS_put {σ : Sto} {i j : Nat} {s₁ s : Slot} (q : getS (putS σ i s₁) j = some s) : (i = j ∧ s = s₁) ∨ (i ≠ j ∧ getS σ j = some s) := by
 unfold putS at q
 rw [getS_set] at q
 by_cases z : i = j
 ·by_cases y : i < σ.length
  ·rw [if_pos ⟨z,y⟩] at q; exact .inl ⟨z,(Option.some.inj q).symm⟩
  ·have : getS σ j = none := by unfold getS; rw [List.getElem?_eq_none (z ▸ Nat.le_of_not_lt y)]
   rw [if_neg (fun z => y z.2),this] at q; cases q
 ·rw [if_neg (fun y => z y.1)] at q; exact .inr ⟨z,q⟩
theorem FI.at1 {σ' : Sto} {α' : Nat->Addr} {a : Addr} (I : FI K p e g fs env φ α d σ h) (hs : Heap.SameBut a h h') (ha : Thing h' a) (up : a ∈ fs->e.get? a = none) (φa : φ a = none) (dk : a ≠ p.dk) (dc : a ≠ p.dc)
  (loc : ∃ m,FrN g env.locals h' m ∧ ∀ x s,kindOf env.scope.names x = some .local->getS σ' (idx env.scope.names x) = some s->∃ v,m x = some v ∧ SlotV p φ (α' (idx env.scope.names x)) v s)
  (cel : ∀ x s,kindOf env.scope.names x = some .cell->getS σ' (idx env.scope.names x) = some s->getS σ (idx env.scope.names x) = some s)
  (own : ∀ i s,getS σ' i = some s->OwnAt p e g fs env.locals φ h' (α' i) s)
  (inj : ∀ i j s s',getS σ' i = some s->getS σ' j = some s'->s.isOwn = true->s'.isOwn = true->α' i = α' j->i = j) : FI K p e g fs env φ α' d σ' h' :=
 I.re2 (Le.refl _) loc cel own inj (fun b o q => (hs.2 b fun z => nn q (z ▸ φa)).trans (I.sub b o q)) I.nL I.ndk I.ndc (I.deck.at2 (fun _ q => (hs.2 _ dk.symm).trans q) fun _ q => (hs.2 _ dc.symm).trans q)
  (fun b hb => I.live b ((hs.2 b (ha.ne hb)).symm.trans hb)) (fun b hb => ⟨(I.ffs b hb).1,by
   by_cases q : b = a
   ·rw [q]; exact ha
   ·obtain ⟨o,r,z⟩ := I.ffT hb; exact ⟨o,(hs.2 b q).trans r,z⟩⟩) fun b hb o q _ o' r => ⟨o'.slots,(hs.2 b fun z => nn q (z ▸ up (z ▸ hb))).trans r⟩
theorem FI.L_fs (I : FI K p e g fs env φ α d σ h) {m : Str->Option Value} (hn : h'.Ns env.locals m) : Thing h' env.locals := let ⟨o,_,_,a,b,_⟩ := hn; ⟨o,a,fun _ q => by rw [b] at q; cases q⟩
theorem FI.atNames {σ' : Sto} {m m' : Str->Option Value} (I : FI K p e g fs env φ α d σ h) (F : FrN g env.locals h m) (hn : h'.Ns env.locals m') (hs : Heap.SameBut env.locals h h')
  (V : ∀ x s,kindOf env.scope.names x = some .local->getS σ' (idx env.scope.names x) = some s->∃ v,m' x = some v ∧ SlotV p φ (α (idx env.scope.names x)) v s)
  (cl : ∀ x s,kindOf env.scope.names x = some .cell->getS σ' (idx env.scope.names x) = some s->getS σ (idx env.scope.names x) = some s)
  (ow : ∀ i s,getS σ' i = some s->s.isOwn = true->getS σ i = some s) : FI K p e g fs env φ α d σ' h' := by
 refine I.at1 hs (I.L_fs hn) (fun _ => I.eL) I.nL I.dkL.symm I.dcL.symm ⟨m',F.set hn hs,V⟩ cl (fun i s hg => ?_) fun i j s s' h1 h2 h3 h4 => I.inj i j s s' (ow i s h1 h3) (ow j s' h2 h4) h3 h4
 cases so : s.isOwn with
 | false => cases s with
  | fz => trivial
  | _ => cases so
 | true => have x := I.own i s (ow i s hg so); exact x.at fun _ o _ q => (hs.2 _ (x.free so).L).trans q
theorem FI.atOwn {i : Nat} {s₀ s₁ : Slot} (I : FI K p e g fs env φ α d σ h) (hi : getS σ i = some s₀) (h0 : s₀.isOwn = true) (hs : Heap.SameBut (α i) h h') (h1 : s₁.isOwn = true)
  (hv : ∀ v,SlotV p φ (α i) v s₀->SlotV p φ (α i) v s₁) (ho : OwnAt p e g fs env.locals φ h' (α i) s₁) : FI K p e g fs env φ α d (putS σ i s₁) h' := by
 have fr := (I.own i s₀ hi).free h0
 have back : ∀ j s,getS (putS σ i s₁) j = some s->∃ s',getS σ j = some s' ∧ (s.isOwn = true->s'.isOwn = true) ∧ ((i = j ∧ s' = s₀ ∧ s = s₁) ∨ (i ≠ j ∧ s' = s)) := fun j s q => by
  rcases getS_put q with ⟨e,r⟩ | ⟨e,r⟩
  ·exact ⟨s₀,e ▸ hi,fun _ => h0,.inl ⟨e,rfl,r⟩⟩
  ·exact ⟨s,r,fun z => z,.inr ⟨e,rfl⟩⟩
 refine I.at1 hs (ho.thing h1) (fun z => absurd z fr.fs) fr.φ fr.dk fr.dc ?_ (fun x s hx hg => ?_) (fun j s hg => ?_) fun j k s s' q1 q2 q3 q4 e => ?_
 ·obtain ⟨m,F,V⟩ := I.loc
  refine ⟨m,⟨F.ns.sameBut hs fr.L.symm,fun b o q => (hs.2 b (fun z => nn q (z ▸ fr.g))).trans (F.keep b o q),F.above⟩,fun x s hx hg => ?_⟩
  obtain ⟨s',q,_,z⟩ := back _ _ hg
  obtain ⟨v,a,b⟩ := V x s' hx q
  refine ⟨v,a,?_⟩
  rcases z with ⟨e,rfl,rfl⟩ | ⟨_,rfl⟩
  ·exact e ▸ hv v (e ▸ b)
  ·exact b
 ·obtain ⟨s',q,_,z⟩ := back _ _ hg
  rcases z with ⟨_,rfl,_⟩ | ⟨_,rfl⟩
  ·obtain ⟨_,_,_,_,_,_,_,z,_⟩ := I.cel x _ hx q
   rw [z] at h0; cases h0
  ·exact q
 ·obtain ⟨s',q,so,z⟩ := back _ _ hg
  rcases z with ⟨e,_,rfl⟩ | ⟨e,rfl⟩
  ·exact e ▸ ho
  ·exact (I.own j _ q).at fun so o _ r => (hs.2 _ fun z => e (I.inj i j _ _ hi q h0 so z.symm)).trans r
 ·obtain ⟨_,r1,o1,_⟩ := back _ _ q1
  obtain ⟨_,r2,o2,_⟩ := back _ _ q2
  exact I.inj j k _ _ r1 r2 (o1 q3) (o2 q4) e
end
end
structure TrAt (e0 : Heap) (φ : Ob) (x : Addr) (h : Heap) (T : Addr) : Prop where
 ne : T ≠ x
 rc : ∃ oT ts,h.get? T = some oT ∧ oT.data = .fields ts ∧ 3 < ts.size
 φ : φ T = none
 e : e0.get? T = none
structure ExcAt (p : Pl) (e0 : Heap) (φ : Ob) (x : Addr) (told : PV) (h : Heap) (oe : Obj) (vs : Array Value) (dx : Addr) : Prop where
 hx : h.get? x = some oe
 hc : oe.cls = .ref (p.ca 7)
 hd : oe.data = .fields vs
 hdx : oe.dict = some dx
 en : ∃ es n,φ dx = some (dictOf es n) ∧ Ents p φ es [("told",told)]
 nφ : φ x = none
 ne : e0.get? x = none
 tr : vs[1]? = some .none ∨ ∃ T,vs[1]? = some (.ref T) ∧ TrAt e0 φ x h T
noncomputable def ExcIn (p : Pl) (e0 : Heap) (φ : Ob) (x : Addr) (told : PV) (h : Heap) : Prop := ∃ oe vs dx,ExcAt p e0 φ x told h oe vs dx
structure Fm where
 prog : Program
 w : World
 K : Frag
 p : Pl
 e : Heap
 g : Heap
 fs : List Addr
 env : Env
noncomputable abbrev Fm.I (f : Fm) (φ : Ob) (α : Nat->Addr) (d : Nat) (σ : Sto) (h : Heap) : Prop := FI f.K f.p f.e f.g f.fs f.env φ α d σ h
section
variable (f : Fm)
noncomputable def QQ {β γ : Type} (R : Ob->β->γ->Prop) (φ : Ob) (α : Nat->Addr) (s : Shared) (Q : β->Shared->Prop) (d : Nat) (r : γ × Sto) : Prop :=
 ∀ v h' tk φ',Ext f.e φ φ'->f.I φ' α d r.2 h'->R φ' v r.1->Q v { s with heap := h',toks := tk }
noncomputable def EE (φ : Ob) (α : Nat->Addr) (s : Shared) (E : Value->Shared->Prop) (d : Nat) (told : PV) (σ : Sto) : Prop :=
 ∀ x h' tk φ',Ext f.e φ φ'->f.I φ' α d σ h'->ExcIn f.p f.e φ' x told h'->E (.ref x) { s with heap := h',toks := tk }
noncomputable def Fm.S {β γ : Type} (φ₀ : Ob) (R : Ob->β->γ->Prop) (A : Around) (m : Sem β) (t : Sto->T (γ × Sto)) : Prop :=
 ∀ (φ : Ob) (α : Nat->Addr) (d : Nat) (σ : Sto) (s : Shared) (Q : β->Shared->Prop) (E : Value->Shared->Prop),Le φ₀ φ->f.I φ α d σ s.heap ->
  T.Sat d (t σ) (QQ f R φ α s Q) (EE f φ α s E)->wpAny (model f.prog f.w) A m Q E s
variable {f}
section
variable {β γ δ : Type} {R : Ob->β->γ->Prop} {R₂ : Ob->δ->γ->Prop} {φ φ₀ φ₁ : Ob} {α : Nat->Addr} {d : Nat} {σ : Sto} {s : Shared} {Q : β->Shared->Prop} {E : Value->Shared->Prop} {A : Around}
theorem QQ.step {r : γ × Sto} {h : Heap} {tk : Nat} (x : QQ f R φ α s Q d r) (y : Ext f.e φ φ₁) : QQ f R φ₁ α { s with heap := h,toks := tk } Q d r :=
 fun v h' tk' φ' e i r => x v h' tk' φ' (y.trans e) i r
theorem EE.step {told : PV} {h : Heap} {tk : Nat} (x : EE f φ α s E d told σ) (y : Ext f.e φ φ₁) : EE f φ₁ α { s with heap := h,toks := tk } E d told σ :=
 fun v h' tk' φ' e i r => x v h' tk' φ' (y.trans e) i r
theorem QQ.here {r : γ × Sto} {v : β} {tk : Nat} (x : QQ f R φ α s Q d r) (I : f.I φ α d r.2 s.heap) (h : R φ v r.1) : Q v { s with toks := tk } := x v s.heap tk φ (Ext.refl ..) I h
theorem QQ.here0 {r : γ × Sto} {v : β} (x : QQ f R φ α s Q d r) (I : f.I φ α d r.2 s.heap) (h : R φ v r.1) : Q v s := x v s.heap s.toks φ (Ext.refl ..) I h
end
section
variable {β γ δ ε : Type} {R : Ob->β->γ->Prop} {R₂ : Ob->δ->ε->Prop} {φ φ₀ : Ob} {α : Nat->Addr} {d : Nat} {σ : Sto} {s : Shared} {Q : β->Shared->Prop} {Q₂ : δ->Shared->Prop} {E : Value->Shared->Prop} {A : Around}
theorem Fm.S.cps {m : Sem β} {t : Sto->T (γ × Sto)} {t₂ : γ × Sto->T (ε × Sto)} (hl : f.S φ₀ R A m t) (le : Le φ₀ φ) (I : f.I φ α d σ s.heap) (H : T.Sat d (t σ >>= t₂) (QQ f R₂ φ α s Q₂) (EE f φ α s E))
  (next : ∀ φ₁ v x σ₁ s₁ d₁,Le φ φ₁->f.I φ₁ α d₁ σ₁ s₁.heap->R φ₁ v x->T.Sat d₁ (t₂ (x,σ₁)) (QQ f R₂ φ₁ α s₁ Q₂) (EE f φ₁ α s₁ E)->Q v s₁) : wpAny (model f.prog f.w) A m Q E s := by
 rw [T.sat_bind] at H
 refine hl φ α d σ s Q E le I (H.mono (fun d₁ r h => ?_) fun _ _ _ h => h)
 intro v h' tk φ₁ e i r'
 exact next φ₁ v r.1 r.2 _ d₁ e.1 i r' (h.mono (fun _ _ q => q.step e) fun _ _ _ q => q.step e)
end
structure Posts (f : Fm) (α : Nat->Addr) (E : Value->Shared->Prop) {γ : Type} (PQ : Ob->Shared->Nat->γ × Sto->Prop) (PE : Ob->Shared->Nat->PV->Sto->Prop) : Prop where
 q : ∀ {φ φ₁ s h tk d r},PQ φ s d r->Ext f.e φ φ₁->PQ φ₁ { s with heap := h,toks := tk } d r
 e : ∀ {φ φ₁ s h tk d told σ},PE φ s d told σ->Ext f.e φ φ₁->PE φ₁ { s with heap := h,toks := tk } d told σ
 toE : ∀ {φ s d told σ},PE φ s d told σ->EE f φ α s E d told σ
theorem posts_QQ {γ β : Type} {R : Ob->β->γ->Prop} {Q : β->Shared->Prop} {α : Nat->Addr} {E : Value->Shared->Prop} : Posts f α E (fun φ s => QQ f R φ α s Q) (fun φ s => EE f φ α s E) := ⟨fun x y => x.step y,fun x y => x.step y,fun x => x⟩
theorem Fm.S.cpsG {β γ ε : Type} {R : Ob->β->γ->Prop} {φ φ₀ : Ob} {α : Nat->Addr} {d : Nat} {σ : Sto} {s : Shared} {Q : β->Shared->Prop} {E : Value->Shared->Prop} {A : Around} {PQ : Ob->Shared->Nat->ε × Sto->Prop} {PE : Ob->Shared->Nat->PV->Sto->Prop} (ps : Posts f α E PQ PE) {m : Sem β} {t : Sto->T (γ × Sto)} {t₂ : γ × Sto->T (ε × Sto)} (hl : f.S φ₀ R A m t) (le : Le φ₀ φ) (I : f.I φ α d σ s.heap) (H : T.Sat d (t σ >>= t₂) (PQ φ s) (PE φ s))
  (next : ∀ φ₁ v x σ₁ s₁ d₁,Le φ φ₁->f.I φ₁ α d₁ σ₁ s₁.heap->R φ₁ v x->T.Sat d₁ (t₂ (x,σ₁)) (PQ φ₁ s₁) (PE φ₁ s₁)->Q v s₁) : wpAny (model f.prog f.w) A m Q E s :=
 hl φ α d σ s Q E le I (H.bind.mono (fun d₁ r h v h' tk φ₁ e i r' => next φ₁ v r.1 r.2 _ d₁ e.1 i r' (h.mono (fun _ _ q => ps.q q e) fun _ _ _ q => ps.e q e)) fun _ _ _ h => ps.toE h)
structure EnvOk (env : Env) : Prop where
 kind : env.scope.kind = .function
 globals : env.globals = mainGlobals
 builtins : env.builtins = builtinsNs
 dbg : kindOf env.scope.names "__debug__" = none
variable {φ₀ : Ob} {A : Around} {C : Cx} {P : Lv}
theorem snd_Constant {c : Const} {k : Nat} {pos : Pos} (sc : Scope) : f.S φ₀ (Rep f.p) A (eval (.Constant c k pos) f.env) (fun σ => evStep C P sc σ (.Constant c k pos)) := by
 intro φ α d σ s Q E le I H
 cases c with
 | none => exact wpAny_Constant_none (QQ.here0 H I .none)
 | bool b => exact wpAny_Constant_bool (QQ.here0 H I (.bool b))
 | int i => exact wpAny_Constant_int (QQ.here H I (.int i _))
 | str x =>
  refine T.Sat.iteBE H fun hz H => ?_
  exact wpAny_Constant_str (QQ.here H I (.str x _ (Nat.le_trans hz (by decide))))
 | bytes b =>
  refine T.Sat.iteBE H fun hz H => ?_
  exact Constant_bytes (QQ.here H I (.byt _ _ (Nat.le_trans (List.size_toArray ▸ hz) (by decide))))
 | _ => exact H.elim
end
structure Stat (prog : Program) (w : World) (K : Frag) (p : Pl) (C : Cx) where
 mg : Str->Option Value
 mb : Str->Option Value
 nsg : ∀ h : Heap,K.In h->h.Ns mainGlobals mg
 nsb : ∀ h : Heap,K.In h->h.Ns builtinsNs mb
 lim : ∀ h : Heap,K.In h->h.NoLimit
 attrs : ∀ c a,C.attr c a = true->plainGet K (p.ca c) a = true ∧ hasDictIn K (p.ca c) = true ∧ findIn K (.ref (p.ca c)) a = some none
 sets : ∀ c a,C.attr c a = true->findIn K (.ref (p.ca c)) "__setattr__" = some (some (.builtin "object.__setattr__")) ∧ plainOver K (p.ca c) = true ∧ takerIn K (p.ca c) a = some none
 hP : p.P = w.params
 sysm : (K.lookup sysModules).isSome = true
 val : ∀ x v,C.glob x = some (.val v)->∃ u,mg x = some u ∧ Rep p (fun a => K.lookup a) u v
theorem FI.kinH {K : Frag} {p : Pl} {e g : Heap} {fs : List Addr} {env : Env} {φ : Ob} {α : Nat->Addr} {d : Nat} {σ : Sto} {h : Heap} (I : FI K p e g fs env φ α d σ h) : K.In h :=
 fun a o q => I.sub a o (I.stat a o q)
structure FmOk (f : Fm) (C : Cx) (A : Around) where
 st : Stat f.prog f.w f.K f.p C
 env : EnvOk f.env
section
variable {f : Fm} {φ₀ : Ob} {A : Around} {C : Cx} {P : Lv}
variable {φ : Ob} {α : Nat->Addr} {d : Nat} {σ : Sto} {s : Shared}
theorem kind_dbg (ok : EnvOk f.env) {x : Str} (hx : kindOf f.env.scope.names x ≠ none) : (x == ("__debug__" : Str)) = false := by
 cases q : x == ("__debug__" : Str) with
 | false => rfl
 | true => rw [eq_of_beq q] at hx; exact absurd ok.dbg hx
theorem kind_env {x : Str} {k : NameKind} (hx : kindOf f.env.scope.names x = some k) : f.env.kindOf x = some k := by
 show f.env.scope.names.lookup x = _
 rw [← kindOf_eq]; exact hx
theorem name_local (ok : EnvOk f.env) (I : f.I φ α d σ s.heap) {x : Str} {pos : Pos} {sl : Slot} (hx : kindOf f.env.scope.names x = some .local) (hs : getS σ (idx f.env.scope.names x) = some sl)
  {Q : Value->Shared->Prop} {E : Value->Shared->Prop} (h : ∀ v,SlotV f.p φ (α (idx f.env.scope.names x)) v sl->Q v s) : wpAny (model f.prog f.w) A (eval (.Name x pos) f.env) Q E s := by
 obtain ⟨m,F,V⟩ := I.loc
 obtain ⟨v,hv,r⟩ := V x sl hx hs
 exact wpAny_Name (wpAny_loadName_local ok.kind (kind_env hx) F.ns hv (h v r)) (kind_dbg ok (nn hx))
theorem name_global (ok : EnvOk f.env) (st : Stat f.prog f.w f.K f.p C) (I : f.I φ α d σ s.heap) {x : Str} {pos : Pos} {v : Value} (hx : kindOf f.env.scope.names x = some .globalImplicit) (hv : st.mg x = some v)
  {Q : Value->Shared->Prop} {E : Value->Shared->Prop} (h : Q v s) : wpAny (model f.prog f.w) A (eval (.Name x pos) f.env) Q E s :=
 Calls.Name_function_global ok.kind (kind_env hx) (Calls.loadGlobal_global (by rw [ok.globals]; exact st.nsg _ I.kinH) hv h) (kind_dbg ok (nn hx))
theorem name_builtin (ok : EnvOk f.env) (st : Stat f.prog f.w f.K f.p C) (I : f.I φ α d σ s.heap) {x : Str} {pos : Pos} {v : Value} (hx : kindOf f.env.scope.names x = some .globalImplicit) (hn : st.mg x = none) (hv : st.mb x = some v)
  {Q : Value->Shared->Prop} {E : Value->Shared->Prop} (h : Q v s) : wpAny (model f.prog f.w) A (eval (.Name x pos) f.env) Q E s :=
 Calls.Name_function_global ok.kind (kind_env hx) (Calls.loadGlobal_builtin (by rw [ok.globals]; exact st.nsg _ I.kinH) hn (by rw [ok.builtins]; exact st.nsb _ I.kinH) hv h) (kind_dbg ok (nn hx))
theorem FI.freeze {K : Frag} {p : Pl} {e g : Heap} {fs : List Addr} {env : Env} {h : Heap} {i : Nat} {l : List PV} (I : FI K p e g fs env φ α d σ h) (hi : getS σ i = some (.ol l)) :
  ∃ φ',Ext e φ φ' ∧ FI K p e g fs env φ' α d (putS σ i (.fz (.list l))) h ∧ Rep p φ' (.ref (α i)) (.list l) := by
 have ow := I.own i _ hi
 have fr := ow.free rfl
 obtain ⟨⟨vs,⟨n,ho⟩,hz,hr,he⟩,_⟩ := ow
 have le : Le φ (put φ (α i) { cls := .type "list",data := .seq vs.toArray n }) := put_le fr.φ
 have R : Rep p (put φ (α i) { cls := .type "list",data := .seq vs.toArray n }) (.ref (α i)) (.list l) := .list (put_self ..) hz (hr.mono le)
 have pself := put_self φ (α i) { cls := .type "list",data := .seq vs.toArray n }
 have oth : ∀ {b},b ≠ α i->put φ (α i) { cls := .type "list",data := .seq vs.toArray n } b = φ b := fun h => put_other h
 generalize put φ (α i) { cls := .type "list",data := .seq vs.toArray n } = φ' at *
 have back : ∀ j s,getS (putS σ i (.fz (.list l))) j = some s->s.isOwn = true->i ≠ j ∧ getS σ j = some s := fun j s q so => (getS_put q).elim (fun z => by rw [z.2] at so; cases so) fun z => z
 refine ⟨φ',⟨le,fun a h1 h2 => Classical.byContradiction fun z => h2 ((oth (show a ≠ α i from fun y => z (y ▸ he))).trans h1)⟩,I.re2 le ?_ (fun x s hx hg => ?_) (fun j s hg => ?_) (fun j k s s' q1 q2 q3 q4 => I.inj j k s s' (back j s q1 q3).2 (back k s' q2 q4).2 q3 q4) (fun a o' q => ?_) ((oth fr.L.symm).trans I.nL) ((oth fr.dk.symm).trans I.ndk) ((oth fr.dc.symm).trans I.ndc) I.deck I.live
  (fun b hb => ⟨(oth fun z => fr.fs (z ▸ hb)).trans (I.ffs b hb).1,I.ffT hb⟩) (fun _ _ _ _ _ o q => ⟨o.slots,q⟩),R⟩
 ·obtain ⟨m,F,V⟩ := I.loc
  refine ⟨m,F,fun x s hx hg => ?_⟩
  rcases getS_put hg with ⟨z,rfl⟩ | ⟨_,q⟩
  ·obtain ⟨v,a,b⟩ := V x (.ol l) hx (z ▸ hi)
   refine ⟨v,a,?_⟩
   rw [show v = .ref (α (idx env.scope.names x)) from b,← z]; exact R
  ·obtain ⟨v,a,b⟩ := V x s hx q
   exact ⟨v,a,b.mono le⟩
 ·rcases getS_put hg with ⟨z,_⟩ | ⟨_,q⟩
  ·obtain ⟨_,_,_,_,_,_,_,y,_⟩ := I.cel x (.ol l) hx (z ▸ hi); cases y
  ·exact q
 ·cases so : s.isOwn with
  | false => cases s with
   | fz => trivial
   | _ => cases so
  | true =>
   obtain ⟨z,q⟩ := back j s hg so
   exact (I.own j s q).grows le fun so => (oth fun y => z (I.inj i j _ s hi q rfl so y.symm)).trans ((I.own j s q).free so).φ
 ·by_cases z : a = α i
  ·rw [z,pself] at q; cases q; rw [z]; exact ho
  ·rw [oth z] at q; exact I.sub _ _ q
theorem snd_Name (ok : EnvOk f.env) (st : Stat f.prog f.w f.K f.p C) {x : Str} {pos : Pos} :
  f.S φ₀ (Rep f.p) A (eval (.Name x pos) f.env) (fun σ => evStep C P f.env.scope σ (.Name x pos)) := by
 intro φ α d σ s Q E le I H
 have H : T.Sat d (nameT σ (idx f.env.scope.names x) (C.glob x) (kindOf f.env.scope.names x)) (QQ f (Rep f.p) φ α s Q) (EE f φ α s E) := H
 cases hx : kindOf f.env.scope.names x with
 | none => rw [hx] at H; exact H.elim
 | some k =>
  rw [hx] at H
  cases k with
  | «local» =>
   refine T.Sat.optE H fun sl hs H => ?_
   refine name_local ok I hx hs fun u hu => ?_
   cases sl with
   | fz v => exact QQ.here0 H I hu
   | ol l =>
    obtain ⟨φ',ex,I',R⟩ := I.freeze hs
    have hu : u = _ := hu
    rw [hu]
    exact H _ s.heap s.toks φ' ex I' R
   | _ => exact H.elim
  | cell =>
   cases hs : getS σ (idx f.env.scope.names x) with
   | none => rw [show nameT σ (idx f.env.scope.names x) (C.glob x) (some .cell) = cellT σ (getS σ (idx f.env.scope.names x)) from rfl,hs] at H; exact H.elim
   | some sl =>
    rw [show nameT σ (idx f.env.scope.names x) (C.glob x) (some .cell) = cellT σ (getS σ (idx f.env.scope.names x)) from rfl,hs] at H
    obtain ⟨c,o,u,pv,a1,a2,a3,rfl,a5⟩ := I.cel x _ hx hs
    exact wpAny_Name (wpAny_loadName_cell ok.kind (kind_env hx) a1 ⟨o,I.sub _ _ a2,a3⟩ (QQ.here0 H I a5)) (kind_dbg ok (nn hx))
  | globalImplicit =>
   cases hv : C.glob x with
   | none => rw [hv] at H; exact H.elim
   | some g =>
    rw [hv] at H
    cases g with
    | val v =>
     obtain ⟨u,hu,r⟩ := st.val x v hv
     exact name_global ok st I hx hu (QQ.here0 H I (r.mono fun a o q => I.stat a o q))
    | _ => exact H.elim
  | _ => exact H.elim
end
end Mine
end
section
open PySem PySem.W PyProof.Rows PySem.SeqAt
namespace Mine
theorem range_all (e : Nat->Bool) (n : Nat) : (List.range (n + 1)).all e = (e 0 && (List.range n).all fun j => e (j + 1)) := by
 rw [List.range_succ_eq_map,List.all_cons,List.all_map]; rfl
theorem range_any (e : Nat->Bool) (n : Nat) : (List.range (n + 1)).any e = (e 0 || (List.range n).any fun j => e (j + 1)) := by
 rw [List.range_succ_eq_map,List.any_cons,List.any_map]; rfl
noncomputable def shift (x : Bool) (e : Nat->Bool) : Nat->Bool
 | 0 => x
 | j + 1 => e j
theorem pvEqs_some {eq : PV->PV->Option Bool} (l : List PV) : ∀ {m : List PV} {r : Bool},pvEqs eq l m = some r->l.length = m.length ∧ ∃ e : Nat->Bool,(∀ j x y,l[j]? = some x->m[j]? = some y->eq x y = some (e j)) ∧ (List.range l.length).all e = r := by
 induction l with
 | nil => exact fun {m r} h => match m,h with
  | [],h => ⟨rfl,fun _ => true,fun j x y hx => (by cases hx),Option.some.inj h⟩
 | cons a l ih => exact fun {m r} h => match m,h with
  | b :: m,h => by
   obtain ⟨x,hx,h⟩ := Option.bind_eq_some_iff.mp h
   obtain ⟨y,hy,rfl⟩ := Option.map_eq_some_iff.mp h
   obtain ⟨hl,e,he,rfl⟩ := ih hy
   exact ⟨congrArg (· + 1) hl,shift x e,fun j u v => match j with
    | 0 => fun hu hv => by cases hu; cases hv; exact hx
    | j + 1 => he j u v,range_all ..⟩
section
variable {p : Pl} {φ : Ob} {s : Shared}
structure Rules (h : Heap) (I R : Value->Value->Bool->Prop) : Prop where
 none : R .none .none true
 bool : ∀ a b,R (.bool a) (.bool b) (a == b)
 int : ∀ a t b u,R (.int a t) (.int b u) (a == b)
 str : ∀ a t b u,R (.str a t) (.str b u) (a == b)
 byt : ∀ (a : Byt) t (b : Byt) u,R (.bytes a t) (.bytes b u) (a.toList == b.toList)
 tup : ∀ {l l' : Addr} {vs us : Array Value} {e : Nat->Bool},h.IsTuple l vs->h.IsTuple l' us->(∀ j (h1 : j < vs.size) (h2 : j < us.size),I vs[j] us[j] (e j))->R (.ref l) (.ref l') ((List.range (min vs.size us.size)).all e && vs.size == us.size)
 list : ∀ {l l' : Addr} {vs us : Array Value} {e : Nat->Bool},h.IsList l vs->h.IsList l' us->vs.size = us.size->(∀ j (h1 : j < vs.size) (h2 : j < us.size),I vs[j] us[j] (e j))->R (.ref l) (.ref l') ((List.range vs.size).all e)
 len : ∀ {l l' : Addr} {vs us : Array Value},h.IsList l vs->h.IsList l' us->(vs.size != us.size) = true->R (.ref l) (.ref l') false
theorem nat_beq_ne {a b : Nat} (h : Nat.beq a b = false) : a ≠ b := fun e => Nat.ne_of_beq_eq_false h e
theorem decide_int (a b : Int) : decide (a = b) = (a == b) := rfl
theorem seq_beq (a b : Str) : seq a b = (a == b) := Bool.eq_iff_iff.mpr (seq_iff.trans (beq_iff_eq (a := a) (b := b)).symm)
theorem rule_items {n : Nat} {I : Value->Value->Bool->Prop} (ih : ∀ {v u : Value} {x y : PV} {b : Bool},pvEqN n x y = some b->Rep p φ v x->Rep p φ u y->I v u b) {vs us : List Value} {l m : List PV} {b : Bool} (r : Reps p φ vs l) (q : Reps p φ us m)
  (h : pvEqs (pvEqN n) l m = some b) : vs.toArray.size = us.toArray.size ∧ ∃ e : Nat->Bool,(∀ j (h1 : j < vs.toArray.size) (h2 : j < us.toArray.size),I vs.toArray[j] us.toArray[j] (e j)) ∧ (List.range vs.toArray.size).all e = b := by
 obtain ⟨hl,e,he,hr⟩ := pvEqs_some l h
 have l1 : vs.toArray.size = l.length := r.length
 have l2 : us.toArray.size = m.length := q.length
 refine ⟨by rw [l1,l2,hl],e,fun j h1 h2 => ?_,by rw [l1,hr]⟩
 have hx : l[j]? = some l[j] := List.getElem?_eq_getElem (l1 ▸ h1)
 have hy : m[j]? = some m[j] := List.getElem?_eq_getElem (l2 ▸ h2)
 obtain ⟨v',e1,r'⟩ := r.get hx
 obtain ⟨u',e2,q'⟩ := q.get hy
 rw [show vs.toArray[j] = v' from Option.some.inj ((List.getElem?_eq_getElem h1).symm.trans e1),show us.toArray[j] = u' from Option.some.inj ((List.getElem?_eq_getElem h2).symm.trans e2)]
 exact ih (he j _ _ hx hy) r' q'
theorem eq_rules {h : Heap} {I R : Value->Value->Bool->Prop} (ru : Rules h I R) (sub : ∀ a o,φ a = some o->h.get? a = some o) {n : Nat} (ih : ∀ {v u : Value} {x y : PV} {b : Bool},pvEqN n x y = some b->Rep p φ v x->Rep p φ u y->I v u b)
  {v u : Value} {x y : PV} {b : Bool} (e : pvEqN (n + 1) x y = some b) (rx : Rep p φ v x) (ry : Rep p φ u y) : R v u b := by
 replace rx := rx.inv
 replace ry := ry.inv
 cases x with
 | none => cases y with
  | none => cases rx; cases ry; rw [← Option.some.inj e]; exact ru.none
  | _ => exact noOpt e
 | bool a => cases y with
  | bool c => cases rx; cases ry; rw [← Option.some.inj e]; exact ru.bool a c
  | _ => exact noOpt e
 | int a => cases y with
  | int c => obtain ⟨t,rfl⟩ := rx; obtain ⟨t',rfl⟩ := ry; rw [← Option.some.inj e]; exact ru.int a t c t'
  | _ => exact noOpt e
 | str a => cases y with
  | str c => obtain ⟨t,rfl,_⟩ := rx; obtain ⟨t',rfl,_⟩ := ry; rw [← Option.some.inj e,seq_beq]; exact ru.str a t c t'
  | _ => exact noOpt e
 | byt a => cases y with
  | byt c => obtain ⟨t,rfl,_⟩ := rx; obtain ⟨t',rfl,_⟩ := ry; rw [← Option.some.inj e]; exact ru.byt a t c t'
  | _ => exact noOpt e
 | tup a => cases y with
  | tup c =>
   obtain ⟨l,o,vs,k,rfl,h1,h2,h3,_,h5⟩ := rx
   obtain ⟨l',o',us,k',rfl,g1,g2,g3,_,g5⟩ := ry
   obtain ⟨hl,e',he,hr⟩ := rule_items (n := n) ih h5 g5 e
   have z := ru.tup ⟨_,sub _ _ h1,h2,_,h3⟩ ⟨_,sub _ _ g1,g2,_,g3⟩ he
   rw [← hl,Nat.min_self,hr,beq_self_eq_true,Bool.and_true] at z
   exact z
  | _ => exact noOpt e
 | list a => cases y with
  | list c =>
   obtain ⟨l,vs,k,rfl,h1,_,h5⟩ := rx
   obtain ⟨l',us,k',rfl,g1,_,g5⟩ := ry
   have e : (match Nat.beq a.length c.length with | true => pvEqs (pvEqN n) a c | false => some false) = some b := e
   cases q : Nat.beq a.length c.length with
   | true =>
    rw [q] at e
    obtain ⟨hl,e',he,hr⟩ := rule_items (n := n) ih h5 g5 e
    exact hr ▸ ru.list ⟨_,sub _ _ h1,rfl,_,rfl⟩ ⟨_,sub _ _ g1,rfl,_,rfl⟩ hl he
   | false =>
    rw [q] at e
    rw [← Option.some.inj e]
    exact ru.len ⟨_,sub _ _ h1,rfl,_,rfl⟩ ⟨_,sub _ _ g1,rfl,_,rfl⟩ (bne_iff_ne.mpr fun z => nat_beq_ne q (h5.length.symm.trans (z.trans g5.length)))
  | _ => exact noOpt e
 | _ => exact noOpt e
theorem tup_inj {h : Heap} {a : Addr} {vs us : Array Value} (x : h.IsTuple a vs) (y : h.IsTuple a us) : vs = us := by
 obtain ⟨o,h1,_,n,h2⟩ := x
 obtain ⟨o',g1,_,n',g2⟩ := y
 rw [h1] at g1; cases g1; rw [h2] at g2; cases g2; rfl
theorem list_inj {h : Heap} {a : Addr} {vs us : Array Value} (x : h.IsList a vs) (y : h.IsList a us) : vs = us := by
 obtain ⟨o,h1,_,n,h2⟩ := x
 obtain ⟨o',g1,_,n',g2⟩ := y
 rw [h1] at g1; cases g1; rw [h2] at g2; cases g2; rfl
noncomputable def SameB (v u : Value) (b : Bool) : Prop := v = u->b = true
theorem all_same {vs : Array Value} {e : Nat->Bool} (h : ∀ j (h1 : j < vs.size) (_ : j < vs.size),SameB vs[j] vs[j] (e j)) {n : Nat} (hn : n ≤ vs.size) : (List.range n).all e = true :=
 List.all_eq_true.mpr fun j hj => have q := Nat.lt_of_lt_of_le (List.mem_range.mp hj) hn; h j q q rfl
theorem same_rules (h : Heap) : Rules h SameB SameB where
 none _ := rfl
 bool a b q := by cases q; exact beq_self_eq_true a
 int a t b u q := by cases q; exact beq_self_eq_true a
 str a t b u q := by cases q; exact beq_self_eq_true a
 byt a t b u q := by cases q; exact beq_self_eq_true a.toList
 tup x y he q := by cases q; cases tup_inj x y; rw [all_same he (Nat.min_le_left ..),beq_self_eq_true]; rfl
 list x y _ he q := by cases q; cases list_inj x y; exact all_same he (Nat.le_refl _)
 len x y hs q := by cases q; cases list_inj x y; exact absurd rfl (bne_iff_ne.mp hs)
theorem pvEq_same {h : Heap} (sub : ∀ a o,φ a = some o->h.get? a = some o) (n : Nat) : ∀ {v u : Value} {x y : PV} {b : Bool},pvEqN n x y = some b->Rep p φ v x->Rep p φ u y->SameB v u b := by
 induction n with
 | zero => exact fun e => by cases e
 | succ n ih => exact fun e => eq_rules (same_rules h) sub (fun {v u x y b} => ih (v := v) (u := u) (x := x) (y := y) (b := b)) e
theorem dec_beq (l m : List UInt8) : decide (l = m) = (l == m) := Bool.eq_iff_iff.mpr (decide_eq_true_iff.trans (beq_iff_eq (a := l) (b := m)).symm)
theorem rc_rules (A : Around) (s : Shared) (hu : A.units < cLine) : Rules s.heap (EqAt A.in1 s) (RcAt A s) where
 none := RcAt.none_none
 bool := RcAt.bool_bool
 int := RcAt.int_int
 str := RcAt.str_str
 byt a t b u := fun prog w E Q hq => eq_bytes hq
 tup x y he := RcAt.tuples x y hu he
 list x y hs he := RcAt.lists x y hs hu he
 len x y hs := RcAt.lists_lengths x y hs hu
theorem ne_rules (A : Around) (s : Shared) (hu : A.units < cLine) : Rules s.heap (EqAt A.in1 s) (fun v u b => RcNeAt A s v u (!b)) where
 none := RcNeAt.none_none
 bool := RcNeAt.bool_bool
 int := RcNeAt.int_int
 str := RcNeAt.str_str
 byt a t b u := fun prog w E Q hq => ne_bytes hq
 tup x y he := RcNeAt.tuples x y hu he
 list x y hs he := RcNeAt.lists x y hs hu he
 len x y hs := RcNeAt.lists_lengths x y hs hu
theorem ref_eq {A : Around} {l l' : Addr} {b : Bool} (h : RcAt A s (.ref l) (.ref l') b) (q : SameB (.ref l) (.ref l') b) : EqAt A s (.ref l) (.ref l') b := by
 by_cases e : l = l'
 ·rw [q (congrArg _ e),e]; exact EqAt.same _
 ·exact EqAt.of_refs e h
theorem at_rules (A : Around) (s : Shared) (hu : A.units < cLine) : Rules s.heap (EqAt A.in1 s) (fun v u b => SameB v u b->EqAt A s v u b) where
 none _ := EqAt.same _
 bool a b _ := EqAt.bool_bool a b
 int a t b u _ := EqAt.int_int a t b u
 str a t b u _ := EqAt.str_str a t b u
 byt a t b u _ := fun prog w E Q hq => eqBool_bytes (by rw [dec_beq]; exact hq)
 tup x y he := ref_eq (RcAt.tuples x y hu he)
 list x y hs he := ref_eq (RcAt.lists x y hs hu he)
 len x y hs := ref_eq (RcAt.lists_lengths x y hs hu)
theorem eqAt_rep (sub : ∀ a o,φ a = some o->s.heap.get? a = some o) (n : Nat) : ∀ (A : Around) (v u : Value) (x y : PV) (b : Bool),A.units + n < cLine->pvEqN n x y = some b->Rep p φ v x->Rep p φ u y->EqAt A s v u b := by
 induction n with
 | zero => intro _ _ _ _ _ _ _ e; cases e
 | succ n ih => exact fun A v u x y b hu e rx ry => eq_rules (at_rules A s (Nat.lt_of_le_of_lt (Nat.le_add_right ..) hu)) sub (fun e => ih A.in1 _ _ _ _ _ (by show A.units + 1 + n < cLine; omega) e) e rx ry (pvEq_same sub _ e rx ry)
theorem rcAt_rep (sub : ∀ a o,φ a = some o->s.heap.get? a = some o) {n : Nat} {A : Around} {v u : Value} {x y : PV} {b : Bool} (hu : A.units + n + 1 < cLine) (h : pvEqN (n + 1) x y = some b) (rx : Rep p φ v x) (ry : Rep p φ u y) : RcAt A s v u b ∧ RcNeAt A s v u (!b) :=
 have hA : A.units < cLine := by omega
 have ih : ∀ {v u : Value} {x y : PV} {b : Bool},pvEqN n x y = some b->Rep p φ v x->Rep p φ u y->EqAt A.in1 s v u b := fun e => eqAt_rep sub n A.in1 _ _ _ _ _ (by show A.units + 1 + n < cLine; omega) e
 ⟨eq_rules (rc_rules A s hA) sub ih h rx ry,eq_rules (ne_rules A s hA) sub ih h rx ry⟩
end
end Mine
end
section
open PySem PySem.W PyProof.Rows PySem.Builtin
namespace Mine
namespace BF
theorem slot_le : PySem.Slot "bytes" (cmpInfo .LtE).2.1 "bytes.__le__" :=
 .of (owner := "bytes") (n := "__le__") (by rw [typeLookup_type,builtinLookup_eq_fast]; kernel_rfl) (by decide +kernel) (by decide +kernel) (by decide +kernel)
  (by first | exact .inl (by decide +kernel) | exact .inr (by decide +kernel)) (by rw [isSubtype_type]; kernel_rfl)
theorem entry_le : entryFor table "bytes.__le__" = some Builtin.«bytes.__le__» := entryFor_of_tree (by kernel_rfl)
theorem args_le_2 (a b : Value) : argsOk "bytes.__le__" ⟨[a,b],[]⟩ := by
 unfold argsOk; rw [signature?_of (id := "bytes.__le__") (n := ['_','_','e','l','_','_']) (o := ['s','e','t','y','b']) (by kernel_rfl) FB.owner_bytes]; kernel_rfl
theorem slot_find : PySem.Slot "bytes" "find" "bytes.find" :=
 .of (owner := "bytes") (n := "find") (by rw [typeLookup_type,builtinLookup_eq_fast]; kernel_rfl) (by decide +kernel) (by decide +kernel) (by decide +kernel)
  (by first | exact .inl (by decide +kernel) | exact .inr (by decide +kernel)) (by rw [isSubtype_type]; kernel_rfl)
theorem type_find : typeOf (.builtin "bytes.find") = pure (.type "method_descriptor") := by show builtinType _ = _; rw [builtinType_eq_fast]; kernel_rfl
theorem entry_find : entryFor table "bytes.find" = some Builtin.«bytes.find» := entryFor_of_tree (by kernel_rfl)
theorem args_find_2 (a b : Value) : argsOk "bytes.find" ⟨[a,b],[]⟩ := by
 unfold argsOk; rw [signature?_of (id := "bytes.find") (n := ['d','n','i','f']) (o := ['s','e','t','y','b']) (by kernel_rfl) FB.owner_bytes]; kernel_rfl
theorem args_find_3 (a b c : Value) : argsOk "bytes.find" ⟨[a,b,c],[]⟩ := by
 unfold argsOk; rw [signature?_of (id := "bytes.find") (n := ['d','n','i','f']) (o := ['s','e','t','y','b']) (by kernel_rfl) FB.owner_bytes]; kernel_rfl
theorem args_startswith_3 (a b c : Value) : argsOk "bytes.startswith" ⟨[a,b,c],[]⟩ := by
 unfold argsOk; rw [signature?_of (id := "bytes.startswith") (n := ['h','t','i','w','s','t','r','a','t','s']) (o := ['s','e','t','y','b']) (by kernel_rfl) FB.owner_bytes]; kernel_rfl
theorem slot_lower : PySem.Slot "bytes" "lower" "bytes.lower" :=
 .of (owner := "bytes") (n := "lower") (by rw [typeLookup_type,builtinLookup_eq_fast]; kernel_rfl) (by decide +kernel) (by decide +kernel) (by decide +kernel)
  (by first | exact .inl (by decide +kernel) | exact .inr (by decide +kernel)) (by rw [isSubtype_type]; kernel_rfl)
theorem type_lower : typeOf (.builtin "bytes.lower") = pure (.type "method_descriptor") := by show builtinType _ = _; rw [builtinType_eq_fast]; kernel_rfl
theorem entry_lower : entryFor table "bytes.lower" = some Builtin.«bytes.lower» := entryFor_of_tree (by kernel_rfl)
theorem args_lower_1 (a : Value) : argsOk "bytes.lower" ⟨[a],[]⟩ := by
 unfold argsOk; rw [signature?_of (id := "bytes.lower") (n := ['r','e','w','o','l']) (o := ['s','e','t','y','b']) (by kernel_rfl) FB.owner_bytes]; kernel_rfl
theorem slot_join : PySem.Slot "bytes" "join" "bytes.join" :=
 .of (owner := "bytes") (n := "join") (by rw [typeLookup_type,builtinLookup_eq_fast]; kernel_rfl) (by decide +kernel) (by decide +kernel) (by decide +kernel)
  (by first | exact .inl (by decide +kernel) | exact .inr (by decide +kernel)) (by rw [isSubtype_type]; kernel_rfl)
theorem type_join : typeOf (.builtin "bytes.join") = pure (.type "method_descriptor") := by show builtinType _ = _; rw [builtinType_eq_fast]; kernel_rfl
theorem entry_join : entryFor table "bytes.join" = some Builtin.«bytes.join» := entryFor_of_tree (by kernel_rfl)
theorem args_join_2 (a b : Value) : argsOk "bytes.join" ⟨[a,b],[]⟩ := by
 unfold argsOk; rw [signature?_of (id := "bytes.join") (n := ['n','i','o','j']) (o := ['s','e','t','y','b']) (by kernel_rfl) FB.owner_bytes]; kernel_rfl
section
variable {b c : Array UInt8} {t u : Tok}
theorem order_le : ∀ a b : List UInt8,(Bytes.order a b != .gt) = bytLe a b
 | [],[] | [],_ :: _ | _ :: _,[] => rfl
 | x :: a,y :: b => by
  simp only [Bytes.order,bytLe,← UInt8.lt_iff_toNat_lt,GT.gt]
  split
  ·rfl
  ·split
   ·rfl
   ·exact order_le a b
theorem gives_le (b c : Array UInt8) (t u : Tok) : Gives (Builtin.«bytes.__le__» ⟨[.bytes b t,.bytes c u],[]⟩) (.val (.bool (bytLe b.toList c.toList))) := by
 refine .of_wp fun M A E s Q hq => ?_
 show wpAny M A (isInstance (.bytes c u) (.type "bytes") >>= fun r => _) _ E s
 refine wpAny_bind (wpAny_isInstance (typeIs_bytes s c u) F.sub_bytes_bytes ?_)
 exact wpAny_pure ⟨_,rfl,by rw [← order_le] at hq; exact hq⟩
theorem noIndex_bytes : typeLookup (.type "bytes") "__index__" = pure none := by rw [typeLookup_type,builtinLookup_eq_fast]; kernel_rfl
theorem mk_neg1 : ((-1 : Int)) = -1 := rfl
theorem startsAt_iff : ∀ {n h : List UInt8},startsAt n h = true ↔ h.take n.length = n ∧ n.length ≤ h.length
 | [],h => by simp [startsAt]
 | _ :: _,[] => by simp [startsAt]
 | a :: r,b :: q => by
  simp only [startsAt,Bool.and_eq_true,beq_iff_eq,List.length_cons,List.take_succ_cons,List.cons.injEq,startsAt_iff (n := r) (h := q)]
  constructor
  ·rintro ⟨rfl,h1,h2⟩; exact ⟨⟨rfl,h1⟩,by omega⟩
  ·rintro ⟨⟨rfl,h1⟩,h2⟩; exact ⟨rfl,h1,by omega⟩
theorem extract_starts (b c : Array UInt8) (i : Nat) : (b.extract i (i + c.size) == c) = startsAt c.toList (b.toList.drop i) := by
 have e : (b.extract i (i + c.size) == c) = ((b.extract i (i + c.size)).toList == c.toList) := by
  rw [Bool.eq_iff_iff,beq_iff_eq,beq_iff_eq]
  exact ⟨fun h => by rw [h],fun h => Array.ext' h⟩
 rw [e,Array.toList_extract,List.extract_eq_drop_take,Bool.eq_iff_iff,beq_iff_eq,startsAt_iff]
 have : i + c.size - i = c.toList.length := by rw [Array.length_toList]; omega
 rw [this]
 constructor
 ·intro h
  refine ⟨h,?_⟩
  have := congrArg List.length h
  rw [List.length_take] at this
  omega
 ·intro h; exact h.1
theorem findFrom_range (b n : List UInt8) : ∀ (m k : Nat),k + m = b.length->findFrom n (b.drop k) k = ((List.range (m + 1)).map (· + k)).find? fun i => startsAt n (b.drop i)
 | 0,k,h => by
  rw [List.drop_eq_nil_of_le (by omega)]
  simp only [findFrom,Nat.zero_add,List.range_one,List.map_cons,List.map_nil,List.find?_cons,List.find?_nil]
  rw [List.drop_eq_nil_of_le (by omega)]
  cases n <;> simp [startsAt]
 | m + 1,k,h => by
  have hk : k < b.length := by omega
  rw [List.drop_eq_getElem_cons hk]
  simp only [findFrom]
  rw [← List.drop_eq_getElem_cons hk,findFrom_range b n m (k + 1) (by omega)]
  rw [show List.range (m + 1 + 1) = 0 :: (List.range (m + 1)).map Nat.succ from List.range_succ_eq_map,List.map_cons,List.find?_cons,Nat.zero_add,List.map_map]
  have e : ((fun x => x + k) ∘ Nat.succ) = (fun x => x + (k + 1)) := by funext x; simp only [Function.comp]; omega
  rw [e]
  cases startsAt n (b.drop k) <;> simp
theorem startsAt_far {b n : List UInt8} {i : Nat} (h : b.length < i + n.length) (hn : n ≠ []) : startsAt n (b.drop i) = false := by
 rw [Bool.eq_false_iff]
 intro q
 have := (startsAt_iff.mp q).2
 rw [List.length_drop] at this
 have : 0 < n.length := List.length_pos_iff.mpr hn
 omega
theorem find_eq (b sub : Array UInt8) (k : Nat) (hk : k ≤ b.size) : Bytes.find? b sub k b.size = findFrom sub.toList (b.toList.drop k) k := by
 unfold Bytes.find?
 rw [findFrom_range b.toList sub.toList (b.size - k) k (by rw [Array.length_toList]; omega)]
 have e : (fun i => b.extract i (i + sub.size) == sub) = fun i => startsAt sub.toList (b.toList.drop i) := by funext i; exact extract_starts b sub i
 rw [e]
 by_cases hn : sub.toList = []
 ·have : sub.size = 0 := by rw [← Array.length_toList,hn]; rfl
  rw [this]
  congr 3
  omega
 ·have hl : 0 < sub.size := by rw [← Array.length_toList]; exact List.length_pos_iff.mpr hn
  have : b.size - k + 1 = (b.size + 1 - (k + sub.size)) + (b.size - k + 1 - (b.size + 1 - (k + sub.size))) := by omega
  rw [this,List.range_add,List.map_append,List.find?_append]
  have : (((List.range (b.size - k + 1 - (b.size + 1 - (k + sub.size)))).map fun x => b.size + 1 - (k + sub.size) + x).map (· + k)).find? (fun i => startsAt sub.toList (b.toList.drop i)) = none := by
   rw [List.find?_eq_none]
   intro x hx
   simp only [List.mem_map,List.mem_range] at hx
   obtain ⟨y,⟨z,hz,rfl⟩,rfl⟩ := hx
   rw [startsAt_far (by rw [Array.length_toList,Array.length_toList]; omega) hn]
   simp
  rw [this,Option.or_none]
theorem findFrom_far {n : List UInt8} : ∀ {l : List UInt8} {k : Nat},l.length < n.length->findFrom n l k = none
 | [],k,h => by
  cases n with
  | nil => simp at h
  | cons a r => rfl
 | b :: q,k,h => by
  simp only [findFrom]
  have : startsAt n (b :: q) = false := by
   rw [Bool.eq_false_iff]; intro q'; have := (startsAt_iff.mp q').2; omega
  rw [this]
  simp only [Bool.false_eq_true,if_false]
  exact findFrom_far (by simp at h; omega)
theorem find_short (b sub : Array UInt8) (k : Nat) (h : b.size < k + sub.size) : bytFind b sub k = -1 := by
 unfold bytFind
 split
 ·rename_i hk
  rw [findFrom_far (by rw [List.length_drop,Array.length_toList,Array.length_toList]; omega)]
 ·rfl
theorem starts_eq (b c : Array UInt8) (k : Nat) : (if (Bytes.window b.size (some (k : Int)) none).2 - (Bytes.window b.size (some (k : Int)) none).1 < c.size then false
  else if false = true then b.extract ((Bytes.window b.size (some (k : Int)) none).2.toNat - c.size) (Bytes.window b.size (some (k : Int)) none).2.toNat == c
  else b.extract (Bytes.window b.size (some (k : Int)) none).1.toNat ((Bytes.window b.size (some (k : Int)) none).1.toNat + c.size) == c) = (decide (k ≤ b.size) && startsAt c.toList (b.toList.drop k)) := by
 have w1 : (Bytes.window b.size (some (k : Int)) none) = ((k : Int),(b.size : Int)) := by
  unfold Bytes.window
  simp only [Option.getD_some,Option.getD_none]
  rw [if_neg (by omega),if_neg (by omega)]
  simp
 rw [w1]
 simp only [Int.toNat_natCast,Bool.false_eq_true,if_false]
 rw [extract_starts]
 by_cases h : (b.size : Int) - (k : Int) < c.size
 ·rw [if_pos h]
  by_cases hk : k ≤ b.size
  ·symm
   rw [Bool.and_eq_false_iff]
   right
   by_cases hn : c.toList = []
   ·have : c.size = 0 := by rw [← Array.length_toList,hn]; rfl
    omega
   ·exact startsAt_far (by rw [Array.length_toList,Array.length_toList]; omega) hn
  ·simp [hk]
 ·rw [if_neg h]
  simp [show k ≤ b.size by omega]
theorem contains_eq (b : Array UInt8) (i : Int) (h0 : 0 ≤ i) (h1 : i < 256) : b.contains i.toNat.toUInt8 = b.toList.any fun u => decide ((u.toNat : Int) = i) := by
 have e : ∀ u : UInt8,decide ((u.toNat : Int) = i) = (i.toNat.toUInt8 == u) := fun u => by
  rw [Bool.eq_iff_iff,decide_eq_true_eq,beq_iff_eq]
  have hi : i.toNat < 256 := by omega
  constructor
  ·intro h
   apply UInt8.toNat.inj
   rw [Nat.toUInt8,UInt8.toNat_ofNat']
   omega
  ·intro h
   rw [← h,Nat.toUInt8,UInt8.toNat_ofNat']
   omega
 simp only [e]
 rw [← Array.contains_toList]
 rw [List.contains_eq_any_beq]
section
variable {prog : Program} {w : World} {A : Around} {E : Value->Shared->Prop} {s : Shared}
theorem le_bytes {Q : Value->Shared->Prop} (h : Q (.bool (bytLe b.toList c.toList)) s) : wpAny (model prog w) A (compareOp .LtE (.bytes b t) (.bytes c u)) Q E s :=
 compareOp_gives (op := .LtE) (typeIs_bytes s b t) (typeIs_bytes s c u) slot_le entry_le (args_le_2 _ _) (gives_le b c t u) (fun e => nomatch e) h
theorem meets_in_int (b : Array UInt8) (t : Tok) (i : Int) (u : Tok) (h0 : 0 ≤ i) (h1 : i < 256) : Gives (Builtin.«bytes.__contains__» ⟨[.bytes b t,.int i u],[]⟩) (.val (.bool (b.toList.any fun x => decide ((x.toNat : Int) = i)))) := by
 refine .of_wp fun M A E s Q hq => ?_
 show wpAny M A (Bytes.containsIn "bytes.__contains__" (.bytes b t) (.int i u) >>= fun r => _) _ E s
 unfold Bytes.containsIn
 refine wpAny_bind (wpAny_bind (wpAny_attempt (wpAny_pure (wpAny_bind (wpAny_of_eq KBy.buffer_eq ?_)))))
 show wpAny M A (if (decide (i < 0) || decide (i ≥ 256)) = true then _ else _) _ E s
 rw [if_neg (by simp; omega)]
 refine wpAny_pure ?_
 rw [contains_eq b i h0 h1]
 exact wpAny_pure ⟨_,rfl,hq⟩
theorem in_byte {i : Int} {Q : Value->Shared->Prop} (h0 : 0 ≤ i) (h1 : i < 256) (h : Q (.bool (b.toList.any fun x => decide ((x.toNat : Int) = i))) s) : wpAny (model prog w) A (compareOp .In (.int i u) (.bytes b t)) Q E s :=
 PySem.SeqRoads2.in_meets (typeIs_bytes s b t) FB.slot_bytes_contains FB.entry_bytes_contains (FB.args_bytes_contains_2 _ _) (meets_in_int b t i u h0 h1).meets ⟨_,rfl,h⟩
theorem notIn_byte {i : Int} {Q : Value->Shared->Prop} (h0 : 0 ≤ i) (h1 : i < 256) (h : Q (.bool (!b.toList.any fun x => decide ((x.toNat : Int) = i))) s) : wpAny (model prog w) A (compareOp .NotIn (.int i u) (.bytes b t)) Q E s :=
 PySem.SeqRoads2.notIn_meets (typeIs_bytes s b t) FB.slot_bytes_contains FB.entry_bytes_contains (FB.args_bytes_contains_2 _ _) (meets_in_int b t i u h0 h1).meets ⟨_,rfl,h⟩
theorem typeName_bytes : typeName (.type "bytes") = pure "bytes" := by unfold typeName; rw [find?_eq_fast]; kernel_rfl
theorem typeNameOfCut_bytes {M : Model} {E : Value->Shared->Prop} {n : Nat} {Q : String->Shared->Prop} (h : Q "bytes" s) : wpAny M A (typeNameOfCut n (.bytes c u)) Q E s := by
 unfold typeNameOfCut shownTypeOf
 refine wpAny_bind (wpAny_bind (wpAny_typeOf (typeIs_bytes _ c u) ?_))
 simp only [show (Value.type "bytes" == Value.type "builtin_function_or_method") = false by decide,Bool.false_eq_true,if_false]
 refine wpAny_pure ?_
 rw [show typeNameCut n (.type "bytes") = typeName (.type "bytes") from rfl,typeName_bytes]; exact wpAny_pure h
theorem asIndex_bytes {M : Model} {E : Value->Shared->Prop} {Q : Int->Shared->Prop} (hh : A.handled = none) (h : ∀ h' tk e,Heap.NewExc s.heap h' e "TypeError"->E (.ref e) { s with heap := h',toks := tk }) :
  wpAny M A (asIndex (.bytes c u)) Q E s := by
 unfold asIndex
 refine wpAny_bind (wpAny_pure ?_)
 show wpAny M A (callSpecial? (.bytes c u) "__index__" >>= fun r => _) _ E s
 unfold callSpecial?
 refine wpAny_bind (wpAny_bind (wpAny_of_eq (KBy.special_eq noIndex_bytes) (wpAny_pure ?_)))
 show wpAny M A (typeNameOfCut 200 (.bytes c u) >>= fun r => _) _ E s
 refine wpAny_bind (typeNameOfCut_bytes ?_)
 exact wpAny_raiseTypeError hh h
noncomputable def inSpec (b c : Array UInt8) : PySem.Spec := fun A R s => A.handled = none ∧ ∀ h' tk,(∃ e,Heap.NewExc s.heap h' e "TypeError")->R (.ok (.ret (.bool (decide (0 ≤ bytFind b c 0))))) { s with heap := h',toks := tk }
theorem meets_in_bytes (b c : Array UInt8) (t u : Tok) : Meets (Builtin.«bytes.__contains__» ⟨[.bytes b t,.bytes c u],[]⟩) (inSpec b c) := fun prog w A R s hs => by
 show wpAny _ _ (Bytes.containsIn "bytes.__contains__" (.bytes b t) (.bytes c u) >>= fun r => _) _ _ s
 unfold Bytes.containsIn
 refine wpAny_bind (wpAny_bind (wpAny_attempt (asIndex_bytes hs.1 fun h' tk e x => (wpAny_bind (wpAny_of_eq KBy.buffer_eq ?_)))))
 show wpAny _ _ (Bytes.buffer? _ (.bytes c u) >>= fun r => _) _ _ _
 refine wpAny_bind (wpAny_of_eq KBy.buffer_eq ?_)
 refine wpAny_bind (wpAny_rule (wpAny_pure ?_))
 have e1 : (Bytes.find? b c 0 b.size).isSome = decide (0 ≤ bytFind b c 0) := by
  rw [find_eq b c 0 (Nat.zero_le _)]
  unfold bytFind
  rw [if_pos (Nat.zero_le _)]
  cases findFrom c.toList (b.toList.drop 0) 0 with
  | none => rfl
  | some k => simp
 rw [e1]
 exact wpAny_pure (hs.2 _ _ ⟨_,x⟩)
theorem gives_lower (b : Array UInt8) (t : Tok) (h : b.size ≤ sizeLine) : Gives (Builtin.«bytes.lower» ⟨[.bytes b t],[]⟩) (.bytes (b.toList.map Bytes.toLower).toArray) := by
 refine .of_wp fun M A E s Q hq => ?_
 show wpAny M A (Bytes.payload (.bytes b t) >>= fun r => _) _ E s
 refine wpAny_bind (wpAny_bind (wpAny_pure (wpAny_pure ?_)))
 refine wpAny_bind (wpAny_bind (wpAny_pure (wpAny_pure ?_)))
 refine wpAny_bind (wpAny_mkBytes (wpAny_pure ⟨_,rfl,hq.2⟩) hq.1)
theorem bound_int {M : Model} {k : Int} {Q : Option Int->Shared->Prop} (h : Q (some k) s) : wpAny M A (Bytes.bound? (some (.int k u))) Q E s := by
 unfold Bytes.bound?
 refine wpAny_bind (wpAny_specialOf (typeIs_int s k u) F.slot_int_index.lookup ?_)
 exact wpAny_bind (wpAny_pure (wpAny_pure h))
theorem find_ends {M : Model} {E : Value->Shared->Prop} {Q : Value->Shared->Prop} {k : Nat} {R : Fin->Shared->Prop} (hR : ∀ v s',Q v s'->R (.done (.ret v)) s')
  (hq : Q (.int (bytFind b c k) s.toks) { s with toks := s.toks + 1 }) :
  wpAny M A (match (if (Bytes.window b.size (some (k : Int)) none).2 - (Bytes.window b.size (some (k : Int)) none).1 < c.size then none else some ((Bytes.window b.size (some (k : Int)) none).1.toNat,(Bytes.window b.size (some (k : Int)) none).2.toNat)).bind fun (lo,hi) => if false = true then Bytes.rfind? b c lo hi else Bytes.find? b c lo hi with
   | some i => retInt i
   | none => do
    rule "bytes.find.not-found"
    retInt (-1)) R E s := by
 have w1 : (Bytes.window b.size (some (k : Int)) none) = ((k : Int),(b.size : Int)) := by
  unfold Bytes.window
  simp only [Option.getD_some,Option.getD_none]
  rw [if_neg (by omega),if_neg (by omega)]
  simp
 rw [w1]
 simp only [Int.toNat_natCast]
 have miss : bytFind b c k = -1->wpAny M A (do rule "bytes.find.not-found"; retInt (-1)) R E s := fun e => by
  rw [e] at hq
  exact wpAny_bind (wpAny_rule (wpAny_bind (wpAny_mkInt (wpAny_pure (hR _ _ hq)))))
 by_cases h1 : (b.size : Int) - (k : Int) < c.size
 ·rw [if_pos h1]
  exact miss (find_short b c k (by omega))
 ·rw [if_neg h1]
  have hk : k ≤ b.size := by omega
  show wpAny M A (match Bytes.find? b c k b.size with | some i => retInt i | none => _) R E s
  rw [find_eq b c k hk]
  have e : bytFind b c k = (match findFrom c.toList (b.toList.drop k) k with | some k => (k : Int) | none => -1) := by unfold bytFind; rw [if_pos hk]; first | done | (cases findFrom c.toList (b.toList.drop k) k <;> rfl)
  cases q : findFrom c.toList (b.toList.drop k) k with
  | none => rw [q] at e; exact miss e
  | some i =>
   rw [q] at e
   rw [e] at hq
   exact wpAny_bind (wpAny_mkInt (wpAny_pure (hR _ _ hq)))
theorem gives_find2 (b c : Array UInt8) (t u : Tok) : Gives (Builtin.«bytes.find» ⟨[.bytes b t,.bytes c u],[]⟩) (.int (bytFind b c 0)) := by
 refine .of_wp fun M A E s Q hq => ?_
 show wpAny M A (Bytes.searchArgs .bytes "find" ⟨[.bytes b t,.bytes c u],[]⟩ >>= fun r => _) _ E s
 unfold Bytes.searchArgs
 refine wpAny_bind ?_
 show wpAny M A (Bytes.buffer? _ (.bytes c u) >>= fun r => _) _ E s
 refine wpAny_bind (wpAny_of_eq KBy.buffer_eq ?_)
 refine wpAny_bind (wpAny_pure ?_)
 refine wpAny_bind (wpAny_bind (wpAny_pure (wpAny_pure (wpAny_pure ?_))))
 exact find_ends (Q := Q) (k := 0) (fun v s' h => ⟨v,rfl,h⟩) hq
theorem gives_find3 (b c : Array UInt8) (t u r : Tok) (k : Nat) : Gives (Builtin.«bytes.find» ⟨[.bytes b t,.bytes c u,.int k r],[]⟩) (.int (bytFind b c k)) := by
 refine .of_wp fun M A E s Q hq => ?_
 show wpAny M A (Bytes.searchArgs .bytes "find" ⟨[.bytes b t,.bytes c u,.int k r],[]⟩ >>= fun r => _) _ E s
 unfold Bytes.searchArgs
 refine wpAny_bind ?_
 show wpAny M A (Bytes.bound? (some (.int k r)) >>= fun r => _) _ E s
 refine wpAny_bind (bound_int ?_)
 show wpAny M A (Bytes.buffer? _ (.bytes c u) >>= fun r => _) _ E s
 refine wpAny_bind (wpAny_of_eq KBy.buffer_eq ?_)
 refine wpAny_bind (wpAny_pure ?_)
 refine wpAny_bind (wpAny_bind (wpAny_pure (wpAny_pure (wpAny_pure ?_))))
 exact find_ends (Q := Q) (k := k) (fun v s' h => ⟨v,rfl,h⟩) hq
theorem gives_starts (b c : Array UInt8) (t u r : Tok) (k : Nat) : Gives (Builtin.«bytes.startswith» ⟨[.bytes b t,.bytes c u,.int k r],[]⟩) (.val (.bool (decide (k ≤ b.size) && startsAt c.toList (b.toList.drop k)))) := by
 refine .of_wp fun M A E s Q hq => ?_
 show wpAny M A (Bytes.bound? (some (.int k r)) >>= fun r => _) _ E s
 refine wpAny_bind (bound_int ?_)
 refine wpAny_bind (wpAny_pure ?_)
 show wpAny M A (Bytes.payload (.bytes b t) >>= fun r => _) _ E s
 refine wpAny_bind (wpAny_bind (wpAny_pure (wpAny_pure ?_)))
 refine wpAny_bind (wpAny_bind (wpAny_pure (wpAny_pure ?_)))
 refine wpAny_bind (wpAny_isInstance (typeIs_bytes s c u) F.sub_bytes_tuple ?_)
 show wpAny M A (Bytes.buffer? _ (.bytes c u) >>= fun r => _) _ E s
 refine wpAny_bind (wpAny_of_eq KBy.buffer_eq ?_)
 refine wpAny_pure ⟨_,rfl,?_⟩
 rw [← starts_eq] at hq
 exact hq
end
end
end BF
end Mine
end
section
open PySem PySem.W PyProof.Rows
namespace Mine
structure AOk (n : Nat) (fs : List Addr) (A : Around) : Prop where
 handled : A.handled = none
 depth : A.depth + 4 * n + 40 < recursionLimit
 units : A.units + 20 * n + 200 < cLine
 frames : ∃ l,A.frames = some l ∧ l.map (·.frame) = fs.map some ∧ ∀ env ∈ l,env.scope.kind ≠ .module
section
variable {f : Fm} {φ₀ φ : Ob} {A : Around} {C : Cx} {P : Lv} {n : Nat} {α : Nat->Addr} {d : Nat} {σ : Sto} {h : Heap} {s : Shared}
theorem sizeLine_lineB : lineB ≤ sizeLine := by rw [sizeLine_eq]; decide
theorem Fm.push (I : f.I φ α d σ h) (o : Obj) (ho : o.isFreed = false := by rfl) : ∃ φ',Ext f.e φ φ' ∧ f.I φ' α d σ (h.push o) ∧ φ' h.objs.size = some o := by
 have hn : h.get? h.objs.size = none := by
  cases q : h.get? h.objs.size with
  | none => rfl
  | some o => exact absurd (Heap.lt_size q) (Nat.lt_irrefl _)
 obtain ⟨a,b⟩ := FI.new I (h' := h.push o) (fun _ _ q => Heap.get?_push_of_some _ q) (Heap.get?_push_size _ ho) hn
 exact ⟨_,b,a,put_self ..⟩
theorem Rep.seqOf {v : Value} {l : List PV} (r : Rep f.p φ v (.list l)) (I : f.I φ α d σ h) : ∃ a vs,v = .ref a ∧ h.IsList a vs.toArray ∧ vs.length ≤ lineB ∧ Reps f.p φ vs l :=
 let ⟨a,vs,_,e,h1,h4,h5⟩ := r.inv; ⟨a,vs,e,⟨_,I.sub _ _ h1,rfl,_,rfl⟩,h4,h5⟩
theorem Rep.tupOf {v : Value} {l : List PV} (r : Rep f.p φ v (.tup l)) (I : f.I φ α d σ h) : ∃ a vs,v = .ref a ∧ IsTup h a vs.toArray ∧ vs.length ≤ lineB ∧ Reps f.p φ vs l :=
 let ⟨a,_,vs,_,e,h1,h2,h3,h4,h5⟩ := r.inv; ⟨a,vs,e,⟨_,I.sub _ _ h1,h2,_,h3⟩,h4,h5⟩
theorem Rep.bytOf {v : Value} {b : Byt} (r : Rep f.p φ v (.byt b)) : ∃ t,v = .bytes b t ∧ b.size ≤ lineB := r.inv
theorem Rep.strOf {v : Value} {b : Str} (r : Rep f.p φ v (.str b)) : ∃ t,v = .str b t ∧ b.cps.size ≤ lineB := r.inv
theorem Rep.intOf {v : Value} {b : Int} (r : Rep f.p φ v (.int b)) : ∃ t,v = .int b t := r.inv
theorem Rep.boolOf {v : Value} {b : Bool} (r : Rep f.p φ v (.bool b)) : v = .bool b := r.inv
theorem Rep.noneOf {v : Value} (r : Rep f.p φ v .none) : v = .none := r.inv
theorem int_of {β : Type} {v : Value} {a : PV} {k : Int->T β} {d : Nat} {Q E} (r : Rep f.p φ v a) (H : T.Sat d (intV a k) Q E) : ∃ x t,v = .int x t ∧ T.Sat d (k x) Q E := by
 obtain ⟨x,rfl,H⟩ := T.Sat.intV H
 obtain ⟨t,rfl⟩ := r.intOf
 exact ⟨x,t,rfl,H⟩
theorem ints_of {β : Type} {v u : Value} {a b : PV} {k : Int->Int->T β} {d : Nat} {Q E} (r : Rep f.p φ v a) (q : Rep f.p φ u b) (H : T.Sat d (intV a fun x => intV b fun y => k x y) Q E) : ∃ x y t t',v = .int x t ∧ u = .int y t' ∧ T.Sat d (k x y) Q E := by
 obtain ⟨x,t,e,H⟩ := int_of r H
 obtain ⟨y,t',e',H⟩ := int_of q H
 exact ⟨x,y,t,t',e,e',H⟩
theorem byt_of {β : Type} {v : Value} {a : PV} {k : Byt->T β} {d : Nat} {Q E} (r : Rep f.p φ v a) (H : T.Sat d (bytV a k) Q E) : ∃ x t,v = .bytes x t ∧ x.size ≤ lineB ∧ T.Sat d (k x) Q E := by
 obtain ⟨x,rfl,H⟩ := T.Sat.bytV H
 obtain ⟨t,rfl,h⟩ := r.bytOf
 exact ⟨x,t,rfl,h,H⟩
theorem int_ofE {β : Type} {v : Value} {a : PV} {g : Int->T β} {d : Nat} {Q E} {Z : Prop} (r : Rep f.p φ v a) (H : T.Sat d (intV a g) Q E) (k : ∀ x t,v = .int x t->T.Sat d (g x) Q E->Z) : Z := let ⟨x,t,e,h⟩ := int_of r H; k x t e h
theorem ints_ofE {β : Type} {v u : Value} {a b : PV} {g : Int->Int->T β} {d : Nat} {Q E} {Z : Prop} (r : Rep f.p φ v a) (q : Rep f.p φ u b) (H : T.Sat d (intV a fun x => intV b fun y => g x y) Q E) (k : ∀ x y t t',v = .int x t->u = .int y t'->T.Sat d (g x y) Q E->Z) : Z := let ⟨x,y,t,t',e,e',h⟩ := ints_of r q H; k x y t t' e e' h
theorem byt_ofE {β : Type} {v : Value} {a : PV} {g : Byt->T β} {d : Nat} {Q E} {Z : Prop} (r : Rep f.p φ v a) (H : T.Sat d (bytV a g) Q E) (k : ∀ x t,v = .bytes x t->x.size ≤ lineB->T.Sat d (g x) Q E->Z) : Z := let ⟨x,t,e,z,h⟩ := byt_of r H; k x t e z h
theorem natAbs_lt60 {x : Int} (h : x.natAbs < 2 ^ 60) : Builtin.Int.intBits x ≤ 64 := PySem.intBits_le_64 (by omega) (by omega)
variable {Q : Value->Shared->Prop} {E : Value->Shared->Prop} {E' : Nat->PV->Sto->Prop} {va vb : Value} {a b : PV}
noncomputable abbrev BQ (f : Fm) (φ : Ob) (α : Nat->Addr) (σ : Sto) (s : Shared) (Q : Value->Shared->Prop) (d : Nat) (r : PV) : Prop := QQ f (Rep f.p) φ α s Q d (r,σ)
theorem cat_snd {vs us : List Value} {l m : List PV} {x y : Addr} {n₁ n₂ : Nat} (I : f.I φ α d σ s.heap) (h1 : φ x = some { cls := .type "list",data := .seq vs.toArray n₁ }) (h3 : Reps f.p φ vs l) (g1 : φ y = some { cls := .type "list",data := .seq us.toArray n₂ }) (g3 : Reps f.p φ us m)
  (hc : l.length + m.length ≤ lineB) (H : BQ f φ α σ s Q d (.list (l ++ m))) : wpAny (model f.prog f.w) A (binaryOp .Add (.ref x) (.ref y)) Q E s := by
 have hl : vs.length + us.length ≤ lineB := h3.length.symm ▸ g3.length.symm ▸ hc
 refine concat_meets ⟨_,I.sub _ _ h1,rfl⟩ ⟨_,I.sub _ _ g1,rfl⟩ noFill_list_add seq_list_add PySem.F.slot_list_add PySem.F.entry_list_add (PySem.F.args_list_add_2 _ _) (list_addW x y vs.toArray us.toArray n₁ n₂ none none #[] #[] (Nat.le_trans hl sizeLine_lineB)) ⟨I.sub _ _ h1,I.sub _ _ g1,?_⟩
 rw [show vs.toArray ++ us.toArray = (vs ++ us).toArray from List.append_toArray ..]
 obtain ⟨φ₂,ex,I₂,pp⟩ := f.push I { cls := .type "list",data := .seq (vs ++ us).toArray }
 exact H _ _ s.toks φ₂ ex I₂ (.list pp (List.length_append ▸ hl) ((h3.append g3).mono ex.1))
theorem add_snd (ha : Rep f.p φ va a) (hb : Rep f.p φ vb b) (I : f.I φ α d σ s.heap) (H : T.Sat d (addT a b) (BQ f φ α σ s Q) E') : wpAny (model f.prog f.w) A (binaryOp .Add va vb) Q E s := by
 cases a with
 | int x =>
  obtain ⟨t,rfl⟩ := ha.intOf
  refine int_ofE hb H fun y u eq1 H => ?_
  subst eq1
  exact add_int (QQ.here H I (.int _ _))
 | byt x =>
  obtain ⟨t,rfl,_⟩ := ha.bytOf
  obtain ⟨y,u,rfl,_,hc,H⟩ := byt_of hb H
  replace hc := Nat.le_of_ble_eq_true hc
  exact KBy.add_bytes (Nat.le_trans hc (by decide)) fun t' k => H _ s.heap k φ (Ext.refl ..) I (.byt _ _ (Array.size_append ▸ hc))
 | str x => cases b with
  | str y =>
   obtain ⟨t,rfl,_⟩ := ha.strOf
   obtain ⟨u,rfl,_⟩ := hb.strOf
   refine T.Sat.iteE H fun hc H => ?_
   exact add_str (fun t' k => H _ s.heap k φ (Ext.refl ..) I (.str _ _ (show (x.cps ++ y.cps).size ≤ lineB from Array.size_append ▸ hc))) (Nat.le_trans hc sizeLine_lineB)
  | _ => exact H.elim
 | list x =>
  refine T.Sat.listVE H fun y eq1 H0 => ?_
  subst eq1
  refine T.Sat.needE H0 fun hc H => ?_
  obtain ⟨_,vs,_,rfl,h1,_,h3⟩ := ha.inv
  obtain ⟨_,us,_,rfl,g1,_,g3⟩ := hb.inv
  exact cat_snd I h1 h3 g1 g3 (Nat.le_of_ble_eq_true hc) H
 | _ => exact H.elim
theorem rep_snd {vs : List Value} {l : List PV} {x : Addr} {n₁ k : Nat} {u : Tok} {y : Int} (I : f.I φ α d σ s.heap) (h1 : φ x = some { cls := .type "list",data := .seq vs.toArray n₁ }) (h2 : vs.length ≤ lineB) (h3 : Reps f.p φ vs l) (hy : y = (k : Int)) (hk : k ≤ 1)
  (H : BQ f φ α σ s Q d (.list (if k = 0 then [] else l))) : wpAny (model f.prog f.w) A (binaryOp .Mult (.ref x) (.int y u)) Q E s := by
 have ey : y.toNat = k := hy ▸ rfl
 have hm : vs.toArray.size * k ≤ lineB := Nat.le_trans (Nat.mul_le_mul_left _ hk) ((Nat.mul_one _).symm ▸ h2)
 have hB : lineB ≤ (2 ^ 63 - 1) / 8 := by decide
 refine wpAny_binaryOp_repeat_ref (T := "list") (U := "int") (by decide) ⟨_,I.sub _ _ h1,rfl⟩ (fun s' => typeIs_int s' y u) noFill_list_mul PySem.F.fills_int_mul PySem.F.slot_int_rmul repeat_list PySem.F.slot_int_index.lookup
  (call_meets PySem.F.slot_int_rmul (typeIs_int s y u) PySem.F.entry_int_rmul (PySem.F.args_int_rmul_2 _ _) (int___rmul___int_list y u x vs.toArray n₁)
   ⟨I.sub _ _ h1,rfl,⟨_,I.sub _ _ h1,rfl⟩,call_meets PySem.F.slot_list_mul ⟨_,I.sub _ _ h1,rfl⟩ PySem.F.entry_list_mul (PySem.F.args_list_mul_2 _ _)
    (AutoListH.list___mul___list_int_3 x vs.toArray n₁ y u (by simp [Builtin.List.listFitsIndex]; omega) ?_ ?_) ⟨I.sub _ _ h1,?_⟩⟩)
 ·rw [ey]; exact Nat.not_lt.mpr (Nat.le_trans hm hB)
 ·rw [ey]; exact fun z => Nat.not_lt.mpr (Nat.le_trans hm sizeLine_lineB) (of_decide_eq_true z)
 ·have e : List.foldl (fun x1 x2 => x1 ++ x2) #[] (List.replicate (if vs.toArray.isEmpty = true then 0 else y.toNat) vs.toArray) = (if k = 0 then [] else vs).toArray := by
   rw [ey]
   rcases Nat.le_one_iff_eq_zero_or_eq_one.mp hk with rfl | rfl
   ·cases vs <;> rfl
   ·cases vs with
    | nil => rfl
    | cons v r => exact (Array.empty_append ..)
  rw [e]
  obtain ⟨φ₂,ex,I₂,pp⟩ := f.push I { cls := .type "list",data := .seq (if k = 0 then [] else vs).toArray }
  rcases Nat.le_one_iff_eq_zero_or_eq_one.mp hk with rfl | rfl
  ·exact H _ _ s.toks φ₂ ex I₂ (.list pp (Nat.zero_le _) .nil)
  ·exact H _ _ s.toks φ₂ ex I₂ (.list pp h2 (h3.mono ex.1))
theorem mul_snd (ha : Rep f.p φ va a) (hb : Rep f.p φ vb b) (I : f.I φ α d σ s.heap) (H : T.Sat d (mulT a b) (BQ f φ α σ s Q) E') : wpAny (model f.prog f.w) A (binaryOp .Mult va vb) Q E s := by
 cases a with
 | int x =>
  obtain ⟨t,rfl⟩ := ha.intOf
  refine int_ofE hb H fun y u eq1 H => ?_
  subst eq1
  refine T.Sat.iteE H fun hc H => ?_
  exact mul_int (QQ.here H I (.int _ _)) (hc.elim (fun hc => PySem.IntMulOk.of_left (natAbs_lt60 hc.1)) fun hc => PySem.IntMulOk.of_right (natAbs_lt60 hc.2))
 | list x =>
  obtain ⟨_,vs,_,rfl,h1,h2,h3⟩ := ha.inv
  obtain ⟨y,u,rfl,hy,H⟩ := int_of hb H
  rcases (Bool.or_eq_true_iff ..).mp hy with hy | hy
  ·have hy := of_decide_eq_true hy
   exact rep_snd (k := 0) I h1 h2 h3 hy (by decide) (by subst hy; exact H)
  ·have hy := of_decide_eq_true hy
   exact rep_snd (k := 1) I h1 h2 h3 hy (by decide) (by subst hy; exact H)
 | _ => exact H.elim
theorem binop_snd {op : Operator} (ha : Rep f.p φ₀ va a) (hb : Rep f.p φ₀ vb b) (_ : AOk n f.fs A) :
  f.S φ₀ (Rep f.p) A (binaryOp op va vb) (fun σ => binop op a b >>= fun r => pure (r,σ)) := by
 intro φ α d σ s Q E le I H
 replace ha := ha.mono le
 replace hb := hb.mono le
 replace H : T.Sat d (binop op a b) (BQ f φ α σ s Q) (EE f φ α s E) := T.Sat.bind H
 cases op with
 | Add => exact add_snd ha hb I H
 | Mult => exact mul_snd ha hb I H
 | Sub =>
  refine ints_ofE ha hb H fun x y t u eq1 eq2 H => ?_
  subst eq1
  subst eq2
  exact sub_int (QQ.here H I (.int _ _))
 | Mod =>
  refine ints_ofE ha hb H fun x y t u eq1 eq2 H => ?_
  subst eq1
  subst eq2
  refine T.Sat.iteE H fun hc H => ?_
  exact mod_int (Int.ne_of_gt hc) (QQ.here H I (.int _ _))
 | Pow =>
  refine ints_ofE ha hb H fun x y t u eq1 eq2 H => ?_
  subst eq1
  subst eq2
  refine T.Sat.iteE H fun hc H' => ?_
  obtain ⟨rfl,h0,h1⟩ := hc
  exact pow_int_small h0 (by omega) (by decide) (QQ.here H' I (.int _ _))
 | _ => exact H.elim
theorem inSeq_some {a : PV} (l : List PV) : ∀ {r : Bool},inSeq a l = some r->∃ e : Nat->Bool,(∀ j x,l[j]? = some x->pvEq x a = some (e j)) ∧ (List.range l.length).any e = r := by
 induction l with
 | nil => exact fun h => ⟨fun _ => true,fun j x hx => (by cases hx),Option.some.inj h⟩
 | cons b l ih =>
  exact fun h => by
   obtain ⟨x,hx,h⟩ := Option.bind_eq_some_iff.mp h
   obtain ⟨y,hy,rfl⟩ := Option.map_eq_some_iff.mp h
   obtain ⟨e,he,rfl⟩ := ih hy
   exact ⟨shift x e,fun j u => match j with
    | 0 => fun hu => by cases hu; exact hx
    | j + 1 => he j u,range_any ..⟩
theorem inSeq_rep (sub : ∀ a o,φ a = some o->s.heap.get? a = some o) {B : Around} {v : Value} {a : PV} {vs : List Value} {l : List PV} {r : Bool} (hu : B.units + 8 < cLine) (ha : Rep f.p φ v a) (q : Reps f.p φ vs l) (h : inSeq a l = some r) :
  ∃ e : Value->Bool,(∀ y,y ∈ vs.toArray->SeqAt.EqAt B s y v (e y)) ∧ vs.toArray.any e = r := by
 obtain ⟨e,he,hr⟩ := inSeq_some l h
 classical
 refine ⟨fun y => decide (∃ j,vs[j]? = some y ∧ e j = true),fun y hy => ?_,?_⟩
 ·show SeqAt.EqAt B s y v (decide (∃ j,vs[j]? = some y ∧ e j = true))
  have at_ : ∀ j,vs[j]? = some y->SeqAt.EqAt B s y v (e j) := fun j hj => by
   have hl : j < l.length := by rw [← q.length]; exact (List.getElem?_eq_some_iff.mp hj).1
   obtain ⟨u,e1,r'⟩ := q.get (List.getElem?_eq_getElem hl)
   rw [hj] at e1
   cases e1
   exact eqAt_rep sub 8 B y v _ a _ hu (he j _ (List.getElem?_eq_getElem hl)) r' ha
  by_cases hx : ∃ j,vs[j]? = some y ∧ e j = true
  ·obtain ⟨j,h1,h2⟩ := hx
   have := at_ j h1
   rw [h2] at this
   rw [show decide (∃ j,vs[j]? = some y ∧ e j = true) = true from decide_eq_true ⟨j,h1,h2⟩]
   exact this
  ·rw [show decide (∃ j,vs[j]? = some y ∧ e j = true) = false from decide_eq_false hx]
   obtain ⟨j,hj,e1⟩ := List.getElem_of_mem (show y ∈ vs by simpa using hy)
   have h1 : vs[j]? = some y := by rw [List.getElem?_eq_getElem hj,e1]
   have h2 : e j = false := by
    cases z : e j with
    | false => rfl
    | true => exact absurd ⟨j,h1,z⟩ hx
   have := at_ j h1
   rw [h2] at this
   exact this
 ·rw [← hr,Bool.eq_iff_iff,List.any_toArray,List.any_eq_true,List.any_eq_true]
  constructor
  ·rintro ⟨y,_,hy⟩
   obtain ⟨j,h1,h2⟩ := of_decide_eq_true hy
   exact ⟨j,by rw [List.mem_range,← q.length]; exact (List.getElem?_eq_some_iff.mp h1).1,h2⟩
  ·rintro ⟨j,hj,h2⟩
   rw [List.mem_range,← q.length] at hj
   exact ⟨vs[j],List.getElem_mem hj,decide_eq_true ⟨j,List.getElem?_eq_getElem hj,h2⟩⟩
theorem none_is {v : Value} {x : PV} (h : Rep f.p φ v x) : (v == Value.none) = isNoneV x := by cases h <;> rfl
theorem len8 (hA : AOk n f.fs A) : A.in1.units + 8 < cLine := by have := hA.units; show A.units + 1 + 8 < cLine; omega
theorem eq_units (hA : AOk n f.fs A) : A.units + 7 + 1 < cLine := by have := hA.units; omega
theorem inT_bytes {g : Bool->Bool} {x : Byt} {t u : Tok} {va : Value} {a : PV} (ha : Rep f.p φ va a) (I : f.I φ α d σ s.heap) (H : T.Sat d (inT g a (.byt x)) (BQ f φ α σ s Q) E')
  (h1 : ∀ (n : Int) (t' : Tok) (b : Bool),0 ≤ n->n < 256->b = (x.toList.any fun u => decide ((u.toNat : Int) = n))->Q (.bool (g b)) s->wpAny (model f.prog f.w) A (compareOp (if g true then .In else .NotIn) (.int n t') (.bytes x u)) Q E s)
  (h2 : ∀ (n : Byt) (t' : Tok) (h' : Heap) (tk : Nat),True->(∀ h' tk,f.I φ α d σ h'->Q (.bool (g (decide (0 ≤ bytFind x n 0)))) { s with heap := h',toks := tk })->wpAny (model f.prog f.w) A (compareOp (if g true then .In else .NotIn) (.bytes n t') (.bytes x u)) Q E s) :
  wpAny (model f.prog f.w) A (compareOp (if g true then .In else .NotIn) va (.bytes x u)) Q E s := by
 cases a with
 | int n =>
  obtain ⟨t',rfl⟩ := ha.intOf
  refine T.Sat.iteE H fun hc H => ?_
  exact h1 n t' _ hc.1 hc.2 rfl (QQ.here0 H I (.bool _))
 | byt n =>
  obtain ⟨t',rfl,_⟩ := ha.bytOf
  exact h2 n t' s.heap 0 trivial fun h' tk I' => H _ h' tk φ (Ext.refl ..) I' (.bool _)
 | _ => exact H.elim
theorem inT_seq {g : Bool->Bool} {va : Value} {a : PV} {l : List PV} {vs : List Value} (hA : AOk n f.fs A) (ha : Rep f.p φ va a) (q : Reps f.p φ vs l) (I : f.I φ α d σ s.heap) (H : T.Sat d ((optB (inSeq a l)) >>= fun r => pure (.bool (g r))) (BQ f φ α σ s Q) E') :
  ∃ e : Value->Bool,(∀ y,y ∈ vs.toArray->SeqAt.EqAt A.in1 s y va (e y)) ∧ Q (.bool (g (vs.toArray.any e))) s := by
 refine T.Sat.optBE H fun r hr H => ?_
 obtain ⟨e,h1,rfl⟩ := inSeq_rep I.sub (len8 hA) ha q hr
 exact ⟨e,h1,QQ.here0 H I (.bool _)⟩
theorem in_snd (hA : AOk n f.fs A) (ha : Rep f.p φ va a) (hb : Rep f.p φ vb b) (I : f.I φ α d σ s.heap) (H : T.Sat d (inT (fun b => b) a b) (BQ f φ α σ s Q) E') : wpAny (model f.prog f.w) A (compareOp .In va vb) Q E s := by
 cases b with
 | byt x =>
  obtain ⟨u,rfl,_⟩ := hb.bytOf
  exact inT_bytes (g := fun b => b) (t := u) ha I H (fun n t' b h0 h1 e q => BF.in_byte h0 h1 (e ▸ q)) fun n t' _ _ _ q => SeqRoads2.in_meets (typeIs_bytes s _ u) FB.slot_bytes_contains FB.entry_bytes_contains (FB.args_bytes_contains_2 _ _) (BF.meets_in_bytes _ _ u t') ⟨hA.handled,fun h' tk ⟨e,x⟩ => ⟨_,rfl,q h' tk (I.keeps x.keeps)⟩⟩
 | tup l =>
  obtain ⟨x,vs,rfl,ht,_,q⟩ := hb.tupOf I
  obtain ⟨e,h1,h2⟩ := inT_seq hA ha q I H
  exact SeqAt.in_tupleAt e ht h1 h2
 | list l =>
  obtain ⟨x,vs,rfl,ht,_,q⟩ := hb.seqOf I
  obtain ⟨e,h1,h2⟩ := inT_seq hA ha q I H
  exact SeqAt.in_listAt e ht h1 h2
 | _ => exact H.elim
theorem notIn_snd (hA : AOk n f.fs A) (ha : Rep f.p φ va a) (hb : Rep f.p φ vb b) (I : f.I φ α d σ s.heap) (H : T.Sat d (inT (fun b => !b) a b) (BQ f φ α σ s Q) E') : wpAny (model f.prog f.w) A (compareOp .NotIn va vb) Q E s := by
 cases b with
 | byt x =>
  obtain ⟨u,rfl,_⟩ := hb.bytOf
  exact inT_bytes (g := fun b => !b) (t := u) ha I H (fun n t' b h0 h1 e q => BF.notIn_byte h0 h1 (e ▸ q)) fun n t' _ _ _ q => SeqRoads2.notIn_meets (typeIs_bytes s _ u) FB.slot_bytes_contains FB.entry_bytes_contains (FB.args_bytes_contains_2 _ _) (BF.meets_in_bytes _ _ u t') ⟨hA.handled,fun h' tk ⟨e,x⟩ => ⟨_,rfl,q h' tk (I.keeps x.keeps)⟩⟩
 | tup l =>
  obtain ⟨x,vs,rfl,ht,_,q⟩ := hb.tupOf I
  obtain ⟨e,h1,h2⟩ := inT_seq hA ha q I H
  exact SeqAt.notIn_tupleAt e ht h1 h2
 | list l =>
  obtain ⟨x,vs,rfl,ht,_,q⟩ := hb.seqOf I
  obtain ⟨e,h1,h2⟩ := inT_seq hA ha q I H
  exact SeqAt.notIn_listAt e ht h1 h2
 | _ => exact H.elim
theorem le_snd (ha : Rep f.p φ va a) (hb : Rep f.p φ vb b) (I : f.I φ α d σ s.heap) (H : T.Sat d (leT a b) (BQ f φ α σ s Q) E') : wpAny (model f.prog f.w) A (compareOp .LtE va vb) Q E s := by
 cases a with
 | int x =>
  obtain ⟨t,rfl⟩ := ha.intOf
  refine int_ofE hb H fun y u eq1 H => ?_
  subst eq1
  exact le_int (QQ.here0 H I (.bool _))
 | byt x =>
  obtain ⟨t,rfl,_⟩ := ha.bytOf
  refine byt_ofE hb H fun y u eq1 _ H => ?_
  subst eq1
  exact BF.le_bytes (QQ.here0 H I (.bool _))
 | _ => exact H.elim
theorem cmpop_snd {op : CmpOp} (ha : Rep f.p φ₀ va a) (hb : Rep f.p φ₀ vb b) (hA : AOk n f.fs A) :
  f.S φ₀ (Rep f.p) A (compareOp op va vb) (fun σ => cmpop op a b >>= fun r => pure (r,σ)) := by
 intro φ α d σ s Q E le I H
 replace ha := ha.mono le
 replace hb := hb.mono le
 replace H : T.Sat d (cmpop op a b) (BQ f φ α σ s Q) (EE f φ α s E) := T.Sat.bind H
 cases op with
 | Eq =>
  refine T.Sat.optBE H fun r hr H => ?_
  exact (rcAt_rep I.sub (eq_units hA) hr ha hb).1 f.prog f.w E Q (QQ.here0 H I (.bool _))
 | NotEq =>
  refine T.Sat.optBE H fun r hr H => ?_
  exact (rcAt_rep I.sub (eq_units hA) hr ha hb).2 f.prog f.w E Q (QQ.here0 H I (.bool _))
 | Lt =>
  refine ints_ofE ha hb H fun x y t u eq1 eq2 H => ?_
  subst eq1
  subst eq2
  exact lt_int (QQ.here0 H I (.bool _))
 | LtE => exact le_snd ha hb I H
 | Gt =>
  refine ints_ofE ha hb H fun x y t u eq1 eq2 H => ?_
  subst eq1
  subst eq2
  exact gt_int (QQ.here0 H I (.bool _))
 | GtE =>
  refine ints_ofE ha hb H fun x y t u eq1 eq2 H => ?_
  subst eq1
  subst eq2
  exact ge_int (QQ.here0 H I (.bool _))
 | Is =>
  refine T.Sat.noneVE H fun eq1 H => ?_
  subst eq1
  cases hb.noneOf
  exact is_none (none_is ha ▸ QQ.here0 H I (.bool _))
 | IsNot =>
  refine T.Sat.noneVE H fun eq1 H => ?_
  subst eq1
  cases hb.noneOf
  exact isNot_none (none_is ha ▸ QQ.here0 H I (.bool _))
 | In => exact in_snd hA ha hb I H
 | NotIn => exact notIn_snd hA ha hb I H
end
section
variable {f : Fm} {φ₀ φ : Ob} {A : Around} {C : Cx} {P : Lv} {n : Nat}
theorem truthy_snd {v : Value} {x : PV} (h : Rep f.p φ₀ v x) : f.S φ₀ (fun _ a b => a = b) A (truthy v) (fun σ => opt "truth" (truthyPV x) >>= fun t => pure (t,σ)) := by
 intro φ α d σ s Q E le I H
 refine T.Sat.optE H fun t e q => ?_
 cases x with
 | bool b =>
  cases h.inv
  cases e
  exact wpAny_truthy_bool (QQ.here0 q I rfl)
 | _ => exact noOpt e
variable (hE : ∀ φ₀ x,f.S φ₀ (Rep f.p) A (eval x f.env) (fun σ => P.ev f.env.scope σ x))
variable (hT : ∀ φ₀ x,f.S φ₀ (fun _ a b => a = b) A (isTrue x f.env (eval x f.env)) (fun σ => P.isT f.env.scope σ x))
include hE
theorem snd_BinOp (hA : AOk n f.fs A) {l r : Expr} {op : Operator} {pos : Pos} : f.S φ₀ (Rep f.p) A (eval (.BinOp l op r pos) f.env) (fun σ => evStep C P f.env.scope σ (.BinOp l op r pos)) := by
 intro φ α d σ s Q E le I H
 refine wpAny_BinOp ((hE φ l).cps (Le.refl _) I H fun φ₁ a x σ₁ s₁ d₁ le₁ I₁ Ra H₁ => ?_)
 refine (hE φ₁ r).cps (Le.refl _) I₁ H₁ fun φ₂ b y σ₂ s₂ d₂ le₂ I₂ Rb H₂ => ?_
 exact binop_snd (Ra.mono le₂) Rb hA φ₂ α d₂ σ₂ s₂ Q E (Le.refl _) I₂ H₂
theorem snd_Not {x : Expr} {pos : Pos} : f.S φ₀ (Rep f.p) A (eval (.UnaryOp .Not x pos) f.env) (fun σ => evStep C P f.env.scope σ (.UnaryOp .Not x pos)) := by
 intro φ α d σ s Q E le I H
 refine wpAny_UnaryOp ((hE φ x).cps (Le.refl _) I H fun φ₁ a y σ₁ s₁ d₁ le₁ I₁ Ra H₁ => not_of ?_)
 refine T.Sat.optE H₁ fun t e q => ?_
 refine truthy_snd Ra φ₁ α d₁ σ₁ s₁ _ E (Le.refl _) I₁ (T.sat_bind.mpr (T.sat_opt.mpr ⟨t,e,fun v h' tk φ' ex i r => ?_⟩))
 cases (show v = t from r)
 exact q _ h' tk φ' ex i (.bool _)
theorem snd_USub {x : Expr} {pos : Pos} : f.S φ₀ (Rep f.p) A (eval (.UnaryOp .USub x pos) f.env) (fun σ => evStep C P f.env.scope σ (.UnaryOp .USub x pos)) := by
 intro φ α d σ s Q E le I H
 refine wpAny_UnaryOp ((hE φ x).cps (Le.refl _) I H fun φ₁ a y σ₁ s₁ d₁ le₁ I₁ Ra H₁ => ?_)
 refine int_ofE Ra H₁ fun i t eq1 H₁ => ?_
 subst eq1
 exact neg_int (QQ.here H₁ I₁ (.int _ _))
theorem snd_boolChain {op : BoolOp} {pos : Pos} (es : List Expr) : ∀ (φ₀ : Ob),f.S φ₀ (Rep f.p) A (boolOp pos op (evalEach es f.env)) (fun σ => boolChain P op f.env.scope σ es) := by
 induction es with
 | nil => exact fun φ₀ φ α d σ s Q E le I H => H.elim
 | cons e r ih =>
  cases r with
  | nil => exact fun φ₀ => hE φ₀ e
  | cons e' r =>
   intro φ₀ φ α d σ s Q E le I H
   have H : T.Sat d (P.ev f.env.scope σ e >>= fun x => opt "truth" (truthyPV x.1) >>= fun t => match op,t with
    | .And,false | .Or,true => .ret (x.1,x.2)
    | _,_ => boolChain P op f.env.scope x.2 (e' :: r)) (QQ f (Rep f.p) φ α s Q) (EE f φ α s E) := H
   refine wpAny_bind ((hE φ e).cps (Le.refl _) I H fun φ₁ a y σ₁ s₁ d₁ le₁ I₁ Ra H₁ => wpAny_bind (wpAny_standAt (wpAny_bind (wpAny_holding ?_))))
   refine T.Sat.optE H₁ fun t e1 q => ?_
   refine truthy_snd Ra φ₁ α d₁ σ₁ s₁ _ E (Le.refl _) I₁ (T.sat_bind.mpr (T.sat_opt.mpr ⟨t,e1,fun v h' tk φ' ex i rr => ?_⟩))
   cases (show v = t from rr)
   have q' := T.Sat.mono q (fun _ _ x => x.step (h := h') (tk := tk) ex) (fun _ _ _ x => x.step (h := h') (tk := tk) ex)
   cases op <;> cases t
   ·exact wpAny_pure (QQ.here0 q' i (Ra.mono ex.1))
   ·exact ih φ' φ' α d₁ σ₁ { s₁ with heap := h',toks := tk } Q E (Le.refl _) i q'
   ·exact ih φ' φ' α d₁ σ₁ { s₁ with heap := h',toks := tk } Q E (Le.refl _) i q'
   ·exact wpAny_pure (QQ.here0 q' i (Ra.mono ex.1))
theorem snd_BoolOp {op : BoolOp} {es : List Expr} {pos : Pos} : f.S φ₀ (Rep f.p) A (eval (.BoolOp op es pos) f.env) (fun σ => evStep C P f.env.scope σ (.BoolOp op es pos)) :=
 snd_boolChain hE es φ₀
omit hE in
include hT in
theorem snd_allT {op : BoolOp} (es : List Expr) : ∀ (φ₀ : Ob),f.S φ₀ (fun _ a b => a = b) A (allTrue op es f.env) (fun σ => allT P op f.env.scope σ es) := by
 induction es with
 | nil => exact fun φ₀ φ α d σ s Q E le I H => wpAny_pure (QQ.here0 H I rfl)
 | cons e r ih =>
  intro φ₀ φ α d σ s Q E le I H
  have H : T.Sat d (P.isT f.env.scope σ e >>= fun x => match op,x.1 with
   | .And,false => .ret (false,x.2)
   | .Or,true => .ret (true,x.2)
   | _,_ => allT P op f.env.scope x.2 r) (QQ f (fun _ a b => a = b) φ α s Q) (EE f φ α s E) := H
  refine wpAny_bind ((hT φ e).cps (Le.refl _) I H fun φ₁ a y σ₁ s₁ d₁ le₁ I₁ Ra H₁ => ?_)
  cases (show a = y from Ra)
  cases op <;> cases a
  ·exact wpAny_pure (QQ.here0 H₁ I₁ rfl)
  ·exact ih φ₁ φ₁ α d₁ σ₁ s₁ Q E (Le.refl _) I₁ H₁
  ·exact ih φ₁ φ₁ α d₁ σ₁ s₁ Q E (Le.refl _) I₁ H₁
  ·exact wpAny_pure (QQ.here0 H₁ I₁ rfl)
include hT in
theorem snd_IfExp {t b o : Expr} {pos : Pos} : f.S φ₀ (Rep f.p) A (eval (.IfExp t b o pos) f.env) (fun σ => evStep C P f.env.scope σ (.IfExp t b o pos)) := by
 intro φ α d σ s Q E le I H
 refine wpAny_IfExp ((hT φ t).cps (Le.refl _) I H fun φ₁ a y σ₁ s₁ d₁ le₁ I₁ Ra H₁ => ?_)
 have Ra : a = y := Ra
 subst Ra
 cases a
 ·exact hE φ₁ o φ₁ α d₁ σ₁ s₁ Q E (Le.refl _) I₁ H₁
 ·exact hE φ₁ b φ₁ α d₁ σ₁ s₁ Q E (Le.refl _) I₁ H₁
end
section
variable {f : Fm} {φ₀ φ : Ob} {A : Around} {C : Cx} {P : Lv} {n : Nat} {α : Nat->Addr} {d : Nat} {σ : Sto} {h : Heap} {s : Shared}
variable (hE : ∀ φ₀ x,f.S φ₀ (Rep f.p) A (eval x f.env) (fun σ => P.ev f.env.scope σ x))
variable (hT : ∀ φ₀ x,f.S φ₀ (fun _ a b => a = b) A (isTrue x f.env (eval x f.env)) (fun σ => P.isT f.env.scope σ x))
theorem star_plain {env : Env} {e : Expr} {r : List Expr} (hp : plainR e = true) : starEach (e :: r) env = (false,eval e env) :: starEach r env := by
 cases e <;> first | rfl | exact noB hp
include hE
theorem snd_evs {pos : Pos} (es : List Expr) : ∀ (φ₀ : Ob),f.S φ₀ (Reps f.p) A (spliced (backTo pos (starEach es f.env))) (fun σ => evs P f.env.scope σ es) := by
 induction es with
 | nil => exact fun φ₀ φ α d σ s Q E le I H => spliced_none (QQ.here0 H I .nil)
 | cons e r ih =>
  intro φ₀ φ α d σ s Q E le I H
  refine T.Sat.chkE H fun hp H => ?_
  refine spliced_more ((hE φ e).cps (Le.refl _) I H fun φ₁ a y σ₁ s₁ d₁ le₁ I₁ Ra H₁ => ?_) (star_plain hp)
  exact (ih φ₁).cps (Le.refl _) I₁ H₁ fun φ₂ b z σ₂ s₂ d₂ le₂ I₂ Rb H₂ => QQ.here0 H₂ I₂ (.cons (Ra.mono le₂) Rb)
omit hE in
theorem short_snd {R₂ : Ob->Value->PV->Prop} {x : PV} {l : List PV} {vs : List Value} {Q : Value->Shared->Prop} {E' : Nat->PV->Sto->Prop} {o : Obj} (ho : o.isFreed = false) (I : f.I φ α d σ s.heap) (Ra : Reps f.p φ vs l)
  (mk : ∀ {φ' : Ob} {a : Addr},vs.length ≤ lineB->Le φ φ'->φ' a = some o->R₂ φ' (.ref a) x) (H : T.Sat d (shortT l (x,σ)) (QQ f R₂ φ α s Q) E') : vs.length ≤ sizeLine ∧ Q (.ref s.heap.objs.size) { s with heap := s.heap.push o } := by
 have H : T.Sat d (match Nat.ble l.length 1000 with | true => .ret (x,σ) | false => .stuck "long") (QQ f R₂ φ α s Q) E' := H
 cases hl : Nat.ble l.length 1000 with
 | false => rw [hl] at H; exact H.elim
 | true =>
  rw [hl] at H
  have hl : vs.length ≤ 1000 := Ra.length ▸ Nat.le_of_ble_eq_true hl
  obtain ⟨φ₂,ex,I₂,p⟩ := f.push I o ho
  exact ⟨Nat.le_trans hl (by rw [sizeLine_eq]; decide),H _ _ s.toks φ₂ ex I₂ (mk (Nat.le_trans hl (by decide)) ex.1 p)⟩
theorem snd_List {es : List Expr} {pos : Pos} : f.S φ₀ (Rep f.p) A (eval (.List es pos) f.env) (fun σ => evStep C P f.env.scope σ (.List es pos)) := by
 intro φ α d σ s Q E le I H
 exact wpAny_List_spliced ((snd_evs hE es φ).cps (Le.refl _) I H fun φ₁ vs xs σ₁ s₁ d₁ le₁ I₁ Ra H₁ => short_snd rfl I₁ Ra (fun hl le p => .list p hl (Ra.mono le)) H₁)
theorem snd_Tuple {es : List Expr} {k} {pos : Pos} : f.S φ₀ (Rep f.p) A (eval (.Tuple es k pos) f.env) (fun σ => evStep C P f.env.scope σ (.Tuple es k pos)) := by
 intro φ α d σ s Q E le I H
 exact wpAny_Tuple_spliced ((snd_evs hE es φ).cps (Le.refl _) I H fun φ₁ vs xs σ₁ s₁ d₁ le₁ I₁ Ra H₁ => short_snd rfl I₁ Ra (fun hl le p => .tup p rfl rfl hl (Ra.mono le)) H₁)
theorem snd_partE : ∀ (e : Option Expr) (φ₀ : Ob),f.S φ₀ (Rep f.p) A (evalPart e f.env) (fun σ => partE P f.env.scope σ e)
 | none,φ₀ => fun φ α d σ s Q E le I H => wpAny_evalPart_none (QQ.here0 H I .none)
 | some e,φ₀ => fun φ α d σ s Q E le I H => wpAny_evalPart_some (hE φ₀ e φ α d σ s Q E le I H)
omit hE in
theorem part_of {v : Value} {x : PV} {lo : Option Int} (r : Rep f.p φ v x) (h : partOf x = some lo) : IsPart v lo := by
 cases x with
 | none => cases r.inv; cases h; exact .none
 | int i => obtain ⟨t,rfl⟩ := r.intOf; cases h; exact .int i t
 | _ => exact noOpt h
omit hE in
theorem Reps.cut {vs : List Value} {l : List PV} (r : Reps f.p φ vs l) (lo hi : Option Int) : Reps f.p φ (cutBy vs vs.length lo hi) (cutBy l l.length lo hi) := by
 unfold cutBy
 rw [r.length]
 exact (r.drop _).take _
omit hE in
theorem cut_len {α : Type} {l : List α} {lo hi : Option Int} : (cutBy l l.length lo hi).length ≤ l.length := by
 exact Nat.le_trans (List.length_take_le' ..) (List.length_drop ▸ Nat.sub_le ..)
omit hE in
theorem cut_list {Q : Value->Shared->Prop} {E : Value->Shared->Prop} {value : Expr} {ea eb : Option Expr} {ep : Pos} {l : List PV} {x va vb : Value} {lo hi : Option Int} {S : Addr} (Ro : Rep f.p φ x (.list l)) (I : f.I φ α d σ s.heap) (Pa : IsPart va lo) (Pb : IsPart vb hi) (hS : s.heap.IsSliceOf S va vb .none)
  (H : QQ f (Rep f.p) φ α s Q d (.list (cutBy l l.length lo hi),σ)) : wpAny (model f.prog f.w) A (subscriptTail value (.Slice ea eb none ep) x (.ref S)) Q E s := by
 obtain ⟨y,vs,rfl,hl,hz,rr⟩ := Ro.seqOf I
 refine tail_any (ops := [_,_]) hl.typeIs list_getitem_lookup (wpAny_getItem_list_slice hl hS Pa Pb .none (by simp) ?_ (Nat.le_trans hz sizeLine_lineB)) rfl
 rw [slicePick_plain]
 obtain ⟨φ₅,ex',I₅,pp⟩ := f.push I { cls := .type "list",data := .seq (cutBy vs vs.length lo hi).toArray }
 exact H _ _ s.toks φ₅ ex' I₅ (.list pp (Nat.le_trans cut_len hz) ((rr.mono ex'.1).cut lo hi))
omit hE in
theorem cut_byt {Q : Value->Shared->Prop} {E : Value->Shared->Prop} {value : Expr} {ea eb : Option Expr} {ep : Pos} {b : Byt} {x va vb : Value} {lo hi : Option Int} {S : Addr} (Ro : Rep f.p φ x (.byt b)) (I : f.I φ α d σ s.heap) (Pa : IsPart va lo) (Pb : IsPart vb hi) (hS : s.heap.IsSliceOf S va vb .none)
  (H : QQ f (Rep f.p) φ α s Q d (.byt (cutBy b.toList b.size lo hi).toArray,σ)) : wpAny (model f.prog f.w) A (subscriptTail value (.Slice ea eb none ep) x (.ref S)) Q E s := by
 obtain ⟨t,rfl,hz⟩ := Ro.bytOf
 refine tail_any (ops := [_,_]) (typeIs_bytes _ _ _) FB.slot_bytes_getitem.lookup ?_ rfl
 refine getItem_meets (typeIs_bytes _ _ _) (by decide) FB.slot_bytes_getitem FB.entry_bytes_getitem (FB.args_bytes_getitem_2 _ _) (KBc.meets_slice2 _ t _ Pa Pb)
  ⟨hS,Nat.le_trans (KBc.size_picked_le _ lo hi) (Nat.le_trans hz sizeLine_lineB),fun t' k => H _ _ k φ (Ext.refl ..) I ?_⟩
 rw [KBc.picked_eq]
 exact .byt _ _ (Nat.le_trans (cut_len (l := b.toList)) hz)
theorem snd_Slice {o : Expr} {a b : Option Expr} {p pos : Pos} : f.S φ₀ (Rep f.p) A (eval (.Subscript o (.Slice a b none p) pos) f.env) (fun σ => evStep C P f.env.scope σ (.Subscript o (.Slice a b none p) pos)) := by
 intro φ α d σ s Q E le I H
 refine Subscript_ ((hE φ o).cps (Le.refl _) I H fun φ₁ vo xo σ₁ s₁ d₁ le₁ I₁ Ro H₁ => wpAny_Slice ?_)
 refine (snd_partE hE a φ₁).cps (Le.refl _) I₁ H₁ fun φ₂ va xa σ₂ s₂ d₂ le₂ I₂ Ra H₂ => ?_
 refine (snd_partE hE b φ₂).cps (Le.refl _) I₂ H₂ fun φ₃ vb xb σ₃ s₃ d₃ le₃ I₃ Rb H₃ => wpAny_evalPart_none ?_
 obtain ⟨φ₄,ex,I₄,_⟩ := f.push I₃ { cls := .type "slice",data := .fields #[va,vb,.none] }
 refine T.Sat.optE H₃.bind fun lo ha H₃ => ?_
 refine T.Sat.optE H₃ fun hi hb H₃ => ?_
 have Pa := part_of (Ra.mono le₃) ha
 have Pb := part_of Rb hb
 have Ro := Ro.mono ((le₂.trans le₃).trans ex.1)
 cases xo with
 | list l => exact cut_list Ro I₄ Pa Pb (Heap.IsSliceOf.new _ va vb .none) (QQ.step H₃ ex)
 | byt l => exact cut_byt Ro I₄ Pa Pb (Heap.IsSliceOf.new _ va vb .none) (QQ.step H₃ ex)
 | _ => exact H₃.elim
end
section
variable {f : Fm} {φ₀ φ : Ob} {A : Around} {C : Cx} {P : Lv} {n : Nat} {α : Nat->Addr} {d : Nat} {σ : Sto} {h : Heap} {s : Shared}
theorem KeysAre.dictOf {P : Params} {es : List DictEntry} {m : Nat} {ks : List Byt} (k : KeysAre P es m ks) {prog : Program} {w : World} (hw : w.params = P) {h : Heap} {a : Addr} (ha : h.get? a = some (W.dictOf es m)) : h.DictOf (bytesKind prog w) a (ks.map fun k => (k.toList,Value.bool true)) :=
 Heap.dictOf_iff.mpr ⟨_,ha,k prog w hw⟩
theorem keys_any (ks : List Byt) (k : Byt) : (ks.map fun k => (k.toList,Value.bool true)).any (fun kv => kv.1 = k.toList) = ks.any (bytEq · k) := by
 induction ks with
 | nil => rfl
 | cons a r ih =>
  rw [List.map_cons,List.any_cons,List.any_cons,ih]
  congr 1
  unfold bytEq
  rw [Bool.eq_iff_iff]; simp
theorem keys_stored (ks : List Byt) (k : Byt) : stored (ks.map fun k => (k.toList,Value.bool true)) k.toList (.bool true) = (if ks.any (bytEq · k) then ks else ks ++ [k]).map fun k => (k.toList,Value.bool true) := by
 unfold stored
 rw [keys_any]
 cases ks.any (bytEq · k) with
 | true =>
  simp only [if_true,List.map_map]
  refine List.map_congr_left fun a _ => ?_
  show (if _ then _ else _) = _
  split <;> rfl
 | false => simp
theorem pairs_conv {prog prog' : Program} {w w' : World} {l : List DictEntry} {kvs : List (List UInt8 × Value)} (q : Pairs (bytesKind prog w) l kvs) : Pairs (bytesKind prog' w') l kvs := by
 induction q with
 | nil => exact .nil
 | cons a b _ ih => exact .cons a b ih
theorem keys_back {prog : Program} {w : World} {P : Params} (hw : w.params = P) {h : Heap} {a : Addr} {ks : List Byt} (x : h.DictOf (bytesKind prog w) a (ks.map fun k => (k.toList,Value.bool true))) : ∃ es m,h.get? a = some (W.dictOf es m) ∧ KeysAre P es m ks ∧ es.length = ks.length := by
 subst hw
 obtain ⟨o,es,ep,ho,⟨e1,e2,e3⟩,hd,hk,hp,hn⟩ := x
 obtain ⟨c,dd,dt,sl⟩ := o
 cases e1; cases e2; cases e3; cases hd
 exact ⟨es.toList,ep,ho,fun prog' w' hw' => ⟨es,ep,⟨rfl,rfl,rfl⟩,rfl,fun e he => let ⟨k,a,b⟩ := hk e he; ⟨k,a,b.trans (by show hashW w.params _ = hashW w'.params _; rw [hw'])⟩,pairs_conv hp,hn⟩,hp.length.trans (List.length_map ..)⟩
theorem seqI {r n : Nat} (h : r < n) : seqIndex? (r : Int) n = some r := by
 show (if (decide (0 ≤ (if (r : Int) < 0 then (r : Int) + n else r)) && decide ((if (r : Int) < 0 then (r : Int) + n else r) < n)) = true then some (if (r : Int) < 0 then (r : Int) + n else r).toNat else none) = _
 rw [if_neg (Int.not_lt.mpr (Int.natCast_nonneg r))]
 exact if_pos ((Bool.and_eq_true_iff ..).mpr ⟨decide_eq_true (Int.natCast_nonneg r),decide_eq_true (Int.ofNat_lt.mpr h)⟩)
theorem line63 {n : Nat} (h : n ≤ lineB) : (n : Int) < 2 ^ 62 := by
 have : (lineB : Int) < 2 ^ 62 := by decide
 omega
theorem item_of {k : Int} {at_ : Nat->Option PV} {Q E} {Z : Prop} (H : T.Sat d (itemT k at_) Q E) (g : ∀ (j : Nat) y,k = (j : Int)->at_ j = some y->Q d y->Z) : Z := by
 have H : T.Sat d (match decide (0 ≤ k) with
  | true => opt "index" (at_ k.toNat)
  | false => .stuck "index out") Q E := H
 cases e : decide (0 ≤ k) with
 | false => rw [e] at H; exact H.elim
 | true =>
  rw [e] at H
  obtain ⟨y,hy,q⟩ := T.sat_opt.mp H
  exact g _ y (Int.toNat_of_nonneg (of_decide_eq_true e)).symm hy q
theorem index_in {m j : Nat} (h : j < m) (hz : m ≤ lineB) : -(2 ^ 63 : Int) ≤ (j : Int) ∧ (j : Int) < 2 ^ 63 :=
 ⟨Int.le_trans (by decide) (Int.natCast_nonneg j),Int.lt_of_lt_of_le (Int.ofNat_lt.mpr (Nat.lt_of_lt_of_le h hz)) (show ((lineB : Nat) : Int) ≤ 2 ^ 63 by decide)⟩
theorem fits63 {i : Int} (a : -(2 ^ 63 : Int) ≤ i) (b : i < 2 ^ 63) : Builtin.Bytes.fitsIndex i = true := by
 simp only [Builtin.Bytes.fitsIndex,Bool.and_eq_true,decide_eq_true_eq]
 exact ⟨a,b⟩
theorem lt_get {α : Type} {l : List α} {j : Nat} {u : α} (h : l[j]? = some u) : j < l.length := (List.getElem?_eq_some_iff.mp h).1
theorem index_snd {value slice : Expr} {vo vk : Value} {x k : PV} {Q : Value->Shared->Prop} {E : Value->Shared->Prop} (ho : Rep f.p φ vo x) (hk : Rep f.p φ vk k)
  (hs : subscripted slice false vo vk = operate [vo,vk] (getItem vo vk)) (I : f.I φ α d σ s.heap) (H : T.Sat d (indexPV x k >>= fun r => pure (r,σ)) (QQ f (Rep f.p) φ α s Q) (EE f φ α s E)) :
  wpAny (model f.prog f.w) A (subscriptTail value slice vo vk) Q E s := by
 replace H : T.Sat d (indexPV x k) (BQ f φ α σ s Q) (EE f φ α s E) := H.bind
 cases x with
 | tup l =>
  obtain ⟨a,vs,rfl,ht,hz,rr⟩ := ho.tupOf I
  refine int_ofE hk H fun i t eq1 H => ?_
  subst eq1
  refine item_of H fun j y eq2 hy HQ => ?_
  subst eq2
  obtain ⟨u,hu,ru⟩ := rr.get hy
  have hb := index_in (lt_get hu) hz
  exact tail_any (ops := [_,_]) ht.typeIs slot_tuple_getitem.lookup (getItem_tuple ht hb.1 hb.2 (seqI (List.size_toArray.symm ▸ lt_get hu)) ((List.getElem?_toArray ..).trans hu) (HQ.here0 I ru)) hs
 | list l =>
  obtain ⟨a,vs,rfl,ht,hz,rr⟩ := ho.seqOf I
  refine int_ofE hk H fun i t eq1 H => ?_
  subst eq1
  refine item_of H fun j y eq2 hy HQ => ?_
  subst eq2
  obtain ⟨u,hu,ru⟩ := rr.get hy
  have hb := index_in (lt_get hu) hz
  exact tail_any (ops := [_,_]) ht.typeIs slot_list_getitem.lookup (wpAny_getItem_list ht (Int.natCast_nonneg j) hb.2 ((List.getElem?_toArray ..).trans hu) (HQ.here0 I ru)) hs
 | byt b =>
  obtain ⟨t',rfl,hz⟩ := ho.bytOf
  refine int_ofE hk H fun i t eq1 H => ?_
  subst eq1
  refine item_of H fun j y eq2 hy HQ => ?_
  obtain ⟨u,hu,rfl⟩ := Option.map_eq_some_iff.mp hy
  have lt := (Array.getElem?_eq_some_iff.mp hu).1
  have hb := index_in lt hz
  refine tail_any (ops := [_,_]) (typeIs_bytes _ _ _) FB.slot_bytes_getitem.lookup ?_ hs
  exact getItem_gives (typeIs_bytes _ _ _) (by decide) FB.slot_bytes_getitem FB.entry_bytes_getitem (FB.args_bytes_getitem_2 _ _) (gives_bytes_getitem _ i t' t u (eq2 ▸ fits63 hb.1 hb.2) (by rw [eq2,seqI lt]; exact hu)) (HQ.here I (.int _ _))
 | str b =>
  obtain ⟨t',rfl,hz⟩ := ho.strOf
  refine int_ofE hk H fun i t eq1 H => ?_
  subst eq1
  refine item_of H fun j y eq2 hy HQ => ?_
  subst eq2
  obtain ⟨u,hu,rfl⟩ := Option.map_eq_some_iff.mp hy
  have lt := (Array.getElem?_eq_some_iff.mp hu).1
  have hb := index_in lt hz
  refine tail_any (ops := [_,_]) (typeIs_str _ _ _) slot_str_getitem.lookup (PySem.P.getItem_str (c := u) (by rw [decide_eq_false (Int.not_lt.mpr hb.1),decide_eq_false (Int.not_le.mpr hb.2)]; rfl) ?_ (HQ.here I (.str _ _ (show 1 ≤ lineB by decide)))) hs
  show (seqIndex? j b.cps.size).bind _ = _
  rw [seqI lt]; exact hu
 | _ => exact H.elim
theorem sliceOf_some {i : Expr} {q : Option Expr × Option Expr} (h : sliceOf i = some q) : ∃ p,i = .Slice q.1 q.2 none p := by
 cases i with
 | Slice a b c p => cases c with
  | none => cases h; exact ⟨p,rfl⟩
  | some c => exact noOpt h
 | _ => exact noOpt h
theorem subscripted_plain {i : Expr} {vo vk : Value} (hi : sliceOf i = none) : subscripted i false vo vk = operate [vo,vk] (getItem vo vk) := by
 cases i with
 | Slice a b c p => cases c with
  | none => cases hi
  | some c => rfl
 | _ => rfl
theorem marks_plain {op : CmpOp} {r : Expr} (hp : plainR r = true) : behindInMarks op r = false := by
 cases r <;> first | rfl | exact noB hp
variable (hE : ∀ φ₀ x,f.S φ₀ (Rep f.p) A (eval x f.env) (fun σ => P.ev f.env.scope σ x))
variable (hT : ∀ φ₀ x,f.S φ₀ (fun _ a b => a = b) A (isTrue x f.env (eval x f.env)) (fun σ => P.isT f.env.scope σ x))
include hE
theorem snd_Subscript {o i : Expr} {pos : Pos} : f.S φ₀ (Rep f.p) A (eval (.Subscript o i pos) f.env) (fun σ => evStep C P f.env.scope σ (.Subscript o i pos)) := by
 cases h : sliceOf i with
 | some q =>
  obtain ⟨p,rfl⟩ := sliceOf_some h
  exact snd_Slice hE
 | none =>
  intro φ α d σ s Q E le I H
  have H : T.Sat d (subT P f.env.scope σ o i (sliceOf i)) (QQ f (Rep f.p) φ α s Q) (EE f φ α s E) := H
  rw [h] at H
  refine Subscript_ ((hE φ o).cps (Le.refl _) I H fun φ₁ vo xo σ₁ s₁ d₁ le₁ I₁ Ro H₁ => ?_)
  exact (hE φ₁ i).cps (Le.refl _) I₁ H₁ fun φ₂ vk xk σ₂ s₂ d₂ le₂ I₂ Rk H₂ => index_snd (Ro.mono le₂) Rk (subscripted_plain h) I₂ H₂
omit hE in
theorem nameOf_some {e : Expr} {x : Str} (h : nameOf e = some x) : ∃ p,e = .Name x p := by
 cases e with
 | Name y p => cases h; exact ⟨p,rfl⟩
 | _ => exact noOpt h
omit hE in
theorem ownS_some {i k : Nat} {o : Option Slot} {sl : Slot} (h : ownS k o = some (i,sl)) : i = k ∧ o = some sl ∧ sl.isOwn = true := by
 cases o with
 | none => exact noOpt h
 | some s =>
  have h : (match s.isOwn with | true => some (k,s) | false => none) = some (i,sl) := h
  cases ho : s.isOwn with
  | false => rw [ho] at h; exact noOpt h
  | true => rw [ho] at h; cases h; exact ⟨rfl,rfl,ho⟩
omit hE in
theorem ownAt_some {sc : Scope} {e : Expr} {i : Nat} {sl : Slot} (h : ownAt sc σ e = some (i,sl)) : ∃ x pos,e = .Name x pos ∧ kindOf sc.names x = some .local ∧ i = idx sc.names x ∧ getS σ i = some sl ∧ sl.isOwn = true := by
 unfold ownAt at h
 cases hn : nameOf e with
 | none => rw [hn] at h; exact noOpt h
 | some x =>
  rw [hn] at h
  have h : (match isLoc (kindOf sc.names x) with | true => ownS (idx sc.names x) (getS σ (idx sc.names x)) | false => none) = some (i,sl) := h
  obtain ⟨p,rfl⟩ := nameOf_some hn
  cases hk : isLoc (kindOf sc.names x) with
  | false => rw [hk] at h; exact noOpt h
  | true =>
   rw [hk] at h
   obtain ⟨rfl,a,b⟩ := ownS_some h
   exact ⟨x,p,rfl,eq_of_beq hk,rfl,a,b⟩
omit hE in
theorem ownAt_someE {sc : Scope} {e : Expr} {i : Nat} {sl : Slot} {Z : Prop} (h : ownAt sc σ e = some (i,sl)) (k : ∀ x pos,e = .Name x pos->kindOf sc.names x = some .local->i = idx sc.names x->getS σ i = some sl->sl.isOwn = true->Z) : Z := let ⟨x,p,a,b,c,d,e⟩ := ownAt_some h; k x p a b c d e
omit hE in
theorem inDict_snd (st : Stat f.prog f.w f.K f.p C) {va : Value} {k : Byt} {i : Nat} {ks : List Byt} {Q : Value->Shared->Prop} {E : Value->Shared->Prop} (ha : Rep f.p φ va (.byt k)) (hi : getS σ i = some (.od ks)) (I : f.I φ α d σ s.heap)
  (H : T.Sat d (pure (.bool (ks.any (bytEq · k)),σ)) (QQ f (Rep f.p) φ α s Q) (EE f φ α s E)) : wpAny (model f.prog f.w) A (compareOp .In va (.ref (α i))) Q E s := by
 obtain ⟨t,rfl,_⟩ := ha.bytOf
 obtain ⟨⟨es,m,hd,ka,hz,he⟩,ow⟩ := I.own i _ hi
 have ns : (α i == sysModules) = false := by
  rw [beq_eq_false_iff_ne]
  intro e
  have := st.sysm
  obtain ⟨o,q⟩ := Option.isSome_iff_exists.mp this
  exact nn (I.stat _ _ q) (e ▸ ow.φ)
 refine wpAny_in_of (knd := bytesKind f.prog f.w) (k := k.toList) (by simp [bytesKind,isBytes]) ns (ka.dictOf st.hP.symm hd).mapOf ?_
 have e : (valueAt (ks.map fun k => (k.toList,Value.bool true)) k.toList).isSome = ks.any (bytEq · k) := by
  rw [← keys_any]
  unfold valueAt
  rw [Option.isSome_map,Bool.eq_iff_iff,List.find?_isSome]
  exact List.any_eq_true.symm
 rw [e]
 exact QQ.here H I (.bool _)
omit hE in
theorem isOd_some {o : Option (Nat × Slot)} {s : Slot} (h : isOd o = some s) : ∃ i ks,o = some (i,.od ks) ∧ s = .od ks := by
 cases o with
 | none => exact noOpt h
 | some q =>
  obtain ⟨i,sl⟩ := q
  cases sl with
  | od ks => cases h; exact ⟨i,ks,rfl,rfl⟩
  | _ => exact noOpt h
theorem snd_evCmp (ok : EnvOk f.env) (st : Stat f.prog f.w f.K f.p C) (hA : AOk n f.fs A) {l r : Expr} {op : CmpOp} {Q : Value->Shared->Prop} {E : Value->Shared->Prop} (le : Le φ₀ φ) (I : f.I φ α d σ s.heap)
  (H : T.Sat d (evCmp P f.env.scope σ l op r) (QQ f (Rep f.p) φ α s Q) (EE f φ α s E)) :
  behindInMarks op r = false ∧ wpAny (model f.prog f.w) A (eval l f.env) (fun a s₁ => wpAny (model f.prog f.w) A (eval r f.env) (fun b s₂ => wpAny (model f.prog f.w) A (compareOp op a b) Q E s₂) E s₁) E s := by
 refine T.Sat.chkE H fun hp H => ?_
 refine ⟨marks_plain hp,(hE φ l).cps (Le.refl _) I H fun φ₁ va xa σ₁ s₁ d₁ le₁ I₁ Ra H₁ => ?_⟩
 have H₁ : T.Sat d₁ (cmpAt P f.env.scope σ₁ xa op r (isOd (ownAt f.env.scope σ₁ r))) (QQ f (Rep f.p) φ₁ α s₁ Q) (EE f φ₁ α s₁ E) := H₁
 cases ho : isOd (ownAt f.env.scope σ₁ r) with
 | some sl =>
  rw [ho] at H₁
  obtain ⟨i,ks,ho',rfl⟩ := isOd_some ho
  refine ownAt_someE ho' fun x pos eq1 hk eq2 hs _ => ?_
  subst eq1
  subst eq2
  refine name_local ok I₁ hk hs fun v hv => ?_
  rw [show v = _ from hv]
  cases op with
  | In =>
   refine T.Sat.bytVE H₁ fun k eq1 H₁ => ?_
   subst eq1
   exact inDict_snd st Ra hs I₁ H₁
  | _ => exact H₁.elim
 | none =>
  rw [ho] at H₁
  exact (hE φ₁ r).cps (Le.refl _) I₁ H₁ fun φ₂ vb xb σ₂ s₂ d₂ le₂ I₂ Rb H₂ => cmpop_snd (Ra.mono le₂) Rb hA φ₂ α d₂ σ₂ s₂ Q E (Le.refl _) I₂ H₂
theorem snd_Compare (ok : EnvOk f.env) (st : Stat f.prog f.w f.K f.p C) (hA : AOk n f.fs A) {l : Expr} {ops : List CmpOp} {rs : List Expr} {pos : Pos} : f.S φ₀ (Rep f.p) A (eval (.Compare l ops rs pos) f.env) (fun σ => evStep C P f.env.scope σ (.Compare l ops rs pos)) := by
 intro φ α d σ s Q E le I H
 refine T.Sat.oneE H fun op eq1 H => ?_
 subst eq1
 refine T.Sat.oneE H fun r eq1 H => ?_
 subst eq1
 obtain ⟨hm,h⟩ := snd_evCmp hE ok st hA le I H
 exact wpAny_Compare1 h hm
omit hE in
theorem truthy_cps {v : Value} {x : PV} {t₂ : Bool->T (Bool × Sto)} {Q : Bool->Shared->Prop} {E : Value->Shared->Prop} (r : Rep f.p φ v x) (H : T.Sat d (opt "truth" (truthyPV x) >>= t₂) (QQ f (fun _ a b => a = b) φ α s Q) (EE f φ α s E)) {Q' : Bool->Shared->Prop}
  (h : ∀ b,T.Sat d (t₂ b) (QQ f (fun _ a b => a = b) φ α s Q) (EE f φ α s E)->Q' b s) : wpAny (model f.prog f.w) A (truthy v) Q' E s := by
 refine T.Sat.optE H fun b e H => ?_
 cases x with
 | bool c =>
  cases r.inv
  cases e
  exact wpAny_truthy_bool (h _ H)
 | _ => exact noOpt e
omit hE in
theorem cmp_truth {op : CmpOp} {va vb : Value} {a b : PV} {t₂ : Bool->T (Bool × Sto)} {Q : Bool->Shared->Prop} {E : Value->Shared->Prop} {Q' : Bool->Shared->Prop} (hA : AOk n f.fs A) (ha : Rep f.p φ va a) (hb : Rep f.p φ vb b) (I : f.I φ α d σ s.heap)
  (H : T.Sat d (cmpop op a b >>= fun c => opt "truth" (truthyPV c) >>= t₂) (QQ f (fun _ a b => a = b) φ α s Q) (EE f φ α s E))
  (h : ∀ b φ₁ s₁ d₁,Le φ φ₁->f.I φ₁ α d₁ σ s₁.heap->T.Sat d₁ (t₂ b) (QQ f (fun _ a b => a = b) φ₁ α s₁ Q) (EE f φ₁ α s₁ E)->Q' b s₁) :
  wpAny (model f.prog f.w) A (compareOp op va vb) (fun c s₁ => wpAny (model f.prog f.w) A (truthy c) Q' E s₁) E s := by
 refine cmpop_snd (φ₀ := φ) ha hb hA φ α d σ s _ E (Le.refl _) I (T.sat_bind.mpr (H.bind.mono (fun d₁ c hc v h' tk φ' ex i rr => ?_) fun _ _ _ h => h))
 exact truthy_cps (s := { s with heap := h',toks := tk }) rr (hc.mono (fun _ _ q => q.step (h := h') (tk := tk) ex) (fun _ _ _ q => q.step (h := h') (tk := tk) ex)) fun b H₂ => h b φ' { s with heap := h',toks := tk } d₁ ex.1 i H₂
omit hE in
theorem valT_step {e : Expr} (h : valT e = true) (sc : Scope) (σ : Sto) : isTStep P sc σ e = (P.ev sc σ e >>= truthT) := by
 cases e <;> first | rfl | exact noB h
omit hE in
theorem valT_true {e : Expr} (h : valT e = true) (env : Env) (whole : Sem Value) : isTrue e env whole = (do let v ← whole; standAt e.pos; holding [v] (truthy v)) := by
 cases e <;> first | rfl | exact noB h
omit hE in
theorem valT_cases {M : Expr->Prop} (u : ∀ op x p,M (.UnaryOp op x p)) (b : ∀ op es p,M (.BoolOp op es p)) (i : ∀ t b o p,M (.IfExp t b o p)) (c : ∀ l ops rs p,M (.Compare l ops rs p)) (v : ∀ e,valT e = true->M e) : ∀ e,M e
 | .UnaryOp .. => u ..
 | .BoolOp .. => b ..
 | .IfExp .. => i ..
 | .Compare .. => c ..
 | .NamedExpr .. | .BinOp .. | .Lambda .. | .Dict .. | .Set .. | .ListComp .. | .SetComp .. | .DictComp .. | .GeneratorExp .. | .Await .. | .Yield .. | .YieldFrom .. | .Call .. | .FormattedValue .. | .JoinedStr .. | .Constant .. | .Attribute .. | .Subscript .. | .Starred .. | .Name .. | .List .. | .Tuple .. | .Slice .. => v _ rfl
theorem isT_val {e : Expr} {Q : Bool->Shared->Prop} {E : Value->Shared->Prop} (I : f.I φ α d σ s.heap) (H : T.Sat d (P.ev f.env.scope σ e >>= truthT) (QQ f (fun _ a b => a = b) φ α s Q) (EE f φ α s E)) :
  wpAny (model f.prog f.w) A (eval e f.env) (fun v s₁ => wpAny (model f.prog f.w) A (truthy v) Q E s₁) E s :=
 (hE φ e).cps (Le.refl _) I H fun φ₁ v x σ₁ s₁ d₁ le₁ I₁ R H₁ => truthy_cps R H₁ fun b H₂ => QQ.here0 H₂ I₁ rfl
include hT in
theorem snd_isT (ok : EnvOk f.env) (st : Stat f.prog f.w f.K f.p C) (hA : AOk n f.fs A) {e : Expr} {whole : Sem Value} (hw : whole = eval e f.env) :
  f.S φ₀ (fun _ a b => a = b) A (isTrue e f.env whole) (fun σ => isTStep P f.env.scope σ e) := by
 subst hw
 revert e
 refine @valT_cases _ (fun op x p => ?_) (fun op es p => ?_) (fun t b o p => ?_) (fun l ops rs p => ?_) fun e h => ?_ <;> intro φ α d σ s Q E le I H
 ·cases op with
  | Not =>
   refine wpAny_isTrue_Not ((hT φ x).cps (Le.refl _) I H fun φ₁ a b σ₁ s₁ d₁ le₁ I₁ r H₁ => ?_)
   cases (show a = b from r)
   exact QQ.here0 H₁ I₁ rfl
  | _ => exact isTrue_plain (isT_val hE I H) rfl
 ·exact wpAny_isTrue_BoolOp (snd_allT hT es φ φ α d σ s Q E (Le.refl _) I H)
 ·refine isTrue_IfExp ((hT φ t).cps (Le.refl _) I H fun φ₁ a y σ₁ s₁ d₁ le₁ I₁ r H₁ => ?_)
  cases (show a = y from r)
  cases a
  ·exact hT φ₁ o φ₁ α d₁ σ₁ s₁ Q E (Le.refl _) I₁ H₁
  ·exact hT φ₁ b φ₁ α d₁ σ₁ s₁ Q E (Le.refl _) I₁ H₁
 ·cases ops with
  | nil => exact H.elim
  | cons op os => cases rs with
   | nil => exact H.elim
   | cons r rs => cases os with
    | nil => cases rs with
     | cons => exact H.elim
     | nil =>
      have H' : T.Sat d (evCmp P f.env.scope σ l op r) (QQ f (Rep f.p) φ α s fun c s₃ => wpAny (model f.prog f.w) A (truthy c) Q E s₃) (EE f φ α s E) := by
       refine H.bind.mono (fun d₁ x hx v h' tk φ' ex i rr => ?_) fun _ _ _ h => h
       exact truthy_cps (s := { s with heap := h',toks := tk }) rr (hx.mono (fun _ _ q => q.step (h := h') (tk := tk) ex) (fun _ _ _ q => q.step (h := h') (tk := tk) ex)) fun b H₂ => QQ.here0 H₂ i rfl
      obtain ⟨hm,h⟩ := snd_evCmp hE ok st hA le I H'
      exact wpAny_isTrue_Compare1 h hm
    | cons op₂ os => cases os with
     | cons => exact H.elim
     | nil =>
      refine T.Sat.oneE H fun r₂ eq1 H => ?_
      subst eq1
      refine T.Sat.chkE H fun hp H => ?_
      have hp := (Bool.and_eq_true_iff ..).mp hp
      refine isTrue_chain ((hE φ l).cps (Le.refl _) I H fun φ₁ va xa σ₁ s₁ d₁ le₁ I₁ Ra H₁ => test_link ?_) (by have := hp.2; cases r₂ <;> first | rfl | exact noB this)
      refine (hE φ₁ r).cps (Le.refl _) I₁ H₁ fun φ₂ vb xb σ₂ s₂ d₂ le₂ I₂ Rb H₂ => ?_
      refine cmp_truth hA (Ra.mono le₂) Rb I₂ H₂ fun b φ₃ s₃ d₃ le₃ I₃ H₃ => ?_
      cases b with
      | false => exact QQ.here0 H₃ I₃ rfl
      | true =>
       refine test_last ((hE φ₃ r₂).cps (Le.refl _) I₃ H₃ fun φ₄ vc xc σ₄ s₄ d₄ le₄ I₄ Rc H₄ => ?_)
       exact cmp_truth hA (Rb.mono (le₃.trans le₄)) Rc I₄ H₄ fun b φ₅ s₅ d₅ le₅ I₅ H₅ => QQ.here0 H₅ I₅ rfl
 ·have H : T.Sat d (isTStep P f.env.scope σ e) (QQ f (fun _ a b => a = b) φ α s Q) (EE f φ α s E) := H
  rw [valT_step h] at H
  exact isTrue_plain (isT_val hE I H) (valT_true h ..)
end
section
variable {f : Fm} {φ₀ φ : Ob} {A : Around} {C : Cx} {P : Lv} {n : Nat} {α : Nat->Addr} {d : Nat} {σ : Sto} {h : Heap} {s : Shared} {p : Pl}
theorem isStr_seq (s : Str) (t : Tok) (a : Str) : (Value.str s t).isStr a = seq s a := by
 show (s == a) = seq s a
 by_cases h : s = a
 ·subst h; simp [seq_self]
 ·rw [seq_ne h]; simpa using h
theorem getL_cons {k : Int} {x a : Str} {t : Tok} {v : Value} {es : List DictEntry} (h : es.any (·.refKey) = false) : W.getL a (⟨k,.str x t,v⟩ :: es) = if seq x a then some (some v) else W.getL a es := by
 unfold W.getL
 rw [List.find?_cons,List.any_cons,h]
 simp only [isStr_seq]
 cases seq x a <;> rfl
theorem Ents.getL {es : List DictEntry} {fs : List (Str × PV)} {a : Str} (h : Ents p φ es fs) : (∀ {pv},field fs a = some pv->∃ v,getL a es = some (some v) ∧ Rep p φ v pv) ∧ (field fs a = none->getL a es = some none) ∧ es.any (·.refKey) = false :=
 h.ind (M := fun es fs => (∀ {pv},field fs a = some pv->∃ v,W.getL a es = some (some v) ∧ Rep p φ v pv) ∧ (field fs a = none->W.getL a es = some none) ∧ es.any (·.refKey) = false) ⟨fun h => noOpt h,fun _ => rfl,rfl⟩ fun {x t v pv es fs} r _ ih => by
  rw [getL_cons ih.2.2]
  refine ⟨fun {u} h => ?_,fun h => ?_,by rw [List.any_cons,ih.2.2]; rfl⟩
  ·have h : (match seq x a with | true => some pv | false => field fs a) = some u := h
   cases e : seq x a with
   | true => rw [e] at h; cases h; exact ⟨v,rfl,r⟩
   | false => rw [e] at h; exact ih.1 h
  ·have h : (match seq x a with | true => some pv | false => field fs a) = none := h
   cases e : seq x a with
   | true => rw [e] at h; cases h
   | false => rw [e] at h; exact ih.2.1 h
theorem Rep.handed {v : Value} {x : PV} (r : Rep p φ v x) : handedIn v = true := by cases r <;> rfl
theorem attr_snd {x : Addr} {ox : Obj} {es : List DictEntry} {k c : Nat} {fs : List (Str × PV)} {a : Str} {pv : PV} {Q : Value->Shared->Prop} {E : Value->Shared->Prop} (I : f.I φ α d σ s.heap)
  (At : InstAt s.heap x ox (f.p.ca c) (some (dictOf es k))) (en : Ents f.p φ es fs) (st : plainGet f.K (f.p.ca c) a = true ∧ hasDictIn f.K (f.p.ca c) = true ∧ findIn f.K (.ref (f.p.ca c)) a = some none)
  (hf : field fs a = some pv) (H : QQ f (Rep f.p) φ α s Q d (pv,σ)) : wpAny (model f.prog f.w) A (getAttr (.ref x) a true) Q E s := by
 obtain ⟨v,hl,r⟩ := en.getL.1 hf
 exact get_value I.kinH At (plainGet_of st.1).1 (findObj_own st.2.1 st.2.2 rfl hl) r.handed (H.here I r)
theorem Rep.instOf {v : Value} {c : Nat} {fs : List (Str × PV)} (r : Rep f.p φ v (.inst c fs)) (I : f.I φ α d σ h) : ∃ x dx es n,v = .ref x ∧ φ x = some (instObj (f.p.ca c) dx) ∧ InstAt h x (instObj (f.p.ca c) dx) (f.p.ca c) (some (dictOf es n)) ∧ Ents f.p φ es fs :=
 let ⟨x,dx,es,n,e,h1,h2,h3⟩ := r.inv; ⟨x,dx,es,n,e,h1,⟨I.sub _ _ h1,rfl,rfl,I.sub _ _ h2⟩,h3⟩
theorem own_inst {x : Addr} {i c : Nat} {fs : List (Str × PV)} (I : f.I φ α d σ h) (hs : getS σ i = some (.oi c fs)) (hx : φ x = some (instObj (f.p.ca c) (α i))) :
  ∃ es n,InstAt h x (instObj (f.p.ca c) (α i)) (f.p.ca c) (some (dictOf es n)) ∧ Ents f.p φ es fs ∧ es.length ≤ 100 := by
 obtain ⟨⟨es,n,a,b,z⟩,_⟩ := I.own i _ hs
 exact ⟨es,n,⟨I.sub _ _ hx,rfl,rfl,a⟩,b,z⟩
variable (hE : ∀ φ₀ x,f.S φ₀ (Rep f.p) A (eval x f.env) (fun σ => P.ev f.env.scope σ x))
include hE
theorem snd_Attribute (ok : EnvOk f.env) (st : Stat f.prog f.w f.K f.p C) {o : Expr} {a : Str} {pos : Pos} : f.S φ₀ (Rep f.p) A (eval (.Attribute o a pos) f.env) (fun σ => evStep C P f.env.scope σ (.Attribute o a pos)) := by
 intro φ α d σ s Q E le I H
 have H : T.Sat d (attrE C P f.env.scope σ o a (nameOf o)) (QQ f (Rep f.p) φ α s Q) (EE f φ α s E) := H
 cases hn : nameOf o with
 | none => rw [hn] at H; exact H.elim
 | some x =>
  rw [hn] at H
  obtain ⟨np,rfl⟩ := nameOf_some hn
  refine Attribute_name ?_
  have H : T.Sat d (attrT C P f.env.scope σ (.Name x np) a (ownAt f.env.scope σ (.Name x np))) (QQ f (Rep f.p) φ α s Q) (EE f φ α s E) := H
  cases ho : ownAt f.env.scope σ (.Name x np) with
  | some sl =>
   rw [ho] at H
   obtain ⟨i,sl⟩ := sl
   refine ownAt_someE ho fun _ _ e hk eq1 hs _ => ?_
   subst eq1
   cases e
   refine T.Sat.oiVE H fun c fs eq1 H => ?_
   subst eq1
   refine T.Sat.chkE H fun hc H => ?_
   refine T.Sat.optE H fun pv hf H => ?_
   refine name_local ok I hk hs fun v hv => ?_
   obtain ⟨y,rfl,hy⟩ := hv
   obtain ⟨es,k,At,en,_⟩ := own_inst I hs hy
   exact attr_snd I At en (st.attrs c a hc) hf H
  | none =>
   rw [ho] at H
   refine (hE φ _).cps (Le.refl _) I H fun φ₁ v xv σ₁ s₁ d₁ le₁ I₁ R H₁ => ?_
   refine T.Sat.instVE H₁ fun c fs eq1 H₁ => ?_
   subst eq1
   refine T.Sat.chkE H₁ fun hc H₁ => ?_
   refine T.Sat.optE H₁ fun pv hf H₁ => ?_
   obtain ⟨y,dx,es,k,rfl,_,At,en⟩ := R.instOf I₁
   exact attr_snd I₁ At en (st.attrs c a hc) hf H₁
end
noncomputable def Noted (φ : Ob) (e : Heap) (fs : List Addr) (h h' : Heap) : Prop :=
 ∃ D : Addr->Prop,(∀ b,D b->φ b = none ∧ e.get? b = none ∧ ∃ o vs,h.get? b = some o ∧ o.data = .fields vs) ∧
  (∀ b o,h.get? b = some o->b ∉ fs->¬ D b->h'.get? b = some o) ∧ (∀ b ∈ fs,∀ o,h.get? b = some o->∃ sl,h'.get? b = some { o with slots := sl }) ∧ ∀ b,h'.get? b = none->h.get? b = none
section
variable {K : Frag} {p : Pl} {e g : Heap} {fs : List Addr} {env : Env} {φ : Ob} {α : Nat->Addr} {d : Nat} {σ : Sto} {h h' : Heap}
theorem FI.noted (I : FI K p e g fs env φ α d σ h) (N : Noted φ e fs h h') : FI K p e g fs env φ α d σ h' := by
 obtain ⟨D,hD,hk,hu,hlv⟩ := N
 have kp : ∀ b o,b ∉ fs->(∀ vs,o.data ≠ .fields vs)->h.get? b = some o->h'.get? b = some o := fun b o q3 q2 q1 => hk b o q1 q3 fun z => by
  obtain ⟨_,_,o',vs,q4,q5⟩ := hD b z
  rw [q1] at q4; cases q4; exact q2 vs q5
 refine I.re (Le.refl _) (fun m x => ?_) (fun b o q => ?_) (fun i s hs => (I.own i s hs).at fun so o nd q => kp _ o ((I.own i s hs).free so).fs nd q) (fun a o q => hk a o (I.sub a o q) (fun z => nn q (I.ffs a z).1) fun z => nn q (hD a z).1) I.nL I.ndk I.ndc ?_ (fun a q => I.live a (hlv a q)) (fun b hb => ⟨(I.ffs b hb).1,?_⟩) hu
 ·by_cases z : env.locals ∈ fs
  ·exact ns_ups x (hu _ z)
  ·obtain ⟨o,es,ep,ho,hd,r⟩ := x
   exact ⟨o,es,ep,kp _ _ z (fun vs q => by rw [hd] at q; cases q) ho,hd,r⟩
 ·obtain ⟨m,F,_⟩ := I.loc
  exact hk b o (F.keep b o q) (fun z => nn q (I.ffs b z).2.1) fun z => nn q (I.old b (hD b z).2.1)
 ·obtain ⟨o,q,r⟩ := I.deck.dkT
  obtain ⟨o',q',r'⟩ := I.deck.dcT
  exact I.deck.at2 (fun o₁ z => kp _ o₁ (fun z => (I.ffs _ z).2.2.1 rfl) (by rw [q] at z; cases z; exact r) z) fun o₁ z => kp _ o₁ (fun z => (I.ffs _ z).2.2.2.1 rfl) (by rw [q'] at z; cases z; exact r') z
 ·obtain ⟨o,q,r⟩ := I.ffT hb
  obtain ⟨sl,q'⟩ := hu b hb o q
  exact ⟨_,q',r⟩
end
section
variable {f : Fm} {φ₀ φ : Ob} {A : Around} {C : Cx} {P : Lv} {n : Nat} {α : Nat->Addr} {d : Nat} {σ : Sto} {h : Heap} {s : Shared} {x : Addr} {told : PV}
noncomputable def Traced (x : Addr) (h : Heap) : Prop := ∃ oe vs T,h.get? x = some oe ∧ oe.data = .fields vs ∧ vs[1]? = some (.ref T)
structure Top (f : Fm) (A : Around) : Prop where
 frames : ∃ outer,A.frames = some (f.env :: outer)
 frame : f.env.frame = some f.env.locals
theorem funFrames_of (I : f.I φ α d σ h) {l : List Env} : ∀ {fs : List Addr},l.map (·.frame) = fs.map some->(∀ env ∈ l,env.scope.kind ≠ .module)->(∀ b ∈ fs,b ∈ f.fs)->h.FunFrames f.g l := by
 induction l with
 | nil => exact fun _ _ _ => trivial
 | cons env r ih =>
  intro fs h2 h3 h4
  cases fs with
  | nil => cases h2
  | cons b fs =>
   obtain ⟨h5,h6⟩ := List.cons.inj h2
   have hb := h4 b (List.mem_cons_self ..)
   obtain ⟨o,a5,a6⟩ := I.ffT hb
   exact ⟨h3 env (List.mem_cons_self ..),⟨b,o,h5,(I.ffs b hb).2.1,a5,a6⟩,ih h6 (fun e he => h3 e (List.mem_cons_of_mem _ he)) fun b hb => h4 b (List.mem_cons_of_mem _ hb)⟩
theorem AOk.funFrames {l : List Env} (hA : AOk n f.fs A) (hl : A.frames = some l) (I : f.I φ α d σ h) : h.FunFrames f.g l := by
 obtain ⟨l',h1,h2,h3⟩ := hA.frames
 rw [hl] at h1; cases h1
 exact funFrames_of I h2 h3 fun _ h => h
theorem frames_fs {l : List Env} : ∀ {fs : List Addr},l.map (·.frame) = fs.map some->l.filterMap (·.frame) = fs := by
 induction l with
 | nil =>
  intro fs h
  cases fs with
  | nil => rfl
  | cons => cases h
 | cons env r ih =>
  exact fun {fs} h => by
   cases fs with
   | nil => cases h
   | cons b fs =>
    obtain ⟨h5,h6⟩ := List.cons.inj h
    rw [List.filterMap_cons,show env.frame = some b from h5,ih h6]
theorem FI.rec1 {T : Addr} {oT : Obj} {ts : Array Value} {g : Array Value->Array Value} (I : f.I φ α d σ h) (hT : h.get? T = some oT) (hd : oT.data = .fields ts) (φT : φ T = none) (eT : f.e.get? T = none) : f.I φ α d σ (h.update T (Obj.mapFields g)) := by
 have other : ∀ b,b ≠ T->(h.update T (Obj.mapFields g)).get? b = h.get? b := fun b hb => Heap.get?_update_other _ _ (Ne.symm hb)
 have nT : T ∉ f.fs := fun z => by obtain ⟨o,q,r⟩ := I.ffT z; rw [hT] at q; cases q; exact r ts hd
 refine FI.noted I ⟨fun b => b = T,fun b z => by subst z; exact ⟨φT,eT,oT,ts,hT,hd⟩,fun b o q1 _ q3 => (other b q3).trans q1,fun b hb o q1 => ⟨o.slots,(other b fun z => nT (z ▸ hb)).trans q1⟩,fun b q1 => ?_⟩
 by_cases z : b = T
 ·rw [z,Heap.get?_update_self _ hT (Obj.isFreed_of_fields (Obj.data_mapFields hd g))] at q1; cases q1
 ·rw [← other b z]; exact q1
theorem get_size (h : Heap) : h.get? h.objs.size = none := by
 cases q : h.get? h.objs.size with
 | none => rfl
 | some o => exact absurd (Heap.lt_size q) (Nat.lt_irrefl _)
theorem get_ge {h : Heap} {a : Addr} (ha : h.objs.size ≤ a) : h.get? a = none := by
 cases q : h.get? a with
 | none => rfl
 | some o => exact absurd (Heap.lt_size q) (Nat.not_lt.mpr ha)
theorem traced_of {h' : Heap} {oe : Obj} {vs : Array Value} {dx T : Addr} (X : ExcAt f.p f.e φ x told h oe vs dx) (hx : h'.get? x = some (Obj.mapFields (·.setIfInBounds 1 (Value.ref T)) oe)) (hs : 1 < vs.size) (t : TrAt f.e φ x h' T) : ExcIn f.p f.e φ x told h' ∧ Traced x h' := by
 have hd := Obj.data_mapFields X.hd (·.setIfInBounds 1 (Value.ref T))
 have h1 : (vs.setIfInBounds 1 (Value.ref T))[1]? = some (.ref T) := by simp [hs]
 refine ⟨⟨_,_,dx,hx,by rw [Obj.cls_mapFields]; exact X.hc,hd,?_,X.en,X.nφ,X.ne,.inr ⟨T,h1,t⟩⟩,_,_,T,hx,hd,h1⟩
 rw [← X.hdx]; cases oe with | mk c dd da sl => cases da <;> rfl
theorem ExcAt.size {oe : Obj} {vs : Array Value} {dx : Addr} (X : ExcAt f.p f.e φ x told h oe vs dx) : 1 < vs.size := X.tr.elim (fun q => (Array.getElem?_eq_some_iff.mp q).1) fun ⟨_,q,_⟩ => (Array.getElem?_eq_some_iff.mp q).1
theorem ExcAt.at {h' : Heap} {oe : Obj} {vs : Array Value} {dx : Addr} (X : ExcAt f.p f.e φ x told h oe vs dx) (hx : h'.get? x = some oe) (t : ∀ T,TrAt f.e φ x h T->TrAt f.e φ x h' T) : ExcAt f.p f.e φ x told h' oe vs dx :=
 ⟨hx,X.hc,X.hd,X.hdx,X.en,X.nφ,X.ne,X.tr.imp id fun ⟨T,a,b⟩ => ⟨T,a,t T b⟩⟩
theorem ExcAt.setT {oe : Obj} {vs : Array Value} {dx T : Addr} {oT : Obj} {ts : Array Value} {nv : Value} (X : ExcAt f.p f.e φ x told h oe vs dx) (t : TrAt f.e φ x h T) (hT : h.get? T = some oT) (hdT : oT.data = .fields ts) (h3 : 3 < ts.size) : ExcAt f.p f.e φ x told (h.update T (Obj.mapFields (·.setIfInBounds 3 nv))) oe vs dx := by
 have hd₃ := Obj.data_mapFields hdT (·.setIfInBounds 3 nv)
 have hT₃ := Heap.get?_update_self (Obj.mapFields (·.setIfInBounds 3 nv)) hT (Obj.isFreed_of_fields hd₃)
 refine X.at ((Heap.get?_update_other _ _ t.ne).trans X.hx) fun T' t' => ⟨t'.ne,?_,t'.φ,t'.e⟩
 by_cases z : T' = T
 ·rw [z]; exact ⟨_,_,hT₃,hd₃,by rw [Array.size_setIfInBounds]; exact h3⟩
 ·obtain ⟨o,ts',a,b⟩ := t'.rc; exact ⟨o,ts',(Heap.get?_update_other _ _ (Ne.symm z)).trans a,b⟩
theorem newEntry_snd {M : Model} {head : Value} {hn : Bool} {Q : Unit->Shared->Prop} {E : Value->Shared->Prop} (hA : AOk n f.fs A) (ht : Top f A) (I : f.I φ α d σ s.heap) (X : ExcIn f.p f.e φ x told s.heap)
  (h : ∀ h',f.I φ α d σ h'->ExcIn f.p f.e φ x told h'->Traced x h'->Q () { s with heap := h' }) :
  wpAny M A (do let a ← frameOf f.env; let pl ← entryPlaceOf f.env.locals hn; let b ← EntryCells.newEntry head a .none (rawInt f.env.locals) .none pl; PySem.setField (.ref x) 1 b) Q E s := by
 obtain ⟨outer,hfr⟩ := ht.frames
 refine wpAny_bind (wpAny_frameOf_fun hfr (hA.funFrames hfr I) ht.frame fun h₁ hs₁ => wpAny_bind (wpAny_entryPlaceOf fun pl hpl => ?_))
 unfold EntryCells.newEntry newFields
 refine wpAny_bind (wpAny_newObj_type ?_ (hpl.sizeOk5 _ _ _ _ _))
 have hfs : (f.env :: outer).filterMap (·.frame) = f.fs := by
  obtain ⟨l',h1,h2,_⟩ := hA.frames
  rw [hfr] at h1; cases h1; exact frames_fs h2
 rw [hfs] at hs₁
 obtain ⟨oe,vs,dx,X⟩ := X
 have xfs : x ∉ f.fs := fun z => by obtain ⟨o,q,r⟩ := I.ffT z; rw [X.hx] at q; cases q; exact r vs X.hd
 have hx₁ : h₁.get? x = some oe := (hs₁.2.1 x xfs).trans X.hx
 generalize hnew : ({ cls := .type "traceback",dict := none,data := .fields ([head,.ref f.env.locals,.none,rawInt f.env.locals,.none] ++ (if pl.isEmpty then List.replicate 6 Value.none else pl)).toArray } : Obj) = oT
 have oTd : oT.data = .fields ([head,.ref f.env.locals,.none,rawInt f.env.locals,.none] ++ (if pl.isEmpty then List.replicate 6 Value.none else pl)).toArray := by rw [← hnew]
 have hT₃ := Heap.get?_push_size h₁ (Obj.isFreed_of_fields oTd)
 have hTx : h₁.objs.size ≠ x := Nat.ne_of_gt (Heap.lt_size hx₁)
 have back : ∀ b,h₁.get? b = none->s.heap.get? b = none := fun b hb => Ob.keepNone (b := h₁) (fun o q => by
  obtain ⟨sl,r⟩ := hs₁.2.2 b o q; exact absurd hb (nn r)) hb
 have sT := back _ (get_size h₁)
 have hx₂ := Heap.get?_push_of_some (h := h₁) oT hx₁
 refine wpAny_setField hx₂ X.hd X.size ?_
 have hx₃ := Heap.get?_update_self (Obj.mapFields (·.setIfInBounds 1 (Value.ref h₁.objs.size))) hx₂ (Obj.isFreed_of_fields (Obj.data_mapFields X.hd (·.setIfInBounds 1 (Value.ref h₁.objs.size))))
 have keep : ∀ b o,b ≠ x->h₁.get? b = some o->((h₁.push oT).update x (Obj.mapFields (·.setIfInBounds 1 (Value.ref h₁.objs.size)))).get? b = some o := fun b o hb q => (Heap.get?_update_other _ _ (Ne.symm hb)).trans (Heap.get?_push_of_some _ q)
 have N : Noted φ f.e f.fs s.heap ((h₁.push oT).update x (Obj.mapFields (·.setIfInBounds 1 (Value.ref h₁.objs.size)))) := by
  refine ⟨fun b => b = x,fun b q => by subst q; exact ⟨X.nφ,X.ne,oe,vs,X.hx,X.hd⟩,fun b o q1 q2 q3 => keep b o q3 ((hs₁.2.1 b q2).trans q1),fun b hb o q => ?_,fun b q => back b (Ob.keepNone (fun o r => keep b o (fun z => by rw [z,hx₃] at q; cases q) r) q)⟩
  obtain ⟨sl,r⟩ := hs₁.2.2 b o q
  exact ⟨sl,keep b _ (fun z => xfs (z ▸ hb)) r⟩
 obtain ⟨Y,Z⟩ := traced_of X hx₃ X.size ⟨hTx,⟨oT,_,(Heap.get?_update_other _ _ (Ne.symm hTx)).trans hT₃,oTd,by rw [List.size_toArray,List.length_append]; exact Nat.lt_of_lt_of_le (show 3 < 5 by decide) (Nat.le_add_right ..)⟩,Ob.keepNone (fun o q => I.sub _ o q) sT,I.live _ sT⟩
 exact h _ (I.noted N) Y Z
theorem note_snd {M : Model} {Q : Unit->Shared->Prop} {E : Value->Shared->Prop} (hA : AOk n f.fs A) (ht : Top f A) (I : f.I φ α d σ s.heap) (X : ExcIn f.p f.e φ x told s.heap)
  (h : ∀ h',f.I φ α d σ h'->ExcIn f.p f.e φ x told h'->Traced x h'->Q () { s with heap := h' }) : wpAny M A (noteFrame (.ref x) f.env) Q E s := by
 have X' := X
 obtain ⟨oe,vs,dx,X⟩ := X
 unfold noteFrame
 simp only [ht.frame]
 rcases X.tr with q | ⟨T,q,t⟩
 ·refine wpAny_bind (wpAny_field X.hx X.hd q ?_)
  rw [if_neg (by decide)]
  exact newEntry_snd hA ht I X' h
 ·refine wpAny_bind (wpAny_field X.hx X.hd q ?_)
  rw [if_pos (show (Value.ref T != Value.none) = true from rfl)]
  obtain ⟨oT,ts,hT,hdT,h3⟩ := t.rc
  refine wpAny_bind (wpAny_field hT hdT (Array.getElem?_eq_getElem h3) ?_)
  split
  ·exact wpAny_pure (h s.heap I X' ⟨_,_,_,X.hx,X.hd,q⟩)
  ·refine wpAny_bind (wpAny_setField hT hdT h3 (newEntry_snd (s := { s with heap := s.heap.update T (Obj.mapFields (·.setIfInBounds 3 Value.none)) }) hA ht (FI.rec1 I hT hdT t.φ t.e) ⟨_,_,_,X.setT t hT hdT h3⟩ h))
theorem setFlight_snd {M : Model} {fl : Option Addr} {Q : Unit->Shared->Prop} {E : Value->Shared->Prop} (I : f.I φ α d σ s.heap) (X : ExcIn f.p f.e φ x told s.heap)
  (h : ∀ h',f.I φ α d σ h'->ExcIn f.p f.e φ x told h'->(Traced x s.heap->Traced x h')->Q () { s with heap := h' }) : wpAny M A (setFlight (.ref x) fl) Q E s := by
 have X' := X
 obtain ⟨oe,vs,dx,X⟩ := X
 unfold setFlight
 rcases X.tr with q | ⟨T,q,t⟩
 ·refine wpAny_bind (wpAny_field X.hx X.hd q ?_)
  rw [if_neg (by decide)]
  exact wpAny_pure (h s.heap I X' fun z => z)
 ·refine wpAny_bind (wpAny_field X.hx X.hd q ?_)
  rw [if_pos (show (Value.ref T != Value.none) = true from rfl)]
  obtain ⟨oT,ts,hT,hdT,h3⟩ := t.rc
  have Y := X.setT (nv := fl.elim Value.none fun f => rawInt f) t hT hdT h3
  exact wpAny_setField hT hdT h3 (h _ (FI.rec1 I hT hdT t.φ t.e) ⟨_,_,_,Y⟩ fun _ => ⟨oe,vs,T,Y.hx,X.hd,q⟩)
theorem leaving_snd {M : Model} {Q : Unit->Shared->Prop} {E : Value->Shared->Prop} (hA : AOk n f.fs A) (ht : Top f A) (I : f.I φ α d σ s.heap) (X : ExcIn f.p f.e φ x told s.heap)
  (h : ∀ h',f.I φ α d σ h'->ExcIn f.p f.e φ x told h'->Q () { s with heap := h' }) : wpAny M A (leaving f.env (.ref x)) Q E s := by
 unfold leaving
 exact wpAny_bind (note_snd hA ht I X fun h₁ I₁ X₁ _ => setFlight_snd I₁ X₁ fun h₂ I₂ X₂ _ => h h₂ I₂ X₂)
theorem cameBack_snd {M : Model} {E : Value->Shared->Prop} (I : f.I φ α d σ s.heap) (X : ExcIn f.p f.e φ x told s.heap) (tr : Traced x s.heap)
  (h : ∀ h',f.I φ α d σ h'->ExcIn f.p f.e φ x told h'->E (.ref x) { s with heap := h' }) : cameBackBy M A f.env E (.ref x) s := by
 obtain ⟨oe,vs,T,hx,hd,q⟩ := tr
 unfold cameBackBy
 refine wpAny_bind (wpAny_field hx hd q ?_)
 rw [if_neg (by simp)]
 exact setFlight_snd I X fun h' I' X' _ => h h' I' X'
end
structure WI (K : Frag) (p : Pl) (fs : List Addr) (φ : Ob) (d : Nat) (h : Heap) : Prop where
 sub : ∀ a o,φ a = some o->h.get? a = some o
 stat : ∀ a o,K.lookup a = some o->φ a = some o
 ndk : φ p.dk = none
 ndc : φ p.dc = none
 deck : DeckOk p d h
 ffs : ∀ b ∈ fs,φ b = none ∧ b ≠ p.dk ∧ b ≠ p.dc ∧ ∃ o,h.get? b = some o ∧ ∀ vs,o.data ≠ .fields vs
structure Went (p : Pl) (fs H : List Addr) (φ φ' : Ob) (d' : Nat) (h h' : Heap) : Prop where
 k : ∀ b o,h.get? b = some o->b ∉ fs->b ≠ p.dk->b ≠ p.dc->b ∉ H->h'.get? b = some o
 u : ∀ b ∈ fs,∀ o,h.get? b = some o->∃ sl,h'.get? b = some { o with slots := sl }
 dk : DeckOk p d' h'
 le : Le φ φ'
 sub : ∀ a o,φ' a = some o->h'.get? a = some o
 new : ∀ a,φ a = none->φ' a ≠ none->h.get? a = none
inductive ArgsOk (p : Pl) (fs : List Addr) (φ : Ob) (h : Heap) : List Addr->List Value->List Slot->Prop
 | plain {vs : List Value} {xs : List PV} : Reps p φ vs xs->ArgsOk p fs φ h [] vs (xs.map .fz)
 | self {x a : Addr} {c n : Nat} {es : List DictEntry} {q : List (Str × PV)} {vs : List Value} {xs : List PV} : φ x = some (instObj (p.ca c) a)->h.get? a = some (dictOf es n)->Ents p φ es q->es.length ≤ 100->φ a = none->a ∉ fs->a ≠ p.dk->a ≠ p.dc ->
   Reps p φ vs xs->ArgsOk p fs φ h [a] (.ref x :: vs) (.oi c q :: xs.map .fz)
noncomputable def SelfBack (p : Pl) (φ' : Ob) (h' : Heap) (H : List Addr) (r : Option Slot) : Prop :=
 ∀ a,H = [a]->∀ c q,r = some (.oi c q)->∃ es n,h'.get? a = some (dictOf es n) ∧ Ents p φ' es q ∧ es.length ≤ 100 ∧ φ' a = none
noncomputable def CallQ (p : Pl) (fs H : List Addr) (φ : Ob) (s : Shared) (Q : Value->Shared->Prop) (d : Nat) (r : PV × Option Slot) : Prop :=
 ∀ v h' tk φ',Went p fs H φ φ' d s.heap h'->Rep p φ' v r.1->SelfBack p φ' h' H r.2->Q v { s with heap := h',toks := tk }
noncomputable def CallE (p : Pl) (fs H : List Addr) (φ : Ob) (s : Shared) (E : Value->Shared->Prop) (d : Nat) (told : PV) (_ : Sto) : Prop :=
 ∀ x h' tk φ',Went p fs H φ φ' d s.heap h'->ExcIn p s.heap φ' x told h'->E (.ref x) { s with heap := h',toks := tk }
noncomputable def CallOk (prog : Program) (w : World) (K : Frag) (p : Pl) (fs : List Addr) (A : Around) (fa : Addr) (t : List Slot->T (PV × Option Slot)) : Prop :=
 ∀ φ d s H vs xs Q E,WI K p fs φ d s.heap->ArgsOk p fs φ s.heap H vs xs->T.Sat d (t xs) (CallQ p fs H φ s Q) (CallE p fs H φ s E)->codeAny (model prog w) A (.call (.ref fa) ⟨vs,[]⟩) (fun r s' => match r with | .ok (.ret v) => Q v s' | .ok _ => False | .error e => E e s') s
noncomputable def QX (f : Fm) {β γ : Type} (R : Ob->β->γ->Prop) (φ : Ob) (α : Nat->Addr) (s : Shared) (Q : β->Shared->Prop) (d : Nat) (r : γ × Sto) : Prop :=
 ∀ v h' tk φ' α',α' 0 = α 0->Ext f.e φ φ'->f.I φ' α' d r.2 h'->R φ' v r.1->Q v { s with heap := h',toks := tk }
noncomputable def EX (f : Fm) (φ : Ob) (α : Nat->Addr) (s : Shared) (E : Value->Shared->Prop) (d : Nat) (told : PV) (σ : Sto) : Prop :=
 ∀ x h' tk φ' α',α' 0 = α 0->Ext f.e φ φ'->f.I φ' α' d σ h'->ExcIn f.p f.e φ' x told h'->E (.ref x) { s with heap := h',toks := tk }
noncomputable def Fm.X (f : Fm) {β γ : Type} (φ₀ : Ob) (R : Ob->β->γ->Prop) (A : Around) (m : Sem β) (t : Sto->T (γ × Sto)) : Prop :=
 ∀ (φ : Ob) (α : Nat->Addr) (d : Nat) (σ : Sto) (s : Shared) (Q : β->Shared->Prop) (E : Value->Shared->Prop),Le φ₀ φ->f.I φ α d σ s.heap ->
  T.Sat d (t σ) (QX f R φ α s Q) (EX f φ α s E)->wpAny (model f.prog f.w) A m Q E s
inductive FlowR (p : Pl) (φ : Ob) : Flow->Fl->Prop
 | next : FlowR p φ .next .next
 | ret {v : Value} {x : PV} : Rep p φ v x->FlowR p φ (.ret v) (.ret x)
structure FdAt (K : Frag) (fa : Addr) (fn : Fn) (o : Obj) (fd : FuncData) : Prop where
 ob : K.lookup fa = some o
 dt : o.data = .func fd
 body : fd.body = .stmts fn.body
 sc : fd.scope = fn.scope
 gl : fd.globals = mainGlobals
 bu : fd.builtins = builtinsNs
 code : ∀ h : Heap,K.In h->h.CodeRec fd.code fd.qualname
structure FnAt (K : Frag) (fa : Addr) (fn : Fn) : Prop where
 at_ : ∃ o fd,FdAt K fa fn o fd ∧ ∀ s : Shared,K.In s.heap->∀ vals : List Value,vals.length = fn.params.length->BindsTo s fd ⟨vals,[]⟩ (fn.params.zip vals)
 co : fn.scope.isCoroutine = false
 gen : fn.scope.isGenerator = false
 kind : fn.scope.kind = .function
 cell : ∀ x ∈ fn.scope.names,x.2 ≠ .cell
 loc : ∀ x ∈ fn.params,fn.scope.names.lookup x = some .local
 nd : fn.params.Nodup
 dbg : kindOf fn.scope.names "__debug__" = none
section
variable {K : Frag} {p : Pl} {fs H : List Addr} {φ φ' : Ob} {d d' : Nat} {h h' : Heap} {α : Nat->Addr} {σ : Sto}
theorem FI.wi {e g : Heap} {env : Env} (I : FI K p e g fs env φ α d σ h) : WI K p fs φ d h :=
 ⟨I.sub,I.stat,I.ndk,I.ndc,I.deck,fun b hb => let ⟨a1,_,a3,a4,a5⟩ := I.ffs b hb; ⟨a1,a3,a4,a5⟩⟩
theorem ExcIn.older {e₀ e₁ : Heap} {x : Addr} {told : PV} (X : ExcIn p e₀ φ x told h) (l : ∀ a,e₀.get? a = none->e₁.get? a = none) : ExcIn p e₁ φ x told h := by
 obtain ⟨oe,vs,dx,X⟩ := X
 exact ⟨oe,vs,dx,X.hx,X.hc,X.hd,X.hdx,X.en,X.nφ,l _ X.ne,X.tr.imp id fun ⟨T,a,t⟩ => ⟨T,a,t.ne,t.rc,t.φ,l _ t.e⟩⟩
theorem rev_none {x : Str} : ∀ {ps : List Str} {vs : List Value},x ∉ ps->(ps.zip vs).reverse.lookup x = none
 | [],_,_ => rfl
 | _ :: _,[],_ => rfl
 | p :: ps,v :: vs,h => by
  rw [List.zip_cons_cons,List.reverse_cons,List.lookup_append,rev_none (fun q => h (.tail _ q)),List.lookup_cons,beq_false_of_ne fun e : x = p => h (e ▸ .head _)]; rfl
theorem rev_lookup {x : Str} {v : Value} : ∀ {ps : List Str} {vs : List Value} {i : Nat},ps.Nodup->ps[i]? = some x->vs[i]? = some v->(ps.zip vs).reverse.lookup x = some v
 | p :: ps,u :: vs,0,hn,hx,hv => by
  cases hx; cases hv
  rw [List.zip_cons_cons,List.reverse_cons,List.lookup_append,rev_none (List.nodup_cons.mp hn).1]
  exact List.lookup_cons_self
 | p :: ps,u :: vs,i + 1,hn,hx,hv => by
  rw [List.zip_cons_cons,List.reverse_cons,List.lookup_append,rev_lookup (i := i) (List.nodup_cons.mp hn).2 hx hv]
  rfl
theorem idx_get {l : List (Str × NameKind)} {x : Str} {k : NameKind} : kindOf l x = some k->∃ q,l[idx l x]? = some q ∧ q.1 = x := by
 induction l with
 | nil => exact fun h => noOpt h
 | cons p r ih =>
  intro h
  unfold kindOf at h
  unfold idx
  cases e : seq p.1 x with
  | true => exact ⟨p,rfl,seq_iff.mp e⟩
  | false => rw [e] at h; exact ih h
theorem getS_some {σ : Sto} {i : Nat} {s : Slot} (h : getS σ i = some s) : σ[i]? = some (some s) := by
 have h : (match σ[i]? with | some (some s) => some s | _ => none) = some s := h
 cases e : σ[i]? with
 | none => rw [e] at h; exact noOpt h
 | some o =>
  rw [e] at h
  cases o with
  | none => exact noOpt h
  | some s' => cases h; rfl
theorem getS_args {args : List Slot} {m i : Nat} {s : Slot} (h : getS (args.map some ++ List.replicate m none) i = some s) : args[i]? = some s := by
 have q := getS_some h
 rw [List.getElem?_append] at q
 split at q
 ·rw [List.getElem?_map] at q
  obtain ⟨z,r,e⟩ := Option.map_eq_some_iff.mp q
  cases e; exact r
 ·cases (List.eq_of_mem_replicate (List.mem_of_getElem? q))
theorem Reps.slot {vs : List Value} {xs : List PV} {i : Nat} {s : Slot} (r : Reps p φ vs xs) (h : (xs.map Slot.fz)[i]? = some s) : ∃ v x,vs[i]? = some v ∧ s = .fz x ∧ Rep p φ v x := by
 rw [List.getElem?_map] at h
 obtain ⟨x,e,rfl⟩ := Option.map_eq_some_iff.mp h
 obtain ⟨u,a,b⟩ := r.get e
 exact ⟨u,x,a,rfl,b⟩
structure SelfAt (p : Pl) (fs : List Addr) (φ : Ob) (h : Heap) (a : Addr) (es : List DictEntry) (n : Nat) (q : List (Str × PV)) : Prop where
 hd : h.get? a = some (dictOf es n)
 en : Ents p φ es q
 len : es.length ≤ 100
 φ : φ a = none
 fs : a ∉ fs
 dk : a ≠ p.dk
 dc : a ≠ p.dc
theorem ArgsOk.slot {vs : List Value} {xs : List Slot} (x : ArgsOk p fs φ h H vs xs) : vs.length = xs.length ∧
  ∃ a,(∀ b ∈ H,b = a ∧ ∃ es n q,SelfAt p fs φ h b es n q) ∧ ∀ (i : Nat) (s : Slot),xs[i]? = some s->∃ v,vs[i]? = some v ∧ SlotV p φ a v s ∧ (s.isOwn = true->i = 0 ∧ ∃ c q es n,s = .oi c q ∧ H = [a] ∧ SelfAt p fs φ h a es n q) := by
 cases x with
 | plain r => exact ⟨r.length.trans (List.length_map ..).symm,0,fun b hb => (by cases hb),fun i s hs => let ⟨v,x,a,e,b⟩ := r.slot hs; ⟨v,a,by rw [e]; exact b,fun q => by rw [e] at q; cases q⟩⟩
 | @self x a c n es q vs xs h1 h2 h3 h4 h5 h6 h7 h8 r =>
  have S : SelfAt p fs φ h a es n q := ⟨h2,h3,h4,h5,h6,h7,h8⟩
  refine ⟨congrArg (· + 1) (r.length.trans (List.length_map ..).symm),a,fun b hb => by rw [List.mem_singleton.mp hb]; exact ⟨rfl,es,n,q,S⟩,fun i s hs => ?_⟩
  cases i with
  | zero => cases hs; exact ⟨_,rfl,⟨x,rfl,h1⟩,fun _ => ⟨rfl,c,q,es,n,rfl,rfl,S⟩⟩
  | succ i =>
   obtain ⟨v,y,a,rfl,b⟩ := r.slot hs
   exact ⟨v,a,b,fun q => by cases q⟩
theorem hide_none {D : List Addr} {a : Addr} (q : h.get? a = none) : (hideAll h D).get? a = none := Ob.keepNone (b := h) (fun _ r => of_hideAll _ r) q
theorem mem_hid {b : Addr} : b ∈ p.dk :: p.dc :: H ++ fs ↔ b = p.dk ∨ b = p.dc ∨ b ∈ H ∨ b ∈ fs := by simp
theorem WI.kin (W : WI K p fs φ d h) : K.In h := fun a o q => W.sub a o (W.stat a o q)
theorem Ext.old {e : Heap} (ex : Ext e φ φ') {b : Addr} (h : e.get? b ≠ none) (q : φ b = none) : φ' b = none := Classical.byContradiction fun z => h (ex.2 b q z)
theorem FI.enter {fs' wr : List Addr} {env : Env} {m : Str->Option Value} (W : WI K p fs φ d h) (hfs : ∀ b ∈ fs',b = env.locals ∨ b ∈ fs) (hwr : ∀ b ∈ wr,b ∈ H) (fL : h.get? env.locals = none) (keep : ∀ b o,h.get? b = some o->h'.get? b = some o) (hns : h'.Ns env.locals m) (hH : ∀ b ∈ H,φ b = none) (ex : Ext h φ φ') (nL : φ' env.locals = none)
  (sub : ∀ a o,φ' a = some o->h'.get? a = some o)
  (loc : ∀ x s,kindOf env.scope.names x = some .local->getS σ (idx env.scope.names x) = some s->∃ v,m x = some v ∧ SlotV p φ' (α (idx env.scope.names x)) v s)
  (cel : ∀ x s,kindOf env.scope.names x = some .cell->getS σ (idx env.scope.names x) = some s->∃ c o v pv,env.cells.lookup x = some c ∧ φ' c = some o ∧ o.data = .cell (some v) ∧ s = .fz pv ∧ Rep p φ' v pv)
  (own : ∀ i s,getS σ i = some s->OwnAt p (hideAll h wr) (hideAll h (p.dk :: p.dc :: H ++ fs)) fs' env.locals φ' h' (α i) s)
  (inj : ∀ i j s s',getS σ i = some s->getS σ j = some s'->s.isOwn = true->s'.isOwn = true->α i = α j->i = j) :
  FI K p (hideAll h wr) (hideAll h (p.dk :: p.dc :: H ++ fs)) fs' env φ' α d σ h' where
 loc := ⟨m,⟨hns,fun b o q => keep b o (of_hideAll _ q),hide_none fL⟩,loc⟩
 cel := cel
 own := own
 inj := inj
 sub := sub
 stat a o q := ex.1 _ _ (W.stat a o q)
 kin a o q := hideAll_get _ (W.kin a o q) fun z => nn (W.stat a o q) (by
  rcases mem_hid.mp z with z | z | z | z
  ·rw [z]; exact W.ndk
  ·rw [z]; exact W.ndc
  ·exact hH a z
  ·exact (W.ffs a z).1)
 nL := nL
 ndk := ex.old W.deck.dkT.nn W.ndk
 ndc := ex.old W.deck.dcT.nn W.ndc
 dkL := W.deck.dkT.ne fL |>.symm
 dcL := W.deck.dcT.ne fL |>.symm
 deck := W.deck.keeps keep
 old _ q := Ob.keepNone (b := hideAll h wr) (fun o r => hideAll_get _ (of_hideAll _ r) fun z => nn r (hideAll_none _ (mem_hid.mpr (.inr (.inr (.inl (hwr _ z))))))) q
 live _ q := hide_none (none_of_keeps keep q)
 eL := hide_none fL
 gdk := hideAll_none _ (mem_hid.mpr (.inl rfl))
 gdc := hideAll_none _ (mem_hid.mpr (.inr (.inl rfl)))
 ffs b hb := by
  rcases hfs b hb with rfl | hb
  ·obtain ⟨o,_,_,a,c,_⟩ := hns
   exact ⟨nL,hide_none fL,W.deck.dkT.ne fL,W.deck.dcT.ne fL,o,a,fun _ q => by rw [c] at q; cases q⟩
  ·obtain ⟨a1,a2,a3,o,a4,a5⟩ := W.ffs b hb
   exact ⟨ex.old (nn a4) a1,hideAll_none _ (mem_hid.mpr (.inr (.inr (.inr hb)))),a2,a3,o,keep _ _ a4,a5⟩
 ups b _ o q := ⟨o.slots,keep _ _ (of_hideAll _ q)⟩
theorem FI.went {env : Env} {φ₀ : Ob} {d₀ : Nat} {h₁ : Heap} (W : WI K p fs φ₀ d₀ h) (ex : Ext h φ₀ φ') (I : FI K p h (hideAll h (p.dk :: p.dc :: H ++ fs)) (env.locals :: fs) env φ' α d' σ h₁) : Went p fs H φ₀ φ' d' h h₁ := by
 obtain ⟨m,F,_⟩ := I.loc
 exact ⟨fun b o q1 q2 q3 q4 q5 => F.keep b o (hideAll_get _ q1 fun z => by rcases mem_hid.mp z with z | z | z | z <;> contradiction),fun b hb => I.ups b (List.mem_cons_of_mem _ hb),I.deck,ex.1,I.sub,ex.2⟩
end
section
variable {prog : Program} {w : World} {K : Frag} {p : Pl} {fs : List Addr} {A : Around} {C : Cx} {P : Lv} {n : Nat}
theorem AOk.deeper {L : Addr} {env : Env} (hA : AOk (n + 1) fs A) (hf : env.frame = some L) (hk : env.scope.kind ≠ .module) : AOk n (L :: fs) (A.deeper env) := by
 obtain ⟨h1,h2,h3,l,h4,h5,h6⟩ := hA
 refine ⟨h1,?_,?_,env :: l,?_,?_,?_⟩
 ·show A.depth + 1 + 4 * n + 40 < recursionLimit
  omega
 ·rw [Around.deeper_units]; omega
 ·show A.frames.map _ = _; rw [h4]; rfl
 ·rw [List.map_cons,List.map_cons,hf,h5]
 ·intro e he
  cases he with
  | head => exact hk
  | tail _ he => exact h6 e he
theorem Top.of {f : Fm} {L : Addr} (hA : AOk (n + 1) fs A) (e : f.env.frame = some f.env.locals) : Top f (A.deeper f.env) :=
 ⟨let ⟨l,hl,_⟩ := hA.frames; ⟨l,by show A.frames.map _ = _; rw [hl]; rfl⟩,e⟩
theorem call_enter {fa : Addr} {fn : Fn} (hfn : FnAt K fa fn) (lim : ∀ h : Heap,K.In h->h.NoLimit) (hA : AOk (n + 1) fs A) {φ : Ob} {d : Nat} {s : Shared} {H : List Addr} {vs : List Value} {xs : List Slot} {R : Result->Shared->Prop}
  (W : WI K p fs φ d s.heap) (HA : ArgsOk p fs φ s.heap H vs xs) (hlen : fn.params.length = xs.length) (hnm : ((fn.scope.names.map (·.1)).zip fn.params).all (fun p => seq p.1 p.2) = true)
  (hbody' : ∀ (f : Fm) (A' : Around) (h₀ : Heap) (tk : Nat) (α₀ : Addr),f.prog = prog->f.w = w->f.K = K->f.p = p->f.e = s.heap->f.fs = f.env.locals :: fs->EnvOk f.env->Top f A'->AOk n f.fs A'->f.env.scope = fn.scope->(∀ b ∈ H,b = α₀) ->
   f.I φ (fun _ => α₀) d (xs.map some ++ List.replicate (fn.scope.names.length - xs.length) none) h₀ ->
   (∀ {φ' : Ob} {α' : Nat->Addr} {d' : Nat} {σ' : Sto} {h' : Heap},Ext s.heap φ φ'->f.I φ' α' d' σ' h'->Went p fs H φ φ' d' s.heap h') ->
   wpAny (model prog w) A' (execs fn.body f.env) (fun fl s' => R (.ok (.ret (match fl with | .ret v => v | _ => .none))) s')
    (fun e s' => wpAny (model prog w) A' (leaving f.env e) (fun _ s'' => R (.error e) s'') (fun e' s'' => R (.error e') s'') s') { s with heap := h₀,toks := tk }) :
  codeAny (model prog w) A (.call (.ref fa) ⟨vs,[]⟩) R s := by
 obtain ⟨hlv,α₀,hH,hsl⟩ := HA.slot
 obtain ⟨o,fd,F,hbind⟩ := hfn.at_
 have freshL := get_size s.heap
 have kindL : fd.scope.kind = .function := F.sc ▸ hfn.kind
 refine codeAny_call_def (by have := hA.depth; omega) (W.kin _ _ F.ob) F.dt (lim _ W.kin) (F.code _ W.kin) F.body (hbind s W.kin vs (hlv.trans hlen.symm)) (F.sc ▸ hfn.cell) (fun x hx => F.sc ▸ hfn.loc x.1 (List.of_mem_zip hx).1) (fun h₀ hns hkeep => ?_) (F.sc ▸ hfn.co) (F.sc ▸ hfn.gen) kindL
 have I := FI.enter (K := K) (env := callEnv fd s.heap.objs.size fa) (α := fun _ => α₀) (σ := xs.map some ++ List.replicate (fn.scope.names.length - xs.length) none) (wr := []) W (fun b hb => List.mem_cons.mp hb) (fun b hb => by cases hb) freshL hkeep hns (fun b hb => let ⟨_,_,_,_,S⟩ := hH b hb; S.φ) (Ext.refl _ φ) (Ob.keepNone (fun o q => W.sub _ o q) freshL) (fun a o q => hkeep _ _ (W.sub a o q))
  (fun x s' hx hs => ?_) (fun x s' hx hs => ?_) (fun i s' hs => ?_) fun i j s1 s2 q1 q2 q3 q4 _ => ?_
 ·exact hbody' ⟨prog,w,K,p,s.heap,_,_,callEnv fd s.heap.objs.size fa⟩ _ h₀ _ α₀ rfl rfl rfl rfl rfl rfl ⟨kindL,F.gl,F.bu,show kindOf fd.scope.names _ = none from F.sc ▸ hfn.dbg⟩ (Top.of (L := 0) hA rfl) (hA.deeper rfl (show fd.scope.kind ≠ _ by rw [kindL]; decide)) F.sc (fun b hb => (hH b hb).1) I fun ex I' => FI.went (env := callEnv fd s.heap.objs.size fa) W ex I'
 ·have hx : kindOf fn.scope.names x = some .local := F.sc ▸ hx
  have hs : getS (xs.map some ++ List.replicate (fn.scope.names.length - xs.length) none) (idx fd.scope.names x) = some s' := hs
  rw [F.sc] at hs
  have hs' := getS_args hs
  obtain ⟨v,hv,sv,_⟩ := hsl _ _ hs'
  obtain ⟨q,hq,rfl⟩ := idx_get hx
  refine ⟨v,rev_lookup hfn.nd (i := idx fn.scope.names q.1) ?_ hv,sv⟩
  have hi : idx fn.scope.names q.1 < fn.params.length := hlen ▸ (List.getElem?_eq_some_iff.mp hs').1
  rw [List.getElem?_eq_getElem hi]
  have hz : (fn.scope.names.map (·.1) |>.zip fn.params)[idx fn.scope.names q.1]? = some (q.1,fn.params[idx fn.scope.names q.1]) :=
   List.getElem?_zip_eq_some.mpr ⟨by rw [List.getElem?_map,hq]; rfl,List.getElem?_eq_getElem hi⟩
  exact congrArg some (seq_iff.mp (List.all_eq_true.mp hnm _ (List.mem_of_getElem? hz))).symm
 ·have hx : fn.scope.names.lookup x = some .cell := kindOf_eq .. ▸ (F.sc ▸ hx : kindOf fn.scope.names x = some .cell)
  obtain ⟨l1,l2,e,_⟩ := List.lookup_eq_some_iff.mp hx
  exact absurd rfl (hfn.cell (x,.cell) (by rw [e]; exact List.mem_append_right _ (.head _)))
 ·cases ho : s'.isOwn with
  | false => cases s' with
   | fz v => trivial
   | _ => cases ho
  | true =>
   obtain ⟨v,hv,sv,ow⟩ := hsl _ _ (getS_args hs)
   obtain ⟨_,c,q,es,n,rfl,hHa,S⟩ := ow ho
   exact ⟨⟨es,n,hkeep _ _ S.hd,S.en,S.len⟩,fun z => (List.mem_cons.mp z).elim (fun z => nn S.hd (z ▸ freshL)) S.fs,hideAll_none _ (mem_hid.mpr (.inr (.inr (.inl (by rw [hHa]; exact .head _))))),S.φ,fun z => nn S.hd (z ▸ freshL),S.dk,S.dc⟩
 ·obtain ⟨_,_,_,ow1⟩ := hsl _ _ (getS_args q1)
  obtain ⟨_,_,_,ow2⟩ := hsl _ _ (getS_args q2)
  exact (ow1 q3).1.trans (ow2 q4).1.symm
theorem body_done {f : Fm} {A' : Around} {fn : Fn} {φ φ₁ : Ob} {α : Nat->Addr} {d : Nat} {σ : Sto} {s : Shared} {H : List Addr} {Q E : Value->Shared->Prop} {h₀ : Heap} {tk : Nat} (top : Top f A') (aok : AOk n f.fs A') (he : f.e = s.heap) (hH : ∀ b ∈ H,b = α 0) (ex₁ : Ext s.heap φ φ₁)
  (hX : f.X φ₁ (FlowR f.p) A' (execs fn.body f.env) (fun σ => exs P fn.scope σ fn.body)) (I : f.I φ₁ α d σ h₀)
  (went : ∀ {φ' : Ob} {α' : Nat->Addr} {d' : Nat} {σ' : Sto} {h' : Heap},Ext s.heap φ φ'->f.I φ' α' d' σ' h'->Went f.p fs H φ φ' d' s.heap h')
  (HS : T.Sat d ((exs P fn.scope σ fn.body).atSto [] >>= fun y => pure ((match y.1 with | .ret v => v | .next => .none),getS y.2 0)) (CallQ f.p fs H φ s Q) (CallE f.p fs H φ s E)) :
  wpAny (model f.prog f.w) A' (execs fn.body f.env) (fun fl s' => Q (match fl with | .ret v => v | _ => .none) s')
    (fun e s' => wpAny (model f.prog f.w) A' (leaving f.env e) (fun _ s'' => E e s'') (fun e' s'' => E e' s'') s') { s with heap := h₀,toks := tk } := by
 refine hX φ₁ α d _ { s with heap := h₀,toks := tk } _ _ (Le.refl _) I ((T.sat_atSto.mp HS.bind).mono (fun d' r hr fl h' tk φ' α' hα ex I' R => ?_) fun d' told _ hr x h' tk φ' α' hα ex I' X => ?_)
 ·have ex : Ext s.heap φ₁ φ' := he ▸ ex
  have back : SelfBack f.p φ' h' H (getS r.2 0) := fun a hHa c q hg => by
   have z := I'.own 0 _ hg
   rw [hα,← hH a (by rw [hHa]; exact .head _)] at z
   obtain ⟨⟨es,n,a1,a2,a3⟩,fr⟩ := z
   exact ⟨es,n,a1,a2,a3,fr.φ⟩
  have W' := went (ex₁.trans ex) I'
  have hr : CallQ f.p fs H φ s Q d' ((match r.1 with | .ret v => v | .next => .none),getS r.2 0) := hr
  have R : FlowR f.p φ' fl r.1 := R
  generalize r.1 = fx at hr R
  cases R with
  | next => exact hr .none h' tk φ' W' .none back
  | ret rr => exact hr _ h' tk φ' W' rr back
 ·refine leaving_snd (f := f) (n := n) (told := told) (s := { s with heap := h',toks := tk }) aok top I' X fun h'' I'' X'' => hr x h'' tk φ' (went (ex₁.trans (he ▸ ex)) I'') (he ▸ X'')
theorem callStep_sat {fn : Fn} {xs : List Slot} {d : Nat} {Q E} (HS : T.Sat d (callStep P fn xs) Q E) : fn.params.length = xs.length ∧ ((fn.scope.names.map (·.1)).zip fn.params).all (fun p => seq p.1 p.2) = true ∧ (fn.scope.names.zip xs).all (fun p => cellPlain p.1.2 p.2) = true ∧
  T.Sat d ((exs P fn.scope (xs.map some ++ List.replicate (fn.scope.names.length - xs.length) none) fn.body).atSto [] >>= fun y => pure ((match y.1 with | .ret v => v | .next => .none),getS y.2 0)) Q E := by
 refine T.Sat.chkE HS fun h HS => ?_
 refine and2 h fun h h3 => ?_
 refine and2 h fun h1 h2 => ?_
 exact ⟨eq_of_beq h1,h2,h3,HS⟩
theorem call_ok {fa : Addr} {fn : Fn} (hfn : FnAt K fa fn) (lim : ∀ h : Heap,K.In h->h.NoLimit) (hA : AOk (n + 1) fs A)
  (hX : ∀ (f : Fm) (A : Around),f.prog = prog->f.w = w->f.K = K->f.p = p->EnvOk f.env->Top f A->AOk n f.fs A->f.env.scope = fn.scope->∀ φ₀,f.X φ₀ (FlowR f.p) A (execs fn.body f.env) (fun σ => exs P fn.scope σ fn.body)) :
  CallOk prog w K p fs A fa (callStep P fn) := by
 intro φ d s H vs xs Q E W HA HS
 obtain ⟨h1,h2,_,HS⟩ := callStep_sat HS
 refine call_enter hfn lim hA W HA h1 h2 fun f A' h₀ tk α₀ e1 e2 e3 e4 e5 e6 eok top aok fsc hH I went => ?_
 subst e1; subst e2; subst e3; subst e4
 exact body_done top aok e5 hH (Ext.refl ..) (hX f A' rfl rfl rfl rfl eok top aok fsc φ) I went HS
structure FnAtC (K : Frag) (fa : Addr) (fn : Fn) (x : Str) : Prop where
 at_ : ∃ o fd,FdAt K fa fn o fd ∧ fd.closure = [] ∧ ∀ v : Value,bindArgs fd ⟨[v],[]⟩ = pure [(x,v)]
 co : fn.scope.isCoroutine = false
 gen : fn.scope.isGenerator = false
 kind : fn.scope.kind = .function
 pars : fn.params = [x]
 head : ∃ r,fn.scope.names = (x,.cell) :: r ∧ ∀ y ∈ r,y.2 ≠ .cell
 dbg : kindOf fn.scope.names "__debug__" = none
theorem cellsFrom_rest (n : Nat) : ∀ (r : List (Str × NameKind)) (acc : List (Str × Addr)),(∀ y ∈ r,y.2 ≠ .cell)->cellsFrom n r acc = acc
 | [],acc,_ => rfl
 | (y,k) :: r,acc,h => by
  have hk : k ≠ .cell := h (y,k) (List.mem_cons_self ..)
  unfold cellsFrom
  rw [if_neg (by simpa using hk)]
  exact cellsFrom_rest n r acc fun z hz => h z (List.mem_cons_of_mem _ hz)
theorem idx_head {x z : Str} {k : NameKind} {r : List (Str × NameKind)} (h : idx ((x,k) :: r) z = 0) : z = x := by
 unfold idx at h
 cases e : seq (x,k).1 z with
 | true => exact (seq_iff.mp e).symm
 | false => rw [e] at h; cases h
theorem args1 {y : PV} {m i : Nat} {s : Slot} (q : getS ([Slot.fz y].map some ++ List.replicate m none) i = some s) : i = 0 ∧ s = .fz y := by
 have := getS_args q
 match i,this with
 | 0,this => cases this; exact ⟨rfl,rfl⟩
theorem oneArg {φ : Ob} {h : Heap} {H : List Addr} {vs : List Value} {xs : List Slot} {x : Str} {r : List (Str × NameKind)} (HA : ArgsOk p fs φ h H vs xs) (hlen : 1 = xs.length) (hown : (((x,NameKind.cell) :: r).zip xs).all (fun p => cellPlain p.1.2 p.2) = true) :
  ∃ v y,vs = [v] ∧ xs = [.fz y] ∧ Rep p φ v y ∧ H = [] := by
 cases HA with
 | plain r => cases r with
  | nil => cases hlen
  | cons r1 r2 => cases r2 with
   | nil => exact ⟨_,_,rfl,rfl,r1,rfl⟩
   | cons => cases hlen
 | self => cases hown
theorem call_okC {fa : Addr} {fn : Fn} {x : Str} (hfn : FnAtC K fa fn x) (lim : ∀ h : Heap,K.In h->h.NoLimit) (hA : AOk (n + 1) fs A)
  (hX : ∀ (f : Fm) (A : Around),f.prog = prog->f.w = w->f.K = K->f.p = p->EnvOk f.env->Top f A->AOk n f.fs A->f.env.scope = fn.scope->∀ φ₀,f.X φ₀ (FlowR f.p) A (execs fn.body f.env) (fun σ => exs P fn.scope σ fn.body)) :
  CallOk prog w K p fs A fa (callStep P fn) := by
 intro φ d s H vs xs Q E W HA HS
 obtain ⟨hlen,_,hown,HS⟩ := callStep_sat HS
 obtain ⟨rest,hnames,hrest⟩ := hfn.head
 rw [hfn.pars] at hlen
 rw [hnames] at hown
 obtain ⟨v,y,rfl,rfl,rv,rfl⟩ := oneArg HA hlen hown
 obtain ⟨o,fd,F,hclo,hbind⟩ := hfn.at_
 have freshL := get_size s.heap
 have freshC : s.heap.get? (s.heap.objs.size + 1) = none := by
  cases q : s.heap.get? (s.heap.objs.size + 1) with
  | none => rfl
  | some o => exact absurd (Heap.lt_size q) (Nat.not_lt.mpr (Nat.le_succ _))
 have kindL : fd.scope.kind = .function := F.sc ▸ hfn.kind
 have nms : fd.scope.names = (x,.cell) :: rest := F.sc ▸ hnames
 have hcells : ∀ n,cellsFrom n fd.scope.names [] = [(x,n)] := fun n => by rw [nms]; exact cellsFrom_rest _ rest _ hrest
 have hlk : fd.scope.names.lookup x = some .cell := by rw [nms]; exact List.lookup_cons_self
 refine codeAny_call_cells (by have := hA.depth; omega) (W.kin _ _ F.ob) F.dt (lim _ W.kin) (F.code _ W.kin) F.body (hbind v) hclo (fun z hz => by
  rw [List.mem_singleton.mp hz]
  exact .inr ⟨hlk,by rw [hcells]; simp⟩) (fun s₁ ic => ?_) (F.sc ▸ hfn.co) (F.sc ▸ hfn.gen) kindL
 have hc : (callEnvC fd s.heap.objs.size fa).cells = [(x,s.heap.objs.size + 1)] := hcells _
 obtain ⟨oc,hoc,hocd⟩ := ic.cell x (s.heap.objs.size + 1) (by rw [hc]; simp)
 obtain ⟨⟨h₀,tk₀,rfl⟩,hns,hkeep,_⟩ := ic.toInCall
 have hcv : oc.data = .cell (some v) := by
  rw [hocd]
  unfold bindC bindC
  rw [show (callEnvC fd s.heap.objs.size fa).kindOf x = some .cell from hlk]
  simp
 have ex₁ : Ext s.heap φ (put φ (s.heap.objs.size + 1) oc) := ⟨put_le (Ob.keepNone (fun o q => W.sub _ o q) freshC),fun a h1 h2 => by
  by_cases z : a = s.heap.objs.size + 1
  ·rw [z]; exact freshC
  ·rw [put_other z] at h2; exact absurd h1 h2⟩
 have I := FI.enter (K := K) (H := []) (env := callEnvC fd s.heap.objs.size fa) (α := fun _ => 0) (σ := [Slot.fz y].map some ++ List.replicate (fn.scope.names.length - [Slot.fz y].length) none) (wr := []) W (fun b hb => List.mem_cons.mp hb) (fun b hb => by cases hb) freshL hkeep hns (fun b hb => by cases hb) ex₁
  (by rw [put_other (show (callEnvC fd s.heap.objs.size fa).locals ≠ s.heap.objs.size + 1 from Nat.ne_of_lt (Nat.lt_succ_self _))]; exact Ob.keepNone (fun o q => W.sub _ o q) freshL) (fun a o q => ?_)
  (fun z s' hz hs => ?_) (fun z s' hz hs => ?_) (fun i s' hs => by rw [(args1 hs).2]; trivial) fun i j s1 s2 q1 q2 q3 q4 _ => (args1 q1).1.trans (args1 q2).1.symm
 ·refine body_done (f := ⟨prog,w,K,p,s.heap,_,_,callEnvC fd s.heap.objs.size fa⟩) (fs := fs) (H := []) (Top.of (L := 0) hA rfl) (hA.deeper rfl (show fd.scope.kind ≠ _ by rw [kindL]; decide)) rfl (fun b hb => by cases hb) ex₁ ?_ I (fun ex I' => FI.went (H := []) (env := callEnvC fd s.heap.objs.size fa) W ex I') HS
  exact hX _ _ rfl rfl rfl rfl ⟨kindL,F.gl,F.bu,show kindOf fd.scope.names _ = none from F.sc ▸ hfn.dbg⟩ (Top.of (L := 0) hA rfl) (hA.deeper rfl (show fd.scope.kind ≠ _ by rw [kindL]; decide)) F.sc _
 ·by_cases z : a = s.heap.objs.size + 1
  ·rw [z,put_self] at q; cases q; rw [z]; exact hoc
  ·rw [put_other z] at q; exact hkeep _ _ (W.sub a o q)
 ·have h0 := (args1 hs).1
  have hz : kindOf fd.scope.names z = some .local := hz
  have h0 : idx fd.scope.names z = 0 := h0
  rw [nms] at hz h0
  rw [idx_head h0] at hz
  rw [kindOf_eq,List.lookup_cons_self] at hz; cases hz
 ·have h0 : idx fd.scope.names z = 0 := (args1 hs).1
  rw [nms] at h0
  refine ⟨s.heap.objs.size + 1,oc,v,y,?_,put_self ..,hcv,(args1 hs).2,rv.mono ex₁.1⟩
  rw [hc,idx_head h0]; exact List.lookup_cons_self
inductive DefAt (K : Frag) (fa : Addr) (fn : Fn) : Prop
 | plain : FnAt K fa fn->DefAt K fa fn
 | cell {x : Str} : FnAtC K fa fn x->DefAt K fa fn
end
noncomputable def biVal : Bi->Value
 | .len => .builtin "len" | .abs => .builtin "abs" | .chr => .builtin "chr" | .ord => .builtin "ord"
 | .list => .type "list" | .tuple => .type "tuple" | .bytes => .type "bytes" | .int => .type "int" | .str => .type "str" | .none => .type ""
structure Defs (K : Frag) (p : Pl) (C : Cx) (mg mb : Str->Option Value) : Prop where
 fns : ∀ x fn,C.glob x = some (.fn fn)->∃ fa,mg x = some (.ref fa) ∧ DefAt K fa fn ∧ keepIn K (.ref fa) = true
 cls : ∀ x c init own exc,C.glob x = some (.cls c init own exc)->mg x = some (.ref (p.ca c)) ∧ keepIn K (.ref (p.ca c)) = true ∧ (exc = false->makesIn K (p.ca c) = true ∧ ∃ fI,findIn K (.ref (p.ca c)) "__init__" = some (some (.ref fI)) ∧ isFn K (.ref fI) = true ∧ DefAt K fI init)
 bis : ∀ x id,C.glob x = some (.bi id)->mg x = none ∧ mb x = some (biVal id)
 rng : mg "range" = none ∧ mb "range" = some (.type "range")
 enm : mg "enumerate" = none ∧ mb "enumerate" = some (.type "enumerate")
 meths : ∀ c m fn,C.meth c m = some fn->plainGet K (p.ca c) m = true ∧ ∃ fa,findIn K (.ref (p.ca c)) m = some (some (.ref fa)) ∧ isFn K (.ref fa) = true ∧ DefAt K fa fn ∧ keepIn K (.ref fa) = true
structure ExcSt (K : Frag) (p : Pl) : Prop where
 obj : ∃ N G nm q bs sn sub ab col dd k0 k1 k2 k3 k5,K.lookup (p.ca 7) = some (excClassObj nm q (p.ca 7) N bs [.ref G,.type "Exception",.type "BaseException",.type "object"] true sn sub ab col dd k0 k1 k2 k3 k5 "Exception.__new__")
 init : ∃ fI fn,findIn K (.ref (p.ca 7)) "__init__" = some (some (.ref fI)) ∧ isFn K (.ref fI) = true ∧ FnAt K fI fn ∧ fn.params = [("self" : Str),("told" : Str)] ∧ ∃ p1 p2 p3 p4,fn.body = [.Assign [.Attribute (.Name "self" p1) "told" p2] (.Name "told" p3) p4]
 sets : findIn K (.ref (p.ca 7)) "__setattr__" = some (some (.builtin "object.__setattr__"))
 gets : findIn K (.ref (p.ca 7)) "__getattribute__" = some (some (.builtin "BaseException.__getattribute__"))
 told : findIn K (.ref (p.ca 7)) "told" = some none
 hook : findIn K (.ref (p.ca 7)) "__getattr__" = some none
inductive Callable (K : Frag) : Value->Prop
 | bi (id : String) : Callable K (.builtin id)
 | ty (T : String) : Callable K (.type T)
 | k {v : Value} : keepIn K v = true->Callable K v
theorem biVal_callable (K : Frag) (id : Bi) : Callable K (biVal id) := by
 cases id <;> constructor
section
variable {M : Model} {A : Around} {E : Value->Shared->Prop} {s : Shared} {env : Env} {pos : Pos}
theorem all_cons {e : Expr} {r : List Expr} (h : (e :: r).all plainR = true) : plainR e = true ∧ r.all plainR = true := (Bool.and_eq_true_iff ..).mp (List.all_cons ▸ h)
theorem stars_plain {args : List Expr} (h : args.all plainR = true) : (backTo pos (starEach args env)).any (·.1) = false := by
 induction args with
 | nil => rfl
 | cons e r ih => rw [star_plain (all_cons h).1]; exact ih (all_cons h).2
theorem evalArgs_any {f : Value} {args : List Expr} {Q : Args->Shared->Prop} (hp : args.all plainR = true) (h : wpAny M A (spliced (backTo pos (starEach args env))) (fun vs s' => Q ⟨vs,[]⟩ s') E s) :
  wpAny M A (evalArgs f true (backTo pos (starEach args env)) []) Q E s := by
 cases args with
 | nil => exact wpAny_bind (wpAny_mono h (fun vs s' h' => wpAny_bind (wpAny_pure (wpAny_holding (wpAny_bind (wpAny_pure (wpAny_bind (wpAny_pure (wpAny_pure h')))))))) fun _ _ x => x)
 | cons e r => rw [star_plain (all_cons hp).1] at h ⊢; exact Calls.evalArgs_plain h
theorem callWith_any {K : Frag} {f : Value} {first : List Value} {args : List Expr} {Q : Value->Shared->Prop} (hc : Callable K f) (hp : args.all plainR = true)
  (h : wpAny M A (spliced (backTo pos (starEach args env))) (fun vs s₁ => K.In s₁.heap ∧ wpAny M A (call f (first ++ vs)) Q E s₁) E s) : wpAny M A (callWith pos f first (backTo pos (starEach args env)) []) Q E s := by
 cases hc with
 | bi id => exact Calls.callWith_builtin (stars_plain hp) (evalArgs_any hp (wpAny_mono h (fun _ _ q => q.2) fun _ _ q => q))
 | ty T => exact PySem.callWith_type (stars_plain hp) (evalArgs_any hp (wpAny_mono h (fun _ _ q => q.2) fun _ _ q => q))
 | k hk => exact callWith_of (by rw [stars_plain hp]; rfl) (keeps_K hk) (evalArgs_any hp h)
end
section
variable {f : Fm} {φ₀ φ : Ob} {A : Around} {C : Cx} {P : Lv} {n : Nat} {α : Nat->Addr} {d : Nat} {σ : Sto} {h : Heap} {s : Shared}
variable {γ : Type} {R : Ob->Value->γ->Prop}
theorem method_own {x C : Addr} {ox : Obj} {es : List DictEntry} {k : Nat} {m : Str} {fa : Addr} {pl : Sem Bool} {Q : Value × List Value->Shared->Prop} {E : Value->Shared->Prop} (X : f.K.In s.heap) (At : InstAt s.heap x ox C (some (dictOf es k))) (pg : plainGet f.K C m = true)
  (hf : findIn f.K (.ref C) m = some (some (.ref fa))) (ht : isFn f.K (.ref fa) = true) (hl : getL m es = some none) (h : Q (.ref fa,[.ref x]) s) : wpAny (model f.prog f.w) A (getMethod (.ref x) m pl) Q E s :=
 method_fn X At (plainGet_of pg).1 (plainGet_of pg).2 hf (beq_iff_eq.mp ht) (by show (lookIn m (dictOf es k)).map _ = _; rw [lookIn_dict,hl]; rfl) h
theorem Went.back {φ' : Ob} {d' : Nat} {h' : Heap} (W : Went f.p f.fs [] φ φ' d' h h') (I : f.I φ α d σ h) : f.I φ' α d' σ h' ∧ Ext f.e φ φ' :=
 I.back (fun b o q1 q2 q3 q4 => W.k b o q1 q2 q3 q4 (by simp)) W.u W.dk W.le W.sub W.new
theorem def_snd {fa : Addr} {t : List Slot->T (PV × Option Slot)} {vs : List Value} {xs : List PV} {t₂ : PV × Option Slot->T (γ × Sto)} {Q : Value->Shared->Prop} {E : Value->Shared->Prop} {Q' : Value->Shared->Prop}
  (hc : CallOk f.prog f.w f.K f.p f.fs A fa t) (I : f.I φ α d σ s.heap) (r : Reps f.p φ vs xs) (H : T.Sat d (t (xs.map .fz)) (fun d' x => T.Sat d' (t₂ x) (QQ f R φ α s Q) (EE f φ α s E)) (fun d' told _ => EE f φ α s E d' told σ))
  (next : ∀ v h' tk φ' d' x,Ext f.e φ φ'->f.I φ' α d' σ h'->Rep f.p φ' v x.1->T.Sat d' (t₂ x) (QQ f R φ' α { s with heap := h',toks := tk } Q) (EE f φ' α { s with heap := h',toks := tk } E)->Q' v { s with heap := h',toks := tk }) :
  wpAny (model f.prog f.w) A (call (.ref fa) vs) Q' E s := by
 refine wpAny_call (hc φ d s [] vs _ Q' E I.wi (.plain r) (H.mono (fun d' x hx => ?_) fun d' told _ hx => ?_))
 ·intro v h' tk φ' W rr _
  obtain ⟨I',ex⟩ := W.back I
  exact next v h' tk φ' d' x ex I' rr (hx.mono (fun _ _ q => q.step ex) fun _ _ _ q => q.step ex)
 ·intro x h' tk φ' W X
  obtain ⟨I',ex⟩ := W.back I
  exact hx x h' tk φ' ex I' (X.older I.live)
theorem evArgs_cps (hE : ∀ φ₀ x,f.S φ₀ (Rep f.p) A (eval x f.env) (fun σ => P.ev f.env.scope σ x)) {args : List Expr} {first : List Value} {fv : Value} {pos : Pos} (hc : Callable f.K fv) {t₂ : List PV × Sto->T (γ × Sto)} {Q : Value->Shared->Prop} {E : Value->Shared->Prop}
  (hp : args.all plainR = true) (I : f.I φ α d σ s.heap) (H : T.Sat d (evs P f.env.scope σ args >>= t₂) (QQ f R φ α s Q) (EE f φ α s E))
  (next : ∀ φ₁ vs xs σ₁ s₁ d₁,Le φ φ₁->f.I φ₁ α d₁ σ₁ s₁.heap->Reps f.p φ₁ vs xs->T.Sat d₁ (t₂ (xs,σ₁)) (QQ f R φ₁ α s₁ Q) (EE f φ₁ α s₁ E)->wpAny (model f.prog f.w) A (call fv (first ++ vs)) Q E s₁) :
  wpAny (model f.prog f.w) A (callWith pos fv first (backTo pos (starEach args f.env)) []) Q E s :=
 callWith_any hc hp ((snd_evs hE args φ).cps (Le.refl _) I H fun φ₁ vs xs σ₁ s₁ d₁ le I₁ r H₁ => ⟨I₁.kinH,next φ₁ vs xs σ₁ s₁ d₁ le I₁ r H₁⟩)
theorem AOk.under_make {fs : List Addr} {C : Addr} {rest : List Value} {kw : List (Str × Value)} (hA : AOk (n + 1) fs A) : AOk n fs (A.under (.builtin "type.__call__" ⟨.ref C :: rest,kw⟩)) := by
 obtain ⟨h1,h2,h3,l,h4,h5,h6⟩ := hA
 have w1 : (Code.builtin "type.__call__" ⟨.ref C :: rest,kw⟩).weight = 1 := by
  show Code.frames _ + (if true = true then 1 else 0) + (if guardIds.contains "type.__call__" then 1 else 0) + 0 = 1
  rw [show guardIds.contains "type.__call__" = false from by decide +kernel]
  rfl
 have w2 : (Code.builtin "type.__call__" ⟨.ref C :: rest,kw⟩).cUnits ≤ 4 := by show 1 + 3 * Code.frames _ ≤ 4; exact Nat.le_of_ble_eq_true rfl
 have w3 : (Code.builtin "type.__call__" ⟨.ref C :: rest,kw⟩).envs = [] := rfl
 refine ⟨h1,?_,?_,l,?_,h5,h6⟩
 ·show A.depth + Code.weight _ + 4 * n + 40 < recursionLimit
  rw [w1]; omega
 ·show A.units + Code.cUnits _ + 20 * n + 200 < cLine
  omega
 ·have e : (A.under (Code.builtin "type.__call__" ⟨.ref C :: rest,kw⟩)).frames = pushEnvs (Code.builtin "type.__call__" ⟨.ref C :: rest,kw⟩).envs A.frames := rfl
  rw [e,w3,h4]; rfl
theorem AOk.less {fs : List Addr} {m : Nat} (hA : AOk n fs A) (h : m ≤ n) : AOk m fs A := ⟨hA.handled,by have := hA.depth; omega,by have := hA.units; omega,hA.frames⟩
theorem made_of {c : Nat} {z : PV × Option Slot} {Q : Nat->List (Str × PV)->Prop} {E} (H : T.Sat d (madeT c z) Q E) : ∃ fs,z = (.none,some (.oi c fs)) ∧ Q d fs := by
 obtain ⟨v,sl⟩ := z
 cases sl with
 | none => exact H.elim
 | some sl =>
  refine T.Sat.oiVE H fun c' fs eq1 H => ?_
  subst eq1
  refine T.Sat.noneVE H fun eq1 H => ?_
  subst eq1
  refine T.Sat.chkE H fun hc H' => ?_
  cases Nat.eq_of_beq_eq_true hc
  exact ⟨fs,rfl,H'⟩
structure NewOwn (f : Fm) (φ : Ob) (α : Nat->Addr) (σ : Sto) (h : Heap) (dx : Addr) (fs : List (Str × PV)) : Prop where
 at_ : ∃ es k,h.get? dx = some (dictOf es k) ∧ Ents f.p φ es fs ∧ es.length ≤ 100
 e : f.e.get? dx = none
 al : ∀ i sl,getS σ i = some sl->sl.isOwn = true->α i ≠ dx
 own : Own f.p f.g f.fs f.env.locals φ dx
theorem I_fresh (I : f.I φ α d σ h) {a : Addr} (ha : h.get? a = none) {φ' : Ob} (hφ : φ' a = none) : Own f.p f.g f.fs f.env.locals φ' a :=
 ⟨fun z => (I.ffT z).nn ha,I.old _ (I.live _ ha),hφ,fun z => I.LT (z ▸ ha),I.deck.dkT.ne ha,I.deck.dcT.ne ha⟩
theorem make_snd {c fI : Addr} {cl : Nat} {t : List Slot->T (PV × Option Slot)} {vs : List Value} {xs : List PV} {Post : Nat->List (Str × PV)->Prop} {E₂ : Nat->PV->Sto->Prop} {Q : Value->Shared->Prop} {E : Value->Shared->Prop} (hcl : c = f.p.ca cl)
  (hm : makesIn f.K c = true) (hi : findIn f.K (.ref c) "__init__" = some (some (.ref fI))) (hf : isFn f.K (.ref fI) = true) (hc : CallOk f.prog f.w f.K f.p f.fs (A.under (.builtin "type.__call__" ⟨.ref c :: vs,[]⟩)) fI t)
  (I : f.I φ α d σ s.heap) (r : Reps f.p φ vs xs) (H : T.Sat d (t (.oi cl [] :: xs.map .fz)) (fun d' z => T.Sat d' (madeT cl z) Post E₂) (fun _ _ _ => False))
  (next : ∀ x dx fs h' tk φ' d',Ext f.e φ φ'->f.I φ' α d' σ h'->φ' x = some (instObj c dx)->NewOwn f φ' α σ h' dx fs->Post d' fs->Q (.ref x) { s with heap := h',toks := tk }) :
  wpAny (model f.prog f.w) A (call (.ref c) vs) Q E s := by
 obtain ⟨hh,gg,dd,tk,os⟩ := s
 refine wpAny_call (make_core (makes_of I.kinH hm) (looks_findIn I.kinH hi) (fun self => bind_fn I.kinH self (beq_iff_eq.mp hf)) (.inl rfl) ?_)
 have fD : hh.get? hh.objs.size = none := get_size hh
 have fX : hh.get? (hh.objs.size + 1) = none := get_ge (Nat.le_succ _)
 have k₀ : ∀ b o,hh.get? b = some o->((hh.push emptyDict).push (instObj c hh.objs.size)).get? b = some o := fun b o e => Heap.get?_push_of_some _ (Heap.get?_push_of_some _ e)
 have hx : ((hh.push emptyDict).push (instObj c hh.objs.size)).get? (hh.objs.size + 1) = some (instObj c hh.objs.size) := Heap.size_push hh emptyDict ▸ Heap.get?_push_size (hh.push emptyDict) (o := instObj c hh.objs.size) rfl
 obtain ⟨I₁,ex₁⟩ := FI.new (h' := (hh.push emptyDict).push (instObj c hh.objs.size)) I k₀ hx fX
 have φ₁x := put_self φ (hh.objs.size + 1) (instObj c hh.objs.size)
 have φ₁d : put φ (hh.objs.size + 1) (instObj c hh.objs.size) hh.objs.size = none := (put_other (Nat.ne_of_lt (Nat.lt_succ_self _))).trans (Ob.keepNone (fun o q => I.sub _ o q) fD)
 have ow := I_fresh I fD φ₁d
 have hd : ((hh.push emptyDict).push (instObj c hh.objs.size)).get? hh.objs.size = some emptyDict := Heap.get?_push_of_some _ (Heap.get?_push_size _ rfl)
 have new₁ : ∀ a,φ a = none->put φ (hh.objs.size + 1) (instObj c hh.objs.size) a ≠ none->hh.get? a = none := fun a q1 q2 => by
  by_cases z : a = hh.objs.size + 1
  ·rw [z]; exact fX
  ·rw [put_other z] at q2; exact absurd q1 q2
 generalize put φ (hh.objs.size + 1) (instObj c hh.objs.size) = φ₁ at *
 have aok : ArgsOk f.p f.fs φ₁ ((hh.push emptyDict).push (instObj c hh.objs.size)) [hh.objs.size] (.ref (hh.objs.size + 1) :: vs) (.oi cl [] :: xs.map .fz) :=
  .self (n := 0) (es := []) (hcl ▸ φ₁x) hd .nil (Nat.zero_le _) φ₁d ow.fs ow.dk ow.dc (r.mono ex₁.1)
 refine codeAny_mono (hc φ₁ d ⟨_,gg,dd,tk,os⟩ [hh.objs.size] _ _ (fun v s' => v = .none ∧ Q (.ref (hh.objs.size + 1)) s') E I₁.wi aok (H.mono (fun d' z hz v h' tk' φ' W rr back => ?_) fun d' told _ hz => hz.elim)) fun r s' z => ?_
 ·obtain ⟨fs',rfl,hz'⟩ := made_of hz
  cases rr.inv
  obtain ⟨es,k,b1,b2,b3,b4⟩ := back _ rfl cl fs' rfl
  obtain ⟨I',ex'⟩ := I.back (h' := h') (φ' := φ') (d' := d') (fun b o q1 q2 q3 q4 => W.k b o (k₀ b o q1) q2 q3 q4 fun z => nn q1 (List.mem_singleton.mp z ▸ fD)) (fun b hb o q => W.u b hb o (k₀ b o q)) W.dk (ex₁.1.trans W.le) W.sub (fun a q1 q2 => by
    cases q : φ₁ a with
    | none => exact none_of_keeps k₀ (W.new a q q2)
    | some o => exact new₁ a q1 (nn q))
  exact ⟨rfl,next _ _ fs' h' tk' φ' d' ex' I' (W.le _ _ φ₁x) ⟨⟨es,k,b1,b2,b3⟩,I.live _ fD,fun i sl q1 q2 z => by obtain ⟨o,q⟩ := (I.own i sl q1).there q2; exact nn q (z ▸ fD),I_fresh I fD b4⟩ hz'⟩
 ·rcases r with e | (v | _ | _ | _) <;> first | exact z | exact z.elim
end
section
variable {f : Fm} {φ₀ φ : Ob} {A : Around} {C : Cx} {P : Lv} {n : Nat} {α : Nat->Addr} {d : Nat} {σ : Sto} {h : Heap} {s : Shared} {Q : Value->Shared->Prop} {E : Value->Shared->Prop}
theorem octs_some {vs : List Value} {l : List PV} (r : Reps f.p φ vs l) : ∀ {bs : List UInt8},octs l = some bs->∃ ns : List Int,IntsAre vs ns ∧ (∀ n ∈ ns,0 ≤ n ∧ n < 256) ∧ ns.map (fun n => n.toNat.toUInt8) = bs :=
 r.ind (M := fun vs l => ∀ {bs : List UInt8},octs l = some bs->∃ ns : List Int,IntsAre vs ns ∧ (∀ n ∈ ns,0 ≤ n ∧ n < 256) ∧ ns.map (fun n => n.toNat.toUInt8) = bs)
  (fun h => ⟨[],.nil,fun _ q => (by cases q),Option.some.inj h⟩) fun {v x vs xs} rx _ ih {bs} h => by
   cases x with
   | int i =>
    obtain ⟨t,rfl⟩ := rx.intOf
    have h : (if 0 ≤ i ∧ i < 256 then (octs xs).map (UInt8.ofNat i.toNat :: ·) else none) = some bs := h
    by_cases hc : 0 ≤ i ∧ i < 256
    ·rw [if_pos hc] at h
     obtain ⟨b',q,rfl⟩ := Option.map_eq_some_iff.mp h
     obtain ⟨ns,h1,h2,rfl⟩ := ih q
     exact ⟨i :: ns,.cons _ _ h1,fun n hn => (List.mem_cons.mp hn).elim (fun e => e ▸ hc) (h2 n),rfl⟩
    ·rw [if_neg hc] at h; exact noOpt h
   | _ => exact noOpt h
theorem digits_all : ∀ i j : Fin 10,PySem.intText? ⟨#[48 + i.val,48 + j.val]⟩ = some ((10 * i.val + j.val : Nat) : Int) := by decide +kernel
theorem dig_some {o : Option Nat} {c k : Nat} (h : (o.bind fun n => if 48 ≤ c ∧ c ≤ 57 then some (10 * n + (c - 48)) else none) = some k) : ∃ n,∃ j : Fin 10,o = some n ∧ c = 48 + j.val ∧ k = 10 * n + j.val := by
 obtain ⟨n,e,h⟩ := Option.bind_eq_some_iff.mp h
 by_cases hc : 48 ≤ c ∧ c ≤ 57
 ·rw [if_pos hc] at h
  cases h
  exact ⟨n,⟨c - 48,by omega⟩,e,(Nat.add_sub_cancel' hc.1).symm,rfl⟩
 ·rw [if_neg hc] at h; exact noOpt h
theorem two_digits {s : Str} {a b k : Nat} (hs : s.cps.toList = [a,b]) (h : natOfB [a,b] = some k) : PySem.intText? s = some (k : Int) := by
 obtain ⟨x⟩ := s
 have e : x = #[a,b] := Array.ext' hs
 subst e
 obtain ⟨n,j,h',rfl,rfl⟩ := dig_some h
 obtain ⟨m,i,h'',rfl,rfl⟩ := dig_some h'
 cases h''
 exact (digits_all i j).trans (by rw [Nat.mul_zero,Nat.zero_add])
theorem len_snd {v : Value} {x : PV} {n : Nat} (hn : n ≤ lineB) (h : ∀ t k,Q (.int n t) { s with toks := k }) (I : f.I φ α d σ s.heap) (q : Rep f.p φ v x) (e : (match x with | .list l => some l.length | .tup l => some l.length | .byt l => some l.size | .str l => some l.cps.size | _ => none) = some n) : wpAny (model f.prog f.w) A (call (.builtin "len") [v]) Q E s := by
 have hB : lineB ≤ 1099511627776 := by decide
 cases x with
 | list l =>
  obtain ⟨a,us,rfl,hl,hz,qs⟩ := q.seqOf I
  cases e; rw [← qs.length] at h
  exact Calls.call_len_list hl (Int.lt_of_le_of_lt (Int.ofNat_le.mpr (show us.toArray.size ≤ lineB from hz)) (by decide : (lineB : Int) < 2 ^ 63)) (h _ _)
 | tup l =>
  obtain ⟨a,us,rfl,hl,hz,qs⟩ := q.tupOf I
  cases e; rw [← qs.length] at h
  exact len_tuple hl (Int.lt_of_le_of_lt (Int.ofNat_le.mpr (show us.toArray.size ≤ lineB from hz)) (by decide : (lineB : Int) < 2 ^ 63)) (h _ _)
 | byt l =>
  obtain ⟨t,rfl,hz⟩ := q.bytOf
  cases e
  exact len_bytes (Nat.le_trans hz hB) (h _ _)
 | str l =>
  obtain ⟨t,rfl,hz⟩ := q.strOf
  cases e
  exact PySem.P.len_str (fun z => absurd (Int.lt_of_le_of_lt (Int.ofNat_le.mpr hz) (by decide : (lineB : Int) < 2 ^ 63)) (Int.not_lt.mpr z)) (h _ _)
 | _ => exact noOpt e
theorem int_snd {v : Value} {x : PV} (I : f.I φ α d σ s.heap) (q : Rep f.p φ v x) (H : T.Sat d (biCall .int [x]) (BQ f φ α σ s Q) (EE f φ α s E)) : wpAny (model f.prog f.w) A (call (.type "int") [v]) Q E s := by
 cases x with
 | bool b => rw [q.boolOf]; exact call_int_bool (QQ.here H I (.int _ _))
 | int i => obtain ⟨t,rfl⟩ := q.intOf; exact call_int_int (QQ.here0 H I (.int _ _))
 | str x =>
  obtain ⟨t,rfl,hz⟩ := q.strOf
  refine T.Sat.twoE H fun a b hc H => ?_
  refine T.Sat.optE H fun k hk H => ?_
  refine PySem.W.KIN.call_text (two_digits hc hk) ?_ (QQ.here H I (.int _ _))
  show Array.size _ ≤ 640
  rw [← Array.length_toList,hc]; exact (by decide : 2 ≤ 640)
 | _ => exact H.elim
theorem strOf_snd {i : Int} {t : Tok} (I : f.I φ α d σ s.heap) (H : T.Sat d (biCall .str [.int i]) (BQ f φ α σ s Q) (EE f φ α s E)) : wpAny (model f.prog f.w) A (call (.type "str") [.int i t]) Q E s := by
 refine T.Sat.iteE H fun hc H => ?_
 obtain ⟨k,rfl⟩ := Int.eq_ofNat_of_zero_le hc.1
 refine PySem.P.str_of_int ?_ (QQ.here H I (.str _ _ hc.2.2))
 rw [Int.natAbs_natCast]
 by_cases z : k = 0
 ·rw [z]; decide
 ·exact Nat.lt_trans ((Nat.log2_lt z).mpr (Int.ofNat_lt.mp hc.2.1)) (by decide)
theorem list_snd {v : Value} {l : List PV} (I : f.I φ α d σ s.heap) (q : Rep f.p φ v (.list l)) (H : BQ f φ α σ s Q d (.list l)) : wpAny (model f.prog f.w) A (call (.type "list") [v]) Q E s := by
 obtain ⟨a,us,rfl,⟨o,ho,hc,n,hd⟩,hz,qs⟩ := q.seqOf I
 refine call_list_seq a (.inl rfl) ho hc hd (fun h' c' hk hD => ?_) (Nat.le_trans (show us.toArray.size ≤ lineB from hz) sizeLine_lineB)
 have hn : s.heap.get? s.heap.objs.size = none := get_size s.heap
 obtain ⟨I₂,ex⟩ := FI.new I hk hD hn
 exact H _ h' s.toks _ ex I₂ (.list (put_self ..) hz (qs.mono ex.1))
theorem bytes_snd {v : Value} {l : List PV} (hA : AOk n f.fs A) (I : f.I φ α d σ s.heap) (q : Rep f.p φ v (.list l)) (H : T.Sat d (biCall .bytes [.list l]) (BQ f φ α σ s Q) (EE f φ α s E)) : wpAny (model f.prog f.w) A (call (.type "bytes") [v]) Q E s := by
 obtain ⟨a,us,rfl,hl,hz,qs⟩ := q.seqOf I
 refine T.Sat.optE H fun bs hb H => ?_
 obtain ⟨ns,h1,h2,rfl⟩ := octs_some qs hb
 exact call_bytes_ints hl h1 h2 (Nat.le_trans hz sizeLine_lineB) hA.handled fun h' t k hk => H _ h' k φ (Ext.refl ..) (I.keeps hk) (.byt _ _ (by rw [byteArr,List.size_toArray,List.length_map,← h1.length]; exact hz))
theorem ord_snd {v : Value} {x : PV} (I : f.I φ α d σ s.heap) (q : Rep f.p φ v x) (H : T.Sat d (strV x fun s => one s.cps.toList fun c => .ret (.int c)) (BQ f φ α σ s Q) (EE f φ α s E)) : wpAny (model f.prog f.w) A (call (.builtin "ord") [v]) Q E s := by
 refine T.Sat.strVE H fun x eq1 H => ?_
 subst eq1
 obtain ⟨t,rfl,_⟩ := q.strOf
 refine T.Sat.oneE H fun c hc H => ?_
 obtain ⟨arr⟩ := x
 have e : arr = #[c] := Array.ext' hc
 subst e
 exact PySem.P.ord_of_char (QQ.here H I (.int _ _))
theorem bi_snd {id : Bi} {vs : List Value} {xs : List PV} (hA : AOk n f.fs A) (I : f.I φ α d σ s.heap) (r : Reps f.p φ vs xs) (H : T.Sat d (biCall id xs >>= fun z => pure (z,σ)) (QQ f (Rep f.p) φ α s Q) (EE f φ α s E)) :
  wpAny (model f.prog f.w) A (call (biVal id) vs) Q E s := by
 replace H : T.Sat d (biCall id xs) (BQ f φ α σ s Q) (EE f φ α s E) := H.bind
 refine T.Sat.oneE H fun x eq1 H' => ?_
 subst eq1
 obtain ⟨v,rfl,q⟩ : ∃ v,vs = [v] ∧ Rep f.p φ v x := by
  cases r with
  | cons a b => cases b; exact ⟨_,rfl,a⟩
 cases id with
 | len =>
  cases x with
  | list l => exact len_snd (by have := q.inv; obtain ⟨_,_,_,_,_,hz,qs⟩ := this; exact qs.length ▸ hz) (fun t k => H' _ s.heap k φ (Ext.refl ..) I (.int _ _)) I q rfl
  | tup l => exact len_snd (by have := q.inv; obtain ⟨_,_,_,_,_,_,_,_,hz,qs⟩ := this; exact qs.length ▸ hz) (fun t k => H' _ s.heap k φ (Ext.refl ..) I (.int _ _)) I q rfl
  | byt l => exact len_snd (let ⟨_,_,hz⟩ := q.inv; hz) (fun t k => H' _ s.heap k φ (Ext.refl ..) I (.int _ _)) I q rfl
  | str l => exact len_snd (let ⟨_,_,hz⟩ := q.inv; hz) (fun t k => H' _ s.heap k φ (Ext.refl ..) I (.int _ _)) I q rfl
  | _ => exact H'.elim
 | abs =>
  refine int_ofE q H' fun i t eq1 H' => ?_
  subst eq1
  refine call_abs_int fun u tk => QQ.here H' I ?_
  rw [show (if i < 0 then -i else i) = (i.natAbs : Int) by split <;> omega]
  exact .int _ _
 | chr =>
  refine int_ofE q H' fun i t eq1 H' => ?_
  subst eq1
  refine T.Sat.iteE H' fun hc H' => ?_
  exact chr_of_range hc.1 (by have := hc.2; omega) (QQ.here H' I (.str _ _ (show 1 ≤ lineB by decide)))
 | ord => exact ord_snd I q H'
 | list =>
  refine T.Sat.listVE H' fun l eq1 H' => ?_
  subst eq1
  exact list_snd I q H'
 | tuple =>
  cases x with
  | tup l =>
   obtain ⟨a,us,rfl,hl,hz,qs⟩ := q.tupOf I
   exact call_tuple_tup hl (QQ.here0 H' I q)
  | _ => exact H'.elim
 | bytes =>
  refine T.Sat.listVE H' fun l eq1 _ => ?_
  subst eq1
  exact bytes_snd hA I q H
 | int => exact int_snd I q H
 | str =>
  refine int_ofE q H' fun i t eq1 _ => ?_
  subst eq1
  exact strOf_snd I (by obtain ⟨i',rfl,_⟩ := T.Sat.intV H'; obtain ⟨t',e⟩ := q.intOf; cases e; exact H)
 | none => exact H'.elim
end
end Mine
end
section
open PySem PySem.W PyProof.Rows PySem.Builtin
namespace Mine
namespace BF
section
variable {b c : Array UInt8} {t u : Tok}
theorem take_eq {id : String} {fl : Int} (hf : (fl == Bytes.fullReadOnly) = false) : Bytes.takeBufferQuiet? id (.bytes b t) fl = pure (some (b,none)) := by
 unfold Bytes.takeBufferQuiet? Bytes.takeBuffer?
 rw [KBy.special_eq KBy.look_buffer,KBy.own_buffer,hf,KBy.buffer_eq]
 kernel_rfl
theorem joinItems_list {M : Model} {A : Around} {E : Value->Shared->Prop} {s : Shared} {a : Addr} {vs : Array Value} {Q : Value->Shared->Prop} (hl : s.heap.IsList a vs) (h : Q (.ref a) s) : wpAny M A (Bytes.joinItems (.ref a)) Q E s := by
 unfold Bytes.joinItems
 refine wpAny_bind (wpAny_typeOf (Heap.IsList.typeIs hl) ?_)
 exact wpAny_pure h
noncomputable def joinSpec (a : Addr) (vs : List Value) (r : Array UInt8) : PySem.Spec := fun _ R s => s.heap.IsList a vs.toArray ∧ ∀ t tk,R (.ok (.ret (.bytes r t))) { s with toks := tk }
theorem join0 (a : Addr) (t : Tok) : Meets (Builtin.«bytes.join» ⟨[.bytes #[] t,.ref a],[]⟩) (joinSpec a [] #[]) := fun prog w A R s ⟨hl,hr⟩ => by
 have hl' := hl
 obtain ⟨o,ho,hc,n,hd⟩ := hl'
 show wpAny _ _ (Bytes.joinItems (.ref a) >>= fun r => _) _ _ s
 refine wpAny_bind (joinItems_list hl ?_)
 refine wpAny_bind (wpAny_seqItems ho hd ?_)
 dsimp only
 rw [Std.Legacy.Range.forIn_eq_forIn_range']
 refine wpAny_bind (wpAny_pure ?_)
 repeat wp_step
 exact hr _ _
theorem join1 (a : Addr) (t : Tok) (b : Array UInt8) (u : Tok) : Meets (Builtin.«bytes.join» ⟨[.bytes #[] t,.ref a],[]⟩) (joinSpec a [.bytes b u] b) := fun prog w A R s ⟨hl,hr⟩ => by
 have hl' := hl
 obtain ⟨o,ho,hc,n,hd⟩ := hl'
 show wpAny _ _ (Bytes.joinItems (.ref a) >>= fun r => _) _ _ s
 refine wpAny_bind (joinItems_list hl ?_)
 refine wpAny_bind (wpAny_seqItems ho hd ?_)
 refine wpAny_bind (wpAny_typeOf (typeIs_bytes s b u) ?_)
 exact wpAny_bind (wpAny_rule (wpAny_pure (hr u s.toks)))
theorem fits_line {x : Array UInt8} (h : Bytes.tooLong x.size = false) : x.size ≤ sizeLine := by
 unfold Bytes.tooLong at h
 simpa using h
theorem join2 (a : Addr) (t : Tok) (b c : Array UInt8) (u v : Tok) (hz : Bytes.tooLong (b.size + c.size) = false) : Meets (Builtin.«bytes.join» ⟨[.bytes #[] t,.ref a],[]⟩) (joinSpec a [.bytes b u,.bytes c v] (b ++ c)) := fun prog w A R s ⟨hl,hr⟩ => by
 have hl' := hl
 obtain ⟨o,ho,hc,n,hd⟩ := hl'
 show wpAny _ _ (Bytes.joinItems (.ref a) >>= fun r => _) _ _ s
 refine wpAny_bind (joinItems_list hl ?_)
 refine wpAny_bind (wpAny_seqItems ho hd ?_)
 have rg : ∀ (f : Nat->Array (Array UInt8) × List (Value × Option Value)->Sem (ForInStep (Array (Array UInt8) × List (Value × Option Value)))) (i₀),(forIn (m := Sem) [:(#[Value.bytes b u,Value.bytes c v] : Array Value).size] i₀ f) = forIn [0,1] i₀ f := fun f i₀ => by
  rw [Std.Legacy.Range.forIn_eq_forIn_range']
  have e : List.range' [:(#[Value.bytes b u,Value.bytes c v] : Array Value).size].start [:(#[Value.bytes b u,Value.bytes c v] : Array Value).size].size [:(#[Value.bytes b u,Value.bytes c v] : Array Value).size].step = [0,1] := by simp [Std.Legacy.Range.size,List.range']
  rw [e]
 show wpAny _ _ (forIn (m := Sem) [:(#[Value.bytes b u,Value.bytes c v] : Array Value).size] _ _ >>= fun r => _) _ _ s
 rw [rg,List.forIn_cons]
 refine wpAny_bind (wpAny_bind (wpAny_bind (wpAny_seqItems ho hd ?_)))
 refine wpAny_bind (wpAny_holding (wpAny_of_eq (take_eq (by decide +kernel)) ?_))
 refine wpAny_bind (wpAny_seqItems ho hd ?_)
 refine wpAny_pure ?_
 dsimp only
 rw [List.forIn_cons]
 refine wpAny_bind (wpAny_bind (wpAny_seqItems ho hd ?_))
 refine wpAny_bind (wpAny_holding (wpAny_of_eq (take_eq (by decide +kernel)) ?_))
 refine wpAny_bind (wpAny_seqItems ho hd ?_)
 refine wpAny_pure ?_
 refine wpAny_pure ?_
 refine wpAny_bind (wpAny_bind (wpAny_pure (wpAny_pure ?_)))
 have e1 : Bytes.tooLong (Array.foldl (fun x1 x2 => x1 + x2.size) ((#[] : Array UInt8).size * ((#[b,c] : Array (Array UInt8)).size - 1)) (#[b,c] : Array (Array UInt8))) = false := by
  rw [← hz]
  congr 1
  simp
 have e2 : Bytes.joined (#[] : Array UInt8) [b,c] = b ++ c := by
  simp [Bytes.joined]
 show wpAny _ _ (if Bytes.tooLong (Array.foldl (fun x1 x2 => x1 + x2.size) ((#[] : Array UInt8).size * ((#[b,c] : Array (Array UInt8)).size - 1)) (#[b,c] : Array (Array UInt8))) = true then _ else _) _ _ s
 rw [e1,if_neg Bool.false_ne_true]
 have hs : (b ++ c).size ≤ sizeLine := fits_line (by rw [Array.size_append]; exact hz)
 show wpAny _ _ (mkBytes (Bytes.joined (#[] : Array UInt8) [b,c]) >>= fun r => _) _ _ s
 rw [e2]
 refine wpAny_bind (wpAny_mkBytes ?_ hs)
 refine wpAny_bind (wpAny_holding (wpAny_point ?_))
 refine wpAny_bind ?_
 show wpAny _ _ (Bytes.joinLetGo [(.bytes b u,none),(.bytes c v,none)] _) _ _ _
 unfold Bytes.joinLetGo
 refine wpAny_bind (wpAny_letGo ?_)
 unfold Bytes.joinLetGo
 refine wpAny_bind (wpAny_letGo ?_)
 unfold Bytes.joinLetGo
 exact wpAny_pure (wpAny_pure (hr _ _))
end
end BF
section
variable {f : Fm} {φ₀ φ : Ob} {A : Around} {C : Cx} {P : Lv} {n : Nat} {α : Nat->Addr} {d : Nat} {σ : Sto} {h : Heap} {s : Shared} {Q : Value->Shared->Prop} {E : Value->Shared->Prop}
theorem bytsOf_some {vs : List Value} {l : List PV} (r : Reps f.p φ vs l) : ∀ {bs : List UInt8},bytsOf l = some bs->∃ ns : List (Byt × Tok),vs = ns.map (fun p => .bytes p.1 p.2) ∧ (ns.map fun p => p.1.toList).flatten = bs :=
 r.ind (M := fun vs l => ∀ {bs : List UInt8},bytsOf l = some bs->∃ ns : List (Byt × Tok),vs = ns.map (fun p => .bytes p.1 p.2) ∧ (ns.map fun p => p.1.toList).flatten = bs) (fun h => ⟨[],rfl,Option.some.inj h⟩) fun {v x vs xs} rx _ ih {bs} h => by
  cases x with
  | byt b =>
   obtain ⟨t,rfl,_⟩ := rx.bytOf
   obtain ⟨b',q,rfl⟩ := Option.map_eq_some_iff.mp h
   obtain ⟨ns,rfl,rfl⟩ := ih q
   exact ⟨(b,t) :: ns,rfl,rfl⟩
  | _ => exact noOpt h
theorem strsOf_some {vs : List Value} {l : List PV} (r : Reps f.p φ vs l) : ∀ {bs : List Nat},strsOf l = some bs->∃ ns : List (Str × Tok),vs = strValues ns ∧ (ns.map fun p => p.1.cps.toList).flatten = bs :=
 r.ind (M := fun vs l => ∀ {bs : List Nat},strsOf l = some bs->∃ ns : List (Str × Tok),vs = strValues ns ∧ (ns.map fun p => p.1.cps.toList).flatten = bs) (fun h => ⟨[],rfl,Option.some.inj h⟩) fun {v x vs xs} rx _ ih {bs} h => by
  cases x with
  | str b =>
   obtain ⟨t,rfl,_⟩ := rx.strOf
   obtain ⟨b',q,rfl⟩ := Option.map_eq_some_iff.mp h
   obtain ⟨ns,rfl,rfl⟩ := ih q
   exact ⟨(b,t) :: ns,rfl,rfl⟩
  | _ => exact noOpt h
theorem join_empty : ∀ (l : List Str),(Str.join ⟨#[]⟩ l).cps.toList = (l.map fun x => x.cps.toList).flatten
 | [] => rfl
 | [x] => by simp [Str.join]
 | x :: y :: r => by
  rw [Str.join,List.map_cons,List.flatten_cons,← join_empty (y :: r)]
  show ((x.cps ++ #[]) ++ (Str.join ⟨#[]⟩ (y :: r)).cps).toList = _
  simp
  intro q; cases q
theorem sum_flat (l : List Str) : ((l.map fun x => x.cps.toList).flatten).length = (l.map (·.length)).sum := by
 rw [List.length_flatten,List.map_map]
 congr 1
theorem lower_eq (b : UInt8) : lowerB b = Bytes.toLower b := by
 unfold lowerB Bytes.toLower Bytes.isUpper
 have e : (decide (65 ≤ b) && decide (b ≤ 90)) = decide (65 ≤ b.toNat ∧ b.toNat ≤ 90) := by
  rw [Bool.eq_iff_iff]
  simp [UInt8.le_iff_toNat_le]
 rw [e]
 simp
noncomputable def Mt.id : Mt->String
 | .find _ => "bytes.find" | .starts _ => "bytes.startswith" | .lower _ => "bytes.lower" | .joinB => "bytes.join" | .findS _ => "str.find" | .joinS => "str.join"
noncomputable def Mt.val (t : Tok) : Mt->Value
 | .find b => .bytes b t | .starts b => .bytes b t | .lower b => .bytes b t | .joinB => .bytes #[] t | .findS b => .str b t | .joinS => .str ⟨#[]⟩ t
noncomputable def Mt.fits : Mt->Prop
 | .lower b => b.size ≤ lineB
 | _ => True
variable {E' : Nat->PV->Sto->Prop} {vs : List Value} {xs : List PV} {t : Tok}
theorem one_of {x : PV} (r : Reps f.p φ vs [x]) : ∃ v,vs = [v] ∧ Rep f.p φ v x := by
 cases r with
 | cons a b => cases b; exact ⟨_,rfl,a⟩
theorem two_of {x y : PV} (r : Reps f.p φ vs [x,y]) : ∃ v u,vs = [v,u] ∧ Rep f.p φ v x ∧ Rep f.p φ u y := by
 cases r with
 | cons a b => obtain ⟨u,rfl,q⟩ := one_of b; exact ⟨_,u,rfl,a,q⟩
theorem one_ofE {x : PV} {Z : Prop} (r : Reps f.p φ vs [x]) (k : ∀ v,vs = [v]->Rep f.p φ v x->Z) : Z := let ⟨v,e,q⟩ := one_of r; k v e q
theorem two_ofE {x y : PV} {Z : Prop} (r : Reps f.p φ vs [x,y]) (k : ∀ v u,vs = [v,u]->Rep f.p φ v x->Rep f.p φ u y->Z) : Z := let ⟨v,u,e,q,q'⟩ := two_of r; k v u e q q'
theorem find_call {b : Byt} (I : f.I φ α d σ s.heap) (r : Reps f.p φ vs xs) (H : T.Sat d (findT b xs) (BQ f φ α σ s Q) E') : wpAny (model f.prog f.w) A (call (.builtin "bytes.find") (.bytes b t :: vs)) Q E s := by
 cases xs with
 | nil => exact H.elim
 | cons x xs => cases xs with
  | nil =>
   refine one_ofE r fun v eq1 q => ?_
   subst eq1
   refine byt_ofE q H fun n u eq1 _ H => ?_
   subst eq1
   exact call_gives BF.slot_find (typeIs_bytes s b t) BF.entry_find (BF.args_find_2 _ _) (BF.gives_find2 _ _ _ _) ((show BQ f φ α σ s Q d _ from H).here I (.int _ _))
  | cons y xs =>
   refine T.Sat.chkE H fun hl H => ?_
   cases List.isEmpty_iff.mp hl
   refine two_ofE r fun v v' eq1 q q' => ?_
   subst eq1
   refine byt_ofE q H fun n u eq1 _ H => ?_
   subst eq1
   refine int_ofE q' H fun k u' eq1 H => ?_
   subst eq1
   refine T.Sat.iteE H fun hk H => ?_
   obtain ⟨j,rfl⟩ := Int.eq_ofNat_of_zero_le hk
   exact call_gives BF.slot_find (typeIs_bytes s b t) BF.entry_find (BF.args_find_3 _ _ _) (BF.gives_find3 _ _ _ _ _ j) ((show BQ f φ α σ s Q d _ from H).here I (.int _ _))
theorem lower_call {b : Byt} (hb : b.size ≤ lineB) (I : f.I φ α d σ s.heap) (H : BQ f φ α σ s Q d (.byt (b.map lowerB))) : wpAny (model f.prog f.w) A (call (.builtin "bytes.lower") [.bytes b t]) Q E s := by
 have e : (b.toList.map Bytes.toLower).toArray = b.map lowerB := by
  rw [show lowerB = Bytes.toLower from funext lower_eq]
  exact Array.ext' (Array.toList_map ..).symm
 have hz : (b.map lowerB).size ≤ lineB := by rw [Array.size_map]; exact hb
 refine call_gives BF.slot_lower (typeIs_bytes s b t) BF.entry_lower (BF.args_lower_1 _) (BF.gives_lower _ _ (Nat.le_trans hb sizeLine_lineB)) ⟨?_,?_⟩
 ·rw [e]; exact Nat.le_trans hz sizeLine_lineB
 ·rw [e]; exact (show BQ f φ α σ s Q d _ from H).here I (.byt _ _ hz)
theorem joinB_done {a : Addr} {us : List Value} {bs : List UInt8} {r : Byt} (I : f.I φ α d σ s.heap) (hl : s.heap.IsList a us.toArray) (hz : bs.length ≤ lineB) (hr : r.toList = bs) (g : Meets (Builtin.«bytes.join» ⟨[.bytes #[] t,.ref a],[]⟩) (BF.joinSpec a us r)) (H : BQ f φ α σ s Q d (.byt bs.toArray)) :
  wpAny (model f.prog f.w) A (call (.builtin "bytes.join") [.bytes #[] t,.ref a]) Q E s := by
 subst hr
 refine call_meets BF.slot_join (typeIs_bytes s _ t) BF.entry_join (BF.args_join_2 _ _) g ⟨hl,fun t' tk => ?_⟩
 exact H _ s.heap tk φ (Ext.refl ..) I (.byt _ _ hz)
theorem joinB_call {v : Value} {l : List PV} (I : f.I φ α d σ s.heap) (q : Rep f.p φ v (.list l)) (H : T.Sat d (joinB l) (BQ f φ α σ s Q) E') : wpAny (model f.prog f.w) A (call (.builtin "bytes.join") [.bytes #[] t,v]) Q E s := by
 obtain ⟨a,us,rfl,hl,_,q⟩ := q.seqOf I
 refine T.Sat.optE H fun bs hbs H => ?_
 refine T.Sat.chkE H fun hc H0 => ?_
 refine T.Sat.needE H0 fun hz H => ?_
 replace hz := Nat.le_of_ble_eq_true hz
 obtain ⟨ns,rfl,hf⟩ := bytsOf_some q hbs
 have hln : ns.length ≤ 2 := List.length_map .. ▸ q.length ▸ Nat.le_of_ble_eq_true hc
 cases ns with
 | nil => exact joinB_done I hl hz hf (BF.join0 a t) H
 | cons p ns => cases ns with
  | nil => exact joinB_done (r := p.1) I hl hz ((List.append_nil _).symm.trans hf) (BF.join1 a t p.1 p.2) H
  | cons r ns => cases ns with
   | nil =>
    have hf : p.1.toList ++ r.1.toList = bs := (congrArg (p.1.toList ++ ·) (List.append_nil _)).symm.trans hf
    refine joinB_done (r := p.1 ++ r.1) I hl hz (Array.toList_append.trans hf) (BF.join2 a t p.1 r.1 p.2 r.2 (KBy.tooLong_not (Nat.le_trans ?_ (by decide : lineB ≤ 16777216)))) H
    rw [← hf,List.length_append] at hz; exact hz
   | cons => exact absurd hln (by simp)
theorem joinS_call {v : Value} {l : List PV} (I : f.I φ α d σ s.heap) (q : Rep f.p φ v (.list l)) (H : T.Sat d (joinS l) (BQ f φ α σ s Q) E') : wpAny (model f.prog f.w) A (call (.builtin "str.join") [.str ⟨#[]⟩ t,v]) Q E s := by
 obtain ⟨a,us,rfl,hl,_,q⟩ := q.seqOf I
 refine T.Sat.optE H fun bs hbs H => ?_
 refine T.Sat.chkE H fun hc H => ?_
 replace hc := Nat.le_of_ble_eq_true hc
 obtain ⟨ns,rfl,rfl⟩ := strsOf_some q hbs
 have e : ((ns.map (·.1)).map fun x => x.cps.toList) = ns.map fun p => p.1.cps.toList := List.map_map ..
 have ej : Txt.join ⟨#[]⟩ (ns.map (·.1)) = ⟨(ns.map fun p => p.1.cps.toList).flatten.toArray⟩ := by
  show Builtin.Str.glued _ _ = _
  rw [StrLaws.glued_eq_join]
  exact congrArg Str.mk (Array.ext' ((join_empty (ns.map (·.1))).trans (congrArg _ e)))
 refine SC.join hl rfl ?_ fun t' k => ?_
 ·unfold JoinOk
  rw [StrLaws.joinTotal,← sum_flat,e]
  refine (Bool.not_eq_true' _).mpr (decide_eq_false (Nat.not_lt.mpr (Nat.le_trans ?_ sizeLine_lineB)))
  exact hc
 ·rw [ej]
  exact H _ s.heap k φ (Ext.refl ..) I (.str _ _ hc)
theorem findIdx_none {l : List Nat} {c : Nat} (h : ∀ i : Nat,l[i]? ≠ some c) : l.findIdx? (· == c) = none := by
 rw [List.findIdx?_eq_none_iff]
 intro x hx
 obtain ⟨i,hi,e⟩ := List.getElem_of_mem hx
 have := h i
 rw [List.getElem?_eq_getElem hi,e] at this
 simp only [beq_eq_false_iff_ne]
 exact fun z => this (by rw [z])
theorem findIdx_at {l : List Nat} {c k : Nat} (h : l[k]? = some c) (hn : ∀ i : Nat,i < k->l[i]? ≠ some c) : l.findIdx? (· == c) = some k := by
 obtain ⟨hk,e⟩ := List.getElem?_eq_some_iff.mp h
 rw [List.findIdx?_eq_some_iff_getElem]
 refine ⟨hk,by simp [e],fun j hj => ?_⟩
 have := hn j hj
 rw [List.getElem?_eq_getElem (by omega)] at this
 simpa using fun z => this (by rw [z])
theorem findS_eq (x : Str) (c : Nat) : (match Builtin.Str.occurrences x ⟨#[c]⟩ 0 x.length 1 with | i :: _ => (i : Int) | [] => -1) = (match x.cps.toList.findIdx? (· == c) with | some k => (k : Int) | none => -1) := by
 rcases StrLaws.occ_head_from x ⟨#[c]⟩ 0 1 (Nat.le_refl 1) with ⟨h0,hn⟩ | ⟨k,r,h0,hlo,hk,hn⟩
 ·rw [h0,findIdx_none fun i h => hn i (Nat.zero_le _) ((StrLaws.subAt_one x c i).mpr h)]
 ·rw [h0,findIdx_at ((StrLaws.subAt_one x c k).mp hk) fun i hi h => hn i (Nat.zero_le _) hi ((StrLaws.subAt_one x c i).mpr h)]
theorem gives_findS (x : Str) (c : Nat) (t u : Tok) : Gives (Builtin.«str.find» ⟨[.str x t,.str ⟨#[c]⟩ u],[]⟩) (.int (match x.cps.toList.findIdx? (· == c) with | some k => (k : Int) | none => -1)) :=
 Eq.mp (congrArg (fun z => Gives (Builtin.«str.find» ⟨[.str x t,.str ⟨#[c]⟩ u],[]⟩) (.int z)) (findS_eq x c)) (gives_str_find x ⟨#[c]⟩ t u)
theorem starts_call {b : Byt} (I : f.I φ α d σ s.heap) (r : Reps f.p φ vs xs) (H : T.Sat d (mtCall (.starts b) xs) (BQ f φ α σ s Q) E') : wpAny (model f.prog f.w) A (call (.builtin "bytes.startswith") (.bytes b t :: vs)) Q E s := by
 refine T.Sat.twoE H fun x y eq1 H => ?_
 subst eq1
 refine two_ofE r fun v v' eq1 q q' => ?_
 subst eq1
 refine byt_ofE q H fun n u eq1 _ H => ?_
 subst eq1
 refine int_ofE q' H fun k u' eq1 H => ?_
 subst eq1
 refine T.Sat.iteE H fun hk H => ?_
 obtain ⟨j,rfl⟩ := Int.eq_ofNat_of_zero_le hk
 exact call_gives FB.slot_bytes_startswith (typeIs_bytes s b t) FB.entry_bytes_startswith (BF.args_startswith_3 _ _ _) (BF.gives_starts _ _ _ _ _ j) ((show BQ f φ α σ s Q d _ from H).here0 I (.bool _))
theorem findS_call {b : Str} (I : f.I φ α d σ s.heap) (r : Reps f.p φ vs xs) (H : T.Sat d (mtCall (.findS b) xs) (BQ f φ α σ s Q) E') : wpAny (model f.prog f.w) A (call (.builtin "str.find") (.str b t :: vs)) Q E s := by
 refine T.Sat.oneE H fun x eq1 H => ?_
 subst eq1
 refine T.Sat.strVE H fun y eq1 H => ?_
 subst eq1
 refine one_ofE r fun v eq1 q => ?_
 subst eq1
 obtain ⟨u,rfl,_⟩ := q.strOf
 refine T.Sat.oneE H fun c hc H => ?_
 obtain ⟨arr⟩ := y
 have e : arr = #[c] := Array.ext' hc
 subst e
 exact call_gives F.slot_str_find (typeIs_str s b t) F.entry_str_find (F.args_str_find_2 _ _) (gives_findS b c _ _) ((show BQ f φ α σ s Q d _ from H).here I (.int _ _))
theorem mt_call {k : Mt} (hk : k.fits) (I : f.I φ α d σ s.heap) (r : Reps f.p φ vs xs) (H : T.Sat d (mtCall k xs) (BQ f φ α σ s Q) E') : wpAny (model f.prog f.w) A (call (.builtin k.id) (k.val t :: vs)) Q E s := by
 cases k with
 | find b => exact find_call I r H
 | starts b => exact starts_call I r H
 | lower b =>
  refine T.Sat.chkE H fun he H => ?_
  cases List.isEmpty_iff.mp he
  cases r
  exact lower_call hk I H
 | joinB =>
  refine T.Sat.oneE H fun x eq1 H => ?_
  subst eq1
  refine T.Sat.listVE H fun l eq1 H => ?_
  subst eq1
  refine one_ofE r fun v eq1 q => ?_
  subst eq1
  exact joinB_call I q H
 | joinS =>
  refine T.Sat.oneE H fun x eq1 H => ?_
  subst eq1
  refine T.Sat.listVE H fun l eq1 H => ?_
  subst eq1
  refine one_ofE r fun v eq1 q => ?_
  subst eq1
  exact joinS_call I q H
 | findS b => exact findS_call I r H
section
variable {M : Model} {pl : Sem Bool} {Q : Value × List Value->Shared->Prop} {x : Byt} {y : Str}
theorem noDictB (a : Addr) (e : Value.bytes x t = .ref a) : ∃ o,s.heap.get? a = some o ∧ o.dict = none := nomatch e
theorem noDictS (a : Addr) (e : Value.str y t = .ref a) : ∃ o,s.heap.get? a = some o ∧ o.dict = none := nomatch e
theorem get_find (h : Q (.builtin "bytes.find",[.bytes x t]) s) : wpAny M A (getMethod (.bytes x t) "find" pl) Q E s := by
 with_reducible exact getMethod_builtin (T := "bytes") (id := "bytes.find") (typeIs_bytes s x t) FB.plainAttrs_bytes BF.slot_find BF.type_find noDictB h
theorem get_starts (h : Q (.builtin "bytes.startswith",[.bytes x t]) s) : wpAny M A (getMethod (.bytes x t) "startswith" pl) Q E s := by
 with_reducible exact getMethod_builtin (T := "bytes") (id := "bytes.startswith") (typeIs_bytes s x t) FB.plainAttrs_bytes FB.slot_bytes_startswith FB.type_bytes_startswith noDictB h
theorem get_lower (h : Q (.builtin "bytes.lower",[.bytes x t]) s) : wpAny M A (getMethod (.bytes x t) "lower" pl) Q E s := by
 with_reducible exact getMethod_builtin (T := "bytes") (id := "bytes.lower") (typeIs_bytes s x t) FB.plainAttrs_bytes BF.slot_lower BF.type_lower noDictB h
theorem get_joinB (h : Q (.builtin "bytes.join",[.bytes x t]) s) : wpAny M A (getMethod (.bytes x t) "join" pl) Q E s := by
 with_reducible exact getMethod_builtin (T := "bytes") (id := "bytes.join") (typeIs_bytes s x t) FB.plainAttrs_bytes BF.slot_join BF.type_join noDictB h
theorem get_findS (h : Q (.builtin "str.find",[.str y t]) s) : wpAny M A (getMethod (.str y t) "find" pl) Q E s := by
 with_reducible exact getMethod_builtin (T := "str") (id := "str.find") (typeIs_str s y t) F.plainAttrs_str F.slot_str_find F.type_str_find noDictS h
theorem get_joinS (h : Q (.builtin "str.join",[.str y t]) s) : wpAny M A (getMethod (.str y t) "join" pl) Q E s := by
 with_reducible exact getMethod_builtin (T := "str") (id := "str.join") (typeIs_str s y t) F.plainAttrs_str F.slot_str_join F.type_str_join noDictS h
end
noncomputable def Got (m : Str) (ov : Value) (k : Mt) : Prop := ∃ t,ov = k.val t ∧ k.fits ∧ ∀ {M : Model} {A : Around} {E : Value->Shared->Prop} {s : Shared} {pl : Sem Bool} {Q : Value × List Value->Shared->Prop},Q (.builtin k.id,[ov]) s->wpAny M A (getMethod ov m pl) Q E s
theorem got_ite {c : Bool} {a : Mt} {b : Option Mt} {k : Mt} {P : Prop} (h : (if c then some a else b) = some k) (y : c = true->a = k->P) (n : b = some k->P) : P := by
 cases c with
 | true => exact y rfl (Option.some.inj h)
 | false => exact n h
theorem mt_got {m : Str} {ov : Value} {x : PV} {k : Mt} (h : mtOf x m = some k) (r : Rep f.p φ ov x) : Got m ov k := by
 cases x with
 | byt b =>
  obtain ⟨t,rfl,hz⟩ := r.bytOf
  refine got_ite h (fun c e => ?_) fun h => got_ite h (fun c e => ?_) fun h => got_ite h (fun c e => ?_) fun h => got_ite h (fun c e => ?_) fun h => noOpt h
  ·cases seq_iff.mp c; cases e; exact ⟨t,rfl,trivial,get_find⟩
  ·cases seq_iff.mp c; cases e; exact ⟨t,rfl,trivial,get_starts⟩
  ·cases seq_iff.mp c; cases e; exact ⟨t,rfl,hz,get_lower⟩
  ·refine and2 c fun c c' => ?_
   cases seq_iff.mp c; cases e; cases Array.eq_empty_of_size_eq_zero (eq_of_beq c'); exact ⟨t,rfl,trivial,get_joinB⟩
 | str b =>
  obtain ⟨t,rfl,hz⟩ := r.strOf
  refine got_ite h (fun c e => ?_) fun h => got_ite h (fun c e => ?_) fun h => noOpt h
  ·cases seq_iff.mp c; cases e; exact ⟨t,rfl,trivial,get_findS⟩
  ·refine and2 c fun c1 c2 => ?_
   obtain ⟨y⟩ := b
   cases seq_iff.mp c1; cases e; cases (Array.eq_empty_of_size_eq_zero (eq_of_beq c2) : y = #[]); exact ⟨t,rfl,trivial,get_joinS⟩
 | _ => exact noOpt h
theorem meth_snd {m : Str} {ov : Value} {x : PV} {k : Mt} (hx : mtOf x m = some k) {args : List Expr} {pos : Pos} {pl : Sem Bool} (hE : ∀ φ₀ x,f.S φ₀ (Rep f.p) A (eval x f.env) (fun σ => P.ev f.env.scope σ x))
  (hp : args.all plainR = true) (I : f.I φ α d σ s.heap) (r : Rep f.p φ ov x) (H : T.Sat d (evs P f.env.scope σ args >>= fun y => mtCall k y.1 >>= fun z => pure (z,y.2)) (QQ f (Rep f.p) φ α s Q) (EE f φ α s E)) :
  wpAny (model f.prog f.w) A (getMethod ov m pl) (fun fx s₂ => wpAny (model f.prog f.w) A (callWith pos fx.1 fx.2 (backTo pos (starEach args f.env)) []) Q E s₂) E s := by
 obtain ⟨t,rfl,hk,g⟩ := mt_got hx r
 exact g (evArgs_cps (first := [k.val t]) hE (.bi _) hp I H fun φ₁ vs xs σ₁ s₁ d₁ le₁ I₁ r₁ H₁ => mt_call hk I₁ r₁ H₁.bind)
end
section
variable {f : Fm} {φ₀ φ : Ob} {A : Around} {C : Cx} {P : Lv} {n : Nat} {α : Nat->Addr} {d : Nat} {σ : Sto} {h : Heap} {s : Shared} {Q : Value->Shared->Prop} {E : Value->Shared->Prop}
theorem methOk_some {apos pos : Pos} {args : List Expr} (hm : methOk apos pos args = true) : (apos.endLine == pos.line) = true ∧ args.all plainR = true ∧ args.length < 28 :=
 have ⟨a,c⟩ := (Bool.and_eq_true_iff ..).mp hm
 have ⟨a,b⟩ := (Bool.and_eq_true_iff ..).mp a
 ⟨a,b,Nat.le_of_ble_eq_true c⟩
theorem methodCall_gen {o : Expr} {m : Str} {apos pos : Pos} {args : List Expr} {Q : Value->Shared->Prop} (hb : attributeBase o m f.env (eval o f.env) = eval o f.env) (hm : methOk apos pos args = true)
  (h : wpAny (model f.prog f.w) A (eval o f.env) (fun ov s₁ => ∀ pl,wpAny (model f.prog f.w) A (getMethod ov m pl) (fun fx s₂ => wpAny (model f.prog f.w) A (callWith pos fx.1 fx.2 (backTo pos (starEach args f.env)) []) Q E s₂) E s₁) E s) :
  wpAny (model f.prog f.w) A (eval (.Call (.Attribute o m apos) args [] pos) f.env) Q E s := by
 obtain ⟨h1,h2,h3⟩ := methOk_some hm
 have form : methodCallForm (args.length + ([] : List Keyword).length) (backTo pos (starEach args f.env)) (backToKw pos (keywordEach [] f.env)) = true := by
  unfold methodCallForm
  have e1 : (backTo pos (starEach args f.env)).all (!·.1) = true := List.all_eq_true.mpr fun x hx => Bool.not_eq_true' _ ▸ Bool.eq_false_iff.mpr (List.any_eq_false.mp (stars_plain (env := f.env) (pos := pos) h2) x hx)
  rw [e1]
  have : args.length < 28 := h3
  simp [backToKw,keywordEach]
  omega
 have hp : ∀ few,methodCallPos few o f.env apos pos = pure pos := fun few => by
  unfold methodCallPos
  rw [h1]
  simp
 rw [arm_eval_Call,hb]
 refine wpAny_bind (wpAny_mono h (fun ov s₁ h₁ => wpAny_bind (wpAny_standAt ?_)) fun _ _ x => x)
 unfold methodCall
 refine wpAny_bind (wpAny_holding ?_)
 rw [form]
 unfold calleeOf
 rw [if_pos rfl]
 refine wpAny_mono (h₁ _) (fun fx s₂ h₂ => ?_) fun _ _ x => x
 rw [hp]
 exact wpAny_bind (wpAny_pure h₂)
inductive KV : List (Int × Value)->List (Int × Byt)->Prop
 | nil : KV [] []
 | cons {k : Int} {b : Byt} {t : Tok} {kvs tab} : b.size ≤ lineB->KV kvs tab->KV ((k,.bytes b t) :: kvs) ((k,b) :: tab)
theorem KV.keys {kvs tab} (h : KV kvs tab) : kvs.map (·.1) = tab.map (·.1) := by
 induction h with
 | nil => rfl
 | cons _ _ ih => exact congrArg (_ :: ·) ih
noncomputable def KVat (kvs : List (Int × Value)) (k : Int) : Option Byt->Prop
 | some b => ∃ t,valueAt kvs k = some (.bytes b t) ∧ b.size ≤ lineB
 | none => valueAt kvs k = none
theorem KV.at {kvs tab} (k : Int) (h : KV kvs tab) : KVat kvs k (tabAt tab k) := by
 induction h with
 | nil => exact rfl
 | @cons k₀ b t kvs tab hb _ ih =>
  unfold tabAt
  by_cases e : k₀ = k
  ·rw [if_pos e]
   exact ⟨t,by simp [valueAt,e],hb⟩
  ·rw [if_neg e]
   have e2 : valueAt ((k₀,.bytes b t) :: kvs) k = valueAt kvs k := by simp [valueAt,e]
   cases q : tabAt tab k with
   | none => rw [q] at ih; exact e2.trans ih
   | some b' => rw [q] at ih; obtain ⟨t,x,y⟩ := ih; exact ⟨t,e2.trans x,y⟩
theorem distinct_nodup {l : List Int} (h : distinct l = true) : l.Nodup := by
 induction l with
 | nil => exact List.nodup_nil
 | cons a r ih =>
  refine and2 h fun h1 h2 => ?_
  exact List.nodup_cons.mpr ⟨fun hm => List.any_eq_false.mp ((Bool.not_eq_true' _).mp h1) a hm (decide_eq_true rfl),ih h2⟩
theorem constOf_some {e : Expr} {c : Const} (h : constOf e = some c) : ∃ j p,e = .Constant c j p := by
 cases e with
 | Constant c' j p => cases h; exact ⟨j,p,rfl⟩
 | _ => exact noOpt h
theorem litI_some {o : Option Expr} {k : Int} (h : litI o = some k) : ∃ j p,o = some (.Constant (.int k) j p) := by
 obtain ⟨e,rfl,h1⟩ := Option.bind_eq_some_iff.mp h
 obtain ⟨c,hc,h2⟩ := Option.bind_eq_some_iff.mp h1
 obtain ⟨j,p,rfl⟩ := constOf_some hc
 cases c with
 | int i => cases h2; exact ⟨j,p,rfl⟩
 | _ => exact noOpt h2
theorem litB_some {e : Expr} {b : Byt} (h : litB e = some b) : ∃ l j p,e = .Constant (.bytes l) j p ∧ b = l.toArray ∧ b.size ≤ lineB := by
 obtain ⟨c,hc,h⟩ := Option.bind_eq_some_iff.mp h
 obtain ⟨j,p,rfl⟩ := constOf_some hc
 cases c with
 | bytes l =>
  have h : (if Nat.ble l.length 1000 then some l.toArray else none) = some b := h
  cases q : Nat.ble l.length 1000 with
  | true => rw [q] at h; cases h; exact ⟨l,j,p,rfl,rfl,Nat.le_trans (Nat.le_of_ble_eq_true q) (by decide)⟩
  | false => rw [q] at h; exact noOpt h
 | _ => exact noOpt h
theorem litTab_cons {k : Option Expr} {ks : List (Option Expr)} {ds : List Expr} {tab : List (Int × Byt)} (h : litTab (k :: ks) ds = some tab) : ∃ i j p e b l j' p' ds' r,k = some (.Constant (.int i) j p) ∧ ds = e :: ds' ∧ e = .Constant (.bytes l) j' p' ∧ b = l.toArray ∧ b.size ≤ lineB ∧ litTab ks ds' = some r ∧ tab = (i,b) :: r := by
 cases ds with
 | nil => exact noOpt h
 | cons e ds =>
  obtain ⟨i,hi,h⟩ := Option.bind_eq_some_iff.mp h
  obtain ⟨b,hb,h⟩ := Option.bind_eq_some_iff.mp h
  obtain ⟨r,hr,rfl⟩ := Option.map_eq_some_iff.mp h
  obtain ⟨j,p,rfl⟩ := litI_some hi
  obtain ⟨l,j',p',rfl,rfl,hz⟩ := litB_some hb
  exact ⟨i,j,p,_,_,l,j',p',ds,r,rfl,rfl,rfl,rfl,hz,hr,rfl⟩
theorem litTab_nil {ds : List Expr} {tab : List (Int × Byt)} (h : litTab [] ds = some tab) : ds = [] ∧ tab = [] := by
 cases ds with
 | nil => cases h; exact ⟨rfl,rfl⟩
 | cons => exact noOpt h
theorem litTab_some {ks : List (Option Expr)} : ∀ {ds : List Expr} {tab : List (Int × Byt)},litTab ks ds = some tab->ks.all (·.isSome) = true ∧ ks.length = ds.length ∧ ks.length = tab.length := by
 induction ks with
 | nil => exact fun h => by obtain ⟨rfl,rfl⟩ := litTab_nil h; exact ⟨rfl,rfl,rfl⟩
 | cons k ks ih =>
  intro ds tab h
  obtain ⟨_,_,_,_,_,_,_,_,_,_,rfl,rfl,_,_,_,q,rfl⟩ := litTab_cons h
  obtain ⟨h1,h2,h3⟩ := ih q
  exact ⟨h1,congrArg (· + 1) h2,congrArg (· + 1) h3⟩
theorem tab_walk {pos : Pos} {ks : List (Option Expr)} : ∀ {ds : List Expr} {tab : List (Int × Byt)} {s : Shared} {Q : List (Value × Value)->Shared->Prop},litTab ks ds = some tab ->
  (∀ vs kvs tk,Carries (intKind f.prog f.w) vs kvs->KV kvs tab->Q vs { s with toks := tk })->wpAny (model f.prog f.w) A (evalPairs (pairTrees ks ds f.env pos)) Q E s := by
 induction ks with
 | nil =>
  intro ds tab s Q h hq
  obtain ⟨rfl,rfl⟩ := litTab_nil h
  exact pairTrees_nil_walk (hq [] [] s.toks trivial .nil)
 | cons k ks ih =>
  intro ds tab s Q h hq
  obtain ⟨_,_,_,_,_,_,_,_,_,_,rfl,rfl,rfl,rfl,hz,q,rfl⟩ := litTab_cons h
  exact pairTrees_cons_walk (wpAny_Constant_int (Constant_bytes (ih q fun vs kvs tk hc hk => hq _ ((_,_) :: kvs) tk ⟨intKind_is _ _ _ _,rfl,hc⟩ (.cons hz hk))))
theorem getCall_snd {a : Addr} {kvs : List (Int × Value)} {tab : List (Int × Byt)} {vs : List Value} {xs : List PV} (hkv : KV kvs tab) (hsys : (a == sysModules) = false) (hof : s.heap.DictOf (intKind f.prog f.w) a kvs) (I : f.I φ α d σ s.heap) (r : Reps f.p φ vs xs) {E' : Nat->PV->Sto->Prop}
  (H : T.Sat d (two xs fun k e => intV k fun k => match tabAt tab k with | some b => .ret (.byt b,σ) | none => .ret (e,σ)) (QQ f (Rep f.p) φ α s Q) E') : wpAny (model f.prog f.w) A (call (.builtin "dict.get") (.ref a :: vs)) Q E s := by
 refine T.Sat.twoE H fun x y eq1 H => ?_
 subst eq1
 refine two_ofE r fun v v' eq1 q q' => ?_
 subst eq1
 refine int_ofE q H fun k u eq1 H => ?_
 subst eq1
 refine call_meetsIn PySem.F.slot_dict_get (Heap.DictOf.typeIs hof) PySem.F.entry_dict_get (PySem.F.args_dict_get_3 _ _ _) (meets_dict_get_default (intKind f.prog f.w) _ (intKind_is _ _ _ _) hsys _) ⟨_,hof.mapOf,?_⟩
 have at_ := hkv.at k
 cases e : tabAt tab k with
 | some b =>
  rw [e] at at_ H
  obtain ⟨t,h1,h2⟩ := at_
  rw [h1]
  exact (show QQ f (Rep f.p) φ α s Q d _ from H).here I (.byt _ _ h2)
 | none =>
  rw [e] at at_ H
  rw [show valueAt kvs k = none from at_]
  exact (show QQ f (Rep f.p) φ α s Q d _ from H).here I q'
theorem Stat.notSys (st : Stat f.prog f.w f.K f.p C) (I : f.I φ α d σ h) {a : Addr} (ha : h.get? a = none) : (a == sysModules) = false := beq_eq_false_iff_ne.mpr fun z => by
 obtain ⟨om,hom⟩ := Option.isSome_iff_exists.mp st.sysm
 exact nn (I.kinH _ _ hom) (z ▸ ha)
theorem get_snd {m : Str} {ks : List (Option Expr)} {ds args : List Expr} {dp apos pos : Pos} (st : Stat f.prog f.w f.K f.p C) (hE : ∀ φ₀ x,f.S φ₀ (Rep f.p) A (eval x f.env) (fun σ => P.ev f.env.scope σ x)) (hA : AOk n f.fs A) :
  f.S φ₀ (Rep f.p) A (eval (.Call (.Attribute (.Dict ks ds dp) m apos) args [] pos) f.env) (fun σ => evCall C P f.env.scope σ (.Attribute (.Dict ks ds dp) m apos) args [] pos) := by
 intro φ α d σ s Q E le I H
 have H : T.Sat d (callMeth C P f.env.scope σ (.Dict ks ds dp) m apos args pos) (QQ f (Rep f.p) φ α s Q) (EE f φ α s E) := H
 refine T.Sat.chkE H fun hc H => ?_
 refine T.Sat.optE H fun tab htab H => ?_
 refine T.Sat.chkE H fun hd H₉ => ?_
 refine and2 hc fun hm h15 => ?_
 refine and2 hm fun hg hm => ?_
 cases seq_iff.mp hg
 refine and2 hd fun hdis hne => ?_
 obtain ⟨a1,a2,a3⟩ := litTab_some htab
 refine methodCall_gen rfl hm (wpAny_Dict_walk (knd := intKind f.prog f.w) a1 a2 (fun z => by subst z; cases tab with | nil => cases hne | cons => cases a3) (Nat.le_of_ble_eq_true h15) (tab_walk htab fun vs kvs tk hcar hkv => ?_))
 have hnodup : (kvs.map (·.1)).Nodup := hkv.keys ▸ distinct_nodup hdis
 refine ⟨kvs,hcar,⟨_,_,_,Heap.get?_push_size _ rfl,⟨rfl,rfl,rfl⟩,rfl,fun e he => by simp at he,.nil,List.nodup_nil⟩,fun h' hof hs => fun pl => ?_⟩
 rw [merged_nil_of_nodup _ hnodup] at hof
 have hn : s.heap.get? s.heap.objs.size = none := get_size s.heap
 have k : ∀ b o,s.heap.get? b = some o->h'.get? b = some o := fun b o q => (hs.2 b fun z => nn q (z ▸ hn)).trans (Heap.get?_push_of_some _ q)
 have hD := hof.mapOf.noDict
 have hof' := hof
 obtain ⟨o,es,ep,ho,rest⟩ := hof'
 obtain ⟨I₂,ex⟩ := FI.new I k ho hn
 refine getMethod_builtin (T := "dict") (id := "dict.get") (Heap.DictOf.typeIs hof) PySem.F.plainAttrs_dict PySem.F.slot_dict_get PySem.F.type_dict_get hD ?_
 have H : T.Sat d (evs P f.env.scope σ args >>= fun vs => two vs.1 fun k e => intV k fun k => match tabAt tab k with | some b => .ret (.byt b,vs.2) | none => .ret (e,vs.2)) (QQ f (Rep f.p) (put φ s.heap.objs.size o) α { s with heap := h',toks := tk + vs.length } Q) (EE f (put φ s.heap.objs.size o) α { s with heap := h',toks := tk + vs.length } E) := T.Sat.mono H₉ (fun _ _ q => q.step ex) fun _ _ _ q => q.step ex
 exact evArgs_cps (pos := pos) (A := A) (E := E) (Q := Q) (first := [.ref s.heap.objs.size]) (s := { s with heap := h',toks := tk + vs.length }) hE (.bi _) (methOk_some hm).2.1 I₂ H fun φ₁ vs₁ xs σ₁ s₁ d₁ le₁ I₁ r₁ H₁ => getCall_snd hkv (st.notSys I hn) ⟨o,es,ep,I₁.sub _ _ (le₁ _ _ (put_self ..)),rest⟩ I₁ r₁ H₁
end
end Mine
end
section
open PySem PySem.W PyProof.Rows
namespace Mine
section
variable {f : Fm} {φ₀ φ : Ob} {A : Around} {C : Cx} {P : Lv} {n : Nat} {α : Nat->Addr} {d : Nat} {σ : Sto} {h : Heap} {s : Shared} {Q : Value->Shared->Prop} {E : Value->Shared->Prop}
noncomputable def drawT (args : List Slot) : T (PV × Option Slot) := two args fun a b => fzV a fun a => deckV a (fzV b fun b => intV b fun n => chk (decide (0 < n) && decide (n < 1000)) (.draw n.toNat fun r => .ret (.int r,none)))
noncomputable def hexT (args : List Slot) : T (PV × Option Slot) := one args fun a => fzV a fun a => bytV a fun b => chk (Nat.beq b.size 2) (.ret (.byt (hexOf b),none))
noncomputable def rowV {β : Type} (l : List PV) (k : Int->Byt->T β) : T β := match l with
 | a :: r => intV a fun m => (match r with
  | b :: r => bytV b fun b => (match r with
   | [c] => bytV c fun _ => k m b
   | _ => .stuck "row")
  | [] => .stuck "row")
 | [] => .stuck "row"
noncomputable def keyT (args : List Slot) : T (PV × Option Slot) := one args fun a => fzV a fun a => tupV a fun l => rowV l fun m b => chk (Nat.ble b.size 1000) (.ret (.byt (if m = 16384 then b ++ #[47] else b),none))
noncomputable def SortOk (prog : Program) (w : World) (K : Frag) (p : Pl) (fa : Addr) : Prop :=
 ∀ (f : Fm),f.prog = prog->f.w = w->f.K = K->f.p = p->∀ (A : Around),AOk 8 f.fs A->∀ (φ : Ob) (α : Nat->Addr) (d : Nat) (σ : Sto) (s : Shared) (Q E : Value->Shared->Prop) (v : Value) (l : List PV),
  f.I φ α d σ s.heap->Rep f.p φ v (.list l)->l.length ≤ 3->l.all isRow = true->T.Sat d (sortDraw l l.length >>= fun r => pure (PV.list r,σ)) (QQ f (Rep f.p) φ α s Q) (EE f φ α s E) ->
  wpAny (model f.prog f.w) A (call (.builtin "sorted") [v] [(Str.ofString "key",.ref fa)]) Q E s
structure Special (prog : Program) (w : World) (K : Frag) (p : Pl) (C : Cx) (mg mb : Str->Option Value) : Prop where
 draw : ∀ x,C.glob x = some .draw->∃ fa,mg x = some (.ref fa) ∧ keepIn K (.ref fa) = true ∧ ∀ n fs A,AOk (n + 1) fs A->CallOk prog w K p fs A fa drawT
 hex : ∀ x,C.glob x = some .hex->∃ fa,mg x = some (.ref fa) ∧ keepIn K (.ref fa) = true ∧ ∀ n fs A,AOk (n + 1) fs A->CallOk prog w K p fs A fa hexT
 sorted : ∀ x,C.glob x = some .sorted->mg x = none ∧ mb x = some (.builtin "sorted")
 key : ∀ x,C.glob x = some .sorted->∃ fa,mg (Str.ofString "_law_key") = some (.ref fa) ∧ SortOk prog w K p fa
theorem keyed_some {k : Keyword} {r : List Keyword} {q : Str × Str} (h : keyed (k :: r) = some q) : ∃ p kp,k :: r = [⟨some q.1,.Name q.2 p,kp⟩] := by
 cases r with
 | cons => exact noOpt h
 | nil =>
  obtain ⟨a,v,kp⟩ := k
  cases a with
  | none => exact noOpt h
  | some a =>
   have h : (match nameOf v with | some y => some (a,y) | none => none) = some q := h
   cases hn : nameOf v with
   | none => rw [hn] at h; exact noOpt h
   | some y => rw [hn] at h; cases h; obtain ⟨p,rfl⟩ := nameOf_some hn; exact ⟨p,kp,rfl⟩
theorem isSorted_some {g : Option G} (h : isSorted g = true) : g = some .sorted := by
 cases g with
 | none => cases h
 | some g => cases g with
  | sorted => rfl
  | _ => cases h
theorem sorted_snd {args : List Expr} {x k y : Str} {np yp kp pos : Pos} (ok : EnvOk f.env) (st : Stat f.prog f.w f.K f.p C) (sp : Special f.prog f.w f.K f.p C st.mg st.mb) (hE : ∀ φ₀ x,f.S φ₀ (Rep f.p) A (eval x f.env) (fun σ => P.ev f.env.scope σ x)) (hA : ∀ x,C.glob x = some .sorted->AOk 8 f.fs A) :
  f.S φ₀ (Rep f.p) A (eval (.Call (.Name x np) args [⟨some k,.Name y yp,kp⟩] pos) f.env) (fun σ => callKey C P f.env.scope σ x args k y) := by
 intro φ α d σ s Q E le I H
 refine T.Sat.chkE H fun hc H₂ => ?_
 refine and2 hc fun hc h' => ?_
 refine and2 hc fun hk hx => ?_
 refine and2 h' fun h1 h3 => ?_
 refine and2 h1 fun h1 h2 => ?_
 refine T.Sat.chkE H₂.bind fun hp H₃ => ?_
 cases seq_iff.mp h1
 cases seq_iff.mp h2
 obtain ⟨a1,a2⟩ := sp.sorted x (isSorted_some hx)
 obtain ⟨fa,b1,b2⟩ := sp.key x (isSorted_some hx)
 refine wpAny_Call_Name_kw (name_builtin ok st I (eq_of_beq hk) a1 a2 ?_)
 cases args with
 | nil => exact H₃.elim
 | cons e rest =>
  refine PyProof.Rows.callWith_kw ?_ (by rw [star_plain (all_cons hp).1]; rfl) (stars_plain hp) rfl rfl
  refine (snd_evs hE (e :: rest) φ).cps (Le.refl _) I (T.sat_bind.mpr H₃) fun φ₁ vs xs σ₁ s₁ d₁ le₁ I₁ r H₁ => ?_
  show wpAny (model f.prog f.w) A (evalAll [do let v ← eval (.Name (Str.ofString "_law_key") yp) f.env; standAt pos; pure v]) _ E s₁
  refine evalAll_cons (wpAny_bind (name_global ok st I₁ (eq_of_beq h3) b1 (wpAny_bind (wpAny_standAt (wpAny_pure (evalAll_nil ?_))))))
  show wpAny (model f.prog f.w) A (call (.builtin "sorted") vs [(Str.ofString "key",.ref fa)]) Q E s₁
  refine T.Sat.oneE H₁ fun v hv H₁ => ?_
  refine T.Sat.listVE H₁ fun l eq1 H₁ => ?_
  subst eq1
  cases hv
  refine T.Sat.chkE H₁ fun hl H0 => ?_
  refine T.Sat.needE H0 fun hl2 H₁ => ?_
  refine one_ofE r fun v eq1 r1 => ?_
  subst eq1
  exact b2 f rfl rfl rfl rfl A (hA x (isSorted_some hx)) φ₁ α d₁ σ₁ s₁ Q E _ l I₁ r1 (Nat.le_of_ble_eq_true hl) hl2 (T.sat_bind.mpr (T.sat_bind.mp H₁))
theorem FI.stand {K : Frag} {p : Pl} {e g : Heap} {fs : List Addr} {env : Env} {h : Heap} {a : Addr} {o : Obj} (I : FI K p e g fs env φ α d σ h) (ow : Own p g fs env.locals φ a) (ho : h.get? a = some o) (he : e.get? a = none)
  (hi : ∀ i sl,getS σ i = some sl->sl.isOwn = true->α i ≠ a) : FI K p e g fs env (put φ a o) α d σ h ∧ Ext e φ (put φ a o) := by
 have le : Le φ (put φ a o) := put_le ow.φ
 have oth : ∀ {b},b ≠ a->put φ a o b = φ b := fun h => put_other h
 refine ⟨I.grows le (fun b o' q => ?_) (fun i sl q1 q2 => ?_) ?_ ?_ ?_ (fun b hb => ?_),le,fun b h1 h2 => ?_⟩
 ·by_cases z : b = a
  ·rw [z,put_self] at q; cases q; rw [z]; exact ho
  ·rw [oth z] at q; exact I.sub _ _ q
 ·rw [oth (hi i sl q1 q2)]; exact ((I.own i sl q1).free q2).φ
 ·rw [oth ow.L.symm]; exact I.nL
 ·rw [oth ow.dk.symm]; exact I.ndk
 ·rw [oth ow.dc.symm]; exact I.ndc
 ·rw [oth (fun z => ow.fs (z ▸ hb))]; exact (I.ffs b hb).1
 ·by_cases z : b = a
  ·rw [z]; exact he
  ·rw [oth z] at h2; exact absurd h1 h2
variable (hE : ∀ φ₀ x,f.S φ₀ (Rep f.p) A (eval x f.env) (fun σ => P.ev f.env.scope σ x))
variable (hC : ∀ A fa fn,DefAt f.K fa fn->AOk n f.fs A->CallOk f.prog f.w f.K f.p f.fs A fa (P.call fn))
include hE hC
theorem fn_snd {vs : List Value} {xs : List PV} {fa : Addr} {fn : Fn} (hdef : DefAt f.K fa fn) (hA : AOk (n + 1) f.fs A) (I : f.I φ α d σ s.heap) (r : Reps f.p φ vs xs) (H : T.Sat d (callG P σ (.fn fn) xs >>= fun z => pure (z,σ)) (QQ f (Rep f.p) φ α s Q) (EE f φ α s E)) : wpAny (model f.prog f.w) A (call (.ref fa) vs) Q E s :=
 def_snd (R := Rep f.p) (hC A fa fn hdef (hA.less (Nat.le_succ _))) I r (t₂ := fun z => pure (z.1,σ)) (T.sat_atSto.mp H.bind.bind) fun v h' tk φ' d' z ex I' rr H₂ => QQ.here0 H₂ I' rr
omit hE hC in
theorem special_snd {vs : List Value} {xs : List PV} {fa : Addr} {t : List Slot->T (PV × Option Slot)} (hc : CallOk f.prog f.w f.K f.p f.fs A fa t) (I : f.I φ α d σ s.heap) (r : Reps f.p φ vs xs) (H : T.Sat d (t (xs.map .fz)) (fun d z => BQ f φ α σ s Q d z.1) (fun _ _ _ => False)) : wpAny (model f.prog f.w) A (call (.ref fa) vs) Q E s :=
 def_snd (R := Rep f.p) hc I r (t₂ := fun z => pure (z.1,σ)) (H.mono (fun _ _ q => q) fun _ _ _ q => q.elim) fun v h' tk φ' d' z ex I' rr H₂ => QQ.here0 H₂ I' rr
theorem cls_snd {vs : List Value} {xs : List PV} {c fI : Nat} {init : Fn} {own exc : Bool} (h1 : makesIn f.K (f.p.ca c) = true) (h2 : findIn f.K (.ref (f.p.ca c)) "__init__" = some (some (.ref fI))) (h3 : isFn f.K (.ref fI) = true) (h4 : DefAt f.K fI init) (hA : AOk (n + 1) f.fs A) (I : f.I φ α d σ s.heap) (r : Reps f.p φ vs xs)
  (H : T.Sat d (callG P σ (.cls c init own exc) xs >>= fun z => pure (z,σ)) (QQ f (Rep f.p) φ α s Q) (EE f φ α s E)) : wpAny (model f.prog f.w) A (call (.ref (f.p.ca c)) vs) Q E s := by
 have H₁ := T.sat_noExc.mp (T.Sat.chk H.bind).2.bind
 refine make_snd rfl h1 h2 h3 (hC _ fI init h4 hA.under_make) I r (H₁.mono (fun _ _ q => T.Sat.bind q) fun _ _ _ q => q) fun y dx fs h' tk φ' d' ex I' hy N H₂ => ?_
 obtain ⟨es,k,hdx,en,_⟩ := N.at_
 obtain ⟨I₂,ex₂⟩ := I'.stand N.own hdx N.e N.al
 exact H₂ _ h' tk _ (ex.trans ex₂) I₂ (.inst (ex₂.1 _ _ hy) (put_self ..) (en.mono ex₂.1))
omit hE hC in
theorem callable_some {g : Option G} {g' : G} (h : callable g = some g') : g = some g' := by
 cases g with
 | none => exact noOpt h
 | some g => cases g with
  | val => exact noOpt h
  | sorted => exact noOpt h
  | _ => exact h
theorem callG_snd (st : Stat f.prog f.w f.K f.p C) (df : Defs f.K f.p C st.mg st.mb) (sp : Special f.prog f.w f.K f.p C st.mg st.mb) (hA : AOk (n + 1) f.fs A) {x : Str} {g : G} (hg : C.glob x = some g) (hn : callable (some g) ≠ none) :
  ∃ fv,Callable f.K fv ∧ (st.mg x = some fv ∨ (st.mg x = none ∧ st.mb x = some fv)) ∧ ∀ {φ d σ s Q E vs xs},f.I φ α d σ s.heap->Reps f.p φ vs xs->T.Sat d (callG P σ g xs >>= fun z => pure (z,σ)) (QQ f (Rep f.p) φ α s Q) (EE f φ α s E)->wpAny (model f.prog f.w) A (call fv vs) Q E s := by
 cases g with
 | val v => exact absurd rfl hn
 | sorted => exact absurd rfl hn
 | fn fn =>
  obtain ⟨fa,hm,hdef,hkp⟩ := df.fns x fn hg
  exact ⟨_,.k hkp,.inl hm,fun I r H => fn_snd hE hC hdef hA I r H⟩
 | cls c init own exc =>
  obtain ⟨hm,hkp,hmk⟩ := df.cls x c init own exc hg
  refine ⟨_,.k hkp,.inl hm,fun I r H => ?_⟩
  cases exc with
  | true => exact H.elim
  | false =>
   obtain ⟨h1,fI,h2,h3,h4⟩ := hmk rfl
   exact cls_snd hE hC h1 h2 h3 h4 hA I r H
 | bi id =>
  obtain ⟨h1,h2⟩ := df.bis x id hg
  exact ⟨_,biVal_callable _ id,.inr ⟨h1,h2⟩,fun I r H => bi_snd hA I r H⟩
 | draw =>
  obtain ⟨fa,hm,hkp,hcall⟩ := sp.draw x hg
  refine ⟨_,.k hkp,.inl hm,fun {φ d σ s Q E vs xs} I r H => special_snd (hcall n _ A hA) I r ?_⟩
  refine T.Sat.twoE H.bind fun a b eq1 H' => ?_
  subst eq1
  clear H
  refine T.Sat.deckVE H' fun eq1 H => ?_
  subst eq1
  clear H'
  refine T.Sat.intVE H fun m eq1 H0 => ?_
  subst eq1
  refine T.Sat.needE H0 fun hc H' => ?_
  show T.Sat d (chk (decide (0 < m) && decide (m < 1000)) (T.draw m.toNat fun r => T.ret (PV.int r,none))) _ _
  rw [hc]
  cases d with
  | zero => exact H'
  | succ d => exact H'
 | hex =>
  obtain ⟨fa,hm,hkp,hcall⟩ := sp.hex x hg
  refine ⟨_,.k hkp,.inl hm,fun {φ d σ s Q E vs xs} I r H => special_snd (hcall n _ A hA) I r ?_⟩
  refine T.Sat.oneE H.bind fun a eq1 H' => ?_
  subst eq1
  clear H
  refine T.Sat.bytVE H' fun b eq1 H0 => ?_
  subst eq1
  refine T.Sat.needE H0 fun hc H => ?_
  show T.Sat d (chk (Nat.beq b.size 2) (T.ret (PV.byt (hexOf b),none))) _ _
  rw [hc]
  exact H
theorem snd_callName (ok : EnvOk f.env) (st : Stat f.prog f.w f.K f.p C) (df : Defs f.K f.p C st.mg st.mb) (sp : Special f.prog f.w f.K f.p C st.mg st.mb) (hA : AOk (n + 1) f.fs A) (h2 : ∀ x,C.glob x = some .sorted->AOk 8 f.fs A) {x : Str} {np pos : Pos} {args : List Expr} {kws : List Keyword} :
  f.S φ₀ (Rep f.p) A (eval (.Call (.Name x np) args kws pos) f.env) (fun σ => callName C P f.env.scope σ x args kws) := by
 intro φ α d σ s Q E le I H
 cases kws with
 | nil =>
  refine T.Sat.chkE H fun hk H => ?_
  refine T.Sat.optE H fun g hg H => ?_
  refine T.Sat.chkE H.bind fun hp H => ?_
  obtain ⟨fv,hc,hm,go⟩ := callG_snd (α := α) hE hC st df sp hA (callable_some hg) (callable_some hg ▸ nn hg)
  have go : wpAny (model f.prog f.w) A (callWith pos fv [] (backTo pos (starEach args f.env)) []) Q E s := evArgs_cps (first := []) hE hc hp I (T.sat_bind.mpr H) fun φ₁ vs xs σ₁ s₁ d₁ le₁ I₁ r H₁ => go I₁ r H₁
  rcases hm with hm | ⟨hm,hb⟩
  ·exact wpAny_Call_NameR (name_global ok st I (eq_of_beq hk) hm go)
  ·exact wpAny_Call_NameR (name_builtin ok st I (eq_of_beq hk) hm hb go)
 | cons k r =>
  refine T.Sat.optE H fun q hq H => ?_
  obtain ⟨p,kp,e⟩ := keyed_some hq
  rw [e]
  exact sorted_snd ok st sp hE h2 φ α d σ s Q E (Le.refl _) I H
end
section
variable {f : Fm} {φ₀ φ : Ob} {A : Around} {C : Cx} {P : Lv} {n : Nat} {α : Nat->Addr} {d : Nat} {σ : Sto} {h : Heap} {s : Shared} {Q : Value->Shared->Prop} {E : Value->Shared->Prop}
theorem FI.backSelf {K : Frag} {p : Pl} {e g : Heap} {fs : List Addr} {env : Env} {h h' : Heap} {φ' : Ob} {d' i c c₁ : Nat} {q q₁ : List (Str × PV)} (I : FI K p e g fs env φ α d σ h) (hi : getS σ i = some (.oi c q)) (W : Went p fs [α i] φ φ' d' h h')
  (hc : c₁ = c) (x : ∃ es n,h'.get? (α i) = some (dictOf es n) ∧ Ents p φ' es q₁ ∧ es.length ≤ 100 ∧ φ' (α i) = none) : FI K p e g fs env φ' α d' (putS σ i (.oi c₁ q₁)) h' ∧ Ext e φ φ' := by
 subst hc
 have fi := (I.own i _ hi).free rfl
 obtain ⟨es₁,n₁,x1,x2,x3,x4⟩ := x
 have k : ∀ b o,h.get? b = some o->b ∉ fs->b ≠ p.dk->b ≠ p.dc->b ≠ α i->h'.get? b = some o := fun b o q1 q2 q3 q4 q5 => W.k b o q1 q2 q3 q4 fun z => q5 (List.mem_singleton.mp z)
 have there : ∀ b,h.get? b ≠ none->φ b = none->φ' b = none := fun b hb hn => Classical.byContradiction fun q => hb (W.new b hn q)
 have lv : ∀ a,h'.get? a = none->h.get? a = none := fun a ha => Ob.keepNone (b := h') (fun o q => by
  by_cases h1 : a ∈ fs
  ·obtain ⟨sl,r⟩ := W.u a h1 o q; exact absurd ha (nn r)
  ·exact k a o q h1 (W.dk.dkT.ne ha) (W.dk.dcT.ne ha) fun z => nn x1 (z ▸ ha)) ha
 refine ⟨I.re2 W.le ?_ (fun x s hx hs => ?_) (fun j s hs => ?_) (fun j k s s' q1 q2 q3 q4 e => ?_) W.sub (there _ I.LT I.nL) (there _ I.deck.dkT.nn I.ndk) (there _ I.deck.dcT.nn I.ndc) W.dk (fun a q => I.live a (lv a q)) (fun b hb => ⟨there _ (I.ffT hb).nn (I.ffs b hb).1,?_⟩) (fun b hb _ _ _ o q => W.u b hb o q),W.le,fun a h1 h2 => I.live a (W.new a h1 h2)⟩
 ·obtain ⟨m,F,V⟩ := I.loc
  refine ⟨m,⟨?_,fun b o q => k b o (F.keep b o q) (fun z => nn q (I.ffs b z).2.1) (fun z => nn q (z ▸ I.gdk)) (fun z => nn q (z ▸ I.gdc)) fun z => nn q (z ▸ fi.g),F.above⟩,fun x s hx hs => ?_⟩
  ·by_cases h1 : env.locals ∈ fs
   ·exact ns_ups F.ns (W.u _ h1)
   ·exact ns_at F.ns fun o q => k _ o q h1 I.dkL.symm I.dcL.symm fi.L.symm
  ·rcases getS_put hs with ⟨z,rfl⟩ | ⟨_,q⟩
   ·obtain ⟨v,a,y,b1,b2⟩ := V x _ hx (z ▸ hi)
    exact ⟨v,a,y,b1,W.le _ _ b2⟩
   ·obtain ⟨v,q,r⟩ := V x s hx q
    exact ⟨v,q,r.mono W.le⟩
 ·rcases getS_put hs with ⟨z,_⟩ | ⟨_,q⟩
  ·obtain ⟨_,_,_,_,_,_,_,y,_⟩ := I.cel x _ hx (z ▸ hi); cases y
  ·exact q
 ·rcases getS_put hs with ⟨z,rfl⟩ | ⟨z,q⟩
  ·exact z ▸ ⟨⟨es₁,n₁,x1,x2,x3⟩,⟨fi.fs,fi.g,x4,fi.L,fi.dk,fi.dc⟩⟩
  ·have x := I.own j s q
   exact (x.at fun so o _ q' => k _ _ q' (x.free so).fs (x.free so).dk (x.free so).dc fun y => z (I.inj i j _ s hi q rfl so y.symm)).grows W.le fun so => there _ (x.thing so).nn (x.free so).φ
 ·have back : ∀ {j s},getS (putS σ i (.oi c₁ q₁)) j = some s->s.isOwn = true->∃ s',getS σ j = some s' ∧ s'.isOwn = true := fun {j s} q so => (getS_put q).elim (fun z => ⟨_,z.1 ▸ hi,rfl⟩) fun z => ⟨s,z.2,so⟩
  obtain ⟨_,r1,o1⟩ := back q1 q3
  obtain ⟨_,r2,o2⟩ := back q2 q4
  exact I.inj j k _ _ r1 r2 o1 o2 e
 ·obtain ⟨o,a5,a6⟩ := I.ffT hb
  obtain ⟨sl,r⟩ := W.u b hb o a5
  exact ⟨_,r,a6⟩
variable (hE : ∀ φ₀ x,f.S φ₀ (Rep f.p) A (eval x f.env) (fun σ => P.ev f.env.scope σ x))
variable (hC : ∀ A fa fn,DefAt f.K fa fn->AOk n f.fs A->CallOk f.prog f.w f.K f.p f.fs A fa (P.call fn))
include hE hC
omit hE hC in
theorem base_plain {o : Expr} {m : Str} (ho : simpleBase o = true) : attributeBase o m f.env (eval o f.env) = eval o f.env := by
 cases o <;> first | rfl | exact noB ho
omit hE hC in
theorem base_call {o : Expr} {m : Str} {apos pos : Pos} {args : List Expr} (ho : simpleBase o = true) : callMeth C P f.env.scope σ o m apos args pos = chk (methOk apos pos args && simpleBase o) (evMeth C P f.env.scope σ o m args) := by
 cases o <;> first | rfl | exact noB ho
omit hE hC in
theorem base_not {o : Expr} {t : T (PV × Sto)} {b : Bool} {Q E'} (hs : simpleBase o = false) (e : True = True) (H : T.Sat d (chk (b && simpleBase o) t) Q E') : False := by
 refine T.Sat.chkE H fun h _ => ?_
 rw [hs,Bool.and_false] at h; cases h
omit hE hC in
theorem methOf_some {c : Nat} {m : Str} {fs : List (Str × PV)} {fn : Fn} (h : methOf C c m fs = some fn) : C.meth c m = some fn ∧ field fs m = none := by
 unfold methOf at h
 cases e : field fs m with
 | some => rw [e] at h; exact noOpt h
 | none => rw [e] at h; exact ⟨h,rfl⟩
omit hE hC in
theorem selfBack_some {i c : Nat} {r : PV} {o : Option Slot} {Q : Nat->PV × Sto->Prop} {E'} (H : T.Sat d (selfBack σ i c r o) Q E') : ∃ fs,o = some (.oi c fs) ∧ Q d (r,putS σ i (.oi c fs)) := by
 cases o with
 | none => exact H.elim
 | some s =>
  refine T.Sat.oiVE H fun c₂ fs eq1 H => ?_
  subst eq1
  refine T.Sat.chkE H fun hc H₂ => ?_
  cases Nat.eq_of_beq_eq_true hc
  exact ⟨fs,rfl,H₂⟩
theorem methOwn_snd (st : Stat f.prog f.w f.K f.p C) (df : Defs f.K f.p C st.mg st.mb) (hA : AOk (n + 1) f.fs A) {i c : Nat} {q : List (Str × PV)} {m : Str} {pos : Pos} {args : List Expr} {y : Addr} {pl : Sem Bool} (hp : args.all plainR = true) (hs : getS σ i = some (.oi c q)) (hy : φ y = some (instObj (f.p.ca c) (α i)))
  (I : f.I φ α d σ s.heap) (H : T.Sat d (methOwn C P f.env.scope σ i m args c q) (QQ f (Rep f.p) φ α s Q) (EE f φ α s E)) :
  wpAny (model f.prog f.w) A (getMethod (.ref y) m pl) (fun fx s₂ => wpAny (model f.prog f.w) A (callWith pos fx.1 fx.2 (backTo pos (starEach args f.env)) []) Q E s₂) E s := by
 refine T.Sat.optE H fun fn hf H => ?_
 obtain ⟨hmeth,hfield⟩ := methOf_some hf
 obtain ⟨pg,fa,hfi,hfn,hdef,hkp⟩ := df.meths c m fn hmeth
 obtain ⟨es,k,At,en,_⟩ := own_inst I hs hy
 refine method_own I.kinH At pg hfi hfn (en.getL.2.1 hfield) (evArgs_cps (first := [.ref y]) hE (.k hkp) hp I H fun φ₁ vs xs σ₁ s₁ d₁ le₁ I₁ r H₁ => ?_)
 refine T.Sat.optE H₁ fun sl hs₁ H₁ => ?_
 refine T.Sat.oiVE H₁ fun c₁ q₁ eq1 H₁ => ?_
 subst eq1
 refine T.Sat.chkE H₁ fun hcc H₂ => ?_
 cases Nat.eq_of_beq_eq_true hcc
 obtain ⟨⟨es₁,k₁,e1,e2,e3⟩,fr⟩ := I₁.own i _ hs₁
 refine wpAny_call (hC A fa fn hdef (hA.less (Nat.le_succ _)) φ₁ d₁ s₁ [α i] _ _ Q E I₁.wi (.self (le₁ _ _ hy) e1 e2 e3 fr.φ fr.fs fr.dk fr.dc r) ((T.sat_noExc.mp H₂.bind).mono (fun d' z hz v h' tk φ' W rr back => ?_) fun _ _ _ hz => hz.elim))
 obtain ⟨fs₂,e,hz⟩ := selfBack_some hz
 obtain ⟨I',ex⟩ := I₁.backSelf (c₁ := c) (q₁ := fs₂) hs₁ W rfl (back _ rfl c fs₂ e)
 exact hz v h' tk φ' ex I' rr
theorem methInst_snd (st : Stat f.prog f.w f.K f.p C) (df : Defs f.K f.p C st.mg st.mb) (hA : AOk (n + 1) f.fs A) {c : Nat} {q : List (Str × PV)} {m : Str} {pos : Pos} {args : List Expr} {v : Value} {pl : Sem Bool} (hp : args.all plainR = true) (R : Rep f.p φ v (.inst c q))
  (I : f.I φ α d σ s.heap) (H : T.Sat d (methInst C P f.env.scope σ m args c q) (QQ f (Rep f.p) φ α s Q) (EE f φ α s E)) :
  wpAny (model f.prog f.w) A (getMethod v m pl) (fun fx s₂ => wpAny (model f.prog f.w) A (callWith pos fx.1 fx.2 (backTo pos (starEach args f.env)) []) Q E s₂) E s := by
 refine T.Sat.optE H fun fn hf H => ?_
 obtain ⟨hmeth,hfield⟩ := methOf_some hf
 obtain ⟨pg,fa,hfi,hfn,hdef,hkp⟩ := df.meths c m fn hmeth
 have R₀ := R
 obtain ⟨y,dx,es,k,rfl,_,At,en⟩ := R.instOf I
 refine method_own I.kinH At pg hfi hfn (en.getL.2.1 hfield) (evArgs_cps (first := [.ref y]) hE (.k hkp) hp I H fun φ₂ vs xs σ₂ s₂ d₂ le₂ I₂ r H₂ => ?_)
 exact special_snd (t := fun xs => P.call fn xs) (xs := .inst c q :: xs) (hC A fa fn hdef (hA.less (Nat.le_succ _))) I₂ (.cons (R₀.mono le₂) r) (T.sat_noExc.mp H₂.bind)
theorem snd_evMeth (ok : EnvOk f.env) (st : Stat f.prog f.w f.K f.p C) (df : Defs f.K f.p C st.mg st.mb) (hA : AOk (n + 1) f.fs A) {o : Expr} {m : Str} {apos pos : Pos} {args : List Expr} (ho : simpleBase o = true) (hm : methOk apos pos args = true)
  (I : f.I φ α d σ s.heap) (H : T.Sat d (evMeth C P f.env.scope σ o m args) (QQ f (Rep f.p) φ α s Q) (EE f φ α s E)) : wpAny (model f.prog f.w) A (eval (.Call (.Attribute o m apos) args [] pos) f.env) Q E s := by
 have hp : args.all plainR = true := (methOk_some hm).2.1
 refine methodCall_gen (base_plain ho) hm ?_
 have H : T.Sat d (methAt C P f.env.scope σ o m args (ownAt f.env.scope σ o)) (QQ f (Rep f.p) φ α s Q) (EE f φ α s E) := H
 cases hown : ownAt f.env.scope σ o with
 | some sl =>
  rw [hown] at H
  obtain ⟨i,sl⟩ := sl
  refine T.Sat.oiVE H fun c q e H => ?_
  cases e
  refine ownAt_someE hown fun x np eq1 hk eq2 hs _ => ?_
  subst eq1
  subst eq2
  refine name_local ok I hk hs fun v hv pl => ?_
  obtain ⟨y,rfl,hy⟩ := hv
  exact methOwn_snd hE hC st df hA hp hs hy I H
 | none =>
  rw [hown] at H
  refine (hE φ o).cps (Le.refl _) I H fun φ₁ v x σ₁ s₁ d₁ le₁ I₁ R H₁ => fun pl => ?_
  have val : T.Sat d₁ (opt "no such method" (mtOf x m) >>= fun k => evs P f.env.scope σ₁ args >>= fun y => mtCall k y.1 >>= fun z => pure (z,y.2)) (QQ f (Rep f.p) φ₁ α s₁ Q) (EE f φ₁ α s₁ E)->wpAny (model f.prog f.w) A (getMethod v m pl) (fun fx s₂ => wpAny (model f.prog f.w) A (callWith pos fx.1 fx.2 (backTo pos (starEach args f.env)) []) Q E s₂) E s₁ := fun H => by
   refine T.Sat.optE H fun k hk H => ?_
   exact meth_snd hk hE hp I₁ R H
  cases x with
  | inst c q => exact methInst_snd hE hC st df hA hp R I₁ H₁
  | _ => exact val H₁
theorem snd_Call (ok : EnvOk f.env) (st : Stat f.prog f.w f.K f.p C) (df : Defs f.K f.p C st.mg st.mb) (sp : Special f.prog f.w f.K f.p C st.mg st.mb) (hA : AOk (n + 1) f.fs A) (h2 : ∀ x,C.glob x = some .sorted->AOk 8 f.fs A) {fe : Expr} {args : List Expr} {kws : List Keyword} {pos : Pos} :
  f.S φ₀ (Rep f.p) A (eval (.Call fe args kws pos) f.env) (fun σ => evStep C P f.env.scope σ (.Call fe args kws pos)) := by
 have at_ : ∀ {o m apos},f.S φ₀ (Rep f.p) A (eval (.Call (.Attribute o m apos) args kws pos) f.env) (fun σ => chk kws.isEmpty (callMeth C P f.env.scope σ o m apos args pos)) := fun {o m apos} φ α d σ s Q E le I H => by
  refine T.Sat.chkE H fun hk H₂ => ?_
  cases List.isEmpty_iff.mp hk
  cases hs : simpleBase o with
  | true =>
   rw [base_call hs] at H₂
   refine T.Sat.chkE H₂ fun hm H₂ => ?_
   exact snd_evMeth hE hC ok st df hA hs ((Bool.and_eq_true_iff ..).mp hm).1 I H₂
  | false => cases o with
   | Dict ks ds dp => exact get_snd st hE hA φ α d σ s Q E (Le.refl _) I H
   | _ => exact (base_not hs rfl H₂).elim
 cases fe with
 | Name x np => exact snd_callName hE hC ok st df sp hA h2
 | Attribute o m apos => exact at_
 | _ => exact fun φ α d σ s Q E le I H => H.elim
end
structure Untracked (f : Fm) (φ : Ob) (α : Nat->Addr) (σ : Sto) (h : Heap) (b : Addr) : Prop where
 φ : φ b = none
 g : f.g.get? b = none
 e : f.e.get? b = none
 fs : b ∉ f.fs
 L : b ≠ f.env.locals
 dk : b ≠ f.p.dk
 dc : b ≠ f.p.dc
 own : ∀ i sl,getS σ i = some sl->sl.isOwn = true->α i ≠ b
 there : ∃ o,h.get? b = some o
noncomputable def Slot.isOl : Slot->Bool
 | .ol _ => true
 | .od _ => true
 | _ => false
noncomputable def slotP (p : Slot->Bool) (σ : Sto) (i : Nat) : Bool := match getS σ i with
 | some s => p s
 | none => false
noncomputable abbrev slotOl := slotP Slot.isOl
noncomputable abbrev slotOwn := slotP Slot.isOwn
noncomputable def ownsOf (p : Sto->Nat->Bool) (σ : Sto) (α : Nat->Addr) : List Addr := ((List.range σ.length).filter (p σ)).map α
theorem mem_owns {p : Sto->Nat->Bool} {σ : Sto} {α : Nat->Addr} {b : Addr} : b ∈ ownsOf p σ α ↔ ∃ i,(i < σ.length ∧ p σ i = true) ∧ α i = b := by
 unfold ownsOf
 simp only [List.mem_map,List.mem_filter,List.mem_range]
theorem getS_lt {σ : Sto} {i : Nat} {s : Slot} (h : getS σ i = some s) : i < σ.length := (List.getElem?_eq_some_iff.mp (getS_some h)).1
theorem of_slotP {p : Slot->Bool} {σ : Sto} {i : Nat} (h : slotP p σ i = true) : ∃ s,getS σ i = some s ∧ p s = true := by
 unfold slotP at h
 cases e : getS σ i with
 | none => rw [e] at h; cases h
 | some s => rw [e] at h; exact ⟨s,rfl,h⟩
theorem Slot.ol_own {s : Slot} (h : s.isOl = true) : s.isOwn = true := by cases s <;> first | rfl | exact noB h
theorem own_mem {p : Slot->Bool} {σ : Sto} {α : Nat->Addr} {i : Nat} {s : Slot} (h : getS σ i = some s) (q : p s = true) : α i ∈ ownsOf (slotP p) σ α := mem_owns.mpr ⟨i,⟨getS_lt h,by unfold slotP; rw [h]; exact q⟩,rfl⟩
theorem of_owns {p : Slot->Bool} {σ : Sto} {α : Nat->Addr} {b : Addr} (h : b ∈ ownsOf (slotP p) σ α) : ∃ i s,getS σ i = some s ∧ p s = true ∧ α i = b := by
 obtain ⟨i,⟨_,q⟩,e⟩ := mem_owns.mp h
 obtain ⟨s,a,b⟩ := of_slotP q
 exact ⟨i,s,a,b,e⟩
section
variable {p : Pl} {e e' g g' h : Heap} {fs : List Addr} {L a : Addr} {φ : Ob} {s : Slot}
theorem OwnAt.eN (x : OwnAt p e g fs L φ h a s) (q : s.isOl = true) : e.get? a = none := by
 cases s with
 | ol l => exact let ⟨⟨_,_,_,_,e⟩,_⟩ := x; e
 | od l => exact let ⟨⟨_,_,_,_,_,e⟩,_⟩ := x; e
 | _ => cases q
theorem OwnAt.re (x : OwnAt p e g fs L φ h a s) (q : s.isOl = true->e'.get? a = none) (w : s.isOwn = true->g'.get? a = none) : OwnAt p e' g' fs L φ h a s := by
 have o : s.isOwn = true->Own p g' fs L φ a := fun so => have r := x.free so; ⟨r.fs,w so,r.φ,r.L,r.dk,r.dc⟩
 cases s with
 | fz v => trivial
 | ol l => exact let ⟨⟨vs,a,b,c,_⟩,_⟩ := x; ⟨⟨vs,a,b,c,q rfl⟩,o rfl⟩
 | od l => exact let ⟨⟨es,n,a,b,c,_⟩,_⟩ := x; ⟨⟨es,n,a,b,c,q rfl⟩,o rfl⟩
 | oi r fs => exact ⟨x.1,o rfl⟩
end
noncomputable def Fm.now (f : Fm) (h : Heap) (α : Nat->Addr) (σ : Sto) : Fm :=
 { f with e := hideAll h (f.env.locals :: ownsOf slotOl σ α),g := hideAll h (f.env.locals :: f.p.dk :: f.p.dc :: ownsOf slotOwn σ α ++ f.fs) }
section
variable {f : Fm} {φ φ' : Ob} {α α' : Nat->Addr} {d d' : Nat} {σ σ' : Sto} {h h' : Heap} {s : Shared}
theorem Fm.mem_g {b : Addr} : b ∈ (f.env.locals :: f.p.dk :: f.p.dc :: ownsOf slotOwn σ α ++ f.fs) ↔ b = f.env.locals ∨ b = f.p.dk ∨ b = f.p.dc ∨ b ∈ ownsOf slotOwn σ α ∨ b ∈ f.fs := by simp
theorem FI.owned (I : f.I φ α d σ h) {b : Addr} (hb : b ∈ ownsOf slotOwn σ α) : Own f.p f.g f.fs f.env.locals φ b := by
 obtain ⟨i,s,hs,ho,rfl⟩ := of_owns hb
 exact (I.own i s hs).free ho
theorem FI.hidden (I : f.I φ α d σ h) {b : Addr} (hb : b ∈ (f.env.locals :: f.p.dk :: f.p.dc :: ownsOf slotOwn σ α ++ f.fs)) : φ b = none ∧ f.g.get? b = none := by
 rcases Fm.mem_g.mp hb with rfl | rfl | rfl | hb | hb
 ·obtain ⟨m,F,_⟩ := I.loc; exact ⟨I.nL,F.above⟩
 ·exact ⟨I.ndk,I.gdk⟩
 ·exact ⟨I.ndc,I.gdc⟩
 ·exact ⟨(I.owned hb).φ,(I.owned hb).g⟩
 ·exact ⟨(I.ffs b hb).1,(I.ffs b hb).2.1⟩
theorem FI.now_g (I : f.I φ α d σ h) {b : Addr} {o : Obj} (hb : h.get? b = some o) (hh : φ b ≠ none ∨ f.g.get? b ≠ none) : (f.now h α σ).g.get? b = some o :=
 hideAll_get _ hb fun q => by
  obtain ⟨a,c⟩ := I.hidden q
  rcases hh with hh | hh
  ·exact hh a
  ·exact hh c
theorem FI.untracked_g (I : f.I φ α d σ h) {b : Addr} {o : Obj} (hb : h.get? b = some o) (u : Untracked f φ α σ h b) : (f.now h α σ).g.get? b = some o :=
 hideAll_get _ hb fun q => by
  rcases Fm.mem_g.mp q with q | q | q | q | q
  ·exact u.L q
  ·exact u.dk q
  ·exact u.dc q
  ·obtain ⟨i,s,hs,ho,z⟩ := of_owns q
   exact u.own i s hs ho z
  ·exact u.fs q
theorem ol_g {b : Addr} (z : b ∈ f.env.locals :: ownsOf slotOl σ α) : b ∈ (f.env.locals :: f.p.dk :: f.p.dc :: ownsOf slotOwn σ α ++ f.fs) := by
 rcases List.mem_cons.mp z with z | z
 ·exact Fm.mem_g.mpr (.inl z)
 ·obtain ⟨i,s,hs,ho,rfl⟩ := of_owns z
  exact Fm.mem_g.mpr (.inr (.inr (.inr (.inl (own_mem hs (Slot.ol_own ho))))))
theorem now_gN {b : Addr} (z : b ∈ (f.env.locals :: f.p.dk :: f.p.dc :: ownsOf slotOwn σ α ++ f.fs)) : (f.now h α σ).g.get? b = none := hideAll_none _ z
theorem FI.toNow (I : f.I φ α d σ h) : (f.now h α σ).I φ α d σ h where
 loc := let ⟨m,F,V⟩ := I.loc; ⟨m,⟨F.ns,fun b o q => of_hideAll _ q,now_gN (Fm.mem_g.mpr (.inl rfl))⟩,V⟩
 cel := I.cel
 own i s hs := (I.own i s hs).re (fun q => hideAll_none _ (List.mem_cons_of_mem _ (own_mem hs q))) fun q => now_gN (Fm.mem_g.mpr (.inr (.inr (.inr (.inl (own_mem hs q))))))
 inj := I.inj
 sub := I.sub
 stat := I.stat
 kin a o q := I.now_g (I.kinH _ _ q) (.inl (nn (I.stat a o q)))
 nL := I.nL
 ndk := I.ndk
 ndc := I.ndc
 dkL := I.dkL
 dcL := I.dcL
 deck := I.deck
 old a q := Ob.keepNone (b := (f.now h α σ).e) (fun o r => hideAll_get _ (of_hideAll _ r) fun z => nn r (now_gN (ol_g z))) q
 live _ q := hide_none q
 eL := hideAll_none _ (.head _)
 gdk := now_gN (Fm.mem_g.mpr (.inr (.inl rfl)))
 gdc := now_gN (Fm.mem_g.mpr (.inr (.inr (.inl rfl))))
 ffs b hb := let x := I.ffs b hb; ⟨x.1,now_gN (Fm.mem_g.mpr (.inr (.inr (.inr (.inr hb))))),x.2.2⟩
 ups b hb o q := ⟨o.slots,of_hideAll _ q⟩
theorem FI.now_kept (I : f.I φ α d σ h) (I' : (f.now h α σ).I φ' α' d' σ' h') {b : Addr} {o : Obj} (hb : (f.now h α σ).g.get? b = some o) : h'.get? b = some o := by
 obtain ⟨m,F,_⟩ := I'.loc
 exact F.keep b o hb
theorem FI.now_e (I : f.I φ α d σ h) {a : Addr} (q : (f.now h α σ).e.get? a = none) (ha : a ≠ f.env.locals) : f.e.get? a = none := by
 by_cases z : a ∈ f.env.locals :: ownsOf slotOl σ α
 ·rcases List.mem_cons.mp z with z | z
  ·exact absurd z ha
  ·obtain ⟨i,s,hs,ho,rfl⟩ := of_owns z
   exact (I.own i s hs).eN ho
 ·exact I.live a (Ob.keepNone (b := (f.now h α σ).e) (fun o r => hideAll_get _ r z) q)
theorem FI.now_eG (I : f.I φ α d σ h) {b : Addr} {o : Obj} (r : h.get? b = some o) (hL : b ≠ f.env.locals) (n : ∀ i s,getS σ i = some s->s.isOwn = true->α i ≠ b) : (f.now h α σ).e.get? b = some o :=
 hideAll_get _ r fun z => (List.mem_cons.mp z).elim hL fun z => let ⟨i,s,hs,ho,e⟩ := of_owns z; n i s hs (Slot.ol_own ho) e
theorem FI.fromNow (I : f.I φ α d σ h) (I' : (f.now h α σ).I φ' α' d' σ' h') (ex : Ext (f.now h α σ).e φ φ') : f.I φ' α' d' σ' h' ∧ Ext f.e φ φ' := by
 have gk : ∀ b o,f.g.get? b = some o->(f.now h α σ).g.get? b = some o := fun b o q => let ⟨_,F₀,_⟩ := I.loc; I.now_g (F₀.keep b o q) (.inr (nn q))
 exact ⟨{
  loc := let ⟨m,F,V⟩ := I'.loc; let ⟨_,F₀,_⟩ := I.loc; ⟨m,⟨F.ns,fun b o q => F.keep b o (gk b o q),F₀.above⟩,V⟩
  cel := I'.cel
  own := fun i s hs => have x := I'.own i s hs; x.re (fun q => I.now_e (x.eN q) (x.free (Slot.ol_own q)).L) fun q => Ob.keepNone (b := (f.now h α σ).g) (fun o r => gk _ o r) (x.free q).g
  inj := I'.inj
  sub := I'.sub
  stat := I'.stat
  kin := I.kin
  nL := I'.nL
  ndk := I'.ndk
  ndc := I'.ndc
  dkL := I'.dkL
  dcL := I'.dcL
  deck := I'.deck
  old := I.old
  live := fun a q => by
   by_cases z : a = f.env.locals
   ·rw [z]; exact I.eL
   ·exact I.now_e (I'.live a q) z
  eL := I.eL
  gdk := I.gdk
  gdc := I.gdc
  ffs := fun b hb => let x := I'.ffs b hb; ⟨x.1,(I.ffs b hb).2.1,x.2.2⟩
  ups := fun b hb o q => let ⟨_,r⟩ := I.ups b hb o q; let ⟨sl',r'⟩ := I'.ups b hb _ (I.now_eG r (fun z => nn q (z ▸ I.eL)) fun i s hs ho z => ((I.own i s hs).free ho).fs (z ▸ hb)); ⟨sl',r'⟩ },
  ex.1,fun a q1 q2 => I.now_e (ex.2 a q1 q2) fun z => q2 (z ▸ I'.nL)⟩
theorem Untracked.after (u : Untracked f φ α σ h b) (I : f.I φ α d σ h) (I' : (f.now h α σ).I φ' α' d' σ' h') (ex : Ext (f.now h α σ).e φ φ') : Untracked f φ' α' σ' h' b := by
 obtain ⟨o,ho⟩ := u.there
 have gb := I.untracked_g ho u
 exact ⟨ex.old (nn (I.now_eG ho u.L u.own)) u.φ,u.g,u.e,u.fs,u.L,u.dk,u.dc,fun i sl q1 q2 z => nn gb (z ▸ ((I'.own i sl q1).free q2).g),o,I.now_kept I' gb⟩
theorem FI.notL (I : f.I φ α d σ h) {b : Addr} {o : Obj} {vs : Array Value} (q1 : h.get? b = some o) (q2 : o.data = .fields vs) : b ≠ f.env.locals := fun z => by
 obtain ⟨m,F,_⟩ := I.loc
 obtain ⟨oL,_,_,hL,hdL,_⟩ := F.ns
 rw [z,hL] at q1; cases q1; rw [hdL] at q2; cases q2
theorem ExcIn.fromNow (I : f.I φ α d σ h) (I' : (f.now h α σ).I φ' α' d' σ' h') {x : Addr} {told : PV} (X : ExcIn f.p (f.now h α σ).e φ' x told h') : ExcIn f.p f.e φ' x told h' := by
 obtain ⟨oe,vs,dx,X⟩ := X
 exact ⟨oe,vs,dx,X.hx,X.hc,X.hd,X.hdx,X.en,X.nφ,I.now_e X.ne (FI.notL I' X.hx X.hd),X.tr.imp id fun ⟨T,a,t⟩ => ⟨T,a,t.ne,t.rc,t.φ,let ⟨_,_,c,d,_⟩ := t.rc; I.now_e t.e (FI.notL I' c d)⟩⟩
theorem FI.aside {wr : List Addr} (I : f.I φ α d σ h) (u : ∀ b ∈ wr,Untracked f φ α σ h b) (k : ∀ b o,b ∉ wr->h.get? b = some o->h'.get? b = some o) : f.I φ α d σ h' := by
 have kφ : ∀ a,φ a ≠ none->a ∉ wr := fun a ha hw => ha (u a hw).φ
 refine I.re (Le.refl _) (fun _ x => ns_at x fun o q => k _ o (fun z => (u _ z).L rfl) q) (fun b o q => let ⟨_,F,_⟩ := I.loc; k b o (fun z => nn q (u b z).g) (F.keep b o q)) (fun j sl hs => (I.own j sl hs).at fun so o _ q => k _ o (fun z => (u _ z).own j sl hs so rfl) q) (fun a o q => k _ _ (kφ a (nn q)) (I.sub a o q)) I.nL I.ndk I.ndc
  (I.deck.at2 (fun o q => k _ _ (fun z => (u _ z).dk rfl) q) fun o q => k _ o (fun z => (u _ z).dc rfl) q) (fun a ha => ?_) (fun b hb => ⟨(I.ffs b hb).1,let ⟨o,q,r⟩ := I.ffT hb; ⟨o,k _ _ (fun z => (u _ z).fs hb) q,r⟩⟩) fun b hb o q => ⟨o.slots,k _ _ (fun z => (u _ z).fs hb) q⟩
 by_cases z : a ∈ wr
 ·exact (u a z).e
 ·exact I.live a (Ob.keepNone (fun o q => k a o z q) ha)
theorem FI.pushU (I : f.I φ α d σ h) (o : Obj) (ho : o.isFreed = false := by rfl) : f.I φ α d σ (h.push o) ∧ Untracked f φ α σ (h.push o) h.objs.size := by
 have hn : h.get? h.objs.size = none := get_size h
 have w := I_fresh I hn (φ' := φ) (Ob.keepNone (fun o q => I.sub _ o q) hn)
 exact ⟨FI.keeps I (h' := h.push o) fun _ _ q => Heap.get?_push_of_some _ q,w.φ,w.g,I.live _ hn,w.fs,w.L,w.dk,w.dc,fun i sl q1 q2 z => ((I.own i sl q1).thing q2).nn (z ▸ hn),o,Heap.get?_push_size _ ho⟩
theorem Untracked.keeps {b : Addr} (u : Untracked f φ α σ h b) (k : ∀ b o,h.get? b = some o->h'.get? b = some o) : Untracked f φ α σ h' b :=
 ⟨u.φ,u.g,u.e,u.fs,u.L,u.dk,u.dc,u.own,let ⟨o,q⟩ := u.there; ⟨o,k _ _ q⟩⟩
end
noncomputable def upd (α : Nat->Addr) (i : Nat) (a : Addr) : Nat->Addr := fun j => if j = i then a else α j
theorem upd_self (α : Nat->Addr) (i : Nat) (a : Addr) : upd α i a i = a := by simp [upd]
theorem upd_ne {α : Nat->Addr} {i j : Nat} {a : Addr} (h : j ≠ i) : upd α i a j = α j := by simp [upd,h]
theorem upd_same (α : Nat->Addr) (i : Nat) : upd α i (α i) = α := by
 funext j
 by_cases h : j = i
 ·subst h; simp [upd]
 ·simp [upd,h]
section
variable {f : Fm} {φ φ' : Ob} {α α' : Nat->Addr} {d d' : Nat} {σ σ' : Sto} {h h' : Heap} {s : Shared} {A : Around} {C : Cx} {P : Lv} {n : Nat} {E : Value->Shared->Prop}
theorem store_snd (ok : EnvOk f.env) {x : Str} {v : Value} {sl : Slot} {a : Addr} {Q : Unit->Shared->Prop} (hx : kindOf f.env.scope.names x = some .local) (I : f.I φ α d σ s.heap) (sv : SlotV f.p φ a v sl)
  (ow : sl.isOwn = true->OwnAt f.p f.e f.g f.fs f.env.locals φ s.heap a sl ∧ ∀ j s',getS σ j = some s'->s'.isOwn = true->j ≠ idx f.env.scope.names x->α j ≠ a)
  (h : ∀ h' tk,f.I φ (upd α (idx f.env.scope.names x) a) d (putS σ (idx f.env.scope.names x) sl) h'->Heap.SameBut f.env.locals s.heap h'->Q () { s with heap := h',toks := tk }) : wpAny (model f.prog f.w) A (storeName f.env x v) Q E s := by
 obtain ⟨m,F,V⟩ := I.loc
 refine wpAny_storeName_local (kind_env hx) F.ns (fun h' hn hs => h h' _ ?_ hs) (by rw [ok.kind]; rfl)
 have hne : ∀ {y},kindOf f.env.scope.names y ≠ none->y ≠ x->idx f.env.scope.names y ≠ idx f.env.scope.names x := fun hy z e => z (idx_inj hy (nn hx) e)
 have up : ∀ {j s'},getS (putS σ (idx f.env.scope.names x) sl) j = some s'->(idx f.env.scope.names x = j ∧ s' = sl ∧ upd α (idx f.env.scope.names x) a j = a) ∨ (idx f.env.scope.names x ≠ j ∧ getS σ j = some s' ∧ upd α (idx f.env.scope.names x) a j = α j) := fun {j s'} q =>
  (getS_put q).elim (fun z => .inl ⟨z.1,z.2,z.1 ▸ upd_self ..⟩) fun z => .inr ⟨z.1,z.2,upd_ne (Ne.symm z.1)⟩
 have moves : ∀ {b sl'},OwnAt f.p f.e f.g f.fs f.env.locals φ s.heap b sl'->OwnAt f.p f.e f.g f.fs f.env.locals φ h' b sl' := fun {b sl'} x => x.at fun so o _ q => (hs.2 _ (x.free so).L).trans q
 refine FI.at1 I hs (I.L_fs hn) (fun _ => I.eL) I.nL I.dkL.symm I.dcL.symm ⟨_,F.set hn hs,fun y s' hy hg => ?_⟩ (fun y s' hy hg => ?_) (fun j s' hg => ?_) fun j k s₁ s₂ q1 q2 q3 q4 e => ?_
 ·by_cases z : y = x
  ·subst z
   rw [if_pos rfl]
   rcases up hg with ⟨_,rfl,e⟩ | ⟨e,_⟩
   ·rw [e]; exact ⟨v,rfl,sv⟩
   ·exact absurd rfl e
  ·rw [if_neg z]
   rcases up hg with ⟨e,_⟩ | ⟨_,q,e⟩
   ·exact absurd e.symm (hne (nn hy) z)
   ·rw [e]; exact V y s' hy q
 ·rcases getS_put hg with ⟨e,_⟩ | ⟨_,q⟩
  ·exact absurd e.symm (hne (nn hy) fun z => by rw [z,hx] at hy; cases hy)
  ·exact q
 ·rcases up hg with ⟨_,rfl,e⟩ | ⟨_,q,e⟩
  ·rw [e]
   cases ho : s'.isOwn with
   | true => exact moves (ow ho).1
   | false => cases s' with
    | fz v => trivial
    | _ => cases ho
  ·rw [e]; exact moves (I.own j s' q)
 ·rcases up q1 with ⟨e1,rfl,z1⟩ | ⟨e1,r1,z1⟩
  ·rcases up q2 with ⟨e2,_⟩ | ⟨e2,r2,z2⟩
   ·exact e1.symm.trans e2
   ·exact absurd (z2.symm.trans (e.symm.trans z1)) ((ow q3).2 k s₂ r2 q4 (Ne.symm e2))
  ·rcases up q2 with ⟨e2,rfl,z2⟩ | ⟨e2,r2,z2⟩
   ·exact absurd (z1.symm.trans (e.trans z2)) ((ow q4).2 j s₁ r1 q3 (Ne.symm e1))
   ·exact I.inj j k s₁ s₂ r1 r2 q3 q4 (z1.symm.trans (e.trans z2))
theorem storeFz_snd (ok : EnvOk f.env) {x : Str} {v : Value} {pv : PV} {Q : Unit->Shared->Prop} (hx : kindOf f.env.scope.names x = some .local) (I : f.I φ α d σ s.heap) (r : Rep f.p φ v pv)
  (h : ∀ h' tk,f.I φ α d (putS σ (idx f.env.scope.names x) (.fz pv)) h'->Q () { s with heap := h',toks := tk }) : wpAny (model f.prog f.w) A (storeName f.env x v) Q E s :=
 store_snd ok (sl := .fz pv) (a := α (idx f.env.scope.names x)) hx I r (fun q => by cases q) fun h' tk I' _ => h h' tk (by rwa [upd_same] at I')
theorem bindName_snd (ok : EnvOk f.env) {x : Str} {pos : Pos} {v : Value} {pv : PV} {Q : Unit->Shared->Prop} {Q₂ : Nat->Sto->Prop} {E₂ : Nat->PV->Sto->Prop} (I : f.I φ α d σ s.heap) (r : Rep f.p φ v pv)
  (H : T.Sat d (bindN f.env.scope σ pv (some x)) Q₂ E₂) (h : ∀ h' tk σ',f.I φ α d σ' h'->Q₂ d σ'->Q () { s with heap := h',toks := tk }) : wpAny (model f.prog f.w) A (assign (.Name x pos) f.env v) Q E s := by
 refine T.Sat.chkE H fun hx H => ?_
 exact wpAny_assign_Name (storeFz_snd ok (eq_of_beq hx) I r fun h' tk I' => h h' tk _ I' H)
theorem bindN_name {t : Expr} {pv : PV} {Q₂ : Nat->Sto->Prop} {E₂ : Nat->PV->Sto->Prop} (H : T.Sat d (bindN f.env.scope σ pv (nameOf t)) Q₂ E₂) : ∃ x p,t = .Name x p ∧ T.Sat d (bindN f.env.scope σ pv (some x)) Q₂ E₂ := by
 cases e : nameOf t with
 | none => rw [e] at H; exact H.elim
 | some x => rw [e] at H; obtain ⟨p,rfl⟩ := nameOf_some e; exact ⟨x,p,rfl,H⟩
theorem bindGo_snd (ok : EnvOk f.env) {Q : Unit->Shared->Prop} {Q₂ : Nat->Sto->Prop} {E₂ : Nat->PV->Sto->Prop} {ts : List Expr} : ∀ {vs : List Value} {pvs : List PV} {σ : Sto} {s : Shared},f.I φ α d σ s.heap->Reps f.p φ vs pvs ->
  T.Sat d (bindGo f.env.scope σ ts pvs) Q₂ E₂->(∀ h' tk σ',f.I φ α d σ' h'->Q₂ d σ'->Q () { s with heap := h',toks := tk })->wpAny (model f.prog f.w) A (assignInOrder ((assignEach ts f.env).map (·.2)) vs) Q E s := by
 induction ts with
 | nil =>
  intro vs pvs σ s I r H h
  refine T.Sat.chkE H fun he H => ?_
  cases List.isEmpty_iff.mp he
  cases r
  exact wpAny_assignInOrder_none (h s.heap s.toks σ I H)
 | cons t ts ih =>
  intro vs pvs σ s I r H h
  cases r with
  | nil => exact H.elim
  | cons r q =>
   obtain ⟨x,p,rfl,H₂⟩ := bindN_name (T.Sat.bind H)
   exact wpAny_assignInOrder_more (bindName_snd ok I r H₂ fun h' tk σ₁ I' H' => ih (s := { s with heap := h',toks := tk }) I' q H' fun h'' tk' σ' I'' q' => h h'' tk' σ' I'' q')
theorem assignEach_names (env : Env) {ts : List Expr} (h : ∀ t ∈ ts,∃ x p,t = .Name x p) : (assignEach ts env).length = ts.length ∧ (assignEach ts env).findIdx? (·.1) = none := by
 induction ts with
 | nil => exact ⟨rfl,rfl⟩
 | cons t ts ih =>
  obtain ⟨x,p,rfl⟩ := h t (.head _)
  obtain ⟨a,b⟩ := ih fun t ht => h t (.tail _ ht)
  rw [show assignEach (.Name x p :: ts) env = (false,assign (.Name x p) env) :: assignEach ts env from rfl]
  exact ⟨congrArg (· + 1) a,by rw [List.findIdx?_cons,b]; rfl⟩
theorem go_names {Q₂ : Nat->Sto->Prop} {E₂ : Nat->PV->Sto->Prop} {ts : List Expr} : ∀ {pvs : List PV} {σ : Sto},T.Sat d (bindGo f.env.scope σ ts pvs) Q₂ E₂->∀ t ∈ ts,∃ x p,t = .Name x p := by
 induction ts with
 | nil => exact fun _ t ht => by cases ht
 | cons t ts ih =>
  intro pvs σ H u hu
  cases pvs with
  | nil => exact H.elim
  | cons v vs =>
   obtain ⟨x,p,rfl,H₂⟩ := bindN_name (f := f) (T.Sat.bind H)
   rcases List.mem_cons.mp hu with rfl | hu
   ·exact ⟨x,p,rfl⟩
   ·exact ih (T.Sat.chk H₂).2 u hu
theorem bindTuple_snd (ok : EnvOk f.env) (hh : A.handled = none) {ts : List Expr} {k} {pos : Pos} {v : Value} {pv : PV} {Q : Unit->Shared->Prop} {Q₂ : Nat->Sto->Prop} {E₂ : Nat->PV->Sto->Prop} (I : f.I φ α d σ s.heap) (r : Rep f.p φ v pv)
  (H : T.Sat d (bindT f.env.scope σ (.Tuple ts k pos) pv) Q₂ E₂) (h : ∀ h' tk σ',f.I φ α d σ' h'->Q₂ d σ'->Q () { s with heap := h',toks := tk }) : wpAny (model f.prog f.w) A (assign (.Tuple ts k pos) f.env v) Q E s := by
 refine T.Sat.tupVE H fun l eq1 H => ?_
 subst eq1
 refine T.Sat.chkE H fun hl H => ?_
 obtain ⟨a,vs,rfl,ht,hz,rr⟩ := r.tupOf I
 have hn := assignEach_names f.env (go_names H)
 refine wpAny_assign_Tuple hh (show s.heap.IsTuple a vs.toArray from ht) (by rw [hn.1,List.size_toArray,rr.length]; exact eq_of_beq hl) hn.2 fun h' hb => ?_
 exact bindGo_snd ok (s := { s with heap := h' }) (I.keeps fun b o q => hb b o (Nat.ne_of_lt (Heap.lt_size q)) q) rr H fun h'' tk σ' I' q => h h'' tk σ' I' q
theorem execs_snd (hX : ∀ φ₀ x,f.X φ₀ (FlowR f.p) A (exec x f.env) (fun σ => P.ex f.env.scope σ x)) (l : List Stmt) : ∀ (φ₀ : Ob),f.X φ₀ (FlowR f.p) A (execs l f.env) (fun σ => exs P f.env.scope σ l) := by
 induction l with
 | nil => exact fun φ₀ φ α d σ s Q E le I H => wpAny_execs_nil (H .next s.heap s.toks φ α rfl (Ext.refl ..) I .next)
 | cons st r ih =>
  intro φ₀ φ α d σ s Q E le I H
  refine wpAny_execs_cons (hX φ st φ α d σ s _ E (Le.refl _) I ((T.Sat.bind H).mono (fun d₁ x hx v h' tk φ' α' hα ex I' R => ?_) fun _ _ _ q => q))
  obtain ⟨fl,σ₁⟩ := x
  cases R with
  | next =>
   refine ih φ' φ' α' d₁ σ₁ { s with heap := h',toks := tk } Q E (Le.refl _) I' (T.Sat.mono hx (fun d₂ y q => ?_) fun d₂ told σ₂ q => ?_)
   ·exact fun v h'' tk' φ'' α'' ha ex' i rr => q v h'' tk' φ'' α'' (ha.trans hα) (ex.trans ex') i rr
   ·exact fun v h'' tk' φ'' α'' ha ex' i rr => q v h'' tk' φ'' α'' (ha.trans hα) (ex.trans ex') i rr
  | ret rr => exact hx _ h' tk φ' α' hα ex I' (.ret rr)
end
section
variable {f : Fm} {φ φ' : Ob} {α α' : Nat->Addr} {d d' : Nat} {σ σ' : Sto} {h h' : Heap} {s : Shared} {A : Around} {C : Cx} {P : Lv} {n : Nat} {E : Value->Shared->Prop}
structure Iter (f : Fm) (A : Around) (φ : Ob) (α : Nat->Addr) (σ : Sto) (h : Heap) (I : Addr) (xs : List PV) (fp wr : List Addr) (Pt : Nat->Value->Prop) (St : Nat->Heap->Prop) : Prop where
 W : Walks f.prog f.w A I fp wr xs.length Pt St
 st : St 0 h
 rep : ∀ j v x,Pt j v->xs[j]? = some x->Rep f.p φ v x
 un : ∀ b ∈ wr,Untracked f φ α σ h b
 fp : ∀ b ∈ fp,b ∈ wr ∨ φ b ≠ none
 al : ∀ j h,St j h->∀ b ∈ wr,∃ o,h.get? b = some o
theorem folded_plain {e : Expr} {env : Env} {x : Value} (h : plainR e = true) : foldedSetIterable e env x = pure x := by
 cases e <;> first | rfl | cases h
theorem size_le {xs : List PV} {vs : List Value} (r : Reps f.p φ vs xs) : vs.toArray.size = xs.length := r.length
theorem Iter.one {I₀ : Addr} {xs : List PV} {fp : List Addr} {Pt : Nat->Value->Prop} {St : Nat->Heap->Prop} {n : Nat} (e : n = xs.length) (W : Walks f.prog f.w A I₀ fp [I₀] n Pt St) (st : St 0 h) (rep : ∀ j v x,Pt j v->xs[j]? = some x->Rep f.p φ v x) (u : Untracked f φ α σ h I₀)
  (hfp : ∀ b ∈ fp,b = I₀ ∨ φ b ≠ none) (al : ∀ j h,St j h->∃ o,h.get? I₀ = some o) : Iter f A φ α σ h I₀ xs fp [I₀] Pt St :=
 ⟨e ▸ W,st,rep,fun b hb => List.mem_singleton.mp hb ▸ u,fun b hb => (hfp b hb).elim (fun e => .inl (List.mem_singleton.mpr e)) .inr,fun j h s b hb => List.mem_singleton.mp hb ▸ al j h s⟩
theorem seq_rep {vs : List Value} {xs : List PV} (rr : Reps f.p φ vs xs) (j : Nat) (v : Value) (x : PV) (h1 : vs.toArray[j]? = some v) (h2 : xs[j]? = some x) : Rep f.p φ v x := by
 obtain ⟨u,hu,ru⟩ := rr.get h2
 rw [List.getElem?_toArray,hu] at h1
 cases h1; exact ru
theorem fp2 {a b : Addr} (hφ : φ a ≠ none) (c : Addr) (hc : c ∈ [b,a]) : c = b ∨ φ c ≠ none := (List.mem_cons.mp hc).elim .inl fun z => .inr (by rw [List.mem_singleton.mp z]; exact hφ)
theorem items_snd (hA : AOk n f.fs A) {v : Value} {x : PV} {xs : List PV} {Q : Value->Shared->Prop} (I : f.I φ α d σ s.heap) (r : Rep f.p φ v x) (hi : items x = some xs)
  (next : ∀ s₂ I₀ fp wr Pt St,f.I φ α d σ s₂.heap->Iter f A φ α σ s₂.heap I₀ xs fp wr Pt St->(∃ h' tk,s₂ = { s with heap := h',toks := tk })->Q (.ref I₀) s₂) : wpAny (model f.prog f.w) A (pyIter v) Q E s := by
 cases x with
 | list l =>
  cases hi
  obtain ⟨a,vs,_,rfl,h1,_,rr⟩ := r.inv
  obtain ⟨I',u⟩ := FI.pushU I { cls := .type "list_iterator",data := .fields #[.ref a,.int 0 0] }
  have hl : s.heap.IsList a vs.toArray := ⟨_,I.sub _ _ h1,rfl,_,rfl⟩
  exact wpAny_pyIter_list hl (next { s with heap := _ } _ _ _ _ _ I' (Iter.one rr.length (Walks.list (prog := f.prog) (w := f.w) hA.handled s.heap.objs.size a (fun z => nn h1 (z ▸ u.φ)) vs.toArray) ⟨⟨_,Heap.get?_push_size _ rfl,rfl,rfl⟩,hl.push _⟩ (seq_rep rr) u (fp2 (nn h1)) fun j h st => let ⟨⟨o,q,_⟩,_⟩ := st; ⟨o,q⟩) ⟨_,_,rfl⟩)
 | tup l =>
  cases hi
  obtain ⟨a,o,vs,_,rfl,h1,h2,h3,_,rr⟩ := r.inv
  obtain ⟨I',u⟩ := FI.pushU I { cls := .type "tuple_iterator",data := .fields #[.ref a,.int 0 0] }
  have hl : s.heap.IsTuple a vs.toArray := ⟨_,I.sub _ _ h1,h2,_,h3⟩
  exact wpAny_pyIter_tuple hl (next { s with heap := _ } _ _ _ _ _ I' (Iter.one rr.length (Walks.tuple (prog := f.prog) (w := f.w) hA.handled s.heap.objs.size a (fun z => nn h1 (z ▸ u.φ)) vs.toArray) ⟨⟨_,Heap.get?_push_size _ rfl,rfl,rfl⟩,hl.push _⟩ (seq_rep rr) u (fp2 (nn h1)) fun j h st => let ⟨⟨o,q,_⟩,_⟩ := st; ⟨o,q⟩) ⟨_,_,rfl⟩)
 | byt b =>
  cases hi
  obtain ⟨t,rfl,hz⟩ := r.bytOf
  obtain ⟨I',u⟩ := FI.pushU I { cls := .type "bytes_iterator",data := .fields #[.bytes b t,.int 0 0] }
  refine KBw.pyIter_bytes (next { s with heap := _ } _ _ _ _ _ I' (Iter.one (List.length_map ..).symm (KBw.walks (prog := f.prog) (w := f.w) hA.handled s.heap.objs.size b t) ⟨_,Heap.get?_push_size _ rfl,rfl,rfl⟩ (fun j v x h1 h2 => ?_) u (fun b hb => .inl (List.mem_singleton.mp hb)) fun j h st => let ⟨o,q,_⟩ := st; ⟨o,q⟩) ⟨_,_,rfl⟩)
  obtain ⟨c,u,h3,rfl⟩ := h1
  rw [List.getElem?_map,Array.getElem?_toList,h3] at h2
  cases h2; exact .int _ _
 | str b =>
  cases hi
  obtain ⟨t,rfl,hz⟩ := r.strOf
  have fin : ∀ {T : String},Walks f.prog f.w A s.heap.objs.size [s.heap.objs.size] [s.heap.objs.size] b.cps.size (SignAt b) (fun i h => h.IsStrIter s.heap.objs.size T b t i) ->
    Q (.ref s.heap.objs.size) { s with heap := s.heap.push { cls := .type T,data := .fields #[.str b t,.int 0 0] } } := fun {T} W => by
   obtain ⟨I',u⟩ := FI.pushU I { cls := .type T,data := .fields #[.str b t,.int 0 0] }
   refine next { s with heap := _ } _ _ _ _ _ I' (Iter.one (List.length_map ..).symm W ⟨_,Heap.get?_push_size _ rfl,rfl,rfl⟩ (fun j v x h1 h2 => ?_) u (fun b hb => .inl (List.mem_singleton.mp hb)) fun j h st => let ⟨o,q,_⟩ := st; ⟨o,q⟩) ⟨_,_,rfl⟩
   obtain ⟨c,u,h3,rfl⟩ := h1
   rw [List.getElem?_map,Array.getElem?_toList,h3] at h2
   cases h2; exact .str _ _ (show 1 ≤ lineB by decide)
  cases ha : b.cps.all (· < 128)
  ·exact wpAny_pyIter_wide ha (fin (Walks.strWide hA.handled _ b t))
  ·exact wpAny_pyIter_ascii ha (fin (Walks.strAscii hA.handled _ b t))
 | _ => exact noOpt hi
theorem rangeIter (hA : AOk n f.fs A) {k : Int} {m : Nat} {b : Int} {t1 t2 t3 : Tok} {xs : List PV} {Q : Value->Shared->Prop} (I : f.I φ α d σ s.heap) (hx : xs = (List.range m).map fun i : Nat => .int (k * (i : Int))) (hsz : Builtin.Range.rangeSize 0 b k = (m : Int)) (sm : Builtin.Range.small 0 b k = true)
  (next : ∀ s₂ I₀ fp wr Pt St,f.I φ α d σ s₂.heap->Iter f A φ α σ s₂.heap I₀ xs fp wr Pt St->(∃ h' tk,s₂ = { s with heap := h',toks := tk })->Q (.ref I₀) s₂) {tk : Nat} :
  wpAny (model f.prog f.w) A (pyIter (.ref s.heap.objs.size)) Q E { s with heap := s.heap.push { cls := .type "range",data := .fields #[.int 0 t1,.int b t2,.int k t3] },toks := tk } := by
 subst hx
 obtain ⟨I₁,u₁⟩ := FI.pushU I { cls := .type "range",data := .fields #[.int 0 t1,.int b t2,.int k t3] }
 refine wpAny_pyIter_range (IsRange.new ..) sm ?_
 obtain ⟨I₂,u₂⟩ := FI.pushU I₁ { cls := .type "range_iterator",data := .fields #[rawInt 0,rawInt (Builtin.Range.rangeSize 0 b k),rawInt k] }
 have W := Walks.range (prog := f.prog) (w := f.w) hA.handled (s.heap.push { cls := .type "range",data := .fields #[.int 0 t1,.int b t2,.int k t3] }).objs.size 0 k m
 refine next { s with heap := _,toks := tk } _ _ _ _ _ I₂ (Iter.one ((List.length_map ..).trans List.length_range).symm W ?_ (fun j v x h1 h2 => ?_) u₂ (fun b hb => .inl (List.mem_singleton.mp hb)) fun j h st => ⟨_,st⟩) ⟨_,_,rfl⟩
 ·dsimp only
  rw [show (0 + ((0 : Nat) : Int) * k) = 0 by rw [Int.ofNat_zero,Int.zero_mul]; rfl,show ((m : Int) - ((0 : Nat) : Int)) = Builtin.Range.rangeSize 0 b k from hsz ▸ Int.sub_zero _]
  exact Heap.get?_push_size _ rfl
 ·obtain ⟨t,rfl⟩ := h1
  rw [List.getElem?_map] at h2
  obtain ⟨y,hy,rfl⟩ := Option.map_eq_some_iff.mp h2
  obtain ⟨_,e⟩ := List.getElem?_eq_some_iff.mp hy
  rw [List.getElem_range] at e
  rw [e,Int.zero_add,Int.mul_comm]; exact .int _ _
theorem range_some {pvs xs : List PV} (hi : rangeOf pvs = some xs) : (∃ k,pvs = [.int k] ∧ (0 ≤ k ∧ k < 1000) ∧ xs = (List.range k.toNat).map fun i : Nat => .int (i : Int)) ∨ (pvs = [.int 0,.int 4,.int 2] ∧ xs = (List.range 2).map fun i : Nat => .int (2 * (i : Int))) := by
 have ite : ∀ {c : Prop} [Decidable c] {a : List PV},(if c then some a else none) = some xs->c ∧ xs = a := fun {c _ a} h => by
  by_cases q : c
  ·rw [if_pos q] at h; exact ⟨q,(Option.some.inj h).symm⟩
  ·rw [if_neg q] at h; exact noOpt h
 cases pvs with
 | nil => exact noOpt hi
 | cons a r => cases a with
  | int k => cases r with
   | nil => exact .inl ⟨k,rfl,ite hi⟩
   | cons b r => cases b with
    | int b => cases r with
     | nil => exact noOpt hi
     | cons c r => cases r with
      | cons => exact noOpt hi
      | nil => cases c with
       | int c => obtain ⟨⟨rfl,rfl,rfl⟩,e⟩ := ite hi; exact .inr ⟨rfl,e⟩
       | _ => exact noOpt hi
    | _ => exact noOpt hi
  | _ => exact noOpt hi
theorem range_snd (hA : AOk n f.fs A) {vs : List Value} {pvs xs : List PV} {Q : Value->Shared->Prop} (I : f.I φ α d σ s.heap) (r : Reps f.p φ vs pvs) (hi : rangeOf pvs = some xs)
  (next : ∀ s₂ I₀ fp wr Pt St,f.I φ α d σ s₂.heap->Iter f A φ α σ s₂.heap I₀ xs fp wr Pt St->(∃ h' tk,s₂ = { s with heap := h',toks := tk })->Q (.ref I₀) s₂) :
  wpAny (model f.prog f.w) A (call (.type "range") vs) (fun v s₁ => wpAny (model f.prog f.w) A (pyIter v) Q E s₁) E s := by
 rcases range_some hi with ⟨k,rfl,⟨h0,h1⟩,rfl⟩ | ⟨rfl,rfl⟩
 ·refine one_ofE r fun v eq1 q => ?_
  subst eq1
  obtain ⟨t,rfl⟩ := q.intOf
  have hsz : Builtin.Range.rangeSize 0 k 1 = (k.toNat : Int) := by rw [rangeSize_one]; split <;> omega
  exact call_range_1 (rangeIter hA I (List.map_congr_left fun i _ => by rw [Int.one_mul]) hsz (small_one (by decide) (by decide) (by omega) (by omega)) next)
 ·obtain ⟨v1,v2,v3,rfl,q1,q2,q3⟩ : ∃ v1 v2 v3,vs = [v1,v2,v3] ∧ Rep f.p φ v1 (.int 0) ∧ Rep f.p φ v2 (.int 4) ∧ Rep f.p φ v3 (.int 2) := by
   cases r with | cons a r => obtain ⟨u,v,rfl,b,c⟩ := two_of r; exact ⟨_,u,v,rfl,a,b,c⟩
  obtain ⟨t1,rfl⟩ := q1.intOf
  obtain ⟨t2,rfl⟩ := q2.intOf
  obtain ⟨t3,rfl⟩ := q3.intOf
  exact call_range_3 (by decide) (rangeIter hA I rfl (m := 2) (by decide) (by decide) next) (.inl (PyProof.noPylong_small (by decide)))
variable {γ : Type} {R : Ob->Value->γ->Prop}
theorem biArgs_some {sc : Scope} {b : Str} {e : Expr} {args : List Expr} (h : biArgs sc b e = some args) : ∃ np pos,e = .Call (.Name b np) args [] pos ∧ kindOf sc.names b = some .globalImplicit := by
 cases e with
 | Call g as kws p => cases g with
  | Name x np =>
   have h : (match kws.isEmpty && isGlob (kindOf sc.names x) && seq x b with | true => some as | false => none) = some args := h
   cases q : kws.isEmpty && isGlob (kindOf sc.names x) && seq x b with
   | false => rw [q] at h; exact noOpt h
   | true =>
    rw [q] at h
    cases h
    refine and2 q fun a c => ?_
    refine and2 a fun a' k => ?_
    cases seq_iff.mp c
    cases List.isEmpty_iff.mp a'
    exact ⟨np,p,rfl,eq_of_beq k⟩
  | _ => exact noOpt h
 | _ => exact noOpt h
theorem rangeArgs_some {sc : Scope} {e : Expr} {args : List Expr} (h : rangeArgs sc e = some args) : ∃ np pos,e = .Call (.Name "range" np) args [] pos ∧ kindOf sc.names "range" = some .globalImplicit := biArgs_some h
theorem iter_snd {PQ : Ob->Shared->Nat->γ × Sto->Prop} {PE : Ob->Shared->Nat->PV->Sto->Prop} (ps : Posts f α E PQ PE) (hE : ∀ φ₀ x,f.S φ₀ (Rep f.p) A (eval x f.env) (fun σ => P.ev f.env.scope σ x)) (ok : EnvOk f.env) (st : Stat f.prog f.w f.K f.p C) (df : Defs f.K f.p C st.mg st.mb) (hA : AOk n f.fs A) {e : Expr} {K : Value->Shared->Prop}
  (I : f.I φ α d σ s.heap) {t₂ : List PV × Sto->T (γ × Sto)} (H : T.Sat d (iterOf P f.env.scope σ e >>= t₂) (PQ φ s) (PE φ s))
  (next : ∀ φ₁ xs σ₁ s₂ d₁ I₀ fp wr Pt St,Le φ φ₁->f.I φ₁ α d₁ σ₁ s₂.heap->Iter f A φ₁ α σ₁ s₂.heap I₀ xs fp wr Pt St->T.Sat d₁ (t₂ (xs,σ₁)) (PQ φ₁ s₂) (PE φ₁ s₂)->K (.ref I₀) s₂) :
  plainR e = true ∧ wpAny (model f.prog f.w) A (eval e f.env) (fun x s₁ => wpAny (model f.prog f.w) A (pyIter x) K E s₁) E s := by
 refine T.Sat.chkE H.bind fun hp H₀ => ⟨hp,?_⟩
 have shift : ∀ {φ₁ : Ob} {s₁ : Shared} {d₁ : Nat} {x : List PV × Sto} {s₂ : Shared},(∃ h' tk,s₂ = { s₁ with heap := h',toks := tk })->T.Sat d₁ (t₂ x) (PQ φ₁ s₁) (PE φ₁ s₁)->T.Sat d₁ (t₂ x) (PQ φ₁ s₂) (PE φ₁ s₂) :=
  fun ⟨_,_,e⟩ h => e ▸ h.mono (fun _ _ q => ps.q q (Ext.refl ..)) fun _ _ _ q => ps.e q (Ext.refl ..)
 have H : T.Sat d (iterAt P f.env.scope σ e (rangeArgs f.env.scope e) >>= t₂) (PQ φ s) (PE φ s) := T.sat_bind.mpr H₀
 cases hr : rangeArgs f.env.scope e with
 | some args =>
  rw [hr] at H
  obtain ⟨np,pos,rfl,hk⟩ := rangeArgs_some hr
  refine T.Sat.chkE (T.Sat.assoc H).bind fun hpl H => ?_
  refine wpAny_Call_NameR (name_builtin ok st I hk df.rng.1 df.rng.2 (callWith_any (.ty "range") hpl ((snd_evs hE args φ).cpsG ps (Le.refl _) I (T.sat_bind.mpr H) fun φ₁ vs xs σ₁ s₁ d₁ le₁ I₁ r H₁ => ⟨I₁.kinH,?_⟩)))
  exact T.Sat.optE (T.Sat.assoc H₁) fun ys hy H₁ => range_snd (vs := vs) hA I₁ r hy fun s₂ I₀ fp wr Pt St I₂ it e => next φ₁ ys σ₁ s₂ d₁ I₀ fp wr Pt St le₁ I₂ it (shift e H₁)
 | none =>
  rw [hr] at H
  refine (hE φ e).cpsG ps (Le.refl _) I (T.Sat.assoc H) fun φ₁ v x σ₁ s₁ d₁ le₁ I₁ r H₁ => ?_
  exact T.Sat.optE (T.Sat.assoc H₁) fun ys hy H₁ => items_snd hA I₁ r hy fun s₂ I₀ fp wr Pt St I₂ it e => next φ₁ ys σ₁ s₂ d₁ I₀ fp wr Pt St le₁ I₂ it (shift e H₁)
end
section
variable {prog : Program} {w : World} {A : Around} {R : Result->Shared->Prop} {s : Shared}
theorem for_turns {target it body orelse env} (I : Nat->Shared->Prop)
  (turn : ∀ n s,I n s->wpAny (model prog w) A (pyNext it) (fun r s₁ => match r with
   | none => wpAny (model prog w) A (execs orelse env) (fun f s₃ => R (.ok f) s₃) (notedBy (model prog w) A env fun e s' => R (.error e) s') s₁
   | some v => wpAny (model prog w) A (letOwnedTupleGo target it v) (fun _ s₁ => wpAny (model prog w) A (assign target env v) (fun _ s₂ => wpAny (model prog w) A (execs body env) (fun f s₃ => match f with
     | .next | .cont => ∃ m,m < n ∧ I m s₃
     | .brk => R (.ok .next) s₃
     | .ret v => R (.ok (.ret v)) s₃) (notedBy (model prog w) A env fun e s' => R (.error e) s') s₂) (notedBy (model prog w) A env fun e s' => R (.error e) s') s₁) (notedBy (model prog w) A env fun e s' => R (.error e) s') s₁) (notedBy (model prog w) A env fun e s' => R (.error e) s') s)
  (n : Nat) (h : I n s) : codeAny (model prog w) A (.forLoop target it body orelse env) R s := by
 refine codeAny_loop' rfl I (fun n s hI => ?_) n h
 show wpAny _ _ ((forTurn target it body orelse env).onRaise (fun x => do noteFrame x env; theTreesLotGoes x)) _ _ s
 refine wpAny_noted ?_
 unfold forTurn
 refine wpAny_bind (wpAny_standAt (wpAny_bind (wpAny_onRaise (wpAny_mono (turn n s hI) (fun r s₁ h₁ => ?_) fun _ _ q => wpAny_standAt q))))
 cases r with
 | none => exact wpAny_pure (.inr ⟨rfl,codeAny_block h₁⟩)
 | some v =>
  refine wpAny_bind (wpAny_mono h₁ (fun _ s₂ h₂ => wpAny_bind (wpAny_mono h₂ (fun _ s₃ h₃ => wpAny_bind (wpAny_mono h₃ (fun fl s₄ h₄ => ?_) fun _ _ q => q)) fun _ _ q => q)) fun _ _ q => q)
  cases fl with
  | next => exact wpAny_pure (.inl ⟨rfl,h₄⟩)
  | cont => exact wpAny_pure (.inl ⟨rfl,h₄⟩)
  | brk => exact wpAny_pure h₄
  | ret v => exact wpAny_pure h₄
end
section
variable {f : Fm} {φ φ' φ₁ : Ob} {α α' α₁ : Nat->Addr} {d d' : Nat} {σ σ' : Sto} {h h' : Heap} {s : Shared} {A : Around} {C : Cx} {P : Lv} {n : Nat} {E : Value->Shared->Prop}
variable {β γ : Type} {R : Ob->β->γ->Prop} {Q : β->Shared->Prop}
theorem QX.step {r : γ × Sto} {h : Heap} {tk : Nat} (x : QX f R φ α s Q d r) (ha : α₁ 0 = α 0) (y : Ext f.e φ φ₁) : QX f R φ₁ α₁ { s with heap := h,toks := tk } Q d r :=
 fun v h' tk' φ' α' ha' e i rr => x v h' tk' φ' α' (ha'.trans ha) (y.trans e) i rr
theorem EX.step {told : PV} {h : Heap} {tk : Nat} (x : EX f φ α s E d told σ) (ha : α₁ 0 = α 0) (y : Ext f.e φ φ₁) : EX f φ₁ α₁ { s with heap := h,toks := tk } E d told σ :=
 fun v h' tk' φ' α' ha' e i rr => x v h' tk' φ' α' (ha'.trans ha) (y.trans e) i rr
theorem QX.here {r : γ × Sto} {v : β} (x : QX f R φ α s Q d r) (I : f.I φ α d r.2 s.heap) (h : R φ v r.1) : Q v s := x v s.heap s.toks φ α rfl (Ext.refl ..) I h
noncomputable def Fm.anew (f f' : Fm) : Prop := f'.prog = f.prog ∧ f'.w = f.w ∧ f'.K = f.K ∧ f'.p = f.p ∧ f'.fs = f.fs ∧ f'.env = f.env
theorem Fm.now_anew (f : Fm) (h : Heap) (α : Nat->Addr) (σ : Sto) : f.anew (f.now h α σ) := ⟨rfl,rfl,rfl,rfl,rfl,rfl⟩
theorem iter_kept {fp wr : List Addr} (I : f.I φ α d σ h) (I' : (f.now h α σ).I φ' α' d' σ' h') (un : ∀ b ∈ wr,Untracked f φ α σ h b) (hfp : ∀ b ∈ fp,b ∈ wr ∨ φ b ≠ none) : ∀ b ∈ fp,∀ o,h.get? b = some o->h'.get? b = some o := by
 intro b hb o ho
 rcases hfp b hb with z | z
 ·exact I.now_kept I' (I.untracked_g ho (un b z))
 ·exact I.now_kept I' (I.now_g ho (.inl z))
structure IterAt (f : Fm) (φ : Ob) (α : Nat->Addr) (d : Nat) (σ : Sto) (h : Heap) (xs : List PV) (fp wr : List Addr) (Pt : Nat->Value->Prop) (St : Nat->Heap->Prop) (j : Nat) : Prop where
 hj : j ≤ xs.length
 I : f.I φ α d σ h
 st : St j h
 rep : ∀ j v x,Pt j v->xs[j]? = some x->Rep f.p φ v x
 un : ∀ b ∈ wr,Untracked f φ α σ h b
 fp : ∀ b ∈ fp,b ∈ wr ∨ φ b ≠ none
theorem Untracked.at {b : Addr} (u : Untracked f φ α σ h b) (o : ∃ o,h'.get? b = some o) : Untracked f φ α σ h' b := ⟨u.φ,u.g,u.e,u.fs,u.L,u.dk,u.dc,u.own,o⟩
theorem Le.some {b : Addr} (le : Le φ φ') (z : φ b ≠ none) : φ' b ≠ none := by
 cases q : φ b with
 | none => exact absurd q z
 | some o => exact nn (le _ _ q)
theorem IterAt.next {h₁ : Heap} {xs : List PV} {fp wr : List Addr} {Pt : Nat->Value->Prop} {St : Nat->Heap->Prop} {j : Nat} (X : IterAt f φ α d σ h xs fp wr Pt St j) (hlt : j < xs.length) (I : f.I φ' α' d' σ' h') (le : Le φ φ') (st : St (j + 1) h') (un : ∀ b ∈ wr,Untracked f φ' α' σ' h' b) : IterAt f φ' α' d' σ' h' xs fp wr Pt St (j + 1) :=
 ⟨hlt,I,st,fun j v x h1 h2 => (X.rep j v x h1 h2).mono le,un,fun b hb => (X.fp b hb).elim .inl fun z => .inr (le.some z)⟩
theorem turn_body (hX : ∀ f',f.anew f'->∀ φ₀ x,f'.X φ₀ (FlowR f'.p) A (exec x f'.env) (fun σ => P.ex f'.env.scope σ x)) {body : List Stmt} {rest : Sto->T (Fl × Sto)} {h₁ h₂ : Heap} {fp wr : List Addr} {Q K : Flow->Shared->Prop} {E' : Value->Shared->Prop} {tk₂ : Nat} {σ₂ : Sto}
  (I₁ : f.I φ α d σ h₁) (un₁ : ∀ b ∈ wr,Untracked f φ α σ h₁ b) (hfp : ∀ b ∈ fp,b ∈ wr ∨ φ b ≠ none) (I₂ : (f.now h₁ α σ).I φ α d' σ₂ h₂)
  (H : T.Sat d' (exs P f.env.scope σ₂ body >>= fun y => afterT y rest) (QX f (FlowR f.p) φ α s Q) (fun _ _ _ => False))
  (next : ∀ φ₃ α₃ d₃ σ₃ h₃ tk₃,Ext f.e φ φ₃->f.I φ₃ α₃ d₃ σ₃ h₃->(∀ b ∈ wr,Untracked f φ₃ α₃ σ₃ h₃ b)->(∀ b ∈ fp,∀ o,h₁.get? b = some o->h₃.get? b = some o)->T.Sat d₃ (rest σ₃) (QX f (FlowR f.p) φ₃ α₃ { s with heap := h₃,toks := tk₃ } Q) (fun _ _ _ => False)->K .next { s with heap := h₃,toks := tk₃ })
  (ret : ∀ v s,Q (.ret v) s->K (.ret v) s) : wpAny (model f.prog f.w) A (execs body f.env) K E' { s with heap := h₂,toks := tk₂ } := by
 refine execs_snd (f := f.now h₁ α σ) (fun φ₀ x => hX _ (f.now_anew ..) φ₀ x) body φ φ α d' σ₂ { s with heap := h₂,toks := tk₂ } _ _ (Le.refl _) I₂ (H.bind.mono (fun d₃ y hy v₃ h₃ tk₃ φ₃ α₃ ha ex I₃ R₃ => ?_) fun _ _ _ q => q.elim)
 obtain ⟨fl,σ₃⟩ := y
 obtain ⟨IB,exB⟩ := I₁.fromNow I₃ ex
 cases R₃ with
 | next => exact next φ₃ α₃ d₃ σ₃ h₃ tk₃ exB IB (fun b hb => (un₁ b hb).after I₁ I₃ ex) (iter_kept I₁ I₃ un₁ hfp) (T.Sat.mono hy (fun _ _ q => q.step ha exB) fun _ _ _ q => q)
 | ret rr => exact ret _ _ (hy _ h₃ tk₃ φ₃ α₃ ha exB IB (.ret rr))
theorem drop_at {l : List PV} {j : Nat} (hlt : j < l.length) : l.drop j = l[j] :: l.drop (j + 1) := List.drop_eq_getElem_cons hlt
noncomputable def ForInv (f : Fm) (L : Sto->List PV->T (Fl × Sto)) (xs : List PV) (fp wr : List Addr) (Pt : Nat->Value->Prop) (St : Nat->Heap->Prop) (Q : Flow->Shared->Prop) (n : Nat) (s' : Shared) : Prop :=
 ∀ Z : Prop,(∀ φ' α' d' σ' j,n = xs.length - j->IterAt f φ' α' d' σ' s'.heap xs fp wr Pt St j->T.Sat d' (L σ' (xs.drop j)) (QX f (FlowR f.p) φ' α' s' Q) (fun _ _ _ => False)->Z)->Z
theorem for_snd (hX : ∀ f',f.anew f'->∀ φ₀ x,f'.X φ₀ (FlowR f'.p) A (exec x f'.env) (fun σ => P.ex f'.env.scope σ x)) (ok : EnvOk f.env) {x : Str} {np : Pos} {body : List Stmt} {xs : List PV} {I₀ : Addr} {fp wr : List Addr} {Pt St} {Q : Flow->Shared->Prop}
  (I : f.I φ α d σ s.heap) (it : Iter f A φ α σ s.heap I₀ xs fp wr Pt St) (H : T.Sat d (forLoop P f.env.scope (.Name x np) body σ xs) (QX f (FlowR f.p) φ α s Q) (fun _ _ _ => False)) :
  codeAny (model f.prog f.w) A (.forLoop (.Name x np) (.ref I₀) body [] f.env) (fun r s' => match r with | .ok fl => Q fl s' | .error e => cameBackBy (model f.prog f.w) A f.env E e s') s := by
 refine for_turns (ForInv f (forLoop P f.env.scope (.Name x np) body) xs fp wr Pt St Q) (fun n s' hI => hI _ fun φ' α' d' σ' j en X H' => ?_) xs.length fun _ k => k φ α d σ 0 rfl ⟨Nat.zero_le _,I,it.st,it.rep,it.un,it.fp⟩ H
 subst en
 by_cases hlt : j < xs.length
 ·refine it.W.item j s' _ _ hlt X.st fun v h₁ tk hP st₁ keep => wpAny_pure ?_
  rw [drop_at hlt] at H'
  have I₁ := X.I.aside X.un keep
  have un₁ : ∀ b ∈ wr,Untracked f φ' α' σ' h₁ b := fun b hb => (X.un b hb).at (it.al _ _ st₁ b hb)
  refine bindName_snd (f := f.now h₁ α' σ') (s := { s' with heap := h₁,toks := tk }) ok I₁.toNow (X.rep j v _ hP (List.getElem?_eq_getElem hlt)) (T.Sat.bind H') fun h₂ tk₂ σ₂ I₂ H₂ => ?_
  exact turn_body hX I₁ un₁ X.fp I₂ H₂ (fun φ₃ α₃ d₃ σ₃ h₃ tk₃ ex IB un₃ kept H₃ => ⟨xs.length - (j + 1),Nat.sub_lt_sub_left hlt (Nat.lt_succ_self j),fun _ k => k φ₃ α₃ d₃ σ₃ (j + 1) rfl (X.next (h₁ := h₁) hlt IB ex.1 (it.W.frame _ _ _ st₁ kept) un₃) H₃⟩) fun v s q => q
 ·have e : j = xs.length := Nat.le_antisymm X.hj (Nat.le_of_not_lt hlt)
  subst e
  rw [List.drop_length] at H'
  exact it.W.done s' _ _ X.st fun h₁ tk keep => wpAny_execs_nil (H' .next h₁ tk φ' α' rfl (Ext.refl ..) (X.I.aside X.un keep) .next)
end
section
variable {f : Fm} {φ φ' φ₁ φ₀ : Ob} {α α' α₁ : Nat->Addr} {d d' : Nat} {σ σ' : Sto} {h h' : Heap} {s : Shared} {A : Around} {C : Cx} {P : Lv} {n : Nat} {E : Value->Shared->Prop}
structure Fm.Like (f f' : Fm) : Prop where
 prog : f'.prog = f.prog
 w : f'.w = f.w
 K : f'.K = f.K
 p : f'.p = f.p
 fs : f'.fs = f.fs
theorem Fm.now_like (f : Fm) (h : Heap) (α : Nat->Addr) (σ : Sto) : f.Like (f.now h α σ) := ⟨rfl,rfl,rfl,rfl,rfl⟩
theorem Fm.Like.trans {f g k : Fm} (a : f.Like g) (b : g.Like k) : f.Like k := ⟨b.prog.trans a.prog,b.w.trans a.w,b.K.trans a.K,b.p.trans a.p,b.fs.trans a.fs⟩
structure EvOk (f : Fm) (A : Around) (P : Lv) : Prop where
 ev : ∀ f' : Fm,f.Like f'->EnvOk f'.env->∀ φ₀ x,f'.S φ₀ (Rep f'.p) A (eval x f'.env) (fun σ => P.ev f'.env.scope σ x)
 isT : ∀ f' : Fm,f.Like f'->EnvOk f'.env->∀ φ₀ x,f'.S φ₀ (fun _ a b => a = b) A (isTrue x f'.env (eval x f'.env)) (fun σ => P.isT f'.env.scope σ x)
theorem EvOk.like {f g : Fm} (h : EvOk f A P) (l : f.Like g) : EvOk g A P := ⟨fun f' l' => h.ev f' (l.trans l'),fun f' l' => h.isT f' (l.trans l')⟩
theorem test_false {env : Env} {Q : Bool->Shared->Prop} (ifs : List Expr) {s : Shared} (h : Q false s) :
  wpAny (model f.prog f.w) A (forIn ifs false fun c r => if r = true then do let ok ← isTrue c env (eval c env); pure (ForInStep.yield ok) else pure (ForInStep.yield r)) Q E s := by
 induction ifs with
 | nil => exact wpAny_pure h
 | cons e r ih => rw [List.forIn_cons,if_neg Bool.false_ne_true]; exact wpAny_bind (wpAny_pure ih)
theorem testAll_snd (hT : ∀ φ₀ x,f.S φ₀ (fun _ a b => a = b) A (isTrue x f.env (eval x f.env)) (fun σ => P.isT f.env.scope σ x)) (ifs : List Expr) : ∀ (φ₀ : Ob),
  f.S φ₀ (fun _ a b => a = b) A (forIn ifs true fun c r => if r = true then do let ok ← isTrue c f.env (eval c f.env); pure (ForInStep.yield ok) else pure (ForInStep.yield r)) (fun σ => testAll P f.env.scope σ ifs) := by
 induction ifs with
 | nil => exact fun φ₀ φ α d σ s Q E le I H => wpAny_pure (QQ.here0 H I rfl)
 | cons e r ih =>
  intro φ₀ φ α d σ s Q E le I H
  rw [List.forIn_cons,if_pos rfl]
  refine wpAny_bind (wpAny_bind ((hT φ e).cps (Le.refl _) I H fun φ₁ a y σ₁ s₁ d₁ le₁ I₁ R H₁ => wpAny_pure ?_))
  cases (show a = y from R)
  cases a
  ·exact test_false r (QQ.here0 H₁ I₁ rfl)
  ·exact ih φ₁ φ₁ α d₁ σ₁ s₁ Q E (Le.refl _) I₁ H₁
theorem Reps.snoc {p : Pl} {φ : Ob} {vs : List Value} {xs : List PV} {v : Value} {x : PV} (a : Reps p φ vs xs) (b : Rep p φ v x) : Reps p φ (vs ++ [v]) (xs ++ [x]) := a.append (.cons b .nil)
structure CompAt (f : Fm) (φ : Ob) (α : Nat->Addr) (σ : Sto) (h : Heap) (D : Addr) (ys : List Value) (zs : List PV) : Prop where
 uD : Untracked f φ α σ h D
 hD : h.PlainList D (List.toArray ys)
 rep : Reps f.p φ ys zs
theorem CompAt.at {D : Addr} {ys : List Value} {zs : List PV} (X : CompAt f φ α σ h D ys zs) (k : ∀ o,h.get? D = some o->h'.get? D = some o) : CompAt f φ α σ h' D ys zs :=
 ⟨X.uD.at (let ⟨o,q⟩ := X.uD.there; ⟨o,k o q⟩),X.hD.at k,X.rep⟩
theorem CompAt.after {D : Addr} {ys : List Value} {zs : List PV} (X : CompAt f φ α σ h D ys zs) (I : f.I φ α d σ h) (I' : (f.now h α σ).I φ' α' d' σ' h') (ex : Ext (f.now h α σ).e φ φ') : CompAt f φ' α' σ' h' D ys zs :=
 ⟨X.uD.after I I' ex,X.hD.at fun o q => I.now_kept I' (I.untracked_g q X.uD),X.rep.mono ex.1⟩
theorem CompAt.snoc {D : Addr} {ys : List Value} {zs : List PV} {v : Value} {x : PV} (X : CompAt f φ α σ h D ys zs) (hp : h'.PlainList D (ys ++ [v]).toArray) (r : Rep f.p φ v x) : CompAt f φ α σ h' D (ys ++ [v]) (zs ++ [x]) :=
 ⟨X.uD.at (let ⟨_,q⟩ := hp; ⟨_,q⟩),hp,X.rep.snoc r⟩
noncomputable def CompInv (f : Fm) (P : Lv) (φ : Ob) (α : Nat->Addr) (s : Shared) (elt t : Expr) (ifs : List Expr) (xs : List PV) (fp wr : List Addr) (Pt : Nat->Value->Prop) (St : Nat->Heap->Prop) (D : Addr) (Q₂ : Nat->List PV × Sto->Prop) (n : Nat) (s' : Shared) : Prop :=
 ∀ Z : Prop,(∀ φ' d' σ' h' tk j ys zs,s' = { s with heap := h',toks := tk }->n = xs.length - j->Ext f.e φ φ'->IterAt f φ' α d' σ' h' xs fp wr Pt St j->CompAt f φ' α σ' h' D ys zs->ys.length ≤ j ->
  T.Sat d' (compLoop P f.env.scope elt t ifs σ' (xs.drop j)) (fun d r => Q₂ d (zs ++ r.1,r.2)) (fun _ _ _ => False)->Z)->Z
theorem compLoop_snd (hO : EvOk f A P) (ok : EnvOk f.env) {x : Str} {np pos : Pos} {elt iter : Expr} {ifs : List Expr} {scope : Scope} {xs : List PV} {I₀ D : Addr} {fp wr : List Addr} {Pt St} {R : Result->Shared->Prop} {Q₂ : Nat->List PV × Sto->Prop}
  (I : f.I φ α d σ s.heap) (it : Iter f A φ α σ s.heap I₀ xs fp wr Pt St) (hlen : xs.length ≤ 1000) (hC : CompAt f φ α σ s.heap D [] []) (hDf : D ∉ fp)
  (H : T.Sat d (compLoop P f.env.scope elt (.Name x np) ifs σ xs) Q₂ (fun _ _ _ => False))
  (fin : ∀ φ' d' σ' h' tk ys zs,Ext f.e φ φ'->f.I φ' α d' σ' h'->CompAt f φ' α σ' h' D ys zs->ys.length ≤ 1000->Q₂ d' (zs,σ')->R (.ok .next) { s with heap := h',toks := tk }) :
  codeAny (model f.prog f.w) A (.compLoop (.ListComp elt [⟨.Name x np,iter,ifs,0⟩] scope pos) 0 (.ref I₀) (.ref D) f.env) R s := by
 have Dwr : D ∉ wr := fun z => hDf (it.W.sub D z)
 refine codeAny_compLoop_tests (CompInv f P φ α s elt (.Name x np) ifs xs fp wr Pt St D Q₂) (fun n s' hI => hI _ fun φ' d' σ' h' tk' j ys zs es en ext X Y hyl H' => ?_) xs.length fun _ k => k φ d σ s.heap s.toks 0 [] [] rfl rfl (Ext.refl ..) ⟨Nat.zero_le _,I,it.st,it.rep,it.un,it.fp⟩ hC (Nat.zero_le _) H
 subst es; subst en
 by_cases hlt : j < xs.length
 ·refine it.W.item j _ _ _ hlt X.st fun v h₁ tk hP st₁ keep => ?_
  rw [drop_at hlt] at H'
  have I₁ := X.I.aside X.un keep
  have un₁ : ∀ b ∈ wr,Untracked f φ' α σ' h₁ b := fun b hb => (X.un b hb).at (it.al _ _ st₁ b hb)
  have Y₁ := Y.at (h' := h₁) fun o q => keep D o Dwr q
  have lk := f.now_like h₁ α σ'
  have less : xs.length - (j + 1) < xs.length - j := Nat.sub_lt_sub_left hlt (Nat.lt_succ_self j)
  refine bindName_snd (f := f.now h₁ α σ') (s := { s with heap := h₁,toks := tk }) ok I₁.toNow (X.rep j v _ hP (List.getElem?_eq_getElem hlt)) (T.Sat.bind H') fun h₂ tk₂ σ₂ I₂ H₂ => ?_
  refine testAll_snd (f := f.now h₁ α σ') (hO.isT _ lk ok) ifs φ' φ' α d' σ₂ { s with heap := h₂,toks := tk₂ } _ _ (Le.refl _) I₂ ((T.Sat.bind H₂).mono (fun d₃ y hy b' h₃ tk₃ φ₃ ex₃ I₃ rb => ?_) fun _ _ _ q => q.elim)
  obtain ⟨b,σ₃⟩ := y
  cases (show b' = b from rb)
  cases b' with
  | false =>
   obtain ⟨IB,exB⟩ := I₁.fromNow I₃ ex₃
   exact ⟨_,less,fun _ k => k φ₃ d₃ σ₃ h₃ tk₃ (j + 1) ys zs rfl rfl (ext.trans exB) (X.next (h₁ := h₁) hlt IB ex₃.1 (it.W.frame _ _ _ st₁ (iter_kept I₁ I₃ un₁ X.fp)) fun b hb => (un₁ b hb).after I₁ I₃ ex₃) (Y₁.after I₁ I₃ ex₃) (Nat.le_succ_of_le hyl) hy⟩
  | true =>
   refine hO.ev _ lk ok φ₃ elt φ₃ α d₃ σ₃ { s with heap := h₃,toks := tk₃ } _ _ (Le.refl _) I₃ ((T.Sat.bind hy).mono (fun d₄ y hy v₄ h₄ tk₄ φ₄ ex₄ I₄ r₄ => ?_) fun _ _ _ q => q.elim)
   have ex := ex₃.trans ex₄
   obtain ⟨IB,exB⟩ := I₁.fromNow I₄ ex
   have Y₄ := Y₁.after I₁ I₄ ex
   refine wpAny_list_append_plain (s := { s with heap := h₄,toks := tk₄ }) Y₄.hD (fun h₅ hp hs => ?_) (Nat.le_trans (show ys.toArray.size ≤ j from hyl) (Nat.le_trans X.hj (Nat.le_trans hlen (by rw [sizeLine_eq]; decide))))
   have k₅ : ∀ b o,b ≠ D->h₄.get? b = some o->h₅.get? b = some o := fun b o hb q => (hs.2 b hb).trans q
   have I₅ := IB.aside (wr := [D]) (h' := h₅) (fun b hb => by rw [List.mem_singleton.mp hb]; exact Y₄.uD) fun b o hb q => k₅ b o (fun z => hb (z ▸ .head _)) q
   refine ⟨_,less,fun _ k => k φ₄ d₄ y.2 h₅ tk₄ (j + 1) (ys ++ [v₄]) (zs ++ [y.1]) rfl rfl (ext.trans exB) (X.next (h₁ := h₁) hlt I₅ ex.1 (it.W.frame _ _ _ (it.W.frame _ _ _ st₁ (iter_kept I₁ I₄ un₁ X.fp)) fun b hb o q => k₅ b o (fun z => hDf (z ▸ hb)) q) fun b hb => ?_)
    (Y₄.snoc (by rw [← List.push_toArray]; exact hp) r₄) (List.length_append ▸ Nat.succ_le_succ hyl) ((T.Sat.bind hy).mono (fun d₆ y q => ?_) fun _ _ _ q => q)⟩
   ·have u := (un₁ b hb).after I₁ I₄ ex
    exact u.at (let ⟨o,q⟩ := u.there; ⟨o,k₅ b o (fun z => Dwr (z ▸ hb)) q⟩)
   ·rw [List.append_assoc]; exact q
 ·have e : j = xs.length := Nat.le_antisymm X.hj (Nat.le_of_not_lt hlt)
  subst e
  rw [List.drop_length] at H'
  have H' : Q₂ d' (zs ++ [],σ') := H'
  rw [List.append_nil] at H'
  exact it.W.done _ _ _ X.st fun h₁ tk keep => fin φ' d' σ' h₁ tk ys zs ext (X.I.aside X.un keep) (Y.at fun o q => keep D o Dwr q) (Nat.le_trans hyl hlen) H'
end
theorem closure_of (env : Env) (names : List (Str × NameKind)) : ∀ (cs : List (Str × Addr)),(∀ p ∈ names,p.2 = .free->∃ c,env.cells.lookup p.1 = some c) ->
  ∃ cl,(forIn names cs (fun (x : Str × NameKind) (r : List (Str × Addr)) => match x with
   | (name,kind) => if (kind == .free) = true then (do let c ← cellOf env name; pure (ForInStep.yield ((name,c) :: r))) else pure (ForInStep.yield r)) : Sem (List (Str × Addr))) = pure cl ∧
   ∀ x,((∃ p ∈ names,p.1 = x ∧ p.2 = .free) ∨ cs.lookup x = env.cells.lookup x)->cl.lookup x = env.cells.lookup x := by
 induction names with
 | nil => exact fun cs _ => ⟨cs,rfl,fun x h => h.elim (fun ⟨p,a,_⟩ => by cases a) id⟩
 | cons q r ih =>
  intro cs h
  obtain ⟨n,k⟩ := q
  cases hk : k == NameKind.free with
  | true =>
   have e2 : k = .free := eq_of_beq hk
   obtain ⟨c,hc⟩ := h (n,k) (.head _) e2
   obtain ⟨cl,a,b⟩ := ih ((n,c) :: cs) fun p hp => h p (.tail _ hp)
   refine ⟨cl,?_,fun x hx => b x ?_⟩
   ·rw [List.forIn_cons]
    simp only [hk,show cellOf env n = pure c by unfold cellOf; rw [hc],pure_bind,if_true]
    exact a
   ·by_cases z : x = n
    ·rw [z,List.lookup_cons_self,hc]; exact .inr rfl
    ·rcases hx with ⟨p,hp,h1,h2⟩ | hx
     ·rcases List.mem_cons.mp hp with rfl | hp
      ·exact absurd h1.symm z
      ·exact .inl ⟨p,hp,h1,h2⟩
     ·rw [List.lookup_cons,beq_false_of_ne z]; exact .inr hx
  | false =>
   obtain ⟨cl,a,b⟩ := ih cs fun p hp => h p (.tail _ hp)
   refine ⟨cl,?_,fun x hx => b x ?_⟩
   ·rw [List.forIn_cons]
    simp only [hk,Bool.false_eq_true,if_false,pure_bind]
    exact a
   ·rcases hx with ⟨p,hp,h1,h2⟩ | hx
    ·rcases List.mem_cons.mp hp with rfl | hp
     ·rw [show k = .free from h2] at hk; cases hk
     ·exact .inl ⟨p,hp,h1,h2⟩
    ·exact .inr hx
theorem closureFor_of {scope : Scope} {env : Env} (h : ∀ p ∈ scope.names,p.2 = .free->∃ c,env.cells.lookup p.1 = some c) :
  ∃ cl,closureFor scope env = pure cl ∧ ∀ x,(∃ p ∈ scope.names,p.1 = x ∧ p.2 = .free)->cl.lookup x = env.cells.lookup x := by
 obtain ⟨cl,a,b⟩ := closure_of env scope.names [] h
 refine ⟨cl,?_,fun x hx => b x (.inl hx)⟩
 unfold closureFor
 exact (congrArg (fun m : Sem (List (Str × Addr)) => m >>= fun r => pure r) a).trans (pure_bind _ _)
theorem idx_at {l : List (Str × NameKind)} {x : Str} {k : NameKind} : kindOf l x = some k->l[idx l x]? = some (x,k) := by
 induction l with
 | nil => exact fun h => noOpt h
 | cons p r ih =>
  intro h
  unfold kindOf at h
  unfold idx
  cases e : seq p.1 x with
  | true => rw [e] at h; cases seq_iff.mp e; cases h; rfl
  | false => rw [e] at h; exact ih h
theorem compSto_get {names : List (Str × NameKind)} {outer : Scope} {σ : Sto} {i : Nat} {s : Slot} (h : getS (compSto names outer σ) i = some s) : ∃ p v,names[i]? = some p ∧ p.2 = .cell ∧ s = .fz v ∧ getS σ (idx outer.names p.1) = some (.fz v) := by
 have q := getS_some h
 unfold compSto at q
 rw [List.getElem?_map] at q
 obtain ⟨p,hp,q⟩ := Option.map_eq_some_iff.mp q
 cases hk : p.2 <;> rw [hk] at q <;> first | exact noOpt q | skip
 cases hv : getS σ (idx outer.names p.1) with
 | none => rw [hv] at q; exact noOpt q
 | some s' =>
  rw [hv] at q
  cases s' with
  | fz v => cases q; exact ⟨p,v,hp,hk,rfl,hv⟩
  | _ => exact noOpt q
theorem relabel_eq (cs : Scope) (env : Env) : relabel cs env = compScope cs env.scope := by
 unfold relabel compScope
 congr 1
 refine List.map_congr_left fun p _ => ?_
 obtain ⟨n,k⟩ := p
 have : env.kindOf n = Mine.kindOf env.scope.names n := (kindOf_eq _ _).symm
 rw [← this]
theorem kindOf_map_none {f : Str × NameKind->Str × NameKind} (hf : ∀ p,(f p).1 = p.1) {l : List (Str × NameKind)} {x : Str} : kindOf l x = none->kindOf (l.map f) x = none := by
 induction l with
 | nil => exact fun _ => rfl
 | cons p r ih =>
  intro h
  unfold kindOf at h
  rw [List.map_cons]
  unfold kindOf
  rw [hf]
  cases e : seq p.1 x with
  | true => rw [e] at h; cases h
  | false => rw [e] at h; exact ih h
section
variable {f : Fm} {φ φ' φ₁ φ₀ : Ob} {α α' α₁ : Nat->Addr} {d d' : Nat} {σ σ' : Sto} {h h' : Heap} {s : Shared} {A : Around} {C : Cx} {P : Lv} {n : Nat} {E : Value->Shared->Prop}
variable {β γ : Type} {R : Ob->β->γ->Prop} {Q₀ : β->Shared->Prop}
theorem compOk_names {cs sc : Scope} {σ : Sto} (h : compOk cs sc σ = true) : cs.kind = .function ∧ kindOf cs.names "__debug__" = none ∧ ∀ p ∈ cs.names,kindOf cs.names p.1 = some p.2 ∧ (p.2 = .local ∨ p.2 = .globalImplicit ∨ (p.2 = .free ∧ sc.kind = .function ∧ kindOf sc.names p.1 = some .cell ∧ ∃ v,getS σ (idx sc.names p.1) = some (.fz v))) := by
 unfold compOk at h
 simp only [Bool.and_eq_true,List.all_eq_true,beq_iff_eq,Option.isNone_iff_eq_none] at h
 obtain ⟨⟨h1,h2⟩,h3⟩ := h
 refine ⟨h1,h2,fun p hp => ?_⟩
 obtain ⟨a,b⟩ := h3 p hp
 refine ⟨a,?_⟩
 split at b
 ·rename_i q; exact .inl q
 ·rename_i q; exact .inr (.inl q)
 ·rename_i q
  simp only [Bool.and_eq_true,beq_iff_eq] at b
  obtain ⟨⟨b1,b2⟩,b3⟩ := b
  refine .inr (.inr ⟨q,b1,b2,?_⟩)
  split at b3
  ·rename_i v hv; exact ⟨v,hv⟩
  ·cases b3
 ·cases b
noncomputable def compFm (f : Fm) (cs : Scope) (cl : List (Str × Addr)) (L : Addr) (h : Heap) (wr : List Addr) : Fm :=
 ⟨f.prog,f.w,f.K,f.p,hideAll h wr,hideAll h (f.p.dk :: f.p.dc :: wr ++ f.fs),f.fs,{ newEnv cs L f.env.globals cl f.env.qual none .none (some f.env) f.env.builtins with scope := relabel cs f.env }⟩
theorem comp_noOwn {names : List (Str × NameKind)} {outer : Scope} {i : Nat} {sl : Slot} (h : getS (compSto names outer σ) i = some sl) (q : sl.isOwn = true) : False := by
 obtain ⟨p,v,_,_,rfl,_⟩ := compSto_get h; cases q
theorem comp_cell {cs : Scope} (hco : compOk cs f.env.scope σ' = true) {x : Str} (hx : kindOf (compScope cs f.env.scope).names x = some .cell) : (∃ p ∈ cs.names,p.1 = x ∧ p.2 = .free) ∧ kindOf f.env.scope.names x = some .cell := by
 have mem : (x,NameKind.cell) ∈ (compScope cs f.env.scope).names := List.mem_of_getElem? (idx_at hx)
 unfold compScope at mem
 obtain ⟨⟨pn,pk⟩,hp,e⟩ := List.mem_map.mp mem
 obtain ⟨_,h1 | h1 | ⟨h1,_,h3,_⟩⟩ := (compOk_names hco).2.2 _ hp
 ·rw [show pk = .local from h1] at e; simp at e
 ·rw [show pk = .globalImplicit from h1] at e; simp at e
 ·have : pn = x := by split at e <;> (cases e; rfl)
  exact ⟨⟨_,hp,this,h1⟩,this ▸ h3⟩
theorem compFrame {cs : Scope} {cl : List (Str × Addr)} {h₄ : Heap} {wr : List Addr} {m : Str->Option Value} {L : Addr} (hco : compOk cs f.env.scope σ' = true) (I : f.I φ α d σ h) (φwr : ∀ b ∈ wr,φ b = none) (fL : h.get? L = none) (hns : h₄.Ns L m) (k₄ : ∀ b o,h.get? b = some o->h₄.get? b = some o)
  (hcl : ∀ x,(∃ p ∈ cs.names,p.1 = x ∧ p.2 = .free)->cl.lookup x = f.env.cells.lookup x) : (compFm f cs cl L h wr).I φ α d (compSto (compScope cs f.env.scope).names f.env.scope σ) h₄ := by
 have φL : φ L = none := Ob.keepNone (fun o q => I.sub _ o q) fL
 have at_ : ∀ {x k},kindOf (relabel cs f.env).names x = some k->∀ {s'},getS (compSto (compScope cs f.env.scope).names f.env.scope σ) (idx (relabel cs f.env).names x) = some s'->k = .cell ∧ ∃ v,s' = .fz v ∧ getS σ (idx f.env.scope.names x) = some (.fz v) := fun {x k} hx {s'} hs => by
  rw [relabel_eq] at hx hs
  obtain ⟨p,v,h1,h2,h3,h4⟩ := compSto_get hs
  rw [idx_at hx] at h1
  cases h1
  exact ⟨h2,v,h3,h4⟩
 refine FI.enter (env := (compFm f cs cl L h wr).env) (H := wr) I.wi (fun b hb => .inr hb) (fun _ hb => hb) fL k₄ hns φwr (Ext.refl ..) φL (fun a o q => k₄ _ _ (I.sub a o q)) (fun x s' hx hs => by cases (at_ hx hs).1) (fun x s' hx hs => ?_) (fun i s' hs => ?_) fun i j s1 s2 q1 q2 q3 q4 _ => (comp_noOwn q1 q3).elim
 ·obtain ⟨_,v,rfl,h4⟩ := at_ hx hs
  obtain ⟨e1,e3⟩ := comp_cell hco (relabel_eq cs f.env ▸ (show kindOf (relabel cs f.env).names x = some NameKind.cell from hx))
  obtain ⟨c,o,u,pv,a1,a⟩ := I.cel x _ e3 h4
  exact ⟨c,o,u,pv,(hcl x e1).trans a1,a⟩
 ·obtain ⟨p,v,_,_,rfl,_⟩ := compSto_get hs; trivial
theorem comp_back {cs : Scope} {cl : List (Str × Addr)} {L D : Addr} {wr : List Addr} {ys : List Value} {zs : List PV} (I : f.I φ α d σ h) (un : ∀ b ∈ wr,Untracked f φ α σ h b) (hD : h.get? D = none) (hL : h.get? L = none) (ne : L ≠ D)
  (ex : Ext (compFm f cs cl L h wr).e φ φ') (I' : (compFm f cs cl L h wr).I φ' α d' σ' h') (X : CompAt (compFm f cs cl L h wr) φ' α σ' h' D ys zs) (hyl : ys.length ≤ 1000) :
  ∃ φ₂,Ext f.e φ φ₂ ∧ f.I φ₂ α d' σ h' ∧ Rep f.p φ₂ (.ref D) (.list zs) ∧ Untracked f φ₂ α σ h' L ∧ ∃ m,h'.Ns L m := by
 have I₂ : f.I φ α d σ (hideAll h wr) := I.aside un fun b o hb q => hideAll_get _ q hb
 obtain ⟨mc,Fc,_⟩ := I'.loc
 obtain ⟨IB,exB⟩ := I₂.back (h' := h') (φ' := φ') (d' := d') (fun b o q1 q2 q3 q4 => Fc.keep b o (hideAll_get _ (of_hideAll _ q1) fun z => by
  rcases mem_hid.mp z with z | z | z | z
  ·exact q3 z
  ·exact q4 z
  ·exact nn q1 (hideAll_none _ z)
  ·exact q2 z)) (fun b hb o q => I'.ups b hb o q) I'.deck ex.1 I'.sub ex.2
 have own : ∀ {b},h.get? b = none->∀ i sl,getS σ i = some sl->sl.isOwn = true->α i ≠ b := fun hb i sl q1 q2 z => ((I.own i sl q1).thing q2).nn (z ▸ hb)
 obtain ⟨nD,qD⟩ := X.hD
 obtain ⟨IS,exS⟩ := IB.stand (I_fresh I hD X.uD.φ) qD (I.live _ hD) (own hD)
 have w := I_fresh I hL (φ' := put φ' D { cls := .type "list",data := .seq ys.toArray nD }) ((put_other ne).trans I'.nL)
 obtain ⟨o,q⟩ : ∃ o,h'.get? L = some o := let ⟨o,_,_,q,_⟩ := Fc.ns; ⟨o,q⟩
 exact ⟨_,exB.trans exS,IS,.list (put_self ..) (Nat.le_trans hyl (by decide)) (X.rep.mono exS.1),⟨w.φ,w.g,I.live _ hL,w.fs,w.L,w.dk,w.dc,own hL,o,q⟩,mc,Fc.ns⟩
theorem comp_snd (hO : EvOk f A P) (ok : EnvOk f.env) (st : Stat f.prog f.w f.K f.p C) (df : Defs f.K f.p C st.mg st.mb) (hA : AOk n f.fs A) {x : Str} {np pos pos' : Pos} {elt it : Expr} {ifs : List Expr} {cs : Scope} {use : Option (Value->Sem Unit)} {Q : Value->Shared->Prop} {t₂ : List PV × Sto->T (γ × Sto)}
  (I : f.I φ α d σ s.heap) (H : T.Sat d (evComp P f.env.scope σ elt (.Name x np) it ifs cs >>= t₂) (QQ f R φ α s Q₀) (EE f φ α s E))
  (next : ∀ φ₁ D L zs σ₁ s₁ d₁,Le φ φ₁->f.I φ₁ α d₁ σ₁ s₁.heap->Rep f.p φ₁ (.ref D) (.list zs)->Untracked f φ₁ α σ₁ s₁.heap L->(∃ m,s₁.heap.Ns L m)->T.Sat d₁ (t₂ (zs,σ₁)) (QQ f R φ₁ α s₁ Q₀) (EE f φ₁ α s₁ E) ->
   compPost (model f.prog f.w) A E use Q (.ref D) L (.ok .next) s₁) :
  wpAny (model f.prog f.w) A (comprehension (.ListComp elt [⟨.Name x np,it,ifs,0⟩] cs pos) cs f.env pos' (newList []) false (eval it f.env) use) Q E s := by
 refine T.Sat.chkE H.bind fun hco H₀ => ?_
 have hco : compOk cs f.env.scope σ = true := hco
 obtain ⟨hkind,hdbg,hnm⟩ := compOk_names hco
 have H : T.Sat d (iterOf P f.env.scope σ it >>= fun y => chk (Nat.ble y.1.length 1000) ((compLoop P (compScope cs f.env.scope) elt (.Name x np) ifs (compSto (compScope cs f.env.scope).names f.env.scope y.2) y.1).noExc >>= fun z => pure (z.1,y.2)) >>= t₂) (QQ f R φ α s Q₀) (EE f φ α s E) :=
  T.sat_bind.mpr ((T.Sat.bind H₀).mono (fun _ _ q => T.sat_bind.mpr q) fun _ _ _ q => q)
 obtain ⟨cl,hcl,hclook⟩ := closureFor_of (scope := cs) (env := f.env) fun p hp hf => by
  obtain ⟨_,h1 | h1 | ⟨_,_,h2,v,h3⟩⟩ := hnm p hp
  ·rw [hf] at h1; cases h1
  ·rw [hf] at h1; cases h1
  ·obtain ⟨c,_,_,_,a1,_⟩ := I.cel p.1 _ h2 h3; exact ⟨c,a1⟩
 suffices key : plainR it = true ∧ wpAny (model f.prog f.w) A (eval it f.env) (fun xv s₁ => wpAny (model f.prog f.w) A (pyIter xv) (fun it₀ s₂ => wpAny (model f.prog f.w) A (newList []) (fun acc s₃ => wpAny (model f.prog f.w) A (newFunctionEnv cs f.env.globals cl [] f.env.qual none .none (some f.env)) (fun cenv s₄ =>
   codeAny (model f.prog f.w) A (.compStart (.ListComp elt [⟨.Name x np,it,ifs,0⟩] cs pos) 0 it₀ acc { cenv with scope := relabel cs f.env }) (compPost (model f.prog f.w) A E use Q acc cenv.locals) s₄) E s₃) E s₂) E s₁) E s from
  wpAny_comprehension_free rfl (fun _ => folded_plain key.1) hcl hkind (fun p hp hl => by rw [← kindOf_eq,(hnm p hp).1,hl]) key.2
 refine iter_snd posts_QQ (hO.ev f ⟨rfl,rfl,rfl,rfl,rfl⟩ ok) ok st df hA I H fun φ₁ xs σ₁ s₂ d₁ I₀ fp wr Pt St le₁ I₁ iter H₁ => wpAny_newList ?_ (Nat.zero_le _)
 refine T.Sat.chkE (T.Sat.bind H₁) fun hlen H₁ => ?_
 refine wpAny_newFunctionEnv (fun p hp hk => ?_) (fun _ h => (by cases h)) (fun h₄ hns hsb => ?_) hkind
 ·obtain ⟨_,h1 | h1 | ⟨h1,_⟩⟩ := hnm p hp <;> rw [hk] at h1 <;> cases h1
 rw [Heap.size_push] at hns hsb ⊢
 have fD : s₂.heap.get? s₂.heap.objs.size = none := get_size _
 have fL : s₂.heap.get? (s₂.heap.objs.size + 1) = none := get_ge (Nat.le_succ _)
 have k₃ : ∀ b o,(s₂.heap.push { cls := .type "list",data := .seq ([] : List Value).toArray }).get? b = some o->h₄.get? b = some o := fun b o q =>
  (hsb.2 b fun z => nn q (z ▸ get_ge (Nat.le_of_eq (Heap.size_push ..)))).trans (Heap.get?_push_of_some _ q)
 have k₄ : ∀ b o,s₂.heap.get? b = some o->h₄.get? b = some o := fun b o q => k₃ b o (Heap.get?_push_of_some _ q)
 have hDl : h₄.PlainList s₂.heap.objs.size ([] : List Value).toArray := ⟨0,k₃ _ _ (Heap.get?_push_size _ rfl)⟩
 generalize s₂.heap.objs.size = D at *
 have Ic := compFrame (f := f) hco I₁ (fun b hb => (iter.un b hb).φ) fL hns k₄ hclook
 have wrt : ∀ b ∈ wr,∃ o,s₂.heap.get? b = some o := iter.al 0 _ iter.st
 have uC : ∀ b,(compFm f cs cl (D + 1) s₂.heap wr).g.get? b = none->(compFm f cs cl (D + 1) s₂.heap wr).e.get? b = none->φ₁ b = none->b ∉ f.fs->b ≠ D + 1->b ≠ f.p.dk->b ≠ f.p.dc->(∃ o,h₄.get? b = some o)->Untracked (compFm f cs cl (D + 1) s₂.heap wr) φ₁ α (compSto (compScope cs f.env.scope).names f.env.scope σ₁) h₄ b :=
  fun b a1 a2 a3 a4 a5 a6 a7 a8 => ⟨a3,a1,a2,a4,a5,a6,a7,fun i sl q1 q2 => (comp_noOwn q1 q2).elim,a8⟩
 have itc : Iter (compFm f cs cl (D + 1) s₂.heap wr) A φ₁ α (compSto (compScope cs f.env.scope).names f.env.scope σ₁) h₄ I₀ xs fp wr Pt St :=
  ⟨iter.W,iter.W.frame _ _ _ iter.st fun b hb o q => k₄ b o q,iter.rep,fun b hb => by
   obtain ⟨o,q⟩ := wrt b hb
   have u := iter.un b hb
   exact uC b (hideAll_none _ (mem_hid.mpr (.inr (.inr (.inl hb))))) (hideAll_none _ hb) u.φ u.fs (fun z => nn q (z ▸ fL)) u.dk u.dc ⟨o,k₄ b o q⟩,iter.fp,iter.al⟩
 have w := I_fresh I₁ fD (φ' := φ₁) (Ob.keepNone (fun o q => I₁.sub _ o q) fD)
 have hC : CompAt (compFm f cs cl (D + 1) s₂.heap wr) φ₁ α (compSto (compScope cs f.env.scope).names f.env.scope σ₁) h₄ D [] [] := ⟨uC D (hide_none fD) (hide_none fD) w.φ w.fs (Nat.ne_of_lt (Nat.lt_succ_self D)) w.dk w.dc (let ⟨n,q⟩ := hDl; ⟨_,q⟩),hDl,.nil⟩
 have Dfp : D ∉ fp := fun z => (iter.fp D z).elim (fun z => let ⟨o,q⟩ := wrt D z; nn q fD) fun z => z w.φ
 have eok : EnvOk (compFm f cs cl (D + 1) s₂.heap wr).env := ⟨hkind,ok.globals,ok.builtins,by
  show kindOf (relabel cs f.env).names _ = none
  rw [relabel_eq]
  exact kindOf_map_none (fun p => by split <;> rfl) hdbg⟩
 have loop : codeAny (model f.prog f.w) A (.compLoop (.ListComp elt [⟨.Name x np,it,ifs,0⟩] cs pos) 0 (.ref I₀) (.ref D) (compFm f cs cl (D + 1) s₂.heap wr).env) (compPost (model f.prog f.w) A E use Q (.ref D) (D + 1)) { s₂ with heap := h₄,toks := s₂.toks + ([] : List (Str × Value)).length } := by
  refine compLoop_snd (f := compFm f cs cl (D + 1) s₂.heap wr) (hO.like ⟨rfl,rfl,rfl,rfl,rfl⟩) eok (s := { s₂ with heap := h₄,toks := s₂.toks + ([] : List (Str × Value)).length }) Ic itc (Nat.le_of_ble_eq_true hlen) hC Dfp (by rw [show (compFm f cs cl (D + 1) s₂.heap wr).env.scope = compScope cs f.env.scope from relabel_eq cs f.env]; exact T.sat_noExc.mp (T.Sat.bind H₁)) fun φ' d' σ' h' tk ys zs ex' I' X hyl q => ?_
  obtain ⟨φ₂,ex,IS,rp,u,hm⟩ := comp_back I₁ iter.un fD fL (Nat.succ_ne_self D) ex' I' X hyl
  exact next _ D (D + 1) zs σ₁ { s₂ with heap := h',toks := tk } d' (le₁.trans ex.1) IS rp u hm (T.Sat.mono q (fun _ _ q => q.step ex) fun _ _ _ q => q.step ex)
 exact codeAny_compStart_list loop (iter.W.self 0 _ _ _ (iter.W.frame _ _ _ iter.st fun b hb o q => k₄ b o q) loop)
end
section
variable {f : Fm} {φ φ' φ₁ φ₀ : Ob} {α α' α₁ : Nat->Addr} {d d' : Nat} {σ σ' : Sto} {h h' : Heap} {s : Shared} {A : Around} {C : Cx} {P : Lv} {n : Nat} {E : Value->Shared->Prop}
theorem isName_some {t : Expr} (h : isName t = true) : ∃ x p,t = .Name x p := by
 cases t with
 | Name x p => exact ⟨x,p,rfl⟩
 | _ => exact noB h
theorem genOf_some {gs : List Comprehension} {g : Expr × Expr × List Expr} (h : genOf gs = some g) : gs = [⟨g.1,g.2.1,g.2.2,0⟩] := by
 cases gs with
 | nil => exact noOpt h
 | cons q r => cases r with
  | cons => exact noOpt h
  | nil =>
   obtain ⟨t,it,ifs,a⟩ := q
   have h : (if a = 0 then some (t,it,ifs) else none) = some g := h
   by_cases e : a = 0
   ·rw [if_pos e] at h; cases h; rw [e]
   ·rw [if_neg e] at h; exact noOpt h
theorem evComp_name {γ : Type} {t : Expr} {elt it : Expr} {ifs : List Expr} {cs : Scope} {t₂ : List PV × Sto->T γ} {Q E'} (H : T.Sat d (evComp P f.env.scope σ elt t it ifs cs >>= t₂) Q E') : ∃ x p,t = .Name x p := isName_some ((Bool.and_eq_true_iff ..).mp (T.Sat.chk H.bind).1).1
theorem snd_ListComp (hO : EvOk f A P) (ok : EnvOk f.env) (st : Stat f.prog f.w f.K f.p C) (df : Defs f.K f.p C st.mg st.mb) (hA : AOk n f.fs A) {gs : List Comprehension} {pos : Pos} {elt : Expr} {cs : Scope} :
  f.S φ₀ (Rep f.p) A (eval (.ListComp elt gs cs pos) f.env) (fun σ => evStep C P f.env.scope σ (.ListComp elt gs cs pos)) := by
 intro φ α d σ s Q E le I H
 obtain ⟨⟨t,it,ifs⟩,hg,H₂⟩ := T.Sat.opt H
 obtain ⟨x,np,e⟩ := evComp_name H₂
 cases genOf_some hg
 cases e
 rw [eval_ListComp]
 refine comp_snd (R := Rep f.p) (Q₀ := Q) (use := none) (Q := Q) hO ok st df hA I H₂ fun φ₁ D L zs σ₁ s₁ d₁ le₁ I₁ r u ⟨m,hm⟩ H₁ => ⟨m,hm,fun h' hs => ?_⟩
 have I₂ := I₁.aside (wr := [L]) (h' := h') (fun b hb => by rw [List.mem_singleton.mp hb]; exact u) fun b o hb q => (hs.2 b fun z => hb (z ▸ .head _)).trans q
 exact H₁ _ h' s₁.toks φ₁ (Ext.refl ..) I₂ r
theorem eval_snd (hO : EvOk f A P) (ok : EnvOk f.env) (st : Stat f.prog f.w f.K f.p C) (df : Defs f.K f.p C st.mg st.mb) (sp : Special f.prog f.w f.K f.p C st.mg st.mb) (hA : AOk (n + 1) f.fs A) (h2 : ∀ x,C.glob x = some .sorted->AOk 8 f.fs A)
  (hC : ∀ A fa fn,DefAt f.K fa fn->AOk n f.fs A->CallOk f.prog f.w f.K f.p f.fs A fa (P.call fn)) (φ₀ : Ob) (e : Expr) : f.S φ₀ (Rep f.p) A (eval e f.env) (fun σ => evStep C P f.env.scope σ e) := by
 have hE := hO.ev f ⟨rfl,rfl,rfl,rfl,rfl⟩ ok
 have hT := hO.isT f ⟨rfl,rfl,rfl,rfl,rfl⟩ ok
 cases e with
 | Constant c k pos => exact snd_Constant f.env.scope
 | Name x pos => exact snd_Name ok st
 | BinOp l op r pos => exact snd_BinOp hE hA
 | UnaryOp op x pos => cases op with
  | Not => exact snd_Not hE
  | USub => exact snd_USub hE
  | _ => exact fun φ α d σ s Q E le I H => H.elim
 | BoolOp op es pos => exact snd_BoolOp hE
 | IfExp t b o pos => exact snd_IfExp hE hT
 | Compare l ops rs pos => exact snd_Compare hE ok st hA
 | Call fe args kws pos => exact snd_Call hE hC ok st df sp hA h2
 | Attribute o a pos => exact snd_Attribute hE ok st
 | Subscript o i pos => exact snd_Subscript hE
 | Tuple es k pos => exact snd_Tuple hE
 | List es pos => exact snd_List hE
 | ListComp elt gens cs pos => exact snd_ListComp hO ok st df hA
 | _ => exact fun φ α d σ s Q E le I H => H.elim
end
section
variable {f : Fm} {φ φ' φ₁ φ₀ : Ob} {α α' α₁ : Nat->Addr} {d d' : Nat} {σ σ' : Sto} {h h' : Heap} {s : Shared} {A : Around} {C : Cx} {P : Lv} {n : Nat} {E : Value->Shared->Prop}
theorem Fm.S.cpsX {β γ δ ε : Type} {R : Ob->β->γ->Prop} {R₂ : Ob->δ->ε->Prop} {Q : β->Shared->Prop} {Q₂ : δ->Shared->Prop} {m : Sem β} {t : Sto->T (γ × Sto)} {t₂ : γ × Sto->T (ε × Sto)} (hl : f.S φ₀ R A m t) (le : Le φ₀ φ) (I : f.I φ α d σ s.heap) (H : T.Sat d (t σ >>= t₂) (QX f R₂ φ α s Q₂) (EX f φ α s E))
  (next : ∀ φ₁ v x σ₁ s₁ d₁,Le φ φ₁->f.I φ₁ α d₁ σ₁ s₁.heap->R φ₁ v x->T.Sat d₁ (t₂ (x,σ₁)) (QX f R₂ φ₁ α s₁ Q₂) (EX f φ₁ α s₁ E)->Q v s₁) : wpAny (model f.prog f.w) A m Q E s := by
 rw [T.sat_bind] at H
 refine hl φ α d σ s Q E le I (H.mono (fun d₁ r h => ?_) fun d₁ told σ₁ h => ?_)
 ·intro v h' tk φ₁ e i r'
  exact next φ₁ v r.1 r.2 _ d₁ e.1 i r' (h.mono (fun _ _ q => q.step rfl e) fun _ _ _ q => q.step rfl e)
 ·intro x h' tk φ₁ e i X
  exact h x h' tk φ₁ α rfl e i X
theorem Fm.X.cps {β γ δ ε : Type} {R : Ob->β->γ->Prop} {R₂ : Ob->δ->ε->Prop} {Q : β->Shared->Prop} {Q₂ : δ->Shared->Prop} {m : Sem β} {t : Sto->T (γ × Sto)} {t₂ : γ × Sto->T (ε × Sto)} (hl : f.X φ₀ R A m t) (le : Le φ₀ φ) (I : f.I φ α d σ s.heap) (H : T.Sat d (t σ >>= t₂) (QX f R₂ φ α s Q₂) (EX f φ α s E))
  (next : ∀ φ₁ α₁ v x σ₁ s₁ d₁,α₁ 0 = α 0->Ext f.e φ φ₁->f.I φ₁ α₁ d₁ σ₁ s₁.heap->R φ₁ v x->T.Sat d₁ (t₂ (x,σ₁)) (QX f R₂ φ₁ α₁ s₁ Q₂) (EX f φ₁ α₁ s₁ E)->Q v s₁) : wpAny (model f.prog f.w) A m Q E s := by
 rw [T.sat_bind] at H
 refine hl φ α d σ s Q E le I (H.mono (fun d₁ r h => ?_) fun d₁ told σ₁ h => ?_)
 ·intro v h' tk φ₁ α₁ ha e i r'
  exact next φ₁ α₁ v r.1 r.2 _ d₁ ha e i r' (h.mono (fun _ _ q => q.step ha e) fun _ _ _ q => q.step ha e)
 ·intro x h' tk φ₁ α₁ ha e i X
  exact h x h' tk φ₁ α₁ ha e i X
theorem posts_QX {γ β : Type} {R : Ob->β->γ->Prop} {Q : β->Shared->Prop} : Posts f α E (fun φ s => QX f R φ α s Q) (fun φ s => EX f φ α s E) := ⟨fun x y => x.step rfl y,fun x y => x.step rfl y,fun x v h' tk φ' e i X => x v h' tk φ' α rfl e i X⟩
structure ExOk (f : Fm) (A : Around) (C : Cx) (P : Lv) (n : Nat) : Type where
 st : Stat f.prog f.w f.K f.p C
 df : Defs f.K f.p C st.mg st.mb
 xs : ExcSt f.K f.p
 ok : EnvOk f.env
 top : Top f A
 hA : AOk (n + 1) f.fs A
 hO : EvOk f A P
 hC : ∀ A fa fn,DefAt f.K fa fn->AOk n f.fs A->CallOk f.prog f.w f.K f.p f.fs A fa (P.call fn)
 hX : ∀ f',f.anew f'->∀ φ₀ x,f'.X φ₀ (FlowR f'.p) A (exec x f'.env) (fun σ => P.ex f'.env.scope σ x)
theorem Fm.anew_self (f : Fm) : f.anew f := ⟨rfl,rfl,rfl,rfl,rfl,rfl⟩
variable (X : ExOk f A C P n)
include X
theorem ex_E : ∀ φ₀ x,f.S φ₀ (Rep f.p) A (eval x f.env) (fun σ => P.ev f.env.scope σ x) := X.hO.ev f ⟨rfl,rfl,rfl,rfl,rfl⟩ X.ok
theorem ex_T : ∀ φ₀ x,f.S φ₀ (fun _ a b => a = b) A (isTrue x f.env (eval x f.env)) (fun σ => P.isT f.env.scope σ x) := X.hO.isT f ⟨rfl,rfl,rfl,rfl,rfl⟩ X.ok
theorem ex_B (b : List Stmt) (φ₀ : Ob) : f.X φ₀ (FlowR f.p) A (execs b f.env) (fun σ => exs P f.env.scope σ b) := execs_snd (fun φ₀ x => X.hX f f.anew_self φ₀ x) b φ₀
theorem sx_Return {e : Option Expr} {pos : Pos} : f.X φ₀ (FlowR f.p) A (exec (.Return e pos) f.env) (fun σ => exStep C P f.env.scope σ (.Return e pos)) := by
 intro φ α d σ s Q E le I H
 cases e with
 | none => exact H.elim
 | some e => exact wpAny_Return_some ((ex_E X φ e).cpsX (Le.refl _) I H fun φ₁ v x σ₁ s₁ d₁ le₁ I₁ r H₁ => QX.here H₁ I₁ (.ret r))
theorem sx_If {t : Expr} {b o : List Stmt} {pos : Pos} : f.X φ₀ (FlowR f.p) A (exec (.If t b o pos) f.env) (fun σ => exStep C P f.env.scope σ (.If t b o pos)) := by
 intro φ α d σ s Q E le I H
 refine wpAny_If ((ex_T X φ t).cpsX (Le.refl _) I H fun φ₁ v x σ₁ s₁ d₁ le₁ I₁ r H₁ => ?_)
 cases (show v = x from r)
 cases v
 ·exact ex_B X o φ₁ φ₁ α d₁ σ₁ s₁ Q E (Le.refl _) I₁ H₁
 ·exact ex_B X b φ₁ φ₁ α d₁ σ₁ s₁ Q E (Le.refl _) I₁ H₁
theorem noted_cameBack {x : Addr} {told : PV} {Q : Flow->Shared->Prop} {tt : Expr} {b : List Stmt} (I : f.I φ α d σ s.heap) (ex : ExcIn f.p f.e φ x told s.heap) (h : ∀ h',f.I φ α d σ h'->ExcIn f.p f.e φ x told h'->E (.ref x) { s with heap := h' }) :
  notedBy (model f.prog f.w) A f.env (fun e s' => cameBackBy (model f.prog f.w) A f.env E e s') (.ref x) s :=
 note_snd X.hA X.top I ex fun h' I' ex' tr => cameBack_snd I' ex' tr fun h'' I'' ex'' => h h'' I'' ex''
noncomputable def WhileInv (f : Fm) (L : Nat->Sto->T (Fl × Sto)) (φ : Ob) (α : Nat->Addr) (s : Shared) (Q : Flow->Shared->Prop) (E : Value->Shared->Prop) (n : Nat) (s' : Shared) : Prop :=
 ∀ Z : Prop,(∀ φ' α' d' σ' h' tk,s' = { s with heap := h',toks := tk }->α' 0 = α 0->Ext f.e φ φ'->f.I φ' α' d' σ' h'->T.Sat d' (L n σ') (QX f (FlowR f.p) φ' α' s' Q) (EX f φ' α' s' E)->Z)->Z
theorem sx_While {t : Expr} {b o : List Stmt} {pos : Pos} : f.X φ₀ (FlowR f.p) A (exec (.While t b o pos) f.env) (fun σ => exStep C P f.env.scope σ (.While t b o pos)) := by
 intro φ α d σ s Q E le I H
 refine T.Sat.chkE H fun ho H₀ => ?_
 cases List.isEmpty_iff.mp ho
 refine wpAny_While (codeAny_whileLoop (WhileInv f (whileLoop P f.env.scope t b) φ α s Q E) (fun n s' hI => hI _ fun φ' α' d' σ' h' tk es ha ext I' H' => ?_) 60 fun _ k => k φ α d σ s.heap s.toks rfl rfl (Ext.refl ..) I H₀)
 subst es
 cases n with
 | zero => exact H'.elim
 | succ n =>
  refine ex_T X φ' t φ' α' d' σ' _ _ _ (Le.refl _) I' ((T.Sat.bind H').mono (fun d₁ y hy c' h₁ tk₁ φ₁ ex₁ I₁ r => ?_) fun d₁ told σ₁ hy x h₂ tk₂ φ₂ ex₂ I₂ X₂ => ?_)
  ·obtain ⟨c,σ₁⟩ := y
   cases (show c' = c from r)
   have hy := T.Sat.mono hy (fun _ _ q => q.step (h := h₁) (tk := tk₁) rfl ex₁) (fun _ _ _ q => q.step (h := h₁) (tk := tk₁) rfl ex₁)
   cases c' with
   | false => exact wpAny_execs_nil (hy .next h₁ tk₁ φ₁ α' rfl (Ext.refl ..) I₁ .next)
   | true =>
    refine ex_B X b φ₁ φ₁ α' d₁ σ₁ { s with heap := h₁,toks := tk₁ } _ _ (Le.refl _) I₁ ((T.Sat.bind hy).mono (fun d₂ z hz v h₂ tk₂ φ₂ α₂ ha₂ ex₂ I₂ R₂ => ?_) fun d₂ told σ₂ hz x h₂ tk₂ φ₂ α₂ ha₂ ex₂ I₂ X₂ => ?_)
    ·obtain ⟨fl,σ₂⟩ := z
     cases R₂ with
     | next => exact ⟨n,Nat.lt_succ_self n,fun _ k => k φ₂ α₂ d₂ σ₂ h₂ tk₂ rfl (ha₂.trans ha) ((ext.trans ex₁).trans ex₂) I₂ (T.Sat.mono hz (fun _ _ q => q.step ha₂ ex₂) fun _ _ _ q => q.step ha₂ ex₂)⟩
     | ret rr => exact hz _ h₂ tk₂ φ₂ α₂ ha₂ ex₂ I₂ (.ret rr)
    ·exact noted_cameBack (Q := Q) (tt := t) (b := b) X (s := { s with heap := h₂,toks := tk₂ }) I₂ X₂ fun h₃ I₃ X₃ => hz x h₃ tk₂ φ₂ α₂ ha₂ ex₂ I₃ X₃
  ·exact noted_cameBack (Q := Q) (tt := t) (b := b) X (s := { s with heap := h₂,toks := tk₂ }) I₂ X₂ fun h₃ I₃ X₃ => hy x h₃ tk₂ φ₂ α' rfl ex₂ I₃ X₃
theorem sx_ExprCall {g : Expr} {args : List Expr} {kws : List Keyword} {p pos : Pos} {t : Sto->T (Fl × Sto)} (hg : ∀ σ,t σ = (P.ev f.env.scope σ (.Call g args kws p) >>= dropT)) : f.X φ₀ (FlowR f.p) A (exec (.Expr (.Call g args kws p) pos) f.env) t := by
 intro φ α d σ s Q E le I H
 rw [hg] at H
 refine wpAny_Expr ((ex_E X φ _).cpsX (Le.refl _) I H fun φ₁ v x σ₁ s₁ d₁ le₁ I₁ r H₁ => ?_) (by unfold interactive; rw [X.ok.kind]; rfl)
 refine T.Sat.noneVE H₁ fun e H₂ => ?_
 cases (show x = .none from e)
 cases r.inv
 exact QX.here H₂ I₁ .next
end
inductive Pend (f : Fm) (φ : Ob) (α : Nat->Addr) (σ : Sto) (h : Heap) : Addr->Value->Slot->Prop
 | fz {a : Addr} {v : Value} {x : PV} : Rep f.p φ v x->Pend f φ α σ h a v (.fz x)
 | ol {a : Addr} {vs : List Value} {l : List PV} : Untracked f φ α σ h a->h.PlainList a vs.toArray->vs.length ≤ lineB->Reps f.p φ vs l->Pend f φ α σ h a (.ref a) (.ol l)
 | od {a : Addr} : Untracked f φ α σ h a->h.get? a = some (dictOf [] 0)->Pend f φ α σ h a (.ref a) (.od [])
 | oi {a x : Addr} {es : List DictEntry} {n c : Nat} {q : List (Str × PV)} : Untracked f φ α σ h a->φ x = some (instObj (f.p.ca c) a)->h.get? a = some (dictOf es n)->Ents f.p φ es q->es.length ≤ 100->Pend f φ α σ h a (.ref x) (.oi c q)
section
variable {f : Fm} {φ φ' φ₁ φ₀ : Ob} {α α' α₁ : Nat->Addr} {d d' d₁ : Nat} {σ σ' σ₁ : Sto} {h h' : Heap} {s : Shared} {A : Around} {C : Cx} {P : Lv} {n : Nat} {E : Value->Shared->Prop}
theorem Pend.un {a : Addr} {v : Value} {sl : Slot} (p : Pend f φ α σ h a v sl) (ho : sl.isOwn = true) : Untracked f φ α σ h a := by
 cases p with
 | fz => cases ho
 | ol u => exact u
 | od u => exact u
 | oi u => exact u
theorem Pend.slotV {a : Addr} {v : Value} {sl : Slot} (p : Pend f φ α σ h a v sl) : SlotV f.p φ a v sl := by
 cases p with
 | fz r => exact r
 | ol u => rfl
 | od u => rfl
 | oi u hx => exact ⟨_,rfl,hx⟩
theorem Untracked.toOwn {a : Addr} (u : Untracked f φ α σ h a) : Own f.p f.g f.fs f.env.locals φ a := ⟨u.fs,u.g,u.φ,u.L,u.dk,u.dc⟩
theorem Pend.ownAt {a : Addr} {v : Value} {sl : Slot} (p : Pend f φ α σ h a v sl) : OwnAt f.p f.e f.g f.fs f.env.locals φ h a sl := by
 cases p with
 | fz r => trivial
 | ol u a b c => exact ⟨⟨_,a,b,c,u.e⟩,u.toOwn⟩
 | od u a => exact ⟨⟨[],0,a,.nil _,by simp,u.e⟩,u.toOwn⟩
 | oi u hx a b c => exact ⟨⟨_,_,a,b,c⟩,u.toOwn⟩
theorem Pend.moves {a : Addr} {v : Value} {sl : Slot} (p : Pend f φ α σ h a v sl) (le : Le φ φ') (u : sl.isOwn = true->Untracked f φ α σ h a->Untracked f φ' α' σ' h' a) (k : sl.isOwn = true->Untracked f φ α σ h a->∀ o,h.get? a = some o->h'.get? a = some o) : Pend f φ' α' σ' h' a v sl := by
 cases p with
 | fz r => exact .fz (r.mono le)
 | ol w a b c => exact .ol (u rfl w) (a.at fun o q => k rfl w o q) b (c.mono le)
 | od w a => exact .od (u rfl w) (k rfl w _ a)
 | oi w hx a b c => exact .oi (u rfl w) (le _ _ hx) (k rfl w _ a) (b.mono le) c
theorem Pend.after {a : Addr} {v : Value} {sl : Slot} (p : Pend f φ α σ h a v sl) (I : f.I φ α d σ h) (I' : (f.now h α σ).I φ' α' d' σ' h') (ex : Ext (f.now h α σ).e φ φ') : Pend f φ' α' σ' h' a v sl :=
 p.moves ex.1 (fun _ u => u.after I I' ex) fun _ u o q => I.now_kept I' (I.untracked_g q u)
theorem Pend.keeps {a : Addr} {v : Value} {sl : Slot} (p : Pend f φ α σ h a v sl) (k : ∀ b o,h.get? b = some o->h'.get? b = some o) : Pend f φ α σ h' a v sl :=
 p.moves (Le.refl _) (fun _ u => u.keeps k) fun _ _ o q => k _ o q
noncomputable abbrev PRow := Addr × Value × Slot
noncomputable def Apart (p q : PRow) : Prop := p.2.2.isOwn = true->q.2.2.isOwn = true->p.1 ≠ q.1
structure OkP (f : Fm) (φ : Ob) (α : Nat->Addr) (σ : Sto) (h : Heap) (ps : List PRow) : Prop where
 pend : ∀ p ∈ ps,Pend f φ α σ h p.1 p.2.1 p.2.2
 apart : ps.Pairwise Apart
theorem OkP.nil : OkP f φ α σ h [] := ⟨fun _ h => (by simp at h),.nil⟩
theorem Apart.symm {p q : PRow} (h : Apart p q) : Apart q p := fun a b e => h b a e.symm
theorem OkP.rev {ps : List PRow} (k : OkP f φ α σ h ps) : OkP f φ α σ h ps.reverse := ⟨fun p hp => k.pend p (List.mem_reverse.mp hp),List.pairwise_reverse.mpr (k.apart.imp fun h => h.symm)⟩
theorem OkP.map {ps : List PRow} (k : OkP f φ α σ h ps) (m : ∀ p ∈ ps,Pend f φ α σ h p.1 p.2.1 p.2.2->Pend f φ' α' σ' h' p.1 p.2.1 p.2.2) : OkP f φ' α' σ' h' ps := ⟨fun p hp => m p hp (k.pend p hp),k.apart⟩
theorem QX.toNow {β γ : Type} {R : Ob->β->γ->Prop} {Q : β->Shared->Prop} {r : γ × Sto} (I : f.I φ α d σ s.heap) (x : QX f R φ α s Q d' r) : QX (f.now s.heap α σ) R φ α s Q d' r :=
 fun v h' tk φ' α' ha ex I' rr => let ⟨IB,exB⟩ := I.fromNow I' ex; x v h' tk φ' α' ha exB IB rr
theorem EX.toNow {told : PV} {σ' : Sto} (I : f.I φ α d σ s.heap) (x : EX f φ α s E d' told σ') : EX (f.now s.heap α σ) φ α s E d' told σ' :=
 fun v h' tk φ' α' ha ex I' X => let ⟨IB,exB⟩ := I.fromNow I' ex; x v h' tk φ' α' ha exB IB (X.fromNow I I')
variable {ε : Type} {R : Ob->Flow->ε->Prop} {Q₀ : Flow->Shared->Prop}
theorem OkP.snoc {pre : List PRow} {a : Addr} {v : Value} {sl : Slot} (k : OkP f φ α σ h pre) (p : Pend f φ α σ h a v sl) (ne : sl.isOwn = true->∀ p ∈ pre,p.2.2.isOwn = true->p.1 ≠ a) : OkP f φ α σ h (pre ++ [(a,v,sl)]) :=
 ⟨fun q hq => by rcases List.mem_append.mp hq with hq | hq; exact k.pend q hq; rw [List.mem_singleton.mp hq]; exact p,List.pairwise_append.mpr ⟨k.apart,List.pairwise_singleton ..,fun q hq r hr h1 h2 => by
  rw [List.mem_singleton.mp hr] at h2 ⊢; exact ne h2 q hq h1⟩⟩
theorem OkP.fresh {pre : List PRow} {a : Addr} (k : OkP f φ α σ h pre) (hn : h.get? a = none) : ∀ p ∈ pre,p.2.2.isOwn = true->p.1 ≠ a := fun p hp ho e => by
 obtain ⟨o,q⟩ := ((k.pend p hp).un ho).there
 rw [e,hn] at q; cases q
theorem fresh_size (h : Heap) : h.get? h.objs.size = none := get_size h
theorem Fm.S.own {β γ : Type} {R₁ : Ob->β->γ->Prop} {m : Sem β} {t : Sto->T (γ × Sto)} {k : γ × Sto->T (ε × Sto)} {Q : β->Shared->Prop} {pre : List PRow} (hl : ∀ φ₀,(f.now s.heap α σ).S φ₀ R₁ A m t) (I : f.I φ α d σ s.heap) (op : OkP f φ α σ s.heap pre) (H : T.Sat d (t σ >>= k) (QX f R φ α s Q₀) (EX f φ α s E))
  (next : ∀ φ₁ v r h' tk d₁,Ext f.e φ φ₁->f.I φ₁ α d₁ r.2 h'->R₁ φ₁ v r.1->OkP f φ₁ α r.2 h' pre->T.Sat d₁ (k r) (QX f R φ₁ α { s with heap := h',toks := tk } Q₀) (EX f φ₁ α { s with heap := h',toks := tk } E)->Q v { s with heap := h',toks := tk }) : wpAny (model f.prog f.w) A m Q E s := by
 refine hl φ φ α d σ s Q E (Le.refl _) I.toNow (H.bind.mono (fun d₁ r hr v h' tk φ₁ ex I₁ rr => ?_) fun d₁ told σ₁ hr x h' tk φ₁ ex I₁ X₁ => ?_)
 ·obtain ⟨IB,exB⟩ := I.fromNow I₁ ex
  exact next φ₁ v r h' tk d₁ exB IB rr (op.map fun p _ k => k.after I I₁ ex) (T.Sat.mono hr (fun _ _ q => q.step rfl exB) fun _ _ _ q => q.step rfl exB)
 ·obtain ⟨IB,exB⟩ := I.fromNow I₁ ex
  exact hr x h' tk φ₁ α rfl exB IB (X₁.fromNow I I₁)
theorem OkP.push {pre : List PRow} {v : Value} {sl : Slot} (op : OkP f φ α σ h pre) (o : Obj) (ho : o.isFreed = false) (p : Pend f φ α σ (h.push o) h.objs.size v sl) : OkP f φ α σ (h.push o) (pre ++ [(h.objs.size,v,sl)]) :=
 (op.map fun p _ q => q.keeps fun _ _ q => Heap.get?_push_of_some _ q).snoc p fun _ => op.fresh (get_size h)
theorem ownList_snd (X : ExOk f A C P n) {es : List Expr} {p : Pos} {t₂ : Slot × Sto->T (ε × Sto)} {Q : Value->Shared->Prop} (pre : List PRow) (op : OkP f φ α σ s.heap pre) (I : f.I φ α d σ s.heap)
  (H : T.Sat d (ownList P f.env.scope σ es >>= t₂) (QX f R φ α s Q₀) (EX f φ α s E))
  (next : ∀ φ₁ a v sl σ₁ s₁ d₁,Ext f.e φ φ₁->f.I φ₁ α d₁ σ₁ s₁.heap->OkP f φ₁ α σ₁ s₁.heap (pre ++ [(a,v,sl)])->T.Sat d₁ (t₂ (sl,σ₁)) (QX f R φ₁ α s₁ Q₀) (EX f φ₁ α s₁ E)->Q v s₁) :
  wpAny (model f.prog f.w) A (eval (.List es p) f.env) Q E s := by
 have H : T.Sat d (evs P f.env.scope σ es >>= fun v => shortT v.1 (Slot.ol v.1,v.2) >>= t₂) (QX f R φ α s Q₀) (EX f φ α s E) := T.sat_bind.mpr (H.bind.bind.mono (fun _ _ q => T.sat_bind.mpr q) fun _ _ _ q => q)
 refine wpAny_List_spliced (Fm.S.own (fun φ₀ => snd_evs (f := f.now s.heap α σ) (X.hO.ev _ (f.now_like s.heap α σ) X.ok) es φ₀) I op H fun φ₁ vs r h' tk d₁ ex IB rr op' hr => ?_)
 have hr' : T.Sat d₁ (match Nat.ble r.1.length 1000 with | true => T.ret (Slot.ol r.1,r.2) | false => .stuck "long") _ _ := T.Sat.bind hr
 cases hl : Nat.ble r.1.length 1000 with
 | false => rw [hl] at hr'; exact hr'.elim
 | true =>
  rw [hl] at hr'
  have rr : Reps f.p φ₁ vs r.1 := rr
  have hl : vs.length ≤ 1000 := rr.length ▸ Nat.le_of_ble_eq_true hl
  obtain ⟨I₂,u⟩ := FI.pushU IB { cls := .type "list",data := .seq vs.toArray }
  exact ⟨Nat.le_trans hl (by rw [sizeLine_eq]; decide),next φ₁ _ _ (.ol r.1) r.2 { s with heap := _,toks := tk } d₁ ex I₂ (op'.push _ rfl (.ol u ⟨_,Heap.get?_push_size _ rfl⟩ (Nat.le_trans hl (by decide)) rr)) (T.Sat.mono (show T.Sat d₁ (t₂ (Slot.ol r.1,r.2)) _ _ from hr') (fun _ _ q => QX.step q rfl (Ext.refl ..)) fun _ _ _ q => EX.step q rfl (Ext.refl ..))⟩
theorem listOf_some {e : Expr} {l : List Expr} (h : listOf e = some l) : ∃ p,e = .List l p := by
 cases e with
 | List es p => cases h; exact ⟨p,rfl⟩
 | _ => exact noOpt h
theorem ownCls_some {sc : Scope} {g : Expr} {kws : List Keyword} {q : Nat × Fn} (h : ownCls C sc g kws = some q) : ∃ x np,g = .Name x np ∧ kws = [] ∧ kindOf sc.names x = some .globalImplicit ∧ C.glob x = some (.cls q.1 q.2 true false) := by
 cases g with
 | Name x np =>
  have h : (match kws.isEmpty && isGlob (kindOf sc.names x) with | true => clsOf (C.glob x) | false => none) = some q := h
  cases hb : kws.isEmpty && isGlob (kindOf sc.names x) with
  | false => rw [hb] at h; exact noOpt h
  | true =>
   rw [hb] at h
   refine and2 hb fun a b => ?_
   refine ⟨x,np,rfl,List.isEmpty_iff.mp a,eq_of_beq b,?_⟩
   cases hg : C.glob x with
   | none => rw [hg] at h; exact noOpt h
   | some g =>
    rw [hg] at h
    cases g with
    | cls c init own exc => cases own <;> cases exc <;> first | exact noOpt h | (cases h; rfl)
    | _ => exact noOpt h
 | _ => exact noOpt h
theorem makeOwn_snd (X : ExOk f A C P n) {x : Str} {c : Nat} {init : Fn} {args : List Expr} {np pos : Pos} {t₂ : Slot × Sto->T (ε × Sto)} {Q : Value->Shared->Prop} (pre : List PRow) (op : OkP f φ α σ s.heap pre) (I : f.I φ α d σ s.heap) (hk : kindOf f.env.scope.names x = some .globalImplicit) (hg : C.glob x = some (.cls c init true false))
  (H : T.Sat d (makeOwn P f.env.scope σ args (.Call (.Name x np) args [] pos) (some (c,init)) >>= t₂) (QX f R φ α s Q₀) (EX f φ α s E))
  (next : ∀ φ₁ a v sl σ₁ s₁ d₁,Ext f.e φ φ₁->f.I φ₁ α d₁ σ₁ s₁.heap->OkP f φ₁ α σ₁ s₁.heap (pre ++ [(a,v,sl)])->T.Sat d₁ (t₂ (sl,σ₁)) (QX f R φ₁ α s₁ Q₀) (EX f φ₁ α s₁ E)->Q v s₁) :
  wpAny (model f.prog f.w) A (eval (.Call (.Name x np) args [] pos) f.env) Q E s := by
 obtain ⟨hm,hkp,hmk⟩ := X.df.cls x c init true false hg
 obtain ⟨h1,fI,h2,h3,h4⟩ := hmk rfl
 have H : T.Sat d ((evArgs P f.env.scope σ args >>= fun vs => (P.call init (.oi c [] :: vs.1.map .fz)).noExc >>= fun r => madeT c r >>= fun q => pure (.oi c q,vs.2)) >>= t₂) (QX f R φ α s Q₀) (EX f φ α s E) := H
 refine T.Sat.chkE H.assoc.bind fun hp H => ?_
 refine wpAny_Call_NameR (name_global X.ok X.st I hk hm (callWith_any (first := []) (.k hkp) hp (Fm.S.own (fun φ₀ => snd_evs (f := f.now s.heap α σ) (X.hO.ev _ (f.now_like s.heap α σ) X.ok) args φ₀) I op (T.sat_bind.mpr H) fun φ₁ vs r h' tk d₁ ex IB rr op₁ hr => ⟨IB.kinH,?_⟩)))
 refine make_snd (f := f.now h' α r.2) (s := { s with heap := h',toks := tk }) rfl h1 h2 h3 (X.hC _ fI init h4 X.hA.under_make) IB.toNow rr ((T.sat_noExc.mp (T.Sat.assoc hr).bind).mono (fun _ _ q => (T.Sat.assoc q).bind) fun _ _ _ q => q) fun y dx q h'' tk' φ'' d' ex' I' hy N H₂ => ?_
 obtain ⟨IC,exC⟩ := IB.fromNow I' ex'
 obtain ⟨es,k,hdx,en,len⟩ := N.at_
 have eX : f.e.get? dx = none := IB.now_e N.e N.own.L
 have u : Untracked f φ'' α r.2 h'' dx := ⟨N.own.φ,IC.old _ eX,eX,N.own.fs,N.own.L,N.own.dk,N.own.dc,N.al,_,hdx⟩
 have hN : h'.get? dx = none := Ob.keepNone (b := (f.now h' α r.2).e) (fun o z => IB.now_eG z N.own.L N.al) N.e
 exact next φ'' dx (.ref y) (.oi c q) r.2 { s with heap := h'',toks := tk' } d' (ex.trans exC) IC ((op₁.map fun p _ k => k.after IB I' ex').snoc (.oi u hy hdx en len) fun _ => op₁.fresh hN)
  (T.Sat.mono H₂ (fun _ _ q => q.step rfl exC) fun _ _ _ q => q.step rfl exC)
theorem evOwn_snd (X : ExOk f A C P n) {e : Expr} {t₂ : Slot × Sto->T (ε × Sto)} {Q : Value->Shared->Prop} (pre : List PRow) (op : OkP f φ α σ s.heap pre) (I : f.I φ α d σ s.heap) (H : T.Sat d (evOwn C P f.env.scope σ e >>= t₂) (QX f R φ α s Q₀) (EX f φ α s E))
  (next : ∀ φ₁ a v sl σ₁ s₁ d₁,Ext f.e φ φ₁->f.I φ₁ α d₁ σ₁ s₁.heap->OkP f φ₁ α σ₁ s₁.heap (pre ++ [(a,v,sl)])->T.Sat d₁ (t₂ (sl,σ₁)) (QX f R φ₁ α s₁ Q₀) (EX f φ₁ α s₁ E)->Q v s₁) :
  wpAny (model f.prog f.w) A (eval e f.env) Q E s := by
 have lk := f.now_like s.heap α σ
 have plain : ∀ {e},T.Sat d (plainOwn P f.env.scope σ e >>= t₂) (QX f R φ α s Q₀) (EX f φ α s E)->wpAny (model f.prog f.w) A (eval e f.env) Q E s := fun {e} H => by
  have H : T.Sat d (P.ev f.env.scope σ e >>= fun x => t₂ (.fz x.1,x.2)) (QX f R φ α s Q₀) (EX f φ α s E) := T.sat_bind.mpr H.bind.bind
  exact Fm.S.own (fun φ₀ => X.hO.ev (f.now s.heap α σ) lk X.ok φ₀ e) I op H fun φ₁ v r h' tk d₁ ex IB rr op' hr => next φ₁ 0 v (.fz r.1) r.2 { s with heap := h',toks := tk } d₁ ex IB (op'.snoc (.fz rr) fun q => by cases q) hr
 cases e with
 | List es p => exact ownList_snd X pre op I H next
 | Dict ks vs p =>
  refine T.Sat.chkE H.bind fun hk H => ?_
  refine and2 hk fun h1 h2 => ?_
  cases List.isEmpty_iff.mp h1
  cases List.isEmpty_iff.mp h2
  refine wpAny_Dict_empty ?_
  obtain ⟨I₂,u⟩ := FI.pushU I { cls := .type "dict",data := .dict #[] }
  exact next φ _ _ (.od []) σ { s with heap := _ } d (Ext.refl ..) I₂ (op.push _ rfl (.od u (Heap.get?_push_size _ rfl))) (T.Sat.mono H (fun _ _ q => q.step rfl (Ext.refl ..)) fun _ _ _ q => q.step rfl (Ext.refl ..))
 | IfExp t b o p =>
  have H : T.Sat d (ifOwn P f.env.scope σ t (.IfExp t b o p) (listOf b) (listOf o) >>= t₂) (QX f R φ α s Q₀) (EX f φ α s E) := H
  cases hb : listOf b with
  | none => rw [hb] at H; exact plain H
  | some lb => cases ho : listOf o with
   | none => rw [hb,ho] at H; exact plain H
   | some lo =>
    rw [hb,ho] at H
    obtain ⟨_,rfl⟩ := listOf_some hb
    obtain ⟨_,rfl⟩ := listOf_some ho
    have H : T.Sat d (P.isT f.env.scope σ t >>= fun x => ownList P f.env.scope x.2 (if x.1 then lb else lo) >>= t₂) (QX f R φ α s Q₀) (EX f φ α s E) := T.sat_bind.mpr (H.bind.bind.mono (fun _ _ q => T.sat_bind.mpr q) fun _ _ _ q => q)
    refine wpAny_IfExp (Fm.S.own (fun φ₀ => X.hO.isT (f.now s.heap α σ) lk X.ok φ₀ t) I op H fun φ₁ c r h' tk d₁ ex IB rr op₁ hr => ?_)
    obtain ⟨c',σ₁⟩ := r
    cases (show c = c' from rr)
    have nx : ∀ φ₂ a v sl σ₂ s₂ d₂,Ext f.e φ₁ φ₂->f.I φ₂ α d₂ σ₂ s₂.heap->OkP f φ₂ α σ₂ s₂.heap (pre ++ [(a,v,sl)])->T.Sat d₂ (t₂ (sl,σ₂)) (QX f R φ₂ α s₂ Q₀) (EX f φ₂ α s₂ E)->Q v s₂ := fun φ₂ a v sl σ₂ s₂ d₂ ex₂ => next φ₂ a v sl σ₂ s₂ d₂ (ex.trans ex₂)
    cases c
    ·exact ownList_snd X (s := { s with heap := h',toks := tk }) pre op₁ IB hr nx
    ·exact ownList_snd X (s := { s with heap := h',toks := tk }) pre op₁ IB hr nx
 | Call g args kws pos =>
  have H : T.Sat d (makeOwn P f.env.scope σ args (.Call g args kws pos) (ownCls C f.env.scope g kws) >>= t₂) (QX f R φ α s Q₀) (EX f φ α s E) := H
  cases hq : ownCls C f.env.scope g kws with
  | none => rw [hq] at H; exact plain H
  | some q =>
   rw [hq] at H
   obtain ⟨x,np,rfl,rfl,hk,hg⟩ := ownCls_some hq
   exact makeOwn_snd X pre op I hk hg H next
 | _ => exact plain H
end
section
variable {f : Fm} {φ φ' φ₁ φ₀ : Ob} {α α' α₁ : Nat->Addr} {d d' d₁ : Nat} {σ σ' σ₁ : Sto} {h h' : Heap} {s : Shared} {A : Around} {C : Cx} {P : Lv} {n : Nat} {E : Value->Shared->Prop}
variable {ε : Type} {R : Ob->Flow->ε->Prop} {Q₀ : Flow->Shared->Prop}
theorem Pend.fzOf {a : Addr} {v : Value} {sl : Slot} (p : Pend f φ α σ h a v sl) (ho : sl.isOwn = false) : ∃ x,sl = .fz x ∧ Rep f.p φ v x := by
 cases p with
 | fz r => exact ⟨_,rfl,r⟩
 | _ => cases ho
theorem put_snd (ok : EnvOk f.env) {x : Str} {a : Addr} {v : Value} {sl : Slot} {rest : List PRow} {t₂ : Sto->T (ε × Sto)} {Q : Unit->Shared->Prop} (I : f.I φ α d σ s.heap) (op : OkP f φ α σ s.heap ((a,v,sl) :: rest))
  (H : T.Sat d (putN f.env.scope σ x sl >>= t₂) (QX f R φ α s Q₀) (EX f φ α s E))
  (next : ∀ h' tk α' σ',α' 0 = α 0->f.I φ α' d σ' h'->OkP f φ α' σ' h' rest->T.Sat d (t₂ σ') (QX f R φ α' { s with heap := h',toks := tk } Q₀) (EX f φ α' { s with heap := h',toks := tk } E)->Q () { s with heap := h',toks := tk }) :
  wpAny (model f.prog f.w) A (storeName f.env x v) Q E s := by
 refine T.Sat.chkE H.bind fun hc H₀ => ?_
 refine and2 hc fun hx hz => ?_
 have hx := eq_of_beq hx
 have H : T.Sat d (t₂ (putS σ (idx f.env.scope.names x) sl)) (QX f R φ α s Q₀) (EX f φ α s E) := H₀
 have pd := op.pend _ (.head _)
 have ap := List.pairwise_cons.mp op.apart
 have other : ∀ {α' σ' h'},Heap.SameBut f.env.locals s.heap h'->(∀ j s',getS σ' j = some s'->s'.isOwn = true->(sl.isOwn = true ∧ α' j = a) ∨ (∃ s₀,getS σ j = some s₀ ∧ s₀.isOwn = true ∧ α' j = α j))->OkP f φ α' σ' h' rest := fun {α' σ' h'} hs al =>
  ⟨fun p hp => (op.pend p (.tail _ hp)).moves (Le.refl _) (fun ho u => ⟨u.φ,u.g,u.e,u.fs,u.L,u.dk,u.dc,fun j s' q1 q2 z => (al j s' q1 q2).elim (fun b => ap.1 p hp b.1 ho (b.2.symm.trans z)) fun ⟨s₀,b1,b2,b3⟩ => u.own j s₀ b1 b2 (b3.symm.trans z),let ⟨o,q⟩ := u.there; ⟨o,(hs.2 _ u.L).trans q⟩⟩) fun _ u o q => (hs.2 _ u.L).trans q,ap.2⟩
 cases ho : sl.isOwn with
 | true =>
  have ne : idx f.env.scope.names x ≠ 0 := fun e => by rw [ho,e] at hz; cases hz
  refine store_snd ok (a := a) hx I pd.slotV (fun _ => ⟨pd.ownAt,fun j s' q1 q2 _ => (pd.un ho).own j s' q1 q2⟩) fun h' tk I' hs => ?_
  have a0 : upd α (idx f.env.scope.names x) a 0 = α 0 := upd_ne (Ne.symm ne)
  exact next h' tk _ _ a0 I' (other hs fun j s' q1 q2 => (getS_put q1).elim (fun z => .inl ⟨ho,z.1 ▸ upd_self ..⟩) fun z => .inr ⟨s',z.2,q2,upd_ne (Ne.symm z.1)⟩) (H.mono (fun _ _ q => q.step a0 (Ext.refl ..)) fun _ _ _ q => q.step a0 (Ext.refl ..))
 | false =>
  obtain ⟨x₀,rfl,r⟩ := pd.fzOf ho
  refine store_snd ok (sl := .fz x₀) (a := α (idx f.env.scope.names x)) hx I r (fun q => by cases q) fun h' tk I' hs => ?_
  rw [upd_same] at I'
  exact next h' tk _ _ rfl I' (other hs fun j s' q1 q2 => (getS_put q1).elim (fun z => by rw [z.2,ho] at q2; cases q2) fun z => .inr ⟨s',z.2,q2,rfl⟩) (H.mono (fun _ _ q => q.step rfl (Ext.refl ..)) fun _ _ _ q => q.step rfl (Ext.refl ..))
theorem swaps_no {e : Expr} {x : Str} {px : Pos} {l : Nat} {env : Env} (h : noComp e = true) : swapsWith e (some (.Name x px)) l env = pure false := by
 cases e <;> first | rfl | exact noB h
theorem sx_AssignName (X : ExOk f A C P n) {x : Str} {px pos : Pos} {e : Expr} : f.X φ₀ (FlowR f.p) A (exec (.Assign [.Name x px] e pos) f.env) (fun σ => asgName C P f.env.scope σ x e none) := by
 intro φ α d σ s Q E le I H
 refine T.Sat.chkE H fun hn H => ?_
 exact wpAny_Assign_Name (evOwn_snd X [] OkP.nil I H fun φ₁ a v sl σ₁ s₁ d₁ ex I₁ op H₁ => put_snd X.ok (E := E) I₁ op H₁ fun h' tk α' σ' ha I' _ H₂ => QX.here H₂ I' .next) (swaps_no hn)
end
section
variable {f : Fm} {φ φ' φ₁ φ₀ : Ob} {α α' α₁ : Nat->Addr} {d d' d₁ : Nat} {σ σ' σ₁ : Sto} {h h' : Heap} {s : Shared} {A : Around} {C : Cx} {P : Lv} {n : Nat} {E : Value->Shared->Prop}
variable {ε : Type} {R : Ob->Flow->ε->Prop} {Q₀ : Flow->Shared->Prop}
theorem ownsSpliced (X : ExOk f A C P n) {pos : Pos} (es : List Expr) : ∀ (pre : List PRow) {φ : Ob} {d : Nat} {σ : Sto} {s : Shared} {t₂ : List Slot × Sto->T (ε × Sto)} {Q : List Value->Shared->Prop},es.all plainR = true->OkP f φ α σ s.heap pre->f.I φ α d σ s.heap ->
  T.Sat d (evOwns C P f.env.scope σ es >>= t₂) (QX f R φ α s Q₀) (EX f φ α s E) ->
  (∀ φ₁ ps σ₁ s₁ d₁,Ext f.e φ φ₁->f.I φ₁ α d₁ σ₁ s₁.heap->OkP f φ₁ α σ₁ s₁.heap (pre ++ ps)->ps.length = es.length->T.Sat d₁ (t₂ (ps.map (·.2.2),σ₁)) (QX f R φ₁ α s₁ Q₀) (EX f φ₁ α s₁ E)->Q (ps.map (·.2.1)) s₁) ->
  wpAny (model f.prog f.w) A (spliced (backTo pos (starEach es f.env))) Q E s := by
 induction es with
 | nil => exact fun pre φ d σ s t₂ Q _ op I H next => spliced_none (next φ [] σ s d (Ext.refl ..) I ((List.append_nil pre).symm ▸ op) rfl H)
 | cons e r ih =>
  intro pre φ d σ s t₂ Q hp op I H next
  have hp := all_cons hp
  have H : T.Sat d (evOwn C P f.env.scope σ e >>= fun y => (evOwns C P f.env.scope y.2 r >>= fun z => pure (y.1 :: z.1,z.2)) >>= t₂) (QX f R φ α s Q₀) (EX f φ α s E) := T.Sat.assoc H
  refine spliced_more (evOwn_snd X pre op I H fun φ₁ a v sl σ₁ s₁ d₁ ex I₁ op₁ H₁ => ?_) (star_plain hp.1)
  exact ih (pre ++ [(a,v,sl)]) hp.2 op₁ I₁ (T.Sat.assoc H₁) fun φ₂ ps σ₂ s₂ d₂ ex₂ I₂ op₂ hl H₂ => next φ₂ ((a,v,sl) :: ps) σ₂ s₂ d₂ (ex.trans ex₂) I₂ (by rw [List.append_assoc] at op₂; exact op₂) (congrArg (· + 1) hl) H₂
inductive StoreOf (env : Env) : (Value->Sem Unit)->Expr->Prop
 | nm (x : Str) (p : Pos) : StoreOf env (assign (.Name x p) env) (.Name x p)
 | bd (x : Str) (p : Pos) : StoreOf env (fun v => bindName env x v) (.Name x p)
inductive StoresOf (env : Env) : List (Value->Sem Unit)->List Expr->Prop
 | nil : StoresOf env [] []
 | cons {st : Value->Sem Unit} {t : Expr} {sts ts} : StoreOf env st t->StoresOf env sts ts->StoresOf env (st :: sts) (t :: ts)
theorem StoreOf.name {env : Env} {st : Value->Sem Unit} {t : Expr} (h : StoreOf env st t) : ∃ x p,t = .Name x p := by cases h <;> exact ⟨_,_,rfl⟩
theorem StoreOf.walk {x : Str} {p : Pos} {st : Value->Sem Unit} {v : Value} {Q : Unit->Shared->Prop} (h : StoreOf f.env st (.Name x p)) (k : wpAny (model f.prog f.w) A (storeName f.env x v) Q E s) : wpAny (model f.prog f.w) A (st v) Q E s := by
 cases h with
 | nm => exact wpAny_assign_Name k
 | bd => exact bindName_ k
theorem putAll_snd (ok : EnvOk f.env) {t₂ : Sto->T (ε × Sto)} {ts : List Expr} {sts : List (Value->Sem Unit)} (hst : StoresOf f.env sts ts) : ∀ (ps : List PRow) {φ : Ob} {α : Nat->Addr} {σ : Sto} {s : Shared} {Q : Unit->Shared->Prop},ps.length = ts.length->f.I φ α d σ s.heap->OkP f φ α σ s.heap ps ->
  T.Sat d (putAll f.env.scope σ ((ps.map (·.2.2)).zip ts) >>= t₂) (QX f R φ α s Q₀) (EX f φ α s E) ->
  (∀ h' tk α' σ',f.I φ α' d σ' h'->T.Sat d (t₂ σ') (QX f R φ α' { s with heap := h',toks := tk } Q₀) (EX f φ α' { s with heap := h',toks := tk } E)->Q () { s with heap := h',toks := tk }) ->
  wpAny (model f.prog f.w) A (assignInOrder sts (ps.map (·.2.1))) Q E s := by
 induction hst with
 | nil =>
  intro ps φ α σ s Q hl I op H next
  cases ps with
  | cons => cases hl
  | nil => exact wpAny_assignInOrder_none (next s.heap s.toks α σ I H)
 | cons hs hr ih =>
  intro ps φ α σ s Q hl I op H next
  cases ps with
  | nil => cases hl
  | cons row ps =>
   obtain ⟨x,p,rfl⟩ := hs.name
   exact wpAny_assignInOrder_more (hs.walk (put_snd ok I op (T.Sat.assoc H) fun h' tk α' σ' ha I' op' H' => ih ps (s := { s with heap := h',toks := tk }) (Nat.succ.inj hl) I' op' H' fun h'' tk' α'' σ'' I'' H'' => next h'' tk' α'' σ'' I'' H''))
theorem storesOf_each (env : Env) {ts : List Expr} (h : ∀ t ∈ ts,∃ x p,t = .Name x p) : StoresOf env ((assignEach ts env).map (·.2)) ts := by
 induction ts with
 | nil => exact .nil
 | cons t ts ih =>
  obtain ⟨x,p,rfl⟩ := h t (.head _)
  exact .cons (.nm x p) (ih fun t ht => h t (.tail _ ht))
theorem StoresOf.append {env : Env} {a b : List (Value->Sem Unit)} {x y : List Expr} (h : StoresOf env a x) (k : StoresOf env b y) : StoresOf env (a ++ b) (x ++ y) := by
 induction h with
 | nil => exact k
 | cons q _ ih => exact .cons q ih
theorem StoresOf.rev {env : Env} {a : List (Value->Sem Unit)} {x : List Expr} (h : StoresOf env a x) : StoresOf env a.reverse x.reverse := by
 induction h with
 | nil => exact .nil
 | cons q _ ih => rw [List.reverse_cons,List.reverse_cons]; exact ih.append (.cons q .nil)
theorem putAll_names {sc : Scope} {Q : Nat->Sto->Prop} {E' : Nat->PV->Sto->Prop} {ts : List Expr} : ∀ {ps : List Slot} {σ : Sto},ps.length = ts.length->T.Sat d (putAll sc σ (ps.zip ts)) Q E'->∀ t ∈ ts,∃ x p,t = .Name x p := by
 induction ts with
 | nil => exact fun _ _ t ht => by cases ht
 | cons t ts ih =>
  intro ps σ h H u hu
  cases ps with
  | nil => cases h
  | cons s ps =>
   have H : T.Sat d (putNm sc σ s (nameOf t) >>= fun σ => putAll sc σ (ps.zip ts)) Q E' := H
   cases hn : nameOf t with
   | none => rw [hn] at H; exact H.elim
   | some x =>
    rw [hn] at H
    rcases List.mem_cons.mp hu with rfl | hu
    ·obtain ⟨p,e⟩ := nameOf_some hn; exact ⟨x,p,e⟩
    ·exact ih (Nat.succ.inj h) (T.Sat.chk H.bind).2 u hu
noncomputable def nameIf (sc : Scope) (line : Nat) : Expr->Option Str
 | .Name id pos => if sc.names.lookup id == some .local && pos.line == line then some id else none
 | _ => none
theorem filterMap_all {α β : Type} {g : α->Option β} : ∀ {l : List α},(l.filterMap g).length = l.length->∀ x ∈ l,(g x).isSome = true
 | [],_ => by simp
 | a :: r,h => by
  have le := List.length_filterMap_le g r
  rw [List.filterMap_cons] at h
  cases e : g a with
  | none => rw [e] at h; simp at h; omega
  | some b =>
   rw [e] at h
   intro x hx
   rcases List.mem_cons.mp hx with rfl | hx
   ·rw [e]; rfl
   ·exact filterMap_all (by simpa using h) x hx
theorem nameIf_some {sc : Scope} {line : Nat} {t : Expr} (h : (nameIf sc line t).isSome = true) : ∃ x p,t = .Name x p ∧ nameIf sc line t = some x := by
 cases t with
 | Name x p =>
  refine ⟨x,p,rfl,?_⟩
  have h : (if (sc.names.lookup x == some NameKind.local && p.line == line) = true then some x else none).isSome = true := h
  show (if (sc.names.lookup x == some NameKind.local && p.line == line) = true then some x else none) = some x
  cases hc : (sc.names.lookup x == some NameKind.local && p.line == line) with
  | true => rfl
  | false => rw [hc] at h; exact noB h
 | _ => exact noB h
theorem storesOf_names (env : Env) (sc : Scope) (line : Nat) {ts : List Expr} (h : ∀ t ∈ ts,(nameIf sc line t).isSome = true) : StoresOf env ((ts.filterMap (nameIf sc line)).map fun n => fun v => bindName env n v) ts := by
 induction ts with
 | nil => exact .nil
 | cons t ts ih =>
  obtain ⟨x,p,rfl,e⟩ := nameIf_some (h t (.head _))
  rw [List.filterMap_cons,e]
  exact .cons (.bd x p) (ih fun t ht => h t (.tail _ ht))
theorem not_star {e : Expr} (h : plainR e = true) : (match (generalizing := false) e with | .Starred .. => true | _ => false) = false := by
 cases e <;> first | rfl | exact noB h
theorem no_stars {vs : List Expr} (h : vs.all plainR = true) : (vs.any fun | .Starred .. => true | _ => false) = false := by
 induction vs with
 | nil => rfl
 | cons e r ih => rw [List.any_cons,ih (all_cons h).2]; exact (Bool.or_false _).trans (not_star (all_cons h).1)
theorem swapped_eq {env : Env} (ok : EnvOk env) {ts vs : List Expr} {k k'} {p p' : Pos} (hv : vs.all plainR = true) :
  (swapN env.scope ts vs = some false->swappedStores [.Tuple ts k p] (.Tuple vs k' p') env = pure none) ∧
  (swapN env.scope ts vs = some true->swappedStores [.Tuple ts k p] (.Tuple vs k' p') env = pure (some (ts.filterMap (nameIf env.scope ((ts.head?.map (·.pos.line)).getD 0)))) ∧ (ts.filterMap (nameIf env.scope ((ts.head?.map (·.pos.line)).getD 0))).length = ts.length) := by
 have bk : env.blockKind = .function := by unfold Env.blockKind; rw [ok.kind]; rfl
 have fm : (ts.filterMap fun
   | .Name id pos => if env.kindOf id == some .local && pos.line == (ts.head?.map (·.pos.line)).getD 0 then some id else none
   | _ => none) = ts.filterMap (nameIf env.scope ((ts.head?.map (·.pos.line)).getD 0)) := by
  rfl
 have fm' : (ts.filterMap fun
   | .Name id pos => if kindOf env.scope.names id == some .local && pos.line == (ts.head?.map (·.pos.line)).getD 0 then some id else none
   | _ => none) = ts.filterMap (nameIf env.scope ((ts.head?.map (·.pos.line)).getD 0)) := by
  congr 1
  funext e
  cases e with
  | Name x q => dsimp only; rw [kindOf_eq]; rfl
  | _ => rfl
 have sw : swappedStores [.Tuple ts k p] (.Tuple vs k' p') env = (if (!(ts.length == 2 || ts.length == 3) || vs.length != ts.length || env.blockKind != .function) = true then pure none else
   if (vs.any fun | .Starred .. => true | _ => false) = true then pure none else
   if ((ts.filterMap (nameIf env.scope ((ts.head?.map (·.pos.line)).getD 0))).length != ts.length || (ts.filterMap (nameIf env.scope ((ts.head?.map (·.pos.line)).getD 0))).eraseDups.length != (ts.filterMap (nameIf env.scope ((ts.head?.map (·.pos.line)).getD 0))).length) = true then pure none else
   if vs.all (foldedForSure 8) = true then pure none else
   if vs.all (constantsAlone 8) = true then (do unsupported "assign.tuple-of-constant-expressions:order-of-the-stores"; pure (some (ts.filterMap (nameIf env.scope ((ts.head?.map (·.pos.line)).getD 0))))) else
   pure (some (ts.filterMap (nameIf env.scope ((ts.head?.map (·.pos.line)).getD 0))))) := by
  rw [← fm]
  rfl
 rw [sw,no_stars hv,bk]
 have sn : swapN env.scope ts vs = (match (ts.length == 2 || ts.length == 3) && vs.length == ts.length with
   | false => some false
   | true => match (ts.filterMap fun
   | .Name id pos => if kindOf env.scope.names id == some .local && pos.line == (ts.head?.map (·.pos.line)).getD 0 then some id else none
   | _ => none) with
    | names => match names.length != ts.length || names.eraseDups.length != names.length with
     | true => some false
     | false => match vs.all (foldedForSure 8) with
      | true => some false
      | false => match vs.all (constantsAlone 8) with
       | true => none
       | false => some true) := rfl
 rw [sn,fm']
 generalize ts.filterMap (nameIf env.scope ((ts.head?.map (·.pos.line)).getD 0)) = names
 have hc : (!(ts.length == 2 || ts.length == 3) || vs.length != ts.length || ScopeKind.function != ScopeKind.function) = !((ts.length == 2 || ts.length == 3) && vs.length == ts.length) := by
  have e : (ScopeKind.function != ScopeKind.function) = false := rfl
  rw [e]
  generalize (ts.length == 2 || ts.length == 3) = a
  unfold bne
  generalize (vs.length == ts.length) = b
  cases a <;> cases b <;> rfl
 rw [hc]
 generalize ((ts.length == 2 || ts.length == 3) && vs.length == ts.length) = a
 cases a with
 | false => exact ⟨fun _ => rfl,fun q => by cases q⟩
 | true =>
  dsimp only
  generalize h3 : (names.length != ts.length || names.eraseDups.length != names.length) = b3
  cases b3 with
  | true => exact ⟨fun _ => rfl,fun q => by cases q⟩
  | false =>
   cases h4 : vs.all (foldedForSure 8) with
   | true => exact ⟨fun _ => rfl,fun q => by cases q⟩
   | false =>
    cases h5 : vs.all (constantsAlone 8) with
    | true => exact ⟨fun q => (by cases q),fun q => by cases q⟩
    | false =>
     refine ⟨fun q => (by cases q),fun _ => ⟨rfl,?_⟩⟩
     rw [Bool.or_eq_false_iff] at h3
     simpa using h3.1
theorem swaps_sole {ts : List Expr} {k} {p : Pos} {e : Expr} {l : Nat} {env : Env} (h : noComp e = true) : swapsWithSole [.Tuple ts k p] e l env = pure false := by
 cases e <;> first | rfl | exact noB h
theorem sx_AssignTuples (X : ExOk f A C P n) {ts es : List Expr} {k k'} {p p' pos : Pos} : f.X φ₀ (FlowR f.p) A (exec (.Assign [.Tuple ts k p] (.Tuple es k' p') pos) f.env) (fun σ => asgTuple C P f.env.scope σ (.Tuple ts k p) ts (.Tuple es k' p') (some es)) := by
 intro φ α d σ s Q E le I H
 refine T.Sat.chkE H fun hc H => ?_
 refine T.Sat.optE H fun sw hsw H => ?_
 refine and2 hc fun hc hn => ?_
 refine and2 hc fun hl hp => ?_
 have hl : ts.length = es.length := eq_of_beq hl
 have hn : es.length ≤ 1000 := Nat.le_of_ble_eq_true hn
 obtain ⟨sF,sT⟩ := swapped_eq (k := k) (k' := k') (p := p) (p' := p') X.ok hp
 have ev : ∀ {Q' : Value->Shared->Prop},(∀ φ₁ ps σ₁ s₁ d₁ a,f.I φ₁ α d₁ σ₁ s₁.heap->OkP f φ₁ α σ₁ s₁.heap ps->ps.length = ts.length->s₁.heap.IsTuple a (ps.map (·.2.1)).toArray ->
   T.Sat d₁ (putAll f.env.scope σ₁ (if sw then ((ps.map (·.2.2)).zip ts).reverse else (ps.map (·.2.2)).zip ts) >>= fun σ => pure (.next,σ)) (QX f (FlowR f.p) φ₁ α s₁ Q) (EX f φ₁ α s₁ E)->Q' (.ref a) s₁) ->
   wpAny (model f.prog f.w) A (eval (.Tuple es k' p') f.env) Q' E s := fun {Q'} next => by
  refine wpAny_Tuple_spliced (ownsSpliced X es [] hp OkP.nil I H fun φ₁ ps σ₁ s₁ d₁ ex I₁ op hlen H₁ => ⟨by rw [List.length_map,hlen]; exact Nat.le_trans hn (by rw [sizeLine_eq]; decide),?_⟩)
  have kp : ∀ b o,s₁.heap.get? b = some o->(s₁.heap.push { cls := .type "tuple",data := .seq (ps.map (·.2.1)).toArray }).get? b = some o := fun _ _ q => Heap.get?_push_of_some _ q
  have op : OkP f φ₁ α σ₁ s₁.heap ps := op
  exact next φ₁ ps σ₁ { s₁ with heap := _ } d₁ _ (I₁.keeps kp) (op.map fun p _ q => q.keeps kp) (hlen.trans hl.symm) ⟨_,Heap.get?_push_size _ rfl,rfl,_,rfl⟩ (T.Sat.mono H₁ (fun _ _ q => QX.step q rfl (Ext.refl ..)) fun _ _ _ q => EX.step q rfl (Ext.refl ..))
 have go : ∀ {φ₁ : Ob} {ps : List PRow} {σ₁ : Sto} {s₁ : Shared} {d₁ : Nat} {us : List Expr} {sts : List (Value->Sem Unit)} {h' : Heap},StoresOf f.env sts us->ps.length = us.length->(∀ b,b ≠ s₁.heap.objs.size->∀ o,s₁.heap.get? b = some o->h'.get? b = some o)->f.I φ₁ α d₁ σ₁ s₁.heap->OkP f φ₁ α σ₁ s₁.heap ps ->
   T.Sat d₁ (putAll f.env.scope σ₁ ((ps.map (·.2.2)).zip us) >>= fun σ => pure (.next,σ)) (QX f (FlowR f.p) φ₁ α s₁ Q) (EX f φ₁ α s₁ E)->wpAny (model f.prog f.w) A (assignInOrder sts (ps.map (·.2.1))) (fun _ => Q .next) E { s₁ with heap := h' } := fun {φ₁ ps σ₁ s₁ d₁ us sts h'} st hlen hb I₁ op H₁ => by
  have kp : ∀ b o,s₁.heap.get? b = some o->h'.get? b = some o := fun b o q => hb b (Nat.ne_of_lt (Heap.lt_size q)) o q
  exact putAll_snd (s := { s₁ with heap := h' }) (R := FlowR f.p) (Q₀ := Q) X.ok st ps hlen (I₁.keeps kp) (op.map fun p _ q => q.keeps kp) (T.Sat.mono H₁ (fun _ _ q => QX.step (h := h') (tk := s₁.toks) q rfl (Ext.refl ..)) fun _ _ _ q => EX.step (h := h') (tk := s₁.toks) q rfl (Ext.refl ..)) fun h'' tk α' σ' I' H' => QX.here H' I' .next
 cases sw with
 | false =>
  refine Assign_Tuple (ev fun φ₁ ps σ₁ s₁ d₁ a I₁ op hlen ha H₁ => ?_) (swaps_sole rfl) (sF hsw)
  have nms := putAll_names (ps := ps.map (·.2.2)) (ts := ts) ((List.length_map ..).trans hlen) (T.sat_bind.mp H₁)
  have hn' := assignEach_names f.env nms
  exact wpAny_assign_Tuple X.hA.handled ha (hn'.1.trans (hlen.symm.trans (List.length_map ..).symm)) hn'.2 fun h' hb => go (storesOf_each f.env nms) hlen (fun b z o q => hb b o z q) I₁ op H₁
 | true =>
  obtain ⟨e1,e2⟩ := sT hsw
  refine Assign_Tuple_swapped (ev fun φ₁ ps σ₁ s₁ d₁ a I₁ op hlen ha H₁ => ?_) (swaps_sole rfl) e1
  have st := storesOf_names f.env f.env.scope ((ts.head?.map (·.pos.line)).getD 0) (filterMap_all e2)
  rw [e2,show ts.length = (ps.map (·.2.1)).toArray.size from hlen.symm.trans (List.length_map ..).symm]
  refine unpackItems_tuple X.hA.handled ha fun h' hb => ?_
  have zr : ((ps.map (·.2.2)).zip ts).reverse = (ps.reverse.map (·.2.2)).zip ts.reverse := by
   rw [List.map_reverse,List.zip_eq_zipWith,List.zip_eq_zipWith,List.reverse_zipWith ((List.length_map ..).trans hlen)]
  have H₁ : T.Sat d₁ (putAll f.env.scope σ₁ ((ps.map (·.2.2)).zip ts).reverse >>= fun σ => pure (.next,σ)) (QX f (FlowR f.p) φ₁ α s₁ Q) (EX f φ₁ α s₁ E) := H₁
  rw [zr] at H₁
  have key := go st.rev (by rw [List.length_reverse,List.length_reverse]; exact hlen) (fun b z o q => hb b o z q) I₁ op.rev H₁
  rw [List.map_reverse,← List.map_reverse (f := fun n v => bindName f.env n v)] at key
  exact key
end
section
variable {prog : Program} {w : World} {K : Frag} {A : Around} {E : Value->Shared->Prop} {s : Shared} {x C dx : Addr} {ox : Obj} {es : List DictEntry} {n : Nat} {name : Str} {v : Value}
theorem set_raw {Q : Unit->Shared->Prop} (X : K.In s.heap) (I : InstAt s.heap x ox C (some (dictOf es n))) (hd : ox.dict = some dx) (hdx : s.heap.get? dx = some (dictOf es n))
  (hs : findIn K (.ref C) "__setattr__" = some (some (.builtin "object.__setattr__"))) (hp : plainOver K C = true) (ht : takerIn K C name = some none) (hh : hasDictIn K C = true) (hl : (getL name es).isSome = true)
  (hz : (putL name (PyData.keyHash w.params name) (.str name (s.toks + 1)) v es).length ≤ 1000)
  (h : ∀ h',h'.get? dx = some (dictOf (putL name (PyData.keyHash w.params name) (.str name (s.toks + 1)) v es) (W.putN name es n))->Heap.SameBut dx s.heap h'->Q () { s with heap := h',toks := s.toks + 2 }) :
  wpAny (model prog w) A (setAttr (.ref x) name v) Q E s := by
 refine set_plain X I hs (osa_open (s := { s with toks := s.toks + 1 }) X I hp ht fun b => ?_)
 obtain ⟨cd,hc,hd'⟩ := any_some hh
 obtain ⟨hx,hcl,hn,-⟩ := I
 obtain ⟨oc,odi,oda,osl⟩ := ox
 dsimp only at hcl hd
 subst hcl hd
 have X' : K.In ({ s with toks := s.toks + 1 } : Shared).heap := X
 refine wpAny_bind (wpAny_pure (wpAny_bind (wpAny_bind (wpAny_loadPart (s := { s with toks := s.toks + 1 }) hx (wpAny_bind ((looks_clsIn X' hc).here ?_))))))
 rw [hd']
 refine wpAny_pure (a := some dx) (wpAny_bind (wpAny_pure (wpAny_bind ?_)))
 unfold nsSet
 refine wpAny_bind (wpAny_bind (wpAny_askSetting (wpAny_pure (wpAny_bind (wpAny_mkText (wpAny_bind (wpAny_loadPart (s := { s with toks := s.toks + 1 + 1 }) hdx ?_)))))))
 have c : (!es.toArray.any (·.key.isStr name) && es.toArray.any (·.refKey)) = false := by
  rw [← Array.any_toList,← Array.any_toList]
  dsimp only
  unfold getL at hl
  split at hl
  ·rename_i en he
   rw [List.any_eq_true.mpr ⟨en,List.mem_of_find?_eq_some he,List.find?_some he⟩]; rfl
  ·split at hl
   ·cases hl
   ·rename_i z; rw [Bool.not_eq_true] at z; rw [z,Bool.and_false]
 have hu := Heap.get?_update_self (Obj.putName name (PyData.keyHash w.params name) (.str name (s.toks + 1)) v) hdx (by rw [putName_dict]; rfl)
 rw [putName_dict] at hu
 dsimp only
 rw [aRefKeyMayBeTheName_at,c]
 refine wpAny_updatePart (s := { s with toks := s.toks + 1 + 1 }) hdx ?_
 refine wpAny_bind (wpAny_lookBehind (s := { s with heap := _,toks := s.toks + 1 + 1 }) hu (pastItsLine_dict (by rw [List.size_toArray,sizeLine_eq]; omega)) ?_)
 exact wpAny_pure (h _ hu (Heap.SameBut.update ..))
end
section
variable {f : Fm} {φ φ' φ₁ φ₀ : Ob} {α α' α₁ : Nat->Addr} {d d' d₁ : Nat} {σ σ' σ₁ : Sto} {h h' : Heap} {s : Shared} {A : Around} {C : Cx} {P : Lv} {n : Nat} {E : Value->Shared->Prop} {p : Pl}
theorem Ents.length {es : List DictEntry} {fs : List (Str × PV)} (h : Ents p φ es fs) : es.length = fs.length := h.ind (M := fun es fs => es.length = fs.length) rfl fun _ _ e => congrArg (· + 1) e
theorem Ents.put {a : Str} {t : Tok} {v : Value} {pv : PV} (r : Rep p φ v pv) {es : List DictEntry} {fs : List (Str × PV)} (h : Ents p φ es fs) : Ents p φ (putL a (PyData.keyHash p.P a) (.str a t) v es) (setField fs a pv) :=
 h.ind (M := fun es fs => Ents p φ (putL a (PyData.keyHash p.P a) (.str a t) v es) (setField fs a pv)) (.cons r .nil) fun {x t' u q es fs} k h ih => by
  unfold putL setField
  dsimp only
  rw [isStr_seq]
  cases e : seq x a with
  | true => exact .cons r h
  | false => exact .cons k ih
theorem putL_len {a : Str} {hs : Int} {k v : Value} : ∀ {es : List DictEntry},(putL a hs k v es).length ≤ es.length + 1
 | [] => Nat.le_refl _
 | e :: r => by
  unfold putL
  split
  ·exact Nat.le_succ _
  ·exact Nat.succ_le_succ putL_len
theorem setOwn_snd {C : Cx} (st : Stat f.prog f.w f.K f.p C) {i c : Nat} {fs : List (Str × PV)} {a : Str} {x : Addr} {v : Value} {pv : PV} {Q : Unit->Shared->Prop} (hc : C.attr c a = true) (I : f.I φ α d σ s.heap) (hs : getS σ i = some (.oi c fs)) (hl : fs.length ≤ 50)
  (hx : φ x = some (instObj (f.p.ca c) (α i))) (r : Rep f.p φ v pv) (h : ∀ h' tk,f.I φ α d (putS σ i (.oi c (setField fs a pv))) h'->Q () { s with heap := h',toks := tk }) :
  wpAny (model f.prog f.w) A (setAttr (.ref x) a v) Q E s := by
 obtain ⟨⟨es,n,ha,en,hz⟩,ow⟩ := I.own i _ hs
 obtain ⟨h1,h2,h3⟩ := st.sets c a hc
 have At : InstAt s.heap x (instObj (f.p.ca c) (α i)) (f.p.ca c) (some (dictOf es n)) := ⟨I.sub _ _ hx,rfl,rfl,ha⟩
 have g := en.getL (a := a)
 have some' : (getL a es).isSome = true := by
  cases q : field fs a with
  | none => rw [g.2.1 q]; rfl
  | some y => obtain ⟨u,e,_⟩ := g.1 q; rw [e]; rfl
 have e := en.length
 refine set_raw I.kinH At rfl ha h1 h2 h3 (st.attrs c a hc).2.1 some' (Nat.le_trans putL_len (by omega)) fun h' hd' sb => ?_
 refine h h' _ (I.atOwn hs rfl sb rfl (fun u k => k) ⟨⟨_,_,hd',?_,Nat.le_trans putL_len (by omega)⟩,ow⟩)
 rw [← st.hP]
 exact en.put r
variable {ε : Type} {R : Ob->Flow->ε->Prop} {Q₀ : Flow->Shared->Prop}
theorem QX.toQQ {β γ : Type} {R : Ob->β->γ->Prop} {Q : β->Shared->Prop} {r : γ × Sto} (x : QX f R φ α s Q d r) : QQ f R φ α s Q d r := fun v h' tk φ' e i rr => x v h' tk φ' α rfl e i rr
theorem EX.toEE {told : PV} (x : EX f φ α s E d told σ) : EE f φ α s E d told σ := fun v h' tk φ' e i X => x v h' tk φ' α rfl e i X
theorem asgList_snd (X : ExOk f A C P n) {y : Str} {D : Addr} {zs : List PV} {Q : Flow->Shared->Prop} {Q' : Unit->Shared->Prop} (I : f.I φ α d σ s.heap) (r : Rep f.p φ (.ref D) (.list zs)) (H : T.Sat d (putN f.env.scope σ y (.fz (.list zs)) >>= fun σ => pure (Fl.next,σ)) (QQ f (FlowR f.p) φ α s Q) (EE f φ α s E))
  (k : ∀ h' tk,f.I φ α d (putS σ (idx f.env.scope.names y) (.fz (.list zs))) h'->Heap.SameBut f.env.locals s.heap h'->(∀ h'' ,f.I φ α d (putS σ (idx f.env.scope.names y) (.fz (.list zs))) h''->Q .next { s with heap := h'',toks := tk })->Q' () { s with heap := h',toks := tk }) : wpAny (model f.prog f.w) A (storeName f.env y (.ref D)) Q' E s := by
 refine T.Sat.chkE H.bind fun hx H₁ => ?_
 refine store_snd X.ok (sl := .fz (.list zs)) (a := α (idx f.env.scope.names y)) (eq_of_beq ((Bool.and_eq_true_iff ..).mp hx).1) I r (fun q => by cases q) fun h' tk I' hs => ?_
 rw [upd_same] at I'
 exact k h' tk I' hs fun h'' I'' => H₁ _ h'' tk φ (Ext.refl ..) I'' .next
theorem sx_AssignComp (X : ExOk f A C P n) {y : Str} {py pos cpos : Pos} {elt : Expr} {gs : List Comprehension} {g : Expr × Expr × List Expr} {cs : Scope} (hg : genOf gs = some g) :
  f.X φ₀ (FlowR f.p) A (exec (.Assign [.Name y py] (.ListComp elt gs cs cpos) pos) f.env) (fun σ => asgName C P f.env.scope σ y (.ListComp elt gs cs cpos) (some (elt,g,cs))) := by
 intro φ α d σ s Q E le I H
 cases genOf_some hg
 obtain ⟨t,it,ifs⟩ := g
 have H : T.Sat d (evComp P f.env.scope σ elt t it ifs cs >>= fun z => putN f.env.scope z.2 y (.fz (.list z.1)) >>= fun σ => pure (Fl.next,σ)) (QQ f (FlowR f.p) φ α s Q) (EE f φ α s E) := T.Sat.mono H (fun _ _ q => QX.toQQ q) fun _ _ _ q => EX.toEE q
 obtain ⟨x,np,e⟩ := evComp_name H
 cases e
 obtain ⟨b,hsw⟩ : ∃ b,swapsWith (.ListComp elt [⟨.Name x np,it,ifs,0⟩] cs cpos) (some (.Name y py)) pos.line f.env = pure b := ⟨_,rfl⟩
 cases b with
 | true =>
  rw [exec_Assign_Name_used _ _ _ _ hsw]
  refine wpAny_bind (wpAny_standAt (wpAny_bind ?_))
  show wpAny _ A (do let _ ← comprehension (.ListComp elt [⟨.Name x np,it,ifs,0⟩] cs cpos) cs f.env _ (newList []) false (eval it f.env) (some (assign (.Name y py) f.env))) _ _ s
  refine wpAny_bind (wpAny_mono (comp_snd (use := some (assign (.Name y py) f.env)) (Q := fun _ s' => Q .next s') X.hO X.ok X.st X.df X.hA I H fun φ₁ D L zs σ₁ s₁ d₁ le₁ I₁ r u ⟨m,hm⟩ H₁ => ?_) (fun _ s' hq => wpAny_pure (wpAny_pure hq)) fun _ _ e => e)
  refine wpAny_assign_Name (asgList_snd X I₁ r H₁ fun h' tk I' hs k => ⟨m,hm.sameBut hs u.L,fun h'' hs'' => k h'' ?_⟩)
  refine I'.aside (wr := [L]) (fun b hb => ?_) fun b o hb q => (hs''.2 b fun z => hb (z ▸ .head _)).trans q
  rw [List.mem_singleton.mp hb]
  exact ⟨u.φ,u.g,u.e,u.fs,u.L,u.dk,u.dc,fun i sl q1 q2 z => (getS_put q1).elim (fun y => by rw [y.2] at q2; cases q2) fun y => u.own i sl y.2 q2 z,let ⟨o,q⟩ := u.there; ⟨o,(hs.2 _ u.L).trans q⟩⟩
 | false =>
  refine wpAny_Assign_Name ?_ hsw
  rw [eval_ListComp]
  refine comp_snd (R := FlowR f.p) (Q₀ := Q) (use := none) X.hO X.ok X.st X.df X.hA I H fun φ₁ D L zs σ₁ s₁ d₁ le₁ I₁ r u ⟨m,hm⟩ H₁ => ⟨m,hm,fun h' hs => ?_⟩
  have I₂ := I₁.aside (wr := [L]) (h' := h') (fun b hb => by rw [List.mem_singleton.mp hb]; exact u) fun b o hb q => (hs.2 b fun z => hb (z ▸ .head _)).trans q
  exact asgList_snd X (s := { s₁ with heap := h' }) I₂ r (T.Sat.mono H₁ (fun _ _ q => q.step (h := h') (tk := s₁.toks) (Ext.refl ..)) (fun _ _ _ q => q.step (h := h') (tk := s₁.toks) (Ext.refl ..))) fun h'' tk I' hs k => k h'' I'
end
section
variable {f : Fm} {φ φ' φ₁ φ₀ : Ob} {α α' α₁ : Nat->Addr} {d d' d₁ : Nat} {σ σ' σ₁ : Sto} {h h' : Heap} {s : Shared} {A : Around} {C : Cx} {P : Lv} {n : Nat} {E : Value->Shared->Prop} {p : Pl}
theorem swapped_not {ts : List Expr} {k} {p : Pos} {e : Expr} {env : Env} (h : tupOf e = none) : swappedStores [.Tuple ts k p] e env = pure none := by
 cases e <;> first | rfl | exact noOpt h.symm
theorem swaps_tuple {ts : List Expr} {k} {p : Pos} {e : Expr} {l : Nat} {env : Env} : swapsWithSole [.Tuple ts k p] e l env = pure false := by cases e <;> rfl
theorem swaps_attr {o : Expr} {a : Str} {p : Pos} {e : Expr} {l : Nat} {env : Env} : swapsWith e (some (.Attribute o a p)) l env = pure false := by cases e <;> rfl
theorem swaps_sub {o i : Expr} {p : Pos} {e : Expr} {l : Nat} {env : Env} : swapsWith e (some (.Subscript o i p)) l env = pure false := by cases e <;> rfl
theorem sx_Unpack (X : ExOk f A C P n) {ts : List Expr} {e : Expr} {k} {p pos : Pos} (he : tupOf e = none) : f.X φ₀ (FlowR f.p) A (exec (.Assign [.Tuple ts k p] e pos) f.env) (fun σ => asgTuple C P f.env.scope σ (.Tuple ts k p) ts e none) := by
 intro φ α d σ s Q E le I H
 refine Assign_Tuple ((ex_E X φ e).cpsX (Le.refl _) I H fun φ₁ v x σ₁ s₁ d₁ le₁ I₁ r H₁ => ?_) swaps_tuple (swapped_not he)
 exact bindTuple_snd X.ok X.hA.handled I₁ r (T.Sat.bind H₁) fun h' tk σ' I' H₂ => H₂ .next h' tk φ₁ α rfl (Ext.refl ..) I' .next
theorem sx_SetAttr (X : ExOk f A C P n) {o e : Expr} {a : Str} {p pos : Pos} : f.X φ₀ (FlowR f.p) A (exec (.Assign [.Attribute o a p] e pos) f.env) (fun σ => asgAttr C P f.env.scope σ o a e) := by
 intro φ α d σ s Q E le I H
 refine plainObj_wpAny_Assign_Attribute ((ex_E X φ e).cpsX (Le.refl _) I H fun φ₁ v x σ₁ s₁ d₁ le₁ I₁ r H₁ => ?_) swaps_attr
 obtain ⟨⟨i,sl⟩,ho,H₁⟩ := T.Sat.opt H₁
 refine T.Sat.oiVE H₁ fun c fs e' H₁ => ?_
 cases (show sl = .oi c fs from e')
 refine T.Sat.chkE H₁ fun hc H₁ => ?_
 refine and2 hc fun hc hl => ?_
 refine ownAt_someE ho fun y np eq1 hk eq2 hs _ => ?_
 subst eq1
 subst eq2
 refine name_local X.ok I₁ hk hs fun u hu => ?_
 obtain ⟨z,rfl,hz⟩ := hu
 exact setOwn_snd X.st hc I₁ hs (Nat.le_of_ble_eq_true hl) hz r fun h' tk I' => H₁ .next h' tk φ₁ α rfl (Ext.refl ..) I' .next
theorem sx_Aug (X : ExOk f A C P n) {o e : Expr} {a : Str} {p pos : Pos} : f.X φ₀ (FlowR f.p) A (exec (.AugAssign (.Attribute o a p) .Add e pos) f.env) (fun σ => augT C P f.env.scope σ o a e) := by
 intro φ α d σ s Q E le I H
 obtain ⟨⟨i,sl⟩,ho,H⟩ := T.Sat.opt H
 refine T.Sat.oiVE H fun c fs e' H => ?_
 cases (show sl = .oi c fs from e')
 refine T.Sat.chkE H fun hc H => ?_
 refine T.Sat.optE H fun old hf H => ?_
 refine ownAt_someE ho fun y np eq1 hk eq2 hs _ => ?_
 subst eq1
 subst eq2
 refine wpAny_AugAssign_AttributeAny (name_local X.ok I hk hs fun u hu => ?_)
 obtain ⟨z,rfl,hz⟩ := hu
 obtain ⟨es,m,At,en,_⟩ := own_inst I hs hz
 obtain ⟨vo,hl,ro⟩ := en.getL.1 hf
 obtain ⟨st1,st2,st3⟩ := X.st.attrs c a hc
 refine get_value I.kinH At (plainGet_of st1).1 (findObj_own st2 st3 rfl hl) ro.handed ?_
 refine (ex_E X φ e).cpsX (s := { s with heap := s.heap,toks := _ }) (Le.refl _) I (T.Sat.mono H (fun _ _ q => QX.step q rfl (Ext.refl ..)) fun _ _ _ q => EX.step q rfl (Ext.refl ..)) fun φ₁ v x σ₁ s₁ d₁ le₁ I₁ r H₁ => ?_
 refine T.Sat.optE H₁ fun sl hs₁ H₁ => ?_
 refine T.Sat.oiVE H₁ fun c₁ fs₁ eq1 H₁ => ?_
 subst eq1
 refine int_ofE ro H₁ fun x₁ t1 eq1 H₁ => ?_
 subst eq1
 refine int_ofE r H₁ fun y₁ t2 eq1 H₁ => ?_
 subst eq1
 refine T.Sat.chkE H₁ fun hb H₂ => ?_
 refine and2 hb fun hcc hn => ?_
 cases Nat.eq_of_beq_eq_true hcc
 exact iadd_int (setOwn_snd (s := { s₁ with toks := _ }) X.st hc I₁ hs₁ (Nat.le_of_ble_eq_true hn) (le₁ _ _ hz) (.int _ _) fun h' tk I' => H₂ .next h' tk φ₁ α rfl (Ext.refl ..) I' .next)
theorem isTrueV_some {x : PV} (h : isTrueV x = true) : x = .bool true := by
 cases x with
 | bool b => cases b with
  | true => rfl
  | false => exact noB h
 | _ => exact noB h
theorem keys_len {ks : List Byt} {b : Byt} (h : ks.length ≤ 500) : (if ks.any (bytEq · b) then ks else ks ++ [b]).length ≤ 1000 := by
 split
 ·exact Nat.le_trans h (by decide)
 ·rw [List.length_append]; exact Nat.le_trans (Nat.succ_le_succ h) (by decide)
theorem sx_SetItem (X : ExOk f A C P n) {o i e : Expr} {p pos : Pos} : f.X φ₀ (FlowR f.p) A (exec (.Assign [.Subscript o i p] e pos) f.env) (fun σ => asgItem P f.env.scope σ o i e) := by
 intro φ α d σ s Q E le I H
 refine wpAny_Assign_Subscript ((ex_E X φ e).cpsX (Le.refl _) I H fun φ₁ v x σ₁ s₁ d₁ le₁ I₁ r H₁ => ?_) swaps_sub
 obtain ⟨⟨j,sl⟩,ho,H₁⟩ := T.Sat.opt H₁
 refine T.Sat.odVE H₁ fun ks₀ e' H₁ => ?_
 cases (show sl = .od ks₀ from e')
 refine T.Sat.chkE H₁ fun hv H₁ => ?_
 refine ownAt_someE ho fun y np eq1 hk eq2 hs _ => ?_
 subst eq1
 subst eq2
 refine name_local X.ok I₁ hk hs fun u hu => ?_
 cases (show u = .ref _ from hu)
 refine (ex_E X φ₁ i).cpsX (Le.refl _) I₁ H₁ fun φ₂ vk xk σ₂ s₂ d₂ le₂ I₂ rk H₂ => ?_
 refine T.Sat.optE H₂ fun sl hs₂ H₂ => ?_
 refine T.Sat.odVE H₂ fun ks eq1 H₂ => ?_
 subst eq1
 refine byt_ofE rk H₂ fun kb t eq1 _ H₂ => ?_
 subst eq1
 refine T.Sat.chkE H₂ fun hn H₂ => ?_
 have hn := Nat.le_of_ble_eq_true hn
 have hv : x = .bool true := isTrueV_some hv
 subst hv
 cases r.boolOf
 obtain ⟨⟨es,m,ha,ka,hz,he⟩,ow⟩ := I₂.own _ _ hs₂
 refine wpAny_setItem_pairs (knd := bytesKind f.prog f.w) (k := kb.toList) (kvs := ks.map fun k => (k.toList,Value.bool true)) (by simp [bytesKind,isBytes]) (ka.dictOf X.st.hP.symm ha) (fun h' hd sb => ?_) (by rw [List.length_map]; exact Nat.le_trans hn (by rw [sizeLine_eq]; decide))
 rw [keys_stored] at hd
 obtain ⟨es',m',ha',ka',hl'⟩ := keys_back X.st.hP.symm hd
 exact H₂ .next h' _ φ₂ α rfl (Ext.refl ..) (I₂.atOwn hs₂ rfl sb rfl (fun u k => k) ⟨⟨es',m',ha',ka',hl' ▸ keys_len hn,he⟩,ow⟩) .next
end
section
variable {f : Fm} {φ φ' φ₁ φ₀ : Ob} {α α' α₁ : Nat->Addr} {d d' d₁ : Nat} {σ σ' σ₁ : Sto} {h h' : Heap} {s : Shared} {A : Around} {C : Cx} {P : Lv} {n : Nat} {E : Value->Shared->Prop} {p : Pl}
theorem PlainList.typeIs {l : Addr} {xs : Array Value} (h : s.heap.PlainList l xs) : s.TypeIs (.ref l) "list" := let ⟨_,q⟩ := h; ⟨_,q,rfl⟩
theorem single_some {γ : Type} {l : List γ} {a : γ} (h : single l = some a) : l = [a] := by
 match l,h with
 | [b],h => cases h; rfl
theorem appOf_some {g : Expr} {args : List Expr} {p : Pos} {q : Expr × Str × Expr} (h : appOf g args p = some q) : ∃ apos,g = .Attribute q.1 q.2.1 apos ∧ args = [q.2.2] ∧ isName q.1 = true ∧ methOk apos p args = true ∧ (seq q.2.1 "append" || seq q.2.1 "extend") = true := by
 cases g with
 | Attribute o m apos =>
  have h : (match single args with
   | some e => (match isName o with
    | true => (match methOk apos p args && (seq m "append" || seq m "extend") with
     | true => some (o,m,e)
     | false => none)
    | false => none)
   | none => none) = some q := h
  cases h1 : single args with
  | none => rw [h1] at h; exact noOpt h
  | some e =>
   rw [h1] at h
   cases h2 : isName o with
   | false => rw [h2] at h; exact noOpt h
   | true =>
    rw [h2] at h
    cases h3 : methOk apos p args && (seq m "append" || seq m "extend") with
    | false => rw [h3] at h; exact noOpt h
    | true =>
     rw [h3] at h
     cases h
     refine and2 h3 fun a b => ?_
     exact ⟨apos,rfl,single_some h1,h2,a,b⟩
 | _ => exact noOpt h
theorem seqT {s : Shared} {a : Addr} {o : Obj} {T : String} (h : s.heap.get? a = some o) (e : o.cls = .type T) : s.TypeIs (.ref a) T := ⟨_,h,e⟩
theorem append_snd {i : Nat} {l : List PV} {v : Value} {x : PV} {Q : Flow->Shared->Prop} (I : f.I φ α d σ s.heap) (hs : getS σ i = some (.ol l)) (r : Rep f.p φ v x) (H : T.Sat d (T.need (Nat.blt l.length 1000) (.ret (Fl.next,putS σ i (.ol (l ++ [x]))))) (QX f (FlowR f.p) φ α s Q) (EX f φ α s E)) :
  wpAny (model f.prog f.w) A (call (.builtin "list.append") [.ref (α i),v]) (fun v s => match v with | .ref _ => False | _ => Q .next s) E s := by
 obtain ⟨hn,H⟩ := H
 replace hn : l.length < 1000 := Nat.le_of_ble_eq_true hn
 obtain ⟨⟨vs,hpl,hz,hr,he⟩,ow⟩ := I.own i _ hs
 rw [← hr.length] at hn
 refine wpAny_list_append_plain hpl (fun h' hp' sb => ?_) (Nat.le_trans (show vs.toArray.size ≤ 1000 from Nat.le_of_lt hn) (by rw [sizeLine_eq]; decide))
 exact H .next h' s.toks φ α rfl (Ext.refl ..) (I.atOwn hs rfl sb rfl (fun u k => k) ⟨⟨vs ++ [v],by rw [← List.push_toArray]; exact hp',by rw [List.length_append]; exact Nat.le_trans (Nat.succ_le_of_lt hn) (by decide),hr.snoc r,he⟩,ow⟩) .next
theorem extend_snd {i : Nat} {l q : List PV} {v : Value} {Q : Flow->Shared->Prop} (I : f.I φ α d σ s.heap) (hs : getS σ i = some (.ol l)) (r : Rep f.p φ v (.list q)) (H : T.Sat d (T.need (Nat.ble (l.length + q.length) 1000) (.ret (Fl.next,putS σ i (.ol (l ++ q))))) (QX f (FlowR f.p) φ α s Q) (EX f φ α s E)) :
  wpAny (model f.prog f.w) A (call (.builtin "list.extend") [.ref (α i),v]) (fun v s => match v with | .ref _ => False | _ => Q .next s) E s := by
 obtain ⟨hn,H⟩ := H
 obtain ⟨⟨vs,⟨n₁,hg₁⟩,hz,hr,he⟩,ow⟩ := I.own i _ hs
 obtain ⟨b,us,n₂,rfl,q1,q2,q3⟩ := r.inv
 have hlim : vs.length + us.length ≤ 1000 := hr.length ▸ q3.length ▸ Nat.le_of_ble_eq_true hn
 have sz : vs.toArray.size + us.toArray.size ≤ sizeLine := Nat.le_trans hlim (by rw [sizeLine_eq]; decide)
 have z1000 : (1000 : Nat) ≤ sizeLine := by rw [sizeLine_eq]; decide
 have tl : Builtin.List.listTooLong (vs.toArray.size + us.toArray.size) = false := decide_eq_false (Nat.not_lt.mpr sz)
 have hv : vs.length ≤ 1000 := Nat.le_trans (Nat.le_add_right ..) hlim
 have hu : us.length ≤ 1000 := Nat.le_trans (Nat.le_add_left ..) hlim
 refine call_meets PySem.F.slot_list_extend ⟨_,hg₁,rfl⟩ PySem.F.entry_list_extend (PySem.F.args_list_extend_2 _ _) (AutoSeq1.list_extend_list_list_0 _ vs.toArray n₁ b us.toArray n₂ (by rw [tl,Bool.and_false]; decide) (by rw [List.size_toArray]; omega) (by simp only [List.size_toArray]; omega)) ⟨hg₁,I.sub _ _ q1,?_⟩
 obtain ⟨n',e3⟩ : ∃ n',Obj.mapSeq (fun x => x ++ us.toArray) ({ cls := .type "list",dict := none,data := .seq vs.toArray n₁,slots := #[] } : Obj) = { cls := .type "list",data := .seq (vs ++ us).toArray n' } :=
  ⟨if (vs.toArray ++ us.toArray).size == vs.toArray.size then n₁ else n₁ + 1,by rw [show (vs ++ us).toArray = vs.toArray ++ us.toArray from (List.append_toArray ..).symm]; rfl⟩
 have hg := Heap.get?_update_self (Obj.mapSeq fun x => x ++ us.toArray) hg₁ (by rw [e3]; rfl)
 rw [e3] at hg
 exact H .next _ s.toks φ α rfl (Ext.refl ..) (I.atOwn hs rfl (Heap.SameBut.update ..) rfl (fun u k => k) ⟨⟨vs ++ us,⟨n',hg⟩,by rw [List.length_append]; exact Nat.le_trans hlim (by decide),hr.append q3,he⟩,ow⟩) .next
theorem sx_Append (X : ExOk f A C P n) {q : Expr × Str × Expr} {g : Expr} {args : List Expr} {cpos pos : Pos} (hq : appOf g args cpos = some q) : f.X φ₀ (FlowR f.p) A (exec (.Expr (.Call g args [] cpos) pos) f.env) (fun σ => appT P f.env.scope σ q.1 q.2.1 q.2.2) := by
 intro φ α d σ s Q E le I H
 obtain ⟨o,m,e⟩ := q
 obtain ⟨apos,rfl,rfl,hn,hm,hae⟩ := appOf_some hq
 obtain ⟨⟨i,sl⟩,ho,H⟩ := T.Sat.opt H
 refine T.Sat.olVE H fun l₀ e' H => ?_
 cases (show sl = .ol l₀ from e')
 refine ownAt_someE ho fun y np eq1 hk eq2 hs _ => ?_
 subst eq1
 subst eq2
 have hp := (methOk_some hm).2.1
 refine wpAny_Expr (methodCall_gen rfl hm (name_local X.ok I hk hs fun v hv => fun pl => ?_)) (by unfold interactive; rw [X.ok.kind]; rfl)
 cases (show v = .ref _ from hv)
 obtain ⟨⟨vs,⟨no,hpl⟩,_⟩,_⟩ := I.own _ _ hs
 have hd : ∀ a,Value.ref (α (idx f.env.scope.names y)) = .ref a->∃ o,s.heap.get? a = some o ∧ o.dict = none := fun a e => by cases e; exact ⟨_,hpl,rfl⟩
 have arg : ∀ {id : String} {Q' : Value->Shared->Prop},(∀ φ₁ v x σ₁ s₁ d₁ l,f.I φ₁ α d₁ σ₁ s₁.heap->Rep f.p φ₁ v x->getS σ₁ (idx f.env.scope.names y) = some (.ol l)->T.Sat d₁ (growT σ₁ (idx f.env.scope.names y) l m x) (QX f (FlowR f.p) φ₁ α s₁ Q) (EX f φ₁ α s₁ E)->wpAny (model f.prog f.w) A (call (.builtin id) [.ref (α (idx f.env.scope.names y)),v]) Q' E s₁) ->
   wpAny (model f.prog f.w) A (callWith cpos (.builtin id) [.ref (α (idx f.env.scope.names y))] (backTo cpos (starEach [e] f.env)) []) Q' E s := fun {id Q'} k => by
  refine callWith_any (K := f.K) (first := [.ref (α (idx f.env.scope.names y))]) (.bi id) hp ?_
  rw [star_plain (all_cons hp).1]
  refine Calls.spliced_cons ((ex_E X φ e).cpsX (Le.refl _) I H fun φ₁ v x σ₁ s₁ d₁ le₁ I₁ r H₁ => Calls.spliced_nil ⟨I₁.kinH,?_⟩)
  refine T.Sat.optE H₁ fun sl hs₁ H₁ => ?_
  refine T.Sat.olVE H₁ fun l eq1 H₁ => ?_
  subst eq1
  exact k φ₁ v x σ₁ s₁ d₁ l I₁ r hs₁ H₁
 cases hap : seq m "append" with
 | true =>
  have arg' : ∀ {Q' : Value->Shared->Prop},_->wpAny (model f.prog f.w) A (callWith cpos (.builtin "list.append") [.ref (α (idx f.env.scope.names y))] (backTo cpos (starEach [e] f.env)) []) Q' E s := arg
  rw [seq_iff.mp hap]
  exact getMethod_builtin (seqT hpl rfl) PySem.F.plainAttrs_list PySem.F.slot_list_append PySem.F.type_list_append hd (arg' fun φ₁ v x σ₁ s₁ d₁ l I₁ r hs₁ H₁ => append_snd I₁ hs₁ r (by unfold growT at H₁; rw [hap] at H₁; exact H₁))
 | false =>
  rw [hap] at hae
  have hx : seq m "extend" = true := hae
  have arg' : ∀ {Q' : Value->Shared->Prop},_->wpAny (model f.prog f.w) A (callWith cpos (.builtin "list.extend") [.ref (α (idx f.env.scope.names y))] (backTo cpos (starEach [e] f.env)) []) Q' E s := arg
  rw [seq_iff.mp hx]
  refine getMethod_builtin (seqT hpl rfl) PySem.F.plainAttrs_list PySem.F.slot_list_extend PySem.F.type_list_extend hd (arg' fun φ₁ v x σ₁ s₁ d₁ l I₁ r hs₁ H₁ => ?_)
  unfold growT at H₁
  rw [hap,hx] at H₁
  refine T.Sat.listVE H₁ fun q eq1 H₂ => ?_
  subst eq1
  exact extend_snd I₁ hs₁ r H₂
end
section
variable {f : Fm} {φ φ' φ₁ φ₀ : Ob} {α α' α₁ : Nat->Addr} {d d' d₁ : Nat} {σ σ' σ₁ : Sto} {h h' : Heap} {s : Shared} {A : Around} {C : Cx} {P : Lv} {n : Nat} {E : Value->Shared->Prop} {p : Pl}
variable {γ : Type} {R : Ob->Value->γ->Prop}
theorem sx_ForIter (X : ExOk f A C P n) {t : Expr} {pos : Pos} {e : Expr} {body : List Stmt} {t₂ : List PV × Sto->T (Fl × Sto)}
  (go : ∀ {φ₁ xs σ₁ s₂ d₁ I₀ fp wr Pt St Q E},f.I φ₁ α d₁ σ₁ s₂.heap->Iter f A φ₁ α σ₁ s₂.heap I₀ xs fp wr Pt St->T.Sat d₁ (t₂ (xs,σ₁)) (QX f (FlowR f.p) φ₁ α s₂ Q) (EX f φ₁ α s₂ E)->codeAny (model f.prog f.w) A (.forLoop t (.ref I₀) body [] f.env) (fun r s' => match r with | .ok fl => Q fl s' | .error e => cameBackBy (model f.prog f.w) A f.env E e s') s₂)
  {Q : Flow->Shared->Prop} (I : f.I φ α d σ s.heap) (H : T.Sat d (iterOf P f.env.scope σ e >>= t₂) (QX f (FlowR f.p) φ α s Q) (EX f φ α s E)) : wpAny (model f.prog f.w) A (exec (.For t e body [] pos) f.env) Q E s := by
 have key := iter_snd (K := fun it s₂ => codeAny (model f.prog f.w) A (.forLoop t it body [] f.env) (fun r s' => match r with | .ok fl => Q fl s' | .error e => cameBackBy (model f.prog f.w) A f.env E e s') s₂) posts_QX (ex_E X) X.ok X.st X.df X.hA I H fun φ₁ xs σ₁ s₂ d₁ I₀ fp wr Pt St le₁ I₁ iter H₁ => go I₁ iter H₁
 exact wpAny_For key.2 fun _ => folded_plain key.1
theorem sx_ForName (X : ExOk f A C P n) {x : Str} {np pos : Pos} {e : Expr} {body : List Stmt} : f.X φ₀ (FlowR f.p) A (exec (.For (.Name x np) e body [] pos) f.env) (fun σ => forT P f.env.scope σ (.Name x np) e body) :=
 fun φ α d σ s Q E le I H => sx_ForIter X (fun I₁ iter H₁ => for_snd X.hX X.ok I₁ iter (T.sat_noExc.mp H₁)) I H
theorem sx_ForNil (X : ExOk f A C P n) {t : Expr} {pos : Pos} {e : Expr} {body : List Stmt} : f.X φ₀ (FlowR f.p) A (exec (.For t e body [] pos) f.env) (fun σ => enumT P f.env.scope σ t e body none) :=
 fun φ α d σ s Q E le I H => sx_ForIter X (fun {φ₁ xs σ₁ s₂ d₁ I₀ fp wr Pt St Q E} I₁ iter H₁ => by
  refine T.Sat.chkE H₁ fun he H₂ => ?_
  cases List.isEmpty_iff.mp he
  refine for_turns (fun n s' => s' = s₂) (fun n s' e => ?_) 0 rfl
  subst e
  exact iter.W.done s' _ _ iter.st fun h' tk keep => wpAny_execs_nil (H₂ .next h' tk φ₁ α rfl (Ext.refl ..) (I₁.aside iter.un keep) .next)) I H
end
section
variable {f : Fm} {φ φ' φ₁ φ₀ : Ob} {α α' α₁ : Nat->Addr} {d d' d₁ : Nat} {σ σ' σ₁ : Sto} {h h' : Heap} {s : Shared} {A : Around} {C : Cx} {P : Lv} {n : Nat} {E : Value->Shared->Prop} {p : Pl}
noncomputable def enumRows (l : List PV) : List PV := (l.zipIdx).map fun p => .tup [.int p.2,p.1]
theorem enumRows_len (l : List PV) : (enumRows l).length = l.length := (List.length_map ..).trans List.length_zipIdx
theorem enumRows_get {l : List PV} {j : Nat} (h : j < (enumRows l).length) : ∃ x,l[j]? = some x ∧ (enumRows l)[j] = .tup [.int j,x] := by
 rw [enumRows_len] at h
 exact ⟨l[j],List.getElem?_eq_getElem h,by simp [enumRows]⟩
noncomputable abbrev EnumSt (e it a : Addr) (vs : Array Value) (j : Nat) (h : Heap) : Prop := (∃ old,IsEnum h e it (j : Int) old) ∧ h.IsListIter it a j ∧ h.IsList a vs
theorem FI.freshU (I : f.I φ α d σ h) {b : Addr} (hn : h.get? b = none) (ho : ∃ o,h'.get? b = some o) : Untracked f φ α σ h' b :=
 let w := I_fresh I hn (φ' := φ) (Ob.keepNone (fun o q => I.sub _ o q) hn)
 ⟨w.φ,w.g,I.live _ hn,w.fs,w.L,w.dk,w.dc,fun i sl q1 q2 z => ((I.own i sl q1).thing q2).nn (z ▸ hn),ho⟩
theorem FI.newBeside (I : f.I φ α d σ h) {wr : List Addr} {T : Addr} {o : Obj} (un : ∀ b ∈ wr,Untracked f φ α σ h b) (keep : ∀ b o,b ∉ wr->h.get? b = some o->h'.get? b = some o) (nw : T ∉ wr) (hn : h.get? T = none) (ho : h'.get? T = some o) (al : ∀ b ∈ wr,∃ o,h'.get? b = some o) :
  f.I (put φ T o) α d σ h' ∧ Ext f.e φ (put φ T o) ∧ ∀ b ∈ wr,Untracked f (put φ T o) α σ h' b := by
 have IH : f.I φ α d σ (hideAll h wr) := I.aside un fun b o hb q => hideAll_get _ q hb
 obtain ⟨I₁,ex⟩ := FI.new (h' := h') (D := T) (o := o) IH (fun b o q => keep b o (fun z => by rw [hideAll_none _ z] at q; cases q) (of_hideAll _ q)) ho (Ob.keepNone (b := h) (fun o q => of_hideAll _ q) hn)
 exact ⟨I₁,ex,fun b hb => let w := un b hb; ⟨(put_other (show b ≠ T from fun z => nw (z ▸ hb))).trans w.φ,w.g,w.e,w.fs,w.L,w.dk,w.dc,w.own,al b hb⟩⟩
noncomputable def EnumInv (f : Fm) (L : Sto->List PV->T (Fl × Sto)) (φ : Ob) (xs : List PV) (fp wr : List Addr) (St : Nat->Heap->Prop) (Q : Flow->Shared->Prop) (n : Nat) (s' : Shared) : Prop :=
 ∀ Z : Prop,(∀ φ' α' d' σ' j,n = xs.length - j->Le φ φ'->IterAt f φ' α' d' σ' s'.heap xs fp wr (fun _ _ => False) St j->T.Sat d' (L σ' (xs.drop j)) (QX f (FlowR f.p) φ' α' s' Q) (fun _ _ _ => False)->Z)->Z
theorem forT_snd (hX : ∀ f',f.anew f'->∀ φ₀ x,f'.X φ₀ (FlowR f'.p) A (exec x f'.env) (fun σ => P.ex f'.env.scope σ x)) (ok : EnvOk f.env) (hh : A.handled = none) {ts : List Expr} {k : Nat} {tp : Pos} {body : List Stmt} {l : List PV} {vs : List Value} {e it a : Addr} {Q : Flow->Shared->Prop}
  (hei : e ≠ it) (hae : a ≠ e) (hai : a ≠ it) (I : f.I φ α d σ s.heap) (st₀ : EnumSt e it a vs.toArray 0 s.heap) (ha : φ a ≠ none) (rr : Reps f.p φ vs l) (un : ∀ b ∈ [e,it],Untracked f φ α σ s.heap b)
  (H : T.Sat d (forLoop P f.env.scope (.Tuple ts k tp) body σ (enumRows l)) (QX f (FlowR f.p) φ α s Q) (fun _ _ _ => False)) :
  codeAny (model f.prog f.w) A (.forLoop (.Tuple ts k tp) (.ref e) body [] f.env) (fun r s' => match r with | .ok fl => Q fl s' | .error e => cameBackBy (model f.prog f.w) A f.env E e s') s := by
 have W := WalksT.enumerate (prog := f.prog) (w := f.w) hh e it a hei hae hai vs.toArray
 rw [show vs.toArray.size = (enumRows l).length by rw [List.size_toArray,rr.length,enumRows_len]] at W
 have hfp : ∀ b ∈ [e,it,a],b ∈ [e,it] ∨ φ b ≠ none := fun b hb => by
  rcases List.mem_append.mp (show b ∈ [e,it] ++ [a] from hb) with z | z
  ·exact .inl z
  ·rw [List.mem_singleton.mp z]; exact .inr ha
 refine for_turns (EnumInv f (forLoop P f.env.scope (.Tuple ts k tp) body) φ (enumRows l) [e,it,a] [e,it] (EnumSt e it a vs.toArray) Q) (fun n s' hI => hI _ fun φ' α' d' σ' j en le X H' => ?_) (enumRows l).length fun _ k => k φ α d σ 0 rfl (Le.refl _) ⟨Nat.zero_le _,I,st₀,fun _ _ _ h => h.elim,un,hfp⟩ H
 subst en
 by_cases hlt : j < (enumRows l).length
 ·refine W.item j s' _ _ hlt X.st fun Tt vals h₁ tk hP hT hTup mid keep => W.go ts k tp j Tt _ _ _ mid fun h₂ st₂ keep₂ => ?_
  rw [drop_at hlt] at H'
  obtain ⟨x,hx,ex⟩ := enumRows_get hlt
  rw [ex] at H'
  obtain ⟨t,v,hv,rfl⟩ := hP
  obtain ⟨u,hu,ru⟩ := rr.get hx
  cases ((List.getElem?_toArray ..).symm.trans hv).symm.trans hu
  have Twr : Tt ∉ [e,it] := W.apart _ _ _ mid
  obtain ⟨oT,hoT,hcT,nT,hdT⟩ := hTup
  have there₂ : ∀ b ∈ [e,it],∃ o,h₂.get? b = some o := fun b hb => by
   rcases List.mem_cons.mp hb with rfl | hb
   ·obtain ⟨⟨_,q⟩,_⟩ := st₂; exact ⟨_,q⟩
   ·rw [List.mem_singleton.mp hb]; obtain ⟨_,⟨o,q,_⟩,_⟩ := st₂; exact ⟨o,q⟩
  obtain ⟨I₁,exT,un₁⟩ := FI.newBeside (h' := h₂) X.I X.un (fun b o nb q => keep₂ b o nb (keep b o nb q)) Twr (get_ge hT) (keep₂ Tt oT Twr hoT) there₂
  have rep : Rep f.p (put φ' Tt oT) (.ref Tt) (.tup [.int j,x]) := .tup (vs := [.int j t,v]) (put_self ..) hcT hdT (show 2 ≤ lineB by decide) (.cons (.int _ _) (.cons (ru.mono (le.trans exT.1)) .nil))
  refine bindTuple_snd (f := f.now h₂ α' σ') (s := { s' with heap := h₂,toks := tk }) ok hh I₁.toNow rep (T.Sat.bind H') fun h₃ tk₂ σ₂ I₂ H₂ => ?_
  exact turn_body (s := s') hX I₁ un₁ (fun b hb => (X.fp b hb).elim .inl fun z => .inr (exT.1.some z)) I₂ (T.Sat.mono H₂ (fun _ _ q => q.step rfl exT) fun _ _ _ q => q) (fun φ₃ α₃ d₃ σ₃ h₄ tk₃ ex₃ IB un₃ kept H₃ => ⟨(enumRows l).length - (j + 1),Nat.sub_lt_sub_left hlt (Nat.lt_succ_self j),fun _ k => k φ₃ α₃ d₃ σ₃ (j + 1) rfl (le.trans (exT.trans ex₃).1) (X.next (h₁ := h₁) hlt IB (exT.trans ex₃).1 (W.frame _ _ _ st₂ kept) un₃) H₃⟩) fun v s q => q
 ·have e : j = (enumRows l).length := Nat.le_antisymm X.hj (Nat.le_of_not_lt hlt)
  subst e
  rw [List.drop_length] at H'
  exact W.done s' _ _ X.st fun h₁ tk keep => wpAny_execs_nil (H' .next h₁ tk φ' α' rfl (Ext.refl ..) (X.I.aside X.un keep) .next)
theorem enumArgs_some {sc : Scope} {e : Expr} {args : List Expr} (h : enumArgs sc e = some args) : ∃ np pos,e = .Call (.Name "enumerate" np) args [] pos ∧ kindOf sc.names "enumerate" = some .globalImplicit := biArgs_some h
theorem sx_ForEnum (X : ExOk f A C P n) {ts : List Expr} {k : Nat} {tp pos : Pos} {e : Expr} {args : List Expr} {body : List Stmt} (he : enumArgs f.env.scope e = some args) : f.X φ₀ (FlowR f.p) A (exec (.For (.Tuple ts k tp) e body [] pos) f.env) (fun σ => enumT P f.env.scope σ (.Tuple ts k tp) e body (some args)) := by
 intro φ α d σ s Q E le I H
 obtain ⟨np,cpos,rfl,hk⟩ := enumArgs_some he
 refine wpAny_For ?_ (fun _ => folded_plain rfl)
 refine T.Sat.chkE (T.Sat.bind H) fun hp H => ?_
 refine wpAny_Call_NameR (name_builtin X.ok X.st I hk X.df.enm.1 X.df.enm.2 (callWith_any (first := []) (.ty "enumerate") hp ((snd_evs (ex_E X) args φ).cpsX (Le.refl _) I (T.sat_bind.mpr H) fun φ₁ vs xs σ₁ s₁ d₁ le₁ I₁ r H₁ => ⟨I₁.kinH,?_⟩)))
 refine T.Sat.oneE H₁ fun x eq1 H₁ => ?_
 subst eq1
 refine T.Sat.listVE H₁ fun l eq1 H₁ => ?_
 subst eq1
 refine one_ofE r fun v eq1 q => ?_
 subst eq1
 obtain ⟨a,us,n,rfl,ha,hz,rr⟩ := q.inv
 have hoa := I₁.sub _ _ ha
 have alt := Heap.lt_size hoa
 have hl : s₁.heap.IsList a us.toArray := ⟨_,hoa,rfl,_,rfl⟩
 refine call_enumerate_list hl fun h' he' hit hsz keep => ?_
 have st₀ : EnumSt (s₁.heap.objs.size + 1) s₁.heap.objs.size a us.toArray 0 h' := ⟨⟨_,he'⟩,hit,hl.at fun o q => keep _ o q⟩
 refine (WalksT.enumerate (prog := f.prog) (w := f.w) X.hA.handled (s₁.heap.objs.size + 1) s₁.heap.objs.size a (Nat.succ_ne_self _) (Nat.ne_of_lt (Nat.lt_succ_of_lt alt)) (Nat.ne_of_lt alt) us.toArray).self 0 { s₁ with heap := h' } _ _ st₀ ?_
 refine forT_snd (s := { s₁ with heap := h' }) X.hX X.ok X.hA.handled (Nat.succ_ne_self _) (Nat.ne_of_lt (Nat.lt_succ_of_lt alt)) (Nat.ne_of_lt alt) (I₁.keeps keep) st₀ (nn ha) rr (fun b hb => ?_) (T.Sat.mono (T.sat_noExc.mp H₁) (fun _ _ q => q.step rfl (Ext.refl ..)) fun _ _ _ q => q)
 rcases List.mem_cons.mp hb with rfl | hb
 ·exact I₁.freshU (get_ge (Nat.le_succ _)) ⟨_,he'⟩
 ·rw [List.mem_singleton.mp hb]
  exact I₁.freshU (get_size _) (let ⟨o,q,_⟩ := hit; ⟨o,q⟩)
end
end Mine
end
section
open PySem PySem.W PyProof.Rows PySem.Spec
namespace Mine
noncomputable abbrev bmOf (G : Addr) : List Value := [.ref G,.type "Exception",.type "BaseException",.type "object"]
section
variable {M : Model} {A : Around} {E : Value->Shared->Prop} {h : Heap} {g : Array GenState} {d : Drawn} {t : Nat} {os : OsState}
variable {nm q : Str} {C N G : Addr} {bs : List Value} {hdct : Bool} {sn : List Str} {sub : List Value} {ab : Bool} {col : Option Bool} {dd : Option Addr} {k0 k1 k2 k3 k5 : Option Value}
noncomputable abbrev bad (C N G : Addr) (nm q : Str) (bs : List Value) (hdct : Bool) (sn : List Str) (sub : List Value) (ab : Bool) (col : Option Bool) (dd : Option Addr) (k0 k1 k2 k3 k5 : Option Value) : Obj := excClassObj nm q C N bs (bmOf G) hdct sn sub ab col dd k0 k1 k2 k3 k5 "Exception.__new__"
theorem bad_check_new {rest : List Value} {Q : Unit->Shared->Prop} (hC : h.get? C = some (bad C N G nm q bs hdct sn sub ab col dd k0 k1 k2 k3 k5)) (hq : Q () ⟨h,g,d,t,os⟩) :
  wpAny M A (checkBuiltinCall "Exception.__new__" ⟨.ref C :: rest,[]⟩) Q E ⟨h,g,d,t,os⟩ := by
 have F := PySem.F.excBase_Exception
 have hcont : (Value.ref C :: bmOf G).contains (.type "Exception") = true := by simp
 have hstar := F.noStar
 simp only [checkBuiltinCall,F.newKind,F.newSplit,F.newRow]
 repeat (first | refine wpAny_loadPart_at hC ?_ | (refine wpAny_isSubtype_exc hC ?_; rw [hcont]) | refine wpAny_staticBase_exc hC ?_ | refine wpAny_madeBy_exc hC ?_ | simp only [bne_self_eq_false,Bool.false_eq_true,if_false] | wp_step)
 exact hq
end
section
variable {prog : Program} {w : World} {A : Around} {R : Result->Shared->Prop} {h : Heap} {g : Array GenState} {d : Drawn} {t : Nat} {os : OsState}
variable {nm q : Str} {C N G : Addr} {bs : List Value} {hdct : Bool} {sn : List Str} {sub : List Value} {ab : Bool} {col : Option Bool} {dd : Option Addr} {k0 k1 k2 k3 k5 : Option Value}
theorem bad_new {rest : List Value} (hC : h.get? C = some (bad C N G nm q bs hdct sn sub ab col dd k0 k1 k2 k3 k5))
  (hq : R (.ok (.ret (.ref (h.objs.size + 1)))) ⟨(h.push { cls := .type "tuple",data := .seq rest.toArray }).push { cls := .ref C,data := .fields #[.ref h.objs.size,.none,.none,.none,.bool false,.none] },g,d,t,os⟩) (hrest : rest.length ≤ sizeLine) :
  codeAny (model prog w) A (.builtin "Exception.__new__" ⟨.ref C :: rest,[]⟩) R ⟨h,g,d,t,os⟩ := by
 have F := PySem.F.excBase_Exception
 have hends := F.ends
 have hcB : (Value.ref C :: bmOf G).contains (.type "Exception") = true := by simp
 have hcA : (Value.ref C :: bmOf G).contains (.type "AttributeError") = false := by simp
 have hcN : (Value.ref C :: bmOf G).contains (.type "NameError") = false := by simp
 refine codeAny_builtinAt F.entry ?_
 unfold Builtin.«BaseException.__new__»
 refine PySem.wpAt_bind ?_
 show PySem.wpAt _ _ _ (stack >>= _) _ _ _
 refine PySem.wpAt_bind (PySem.wpAt_stack fun p below => PySem.wpAt_of_wpAny ?_)
 wp_walk
 refine PySem.wpAt_of_wpAny ?_
 rw [F.owner]
 repeat (first | with_reducible refine wpAny_madeHere_exc F.canon hC ?_ | with_reducible refine wpAny_loadPart_at hC ?_ | (with_reducible refine wpAny_isSubtype_exc hC ?_; first | rw [hcB] | rw [hcA] | rw [hcN]) | wp_step)
 show R _ _
 rw [Heap.size_push]
 exact hq
variable {E : Value->Shared->Prop} {K : Frag} {fI : Addr}
theorem bad_type_call {rest : List Value} {Q : Fin->Shared->Prop} (X : K.In h) (hC : h.get? C = some (bad C N G nm q bs hdct sn sub ab col dd k0 k1 k2 k3 k5)) (hi : findIn K (.ref C) "__init__" = some (some (.ref fI))) (hf : isFn K (.ref fI) = true)
  (hq : ∀ h' e,Heap.MadeExcOf h h' e (.ref C) rest->wpAny (model prog w) A (call (.ref fI) (.ref e :: rest)) (fun r s' => r = .none ∧ Q (.done (.ret (.ref e))) s') E ⟨h',g,d,t,os⟩) (hrest : rest.length ≤ sizeLine) :
  wpAny (model prog w) A (Builtin.«type.__call__» ⟨.ref C :: rest,[]⟩) Q E ⟨h,g,d,t,os⟩ := by
 have F := PySem.F.excBase_Exception
 repeat (first | with_reducible refine wpAny_loadPart_at hC ?_ | with_reducible refine wpAny_madeBy_exc hC ?_ | wp_step)
 refine codeAny_call_builtin_code (Code.quiet_builtin _ F.quiet) (bad_check_new hC ?_)
 refine bad_new hC ?_ hrest
 show wpAny _ _ _ _ _ _
 have k : ∀ b o,h.get? b = some o->((h.push { cls := .type "tuple",data := .seq rest.toArray }).push { cls := .ref C,data := .fields #[.ref h.objs.size,.none,.none,.none,.bool false,.none] }).get? b = some o := fun b o e => Heap.get?_push_of_some _ (Heap.get?_push_of_some _ e)
 have hC₁ := k _ _ hC
 have hget : ((h.push { cls := .type "tuple",data := .seq rest.toArray }).push
   { cls := .ref C,data := .fields #[.ref h.objs.size,.none,.none,.none,.bool false,.none] }).get? (h.objs.size + 1) = some
   { cls := .ref C,data := .fields #[.ref h.objs.size,.none,.none,.none,.bool false,.none] } := by heap_get
 have hcC : (Value.ref C :: bmOf G).contains (.ref C) = true := by simp
 have X₁ := X.keeps k
 unfold isInstance
 repeat (first | with_reducible refine wpAny_loadPart_at hget ?_ | (with_reducible refine wpAny_isSubtype_exc hC₁ ?_; rw [hcC]) | wp_step)
 show wpAny _ _ (typeLookup (.ref C) _) _ _ _
 refine (looks_findIn (M := model prog w) X₁ hi).at ?_
 refine wpAny_holding (wpAny_bind ((bind_fn (M := model prog w) X₁ _ (beq_iff_eq.mp hf)).at ?_))
 refine wpAny_bind (wpAny_mono (hq _ (h.objs.size + 1) ⟨k,Heap.get?_none_of_le (Nat.le_succ _),h.objs.size,hget,Heap.get?_none_of_le (Nat.le_refl _),?_⟩) (fun r s' hr => ?_) fun _ _ x => x)
 ·exact Heap.get?_push_of_some _ (Heap.get?_push_at rfl rfl)
 ·obtain ⟨rfl,hQ⟩ := hr
  wp_walk
  exact hQ
theorem bad_call {rest : List Value} {Q : Value->Shared->Prop} (X : K.In h) (hC : h.get? C = some (bad C N G nm q bs hdct sn sub ab col dd k0 k1 k2 k3 k5)) (hi : findIn K (.ref C) "__init__" = some (some (.ref fI))) (hf : isFn K (.ref fI) = true)
  (hq : ∀ h' e,Heap.MadeExcOf h h' e (.ref C) rest->wpAny (model prog w) (A.under (.builtin "type.__call__" ⟨.ref C :: rest,[]⟩)) (call (.ref fI) (.ref e :: rest)) (fun r s' => r = .none ∧ Q (.ref e) s') E ⟨h',g,d,t,os⟩) (hrest : rest.length ≤ sizeLine) :
  wpAny (model prog w) A (call (.ref C) rest) Q E ⟨h,g,d,t,os⟩ := by
 have f1 := tc_lookup
 have f2 := tc_bind (.ref C)
 have hT : (⟨h,g,d,t,os⟩ : Shared).TypeIs (.ref C) "type" := ⟨_,hC,rfl⟩
 refine wpAny_call (codeAny_of_tree ?_)
 show wpAny _ _ (callAny (.ref C) _) _ _ _
 repeat (any_goals (first | assumption | with_reducible refine wpAny_loadPart_at hC ?_ | wp_step))
 refine ⟨rfl,?_⟩
 refine codeAny_call_builtin_at (Code.quiet_builtin _ (by decide +kernel)) entry_typeCall (wpAny_check_type_call_sub hC (bad_type_call X hC hi hf (fun h' e hm => ?_) hrest))
 exact hq h' e hm
end
section
variable {prog : Program} {w : World} {A : Around} {E : Value->Shared->Prop} {h : Heap} {g : Array GenState} {d : Drawn} {t : Nat} {os : OsState} {K : Frag}
variable {nm q : Str} {C N G e a0 : Addr} {bs : List Value} {sn : List Str} {sub : List Value} {ab : Bool} {col : Option Bool} {dd : Option Addr} {k0 k1 k2 k3 k5 : Option Value} {v : Value}
theorem bad_refuse (self : Value) (C G : Addr) : refuseLoop self "__setattr__" [.ref C,.ref G,.type "Exception",.type "BaseException",.type "object"] = pure () := by
 rw [refuseLoop_ref,refuseLoop_ref]
 kernel_rfl
theorem bad_set {Q : Unit->Shared->Prop} (X : K.In h) (hK : K.lookup C = some (bad C N G nm q bs true sn sub ab col dd k0 k1 k2 k3 k5)) (he : h.get? e = some { cls := .ref C,data := .fields #[.ref a0,.none,.none,.none,.bool false,.none] })
  (hs : findIn K (.ref C) "__setattr__" = some (some (.builtin "object.__setattr__"))) (ht : findIn K (.ref C) "told" = some none)
  (hq : ∀ h' dx,h.get? dx = none->h'.get? dx = some (dictOf [⟨PyData.keyHash w.params "told",.str "told" (t + 1),v⟩] 1)->h'.get? e = some { cls := .ref C,dict := some dx,data := .fields #[.ref a0,.none,.none,.none,.bool false,.none] } ->
   (∀ b o,b ≠ e->h.get? b = some o->h'.get? b = some o)->Q () ⟨h',g,d,t + 2,os⟩) : wpAny (model prog w) A (setAttr (.ref e) "told" v) Q E ⟨h,g,d,t,os⟩ := by
 have I : InstAt h e { cls := .ref C,data := .fields #[.ref a0,.none,.none,.none,.bool false,.none] } C none := ⟨he,rfl,rfl,trivial⟩
 refine set_plain (s := ⟨h,g,d,t,os⟩) X I hs ?_
 have SF := PySem.F.store_object
 have hc : clsIn K C = some { name := nm,bases := bs,mro := .ref C :: bmOf G,ns := N,qualname := q,hasDict := true,slotNames := sn,subclasses := sub,abstract := ab,collection := col,hasDel := false } := by unfold clsIn; rw [hK]
 have sub : Looks (model prog w) h (isInstance (.ref e) (.type "object")) true := I.type.andThen (looks_mroIn X (by unfold mroIn; rw [hc,Option.bind_some,if_neg (by simp)]; simp))
 refine codeAny_call_builtin SF.slot.plain SF.entry (@check_slot (model prog w) _ _ _ "object.__setattr__" "object" "__setattr__" (.ref e) [.str "told" t,v] [] _ SF.kind SF.split sub (SF.args (.ref e) (.str "told" t) v) ?_)
 have hm : Looks (model prog w) h (mroOf (.ref C)) (.ref C :: bmOf G) := (looks_clsIn X hc).andThen .now
 rw [osa_eq,refuse_eq]
 refine wpAny_bind (wpAny_bind (I.type.at (wpAny_bind (hm.at ?_))))
 rw [bad_refuse]
 refine wpAny_pure (wpAny_bind (I.type.at (wpAny_bind ((looks_findIn (M := model prog w) X ht).at (wpAny_bind (wpAny_pure (a := none) ?_))))))
 refine wpAny_bind (wpAny_pure (wpAny_bind (wpAny_bind (wpAny_loadPart he (wpAny_bind ((looks_clsIn (M := model prog w) X hc).at ?_))))))
 rw [if_neg (by simp)]
 have he₁ : (h.push { cls := .type "dict",data := .dict #[] }).get? e = some { cls := .ref C,data := .fields #[.ref a0,.none,.none,.none,.bool false,.none] } := Heap.get?_push_of_some _ he
 have hxs : e ≠ h.objs.size := Nat.ne_of_lt (Heap.lt_size he)
 dsimp only
 rw [if_neg (by simp [typeHasDict])]
 have hgd : ((h.push { cls := .type "dict",data := .dict #[] }).update e fun o => { cls := o.cls,dict := some h.objs.size,data := o.data,slots := o.slots }).get? h.objs.size = some (dictOf [] 0) :=
  (Heap.get?_update_ne _ _ _ _ hxs.symm).trans (Heap.get?_push_size _ rfl)
 have hge : ((h.push { cls := .type "dict",data := .dict #[] }).update e fun o => { cls := o.cls,dict := some h.objs.size,data := o.data,slots := o.slots }).get? e = some { cls := .ref C,dict := some h.objs.size,data := .fields #[.ref a0,.none,.none,.none,.bool false,.none] } :=
  Heap.get?_update_self _ he₁ rfl
 refine wpAny_bind (wpAny_alloc' (wpAny_bind (wpAny_update' he₁ ?_)))
 have hk₁ : ∀ b o,b ≠ e->h.get? b = some o->((h.push { cls := .type "dict",data := .dict #[] }).update e fun o => { cls := o.cls,dict := some h.objs.size,data := o.data,slots := o.slots }).get? b = some o :=
  fun b o hb q => (Heap.get?_update_ne _ _ _ _ hb).trans (Heap.get?_push_of_some _ q)
 generalize (h.push { cls := .type "dict",data := .dict #[] }).update e (fun o => { cls := o.cls,dict := some h.objs.size,data := o.data,slots := o.slots }) = h₁ at hgd hge hk₁ ⊢
 refine wpAny_pure (a := some h.objs.size) (wpAny_bind (wpAny_pure (wpAny_bind ?_)))
 unfold nsSet
 refine wpAny_bind (wpAny_bind (wpAny_askSetting (wpAny_pure (wpAny_bind (wpAny_mkText (wpAny_bind (wpAny_loadPart (s := ⟨h₁,g,d,t + 1 + 1,os⟩) hgd ?_)))))))
 have hu := Heap.get?_update_self (Obj.putName "told" (PyData.keyHash w.params "told") (.str "told" (t + 1)) v) hgd (by rw [putName_dict]; rfl)
 rw [putName_dict] at hu
 have ho : ∀ b,b ≠ h.objs.size->(h₁.update h.objs.size (Obj.putName "told" (PyData.keyHash w.params "told") (.str "told" (t + 1)) v)).get? b = h₁.get? b := fun b hb => Heap.get?_update_ne _ _ _ _ hb
 dsimp only
 rw [aRefKeyMayBeTheName_at,show (!(#[] : Array DictEntry).any (·.key.isStr "told") && (#[] : Array DictEntry).any (·.refKey)) = false from by simp]
 refine wpAny_updatePart (s := ⟨h₁,g,d,t + 1 + 1,os⟩) hgd ?_
 refine wpAny_bind (wpAny_lookBehind (s := ⟨_,g,d,t + 1 + 1,os⟩) hu (pastItsLine_dict (by rw [List.size_toArray,sizeLine_eq]; exact Nat.le_trans (show 1 ≤ 1000 by decide) (by decide))) ?_)
 refine wpAny_pure (hq _ h.objs.size (fresh_size h) hu ((ho e hxs).trans hge) fun b o hb q => (ho b (Nat.ne_of_lt (Heap.lt_size q))).trans (hk₁ b o hb q))
end
section
variable {prog : Program} {w : World} {A : Around} {E : Value->Shared->Prop} {h : Heap} {g : Array GenState} {d : Drawn} {t : Nat} {os : OsState} {K : Frag} {p : Pl}
variable {nm q : Str} {C N G e a0 : Addr} {bs : List Value} {sn : List Str} {sub : List Value} {ab : Bool} {col : Option Bool} {dd : Option Addr} {k0 k1 k2 k3 k5 : Option Value} {v : Value}
structure MadeBad (P : Params) (h h' : Heap) (C e dx a0 : Addr) (v : Value) : Prop where
 keeps : ∀ b o,h.get? b = some o->h'.get? b = some o
 ne : h.get? e = none
 nd : h.get? dx = none
 at_ : h'.get? e = some { cls := .ref C,dict := some dx,data := .fields #[.ref a0,.none,.none,.none,.bool false,.none] }
 dict : ∃ tk,h'.get? dx = some (dictOf [⟨PyData.keyHash P "told",.str "told" tk,v⟩] 1)
theorem badCall_snd (xs : ExcSt K p) (lim : ∀ h : Heap,K.In h->h.NoLimit) (X : K.In h) (hh : A.depth + 10 < recursionLimit) {Q : Value->Shared->Prop}
  (hq : ∀ h' tk e dx a0,MadeBad w.params h h' (p.ca 7) e dx a0 v->Q (.ref e) ⟨h',g,d,tk,os⟩) : wpAny (model prog w) A (call (.ref (p.ca 7)) [v]) Q E ⟨h,g,d,t,os⟩ := by
 obtain ⟨N,G,nm,q,bs,sn,sub,ab,col,dd,k0,k1,k2,k3,k5,hK⟩ := xs.obj
 obtain ⟨fI,fn,hi,hf,hfn,hpar,p1,p2,p3,p4,hbody⟩ := xs.init
 refine bad_call X (X _ _ hK) hi hf (fun h₁ e hm => ?_) (by rw [sizeLine_eq]; exact show 1 ≤ 16777216 by decide)
 obtain ⟨a0,he,ha,ha'⟩ := hm.there
 have X₁ := X.keeps hm.keeps
 obtain ⟨o,fd,⟨ho,hdt,hb,hsc,hgl,hbu,hcode⟩,hbind⟩ := hfn.at_
 have kind : fd.scope.kind = .function := by rw [hsc]; exact hfn.kind
 have loc : ∀ x ∈ [("self" : Str),("told" : Str)],fn.scope.names.lookup x = some .local := by rw [← hpar]; exact hfn.loc
 have zip : fn.params.zip [Value.ref e,v] = [(("self" : Str),Value.ref e),(("told" : Str),v)] := by rw [hpar]; rfl
 refine wpAny_call (codeAny_call_def (binds := [(("self" : Str),Value.ref e),(("told" : Str),v)]) ?_ (X₁ _ _ ho) hdt (lim _ X₁) (hcode _ X₁) hb (by have := hbind ⟨h₁,g,d,t,os⟩ X₁ [.ref e,v] (by rw [hpar]; rfl); rwa [zip] at this) (by rw [hsc]; exact hfn.cell) (fun x hx => ?_) (fun h₀ hns hkeep => ?_) (by rw [hsc]; exact hfn.co) (by rw [hsc]; exact hfn.gen) kind)
 ·show A.depth + _ < recursionLimit
  have : (Code.builtin "type.__call__" ⟨[.ref (p.ca 7),v],[]⟩).weight = 1 := by
   show Code.frames _ + (if true = true then 1 else 0) + (if guardIds.contains "type.__call__" then 1 else 0) + 0 = 1
   rw [show guardIds.contains "type.__call__" = false from by decide +kernel]
   rfl
  rw [this]; omega
 ·rw [hsc]
  rcases List.mem_cons.mp hx with rfl | hx
  ·exact loc _ (.head _)
  ·rw [List.mem_singleton.mp hx]; exact loc _ (.tail _ (.head _))
 rw [hbody]
 have lk : ∀ x,fn.scope.names.lookup x = some .local->(callEnv fd h₁.objs.size fI).kindOf x = some .local := fun x hx => by
  show fd.scope.names.lookup x = _; rw [hsc]; exact hx
 have dbg : ∀ x,fn.scope.names.lookup x = some .local->(x == ("__debug__" : Str)) = false := fun x hx => by
  cases q : x == ("__debug__" : Str) with
  | false => rfl
  | true => have := hfn.dbg; rw [kindOf_eq,← eq_of_beq q,hx] at this; cases this
 refine wpAny_execs_cons (plainObj_wpAny_Assign_Attribute ?_ swaps_attr)
 have m1 : ([(("self" : Str),Value.ref e),(("told" : Str),v)] : List (Str × Value)).reverse.lookup ("told" : Str) = some v := by simp [List.lookup_cons]
 have m2 : ([(("self" : Str),Value.ref e),(("told" : Str),v)] : List (Str × Value)).reverse.lookup ("self" : Str) = some (Value.ref e) := by
  have : (("self" : Str) == ("told" : Str)) = false := by decide
  simp [List.lookup_cons,this]
 refine wpAny_Name (wpAny_loadName_local kind (lk _ (loc _ (.tail _ (.head _)))) hns m1 ?_) (dbg _ (loc _ (.tail _ (.head _))))
 refine wpAny_Name (wpAny_loadName_local kind (lk _ (loc _ (.head _))) hns m2 ?_) (dbg _ (loc _ (.head _)))
 refine bad_set (X₁.keeps hkeep) hK (hkeep _ _ he) xs.sets xs.told fun h₂ dx hn hdx he₂ hk₂ => ?_
 refine wpAny_execs_nil ?_
 refine ⟨rfl,hq h₂ _ e dx a0 ⟨fun b o q => hk₂ b o (fun z => by rw [z,hm.new] at q; cases q) (hkeep _ _ (hm.keeps _ _ q)),hm.new,none_of_keeps (fun b o q => hkeep _ _ (hm.keeps _ _ q)) hn,he₂,_,hdx⟩⟩
theorem bad_raiseStmt {M : Model} {env : Env} {x : Sem Value} {s : Shared} {Q : Flow->Shared->Prop} (hh : A.handled = none)
  (hx : wpAny M A x (fun v s₁ => ∃ e dx a0,v = .ref e ∧ s₁.heap.get? C = some (bad C N G nm q bs true sn sub ab col dd k0 k1 k2 k3 k5) ∧ s₁.heap.get? e = some { cls := .ref C,dict := some dx,data := .fields #[.ref a0,.none,.none,.none,.bool false,.none] } ∧ E (.ref e) s₁) E s) :
  wpAny M A (raiseStmt env (some x) none) Q E s := by
 have hcB : (Value.ref C :: bmOf G).contains (.type "BaseException") = true := by simp
 unfold raiseStmt
 refine wpAny_bind (wpAny_mono hx (fun v s₁ h₁ => ?_) fun _ _ x => x)
 obtain ⟨e,dx,a0,rfl,hC,he,hE⟩ := h₁
 obtain ⟨hp,g,d,tk,os⟩ := s₁
 repeat (first | with_reducible refine wpAny_loadPart_at he ?_ | with_reducible refine wpAny_loadPart_at hC ?_ | (with_reducible refine wpAny_isSubtype_exc hC ?_; rw [hcB]) | wp_step)
 exact wpAny_raiseNew_none hh hE
end
section
variable {f : Fm} {φ φ' φ₁ φ₀ : Ob} {α α' α₁ : Nat->Addr} {d d' d₁ : Nat} {σ σ' σ₁ : Sto} {h h' : Heap} {s : Shared} {A : Around} {C : Cx} {P : Lv} {n : Nat} {E : Value->Shared->Prop} {p : Pl}
theorem isExc_some {o : Option G} (h : isExc o = true) : ∃ init own,o = some (.cls 7 init own true) := by
 cases o with
 | none => exact noB h
 | some g => cases g with
  | cls c init own exc => refine and2 h fun a b => ?_; cases Nat.eq_of_beq_eq_true b; cases a; exact ⟨init,own,rfl⟩
  | _ => exact noB h
theorem sx_Raise (X : ExOk f A C P n) {e : Expr} {pos : Pos} : f.X φ₀ (FlowR f.p) A (exec (.Raise (some e) none pos) f.env) (fun σ => raiseT C P f.env.scope σ e) := by
 intro φ α d σ s Q E le I H
 cases e with
 | Call g args kws cpos => cases g with
  | Name x np =>
   refine T.Sat.chkE H fun hc H₁ => ?_
   refine and2 hc fun a hx => ?_
   refine and2 a fun hkw hk => ?_
   cases List.isEmpty_iff.mp hkw
   obtain ⟨init,own,hg⟩ := isExc_some hx
   obtain ⟨hm,hkp,_⟩ := X.df.cls x _ _ _ _ hg
   obtain ⟨N,G,nm,q,bs,sn,sub,ab,col,dd,k0,k1,k2,k3,k5,hK⟩ := X.xs.obj
   rw [arm_exec_Raise]
   refine wpAny_bind (wpAny_standAt (bad_raiseStmt (C := f.p.ca 7) (N := N) (G := G) (nm := nm) (q := q) (bs := bs) (sn := sn) (sub := sub) (ab := ab) (col := col) (dd := dd) (k0 := k0) (k1 := k1) (k2 := k2) (k3 := k3) (k5 := k5) X.hA.handled (wpAny_bind ?_)))
   refine T.Sat.chkE (T.Sat.bind H₁) fun hp H₂ => ?_
   refine wpAny_Call_NameR (name_global X.ok X.st I (eq_of_beq hk) hm (callWith_any (first := []) (.k hkp) hp (Fm.S.own (pre := []) (fun φ₀ => snd_evs (f := f.now s.heap α σ) (X.hO.ev _ (f.now_like s.heap α σ) X.ok) args φ₀) I OkP.nil (T.sat_bind.mpr H₂) fun φ₁ vs r h₁ tk d₁ ex IB rr _ hr => ⟨IB.kinH,?_⟩)))
   obtain ⟨xs,σ₁⟩ := r
   refine T.Sat.oneE hr fun x₀ eq1 hr => ?_
   cases (show xs = [x₀] from eq1)
   refine one_ofE (show Reps f.p φ₁ vs [x₀] from rr) fun v eq1 r0 => ?_
   subst eq1
   refine badCall_snd (h := h₁) X.xs X.st.lim IB.kinH (by have := X.hA.depth; omega) fun h₂ tk₂ e dx a0 m => ?_
   obtain ⟨tkd,hd⟩ := m.dict
   rw [← X.st.hP] at hd
   obtain ⟨IK,exK⟩ := FI.new IB m.keeps hd m.nd
   refine wpAny_bind (wpAny_standAt (wpAny_pure ⟨e,dx,a0,rfl,IK.kinH _ _ hK,m.at_,?_⟩))
   have ne : e ≠ dx := fun z => by have := m.at_; rw [z,hd] at this; cases this
   exact hr e h₂ tk₂ _ α rfl exK IK ⟨_,_,dx,m.at_,rfl,rfl,rfl,⟨_,1,put_self ..,.cons (r0.mono exK.1) .nil⟩,(put_other ne).trans (Ob.keepNone (fun o q => IB.sub _ o q) m.ne),IB.live _ m.ne,.inl rfl⟩
  | _ => exact H.elim
 | _ => exact H.elim
end
section
variable {prog : Program} {w : World} {A : Around} {E : Value->Shared->Prop} {h : Heap} {g : Array GenState} {d : Drawn} {t : Nat} {os : OsState} {K : Frag} {p : Pl}
variable {nm q : Str} {C N G e a0 : Addr} {bs : List Value} {sn : List Str} {sub : List Value} {ab : Bool} {col : Option Bool} {dd : Option Addr} {k0 k1 k2 k3 k5 : Option Value} {v : Value}
theorem bad_matches {M : Model} {oe : Obj} {Q : Bool->Shared->Prop} (hC : h.get? C = some (bad C N G nm q bs true sn sub ab col dd k0 k1 k2 k3 k5)) (he : h.get? e = some oe) (hcls : oe.cls = .ref C) (hq : Q true ⟨h,g,d,t,os⟩) :
  wpAny M A (excMatches (.ref e) (.ref C)) Q E ⟨h,g,d,t,os⟩ := by
 have hcB : (Value.ref C :: bmOf G).contains (.type "BaseException") = true := by simp
 have hcC : (Value.ref C :: bmOf G).contains (.ref C) = true := by simp
 have f := tc_notTuple
 unfold excMatches
 repeat (first | (with_reducible refine wpAny_loadPart_at he ?_; rw [hcls]) | with_reducible refine wpAny_loadPart_at hC ?_ | (with_reducible refine wpAny_isSubtype_exc hC ?_; first | rw [hcB] | rw [hcC]) | wp_step)
 exact hq
theorem bad_get {oe : Obj} {es : List DictEntry} {k : Nat} {expr : Bool} {Q : Value->Shared->Prop} (X : K.In h) (hK : K.lookup C = some (bad C N G nm q bs true sn sub ab col dd k0 k1 k2 k3 k5)) (I : InstAt h e oe C (some (dictOf es k)))
  (hg : findIn K (.ref C) "__getattribute__" = some (some (.builtin "BaseException.__getattribute__"))) (hk : findIn K (.ref C) "__getattr__" = some none) (ht : findIn K (.ref C) "told" = some none)
  (hl : getL "told" es = some (some v)) (hv : handedIn v = true) (hq : Q v ⟨h,g,d,t + 1,os⟩) : wpAny (model prog w) A (getAttr (.ref e) "told" expr) Q E ⟨h,g,d,t,os⟩ := by
 have L0 := I.type (M := model prog w)
 have L1 := looks_findIn (M := model prog w) X hg
 have L2 := looks_findIn (M := model prog w) X hk
 have hc : clsIn K C = some { name := nm,bases := bs,mro := .ref C :: bmOf G,ns := N,qualname := q,hasDict := true,slotNames := sn,subclasses := sub,abstract := ab,collection := col,hasDel := false } := by unfold clsIn; rw [hK]
 have LI : Looks (model prog w) h (isInstance (.ref e) (.type "BaseException")) true := L0.andThen (looks_mroIn X (by unfold mroIn; rw [hc,Option.bind_some,if_neg (by simp)]; simp))
 have LF := looks_find (M := model prog w) X I (findObj_own (C := C) (name := "told") (od := dictOf es k) (by unfold hasDictIn; rw [hc]; rfl) ht rfl hl)
 unfold getAttr getAttrBy
 refine wpAny_bind (wpAny_mkText (wpAny_holding (wpAny_bind (L0.at (wpAny_bind (L1.at ?_))))))
 show wpAny _ _ (getAttrByItsOwn _ _ _ _ _ _) _ _ _
 unfold getAttrByItsOwn
 refine wpAny_bind (L2.at (wpAny_bind (wpAny_attempt (wpAny_holding ?_))))
 have hx0 : (expr && onTheHeap (Value.builtin "BaseException.__getattribute__")) = false := by cases expr <;> rfl
 unfold callGetattribute
 rw [hx0]
 unfold boundAndCalled
 have bd := PySem.F.excAttr_ValueError.ga.bind (.ref e)
 refine wpAny_bind (wpAny_of_eq bd ?_)
 refine wpAny_call (codeAny_call_builtin PySem.F.excAttr_ValueError.ga.plain PySem.F.entry_bexc_ga (@check_slot (model prog w) _ _ _ "BaseException.__getattribute__" "BaseException" "__getattribute__" (.ref e) [.str "told" t] [] _ (by decide +kernel) (by decide +kernel) LI (PySem.F.args_bexc_ga _ _) ?_))
 unfold Builtin.«object.__getattribute__»
 refine wpAny_bind (wpAny_pure (wpAny_bind (wpAny_pure (wpAny_bind (L0.at (wpAny_bind (LF.at ?_)))))))
 refine wpAny_pure ?_
 show wpAny _ _ (handedOut v) _ _ _
 rw [handedOut_of hv]
 exact wpAny_pure hq
end
section
variable {f : Fm} {φ φ' φ₁ φ₀ : Ob} {α α' α₁ : Nat->Addr} {d d' d₁ : Nat} {σ σ' σ₁ : Sto} {h h' : Heap} {s : Shared} {A : Around} {C : Cx} {P : Lv} {n : Nat} {E : Value->Shared->Prop} {p : Pl}
theorem getS_forget {i j : Nat} {s : Slot} (h : getS (σ.set i none) j = some s) : i ≠ j ∧ getS σ j = some s := by
 rw [getS_setNone] at h
 by_cases q : i = j
 ·rw [if_pos q] at h; exact noOpt h
 ·rw [if_neg q] at h; exact ⟨q,h⟩
theorem FI.forget {m' : Str->Option Value} {x : Str} (I : f.I φ α d σ h) (hx : kindOf f.env.scope.names x = some .local) {m : Str->Option Value} (F : FrN f.g f.env.locals h m) (V : ∀ y s,kindOf f.env.scope.names y = some .local->getS σ (idx f.env.scope.names y) = some s->∃ v,m y = some v ∧ SlotV f.p φ (α (idx f.env.scope.names y)) v s)
  (hn : h'.Ns f.env.locals m') (hs : Heap.SameBut f.env.locals h h') (hm : ∀ y,y ≠ x->m' y = m y) : f.I φ α d (σ.set (idx f.env.scope.names x) none) h' :=
 FI.atNames I F hn hs (fun y s hy hg => let ⟨q,hg⟩ := getS_forget hg; let ⟨v,a,b⟩ := V y s hy hg; ⟨v,(hm y fun z => q (by rw [z])).trans a,b⟩) (fun y s hy hg => (getS_forget hg).2) fun i s hg _ => (getS_forget hg).2
theorem set_none_same {i : Nat} (h : getS σ i = none) (j : Nat) : getS (σ.set i none) j = getS σ j := by
 rw [getS_setNone]
 by_cases q : i = j
 ·rw [if_pos q,← q,h]
 ·rw [if_neg q]
theorem FI.sto (I : f.I φ α d σ h) (e : ∀ j,getS σ' j = getS σ j) : f.I φ α d σ' h :=
 { I with
  loc := let ⟨m,F,V⟩ := I.loc; ⟨m,F,fun x s hx hg => V x s hx (by rw [← e]; exact hg)⟩
  cel := fun x s hx hg => I.cel x s hx (by rw [← e]; exact hg)
  own := fun i s hg => I.own i s (by rw [← e]; exact hg)
  inj := fun j k s s' q1 q2 => I.inj j k s s' (by rw [← e]; exact q1) (by rw [← e]; exact q2) }
theorem nameGone_snd {M : Model} (ok : EnvOk f.env) {x : Str} {pos : Pos} {Q : Unit->Shared->Prop} (hx : kindOf f.env.scope.names x = some .local) (hσ : getS σ (idx f.env.scope.names x) = none) (I : f.I φ α d σ s.heap)
  (k : ∀ h',f.I φ α d σ h'->Q () { s with heap := h',toks := s.toks + 1 }) : wpAny M A (do bindName f.env x .none; unbindBehindTheSuite f.env x pos) Q E s := by
 obtain ⟨m,F,V⟩ := I.loc
 exact wpAny_nameGoes_keeps (kind_env hx) F.ns (by rw [ok.kind]; rfl) fun h' v hn hs => k h' ((FI.forget I hx F V hn hs fun y hy => if_neg hy).sto fun j => (set_none_same hσ j).symm)
theorem asName_snd (X : ExOk f A C P n) {e : Addr} {told : PV} {nme : Str} {A' : Around} {E' : Value->Shared->Prop} {Q : Unit->Shared->Prop} (hn : kindOf f.env.scope.names nme = some .local) (I : f.I φ α d σ s.heap) (XI : ExcIn f.p f.e φ e told s.heap)
  (k : ∀ h₂ tk₂ v,Rep f.p φ v told->f.I φ α d (σ.set (idx f.env.scope.names nme) none) h₂->(∀ {A₂ : Around} {E₂ : Value->Shared->Prop} {Q₂ : Value->Shared->Prop} {pp qq : Pos},(∀ tk₃,Q₂ v { s with heap := h₂,toks := tk₃ })->wpAny (model f.prog f.w) A₂ (eval (.Attribute (.Name nme pp) "told" qq) f.env) Q₂ E₂ { s with heap := h₂,toks := tk₂ })->Q () { s with heap := h₂,toks := tk₂ }) :
  wpAny (model f.prog f.w) A' (storeName f.env nme (.ref e)) Q E' s := by
 obtain ⟨m,F,V⟩ := I.loc
 obtain ⟨oe,vs,dx,x⟩ := XI
 obtain ⟨es,n,hφ,en⟩ := x.en
 obtain ⟨v,hl,rv⟩ : ∃ v,getL "told" es = some (some v) ∧ Rep f.p φ v told := en.getL.1 (by unfold field; rw [seq_self])
 refine wpAny_storeName_local (kind_env hn) F.ns (fun h₂ hn₂ hs₂ => ?_) (by rw [X.ok.kind]; rfl)
 have I₂ := FI.forget I hn F V hn₂ hs₂ fun y hy => if_neg hy
 have eL : e ≠ f.env.locals := fun z => by
  obtain ⟨oL,_,_,hL,hdL,_⟩ := F.ns
  have hx := x.hx
  rw [z,hL] at hx; cases hx; exact nomatch hdL.symm.trans x.hd
 obtain ⟨N,G,nmC,q,bs,sn,sub,ab,col,dd,k0,k1,k2,k3,k5,hK⟩ := X.xs.obj
 have At : InstAt h₂ e oe (f.p.ca 7) (some (dictOf es n)) := ⟨(hs₂.2 e eL).trans x.hx,x.hc,by unfold notCls; rw [x.hd],by rw [x.hdx]; exact I₂.sub _ _ hφ⟩
 exact k h₂ _ v rv I₂ fun {A₂ E₂ Q₂ pp qq} k₂ => Attribute_name (wpAny_Name (wpAny_loadName_local X.ok.kind (kind_env hn) hn₂ (if_pos rfl) (bad_get I₂.kinH hK At X.xs.gets X.xs.hook X.xs.told hl rv.handed (k₂ _))) (kind_dbg X.ok (nn hn)))
theorem asgOf_some {st : Stmt} {q : Str × Expr} (h : asgOf st = some q) : ∃ np pos,st = .Assign [.Name q.1 np] q.2 pos := by
 cases st with
 | Assign ts e pos =>
  have h : (match single ts with
   | some t => (match nameOf t with
    | some x => some (x,e)
    | none => none)
   | none => none) = some q := h
  cases h1 : single ts with
  | none => rw [h1] at h; exact noOpt h
  | some t =>
   rw [h1] at h
   have h : (match nameOf t with
    | some x => some (x,e)
    | none => none) = some q := h
   cases h2 : nameOf t with
   | none => rw [h2] at h; exact noOpt h
   | some x =>
    rw [h2] at h
    cases h
    cases single_some h1
    obtain ⟨np,rfl⟩ := nameOf_some h2
    exact ⟨np,pos,rfl⟩
 | _ => exact noOpt h
theorem retOf_some {st : Stmt} {e : Expr} (h : retOf st = some e) : ∃ lp pos,st = .Return (some (.List [e] lp)) pos := by
 cases st with
 | Return o pos => cases o with
  | none => exact noOpt h
  | some o =>
   have h : (match listOf o with
    | some l => single l
    | none => none) = some e := h
   cases h1 : listOf o with
   | none => rw [h1] at h; exact noOpt h
   | some l =>
    rw [h1] at h
    cases single_some h
    obtain ⟨p,rfl⟩ := listOf_some h1
    exact ⟨p,pos,rfl⟩
 | _ => exact noOpt h
theorem toldOf_some {y : Str} {e : Expr} (h : toldOf y e = true) : ∃ np pos,e = .Attribute (.Name y np) "told" pos := by
 cases e with
 | Attribute o a pos =>
  have h : (match nameOf o with
   | some x => seq x y && seq a "told"
   | none => false) = true := h
  cases h1 : nameOf o with
  | none => rw [h1] at h; exact noB h
  | some x =>
   rw [h1] at h
   obtain ⟨np,rfl⟩ := nameOf_some h1
   refine and2 h fun a b => ?_
   cases seq_iff.mp a
   cases seq_iff.mp b
   exact ⟨np,pos,rfl⟩
 | _ => exact noB h
theorem constB_some {e : Expr} {b : Bool} (h : constB e = some b) : ∃ k p,e = .Constant (.bool b) k p := by
 obtain ⟨c,hc,h⟩ := Option.bind_eq_some_iff.mp h
 obtain ⟨k,p,rfl⟩ := constOf_some hc
 cases c with
 | bool b' => cases h; exact ⟨k,p,rfl⟩
 | _ => exact noOpt h
theorem caught_snd (X : ExOk f A C P n) {x : Str} {np hpos : Pos} {nm : Option Str} {hb : List Stmt} {e : Addr} {told : PV} {init : Fn} {own : Bool} {Q : Flow->Shared->Prop} (hk : kindOf f.env.scope.names x = some .globalImplicit) (hg : C.glob x = some (.cls 7 init own true))
  (I : f.I φ α d σ s.heap) (XI : ExcIn f.p f.e φ e told s.heap) (H : T.Sat d (caughtT f.env.scope σ nm told hb) (QX f (FlowR f.p) φ α s Q) (EX f φ α s E)) :
  wpAny (model f.prog f.w) A (handleBy (.ref e) f.env [.ExceptHandler (some (.Name x np)) nm hb hpos]) Q E s := by
 obtain ⟨hm,hkp,_⟩ := X.df.cls x _ _ _ _ hg
 obtain ⟨N,G,nmC,q,bs,sn,sub,ab,col,dd,k0,k1,k2,k3,k5,hK⟩ := X.xs.obj
 obtain ⟨oe,vs,dx,xa⟩ := id XI
 refine wpAny_handleBy_cons (codeAny_handlers_test (name_global X.ok X.st I hk hm ?_)) (by intro q; cases q)
 obtain ⟨hh,gg,dr,tk,os⟩ := s
 refine bad_matches (I.kinH _ _ hK) xa.hx xa.hc ?_
 refine T.Sat.oneE H fun st eq1 H => ?_
 subst eq1
 cases nm with
 | none =>
  obtain ⟨⟨y,v⟩,hq,H₁⟩ := T.Sat.opt H
  obtain ⟨b,hb,H₁⟩ := T.Sat.opt H₁
  obtain ⟨_,_,rfl⟩ := asgOf_some hq
  obtain ⟨_,_,rfl⟩ := constB_some hb
  refine T.Sat.chkE H₁ fun hy H₂ => ?_
  refine codeAny_handlers_suite (setFlight_snd (s := ⟨hh,gg,dr,tk,os⟩) I XI fun h' I' _ _ => ?_)
  exact wpAny_execs_cons (wpAny_Assign_Name (wpAny_Constant_bool (storeFz_snd X.ok (eq_of_beq hy) I' (.bool b) fun h₂ tk₂ I₂ => wpAny_execs_nil (H₂ .next h₂ tk₂ φ α rfl (Ext.refl ..) I₂ .next))) (swaps_no rfl))
 | some nme =>
  have H : T.Sat d (caughtAs f.env.scope σ nme told st (asgOf st)) (QX f (FlowR f.p) φ α ⟨hh,gg,dr,tk,os⟩ Q) (EX f φ α ⟨hh,gg,dr,tk,os⟩ E) := H
  refine codeAny_handlers_suite_as (setFlight_snd (s := ⟨hh,gg,dr,tk,os⟩) I XI fun h' I' X' _ => ?_)
  cases ha : asgOf st with
  | some q =>
   rw [ha] at H
   obtain ⟨_,_,rfl⟩ := asgOf_some ha
   refine T.Sat.chkE H fun hc H₁ => ?_
   refine and2 hc fun a b => ?_
   refine and2 a fun hn hy => ?_
   refine and2 b fun ht hne => ?_
   have hn := eq_of_beq hn
   have hy := eq_of_beq hy
   obtain ⟨_,_,et⟩ := toldOf_some ht
   rw [et]
   have ne : idx f.env.scope.names q.1 ≠ idx f.env.scope.names nme := fun z => by
    rw [idx_inj (nn hy) (nn hn) z,seq_self] at hne; cases hne
   refine asName_snd (s := ⟨h',gg,dr,tk,os⟩) X hn I' X' fun h₂ tk₂ v rv I₂ ev => ?_
   refine wpAny_execs_cons (wpAny_Assign_Name (ev fun tk₃ => storeFz_snd (s := ⟨h₂,gg,dr,tk₃,os⟩) X.ok hy I₂ rv fun h₃ tk₄ I₃ => ?_) (swaps_no rfl))
   refine wpAny_execs_nil (nameGone_snd (s := ⟨h₃,gg,dr,tk₄,os⟩) X.ok hn ?_ I₃ fun h₄ I₄ => H₁ .next h₄ _ φ α rfl (Ext.refl ..) I₄ .next)
   unfold putS
   rw [getS_set,if_neg (fun q => ne q.1),getS_setNone,if_pos rfl]
  | none =>
   rw [ha] at H
   obtain ⟨r,hr,H₁⟩ := T.Sat.opt H
   obtain ⟨_,_,rfl⟩ := retOf_some hr
   refine T.Sat.chkE H₁ fun hc H₂ => ?_
   refine and2 hc fun hn ht => ?_
   obtain ⟨_,_,rfl⟩ := toldOf_some ht
   refine asName_snd (s := ⟨h',gg,dr,tk,os⟩) X (eq_of_beq hn) I' X' fun h₂ tk₂ v rv I₂ ev => ?_
   refine wpAny_execs_cons (wpAny_Return_some (wpAny_List_spliced (spliced_more (ev fun tk₃ => spliced_none ⟨by rw [sizeLine_eq]; exact show 1 ≤ 16777216 by decide,?_⟩))))
   obtain ⟨φ₂,ex,I₃,pp⟩ := f.push I₂ { cls := .type "list",data := .seq [v].toArray }
   exact nameGone_snd (s := ⟨_,gg,dr,tk₃,os⟩) X.ok (eq_of_beq hn) (by rw [getS_setNone,if_pos rfl]) I₃ fun h₄ I₄ => H₂ (.ret _) h₄ _ φ₂ α rfl ex I₄ (.ret (.list pp (show 1 ≤ lineB by decide) (.cons (rv.mono ex.1) .nil)))
theorem handOf_some {h : ExceptHandler} {q : Str × Option Str × List Stmt} (e : handOf h = some q) : ∃ np pos,h = .ExceptHandler (some (.Name q.1 np)) q.2.1 q.2.2 pos := by
 cases h with
 | ExceptHandler t nm hb pos => cases t with
  | none => exact noOpt e
  | some t =>
   have e : (match nameOf t with
    | some x => some (x,nm,hb)
    | none => none) = some q := e
   cases h2 : nameOf t with
   | none => rw [h2] at e; exact noOpt e
   | some x =>
    rw [h2] at e
    cases e
    obtain ⟨np,rfl⟩ := nameOf_some h2
    exact ⟨np,pos,rfl⟩
theorem sx_Try (X : ExOk f A C P n) {st : Stmt} {hd : ExceptHandler} {pos : Pos} : f.X φ₀ (FlowR f.p) A (exec (.Try [st] [hd] [] [] pos) f.env) (fun σ => tryT C P f.env.scope σ st hd) := by
 intro φ α d σ s Q E le I H
 obtain ⟨⟨x,nm,hb⟩,hq,H⟩ := T.Sat.opt H
 obtain ⟨_,_,rfl⟩ := handOf_some hq
 refine T.Sat.chkE H fun hc H₁ => ?_
 refine and2 hc fun hk hx => ?_
 obtain ⟨init,own,hg⟩ := isExc_some hx
 refine wpAny_Try_except (wpAny_execs_cons (X.hX f f.anew_self φ st φ α d σ s _ _ (Le.refl _) I ((T.sat_catch.mp H₁).mono (fun d₁ r hr v h' tk φ' α' ha ex I' R => ?_) fun d₁ told σ₁ hr e h' tk φ' α' ha ex I' XI => ?_)))
 ·obtain ⟨fl,σ₁⟩ := r
  cases R with
  | next => exact wpAny_execs_nil (wpAny_execs_nil (hr .next h' tk φ' α' ha ex I' .next))
  | ret rr => exact hr _ h' tk φ' α' ha ex I' (.ret rr)
 ·refine note_snd (s := { s with heap := h',toks := tk }) X.hA X.top I' XI fun h₁ I₁ X₁ _ => setFlight_snd (s := { s with heap := h₁,toks := tk }) I₁ X₁ fun h₂ I₂ X₂ _ => ?_
  exact caught_snd (s := { s with heap := h₂,toks := tk }) X (eq_of_beq hk) hg I₂ X₂ (hr.mono (fun _ _ q => q.step ha ex) fun _ _ _ q => q.step ha ex)
end
section
variable {f : Fm} {φ φ' φ₁ φ₀ : Ob} {α α' α₁ : Nat->Addr} {d d' d₁ : Nat} {σ σ' σ₁ : Sto} {h h' : Heap} {s : Shared} {A : Around} {C : Cx} {P : Lv} {n : Nat} {E : Value->Shared->Prop} {p : Pl}
theorem compOf_some {e : Expr} {g : Expr × (Expr × Expr × List Expr) × Scope} (h : compOf e = some g) : ∃ gs p,e = .ListComp g.1 gs g.2.2 p ∧ genOf gs = some g.2.1 := by
 cases e with
 | ListComp elt gs cs p =>
  have h : (match genOf gs with
   | some g => some (elt,g,cs)
   | none => none) = some g := h
  cases q : genOf gs with
  | none => rw [q] at h; exact noOpt h
  | some x => rw [q] at h; cases h; exact ⟨gs,p,rfl,q⟩
 | _ => exact noOpt h
theorem tupOf_some {e : Expr} {es : List Expr} (h : tupOf e = some es) : ∃ k p,e = .Tuple es k p := by
 cases e with
 | Tuple es k p => cases h; exact ⟨k,p,rfl⟩
 | _ => exact noOpt h
theorem opAdd_some {o : Operator} (h : opAdd o = true) : o = .Add := by cases o <;> first | rfl | cases h
theorem exec_asg (X : ExOk f A C P n) {t e : Expr} {pos : Pos} : f.X φ₀ (FlowR f.p) A (exec (.Assign [t] e pos) f.env) (fun σ => asgT C P f.env.scope σ t e) := by
 cases t with
 | Name x px =>
  intro φ α d σ s Q E le I H
  have H : T.Sat d (asgName C P f.env.scope σ x e (compOf e)) (QX f (FlowR f.p) φ α s Q) (EX f φ α s E) := H
  cases h : compOf e with
  | none => rw [h] at H; exact sx_AssignName X φ α d σ s Q E le I H
  | some g => rw [h] at H; obtain ⟨gs,p,rfl,hg⟩ := compOf_some h; exact sx_AssignComp X hg φ α d σ s Q E le I H
 | Tuple ts k p =>
  intro φ α d σ s Q E le I H
  have H : T.Sat d (asgTuple C P f.env.scope σ (.Tuple ts k p) ts e (tupOf e)) (QX f (FlowR f.p) φ α s Q) (EX f φ α s E) := H
  cases h : tupOf e with
  | none => rw [h] at H; exact sx_Unpack X h φ α d σ s Q E le I H
  | some es => rw [h] at H; obtain ⟨_,_,rfl⟩ := tupOf_some h; exact sx_AssignTuples X φ α d σ s Q E le I H
 | Attribute o a p => exact sx_SetAttr X
 | Subscript o i p => exact sx_SetItem X
 | _ => exact fun φ α d σ s Q E le I H => H.elim
theorem exec_for (X : ExOk f A C P n) {t e : Expr} {b : List Stmt} {pos : Pos} : f.X φ₀ (FlowR f.p) A (exec (.For t e b [] pos) f.env) (fun σ => forT P f.env.scope σ t e b) := by
 cases t with
 | Name x np => exact sx_ForName X
 | Tuple ts k tp =>
  intro φ α d σ s Q E le I H
  have H : T.Sat d (enumT P f.env.scope σ (.Tuple ts k tp) e b (enumArgs f.env.scope e)) (QX f (FlowR f.p) φ α s Q) (EX f φ α s E) := H
  cases h : enumArgs f.env.scope e with
  | none => rw [h] at H; exact sx_ForNil X φ α d σ s Q E le I H
  | some args => rw [h] at H; exact sx_ForEnum X h φ α d σ s Q E le I H
 | _ => exact fun φ α d σ s Q E le I H => H.elim
theorem exec_snd (X : ExOk f A C P n) (φ₀ : Ob) (st : Stmt) : f.X φ₀ (FlowR f.p) A (exec st f.env) (fun σ => exStep C P f.env.scope σ st) := by
 cases st with
 | Return e pos => exact sx_Return X
 | If t b o pos => exact sx_If X
 | While t b o pos => exact sx_While X
 | For t it b o pos =>
  intro φ α d σ s Q E le I H
  refine T.Sat.chkE H fun ho H₁ => ?_
  cases List.isEmpty_iff.mp ho
  exact exec_for X φ α d σ s Q E le I H₁
 | Assign ts e pos =>
  intro φ α d σ s Q E le I H
  refine T.Sat.oneE H fun t ht H₁ => ?_
  subst ht
  exact exec_asg X φ α d σ s Q E le I H₁
 | AugAssign t op e pos => cases t with
  | Attribute o a p =>
   intro φ α d σ s Q E le I H
   refine T.Sat.chkE H fun ho H₁ => ?_
   cases opAdd_some ho
   exact sx_Aug X φ α d σ s Q E le I H₁
  | _ => exact fun φ α d σ s Q E le I H => H.elim
 | Expr e pos => cases e with
  | Call g args kws p =>
   intro φ α d σ s Q E le I H
   refine T.Sat.chkE H fun hk H₁ => ?_
   cases List.isEmpty_iff.mp hk
   cases h : appOf g args p with
   | none => rw [h] at H₁; exact sx_ExprCall X (fun σ => rfl) φ α d σ s Q E le I H₁
   | some q => rw [h] at H₁; exact sx_Append X h φ α d σ s Q E le I H₁
  | _ => exact fun φ α d σ s Q E le I H => H.elim
 | Raise e c pos =>
  intro φ α d σ s Q E le I H
  refine T.Sat.chkE H fun hc H₁ => ?_
  cases Option.isNone_iff_eq_none.mp hc
  obtain ⟨e',he,H₂⟩ := T.Sat.opt H₁
  subst he
  exact sx_Raise X φ α d σ s Q E le I H₂
 | Try b hs o fin pos =>
  intro φ α d σ s Q E le I H
  refine T.Sat.chkE H fun hc H₁ => ?_
  refine and2 hc fun h1 h2 => ?_
  refine T.Sat.oneE H₁ fun st hb H₂ => ?_
  refine T.Sat.oneE H₂ fun hd hh H₃ => ?_
  cases List.isEmpty_iff.mp h1
  cases List.isEmpty_iff.mp h2
  subst hb hh
  exact sx_Try X φ α d σ s Q E le I H₃
 | _ => exact fun φ α d σ s Q E le I H => H.elim
end
section
variable {prog : Program} {w : World} {K : Frag} {p : Pl} {C : Cx}
structure Fm.Of (prog : Program) (w : World) (K : Frag) (p : Pl) (fs : List Addr) (f : Fm) : Prop where
 prog : f.prog = prog
 w : f.w = w
 K : f.K = K
 p : f.p = p
 fs : f.fs = fs
structure LvOk (prog : Program) (w : World) (K : Frag) (p : Pl) (C : Cx) (n : Nat) (fs : List Addr) (A : Around) : Prop where
 ev : ∀ f : Fm,f.Of prog w K p fs->EnvOk f.env->∀ φ₀ x,f.S φ₀ (Rep f.p) A (eval x f.env) (fun σ => (lvl C n).ev f.env.scope σ x)
 isT : ∀ f : Fm,f.Of prog w K p fs->EnvOk f.env->∀ φ₀ x,f.S φ₀ (fun _ a b => a = b) A (isTrue x f.env (eval x f.env)) (fun σ => (lvl C n).isT f.env.scope σ x)
 call : ∀ fa fn,DefAt K fa fn->CallOk prog w K p fs A fa ((lvl C n).call fn)
 ex : ∀ f : Fm,f.Of prog w K p fs->EnvOk f.env->Top f A->∀ φ₀ x,f.X φ₀ (FlowR f.p) A (exec x f.env) (fun σ => (lvl C n).ex f.env.scope σ x)
theorem lvl_snd (st : Stat prog w K p C) (df : Defs K p C st.mg st.mb) (sp : Special prog w K p C st.mg st.mb) (xs : ExcSt K p) {c : Nat} (hc : ∀ x,C.glob x = some .sorted->6 ≤ c) : ∀ (n : Nat) (fs : List Addr) (A : Around),AOk (c + n + 1) fs A->LvOk prog w K p C n fs A
 | 0,fs,A,hA => ⟨fun f _ _ φ₀ x φ α d σ s Q E le I H => by simp [lvl,Lv.zero] at H,fun f _ _ φ₀ x φ α d σ s Q E le I H => by simp [lvl,Lv.zero] at H,
   fun fa fn _ φ d s H vs xs Q E W HA HS => by simp [lvl,Lv.zero] at HS,fun f _ _ _ φ₀ x φ α d σ s Q E le I H => by simp [lvl,Lv.zero] at H⟩
 | n + 1,fs,A,hA => by
  have ih := lvl_snd st df sp xs hc n
  have L := ih fs A (hA.less (Nat.le_succ _))
  have hO : ∀ f : Fm,f.Of prog w K p fs->EvOk f A (lvl C n) := fun f o => by
   obtain ⟨rfl,rfl,rfl,rfl,rfl⟩ := o
   exact ⟨fun f' lk ok => L.ev f' ⟨lk.prog,lk.w,lk.K,lk.p,lk.fs⟩ ok,fun f' lk ok => L.isT f' ⟨lk.prog,lk.w,lk.K,lk.p,lk.fs⟩ ok⟩
  have hC : ∀ A fa fn,DefAt K fa fn->AOk (c + n + 1) fs A->CallOk prog w K p fs A fa ((lvl C n).call fn) := fun A fa fn hd hA => (ih fs A hA).call fa fn hd
  refine ⟨fun f o ok φ₀ x => ?_,fun f o ok φ₀ x => ?_,fun fa fn hd => ?_,fun f o ok tp φ₀ x => ?_⟩
  ·have O := hO f o
   obtain ⟨rfl,rfl,rfl,rfl,rfl⟩ := o
   exact eval_snd O ok st df sp hA (fun x hx => hA.less (by have := hc x hx; omega)) hC φ₀ x
  ·have O := hO f o
   obtain ⟨rfl,rfl,rfl,rfl,rfl⟩ := o
   exact snd_isT (O.ev f ⟨rfl,rfl,rfl,rfl,rfl⟩ ok) (O.isT f ⟨rfl,rfl,rfl,rfl,rfl⟩ ok) ok st hA rfl
  ·cases hd with
   | plain hfn =>
    refine call_ok hfn st.lim hA fun f A' e1 e2 e3 e4 ok tp hA' hsc φ₀ => ?_
    have := execs_snd (f := f) (A := A') (P := lvl C n) (fun φ₀ x => (ih f.fs A' hA').ex f ⟨e1,e2,e3,e4,rfl⟩ ok tp φ₀ x) fn.body φ₀
    rw [hsc] at this
    exact this
   | cell hfn =>
    refine call_okC hfn st.lim hA fun f A' e1 e2 e3 e4 ok tp hA' hsc φ₀ => ?_
    have := execs_snd (f := f) (A := A') (P := lvl C n) (fun φ₀ x => (ih f.fs A' hA').ex f ⟨e1,e2,e3,e4,rfl⟩ ok tp φ₀ x) fn.body φ₀
    rw [hsc] at this
    exact this
  ·have O := hO f o
   have X₀ := L.ex
   obtain ⟨rfl,rfl,rfl,rfl,rfl⟩ := o
   exact exec_snd ⟨st,df,xs,ok,tp,hA,O,hC,fun f' an φ₀ x => X₀ f' ⟨an.1,an.2.1,an.2.2.1,an.2.2.2.1,an.2.2.2.2.1⟩ (by rw [an.2.2.2.2.2]; exact ok) ⟨by rw [an.2.2.2.2.2]; exact tp.frames,by rw [an.2.2.2.2.2]; exact tp.frame⟩ φ₀ x⟩ φ₀ x
end
end Mine
end
section
open PySem PySem.W PyProof.Rows
set_option backward.match.sparseCases false
namespace Mine
theorem lookS_mem {α : Type} {l : List (Str × α)} {x : Str} {v : α} (h : lookS l x = some v) : (x,v) ∈ l := by
 induction l with
 | nil => exact noOpt h
 | cons p r ih =>
  have h : (match seq p.1 x with
   | true => some p.2
   | false => lookS r x) = some v := h
  cases e : seq p.1 x with
  | true =>
   rw [e] at h
   cases h
   rw [← seq_iff.mp e]
   exact .head _
  | false => rw [e] at h; exact .tail _ (ih h)
theorem filt {α : Type} {o : Option α} {q : α->Bool} {a : α} (h : o.filter q = some a) : o = some a ∧ q a = true := Option.filter_eq_some_iff.mp h
theorem fnNamed_some {x : Str} {f : Fn} (h : fnNamed x = some f) : (∃ P,(x,f,P) ∈ topRows) ∧ f.name = x ∧ isSelf f = false := by
 obtain ⟨a,b⟩ := filt h
 obtain ⟨q,e,rfl⟩ := Option.map_eq_some_iff.mp a
 obtain ⟨b1,b2⟩ := (Bool.and_eq_true_iff ..).mp b
 exact ⟨⟨q.2,lookS_mem e⟩,seq_iff.mp b1,(Bool.not_eq_true' _).mp b2⟩
theorem methNamed_some {c m : Str} {f : Fn} (h : methNamed c m = some f) : (∃ P,(m,f,P) ∈ clsRows c) ∧ isSelf f = true := by
 obtain ⟨a,b⟩ := filt h
 obtain ⟨q,e,rfl⟩ := Option.map_eq_some_iff.mp a
 exact ⟨⟨q.2,lookS_mem e⟩,b⟩
theorem glob_inv {x : Str} {g : G} {Z : Prop} (h : glob0 x = some g) (h1 : (x,g) ∈ gTable->Z) (h2 : ∀ q f,(x,q) ∈ clsTable->methNamed q.2.1 "__init__" = some f->.cls q.1 f q.2.2.1 q.2.2.2 = g->Z)
  (h3 : ∀ f,lookS gTable x = none->fnNamed x = some f->.fn f = g->Z) : Z := by
 unfold glob0 at h
 cases e : lookS gTable x with
 | some g' => rw [e] at h; cases h; exact h1 (lookS_mem e)
 | none =>
  rw [e] at h
  cases e2 : lookS clsTable x with
  | some q =>
   rw [e2] at h
   obtain ⟨f,a,b⟩ := Option.map_eq_some_iff.mp h
   exact h2 q f (lookS_mem e2) a b
  | none =>
   rw [e2] at h
   obtain ⟨f,a,b⟩ := Option.map_eq_some_iff.mp h
   exact h3 f e a b
noncomputable def spN : G->Str->Bool
 | .draw,x => seq x "_law_draw"
 | .sorted,x => seq x "sorted"
 | .hex,x => seq x "_law_hex"
 | .fn _,_ => false
 | .cls ..,_ => false
 | _,_ => true
theorem gTable_ok : gTable.all (fun p => spN p.2 p.1) = true := by kernel_rfl
theorem in_gT {x : Str} {g : G} (h : (x,g) ∈ gTable) : spN g x = true := List.all_eq_true.mp gTable_ok _ h
end Mine
end
section
open PySem PySem.W PyProof.Rows PySem.Builtin
namespace Mine
section
variable {f : Fm} {φ₀ φ : Ob} {A : Around} {C : Cx} {P : Lv} {n : Nat} {α : Nat->Addr} {d : Nat} {σ : Sto} {h : Heap} {s : Shared} {Q : Value->Shared->Prop} {E : Value->Shared->Prop}
noncomputable abbrev deckKvs (p : Pl) (m t : Int) (um ut : Tok) : List (Str × Value) := [(Str.ofString "cells",.ref p.dc),(Str.ofString "mixed",.int m um),(Str.ofString "turn",.int t ut)]
noncomputable abbrev HasDeck (f : Fm) (d : Nat) (m t : Int) (um ut : Tok) (vs : List Value) (h : Heap) : Prop := DeckV f.p.P f.p.dc d m t um ut vs (h.get? f.p.dk) (h.get? f.p.dc)
theorem DeckOk.on {p : Pl} (off : p.off = false) (x : DeckOk p d h) : p.dk ≠ p.dc ∧ ∃ m t um ut vs,DeckV p.P p.dc d m t um ut vs (h.get? p.dk) (h.get? p.dc) := x.or.resolve_left fun z => noB (off.symm.trans z.1)
theorem FI.hasDeck (off : f.p.off = false) (I : f.I φ α d σ h) : ∃ m t um ut vs,HasDeck f d m t um ut vs h := (I.deck.on off).2
theorem HasDeck.dictOf {m t : Int} {um ut : Tok} {vs : List Value} (hP : f.p.P = f.w.params) (x : HasDeck f d m t um ut vs h) : h.DictOf (strKind f.prog f.w) f.p.dk (deckKvs f.p m t um ut) := by
 obtain ⟨es,n,a,b⟩ := x.dict
 exact Heap.dictOf_iff.mpr ⟨_,a,b f.prog f.w hP.symm⟩
theorem HasDeck.ok {m t : Int} {um ut : Tok} {vs : List Value} {d' : Nat} (hne : f.p.dk ≠ f.p.dc) (hd : d' ≤ d) (x : HasDeck f d m t um ut vs h) : DeckOk f.p d' h :=
 ⟨let ⟨es,n,a,_⟩ := x.dict; ⟨es,n,a⟩,let ⟨_,c⟩ := x.list; ⟨_,c,(fun _ q => by cases q)⟩,.inr ⟨hne,m,t,um,ut,vs,x.dict,x.list,x.its,x.len,x.m0,x.m1,x.t0,Int.le_trans (Int.add_le_add_left (Int.ofNat_le.mpr hd) t) x.t1⟩⟩
theorem DeckOk.ne {p : Pl} (off : p.off = false) (x : DeckOk p d h) : p.dk ≠ p.dc := (x.on off).1
theorem dict_plain {prog : Program} {w : World} {h : Heap} {a : Addr} {kvs : List (Str × Value)} (x : h.DictOf (strKind prog w) a kvs) :
  ∃ es n,h.get? a = some (dictOf es n) ∧ ∀ (prog' : Program) (w' : World),w'.params = w.params->(dictOf es n).IsDictOf (strKind prog' w') kvs := by
 obtain ⟨⟨c,dd,dt,sl⟩,es,ep,ho,⟨e1,e2,e3⟩,hd,hk,hp,hn⟩ := x
 cases e1
 cases e2
 cases e3
 cases hd
 refine ⟨es.toList,ep,ho,fun prog' w' hw' => ⟨es,ep,⟨rfl,rfl,rfl⟩,rfl,fun e he => ?_,?_,hn⟩⟩
 ·obtain ⟨k,a,b⟩ := hk e he
  refine ⟨k,a,b.trans ?_⟩
  show hashStr w k = hashStr w' k
  unfold hashStr
  rw [hw']
 ·clear ho hk hn
  generalize es.toList = l at hp
  induction hp with
  | nil => exact .nil
  | cons a b _ ih => exact .cons a b ih
theorem deck_back {m t : Int} {um ut : Tok} (hP : f.p.P = f.w.params) (x : h.DictOf (strKind f.prog f.w) f.p.dk (deckKvs f.p m t um ut)) :
  ∃ es n,h.get? f.p.dk = some (dictOf es n) ∧ ∀ (prog : Program) (w : World),w.params = f.p.P->(dictOf es n).IsDictOf (strKind prog w) (deckKvs f.p m t um ut) :=
 let ⟨es,n,a,b⟩ := dict_plain x; ⟨es,n,a,fun prog w e => b prog w (e.trans hP)⟩
theorem FI.deckTurned {h' : Heap} {a : Addr} {d' : Nat} (I : f.I φ α d σ h) (ha : a = f.p.dk ∨ a = f.p.dc) (sb : Heap.SameBut a h h') (dk' : DeckOk f.p d' h') : f.I φ α d' σ h' := by
 have k : ∀ b o,h.get? b = some o->b ≠ f.p.dk->b ≠ f.p.dc->h'.get? b = some o := fun b o q h1 h2 => (sb.2 b (by rcases ha with rfl | rfl <;> assumption)).trans q
 refine (FI.back I (fun b o q _ h1 h2 => k b o q h1 h2) (fun b hb o q => ⟨o.slots,?_⟩) dk' (Le.refl _) (fun a o q => k a o (I.sub a o q) (fun z => by rw [z,I.ndk] at q; cases q) fun z => by rw [z,I.ndc] at q; cases q) fun a h1 h2 => absurd h1 h2).1
 obtain ⟨_,_,h1,h2,_⟩ := I.ffs b hb
 exact k b o q h1 h2
theorem deck_get (ok : EnvOk f.env) (hP : f.p.P = f.w.params) (I : f.I φ α d σ s.heap) {x k : Str} {px pk pos : Pos} (hx : kindOf f.env.scope.names x = some .local) (hs : getS σ (idx f.env.scope.names x) = some (.fz .deck))
  {m t : Int} {um ut : Tok} {vs : List Value} (D : HasDeck f d m t um ut vs s.heap) {v : Value} (hv : valueAt (deckKvs f.p m t um ut) k = some v) (next : ∀ tk,Q v { s with toks := tk }) :
  wpAny (model f.prog f.w) A (eval (.Subscript (.Name x px) (.Constant (.str k) 0 pk) pos) f.env) Q E s := by
 refine Subscript_ (name_local ok I hx hs fun u hu => ?_)
 have hu : Rep f.p φ u .deck := hu
 cases hu
 refine wpAny_Constant_str ?_
 have hd := D.dictOf hP
 have hd' : ({ s with toks := s.toks + 1 } : Shared).heap.DictOf (strKind f.prog f.w) f.p.dk (deckKvs f.p m t um ut) := hd
 exact subscriptTail_builtin (Heap.DictOf.typeIs hd') slot_dict_getitem.lookup (wpAny_getItem_of (strKind_is _ _ _ _) hd'.mapOf hv (next _))
end
end Mine
end
section
open PySem PySem.W PyProof.Rows PySem.Builtin
set_option backward.match.sparseCases false
namespace Mine
section
variable {f : Fm} {φ₀ φ : Ob} {A : Around} {C : Cx} {P : Lv} {n : Nat} {α : Nat->Addr} {d : Nat} {σ : Sto} {h : Heap} {s : Shared} {Q : Value->Shared->Prop} {E : Value->Shared->Prop}
noncomputable def IvE (f : Fm) (A : Around) (h : Heap) (e : Expr) (R : Int->Prop) : Prop :=
 ∀ (s : Shared) (Q E : Value->Shared->Prop),s.heap = h->(∀ i u tk,R i->Q (.int i u) { s with toks := tk })->wpAny (model f.prog f.w) A (eval e f.env) Q E s
theorem IvE.const {i : Int} {k : Nat} {pos : Pos} : IvE f A h (.Constant (.int i) k pos) (· = i) := fun s Q E _ hq => wpAny_Constant_int (hq i _ _ rfl)
theorem IvE.name (ok : EnvOk f.env) (I : f.I φ α d σ h) {x : Str} {pos : Pos} {i : Int} (hx : kindOf f.env.scope.names x = some .local) (hs : getS σ (idx f.env.scope.names x) = some (.fz (.int i))) : IvE f A h (.Name x pos) (· = i) := fun s Q E e hq => by
 subst e
 refine name_local ok I hx hs fun u hu => ?_
 obtain ⟨t,rfl⟩ := Rep.intOf (f := f) hu
 exact hq i t s.toks rfl
theorem IvE.deck (ok : EnvOk f.env) (hP : f.p.P = f.w.params) (I : f.I φ α d σ h) {x k : Str} {px pk pos : Pos} (hx : kindOf f.env.scope.names x = some .local) (hs : getS σ (idx f.env.scope.names x) = some (.fz .deck))
  {m t : Int} {um ut : Tok} {vs : List Value} (D : HasDeck f d m t um ut vs h) {i : Int} {u : Tok} (hv : valueAt (deckKvs f.p m t um ut) k = some (.int i u)) : IvE f A h (.Subscript (.Name x px) (.Constant (.str k) 0 pk) pos) (· = i) := fun s Q E e hq => by
 subst e
 exact deck_get ok hP I hx hs D hv fun tk => hq i u tk rfl
section
variable {l r : Expr} {R₁ R₂ R : Int->Prop} {pos : Pos}
theorem IvE.mono (hl : IvE f A h l R₁) (k : ∀ i,R₁ i->R i) : IvE f A h l R := fun s Q E e hq => hl s Q E e fun i u tk hi => hq i u tk (k i hi)
theorem IvE.bin {op : Operator} (hl : IvE f A h l R₁) (hr : IvE f A h r R₂)
  (go : ∀ a b u v (s : Shared) (Q E : Value->Shared->Prop),R₁ a->R₂ b->(∀ i w tk,R i->Q (.int i w) { s with toks := tk })->wpAny (model f.prog f.w) A (binaryOp op (.int a u) (.int b v)) Q E s) : IvE f A h (.BinOp l op r pos) R := fun s Q E e hq =>
 wpAny_BinOp (hl s _ E e fun a u tk ha => hr { s with toks := tk } _ E e fun b v tk' hb => go a b u v { s with toks := tk' } Q E ha hb fun i w tk'' hi => hq i w tk'' hi)
theorem IvE.add (hl : IvE f A h l R₁) (hr : IvE f A h r R₂) (k : ∀ a b,R₁ a->R₂ b->R (a + b)) : IvE f A h (.BinOp l .Add r pos) R :=
 hl.bin hr fun a b u v s Q E ha hb hq => add_int (hq _ _ _ (k a b ha hb))
theorem IvE.mul (hl : IvE f A h l R₁) (hr : IvE f A h r R₂) (k : ∀ a b,R₁ a->R₂ b->a.natAbs < 2 ^ 60 ∧ R (a * b)) : IvE f A h (.BinOp l .Mult r pos) R :=
 hl.bin hr fun a b u v s Q E ha hb hq => mul_int (hq _ _ _ (k a b ha hb).2) (PySem.IntMulOk.of_left (natAbs_lt60 (k a b ha hb).1))
theorem IvE.mod (hl : IvE f A h l R₁) (hr : IvE f A h r R₂) (k : ∀ a b,R₁ a->R₂ b->b ≠ 0 ∧ R (a.fmod b)) : IvE f A h (.BinOp l .Mod r pos) R :=
 hl.bin hr fun a b u v s Q E ha hb hq => mod_int (k a b ha hb).1 (hq _ _ _ (k a b ha hb).2)
theorem IvE.fdiv (hl : IvE f A h l R₁) (hr : IvE f A h r R₂) (k : ∀ a b,R₁ a->R₂ b->b ≠ 0 ∧ b.natAbs < 1073741824 ∧ R (a.fdiv b)) : IvE f A h (.BinOp l .FloorDiv r pos) R :=
 hl.bin hr fun a b u v s Q E ha hb hq => floordiv_int (k a b ha hb).1 (hq _ _ _ (k a b ha hb).2.2) (Or.inl (PyProof.noPylong_small (k a b ha hb).2.1))
end
theorem store_int (ok : EnvOk f.env) (I : f.I φ α d σ s.heap) {x : Str} {i : Int} {u : Tok} {Q : Unit->Shared->Prop} (hx : kindOf f.env.scope.names x = some .local)
  (next : ∀ h' tk,f.I φ α d (putS σ (idx f.env.scope.names x) (.fz (.int i))) h'->Q () { s with heap := h',toks := tk }) : wpAny (model f.prog f.w) A (storeName f.env x (.int i u)) Q E s :=
 store_snd ok (sl := .fz (.int i)) (a := α (idx f.env.scope.names x)) hx I (.int i u) (fun q => by cases q) fun h' tk I' hs => next h' tk (by rw [upd_same] at I'; exact I')
theorem assign_int (ok : EnvOk f.env) (I : f.I φ α d σ s.heap) {x : Str} {e : Expr} {px pos : Pos} {R : Int->Prop} {Q : Flow->Shared->Prop} (hx : kindOf f.env.scope.names x = some .local) (hn : noComp e = true) (he : IvE f A s.heap e R)
  (hsw : swapsWith e (some (.Name x px)) pos.line f.env = pure false)
  (next : ∀ i h' tk,R i->f.I φ α d (putS σ (idx f.env.scope.names x) (.fz (.int i))) h'->Q .next { s with heap := h',toks := tk }) : wpAny (model f.prog f.w) A (exec (.Assign [.Name x px] e pos) f.env) Q E s :=
 wpAny_Assign_Name (he s _ E rfl fun i u tk hi => store_int (s := { s with toks := tk }) ok I hx fun h' tk' I' => next i h' tk' hi I') hsw
end
noncomputable def dkAt (p : Nat->Pos) (i : Nat) (k : Str) : Expr := .Subscript (.Name "deck" (p i)) (.Constant (.str k) 0 (p (i + 1))) (p (i + 2))
noncomputable def cI (p : Nat->Pos) (i : Nat) (z : Int) : Expr := .Constant (.int z) 0 (p i)
noncomputable def nM (p : Nat->Pos) (i : Nat) (x : Str) : Expr := .Name x (p i)
noncomputable def drS1 (p : Nat->Pos) : Stmt := .Assign [dkAt p 0 "turn"] (.BinOp (dkAt p 3 "turn") .Add (cI p 6 1) (p 7)) (p 8)
noncomputable def drS2 (p : Nat->Pos) : Stmt := .Assign [nM p 9 "figure"] (.BinOp (dkAt p 10 "mixed") .Add (.BinOp (.BinOp (cI p 13 605959) .Mult (dkAt p 14 "turn") (p 17)) .Mult (dkAt p 18 "turn") (p 21)) (p 22)) (p 23)
noncomputable def drB1 (p : Nat->Pos) : Stmt := .Assign [nM p 29 "cell"] (.Call (.Attribute (dkAt p 30 "cells") "pop" (p 33)) [] [] (p 34)) (p 35)
noncomputable def drC1 (p : Nat->Pos) : Stmt := .Expr (.Call (.Attribute (dkAt p 39 "cells") "append" (p 42)) [.BinOp (nM p 43 "cell") .FloorDiv (nM p 44 "below") (p 45)] [] (p 46)) (p 47)
noncomputable def drC2 (p : Nat->Pos) : Stmt := .Return (some (.BinOp (nM p 48 "cell") .Mod (nM p 49 "below") (p 50))) (p 51)
noncomputable def drB2 (p : Nat->Pos) : Stmt := .If (.Compare (nM p 36 "cell") [.GtE] [cI p 37 1000000] (p 38)) [drC1 p,drC2 p] [] (p 52)
noncomputable def drB3 (p : Nat->Pos) : Stmt := .Assign [nM p 53 "figure"] (.BinOp (nM p 54 "figure") .Add (.BinOp (nM p 55 "cell") .Mod (cI p 56 2147483563) (p 57)) (p 58)) (p 59)
noncomputable def drS3 (p : Nat->Pos) : Stmt := .If (.Compare (dkAt p 24 "cells") [.NotEq] [.List [] (p 27)] (p 28)) [drB1 p,drB2 p,drB3 p] [] (p 60)
noncomputable def drS4 (p : Nat->Pos) : Stmt := .Assign [nM p 61 "figure"] (.BinOp (.BinOp (.BinOp (nM p 62 "figure") .Mod (cI p 63 2147483629) (p 64)) .Mult (cI p 65 40692) (p 66)) .Mod (cI p 67 2147483647) (p 68)) (p 69)
noncomputable def drS5 (p : Nat->Pos) : Stmt := .Assign [nM p 70 "figure"] (.BinOp (.BinOp (.BinOp (nM p 71 "figure") .Mult (nM p 72 "figure") (p 73)) .Add (cI p 74 5959) (p 75)) .Mod (cI p 76 2147483587) (p 77)) (p 78)
noncomputable def drS6 (p : Nat->Pos) : Stmt := .Return (some (.BinOp (.BinOp (.BinOp (.BinOp (nM p 79 "figure") .Mult (cI p 80 39373) (p 81)) .Mod (cI p 82 2147483579) (p 83)) .FloorDiv (cI p 84 64) (p 85)) .Mod (nM p 86 "below") (p 87))) (p 88)
noncomputable def drBody (p : Nat->Pos) : List Stmt := [drS1 p,drS2 p,drS3 p,drS4 p,drS5 p,drS6 p]
noncomputable def posE : Nat->Expr->List Pos
 | 0,_ => []
 | n + 1,e => match e with
  | .Name _ p => [p]
  | .Constant _ _ p => [p]
  | .Subscript a b p => posE n a ++ posE n b ++ [p]
  | .BinOp a _ b p => posE n a ++ posE n b ++ [p]
  | .Compare a _ l p => posE n a ++ l.flatMap (posE n) ++ [p]
  | .List l p => l.flatMap (posE n) ++ [p]
  | .UnaryOp _ a p => posE n a ++ [p]
  | .Slice a b c p => (a.toList ++ b.toList ++ c.toList).flatMap (posE n) ++ [p]
  | .Dict ks l p => (ks.filterMap id).flatMap (posE n) ++ l.flatMap (posE n) ++ [p]
  | .Attribute a _ p => posE n a ++ [p]
  | .Call a l _ p => posE n a ++ l.flatMap (posE n) ++ [p]
  | .Tuple l _ p => l.flatMap (posE n) ++ [p]
  | .ListComp e gs _ p => posE n e ++ gs.flatMap (fun g => posE n g.target ++ posE n g.iter) ++ [p]
  | _ => []
noncomputable def posS : Nat->Stmt->List Pos
 | 0,_ => []
 | n + 1,s => match s with
  | .Assign l e p => l.flatMap (posE 20) ++ posE 20 e ++ [p]
  | .If t b o p => posE 20 t ++ b.flatMap (posS n) ++ o.flatMap (posS n) ++ [p]
  | .Expr e p => posE 20 e ++ [p]
  | .Return (some e) p => posE 20 e ++ [p]
  | _ => []
noncomputable def drawFn : Fn := (fnNamed "_law_draw").getD default
noncomputable def drawPos : Nat->Pos := fun i => ((drawFn.body.flatMap (posS 20))[i]?).getD default
theorem drawFn_body : drawFn.body = drBody drawPos := by kernel_rfl
noncomputable def drawNames : List (Str × NameKind) := [("deck",.local),("below",.local),("figure",.local),("cell",.local)]
theorem drawFn_names : drawFn.scope.names = drawNames := by kernel_rfl
theorem drawPos_pop : (drawPos 33).endLine == (drawPos 34).line := by decide +kernel
theorem drawPos_app : (drawPos 42).endLine == (drawPos 46).line := by decide +kernel
noncomputable def drawLv : Lv := { Lv.zero with ex := fun _ σ _ => match σ with
 | [some (.fz .deck),some (.fz (.int n)),none,none] => if 0 < n ∧ n < 1000 then .draw n.toNat fun r => .ret (.ret (.int r),σ) else .stuck "draw"
 | _ => .stuck "draw" }
theorem FI.forgetD {K : Frag} {p : Pl} {e g : Heap} {fs : List Addr} {env : Env} {φ : Ob} {α : Nat->Addr} {d : Nat} {σ σ' : Sto} {h : Heap} (I : FI K p e g fs env φ α d σ' h) (k : ∀ i s,getS σ i = some s->getS σ' i = some s) : FI K p e g fs env φ α d σ h := by
 obtain ⟨m,F,V⟩ := I.loc
 exact ⟨⟨m,F,fun x s h1 h2 => V x s h1 (k _ _ h2)⟩,fun x s h1 h2 => I.cel x s h1 (k _ _ h2),fun i s h1 => I.own i s (k _ _ h1),fun i j s s' h1 h2 => I.inj i j s s' (k _ _ h1) (k _ _ h2),I.sub,I.stat,I.kin,I.nL,I.ndk,I.ndc,I.dkL,I.dcL,I.deck,I.old,I.live,I.eL,I.gdk,I.gdc,I.ffs,I.ups⟩
section
variable {f : Fm} {φ₀ φ : Ob} {A : Around} {C : Cx} {n : Nat} {α : Nat->Addr} {d : Nat} {σ : Sto} {h : Heap} {s : Shared} {Q : Flow->Shared->Prop} {E : Value->Shared->Prop}
theorem k_deck : kindOf drawNames "deck" = some .local := by decide +kernel
theorem k_below : kindOf drawNames "below" = some .local := by decide +kernel
theorem k_figure : kindOf drawNames "figure" = some .local := by decide +kernel
theorem k_cell : kindOf drawNames "cell" = some .local := by decide +kernel
theorem i_deck : idx drawNames "deck" = 0 := by decide +kernel
theorem i_below : idx drawNames "below" = 1 := by decide +kernel
theorem i_figure : idx drawNames "figure" = 2 := by decide +kernel
theorem i_cell : idx drawNames "cell" = 3 := by decide +kernel
theorem fmod_mem {a b : Int} (hb : 0 < b) : 0 ≤ a.fmod b ∧ a.fmod b < b := ⟨Int.fmod_nonneg_of_pos a hb,Int.fmod_lt_of_pos a hb⟩
structure DS (σ : Sto) (b : Int) : Prop where
 len : σ.length = 4
 deck : getS σ 0 = some (.fz .deck)
 below : getS σ 1 = some (.fz (.int b))
theorem DS.put {b : Int} {i : Nat} {sl : Slot} (x : DS σ b) (hi : 2 ≤ i) : DS (putS σ i sl) b := by
 refine ⟨by unfold putS; rw [List.length_set]; exact x.len,?_,?_⟩
 ·unfold putS; rw [getS_set,if_neg (by omega)]; exact x.deck
 ·unfold putS; rw [getS_set,if_neg (by omega)]; exact x.below
theorem putS_self {i : Nat} {sl : Slot} (hi : i < σ.length) : getS (putS σ i sl) i = some sl := by
 unfold putS; rw [getS_set,if_pos ⟨rfl,hi⟩]
theorem dr_S1 (off : f.p.off = false) (ok : EnvOk f.env) (st : Stat f.prog f.w f.K f.p C) (hn : f.env.scope.names = drawNames) {p : Nat->Pos} {b : Int} (I : f.I φ α (d + 1) σ s.heap) (x : DS σ b)
  (next : ∀ h' tk,f.I φ α d σ h'->Q .next { s with heap := h',toks := tk }) : wpAny (model f.prog f.w) A (exec (drS1 p) f.env) Q E s := by
 have kd : kindOf f.env.scope.names "deck" = some .local := by rw [hn]; exact k_deck
 have sd : getS σ (idx f.env.scope.names "deck") = some (.fz .deck) := by rw [hn,i_deck]; exact x.deck
 obtain ⟨m,t,um,ut,vs,D⟩ := I.hasDeck off
 have eT : IvE f A s.heap (.BinOp (dkAt p 3 "turn") .Add (cI p 6 1) (p 7)) (· = t + 1) :=
  (IvE.deck ok st.hP I kd sd D (i := t) (u := ut) rfl).add IvE.const fun a b ha hb => by rw [ha,hb]
 refine wpAny_Assign_Subscript (eT s _ E rfl fun i u tk hi => ?_) rfl
 subst hi
 refine name_local (s := { s with toks := tk }) ok I kd sd fun w hw => ?_
 have hw : Rep f.p φ w .deck := hw
 cases hw
 refine wpAny_Constant_str ?_
 refine wpAny_setItem_pairs (knd := strKind f.prog f.w) (strKind_is _ _ _ _) (D.dictOf st.hP) (fun h' hd sb => ?_) (by show 3 ≤ sizeLine; rw [sizeLine_eq]; decide)
 have e : stored (deckKvs f.p m t um ut) (Str.ofString "turn") (.int (t + 1) u) = deckKvs f.p m (t + 1) um u := by with_unfolding_all rfl
 rw [e] at hd
 obtain ⟨es,k,a1,a2⟩ := deck_back st.hP hd
 obtain ⟨_,⟨k₂,hc⟩,r1,r2,r3,r4,r5,r6⟩ := D
 have hne := I.deck.ne off
 have D' : HasDeck f d m (t + 1) um u vs h' := ⟨⟨es,k,a1,a2⟩,⟨k₂,(sb.2 _ (Ne.symm hne)).trans hc⟩,r1,r2,r3,r4,by omega,by push_cast at r6; omega⟩
 exact next h' _ (I.deckTurned (.inl rfl) sb (D'.ok hne (Nat.le_refl _)))
end
end Mine
end
section
open PySem PySem.W PyProof.Rows PySem.Builtin
namespace Mine
section
variable {f : Fm} {φ₀ φ : Ob} {A : Around} {C : Cx} {n : Nat} {α : Nat->Addr} {d : Nat} {σ : Sto} {h : Heap} {s : Shared} {Q : Flow->Shared->Prop} {E : Value->Shared->Prop} {b : Int}
theorem HasDeck.keeps {m t : Int} {um ut : Tok} {vs : List Value} {h' : Heap} (x : HasDeck f d m t um ut vs h) (k : ∀ b o,h.get? b = some o->h'.get? b = some o) : HasDeck f d m t um ut vs h' := by
 exact ⟨let ⟨es,n,a1,a2⟩ := x.dict; ⟨es,n,k _ _ a1,a2⟩,let ⟨k₂,hc⟩ := x.list; ⟨k₂,k _ _ hc⟩,x.its,x.len,x.m0,x.m1,x.t0,x.t1⟩
theorem HasDeck.same {m t : Int} {um ut : Tok} {vs : List Value} {h' : Heap} (x : HasDeck f d m t um ut vs h) (k1 : h'.get? f.p.dk = h.get? f.p.dk) (k2 : h'.get? f.p.dc = h.get? f.p.dc) : HasDeck f d m t um ut vs h' := by
 rw [HasDeck,k1,k2]
 exact x
theorem dr_S2 (off : f.p.off = false) (ok : EnvOk f.env) (st : Stat f.prog f.w f.K f.p C) (hn : f.env.scope.names = drawNames) {p : Nat->Pos} (I : f.I φ α d σ s.heap) (x : DS σ b)
  (next : ∀ i h' tk,f.I φ α d (putS σ 2 (.fz (.int i))) h'->Q .next { s with heap := h',toks := tk }) : wpAny (model f.prog f.w) A (exec (drS2 p) f.env) Q E s := by
 have kd : kindOf f.env.scope.names "deck" = some .local := by rw [hn]; exact k_deck
 have sd : getS σ (idx f.env.scope.names "deck") = some (.fz .deck) := by rw [hn,i_deck]; exact x.deck
 obtain ⟨m,t,um,ut,vs,D⟩ := I.hasDeck off
 have D' := D
 obtain ⟨_,_,_,r2,r3,r4,r5,r6⟩ := D'
 have tE : ∀ i,IvE f A s.heap (dkAt p i "turn") (· = t) := fun i => IvE.deck ok st.hP I kd sd D (i := t) (u := ut) rfl
 have mE : ∀ i,IvE f A s.heap (dkAt p i "mixed") (· = m) := fun i => IvE.deck ok st.hP I kd sd D (i := m) (u := um) rfl
 refine assign_int ok I (x := "figure") (R := fun _ => True) (by rw [hn]; exact k_figure) rfl ?_ rfl fun i h' tk _ I' => next i h' tk (by rw [hn,i_figure] at I'; exact I')
 refine (mE 10).add (IvE.mul (R₁ := fun i => i = 605959 * t) (R₂ := fun i => i = t) (R := fun _ => True) (IvE.mul IvE.const (tE 14) fun a b ha hb => ?_) (tE 18) fun a b ha hb => ?_) fun _ _ _ _ => trivial
 ·subst ha hb; exact ⟨by decide,rfl⟩
 ·subst ha hb; exact ⟨by omega,trivial⟩
theorem dr_S456 (ok : EnvOk f.env) (hn : f.env.scope.names = drawNames) (hb : 0 < b) {p : Nat->Pos} {i₀ : Int} (I : f.I φ α d σ s.heap) (x : DS σ b) (hf : getS σ 2 = some (.fz (.int i₀)))
  (next : ∀ i u σ' h' tk,0 ≤ i->i < b->f.I φ α d σ' h'->DS σ' b->Q (.ret (.int i u)) { s with heap := h',toks := tk }) : wpAny (model f.prog f.w) A (execs [drS4 p,drS5 p,drS6 p] f.env) Q E s := by
 have kf : kindOf f.env.scope.names "figure" = some .local := by rw [hn]; exact k_figure
 have kb : kindOf f.env.scope.names "below" = some .local := by rw [hn]; exact k_below
 refine wpAny_execs_cons ?_
 refine assign_int ok I (x := "figure") (R := fun i => 0 ≤ i ∧ i < 2147483647) kf rfl ?_ rfl fun i h' tk hi I' => ?_
 ·refine IvE.mod (R₁ := fun _ => True) (R₂ := fun i => i = 2147483647) ?_ IvE.const fun a b ha hb => ?_
  ·refine IvE.mul (R₁ := fun i => 0 ≤ i ∧ i < 2147483629) (R₂ := fun i => i = 40692) ?_ IvE.const fun a b ha hb => ⟨by omega,trivial⟩
   exact IvE.mod (R₁ := fun i => i = i₀) (R₂ := fun i => i = 2147483629) (IvE.name ok I kf (by rw [hn,i_figure]; exact hf)) IvE.const fun a b ha hb => by subst hb; exact ⟨by decide,fmod_mem (by decide)⟩
  ·subst hb; exact ⟨by decide,fmod_mem (by decide)⟩
 ·rw [hn,i_figure] at I'
  have x' : DS (putS σ 2 (.fz (.int i))) b := x.put (by decide)
  have f' : getS (putS σ 2 (.fz (.int i))) 2 = some (.fz (.int i)) := putS_self (by rw [x.len]; decide)
  refine wpAny_execs_cons ?_
  refine assign_int (s := { s with heap := h',toks := tk }) ok I' (x := "figure") (R := fun i => 0 ≤ i ∧ i < 2147483587) kf rfl ?_ rfl fun j h'' tk' hj I'' => ?_
  ·refine IvE.mod (R₁ := fun _ => True) (R₂ := fun i => i = 2147483587) ?_ IvE.const fun a b ha hb => by subst hb; exact ⟨by decide,fmod_mem (by decide)⟩
   refine IvE.add (R₁ := fun _ => True) (R₂ := fun i => i = 5959) ?_ IvE.const fun _ _ _ _ => trivial
   refine IvE.mul (R₁ := fun z => z = i) (R₂ := fun z => z = i) (IvE.name ok I' kf (by rw [hn,i_figure]; exact f')) (IvE.name ok I' kf (by rw [hn,i_figure]; exact f')) fun a b ha hb => ?_
   subst ha; exact ⟨by omega,trivial⟩
  ·rw [hn,i_figure] at I''
   have x'' : DS (putS (putS σ 2 (.fz (.int i))) 2 (.fz (.int j))) b := x'.put (by decide)
   have f'' : getS (putS (putS σ 2 (.fz (.int i))) 2 (.fz (.int j))) 2 = some (.fz (.int j)) := putS_self (by rw [x'.len]; decide)
   refine wpAny_execs_cons (wpAny_Return_some ?_)
   have e : IvE f A h'' (.BinOp (.BinOp (.BinOp (.BinOp (nM p 79 "figure") .Mult (cI p 80 39373) (p 81)) .Mod (cI p 82 2147483579) (p 83)) .FloorDiv (cI p 84 64) (p 85)) .Mod (nM p 86 "below") (p 87)) (fun i => 0 ≤ i ∧ i < b) := by
    refine IvE.mod (R₁ := fun _ => True) (R₂ := fun i => i = b) ?_ (IvE.name ok I'' kb (by rw [hn,i_below]; exact x''.below)) fun a c ha hc => by subst hc; exact ⟨by omega,fmod_mem hb⟩
    refine IvE.fdiv (R₁ := fun _ => True) (R₂ := fun i => i = 64) ?_ IvE.const fun a c ha hc => by subst hc; exact ⟨by decide,by decide,trivial⟩
    refine IvE.mod (R₁ := fun _ => True) (R₂ := fun i => i = 2147483579) ?_ IvE.const fun a c ha hc => by subst hc; exact ⟨by decide,trivial⟩
    refine IvE.mul (R₁ := fun z => z = j) (R₂ := fun i => i = 39373) (IvE.name ok I'' kf (by rw [hn,i_figure]; exact f'')) IvE.const fun a c ha hc => by subst ha; exact ⟨by omega,trivial⟩
   exact e { s with heap := h'',toks := tk' } _ E rfl fun z u tk'' hz => next z u _ h'' tk'' hz.1 hz.2 I'' x''
theorem cells_any (off : f.p.off = false) (ok : EnvOk f.env) (st : Stat f.prog f.w f.K f.p C) (hn : f.env.scope.names = drawNames) {p : Nat->Pos} {i : Nat} {mm : Str} {apos pos : Pos} {args : List Expr} {Q : Value->Shared->Prop} (I : f.I φ α d σ s.heap) (x : DS σ b)
  {m t : Int} {um ut : Tok} {vs : List Value} (D : HasDeck f d m t um ut vs s.heap) (hm : methOk apos pos args = true) {id : String} (slot : PySem.Slot "list" mm id) (hty : typeOf (.builtin id) = pure (.type "method_descriptor"))
  (hcall : ∀ tk,wpAny (model f.prog f.w) A (spliced (backTo pos (starEach args f.env))) (fun ws s₁ => f.K.In s₁.heap ∧ wpAny (model f.prog f.w) A (call (.builtin id) (.ref f.p.dc :: ws)) Q E s₁) E { s with toks := tk }) :
  wpAny (model f.prog f.w) A (eval (.Call (.Attribute (dkAt p i "cells") mm apos) args [] pos) f.env) Q E s := by
 have kd : kindOf f.env.scope.names "deck" = some .local := by rw [hn]; exact k_deck
 have sd : getS σ (idx f.env.scope.names "deck") = some (.fz .deck) := by rw [hn,i_deck]; exact x.deck
 have hp : args.all plainR = true := by unfold methOk at hm; simp only [Bool.and_eq_true] at hm; exact hm.1.2
 refine methodCall_gen rfl hm (deck_get ok st.hP I kd sd D (v := .ref f.p.dc) rfl fun tk => fun pl => ?_)
 obtain ⟨k,hc⟩ := D.list
 have hd : ∀ a,Value.ref f.p.dc = .ref a->∃ o,s.heap.get? a = some o ∧ o.dict = none := fun a e => by cases e; exact ⟨_,hc,rfl⟩
 have key : wpAny (model f.prog f.w) A (callWith pos (.builtin id) [.ref f.p.dc] (backTo pos (starEach args f.env)) []) Q E { s with toks := tk } := callWith_any (K := f.K) (first := [.ref f.p.dc]) (.bi id) hp (hcall tk)
 have hT : ({ s with toks := tk } : Shared).TypeIs (.ref f.p.dc) "list" := ⟨_,hc,rfl⟩
 with_reducible exact getMethod_builtin (T := "list") (id := id) hT PySem.F.plainAttrs_list slot hty hd key
theorem dr_B1 (off : f.p.off = false) (ok : EnvOk f.env) (st : Stat f.prog f.w f.K f.p C) (hn : f.env.scope.names = drawNames) {p : Nat->Pos} (hp1 : ((p 33).endLine == (p 34).line) = true) (I : f.I φ α d σ s.heap) (x : DS σ b)
  {m t : Int} {um ut : Tok} {vs : List Value} (D : HasDeck f d m t um ut vs s.heap) (hv : vs ≠ [])
  (next : ∀ c h' tk vs',f.I φ α d (putS σ 3 (.fz (.int c))) h'->vs'.length < 8->HasDeck f d m t um ut vs' h'->Q .next { s with heap := h',toks := tk }) : wpAny (model f.prog f.w) A (exec (drB1 p) f.env) Q E s := by
 have kc : kindOf f.env.scope.names "cell" = some .local := by rw [hn]; exact k_cell
 have hm : methOk (p 33) (p 34) [] = true := by unfold methOk; rw [hp1]; rfl
 refine wpAny_Assign_Name ?_ rfl
 refine cells_any off ok st hn I x D hm (id := "list.pop") PySem.F.slot_list_pop PySem.F.type_list_pop fun tk => ?_
 refine Calls.spliced_nil ⟨I.kinH,?_⟩
 obtain ⟨a0,⟨k,hc⟩,⟨ns,hi⟩,r2,r3,r4,r5,r6⟩ := D
 obtain ⟨pre,y,rfl⟩ : ∃ pre y,vs = pre ++ [y] := ⟨vs.dropLast,vs.getLast hv,(List.dropLast_concat_getLast hv).symm⟩
 have hk : (pre ++ [y]).toArray.size - 1 = pre.length := by rw [List.size_toArray,List.length_append]; rfl
 have hy : (pre ++ [y]).toArray[(pre ++ [y]).toArray.size - 1]? = some y := by rw [hk]; simp
 have hz : (pre ++ [y]).toArray.size ≤ sizeLine := by rw [List.size_toArray]; exact Nat.le_trans r2 (by rw [sizeLine_eq]; decide)
 have hInts : ∀ {pre : List Value} {ns : List Int},IntsAre (pre ++ [y]) ns->∃ ms c u,IntsAre pre ms ∧ y = .int c u := by
  intro pre
  induction pre with
  | nil =>
   intro ns q
   cases q with
   | cons n t q => exact ⟨[],n,t,.nil,rfl⟩
  | cons a r ih =>
   intro ns q
   cases q with
   | cons n t q =>
    obtain ⟨ms,c,u,q1,q2⟩ := ih q
    exact ⟨n :: ms,c,u,.cons n t q1,q2⟩
 obtain ⟨ms,c,u,hi',rfl⟩ := hInts hi
 have hne := I.deck.ne off
 have sb : Heap.SameBut f.p.dc s.heap (s.heap.update f.p.dc (Obj.mapSeq fun xs => xs.eraseIdxIfInBounds ((pre ++ [Value.int c u]).toArray.size - 1))) := Heap.SameBut.update ..
 have at' := IsL.update hc fun xs => xs.eraseIdxIfInBounds ((pre ++ [Value.int c u]).toArray.size - 1)
 have ee : (pre ++ [Value.int c u]).toArray.eraseIdxIfInBounds ((pre ++ [Value.int c u]).toArray.size - 1) = pre.toArray := by rw [hk,kl_erase,List.append_nil]
 rw [ee] at at'
 have hl : pre.length < 8 := by rw [List.length_append] at r2; simp at r2; omega
 have D' : HasDeck f d m t um ut pre (s.heap.update f.p.dc (Obj.mapSeq fun xs => xs.eraseIdxIfInBounds ((pre ++ [Value.int c u]).toArray.size - 1))) := by
  obtain ⟨es,n,a1,a2⟩ := a0
  exact ⟨⟨es,n,(sb.2 _ hne).trans a1,a2⟩,⟨_,at'⟩,⟨ms,hi'⟩,Nat.le_of_lt hl,r3,r4,r5,r6⟩
 refine call_meets PySem.F.slot_list_pop ⟨_,hc,rfl⟩ PySem.F.entry_list_pop (PySem.F.args_list_pop_1 _) (PySem.MeetsSeq.list_pop_last _ _ k _ hy hz) ⟨hc,?_⟩
 have I' := I.deckTurned (.inr rfl) sb (D'.ok hne (Nat.le_refl _))
 refine store_snd (s := { s with heap := _,toks := tk }) ok (sl := .fz (.int c)) (a := α (idx f.env.scope.names "cell")) kc I' (.int c u) (fun q => by cases q) fun h' tk' I'' hs => ?_
 rw [upd_same,hn,i_cell] at I''
 refine next c h' tk' pre I'' hl ?_
 exact D'.same (hs.2 _ I.dkL) (hs.2 _ I.dcL)
theorem dr_B2 (off : f.p.off = false) (ok : EnvOk f.env) (st : Stat f.prog f.w f.K f.p C) (hn : f.env.scope.names = drawNames) (hb : 0 < b) (hb2 : b < 1000) {p : Nat->Pos} (hp2 : ((p 42).endLine == (p 46).line) = true) {c : Int} (I : f.I φ α d σ s.heap) (x : DS σ b) (hc : getS σ 3 = some (.fz (.int c)))
  {m t : Int} {um ut : Tok} {vs : List Value} (D : HasDeck f d m t um ut vs s.heap) (hv : vs.length < 8) (hi : interactive f.env = false)
  (stay : ∀ tk,Q .next { s with toks := tk })
  (next : ∀ i u h' tk,0 ≤ i->i < b->f.I φ α d σ h'->Q (.ret (.int i u)) { s with heap := h',toks := tk }) : wpAny (model f.prog f.w) A (exec (drB2 p) f.env) Q E s := by
 have kc : kindOf f.env.scope.names "cell" = some .local := by rw [hn]; exact k_cell
 have kb : kindOf f.env.scope.names "below" = some .local := by rw [hn]; exact k_below
 have sc : getS σ (idx f.env.scope.names "cell") = some (.fz (.int c)) := by rw [hn,i_cell]; exact hc
 have sb : getS σ (idx f.env.scope.names "below") = some (.fz (.int b)) := by rw [hn,i_below]; exact x.below
 have cE : ∀ {h} (I : f.I φ α d σ h) i,IvE f A h (nM p i "cell") (· = c) := fun I i => IvE.name ok I kc sc
 have bE : ∀ {h} (I : f.I φ α d σ h) i,IvE f A h (nM p i "below") (· = b) := fun I i => IvE.name ok I kb sb
 refine wpAny_If (wpAny_isTrue_Compare1 ?_)
 refine cE I 36 s _ E rfl fun i u tk hi' => ?_
 subst hi'
 refine wpAny_Constant_int (s := { s with toks := tk }) (ge_int (wpAny_truthy_bool ?_))
 split
 ·refine wpAny_execs_cons (wpAny_Expr ?_ hi)
  have hm : methOk (p 42) (p 46) [.BinOp (nM p 43 "cell") .FloorDiv (nM p 44 "below") (p 45)] = true := by unfold methOk; rw [hp2]; rfl
  refine cells_any (s := { s with toks := _ }) off ok st hn I x D hm (id := "list.append") PySem.F.slot_list_append PySem.F.type_list_append fun tk' => ?_
  have arg : IvE f A s.heap (.BinOp (nM p 43 "cell") .FloorDiv (nM p 44 "below") (p 45)) (fun _ => True) :=
   IvE.fdiv (cE I 43) (bE I 44) fun a c' ha hc' => by subst hc'; exact ⟨by omega,by omega,trivial⟩
  refine Calls.spliced_cons (arg { s with toks := tk' } _ E rfl fun q w tk'' _ => Calls.spliced_nil ⟨I.kinH,?_⟩)
  obtain ⟨a0,⟨k,hcl⟩,⟨ns,hints⟩,r2,r3,r4,r5,r6⟩ := D
  have hne := I.deck.ne off
  refine wpAny_list_append_plain (s := { s with toks := tk'' }) ⟨k,hcl⟩ (fun h' hp' sb' => ?_) (by rw [List.size_toArray]; exact Nat.le_trans r2 (by rw [sizeLine_eq]; decide))
  have snoc : ∀ {vs : List Value} {ns : List Int},IntsAre vs ns->IntsAre (vs ++ [.int q w]) (ns ++ [q]) := by
   intro vs ns z
   induction z with
   | nil => exact .cons q w .nil
   | cons n t _ ih => exact .cons n t ih
  have D' : HasDeck f d m t um ut (vs ++ [.int q w]) h' := by
   obtain ⟨es,n,a1,a2⟩ := a0
   obtain ⟨k',hp'⟩ := hp'
   exact ⟨⟨es,n,(sb'.2 _ hne).trans a1,a2⟩,⟨k',by rw [hp']; simp⟩,⟨_,snoc hints⟩,by rw [List.length_append]; simp; omega,r3,r4,r5,r6⟩
  have I' := I.deckTurned (.inr rfl) sb' (D'.ok hne (Nat.le_refl _))
  refine wpAny_execs_cons (wpAny_Return_some ?_)
  have e : IvE f A h' (.BinOp (nM p 48 "cell") .Mod (nM p 49 "below") (p 50)) (fun i => 0 ≤ i ∧ i < b) := IvE.mod (cE I' 48) (bE I' 49) fun a c' ha hc' => by subst hc'; exact ⟨by omega,fmod_mem hb⟩
  exact e { s with heap := h',toks := _ } _ E rfl fun z u' tk₃ hz => next z u' h' tk₃ hz.1 hz.2 I'
 ·exact wpAny_execs_nil (stay _)
end
section
variable {f : Fm} {φ₀ φ : Ob} {A : Around} {C : Cx} {n : Nat} {α : Nat->Addr} {d : Nat} {σ : Sto} {h : Heap} {s : Shared} {Q : Flow->Shared->Prop} {E : Value->Shared->Prop} {b : Int}
theorem dr_S3 (off : f.p.off = false) (ok : EnvOk f.env) (st : Stat f.prog f.w f.K f.p C) (hn : f.env.scope.names = drawNames) (hA : AOk n f.fs A) (hb : 0 < b) (hb2 : b < 1000) {p : Nat->Pos} (hp1 : ((p 33).endLine == (p 34).line) = true) (hp2 : ((p 42).endLine == (p 46).line) = true)
  (I : f.I φ α d σ s.heap) (x : DS σ b) {i₀ : Int} (hf : getS σ 2 = some (.fz (.int i₀)))
  (stay : ∀ σ' j h' tk,f.I φ α d σ' h'->DS σ' b->getS σ' 2 = some (.fz (.int j))->Q .next { s with heap := h',toks := tk })
  (next : ∀ i u σ' h' tk,0 ≤ i->i < b->f.I φ α d σ' h'->DS σ' b->Q (.ret (.int i u)) { s with heap := h',toks := tk }) : wpAny (model f.prog f.w) A (exec (drS3 p) f.env) Q E s := by
 have kd : kindOf f.env.scope.names "deck" = some .local := by rw [hn]; exact k_deck
 have sd : getS σ (idx f.env.scope.names "deck") = some (.fz .deck) := by rw [hn,i_deck]; exact x.deck
 have kc : kindOf f.env.scope.names "cell" = some .local := by rw [hn]; exact k_cell
 have kf : kindOf f.env.scope.names "figure" = some .local := by rw [hn]; exact k_figure
 have hi : interactive f.env = false := by unfold interactive; rw [ok.kind]; rfl
 obtain ⟨m,t,um,ut,vs,D⟩ := I.hasDeck off
 refine wpAny_If (wpAny_isTrue_Compare1 ?_)
 refine deck_get ok st.hP I kd sd D (v := .ref f.p.dc) rfl fun tk => ?_
 refine wpAny_List_spliced (Calls.spliced_nil ⟨Nat.zero_le _,?_⟩)
 have kpush : ∀ b o,s.heap.get? b = some o->(s.heap.push { cls := .type "list",data := .seq ([] : List Value).toArray }).get? b = some o := fun b o q => Heap.get?_push_of_some _ q
 have I₁ := I.keeps kpush
 have D₁ := D.keeps kpush
 obtain ⟨k,hc⟩ := D₁.list
 have l1 : (s.heap.push { cls := .type "list",data := .seq ([] : List Value).toArray }).IsList f.p.dc vs.toArray := ⟨_,hc,rfl,_,rfl⟩
 have l2 : (s.heap.push { cls := .type "list",data := .seq ([] : List Value).toArray }).IsList s.heap.objs.size #[] := ⟨_,Heap.get?_push_size _ rfl,rfl,_,rfl⟩
 have hu : A.units < cLine := by have := hA.units; omega
 have cmp : PySem.SeqAt.RcNeAt A { s with heap := s.heap.push { cls := .type "list",data := .seq ([] : List Value).toArray },toks := tk } (.ref f.p.dc) (.ref s.heap.objs.size) (!vs.isEmpty) := by
  cases vs with
  | nil =>
   have := PySem.SeqAt.RcNeAt.lists (A := A) (s := { s with heap := s.heap.push { cls := .type "list",data := .seq ([] : List Value).toArray },toks := tk }) (items := #[]) (items2 := #[]) (e := fun _ => true) l1 l2 rfl hu fun j h1 => absurd h1 (Nat.not_lt_zero _)
   exact this
  | cons v r =>
   have := PySem.SeqAt.RcNeAt.lists_lengths (A := A) (s := { s with heap := s.heap.push { cls := .type "list",data := .seq ([] : List Value).toArray },toks := tk }) l1 l2 (by simp) hu
   exact this
 refine cmp _ _ _ _ (wpAny_truthy_bool ?_)
 generalize hs₁ : ({ s with heap := s.heap.push { cls := .type "list",data := .seq ([] : List Value).toArray },toks := tk } : Shared) = s₁
 have eh : s₁.heap = s.heap.push { cls := .type "list",data := .seq ([] : List Value).toArray } := by rw [← hs₁]
 have es : ∀ h' tk',({ s₁ with heap := h',toks := tk' } : Shared) = { s with heap := h',toks := tk' } := fun h' tk' => by rw [← hs₁]
 rw [← eh] at I₁ D₁
 split
 ·rename_i hv
  have hv : vs ≠ [] := by rintro rfl; simp at hv
  refine wpAny_execs_cons (dr_B1 off ok st hn hp1 I₁ x D₁ hv fun c h' tk' vs' I₂ hl D₂ => ?_)
  have x₂ : DS (putS σ 3 (.fz (.int c))) b := x.put (by decide)
  have c₂ : getS (putS σ 3 (.fz (.int c))) 3 = some (.fz (.int c)) := putS_self (by rw [x.len]; decide)
  have f₂ : getS (putS σ 3 (.fz (.int c))) 2 = some (.fz (.int i₀)) := by unfold putS; rw [getS_set,if_neg (by simp)]; exact hf
  refine wpAny_execs_cons (dr_B2 (s := { s₁ with heap := h',toks := tk' }) off ok st hn hb hb2 hp2 I₂ x₂ c₂ D₂ hl hi (fun tk₂ => ?_) fun i u h'' tk₂ h1 h2 I₃ => ?_)
  ·refine wpAny_execs_cons ?_
   have e : IvE f A h' (.BinOp (nM p 54 "figure") .Add (.BinOp (nM p 55 "cell") .Mod (cI p 56 2147483563) (p 57)) (p 58)) (fun _ => True) := by
    refine IvE.add (R₁ := fun _ => True) (R₂ := fun _ => True) ((IvE.name ok I₂ kf (by rw [hn,i_figure]; exact f₂)).mono fun _ _ => trivial) ?_ fun _ _ _ _ => trivial
    exact IvE.mod (R₁ := fun i => i = c) (R₂ := fun i => i = 2147483563) (IvE.name ok I₂ kc (by rw [hn,i_cell]; exact c₂)) IvE.const fun a z ha hz => by subst hz; exact ⟨by decide,trivial⟩
   refine assign_int (s := { s₁ with heap := h',toks := tk₂ }) ok I₂ (x := "figure") kf rfl e rfl fun j h'' tk₃ _ I₃ => ?_
   rw [hn,i_figure] at I₃
   refine wpAny_execs_nil ?_
   show Q .next { s₁ with heap := h'',toks := tk₃ }
   rw [es]
   exact stay _ j h'' tk₃ I₃ (x₂.put (by decide)) (putS_self (by rw [x₂.len]; decide))
  ·show Q (.ret (.int i u)) { s₁ with heap := h'',toks := tk₂ }
   rw [es]
   exact next i u _ h'' tk₂ h1 h2 I₃ x₂
 ·refine wpAny_execs_nil ?_
  rw [← hs₁]
  have := stay σ i₀ s₁.heap tk I₁ x hf
  rw [eh] at this
  exact this
end
section
variable {prog : Program} {w : World} {K : Frag} {p : Pl} {C : Cx}
theorem drawFn_scope : drawFn.scope.kind = .function := by kernel_rfl
theorem drawFn_par : drawFn.params.length = 2 := by kernel_rfl
theorem drawFn_nm : ((drawFn.scope.names.map (·.1)).zip drawFn.params).all (fun p => seq p.1 p.2) = true := by kernel_rfl
theorem draw_ok (off : p.off = false) (st : Stat prog w K p C) {fa : Addr} (hfn : FnAt K fa drawFn) (n : Nat) (fs : List Addr) (A : Around) (hA : AOk (n + 1) fs A) : CallOk prog w K p fs A fa drawT := by
 intro φ d s H vs xs Q E W HA HS
 refine T.Sat.twoE HS fun x y eq1 HS => ?_
 subst eq1
 refine T.Sat.fzVE HS fun x eq1 HS => ?_
 subst eq1
 refine T.Sat.deckVE HS fun eq1 HS => ?_
 subst eq1
 refine T.Sat.fzVE HS fun y eq1 HS => ?_
 subst eq1
 refine T.Sat.intVE HS fun b eq1 HS => ?_
 subst eq1
 refine T.Sat.chkE HS fun hb HS => ?_
 refine and2 hb fun h1 h2 => ?_
 have h1 := of_decide_eq_true h1
 cases d with
 | zero => exact HS.elim
 | succ d =>
  have HS : ∀ r,r < b.toNat->CallQ p fs H φ s Q d (PV.int (r : Int),none) := HS
  refine call_enter hfn st.lim hA W HA drawFn_par drawFn_nm fun f A' h₀ tk α₀ e1 e2 e3 e4 e5 e6 ok tp hA' hsc hH I went => ?_
  subst e1 e2 e3 e4
  have hn : f.env.scope.names = drawNames := by rw [hsc,drawFn_names]
  rw [drawFn_names] at I
  rw [drawFn_body]
  have x : DS [some (.fz .deck),some (.fz (.int b)),none,none] b := ⟨rfl,rfl,rfl⟩
  have back : ∀ i u σ' h' tk,0 ≤ i->i < b->f.I φ (fun _ => α₀) d σ' h'->DS σ' b->Q (.int i u) { s with heap := h',toks := tk } := fun i u σ' h' tk h3 h4 I' _ =>
   HS i.toNat (by omega) _ h' tk φ (went (Ext.refl ..) I') (by rw [Int.toNat_of_nonneg h3]; exact .int i u) fun _ _ _ _ z => noOpt z
  refine wpAny_execs_cons (dr_S1 off ok st hn I x fun h₁ tk₁ I₁ => ?_)
  refine wpAny_execs_cons (dr_S2 (s := { s with heap := h₁,toks := tk₁ }) off ok st hn I₁ x fun i₂ h₂ tk₂ I₂ => ?_)
  have x₂ := x.put (i := 2) (sl := .fz (.int i₂)) (by decide)
  refine wpAny_execs_cons (dr_S3 (s := { s with heap := h₂,toks := tk₂ }) off ok st hn hA' h1 (of_decide_eq_true h2) drawPos_pop drawPos_app I₂ x₂ (putS_self (show 2 < 4 by decide)) (fun σ₃ j h₃ tk₃ I₃ x₃ f₃ => ?_) fun i u σ₃ h₃ tk₃ h1 h2 I₃ x₃ => back i u σ₃ h₃ tk₃ h1 h2 I₃ x₃)
  exact dr_S456 (s := { s with heap := h₃,toks := tk₃ }) ok hn h1 I₃ x₃ f₃ fun i u σ₄ h₄ tk₄ h1 h2 I₄ x₄ => back i u σ₄ h₄ tk₄ h1 h2 I₄ x₄
end
noncomputable def keyFn : Fn := (fnNamed "_law_key").getD default
noncomputable def cxE : Cx := ⟨fun _ => none,fun _ _ => none,fun _ _ => false⟩
theorem key_run {d : Nat} {m : Int} {b c : Byt} {Q : Nat->PV × Option Slot->Prop} {E : Nat->PV->Sto->Prop} (hb : Nat.ble b.size 1000 = true) (H : Q d (.byt (if m = 16384 then b ++ #[47] else b),some (.fz (.tup [.int m,.byt b,.byt c])))) :
  T.Sat d (callStep (lvl cxE 5) keyFn [.fz (.tup [.int m,.byt b,.byt c])]) Q E := by
 obtain ⟨z,hz⟩ : ∃ z,decide (m = 16384) = z := ⟨_,rfl⟩
 refine T.sat_bind.mpr (T.sat_atSto.mpr (T.sat_bind.mpr (T.sat_bind.mpr (T.sat_opt.mpr ⟨_,rfl,T.sat_bind.mpr (T.sat_bind.mpr ?_)⟩))))
 show T.Sat d (T.need true (T.ret (decide (m = 16384),([some (Slot.fz (.tup [.int m,.byt b,.byt c]))] : Sto)))) _ _
 refine ⟨rfl,?_⟩
 cases z with
 | true =>
  have hm := of_decide_eq_true hz
  subst hm
  rw [if_pos rfl] at H
  exact ⟨Nat.ble_eq.mpr (Nat.le_trans (Nat.succ_le_succ (Nat.le_of_ble_eq_true hb)) (by decide)),H⟩
 | false =>
  rw [if_neg (of_decide_eq_false hz)] at H
  rw [hz]
  exact H
section
variable {prog : Program} {w : World} {K : Frag} {p : Pl} {C : Cx}
theorem rowV_some {d : Nat} {β : Type} {l : List PV} {k : Int->Byt->T β} {Q E} {Z : Prop} (H : T.Sat d (rowV l k) Q E) (g : ∀ m b c,l = [.int m,.byt b,.byt c]->T.Sat d (k m b) Q E->Z) : Z := by
 cases l with
 | nil => exact H.elim
 | cons x l =>
  refine T.Sat.intVE H fun m eq1 H => ?_
  subst eq1
  cases l with
  | nil => exact H.elim
  | cons x l =>
   refine T.Sat.bytVE H fun b eq1 H => ?_
   subst eq1
   cases l with
   | nil => exact H.elim
   | cons x l => cases l with
    | cons => exact H.elim
    | nil => exact T.Sat.bytVE H fun c eq1 H => by subst eq1; exact g m b c rfl H
theorem key_ok (st : Stat prog w K p C) (df : Defs K p C st.mg st.mb) (xs : ExcSt K p) {fa : Addr} (hfn : FnAt K fa keyFn) (fs : List Addr) (A : Around) (hA : AOk 7 fs A) : CallOk prog w K p fs A fa keyT := by
 intro φ d s H vs ys Q E W HA HS
 let stE : Stat prog w K p cxE := ⟨st.mg,st.mb,st.nsg,st.nsb,st.lim,fun _ _ h => noB h,fun _ _ h => noB h,st.hP,st.sysm,fun _ _ h => noOpt h⟩
 refine (lvl_snd stE ⟨fun _ _ h => noOpt h,fun _ _ _ _ _ h => noOpt h,fun _ _ h => noOpt h,df.rng,df.enm,fun _ _ _ h => noOpt h⟩ ⟨fun _ h => noOpt h,fun _ h => noOpt h,fun _ h => noOpt h,fun _ h => noOpt h⟩ xs (c := 0) (fun _ h => noOpt h) 6 fs A hA).call fa keyFn (.plain hfn) φ d s H vs ys Q E W HA ?_
 refine T.Sat.oneE HS fun x eq1 HS => ?_
 subst eq1
 refine T.Sat.fzVE HS fun x eq1 HS => ?_
 subst eq1
 refine T.Sat.tupVE HS fun l eq1 HS => ?_
 subst eq1
 refine rowV_some HS fun m b c eq1 HS => ?_
 subst eq1
 refine T.Sat.chkE HS fun hb HS => ?_
 exact key_run hb fun v h' tk φ' W' r _ => HS v h' tk φ' W' r fun _ _ _ _ z => noOpt z
end
section
namespace BF
theorem slot_lt : PySem.Slot "bytes" "__lt__" "bytes.__lt__" :=
 .of (owner := "bytes") (n := "__lt__") (by rw [typeLookup_type,builtinLookup_eq_fast]; kernel_rfl) (by decide +kernel) (by decide +kernel) (by decide +kernel)
  (by first | exact .inl (by decide +kernel) | exact .inr (by decide +kernel)) (by rw [isSubtype_type]; kernel_rfl)
theorem entry_lt : entryFor table "bytes.__lt__" = some Builtin.«bytes.__lt__» := entryFor_of_tree (by kernel_rfl)
theorem args_lt_2 (a b : Value) : argsOk "bytes.__lt__" ⟨[a,b],[]⟩ := by
 unfold argsOk; rw [signature?_of (id := "bytes.__lt__") (n := ['_','_','t','l','_','_']) (o := ['s','e','t','y','b']) (by kernel_rfl) FB.owner_bytes]; kernel_rfl
theorem gives_lt (b c : Array UInt8) (t u : Tok) : Gives (Builtin.«bytes.__lt__» ⟨[.bytes b t,.bytes c u],[]⟩) (.val (.bool (Bytes.order b.toList c.toList == .lt))) := by
 refine .of_wp fun M A E s Q hq => ?_
 show wpAny M A (isInstance (.bytes c u) (.type "bytes") >>= fun r => _) _ E s
 refine wpAny_bind (wpAny_isInstance (typeIs_bytes s c u) F.sub_bytes_bytes ?_)
 exact wpAny_pure ⟨_,rfl,hq⟩
section
variable {prog : Program} {w : World} {A : Around} {E : Value->Shared->Prop} {s : Shared} {b c : Array UInt8} {t u : Tok}
theorem keyLt_bytes {Q : Bool->Shared->Prop} (h : ∀ r,Q r s) : wpAny (model prog w) A (keyLt' oneType' (.bytes b t) (.bytes c u)) Q E s := by
 rw [keyLt'_oneType,oneLt'_eq]
 simp only [if_true]
 refine wpAny_bind (wpAny_cRoomFor_byValue rfl ?_)
 refine wpAny_bind (wpAny_callSpecialIfBound?_slot (typeIs_bytes s b t) slot_lt (call_gives slot_lt (typeIs_bytes s b t) entry_lt (args_lt_2 _ _) (gives_lt b c t u) ?_))
 exact wpAny_truthy_bool (h _)
end
end BF
noncomputable def kasAll {α : Type} (n : Nat) (P : α->Bool) : KasT α->Bool
 | .ret a => P a
 | .ask i j k => Nat.blt i n && Nat.blt j n && kasAll n P (k true) && kasAll n P (k false)
theorem kasAll_wp {α : Type} {n : Nat} {P : α->Bool} {cmp : Nat->Nat->(Bool->Shared->Prop)->Shared->Prop} {Q : α->Shared->Prop} {s : Shared} (hc : ∀ i j C,i < n->j < n->(∀ b,C b s)->cmp i j C s) (hq : ∀ a,P a = true->Q a s) :
  ∀ (t : KasT α),kasAll n P t = true->t.kasWp cmp Q s
 | .ret a,h => hq a h
 | .ask i j k,h => by
  simp only [kasAll,Bool.and_eq_true] at h
  obtain ⟨⟨⟨h1,h2⟩,h3⟩,h4⟩ := h
  exact hc i j _ (Nat.le_of_ble_eq_true h1) (Nat.le_of_ble_eq_true h2) fun b => by
   cases b
   ·exact kasAll_wp hc hq (k false) h4
   ·exact kasAll_wp hc hq (k true) h3
noncomputable def placesOk (n : Nat) (p : Array Nat) : Bool := p.toList.length == n && p.toList.all (Nat.blt · n)
theorem kas_2 : kasAll 2 (placesOk 2) (kas_sort 2) = true := by decide +kernel
theorem kas_3 : kasAll 3 (placesOk 3) (kas_sort 3) = true := by decide +kernel
section
variable {f : Fm} {φ₀ φ φ' : Ob} {A : Around} {C : Cx} {n : Nat} {α : Nat->Addr} {d d' : Nat} {σ : Sto} {h h' : Heap} {s : Shared} {Q : Value->Shared->Prop} {E : Value->Shared->Prop}
theorem DeckOk.less {p : Pl} (x : DeckOk p d h) (hd : d' ≤ d) : DeckOk p d' h :=
 ⟨x.dict,x.cell,x.or.imp id fun ⟨ne,m,t,um,ut,vs,z⟩ => ⟨ne,m,t,um,ut,vs,z.dict,z.list,z.its,z.len,z.m0,z.m1,z.t0,Int.le_trans (Int.add_le_add_left (Int.ofNat_le.mpr hd) _) z.t1⟩⟩
theorem FI.less (I : f.I φ α d σ h) (hd : d' ≤ d) : f.I φ α d' σ h :=
 FI.re I (Le.refl _) (fun _ x => x) (fun b o q => let ⟨_,F,_⟩ := I.loc; F.keep b o q) (fun i s hg => I.own i s hg) I.sub I.nL I.ndk I.ndc (I.deck.less hd) I.live (fun b hb => ⟨(I.ffs b hb).1,I.ffT hb⟩) fun _ _ _ q => ⟨_,q⟩
theorem Untracked.at_ {b : Addr} (u : Untracked f φ α σ h b) (k : ∃ o,h'.get? b = some o) : Untracked f φ α σ h' b := ⟨u.φ,u.g,u.e,u.fs,u.L,u.dk,u.dc,u.own,k⟩
theorem Untracked.went {b : Addr} {o : Obj} (u : Untracked f φ α σ h b) (ho : h.get? b = some o) (W : Went f.p f.fs [] φ φ' d' h h') : Untracked f φ' α σ h' b ∧ h'.get? b = some o := by
 have k := W.k b o ho u.fs u.dk u.dc (by simp)
 refine ⟨⟨?_,u.g,u.e,u.fs,u.L,u.dk,u.dc,u.own,o,k⟩,k⟩
 cases q : φ' b with
 | none => rfl
 | some o' => have := W.new b u.φ (by rw [q]; simp); rw [ho] at this; cases this
theorem sortDraw_pick {γ : Type} {l : List PV} {t : List PV->T γ} {QX : Nat->γ->Prop} {EX : Nat->PV->Sto->Prop} : ∀ (ps : List Nat) (d : Nat),(∀ i ∈ ps,i < l.length)->T.Sat d (sortDraw l ps.length >>= t) QX EX ->
  ∃ d',d' ≤ d ∧ T.Sat d' (t (ps.map fun i => l.getD i .none)) QX EX
 | [],d,_,H => ⟨d,Nat.le_refl _,H⟩
 | i :: ps,d,hp,H => by
  rw [T.sat_bind] at H
  simp only [List.length_cons,sortDraw] at H
  cases d with
  | zero => simp at H
  | succ d =>
   rw [T.sat_draw] at H
   have hi := hp i (List.mem_cons_self ..)
   have := H i hi
   rw [List.getElem?_eq_getElem hi] at this
   dsimp only at this
   have key : T.Sat d (sortDraw l ps.length >>= fun vs => t (l[i] :: vs)) QX EX := by
    have e : (sortDraw l ps.length).bind (fun vs => T.ret (l[i] :: vs)) = (sortDraw l ps.length >>= fun vs => T.ret (l[i] :: vs)) := rfl
    rw [e,T.sat_bind] at this
    rw [T.sat_bind]
    exact this.mono (fun d a q => by rw [T.sat_ret] at q; exact q) fun _ _ _ q => q
   obtain ⟨d',h1,h2⟩ := sortDraw_pick (t := fun vs => t (l[i] :: vs)) ps d (fun j hj => hp j (List.mem_cons_of_mem _ hj)) key
   refine ⟨d',by omega,?_⟩
   rw [List.map_cons,show l.getD i PV.none = l[i] by simp [hi]]
   exact h2
end
end
section
variable {f : Fm} {φ₀ φ φ' : Ob} {A : Around} {C : Cx} {n : Nat} {α : Nat->Addr} {d d' : Nat} {σ : Sto} {h h' : Heap} {s : Shared} {E : Value->Shared->Prop} {D kS fa : Addr} {e1 : Nat}
structure SS (f : Fm) (φ₀ : Ob) (α : Nat->Addr) (d : Nat) (σ : Sto) (D kS : Addr) (e1 : Nat) (ks : List Value) (φ : Ob) (h : Heap) : Prop where
 I : f.I φ α d σ h
 uD : Untracked f φ α σ h D
 uK : Untracked f φ α σ h kS
 ne : D ≠ kS
 atD : h.get? D = some (seqObj "list" #[] e1)
 atK : ∃ e,h.get? kS = some (seqObj "list" ks.toArray e)
 ex : Ext f.e φ₀ φ
 byt : ∀ k ∈ ks,∃ b t,k = Value.bytes b t
theorem SS.setK {ks ks' : List Value} {g : Array Value->Array Value} (x : SS f φ₀ α d σ D kS e1 ks φ h) (hg : g ks.toArray = ks'.toArray) (hb : ∀ k ∈ ks',∃ b t,k = Value.bytes b t) : SS f φ₀ α d σ D kS e1 ks' φ (h.update kS (Obj.mapSeq g)) := by
 obtain ⟨e,he⟩ := x.atK
 have sb := Heap.SameBut.update h kS (Obj.mapSeq g)
 have at' := get?_update_seq he g
 rw [hg] at at'
 have k : ∀ b o,b ∉ [kS]->h.get? b = some o->(h.update kS (Obj.mapSeq g)).get? b = some o := fun b o hb q => (sb.2 b (by simpa using hb)).trans q
 have atD := k D _ (by simpa using x.ne) x.atD
 exact ⟨x.I.aside (wr := [kS]) (fun b hb => by simp at hb; subst hb; exact x.uK) k,x.uD.at_ ⟨_,atD⟩,x.uK.at_ ⟨_,at'⟩,x.ne,atD,⟨_,at'⟩,x.ex,hb⟩
theorem row_of {x : PV} (h : isRow x = true) : ∃ m b c,x = .tup [.int m,.byt b,.byt c] ∧ Nat.ble b.size 1000 = true := by
 cases x with
 | tup l => cases l with
  | nil => exact noB h
  | cons a r => cases a with
   | int m => cases r with
    | nil => exact noB h
    | cons a r => cases a with
     | byt b => cases r with
      | nil => exact noB h
      | cons a r => cases a with
       | byt c => cases r with
        | nil => exact ⟨m,b,c,rfl,h⟩
        | cons => exact noB h
       | _ => exact noB h
     | _ => exact noB h
   | _ => exact noB h
 | _ => exact noB h
theorem fold_walk (hkey : ∀ fs A,AOk 7 fs A->CallOk f.prog f.w f.K f.p fs A fa keyT) (hA : AOk 7 f.fs A) {body : Value->PUnit->Sem (ForInStep PUnit)} {P : Shared->Prop}
  (hb : ∀ x (s : Shared) (C : Shared->Prop),wpAny (model f.prog f.w) A (call (.ref fa) [x]) (fun k s' => wpAny (model f.prog f.w) A (Builtin.List.listUpdate (.ref kS) (·.push k)) (fun _ s'' => C s'') E s') (fun _ _ => False) s ->
   wpAny (model f.prog f.w) A (body x ⟨⟩) (fun r s' => r = .yield ⟨⟩ ∧ C s') E s) :
  ∀ (r : List Value) (xs : List PV) (ks : List Value) (φ : Ob) (h : Heap) (tk : Nat),SS f φ₀ α d σ D kS e1 ks φ h->Reps f.p φ r xs->xs.all isRow = true->ks.length + r.length < 1000 ->
   (∀ ks' φ' h' tk',SS f φ₀ α d σ D kS e1 ks' φ' h'->ks'.length = ks.length + r.length->Le φ φ'->P { s with heap := h',toks := tk' }) ->
   wpAny (model f.prog f.w) A (forIn r PUnit.unit body) (fun _ s' => P s') E { s with heap := h,toks := tk } := by
 intro r
 induction r with
 | nil =>
  intro xs ks φ h tk x _ _ _ hp
  rw [List.forIn_nil]
  exact wpAny_pure (hp ks φ h tk x rfl (Le.refl _))
 | cons v r ih =>
  intro xs ks φ h tk x rs hrow hlen hp
  cases rs with | cons rv rr =>
  have hrow := Bool.and_eq_true_iff.mp hrow
  obtain ⟨m,b,c,e0,hsz⟩ := row_of hrow.1
  subst e0
  rw [List.forIn_cons]
  refine wpAny_bind (wpAny_mono (hb v { s with heap := h,toks := tk } (fun s' => ∃ ks' φ' h' tk',s' = { s with heap := h',toks := tk' } ∧ SS f φ₀ α d σ D kS e1 ks' φ' h' ∧ ks'.length = ks.length + 1 ∧ Le φ φ') ?_) (fun q s' hq => ?_) fun _ _ x => x)
  ·refine wpAny_call (hkey f.fs A hA φ d { s with heap := h,toks := tk } [] [v] _ _ (fun _ _ => False) x.I.wi (.plain (.cons rv .nil)) ?_)
   show T.Sat d (chk (Nat.ble b.size 1000) (.ret (PV.byt (if m = 16384 then b ++ #[47] else b),none))) _ _
   rw [hsz]
   intro u h' tk' φ' W ru _
   obtain ⟨I',ex⟩ := W.back x.I
   obtain ⟨e,he⟩ := x.atK
   obtain ⟨uK',kK⟩ := x.uK.went he W
   obtain ⟨uD',kD⟩ := x.uD.went x.atD W
   obtain ⟨t,rfl,_⟩ := ru.bytOf
   generalize hkb : (if m = 16384 then b ++ #[47] else b) = kb
   have x' : SS f φ₀ α d σ D kS e1 ks φ' h' := ⟨I',uD',uK',x.ne,kD,⟨e,kK⟩,x.ex.trans ex,x.byt⟩
   rw [List.length_cons] at hlen
   refine listUpdate_at (s := { s with heap := h',toks := tk' }) kK rfl ?_ (by rw [List.size_toArray,sizeLine_eq]; omega) (by rw [Array.size_push,List.size_toArray,sizeLine_eq]; omega)
   refine ⟨ks ++ [.bytes kb t],φ',_,tk',rfl,x'.setK (by simp) (fun k hk => ?_),by simp,W.le⟩
   rcases List.mem_append.mp hk with hk | hk
   ·exact x.byt k hk
   ·simp at hk; subst hk; exact ⟨_,_,rfl⟩
  ·obtain ⟨rfl,ks',φ',h',tk',rfl,x',hl,le⟩ := hq
   show wpAny (model f.prog f.w) A (forIn r PUnit.unit body) _ E _
   rw [List.length_cons] at hlen
   refine ih _ ks' φ' h' tk' x' (rr.mono le) hrow.2 (by omega) fun ks'' φ'' h'' tk'' x'' hl' le' => hp ks'' φ'' h'' tk'' x'' ?_ (le.trans le')
   rw [List.length_cons]; omega
theorem tail_walk {st : SortSt} {out ks : List Value} {P : PySem.Fin->Shared->Prop} {tk : Nat} (x : SS f φ₀ α d σ D kS e1 ks φ h) (hks : ks.length < 1000) (ho : out.length < 1000) (hout : (arrOf st).map (·.2) = List.toArray out) (hf : failedOf st = none)
  (next : ∀ h' c,f.I φ α d σ h'->Untracked f φ α σ h' D->h'.get? D = some (seqObj "list" out.toArray c)->P (.done (.ret .none)) { s with heap := h',toks := tk }) :
  wpAny (model f.prog f.w) A (ksk_tail D false e1 (.ref kS) st) P E { s with heap := h,toks := tk } := by
 obtain ⟨e,he⟩ := x.atK
 have x₁ := x.setK (ks' := []) (g := fun _ => (#[] : Array Value)) rfl (fun k hk => by simp at hk)
 have s2 := Heap.SameBut.update (h.update kS (Obj.mapSeq fun _ => (#[] : Array Value))) D (Obj.mapSeq fun _ => List.toArray out)
 have k2 : ∀ b o,b ∉ [D]->(h.update kS (Obj.mapSeq fun _ => (#[] : Array Value))).get? b = some o->((h.update kS (Obj.mapSeq fun _ => (#[] : Array Value))).update D (Obj.mapSeq fun _ => List.toArray out)).get? b = some o := fun b o hb q => (s2.2 b (by simpa using hb)).trans q
 have at2 := get?_update_seq x₁.atD fun _ => List.toArray out
 unfold ksk_tail
 try dsimp only
 rw [hout]
 refine wpAny_bind (listUpdate_at (s := { s with heap := h,toks := tk }) he rfl ?_ (by rw [List.size_toArray,sizeLine_eq]; omega) (Nat.zero_le _))
 refine wpAny_bind (wpAny_letGo ?_)
 refine wpAny_bind (seqEpoch_at (s := { s with heap := h.update kS (Obj.mapSeq fun _ => (#[] : Array Value)),toks := tk }) x₁.atD rfl ?_)
 refine wpAny_bind (listUpdate_at (s := { s with heap := h.update kS (Obj.mapSeq fun _ => (#[] : Array Value)),toks := tk }) x₁.atD rfl ?_ (Nat.zero_le _) (by show (List.toArray out).size ≤ _; rw [List.size_toArray,sizeLine_eq]; omega))
 rw [hf]
 simp only [bne_self_eq_false,Bool.false_eq_true,if_false]
 exact wpAny_pure (next _ _ (x₁.I.aside (wr := [D]) (fun b hb => by simp at hb; subst hb; exact x₁.uD) k2) (x₁.uD.at_ ⟨_,at2⟩) at2)
theorem end_walk {vs ks : List Value} {P : PySem.Fin->Shared->Prop} {tk : Nat} (x : SS f φ₀ α d σ D kS e1 ks φ h) (hl : ks.length = vs.length) (h3 : vs.length ≤ 3)
  (next : ∀ (ps : List Nat) h' c,ps.length = vs.length->(∀ i ∈ ps,i < vs.length)->f.I φ α d σ h'->Untracked f φ α σ h' D->h'.get? D = some (seqObj "list" (ps.map fun i => vs.getD i Value.none).toArray c)->P (.done (.ret .none)) { s with heap := h',toks := tk }) :
  wpAny (model f.prog f.w) A (ksk_end D false vs.toArray e1 (.ref kS) ks.toArray) P E { s with heap := h,toks := tk } := by
 unfold ksk_end
 try dsimp only
 show wpAny (model f.prog f.w) A (do
  let kind ← if vs.toArray.size < 2 then pure general' else keyKind' ks.toArray
  let __x ← (if vs.toArray.size < 2 then pure () else sortRuns').run (SortSt.mk' kind (ks.toArray.zip vs.toArray) #[] 7 none)
  ksk_tail D false e1 (.ref kS) __x.2) P E { s with heap := h,toks := tk }
 by_cases h2 : vs.length < 2
 ·have h2' : vs.toArray.size < 2 := by rw [List.size_toArray]; exact h2
  rw [if_pos h2',if_pos h2']
  refine wpAny_bind (wpAny_pure ?_)
  refine wpAny_bind ?_
  rw [StateT.run_pure]
  refine wpAny_pure ?_
  have e : ((ks.toArray.zip vs.toArray).map (·.2)) = List.toArray ((List.range vs.length).map fun i => vs.getD i Value.none) := by
   clear next x h2'
   cases vs with
   | nil => cases List.eq_nil_of_length_eq_zero hl; kernel_rfl
   | cons v r => cases r with
    | nil => obtain ⟨k,rfl⟩ := List.length_eq_one_iff.mp hl; kernel_rfl
    | cons => exact absurd h2 (Nat.not_lt.mpr (Nat.succ_le_succ (Nat.succ_le_succ (Nat.zero_le _))))
  exact tail_walk x (by omega) (by rw [List.length_map,List.length_range]; omega) e rfl fun h' c I' u' at' => next (List.range vs.length) h' c (by simp) (fun i hi => List.mem_range.mp hi) I' u' at'
 ·have h2' : ¬ vs.toArray.size < 2 := by rw [List.size_toArray]; exact h2
  rw [if_neg h2',if_neg h2']
  refine wpAny_bind (kas_kind (T := .type "bytes") (by omega) (fun v hv => ?_) (by decide) (by decide) ?_)
  ·obtain ⟨b,t,rfl⟩ := x.byt v hv
   exact Looks.of_pure rfl
  have all : kasAll vs.length (placesOk vs.length) (kas_sort vs.length) = true := by
   rcases Nat.lt_or_ge vs.length 3 with q | q
   ·rw [show vs.length = 2 by omega]; exact kas_2
   ·rw [show vs.length = 3 by omega]; exact kas_3
  have cmp : (kas_sort vs.length).kasWp (kas_ask f.prog f.w A oneType' ks) (fun p s' => placesOk vs.length p = true ∧ s' = { s with heap := h,toks := tk }) { s with heap := h,toks := tk } := by
   refine kasAll_wp (fun i j C hi hj hc => ?_) (fun a ha => ⟨ha,rfl⟩) _ all
   unfold kas_ask
   have gi : ks.getD i Value.none ∈ ks := by
    have : i < ks.length := by omega
    simp [this]
   have gj : ks.getD j Value.none ∈ ks := by
    have : j < ks.length := by omega
    simp [this]
   obtain ⟨b1,t1,q1⟩ := x.byt _ gi
   obtain ⟨b2,t2,q2⟩ := x.byt _ gj
   rw [q1,q2]
   exact BF.keyLt_bytes fun r => hc r
  refine wpAny_bind (wpAny_mono (kat_run (E := E) (Q := fun st' s' => ∃ p : Array Nat,placesOk vs.length p = true ∧ arrOf st' = p.map (kas_item (ks.toArray.zip vs.toArray)) ∧ failedOf st' = none ∧ s' = { s with heap := h,toks := tk })
   hl (by omega) (by omega) (fun p st' s' a1 a2 a3 a4 => ⟨p,a4.1,a2,a3,a4.2⟩) cmp) (fun r s' hr => ?_) fun _ _ q => q)
  obtain ⟨p,hp,har,hf,rfl⟩ := hr
  unfold placesOk at hp
  simp only [Bool.and_eq_true,beq_iff_eq,List.all_eq_true] at hp
  exact tail_walk x (by omega) (by rw [List.length_map]; omega) (kat_snds hl har) hf fun h' c I' u' at' => next p.toList h' c hp.1 (fun i hi => Nat.le_of_ble_eq_true (hp.2 i hi)) I' u' at'
theorem untracked_own (u : Untracked f φ α σ h D) : Own f.p f.g f.fs f.env.locals φ D := ⟨u.fs,u.g,u.φ,u.L,u.dk,u.dc⟩
theorem isort_body {vs : List Value} {xs : List PV} {P : PySem.Fin->Shared->Prop} {tk : Nat} {k₀ : Nat} (hkey : ∀ fs A,AOk 7 fs A->CallOk f.prog f.w f.K f.p fs A fa keyT) (hA : AOk 7 f.fs A) (I : f.I φ α d σ h) (uD : Untracked f φ α σ h D)
  (ho : h.get? D = some (seqObj "list" vs.toArray k₀)) (rr : Reps f.p φ vs xs) (h3 : vs.length ≤ 3) (hrow : xs.all isRow = true)
  (next : ∀ (ps : List Nat) φ' h' tk' c,ps.length = vs.length->(∀ i ∈ ps,i < vs.length)->Ext f.e φ φ'->f.I φ' α d σ h'->Untracked f φ' α σ h' D->h'.get? D = some (seqObj "list" (ps.map fun i => vs.getD i Value.none).toArray c)->P (.done (.ret .none)) { s with heap := h',toks := tk' }) :
  wpAny (model f.prog f.w) A (ksk_tree D (.ref fa) false) P E { s with heap := h,toks := tk } := by
 have hz : vs.length ≤ sizeLine := by rw [sizeLine_eq]; omega
 unfold ksk_tree
 refine wpAny_bind (listItems_at (s := { s with heap := h,toks := tk }) ho rfl ?_)
 refine wpAny_bind (listUpdate_at (s := { s with heap := h,toks := tk }) ho rfl ?_ (by rw [List.size_toArray]; exact hz) (Nat.zero_le _))
 have s1 := Heap.SameBut.update h D (Obj.mapSeq fun _ => (#[] : Array Value))
 have k1 : ∀ b o,b ∉ [D]->h.get? b = some o->(h.update D (Obj.mapSeq fun _ => (#[] : Array Value))).get? b = some o := fun b o hb q => (s1.2 b (by simpa using hb)).trans q
 obtain ⟨e1,ho1⟩ : ∃ e1,(h.update D (Obj.mapSeq fun _ => (#[] : Array Value))).get? D = some (seqObj "list" #[] e1) := ⟨_,get?_update_seq ho fun _ => #[]⟩
 have I1 := I.aside (wr := [D]) (fun b hb => by simp at hb; subst hb; exact uD) k1
 have u1 := uD.at_ ⟨_,ho1⟩
 generalize h.update D (Obj.mapSeq fun _ => (#[] : Array Value)) = h1 at ho1 I1 u1 ⊢
 refine wpAny_bind (seqEpoch_at (s := { s with heap := h1,toks := tk }) ho1 rfl ?_)
 refine wpAny_bind (wpAny_newTuple ?_ hz)
 refine wpAny_bind (wpAny_newList ?_ (Nat.zero_le _))
 refine wpAny_holding ?_
 obtain ⟨I2,_⟩ := I1.pushU (seqObj "tuple" vs.toArray 0)
 have p1 : ∀ b o,h1.get? b = some o->(h1.push (seqObj "tuple" vs.toArray 0)).get? b = some o := fun b o q => Heap.get?_push_of_some _ q
 have u2 := u1.keeps p1
 have ho2 := p1 _ _ ho1
 obtain ⟨I3,uK⟩ := I2.pushU (seqObj "list" #[] 0)
 have p2 : ∀ b o,(h1.push (seqObj "tuple" vs.toArray 0)).get? b = some o->((h1.push (seqObj "tuple" vs.toArray 0)).push (seqObj "list" #[] 0)).get? b = some o := fun b o q => Heap.get?_push_of_some _ q
 have u3 := u2.keeps p2
 have ho3 := p2 _ _ ho2
 have hk3 : ((h1.push (seqObj "tuple" vs.toArray 0)).push (seqObj "list" #[] 0)).get? (h1.push (seqObj "tuple" vs.toArray 0)).objs.size = some (seqObj "list" #[] 0) := Heap.get?_push_size _ rfl
 have ne : D ≠ (h1.push (seqObj "tuple" vs.toArray 0)).objs.size := Nat.ne_of_lt (Heap.lt_size ho2)
 show wpAny (model f.prog f.w) A (ksk_rest D (.ref fa) false vs.toArray e1 (.ref (h1.push (seqObj "tuple" vs.toArray 0)).objs.size)) P E { s with heap := (h1.push (seqObj "tuple" vs.toArray 0)).push (seqObj "list" #[] 0),toks := tk }
 generalize (h1.push (seqObj "tuple" vs.toArray 0)).objs.size = kS at uK hk3 ne ⊢
 generalize (h1.push (seqObj "tuple" vs.toArray 0)).push (seqObj "list" #[] 0) = h2 at I3 uK u3 ho3 hk3 ⊢
 have x : SS f φ α d σ D kS e1 [] φ h2 := ⟨I3,u3,uK,ne,ho3,⟨0,hk3⟩,Ext.refl ..,fun k hk => by simp at hk⟩
 unfold ksk_rest
 refine wpAny_bind (wpAny_rule ?_)
 rw [List.forIn_toArray]
 refine wpAny_bind (fold_walk (s := s) (P := fun s' => wpAny (model f.prog f.w) A (do let keys ← Builtin.List.listItems (.ref kS); ksk_end D false vs.toArray e1 (.ref kS) keys) P E s') hkey hA (fun v s₁ C hx => ?_) vs xs [] φ h2 tk x rr hrow (by simp; omega) fun ks' φ' h' tk' x' hl le => ?_)
 ·refine wpAny_bind (wpAny_attempt (wpAny_mono hx (fun k s'' hk => ?_) fun _ _ hF => hF.elim))
  exact wpAny_bind (wpAny_mono hk (fun _ s3 h3 => wpAny_pure ⟨rfl,h3⟩) fun _ _ q => q)
 ·obtain ⟨e,he⟩ := x'.atK
  refine wpAny_bind (listItems_at (s := { s with heap := h',toks := tk' }) he rfl ?_)
  refine end_walk (s := s) x' (by simpa using hl) h3 fun ps h'' c hp1 hp2 I' u' at' => ?_
  exact next ps φ' h'' tk' c hp1 hp2 x'.ex I' u' at'
end
section
variable {prog : Program} {w : World} {K : Frag} {p : Pl}
theorem AOk.in1 {n : Nat} {fs : List Addr} {A : Around} (h : AOk (n + 1) fs A) : AOk n fs A.in1.in1 := by
 obtain ⟨h1,h2,h3,h4⟩ := h
 exact ⟨h1,by show A.depth + 4 * n + 40 < recursionLimit; omega,by show A.units + 1 + 1 + 20 * n + 200 < cLine; omega,h4⟩
theorem sort_ok {fa : Addr} (hkey : ∀ fs A,AOk 7 fs A->CallOk prog w K p fs A fa keyT) : SortOk prog w K p fa := by
 intro f e1 e2 e3 e4 A hA φ α d σ s Q E v l I R hlen hrow H
 subst e1 e2 e3 e4
 obtain ⟨a,vs,rfl,hl,hz,rr⟩ := R.seqOf I
 have hvl : vs.length ≤ 3 := by rw [rr.length]; exact hlen
 have hsl : vs.length ≤ sizeLine := by rw [sizeLine_eq]; omega
 refine call_function_entry_kw kind_sorted plain_sorted entry_sorted (ksk_s1 _ _) ?_
 unfold Builtin.«sorted»
 refine wpAny_bind (m := checkCount "sorted" 1 1 _) (wpAny_pure ?_)
 refine wpAny_bind (collect_list hl ?_ hsl)
 refine wpAny_bind (wpAny_newList ?_ hsl)
 have hsz : ((s.heap.push (seqObj "list" #[] 0)).update s.heap.objs.size (Obj.mapSeq (· ++ vs.toArray))).objs.size = s.heap.objs.size + 1 := by
  rw [Heap.size_update,size_push']
 have keep : ∀ b o,s.heap.get? b = some o->((s.heap.push (seqObj "list" #[] 0)).update s.heap.objs.size (Obj.mapSeq (· ++ vs.toArray))).get? b = some o := fun b o q => by
  have hlt : b < s.heap.objs.size := Heap.lt_size q
  rw [Heap.get?_update_ne _ _ _ _ (Nat.ne_of_lt hlt),Heap.get?_push_ne _ _ _ (Nat.ne_of_lt hlt)]
  exact q
 have I1 := FI.keeps I keep
 generalize ((s.heap.push (seqObj "list" #[] 0)).update s.heap.objs.size (Obj.mapSeq (· ++ vs.toArray))) = h1 at hsz I1 ⊢
 obtain ⟨I2,uD⟩ := FI.pushU I1 (seqObj "list" vs.toArray 0)
 have hoL : (h1.push (seqObj "list" vs.toArray 0)).get? h1.objs.size = some (seqObj "list" vs.toArray 0) := Heap.get?_push_size _ rfl
 show wpAny _ _ _ _ _ { s with heap := h1.push (seqObj "list" vs.toArray 0) }
 generalize h1.push (seqObj "list" vs.toArray 0) = h2 at I2 uD hoL ⊢
 generalize h1.objs.size = D at uD hoL ⊢
 refine wpAny_bind (wpAny_holding (wpAny_call_entry_kw (T := "list") slot_list_sort ⟨_,hoL,rfl⟩ entry_list_sort ?body (ksk_l1 _ _)))
 case body =>
  show wpAny (model f.prog f.w) A.in1.in1 (Builtin.«list.sort» ⟨[.ref D],[(Str.ofString "key",.ref fa)]⟩) _ _ _
  rw [ksk_t1]
  ·refine isort_body (s := s) (tk := s.toks) hkey hA.in1 I2 uD hoL rr hvl hrow fun ps φ' h' tk' c hp1 hp2 ex I' u' at' => ?_
   refine ⟨_,rfl,wpAny_pure ⟨_,rfl,?_⟩⟩
   have hll : l.length = ps.length := by rw [hp1,rr.length]
   rw [hll] at H
   obtain ⟨d',hd,H'⟩ := sortDraw_pick ps d (fun i hi => by rw [← rr.length]; exact hp2 i hi) H
   rw [T.sat_pure] at H'
   have I'' := FI.less I' hd
   obtain ⟨I₃,ex₃⟩ := FI.stand I'' (untracked_own u') at' u'.e (fun i sl q1 q2 => u'.own i sl q1 q2)
   refine H' (.ref D) h' tk' _ (ex.trans ex₃) I₃ (.list (put_self ..) (by rw [List.length_map,hp1]; exact Nat.le_trans hvl (by decide)) ?_)
   have rr' := (rr.mono ex.1).mono ex₃.1
   generalize hps : ps = ps₀ at rr' ⊢
   have pick : ∀ (ps : List Nat),(∀ i ∈ ps,i < vs.length)->Reps f.p (put φ' D (seqObj "list" (ps₀.map fun i => vs.getD i Value.none).toArray c)) (ps.map fun i => vs.getD i Value.none) (ps.map fun i => l.getD i PV.none) := by
    intro ps
    generalize put φ' D _ = φ₃ at rr' ⊢
    induction ps with
    | nil => exact fun _ => .nil
    | cons i r ih =>
     intro hi
     have h1 := hi i (List.mem_cons_self ..)
     have h2 : i < l.length := by rw [← rr.length]; exact h1
     obtain ⟨u,e1,e2⟩ := rr'.get (i := i) (List.getElem?_eq_getElem h2)
     rw [List.map_cons,List.map_cons]
     refine .cons ?_ (ih fun j hj => hi j (List.mem_cons_of_mem _ hj))
     rw [List.getElem?_eq_getElem h1] at e1
     cases e1
     rw [show l.getD i PV.none = l[i] by simp [h2],show vs.getD i Value.none = vs[i] by simp [h1]]
     exact e2
   exact pick ps₀ (hps ▸ hp2)
end
section
variable {prog : Program} {w : World} {A : Around} {E : Value->Shared->Prop} {R : Result->Shared->Prop} {s : Shared}
theorem compTurn_outer (elt t1 i1 t2 i2 : Expr) (scope : Scope) (pos : Pos) (it acc : Value) (env : Env) :
  compTurn (.ListComp elt [⟨t1,i1,[],0⟩,⟨t2,i2,[],0⟩] scope pos) 0 it acc env = (standAt i1.pos >>= fun _ => pyNext it >>= fun r => match r with
   | none => pure (.done .next)
   | some v => letOwnedTupleGo t1 it v >>= fun _ => assign t1 env v >>= fun _ => eval i2 env >>= fun x => standAt i2.pos >>= fun _ => foldedSetIterable i2 env x >>= fun x => holding [x] (pyIter x) >>= fun it2 =>
     runOwn (.compStart (.ListComp elt [⟨t1,i1,[],0⟩,⟨t2,i2,[],0⟩] scope pos) 1 it2 acc env) env >>= fun _ =>
     again (.compLoop (.ListComp elt [⟨t1,i1,[],0⟩,⟨t2,i2,[],0⟩] scope pos) 0 it acc env)) := by rfl
theorem compTurn_inner (elt t1 i1 t2 i2 : Expr) (scope : Scope) (pos : Pos) (it acc : Value) (env : Env) :
  compTurn (.ListComp elt [⟨t1,i1,[],0⟩,⟨t2,i2,[],0⟩] scope pos) 1 it acc env = (standAt i2.pos >>= fun _ => pyNext it >>= fun r => match r with
   | none => pure (.done .next)
   | some v => letOwnedTupleGo t2 it v >>= fun _ => assign t2 env v >>= fun _ =>
    (eval elt env >>= fun x => call (.builtin "list.append") [acc,x] >>= fun _ => pure ()) >>= fun _ =>
     again (.compLoop (.ListComp elt [⟨t1,i1,[],0⟩,⟨t2,i2,[],0⟩] scope pos) 1 it acc env)) := by rfl
theorem codeAny_outer {elt t1 i1 t2 i2 : Expr} {scope : Scope} {pos : Pos} {it acc : Value} {env : Env} (I : Nat->Shared->Prop)
  (turn : ∀ n s,I n s->wpAny (model prog w) A (pyNext it) (fun r s₁ => match r with
   | none => R (.ok .next) s₁
   | some v => wpAny (model prog w) A (assign t1 env v) (fun _ s₂ => wpAny (model prog w) A (eval i2 env) (fun x s₃ => wpAny (model prog w) A (pyIter x) (fun it2 s₄ =>
     codeAny (model prog w) A (.compStart (.ListComp elt [⟨t1,i1,[],0⟩,⟨t2,i2,[],0⟩] scope pos) 1 it2 acc env) (fun r s₅ => match r with | .ok _ => ∃ m,m < n ∧ I m s₅ | .error _ => False) s₄) (fun _ _ => False) s₃)
     (fun _ _ => False) s₂) (fun _ _ => False) s₁) (fun _ _ => False) s)
  (n : Nat) (h : I n s) (ht : ∀ v,letOwnedTupleGo t1 it v = pure ()) (hs : ∀ x,foldedSetIterable i2 env x = pure x) :
  codeAny (model prog w) A (.compLoop (.ListComp elt [⟨t1,i1,[],0⟩,⟨t2,i2,[],0⟩] scope pos) 0 it acc env) R s := by
 refine codeAny_loop rfl I (fun n s hI => ?_) n h
 show wpAny _ _ ((compTurn (.ListComp elt [⟨t1,i1,[],0⟩,⟨t2,i2,[],0⟩] scope pos) 0 it acc env).onRaise (fun x => do noteFrame x env; theTreesLotGoes x)) _ _ s
 refine wpAny_noted ?_
 rw [compTurn_outer]
 refine wpAny_bind (wpAny_standAt (wpAny_bind (wpAny_mono (turn n s hI) (fun r s₁ h₁ => ?_) fun _ _ h' => h'.elim)))
 cases r with
 | none => exact wpAny_pure h₁
 | some v =>
  refine wpAny_bind (wpAny_of_eq (ht v) ?_)
  refine wpAny_bind (wpAny_mono h₁ (fun _ s₂ h₂ => ?_) fun _ _ h' => h'.elim)
  refine wpAny_bind (wpAny_mono h₂ (fun x s₃ h₃ => ?_) fun _ _ h' => h'.elim)
  refine wpAny_bind (wpAny_standAt (wpAny_bind (wpAny_of_eq (hs x) ?_)))
  refine wpAny_bind (wpAny_holding (wpAny_mono h₃ (fun it2 s₄ h₄ => ?_) fun _ _ h' => h'.elim))
  refine wpAny_bind (wpAny_runOwn (codeAny_mono h₄ fun r s₅ h₅ => ?_))
  cases r with
  | ok fl => exact wpAny_pure ⟨rfl,h₅⟩
  | error e => exact h₅.elim
theorem codeAny_inner {elt t1 i1 t2 i2 : Expr} {scope : Scope} {pos : Pos} {it acc : Value} {env : Env} (I : Nat->Shared->Prop)
  (turn : ∀ n s,I n s->wpAny (model prog w) A (pyNext it) (fun r s₁ => match r with
   | none => R (.ok .next) s₁
   | some v => wpAny (model prog w) A (assign t2 env v) (fun _ s₂ => wpAny (model prog w) A (eval elt env) (fun x s₃ =>
     wpAny (model prog w) A (call (.builtin "list.append") [acc,x]) (fun _ s₄ => ∃ m,m < n ∧ I m s₄) (fun _ _ => False) s₃) (fun _ _ => False) s₂) (fun _ _ => False) s₁) (fun _ _ => False) s)
  (n : Nat) (h : I n s) (ht : ∀ v,letOwnedTupleGo t2 it v = pure ()) :
  codeAny (model prog w) A (.compLoop (.ListComp elt [⟨t1,i1,[],0⟩,⟨t2,i2,[],0⟩] scope pos) 1 it acc env) R s := by
 refine codeAny_loop rfl I (fun n s hI => ?_) n h
 show wpAny _ _ ((compTurn (.ListComp elt [⟨t1,i1,[],0⟩,⟨t2,i2,[],0⟩] scope pos) 1 it acc env).onRaise (fun x => do noteFrame x env; theTreesLotGoes x)) _ _ s
 refine wpAny_noted ?_
 rw [compTurn_inner]
 refine wpAny_bind (wpAny_standAt (wpAny_bind (wpAny_mono (turn n s hI) (fun r s₁ h₁ => ?_) fun _ _ h' => h'.elim)))
 cases r with
 | none => exact wpAny_pure h₁
 | some v =>
  refine wpAny_bind (wpAny_of_eq (ht v) ?_)
  refine wpAny_bind (wpAny_mono h₁ (fun _ s₂ h₂ => ?_) fun _ _ h' => h'.elim)
  refine wpAny_bind (wpAny_bind (wpAny_mono h₂ (fun x s₃ h₃ => wpAny_bind (wpAny_mono h₃ (fun _ s₄ h₄ => wpAny_pure ?_) fun _ _ h' => h'.elim)) fun _ _ h' => h'.elim))
  exact wpAny_pure ⟨rfl,h₄⟩
theorem codeAny_start1 {elt t1 i1 t2 i2 : Expr} {scope : Scope} {pos : Pos} {it acc : Value} {env : Env}
  (h0 : codeAny (model prog w) A (.compLoop (.ListComp elt [⟨t1,i1,[],0⟩,⟨t2,i2,[],0⟩] scope pos) 1 it acc env) R s)
  (h : wpAny (model prog w) A (pyIter it) (fun it' s' => codeAny (model prog w) A (.compLoop (.ListComp elt [⟨t1,i1,[],0⟩,⟨t2,i2,[],0⟩] scope pos) 1 it' acc env) R s') (fun _ _ => False) s) :
  codeAny (model prog w) A (.compStart (.ListComp elt [⟨t1,i1,[],0⟩,⟨t2,i2,[],0⟩] scope pos) 1 it acc env) R s := by
 refine codeAny_of_tree ?_
 show wpAny _ _ ((compStart (.ListComp elt [⟨t1,i1,[],0⟩,⟨t2,i2,[],0⟩] scope pos) 1 it acc env).onRaise (fun x => do noteFrame x env; standAt theWindowsPlace)) _ _ s
 refine wpAny_notedAt ?_
 unfold compStart
 show wpAny _ _ (ask >>= _) _ _ s
 refine wpAny_bind (wpAny_askSetting (wpAny_ite ?_))
 split
 ·first
   | exact wpAny_bind (wpAny_pure (wpAny_pure (And.intro rfl h0)))
   | exact wpAny_pure (And.intro rfl h0)
 ·first
   | exact wpAny_bind (wpAny_rule (wpAny_bind (wpAny_standAt (wpAny_bind (wpAny_mono h (fun it' s' h' => wpAny_pure (And.intro rfl h')) fun _ _ x => x.elim)))))
   | (refine wpAny_bind (wpAny_rule ?_); show wpAny _ _ (standAt i2.pos >>= _) _ _ s; exact wpAny_bind (wpAny_standAt (wpAny_bind (wpAny_mono h (fun it' s' h' => wpAny_pure (And.intro rfl h')) fun _ _ x => x.elim))))
end
structure HE (env : Env) (c : Addr) : Prop where
 kind : env.scope.kind = .function
 kN : env.kindOf (Str.ofString "number") = some .local
 kK : env.kindOf (Str.ofString "k") = some .local
 kS : env.kindOf (Str.ofString "signs") = some .cell
 cS : env.cells.lookup (Str.ofString "signs") = some c
structure HX (h₀ : Heap) (env : Env) (c I1 D : Addr) (sg : Array UInt8) (ts : Tok) (h : Heap) : Prop where
 keep : ∀ a o,h₀.get? a = some o->h.get? a = some o
 cell : h.IsCell c (some (.bytes sg ts))
 nI : h₀.get? I1 = none
 nD : h₀.get? D = none
 nC : h₀.get? env.locals = none
 ID : I1 ≠ D
 IC : I1 ≠ env.locals
 Ic : I1 ≠ c
 DC : D ≠ env.locals
 Dc : D ≠ c
 Cc : env.locals ≠ c
section
variable {prog : Program} {w : World} {A : Around} {E : Value->Shared->Prop} {R : Result->Shared->Prop} {s : Shared} {K : Frag} {p : Pl} {h₀ h h' : Heap} {env : Env} {c I1 D : Addr} {sg : Array UInt8} {ts : Tok}
theorem HX.step {a : Addr} (x : HX h₀ env c I1 D sg ts h) (ha : h₀.get? a = none) (hc : a ≠ c) (k : ∀ b o,b ≠ a->h.get? b = some o->h'.get? b = some o) : HX h₀ env c I1 D sg ts h' := by
 refine ⟨fun b o q => k b o (fun z => by rw [z,ha] at q; cases q) (x.keep b o q),?_,x.nI,x.nD,x.nC,x.ID,x.IC,x.Ic,x.DC,x.Dc,x.Cc⟩
 obtain ⟨o,ho,hd⟩ := x.cell
 exact ⟨o,k c o hc.symm ho,hd⟩
theorem HX.grow (x : HX h₀ env c I1 D sg ts h) (k : ∀ b o,h.get? b = some o->h'.get? b = some o) : HX h₀ env c I1 D sg ts h' :=
 ⟨fun b o q => k b o (x.keep b o q),x.cell.keeps k,x.nI,x.nD,x.nC,x.ID,x.IC,x.Ic,x.DC,x.Dc,x.Cc⟩
noncomputable def hexElt (p : Nat->Pos) : Expr := .Subscript (nM p 0 "signs") (.BinOp (.BinOp (.BinOp (nM p 1 "number") .FloorDiv (cI p 2 16) (p 3)) .Mult (.BinOp (cI p 4 1) .Sub (nM p 5 "k") (p 6)) (p 7)) .Add (.BinOp (.BinOp (nM p 8 "number") .Mod (cI p 9 16) (p 10)) .Mult (nM p 11 "k") (p 12)) (p 13)) (p 14)
theorem nm_local (he : HE env c) {x : Str} {i : Nat} {pos : Nat->Pos} {m : Str->Option Value} {v : Value} {Q : Value->Shared->Prop} (hx : env.kindOf x = some .local) (hd : (x == ("__debug__" : Str)) = false) (hn : s.heap.Ns env.locals m) (hv : m x = some v) (h : Q v s) : wpAny (model prog w) A (eval (nM pos i x) env) Q E s :=
 wpAny_Name (wpAny_loadName_local he.kind hx hn hv h) hd
theorem hex_elt (K₀ : Frag) (p₀ : Pl) (he : HE env c) {pos : Nat->Pos} {m : Str->Option Value} {u : UInt8} {k : Int} {tu tk : Tok} {Q : Value->Shared->Prop} (hc : s.heap.IsCell c (some (.bytes sg ts))) (hn : s.heap.Ns env.locals m) (h1 : m (Str.ofString "number") = some (.int (u.toNat : Int) tu)) (h2 : m (Str.ofString "k") = some (.int k tk))
  (hk : k = 0 ∨ k = 1) (hsz : sg.size = 16) (next : ∀ t tk',Q (.int ((sg.getD (if k = 0 then u.toNat / 16 else u.toNat % 16) 0).toNat : Int) t) { s with toks := tk' }) : wpAny (model prog w) A (eval (hexElt pos) env) Q E s := by
 let f : Fm := ⟨prog,w,K₀,p₀,s.heap,s.heap,[],env⟩
 have hu := u.toNat_lt
 have nN : ∀ i,IvE f A s.heap (nM pos i "number") (· = (u.toNat : Int)) := fun i s' Q E e hq => by
  refine nm_local he he.kN (by decide +kernel) (by rw [e]; exact hn) h1 (hq _ _ s'.toks rfl)
 have nK : ∀ i,IvE f A s.heap (nM pos i "k") (· = k) := fun i s' Q E e hq => by
  refine nm_local he he.kK (by decide +kernel) (by rw [e]; exact hn) h2 (hq _ _ s'.toks rfl)
 have ix : IvE f A s.heap (.BinOp (.BinOp (.BinOp (nM pos 1 "number") .FloorDiv (cI pos 2 16) (pos 3)) .Mult (.BinOp (cI pos 4 1) .Sub (nM pos 5 "k") (pos 6)) (pos 7)) .Add (.BinOp (.BinOp (nM pos 8 "number") .Mod (cI pos 9 16) (pos 10)) .Mult (nM pos 11 "k") (pos 12)) (pos 13))
   (fun i => i = ((if k = 0 then u.toNat / 16 else u.toNat % 16 : Nat) : Int)) := by
  refine IvE.add (R₁ := fun i => i = ((u.toNat / 16 : Nat) : Int) * (1 - k)) (R₂ := fun i => i = ((u.toNat % 16 : Nat) : Int) * k) ?_ ?_ fun a b ha hb => ?_
  ·refine IvE.mul (R₁ := fun i => i = ((u.toNat / 16 : Nat) : Int)) (R₂ := fun i => i = 1 - k) ?_ ?_ fun a b ha hb => ?_
   ·refine (nN 1).fdiv (IvE.const (i := 16)) fun a b ha hb => ?_
    subst ha hb
    exact ⟨by decide,by decide,by rw [Int.fdiv_eq_ediv_of_nonneg _ (by decide)]; omega⟩
   ·refine IvE.bin (IvE.const (i := 1)) (nK 5) fun a b u v s' Q E ha hb hq => ?_
    subst ha hb
    exact sub_int (hq _ _ _ rfl)
   ·subst ha hb; exact ⟨by omega,rfl⟩
  ·refine IvE.mul (R₁ := fun i => i = ((u.toNat % 16 : Nat) : Int)) (R₂ := fun i => i = k) ?_ (nK 11) fun a b ha hb => ?_
   ·refine (nN 8).mod (IvE.const (i := 16)) fun a b ha hb => ?_
    subst ha hb
    exact ⟨by decide,by rw [Int.fmod_eq_emod_of_nonneg _ (by decide)]; omega⟩
   ·subst ha hb; exact ⟨by omega,rfl⟩
  ·subst ha hb
   rcases hk with rfl | rfl
   ·simp
   ·simp
 refine Subscript_ (wpAny_Name (wpAny_loadName_cell he.kind he.kS he.cS hc ?_) (by decide +kernel))
 refine ix s _ E rfl fun i v tk' hi => ?_
 have hlt : (if k = 0 then u.toNat / 16 else u.toNat % 16) < sg.toList.length := by
  rw [Array.length_toList,hsz]; split <;> omega
 subst hi
 refine subscriptTail_builtin (s := { s with toks := tk' }) (typeIs_bytes _ sg ts) FB.slot_bytes_getitem.lookup ?_
 have := getItem_bytes (prog := prog) (w := w) (A := A) (E := E) (s := { s with toks := tk' }) (l := sg.toList) (t := ts) (u := v) (i := ((if k = 0 then u.toNat / 16 else u.toNat % 16 : Nat) : Int)) (Q := Q) (by rw [Array.length_toList,hsz]; decide) (by omega) (by omega) (by
  have e : sg.toList.getD (((if k = 0 then u.toNat / 16 else u.toNat % 16 : Nat) : Int)).toNat 0 = sg.getD (if k = 0 then u.toNat / 16 else u.toNat % 16) 0 := by
   rw [Int.toNat_natCast]
   generalize (if k = 0 then u.toNat / 16 else u.toNat % 16) = q at hlt
   have hq : q < sg.size := by simpa using hlt
   simp [Array.getD,hq]
  rw [e]
  exact next _ _)
 simpa using this
noncomputable def hexAt (sg : Array UInt8) (u : UInt8) (k : Nat) : Int := ((sg.getD (if (k : Int) = 0 then u.toNat / 16 else u.toNat % 16) 0).toNat : Int)
theorem hex_elt2 (K₀ : Frag) (p₀ : Pl) (he : HE env c) {pos : Nat->Pos} {m : Str->Option Value} {u : UInt8} {k : Nat} {tu tk : Tok} {Q : Value->Shared->Prop} (hc : s.heap.IsCell c (some (.bytes sg ts))) (hn : s.heap.Ns env.locals m) (h1 : m (Str.ofString "number") = some (.int (u.toNat : Int) tu)) (h2 : m (Str.ofString "k") = some (.int (k : Int) tk))
  (hk : k < 2) (hsz : sg.size = 16) (next : ∀ t tk',Q (.int (hexAt sg u k) t) { s with toks := tk' }) : wpAny (model prog w) A (eval (hexElt pos) env) Q E s :=
 hex_elt K₀ p₀ he hc hn h1 h2 (by omega) hsz next
theorem number_k : Str.ofString "number" ≠ Str.ofString "k" := by decide +kernel
end
section
variable {prog : Program} {w : World} {A : Around} {E : Value->Shared->Prop} {R : Result->Shared->Prop} {s : Shared} {h₀ h h' : Heap} {env : Env} {c I1 D I2 T : Addr} {sg : Array UInt8} {ts : Tok}
theorem ints_snoc {vs : List Value} {ns : List Int} {q : Int} {t : Tok} (h : IntsAre vs ns) : IntsAre (vs ++ [.int q t]) (ns ++ [q]) := by
 induction h with
 | nil => exact .cons q t .nil
 | cons n t _ ih => exact .cons n t ih
structure HIn (h₀ : Heap) (env : Env) (c I1 D I2 T : Addr) (sg : Array UInt8) (ts t0 t1 tu : Tok) (u : UInt8) (vs : List Value) (ns : List Int) (o1 : Obj) (i : Nat) (vs' : List Value) (h' : Heap) : Prop where
 hi : i ≤ 2
 x : HX h₀ env c I1 D sg ts h'
 hn : ∃ m,h'.Ns env.locals m ∧ m (Str.ofString "number") = some (.int (u.toNat : Int) tu)
 hD : h'.PlainList D vs'.toArray
 hv : IntsAre vs' (ns ++ [hexAt sg u 0,hexAt sg u 1].take i)
 hl : vs'.length = vs.length + i
 st : h'.IsTupleIter I2 T i ∧ h'.IsTuple T #[.int 0 t0,.int 1 t1]
 kI : h'.get? I1 = some o1
noncomputable def InnerInv (s : Shared) (H : Nat->List Value->Heap->Prop) (n : Nat) (s' : Shared) : Prop :=
 ∀ Z : Prop,(∀ h' tk i vs',s' = { s with heap := h',toks := tk }->n = 2 - i->H i vs' h'->Z)->Z
theorem take_hex {u : UInt8} {vs : List Value} {ns : List Int} {t : Tok} {i : Nat} (h : i < 2) (hv : IntsAre vs (ns ++ [hexAt sg u 0,hexAt sg u 1].take i)) : IntsAre (vs ++ [.int (hexAt sg u i) t]) (ns ++ [hexAt sg u 0,hexAt sg u 1].take (i + 1)) := by
 have q := ints_snoc (t := t) (q := hexAt sg u i) hv
 rw [List.append_assoc] at q
 cases i with
 | zero => exact q
 | succ i => cases i with
  | zero => exact q
  | succ i => exact absurd h (Nat.not_lt.mpr (Nat.le_add_left ..))
theorem push_snoc {vs : List Value} {v : Value} : vs.toArray.push v = (vs ++ [v]).toArray := List.push_toArray ..
theorem hex_inner (K₀ : Frag) (p₀ : Pl) (hh : A.handled = none) (he : HE env c) {pos : Nat->Pos} {scope : Scope} {i1 i2 : Expr} {cpos : Pos} (hsz : sg.size = 16) {u : UInt8} {tu t0 t1 : Tok} {vs : List Value} {ns : List Int} {o1 : Obj} (hl : vs.length < 900)
  (X : HIn h₀ env c I1 D I2 T sg ts t0 t1 tu u vs ns o1 0 vs s.heap) (n2 : h₀.get? I2 = none ∧ I2 ≠ c ∧ I2 ≠ env.locals ∧ I2 ≠ D ∧ I2 ≠ I1 ∧ I2 ≠ T) (nT : T ≠ env.locals ∧ T ≠ D)
  (fin : ∀ h' tk vs',HX h₀ env c I1 D sg ts h'->(∃ m,h'.Ns env.locals m)->h'.PlainList D vs'.toArray->IntsAre vs' (ns ++ [hexAt sg u 0,hexAt sg u 1])->vs'.length = vs.length + 2->h'.get? I1 = some o1->R (.ok .next) { s with heap := h',toks := tk }) :
  codeAny (model prog w) A (.compLoop (.ListComp (hexElt pos) [⟨nM pos 15 "number",i1,[],0⟩,⟨nM pos 17 "k",i2,[],0⟩] scope cpos) 1 (.ref I2) (.ref D) env) R s := by
 have W := Walks.tuple (prog := prog) (w := w) hh I2 T (Ne.symm n2.2.2.2.2.2) #[.int 0 t0,.int 1 t1]
 obtain ⟨a1,a2,a3,a4,a5,a6⟩ := n2
 refine codeAny_inner (InnerInv s (HIn h₀ env c I1 D I2 T sg ts t0 t1 tu u vs ns o1)) (fun n s' hI => hI _ fun h' tk i vs' es en X => ?_) 2 (fun _ k => k s.heap s.toks 0 vs rfl rfl X) (fun v => by rfl)
 subst es en
 obtain ⟨m,hn',h1'⟩ := X.hn
 by_cases hlt : i < 2
 ·refine W.item i _ _ _ hlt X.st fun v h₂ tk₂ hP st₂ k₂ => ?_
  have kk₂ : ∀ b o,b ≠ I2->h'.get? b = some o->h₂.get? b = some o := fun b o hb q => k₂ b o (fun z => hb (List.mem_singleton.mp z)) q
  have x₂ := X.x.step a1 a2 kk₂
  have hn₂ : h₂.Ns env.locals m := hn'.at' fun o q => kk₂ _ o a3.symm q
  obtain ⟨tv,rfl⟩ : ∃ tv,v = .int (i : Int) tv := by
   match i,hlt,hP with
   | 0,_,hP => exact ⟨t0,(Option.some.inj hP).symm⟩
   | 1,_,hP => exact ⟨t1,(Option.some.inj hP).symm⟩
  refine wpAny_assign_Name (wpAny_storeName_local (s := { s with heap := h₂,toks := tk₂ }) he.kK hn₂ (fun h₃ hn₃ sb₃ => ?_) (by rw [he.kind]; rfl))
  have kk₃ : ∀ b o,b ≠ env.locals->h₂.get? b = some o->h₃.get? b = some o := fun b o hb q => (sb₃.2 b hb).trans q
  have x₃ := x₂.step X.x.nC X.x.Cc kk₃
  have hD₃ : h₃.PlainList D vs'.toArray := X.hD.at fun o q => kk₃ D o X.x.DC (kk₂ D o a4.symm q)
  have hm1 : (if Str.ofString "number" = Str.ofString "k" then some (Value.int (i : Int) tv) else m (Str.ofString "number")) = some (.int (u.toNat : Int) tu) := (if_neg number_k).trans h1'
  refine hex_elt2 K₀ p₀ (s := { s with heap := h₃,toks := tk₂ + 1 }) he x₃.cell hn₃ (u := u) (k := i) (tu := tu) (tk := tv) hm1 (if_pos rfl) hlt hsz fun tq tk₄ => ?_
  refine wpAny_list_append_plain (s := { s with heap := h₃,toks := tk₄ }) hD₃ (fun h₅ hp₅ sb₅ => ?_) (by rw [List.size_toArray,sizeLine_eq,X.hl]; omega)
  have kk₅ : ∀ b o,b ≠ D->h₃.get? b = some o->h₅.get? b = some o := fun b o hb q => (sb₅.2 b hb).trans q
  rw [push_snoc] at hp₅
  refine ⟨2 - (i + 1),Nat.sub_lt_sub_left hlt (Nat.lt_succ_self i),fun _ k => k h₅ tk₄ (i + 1) (vs' ++ [.int (hexAt sg u i) tq]) rfl rfl ⟨hlt,x₃.step X.x.nD X.x.Dc kk₅,⟨_,hn₃.at' fun o q => kk₅ _ o X.x.DC.symm q,hm1⟩,hp₅,?_,?_,?_,kk₅ _ _ X.x.ID (kk₃ _ _ X.x.IC (kk₂ _ _ a5.symm X.kI))⟩⟩
  ·exact take_hex hlt X.hv
  ·exact List.length_append.trans (congrArg (· + 1) X.hl)
  ·have fr : ∀ b,b ∈ [I2,T]->b ≠ env.locals ∧ b ≠ D := fun b hb => (List.mem_cons.mp hb).elim (fun z => z ▸ ⟨a3,a4⟩) fun z => List.mem_singleton.mp z ▸ nT
   exact W.frame (i + 1) h₃ h₅ (W.frame (i + 1) h₂ h₃ st₂ fun b hb o q => kk₃ b o (fr b hb).1 q) fun b hb o q => kk₅ b o (fr b hb).2 q
 ·cases (Nat.le_antisymm X.hi (Nat.le_of_not_lt hlt) : i = 2)
  refine W.done _ _ _ X.st fun h₂ tk₂ k₂ => ?_
  have kk₂ : ∀ b o,b ≠ I2->h'.get? b = some o->h₂.get? b = some o := fun b o hb q => k₂ b o (fun z => hb (List.mem_singleton.mp z)) q
  exact fin h₂ tk₂ vs' (X.x.step a1 a2 kk₂) ⟨m,hn'.at' fun o q => kk₂ _ o a3.symm q⟩ (X.hD.at fun o q => kk₂ D o a4.symm q) X.hv X.hl (kk₂ _ _ a5.symm X.kI)
noncomputable def hexAll (sg : Array UInt8) : List UInt8->List Int
 | [] => []
 | u :: r => hexAt sg u 0 :: hexAt sg u 1 :: hexAll sg r
theorem hexAll_snoc (sg : Array UInt8) (u : UInt8) : ∀ l : List UInt8,hexAll sg (l ++ [u]) = hexAll sg l ++ [hexAt sg u 0,hexAt sg u 1]
 | [] => rfl
 | v :: l => by rw [List.cons_append,hexAll,hexAll,hexAll_snoc sg u l]; rfl
structure HOut (h₀ : Heap) (env : Env) (c I1 D : Addr) (sg : Array UInt8) (ts tb : Tok) (b : Array UInt8) (i : Nat) (vs' : List Value) (h' : Heap) : Prop where
 hi : i ≤ 2
 x : HX h₀ env c I1 D sg ts h'
 hn : ∃ m,h'.Ns env.locals m
 st : KBw.IsBytesIter h' I1 b tb i
 hD : h'.PlainList D vs'.toArray
 hv : IntsAre vs' (hexAll sg (b.toList.take i))
 hl : vs'.length = 2 * i
theorem none_ge {h₀ h : Heap} (k : ∀ a o,h₀.get? a = some o->h.get? a = some o) {a : Addr} (ha : h.objs.size ≤ a) : h₀.get? a = none := Ob.keepNone (fun o q => k a o q) (get_ge ha)
theorem hex_outer (K₀ : Frag) (p₀ : Pl) (hh : A.handled = none) (he : HE env c) {pos : Nat->Pos} {scope : Scope} {i1 : Expr} {cpos : Pos} {kt : Nat} (hsz : sg.size = 16) {b : Array UInt8} {tb : Tok} (hb : b.size = 2)
  (X : HOut h₀ env c I1 D sg ts tb b 0 [] s.heap)
  (fin : ∀ h' tk vs,HX h₀ env c I1 D sg ts h'->(∃ m,h'.Ns env.locals m)->h'.PlainList D vs.toArray->IntsAre vs (hexAll sg b.toList)->vs.length = 4->R (.ok .next) { s with heap := h',toks := tk }) :
  codeAny (model prog w) A (.compLoop (.ListComp (hexElt pos) [⟨nM pos 15 "number",i1,[],0⟩,⟨nM pos 17 "k",.Tuple [cI pos 18 0,cI pos 19 1] kt (pos 20),[],0⟩] scope cpos) 0 (.ref I1) (.ref D) env) R s := by
 have W := KBw.walks (prog := prog) (w := w) hh I1 b tb
 refine codeAny_outer (InnerInv s (HOut h₀ env c I1 D sg ts tb b)) (fun n s' hI => hI _ fun h' tk i vs' es en X => ?_) 2 (fun _ k => k s.heap s.toks 0 [] rfl rfl X) (fun v => by rfl) (fun v => by rfl)
 subst es en
 obtain ⟨m,hn'⟩ := X.hn
 have nI : ∀ {b : Addr},b ≠ I1->b ∉ [I1] := fun hb z => hb (List.mem_singleton.mp z)
 by_cases hlt : i < 2
 ·refine W.item i _ _ _ (by omega) X.st fun v h₂ tk₂ hP st₂ k₂ => ?_
  obtain ⟨u,tu,hu,rfl⟩ := hP
  have kk₂ : ∀ b o,b ≠ I1->h'.get? b = some o->h₂.get? b = some o := fun b o hb q => k₂ b o (nI hb) q
  have hn₂ : h₂.Ns env.locals m := hn'.at' fun o q => kk₂ _ o X.x.IC.symm q
  refine wpAny_assign_Name (wpAny_storeName_local (s := { s with heap := h₂,toks := tk₂ }) he.kN hn₂ (fun h₃ hn₃ sb₃ => ?_) (by rw [he.kind]; rfl))
  have kk₃ : ∀ b o,b ≠ env.locals->h₂.get? b = some o->h₃.get? b = some o := fun b o hb q => (sb₃.2 b hb).trans q
  have x₃ := (X.x.step X.x.nI X.x.Ic kk₂).step X.x.nC X.x.Cc kk₃
  have hD₃ : h₃.PlainList D vs'.toArray := X.hD.at fun o q => kk₃ D o X.x.DC (kk₂ D o X.x.ID.symm q)
  have st₃ : KBw.IsBytesIter h₃ I1 b tb (i + 1) := W.frame (i + 1) h₂ h₃ st₂ fun b hb o q => kk₃ b o (List.mem_singleton.mp hb ▸ X.x.IC) q
  refine wpAny_Tuple_spliced ?_
  show wpAny (model prog w) A (spliced [(false,eval (cI pos 18 0) env),(false,eval (cI pos 19 1) env)]) _ _ _
  refine Calls.spliced_cons (wpAny_Constant_int (k := 0) (pos := pos 18) (Calls.spliced_cons (wpAny_Constant_int (k := 0) (pos := pos 19) (Calls.spliced_nil ⟨by show 2 ≤ sizeLine; rw [sizeLine_eq]; decide,?_⟩))))
  obtain ⟨oC,_,_,hoC,_⟩ := id hn₃
  obtain ⟨nD,hoD⟩ := id hD₃
  obtain ⟨oI,hoI,r1,r2⟩ := st₃
  obtain ⟨oc,hoc,_⟩ := id x₃.cell
  have lC := Heap.lt_size hoC
  have lD := Heap.lt_size hoD
  have lI := Heap.lt_size hoI
  have lc := Heap.lt_size hoc
  have tup₄ := Heap.get?_push_size h₃ (o := { cls := .type "tuple",data := .seq (List.toArray [Value.int 0 (tk₂ + 1),Value.int 1 (tk₂ + 1 + 1)]) }) rfl
  have sz₄ := Heap.size_push h₃ { cls := .type "tuple",data := .seq (List.toArray [Value.int 0 (tk₂ + 1),Value.int 1 (tk₂ + 1 + 1)]) }
  refine wpAny_pyIter_tuple (s := { s with heap := h₃.push _,toks := _ }) ⟨_,tup₄,rfl,_,rfl⟩ ?_
  have k₄ : ∀ b o,h₃.get? b = some o->(h₃.push { cls := .type "tuple",data := .seq (List.toArray [Value.int 0 (tk₂ + 1),Value.int 1 (tk₂ + 1 + 1)]) }).get? b = some o := fun b o q => Heap.get?_push_of_some _ q
  generalize h₃.push { cls := .type "tuple",data := .seq (List.toArray [Value.int 0 (tk₂ + 1),Value.int 1 (tk₂ + 1 + 1)]) } = h₄ at tup₄ sz₄ k₄ ⊢
  have it₅ := Heap.get?_push_size h₄ (o := { cls := .type "tuple_iterator",data := .fields #[.ref h₃.objs.size,.int 0 0] }) rfl
  have k₅ : ∀ b o,h₄.get? b = some o->(h₄.push { cls := .type "tuple_iterator",data := .fields #[.ref h₃.objs.size,.int 0 0] }).get? b = some o := fun b o q => Heap.get?_push_of_some _ q
  generalize h₄.push { cls := .type "tuple_iterator",data := .fields #[.ref h₃.objs.size,.int 0 0] } = h₅ at it₅ k₅ ⊢
  rw [sz₄] at it₅ ⊢
  have k₃₅ : ∀ b o,h₃.get? b = some o->h₅.get? b = some o := fun b o q => k₅ b o (k₄ b o q)
  have st₅ : h₅.IsTupleIter (h₃.objs.size + 1) h₃.objs.size 0 ∧ h₅.IsTuple h₃.objs.size #[.int 0 (tk₂ + 1),.int 1 (tk₂ + 1 + 1)] := ⟨⟨_,it₅,rfl,rfl⟩,⟨_,k₅ _ _ tup₄,rfl,_,rfl⟩⟩
  have inner : codeAny (model prog w) A (.compLoop (.ListComp (hexElt pos) [⟨nM pos 15 "number",i1,[],0⟩,⟨nM pos 17 "k",.Tuple [cI pos 18 0,cI pos 19 1] kt (pos 20),[],0⟩] scope cpos) 1 (.ref (h₃.objs.size + 1)) (.ref D) env)
    (fun r s₅ => match r with | .ok _ => ∃ m,m < 2 - i ∧ InnerInv s (HOut h₀ env c I1 D sg ts tb b) m s₅ | .error _ => False) { s with heap := h₅,toks := tk₂ + 1 + 1 + 1 } := by
   refine hex_inner K₀ p₀ (s := { s with heap := h₅,toks := tk₂ + 1 + 1 + 1 }) hh he hsz (u := u) (tu := tu) (o1 := oI) (I2 := h₃.objs.size + 1) (T := h₃.objs.size) (vs := vs') (ns := hexAll sg (b.toList.take i)) (by rw [X.hl]; omega)
    ⟨Nat.zero_le _,x₃.grow k₃₅,⟨_,hn₃.keeps k₃₅,if_pos rfl⟩,hD₃.at fun o q => k₃₅ D o q,(List.append_nil _).symm ▸ X.hv,rfl,st₅,k₃₅ I1 oI hoI⟩
    ⟨none_ge x₃.keep (Nat.le_succ _),Nat.ne_of_gt (Nat.lt_succ_of_lt lc),Nat.ne_of_gt (Nat.lt_succ_of_lt lC),Nat.ne_of_gt (Nat.lt_succ_of_lt lD),Nat.ne_of_gt (Nat.lt_succ_of_lt lI),Nat.succ_ne_self _⟩ ⟨Nat.ne_of_gt lC,Nat.ne_of_gt lD⟩ fun h₆ tk₆ vs₆ x₆ hn₆ hD₆ hv₆ hl₆ k₆ => ?_
   refine ⟨2 - (i + 1),Nat.sub_lt_sub_left hlt (Nat.lt_succ_self i),fun _ k => k h₆ tk₆ (i + 1) vs₆ rfl rfl ⟨hlt,x₆,hn₆,⟨oI,k₆,r1,r2⟩,hD₆,?_,hl₆.trans (congrArg (· + 2) X.hl)⟩⟩
   have e : b.toList.take (i + 1) = b.toList.take i ++ [u] := by rw [List.take_add_one,Array.getElem?_toList,hu]; rfl
   rw [e,hexAll_snoc]; exact hv₆
  refine codeAny_start1 inner ?_
  exact (Walks.tuple (prog := prog) (w := w) hh (h₃.objs.size + 1) h₃.objs.size (Nat.ne_of_lt (Nat.lt_succ_self _)) #[.int 0 (tk₂ + 1),.int 1 (tk₂ + 1 + 1)]).self 0 { s with heap := h₅,toks := tk₂ + 1 + 1 + 1 } _ _ st₅ inner
 ·cases (Nat.le_antisymm X.hi (Nat.le_of_not_lt hlt) : i = 2)
  refine W.done _ _ _ (by rw [hb]; exact X.st) fun h₂ tk₂ k₂ => ?_
  have kk₂ : ∀ b o,b ≠ I1->h'.get? b = some o->h₂.get? b = some o := fun b o hb q => k₂ b o (nI hb) q
  have e : b.toList.take 2 = b.toList := List.take_of_length_le (by rw [Array.length_toList,hb]; exact Nat.le_refl 2)
  exact fin h₂ tk₂ vs' (X.x.step X.x.nI X.x.Ic kk₂) ⟨m,hn'.at' fun o q => kk₂ _ o X.x.IC.symm q⟩ (X.hD.at fun o q => kk₂ D o X.x.ID.symm q) (e ▸ X.hv) X.hl
end
end Mine
end
section
open PySem PySem.W PyProof.Rows PySem.Builtin
set_option backward.match.sparseCases false
namespace Mine
noncomputable def hexFn : Fn := (fnNamed "_law_hex").getD default
noncomputable def valS : Stmt->Option Expr
 | .Return e _ => e
 | _ => none
noncomputable def argE : Expr->List Expr
 | .Call _ l _ _ => l
 | _ => []
noncomputable def csE : Expr->Option Scope
 | .ListComp _ _ cs _ => some cs
 | _ => none
noncomputable def hexCs : Scope := ((((hexFn.body[1]?).bind valS).bind fun e => (argE e).head?).bind csE).getD default
noncomputable def hexPs : List Pos := hexFn.body.flatMap (posS 20)
noncomputable def hexPos : Nat->Pos := fun i => ((hexPs.drop 4 ++ hexPs.take 4)[i]?).getD default
noncomputable def hexSig : List UInt8 := [48,49,50,51,52,53,54,55,56,57,97,98,99,100,101,102]
noncomputable def hexComp (p : Nat->Pos) : Expr := .ListComp (hexElt p) [⟨nM p 15 "number",nM p 16 "oid",[],0⟩,⟨nM p 17 "k",.Tuple [cI p 18 0,cI p 19 1] 0 (p 20),[],0⟩] hexCs (p 21)
noncomputable def hexBody (p : Nat->Pos) : List Stmt := [.Assign [nM p 24 "signs"] (.Constant (.bytes hexSig) 0 (p 25)) (p 26),.Return (some (.Call (nM p 27 "bytes") [hexComp p] [] (p 22))) (p 23)]
theorem hexFn_body : hexFn.body = hexBody hexPos := by kernel_rfl
theorem hexFn_names : hexFn.scope.names = [(Str.ofString "oid",.local),(Str.ofString "signs",.cell),(Str.ofString "bytes",.globalImplicit)] := by kernel_rfl
theorem hexFn_kind : hexFn.scope.kind = .function := by kernel_rfl
theorem hexFn_co : hexFn.scope.isCoroutine = false := by kernel_rfl
theorem hexFn_gen : hexFn.scope.isGenerator = false := by kernel_rfl
theorem hexCs_names : hexCs.names = [(Str.ofString ".0",.local),(Str.ofString "number",.local),(Str.ofString "k",.local),(Str.ofString "signs",.free)] := by kernel_rfl
theorem hexCs_kind : hexCs.kind = .function := by kernel_rfl
structure FnAtH (K : Frag) (fa : Addr) : Prop where
 at_ : ∃ o fd,FdAt K fa hexFn o fd ∧ fd.closure = [] ∧ ∀ v : Value,bindArgs fd ⟨[v],[]⟩ = pure [(Str.ofString "oid",v)]
theorem hexAt_nat (u : UInt8) : hexAt hexSig.toArray u 0 = ((hexSigns.getD (u.toNat / 16) 0).toNat : Int) ∧ hexAt hexSig.toArray u 1 = ((hexSigns.getD (u.toNat % 16) 0).toNat : Int) := by
 constructor
 ·have hl : u.toNat / 16 < 16 := by have := u.toNat_lt; omega
  unfold hexAt; rw [if_pos (by rfl)]
  generalize u.toNat / 16 = q at hl
  simp [Array.getD,hexSig,hexSigns,List.getD,hl]
 ·have hl : u.toNat % 16 < 16 := Nat.mod_lt _ (by decide)
  unfold hexAt; rw [if_neg (by decide)]
  generalize u.toNat % 16 = q at hl
  simp [Array.getD,hexSig,hexSigns,List.getD,hl]
theorem hexAll_of (l : List UInt8) : (hexAll hexSig.toArray l).map (fun n => n.toNat.toUInt8) = l.flatMap fun u => [hexSigns.getD (u.toNat / 16) 0,hexSigns.getD (u.toNat % 16) 0] := by
 induction l with
 | nil => rfl
 | cons u r ih =>
  obtain ⟨e1,e2⟩ := hexAt_nat u
  rw [hexAll,List.map_cons,List.map_cons,ih,List.flatMap_cons,e1,e2]
  simp
theorem hexAll_mem {l : List UInt8} {n : Int} (h : n ∈ hexAll hexSig.toArray l) : 0 ≤ n ∧ n < 256 := by
 induction l with
 | nil => simp [hexAll] at h
 | cons u r ih =>
  rw [hexAll] at h
  obtain ⟨e1,e2⟩ := hexAt_nat u
  rcases List.mem_cons.mp h with rfl | h
  ·rw [e1]
   have := (hexSigns.getD (u.toNat / 16) 0).toNat_lt
   omega
  ·rcases List.mem_cons.mp h with rfl | h
   ·rw [e2]
    have := (hexSigns.getD (u.toNat % 16) 0).toNat_lt
    omega
   ·exact ih h
section
variable {prog : Program} {w : World} {K : Frag} {p : Pl} {C : Cx}
theorem hex_ok (st : Stat prog w K p C) (hbt : st.mg (Str.ofString "bytes") = none ∧ st.mb (Str.ofString "bytes") = some (.type "bytes")) {fa : Addr} (hfn : FnAtH K fa) (n : Nat) (fs : List Addr) (A : Around) (hA : AOk (n + 1) fs A) : CallOk prog w K p fs A fa hexT := by
 intro φ d s H vs xs Q E W HA HS
 have KIn : K.In s.heap := fun a o q => W.sub a o (W.stat a o q)
 refine T.Sat.oneE HS fun x eq1 HS => ?_
 subst eq1
 refine T.Sat.fzVE HS fun x eq1 HS => ?_
 subst eq1
 refine T.Sat.bytVE HS fun b eq1 HS => ?_
 subst eq1
 refine T.Sat.chkE HS fun hb2 HS => ?_
 have hb2 : b.size = 2 := Nat.eq_of_beq_eq_true hb2
 obtain ⟨v,y,rfl,e,rv,hHnil⟩ := oneArg (x := Str.ofString "oid") (r := []) HA rfl rfl
 cases e
 obtain ⟨tb,rfl,_⟩ := rv.inv
 subst hHnil
 obtain ⟨o,fd,⟨ho,hdt,hbody,hsc,hgl,hbu,hcode⟩,hclo,hbind⟩ := hfn.at_
 generalize hL : s.heap.objs.size = L
 have kindL : fd.scope.kind = .function := by rw [hsc]; exact hexFn_kind
 have hcells : ∀ n,cellsFrom n fd.scope.names [] = [(Str.ofString "signs",n)] := fun n => by
  rw [hsc,hexFn_names]; rfl
 have hlk : fd.scope.names.lookup (Str.ofString "oid") = some .local := by rw [hsc,hexFn_names]; decide +kernel
 have hlkS : fd.scope.names.lookup (Str.ofString "signs") = some .cell := by rw [hsc,hexFn_names]; decide +kernel
 have hlkB : fd.scope.names.lookup (Str.ofString "bytes") = some .globalImplicit := by rw [hsc,hexFn_names]; decide +kernel
 refine codeAny_call_cells (by have := hA.depth; omega) (KIn _ _ ho) hdt (st.lim _ KIn) (hcode _ KIn) (by rw [hbody,hexFn_body]) (hbind _) hclo (fun z hz => by
  rw [List.mem_singleton.mp hz]
  exact .inl hlk) (fun s₁ ic => ?_) (by rw [hsc]; exact hexFn_co) (by rw [hsc]; exact hexFn_gen) kindL
 rw [hL] at ic ⊢
 have hc : (callEnvC fd L fa).cells = [(Str.ofString "signs",L + 1)] := hcells _
 have kO : (callEnvC fd L fa).kindOf (Str.ofString "oid") = some .local := hlk
 have kS : (callEnvC fd L fa).kindOf (Str.ofString "signs") = some .cell := hlkS
 have kB : (callEnvC fd L fa).kindOf (Str.ofString "bytes") = some .globalImplicit := hlkB
 have hcl1 : (callEnvC fd L fa).cells.lookup (Str.ofString "signs") = some (L + 1) := by rw [hc]; exact List.lookup_cons_self
 have hkE : (callEnvC fd L fa).scope.kind = .function := kindL
 have hlocs : (callEnvC fd L fa).locals = L := rfl
 have hgE : (callEnvC fd L fa).globals = mainGlobals := hgl
 have hbE : (callEnvC fd L fa).builtins = builtinsNs := hbu
 generalize callEnvC fd L fa = env at *
 refine wpAny_execs_cons (wpAny_Assign_Name (Constant_bytes ?_) (by rfl))
 refine stCC (ic.tok _) hkE kS hcl1 fun s₂ ic₂ => ?_
 obtain ⟨⟨h₂,tk₂,rfl⟩,hns₂,hkeep₂,_⟩ := ic₂.toInCall
 have hcell := ic₂.cell _ _ hcl1
 simp only [if_true] at hcell
 have hns₂ : h₂.Ns env.locals (bindL env.kindOf [(Str.ofString "oid",.bytes b tb)] fun _ => none) := hns₂
 have hkeep₂ : ∀ b o,s.heap.get? b = some o->h₂.get? b = some o := hkeep₂
 have hcell : h₂.IsCell (L + 1) (some (.bytes hexSig.toArray _)) := hcell
 have hmo : (bindL env.kindOf [(Str.ofString "oid",.bytes b tb)] fun _ => none) (Str.ofString "oid") = some (.bytes b tb) := by
  unfold bindL bindL
  rw [if_pos kO]
  simp
 generalize (bindL env.kindOf [(Str.ofString "oid",.bytes b tb)] fun _ => none) = m at hns₂ hmo
 have KIn₂ : K.In h₂ := fun a o q => hkeep₂ _ _ (KIn a o q)
 refine wpAny_execs_cons (wpAny_Return_some (wpAny_Call_NameR ?_))
 refine Calls.Name_function_global hkE kB (Calls.loadGlobal_builtin (by rw [hgE]; exact st.nsg _ KIn₂) hbt.1 (by rw [hbE]; exact st.nsb _ KIn₂) hbt.2 ?_) (by decide +kernel)
 refine callWith_any (K := K) (first := []) (.ty "bytes") (by rfl) ?_
 show wpAny _ _ (spliced [(false,eval (hexComp hexPos) env)]) _ _ _
 refine Calls.spliced_cons ?_
 unfold hexComp
 rw [eval_ListComp]
 obtain ⟨cl,hcl,hclook⟩ := closureFor_of (scope := hexCs) (env := env) (fun q hq hf => by
  rw [hexCs_names] at hq
  simp only [List.mem_cons,List.not_mem_nil,or_false] at hq
  rcases hq with rfl | rfl | rfl | rfl
  ·cases hf
  ·cases hf
  ·cases hf
  ·exact ⟨_,hcl1⟩)
 refine wpAny_comprehension_free rfl (fun _ => rfl) hcl hexCs_kind (fun q hq hl => by
  rw [hexCs_names] at hq ⊢
  simp only [List.mem_cons,List.not_mem_nil,or_false] at hq
  rcases hq with rfl | rfl | rfl | rfl
  ·decide +kernel
  ·decide +kernel
  ·decide +kernel
  ·cases hl) ?_
 show wpAny _ _ (eval (nM hexPos 16 "oid") env) _ _ _
 refine wpAny_Name (wpAny_loadName_local hkE kO hns₂ hmo ?_) (by decide +kernel)
 refine KBw.pyIter_bytes ?_
 refine wpAny_newList ?_ (Nat.zero_le _)
 generalize hIo : ({ cls := .type "bytes_iterator",data := .fields #[.bytes b tb,.int 0 0] } : Obj) = oI
 generalize hDo : ({ cls := .type "list",data := .seq ([] : List Value).toArray } : Obj) = oD
 refine wpAny_newFunctionEnv (fun q hq hk => ?_) (fun _ h => by simp at h) (fun h₄ hns hsb => ?_) hexCs_kind
 ·rw [hexCs_names] at hq
  simp only [List.mem_cons,List.not_mem_nil,or_false] at hq
  rcases hq with rfl | rfl | rfl | rfl <;> cases hk
 have sz1 : (h₂.push oI).objs.size = h₂.objs.size + 1 := Heap.size_push _ _
 have sz2 : ((h₂.push oI).push oD).objs.size = h₂.objs.size + 1 + 1 := by rw [Heap.size_push,sz1]
 have at1 : (h₂.push oI).get? h₂.objs.size = some oI := Heap.get?_push_size _ (by rw [← hIo]; rfl)
 have at2 : ((h₂.push oI).push oD).get? (h₂.objs.size + 1) = some oD := by rw [← sz1]; exact Heap.get?_push_size _ (by rw [← hDo]; rfl)
 rw [sz2] at hns hsb
 have k₄ : ∀ b o,((h₂.push oI).push oD).get? b = some o->h₄.get? b = some o := fun b o q => by
  have lt := Heap.lt_size q
  rw [sz2] at lt
  exact (hsb.2 b (Nat.ne_of_lt lt)).trans (Heap.get?_push_of_some _ q)
 have k₂₄ : ∀ b o,h₂.get? b = some o->h₄.get? b = some o := fun b o q => k₄ b o (Heap.get?_push_of_some _ (Heap.get?_push_of_some _ q))
 have itA : KBw.IsBytesIter h₄ h₂.objs.size b tb 0 := ⟨oI,k₄ _ _ (Heap.get?_push_of_some _ at1),by rw [← hIo],by rw [← hIo]; rfl⟩
 have plD : h₄.PlainList (h₂.objs.size + 1) #[] := ⟨0,by have := k₄ _ _ at2; rw [← hDo] at this; exact this⟩
 have fresh₀ : ∀ a,h₂.objs.size ≤ a->s.heap.get? a = none := fun a ha => by
  cases q : s.heap.get? a with
  | none => rfl
  | some o => exact absurd (Heap.lt_size (hkeep₂ a o q)) (Nat.not_lt.mpr ha)
 obtain ⟨oc,hoc,_⟩ := id hcell
 have ltc := Heap.lt_size hoc
 show codeAny _ _ (.compStart _ 0 (.ref h₂.objs.size) (.ref (h₂.push oI).objs.size) { newEnv hexCs ((h₂.push oI).push oD).objs.size env.globals cl env.qual none .none (some env) env.builtins with scope := relabel hexCs env }) _ _
 rw [sz1,sz2]
 generalize hce : ({ newEnv hexCs (h₂.objs.size + 1 + 1) env.globals cl env.qual none .none (some env) env.builtins with scope := relabel hexCs env } : Env) = cenv
 have eL : cenv.locals = h₂.objs.size + 1 + 1 := by rw [← hce]; rfl
 have he : HE cenv (L + 1) := by
  have eN : (relabel hexCs env).names = [(Str.ofString ".0",.local),(Str.ofString "number",.local),(Str.ofString "k",.local),(Str.ofString "signs",.cell)] := by
   unfold relabel
   dsimp only
   rw [hexCs_names]
   simp [hkE,kS]
  subst hce
  refine ⟨hexCs_kind,?_,?_,?_,?_⟩
  ·show (relabel hexCs env).names.lookup _ = _
   rw [eN]; decide +kernel
  ·show (relabel hexCs env).names.lookup _ = _
   rw [eN]; decide +kernel
  ·show (relabel hexCs env).names.lookup _ = _
   rw [eN]; decide +kernel
  ·show cl.lookup _ = _
   rw [hclook _ ⟨(Str.ofString "signs",.free),by rw [hexCs_names]; simp,rfl,rfl⟩]
   exact hcl1
 have x : HX s.heap cenv (L + 1) h₂.objs.size (h₂.objs.size + 1) hexSig.toArray _ h₄ := ⟨fun a o q => k₂₄ a o (hkeep₂ a o q),hcell.keeps k₂₄,fresh₀ _ (Nat.le_refl _),fresh₀ _ (Nat.le_succ _),by rw [eL]; exact fresh₀ _ (Nat.le_succ_of_le (Nat.le_succ _)),
  Nat.ne_of_lt (Nat.lt_succ_self _),by rw [eL]; exact Nat.ne_of_lt (Nat.lt_succ_of_lt (Nat.lt_succ_self _)),Nat.ne_of_gt ltc,by rw [eL]; exact Nat.ne_of_lt (Nat.lt_succ_self _),Nat.ne_of_gt (Nat.lt_succ_of_lt ltc),by rw [eL]; exact Nat.ne_of_gt (Nat.lt_succ_of_lt (Nat.lt_succ_of_lt ltc))⟩
 have hnC : ∃ m,h₄.Ns cenv.locals m := by rw [eL]; exact ⟨_,hns⟩
 have hh : (A.deeper env).handled = none := hA.handled
 refine (fun loop => codeAny_compStart_list loop ((KBw.walks hh h₂.objs.size b tb).self 0 _ _ _ itA loop)) (hex_outer K p hh he (by rfl) hb2 ⟨Nat.zero_le _,x,hnC,itA,plD,.nil,rfl⟩ fun h₅ tk₅ vs x₅ hn₅ pl₅ hi₅ hl₅ => ?_)
 obtain ⟨m₅,hm₅⟩ := hn₅
 rw [eL] at hm₅
 refine ⟨m₅,hm₅,fun h₆ sb₆ => ?_⟩
 have k₆ : ∀ b o,b ≠ cenv.locals->h₅.get? b = some o->h₆.get? b = some o := fun b o hb q => (sb₆.2 b (by rw [eL] at hb; exact hb)).trans q
 have x₆ := x₅.step x.nC x.Cc k₆
 have pl₆ : h₆.PlainList (h₂.objs.size + 1) vs.toArray := pl₅.at fun o q => k₆ _ o x.DC q
 obtain ⟨n₆,q₆⟩ := pl₆
 refine Calls.spliced_nil ⟨fun a o q => x₆.keep _ _ (KIn a o q),?_⟩
 refine call_bytes_ints (A := A.deeper env) ⟨_,q₆,rfl,_,rfl⟩ hi₅ (fun n hn => hexAll_mem hn) (by rw [hl₅,sizeLine_eq]; decide) hh fun h₇ t₇ tk₇ k₇ => ?_
 have er : byteArr (hexAll hexSig.toArray b.toList) = hexOf b := by
  unfold byteArr hexOf
  rw [hexAll_of]
 rw [er]
 have k07 : ∀ a o,s.heap.get? a = some o->h₇.get? a = some o := fun a o q => k₇ _ _ (x₆.keep a o q)
 refine HS _ h₇ tk₇ φ ⟨fun b o q _ _ _ _ => k07 b o q,fun b hb o q => ⟨o.slots,k07 b o q⟩,W.deck.keeps k07,Le.refl _,fun a o q => k07 a o (W.sub a o q),fun a h1 h2 => absurd h1 h2⟩ (.byt _ _ ?_) fun a hHa => by cases hHa
 have : (hexOf b).size = 4 := by
  rw [← er]
  rw [byteArr_size,← hi₅.length,hl₅]
 rw [this]; decide
end
end Mine
end
section
open PySem PySem.W PyProof.Rows PySem.Builtin
namespace Mine
section
variable {prog : Program} {w : World} {K : Frag} {p : Pl} {C : Cx}
structure SpecialFacts (K : Frag) (mg mb : Str->Option Value) : Prop where
 draw : ∃ fa,mg (Str.ofString "_law_draw") = some (.ref fa) ∧ keepIn K (.ref fa) = true ∧ FnAt K fa drawFn
 hex : ∃ fa,mg (Str.ofString "_law_hex") = some (.ref fa) ∧ keepIn K (.ref fa) = true ∧ FnAtH K fa
 key : ∃ fa,mg (Str.ofString "_law_key") = some (.ref fa) ∧ FnAt K fa keyFn
 sorted : mg (Str.ofString "sorted") = none ∧ mb (Str.ofString "sorted") = some (.builtin "sorted")
 bytes : mg (Str.ofString "bytes") = none ∧ mb (Str.ofString "bytes") = some (.type "bytes")
theorem glob_sp {x : Str} {g : G} (h : glob0 x = some g) (h1 : ∀ c f o e,.cls c f o e ≠ g) (h2 : ∀ f,.fn f ≠ g) : spN g x = true := glob_inv h in_gT (fun _ _ _ _ e => (h1 _ _ _ _ e).elim) fun _ _ _ e => (h2 _ e).elim
theorem special_of (off : p.off = false) (st : Stat prog w K p cx0) (df : Defs K p cx0 st.mg st.mb) (xs : ExcSt K p) (F : SpecialFacts K st.mg st.mb) : Special prog w K p cx0 st.mg st.mb where
 draw := fun x hx => by
  rw [seq_iff.mp (glob_sp hx (fun _ _ _ _ e => nomatch e) fun _ e => nomatch e)]
  obtain ⟨fa,h1,h2,h3⟩ := F.draw
  exact ⟨fa,h1,h2,draw_ok off st h3⟩
 hex := fun x hx => by
  rw [seq_iff.mp (glob_sp hx (fun _ _ _ _ e => nomatch e) fun _ e => nomatch e)]
  obtain ⟨fa,h1,h2,h3⟩ := F.hex
  exact ⟨fa,h1,h2,hex_ok st F.bytes h3⟩
 sorted := fun x hx => by
  rw [seq_iff.mp (glob_sp hx (fun _ _ _ _ e => nomatch e) fun _ e => nomatch e)]
  exact F.sorted
 key := fun x hx => by
  obtain ⟨fa,h1,h3⟩ := F.key
  exact ⟨fa,h1,sort_ok (key_ok st df xs h3)⟩
end
end Mine
end
section
open PySem PySem.W PyProof.Rows
namespace Mine
noncomputable def deckFn : Fn := (fnNamed "_law_deck").getD default
noncomputable def cxDeck : Cx := ⟨fun x => match seq x "int" with
 | true => some (.bi .int)
 | false => none,fun _ _ => none,fun _ _ => false⟩
end Mine
end
section
open PySem PySem.W PyProof.Rows
set_option backward.match.sparseCases false
namespace Mine
noncomputable def asgVal : Stmt->Expr
 | .Assign _ v _ => v
 | _ => default
noncomputable def deckS1 : Stmt := deckFn.body.headD default
noncomputable def deckS2 : Stmt := (deckFn.body.drop 1).headD default
noncomputable def dC : Expr × (Expr × Expr × List Expr) × Scope := ((((tupOf (asgVal deckS1)).getD []).head?).bind compOf).getD default
noncomputable abbrev dSc : Scope := compScope dC.2.2 deckFn.scope
noncomputable abbrev dP (k : Nat) : Lv := lvl cxDeck (k + 3)
noncomputable abbrev dLoop (k : Nat) (σ : Sto) (l : List PV) : T (List PV × Sto) := compLoop (dP k) dSc dC.1 dC.2.1.1 [] σ l
noncomputable def dOne (i : Int) : Sto := [none,some (.fz (.int i)),none]
theorem deck_step0 (k : Nat) (i : Int) (l : List PV) : dLoop k [none,none,none] (.int i :: l) = (dLoop k (dOne i) l >>= fun xs => .ret (.int i :: xs.1,xs.2)) := by kernel_rfl
theorem deck_step1 (k : Nat) (j i : Int) (l : List PV) : dLoop k (dOne j) (.int i :: l) = (dLoop k (dOne i) l >>= fun xs => .ret (.int i :: xs.1,xs.2)) := by kernel_rfl
theorem deck_loop1 (k : Nat) (ns : List Int) : ∀ j,∃ σ',dLoop k (dOne j) (ns.map .int) = .ret (ns.map .int,σ') := by
 induction ns with
 | nil => exact fun j => ⟨_,rfl⟩
 | cons i ns ih =>
  intro j
  obtain ⟨σ',h⟩ := ih i
  exact ⟨σ',(deck_step1 k j i _).trans (by rw [h]; rfl)⟩
theorem deck_loop (k : Nat) (ns : List Int) : ∃ σ',dLoop k [none,none,none] (ns.map .int) = .ret (ns.map .int,σ') := by
 cases ns with
 | nil => exact ⟨_,rfl⟩
 | cons i ns =>
  obtain ⟨σ',h⟩ := deck_loop1 k ns i
  exact ⟨σ',(deck_step0 k i _).trans (by rw [h]; rfl)⟩
end Mine
end
section
open PySem PySem.W PyProof.Rows
namespace Mine
noncomputable def dS0 (l : List PV) : Sto := [some (.fz (.list l)),none,none,none]
noncomputable def cut8 (ns : List Int) : List Int := ns.take (clipAt ns.length 8)
theorem cut8_eq (ns : List Int) : cutBy (ns.map PV.int) (ns.map PV.int).length none (some 8) = (cut8 ns).map PV.int := by
 rw [List.length_map]
 exact (List.map_take ..).symm
theorem cut8_le (ns : List Int) : (cut8 ns).length ≤ ns.length := by
 rw [cut8,List.length_take]
 exact Nat.min_le_right _ _
theorem cut8_le8 (ns : List Int) : (cut8 ns).length ≤ 8 := by
 rw [cut8,List.length_take]
 exact Nat.le_trans (Nat.min_le_left _ _) (show clipAt ns.length ((8 : Nat) : Int) ≤ 8 by
  rw [clipAt_nat]
  exact Nat.min_le_left _ _)
noncomputable def dS1 (l q : List PV) : Sto := [some (.fz (.list l)),none,some (.fz (.list q)),some (.fz (.int 5959))]
noncomputable abbrev dComp (k : Nat) (l : List PV) : T (List PV × Sto) := evComp (dP k) deckFn.scope (dS0 l) dC.1 dC.2.1.1 dC.2.1.2.1 [] dC.2.2
theorem deck_compE (k : Nat) (l : List PV) : dComp k l =
  (chk (Nat.ble (cutBy l l.length none (some 8)).length 1000) ((dLoop k [none,none,none] (cutBy l l.length none (some 8))).noExc >>= fun v => .ret (v.1,dS0 l))) := by kernel_rfl
theorem deck_s1 (k : Nat) (ns : List Int) (h : ns.length ≤ 63) : (lvl cxDeck (k + 5)).ex deckFn.scope (dS0 (ns.map .int)) deckS1 = .ret (.next,dS1 (ns.map .int) ((cut8 ns).map .int)) := by
 have e : dComp k (ns.map .int) = .ret ((cut8 ns).map .int,dS0 (ns.map .int)) := by
  rw [deck_compE,cut8_eq,Nat.ble_eq_true_of_le (by rw [List.length_map]; exact Nat.le_trans (cut8_le ns) (Nat.le_trans h (by decide)))]
  obtain ⟨σ',h'⟩ := deck_loop k (cut8 ns)
  rw [h']
  rfl
 show ((((dComp k (ns.map .int) >>= _) >>= _) >>= _) >>= _) = _
 rw [e]
 rfl
end Mine
end
section
open PySem PySem.W PyProof.Rows
set_option backward.match.sparseCases false
namespace Mine
noncomputable def mixStep (m c : Int) : Int := (m * 48271 + c.fmod 2147483629 + 5959).fmod 2147483587
noncomputable def forOf : Stmt->Expr × List Stmt
 | .For t _ b _ _ => (t,b)
 | _ => default
noncomputable def dFor : Expr × List Stmt := forOf deckS2
noncomputable def dSt (A B : Option Slot) (c : Option Slot) (m : Int) : Sto := [A,c,B,some (.fz (.int m))]
theorem mixStep_lt (m c : Int) : 0 ≤ mixStep m c ∧ mixStep m c < 2147483587 := by
 unfold mixStep
 rw [Int.fmod_eq_emod_of_nonneg _ (by decide)]
 exact ⟨Int.emod_nonneg _ (by decide),Int.emod_lt_of_pos _ (by decide)⟩
theorem forLoop_cons {P : Lv} {sc : Scope} {t : Expr} {b : List Stmt} {σ σ₁ σ₂ : Sto} {v : PV} {l : List PV} (h1 : bindT sc σ t v = .ret σ₁) (h2 : exs P sc σ₁ b = .ret (.next,σ₂)) : forLoop P sc t b σ (v :: l) = forLoop P sc t b σ₂ l := by
 show (bindT sc σ t v >>= _) = _
 rw [h1]
 show (exs P sc σ₁ b >>= _) = _
 rw [h2]
 rfl
theorem deck_mul (m : Int) (h0 : 0 ≤ m) (h1 : m < 2147483587) : mulT (.int m) (.int 48271) = .ret (.int (m * 48271)) := if_pos (.inl ⟨by omega,by decide⟩)
theorem deck_row (k : Nat) (A B : Option Slot) (m i : Int) (h0 : 0 ≤ m) (h1 : m < 2147483587) : exs (lvl cxDeck (k + 8)) deckFn.scope (dSt A B (some (.fz (.int i))) m) dFor.2 = .ret (.next,dSt A B (some (.fz (.int i))) (mixStep m i)) := by
 show ((((((((mulT (.int m) (.int 48271)) >>= _) >>= _) >>= _) >>= _) >>= _) >>= _) >>= _) = _
 rw [deck_mul m h0 h1]
 rfl
noncomputable def mixAll (m : Int) (cs : List Int) : Int := cs.foldl mixStep m
theorem mixAll_lt (cs : List Int) : ∀ (m : Int),0 ≤ m->m < 2147483587->0 ≤ mixAll m cs ∧ mixAll m cs < 2147483587 := by
 induction cs with
 | nil => exact fun _ h0 h1 => ⟨h0,h1⟩
 | cons c cs ih => exact fun m _ _ => ih _ (mixStep_lt m c).1 (mixStep_lt m c).2
noncomputable abbrev dFL (k : Nat) (σ : Sto) (l : List PV) : T (Fl × Sto) := forLoop (lvl cxDeck (k + 8)) deckFn.scope dFor.1 dFor.2 σ l
theorem deck_for (k : Nat) (A B : Option Slot) (cs : List Int) : ∀ (c : Option Slot) (m : Int),0 ≤ m->m < 2147483587->∃ c',dFL k (dSt A B c m) (cs.map .int) = .ret (.next,dSt A B c' (mixAll m cs)) := by
 induction cs with
 | nil => exact fun c _ _ _ => ⟨c,rfl⟩
 | cons i cs ih =>
  intro c m h0 h1
  obtain ⟨c',h⟩ := ih (some (.fz (.int i))) (mixStep m i) (mixStep_lt m i).1 (mixStep_lt m i).2
  exact ⟨c',(forLoop_cons (σ₁ := dSt A B (some (.fz (.int i))) m) (by kernel_rfl) (deck_row k A B m i h0 h1)).trans h⟩
theorem deck_s2 (k : Nat) (A : Option Slot) (cs : List Int) : ∃ c',(lvl cxDeck (k + 9)).ex deckFn.scope [A,none,some (.fz (.list (cs.map .int))),some (.fz (.int 5959))] deckS2 = .ret (.next,dSt A (some (.fz (.list (cs.map .int)))) c' (mixAll 5959 cs)) := by
 obtain ⟨c',h'⟩ := deck_for k A (some (.fz (.list (cs.map .int)))) cs none 5959 (by decide) (by decide)
 refine ⟨c',?_⟩
 show (dFL k (dSt A (some (.fz (.list (cs.map .int)))) none 5959) (cs.map .int)).noExc = _
 rw [h']
 rfl
end Mine
end
section
open PySem PySem.W PyProof.Rows
namespace Mine
theorem exs_cons {P : Lv} {sc : Scope} {σ σ₁ : Sto} {s : Stmt} {l : List Stmt} (h : P.ex sc σ s = .ret (.next,σ₁)) : exs P sc σ (s :: l) = exs P sc σ₁ l := by
 show (P.ex sc σ s >>= _) = _
 rw [h]
 rfl
theorem deck_body : deckFn.body.take 2 = [deckS1,deckS2] := by kernel_rfl
theorem deck_rows (k : Nat) (ns : List Int) (h : ns.length ≤ 63) : ∃ c',exs (lvl cxDeck (k + 9)) deckFn.scope (dS0 (ns.map .int)) [deckS1,deckS2] = .ret (.next,dSt (some (.fz (.list (ns.map .int)))) (some (.fz (.list ((cut8 ns).map .int)))) c' (mixAll 5959 (cut8 ns))) := by
 obtain ⟨c',h2⟩ := deck_s2 k (some (.fz (.list (ns.map .int)))) (cut8 ns)
 exact ⟨c',(exs_cons (deck_s1 (k + 4) ns h)).trans ((exs_cons h2).trans rfl)⟩
section
theorem dk_glob {x : Str} {g : G} (h : cxDeck.glob x = some g) : x = "int" ∧ g = .bi .int := by
 cases e : seq x "int" with
 | true =>
  have h : (match seq x "int" with
   | true => some (G.bi .int)
   | false => none) = some g := h
  rw [e] at h
  exact ⟨seq_iff.mp e,(Option.some.inj h).symm⟩
 | false =>
  have h : (match seq x "int" with
   | true => some (G.bi .int)
   | false => none) = some g := h
  rw [e] at h
  cases h
variable {prog : Program} {w : World} {K : Frag} {p : Pl}
noncomputable def statDeck (st : Stat prog w K p cx0) : Stat prog w K p cxDeck where
 mg := st.mg
 mb := st.mb
 nsg := st.nsg
 nsb := st.nsb
 lim := st.lim
 attrs := fun _ _ h => nomatch h
 sets := fun _ _ h => nomatch h
 hP := st.hP
 sysm := st.sysm
 val := fun _ _ h => nomatch (dk_glob h).2
theorem defsDeck {mg mb : Str->Option Value} (D : Defs K p cx0 mg mb) : Defs K p cxDeck mg mb where
 fns := fun _ _ h => nomatch (dk_glob h).2
 cls := fun _ _ _ _ _ h => nomatch (dk_glob h).2
 bis := fun x id h => by
  obtain ⟨rfl,e⟩ := dk_glob h
  cases e
  exact D.bis "int" .int (by kernel_rfl)
 rng := D.rng
 enm := D.enm
 meths := fun _ _ _ h => nomatch h
theorem specialDeck {mg mb : Str->Option Value} : Special prog w K p cxDeck mg mb where
 draw := fun _ h => nomatch (dk_glob h).2
 hex := fun _ h => nomatch (dk_glob h).2
 sorted := fun _ h => nomatch (dk_glob h).2
 key := fun _ h => nomatch (dk_glob h).2
end
end Mine
end
section
open PySem PySem.W PyProof.Rows
set_option backward.match.sparseCases false
namespace Mine
noncomputable def deckS3 : Stmt := (deckFn.body.drop 2).headD default
noncomputable def dekPos : Nat->Pos := fun i => ((posS 20 deckS3)[i]?).getD default
noncomputable def dkK (p : Nat->Pos) (i : Nat) (x : Str) : Option Expr := some (.Constant (.str x) 0 (p i))
noncomputable def dkNeg (p : Nat->Pos) : Expr := .UnaryOp .USub (.Constant (.int 1) 0 (p 4)) (p 5)
noncomputable def dkCut (p : Nat->Pos) : Expr := .Subscript (nM p 3 "cells") (.Slice none none (some (dkNeg p)) (p 6)) (p 7)
noncomputable def dkRow (p : Nat->Pos) : Stmt := .Return (some (.Dict [dkK p 0 "cells",dkK p 1 "mixed",dkK p 2 "turn"] [dkCut p,nM p 8 "mixed",.Constant (.int 0) 0 (p 9)] (p 10))) (p 11)
theorem deckS3_is : deckS3 = dkRow dekPos := by kernel_rfl
theorem reps_ints {p : Pl} {φ : Ob} {vs : List Value} : ∀ {ns : List Int},Reps p φ vs (ns.map .int)->IntsAre vs ns := by
 intro ns h
 refine Reps.ind (M := fun vs xs => ∀ ns : List Int,xs = ns.map PV.int->IntsAre vs ns) (fun ns e => ?_) (fun {v x vs xs} a _ k ns e => ?_) h ns rfl
 ·cases ns with
  | nil => exact .nil
  | cons => cases e
 ·cases ns with
  | nil => cases e
  | cons n ns =>
   injection e with e1 e2
   subst e1
   obtain ⟨t,rfl⟩ := a.inv
   exact .cons _ _ (k ns e2)
structure DekAt (P : Params) (D C : Addr) (h : Heap) : Prop where
 ne : D ≠ C
 v : ∃ m um ut vs,DeckV P C 1000000 m 0 um ut vs (h.get? D) (h.get? C)
section
variable {f : Fm} {A : Around} {φ : Ob} {α : Nat->Addr} {d : Nat} {σ : Sto} {s : Shared}
theorem cut_rev (p : Nat->Pos) {mm : Str->Option Value} {x : Addr} {vs : List Value} {Q : Value->Shared->Prop} {E : Value->Shared->Prop} (ok : EnvOk f.env) (kc : kindOf f.env.scope.names "cells" = some .local) (hn : s.heap.Ns f.env.locals mm) (hc : mm "cells" = some (.ref x))
  (hl : s.heap.IsList x vs.toArray) (hz : vs.toArray.size ≤ sizeLine) (next : ∀ h' tk C,(∀ b o,s.heap.get? b = some o->h'.get? b = some o)->s.heap.get? C = none->h'.get? C = some { cls := .type "list",data := .seq (slicePick vs.toArray none none (some (-1))) }->Q (.ref C) { s with heap := h',toks := tk }) :
  wpAny (model f.prog f.w) A (eval (dkCut p) f.env) Q E s := by
 refine Subscript_ (wpAny_Name (wpAny_loadName_local ok.kind (kind_env kc) hn hc (wpAny_Slice (wpAny_evalPart_none (wpAny_evalPart_none (wpAny_evalPart_some (wpAny_UnaryOp (wpAny_Constant_int (neg_int ?_)))))))) (kind_dbg ok (nn kc)))
 refine tail_any (ops := [_,_]) (hl.push _).typeIs list_getitem_lookup (wpAny_getItem_list_slice (hl.push _) (Heap.IsSliceOf.new _ .none .none (.int (-1) _)) .none .none (.int (-1) _) (by decide) ?_ hz) rfl
 exact next _ _ _ (fun b o q => Heap.get?_push_of_some _ (Heap.get?_push_of_some _ q)) (none_of_keeps (fun b o q => Heap.get?_push_of_some _ q) (fresh_size _)) (Heap.get?_push_size _ rfl)
theorem deck_row3 (p : Nat->Pos) {cells : List Int} {m : Int} (ok : EnvOk f.env) (kc : kindOf f.env.scope.names "cells" = some .local) (km : kindOf f.env.scope.names "mixed" = some .local)
  (gc : getS σ (idx f.env.scope.names "cells") = some (.fz (.list (cells.map .int)))) (gm : getS σ (idx f.env.scope.names "mixed") = some (.fz (.int m))) (hm0 : 0 ≤ m) (hm1 : m < 2147483587) (hl8 : cells.length ≤ 8)
  (I : f.I φ α d σ s.heap) {Q : Flow->Shared->Prop} {E : Value->Shared->Prop}
  (next : ∀ D C h' tk,s.heap.get? D = none->s.heap.get? C = none->(∀ b o,s.heap.get? b = some o->h'.get? b = some o)->DekAt f.w.params D C h'->Q (.ret (.ref D)) { s with heap := h',toks := tk }) :
  wpAny (model f.prog f.w) A (exec (dkRow p) f.env) Q E s := by
 obtain ⟨mm,F,V⟩ := I.loc
 obtain ⟨vc,hc,Rc⟩ := V _ _ kc gc
 obtain ⟨vm,hm,Rm⟩ := V _ _ km gm
 obtain ⟨t,rfl⟩ := Rep.inv Rm
 obtain ⟨x,vs,rfl,hl,_,rr⟩ := Rep.seqOf (f := f) Rc I
 have its := reps_ints rr
 have l8 : vs.toArray.size ≤ 8 := List.size_toArray ▸ its.length ▸ hl8
 have fD := fresh_size s.heap
 have hn := F.ns
 clear V Rc Rm rr I gc gm F
 refine wpAny_Return_some (wpAny_Dict_walk (knd := strKind f.prog f.w) rfl rfl (List.cons_ne_nil _ _) (Nat.le_of_ble_eq_true rfl) ?_)
 have k1 : ∀ b o,s.heap.get? b = some o->(s.heap.push { cls := .type "dict",data := .dict #[] }).get? b = some o := fun b o q => Heap.get?_push_of_some _ q
 have gD := Heap.get?_push_size s.heap (o := { cls := .type "dict",data := .dict #[] }) rfl
 have hl := hl.push { cls := .type "dict",data := .dict #[] }
 generalize s.heap.push { cls := .type "dict",data := .dict #[] } = h1 at *
 generalize s.heap.objs.size = D at *
 have hn := hn.keeps k1
 refine pairTrees_cons_walk (wpAny_Constant_str (cut_rev p ok kc hn hc hl (Nat.le_trans l8 (by rw [sizeLine_eq]; decide)) fun h2 tk C k2 nC gC => ?_))
 refine pairTrees_cons_walk (wpAny_Constant_str (wpAny_Name (wpAny_loadName_local ok.kind (kind_env km) (hn.keeps k2) hm (pairTrees_cons_walk (wpAny_Constant_str (wpAny_Constant_int (pairTrees_nil_walk ?_))))) (kind_dbg ok (nn km))))
 have gD2 := k2 _ _ gD
 have ne : D ≠ C := fun z => nn gD (z ▸ nC)
 refine ⟨[(Str.ofString "cells",.ref C),(Str.ofString "mixed",.int m t),(Str.ofString "turn",.int 0 _)],⟨by rfl,rfl,by rfl,rfl,by rfl,rfl,trivial⟩,Heap.dictOf_iff.mpr ⟨_,gD2,#[],0,⟨rfl,rfl,rfl⟩,rfl,fun _ h => absurd h (Array.not_mem_empty _),.nil,List.Pairwise.nil⟩,fun h' hd sb => ?_⟩
 refine next D C h' _ fD (none_of_keeps k1 nC) (fun b o q => (sb.2 b fun z => nn q (z ▸ fD)).trans (k2 b o (k1 b o q))) ⟨ne,m,t,_,(slicePick vs.toArray none none (some (-1))).toList,dict_plain hd,⟨0,(sb.2 C ne.symm).trans gC⟩,⟨_,its.pick none none (some (-1))⟩,?_,hm0,hm1,Int.le_refl 0,Int.le_refl _⟩
 exact Nat.le_trans (slicePick_size_le vs.toArray none none (some (-1))) l8
end
theorem DeckOk.offE {p : Pl} {d : Nat} {h : Heap} (hdc : p.dc = p.dk) (x : DeckOk p d h) : h.get? p.dk = some emptyDict := x.or.elim (fun z => z.2.2) fun z => absurd hdc.symm z.1
section
variable {f : Fm} {A : Around} {P : Lv}
theorem ex_then (hX : ∀ φ₀ x,f.X φ₀ (FlowR f.p) A (exec x f.env) (fun σ => P.ex f.env.scope σ x)) {st : Stmt} {r : List Stmt} {φ : Ob} {α : Nat->Addr} {d : Nat} {σ σ' : Sto} {s : Shared} {Q : Flow->Shared->Prop} {E : Value->Shared->Prop} (I : f.I φ α d σ s.heap)
  (e : P.ex f.env.scope σ st = .ret (.next,σ')) (k : ∀ h' tk φ' α',Ext f.e φ φ'->f.I φ' α' d σ' h'->wpAny (model f.prog f.w) A (execs r f.env) Q E { s with heap := h',toks := tk }) : wpAny (model f.prog f.w) A (execs (st :: r) f.env) Q E s := by
 refine wpAny_execs_cons (hX φ st φ α d σ s _ E (Le.refl _) I ?_)
 show T.Sat d (P.ex f.env.scope σ st) _ _
 rw [e]
 intro v h' tk φ' α' _ ex I' R
 cases R with
 | next => exact k h' tk φ' α' ex I'
end
section
variable {prog : Program} {w : World} {K : Frag} {p : Pl} {fs : List Addr} {A : Around}
noncomputable def dNames : List (Str × NameKind) := [("script",.local),("cell",.local),("cells",.local),("mixed",.local)]
theorem deck_text : (deckFn.body = [deckS1,deckS2,dkRow dekPos] ∧ ((deckFn.scope.names.map (·.1)).zip deckFn.params).all (fun p => seq p.1 p.2) = true) ∧ deckFn.params.length = 1 ∧ deckFn.scope.names.length = 4 ∧ kindOf deckFn.scope.names "cells" = some .local ∧ kindOf deckFn.scope.names "mixed" = some .local ∧ idx deckFn.scope.names "cells" = 2 ∧ idx deckFn.scope.names "mixed" = 3 :=
 ⟨⟨by kernel_rfl,by kernel_rfl⟩,by kernel_rfl,by kernel_rfl,by kernel_rfl,by kernel_rfl,by kernel_rfl,by kernel_rfl⟩
theorem deck_call (hdc : p.dc = p.dk) (st : Stat prog w K p cx0) (D : Defs K p cx0 st.mg st.mb) (xs : ExcSt K p)
  {fa : Addr} (hfn : FnAt K fa deckFn) (hA : AOk 12 fs A) {φ : Ob} {d : Nat} {s : Shared} {v : Value} {ns : List Int} {R : Result->Shared->Prop} (W : WI K p fs φ d s.heap) (hr : Rep p φ v (.list (ns.map .int))) (hlen : ns.length ≤ 63)
  (next : ∀ D C h' tk,s.heap.get? D = none->s.heap.get? C = none->(∀ b o,s.heap.get? b = some o->b ∉ fs->h'.get? b = some o)->(∀ b ∈ fs,∀ o,s.heap.get? b = some o->∃ sl,h'.get? b = some { o with slots := sl })->DekAt w.params D C h' ->
   R (.ok (.ret (.ref D))) { s with heap := h',toks := tk }) :
  codeAny (model prog w) A (.call (.ref fa) ⟨[v],[]⟩) R s := by
 obtain ⟨⟨eb,enm⟩,el,enl,kc,km,ic,im⟩ := deck_text
 refine call_enter (n := 11) (H := []) hfn st.lim hA W (.plain (xs := [.list (ns.map .int)]) (.cons hr .nil)) el enm fun f A' h₀ tk α₀ e1 e2 e3 e4 e5 _ ok tp hA' hsc _ I went => ?_
 subst e1 e2 e3 e4
 rw [show ([PV.list (ns.map .int)].map Slot.fz).map some ++ List.replicate (deckFn.scope.names.length - ([PV.list (ns.map .int)].map Slot.fz).length) none = dS0 (ns.map .int) by rw [enl]; rfl] at I
 have LV := lvl_snd (c := 0) (statDeck st) (defsDeck D) specialDeck xs (fun _ h => nomatch (dk_glob h).2) 9 f.fs A' (hA'.less (by decide))
 have hX : ∀ φ₀ x,f.X φ₀ (FlowR f.p) A' (exec x f.env) (fun σ => (lvl cxDeck (0 + 9)).ex f.env.scope σ x) := fun φ₀ x => LV.ex f ⟨rfl,rfl,rfl,rfl,rfl⟩ ok tp φ₀ x
 obtain ⟨m0,m1⟩ := mixAll_lt (cut8 ns) 5959 (by decide) (by decide)
 obtain ⟨c',s2⟩ := deck_s2 0 (some (.fz (.list (ns.map .int)))) (cut8 ns)
 rw [eb]
 refine ex_then hX (s := { s with heap := h₀,toks := tk }) I (by rw [hsc]; exact deck_s1 4 ns hlen) fun h1 tk1 φ1 α1 ex1 I1 => ?_
 refine ex_then hX (s := { s with heap := h1,toks := tk1 }) I1 (by rw [hsc]; exact s2) fun h2 tk2 φ2 α2 ex2 I2 => ?_
 have Wn := went (e5 ▸ ex1.trans ex2) I2
 refine wpAny_execs_cons (deck_row3 dekPos (s := { s with heap := h2,toks := tk2 }) (cells := cut8 ns) (m := mixAll 5959 (cut8 ns)) ok (hsc ▸ kc) (hsc ▸ km) (by rw [hsc,ic]; rfl) (by rw [hsc,im]; rfl) m0 m1 (cut8_le8 ns) I2 fun D C h' tk' eD eC k DA => ?_)
 refine next D C h' tk' (e5 ▸ I2.live _ eD) (e5 ▸ I2.live _ eC) (fun b o q nb => k b o ?_) (fun b hb o q => (Wn.u b hb o q).imp fun sl z => k b _ z) DA
 by_cases hb : b = f.p.dk
 ·rw [hb] at q ⊢
  exact (Wn.dk.offE hdc).trans ((W.deck.offE hdc).symm.trans q)
 ·exact Wn.k b o q nb hb (fun z => hb (z.trans hdc)) List.not_mem_nil
end
end Mine
end
section
open PySem PySem.W PyProof.Rows
namespace Mine
section
structure TLe {α : Type} (t t' : T α) : Prop where
 of : ∀ d Q E,T.Sat d t Q E->T.Sat d t' Q E
namespace TLe
variable {α β γ : Type} {t t' : T α}
theorem refl (t : T α) : TLe t t := ⟨fun _ _ _ h => h⟩
theorem trans {a b c : T α} (x : TLe a b) (y : TLe b c) : TLe a c := ⟨fun _ _ _ h => y.of _ _ _ (x.of _ _ _ h)⟩
theorem bind {f f' : α->T β} (h : TLe t t') (k : ∀ a,TLe (f a) (f' a)) : TLe (t >>= f) (t' >>= f') :=
 ⟨fun d Q E s => T.sat_bind.mpr (h.of _ _ _ ((T.sat_bind.mp s).mono (fun d a q => (k a).of _ _ _ q) fun _ _ _ q => q))⟩
theorem to {f : α->T β} (h : TLe t t') : TLe (t >>= f) (t' >>= f) := bind h fun _ => refl _
theorem bind1 {f f' : α->T β} (k : ∀ a,TLe (f a) (f' a)) : TLe (t >>= f) (t >>= f') := bind (refl t) k
theorem atSto {σ : Sto} (h : TLe t t') : TLe (t.atSto σ) (t'.atSto σ) := ⟨fun _ _ _ s => T.sat_atSto.mpr (h.of _ _ _ (T.sat_atSto.mp s))⟩
theorem noExc (h : TLe t t') : TLe t.noExc t'.noExc := ⟨fun _ _ _ s => T.sat_noExc.mpr (h.of _ _ _ (T.sat_noExc.mp s))⟩
theorem catchE {f : PV->Sto->T α} (h : TLe t t') : TLe (t.catchE f) (t'.catchE f) := ⟨fun _ _ _ s => T.sat_catch.mpr (h.of _ _ _ (T.sat_catch.mp s))⟩
theorem stuck (w : String) : TLe (.stuck w) t := ⟨fun _ _ _ s => s.elim⟩
theorem need {c : Bool} (h : c = true->TLe t t') : TLe (.need c t) t' := ⟨fun _ _ _ s => (h s.1).of _ _ _ s.2⟩
theorem both {c : Bool} (h : TLe t t') : TLe (.need c t) (.need c t') := ⟨fun _ _ _ s => ⟨s.1,h.of _ _ _ s.2⟩⟩
theorem draw {n : Nat} {k k' : Nat->T α} (h : ∀ r,r < n->TLe (k r) (k' r)) : TLe (.draw n k) (.draw n k') := ⟨fun d _ _ s => by
 cases d with
 | zero => exact s
 | succ d => exact fun r hr => (h r hr).of _ _ _ (s r hr)⟩
theorem of_eq (h : t = t') : TLe t t' := h ▸ refl t
theorem chk {b : Bool} (h : TLe t t') : TLe (Mine.chk b t) (Mine.chk b t') := ⟨fun _ _ _ s => T.Sat.chkE s fun hb s => by subst hb; exact h.of _ _ _ s⟩
theorem one {l : List γ} {f f' : γ->T α} (h : ∀ a,TLe (f a) (f' a)) : TLe (Mine.one l f) (Mine.one l f') := ⟨fun _ _ _ s => T.Sat.oneE s fun _ hb s => by subst hb; exact (h _).of _ _ _ s⟩
theorem listV {v : PV} {f f' : List PV->T α} (h : ∀ a,TLe (f a) (f' a)) : TLe (Mine.listV v f) (Mine.listV v f') := ⟨fun _ _ _ s => T.Sat.listVE s fun _ hb s => by subst hb; exact (h _).of _ _ _ s⟩
theorem oiV {v : Slot} {f f' : Nat->List (Str × PV)->T α} (h : ∀ a b,TLe (f a b) (f' a b)) : TLe (Mine.oiV v f) (Mine.oiV v f') := ⟨fun _ _ _ s => T.Sat.oiVE s fun _ _ hb s => by subst hb; exact (h _ _).of _ _ _ s⟩
theorem olV {v : Slot} {f f' : List PV->T α} (h : ∀ a,TLe (f a) (f' a)) : TLe (Mine.olV v f) (Mine.olV v f') := ⟨fun _ _ _ s => T.Sat.olVE s fun _ hb s => by subst hb; exact (h _).of _ _ _ s⟩
theorem odV {v : Slot} {f f' : List Byt->T α} (h : ∀ a,TLe (f a) (f' a)) : TLe (Mine.odV v f) (Mine.odV v f') := ⟨fun _ _ _ s => T.Sat.odVE s fun _ hb s => by subst hb; exact (h _).of _ _ _ s⟩
theorem ite {b : Bool} {u u' : T α} (h : TLe t t') (k : TLe u u') : TLe (if b then t else u) (if b then t' else u') := by cases b; exact k; exact h
end TLe
noncomputable def Rng (C : Cx) (f : Fn) : Prop := (∃ x,C.glob x = some (.fn f)) ∨ (∃ x c own exc,C.glob x = some (.cls c f own exc)) ∨ (∃ c m,C.meth c m = some f)
structure LvLe (C : Cx) (P P' : Lv) : Prop where
 ev : ∀ sc σ e,TLe (P.ev sc σ e) (P'.ev sc σ e)
 isT : ∀ sc σ e,TLe (P.isT sc σ e) (P'.isT sc σ e)
 ex : ∀ sc σ s,TLe (P.ex sc σ s) (P'.ex sc σ s)
 call : ∀ f,Rng C f->∀ args,TLe (P.call f args) (P'.call f args)
section
variable {C : Cx} {P P' : Lv} (L : LvLe C P P')
include L
theorem evs_le (sc : Scope) : ∀ (es : List Expr) (σ : Sto),TLe (evs P sc σ es) (evs P' sc σ es)
 | [],σ => .refl _
 | e :: r,σ => .chk (.bind (L.ev ..) fun _ => .to (evs_le sc r _))
theorem exs_le (sc : Scope) : ∀ (es : List Stmt) (σ : Sto),TLe (exs P sc σ es) (exs P' sc σ es)
 | [],σ => .refl _
 | e :: r,σ => .bind (L.ex ..) fun y => by
  obtain ⟨y,σ'⟩ := y
  cases y with
  | next => exact exs_le sc r σ'
  | ret => exact .refl _
theorem boolChain_le (op : BoolOp) (sc : Scope) : ∀ (es : List Expr) (σ : Sto),TLe (boolChain P op sc σ es) (boolChain P' op sc σ es)
 | [],σ => .refl _
 | [e],σ => L.ev ..
 | e :: e' :: r,σ => .bind (L.ev ..) fun _ => .bind1 fun t => by
  cases op <;> cases t <;> first | exact boolChain_le _ sc (e' :: r) _ | exact .refl _
theorem allT_le (op : BoolOp) (sc : Scope) : ∀ (es : List Expr) (σ : Sto),TLe (allT P op sc σ es) (allT P' op sc σ es)
 | [],σ => .refl _
 | e :: r,σ => .bind (L.isT ..) fun t => by
  obtain ⟨t,σ'⟩ := t
  cases op <;> cases t <;> first | exact allT_le _ sc r _ | exact .refl _
theorem evCmp_le (sc : Scope) (σ : Sto) (l : Expr) (op : CmpOp) (r : Expr) : TLe (evCmp P sc σ l op r) (evCmp P' sc σ l op r) :=
 .chk (.bind (L.ev ..) fun a => by
  show TLe (cmpAt P sc a.2 a.1 op r (isOd (ownAt sc a.2 r))) (cmpAt P' sc a.2 a.1 op r (isOd (ownAt sc a.2 r)))
  cases isOd (ownAt sc a.2 r) with
  | none => exact .to (L.ev ..)
  | some s => exact .refl _)
theorem partE_le (sc : Scope) (σ : Sto) : ∀ e : Option Expr,TLe (partE P sc σ e) (partE P' sc σ e)
 | none => .refl _
 | some e => L.ev ..
theorem evArgs_le (sc : Scope) (σ : Sto) (es : List Expr) : TLe (evArgs P sc σ es) (evArgs P' sc σ es) := .chk (evs_le L sc es σ)
theorem callG_le (σ : Sto) {x : Str} {g : G} (hg : C.glob x = some g) (args : List PV) : TLe (callG P σ g args) (callG P' σ g args) := by
 cases g with
 | fn f => exact .to (.atSto (L.call _ (.inl ⟨x,hg⟩) _))
 | cls c f own exc => exact .chk (.to (.noExc (L.call _ (.inr (.inl ⟨x,_,_,_,hg⟩)) _)))
 | _ => exact .refl _
theorem iterOf_le (sc : Scope) (σ : Sto) (e : Expr) : TLe (iterOf P sc σ e) (iterOf P' sc σ e) := .chk (by
 cases rangeArgs sc e with
 | none => exact .to (L.ev ..)
 | some as => exact .to (evArgs_le L ..))
theorem testAll_le (sc : Scope) : ∀ (es : List Expr) (σ : Sto),TLe (testAll P sc σ es) (testAll P' sc σ es)
 | [],σ => .refl _
 | e :: r,σ => .bind (L.isT ..) fun a => by
  obtain ⟨a,σ'⟩ := a
  cases a with
  | true => exact testAll_le sc r σ'
  | false => exact .refl _
theorem compLoop_le (sc : Scope) (elt t : Expr) (ifs : List Expr) : ∀ (vs : List PV) (σ : Sto),TLe (compLoop P sc elt t ifs σ vs) (compLoop P' sc elt t ifs σ vs)
 | [],σ => .refl _
 | e :: r,σ => .bind1 fun σ₁ => .bind (testAll_le L ..) fun a => by
  obtain ⟨a,σ'⟩ := a
  cases a with
  | true => exact .bind (L.ev ..) fun _ => .to (compLoop_le sc elt t ifs r _)
  | false => exact compLoop_le sc elt t ifs r _
theorem evComp_le (sc : Scope) (σ : Sto) (elt t it : Expr) (ifs : List Expr) (cs : Scope) : TLe (evComp P sc σ elt t it ifs cs) (evComp P' sc σ elt t it ifs cs) :=
 .chk (.bind (iterOf_le L ..) fun _ => .chk (.to (.noExc (compLoop_le L ..))))
theorem methOf_rng {c : Nat} {m : Str} {q : List (Str × PV)} {fn : Fn} (h : methOf C c m q = some fn) : Rng C fn := by
 unfold methOf at h
 cases e : field q m with
 | none => rw [e] at h; exact .inr (.inr ⟨c,m,h⟩)
 | some v => rw [e] at h; exact noOpt h
theorem optLe {α β : Type} {w : String} {o : Option α} {f f' : α->T β} (h : ∀ a,o = some a->TLe (f a) (f' a)) : TLe (opt w o >>= f) (opt w o >>= f') := by
 cases o with
 | none => exact .refl _
 | some a => exact h a rfl
theorem evMeth_le (sc : Scope) (σ : Sto) (o : Expr) (m : Str) (args : List Expr) : TLe (evMeth C P sc σ o m args) (evMeth C P' sc σ o m args) := by
 show TLe (methAt C P sc σ o m args (ownAt sc σ o)) (methAt C P' sc σ o m args (ownAt sc σ o))
 cases ownAt sc σ o with
 | some s => exact .oiV fun c q => optLe L fun fn hf => .bind (evs_le L ..) fun vs => .bind1 fun s => .oiV fun _ _ => .chk (.to (.noExc (L.call _ (methOf_rng L hf) _)))
 | none =>
  refine .bind (L.ev ..) fun v => ?_
  obtain ⟨v,σ'⟩ := v
  cases v with
  | inst c fs => exact optLe L fun fn hf => .bind (evs_le L ..) fun vs => .to (.noExc (L.call _ (methOf_rng L hf) _))
  | _ => exact .bind1 fun _ => .to (evs_le L ..)
end
end
section
variable {C : Cx} {P P' : Lv} (L : LvLe C P P')
include L
theorem evCall_le (sc : Scope) (σ : Sto) (f : Expr) (args : List Expr) (kws : List Keyword) (pos : Pos) : TLe (evCall C P sc σ f args kws pos) (evCall C P' sc σ f args kws pos) := by
 cases f with
 | Name x p => cases kws with
  | nil => exact .chk (optLe L fun g hg => .bind (evArgs_le L ..) fun vs => .to (by
    cases e : C.glob x with
    | none => rw [e] at hg; exact noOpt hg
    | some g' =>
     have : g' = g := by rw [e] at hg; cases g' <;> first | exact noOpt hg | exact Option.some.inj hg
     subst this
     exact callG_le L _ e _))
  | cons k r => exact .bind1 fun q => .chk (.to (evArgs_le L ..))
 | Attribute o m p =>
  refine .chk ?_
  cases o with
  | Dict ks ds p' => exact .chk (.bind1 fun t => .chk (.to (evs_le L ..)))
  | _ => exact .chk (evMeth_le L ..)
 | _ => exact .refl _
theorem evStep_le (sc : Scope) (σ : Sto) (e : Expr) : TLe (evStep C P sc σ e) (evStep C P' sc σ e) := by
 cases e with
 | BinOp l op r p => exact .bind (L.ev ..) fun _ => .to (L.ev ..)
 | UnaryOp op x p => cases op with
  | Not => exact .to (L.ev ..)
  | USub => exact .to (L.ev ..)
  | _ => exact .refl _
 | BoolOp op es p => exact boolChain_le L ..
 | IfExp t b o p => exact .bind (L.isT ..) fun _ => .ite (L.ev ..) (L.ev ..)
 | Compare l ops rs p => exact .one fun _ => .one fun _ => evCmp_le L ..
 | Call f args kws p => exact evCall_le L ..
 | Attribute o a p =>
  show TLe (attrE C P sc σ o a (nameOf o)) (attrE C P' sc σ o a (nameOf o))
  cases nameOf o with
  | none => exact .refl _
  | some x =>
   show TLe (attrT C P sc σ o a (ownAt sc σ o)) (attrT C P' sc σ o a (ownAt sc σ o))
   cases ownAt sc σ o with
   | none => exact .to (L.ev ..)
   | some s => exact .refl _
 | Subscript o i p =>
  show TLe (subT P sc σ o i (sliceOf i)) (subT P' sc σ o i (sliceOf i))
  cases sliceOf i with
  | none => exact .bind (L.ev ..) fun _ => .to (L.ev ..)
  | some q => exact .bind (L.ev ..) fun _ => .bind (partE_le L ..) fun _ => .to (partE_le L ..)
 | Tuple es k p => exact .to (evs_le L ..)
 | List es p => exact .to (evs_le L ..)
 | ListComp elt gs cs p => exact .bind1 fun _ => .to (evComp_le L ..)
 | _ => exact .refl _
theorem isTStep_le (sc : Scope) (σ : Sto) (e : Expr) : TLe (isTStep P sc σ e) (isTStep P' sc σ e) := by
 cases e with
 | UnaryOp op x p => cases op with
  | Not => exact .to (L.isT ..)
  | _ => exact .to (L.ev ..)
 | BoolOp op es p => exact allT_le L ..
 | IfExp t b o p => exact .bind (L.isT ..) fun _ => .ite (L.isT ..) (L.isT ..)
 | Compare l ops rs p => cases ops with
  | nil => exact .refl _
  | cons op os => cases rs with
   | nil => exact .refl _
   | cons r rs => cases os with
    | nil => cases rs with
     | nil => exact .to (evCmp_le L ..)
     | cons => exact .refl _
    | cons op₂ os => cases os with
     | nil => exact .one fun r₂ => .chk (.bind (L.ev ..) fun _ => .bind (L.ev ..) fun _ => .bind1 fun _ => .bind1 fun _ => .ite (.to (L.ev ..)) (.refl _))
     | cons => exact .refl _
 | _ => exact .to (L.ev ..)
theorem ownList_le (sc : Scope) (σ : Sto) (es : List Expr) : TLe (ownList P sc σ es) (ownList P' sc σ es) := .to (evs_le L ..)
theorem ownCls_rng {sc : Scope} {f : Expr} {kws : List Keyword} {k : Nat × Fn} (h : ownCls C sc f kws = some k) : Rng C k.2 := by
 cases f with
 | Name x p =>
  have h : (match kws.isEmpty && isGlob (kindOf sc.names x) with | true => clsOf (C.glob x) | false => none) = some k := h
  cases e : kws.isEmpty && isGlob (kindOf sc.names x) with
  | false => rw [e] at h; exact noOpt h
  | true =>
   rw [e] at h
   cases q : C.glob x with
   | none => rw [q] at h; exact noOpt h
   | some g =>
    rw [q] at h
    cases g with
    | cls c i own exc =>
     refine .inr (.inl ⟨x,c,own,exc,q.trans ?_⟩)
     cases own <;> cases exc <;> first | exact noOpt h | (cases Option.some.inj h; rfl)
    | _ => exact noOpt h
 | _ => exact noOpt h
theorem evOwn_le (sc : Scope) (σ : Sto) (e : Expr) : TLe (evOwn C P sc σ e) (evOwn C P' sc σ e) := by
 cases e with
 | List es p => exact ownList_le L ..
 | Dict ks vs p => exact .refl _
 | IfExp t b o p =>
  show TLe (ifOwn P sc σ t (.IfExp t b o p) (listOf b) (listOf o)) (ifOwn P' sc σ t (.IfExp t b o p) (listOf b) (listOf o))
  cases listOf b with
  | none => exact .to (L.ev ..)
  | some b' => cases listOf o with
   | none => exact .to (L.ev ..)
   | some o' => exact .bind (L.isT ..) fun _ => ownList_le L ..
 | Call f args kws p =>
  show TLe (makeOwn P sc σ args (.Call f args kws p) (ownCls C sc f kws)) (makeOwn P' sc σ args (.Call f args kws p) (ownCls C sc f kws))
  cases h : ownCls C sc f kws with
  | none => exact .to (L.ev ..)
  | some k => exact .bind (evArgs_le L ..) fun _ => .to (.noExc (L.call _ (ownCls_rng L h) _))
 | _ => exact .to (L.ev ..)
theorem evOwns_le (sc : Scope) : ∀ (es : List Expr) (σ : Sto),TLe (evOwns C P sc σ es) (evOwns C P' sc σ es)
 | [],σ => .refl _
 | e :: r,σ => .bind (evOwn_le L ..) fun _ => .to (evOwns_le sc r _)
theorem after_le {y : Fl × Sto} {k k' : Sto->T (Fl × Sto)} (h : ∀ σ,TLe (k σ) (k' σ)) : TLe (afterT y k) (afterT y k') := by
 obtain ⟨y,σ⟩ := y
 cases y with
 | next => exact h σ
 | ret => exact .refl _
theorem forLoop_le (sc : Scope) (t : Expr) (b : List Stmt) : ∀ (vs : List PV) (σ : Sto),TLe (forLoop P sc t b σ vs) (forLoop P' sc t b σ vs)
 | [],σ => .refl _
 | v :: r,σ => .bind1 fun _ => .bind (exs_le L ..) fun _ => after_le L fun _ => forLoop_le sc t b r _
theorem whileLoop_le (sc : Scope) (t : Expr) (b : List Stmt) : ∀ (n : Nat) (σ : Sto),TLe (whileLoop P sc t b n σ) (whileLoop P' sc t b n σ)
 | 0,σ => .refl _
 | n + 1,σ => .bind (L.isT ..) fun a => by
  obtain ⟨a,σ'⟩ := a
  cases a with
  | true => exact .bind (exs_le L ..) fun _ => after_le L fun _ => whileLoop_le sc t b n _
  | false => exact .refl _
theorem asg_le (sc : Scope) (σ : Sto) (t e : Expr) : TLe (asgT C P sc σ t e) (asgT C P' sc σ t e) := by
 cases t with
 | Name x p =>
  show TLe (asgName C P sc σ x e (compOf e)) (asgName C P' sc σ x e (compOf e))
  cases compOf e with
  | none => exact .chk (.to (evOwn_le L ..))
  | some g => exact .to (evComp_le L ..)
 | Tuple ts k p =>
  show TLe (asgTuple C P sc σ (.Tuple ts k p) ts e (tupOf e)) (asgTuple C P' sc σ (.Tuple ts k p) ts e (tupOf e))
  cases tupOf e with
  | none => exact .to (L.ev ..)
  | some es => exact .chk (.bind1 fun _ => .to (evOwns_le L ..))
 | Attribute o a p => exact .to (L.ev ..)
 | Subscript o i p => exact .bind (L.ev ..) fun _ => .bind1 fun _ => .odV fun _ => .chk (.to (L.ev ..))
 | _ => exact .refl _
theorem for_le (sc : Scope) (σ : Sto) (t it : Expr) (b : List Stmt) : TLe (forT P sc σ t it b) (forT P' sc σ t it b) := by
 cases t with
 | Name x p => exact .bind (iterOf_le L ..) fun _ => .noExc (forLoop_le L ..)
 | Tuple ts k p =>
  show TLe (enumT P sc σ (.Tuple ts k p) it b (enumArgs sc it)) (enumT P' sc σ (.Tuple ts k p) it b (enumArgs sc it))
  cases enumArgs sc it with
  | none => exact .to (iterOf_le L ..)
  | some args => exact .bind (evArgs_le L ..) fun _ => .one fun _ => .listV fun _ => .noExc (forLoop_le L ..)
 | _ => exact .refl _
theorem exStep_le (sc : Scope) (σ : Sto) (s : Stmt) : TLe (exStep C P sc σ s) (exStep C P' sc σ s) := by
 cases s with
 | Return e p => exact .bind1 fun _ => .to (L.ev ..)
 | Assign ts e p => exact .one fun _ => asg_le L ..
 | AugAssign t op e p => cases t with
  | Attribute o a p => exact .chk (.bind1 fun _ => .oiV fun _ _ => .chk (.bind1 fun _ => .to (L.ev ..)))
  | _ => exact .refl _
 | If t b o p => exact .bind (L.isT ..) fun _ => exs_le L ..
 | While t b o p => exact .chk (whileLoop_le L ..)
 | For t it b o p => exact .chk (for_le L ..)
 | Expr e p => cases e with
  | Call f args kws p =>
   refine .chk ?_
   cases appOf f args p with
   | none => exact .to (L.ev ..)
   | some q => exact .bind1 fun _ => .olV fun _ => .to (L.ev ..)
  | _ => exact .refl _
 | Raise e c p =>
  refine .chk (.bind1 fun e => ?_)
  cases e with
  | Call f args kws p => cases f with
   | Name x p => exact .chk (.to (evArgs_le L ..))
   | _ => exact .refl _
  | _ => exact .refl _
 | Try b hs o fin p => exact .chk (.one fun _ => .one fun _ => .bind1 fun _ => .chk (.catchE (L.ex ..)))
 | _ => exact .refl _
theorem callStep_le (f : Fn) (args : List Slot) : TLe (callStep P f args) (callStep P' f args) := .chk (.to (.atSto (exs_le L ..)))
end
noncomputable abbrev Sm := Fn->List Slot->Option (T (PV × Option Slot))
noncomputable def callS (S : Option (T (PV × Option Slot))) (t : T (PV × Option Slot)) : T (PV × Option Slot) := match S with
 | some t => t
 | none => t
noncomputable def lvlS (C : Cx) (S : Sm) : Nat->Lv
 | 0 => Lv.zero
 | n + 1 => ⟨evStep C (lvlS C S n),isTStep (lvlS C S n),exStep C (lvlS C S n),fun f args => callS (S f args) (callStep (lvlS C S n) f args)⟩
noncomputable def SmOk (C : Cx) (N : Nat) (S : Sm) : Prop := ∀ f args t,Rng C f->S f args = some t->∀ n,N ≤ n->TLe t ((lvl C n).call f args)
theorem lvlS_le {C : Cx} {S : Sm} {N : Nat} (h : SmOk C N S) : ∀ n m,N + n ≤ m->LvLe C (lvlS C S n) (lvl C m)
 | 0,m,_ => ⟨fun _ _ _ => .stuck _,fun _ _ _ => .stuck _,fun _ _ _ => .stuck _,fun _ _ _ => .stuck _⟩
 | n + 1,0,hm => absurd hm (Nat.not_succ_le_zero _)
 | n + 1,m + 1,hm => by
  have ih := lvlS_le h n m (Nat.le_of_succ_le_succ hm)
  refine ⟨evStep_le ih,isTStep_le ih,exStep_le ih,fun f hf args => ?_⟩
  show TLe (callS (S f args) (callStep (lvlS C S n) f args)) (callStep (lvl C m) f args)
  cases q : S f args with
  | some t => exact h f args t hf q (m + 1) (Nat.le_trans (Nat.le_add_right ..) hm)
  | none => exact callStep_le ih f args
theorem call_le {C : Cx} {S : Sm} {N n m : Nat} (h : SmOk C N S) (hm : N + n + 1 ≤ m) (f : Fn) (args : List Slot) : TLe (callStep (lvlS C S n) f args) ((lvl C m).call f args) := by
 cases m with
 | zero => exact absurd hm (Nat.not_succ_le_zero _)
 | succ m => exact callStep_le (lvlS_le h n m (Nat.le_of_succ_le_succ hm)) f args
end Mine
end
section
open PySem PySem.W PyProof.Rows
set_option backward.match.sparseCases false
namespace Mine
noncomputable def fnOf (x : Str) : Fn := (fnNamed x).getD default
theorem rng_name {f : Fn} (h : Rng cx0 f) {x : Str} (hn : seq f.name x = true) (hs : isSelf f = false) : f = fnOf x := by
 have no : ∀ {c m},methNamed c m = some f->False := fun q => Bool.noConfusion (hs.symm.trans (methNamed_some q).2)
 rcases h with ⟨y,h⟩ | ⟨y,c,own,exc,h⟩ | ⟨c,m,h⟩
 ·refine glob_inv h (fun q => noB (in_gT q)) (fun _ _ _ _ e => nomatch e) fun g _ q e => ?_
  cases e
  rw [← seq_iff.mp hn,(fnNamed_some q).2.1,fnOf,q]
  rfl
 ·refine glob_inv h (fun q => noB (in_gT q)) (fun q g _ a e => ?_) (fun _ _ _ e => nomatch e)
  injection e with _ e
  exact (no (e ▸ a)).elim
 ·have h : (match Nat.ble 1 c && Nat.ble c 6 with
   | true => methNamed (className c) m
   | false => none) = some f := h
  cases e : Nat.ble 1 c && Nat.ble c 6 with
  | true => rw [e] at h; exact (no h).elim
  | false => rw [e] at h; exact noOpt h
noncomputable abbrev TR := T (PV × Option Slot)
noncomputable def mkS : List (Str × (List Slot->TR))->Sm
 | [],_,_ => none
 | p :: r,f,args => match seq f.name p.1 && !isSelf f with
  | true => some (p.2 args)
  | false => mkS r f args
theorem lvl_mono {C : Cx} (n : Nat) : ∀ {m},n ≤ m->LvLe C (lvl C n) (lvl C m) := by
 induction n with
 | zero => exact fun _ => ⟨fun _ _ _ => .stuck _,fun _ _ _ => .stuck _,fun _ _ _ => .stuck _,fun _ _ _ => .stuck _⟩
 | succ n ih =>
  intro m hm
  cases m with
  | zero => exact absurd hm (Nat.not_succ_le_zero _)
  | succ m =>
   have ih := ih (Nat.le_of_succ_le_succ hm)
   exact ⟨evStep_le ih,isTStep_le ih,exStep_le ih,fun f _ args => callStep_le ih f args⟩
theorem SmOk.nil (N : Nat) : SmOk cx0 N (mkS []) := fun _ _ _ _ h => noOpt h
theorem SmOk.cons {N : Nat} {x : Str} {t : List Slot->TR} {r} (h : ∀ args,TLe (t args) ((lvl cx0 N).call (fnOf x) args)) (hr : SmOk cx0 N (mkS r)) : SmOk cx0 N (mkS ((x,t) :: r)) := by
 intro f args u hf hs n hn
 have hs : (match seq f.name x && !isSelf f with
  | true => some (t args)
  | false => mkS r f args) = some u := hs
 cases e : seq f.name x && !isSelf f with
 | true =>
  rw [e] at hs
  cases hs
  obtain ⟨e1,e2⟩ := (Bool.and_eq_true_iff ..).mp e
  have q := rng_name hf e1 ((Bool.not_eq_true' _).mp e2)
  refine .trans ?_ ((lvl_mono N hn).call f hf args)
  rw [q]
  exact h args
 | false => rw [e] at hs; exact hr f args u hf hs n hn
section
variable {C : Cx} {S : Sm} {N n m : Nat} {sc : Scope} {σ : Sto}
theorem up {x : Str} {args : List Slot} {t : TR} (h : TLe t (callStep (lvl C n) (fnOf x) args)) (hm : Nat.ble (n + 1) m = true) : TLe t ((lvl C m).call (fnOf x) args) := by
 cases m with
 | zero => cases hm
 | succ m => exact .trans h (callStep_le (lvl_mono n (Nat.le_of_ble_eq_true hm)) _ _)
theorem upS {x : Str} {args : List Slot} {t : TR} (hS : SmOk cx0 N S) (h : TLe t (callStep (lvlS cx0 S n) (fnOf x) args)) (hm : Nat.ble (N + n + 1) m = true) : TLe t ((lvl cx0 m).call (fnOf x) args) := .trans h (call_le hS (Nat.le_of_ble_eq_true hm) _ _)
theorem stL {t : T (Fl × Sto)} {s : Stmt} (hS : SmOk C N S) (h : TLe t ((lvlS C S n).ex sc σ s)) (hm : Nat.ble (N + n) m = true) : TLe t ((lvl C m).ex sc σ s) := .trans h ((lvlS_le hS n m (Nat.le_of_ble_eq_true hm)).ex sc σ s)
theorem isTL {t : T (Bool × Sto)} {s : Expr} (hS : SmOk C N S) (h : TLe t ((lvlS C S n).isT sc σ s)) (hm : Nat.ble (N + n) m = true) : TLe t ((lvl C m).isT sc σ s) := .trans h ((lvlS_le hS n m (Nat.le_of_ble_eq_true hm)).isT sc σ s)
theorem evL {t : T (PV × Sto)} {s : Expr} (hS : SmOk C N S) (h : TLe t ((lvlS C S n).ev sc σ s)) (hm : Nat.ble (N + n) m = true) : TLe t ((lvl C m).ev sc σ s) := .trans h ((lvlS_le hS n m (Nat.le_of_ble_eq_true hm)).ev sc σ s)
theorem exsL {t : T (Fl × Sto)} {s : List Stmt} (hS : SmOk C N S) (h : TLe t (exs (lvlS C S n) sc σ s)) (hm : Nat.ble (N + n) m = true) : TLe t (exs (lvl C m) sc σ s) := .trans h (exs_le (lvlS_le hS n m (Nat.le_of_ble_eq_true hm)) sc s σ)
end
section
structure Tot {α : Type} (m : Nat) (t : T α) (Q : α->Prop) : Prop where
 of : ∀ d,T.Sat (d + m) t (fun d' a => d ≤ d' ∧ Q a) fun _ _ _ => False
namespace Tot
variable {α β : Type} {m m' : Nat} {t t' : T α} {Q Q' : α->Prop}
theorem ret {a : α} (h : Q a) : Tot m (.ret a) Q := ⟨fun d => ⟨Nat.le_add_right d m,h⟩⟩
theorem need {c : Bool} (hc : c = true) (h : Tot m t Q) : Tot m (.need c t) Q := ⟨fun d => ⟨hc,h.of d⟩⟩
theorem draw {n : Nat} {k : Nat->T α} (h : ∀ r,r < n->Tot m (k r) Q) : Tot (m + 1) (.draw n k) Q := ⟨fun d r hr => (h r hr).of d⟩
theorem mono (h : Tot m t Q) (hq : ∀ a,Q a->Q' a) : Tot m t Q' := ⟨fun d => (h.of d).mono (fun _ a q => ⟨q.1,hq a q.2⟩) fun _ _ _ q => q⟩
theorem bind {f : α->T β} {Q₂ : β->Prop} (h : Tot m t Q) (k : ∀ a,Q a->Tot m' (f a) Q₂) : Tot (m' + m) (t >>= f) Q₂ := ⟨fun d => T.sat_bind.mpr <| by
 rw [← Nat.add_assoc]
 refine (h.of (d + m')).mono (fun d' a q => ?_) fun _ _ _ q => q
 obtain ⟨e,rfl⟩ := Nat.exists_eq_add_of_le q.1
 rw [Nat.add_right_comm]
 exact ((k a q.2).of (d + e)).mono (fun _ b z => ⟨Nat.le_trans (Nat.le_add_right ..) z.1,z.2⟩) fun _ _ _ q => q⟩
theorem bind0 {f : α->T β} {Q₂ : β->Prop} (h : Tot m t Q) (k : ∀ a,Q a->Tot 0 (f a) Q₂) : Tot m (t >>= f) Q₂ := (Nat.zero_add m) ▸ bind h k
theorem le (h : TLe t t') (k : Tot m t Q) : Tot m t' Q := ⟨fun d => h.of _ _ _ (k.of d)⟩
theorem atSto {σ : Sto} (h : Tot m t Q) : Tot m (t.atSto σ) Q := ⟨fun d => T.sat_atSto.mpr (h.of d)⟩
theorem more (h : Tot m t Q) : Tot (m' + m) t Q := ⟨fun d => by
 rw [← Nat.add_assoc]
 exact (h.of (d + m')).mono (fun _ a q => ⟨Nat.le_trans (Nat.le_add_right ..) q.1,q.2⟩) fun _ _ _ q => q⟩
end Tot
noncomputable def collN {α : Type} (c : Bool) : T α->T α
 | .need c' t => .need (c && c') t
 | x => x
noncomputable def coll {α : Type} : T α->T α
 | .need c t => collN c (coll t)
 | .draw n k => .need true (.draw n fun r => coll (k r))
 | t => .need true t
theorem coll_sat {α : Type} {Q E} (t : T α) : (∃ c u,coll t = .need c u) ∧ ∀ d,T.Sat d (coll t) Q E ↔ T.Sat d t Q E := by
 induction t with
 | ret a => exact ⟨⟨_,_,rfl⟩,fun d => T.sat_need.trans ⟨fun h => h.2,fun h => ⟨rfl,h⟩⟩⟩
 | exc => exact ⟨⟨_,_,rfl⟩,fun d => T.sat_need.trans ⟨fun h => h.2,fun h => ⟨rfl,h⟩⟩⟩
 | stuck => exact ⟨⟨_,_,rfl⟩,fun d => T.sat_need.trans ⟨fun h => h.2,fun h => ⟨rfl,h⟩⟩⟩
 | draw n k ih =>
  refine ⟨⟨_,_,rfl⟩,fun d => T.sat_need.trans ⟨fun h => ?_,fun h => ⟨rfl,?_⟩⟩⟩
  ·cases d with
   | zero => exact h.2
   | succ d => exact fun r hr => ((ih r).2 d).mp (h.2 r hr)
  ·cases d with
   | zero => exact h
   | succ d => exact fun r hr => ((ih r).2 d).mpr (h r hr)
 | need c t ih =>
  obtain ⟨⟨c',u,e⟩,ih⟩ := ih
  have e' : coll (.need c t) = collN c (coll t) := rfl
  rw [e] at e' ih
  refine ⟨⟨_,_,e'⟩,fun d => ?_⟩
  rw [e']
  refine Iff.trans ⟨fun h => ?_,fun h => ?_⟩ (Iff.symm T.sat_need)
  ·obtain ⟨h1,h2⟩ := (Bool.and_eq_true_iff ..).mp h.1
   exact ⟨h1,(ih d).mp ⟨h2,h.2⟩⟩
  ·have h2 := (ih d).mpr h.2
   exact ⟨(Bool.and_eq_true_iff ..).mpr ⟨h.1,h2.1⟩,h2.2⟩
theorem coll_le {α : Type} {t t' : T α} (h : coll t' = coll t) : TLe t t' := ⟨fun d _ _ s => ((coll_sat t').2 d).mp (h ▸ ((coll_sat t).2 d).mpr s)⟩
theorem coll_leN {α : Type} {t t' : T α} (h : coll t' = .need true t) : TLe t t' := ⟨fun d _ _ s => ((coll_sat t').2 d).mp (h ▸ ⟨rfl,s⟩)⟩
theorem coll_le2 {α : Type} {t t' : T α} (h : coll t' = coll (coll t)) : TLe t t' := .trans ⟨fun d _ _ s => ((coll_sat t).2 d).mpr s⟩ (coll_le h)
noncomputable def atDN {α : Type} (t : T α) (r : Nat) : T α->T α
 | .draw _ k => k r
 | _ => t
noncomputable def atDC {α : Type} (t : T α) (r : Nat) : T α->T α
 | .need _ u => atDN t r u
 | _ => t
noncomputable def atD {α : Type} (t : T α) (r : Nat) : T α := atDC t r (coll t)
theorem Tot.drawD {α : Type} {m n : Nat} {t : T α} {Q : α->Prop} (e : coll t = .need true (.draw n (atD t))) (h : ∀ r,r < n->Tot m (atD t r) Q) : Tot (m + 1) t Q := ⟨fun d => ((coll_sat t).2 _).mp <| by
 rw [e]
 exact ⟨rfl,(Tot.draw h).of d⟩⟩
noncomputable def mapA {α β : Type} (f : α->β) : List α->List β
 | [] => []
 | a :: r => f a :: mapA f r
noncomputable def mapB {α β : Type} (f : α->β) : List α->List β
 | [] => []
 | a :: r => f a :: mapB f r
theorem tab {α β : Type} {f g : α->β} {l : List α} (h : mapA f l = mapB g l) {a : α} (ha : a ∈ l) : f a = g a := by
 induction l with
 | nil => cases ha
 | cons b r ih =>
  injection h with h1 h2
  cases ha with
  | head => exact h1
  | tail _ ha => exact ih h2 ha
noncomputable def eqB {α : Type} (a b : α) : Bool := @decide (a = b) (Classical.propDecidable _)
theorem eqB_eq {α : Type} {a b : α} (h : eqB a b = true) : a = b := @of_decide_eq_true _ (Classical.propDecidable _) h
theorem eqB_self {α : Type} (a : α) : eqB a a = true := @decide_eq_true _ (Classical.propDecidable _) rfl
noncomputable def memB {α : Type} (a : α) (l : List α) : Bool := @decide (a ∈ l) (Classical.propDecidable _)
theorem memB_in {α : Type} {a : α} {l : List α} (h : memB a l = true) : a ∈ l := @of_decide_eq_true _ (Classical.propDecidable _) h
theorem memB_of {α : Type} {a : α} {l : List α} (h : a ∈ l) : memB a l = true := @decide_eq_true _ (Classical.propDecidable _) h
noncomputable def gv (v a : PV) : TR := .ret (v,some (.fz a))
noncomputable def atA (a : List Slot) (u : TR) (args : List Slot) : TR := .need (eqB args a) u
theorem atA_le {a : List Slot} {u : TR} {F : List Slot->TR} (h : TLe u (F a)) (args : List Slot) : TLe (atA a u args) (F args) := .need fun e => by rw [eqB_eq e]; exact h
noncomputable def dec {α : Type} (get : List Slot->α) (mk : α->List Slot) (l : List α) (k : α->TR) (args : List Slot) : TR := .need (eqB args (mk (get args)) && memB (get args) l) (k (get args))
theorem dec_le {α : Type} {get : List Slot->α} {mk : α->List Slot} {l : List α} {k : α->TR} {F : List Slot->TR} (h : ∀ a ∈ l,TLe (k a) (F (mk a))) (args : List Slot) : TLe (dec get mk l k args) (F args) := .need fun e => by
 obtain ⟨e1,e2⟩ := (Bool.and_eq_true_iff ..).mp e
 have := h _ (memB_in e2)
 rw [← eqB_eq e1] at this
 exact this
noncomputable def inv {α β : Type} [Inhabited α] (f : α->β) (l : List α) (b : β) : α := @dite _ (∃ a,a ∈ l ∧ f a = b) (Classical.propDecidable _) (fun h => h.choose) fun _ => default
theorem inv_of {α β : Type} [Inhabited α] {f : α->β} {g : β->α} {l : List α} (h : ∀ a ∈ l,g (f a) = a) {a : α} (ha : a ∈ l) : inv f l (f a) = a := by
 have q : ∃ a',a' ∈ l ∧ f a' = f a := ⟨a,ha,rfl⟩
 have e : inv f l (f a) = q.choose := dif_pos q
 rw [e,← h _ q.choose_spec.1,q.choose_spec.2,h a ha]
end
noncomputable def tupL : PV->List PV
 | .tup l => l
 | .list l => l
 | .inst _ fs => fs.map (·.2)
 | _ => []
noncomputable def asB : PV->Byt
 | .byt b => b
 | _ => #[]
noncomputable def asI : PV->Int
 | .int i => i
 | _ => 0
noncomputable def slV : Slot->PV
 | .fz v => v
 | _ => .none
noncomputable def argV (args : List Slot) (i : Nat) : PV := (args.map slV).getD i .none
noncomputable def partB (v : PV) (i : Nat) : Byt := asB ((tupL v).getD i .none)
noncomputable def partI (v : PV) (i : Nat) : Int := asI ((tupL v).getD i .none)
noncomputable def ansR : TR->PV
 | .ret x => x.1
 | _ => .none
noncomputable def ans : TR->PV
 | .need _ t => ansR t
 | _ => .none
noncomputable abbrev Per := Byt × Int × Byt
noncomputable def pNames : List Byt := [#[65],#[],#[66,32,99]]
noncomputable def pWhens : List Int := [0,7,2 ^ 63 - 1,2 ^ 63,2 ^ 70]
noncomputable def pZones : List Byt := [#[43,48,48,48,48],#[45,49,52,48,48],#[43,49,52,48,49],#[45,49,52,48,49],#[43,48,48,54,48],#[45,57,57,57,57],#[43,49,51,53,57]]
noncomputable def pAll : List Per := pNames.flatMap fun n => pWhens.flatMap fun w => pZones.map fun z => (n,w,z)
noncomputable def pMail : Byt := #[97,64,98]
noncomputable def whenB (i : Int) : Byt := match decide (i = 0),decide (i = 7),decide (i = 2 ^ 63 - 1),decide (i = 2 ^ 63) with
 | true,_,_,_ => #[48]
 | _,true,_,_ => #[55]
 | _,_,true,_ => #[57,50,50,51,51,55,50,48,51,54,56,53,52,55,55,53,56,48,55]
 | _,_,_,true => #[57,50,50,51,51,55,50,48,51,54,56,53,52,55,55,53,56,48,56]
 | _,_,_,_ => #[49,49,56,48,53,57,49,54,50,48,55,49,55,52,49,49,51,48,51,52,50,52]
noncomputable def rowP (P : Per) : Byt := P.1 ++ #[32,60] ++ pMail ++ #[62,32] ++ whenB P.2.1 ++ #[32] ++ P.2.2
noncomputable def itP (P : Per) : PV := .tup [.byt P.1,.byt pMail,.int P.2.1,.byt P.2.2]
noncomputable def perP (P : Per) : PV := .inst 1 [("name",.byt P.1),("email",.byt pMail),("when",.int P.2.1),("zone",.byt P.2.2)]
noncomputable def badZones : List Byt := [#[43,49,52,48,49],#[45,49,52,48,49],#[43,48,48,54,48],#[45,57,57,57,57]]
noncomputable def fauP (P : Per) : List PV := (if P.1.size = 0 then [.str "a person without a name"] else []) ++ (if 2 ^ 63 ≤ P.2.1 then [.str "a moment too late"] else []) ++ (if badZones.any (bytEq · P.2.2) then [.str "a zone that is nowhere"] else [])
noncomputable def getP (args : List Slot) : Per := (partB (argV args 0) 0,partI (argV args 0) 2,partB (argV args 0) 3)
noncomputable def aIt (P : Per) : List Slot := [.fz (itP P)]
noncomputable def aPer (P : Per) : List Slot := [.fz (perP P)]
noncomputable def aRow (P : Per) : List Slot := [.fz (.byt (rowP P))]
noncomputable abbrev at18 (x : Str) (args : List Slot) : TR := coll (callStep (lvl cx0 18) (fnOf x) args)
theorem x1 : mapA (fun P => at18 "_law_row" (aIt P)) pAll = mapB (fun P => T.need true (gv (.byt (rowP P)) (itP P))) pAll := by kernel_rfl
theorem x3 : mapA (fun P => at18 "person_faults" (aPer P)) pAll = mapB (fun P => T.need true (gv (.list (fauP P)) (perP P))) pAll := by kernel_rfl
theorem x4 : mapA (fun P => at18 "_law_of_person" (aIt P)) pAll = mapB (fun P => T.need true (gv (.list (fauP P)) (itP P))) pAll := by kernel_rfl
noncomputable def numT : List Int->Byt->TR
 | [],_ => .stuck "number"
 | w :: r,b => match bytEq b (whenB w) with
  | true => gv (.int w) (.byt b)
  | false => numT r b
noncomputable def numS (args : List Slot) : TR := one args fun s => fzV s fun v => bytV v (numT pWhens)
theorem x5 : mapA (fun w => at18 "number_of" [.fz (.byt (whenB w))]) pWhens = mapB (fun w => T.need true (gv (.int w) (.byt (whenB w)))) pWhens := by kernel_rfl
theorem bytEq_eq {a b : Byt} (h : bytEq a b = true) : a = b := Array.ext' (eq_of_beq h)
theorem numT_le {F : Byt->TR} {b : Byt} {l : List Int} (h : ∀ w ∈ l,TLe (gv (.int w) (.byt (whenB w))) (F (whenB w))) : TLe (numT l b) (F b) := by
 induction l with
 | nil => exact .stuck _
 | cons w r ih =>
  show TLe (match bytEq b (whenB w) with
   | true => gv (.int w) (.byt b)
   | false => numT r b) _
  cases e : bytEq b (whenB w) with
  | true =>
   have := h w (.head _)
   rw [← bytEq_eq e] at this
   exact this
  | false => exact ih fun x hx => h x (.tail _ hx)
theorem numS_le (args : List Slot) : TLe (numS args) ((lvl cx0 19).call (fnOf "number_of") args) := ⟨fun _ _ _ s => by
 refine T.Sat.oneE s fun x e s => ?_
 subst e
 refine T.Sat.fzVE s fun x e s => ?_
 subst e
 refine T.Sat.bytVE s fun b e s => ?_
 subst e
 exact (numT_le (F := fun b => (lvl cx0 19).call (fnOf "number_of") [.fz (.byt b)]) fun w hw => up (coll_leN (tab x5 hw)) rfl).of _ _ _ s⟩
noncomputable def sNum : Sm := mkS [("number_of",numS)]
theorem sNum_ok : SmOk cx0 19 sNum := .cons numS_le (.nil _)
theorem x2 : mapA (fun P => coll (callStep (lvlS cx0 sNum 14) (fnOf "read_person") (aRow P))) pAll = mapB (fun P => T.need true (gv (perP P) (.byt (rowP P)))) pAll := by kernel_rfl
noncomputable def oids : List Byt := [#[0,0],#[1,0],#[171,2],#[0,7]]
noncomputable def isN (b : Byt) : Bool := bytEq b #[0,0]
noncomputable def aHex (o : Byt) : List Slot := [.fz (.byt (hexOf o)),.fz (.int 2)]
noncomputable def aNul (o : Byt) : List Slot := [.fz (.byt o),.fz (.byt #[0])]
theorem x6 : mapA (fun o => at18 "object_head_id" (aHex o)) oids = mapB (fun o => T.need true (gv (.byt o) (.byt (hexOf o)))) oids := by kernel_rfl
theorem x7 : mapA (fun o => at18 "object_are_all" (aNul o)) oids = mapB (fun o => T.need true (gv (.bool (isN o)) (.byt o))) oids := by kernel_rfl
noncomputable def whoOf (b : Byt) : Per := inv rowP pAll b
noncomputable def unhex (b : Byt) : Byt := inv hexOf oids b
theorem who_of {P : Per} (h : P ∈ pAll) : whoOf (rowP P) = P := inv_of (g := fun b => getP [.fz (ans (coll (callStep (lvlS cx0 sNum 14) (fnOf "read_person") [.fz (.byt b)])))]) (fun P hP => congrArg (fun t => getP [.fz (ans t)]) (tab x2 hP)) h
theorem unhex_of {o : Byt} (h : o ∈ oids) : unhex (hexOf o) = o := inv_of (g := fun b => asB (ans (at18 "object_head_id" [.fz (.byt b),.fz (.int 2)]))) (fun o ho => congrArg (fun t => asB (ans t)) (tab x6 ho)) h
noncomputable def perN {α : Type} (args : List Slot) (k : Per->T α) : T α := .need (eqB args (aIt (getP args)) && memB (getP args) pAll) (k (getP args))
noncomputable def s1 (z : Bool) : List (Str × (List Slot->TR)) := [("_law_row",dec getP aIt pAll fun P => gv (.byt (rowP P)) (itP P)),("_law_of_person",dec getP aIt pAll fun P => gv (.list (fauP P)) (itP P)),("person_faults",dec getP aPer pAll fun P => gv (.list (fauP P)) (perP P)),
 ("object_head_id",dec (fun a => unhex (asB (argV a 0))) aHex oids fun o => gv (.byt o) (.byt (hexOf o))),("object_are_all",dec (fun a => asB (argV a 0)) aNul (oids.filter (isN · == z)) fun o => gv (.bool z) (.byt o)),
 ("read_person",dec (fun a => whoOf (asB (argV a 0))) aRow pAll fun P => gv (perP P) (.byt (rowP P)))]
theorem s1_ok (z : Bool) : SmOk cx0 34 (mkS (s1 z)) :=
 .cons (dec_le fun P hP => up (coll_leN (tab x1 hP)) rfl) <| .cons (dec_le fun P hP => up (coll_leN (tab x4 hP)) rfl) <| .cons (dec_le fun P hP => up (coll_leN (tab x3 hP)) rfl) <|
 .cons (dec_le fun P hP => up (coll_leN (tab x6 hP)) rfl) <| .cons (dec_le fun o ho => by
  obtain ⟨h1,h2⟩ := List.mem_filter.mp ho
  rw [← eq_of_beq h2]
  exact up (coll_leN (tab x7 h1)) rfl) <| .cons (dec_le fun P hP => upS sNum_ok (coll_leN (tab x2 hP)) rfl) <| .nil _
theorem notIn {c a : UInt8} {x : List UInt8} (h : c ∉ a :: x) : (c == a) = false ∧ c ∉ x := ⟨beq_false_of_ne fun e => h (e ▸ .head _),fun e => h (.tail _ e)⟩
theorem findFrom_cons {c a : UInt8} {n q : List UInt8} {k : Nat} (h : (c == a) = false) : findFrom (c :: n) (a :: q) k = findFrom (c :: n) q (k + 1) := by
 show (if (c == a && startsAt n q) = true then some k else findFrom (c :: n) q (k + 1)) = _
 rw [h]
 rfl
theorem findFrom_hit {c : UInt8} {x r : List UInt8} : ∀ {k : Nat},c ∉ x->findFrom [c] (x ++ c :: r) k = some (k + x.length) := by
 induction x with
 | nil =>
  intro k _
  show (if (c == c && true) = true then some k else _) = _
  rw [beq_self_eq_true]
  rfl
 | cons a x ih =>
  intro k h
  rw [List.cons_append,findFrom_cons (notIn h).1,ih (notIn h).2,Nat.add_right_comm]
  rfl
theorem findFrom_miss {c : UInt8} {x : List UInt8} : ∀ {k : Nat},c ∉ x->findFrom [c] x k = none := by
 induction x with
 | nil => exact fun _ => rfl
 | cons a x ih => exact fun h => (findFrom_cons (notIn h).1).trans (ih (notIn h).2)
section
variable {o : Byt} {c : UInt8} {pre x r : List UInt8}
theorem size_of (h : o.toList = pre ++ x) : o.size = pre.length + x.length := Array.length_toList.symm.trans ((congrArg List.length h).trans List.length_append)
theorem size_of3 (h : o.toList = pre ++ (x ++ r)) : o.size = pre.length + (x.length + r.length) := (size_of h).trans (congrArg _ List.length_append)
theorem find_at (h : o.toList = pre ++ x) (n : Byt) : bytFind o n pre.length = (match findFrom n.toList x pre.length with | some k => (k : Int) | none => -1) := by
 unfold bytFind
 rw [if_pos (size_of h ▸ Nat.le_add_right ..),h,List.drop_left] <;> rfl
theorem find_hit (h : o.toList = pre ++ (x ++ c :: r)) (hc : c ∉ x) : bytFind o #[c] pre.length = ((pre.length + x.length : Nat) : Int) := by rw [find_at h,findFrom_hit hc]
theorem find_miss (h : o.toList = pre ++ x) (hc : c ∉ x) : bytFind o #[c] pre.length = -1 := by rw [find_at h,findFrom_miss hc]
theorem cut_lo {a : Nat} {hi : Option Int} (h : a ≤ o.size) : cutBy o.toList o.size (some (a : Int)) hi = (o.toList.drop a).take (hi.elim o.size (clipAt o.size) - a) := by
 show (o.toList.drop (clipAt o.size a)).take (_ - clipAt o.size a) = _
 rw [clipAt_nat,Nat.min_eq_left h]
theorem cut_mid (h : o.toList = pre ++ (x ++ r)) : cutBy o.toList o.size (some (pre.length : Int)) (some ((pre.length + x.length : Nat) : Int)) = x := by
 have hs := size_of3 h
 rw [cut_lo (hs ▸ Nat.le_add_right ..)]
 show (o.toList.drop _).take (clipAt o.size _ - _) = _
 rw [clipAt_nat,Nat.min_eq_left (hs ▸ Nat.add_le_add_left (Nat.le_add_right ..) _),h,List.drop_left,Nat.add_sub_cancel_left,List.take_left]
theorem cut_tail (h : o.toList = pre ++ r) : cutBy o.toList o.size (some (pre.length : Int)) none = r := by
 have hs := size_of h
 rw [cut_lo (hs ▸ Nat.le_add_right ..)]
 show (o.toList.drop _).take (o.size - _) = _
 rw [h,hs,List.drop_left,Nat.add_sub_cancel_left,List.take_length]
theorem cut_head (h : o.toList = x ++ r) : cutBy o.toList o.size none (some (x.length : Int)) = x := by
 show (o.toList.drop 0).take (clipAt o.size _ - 0) = _
 rw [clipAt_nat,Nat.min_eq_left (size_of h ▸ Nat.le_add_right ..),h]
 exact List.take_left
end
section
variable {P : Lv} {sc : Scope} {σ σ' : Sto} {s : Stmt} {r : List Stmt} {u : T (Fl × Sto)}
theorem nx (h : TLe (.ret (.next,σ')) (P.ex sc σ s)) (k : TLe u (exs P sc σ' r)) : TLe u (exs P sc σ (s :: r)) := .trans k (TLe.to (f := fun y => afterT y fun σ => exs P sc σ r) h)
theorem nxe (h : P.ex sc σ s = .ret (.next,σ')) (k : TLe u (exs P sc σ' r)) : TLe u (exs P sc σ (s :: r)) := nx (.of_eq h.symm) k
theorem nl (h : TLe (.ret (.next,σ')) (P.ex sc σ s)) : TLe (.ret (.next,σ')) (exs P sc σ [s]) := nx h (.refl _)
theorem rt {v : PV} (h : TLe (.ret (.ret v,σ')) (P.ex sc σ s)) : TLe (.ret (.ret v,σ')) (exs P sc σ (s :: r)) := TLe.to (f := fun y => afterT y fun σ => exs P sc σ r) h
theorem ecx {v : PV} (h : TLe (.exc v σ') (P.ex sc σ s)) : TLe (.exc v σ') (exs P sc σ (s :: r)) := TLe.to (f := fun y => afterT y fun σ => exs P sc σ r) h
theorem TLe.needT {α : Type} {c : Bool} {t t' : T α} (hc : c = true) (h : TLe t t') : TLe t (.need c t') := ⟨fun _ _ _ s => ⟨hc,h.of _ _ _ s⟩⟩
theorem nd {α : Type} {c : Bool} {t t' : T α} (e : t' = .need c t) (hc : c = true) : TLe t t' := .trans (.needT hc (.refl t)) (.of_eq e.symm)
variable {C : Cx} {t : Expr} {b o : List Stmt} {p : Pos}
theorem ifT0 (h : TLe (.ret (true,σ')) (P.isT sc σ t)) (k : TLe u (exs P sc σ' b)) : TLe u (exStep C P sc σ (.If t b o p)) := .trans k (TLe.to (f := fun c : Bool × Sto => exs P sc c.2 (if c.1 then b else o)) h)
theorem ifF0 (h : TLe (.ret (false,σ')) (P.isT sc σ t)) (k : TLe u (exs P sc σ' o)) : TLe u (exStep C P sc σ (.If t b o p)) := .trans k (TLe.to (f := fun c : Bool × Sto => exs P sc c.2 (if c.1 then b else o)) h)
theorem ifT' {S : Sm} {n : Nat} (h : TLe (.ret (true,σ')) ((lvlS C S n).isT sc σ t)) (k : TLe u (exs (lvlS C S n) sc σ' b)) : TLe u ((lvlS C S (n + 1)).ex sc σ (.If t b o p)) := ifT0 (C := C) (p := p) h k
theorem ifF' {S : Sm} {n : Nat} (h : TLe (.ret (false,σ')) ((lvlS C S n).isT sc σ t)) (k : TLe u (exs (lvlS C S n) sc σ' o)) : TLe u ((lvlS C S (n + 1)).ex sc σ (.If t b o p)) := ifF0 (C := C) (p := p) h k
theorem ifT'' {n : Nat} (h : TLe (.ret (true,σ')) ((lvl C n).isT sc σ t)) (k : TLe u (exs (lvl C n) sc σ' b)) : TLe u ((lvl C (n + 1)).ex sc σ (.If t b o p)) := ifT0 (C := C) (p := p) h k
theorem ifF'' {n : Nat} (h : TLe (.ret (false,σ')) ((lvl C n).isT sc σ t)) (k : TLe u (exs (lvl C n) sc σ' o)) : TLe u ((lvl C (n + 1)).ex sc σ (.If t b o p)) := ifF0 (C := C) (p := p) h k
end
noncomputable def pN (n : Nat) : PV := .int (n : Int)
noncomputable def fz (v : PV) : Option Slot := some (.fz v)
noncomputable def bt (b : Byt) : Option Slot := fz (.byt b)
noncomputable def ifT : Stmt->Expr
 | .If t _ _ _ => t
 | _ => default
noncomputable def ifB : Stmt->List Stmt
 | .If _ b _ _ => b
 | _ => []
noncomputable def ifO : Stmt->List Stmt
 | .If _ _ o _ => o
 | _ => []
noncomputable def whT : Stmt->Expr
 | .While t _ _ _ => t
 | _ => default
noncomputable def whB : Stmt->List Stmt
 | .While _ b _ _ => b
 | _ => []
noncomputable abbrev ifX (s : Stmt) : Stmt := .If (ifT s) (ifB s) [] s.pos
noncomputable abbrev HP (n : Nat) : Lv := lvlS cx0 (mkS []) n
noncomputable abbrev oh : Fn := fnOf "object_heads"
noncomputable def ohS (i : Nat) : Stmt := oh.body.getD i default
noncomputable abbrev ohB : List Stmt := whB (ohS 2)
noncomputable def hB (i : Nat) : Stmt := ohB.getD i default
noncomputable def hE (i : Nat) : Stmt := (ifO (hB 4)).getD i default
noncomputable def hSt (o : Byt) (hs : List PV) (a : Nat) (e r b : Option Slot) : Sto := [bt o,some (.ol hs),fz (pN a),e,r,none,none,b,none,none]
section
variable {o w : Byt} {hs : List PV} {a j i : Nat} {e r b : Option Slot}
theorem h1 : (HP 8).ex oh.scope (hSt o hs a e r b) (hB 0) = .ret (.next,hSt o hs a (fz (.int (bytFind o #[10] a))) r b) := by kernel_rfl
theorem h2 : (HP 8).ex oh.scope (hSt o hs a (fz (pN j)) r b) (hB 1) = .ret (.next,hSt o hs a (fz (pN j)) r b) := by kernel_rfl
theorem h2x : (HP 8).ex oh.scope (hSt o hs a (fz (.int (-1))) r b) (hB 1) = .exc (.str "heads without an end") (hSt o hs a (fz (.int (-1))) r b) := by kernel_rfl
theorem h3 : (HP 7).isT oh.scope (hSt o hs a (fz (pN j)) r b) (ifT (hB 2)) = .need true (.ret (decide ((j : Int) = (a : Int)),hSt o hs a (fz (pN j)) r b)) := by kernel_rfl
theorem h3t : exs (HP 7) oh.scope (hSt o hs a (fz (pN j)) r b) (ifB (hB 2)) = .ret (.ret (.tup [.list hs,.byt (cutBy o.toList o.size (some ((j : Int) + 1)) none).toArray]),[bt o,fz (.list hs),fz (pN a),fz (pN j),r,none,none,b,none,none]) := by kernel_rfl
theorem h4 : (HP 8).ex oh.scope (hSt o hs a (fz (pN j)) r b) (hB 3) = .ret (.next,hSt o hs (j + 1) (fz (pN j)) (bt (cutBy o.toList o.size (some (a : Int)) (some (j : Int))).toArray) b) := by kernel_rfl
theorem h5 : (HP 7).isT oh.scope (hSt o hs a e (bt w) b) (ifT (hB 4)) = .need true (.ret (bytEq (cutBy w.toList w.size none (some 1)).toArray #[32],hSt o hs a e (bt w) b)) := by kernel_rfl
theorem h6 : (HP 7).ex oh.scope (hSt o hs a e (bt w) b) (hE 0) = .ret (.next,hSt o hs a e (bt w) (fz (.int (bytFind w #[32] 0)))) := by kernel_rfl
theorem h7 : (HP 7).ex oh.scope (hSt o hs a e (bt w) (fz (pN (i + 1)))) (hE 1) = .ret (.next,hSt o hs a e (bt w) (fz (pN (i + 1)))) := by kernel_rfl
theorem h8 : (HP 7).ex oh.scope (hSt o hs a e (bt w) (fz (pN i))) (hE 2) =
  .need (Nat.blt hs.length 1000) (.ret (.next,hSt o (hs ++ [.tup [.byt (cutBy w.toList w.size none (some (i : Int))).toArray,.byt (cutBy w.toList w.size (some ((i : Int) + 1)) none).toArray]]) a e (bt w) (fz (pN i)))) := by kernel_rfl
theorem hBody : ohB = [hB 0,hB 1,ifX (hB 2),hB 3,.If (ifT (hB 4)) (ifB (hB 4)) [hE 0,hE 1,hE 2] (hB 4).pos] := by kernel_rfl
end
noncomputable abbrev Row := Byt × Byt
noncomputable def rowL (p : Row) : List UInt8 := p.1.toList ++ 32 :: p.2.toList
noncomputable def rowPV (p : Row) : PV := .tup [.byt p.1,.byt p.2]
structure RowOk (p : Row) : Prop where
 ne : p.1.toList ≠ []
 sp : (32 : UInt8) ∉ p.1.toList
 nl : (10 : UInt8) ∉ rowL p
section
variable {o : Byt} {hs : List PV} {e r b : Option Slot} {pre x : List UInt8}
theorem heads_step {p : Row} (ok : RowOk p) {rest : List UInt8} (h : o.toList = pre ++ (rowL p ++ 10 :: rest)) (hl : Nat.blt hs.length 1000 = true) :
  ∃ e' r' b',TLe (.ret (.next,hSt o (hs ++ [rowPV p]) (pre.length + (rowL p).length + 1) e' r' b')) (exs (HP 8) oh.scope (hSt o hs pre.length e r b) ohB) := by
 obtain ⟨⟨kl⟩,⟨vl⟩⟩ := p
 cases kl with
 | nil => exact absurd rfl ok.ne
 | cons c t =>
  have c32 : (c == 32) = false := beq_false_of_ne fun q => ok.sp (q ▸ .head _)
  have e6 := find_hit (o := (rowL (⟨c :: t⟩,⟨vl⟩)).toArray) (pre := []) (x := c :: t) (r := vl) rfl ok.sp
  rw [List.length_nil,Nat.zero_add] at e6
  have e8 := cut_tail (o := (rowL (⟨c :: t⟩,⟨vl⟩)).toArray) (pre := c :: t ++ [32]) (r := vl) (List.append_assoc (c :: t) [32] vl).symm
  rw [List.length_append] at e8
  have z3 := h3 (o := o) (hs := hs) (a := pre.length) (j := pre.length + (rowL (⟨c :: t⟩,⟨vl⟩)).length) (r := r) (b := b)
  rw [decide_eq_false (show ¬((pre.length + (rowL (⟨c :: t⟩,⟨vl⟩)).length : Nat) : Int) = (pre.length : Int) from fun q => Nat.ne_of_gt (Nat.lt_add_of_pos_right (Nat.succ_pos _)) (Int.ofNat_inj.mp q))] at z3
  apply Exists.intro
  apply Exists.intro
  apply Exists.intro
  rw [hBody]
  refine nxe h1 ?_
  rw [find_hit h ok.nl]
  refine nxe h2 (nx (ifF' (nd z3 rfl) (.refl _)) (nxe h4 ?_))
  rw [cut_mid h]
  have z5 := h5 (o := o) (w := (rowL (⟨c :: t⟩,⟨vl⟩)).toArray) (hs := hs) (a := pre.length + (rowL (⟨c :: t⟩,⟨vl⟩)).length + 1) (e := fz (pN (pre.length + (rowL (⟨c :: t⟩,⟨vl⟩)).length))) (b := b)
  rw [show bytEq (cutBy (rowL (⟨c :: t⟩,⟨vl⟩)) (rowL (⟨c :: t⟩,⟨vl⟩)).toArray.size none (some 1)).toArray #[32] = false from by
   rw [show cutBy (rowL (⟨c :: t⟩,⟨vl⟩)) (rowL (⟨c :: t⟩,⟨vl⟩)).toArray.size none (some 1) = [c] from cut_head (o := (rowL (⟨c :: t⟩,⟨vl⟩)).toArray) (x := [c]) rfl]
   show (c == 32 && true) = false
   rw [c32]
   rfl] at z5
  refine nl (ifF' (nd z5 rfl) (nxe h6 ?_))
  rw [e6]
  refine nxe h7 (nl (.trans ?_ (nd h8 hl)))
  rw [show cutBy (rowL (⟨c :: t⟩,⟨vl⟩)).toArray.toList (rowL (⟨c :: t⟩,⟨vl⟩)).toArray.size none (some ((t.length + 1 : Nat) : Int)) = c :: t from cut_head (o := (rowL (⟨c :: t⟩,⟨vl⟩)).toArray) (x := c :: t) (r := 32 :: vl) rfl]
  rw [show cutBy (rowL (⟨c :: t⟩,⟨vl⟩)).toArray.toList (rowL (⟨c :: t⟩,⟨vl⟩)).toArray.size (some (((t.length + 1 : Nat) : Int) + 1)) none = vl from e8]
  exact .refl _
theorem heads_end {msg : Byt} (h : o.toList = pre ++ 10 :: msg.toList) :
  ∃ σ,TLe (.ret (.ret (.tup [.list hs,.byt msg]),bt o :: σ)) (exs (HP 8) oh.scope (hSt o hs pre.length e r b) ohB) := by
 have e1 := cut_tail (o := o) (pre := pre ++ [10]) (r := msg.toList) (h.trans (List.append_assoc pre [10] _).symm)
 rw [List.length_append] at e1
 have z3 := h3 (o := o) (hs := hs) (a := pre.length) (j := pre.length) (r := r) (b := b)
 rw [decide_eq_true rfl] at z3
 apply Exists.intro
 rw [hBody]
 refine nxe h1 ?_
 rw [find_hit (x := []) h List.not_mem_nil]
 refine nxe h2 (rt (ifT' (nd z3 rfl) ?_))
 rw [h3t,show cutBy o.toList o.size (some ((pre.length : Int) + 1)) none = msg.toList from e1]
 exact .refl _
theorem heads_cut (h : o.toList = pre ++ x) (hx : (10 : UInt8) ∉ x) : ∃ σ,TLe (.exc (.str "heads without an end") σ) (exs (HP 8) oh.scope (hSt o hs pre.length e r b) ohB) := by
 apply Exists.intro
 rw [hBody]
 refine nxe h1 ?_
 rw [find_miss h hx]
 exact ecx (.of_eq h2x.symm)
end
section
variable {P : Lv} {sc : Scope} {t : Expr} {body : List Stmt} {f : Nat} {σ σ' : Sto} {u : T (Fl × Sto)}
theorem wh_on (h : TLe (.ret (true,σ)) (P.isT sc σ t)) (k : TLe u (exs P sc σ body >>= fun y => afterT y fun σ => whileLoop P sc t body f σ)) : TLe u (whileLoop P sc t body (f + 1) σ) := by
 show TLe u (P.isT sc σ t >>= _)
 refine .trans ?_ (TLe.to h)
 exact k
theorem wh_next (h : TLe (.ret (true,σ)) (P.isT sc σ t)) (k : TLe (.ret (.next,σ')) (exs P sc σ body)) (z : TLe u (whileLoop P sc t body f σ')) : TLe u (whileLoop P sc t body (f + 1) σ) :=
 wh_on h (.trans z (TLe.to (f := fun y => afterT y fun σ => whileLoop P sc t body f σ) k))
theorem wh_stop (h : TLe (.ret (false,σ)) (P.isT sc σ t)) : TLe (.ret (.next,σ)) (whileLoop P sc t body (f + 1) σ) := by
 show TLe _ (P.isT sc σ t >>= _)
 refine .trans ?_ (TLe.to h)
 exact .refl _
end
section
variable {P : Lv} {f : Fn} {args : List Slot}
noncomputable def callB (f : Fn) (args : List Slot) : Bool := f.params.length == args.length && ((f.scope.names.map (·.1)).zip f.params).all (fun p => seq p.1 p.2) && (f.scope.names.zip args).all (fun p => cellPlain p.1.2 p.2)
noncomputable def sto0 (f : Fn) (args : List Slot) : Sto := args.map some ++ List.replicate (f.scope.names.length - args.length) none
noncomputable def flV : Fl->PV
 | .ret v => v
 | .next => .none
noncomputable def callK (y : Fl × Sto) : TR := .ret (flV y.1,getS y.2 0)
theorem call_le' {t : T (Fl × Sto)} {u : TR} (h : callB f args = true) (k : TLe t (exs P f.scope (sto0 f args) f.body)) (z : TLe u (t.atSto [] >>= callK)) : TLe u (callStep P f args) := by
 refine .trans z (.trans (TLe.to (TLe.atSto k)) (.of_eq ?_))
 show _ = chk (callB f args) _
 rw [h]
 refine congrArg (T.bind _) (funext fun y => ?_)
 obtain ⟨y,_⟩ := y
 cases y <;> rfl
theorem call_ret {σ' : Sto} {v a : PV} (h : callB f args = true) (k : TLe (.ret (.ret v,some (.fz a) :: σ')) (exs P f.scope (sto0 f args) f.body)) : TLe (gv v a) (callStep P f args) := call_le' h k (.refl _)
theorem call_next {σ' : Sto} {a : PV} (h : callB f args = true) (k : TLe (.ret (.next,some (.fz a) :: σ')) (exs P f.scope (sto0 f args) f.body)) : TLe (gv .none a) (callStep P f args) := call_le' h k (.refl _)
theorem call_exc {σ' : Sto} {v : PV} (h : callB f args = true) (k : TLe (.exc v σ') (exs P f.scope (sto0 f args) f.body)) : TLe (.exc v []) (callStep P f args) := call_le' h k (.refl _)
end
noncomputable def rowsK : List Row->List UInt8->List UInt8
 | [],x => x
 | p :: r,x => rowL p ++ 10 :: rowsK r x
noncomputable abbrev ohL (f : Nat) (σ : Sto) : T (Fl × Sto) := whileLoop (HP 8) oh.scope (whT (ohS 2)) ohB f σ
section
variable {o : Byt}
theorem hTrue {σ : Sto} : (HP 8).isT oh.scope σ (whT (ohS 2)) = .ret (true,σ) := by kernel_rfl
theorem heads_rows {t : Sto->T (Fl × Sto)} {x : List UInt8} {rows : List Row} (ok : ∀ p ∈ rows,RowOk p) : ∀ {hs : List PV} {pre : List UInt8} {e r b : Option Slot} {f : Nat},rows.length < f->hs.length + rows.length ≤ 1000->o.toList = pre ++ rowsK rows x ->
  (∀ f pre e r b,o.toList = pre ++ x->∃ σ,TLe (t σ) (ohL (f + 1) (hSt o (hs ++ rows.map rowPV) pre.length e r b)))->∃ σ,TLe (t σ) (ohL f (hSt o hs pre.length e r b)) := by
 induction rows with
 | nil =>
  intro hs pre e r b f hf _ h k
  cases f with
  | zero => cases hf
  | succ f =>
   have := k f pre e r b h
   rw [List.map_nil,List.append_nil] at this
   exact this
 | cons p rows ih =>
  intro hs pre e r b f hf hl h k
  cases f with
  | zero => cases hf
  | succ f =>
   obtain ⟨e',r',b',st⟩ := heads_step (hs := hs) (e := e) (r := r) (b := b) (ok p (.head _)) h (Nat.ble_eq_true_of_le (Nat.le_trans (Nat.add_le_add_left (Nat.succ_pos _) _) hl))
   refine Exists.imp (fun _ z => wh_next (.of_eq hTrue.symm) st z) ?_
   have el : pre.length + (rowL p).length + 1 = (pre ++ (rowL p ++ [10])).length := by rw [List.length_append,List.length_append,Nat.add_assoc]; rfl
   rw [el]
   refine ih (fun q hq => ok q (.tail _ hq)) (Nat.lt_of_succ_lt_succ hf) ?_ ?_ fun f pre e r b h => ?_
   ·rw [List.length_append,Nat.add_assoc,Nat.add_comm [rowPV p].length]
    exact hl
   ·rw [h,List.append_assoc,List.append_assoc]
    rfl
   ·rw [List.append_assoc]
    exact k f pre e r b h
noncomputable def oh0 (o : Byt) : Sto := [bt o,none,none,none,none,none,none,none,none,none]
theorem oh_body : oh.body = [ifX (ohS 0),ohS 1,ohS 2] := by kernel_rfl
theorem oh_ok : callB oh [.fz (.byt o)] = true := by kernel_rfl
theorem oh_sto : sto0 oh [.fz (.byt o)] = oh0 o := by kernel_rfl
theorem oh_t : (HP 8).isT oh.scope (oh0 o) (ifT (ohS 0)) = .ret (decide (bytFind o #[0] 0 ≥ 0),oh0 o) := by kernel_rfl
theorem oh_r : exs (HP 8) oh.scope (oh0 o) (ifB (ohS 0)) = .exc (.str "a nought") (oh0 o) := by kernel_rfl
theorem oh_1 : (HP 9).ex oh.scope (oh0 o) (ohS 1) = .ret (.next,hSt o [] 0 none none none) := by kernel_rfl
theorem oh_2 {σ : Sto} : (HP 9).ex oh.scope σ (ohS 2) = ohL 60 σ := by kernel_rfl
noncomputable abbrev ohC (o : Byt) : TR := callStep (HP 9) oh [.fz (.byt o)]
theorem nul_at {c : UInt8} {l : List UInt8} (h : c ∈ l) : ∃ x r,l = x ++ c :: r ∧ c ∉ x := by
 induction l with
 | nil => cases h
 | cons a l ih =>
  cases e : c == a with
  | true => exact ⟨[],l,by rw [eq_of_beq e]; rfl,List.not_mem_nil⟩
  | false =>
   have ne := ne_of_beq_false e
   obtain ⟨x,r,e,hx⟩ := ih ((List.mem_cons.mp h).resolve_left ne)
   exact ⟨a :: x,r,by rw [e]; rfl,fun q => (List.mem_cons.mp q).elim ne hx⟩
theorem oh_nul (h : (0 : UInt8) ∈ o.toList) : TLe (.exc (.str "a nought") []) (ohC o) := by
 obtain ⟨x,r,e,hx⟩ := nul_at h
 refine call_exc (σ' := oh0 o) oh_ok ?_
 rw [oh_sto,oh_body]
 have z := oh_t (o := o)
 rw [show bytFind o #[0] 0 = _ from find_hit (pre := []) e hx,decide_eq_true (Int.natCast_nonneg _)] at z
 exact ecx (ifT' (.of_eq z.symm) (.of_eq oh_r.symm))
theorem oh_start {t : T (Fl × Sto)} (h : (0 : UInt8) ∉ o.toList) (k : TLe t (ohL 60 (hSt o [] 0 none none none) >>= fun y => afterT y fun σ => .ret (.next,σ))) : TLe t (exs (HP 9) oh.scope (sto0 oh [.fz (.byt o)]) oh.body) := by
 rw [oh_sto,oh_body]
 have z := oh_t (o := o)
 rw [show bytFind o #[0] 0 = -1 from find_miss (pre := []) rfl h] at z
 refine nx (ifF' (.of_eq z.symm) (.refl _)) (nxe oh_1 ?_)
 show TLe t ((HP 9).ex oh.scope (hSt o [] 0 none none none) (ohS 2) >>= _)
 rw [oh_2]
 exact k
structure RowsOk (rows : List Row) : Prop where
 ok : ∀ p ∈ rows,RowOk p
 len : rows.length < 60
structure OcOk (oc : Byt) (rows : List Row) (msg : Byt) : Prop extends RowsOk rows where
 nul : (0 : UInt8) ∉ oc.toList
 eq : oc.toList = rowsK rows (10 :: msg.toList)
theorem oh_go {t : Sto->T (Fl × Sto)} {x : List UInt8} {rows : List Row} (ok : RowsOk rows) (h : o.toList = rowsK rows x) (k : ∀ f pre e r b,o.toList = pre ++ x->∃ σ,TLe (t σ) (ohL (f + 1) (hSt o (rows.map rowPV) pre.length e r b))) : ∃ σ,TLe (t σ) (ohL 60 (hSt o [] 0 none none none)) :=
 heads_rows (hs := []) (pre := []) ok.ok ok.len (Nat.le_trans (Nat.le_of_eq (Nat.zero_add _)) (Nat.le_trans (Nat.le_of_lt ok.len) (by decide))) h k
theorem oh_ret {rows : List Row} {msg : Byt} (h : OcOk o rows msg) : TLe (gv (.tup [.list (rows.map rowPV),.byt msg]) (.byt o)) (ohC o) := by
 obtain ⟨σ,z⟩ := oh_go (t := fun σ => .ret (.ret (.tup [.list (rows.map rowPV),.byt msg]),bt o :: σ)) h.toRowsOk h.eq fun f pre e r b q => by
  obtain ⟨σ,z⟩ := heads_end (hs := rows.map rowPV) (e := e) (r := r) (b := b) q
  exact ⟨σ,wh_on (.of_eq hTrue.symm) (TLe.to (f := fun y => afterT y _) z)⟩
 exact call_ret oh_ok (oh_start h.nul (TLe.to (f := fun y => afterT y _) z))
theorem oh_bad {rows : List Row} {x : List UInt8} (ok : RowsOk rows) (hx : (10 : UInt8) ∉ x) (h0 : (0 : UInt8) ∉ o.toList) (h : o.toList = rowsK rows x) : TLe (.exc (.str "heads without an end") []) (ohC o) := by
 obtain ⟨σ,z⟩ := oh_go (t := fun σ => .exc (.str "heads without an end") σ) ok h fun f pre e r b q => by
  obtain ⟨σ,z⟩ := heads_cut (hs := rows.map rowPV) (e := e) (r := r) (b := b) q hx
  exact ⟨σ,wh_on (.of_eq hTrue.symm) (TLe.to (f := fun y => afterT y _) z)⟩
 exact call_exc oh_ok (oh_start h0 (TLe.to (f := fun y => afterT y _) z))
end
noncomputable def isB : PV->Bool
 | .byt _ => true
 | _ => false
noncomputable def isI : PV->Bool
 | .int _ => true
 | _ => false
noncomputable def pickT (l : List PV) : Bool->Bool->TR
 | true,_ => .draw l.length fun r => gv (.byt ((l.map asB).getD r #[])) .deck
 | false,true => .draw l.length fun r => gv (.int ((l.map asI).getD r 0)) .deck
 | false,false => .stuck "pick"
noncomputable def pickS (args : List Slot) : TR := two args fun s v => fzV s fun s => deckV s (fzV v fun v => listV v fun l => chk (Nat.blt 0 l.length && Nat.blt l.length 1000) (pickT l (l.all isB) (l.all isI)))
theorem index_nat {l : List PV} {r : Nat} {v : PV} (h : l[r]? = some v) : indexPV (.list l) (.int r) = .ret v := by
 show (match decide (0 ≤ (r : Int)) with
  | true => opt "index" l[(r : Int).toNat]?
  | false => .stuck "index out") = _
 rw [decide_eq_true (Int.natCast_nonneg r),Int.toNat_natCast,h]
 rfl
noncomputable def pickX (l : List PV) (D : T PV) : TR := ((((D >>= fun z => T.ret (z,([some (.fz .deck),some (.fz (.list l)),none,none] : Sto))) >>= fun k => indexPV (.list l) k.1 >>= fun z => T.ret (z,k.2)) >>= fun v => T.ret (Fl.ret v.1,v.2)) >>= fun y => afterT y fun σ => .ret (.next,σ)).atSto [] >>= callK
theorem pick_run (l : List PV) : callStep (lvl cx0 12) (fnOf "_law_pick") [.fz .deck,.fz (.list l)] = pickX l (.need (decide (0 < (l.length : Int)) && decide ((l.length : Int) < 1000)) (T.draw l.length fun r => .ret (.int r))) := by kernel_rfl
theorem pick_le {l : List PV} {k : Nat->PV} (h0 : (Nat.blt 0 l.length && Nat.blt l.length 1000) = true) (hk : ∀ r,r < l.length->l[r]? = some (k r)) : TLe (.draw l.length fun r => gv (k r) .deck) ((lvl cx0 19).call (fnOf "_law_pick") [.fz .deck,.fz (.list l)]) := by
 obtain ⟨a,b⟩ := (Bool.and_eq_true_iff ..).mp h0
 refine up (n := 12) ?_ rfl
 rw [pick_run]
 show TLe _ (T.need (decide (0 < (l.length : Int)) && decide ((l.length : Int) < 1000)) (T.draw l.length fun r => pickX l (.ret (.int r))))
 refine TLe.needT ?_ (TLe.draw fun r hr => ?_)
 ·exact (Bool.and_eq_true_iff ..).mpr ⟨decide_eq_true (Int.ofNat_lt.mpr (Nat.le_of_ble_eq_true a)),decide_eq_true (Int.ofNat_lt.mpr (Nat.le_of_ble_eq_true b))⟩
 ·show TLe _ (((((indexPV (.list l) (.int r) >>= _) >>= _) >>= _).atSto []) >>= _)
  rw [index_nat (hk r hr)]
  exact .refl _
theorem at_map {q : PV->Bool} {α : Type} {as : PV->α} {d : α} {mk : α->PV} (hq : ∀ v,q v = true->v = mk (as v)) {l : List PV} (h : l.all q = true) {r : Nat} (hr : r < l.length) : l[r]? = some (mk ((l.map as).getD r d)) := by
 rw [List.getElem?_eq_getElem hr,List.getD_eq_getElem?_getD,List.getElem?_map,List.getElem?_eq_getElem hr]
 exact congrArg some (hq _ (List.all_eq_true.mp h _ (List.getElem_mem hr)))
theorem isB_eq (v : PV) (h : isB v = true) : v = .byt (asB v) := by
 cases v with
 | byt => rfl
 | _ => exact noB h
theorem isI_eq (v : PV) (h : isI v = true) : v = .int (asI v) := by
 cases v with
 | int => rfl
 | _ => exact noB h
theorem pickT_le {l : List PV} (h0 : (Nat.blt 0 l.length && Nat.blt l.length 1000) = true) : TLe (pickT l (l.all isB) (l.all isI)) ((lvl cx0 19).call (fnOf "_law_pick") [.fz .deck,.fz (.list l)]) := by
 cases hb : l.all isB with
 | true =>
  refine pick_le (k := fun r => .byt ((l.map asB).getD r #[])) h0 fun r hr => ?_
  exact at_map (mk := .byt) isB_eq hb hr
 | false => cases hi : l.all isI with
  | true =>
   refine pick_le (k := fun r => .int ((l.map asI).getD r 0)) h0 fun r hr => ?_
   exact at_map (mk := .int) isI_eq hi hr
  | false => exact .stuck _
theorem pickS_le (args : List Slot) : TLe (pickS args) ((lvl cx0 19).call (fnOf "_law_pick") args) := ⟨fun _ _ _ s => by
 refine T.Sat.twoE s fun x y e s => ?_
 subst e
 refine T.Sat.fzVE s fun x e s => ?_
 subst e
 refine T.Sat.deckVE s fun e s => ?_
 subst e
 refine T.Sat.fzVE s fun x e s => ?_
 subst e
 refine T.Sat.listVE s fun l e s => ?_
 subst e
 refine T.Sat.chkE s fun h0 s => ?_
 exact (pickT_le h0).of _ _ _ s⟩
noncomputable def sD : Sm := mkS [("_law_pick",pickS)]
theorem sD_ok : SmOk cx0 19 sD := .cons pickS_le (.nil _)
noncomputable def isStr : PV->Bool
 | .str _ => true
 | _ => false
section
variable {α : Type} {t : T α}
noncomputable def dN {β : Type} (get : List Slot->β) (mk : β->List Slot) (l : List β) (a : List Slot) (k : T α) : T α := .need (eqB a (mk (get a)) && memB (get a) l) k
theorem dN_le {β : Type} {get : List Slot->β} {mk : β->List Slot} {l : List β} {a : β} {k : T α} (h : a ∈ l) (e : get (mk a) = a) (hk : TLe t k) : TLe t (dN get mk l (mk a) k) := .needT (by rw [e,eqB_self,memB_of h]; rfl) hk
noncomputable def itN (P : Per) (k : T α) : T α := dN getP aIt pAll (aIt P) k
noncomputable def perFN (P : Per) (k : T α) : T α := dN getP aPer pAll (aPer P) k
noncomputable def hexN (o : Byt) (k : T α) : T α := dN (fun a => unhex (asB (argV a 0))) aHex oids (aHex o) k
noncomputable def rowN (P : Per) (k : T α) : T α := dN (fun a => whoOf (asB (argV a 0))) aRow pAll (aRow P) k
noncomputable def nulN (z : Bool) (o : Byt) (k : T α) : T α := dN (fun a => asB (argV a 0)) aNul (oids.filter (isN · == z)) (aNul o) k
noncomputable def same {β : Type} (a : β) (k : T α) : T α := .need (eqB a a) k
theorem itN_le {P : Per} {k : T α} (h : P ∈ pAll) (hk : TLe t k) : TLe t (itN P k) := dN_le h rfl hk
theorem perFN_le {P : Per} {k : T α} (h : P ∈ pAll) (hk : TLe t k) : TLe t (perFN P k) := dN_le h rfl hk
theorem hexN_le {o : Byt} {k : T α} (h : o ∈ oids) (hk : TLe t k) : TLe t (hexN o k) := dN_le h (unhex_of h) hk
theorem rowN_le {P : Per} {k : T α} (h : P ∈ pAll) (hk : TLe t k) : TLe t (rowN P k) := dN_le h (who_of h) hk
theorem nulN_le {o : Byt} {k : T α} (h : o ∈ oids) (hk : TLe t k) : TLe t (nulN (isN o) o k) := dN_le (List.mem_filter.mpr ⟨h,beq_self_eq_true _⟩) rfl hk
theorem same_le {β : Type} {a : β} {k : T α} (hk : TLe t k) : TLe t (same a k) := .needT (eqB_self a) hk
noncomputable def addB (x y : Byt) (k : Byt->T α) : T α := .need (Nat.ble (x.size + y.size) lineB) (k (x ++ y))
theorem addB_le {x y : Byt} {k : Byt->T α} {a c : Nat} (hx : x.size ≤ a) (hy : y.size ≤ c) (h : Nat.ble (a + c) lineB = true) (hk : (x ++ y).size ≤ a + c->TLe t (k (x ++ y))) : TLe t (addB x y k) :=
 have e := Nat.add_le_add hx hy
 .needT (Nat.ble_eq_true_of_le (Nat.le_trans e (Nat.le_of_ble_eq_true h))) (hk (Array.size_append ▸ e))
noncomputable def lenN (a b : List PV) (k : List PV->T α) : T α := .need (Nat.ble (a.length + b.length) lineB) (k (a ++ b))
noncomputable def extN (a b : List PV) (k : List PV->T α) : T α := .need (Nat.ble (a.length + b.length) 1000) (k (a ++ b))
noncomputable def appN (a : List PV) (v : PV) (k : List PV->T α) : T α := .need (Nat.blt a.length 1000) (k (a ++ [v]))
noncomputable def eqN (a b : PV) (k : Bool->T α) : T α := .need (pvEq a b).isSome (k ((pvEq a b).getD false))
noncomputable def mulZ (z : Bool) (k : T α) : T α := .need (decide ((if z then (1 : Int) else 0) = 0) || decide ((if z then (1 : Int) else 0) = 1)) k
theorem mulZ_le {z : Bool} {k : T α} (hk : TLe t k) : TLe t (mulZ z k) := .needT (by cases z <;> rfl) hk
structure Few (n : Nat) (l : List PV) : Prop where
 len : l.length ≤ n
 str : l.all isStr = true
theorem Few.app {n m : Nat} {a b : List PV} (x : Few n a) (y : Few m b) : Few (n + m) (a ++ b) := ⟨List.length_append ▸ Nat.add_le_add x.len y.len,by rw [List.all_append,x.str,y.str]; rfl⟩
theorem lenN_le {a b : List PV} {k : List PV->T α} {n m : Nat} (x : Few n a) (y : Few m b) (h : Nat.ble (n + m) lineB = true) (hk : TLe t (k (a ++ b))) : TLe t (lenN a b k) := .needT (Nat.ble_eq_true_of_le (Nat.le_trans (Nat.add_le_add x.len y.len) (Nat.le_of_ble_eq_true h))) hk
theorem extN_le {a b : List PV} {k : List PV->T α} {n m : Nat} (x : Few n a) (y : Few m b) (h : Nat.ble (n + m) 1000 = true) (hk : TLe t (k (a ++ b))) : TLe t (extN a b k) := .needT (Nat.ble_eq_true_of_le (Nat.le_trans (Nat.add_le_add x.len y.len) (Nat.le_of_ble_eq_true h))) hk
theorem appN_le {a : List PV} {v : PV} {k : List PV->T α} {n : Nat} (x : Few n a) (h : Nat.blt n 1000 = true) (hk : TLe t (k (a ++ [v]))) : TLe t (appN a v k) := .needT (Nat.ble_eq_true_of_le (Nat.lt_of_le_of_lt x.len (Nat.le_of_ble_eq_true h))) hk
end
theorem pvEqs_str {n : Nat} {l : List PV} (h : l.all isStr = true) : pvEqs (pvEqN (n + 1)) l l = some true := by
 induction l with
 | nil => rfl
 | cons v r ih =>
  refine and2 h fun h1 h2 => ?_
  cases v with
  | str s =>
   show ((some (seq s s)).bind fun x => (pvEqs (pvEqN (n + 1)) r r).map fun y => x && y) = _
   rw [seq_self,ih h2]
   rfl
  | _ => exact noB h1
theorem eqN_le {α : Type} {t : T α} {n : Nat} {l : List PV} {k : Bool->T α} (h : Few n l) (hk : TLe t (k true)) : TLe t (eqN (.list l) (.list l) k) := by
 have e : pvEq (.list l) (.list l) = (match Nat.beq l.length l.length with
  | true => pvEqs (pvEqN 7) l l
  | false => some false) := rfl
 rw [show Nat.beq l.length l.length = true from Nat.beq_refl _,pvEqs_str (n := 6) h.str] at e
 unfold eqN
 rw [e]
 exact .needT rfl hk
theorem fau_ok : (pAll.all fun P => Nat.ble (fauP P).length 3 && (fauP P).all isStr) = true := by kernel_rfl
theorem fau_few {P : Per} (h : P ∈ pAll) : Few 3 (fauP P) := and2 (List.all_eq_true.mp fau_ok P h) fun a b => ⟨Nat.le_of_ble_eq_true a,b⟩
noncomputable def noughtStr : PV := .str "an id of noughts"
noncomputable def nouZ (z : Bool) : List PV := if (if z then (1 : Int) else 0) = 0 then [] else [noughtStr]
theorem nou_few (z : Bool) : Few 1 (nouZ z) := by cases z <;> exact ⟨by decide,rfl⟩
noncomputable def retE : Stmt->Expr
 | .Return e _ => e.getD default
 | _ => default
noncomputable def bopL : Expr->List Expr
 | .BoolOp _ es _ => es
 | _ => []
noncomputable def bopE (e : Expr) (i : Nat) : Expr := (bopL e).getD i default
noncomputable def oidAt (r : Nat) : Byt := oids.getD r #[]
theorem getD_mem {α : Type} {l : List α} {r : Nat} {d : α} (h : r < l.length) : l.getD r d ∈ l := by
 rw [List.getD_eq_getElem?_getD,List.getElem?_eq_getElem h]
 exact List.getElem_mem h
noncomputable def psL : List (List Byt) := [] :: (oids.map (fun a => [a]) ++ oids.flatMap fun a => oids.map fun b => [a,b])
theorem ps1 {a : Byt} (ha : a ∈ oids) : [a] ∈ psL := .tail _ (List.mem_append_left _ (List.mem_map.mpr ⟨a,ha,rfl⟩))
theorem ps2 {a b : Byt} (ha : a ∈ oids) (hb : b ∈ oids) : [a,b] ∈ psL := .tail _ (List.mem_append_right _ (List.mem_flatMap.mpr ⟨a,ha,List.mem_map.mpr ⟨b,hb,rfl⟩⟩))
theorem psC {M : List Byt->Prop} (h0 : M []) (h1 : ∀ a,a ∈ oids->M [a]) (h2 : ∀ a b,a ∈ oids->b ∈ oids->M [a,b]) {ps : List Byt} (h : ps ∈ psL) : M ps := by
 rcases List.mem_cons.mp h with rfl | h
 ·exact h0
 rcases List.mem_append.mp h with h | h
 ·obtain ⟨a,ha,rfl⟩ := List.mem_map.mp h
  exact h1 a ha
 ·obtain ⟨a,ha,h⟩ := List.mem_flatMap.mp h
  obtain ⟨b,hb,rfl⟩ := List.mem_map.mp h
  exact h2 a b ha hb
noncomputable def tps : List (Byt × List Byt) := oids.flatMap fun t => psL.map fun ps => (t,ps)
theorem tps_mem {t : Byt} {ps : List Byt} (ht : t ∈ oids) (hp : ps ∈ psL) : (t,ps) ∈ tps := List.mem_flatMap.mpr ⟨t,ht,List.mem_map.mpr ⟨ps,hp,rfl⟩⟩
noncomputable def cR : Fn := fnOf "_law_commit_right"
noncomputable def cB (i : Nat) : Stmt := cR.body.getD i default
noncomputable def cSt (t ps pe oc du li ma : Option Slot) : Sto := some (.fz .deck) :: t :: ps :: pe :: oc :: du :: li :: ma :: List.replicate 15 none
noncomputable def byL (ps : List Byt) : Option Slot := fz (.list (ps.map .byt))
section
noncomputable def c0R (t : Byt) (ps : List Byt) : Fl × Sto := (.next,cSt (bt t) (byL ps) (some (.ol [])) none none none none)
noncomputable def c0T : T (Fl × Sto) := (lvlS cx0 sD 16).ex cR.scope (cSt none none none none none none none) (cB 0)
theorem c0a : coll c0T = .need true (.draw 4 (atD c0T)) := by kernel_rfl
theorem c0b (r : Nat) : coll (atD c0T r) = .need true (.draw 3 (atD (atD c0T r))) := by kernel_rfl
theorem c0c0 (r : Nat) : coll (atD (atD c0T r) 0) = coll (.ret (c0R (oidAt r) [])) := by kernel_rfl
theorem c0c1 (r : Nat) : coll (atD (atD c0T r) 1) = coll (.draw 4 (fun a => .ret (c0R (oidAt r) [oidAt a]))) := by kernel_rfl
theorem c0c2 (r : Nat) : coll (atD (atD c0T r) 2) = coll (.draw 4 (fun a => .draw 4 fun b => .ret (c0R (oidAt r) [oidAt a,oidAt b]))) := by kernel_rfl
noncomputable def c0Q (x : Fl × Sto) : Prop := ∃ t ps,t ∈ oids ∧ ps ∈ psL ∧ x = c0R t ps
theorem below3 {M : Nat->Prop} (h0 : M 0) (h1 : M 1) (h2 : M 2) (r : Nat) (h : r < 3) : M r := by
 match r with
 | 0 => exact h0
 | 1 => exact h1
 | 2 => exact h2
 | n + 3 => exact absurd h (Nat.not_lt.mpr (Nat.le_add_left ..))
theorem c0r : Tot 4 c0T c0Q := .drawD c0a fun r hr => .drawD (c0b r) <| below3 (.more (m' := 2) (m := 0) (.le (coll_le (c0c0 r)) (.ret ⟨_,_,getD_mem hr,.head _,rfl⟩)))
 (.more (m' := 1) (m := 1) (.le (coll_le (c0c1 r)) (.draw fun a ha => .ret ⟨_,_,getD_mem hr,ps1 (getD_mem ha),rfl⟩))) (.le (coll_le (c0c2 r)) (.draw fun a ha => .draw fun b hb => .ret ⟨_,_,getD_mem hr,ps2 (getD_mem ha) (getD_mem hb),rfl⟩))
noncomputable def perAt (z n w : Nat) : Per := (pNames.getD n #[],pWhens.getD w 0,pZones.getD z #[])
theorem perAt_mem {z n w : Nat} (hz : z < 7) (hn : n < 3) (hw : w < 5) : perAt z n w ∈ pAll := List.mem_flatMap.mpr ⟨_,getD_mem hn,List.mem_flatMap.mpr ⟨_,getD_mem hw,List.mem_map.mpr ⟨_,getD_mem hz,rfl⟩⟩⟩
variable {t ps : Option Slot}
theorem c1r : coll ((lvlS cx0 sD 16).ex cR.scope (cSt t ps (some (.ol [])) none none none none) (cB 1)) = coll (.draw 7 fun z0 => .draw 3 fun n0 => .draw 5 fun w0 => .draw 7 fun z1 => .draw 3 fun n1 => .draw 5 fun w1 =>
  .ret (.next,cSt t ps (some (.ol [itP (perAt z0 n0 w0),itP (perAt z1 n1 w1)])) none none none none)) := by kernel_rfl
noncomputable def c1R (t ps : Option Slot) (σ : Sto) : Prop := ∃ P Q,P ∈ pAll ∧ Q ∈ pAll ∧ σ = cSt t ps (some (.ol [itP P,itP Q])) none none none none
theorem c1_all : Tot 6 ((lvlS cx0 sD 16).ex cR.scope (cSt t ps (some (.ol [])) none none none none) (cB 1)) fun x => ∃ σ,x = (.next,σ) ∧ c1R t ps σ :=
 .le (coll_le c1r) (.draw fun _ a => .draw fun _ b => .draw fun _ c => .draw fun _ d => .draw fun _ e => .draw fun _ f => .ret ⟨_,rfl,_,_,perAt_mem a b c,perAt_mem d e f,rfl⟩)
end
noncomputable def Ktree : Byt := #[116,114,101,101]
noncomputable def Kparent : Byt := #[112,97,114,101,110,116]
noncomputable def Kauthor : Byt := #[97,117,116,104,111,114]
noncomputable def Kcommitter : Byt := #[99,111,109,109,105,116,116,101,114]
noncomputable def Sauthor : Byt := #[97,117,116,104,111,114,32]
noncomputable def Scommitter : Byt := #[10,99,111,109,109,105,116,116,101,114,32]
noncomputable def Sfoot : Byt := #[10,10,109,10]
noncomputable def Smsg : Byt := #[109,10]
noncomputable def Scommit : Byt := #[99,111,109,109,105,116]
noncomputable def Ktag : Byt := #[116,97,103]
noncomputable def Ktagger : Byt := #[116,97,103,103,101,114]
noncomputable def cRows (t : Byt) (ps : List Byt) : List Row := (Ktree,hexOf t) :: ps.map fun p => (Kparent,hexOf p)
noncomputable def ocC (t : Byt) (ps : List Byt) : Byt := (rowsK (cRows t ps) []).toArray
noncomputable def rowB (p : Row) : Bool := !p.1.toList.isEmpty && (p.1.toList.all fun u => !(u == 32)) && ((rowL p).all fun u => !(u == 10)) && (rowL p).all fun u => !(u == 0)
structure RowG (p : Row) : Prop extends RowOk p where
 nul : (0 : UInt8) ∉ rowL p
theorem notIn_of {c : UInt8} {l : List UInt8} (h : (l.all fun u => !(u == c)) = true) : c ∉ l := fun q => by
 have := List.all_eq_true.mp h c q
 rw [beq_self_eq_true] at this
 exact noB this
theorem rowG {p : Row} (h : rowB p = true) : RowG p := and2 h fun h h4 => and2 h fun h h3 => and2 h fun h1 h2 => ⟨⟨fun e => by rw [e] at h1; exact noB h1,notIn_of h2,notIn_of h3⟩,notIn_of h4⟩
theorem c_ok : (tps.all fun x => Nat.ble (ocC x.1 x.2).size 200 && (cRows x.1 x.2).all rowB) = true := by kernel_rfl
theorem p_ok : (pAll.all fun P => Nat.ble (rowP P).size 60 && (rowB (Kauthor,rowP P) && (rowB (Kcommitter,rowP P) && rowB (Ktagger,rowP P)))) = true := by kernel_rfl
structure PerOk (P : Per) : Prop where
 mem : P ∈ pAll
 sz : (rowP P).size ≤ 60
 au : RowG (Kauthor,rowP P)
 co : RowG (Kcommitter,rowP P)
 ta : RowG (Ktagger,rowP P)
 fau : Few 3 (fauP P)
theorem perOk {P : Per} (h : P ∈ pAll) : PerOk P := and2 (List.all_eq_true.mp p_ok P h) fun a b => and2 b fun b c => and2 c fun c d => ⟨h,Nat.le_of_ble_eq_true a,rowG b,rowG c,rowG d,fau_few h⟩
section
variable {t : Byt} {ps : List Byt} {pe : Option Slot}
theorem c2r : mapA (fun x => coll ((lvlS cx0 (mkS []) 14).ex cR.scope (cSt (bt x.1) (byL x.2) pe none none none none) (cB 2))) tps = mapB (fun x => T.need true (.ret (.next,cSt (bt x.1) (byL x.2) pe (bt (ocC x.1 x.2)) none none none))) tps := by kernel_rfl
end
theorem findFrom_le {c : UInt8} {n b a : List UInt8} : ∀ {j : Nat},∃ k,findFrom (c :: n) (a ++ (c :: n ++ b)) j = some k ∧ j ≤ k ∧ k ≤ j + a.length := by
 have st : startsAt (c :: n) (c :: n ++ b) = true := by
  generalize c :: n = l
  induction l with
  | nil => rfl
  | cons d l ih => exact (Bool.and_eq_true_iff ..).mpr ⟨beq_self_eq_true d,ih⟩
 induction a with
 | nil =>
  intro j
  refine ⟨j,?_,Nat.le_refl _,Nat.le_add_right ..⟩
  exact if_pos st
 | cons d a ih =>
  intro j
  cases e : startsAt (c :: n) (d :: (a ++ (c :: n ++ b))) with
  | true => exact ⟨j,if_pos e,Nat.le_refl _,Nat.le_add_right ..⟩
  | false =>
   obtain ⟨k,h1,h2,h3⟩ := ih (j := j + 1)
   refine ⟨k,(if_neg (Bool.eq_false_iff.mp e)).trans h1,Nat.le_of_succ_le h2,?_⟩
   rw [Nat.add_right_comm] at h3
   exact h3
theorem rowsK_app (rows : List Row) (x : List UInt8) : rowsK rows x = rowsK rows [] ++ x := by
 induction rows with
 | nil => rfl
 | cons p r ih =>
  show rowL p ++ 10 :: rowsK r x = (rowL p ++ 10 :: rowsK r []) ++ x
  rw [ih,List.append_assoc]
  rfl
theorem rowsK_last {p : Row} {rows : List Row} : ∃ a,rowsK (p :: rows) [] = rowL p ++ a ++ [10] := by
 induction rows generalizing p with
 | nil => exact ⟨[],by rw [List.append_nil]; rfl⟩
 | cons q r ih =>
  obtain ⟨a,e⟩ := ih (p := q)
  refine ⟨10 :: (rowL q ++ a),?_⟩
  show rowL p ++ 10 :: rowsK (q :: r) [] = _
  rw [e,List.append_assoc (rowL p)]
  rfl
theorem rowL_head {p : Row} (h : RowOk p) : ∃ c t,rowL p = c :: t ∧ ((10 : UInt8) == c) = false := by
 obtain ⟨⟨k⟩,v⟩ := p
 cases k with
 | nil => exact absurd rfl h.ne
 | cons c t => exact ⟨c,_,rfl,beq_false_of_ne fun e => h.nl (e ▸ .head _)⟩
theorem take_rows {rows : List Row} {y : List UInt8} (ok : ∀ p ∈ rows,RowOk p) : ∀ {r : Nat},r ≤ (rowsK rows []).length->∃ rows' x,(rowsK rows y).take r = rowsK rows' x ∧ (10 : UInt8) ∉ x ∧ (∀ p ∈ rows',RowOk p) ∧ rows'.length ≤ rows.length := by
 induction rows with
 | nil =>
  intro r h
  refine ⟨[],[],?_,List.not_mem_nil,ok,Nat.le_refl _⟩
  rw [Nat.le_zero.mp h]
  rfl
 | cons p rows ih =>
  intro r h
  show ∃ rows' x,(rowL p ++ 10 :: rowsK rows y).take r = _ ∧ _
  have h : r ≤ (rowL p ++ 10 :: rowsK rows []).length := h
  rw [List.length_append] at h
  rw [List.take_append]
  cases e : r - (rowL p).length with
  | zero =>
   refine ⟨[],(rowL p).take r,?_,fun q => (ok p (.head _)).nl (List.mem_of_mem_take q),fun _ q => (nomatch q),Nat.zero_le _⟩
   exact List.append_nil _
  | succ k =>
   have hk : r = (rowL p).length + (k + 1) := by
    rw [← e]
    exact (Nat.add_sub_of_le (Nat.le_of_lt (Nat.lt_of_sub_pos (e ▸ Nat.succ_pos k)))).symm
   rw [hk] at h
   obtain ⟨rows',x,h1,h2,h3,h4⟩ := ih (fun q hq => ok q (.tail _ hq)) (Nat.le_of_succ_le_succ (Nat.le_of_add_le_add_left h))
   refine ⟨p :: rows',x,?_,h2,fun q hq => ?_,Nat.succ_le_succ h4⟩
   ·rw [List.take_of_length_le (hk ▸ Nat.le_add_right ..)]
    show rowL p ++ 10 :: (rowsK rows y).take k = _
    rw [h1]
    rfl
   ·rcases List.mem_cons.mp hq with rfl | hq
    ·exact ok _ (.head _)
    ·exact h3 q hq
noncomputable def bR : Fn := fnOf "_law_broken_right"
noncomputable def bB (i : Nat) : Stmt := bR.body.getD i default
noncomputable def bSt (kind : Byt) (oc : Byt) (at_ told bent : Option Slot) : Sto := [some (.fz .deck),bt kind,bt oc,at_,told,bent,none,none,none,none,none,none]
noncomputable def tl (c : Bool) : PV := if c then .str "a nought" else .str "heads without an end"
noncomputable def sX (b₀ : Byt) (c : Bool) : Sm := mkS [("object_heads",atA [.fz (.byt b₀)] (.exc (tl c) []))]
theorem sX_ok {b₀ : Byt} {c : Bool} (h : TLe (.exc (tl c) []) (ohC b₀)) : SmOk cx0 10 (sX b₀ c) := .cons (atA_le (upS (.nil 0) h rfl)) (.nil _)
section
variable {k oc b : Byt} {r : Nat}
theorem b0r : coll ((HP 14).ex bR.scope (bSt k oc none none none) (bB 0)) = coll (.need (decide (0 < bytFind oc #[10,10] 0) && decide (bytFind oc #[10,10] 0 < 1000)) (.draw (bytFind oc #[10,10] 0).toNat fun r => .ret (.next,bSt k oc (fz (pN r)) (fz .none) none))) := by kernel_rfl
noncomputable def b1T (k oc : Byt) (r : Nat) : T (Fl × Sto) := (HP 14).ex bR.scope (bSt k oc (fz (pN r)) (fz .none) none) (bB 1)
noncomputable def cutL (oc : Byt) (r : Nat) : Byt := (cutBy oc.toList oc.size none (some (r : Int))).toArray
noncomputable def cutR (oc : Byt) (r : Nat) : Byt := (cutBy oc.toList oc.size (some (r : Int)) none).toArray
noncomputable def b1R (k oc : Byt) (r : Nat) (b : Byt) : T (Fl × Sto) := .ret (.next,bSt k oc (fz (pN r)) (fz .none) (bt b))
theorem b1a : coll (b1T k oc r) = .need true (.draw 2 (atD (b1T k oc r))) := by kernel_rfl
theorem b1c0 : coll (atD (b1T k oc r) 0) = coll (b1R k oc r (cutL oc r)) := by kernel_rfl
theorem b1c1 : coll (atD (b1T k oc r) 1) = coll (coll (addB (cutL oc r) #[0] fun a => addB a (cutR oc r) fun a => b1R k oc r a)) := by kernel_rfl
theorem b23 (hk : k = Scommit ∨ k = Ktag) (c : Bool) : coll (exs (lvlS cx0 (sX b c) 26) bR.scope (bSt k oc (fz (pN r)) (fz .none) (bt b)) [bB 2,bB 3]) =
  coll (same [Slot.fz (.byt b)] <| same [Slot.fz (.byt b)] <| .ret (.ret (.bool true),[some (.fz .deck),bt k,bt oc,fz (pN r),fz (tl c),bt b,none,none,none,none,none,none])) := by
 rcases hk with rfl | rfl <;> cases c <;> kernel_rfl
theorem bR_body : bR.body = [bB 0,bB 1,bB 2,bB 3] := by kernel_rfl
theorem bR_ok : callB bR [.fz .deck,.fz (.byt k),.fz (.byt oc)] = true := by kernel_rfl
theorem bR_sto : sto0 bR [.fz .deck,.fz (.byt k),.fz (.byt oc)] = bSt k oc none none none := by kernel_rfl
theorem cutL_list (h : r ≤ oc.size) : (cutL oc r).toList = oc.toList.take r := by
 show (oc.toList.drop 0).take (clipAt oc.size r - 0) = _
 rw [clipAt_nat,Nat.min_eq_left h]
 rfl
theorem cutR_le (h : r ≤ oc.size) : (cutR oc r).size ≤ oc.size := by
 show (cutBy oc.toList oc.size (some (r : Int)) none).length ≤ _
 rw [cut_lo h]
 exact Nat.le_trans (List.length_take_le ..) (Nat.sub_le ..)
end
section
variable {P : Lv} {C : Cx} {sc : Scope} {σ σ' : Sto} {s : Stmt} {r : List Stmt} {m : Nat} {Q : Fl × Sto->Prop}
theorem Tot.exs_cons {a b : Nat} {R : Sto->Prop} (h : Tot a (P.ex sc σ s) fun x => ∃ σ',x = (.next,σ') ∧ R σ') (k : ∀ σ',R σ'->Tot b (exs P sc σ' r) Q) : Tot (b + a) (exs P sc σ (s :: r)) Q :=
 Tot.bind (f := fun y => afterT y fun σ => exs P sc σ r) h fun x hx => by
  obtain ⟨σ',rfl,hr⟩ := hx
  exact k σ' hr
theorem Tot.step (h : TLe (.ret (.next,σ')) (P.ex sc σ s)) (k : Tot m (exs P sc σ' r) Q) : Tot m (exs P sc σ (s :: r)) Q := .le (nx h (.refl _)) k
theorem Tot.last {v : PV} (h : Tot m (P.ex sc σ s) fun x => x.1 = .ret v) : Tot m (exs P sc σ [s]) fun x => x.1 = .ret v :=
 Tot.bind0 (f := fun y => afterT y fun σ => exs P sc σ []) h fun x hx => by
  obtain ⟨y,_⟩ := x
  cases hx
  exact .ret rfl
theorem Tot.call {f : Fn} {args : List Slot} {v : PV} (h : callB f args = true) (k : Tot m (exs P f.scope (sto0 f args) f.body) fun x => x.1 = .ret v) : Tot m (callStep P f args) fun y => y.1 = v :=
 .le (call_le' h (.refl _) (.refl _)) (.bind0 (.atSto k) fun x hx => .ret (congrArg flV hx))
theorem Tot.ret_stmt {n : Nat} {e : Expr} {p : Pos} {v : PV} (h : Tot m ((lvl C n).ev sc σ e) fun x => x.1 = v) : Tot m ((lvl C (n + 1)).ex sc σ (.Return (some e) p)) fun x => x.1 = .ret v := by
 show Tot m ((lvl C n).ev sc σ e >>= fun y => T.ret (Fl.ret y.1,y.2)) _
 exact Tot.bind0 h fun x hx => .ret (congrArg Fl.ret hx)
theorem Tot.and_ev {n : Nat} {a b : Expr} {p : Pos} {Q : PV × Sto->Prop} (h : TLe (.ret (.bool true,σ)) ((lvl C n).ev sc σ a)) (k : Tot m ((lvl C n).ev sc σ b) Q) : Tot m ((lvl C (n + 1)).ev sc σ (.BoolOp .And [a,b] p)) Q := by
 show Tot m ((lvl C n).ev sc σ a >>= _) Q
 refine .le (TLe.to h) ?_
 exact k
end
section
variable {k oc msg : Byt} {rows : List Row}
theorem OcOk.find (h : OcOk oc rows msg) (hr : rows ≠ []) : ∃ n : Nat,bytFind oc #[10,10] 0 = ((n + 1 : Nat) : Int) ∧ n + 1 ≤ (rowsK rows []).length := by
 cases rows with
 | nil => exact absurd rfl hr
 | cons p r =>
  obtain ⟨c,t,e1,e2⟩ := rowL_head (h.ok p (.head _))
  obtain ⟨a,e3⟩ := rowsK_last (p := p) (rows := r)
  rw [e1,List.append_assoc] at e3
  have e := h.eq
  rw [rowsK_app,e3,List.append_assoc] at e
  obtain ⟨n,h1,h2,h3⟩ := findFrom_le (c := 10) (n := [10]) (b := msg.toList) (a := t ++ a) (j := 1)
  cases n with
  | zero => cases h2
  | succ n =>
   refine ⟨n,?_,?_⟩
   ·rw [show bytFind oc #[10,10] 0 = _ from find_at (pre := []) (x := oc.toList) rfl #[10,10],e]
    show (match findFrom [10,10] (c :: (t ++ (a ++ [10] ++ 10 :: msg.toList))) 0 with
     | some k => (k : Int)
     | none => -1) = _
    rw [findFrom_cons e2,List.append_assoc a,← List.append_assoc t]
    exact congrArg (fun o : Option Nat => match o with
     | some k => (k : Int)
     | none => -1) h1
   ·rw [e3]
    show n + 1 ≤ (t ++ (a ++ [10])).length + 1
    rw [← List.append_assoc,List.length_append]
    rw [Nat.add_comm 1] at h3
    exact Nat.le_trans h3 (Nat.add_le_add_right (Nat.le_add_right ..) 1)
noncomputable def isTrueR (x : Fl × Sto) : Prop := x.1 = .ret (.bool true)
noncomputable def b1Q (k oc : Byt) (r : Nat) (σ : Sto) : Prop := ∃ b c,σ = bSt k oc (fz (pN r)) (fz .none) (bt b) ∧ TLe (.exc (tl c) []) (ohC b)
theorem b1_all (h : OcOk oc rows msg) (hs : oc.size ≤ 900) {r : Nat} (hr : r ≤ (rowsK rows []).length) : Tot 1 (b1T k oc r) fun x => ∃ σ,x = (.next,σ) ∧ b1Q k oc r σ := by
 have e := h.eq
 have sz : r ≤ oc.size := by
  rw [rowsK_app] at e
  exact Nat.le_trans hr (size_of e ▸ Nat.le_add_right ..)
 have cl := cutL_list sz
 have s1 : (cutL oc r).size ≤ 900 := Nat.le_trans (by
  rw [← Array.length_toList,cl,← Array.length_toList]
  exact List.length_take_le' ..) hs
 refine Tot.drawD b1a fun q hq => ?_
 match q,hq with
 | 0,_ =>
  refine .le (coll_le b1c0) (.ret ⟨_,rfl,_,false,rfl,?_⟩)
  obtain ⟨rows',x,t1,t2,t3,t4⟩ := take_rows (y := 10 :: msg.toList) h.ok hr
  rw [← e,← cl] at t1
  refine oh_bad ⟨t3,Nat.lt_of_le_of_lt t4 h.len⟩ t2 (fun q => h.nul ?_) t1
  rw [cl] at q
  exact List.mem_of_mem_take q
 | 1,_ =>
  refine .le (t := b1R k oc r (cutL oc r ++ #[0] ++ cutR oc r)) (.trans (addB_le s1 (Nat.le_refl 1) rfl fun s => addB_le s (Nat.le_trans (cutR_le sz) hs) rfl fun _ => .refl _) (coll_le2 b1c1)) (.ret ⟨_,rfl,_,true,rfl,?_⟩)
  refine oh_nul ?_
  rw [Array.toList_append,Array.toList_append]
  exact List.mem_append_left _ (List.mem_append_right _ (.head _))
 | n + 2,h => exact absurd h (Nat.not_lt.mpr (Nat.le_add_left ..))
theorem b0_all (h : OcOk oc rows msg) (hr : rows ≠ []) (hs : oc.size ≤ 900) : Tot 1 ((HP 14).ex bR.scope (bSt k oc none none none) (bB 0)) fun x => ∃ σ,x = (.next,σ) ∧ ∃ r,r ≤ (rowsK rows []).length ∧ σ = bSt k oc (fz (pN r)) (fz .none) none := by
 obtain ⟨n,e,le⟩ := h.find hr
 refine .le (coll_le b0r) ?_
 rw [e]
 refine .need ((Bool.and_eq_true_iff ..).mpr ⟨decide_eq_true (Int.natCast_pos.mpr (Nat.succ_pos n)),decide_eq_true (Int.ofNat_lt.mpr ?_)⟩) (.draw fun r hq => .ret ⟨_,rfl,r,Nat.le_trans (Nat.le_of_lt hq) le,rfl⟩)
 refine Nat.lt_of_le_of_lt (Nat.le_trans le ?_) (show 900 < 1000 by decide)
 have q := h.eq
 rw [rowsK_app] at q
 exact Nat.le_trans (Nat.le_trans (Nat.le_add_right ..) (Nat.le_of_eq (size_of q).symm)) hs
theorem broken_ok (hk : k = Scommit ∨ k = Ktag) (h : OcOk oc rows msg) (hr : rows ≠ []) (hs : oc.size ≤ 900) : Tot 2 (callStep (lvl cx0 40) bR [.fz .deck,.fz (.byt k),.fz (.byt oc)]) fun y => y.1 = .bool true := by
 refine Tot.call bR_ok ?_
 rw [bR_sto,bR_body]
 refine Tot.exs_cons (b := 1) (.le (stL (.nil 0) (.refl _) rfl) (b0_all h hr hs)) fun σ hσ => ?_
 obtain ⟨r,hq,rfl⟩ := hσ
 refine Tot.exs_cons (b := 0) (.le (stL (.nil 0) (.refl _) rfl) (b1_all h hs hq)) fun σ hσ => ?_
 obtain ⟨b,c,rfl,hb⟩ := hσ
 exact .le (exsL (sX_ok hb) (.trans (same_le (same_le (.refl _))) (coll_le (b23 hk c))) rfl) (.ret rfl)
end
theorem rowsK_more (rows r : List Row) (x : List UInt8) : rowsK (rows ++ r) x = rowsK rows (rowsK r x) := by
 induction rows with
 | nil => rfl
 | cons p q ih => exact congrArg (fun z => rowL p ++ 10 :: z) ih
theorem rowsK_nul {rows : List Row} {x : List UInt8} (h : ∀ p ∈ rows,RowG p) (hx : (0 : UInt8) ∉ x) : (0 : UInt8) ∉ rowsK rows x := by
 induction rows with
 | nil => exact hx
 | cons p r ih => exact fun q => (List.mem_append.mp q).elim (h p (.head _)).nul fun q => (List.mem_cons.mp q).elim (by decide) (ih fun q hq => h q (.tail _ hq))
theorem ocOk {oc msg : Byt} {rows : List Row} (h : ∀ p ∈ rows,RowG p) (hl : rows.length < 60) (hm : (0 : UInt8) ∉ 10 :: msg.toList) (e : oc.toList = rowsK rows (10 :: msg.toList)) : OcOk oc rows msg := ⟨⟨fun p hp => (h p hp).toRowOk,hl⟩,e ▸ rowsK_nul h hm,e⟩
noncomputable def flatB (l : List Byt) : List UInt8 := l.foldr (fun b z => b.toList ++ z) []
theorem toL (l : List Byt) : ∀ x : Byt,(l.foldl (fun a b => a ++ b) x).toList = x.toList ++ flatB l := by
 induction l with
 | nil => exact fun x => (List.append_nil _).symm
 | cons b l ih => exact fun x => (ih (x ++ b)).trans (by rw [Array.toList_append,List.append_assoc]; rfl)
noncomputable def sC (oc : Byt) (rows : List Row) (msg : Byt) (z : Bool) : Sm := mkS (("object_heads",atA [.fz (.byt oc)] (gv (.tup [.list (rows.map rowPV),.byt msg]) (.byt oc))) :: s1 z)
theorem sC_ok {oc : Byt} {rows : List Row} {msg : Byt} (h : OcOk oc rows msg) (z : Bool) : SmOk cx0 34 (sC oc rows msg z) := .cons (atA_le (upS (.nil 0) (oh_ret h) rfl)) (s1_ok z)
section
variable {α : Type}
noncomputable def hexesN : List Byt->T α->T α
 | [],k => k
 | p :: r,k => hexN p (hexesN r k)
theorem hexesN_le {ps : List Byt} {t k : T α} (h : ∀ p ∈ ps,p ∈ oids) (hk : TLe t k) : TLe t (hexesN ps k) := by
 induction ps with
 | nil => exact hk
 | cons p r ih => exact hexN_le (h p (.head _)) (ih fun q hq => h q (.tail _ hq))
end
noncomputable def lnk (k v : Byt) : PV := .tup [.byt k,.byt v]
noncomputable def eqs : List Byt->Bool
 | [] => true
 | t :: r => (bytEq t t && true) && eqs r
theorem bytEq_self (b : Byt) : bytEq b b = true := beq_self_eq_true _
theorem eqs_true (l : List Byt) : eqs l = true := by
 induction l with
 | nil => rfl
 | cons t r ih =>
  show (bytEq t t && true && eqs r) = true
  rw [bytEq_self,ih]
  rfl
noncomputable def unL (t : Byt) (ps : List Byt) : List PV := lnk Ktree (unhex (hexOf t)) :: ps.map fun p => lnk Scommit (unhex (hexOf p))
noncomputable def lkL (t : Byt) (ps : List Byt) : List PV := lnk Ktree t :: ps.map fun p => lnk Scommit p
theorem unL_eq {t : Byt} {ps : List Byt} (ht : t ∈ oids) (hp : ∀ p ∈ ps,p ∈ oids) : unL t ps = lkL t ps := by
 unfold unL lkL
 rw [unhex_of ht,List.map_congr_left fun p h => by rw [unhex_of (hp p h)]]
noncomputable def cAll (t : Byt) (ps : List Byt) (P Q : Per) : List Row := cRows t ps ++ [(Kauthor,rowP P),(Kcommitter,rowP Q)]
noncomputable def it2 (P Q : Per) : Option Slot := fz (.list [itP P,itP Q])
noncomputable def c9t (z : Bool) (u : Byt) (a dl : List PV) (σ : Sto) : T (PV × Sto) := nulN z u <| match z with
 | true => appN a noughtStr fun a => eqN (.list a) (.list dl) fun b => .ret (.bool b,σ)
 | false => eqN (.list a) (.list dl) fun b => .ret (.bool b,σ)
theorem c9t_le {n : Nat} {t : Byt} {l : List PV} {σ : Sto} (ht : t ∈ oids) (f : Few n l) (hn : Nat.blt n 900 = true) : TLe (.ret (.bool true,σ)) (c9t (isN t) t l (l ++ nouZ (isN t)) σ) := by
 refine nulN_le ht ?_
 have g := f.app (nou_few (isN t))
 cases h : isN t with
 | true =>
  rw [h] at g
  exact appN_le f (Nat.ble_eq_true_of_le (Nat.le_trans (Nat.le_of_ble_eq_true hn) (by decide))) (eqN_le g (.refl _))
 | false =>
  rw [show nouZ false = [] from rfl,List.append_nil]
  exact eqN_le f (.refl _)
section
variable {t oc o : Byt} {ps : List Byt} {P Q : Per} {ts psl pe du li ma : Option Slot} {dl : List PV}
theorem c3r : coll ((lvlS cx0 (mkS (s1 true)) 16).ex cR.scope (cSt ts psl (some (.ol [itP P,itP Q])) (bt oc) none none none) (cB 3)) =
  coll (addB oc Sauthor fun a => itN P <| addB a (rowP P) fun a => addB a Scommitter fun a => itN Q <| addB a (rowP Q) fun a => addB a Sfoot fun a => .ret (.next,cSt ts psl (it2 P Q) (bt a) none none none)) := by kernel_rfl
theorem c4r : coll ((lvlS cx0 (mkS (s1 true)) 16).ex cR.scope (cSt (bt t) psl (it2 P Q) (bt oc) none none none) (cB 4)) =
  coll (itN P <| itN Q <| lenN (fauP P) (fauP Q) fun a => mulZ (isN t) <| lenN a (nouZ (isN t)) fun a => .ret (.next,cSt (bt t) psl (it2 P Q) (bt oc) (fz (.list a)) none none)) := by kernel_rfl
theorem c5r (h : ps ∈ psL) : coll ((lvlS cx0 (sC o (cAll t ps P Q) Smsg true) 24).ex cR.scope (cSt ts psl pe (bt o) du none none) (cB 5)) =
  coll (same [Slot.fz (.byt o)] <| hexN t <| hexesN ps <| rowN P <| rowN Q <| .ret (.next,cSt ts psl pe (bt o) du (fz (.list (unL t ps))) none)) := by
 refine psC (M := fun ps => coll ((lvlS cx0 (sC o (cAll t ps P Q) Smsg true) 24).ex cR.scope (cSt ts psl pe (bt o) du none none) (cB 5)) =
  coll (same [Slot.fz (.byt o)] <| hexN t <| hexesN ps <| rowN P <| rowN Q <| .ret (.next,cSt ts psl pe (bt o) du (fz (.list (unL t ps))) none))) ?_ (fun _ _ => ?_) (fun _ _ _ _ => ?_) h <;> kernel_rfl
theorem c6r (h : ps ∈ psL) : coll ((HP 14).isT cR.scope (cSt (bt t) (byL ps) pe (bt oc) du (fz (.list (lkL t ps))) none) (ifT (cB 6))) =
  coll (.ret (!(eqs (t :: ps)),cSt (bt t) (byL ps) pe (bt oc) du (fz (.list (lkL t ps))) none)) := by
 refine psC (M := fun ps => coll ((HP 14).isT cR.scope (cSt (bt t) (byL ps) pe (bt oc) du (fz (.list (lkL t ps))) none) (ifT (cB 6))) =
  coll (.ret (!(eqs (t :: ps)),cSt (bt t) (byL ps) pe (bt oc) du (fz (.list (lkL t ps))) none))) ?_ (fun _ _ => ?_) (fun _ _ _ _ => ?_) h <;> kernel_rfl
theorem c7r : coll ((HP 14).ex cR.scope (cSt ts psl (it2 P Q) (bt oc) du li none) (cB 7)) = coll (.ret (.next,cSt ts psl (it2 P Q) (bt oc) du li (fz (perP P)))) := by kernel_rfl
theorem c8r : coll ((lvlS cx0 (mkS (s1 true)) 14).isT cR.scope (cSt ts psl (it2 P Q) (bt oc) du li (fz (perP P))) (ifT (cB 8))) =
  coll (perFN P <| itN P <| eqN (.list (fauP P)) (.list (fauP P)) fun b => .ret (!b,cSt ts psl (it2 P Q) (bt oc) du li (fz (perP P)))) := by kernel_rfl
noncomputable def c9A : Expr := bopE (retE (cB 9)) 0
noncomputable def c9B : Expr := bopE (retE (cB 9)) 1
theorem c9r (h : ps ∈ psL) (z : Bool) : coll ((lvlS cx0 (sC o (cAll t ps P Q) Smsg z) 28).ev cR.scope (cSt ts psl pe (bt o) (fz (.list dl)) li ma) c9A) =
  coll (same [Slot.fz (.byt o)] <| hexN t <| hexesN ps <| rowN P <| rowN Q <| perFN (whoOf (rowP P)) <| extN [] (fauP (whoOf (rowP P))) fun a => perFN (whoOf (rowP Q)) <| extN a (fauP (whoOf (rowP Q))) fun a => c9t z (unhex (hexOf t)) a dl (cSt ts psl pe (bt o) (fz (.list dl)) li ma)) := by
 refine psC (M := fun ps => coll ((lvlS cx0 (sC o (cAll t ps P Q) Smsg z) 28).ev cR.scope (cSt ts psl pe (bt o) (fz (.list dl)) li ma) c9A) =
  coll (same [Slot.fz (.byt o)] <| hexN t <| hexesN ps <| rowN P <| rowN Q <| perFN (whoOf (rowP P)) <| extN [] (fauP (whoOf (rowP P))) fun a => perFN (whoOf (rowP Q)) <| extN a (fauP (whoOf (rowP Q))) fun a => c9t z (unhex (hexOf t)) a dl (cSt ts psl pe (bt o) (fz (.list dl)) li ma))) ?_ (fun _ _ => ?_) (fun _ _ _ _ => ?_) h <;> cases z <;> kernel_rfl
theorem c9Br : (lvl cx0 68).ev cR.scope (cSt ts psl pe (bt o) du li ma) c9B =
  ((callStep (lvl cx0 66) bR [.fz .deck,.fz (.byt Scommit),.fz (.byt o)]).atSto (cSt ts psl pe (bt o) du li ma) >>= fun x => .ret x.1) >>= fun v => .ret (v,cSt ts psl pe (bt o) du li ma) := by kernel_rfl
theorem cR_body : cR.body = [cB 0,cB 1,cB 2,cB 3,cB 4,cB 5,ifX (cB 6),cB 7,ifX (cB 8),.Return (some (.BoolOp .And [c9A,c9B] (retE (cB 9)).pos)) (cB 9).pos] := by kernel_rfl
theorem cR_ok : callB cR [.fz .deck] = true := by kernel_rfl
theorem cR_sto : sto0 cR [.fz .deck] = cSt none none none none none none none := by kernel_rfl
end
structure ComOk (t : Byt) (ps : List Byt) (P Q : Per) : Prop where
 t : t ∈ oids
 ps : ps ∈ psL
 P : PerOk P
 Q : PerOk Q
section
variable {t : Byt} {ps : List Byt} {P Q : Per} {pe du li ma : Option Slot}
theorem ComOk.psm (h : ComOk t ps P Q) : ∀ p ∈ ps,p ∈ oids := psC (M := fun ps => ∀ p ∈ ps,p ∈ oids) (fun _ q => nomatch q) (fun a ha _ q => List.mem_singleton.mp q ▸ ha) (fun a b ha hb p q => (List.mem_cons.mp q).elim (fun e => e ▸ ha) fun q => List.mem_singleton.mp q ▸ hb) h.ps
noncomputable def ocA (t : Byt) (ps : List Byt) (P Q : Per) : Byt := ocC t ps ++ Sauthor ++ rowP P ++ Scommitter ++ rowP Q ++ Sfoot
theorem ComOk.oc (h : ComOk t ps P Q) : (ocC t ps).size ≤ 200 ∧ ∀ p ∈ cRows t ps,RowG p := and2 (List.all_eq_true.mp c_ok _ (tps_mem h.t h.ps)) fun a b => ⟨Nat.le_of_ble_eq_true a,fun p hp => rowG (List.all_eq_true.mp b p hp)⟩
theorem ComOk.rows (h : ComOk t ps P Q) : ∀ p ∈ cAll t ps P Q,RowG p := fun p hp => (List.mem_append.mp hp).elim (h.oc.2 p) fun hp => (List.mem_cons.mp hp).elim (fun e => e ▸ h.P.au) fun hp => List.mem_singleton.mp hp ▸ h.Q.co
theorem ComOk.ok (h : ComOk t ps P Q) : OcOk (ocA t ps P Q) (cAll t ps P Q) Smsg := by
 refine ocOk h.rows ?_ (by decide) ?_
 ·exact psC (M := fun ps => (cAll t ps P Q).length < 60) (by show 3 < 60; decide) (fun _ _ => by show 4 < 60; decide) (fun _ _ _ _ => by show 5 < 60; decide) h.ps
 ·show (List.foldl (fun a b => a ++ b) (ocC t ps) [Sauthor,rowP P,Scommitter,rowP Q,Sfoot]).toList = _
  rw [toL]
  show rowsK (cRows t ps) [] ++ flatB [Sauthor,rowP P,Scommitter,rowP Q,Sfoot] = rowsK (cRows t ps ++ [(Kauthor,rowP P),(Kcommitter,rowP Q)]) _
  rw [rowsK_more,rowsK_app (cRows t ps) (rowsK _ _)]
  rfl
theorem c3_all {ts psl : Option Slot} (h : ComOk t ps P Q) : (ocA t ps P Q).size ≤ 900 ∧
  TLe (.ret (.next,cSt ts psl (it2 P Q) (bt (ocA t ps P Q)) none none none)) ((lvlS cx0 (mkS (s1 true)) 16).ex cR.scope (cSt ts psl (some (.ol [itP P,itP Q])) (bt (ocC t ps)) none none none) (cB 3)) := by
 have z : (ocA t ps P Q).size ≤ 200 + 7 + 60 + 11 + 60 + 4 := by
  unfold ocA
  rw [Array.size_append,Array.size_append,Array.size_append,Array.size_append,Array.size_append]
  exact Nat.add_le_add (Nat.add_le_add (Nat.add_le_add (Nat.add_le_add (Nat.add_le_add h.oc.1 (Nat.le_refl _)) h.P.sz) (Nat.le_refl _)) h.Q.sz) (Nat.le_refl _)
 refine ⟨Nat.le_trans z (by decide),.trans ?_ (coll_le c3r)⟩
 refine addB_le h.oc.1 (Nat.le_refl 7) rfl fun s => itN_le h.P.mem <| addB_le s h.P.sz rfl fun s => addB_le s (Nat.le_refl 11) rfl fun s => itN_le h.Q.mem <| addB_le s h.Q.sz rfl fun s => addB_le s (Nat.le_refl 4) rfl fun s => ?_
 exact .refl _
theorem commit_rest (h : ComOk t ps P Q) : Tot 2 (exs (lvl cx0 70) cR.scope (cSt (bt t) (byL ps) (some (.ol [itP P,itP Q])) none none none none) (cR.body.drop 2)) isTrueR := by
 rw [cR_body]
 show Tot 2 (exs (lvl cx0 70) cR.scope _ [cB 2,cB 3,cB 4,cB 5,ifX (cB 6),cB 7,ifX (cB 8),.Return (some (.BoolOp .And [c9A,c9B] (retE (cB 9)).pos)) (cB 9).pos]) _
 have S1 := s1_ok true
 have ok := h.ok
 obtain ⟨so,r3⟩ := c3_all (ts := bt t) (psl := byL ps) h
 have f2 := h.P.fau.app h.Q.fau
 refine .step (stL (.nil 0) (coll_leN (tab c2r (tps_mem h.t h.ps))) rfl) ?_
 refine .step (stL S1 r3 rfl) ?_
 refine .step (σ' := cSt (bt t) (byL ps) (it2 P Q) (bt (ocA t ps P Q)) (fz (.list (fauP P ++ fauP Q ++ nouZ (isN t)))) none none) (stL S1 (.trans (itN_le h.P.mem (itN_le h.Q.mem (lenN_le h.P.fau h.Q.fau rfl (mulZ_le (lenN_le f2 (nou_few (isN t)) rfl ?_))))) (coll_le c4r)) rfl) ?_
 ·exact .refl _
 refine .step (stL (sC_ok ok true) (.trans (same_le (hexN_le h.t (hexesN_le h.psm (rowN_le h.P.mem (rowN_le h.Q.mem (.refl _)))))) (coll_le (c5r h.ps))) rfl) ?_
 rw [unL_eq h.t h.psm]
 have r6 := c6r (t := t) (pe := it2 P Q) (oc := ocA t ps P Q) (du := fz (.list (fauP P ++ fauP Q ++ nouZ (isN t)))) h.ps
 rw [eqs_true] at r6
 refine .step (ifF'' (isTL (.nil 0) (coll_le r6) rfl) (.refl _)) ?_
 refine .step (stL (.nil 0) (coll_le c7r) rfl) ?_
 refine .step (ifF'' (isTL S1 (.trans (perFN_le h.P.mem (itN_le h.P.mem (eqN_le h.P.fau (.refl _)))) (coll_le c8r)) rfl) (.refl _)) ?_
 refine .last (.ret_stmt (.and_ev (evL (sC_ok ok (isN t)) (.trans ?_ (coll_le (c9r h.ps (isN t)))) rfl) ?_))
 ·rw [who_of h.P.mem,who_of h.Q.mem,unhex_of h.t]
  exact same_le (hexN_le h.t (hexesN_le h.psm (rowN_le h.P.mem (rowN_le h.Q.mem (perFN_le h.P.mem (extN_le ⟨Nat.le_refl 0,rfl⟩ h.P.fau rfl (perFN_le h.Q.mem (extN_le h.P.fau h.Q.fau rfl (c9t_le h.t f2 rfl)))))))))
 ·rw [c9Br]
  exact .bind0 (.bind0 (.atSto (.le (callStep_le (lvl_mono 40 (by decide)) _ _) (broken_ok (.inl rfl) ok (List.cons_ne_nil _ _) so))) fun x hx => .ret hx) fun v hv => .ret hv
theorem commit_ok : Tot 12 (callStep (lvl cx0 70) cR [.fz .deck]) fun y => y.1 = .bool true := by
 refine .call cR_ok ?_
 rw [cR_sto,show cR.body = cB 0 :: cB 1 :: cR.body.drop 2 from by rw [cR_body]; rfl]
 refine Tot.exs_cons (a := 4) (b := 8) (R := fun σ => ∃ t ps,t ∈ oids ∧ ps ∈ psL ∧ σ = (c0R t ps).2) (.le (stL sD_ok (.refl _) rfl) (c0r.mono fun x hx => ?_)) fun σ hσ => ?_
 ·obtain ⟨t,ps,h1,h2,rfl⟩ := hx
  exact ⟨_,rfl,t,ps,h1,h2,rfl⟩
 ·obtain ⟨t,ps,ht,hp,rfl⟩ := hσ
  refine Tot.exs_cons (a := 6) (b := 2) (.le (stL sD_ok (.refl _) rfl) c1_all) fun σ hσ => ?_
  obtain ⟨P,Q,hP,hQ,rfl⟩ := hσ
  exact commit_rest ⟨ht,hp,perOk hP,perOk hQ⟩
end
noncomputable def tR : Fn := fnOf "_law_tag_right"
noncomputable def tB (i : Nat) : Stmt := tR.body.getD i default
noncomputable def tSt (g k it md oc du li : Option Slot) : Sto := some (.fz .deck) :: g :: k :: it :: md :: oc :: du :: li :: List.replicate 13 none
noncomputable def Kblob : Byt := #[98,108,111,98]
noncomputable def kinds : List Byt := [Scommit,Kblob,Ktag]
noncomputable def Kobject : Byt := #[111,98,106,101,99,116]
noncomputable def Ktype : Byt := #[116,121,112,101]
noncomputable def Stagger : Byt := #[116,97,103,103,101,114,32]
noncomputable def NL : Byt := #[10]
noncomputable def Sm2 : Byt := #[10,109,10]
noncomputable def Vv : Byt := #[118]
noncomputable def nobody : PV := .str "a tag that nobody made"
noncomputable def tHead (g k : Byt) : List Row := [(Kobject,hexOf g),(Ktype,k),(Ktag,Vv)]
noncomputable def ocT (g k : Byt) : Byt := (rowsK (tHead g k) []).toArray
noncomputable def gks : List (Byt × Byt) := oids.flatMap fun g => kinds.map fun k => (g,k)
theorem gks_mem {g k : Byt} (hg : g ∈ oids) (hk : k ∈ kinds) : (g,k) ∈ gks := List.mem_flatMap.mpr ⟨g,hg,List.mem_map.mpr ⟨k,hk,rfl⟩⟩
theorem t_ok : (gks.all fun x => Nat.ble (ocT x.1 x.2).size 200 && (tHead x.1 x.2).all rowB) = true := by kernel_rfl
noncomputable def tRows (g k : Byt) (P : Per) : Bool->List Row
 | true => tHead g k ++ [(Ktagger,rowP P)]
 | false => tHead g k
noncomputable def dueT (P : Per) : Bool->List PV
 | true => fauP P
 | false => [nobody]
noncomputable def ocTA (g k : Byt) (P : Per) : Bool->Byt
 | true => ocT g k ++ (Stagger ++ rowP P ++ NL) ++ Sm2
 | false => ocT g k ++ #[] ++ Sm2
section
variable {g k o : Byt} {P : Per} {gs ks it md du li : Option Slot} {dl : List PV} {b : Bool}
theorem t0r : coll ((lvlS cx0 sD 16).ex tR.scope (tSt none none none none none none none) (tB 0)) = coll (.draw 4 fun g => .draw 3 fun k => .draw 7 fun z => .draw 3 fun n => .draw 5 fun w =>
  .ret (.next,tSt (bt (oidAt g)) (bt (kinds.getD k #[])) (fz (itP (perAt z n w))) none none none none)) := by kernel_rfl
noncomputable def t1T (g k : Byt) (it : Option Slot) : T (Fl × Sto) := (HP 14).ex tR.scope (tSt (bt g) (bt k) it none none none none) (tB 1)
theorem t1a : coll (t1T g k it) = .need true (.draw 3 (atD (t1T g k it))) := by kernel_rfl
noncomputable def t1R (x : Byt × Byt) (it : Option Slot) (b : Bool) : Fl × Sto := (.next,tSt (bt x.1) (bt x.2) it (fz (.bool b)) (bt (ocT x.1 x.2)) none none)
theorem t1c (r : Nat) (hr : r < 3) : ∃ b,mapA (fun x : Byt × Byt => coll (atD (t1T x.1 x.2 it) r)) gks = mapB (fun x => T.need true (.ret (t1R x it b))) gks := below3 (M := fun r => ∃ b,mapA (fun x : Byt × Byt => coll (atD (t1T x.1 x.2 it) r)) gks = mapB (fun x => T.need true (.ret (t1R x it b))) gks) ⟨false,by kernel_rfl⟩ ⟨true,by kernel_rfl⟩ ⟨true,by kernel_rfl⟩ r hr
theorem t2t : coll ((lvlS cx0 (mkS (s1 true)) 16).ex tR.scope (tSt gs ks (fz (itP P)) (fz (.bool true)) (bt o) none none) (tB 2)) =
  coll (itN P <| addB Stagger (rowP P) fun x => addB x NL fun x => addB o x fun a => addB a Sm2 fun a => .ret (.next,tSt gs ks (fz (itP P)) (fz (.bool true)) (bt a) none none)) := by kernel_rfl
theorem t2f : coll ((lvlS cx0 (mkS (s1 true)) 16).ex tR.scope (tSt gs ks (fz (itP P)) (fz (.bool false)) (bt o) none none) (tB 2)) =
  coll (addB o #[] fun a => addB a Sm2 fun a => .ret (.next,tSt gs ks (fz (itP P)) (fz (.bool false)) (bt a) none none)) := by kernel_rfl
noncomputable def itB {α : Type} (P : Per) (k : T α) : Bool->T α
 | true => itN P k
 | false => k
noncomputable def roB {α : Type} (P : Per) (k : T α) : Bool->T α
 | true => rowN P k
 | false => k
theorem itB_le {α : Type} {t u : T α} (h : P ∈ pAll) (hk : TLe t u) : TLe t (itB P u b) := by
 cases b
 ·exact hk
 ·exact itN_le h hk
theorem roB_le {α : Type} {t u : T α} (h : P ∈ pAll) (hk : TLe t u) : TLe t (roB P u b) := by
 cases b
 ·exact hk
 ·exact rowN_le h hk
theorem t3r : coll ((lvlS cx0 (mkS (s1 true)) 16).ex tR.scope (tSt gs ks (fz (itP P)) (fz (.bool b)) (bt o) none none) (tB 3)) =
  coll (itB P (.ret (.next,tSt gs ks (fz (itP P)) (fz (.bool b)) (bt o) (fz (.list (dueT P b))) none)) b) := by cases b <;> kernel_rfl
theorem t4r (hk : k ∈ kinds) : coll ((lvlS cx0 (sC o (tRows g k P b) Smsg true) 28).ex tR.scope (tSt gs ks it md (bt o) du none) (tB 4)) =
  coll (same [Slot.fz (.byt o)] <| hexN g <| roB P (.ret (.next,tSt gs ks it md (bt o) du (fz (.list [lnk k (unhex (hexOf g))])))) b) := by
 cases b <;> exact tab (f := fun k => coll ((lvlS cx0 (sC o (tRows g k P _) Smsg true) 28).ex tR.scope (tSt gs ks it md (bt o) du none) (tB 4))) (g := fun k => coll (same [Slot.fz (.byt o)] <| hexN g <| roB P (.ret (.next,tSt gs ks it md (bt o) du (fz (.list [lnk k (unhex (hexOf g))])))) _)) (by kernel_rfl) hk
theorem t5r (hk : k ∈ kinds) : coll ((HP 14).isT tR.scope (tSt (bt g) (bt k) it md (bt o) du (fz (.list [lnk k g]))) (ifT (tB 5))) = coll (.ret (!(eqs [g]),tSt (bt g) (bt k) it md (bt o) du (fz (.list [lnk k g])))) :=
 tab (f := fun k => coll ((HP 14).isT tR.scope (tSt (bt g) (bt k) it md (bt o) du (fz (.list [lnk k g]))) (ifT (tB 5)))) (g := fun k => coll (.ret (!(eqs [g]),tSt (bt g) (bt k) it md (bt o) du (fz (.list [lnk k g]))))) (by kernel_rfl) hk
theorem t6r : coll ((HP 14).ex tR.scope (tSt (bt g) ks it md (bt o) (fz (.list dl)) li) (tB 6)) =
  coll (mulZ (isN g) <| lenN dl (nouZ (isN g)) fun a => .ret (.next,tSt (bt g) ks it md (bt o) (fz (.list a)) li)) := by kernel_rfl
noncomputable def t7A : Expr := bopE (retE (tB 7)) 0
noncomputable def t7B : Expr := bopE (retE (tB 7)) 1
noncomputable def t7X (z : Bool) (g : Byt) (P : Per) (dl : List PV) (σ : Sto) : Bool->T (PV × Sto)
 | true => rowN P <| perFN (whoOf (rowP P)) <| extN [] (fauP (whoOf (rowP P))) fun a => c9t z (unhex (hexOf g)) a dl σ
 | false => c9t z (unhex (hexOf g)) [nobody] dl σ
theorem t7r (hk : k ∈ kinds) (z : Bool) : coll ((lvlS cx0 (sC o (tRows g k P b) Smsg z) 28).ev tR.scope (tSt gs ks it md (bt o) (fz (.list dl)) li) t7A) =
  coll (same [Slot.fz (.byt o)] <| hexN g <| t7X z g P dl (tSt gs ks it md (bt o) (fz (.list dl)) li) b) := by
 cases b <;> cases z <;> exact tab (f := fun k => coll ((lvlS cx0 (sC o (tRows g k P _) Smsg _) 28).ev tR.scope (tSt gs ks it md (bt o) (fz (.list dl)) li) t7A)) (g := fun _ => coll (same [Slot.fz (.byt o)] <| hexN g <| t7X _ g P dl (tSt gs ks it md (bt o) (fz (.list dl)) li) _)) (by kernel_rfl) hk
theorem t7Br : (lvl cx0 68).ev tR.scope (tSt gs ks it md (bt o) du li) t7B =
  ((callStep (lvl cx0 66) bR [.fz .deck,.fz (.byt Ktag),.fz (.byt o)]).atSto (tSt gs ks it md (bt o) du li) >>= fun x => .ret x.1) >>= fun v => .ret (v,tSt gs ks it md (bt o) du li) := by kernel_rfl
theorem tR_body : tR.body = [tB 0,tB 1,tB 2,tB 3,tB 4,ifX (tB 5),tB 6,.Return (some (.BoolOp .And [t7A,t7B] (retE (tB 7)).pos)) (tB 7).pos] := by kernel_rfl
theorem tR_ok : callB tR [.fz .deck] = true := by kernel_rfl
theorem tR_sto : sto0 tR [.fz .deck] = tSt none none none none none none none := by kernel_rfl
end
structure TagOk (g k : Byt) (P : Per) : Prop where
 g : g ∈ oids
 k : k ∈ kinds
 P : PerOk P
section
variable {g k : Byt} {P : Per} {b : Bool}
theorem TagOk.oc (h : TagOk g k P) : (ocT g k).size ≤ 200 ∧ ∀ p ∈ tHead g k,RowG p := and2 (List.all_eq_true.mp t_ok _ (gks_mem h.g h.k)) fun a b => ⟨Nat.le_of_ble_eq_true a,fun p hp => rowG (List.all_eq_true.mp b p hp)⟩
theorem TagOk.rows (h : TagOk g k P) : ∀ p ∈ tRows g k P b,RowG p := by
 cases b with
 | true => exact fun p hp => (List.mem_append.mp hp).elim (h.oc.2 p) fun hp => List.mem_singleton.mp hp ▸ h.P.ta
 | false => exact h.oc.2
theorem TagOk.ok (h : TagOk g k P) : OcOk (ocTA g k P b) (tRows g k P b) Smsg := by
 refine ocOk h.rows ?_ (by decide) ?_
 ·cases b
  ·exact (by show 3 < 60; decide)
  ·exact (by show 4 < 60; decide)
 ·cases b with
  | true =>
   show (ocT g k ++ (Stagger ++ rowP P ++ NL) ++ Sm2).toList = rowsK (tHead g k ++ [(Ktagger,rowP P)]) _
   rw [rowsK_more,rowsK_app (tHead g k) (rowsK _ _),Array.toList_append,Array.toList_append,Array.toList_append,Array.toList_append,List.append_assoc,List.append_assoc,List.append_assoc]
   rfl
  | false =>
   show (ocT g k ++ #[] ++ Sm2).toList = rowsK (tHead g k) _
   rw [rowsK_app (tHead g k),Array.append_empty,Array.toList_append]
   rfl
theorem t2_all (h : TagOk g k P) : (ocTA g k P b).size ≤ 900 ∧ ∀ gs ks,
  TLe (.ret (.next,tSt gs ks (fz (itP P)) (fz (.bool b)) (bt (ocTA g k P b)) none none)) ((lvlS cx0 (mkS (s1 true)) 16).ex tR.scope (tSt gs ks (fz (itP P)) (fz (.bool b)) (bt (ocT g k)) none none) (tB 2)) := by
 have z := h.oc.1
 cases b with
 | true =>
  refine ⟨?_,fun gs ks => .trans ?_ (coll_le t2t)⟩
  ·show (ocT g k ++ (Stagger ++ rowP P ++ NL) ++ Sm2).size ≤ _
   rw [Array.size_append,Array.size_append,Array.size_append,Array.size_append]
   exact Nat.le_trans (Nat.add_le_add (Nat.add_le_add z (Nat.add_le_add (Nat.add_le_add (Nat.le_refl 7) h.P.sz) (Nat.le_refl 1))) (Nat.le_refl 3)) (by decide)
  ·refine itN_le h.P.mem (addB_le (Nat.le_refl 7) h.P.sz rfl fun s => addB_le s (Nat.le_refl 1) rfl fun s => addB_le (c := 68) z s rfl fun s => addB_le (a := 268) s (Nat.le_refl 3) rfl fun s => ?_)
   exact .refl _
 | false =>
  refine ⟨?_,fun gs ks => .trans ?_ (coll_le t2f)⟩
  ·show (ocT g k ++ #[] ++ Sm2).size ≤ _
   rw [Array.size_append,Array.size_append]
   exact Nat.le_trans (Nat.add_le_add (Nat.add_le_add z (Nat.le_refl 0)) (Nat.le_refl 3)) (by decide)
  ·refine addB_le z (Nat.le_refl 0) rfl fun s => addB_le s (Nat.le_refl 3) rfl fun s => ?_
   exact .refl _
theorem due_few (h : TagOk g k P) : Few 3 (dueT P b) := by
 cases b with
 | true => exact h.P.fau
 | false => exact ⟨by show 1 ≤ 3; decide,rfl⟩
theorem t7_le {σ : Sto} (h : TagOk g k P) : TLe (.ret (.bool true,σ)) (t7X (isN g) g P (dueT P b ++ nouZ (isN g)) σ b) := by
 cases b with
 | true =>
  show TLe _ (rowN P <| perFN (whoOf (rowP P)) <| extN [] (fauP (whoOf (rowP P))) fun a => c9t (isN g) (unhex (hexOf g)) a _ σ)
  rw [who_of h.P.mem,unhex_of h.g]
  exact rowN_le h.P.mem (perFN_le h.P.mem (extN_le ⟨Nat.le_refl 0,rfl⟩ h.P.fau rfl (c9t_le h.g h.P.fau rfl)))
 | false =>
  show TLe _ (c9t (isN g) (unhex (hexOf g)) [nobody] _ σ)
  rw [unhex_of h.g]
  exact c9t_le h.g (due_few (b := false) h) rfl
theorem tag_rest (h : TagOk g k P) : Tot 2 (exs (lvl cx0 70) tR.scope (t1R (g,k) (fz (itP P)) b).2 (tR.body.drop 2)) isTrueR := by
 rw [tR_body]
 show Tot 2 (exs (lvl cx0 70) tR.scope (tSt (bt g) (bt k) (fz (itP P)) (fz (.bool b)) (bt (ocT g k)) none none) [tB 2,tB 3,tB 4,ifX (tB 5),tB 6,.Return (some (.BoolOp .And [t7A,t7B] (retE (tB 7)).pos)) (tB 7).pos]) _
 have S1 := s1_ok true
 have ok := h.ok (b := b)
 obtain ⟨so,r2⟩ := t2_all (b := b) h
 refine .step (stL S1 (r2 _ _) rfl) ?_
 refine .step (stL S1 (.trans (itB_le h.P.mem (.refl _)) (coll_le t3r)) rfl) ?_
 refine .step (stL (sC_ok ok true) (.trans (same_le (hexN_le h.g (roB_le h.P.mem (.refl _)))) (coll_le (t4r h.k))) rfl) ?_
 rw [unhex_of h.g]
 have r5 := t5r (g := g) (it := fz (itP P)) (md := fz (.bool b)) (o := ocTA g k P b) (du := fz (.list (dueT P b))) h.k
 rw [eqs_true] at r5
 refine .step (ifF'' (isTL (.nil 0) (coll_le r5) rfl) (.refl _)) ?_
 refine .step (σ' := tSt (bt g) (bt k) (fz (itP P)) (fz (.bool b)) (bt (ocTA g k P b)) (fz (.list (dueT P b ++ nouZ (isN g)))) (fz (.list [lnk k g]))) (stL (.nil 0) (.trans (mulZ_le (lenN_le (due_few h) (nou_few (isN g)) rfl ?_)) (coll_le t6r)) rfl) ?_
 ·exact .refl _
 refine .last (.ret_stmt (.and_ev (evL (sC_ok ok (isN g)) (.trans (same_le (hexN_le h.g (t7_le h))) (coll_le (t7r h.k (isN g)))) rfl) ?_))
 rw [t7Br]
 exact .bind0 (.bind0 (.atSto (.le (callStep_le (lvl_mono 40 (by decide)) _ _) (broken_ok (.inr rfl) ok (by cases b <;> exact List.cons_ne_nil _ _) so))) fun x hx => .ret hx) fun v hv => .ret hv
theorem tag_ok : Tot 8 (callStep (lvl cx0 70) tR [.fz .deck]) fun y => y.1 = .bool true := by
 refine .call tR_ok ?_
 rw [tR_sto,show tR.body = tB 0 :: tB 1 :: tR.body.drop 2 from by rw [tR_body]; rfl]
 refine Tot.exs_cons (a := 5) (b := 3) (R := fun σ => ∃ g k P,TagOk g k P ∧ σ = tSt (bt g) (bt k) (fz (itP P)) none none none none) (.le (stL sD_ok (coll_le t0r) rfl) ?_) fun σ hσ => ?_
 ·exact .draw fun _ a => .draw fun _ b => .draw fun _ c => .draw fun _ d => .draw fun _ e => .ret ⟨_,rfl,_,_,_,⟨getD_mem a,getD_mem b,perOk (perAt_mem c d e)⟩,rfl⟩
 ·obtain ⟨g,k,P,h,rfl⟩ := hσ
  refine Tot.exs_cons (a := 1) (b := 2) (R := fun σ => ∃ b,σ = (t1R (g,k) (fz (itP P)) b).2) (.le (stL (.nil 0) (.refl _) rfl) (.drawD t1a fun r hr => ?_)) fun σ hσ => ?_
  ·obtain ⟨b,e⟩ := t1c (it := fz (itP P)) r hr
   have e := tab e (gks_mem h.g h.k)
   exact .le (coll_leN e) (.ret ⟨_,rfl,b,rfl⟩)
  ·obtain ⟨b,rfl⟩ := hσ
   exact tag_rest h
end
noncomputable abbrev Tr := Int × Byt × Byt
noncomputable def tModes : List Int := [33188,16384,57344,33204,7,40960,33261]
noncomputable def tNames : List Byt := [#[97],#[97,46,98],#[98],#[46],#[46,46],#[46,71,105,84],#[97,47,98],#[],#[97,0],#[46,46,46]]
noncomputable def mns : List (Int × Byt) := tModes.flatMap fun m => tNames.map fun n => (m,n)
structure TrOk (t : Tr) : Prop where
 m : t.1 ∈ tModes
 n : t.2.1 ∈ tNames
 o : t.2.2 ∈ oids
theorem TrOk.mn {t : Tr} (h : TrOk t) : (t.1,t.2.1) ∈ mns := List.mem_flatMap.mpr ⟨_,h.m,List.mem_map.mpr ⟨_,h.n,rfl⟩⟩
noncomputable def trPV (t : Tr) : PV := .tup [.int t.1,.byt t.2.1,.byt t.2.2]
noncomputable def entPV (m : Int) (n o : Byt) : PV := .inst 2 [("mode",.int m),("name",.byt n),("oid",.byt o)]
noncomputable def enPV (t : Tr) : PV := entPV t.1 t.2.1 t.2.2
noncomputable def treePV (R : List Tr) : PV := .inst 3 [("entries",.list (R.map enPV))]
noncomputable def nfL (n : Byt) : List PV := match bytEq n #[],bytEq n #[46] || bytEq n #[46,46],bytEq n #[46,71,105,84],n.toList.any fun u => Nat.beq u.toNat 47 || Nat.beq u.toNat 0 with
 | true,_,_,_ => [.str "an empty name"]
 | _,true,_,_ => [.str "a name of dots"]
 | _,_,true,_ => [.str "the name of the store itself"]
 | _,_,_,true => [.str "a name with a stroke or a nought"]
 | _,_,_,_ => []
noncomputable def nfPV (n : Byt) : PV := (nfL n).headD .none
noncomputable def modL (m : Int) : List PV := if decide (m = 33204) || decide (m = 7) then [.str "a mode that is none"] else []
noncomputable def twice : PV := .str "a name twice"
noncomputable def disorder : PV := .str "entries out of order"
noncomputable def nouL (z : Bool) : List PV := if z then [noughtStr] else []
noncomputable def keyOf (m : Int) (n : Byt) : Byt := if decide (m = 16384) then n ++ #[47] else n
noncomputable def kOf (t : Tr) : Byt := keyOf t.1 t.2.1
noncomputable def ordL (b : Bool) : List PV := if b then [disorder] else []
noncomputable def dL (hit : Bool) (ah : Option Byt) (key : Byt) : List PV := if hit then [twice] else match ah with
 | none => []
 | some a => ordL (bytLe key.toList a.toList)
noncomputable def hitIn (pre : List Tr) (n : Byt) : Bool := pre.any fun t => bytEq t.2.1 n
noncomputable def lastT : Tr->List Tr->Tr
 | t,[] => t
 | _,t :: r => lastT t r
noncomputable def lastK : List Tr->Option Byt
 | [] => none
 | t :: r => some (kOf (lastT t r))
theorem lastK_snoc (pre : List Tr) (t : Tr) : lastK (pre ++ [t]) = some (kOf t) := by
 cases pre with
 | nil => rfl
 | cons a r =>
  show some (kOf (lastT a (r ++ [t]))) = _
  induction r generalizing a with
  | nil => rfl
  | cons b r ih => exact ih b
noncomputable def rowF (pre : List Tr) (t : Tr) : List PV := modL t.1 ++ nfL t.2.1 ++ dL (hitIn pre t.2.1) (lastK pre) (kOf t) ++ nouL (isN t.2.2)
noncomputable def goF : List Tr->List Tr->List PV
 | _,[] => []
 | pre,t :: r => rowF pre t ++ goF (pre ++ [t]) r
noncomputable def fewB (n : Nat) (l : List PV) : Bool := Nat.ble l.length n && l.all isStr
theorem few_of {n : Nat} {l : List PV} (h : fewB n l = true) : Few n l := and2 h fun a b => ⟨Nat.le_of_ble_eq_true a,b⟩
theorem Few.up {n m : Nat} {l : List PV} (h : Few n l) (k : n ≤ m) : Few m l := ⟨Nat.le_trans h.len k,h.str⟩
theorem few_ok : (tModes.all (fun m => fewB 1 (modL m)) && tNames.all fun n => fewB 1 (nfL n) && Nat.ble n.size 4) = true := by kernel_rfl
theorem mod_few {m : Int} (h : m ∈ tModes) : Few 1 (modL m) := and2 few_ok fun a _ => few_of (List.all_eq_true.mp a m h)
theorem nf_few {n : Byt} (h : n ∈ tNames) : Few 1 (nfL n) ∧ n.size ≤ 4 := and2 few_ok fun _ b => and2 (List.all_eq_true.mp b n h) fun a b => ⟨few_of a,Nat.le_of_ble_eq_true b⟩
theorem noL_few (z : Bool) : Few 1 (nouL z) := by cases z <;> exact few_of rfl
theorem ordL_few (z : Bool) : Few 1 (ordL z) := by cases z <;> exact few_of rfl
theorem dL_few (h : Bool) (a : Option Byt) (k : Byt) : Few 1 (dL h a k) := by
 cases h with
 | true => exact few_of rfl
 | false => cases a with
  | none => exact few_of rfl
  | some a => exact ordL_few _
theorem rowF_few {pre : List Tr} {t : Tr} (h : TrOk t) : Few 4 (rowF pre t) := ((mod_few h.m).app (nf_few h.n).1).app (dL_few ..) |>.app (noL_few _)
theorem goF_few {r : List Tr} (h : ∀ t ∈ r,TrOk t) : ∀ pre,Few (4 * r.length) (goF pre r) := by
 induction r with
 | nil => exact fun _ => few_of rfl
 | cons t r ih => exact fun pre => ((rowF_few (h t (.head _))).app (ih (fun q hq => h q (.tail _ hq)) _)).up (Nat.le_of_eq (Nat.add_comm 4 (4 * r.length)))
section
variable {α : Type} {t : T α}
noncomputable def addL (fs L : List PV) (k : List PV->T α) : T α := match L with
 | [] => k fs
 | v :: _ => appN fs v k
theorem addL_le {fs L : List PV} {k : List PV->T α} {n : Nat} (hf : Few n fs) (hl : Few 1 L) (h : Nat.blt n 1000 = true) (hk : TLe t (k (fs ++ L))) : TLe t (addL fs L k) := by
 cases L with
 | nil => rw [List.append_nil] at hk; exact hk
 | cons v L => cases L with
  | nil => exact appN_le hf h hk
  | cons => exact absurd hl.len (Nat.not_succ_le_zero _ ∘ Nat.le_of_succ_le_succ)
noncomputable def keyN (m : Int) (n : Byt) (k : Byt->T α) : T α := match decide (m = 16384) with
 | true => addB n #[47] k
 | false => k n
theorem keyN_le {m : Int} {n : Byt} {k : Byt->T α} (hn : n ∈ tNames) (hk : TLe t (k (keyOf m n))) : TLe t (keyN m n k) := by
 unfold keyN
 unfold keyOf at hk
 cases e : decide (m = 16384) with
 | true => rw [e] at hk; exact addB_le (nf_few hn).2 (Nat.le_refl 1) rfl fun _ => hk
 | false => rw [e] at hk; exact hk
end
section
variable {P : Lv} {sc : Scope} {σ σ' σ'' : Sto} {t : Expr} {body l r : List Stmt} {u : T (Fl × Sto)}
theorem exs_app : ∀ {σ},TLe (exs P sc σ l >>= fun y => afterT y fun σ => exs P sc σ r) (exs P sc σ (l ++ r)) := by
 induction l with
 | nil => exact .refl _
 | cons s l ih =>
  intro σ
  refine ⟨fun d Q E z => T.sat_bind.mpr ((T.sat_bind.mp (T.sat_bind.mp z)).mono (fun d y q => ?_) fun _ _ _ q => q)⟩
  obtain ⟨y,σ⟩ := y
  cases y with
  | next => exact ih.of _ _ _ (T.sat_bind.mpr q)
  | ret v => exact q
theorem nxs (h : TLe (.ret (.next,σ')) (exs P sc σ l)) (k : TLe u (exs P sc σ' r)) : TLe u (exs P sc σ (l ++ r)) := .trans (.trans k (TLe.to (f := fun y => afterT y fun σ => exs P sc σ r) h)) exs_app
theorem for_next {v : PV} {vs : List PV} (h : bindT sc σ t v = .ret σ') (k : TLe (.ret (.next,σ'')) (exs P sc σ' body)) (z : TLe u (forLoop P sc t body σ'' vs)) : TLe u (forLoop P sc t body σ (v :: vs)) := by
 show TLe u (bindT sc σ t v >>= _)
 rw [h]
 exact .trans z (TLe.to (f := fun y => afterT y fun σ => forLoop P sc t body σ vs) k)
end
noncomputable def tfR : Fn := fnOf "tree_faults"
noncomputable def tfB (i : Nat) : Stmt := tfR.body.getD i default
noncomputable def forB : Stmt->List Stmt
 | .For _ _ b _ _ => b
 | _ => []
noncomputable def forG : Stmt->Expr
 | .For t _ _ _ _ => t
 | _ => default
noncomputable def fB (i : Nat) : Stmt := (forB (tfB 1)).getD i default
noncomputable def fE : Stmt := (ifO (fB 3)).headD default
noncomputable def fI : Stmt := .If (ifT (fB 3)) (ifB (fB 3)) [ifX fE] (fB 3).pos
noncomputable def ahS : Option Byt->Option Slot
 | none => fz .none
 | some a => bt a
noncomputable def fSt (tr : PV) (fs : List PV) (ks : List Byt) (ah : Option Byt) (en od : Option Slot) : Sto := [fz tr,some (.ol fs),some (.od ks),ahS ah,en,od,none,none,none]
noncomputable def knw (ks : List Byt) (n : Byt) : List Byt := if ks.any (bytEq · n) then ks else ks ++ [n]
theorem upto2 {α : Type} {M : List α->Prop} (h0 : M []) (h1 : ∀ a,M [a]) (h2 : ∀ a b,M [a,b]) {l : List α} (h : l.length ≤ 2) : M l := by
 cases l with
 | nil => exact h0
 | cons a l => cases l with
  | nil => exact h1 a
  | cons b l => cases l with
   | nil => exact h2 a b
   | cons c l => exact absurd h (Nat.not_le.mpr (Nat.le_add_left 3 l.length))
section
variable {C : Cx} {n : Nat} {sc : Scope} {σ : Sto} {a b : Expr} {p : Pos} {c : Bool}
theorem and_isT (h : TLe (.ret (true,σ)) ((lvl C n).isT sc σ a)) (k : TLe (.ret (c,σ)) ((lvl C n).isT sc σ b)) : TLe (.ret (c,σ)) ((lvl C (n + 1)).isT sc σ (.BoolOp .And [a,b] p)) := by
 show TLe _ ((lvl C n).isT sc σ a >>= _)
 refine .trans ?_ (TLe.to h)
 show TLe _ ((lvl C n).isT sc σ b >>= _)
 refine .trans ?_ (TLe.to k)
 cases c <;> exact .refl _
theorem or_isT (h : TLe (.ret (false,σ)) ((lvl C n).isT sc σ a)) (k : TLe (.ret (c,σ)) ((lvl C n).isT sc σ b)) : TLe (.ret (c,σ)) ((lvl C (n + 1)).isT sc σ (.BoolOp .Or [a,b] p)) := by
 show TLe _ ((lvl C n).isT sc σ a >>= _)
 refine .trans ?_ (TLe.to h)
 show TLe _ ((lvl C n).isT sc σ b >>= _)
 refine .trans ?_ (TLe.to k)
 cases c <;> exact .refl _
end
section
variable {tr : PV} {ah : Option Byt} {od : Option Slot} {fs : List PV} {ks : List Byt} {m : Int} {n o a : Byt} {t : Tr}
theorem fA (h : TrOk t) : coll (exs (HP 14) tfR.scope (fSt tr fs ks ah (fz (enPV t)) od) [fB 0,fB 1,fB 2]) = coll (addL fs (modL t.1) fun fs => addL fs (nfL t.2.1) fun fs => .ret (.next,fSt tr fs ks ah (fz (enPV t)) (fz (nfPV t.2.1)))) :=
 tab (f := fun x : Int × Byt => coll (exs (HP 14) tfR.scope (fSt tr fs ks ah (fz (entPV x.1 x.2 t.2.2)) od) [fB 0,fB 1,fB 2])) (g := fun x => coll (addL fs (modL x.1) fun fs => addL fs (nfL x.2) fun fs => .ret (.next,fSt tr fs ks ah (fz (entPV x.1 x.2 t.2.2)) (fz (nfPV x.2))))) (by kernel_rfl) h.mn
theorem fd1 : (HP 14).isT tfR.scope (fSt tr fs ks ah (fz (enPV t)) od) (ifT (fB 3)) = .ret (ks.any (bytEq · t.2.1),fSt tr fs ks ah (fz (enPV t)) od) := by kernel_rfl
theorem fd2 {en : Option Slot} : coll (exs (HP 14) tfR.scope (fSt tr fs ks ah en od) (ifB (fB 3))) = coll (appN fs twice fun fs => .ret (.next,fSt tr fs ks ah en od)) := by kernel_rfl
theorem fd3 {en : Option Slot} : (HP 14).isT tfR.scope (fSt tr fs ks none en od) (ifT fE) = .ret (false,fSt tr fs ks none en od) := by kernel_rfl
theorem fd4a {en : Option Slot} : (HP 14).isT tfR.scope (fSt tr fs ks (some a) en od) (bopE (ifT fE) 0) = .ret (true,fSt tr fs ks (some a) en od) := by kernel_rfl
theorem fd4 (h : TrOk t) : coll ((HP 14).isT tfR.scope (fSt tr fs ks (some a) (fz (enPV t)) od) (bopE (ifT fE) 1)) = coll (keyN t.1 t.2.1 fun k => .ret (bytLe k.toList a.toList,fSt tr fs ks (some a) (fz (enPV t)) od)) :=
 tab (f := fun m => coll ((HP 14).isT tfR.scope (fSt tr fs ks (some a) (fz (entPV m t.2.1 t.2.2)) od) (bopE (ifT fE) 1))) (g := fun m => coll (keyN m t.2.1 fun k => .ret (bytLe k.toList a.toList,fSt tr fs ks (some a) (fz (entPV m t.2.1 t.2.2)) od))) (by kernel_rfl) h.m
theorem fE_and : ifT fE = .BoolOp .And [bopE (ifT fE) 0,bopE (ifT fE) 1] (ifT fE).pos := by kernel_rfl
theorem fd5 {en : Option Slot} : coll (exs (HP 14) tfR.scope (fSt tr fs ks ah en od) (ifB fE)) = coll (appN fs disorder fun fs => .ret (.next,fSt tr fs ks ah en od)) := by kernel_rfl
noncomputable def fCR (tr : PV) (fs : List PV) (ks : List Byt) (od : Option Slot) (n o : Byt) (z : Bool) (m : Int) : T (Fl × Sto) := nulN z o <| addL fs (nouL z) fun fs => keyN m n fun k => .ret (.next,fSt tr fs (knw ks n) (some k) (fz (entPV m n o)) od)
theorem fC (h : TrOk t) (hl : ks.length ≤ 2) (z : Bool) : coll (exs (lvlS cx0 (mkS (s1 z)) 14) tfR.scope (fSt tr fs ks ah (fz (enPV t)) od) [fB 4,fB 5,fB 6]) = coll (fCR tr fs ks od t.2.1 t.2.2 z t.1) := by
 refine upto2 (M := fun ks => coll (exs (lvlS cx0 (mkS (s1 z)) 14) tfR.scope (fSt tr fs ks ah (fz (enPV t)) od) [fB 4,fB 5,fB 6]) = coll (fCR tr fs ks od t.2.1 t.2.2 z t.1)) ?_ (fun _ => ?_) (fun _ _ => ?_) hl <;> cases z <;>
  exact tab (f := fun m => coll (exs (lvlS cx0 (mkS (s1 _)) 14) tfR.scope (fSt tr fs _ ah (fz (entPV m t.2.1 t.2.2)) od) [fB 4,fB 5,fB 6])) (g := fun m => coll (fCR tr fs _ od t.2.1 t.2.2 _ m)) (by kernel_rfl) h.m
theorem fBody : forB (tfB 1) = [fB 0,fB 1,fB 2] ++ (fI :: [fB 4,fB 5,fB 6]) := by kernel_rfl
theorem fTgt {en : Option Slot} {v : PV} : bindT tfR.scope (fSt tr fs ks ah en od) (forG (tfB 1)) v = .ret (fSt tr fs ks ah (fz v) od) := by kernel_rfl
theorem fd_all (ok : TrOk t) (hf : Few 10 fs) :
  TLe (.ret (.next,fSt tr (fs ++ dL (ks.any (bytEq · t.2.1)) ah (kOf t)) ks ah (fz (enPV t)) od)) ((lvl cx0 54).ex tfR.scope (fSt tr fs ks ah (fz (enPV t)) od) fI) := by
 have N := SmOk.nil 0
 have z := fd1 (tr := tr) (fs := fs) (ks := ks) (ah := ah) (t := t) (od := od)
 cases hk : ks.any (bytEq · t.2.1) with
 | true =>
  rw [hk] at z
  refine ifT'' (isTL N (.of_eq z.symm) rfl) (exsL N (.trans ?_ (coll_le fd2)) rfl)
  exact appN_le hf rfl (.refl _)
 | false =>
  rw [hk] at z
  refine ifF'' (isTL N (.of_eq z.symm) rfl) (nl ?_)
  cases ah with
  | none =>
   rw [show dL false none (kOf t) = [] from rfl,List.append_nil]
   exact ifF'' (isTL N (.of_eq fd3.symm) rfl) (.refl _)
  | some a =>
   have q : TLe (T.ret (bytLe (kOf t).toList a.toList,fSt tr fs ks (some a) (fz (enPV t)) od)) ((HP 14).isT tfR.scope (fSt tr fs ks (some a) (fz (enPV t)) od) (bopE (ifT fE) 1)) := by
    refine .trans ?_ (coll_le (fd4 ok))
    exact keyN_le ok.n (.refl _)
   show TLe (T.ret (Fl.next,fSt tr (fs ++ ordL (bytLe (kOf t).toList a.toList)) ks (some a) (fz (enPV t)) od)) _
   have q : TLe (T.ret (bytLe (kOf t).toList a.toList,fSt tr fs ks (some a) (fz (enPV t)) od)) ((lvl cx0 52).isT tfR.scope (fSt tr fs ks (some a) (fz (enPV t)) od) (ifT fE)) := by
    rw [fE_and]
    exact and_isT (isTL N (.of_eq fd4a.symm) rfl) (isTL N q rfl)
   cases hb : bytLe (kOf t).toList a.toList with
   | true =>
    rw [hb] at q
    refine ifT'' q (exsL N (.trans ?_ (coll_le fd5)) rfl)
    exact appN_le hf rfl (.refl _)
   | false =>
    rw [hb] at q
    rw [show ordL false = [] from rfl,List.append_nil]
    exact ifF'' q (.refl _)
theorem f_step {en : Option Slot} (ok : TrOk t) (hf : Few 8 fs) (hk : ks.length ≤ 2) :
  TLe (.ret (.next,fSt tr (fs ++ (modL t.1 ++ nfL t.2.1 ++ dL (ks.any (bytEq · t.2.1)) ah (kOf t) ++ nouL (isN t.2.2))) (knw ks t.2.1) (some (kOf t)) (fz (enPV t)) (fz (nfPV t.2.1)))) (exs (lvl cx0 54) tfR.scope (fSt tr fs ks ah (fz (enPV t)) od) (forB (tfB 1))) := by
 have N := SmOk.nil 0
 have l1 := mod_few ok.m
 have l2 := (nf_few ok.n).1
 have f1 := hf.app l1
 have f2 := f1.app l2
 rw [fBody,← List.append_assoc,← List.append_assoc,← List.append_assoc]
 refine nxs (σ' := fSt tr (fs ++ modL t.1 ++ nfL t.2.1) ks ah (fz (enPV t)) (fz (nfPV t.2.1))) (exsL N (.trans ?_ (coll_le (fA ok))) rfl) ?_
 ·exact addL_le hf l1 rfl (addL_le f1 l2 rfl (.refl _))
 refine nx (fd_all ok f2) (exsL (s1_ok (isN t.2.2)) (.trans ?_ (coll_le (fC ok hk (isN t.2.2)))) rfl)
 exact nulN_le ok.o (addL_le (f2.app (dL_few ..)) (noL_few _) rfl (keyN_le ok.n (.refl _)))
end
theorem hit_snoc (pre : List Tr) (t : Tr) (n : Byt) : hitIn (pre ++ [t]) n = (hitIn pre n || bytEq t.2.1 n) := by
 unfold hitIn
 rw [List.any_append]
 exact congrArg _ (Bool.or_false _)
theorem bytEq_trans {a b c : Byt} (h : bytEq a b = true) : bytEq b c = bytEq a c := by rw [bytEq_eq h]
theorem knw_hit {ks : List Byt} {n x : Byt} : (knw ks n).any (bytEq · x) = (ks.any (bytEq · x) || bytEq n x) := by
 unfold knw
 cases h : ks.any (bytEq · n) with
 | false =>
  rw [if_neg Bool.false_ne_true,List.any_append]
  exact congrArg _ (Bool.or_false _)
 | true =>
  rw [if_pos rfl]
  cases e : bytEq n x with
  | false => exact (Bool.or_false _).symm
  | true =>
   rw [← bytEq_eq e,h]
   rfl
theorem knw_len {ks : List Byt} {n : Byt} : (knw ks n).length ≤ ks.length + 1 := by
 unfold knw
 cases h : ks.any (bytEq · n) with
 | false => rw [if_neg Bool.false_ne_true,List.length_append]; exact Nat.le_refl _
 | true => rw [if_pos rfl]; exact Nat.le_succ _
structure ROk (R : List Tr) : Prop where
 ok : ∀ t ∈ R,TrOk t
 len : R.length ≤ 3
theorem f_loop {tr : PV} {r : List Tr} : ∀ {pre : List Tr} {fs : List PV} {ks : List Byt} {en od : Option Slot},ROk (pre ++ r)->Few (4 * pre.length) fs->ks.length ≤ pre.length->(∀ n,ks.any (bytEq · n) = hitIn pre n) ->
  ∃ τ,TLe (.ret (.next,fz tr :: some (.ol (fs ++ goF pre r)) :: τ)) (forLoop (lvl cx0 54) tfR.scope (forG (tfB 1)) (forB (tfB 1)) (fSt tr fs ks (lastK pre) en od) (r.map enPV)) := by
 induction r with
 | nil => exact fun {pre fs ks en od} _ _ _ _ => ⟨[some (.od ks),ahS (lastK pre),en,od,none,none,none],by rw [show goF pre [] = [] from rfl,List.append_nil]; exact .refl _⟩
 | cons t r ih =>
  intro pre fs ks en od h hf hk hh
  have el : pre ++ [t] ++ r = pre ++ t :: r := List.append_assoc pre [t] r
  have l2 : pre.length ≤ 2 := by
   have := h.len
   rw [List.length_append] at this
   exact Nat.le_of_succ_le_succ (Nat.le_trans (Nat.add_le_add_left (Nat.succ_le_succ (Nat.zero_le r.length)) _) this)
  have ok := h.ok t (List.mem_append_right _ (.head _))
  have st := f_step (tr := tr) (ah := lastK pre) (ks := ks) (od := od) (en := en) ok (hf.up (Nat.mul_le_mul_left 4 l2)) (Nat.le_trans hk l2)
  rw [hh t.2.1] at st
  have st : TLe (T.ret (Fl.next,fSt tr (fs ++ rowF pre t) (knw ks t.2.1) (some (kOf t)) (fz (enPV t)) (fz (nfPV t.2.1)))) _ := st
  rw [← lastK_snoc pre t] at st
  have e1 : (pre ++ [t]).length = pre.length + 1 := List.length_append
  obtain ⟨τ,z⟩ := ih (pre := pre ++ [t]) (fs := fs ++ rowF pre t) (ks := knw ks t.2.1) (en := fz (enPV t)) (od := fz (nfPV t.2.1)) (el ▸ h) (by rw [e1]; exact hf.app (rowF_few ok)) (by rw [e1]; exact Nat.le_trans knw_len (Nat.succ_le_succ hk)) fun n => by rw [knw_hit,hh,hit_snoc]
  refine ⟨τ,?_⟩
  rw [List.append_assoc] at z
  exact for_next fTgt st z
section
variable {tr : PV} {fs : List PV} {τ : Sto} {R : List Tr}
noncomputable def fS0 (tr : PV) : Sto := [fz tr,none,none,none,none,none,none,none,none]
theorem tf0 : (HP 14).ex tfR.scope (fS0 tr) (tfB 0) = .ret (.next,fSt tr [] [] none none none) := by kernel_rfl
theorem tf1 : (lvl cx0 55).ex tfR.scope (fSt (treePV R) [] [] none none none) (tfB 1) = (forLoop (lvl cx0 54) tfR.scope (forG (tfB 1)) (forB (tfB 1)) (fSt (treePV R) [] [] none none none) (R.map enPV)).noExc := by kernel_rfl
theorem tf2 : (HP 14).ex tfR.scope (fz tr :: some (.ol fs) :: τ) (tfB 2) = .ret (.ret (.list fs),fz tr :: fz (.list fs) :: τ) := by kernel_rfl
theorem tf_body : tfR.body = [tfB 0,tfB 1,tfB 2] := by kernel_rfl
theorem tf_ok : callB tfR [.fz tr] = true := by kernel_rfl
theorem tf_sto : sto0 tfR [.fz tr] = fS0 tr := by kernel_rfl
theorem tree_ok (h : ROk R) : TLe (gv (.list (goF [] R)) (treePV R)) ((lvl cx0 56).call (fnOf "tree_faults") [.fz (treePV R)]) := by
 have N := SmOk.nil 0
 obtain ⟨τ,z⟩ := f_loop (tr := treePV R) (pre := []) (fs := []) (ks := []) (en := none) (od := none) h (few_of rfl) (Nat.le_refl 0) fun _ => rfl
 refine call_ret (P := lvl cx0 55) (f := tfR) (σ' := fz (.list (goF [] R)) :: τ) tf_ok ?_
 rw [tf_sto,tf_body]
 exact nx (stL N (.of_eq tf0.symm) rfl) (nx (.trans (.noExc z) (.of_eq tf1.symm)) (rt (stL N (.of_eq tf2.symm) rfl)))
end
noncomputable def trAll : List Tr := mns.flatMap fun x => oids.map fun o => (x.1,x.2,o)
theorem TrOk.all {t : Tr} (h : TrOk t) : t ∈ trAll := List.mem_flatMap.mpr ⟨_,h.mn,List.mem_map.mpr ⟨_,h.o,rfl⟩⟩
theorem trAll_mn {t : Tr} (h : t ∈ trAll) : (t.1,t.2.1) ∈ mns := by
 obtain ⟨x,hx,h⟩ := List.mem_flatMap.mp h
 obtain ⟨o,_,rfl⟩ := List.mem_map.mp h
 exact hx
noncomputable def aTr (t : Tr) : List Slot := [.fz (trPV t)]
theorem tkey_run {o : Byt} : mapA (fun x : Int × Byt => coll (callStep (lvl cx0 12) (fnOf "_law_key") (aTr (x.1,x.2,o)))) mns = mapB (fun x => T.need true (gv (.byt (keyOf x.1 x.2)) (trPV (x.1,x.2,o)))) mns := by kernel_rfl
noncomputable def getTr (args : List Slot) : Tr := (partI (argV args 0) 0,partB (argV args 0) 1,partB (argV args 0) 2)
noncomputable def sK : Sm := mkS [("_law_key",dec getTr aTr trAll fun t => gv (.byt (kOf t)) (trPV t))]
theorem sK_ok : SmOk cx0 19 sK := .cons (dec_le fun t ht => by
 have e := tab (tkey_run (o := t.2.2)) (trAll_mn ht)
 exact up (coll_leN e) rfl) (.nil _)
noncomputable def keyM {α : Type} (t : Tr) (k : T α) : T α := dN getTr aTr trAll (aTr t) k
theorem keyM_le {α : Type} {t : Tr} {u k : T α} (h : TrOk t) (hk : TLe u k) : TLe u (keyM t k) := dN_le h.all rfl hk
noncomputable def lR : Fn := fnOf "_law_of_tree"
noncomputable def lT (i : Nat) : Stmt := lR.body.getD i default
noncomputable def lB (i : Nat) : Stmt := (forB (lT 1)).getD i default
noncomputable def lE : Stmt := (ifO (lB 3)).headD default
noncomputable def lI : Stmt := .If (ifT (lB 3)) (ifB (lB 3)) [ifX lE] (lB 3).pos
noncomputable def lModes : Option Slot := fz (.tup [.int 33188,.int 33261,.int 40960,.int 16384,.int 57344])
noncomputable def lSt (R : List Tr) (fs : List PV) (k row name : Option Slot) : Sto := [fz (.list (R.map trPV)),some (.ol fs),lModes,k,row,name,none,none]
theorem shp {α : Type} {M : List α->List α->Prop} (h1 : M [] []) (h2 : ∀ a,M [] [a]) (h3 : ∀ a b,M [] [a,b]) (h4 : ∀ a,M [a] []) (h5 : ∀ a b,M [a] [b]) (h6 : ∀ a b,M [a,b] []) {x y : List α} (h : x.length + y.length ≤ 2) : M x y := by
 cases x with
 | nil => exact upto2 (M := M []) h1 h2 h3 (Nat.zero_add y.length ▸ h)
 | cons a x => cases x with
  | nil => cases y with
   | nil => exact h4 a
   | cons b y => cases y with
    | nil => exact h5 a b
    | cons c y => exact absurd h (Nat.not_le.mpr (Nat.lt_of_lt_of_le (Nat.lt_succ_self 2) (Nat.add_comm .. ▸ Nat.succ_le_succ (Nat.succ_le_succ (Nat.succ_le_succ (Nat.zero_le _))))))
  | cons b x => cases x with
   | nil => cases y with
    | nil => exact h6 a b
    | cons c y => exact absurd h (Nat.not_le.mpr (Nat.add_le_add_left (Nat.succ_le_succ (Nat.zero_le y.length)) 2))
   | cons c x => exact absurd h (Nat.not_le.mpr (Nat.le_trans (Nat.le_add_left 3 x.length) (Nat.le_add_right ..)))
noncomputable abbrev lX (pre : List Tr) (t : Tr) (post : List Tr) (fs : List PV) : Sto := lSt (pre ++ t :: post) fs (fz (pN pre.length)) (fz (trPV t)) (bt t.2.1)
section
variable {R pre post : List Tr} {k nm row : Option Slot} {fs : List PV} {t a : Tr}
theorem lA (h : TrOk t) : coll (exs (HP 14) lR.scope (lSt R fs k (fz (trPV t)) nm) [lB 0,lB 1,lB 2]) = coll (addL fs (modL t.1) fun fs => addL fs (nfL t.2.1) fun fs => .ret (.next,lSt R fs k (fz (trPV t)) (bt t.2.1))) := by
 obtain ⟨m,n,o⟩ := t
 exact tab (f := fun x : Int × Byt => coll (exs (HP 14) lR.scope (lSt R fs k (fz (trPV (x.1,x.2,o))) nm) [lB 0,lB 1,lB 2])) (g := fun x => coll (addL fs (modL x.1) fun fs => addL fs (nfL x.2) fun fs => .ret (.next,lSt R fs k (fz (trPV (x.1,x.2,o))) (bt x.2)))) (by kernel_rfl) (a := (m,n)) h.mn
theorem lc (h : TrOk t) : coll ((HP 14).ex lR.scope (lSt R fs k (fz (trPV t)) nm) (lB 4)) = coll (addL fs (nouL (isN t.2.2)) fun fs => .ret (.next,lSt R fs k (fz (trPV t)) nm)) := by
 obtain ⟨m,n,o⟩ := t
 exact tab (f := fun o => coll ((HP 14).ex lR.scope (lSt R fs k (fz (trPV (m,n,o))) nm) (lB 4))) (g := fun o => coll (addL fs (nouL (isN o)) fun fs => .ret (.next,lSt R fs k (fz (trPV (m,n,o))) nm))) (by kernel_rfl) (a := o) h.o
theorem ld1 (h : pre.length + post.length ≤ 2) : coll ((HP 14).isT lR.scope (lX pre t post fs) (ifT (lB 3))) = coll (.ret (hitIn pre t.2.1,lX pre t post fs)) := by
 refine shp (M := fun pre post => coll ((HP 14).isT lR.scope (lX pre t post fs) (ifT (lB 3))) = coll (.ret (hitIn pre t.2.1,lX pre t post fs))) ?_ (fun _ => ?_) (fun _ _ => ?_) (fun _ => ?_) (fun _ _ => ?_) (fun _ _ => ?_) h <;> kernel_rfl
theorem ld2 : coll (exs (HP 14) lR.scope (lSt R fs k row nm) (ifB (lB 3))) = coll (appN fs twice fun fs => .ret (.next,lSt R fs k row nm)) := by kernel_rfl
theorem ld3 : coll ((HP 14).isT lR.scope (lSt R fs (fz (pN 0)) row nm) (ifT lE)) = coll (.ret (false,lSt R fs (fz (pN 0)) row nm)) := by kernel_rfl
noncomputable def ldR (t : Tr) (post : List Tr) (fs : List PV) : List Tr->T (Bool × Sto)
 | [] => .ret (false,lX [] t post fs)
 | a :: r => .ret (bytLe (kOf t).toList (kOf (lastT a r)).toList,lX (a :: r) t post fs)
theorem ld4a (h : (a :: pre).length + post.length ≤ 2) : coll ((HP 14).isT lR.scope (lX (a :: pre) t post fs) (bopE (ifT lE) 0)) = coll (.ret (true,lX (a :: pre) t post fs)) := by
 have h : pre.length + post.length ≤ 1 := by rw [List.length_cons,Nat.add_right_comm] at h; exact Nat.le_of_succ_le_succ h
 refine shp (M := fun pre post => pre.length + post.length ≤ 1->coll ((HP 14).isT lR.scope (lX (a :: pre) t post fs) (bopE (ifT lE) 0)) = coll (.ret (true,lX (a :: pre) t post fs))) (fun _ => ?_) (fun _ _ => ?_) (fun _ _ h => absurd h (by show ¬ 2 ≤ 1; decide)) (fun _ _ => ?_) (fun _ _ h => absurd h (by show ¬ 2 ≤ 1; decide)) (fun _ _ h => absurd h (by show ¬ 2 ≤ 1; decide)) (Nat.le_succ_of_le h) h <;> kernel_rfl
noncomputable def ld4R (t a : Tr) (pre post : List Tr) (fs : List PV) : T (Bool × Sto) := keyM t <| keyM (lastT a pre) <| .ret (bytLe (kOf t).toList (kOf (lastT a pre)).toList,lX (a :: pre) t post fs)
theorem ld4b (h : (a :: pre).length + post.length ≤ 2) : coll ((lvlS cx0 sK 14).isT lR.scope (lX (a :: pre) t post fs) (bopE (ifT lE) 1)) = coll (ld4R t a pre post fs) := by
 have h : pre.length + post.length ≤ 1 := by rw [List.length_cons,Nat.add_right_comm] at h; exact Nat.le_of_succ_le_succ h
 refine shp (M := fun pre post => pre.length + post.length ≤ 1->coll ((lvlS cx0 sK 14).isT lR.scope (lX (a :: pre) t post fs) (bopE (ifT lE) 1)) = coll (ld4R t a pre post fs)) (fun _ => ?_) (fun _ _ => ?_) (fun _ _ h => absurd h (by show ¬ 2 ≤ 1; decide)) (fun _ _ => ?_) (fun _ _ h => absurd h (by show ¬ 2 ≤ 1; decide)) (fun _ _ h => absurd h (by show ¬ 2 ≤ 1; decide)) (Nat.le_succ_of_le h) h <;> kernel_rfl
theorem lE_and : ifT lE = .BoolOp .And [bopE (ifT lE) 0,bopE (ifT lE) 1] (ifT lE).pos := by kernel_rfl
theorem ld5 : coll (exs (HP 14) lR.scope (lSt R fs k row nm) (ifB lE)) = coll (appN fs disorder fun fs => .ret (.next,lSt R fs k row nm)) := by kernel_rfl
theorem lBody : forB (lT 1) = [lB 0,lB 1,lB 2] ++ [lI,lB 4] := by kernel_rfl
theorem lTgt {k' row' : Option Slot} {k : Nat} {v : PV} : bindT lR.scope (lSt R fs k' row' nm) (forG (lT 1)) (.tup [pN k,v]) = .ret (lSt R fs (fz (pN k)) (fz v) nm) := by kernel_rfl
end
theorem lastT_mem (a : Tr) (r : List Tr) : lastT a r ∈ a :: r := by
 induction r generalizing a with
 | nil => exact .head _
 | cons b r ih => exact .tail _ (ih b)
section
variable {pre post : List Tr} {t : Tr} {fs : List PV}
theorem ld_all (ok : ∀ q ∈ pre ++ t :: post,TrOk q) (hs : pre.length + post.length ≤ 2) (hf : Few 10 fs) :
  TLe (.ret (.next,lX pre t post (fs ++ dL (hitIn pre t.2.1) (lastK pre) (kOf t)))) ((lvl cx0 44).ex lR.scope (lX pre t post fs) lI) := by
 have N := SmOk.nil 0
 have z := ld1 (t := t) (fs := fs) hs
 cases hk : hitIn pre t.2.1 with
 | true =>
  rw [hk] at z
  refine ifT'' (isTL N (coll_le z) rfl) (exsL N (.trans ?_ (coll_le ld2)) rfl)
  exact appN_le hf rfl (.refl _)
 | false =>
  rw [hk] at z
  refine ifF'' (isTL N (coll_le z) rfl) (nl ?_)
  cases pre with
  | nil =>
   rw [show dL false (lastK []) (kOf t) = [] from rfl,List.append_nil]
   exact ifF'' (isTL N (coll_le ld3) rfl) (.refl _)
  | cons a r =>
   have q : TLe (T.ret (bytLe (kOf t).toList (kOf (lastT a r)).toList,lX (a :: r) t post fs)) ((lvl cx0 42).isT lR.scope (lX (a :: r) t post fs) (ifT lE)) := by
    rw [lE_and]
    refine and_isT (isTL N (coll_le (ld4a hs)) rfl) (isTL sK_ok (.trans ?_ (coll_le (ld4b hs))) rfl)
    exact keyM_le (ok t (List.mem_append_right _ (.head _))) (keyM_le (ok _ (List.mem_append_left _ (lastT_mem a r))) (.refl _))
   show TLe (T.ret (Fl.next,lX (a :: r) t post (fs ++ ordL (bytLe (kOf t).toList (kOf (lastT a r)).toList)))) _
   cases hb : bytLe (kOf t).toList (kOf (lastT a r)).toList with
   | true =>
    rw [hb] at q
    refine ifT'' q (exsL N (.trans ?_ (coll_le ld5)) rfl)
    exact appN_le hf rfl (.refl _)
   | false =>
    rw [hb] at q
    rw [show ordL false = [] from rfl,List.append_nil]
    exact ifF'' q (.refl _)
theorem l_step {nm : Option Slot} (ok : ∀ q ∈ pre ++ t :: post,TrOk q) (hs : pre.length + post.length ≤ 2) (hf : Few 8 fs) :
  TLe (.ret (.next,lX pre t post (fs ++ rowF pre t))) (exs (lvl cx0 44) lR.scope (lSt (pre ++ t :: post) fs (fz (pN pre.length)) (fz (trPV t)) nm) (forB (lT 1))) := by
 have N := SmOk.nil 0
 have okt := ok t (List.mem_append_right _ (.head _))
 have l1 := mod_few okt.m
 have l2 := (nf_few okt.n).1
 have f1 := hf.app l1
 have f2 := f1.app l2
 unfold rowF
 rw [lBody,← List.append_assoc,← List.append_assoc,← List.append_assoc]
 refine nxs (σ' := lX pre t post (fs ++ modL t.1 ++ nfL t.2.1)) (exsL N (.trans ?_ (coll_le (lA okt))) rfl) ?_
 ·exact addL_le hf l1 rfl (addL_le f1 l2 rfl (.refl _))
 refine nx (ld_all ok hs f2) (nl (stL N (.trans ?_ (coll_le (lc okt))) rfl))
 exact addL_le (f2.app (dL_few ..)) (noL_few _) rfl (.refl _)
end
noncomputable def itemsFrom (k : Nat) (R : List Tr) : List PV := ((R.map trPV).zipIdx k).map fun p => .tup [.int p.2,p.1]
theorem l_loop {r : List Tr} : ∀ {pre : List Tr} {fs : List PV} {k row nm : Option Slot},ROk (pre ++ r)->Few (4 * pre.length) fs ->
  ∃ τ,TLe (.ret (.next,fz (.list ((pre ++ r).map trPV)) :: some (.ol (fs ++ goF pre r)) :: τ)) (forLoop (lvl cx0 44) lR.scope (forG (lT 1)) (forB (lT 1)) (lSt (pre ++ r) fs k row nm) (itemsFrom pre.length r)) := by
 induction r with
 | nil => exact fun {pre fs k row nm} _ _ => ⟨[lModes,k,row,nm,none,none],by rw [show goF pre [] = [] from rfl,List.append_nil fs]; exact .refl _⟩
 | cons t r ih =>
  intro pre fs k row nm h hf
  have el : pre ++ [t] ++ r = pre ++ t :: r := List.append_assoc pre [t] r
  have l3 := h.len
  rw [List.length_append] at l3
  have l3 : pre.length + r.length ≤ 2 := Nat.le_of_succ_le_succ l3
  have e1 : (pre ++ [t]).length = pre.length + 1 := List.length_append
  have st := l_step (nm := nm) h.ok l3 (hf.up (Nat.mul_le_mul_left 4 (Nat.le_trans (Nat.le_add_right ..) l3)))
  obtain ⟨τ,z⟩ := ih (pre := pre ++ [t]) (fs := fs ++ rowF pre t) (k := fz (pN pre.length)) (row := fz (trPV t)) (nm := bt t.2.1) (el ▸ h) (by rw [e1]; exact hf.app (rowF_few (h.ok t (List.mem_append_right _ (.head _)))))
  rw [el,List.append_assoc,e1] at z
  exact ⟨τ,for_next lTgt st z⟩
section
variable {l : List PV} {R : List Tr} {fs : List PV} {a b : Option Slot} {τ : Sto}
noncomputable def lS0 (l : List PV) : Sto := [fz (.list l),none,none,none,none,none,none,none]
theorem lt0 : coll ((HP 14).ex lR.scope (lS0 (R.map trPV)) (lT 0)) = coll (.ret (.next,lSt R [] none none none)) := by kernel_rfl
theorem lt1 : (lvl cx0 45).ex lR.scope (lSt R [] none none none) (lT 1) = (forLoop (lvl cx0 44) lR.scope (forG (lT 1)) (forB (lT 1)) (lSt R [] none none none) (itemsFrom 0 R)).noExc := by kernel_rfl
theorem lt2 : (HP 14).ex lR.scope (a :: some (.ol fs) :: τ) (lT 2) = .ret (.ret (.list fs),a :: fz (.list fs) :: τ) := by kernel_rfl
theorem lt_body : lR.body = [lT 0,lT 1,lT 2] := by kernel_rfl
theorem lt_ok : callB lR [.fz (.list l)] = true := by kernel_rfl
theorem lt_sto : sto0 lR [.fz (.list l)] = lS0 l := by kernel_rfl
theorem lawT_ok (h : ROk R) : TLe (gv (.list (goF [] R)) (.list (R.map trPV))) ((lvl cx0 46).call (fnOf "_law_of_tree") [.fz (.list (R.map trPV))]) := by
 have N := SmOk.nil 0
 obtain ⟨τ,z⟩ := l_loop (pre := []) (fs := []) (k := none) (row := none) (nm := none) h (few_of rfl)
 refine call_ret (P := lvl cx0 45) (f := lR) (σ' := fz (.list (goF [] R)) :: τ) lt_ok ?_
 rw [lt_sto,lt_body]
 exact nx (stL N (coll_le lt0) rfl) (nx (.trans (.noExc z) (.of_eq lt1.symm)) (rt (stL N (.of_eq lt2.symm) rfl)))
end
noncomputable def treeS (R : List Tr) (F : List PV) : Str × (List Slot->TR) := ("tree_faults",atA [.fz (treePV R)] (gv (.list F) (treePV R)))
noncomputable def lawTS (R : List Tr) (F : List PV) : Str × (List Slot->TR) := ("_law_of_tree",atA [.fz (.list (R.map trPV))] (gv (.list F) (.list (R.map trPV))))
theorem upC {C : Cx} {f : Fn} {args : List Slot} {t : TR} {n m : Nat} (h : TLe t ((lvl C (n + 1)).call f args)) (hm : Nat.ble (n + 1) m = true) : TLe t ((lvl C m).call f args) := by
 cases m with
 | zero => cases hm
 | succ m => exact .trans h (callStep_le (lvl_mono n (Nat.le_of_ble_eq_true hm)) _ _)
theorem sT_cons {R : List Tr} {F : List PV} {l : List (Str × (List Slot->TR))} (h : ROk R) (e : goF [] R = F) (hl : SmOk cx0 56 (mkS l)) : SmOk cx0 56 (mkS (treeS R F :: lawTS R F :: l)) :=
 .cons (atA_le (e ▸ tree_ok h)) (.cons (atA_le (upC (n := 45) (e ▸ lawT_ok h) rfl)) hl)
noncomputable def ctR : Fn := fnOf "check_tree"
noncomputable def ctB (i : Nat) : Stmt := ctR.body.getD i default
noncomputable def ctT (R : List Tr) : List PV->TR
 | [] => gv .none (treePV R)
 | v :: _ => .exc v []
section
variable {R : List Tr} {F : List PV} {tr : PV}
noncomputable def ctS0 (tr : PV) (f : Option Slot) : Sto := fz tr :: f :: List.replicate (ctR.scope.names.length - 2) none
theorem ct0 : coll ((lvlS cx0 (mkS [treeS R F]) 13).ex ctR.scope (ctS0 (treePV R) none) (ctB 0)) = coll (same [Slot.fz (treePV R)] <| .ret (.next,ctS0 (treePV R) (fz (.list F)))) := by kernel_rfl
theorem ct1 : (HP 13).isT ctR.scope (ctS0 tr (fz (.list F))) (ifT (ctB 1)) = .ret (decide ((F.length : Int) > 0),ctS0 tr (fz (.list F))) := by kernel_rfl
theorem ct2 : exs (HP 13) ctR.scope (ctS0 tr (fz (.list F))) (ifB (ctB 1)) = ((((indexPV (.list F) (.int 0) >>= fun z => T.ret (z,ctS0 tr (fz (.list F)))) >>= fun v => T.ret ([v.1],v.2)) >>= fun vs => one vs.1 fun v => (T.exc v vs.2 : T (Fl × Sto))) >>= fun y => afterT y fun σ => .ret (.next,σ)) := by kernel_rfl
theorem ct_body : ctR.body = [ctB 0,ifX (ctB 1)] := by kernel_rfl
theorem ct_ok : callB ctR [.fz tr] = true := by kernel_rfl
theorem ct_sto : sto0 ctR [.fz tr] = ctS0 tr none := by kernel_rfl
theorem check_ok (h : ROk R) (e : goF [] R = F) : TLe (ctT R F) (callStep (lvl cx0 69) ctR [.fz (treePV R)]) := by
 have N := SmOk.nil 0
 have S : SmOk cx0 56 (mkS [treeS R F]) := .cons (atA_le (e ▸ tree_ok h)) (.nil _)
 have z0 := stL (m := 69) S (.trans (same_le (.refl _)) (coll_le ct0)) rfl
 have z1 := ct1 (tr := treePV R) (F := F)
 clear e
 cases F with
 | nil =>
  refine call_next (σ' := fz (.list []) :: List.replicate (ctR.scope.names.length - 2) none) ct_ok ?_
  rw [ct_sto,ct_body]
  exact nx z0 (nl (ifF'' (isTL N (.of_eq z1.symm) rfl) (.refl _)))
 | cons v r =>
  refine call_exc (σ' := ctS0 (treePV R) (fz (.list (v :: r)))) ct_ok ?_
  rw [ct_sto,ct_body]
  rw [decide_eq_true (show ((v :: r).length : Int) > 0 from Int.natCast_pos.mpr (Nat.succ_pos _))] at z1
  refine nx z0 (ecx (ifT'' (isTL N (.of_eq z1.symm) rfl) (exsL (n := 13) N ?_ rfl)))
  rw [ct2,show indexPV (.list (v :: r)) (.int 0) = .ret v from index_nat (r := 0) rfl]
  exact .refl _
end
noncomputable def ctS (R : List Tr) (F : List PV) : Str × (List Slot->TR) := ("check_tree",atA [.fz (treePV R)] (ctT R F))
theorem sCt_ok {R : List Tr} {F : List PV} (h : ROk R) (e : goF [] R = F) : SmOk cx0 70 (mkS [ctS R F]) := .cons (atA_le (check_ok h e)) (.nil _)
noncomputable def elT (P : Lv) (sc : Scope) (elt : Expr) (ifs : List Expr) (σ : Sto) : T (Option PV × Sto) := testAll P sc σ ifs >>= fun c => match c.1 with
 | true => P.ev sc c.2 elt >>= fun x => .ret (some x.1,x.2)
 | false => .ret (none,c.2)
noncomputable def consO (o : Option PV) (xs : List PV) : List PV := match o with
 | some x => x :: xs
 | none => xs
theorem comp_cons {P : Lv} {sc : Scope} {elt t : Expr} {ifs : List Expr} {σ σ1 σ2 : Sto} {v : PV} {o : Option PV} {r xs : List PV} (h : bindT sc σ t v = .ret σ1) (k : TLe (.ret (o,σ1)) (elT P sc elt ifs σ1)) (z : TLe (.ret (xs,σ2)) (compLoop P sc elt t ifs σ1 r)) : TLe (.ret (consO o xs,σ2)) (compLoop P sc elt t ifs σ (v :: r)) := by
 show TLe _ (bindT sc σ t v >>= _)
 rw [h]
 show TLe _ (testAll P sc σ1 ifs >>= _)
 refine ⟨fun d Q E s => T.sat_bind.mpr ?_⟩
 have w : T.Sat d (T.ret (o,σ1)) (fun d y => T.Sat d (compLoop P sc elt t ifs y.2 r) (fun d xs => Q d (consO y.1 xs.1,xs.2)) E) E := z.of d _ _ s
 refine (T.sat_bind.mp (k.of _ _ _ w)).mono (fun d c q => ?_) fun _ _ _ q => q
 obtain ⟨c,σ⟩ := c
 cases c with
 | true => exact T.sat_bind.mpr ((T.sat_bind.mp q).mono (fun _ _ q => T.sat_bind.mpr q) fun _ _ _ q => q)
 | false => exact q
theorem comp_rows {P : Lv} {sc : Scope} {elt tg : Expr} {ifs : List Expr} {cσ : Option Slot->Sto} {g : Tr->PV} {f : Tr->Option PV} (hb : ∀ x v,bindT sc (cσ x) tg v = .ret (cσ (fz v)))
  (el : ∀ t,TrOk t->TLe (.ret (f t,cσ (fz (g t)))) (elT P sc elt ifs (cσ (fz (g t))))) {R : List Tr} (ok : ∀ t ∈ R,TrOk t) : ∀ x,∃ x',TLe (.ret (R.filterMap f,cσ x')) (compLoop P sc elt tg ifs (cσ x) (R.map g)) := by
 induction R with
 | nil => exact fun x => ⟨x,.refl _⟩
 | cons t R ih =>
  intro x
  obtain ⟨x',z⟩ := ih (fun q hq => ok q (.tail _ hq)) (fz (g t))
  have := comp_cons (hb x (g t)) (el t (ok t (.head _))) z
  refine ⟨x',?_⟩
  cases h : f t with
  | none => rw [List.filterMap_cons_none h]; rw [h] at this; exact this
  | some y => rw [List.filterMap_cons_some h]; rw [h] at this; exact this
noncomputable def compK (n : Nat) (L : T (List PV × Sto)) (σ : Sto) : T (List PV × Sto) := chk (Nat.ble n 1000) (L.noExc >>= fun y => T.ret (y.1,σ))
theorem compK_le {n : Nat} {xs : List PV} {L : T (List PV × Sto)} {σ σ2 : Sto} (hl : n ≤ 3) (h : TLe (.ret (xs,σ2)) L) : TLe (.ret (xs,σ)) (compK n L σ) := by
 unfold compK
 rw [Nat.ble_eq_true_of_le (Nat.le_trans hl (by decide))]
 exact TLe.to (f := fun y : List PV × Sto => T.ret (y.1,σ)) (TLe.noExc h)
noncomputable def kindO (m : Int) : Byt := if decide (m = 16384) then Ktree else Kblob
noncomputable def linkF (t : Tr) : Option (Byt × Byt) := if decide (t.1 = 57344) then none else some (kindO t.1,t.2.2)
noncomputable def lnkP (p : Byt × Byt) : PV := lnk p.1 p.2
noncomputable def linkV (t : Tr) : Option PV := (linkF t).map lnkP
noncomputable def goodB (t : Tr) : Bool := !(decide (t.1 = 7)) && (!(bytEq t.2.1 #[]) && !(t.2.1.toList.any fun u => Nat.beq u.toNat 0))
noncomputable def goodT (t : Tr) : Option Tr := if goodB t then some t else none
noncomputable def goodV (t : Tr) : Option PV := (goodT t).map trPV
noncomputable abbrev CompX := Expr × (Expr × Expr × List Expr) × Scope
noncomputable def compX (e : Expr) : CompX := (compOf e).getD default
noncomputable abbrev xEl (X : CompX) (sc : Scope) (σ : Sto) : T (Option PV × Sto) := elT (HP 14) sc X.1 X.2.1.2.2 σ
noncomputable abbrev xLoop (X : CompX) (sc : Scope) (σ : Sto) (l : List PV) : T (List PV × Sto) := compLoop (HP 14) sc X.1 X.2.1.1 X.2.1.2.2 σ l
noncomputable def oR : Fn := fnOf "object_links"
noncomputable def oB (i : Nat) : Stmt := oR.body.getD i default
noncomputable def XO : CompX := compX (retE ((ifB (oB 2)).headD default))
noncomputable def scO : Scope := compScope XO.2.2 oR.scope
noncomputable def cs2 (x : Option Slot) : Sto := [none,x]
noncomputable def cs3 (x : Option Slot) : Sto := [none,x,none]
theorem bO (x : Option Slot) (v : PV) : bindT scO (cs3 x) XO.2.1.1 v = .ret (cs3 (fz v)) := by kernel_rfl
theorem elO {n o : Byt} : mapA (fun m => coll (xEl XO scO (cs3 (fz (enPV (m,n,o)))))) tModes = mapB (fun m => T.need true (.ret (linkV (m,n,o),cs3 (fz (enPV (m,n,o)))))) tModes := by kernel_rfl
section
variable {m : Nat} {l : List PV} {R : List Tr}
noncomputable def oSt (l : List PV) : Sto := [bt Ktree,fz (.inst 3 [("entries",.list l)])]
theorem oI : coll ((HP 16).isT oR.scope (oSt l) (ifT (oB 0))) = coll (.ret (false,oSt l)) ∧ coll ((HP 16).isT oR.scope (oSt l) (ifT (oB 1))) = coll (.ret (false,oSt l)) ∧ coll ((HP 16).isT oR.scope (oSt l) (ifT (oB 2))) = coll (.ret (true,oSt l)) := ⟨by kernel_rfl,by kernel_rfl,by kernel_rfl⟩
theorem oE : exs (HP 16) oR.scope (oSt l) (ifB (oB 2)) = ((compK l.length (xLoop XO scO (cs3 none) l) (oSt l) >>= fun y => T.ret (PV.list y.1,y.2)) >>= fun y => T.ret (Fl.ret y.1,y.2)) >>= fun y => afterT y fun σ => .ret (.next,σ) := by kernel_rfl
theorem o_body : oR.body = [ifX (oB 0),ifX (oB 1),ifX (oB 2),oB 3] := by kernel_rfl
theorem o_ok : callB oR [.fz (.byt Ktree),.fz (.inst 3 [("entries",.list l)])] = true := by kernel_rfl
theorem o_sto : sto0 oR [.fz (.byt Ktree),.fz (.inst 3 [("entries",.list l)])] = oSt l := by kernel_rfl
theorem links_ok (h : ROk R) : TLe (gv (.list (R.filterMap linkV)) (.byt Ktree)) (callStep (HP 17) oR [.fz (.byt Ktree),.fz (treePV R)]) := by
 obtain ⟨x',z⟩ := comp_rows (P := HP 14) (elt := XO.1) (ifs := XO.2.1.2.2) (cσ := cs3) (g := enPV) (f := linkV) bO (fun t ht => by
  obtain ⟨m,n,o⟩ := t
  exact coll_leN (tab elO ht.m)) h.ok none
 refine call_ret (σ' := [fz (.inst 3 [("entries",.list (R.map enPV))])]) o_ok ?_
 unfold treePV
 rw [o_sto,o_body]
 refine nx (ifF' (coll_le oI.1) (.refl _)) (nx (ifF' (coll_le oI.2.1) (.refl _)) (rt (ifT' (coll_le oI.2.2) ?_)))
 rw [oE]
 exact TLe.to (f := fun y => afterT y fun σ => .ret (.next,σ)) (TLe.to (f := fun y : PV × Sto => T.ret (Fl.ret y.1,y.2)) (TLe.to (f := fun y : List PV × Sto => T.ret (PV.list y.1,y.2)) (compK_le (by rw [List.length_map]; exact h.len) z)))
end
noncomputable def lkS (R : List Tr) (L : List (Byt × Byt)) : Str × (List Slot->TR) := ("object_links",atA [.fz (.byt Ktree),.fz (treePV R)] (gv (.list (L.map lnkP)) (.byt Ktree)))
theorem linkV_eq (R : List Tr) : R.filterMap linkV = (R.filterMap linkF).map lnkP := List.map_filterMap.symm
theorem sL_ok {R : List Tr} {L : List (Byt × Byt)} (h : ROk R) (e : R.filterMap linkF = L) : SmOk cx0 18 (mkS [lkS R L]) := .cons (atA_le (by
 rw [← e,← linkV_eq]
 exact upS (.nil 0) (links_ok h) rfl)) (.nil _)
noncomputable def modeT : List (Int × Byt) := [(16384,#[52,48,48,48,48]),(57344,#[49,54,48,48,48,48]),(33204,#[49,48,48,54,54,52]),(40960,#[49,50,48,48,48,48]),(33261,#[49,48,48,55,53,53])]
noncomputable def modeB (m : Int) : Byt := (tabAt modeT m).getD #[49,48,48,54,52,52]
noncomputable def gModes : List Int := [33188,16384,57344,33204,40960,33261]
theorem mode_all : mapA (fun m => at18 "object_mode_of" [.fz (.byt (modeB m))]) gModes = mapB (fun m => T.need true (gv (.int m) (.byt (modeB m)))) gModes := by kernel_rfl
noncomputable def sM (m : Int) : Sm := mkS [("object_mode_of",atA [.fz (.byt (modeB m))] (gv (.int m) (.byt (modeB m))))]
theorem sM_ok {m : Int} (hm : m ∈ gModes) : SmOk cx0 19 (sM m) := .cons (atA_le (up (coll_leN (tab mode_all hm)) rfl)) (.nil _)
noncomputable def rR : Fn := fnOf "read_tree"
noncomputable def rW (i : Nat) : Stmt := rR.body.getD i default
noncomputable def rB (i : Nat) : Stmt := (whB (rW 1)).getD i default
noncomputable def rSt (o : Byt) (es : List PV) (a : Nat) (bl mo en : Option Slot) : Sto := [bt o,fz (.int 2),some (.ol es),fz (pN a),bl,mo,en,none,none,none,none,none]
noncomputable def cutM (o : Byt) (a j : Nat) : Byt := (cutBy o.toList o.size (some (a : Int)) (some (j : Int))).toArray
section
variable {o : Byt} {es : List PV} {a j e : Nat} {bl mo en : Option Slot} {m : Int}
theorem r0 : (HP 14).ex rR.scope (rSt o es a bl mo en) (rB 0) = .ret (.next,rSt o es a (fz (.int (bytFind o #[32] a))) mo en) := by kernel_rfl
noncomputable def cmN {α : Type} (b c : Byt) (k : T α) : T α := .need (eqB [Slot.fz (.byt b)] [Slot.fz (.byt c)]) k
theorem r123 : coll (exs (lvlS cx0 (sM m) 14) rR.scope (rSt o es a (fz (pN j)) mo en) [rB 1,rB 2,rB 3]) = coll (cmN (cutM o a j) (modeB m) <| .ret (.next,rSt o es a (fz (pN j)) (fz (.int m)) (fz (.int (bytFind o #[0] (j + 1)))))) := by kernel_rfl
theorem r4a : coll ((HP 14).isT rR.scope (rSt o es a (fz (pN j)) mo (fz (pN e))) (bopE (ifT (rB 4)) 0)) = coll (.ret (false,rSt o es a (fz (pN j)) mo (fz (pN e)))) := by kernel_rfl
theorem r4b : coll ((HP 14).isT rR.scope (rSt o es a (fz (pN j)) mo (fz (pN e))) (bopE (ifT (rB 4)) 1)) = coll (.ret (decide ((((e + 3 : Nat) : Int)) > (o.size : Int)),rSt o es a (fz (pN j)) mo (fz (pN e)))) := by kernel_rfl
theorem r4_or : ifT (rB 4) = .BoolOp .Or [bopE (ifT (rB 4)) 0,bopE (ifT (rB 4)) 1] (ifT (rB 4)).pos := by kernel_rfl
theorem r5 : coll ((HP 14).isT rR.scope (rSt o es a (fz (pN j)) mo (fz (pN e))) (ifT (rB 5))) = coll (.ret (decide ((e : Int) = ((j + 1 : Nat) : Int)),rSt o es a (fz (pN j)) mo (fz (pN e)))) := by kernel_rfl
theorem r67 : coll (exs (HP 14) rR.scope (rSt o es a (fz (pN j)) (fz (.int m)) (fz (pN e))) [rB 6,rB 7]) =
  coll (appN es (entPV m (cutM o (j + 1) e) (cutM o (e + 1) (e + 3))) fun es => .ret (.next,rSt o es (e + 3) (fz (pN j)) (fz (.int m)) (fz (pN e)))) := by kernel_rfl
theorem rBody : whB (rW 1) = rB 0 :: ([rB 1,rB 2,rB 3] ++ [ifX (rB 4),ifX (rB 5),rB 6,rB 7]) := by kernel_rfl
theorem rTest : coll ((HP 14).isT rR.scope (rSt o es a bl mo en) (whT (rW 1))) = coll (.ret (decide ((a : Int) < (o.size : Int)),rSt o es a bl mo en)) := by kernel_rfl
noncomputable def rS0 (o : Byt) : Sto := [bt o,fz (.int 2),none,none,none,none,none,none,none,none,none,none]
theorem rw0 : (HP 14).ex rR.scope (rS0 o) (rW 0) = .ret (.next,rSt o [] 0 none none none) := by kernel_rfl
theorem rw2 : (HP 14).ex rR.scope (rSt o es a bl mo en) (rW 2) = .ret (.ret (.inst 3 [("entries",.list es)]),[bt o,fz (.int 2),fz (.list es),fz (pN a),bl,mo,en,none,none,none,none,none]) := by kernel_rfl
theorem rw1 {σ : Sto} : (lvl cx0 45).ex rR.scope σ (rW 1) = whileLoop (lvl cx0 44) rR.scope (whT (rW 1)) (whB (rW 1)) 60 σ := by kernel_rfl
theorem r_body : rR.body = [rW 0,rW 1,rW 2] := by kernel_rfl
theorem r_ok : callB rR [.fz (.byt o),.fz (.int 2)] = true := by kernel_rfl
theorem r_sto : sto0 rR [.fz (.byt o),.fz (.int 2)] = rS0 o := by kernel_rfl
end
structure RdOk (t : Tr) : Prop extends TrOk t where
 g : t.1 ∈ gModes
 ne : t.2.1.toList ≠ []
 nul : (0 : UInt8) ∉ t.2.1.toList
noncomputable def entK (t : Tr) (x : List UInt8) : List UInt8 := (modeB t.1).toList ++ 32 :: (t.2.1.toList ++ 0 :: (t.2.2.toList ++ x))
noncomputable def entsK : List Tr->List UInt8
 | [] => []
 | t :: r => entK t (entsK r)
theorem g_ok : (gModes.all (fun m => ((modeB m).toList.all fun u => !(u == 32)) && Nat.ble (modeB m).size 6) && oids.all fun o => Nat.beq o.size 2) = true := by kernel_rfl
theorem mode_ok {m : Int} (h : m ∈ gModes) : (32 : UInt8) ∉ (modeB m).toList ∧ (modeB m).size ≤ 6 := and2 g_ok fun a _ => and2 (List.all_eq_true.mp a m h) fun a b => ⟨notIn_of a,Nat.le_of_ble_eq_true b⟩
theorem oid_size {o : Byt} (h : o ∈ oids) : o.size = 2 := and2 g_ok fun _ b => Nat.eq_of_beq_eq_true (List.all_eq_true.mp b o h)
section
variable {o : Byt} {bl mo en : Option Slot}
theorem r_step {t : Tr} {pre rest : List UInt8} {es : List PV} (ok : RdOk t) (h : o.toList = pre ++ entK t rest) (he : Nat.blt es.length 1000 = true) :
  ∃ pre' bl' mo' en',o.toList = pre' ++ rest ∧ pre.length < o.size ∧ TLe (.ret (.next,rSt o (es ++ [enPV t]) pre'.length bl' mo' en')) (exs (lvl cx0 44) rR.scope (rSt o es pre.length bl mo en) (whB (rW 1))) := by
 have N := SmOk.nil 0
 have sp := mode_ok ok.g
 generalize hM : (modeB t.1).toList = M at sp
 have nn := ok.nul
 have ne := ok.ne
 generalize hn : t.2.1.toList = n at nn ne
 have h1 : o.toList = pre ++ (M ++ 32 :: (n ++ 0 :: (t.2.2.toList ++ rest))) := by rw [h,← hM,← hn]; rfl
 have h2 : o.toList = (pre ++ M ++ [32]) ++ (n ++ 0 :: (t.2.2.toList ++ rest)) := by rw [h1,List.append_assoc,List.append_assoc]; rfl
 have h3 : o.toList = ((pre ++ M ++ [32]) ++ n ++ [0]) ++ (t.2.2.toList ++ rest) := by rw [h2,List.append_assoc (_ ++ n),List.append_assoc _ n]; rfl
 have l2 : (pre ++ M ++ [32]).length = pre.length + M.length + 1 := by rw [List.length_append,List.length_append]; rfl
 have os : t.2.2.toList.length = 2 := Array.length_toList.trans (oid_size ok.o)
 have l3 : ((pre ++ M ++ [32]) ++ n ++ [0]).length = pre.length + M.length + 1 + n.length + 1 := by rw [List.length_append,List.length_append,l2]; rfl
 have f1 := find_hit h1 sp.1
 have f2 := find_hit h2 nn
 have c1 := cut_mid h1
 have c2 := cut_mid h2
 have c3 := cut_mid h3
 have sz := size_of3 h3
 rw [l2] at f2 c2
 rw [l3,os] at c3 sz
 refine ⟨((pre ++ M ++ [32]) ++ n ++ [0]) ++ t.2.2.toList,fz (pN (pre.length + M.length)),fz (.int t.1),fz (pN (pre.length + M.length + 1 + n.length)),by rw [h3,List.append_assoc _ t.2.2.toList],?_,?_⟩
 ·rw [size_of h1,List.length_append]
  exact Nat.lt_add_of_pos_right (Nat.lt_of_lt_of_le (Nat.succ_pos _) (Nat.le_add_left ..))
 rw [List.length_append,l3,os,rBody]
 refine nx (stL N (.of_eq r0.symm) rfl) ?_
 rw [f1]
 refine nxs (σ' := rSt o es pre.length (fz (pN (pre.length + M.length))) (fz (.int t.1)) (fz (.int (bytFind o #[0] (pre.length + M.length + 1))))) (exsL (sM_ok ok.g) (.trans ?_ (coll_le r123)) rfl) ?_
 ·rw [show cutM o pre.length (pre.length + M.length) = modeB t.1 from Array.ext' (c1.trans hM.symm)]
  exact same_le (.refl _)
 rw [f2]
 have z4 := r4b (o := o) (es := es) (a := pre.length) (j := pre.length + M.length) (e := pre.length + M.length + 1 + n.length) (mo := fz (.int t.1))
 rw [decide_eq_false (fun q => absurd (Int.ofNat_lt.mp q) (Nat.not_lt.mpr (by rw [sz,← Nat.add_assoc]; exact Nat.le_add_right _ _)))] at z4
 have z5 := r5 (o := o) (es := es) (a := pre.length) (j := pre.length + M.length) (e := pre.length + M.length + 1 + n.length) (mo := fz (.int t.1))
 rw [decide_eq_false (fun q => by
  have q := Nat.add_left_cancel ((Int.ofNat_inj.mp q).trans (Nat.add_zero _).symm)
  exact ne (List.eq_nil_of_length_eq_zero q))] at z5
 refine nx (ifF'' ?_ (.refl _)) (nx (ifF'' (isTL N (coll_le z5) rfl) (.refl _)) (exsL N (.trans ?_ (coll_le r67)) rfl))
 ·rw [r4_or]
  exact or_isT (isTL N (coll_le r4a) rfl) (isTL N (coll_le z4) rfl)
 ·refine .needT he ?_
  rw [show cutM o (pre.length + M.length + 1) (pre.length + M.length + 1 + n.length) = t.2.1 from Array.ext' (c2.trans hn.symm),show cutM o (pre.length + M.length + 1 + n.length + 1) (pre.length + M.length + 1 + n.length + 3) = t.2.2 from Array.ext' c3]
  exact .refl _
end
section
variable {o : Byt}
theorem r_loop {R : List Tr} (ok : ∀ t ∈ R,RdOk t) : ∀ {pre : List UInt8} {es : List PV} {bl mo en : Option Slot} {f : Nat},R.length < f->es.length + R.length ≤ 900->o.toList = pre ++ entsK R ->
  ∃ a bl' mo' en',TLe (.ret (.next,rSt o (es ++ R.map enPV) a bl' mo' en')) (whileLoop (lvl cx0 44) rR.scope (whT (rW 1)) (whB (rW 1)) f (rSt o es pre.length bl mo en)) := by
 induction R with
 | nil =>
  intro pre es bl mo en f hf _ h
  cases f with
  | zero => cases hf
  | succ f =>
   have z := rTest (o := o) (es := es) (a := pre.length) (bl := bl) (mo := mo) (en := en)
   rw [decide_eq_false (fun q => Nat.lt_irrefl pre.length (by
    have q := Int.ofNat_lt.mp q
    rw [size_of h] at q
    exact q))] at z
   refine ⟨pre.length,bl,mo,en,?_⟩
   rw [List.map_nil,List.append_nil]
   exact wh_stop (isTL (.nil 0) (coll_le z) rfl)
 | cons t R ih =>
  intro pre es bl mo en f hf hl h
  cases f with
  | zero => cases hf
  | succ f =>
   obtain ⟨pre',bl',mo',en',e,lt,st⟩ := r_step (es := es) (bl := bl) (mo := mo) (en := en) (ok t (.head _)) h (Nat.ble_eq_true_of_le (Nat.le_trans (Nat.le_trans (Nat.add_le_add_left (Nat.succ_pos _) _) hl) (by decide)))
   have z := rTest (o := o) (es := es) (a := pre.length) (bl := bl) (mo := mo) (en := en)
   rw [decide_eq_true (Int.ofNat_lt.mpr lt)] at z
   obtain ⟨a,b,m,n,q⟩ := ih (fun q hq => ok q (.tail _ hq)) (es := es ++ [enPV t]) (bl := bl') (mo := mo') (en := en') (Nat.lt_of_succ_lt_succ hf) (by
    rw [List.length_append,Nat.add_assoc,Nat.add_comm [enPV t].length]
    exact hl) e
   refine ⟨a,b,m,n,wh_next (isTL (.nil 0) (coll_le z) rfl) st ?_⟩
   rw [List.append_assoc] at q
   exact q
theorem read_ok {R : List Tr} (ok : ∀ t ∈ R,RdOk t) (hl : R.length ≤ 3) (h : o.toList = entsK R) : TLe (gv (treePV R) (.byt o)) ((lvl cx0 46).call (fnOf "read_tree") [.fz (.byt o),.fz (.int 2)]) := by
 have N := SmOk.nil 0
 obtain ⟨a,bl,mo,en,z⟩ := r_loop (pre := []) (es := []) (bl := none) (mo := none) (en := none) (f := 60) ok (Nat.lt_of_le_of_lt hl (by decide)) (Nat.le_trans (Nat.le_of_eq (Nat.zero_add _)) (Nat.le_trans hl (by decide))) h
 refine call_ret (P := lvl cx0 45) (f := rR) (σ' := [fz (.int 2),fz (.list (R.map enPV)),fz (pN a),bl,mo,en,none,none,none,none,none]) r_ok ?_
 rw [r_sto,r_body]
 exact nx (stL N (.of_eq rw0.symm) rfl) (nx (.trans z (.of_eq rw1.symm)) (rt (stL N (.of_eq rw2.symm) rfl)))
end
noncomputable def rdS (o : Byt) (R : List Tr) : Str × (List Slot->TR) := ("read_tree",atA [.fz (.byt o),.fz (.int 2)] (gv (treePV R) (.byt o)))
theorem sR_ok {o : Byt} {R : List Tr} {F : List PV} (ok : ∀ t ∈ R,RdOk t) (h : ROk R) (ho : o.toList = entsK R) (e : goF [] R = F) : SmOk cx0 56 (mkS [rdS o R,treeS R F,lawTS R F]) := .cons (atA_le (upC (n := 45) (read_ok ok h.len ho) rfl)) (sT_cons h e (.nil _))
noncomputable def wR : Fn := fnOf "_law_trees_right"
noncomputable def wB (i : Nat) : Stmt := wR.body.getD i default
noncomputable def wSt (rows turn name row thing due il li oc mo : Option Slot) : Sto := some (.fz .deck) :: rows :: turn :: name :: row :: thing :: due :: il :: li :: oc :: mo :: List.replicate 14 none
noncomputable def rowsV (R : List Tr) : Option Slot := fz (.list (R.map trPV))
noncomputable def rowsO (R : List Tr) (b : Bool) : Option Slot := if b then some (.ol (R.map trPV)) else rowsV R
theorem upto3 {α : Type} {M : List α->Prop} (h0 : M []) (h1 : ∀ a,M [a]) (h2 : ∀ a b,M [a,b]) (h3 : ∀ a b c,M [a,b,c]) {l : List α} (h : l.length ≤ 3) : M l := by
 cases l with
 | nil => exact h0
 | cons a l => exact upto2 (M := fun l => M (a :: l)) (h1 a) (h2 a) (h3 a) (Nat.le_of_succ_le_succ h)
noncomputable def X6 : CompX := compX (asgVal (wB 6))
noncomputable def X8 : CompX := compX (asgVal (wB 8))
noncomputable def sc6 : Scope := compScope X6.2.2 wR.scope
noncomputable def sc8 : Scope := compScope X8.2.2 wR.scope
theorem b6 (x : Option Slot) (v : PV) : bindT sc6 (cs2 x) X6.2.1.1 v = .ret (cs2 (fz v)) := by kernel_rfl
theorem b8 (x : Option Slot) (v : PV) : bindT sc8 (cs2 x) X8.2.1.1 v = .ret (cs2 (fz v)) := by kernel_rfl
theorem el6 {n o : Byt} : mapA (fun m => coll (xEl X6 sc6 (cs2 (fz (trPV (m,n,o)))))) tModes = mapB (fun m => T.need true (.ret (linkV (m,n,o),cs2 (fz (trPV (m,n,o)))))) tModes := by kernel_rfl
theorem el8 {o : Byt} : mapA (fun x : Int × Byt => coll (xEl X8 sc8 (cs2 (fz (trPV (x.1,x.2,o)))))) mns = mapB (fun x => T.need true (.ret (goodV (x.1,x.2,o),cs2 (fz (trPV (x.1,x.2,o)))))) mns := by kernel_rfl
section
variable {R : List Tr} {F l : List PV} {tu na ro rw th du il li oc mo : Option Slot} {o : Byt}
theorem w3 (h : R.length ≤ 3) (b : Bool) : coll ((lvlS cx0 (mkS [treeS R F,lawTS R F]) 14).ex wR.scope (wSt (rowsO R b) tu na ro none none none none none none) (wB 3)) =
  coll (same [Slot.fz (.list (R.map trPV))] <| .ret (.next,wSt (rowsV R) tu na ro (fz (treePV R)) (fz (.list F)) (fz (.bool true)) none none none)) := by
 refine upto3 (M := fun R => coll ((lvlS cx0 (mkS [treeS R F,lawTS R F]) 14).ex wR.scope (wSt (rowsO R b) tu na ro none none none none none none) (wB 3)) =
  coll (same [Slot.fz (.list (R.map trPV))] <| .ret (.next,wSt (rowsV R) tu na ro (fz (treePV R)) (fz (.list F)) (fz (.bool true)) none none none))) ?_ (fun _ => ?_) (fun _ _ => ?_) (fun _ _ _ => ?_) h <;> cases b <;> kernel_rfl
noncomputable def noF : List PV->Bool
 | [] => true
 | _ :: _ => false
theorem w4 : coll ((lvlS cx0 (mkS [ctS R F]) 14).ex wR.scope (wSt rw tu na ro (fz (treePV R)) (fz (.list F)) (fz (.bool true)) none none none) (wB 4)) =
  coll (same [Slot.fz (treePV R)] <| .ret (.next,wSt rw tu na ro (fz (treePV R)) (fz (.list F)) (fz (.bool (noF F))) none none none)) := by
 cases F <;> kernel_rfl
theorem w5a : coll ((lvlS cx0 (mkS [treeS R F,lawTS R F]) 14).isT wR.scope (wSt rw tu na ro (fz (treePV R)) (fz (.list F)) il none none none) (bopE (ifT (wB 5)) 0)) =
  coll (same [Slot.fz (treePV R)] <| eqN (.list F) (.list F) fun b => .ret (!b,wSt rw tu na ro (fz (treePV R)) (fz (.list F)) il none none none)) := by kernel_rfl
theorem w5b : coll ((HP 14).isT wR.scope (wSt rw tu na ro th (fz (.list F)) (fz (.bool (noF F))) none none none) (bopE (ifT (wB 5)) 1)) =
  coll (.ret (false,wSt rw tu na ro th (fz (.list F)) (fz (.bool (noF F))) none none none)) := by
 cases F <;> kernel_rfl
theorem w5_or : ifT (wB 5) = .BoolOp .Or [bopE (ifT (wB 5)) 0,bopE (ifT (wB 5)) 1] (ifT (wB 5)).pos := by kernel_rfl
theorem w6e : (HP 15).ex wR.scope (wSt (rowsV R) tu na ro th du il none none none) (wB 6) = (compK (R.map trPV).length (xLoop X6 sc6 (cs2 none) (R.map trPV)) (wSt (rowsV R) tu na ro th du il none none none) >>= fun y => T.ret (Fl.next,putS y.2 8 (.fz (.list y.1)))) := by kernel_rfl
theorem w8e : (HP 15).ex wR.scope (wSt (rowsV R) tu na ro th du il li none none) (wB 8) = (compK (R.map trPV).length (xLoop X8 sc8 (cs2 none) (R.map trPV)) (wSt (rowsV R) tu na ro th du il li none none) >>= fun y => T.ret (Fl.next,putS y.2 1 (.fz (.list y.1)))) := by kernel_rfl
noncomputable def eqsP : List (Byt × Byt)->Bool
 | [] => true
 | p :: r => (bytEq p.1 p.1 && (bytEq p.2 p.2 && true)) && eqsP r
theorem eqsP_true (L : List (Byt × Byt)) : eqsP L = true := by
 induction L with
 | nil => rfl
 | cons p r ih =>
  show (bytEq p.1 p.1 && (bytEq p.2 p.2 && true) && eqsP r) = true
  rw [bytEq_self,bytEq_self,ih]
  rfl
theorem w7 {L : List (Byt × Byt)} (hL : L.length ≤ 3) : coll ((lvlS cx0 (mkS [lkS R L]) 14).isT wR.scope (wSt rw tu na ro (fz (treePV R)) du il (fz (.list (L.map lnkP))) none none) (ifT (wB 7))) =
  coll (same [Slot.fz (.byt Ktree),Slot.fz (treePV R)] <| .ret (!(eqsP L),wSt rw tu na ro (fz (treePV R)) du il (fz (.list (L.map lnkP))) none none)) := by
 refine upto3 (M := fun L => coll ((lvlS cx0 (mkS [lkS R L]) 14).isT wR.scope (wSt rw tu na ro (fz (treePV R)) du il (fz (.list (L.map lnkP))) none none) (ifT (wB 7))) =
  coll (same [Slot.fz (.byt Ktree),Slot.fz (treePV R)] <| .ret (!(eqsP L),wSt rw tu na ro (fz (treePV R)) du il (fz (.list (L.map lnkP))) none none))) ?_ (fun _ => ?_) (fun _ _ => ?_) (fun _ _ _ => ?_) hL <;> kernel_rfl
theorem w9 : (HP 14).ex wR.scope (wSt rw tu na ro th du il li none none) (wB 9) = .ret (.next,wSt rw tu na ro th du il li (bt #[]) none) := by kernel_rfl
theorem w10t {v : PV} : bindT wR.scope (wSt rw tu na ro th du il li oc mo) (forG (wB 10)) v = .ret (wSt rw tu na (fz v) th du il li oc mo) := by kernel_rfl
noncomputable def w10R (rw tu na th du il li : Option Slot) (o : Byt) (t : Tr) : T (Fl × Sto) := addB o (modeB t.1) fun a => addB a #[32] fun a => addB a t.2.1 fun a => addB a #[0] fun a => addB a t.2.2 fun a => .ret (.next,wSt rw tu na (fz (trPV t)) th du il li (bt a) (bt (modeB t.1)))
theorem w10 {n o' : Byt} : mapA (fun m => coll (exs (HP 15) wR.scope (wSt rw tu na (fz (trPV (m,n,o'))) th du il li (bt o) mo) (forB (wB 10)))) gModes = mapB (fun m => coll (w10R rw tu na th du il li o (m,n,o'))) gModes := by kernel_rfl
theorem w10e : (HP 16).ex wR.scope (wSt (fz (.list l)) tu na ro th du il li oc mo) (wB 10) = (forLoop (HP 15) wR.scope (forG (wB 10)) (forB (wB 10)) (wSt (fz (.list l)) tu na ro th du il li oc mo) l).noExc := by kernel_rfl
theorem w11 : coll ((lvlS cx0 (mkS [rdS o R,treeS R F,lawTS R F]) 22).ex wR.scope (wSt (rowsV R) tu na ro th du il li (bt o) mo) (wB 11)) =
  coll (same [Slot.fz (.byt o),Slot.fz (.int 2)] <| same [Slot.fz (treePV R)] <| same [Slot.fz (.list (R.map trPV))] <| eqN (.list F) (.list F) fun b => .ret (.ret (.bool b),wSt (rowsV R) tu na ro th du il li (bt o) mo)) := by kernel_rfl
theorem wR_body : wR.body = [wB 0,wB 1,wB 2,wB 3,wB 4,ifX (wB 5),wB 6,ifX (wB 7),wB 8,wB 9,wB 10,wB 11] := by kernel_rfl
theorem wR_ok : callB wR [.fz .deck] = true := by kernel_rfl
theorem wR_sto : sto0 wR [.fz .deck] = wSt none none none none none none none none none none := by kernel_rfl
end
noncomputable def mNames : List Byt := #[97] :: tNames
noncomputable def trAt (n m o : Nat) : Tr := (tModes.getD m 0,mNames.getD n #[],oids.getD o #[])
theorem trAt_ok {n m o : Nat} (hn : n < 11) (hm : m < 7) (ho : o < 4) : TrOk (trAt n m o) := ⟨getD_mem hm,(List.mem_cons.mp (getD_mem (l := mNames) hn)).elim (fun e => by
 show mNames.getD n #[] ∈ tNames
 rw [e]
 exact .head _) id,getD_mem ho⟩
theorem ROk.cons {t : Tr} {R : List Tr} (h : TrOk t) (k : ROk R) (hl : R.length ≤ 2) : ROk (t :: R) := ⟨fun q m => (List.mem_cons.mp m).elim (fun e => e ▸ h) (k.ok q),Nat.succ_le_succ hl⟩
theorem ROk.nil : ROk [] := ⟨fun _ q => (nomatch q),Nat.zero_le _⟩
noncomputable def w1S (R : List Tr) (tu na : Option Slot) : Sto := wSt (some (.ol (R.map trPV))) tu na none none none none none none none
theorem w0 : (HP 14).ex wR.scope (wSt none none none none none none none none none none) (wB 0) = .ret (.next,w1S [] none none) := by kernel_rfl
noncomputable def w1T : T (Fl × Sto) := (lvlS cx0 sD 14).ex wR.scope (w1S [] none none) (wB 1)
theorem w1a : coll w1T = .need true (.draw 4 (atD w1T)) := by kernel_rfl
noncomputable def drT (k : Tr->Nat->T (Fl × Sto)) : T (Fl × Sto) := .draw 11 fun a => .draw 7 fun b => .draw 4 fun c => k (trAt a b c) a
noncomputable def w1E (R : List Tr) (i a : Nat) : T (Fl × Sto) := .ret (.next,w1S R (fz (pN i)) (bt (mNames.getD a #[])))
theorem w1c0 : coll (atD w1T 0) = coll (.ret (.next,w1S [] none none)) := by kernel_rfl
theorem w1c1 : coll (atD w1T 1) = coll (drT fun t a => w1E [t] 0 a) := by kernel_rfl
theorem w1c2 : coll (atD w1T 2) = coll (drT fun t _ => drT fun u a => w1E [t,u] 1 a) := by kernel_rfl
theorem w1c3 : coll (atD w1T 3) = coll (drT fun t _ => drT fun u _ => drT fun v a => w1E [t,u,v] 2 a) := by kernel_rfl
theorem drT_tot {m : Nat} {k : Tr->Nat->T (Fl × Sto)} {Q : Fl × Sto->Prop} (h : ∀ t a,TrOk t->Tot m (k t a) Q) : Tot (m + 3) (drT k) Q := .draw fun _ a => .draw fun _ b => .draw fun _ c => h _ _ (trAt_ok a b c)
noncomputable def w1R (σ : Sto) : Prop := ∃ R tu na,ROk R ∧ σ = w1S R tu na
noncomputable def w1Q (x : Fl × Sto) : Prop := ∃ σ,x = (.next,σ) ∧ w1R σ
theorem w1r : Tot 10 w1T w1Q := .drawD w1a fun r hr => by
 match r,hr with
 | 0,_ => exact .more (m' := 9) (m := 0) (.le (coll_le w1c0) (.ret ⟨_,rfl,_,_,_,.nil,rfl⟩))
 | 1,_ => exact .more (m' := 6) (m := 3) (.le (coll_le w1c1) (drT_tot fun t a h => .ret ⟨_,rfl,_,_,_,.cons h .nil (Nat.zero_le _),rfl⟩))
 | 2,_ => exact .more (m' := 3) (m := 6) (.le (coll_le w1c2) (drT_tot fun t _ h => drT_tot fun u a k => .ret ⟨_,rfl,_,_,_,.cons h (.cons k .nil (Nat.zero_le _)) (Nat.le_succ 1),rfl⟩))
 | 3,_ => exact .le (coll_le w1c3) (drT_tot fun t _ h => drT_tot fun u _ k => drT_tot fun v a l => .ret ⟨_,rfl,_,_,_,.cons h (.cons k (.cons l .nil (Nat.zero_le _)) (Nat.le_succ 1)) (Nat.le_refl 2),rfl⟩)
 | n + 4,h => exact absurd h (Nat.not_lt.mpr (Nat.le_add_left ..))
theorem sort_tot {l : List PV} : ∀ n,Tot n (sortDraw l n) fun vs => vs.length = n ∧ ∀ v ∈ vs,v ∈ l := by
 intro n
 induction n with
 | zero => exact .ret ⟨rfl,fun _ q => (nomatch q)⟩
 | succ n ih =>
  refine Tot.draw fun r hr => ?_
  rw [List.getElem?_eq_getElem hr]
  exact .bind0 (f := fun vs => .ret (_ :: vs)) ih fun vs h => .ret ⟨congrArg (· + 1) h.1,fun v hv => (List.mem_cons.mp hv).elim (fun e => e ▸ List.getElem_mem hr) (h.2 v)⟩
noncomputable def w2i : Stmt := (ifB (wB 2)).headD default
noncomputable def sortK (σ : Sto) (vs : List PV) : Fl × Sto := (.next,putS σ 1 (.fz (.list vs)))
noncomputable def sortT (l : List PV) (σ : Sto) : T (Fl × Sto) := .need (l.all isRow) (((sortDraw l l.length >>= fun vs => T.ret (PV.list vs,σ)) >>= fun y => T.ret (Slot.fz y.1,y.2)) >>= fun y => putN wR.scope y.2 "rows" y.1 >>= fun σ => T.ret (Fl.next,σ))
section
variable {R : List Tr} {tu na rw th du il li : Option Slot}
theorem w2s (h : R.length ≤ 3) : (HP 14).ex wR.scope (w1S R tu na) w2i = sortT (R.map trPV) (wSt (rowsV R) tu na none none none none none none none) := by
 refine upto3 (M := fun R => (HP 14).ex wR.scope (w1S R tu na) w2i = sortT (R.map trPV) (wSt (rowsV R) tu na none none none none none none none)) ?_ (fun _ => ?_) (fun _ _ => ?_) (fun _ _ _ => ?_) h <;> kernel_rfl
theorem isRow_all (h : ROk R) : (R.map trPV).all isRow = true := List.all_eq_true.mpr fun v hv => by
 obtain ⟨t,ht,rfl⟩ := List.mem_map.mp hv
 exact Nat.ble_eq_true_of_le (Nat.le_trans (nf_few (h.ok t ht).n).2 (by decide))
theorem all_tr {vs : List PV} (h : ∀ v ∈ vs,v ∈ R.map trPV) : ∃ R' : List Tr,vs = R'.map trPV ∧ ∀ t ∈ R',t ∈ R := by
 induction vs with
 | nil => exact ⟨[],rfl,fun _ q => (nomatch q)⟩
 | cons v vs ih =>
  obtain ⟨t,ht,rfl⟩ := List.mem_map.mp (h v (.head _))
  obtain ⟨R',rfl,k⟩ := ih fun v hv => h v (.tail _ hv)
  exact ⟨t :: R',rfl,fun q m => (List.mem_cons.mp m).elim (fun e => e ▸ ht) (k q)⟩
noncomputable def w2R (σ : Sto) : Prop := ∃ b R tu na,ROk R ∧ σ = wSt (rowsO R b) tu na none none none none none none none
theorem sort_stmt (h : ROk R) : Tot R.length (sortT (R.map trPV) (wSt (rowsV R) tu na none none none none none none none)) fun x => ∃ σ,x = (.next,σ) ∧ w2R σ := by
 refine .need (isRow_all h) ?_
 rw [List.length_map]
 refine .bind0 (Q := fun y => ∃ R',ROk R' ∧ y = (Slot.fz (.list (R'.map trPV)),wSt (rowsV R) tu na none none none none none none none)) ?_ fun y hy => ?_
 ·refine .bind0 (Q := fun y => ∃ R',ROk R' ∧ y = (PV.list (R'.map trPV),wSt (rowsV R) tu na none none none none none none none)) ?_ fun y hy => ?_
  ·refine .bind0 (sort_tot R.length) fun vs hv => ?_
   obtain ⟨R',rfl,k⟩ := all_tr hv.2
   refine .ret ⟨R',⟨fun t ht => h.ok t (k t ht),?_⟩,rfl⟩
   rw [← List.length_map (f := trPV),hv.1]
   exact h.len
  ·obtain ⟨R',k,rfl⟩ := hy
   exact .ret ⟨R',k,rfl⟩
 ·obtain ⟨R',k,rfl⟩ := hy
  exact .ret ⟨_,rfl,false,R',tu,na,k,rfl⟩
theorem w2a : coll ((HP 14).isT wR.scope (w1S R tu na) (ifT (wB 2))) = coll (.draw 2 fun r => .ret (decide ((r : Int) = 0),w1S R tu na)) := by kernel_rfl
theorem w2_if : wB 2 = .If (ifT (wB 2)) [w2i] [] (wB 2).pos := by kernel_rfl
theorem w2_all (h : ROk R) : Tot 4 ((lvl cx0 90).ex wR.scope (w1S R tu na) (wB 2)) fun x => ∃ σ,x = (.next,σ) ∧ w2R σ := by
 rw [w2_if]
 show Tot (3 + 1) ((lvl cx0 89).isT wR.scope (w1S R tu na) (ifT (wB 2)) >>= fun y => exs (lvl cx0 89) wR.scope y.2 (if y.1 then [w2i] else [])) _
 refine .bind (Q := fun y => ∃ b,y = (b,w1S R tu na)) (.le (isTL (.nil 0) (coll_le w2a) rfl) (.draw fun r _ => .ret ⟨_,rfl⟩)) fun y hy => ?_
 obtain ⟨b,rfl⟩ := hy
 cases b with
 | false => exact .more (m' := 3) (m := 0) (.ret ⟨_,rfl,true,R,tu,na,h,rfl⟩)
 | true =>
  have z := Tot.exs_cons (b := 0) (r := []) (R := w2R) (.le (stL (m := 89) (.nil 0) (.of_eq (w2s (tu := tu) (na := na) h.len).symm) rfl) (sort_stmt h)) fun σ hσ => .ret (Q := fun x => ∃ σ,x = (Fl.next,σ) ∧ w2R σ) ⟨σ,rfl,hσ⟩
  have z := Tot.more (m' := 3 - R.length) z
  rw [Nat.zero_add,Nat.sub_add_cancel h.len] at z
  exact z
end
theorem g_mem : ∀ m ∈ tModes,decide (m = 7) = false->m ∈ gModes := by decide +kernel
theorem goodT_inv {t u : Tr} (h : goodT u = some t) : u = t ∧ goodB t = true := by
 have h : (if goodB u = true then some u else none) = some t := h
 cases e : goodB u with
 | true => rw [e] at h; cases h; exact ⟨rfl,e⟩
 | false => rw [e] at h; exact noOpt h
theorem good_rd {t : Tr} (ok : TrOk t) (h : goodB t = true) : RdOk t := and2 h fun a b => and2 b fun b c => ⟨ok,g_mem _ ok.m ((Bool.not_eq_true' _).mp a),fun e => by
  rw [show t.2.1 = #[] from Array.ext' e] at b
  exact noB b,fun e => by
  have := List.any_eq_false.mp ((Bool.not_eq_true' _).mp c) 0 e
  exact this rfl⟩
theorem ROk.good {R : List Tr} (h : ROk R) : ROk (R.filterMap goodT) ∧ ∀ t ∈ R.filterMap goodT,RdOk t := by
 have k : ∀ t ∈ R.filterMap goodT,RdOk t := fun t ht => by
  obtain ⟨u,hu,e⟩ := List.mem_filterMap.mp ht
  obtain ⟨rfl,g⟩ := goodT_inv e
  exact good_rd (h.ok u hu) g
 exact ⟨⟨fun t ht => (k t ht).toTrOk,Nat.le_trans (List.length_filterMap_le ..) h.len⟩,k⟩
section
variable {R : List Tr} {rw tu na ro th du il li mo : Option Slot}
theorem entK_app (t : Tr) (x : List UInt8) : entK t x = flatB [modeB t.1,#[32],t.2.1,#[0],t.2.2] ++ x := by
 show _ = ((modeB t.1).toList ++ (32 :: (t.2.1.toList ++ (0 :: (t.2.2.toList ++ []))))) ++ x
 rw [List.append_nil,List.append_assoc,List.cons_append,List.append_assoc]
 rfl
theorem w10_loop (ok : ∀ t ∈ R,RdOk t) : ∀ {o : Byt} {ro mo : Option Slot},o.size + 14 * R.length ≤ 100 ->
  ∃ o' ro' mo',o'.toList = o.toList ++ entsK R ∧ TLe (.ret (.next,wSt rw tu na ro' th du il li (bt o') mo')) (forLoop (HP 15) wR.scope (forG (wB 10)) (forB (wB 10)) (wSt rw tu na ro th du il li (bt o) mo) (R.map trPV)) := by
 induction R with
 | nil => exact fun {o ro mo} _ => ⟨o,ro,mo,(List.append_nil _).symm,.refl _⟩
 | cons t R ih =>
  intro o ro mo hs
  obtain ⟨m,n,oo⟩ := t
  have k := ok _ (.head _)
  have s1 := (mode_ok k.g).2
  have s2 := (nf_few k.n).2
  have s3 := Nat.le_of_eq (oid_size k.o)
  have s0 : o.size ≤ 100 := Nat.le_trans (Nat.le_add_right ..) hs
  have sz : (o ++ modeB m ++ #[32] ++ n ++ #[0] ++ oo).size ≤ o.size + 6 + 1 + 4 + 1 + 2 := by
   rw [Array.size_append,Array.size_append,Array.size_append,Array.size_append,Array.size_append]
   exact Nat.add_le_add (Nat.add_le_add (Nat.add_le_add (Nat.add_le_add (Nat.add_le_add_left s1 _) (Nat.le_refl 1)) s2) (Nat.le_refl 1)) s3
  obtain ⟨o',ro',mo',e,z⟩ := ih (fun q hq => ok q (.tail _ hq)) (o := o ++ modeB m ++ #[32] ++ n ++ #[0] ++ oo) (ro := fz (trPV (m,n,oo))) (mo := bt (modeB m)) (by
   rw [List.length_cons,Nat.mul_succ,Nat.add_comm (14 * R.length),← Nat.add_assoc] at hs
   exact Nat.le_trans (Nat.add_le_add_right sz _) hs)
  refine ⟨o',ro',mo',?_,for_next w10t (.trans ?_ (coll_le (tab w10 k.g))) z⟩
  ·rw [e]
   show (List.foldl (fun a b => a ++ b) o [modeB m,#[32],n,#[0],oo]).toList ++ _ = _
   rw [toL,List.append_assoc]
   exact congrArg _ (entK_app (m,n,oo) (entsK R)).symm
  ·refine addB_le s0 s1 rfl fun s => addB_le s (Nat.le_refl 1) rfl fun s => addB_le s s2 rfl fun s => addB_le s (Nat.le_refl 1) rfl fun s => addB_le s s3 rfl fun _ => ?_
   exact .refl _
theorem r6_all (h : ROk R) : TLe (.ret (.next,wSt (rowsV R) tu na ro th du il (fz (.list (R.filterMap linkV))) none none)) ((HP 15).ex wR.scope (wSt (rowsV R) tu na ro th du il none none none) (wB 6)) := by
 obtain ⟨x',z⟩ := comp_rows (P := HP 14) (elt := X6.1) (ifs := X6.2.1.2.2) (cσ := cs2) (g := trPV) (f := linkV) b6 (fun t ht => by
  obtain ⟨m,n,o⟩ := t
  exact coll_leN (tab el6 ht.m)) h.ok none
 rw [w6e]
 have k := compK_le (n := (R.map trPV).length) (σ := wSt (rowsV R) tu na ro th du il none none none) (Nat.le_trans (Nat.le_of_eq (List.length_map _)) h.len) z
 exact TLe.to (f := fun y : List PV × Sto => T.ret (Fl.next,putS y.2 8 (.fz (.list y.1)))) k
theorem r8_all (h : ROk R) : TLe (.ret (.next,wSt (rowsV (R.filterMap goodT)) tu na ro th du il li none none)) ((HP 15).ex wR.scope (wSt (rowsV R) tu na ro th du il li none none) (wB 8)) := by
 obtain ⟨x',z⟩ := comp_rows (P := HP 14) (elt := X8.1) (ifs := X8.2.1.2.2) (cσ := cs2) (g := trPV) (f := goodV) b8 (fun t ht => by
  obtain ⟨m,n,o⟩ := t
  exact coll_leN (tab el8 ht.mn)) h.ok none
 rw [show R.filterMap goodV = (R.filterMap goodT).map trPV from List.map_filterMap.symm] at z
 rw [w8e]
 have k := compK_le (n := (R.map trPV).length) (σ := wSt (rowsV R) tu na ro th du il li none none) (Nat.le_trans (Nat.le_of_eq (List.length_map _)) h.len) z
 exact TLe.to (f := fun y : List PV × Sto => T.ret (Fl.next,putS y.2 1 (.fz (.list y.1)))) k
theorem w_rest {b : Bool} (h : ROk R) : ∃ σ',TLe (.ret (.ret (.bool true),σ')) (exs (lvl cx0 90) wR.scope (wSt (rowsO R b) tu na none none none none none none none) (wR.body.drop 3)) := by
 have N := SmOk.nil 0
 obtain ⟨F,hF⟩ : ∃ F,goF [] R = F := ⟨_,rfl⟩
 have fF : Few 12 F := hF ▸ (goF_few h.ok []).up (Nat.mul_le_mul_left 4 h.len)
 obtain ⟨L,hL⟩ : ∃ L,R.filterMap linkF = L := ⟨_,rfl⟩
 have lL : L.length ≤ 3 := hL ▸ Nat.le_trans (List.length_filterMap_le ..) h.len
 obtain ⟨G,GR⟩ := h.good
 generalize hG : R.filterMap goodT = Rg at G GR
 have fG := (goF_few G.ok []).up (Nat.mul_le_mul_left 4 G.len)
 have S := sT_cons h hF (.nil _)
 obtain ⟨o,ro,mo,eo,k10⟩ := w10_loop (rw := rowsV Rg) (tu := tu) (na := na) (th := fz (treePV R)) (du := fz (.list F)) (il := fz (.bool (noF F))) (li := fz (.list (L.map lnkP))) (o := #[]) (ro := none) (mo := none) GR (Nat.le_trans (Nat.le_of_eq (Nat.zero_add _)) (Nat.le_trans (Nat.mul_le_mul_left 14 G.len) (by decide)))
 refine ⟨wSt (rowsV Rg) tu na ro (fz (treePV R)) (fz (.list F)) (fz (.bool (noF F))) (fz (.list (L.map lnkP))) (bt o) mo,?_⟩
 rw [wR_body]
 show TLe _ (exs (lvl cx0 90) wR.scope _ [wB 3,wB 4,ifX (wB 5),wB 6,ifX (wB 7),wB 8,wB 9,wB 10,wB 11])
 refine nx (stL S (.trans (same_le (.refl _)) (coll_le (w3 h.len b))) rfl) ?_
 refine nx (stL (sCt_ok h hF) (.trans (same_le (.refl _)) (coll_le w4)) rfl) ?_
 refine nx (σ' := wSt (rowsV R) tu na none (fz (treePV R)) (fz (.list F)) (fz (.bool (noF F))) none none none) (ifF'' ?_ (.refl _)) ?_
 ·rw [w5_or]
  exact or_isT (isTL S (.trans (same_le (eqN_le fF (.refl _))) (coll_le w5a)) rfl) (isTL N (coll_le w5b) rfl)
 refine nx (stL N (r6_all h) rfl) ?_
 rw [linkV_eq,hL]
 have r7 := w7 (R := R) (rw := rowsV R) (tu := tu) (na := na) (ro := none) (du := fz (.list F)) (il := fz (.bool (noF F))) lL
 rw [eqsP_true] at r7
 refine nx (ifF'' (isTL (sL_ok h hL) (.trans (same_le (.refl _)) (coll_le r7)) rfl) (.refl _)) ?_
 refine nx (stL N (r8_all h) rfl) ?_
 rw [hG]
 refine nx (stL N (.of_eq w9.symm) rfl) (nx (stL N (.trans (.noExc k10) (.of_eq w10e.symm)) rfl) (rt (stL (sR_ok GR G eo rfl) (.trans ?_ (coll_le w11)) rfl)))
 exact same_le (same_le (same_le (eqN_le fG (.refl _))))
theorem trees_ok : Tot 14 (callStep (lvl cx0 90) wR [.fz .deck]) fun y => y.1 = .bool true := by
 refine .call wR_ok ?_
 rw [wR_sto,show wR.body = wB 0 :: wB 1 :: wB 2 :: wR.body.drop 3 from by rw [wR_body]; rfl]
 refine .step (stL (.nil 0) (.of_eq w0.symm) rfl) (Tot.exs_cons (a := 10) (b := 4) (.le (stL sD_ok (.refl _) rfl) w1r) fun σ hσ => ?_)
 obtain ⟨R,tu,na,h,rfl⟩ := hσ
 refine Tot.exs_cons (a := 4) (b := 0) (w2_all h) fun σ hσ => ?_
 obtain ⟨b,R,tu,na,h,rfl⟩ := hσ
 obtain ⟨σ',z⟩ := w_rest (b := b) (tu := tu) (na := na) h
 exact .le z (.ret rfl)
end
noncomputable def lwF : Fn := fnOf "law"
noncomputable def lwB (i : Nat) : Stmt := lwF.body.getD i default
noncomputable def lwS (sc : Option Slot) (told : Option Slot) : Sto := [sc,some (.fz .deck),told,none,none,none,none,none,none,none,none,none,none]
section
variable {s : Option Slot}
noncomputable def callT (n : Nat) (f : Fn) (σ : Sto) : T (Bool × Sto) := ((((callStep (lvl cx0 n) f [.fz .deck]).atSto σ >>= fun x => T.ret x.1) >>= fun v => T.ret (v,σ)) >>= truthT)
theorem callT_ok {n k : Nat} {f : Fn} {σ : Sto} {m : Nat} (h : Tot k (callStep (lvl cx0 n) f [.fz .deck]) fun y => y.1 = .bool true) (hm : Nat.ble n m = true) : Tot k (callT m f σ) fun y => y = (true,σ) := by
 have h := Tot.le (callStep_le (lvl_mono n (Nat.le_of_ble_eq_true hm)) _ _) h
 have h1 : Tot k ((callStep (lvl cx0 m) f [.fz .deck]).atSto σ >>= fun x => T.ret x.1) fun v => v = PV.bool true := .bind0 (.atSto h) fun x hx => .ret hx
 have h2 : Tot k (((callStep (lvl cx0 m) f [.fz .deck]).atSto σ >>= fun x => T.ret x.1) >>= fun v => T.ret (v,σ)) fun y => y = (PV.bool true,σ) := .bind0 h1 fun v hv => .ret (by rw [hv])
 exact .bind0 h2 fun y hy => by
  subst hy
  exact .ret rfl
noncomputable def tstE : Expr->Expr
 | .UnaryOp _ e _ => e
 | _ => default
noncomputable def ifeT : Expr->Expr × Expr × Expr
 | .IfExp t b o _ => (t,b,o)
 | _ => default
noncomputable def lwI : Expr × Expr × Expr := ifeT (tstE (ifT (lwB 2)))
theorem lw1 : (lvl cx0 103).isT lwF.scope (lwS s none) (ifT (lwB 1)) = (callT 99 wR (lwS s none) >>= fun y => T.ret (!y.1,y.2)) := by kernel_rfl
theorem lw2 : (lvl cx0 103).isT lwF.scope (lwS s none) (ifT (lwB 2)) = (((lvl cx0 101).isT lwF.scope (lwS s none) lwI.1 >>= fun y => if y.1 then (lvl cx0 101).isT lwF.scope y.2 lwI.2.1 else (lvl cx0 101).isT lwF.scope y.2 lwI.2.2) >>= fun y => T.ret (!y.1,y.2)) := by kernel_rfl
theorem lw2a : (lvl cx0 101).isT lwF.scope (lwS s none) lwI.2.1 = callT 98 cR (lwS s none) := by kernel_rfl
theorem lw2b : (lvl cx0 101).isT lwF.scope (lwS s none) lwI.2.2 = callT 98 tR (lwS s none) := by kernel_rfl
theorem lw2c : coll ((HP 14).isT lwF.scope (lwS s none) lwI.1) = coll (.draw 2 fun r => .ret (decide ((r : Int) = 0),lwS s none)) := by kernel_rfl
theorem lw3 : coll (exs (HP 60) lwF.scope (lwS s none) [lwB 3,lwB 4,lwB 5]) = coll (.ret (.ret (.bool true),lwS s (fz (.list [.str "a zone that is nowhere"])))) := by kernel_rfl
theorem lw_body : lwF.body.drop 1 = [ifX (lwB 1),ifX (lwB 2),lwB 3,lwB 4,lwB 5] := by kernel_rfl
theorem not_if {k : Nat} {b : List Stmt} {t : Expr} {p : Pos} {σ : Sto} {u : T (Bool × Sto)} (e : (lvl cx0 103).isT lwF.scope σ t = (u >>= fun y => T.ret (!y.1,y.2))) (h : Tot k u fun y => y = (true,σ)) :
  Tot k ((lvl cx0 104).ex lwF.scope σ (.If t b [] p)) fun x => ∃ σ',x = (.next,σ') ∧ σ' = σ := by
 show Tot k ((lvl cx0 103).isT lwF.scope σ t >>= fun y => exs (lvl cx0 103) lwF.scope y.2 (if y.1 then b else [])) _
 rw [e]
 refine .bind0 (Q := fun y => y = (false,σ)) (.bind0 h fun y hy => .ret (by rw [hy]; rfl)) fun y hy => ?_
 subst hy
 exact .ret ⟨σ,rfl,rfl⟩
theorem law_pure : Tot 27 (exs (lvl cx0 104) lwF.scope (lwS s none) (lwF.body.drop 1)) isTrueR := by
 rw [lw_body]
 refine Tot.exs_cons (a := 14) (b := 13) (not_if lw1 (callT_ok trees_ok rfl)) fun σ' hσ => ?_
 subst hσ
 refine Tot.exs_cons (a := 13) (b := 0) (not_if lw2 ?_) fun σ' hσ => ?_
 ·refine .bind (m := 1) (m' := 12) (Q := fun y => ∃ b,y = (b,lwS s none)) (.le (isTL (.nil 0) (coll_le lw2c) rfl) (.draw fun r hr => .ret ⟨_,rfl⟩)) fun y hy => ?_
  obtain ⟨b,rfl⟩ := hy
  cases b with
  | true =>
   show Tot 12 ((lvl cx0 101).isT lwF.scope (lwS s none) lwI.2.1) _
   rw [lw2a]
   exact callT_ok commit_ok rfl
  | false =>
   show Tot 12 ((lvl cx0 101).isT lwF.scope (lwS s none) lwI.2.2) _
   rw [lw2b]
   exact .more (m' := 4) (callT_ok tag_ok rfl)
 ·subst hσ
  exact .le (exsL (.nil 0) (coll_le lw3) rfl) (.ret rfl)
end
structure POk (ca : Nat->Addr) (P : Params) (p : Pl) : Prop where
 ca : p.ca = ca
 P : p.P = P
structure HeadF (prog : Program) (w : World) (K : Frag) (ca : Nat->Addr) where
 st : ∀ p,POk ca w.params p->Stat prog w K p cx0
 df : ∀ p h,Defs K p cx0 (st p h).mg (st p h).mb
 xs : ∀ p,POk ca w.params p->ExcSt K p
 sp : ∀ p h,SpecialFacts K (st p h).mg (st p h).mb
 deck : ∀ p h,∃ fa,(st p h).mg (Str.ofString "_law_deck") = some (.ref fa) ∧ keepIn K (.ref fa) = true ∧ FnAt K fa deckFn
noncomputable def lwPos : Nat->Pos := fun i => ((posS 20 (lwB 0))[i]?).getD default
noncomputable def lwRow (p : Nat->Pos) : Stmt := .Assign [nM p 0 "deck"] (.Call (nM p 1 "_law_deck") [nM p 2 "script"] [] (p 3)) (p 4)
theorem lw_text : (lwF.body = lwRow lwPos :: lwF.body.drop 1 ∧ ((lwF.scope.names.map (·.1)).zip lwF.params).all (fun p => seq p.1 p.2) = true) ∧ lwF.params.length = 1 ∧ lwF.scope.names.length = 13 ∧ kindOf lwF.scope.names "deck" = some .local ∧ kindOf lwF.scope.names "_law_deck" = some .globalImplicit ∧ kindOf lwF.scope.names "script" = some .local ∧ idx lwF.scope.names "deck" = 1 ∧ idx lwF.scope.names "script" = 0 :=
 ⟨⟨by kernel_rfl,by kernel_rfl⟩,by kernel_rfl,by kernel_rfl,by kernel_rfl,by kernel_rfl,by kernel_rfl,by kernel_rfl,by kernel_rfl⟩
theorem lw_nocell : lwF.scope.names.all (fun p => match p.2 with | .cell => false | _ => true) = true := by kernel_rfl
theorem no_cell {l : List (Str × NameKind)} (k : l.all (fun p => match p.2 with | .cell => false | _ => true) = true) {x : Str} (h : kindOf l x = some .cell) : False := by
 rw [kindOf_eq,List.lookup_eq_some_iff] at h
 obtain ⟨l1,l2,e,_⟩ := h
 exact noB (List.all_eq_true.mp k (x,.cell) (e ▸ List.mem_append_right _ (.head _)))
theorem getS_rep (n i : Nat) : getS (List.replicate n none) i = none := by
 unfold getS
 rw [List.getElem?_replicate]
 by_cases h : i < n
 ·rw [if_pos h]
 ·rw [if_neg h]
theorem getS_lw {i : Nat} {s : Slot} (h : getS (lwS none none) i = some s) : i = 1 ∧ s = .fz .deck := by
 have h : getS ((List.replicate 13 none).set 1 (some (.fz .deck))) i = some s := h
 rw [getS_set] at h
 by_cases q : 1 = i ∧ 1 < (List.replicate 13 (none : Option Slot)).length
 ·rw [if_pos q] at h
  cases h
  exact ⟨q.1.symm,rfl⟩
 ·rw [if_neg q,getS_rep] at h
  exact noOpt h
theorem DekAt.at_ {P : Params} {D C : Addr} {h h' : Heap} (x : DekAt P D C h) (k : ∀ b,b = D ∨ b = C->h'.get? b = h.get? b) : DekAt P D C h' := by
 refine ⟨x.ne,?_⟩
 rw [k _ (.inl rfl),k _ (.inr rfl)]
 exact x.v
theorem DekAt.ok {p : Pl} {h : Heap} (x : DekAt p.P p.dk p.dc h) : DeckOk p 1000000 h :=
 let ⟨_,_,_,_,z⟩ := x.v; ⟨let ⟨es,n,a,_⟩ := z.dict; ⟨es,n,a⟩,let ⟨_,c⟩ := z.list; ⟨_,c,(fun _ q => by cases q)⟩,.inr ⟨x.ne,_,_,_,_,_,z⟩⟩
section
variable {prog : Program} {w : World} {K : Frag} {ca : Nat->Addr}
theorem law_frame {p : Pl} {e h : Heap} {env : Env} {m : Str->Option Value} (hsc : env.scope = lwF.scope) (KI : K.In e) (keep : ∀ b o,e.get? b = some o->h.get? b = some o)
  (eL : e.get? env.locals = none) (eD : e.get? p.dk = none) (eC : e.get? p.dc = none) (hn : h.Ns env.locals m) (hm : m "deck" = some (.ref p.dk)) (DL : p.dk ≠ env.locals) (CL : p.dc ≠ env.locals) (DA : DekAt p.P p.dk p.dc h) :
  FI K p (hideAll (hideAll h [env.locals]) []) (hideAll (hideAll h [env.locals]) (p.dk :: p.dc :: [] ++ [])) [env.locals] env (fun a => K.lookup a) (fun _ => p.dk) 1000000 (lwS none none) h := by
 have kn : ∀ a,e.get? a = none->K.lookup a = none := fun a q => Ob.keepNone (fun o z => KI a o z) q
 have hid : ∀ b o,b ≠ env.locals->h.get? b = some o->(hideAll h [env.locals]).get? b = some o := fun b o ne q => hideAll_get _ q fun z => ne (List.mem_singleton.mp z)
 have up : ∀ a o,K.lookup a = some o->h.get? a = some o := fun a o q => keep a o (KI a o q)
 obtain ⟨_,_,_,kd,_,_,id1,_⟩ := lw_text
 refine FI.enter (H := []) (fs := []) (wr := []) ⟨fun a o q => hid a o (fun z => nn (KI a o q) (z ▸ eL)) (up a o q),fun _ _ q => q,kn _ eD,kn _ eC,(DekAt.ok DA).at2 (fun o q => hid _ o DL q) fun o q => hid _ o CL q,fun _ q => nomatch q⟩
  (fun b hb => .inl (List.mem_singleton.mp hb)) (fun _ q => nomatch q) (hideAll_none _ (.head _)) (fun b o q => of_hideAll _ q) hn (fun _ q => nomatch q) (Ext.refl _ _) (kn _ eL) up (fun x s hx hs => ?_) (fun x s hx => (no_cell lw_nocell (hsc ▸ hx)).elim) (fun i s hs => ?_) fun i j s s' h1 h2 h3 => ?_
 ·rw [hsc] at hx hs
  obtain ⟨q,rfl⟩ := getS_lw hs
  have : x = "deck" := idx_inj (l := lwF.scope.names) (nn hx) (nn kd) (q.trans id1.symm)
  exact ⟨_,this ▸ hm,.deck⟩
 ·obtain ⟨_,rfl⟩ := getS_lw hs
  trivial
 ·obtain ⟨_,rfl⟩ := getS_lw h1
  exact noB h3
theorem law_call (H : HeadF prog w K ca) {fa : Addr} (hfn : FnAt K fa lwF) {s : Shared} (KI : K.In s.heap) (h6 : s.heap.get? 6 = some emptyDict) (k6 : K.lookup 6 = none) {l : Addr} {vs : List Value} {ns : List Int} {k : Nat}
  (hl : s.heap.get? l = some { cls := .type "list",data := .seq vs.toArray k }) (its : IntsAre vs ns) (hlen : ns.length ≤ 63) {R : Result->Shared->Prop}
  (next : ∀ h' tk,(∀ b o,s.heap.get? b = some o->h'.get? b = some o)->R (.ok (.ret (.bool true))) { s with heap := h',toks := tk }) :
  codeAny (model prog w) callerA (.call (.ref fa) ⟨[.ref l],[]⟩) R s := by
 have l6 : l ≠ 6 := fun e => by
  rw [e,h6] at hl
  have q := congrArg Obj.data (Option.some.inj hl)
  cases q
 obtain ⟨p,pk,hdk,hdc,off⟩ : ∃ p : Pl,POk ca w.params p ∧ p.dk = 6 ∧ p.dc = p.dk ∧ p.off = true := ⟨⟨ca,6,6,true,w.params⟩,⟨rfl,rfl⟩,rfl,rfl,rfl⟩
 obtain ⟨⟨ebody,lnm⟩,lpar,lnl,k1,k2,k3,_,i3⟩ := lw_text
 have φs : ∀ a o,put (fun a => K.lookup a) l { cls := .type "list",data := .seq vs.toArray k } a = some o->s.heap.get? a = some o := fun a o q => by
  by_cases e : a = l
  ·rw [e,put_self] at q; rw [e,hl]; exact q
  ·rw [put_other e] at q; exact KI a o q
 have φK : ∀ a o,K.lookup a = some o->put (fun a => K.lookup a) l { cls := .type "list",data := .seq vs.toArray k } a = some o := fun a o q => by
  by_cases e : a = l
  ·rw [e,put_self,← hl]; exact KI l o (e ▸ q)
  ·rw [put_other e]; exact q
 have φl := put_self (fun a => K.lookup a) l { cls := .type "list",data := .seq vs.toArray k }
 have φ6 : put (fun a => K.lookup a) l { cls := .type "list",data := .seq vs.toArray k } 6 = none := (put_other l6.symm).trans k6
 generalize put (fun a => K.lookup a) l { cls := .type "list",data := .seq vs.toArray k } = φ at φs φK φl φ6
 have h6d := hdk.symm ▸ h6
 have W : WI K p [] φ 1 s.heap := ⟨φs,φK,hdk.symm ▸ φ6,hdc.symm ▸ hdk.symm ▸ φ6,⟨⟨[],0,h6d⟩,⟨_,hdc.symm ▸ h6d,fun _ q => by cases q⟩,.inl ⟨off,hdc,h6d⟩⟩,fun b hb => nomatch hb⟩
 have rep : Reps p φ vs (ns.map .int) := by
  clear hlen hl φl
  induction its with
  | nil => exact .nil
  | cons n t _ ih => exact .cons (.int n t) ih
 have A0 : AOk 112 [] callerA := ⟨rfl,by decide,by decide,[],rfl,rfl,fun _ h => nomatch h⟩
 refine call_enter (n := 111) (H := []) hfn (H.st p pk).lim A0 W (.plain (xs := [.list (ns.map .int)]) (.cons (.list φl (its.length ▸ Nat.le_trans hlen (by decide)) rep) .nil)) lpar lnm fun f A' h₀ tk α₀ e1 e2 e3 e4 e5 e6 ok tp hA' hsc _ I went => ?_
 subst e1 e2 e3 e4
 clear φs φK φl φ6 rep A0 h6d
 rw [show ([PV.list (ns.map .int)].map Slot.fz).map some ++ List.replicate (lwF.scope.names.length - ([PV.list (ns.map .int)].map Slot.fz).length) none = fz (.list (ns.map .int)) :: List.replicate 12 none by rw [lnl]; rfl] at I
 rw [ebody]
 obtain ⟨fd,m1,m2,m3⟩ := H.deck f.p pk
 obtain ⟨m,F,_⟩ := I.loc
 refine wpAny_execs_cons (wpAny_Assign_Name (wpAny_Call_NameR (name_global ok (H.st f.p pk) I (hsc ▸ k2) m1 ?_)) (swaps_no (by rfl)))
 refine callWith_any (K := f.K) (first := []) (.k m2) (by rfl) ?_
 refine Calls.spliced_cons (name_local ok I (by rw [hsc]; exact k3) (by rw [hsc,i3]; rfl) fun v hv => ?_)
 refine Calls.spliced_nil ⟨I.kinH,wpAny_call (deck_call hdc (H.st f.p pk) (H.df f.p pk) (H.xs f.p pk) m3 (hA'.less (by decide)) I.wi hv hlen fun D C h' tk' nD nC kp up DA => ?_)⟩
 have k0 : ∀ b o,s.heap.get? b = some o->h₀.get? b = some o := fun b o q => by
  by_cases hb : b = f.p.dk
  ·rw [hb] at q ⊢
   exact (I.deck.offE hdc).trans ((W.deck.offE hdc).symm.trans q)
  ·exact (went (Ext.refl ..) I).k b o q List.not_mem_nil hb (fun z => hb (z.trans hdc)) List.not_mem_nil
 refine wpAny_storeName_local (kind_env (hsc ▸ k1)) (ns_ups F.ns (up f.env.locals (by rw [e6]; exact .head _))) (fun h'' hn'' sb => ?_) (by rw [ok.kind]; rfl)
 have DL : D ≠ f.env.locals := fun z => I.LT (z ▸ nD)
 have CL : C ≠ f.env.locals := fun z => I.LT (z ▸ nC)
 have eL : s.heap.get? f.env.locals = none := e5 ▸ I.eL
 have eD := none_of_keeps k0 nD
 have eC := none_of_keeps k0 nC
 have ne : ∀ b o,s.heap.get? b = some o->b ≠ f.env.locals := fun b o q z => nn q (z ▸ eL)
 have keep : ∀ b o,s.heap.get? b = some o->h''.get? b = some o := fun b o q => (sb.2 b (ne b o q)).trans (kp b o (k0 b o q) fun z => ne b o q (List.mem_singleton.mp (e6 ▸ z)))
 have hA' : AOk 111 [f.env.locals] A' := e6 ▸ hA'
 have I' := law_frame (p := ⟨ca,D,C,false,f.w.params⟩) hsc KI keep eL eD eC hn'' (if_pos rfl) DL CL (DA.at_ fun b z => sb.2 b (z.elim (fun z => z ▸ DL) fun z => z ▸ CL))
 have pk' : POk ca f.w.params ⟨ca,D,C,false,f.w.params⟩ := ⟨rfl,rfl⟩
 have LV := lvl_snd (c := 6) (H.st _ pk') (H.df _ pk') (special_of rfl (H.st _ pk') (H.df _ pk') (H.xs _ pk') (H.sp _ pk')) (H.xs _ pk') (fun _ _ => Nat.le_refl 6) 104 [f.env.locals] A' hA'
 have X := LV.ex ⟨f.prog,f.w,f.K,⟨ca,D,C,false,f.w.params⟩,hideAll (hideAll h'' [f.env.locals]) [],hideAll (hideAll h'' [f.env.locals]) (D :: C :: [] ++ []),[f.env.locals],f.env⟩ ⟨rfl,rfl,rfl,rfl,rfl⟩ ok ⟨tp.1,tp.2⟩
 refine execs_snd X (lwF.body.drop 1) _ _ _ 1000000 _ { s with heap := h'',toks := _ } _ _ (Le.refl _) I' ?_
 show T.Sat (999973 + 27) (exs (lvl cx0 104) f.env.scope (lwS none none) (lwF.body.drop 1)) _ _
 rw [hsc]
 refine ((law_pure (s := none)).of 999973).mono (fun d' x hx => ?_) fun _ _ _ q => q.elim
 intro v h3 tk3 φ3 α3 _ _ I3 RR
 rw [show x.1 = .ret (.bool true) from hx.2] at RR
 cases RR with
 | ret rr =>
  cases Rep.inv rr
  obtain ⟨_,F3,_⟩ := I3.loc
  exact next h3 tk3 fun b o q => F3.keep b o (hideAll_get _ (hideAll_get _ (keep b o q) fun z => ne b o q (List.mem_singleton.mp z)) fun z => (List.mem_cons.mp z).elim (fun z => nn q (z ▸ eD)) fun z => (List.mem_cons.mp z).elim (fun z => nn q (z ▸ eC)) fun z => nomatch z)
end
noncomputable def cIds : List Nat := [1,2,3,4,5,6]
noncomputable def methRows : List (Nat × DRow) := cIds.flatMap fun c => (clsRows (className c)).map fun q => (c,q)
noncomputable def rows0 : List DRow := (topRows ++ methRows.map (·.2)).filter fun q => q.2.2.defaults.isEmpty
theorem binds0 (fd : FuncData) (g : Nat->Value) : mapA (fun q : DRow => bindArgs { fd with params := q.2.2,defaults := .none } ⟨(List.range q.2.1.params.length).map g,[]⟩) rows0 =
  mapB (fun q => (pure (q.2.1.params.zip ((List.range q.2.1.params.length).map g)) : Sem (List (Str × Value)))) rows0 := by kernel_rfl
theorem range_map (vs : List Value) : (List.range vs.length).map (fun i => vs.getD i .none) = vs := by
 refine List.ext_getElem (by rw [List.length_map,List.length_range]) fun i h1 h2 => ?_
 rw [List.getElem_map,List.getElem_range,List.getD_eq_getElem?_getD,List.getElem?_eq_getElem h2]
 rfl
theorem bind_row {q : DRow} (hq : q ∈ rows0) {fd : FuncData} (hP : fd.params = q.2.2) (hd : fd.defaults = .none) {vs : List Value} (hl : vs.length = q.2.1.params.length) : bindArgs fd ⟨vs,[]⟩ = pure (q.2.1.params.zip vs) := by
 have e := tab (binds0 fd fun i => vs.getD i .none) hq
 rw [← hl,range_map] at e
 rw [show fd = { fd with params := q.2.2,defaults := .none } by rw [← hP,← hd]]
 exact e
noncomputable def needL : List Nat := (List.range 556).filter fun i => Nat.testBit 178297700669269467993516461197503760627033656410945818684135663839699863443878727322845937668138109462777849155557102510299004636171691219506224409069793337123688939535 i
noncomputable def fragOf (h : Heap) : Frag := needL.filterMap fun a => (h.get? a).map fun o => (a,o)
theorem fragOf_mem {h : Heap} {a : Addr} {o : Obj} (e : (fragOf h).lookup a = some o) : a ∈ needL ∧ h.get? a = some o := by
 obtain ⟨l1,l2,q,_⟩ := List.lookup_eq_some_iff.mp e
 have m : (a,o) ∈ fragOf h := q ▸ List.mem_append_right _ (.head _)
 obtain ⟨b,m,hb⟩ := List.mem_filterMap.mp m
 obtain ⟨o',h1,h2⟩ := Option.map_eq_some_iff.mp hb
 cases h2
 exact ⟨m,h1⟩
theorem fragOf_six (h : Heap) : (fragOf h).lookup 6 = none := by
 cases q : (fragOf h).lookup 6 with
 | none => rfl
 | some o => exact absurd (fragOf_mem q).1 (by decide +kernel)
noncomputable def caL : List (Nat × Nat) := [(1,141),(2,204),(3,253),(4,344),(5,379),(6,429)]
noncomputable def caG : List (Nat × Nat)->Nat->Nat
 | [],_ => 52
 | p :: r,c => match Nat.beq p.1 c with
  | true => p.2
  | false => caG r c
noncomputable def ca0 : Nat->Addr := caG caL
noncomputable def refV : Value->Option Addr
 | .ref a => some a
 | _ => none
noncomputable def refA (v : Option (Option Value)) : Option Addr := v.bind fun v => v.bind refV
noncomputable def fdD : Data->Option FuncData
 | .func fd => some fd
 | _ => none
noncomputable def fdA (K : Frag) (v : Option (Option Value)) : Option (Addr × Obj × FuncData) := (refA v).bind fun a => (K.lookup a).bind fun o => (fdD o.data).map fun fd => (a,o,fd)
theorem refV_some {v : Value} {a : Addr} (h : refV v = some a) : v = .ref a := by
 cases v with
 | ref b => cases h; rfl
 | _ => exact noOpt h
theorem fdD_some {v : Data} {a : FuncData} (h : fdD v = some a) : v = .func a := by
 cases v with
 | func b => cases h; rfl
 | _ => exact noOpt h
theorem refA_some {v : Option (Option Value)} {a : Addr} (h : refA v = some a) : v = some (some (.ref a)) := by
 cases v with
 | none => exact noOpt h
 | some v => cases v with
  | none => exact noOpt h
  | some v => exact congrArg (fun v => some (some v)) (refV_some h)
noncomputable abbrev FdRow := Option (FuncBody × Scope × Arguments)
noncomputable def fdRow (K : Frag) (v : Option (Option Value)) : FdRow := (fdA K v).map fun x => (x.2.2.body,x.2.2.scope,x.2.2.params)
noncomputable def rowWant (q : DRow) : FdRow := some (.stmts q.2.1.body,q.2.1.scope,q.2.2)
noncomputable def noneB : Value->Bool
 | .none => true
 | _ => false
noncomputable def seqD : Data->Option (List Value)
 | .seq xs _ => some xs.toList
 | _ => none
noncomputable def dfB (K : Frag) (e : Bool) (v : Value) : Bool := match e with
 | true => noneB v
 | false => match (refV v).bind fun T => (K.lookup T).bind fun o => seqD o.data with
  | some l => Nat.beq l.length 1
  | none => false
structure RowV (K : Frag) (v : Option (Option Value)) (q : DRow) (fa : Addr) (o : Obj) (fd : FuncData) : Prop where
 v : v = some (some (.ref fa))
 fdat : FdAt K fa q.2.1 o fd
 ps : fd.params = q.2.2
 clo : fd.closure = []
 df : dfB K q.2.2.defaults.isEmpty fd.defaults = true
 keep : keepIn K (.ref fa) = true
 fn : isFn K (.ref fa) = true
noncomputable def drowB1 (K : Frag) (e : Bool) (x : Addr × Obj × FuncData) : Bool := Nat.beq x.2.2.globals mainGlobals && (Nat.beq x.2.2.builtins builtinsNs && (x.2.2.closure.isEmpty && (codeIn K x.2.2.code x.2.2.qualname && (dfB K e x.2.2.defaults && (keepIn K (.ref x.1) && isFn K (.ref x.1))))))
noncomputable def drowB (K : Frag) (v : Option (Option Value)) (q : DRow) : Bool := match fdA K v with
 | some x => drowB1 K q.2.2.defaults.isEmpty x
 | none => false
section
variable {K : Frag}
theorem drow_of {v : Option (Option Value)} {q : DRow} (h : drowB K v q = true) (r : fdRow K v = rowWant q) : ∃ fa o fd,RowV K v q fa o fd := by
 have h : (match fdA K v with
  | some x => drowB1 K q.2.2.defaults.isEmpty x
  | none => false) = true := h
 unfold fdRow at r
 cases e : fdA K v with
 | none => rw [e] at h; exact noB h
 | some x =>
  rw [e] at h r
  obtain ⟨a,e1,e⟩ := Option.bind_eq_some_iff.mp e
  obtain ⟨o,e2,e⟩ := Option.bind_eq_some_iff.mp e
  obtain ⟨fd,e3,e⟩ := Option.map_eq_some_iff.mp e
  subst e
  injection r with r
  injection r with r1 r
  injection r with r2 r3
  refine and2 h fun h1 h => and2 h fun h2 h => and2 h fun h3 h => and2 h fun h4 h => and2 h fun h5 h => and2 h fun h6 h7 => ?_
  exact ⟨a,o,fd,refA_some e1,⟨e2,fdD_some e3,r1,r2,Nat.eq_of_beq_eq_true h1,Nat.eq_of_beq_eq_true h2,fun _ X => codeRec_of X h4⟩,r3,List.isEmpty_iff.mp h3,h5,h6,h7⟩
noncomputable def fnOkB (fn : Fn) : Bool := !fn.scope.isCoroutine && (!fn.scope.isGenerator && (fn.scope.kind == .function && (kindOf fn.scope.names "__debug__").isNone))
noncomputable def noCellB (l : List (Str × NameKind)) : Bool := l.all fun x => x.2 != .cell
noncomputable def plainB (fn : Fn) : Bool := fnOkB fn && (noCellB fn.scope.names && (fn.params.all (fun x => kindOf fn.scope.names x == some .local) && decide fn.params.Nodup))
noncomputable def cellB1 (x : Str) : List (Str × NameKind)->Bool
 | [] => false
 | p :: r => seq p.1 x && (p.2 == .cell && noCellB r)
noncomputable def cellB2 (l : List (Str × NameKind)) : List Str->Bool
 | [] => false
 | x :: r => r.isEmpty && cellB1 x l
noncomputable def cellB (fn : Fn) : Bool := fnOkB fn && cellB2 fn.scope.names fn.params
noncomputable def isHex (q : DRow) : Bool := seq q.1 "_law_hex"
theorem text_ok : (rows0.all fun q => plainB q.2.1 || (cellB q.2.1 || isHex q)) = true := by kernel_rfl
theorem noCell {l : List (Str × NameKind)} (h : noCellB l = true) : ∀ x ∈ l,x.2 ≠ .cell := fun x hx e => by
 have := List.all_eq_true.mp h x hx
 rw [e] at this
 exact noB this
theorem df_none {v : Value} (h : dfB K true v = true) : v = .none := by
 cases v with
 | none => rfl
 | _ => exact noB h
theorem RowV.noDf {v : Option (Option Value)} {q : DRow} {fa : Addr} {o : Obj} {fd : FuncData} (R : RowV K v q fa o fd) (hq : q ∈ rows0) : dfB K true fd.defaults = true := by
 have h := R.df
 rw [(List.mem_filter.mp hq).2] at h
 exact h
theorem fn_of {v : Option (Option Value)} {q : DRow} {fa : Addr} {o : Obj} {fd : FuncData} (R : RowV K v q fa o fd) (h : plainB q.2.1 = true) (hb : ∀ s : Shared,K.In s.heap->∀ vals : List Value,vals.length = q.2.1.params.length->BindsTo s fd ⟨vals,[]⟩ (q.2.1.params.zip vals)) : FnAt K fa q.2.1 :=
 and2 h fun h1 h => and2 h fun h2 h => and2 h fun h3 h4 => and2 h1 fun a b => and2 b fun b c => and2 c fun c d =>
  ⟨⟨o,fd,R.fdat,hb⟩,(Bool.not_eq_true' _).mp a,(Bool.not_eq_true' _).mp b,eq_of_beq c,noCell h2,fun x hx => (kindOf_eq _ _).symm.trans (eq_of_beq (List.all_eq_true.mp h3 x hx)),of_decide_eq_true h4,Option.isNone_iff_eq_none.mp d⟩
theorem plain_of {v : Option (Option Value)} {q : DRow} {fa : Addr} {o : Obj} {fd : FuncData} (R : RowV K v q fa o fd) (hq : q ∈ rows0) (h : plainB q.2.1 = true) : FnAt K fa q.2.1 :=
 fn_of R h fun _ _ _ hl => .of_eq (bind_row hq R.ps (df_none (R.noDf hq)) hl)
theorem def_of {v : Option (Option Value)} {q : DRow} {fa : Addr} {o : Obj} {fd : FuncData} (R : RowV K v q fa o fd) (hq : q ∈ rows0) (nh : isHex q = false) : DefAt K fa q.2.1 := by
 rcases (Bool.or_eq_true_iff ..).mp (List.all_eq_true.mp text_ok q hq) with h | h
 ·exact .plain (plain_of R hq h)
 ·refine and2 ((Bool.or_eq_true_iff ..).mp h |>.resolve_right fun z => noB (nh.symm.trans z)) fun h1 h => ?_
  have hb := fun v : Value => bind_row (vs := [v]) hq R.ps (df_none (R.noDf hq))
  have F := R.fdat
  generalize q.2.1 = fn at F h h1 hb
  obtain ⟨nm,ps,sc,body⟩ := fn
  cases ps with
  | nil => exact noB h
  | cons x r =>
   refine and2 h fun h2 h => ?_
   cases List.isEmpty_iff.mp h2
   have h : cellB1 x sc.names = true := h
   cases hn : sc.names with
   | nil => rw [hn] at h; exact noB h
   | cons p r' =>
    rw [hn] at h
    obtain ⟨y,k⟩ := p
    refine and2 h fun h3 h => and2 h fun h4 h5 => and2 h1 fun a b => and2 b fun b c => and2 c fun c d => .cell (x := x) ⟨⟨o,fd,F,R.clo,fun v => hb v rfl⟩,(Bool.not_eq_true' _).mp a,(Bool.not_eq_true' _).mp b,eq_of_beq c,rfl,⟨r',?_,noCell h5⟩,Option.isNone_iff_eq_none.mp d⟩
    rw [← seq_iff.mp h3,← show k = .cell from eq_of_beq h4]
    exact hn
end
theorem seqD_some {d : Data} {l : List Value} (h : seqD d = some l) : ∃ n,d = .seq l.toArray n := by
 cases d with
 | seq xs n => cases h; exact ⟨n,rfl⟩
 | _ => exact noOpt h
theorem len1 {α : Type} {l : List α} (h : Nat.beq l.length 1 = true) : ∃ x,l = [x] := by
 cases l with
 | nil => exact noB h
 | cons x l => cases l with
  | cons => exact noB h
  | nil => exact ⟨x,rfl⟩
theorem refV_eq {v : Value} {K : Frag} (h : dfB K false v = true) : ∃ T o x n,v = .ref T ∧ K.lookup T = some o ∧ o.data = .seq #[x] n := by
 have h : (match (refV v).bind fun T => (K.lookup T).bind fun o => seqD o.data with
  | some l => Nat.beq l.length 1
  | none => false) = true := h
 cases e : (refV v).bind fun T => (K.lookup T).bind fun o => seqD o.data with
 | none => rw [e] at h; exact noB h
 | some l =>
  rw [e] at h
  obtain ⟨T,e1,e⟩ := Option.bind_eq_some_iff.mp e
  obtain ⟨o,e2,e⟩ := Option.bind_eq_some_iff.mp e
  obtain ⟨x,rfl⟩ := len1 h
  exact (seqD_some e).imp' (fun _ => T) fun n z => ⟨o,x,n,refV_some e1,e2,z⟩
noncomputable def initRow (c : Str) : DRow := ((clsRows c).find? fun q => seq q.1 "__init__").getD default
noncomputable def tagRow : DRow := initRow "Tag"
noncomputable def gitRow : DRow := initRow "GitError"
theorem bind_last {fd : FuncData} {P : Arguments} {T : Addr} {s : Shared} {o : Obj} {xs : Array Value} {n : Nat} {vs : List Value} {bs : List (Str × Value)} {k : FuncData->Option (Array Value)->Sem (List (Str × Value))} (hP : fd.params = P) (hd : fd.defaults = .ref T) (ho : s.heap.get? T = some o) (hs : o.data = .seq xs n)
  (h1 : ∀ fd : FuncData,bindArgs { fd with params := P,defaults := .ref T } ⟨vs,[]⟩ = seqItems? (.ref T) >>= k fd) (h2 : ∀ fd,k fd (some xs) = pure bs) : BindsTo s fd ⟨vs,[]⟩ bs := by
 rw [show fd = { fd with params := P,defaults := .ref T } by rw [← hP,← hd]]
 exact BindsTo.of_defaults rfl ho hs (h1 fd) (h2 fd)
theorem tag_binds {fd : FuncData} (hP : fd.params = tagRow.2.2) {T : Addr} (hd : fd.defaults = .ref T) {s : Shared} {v : Value} {n : Nat} {o : Obj} (ho : s.heap.get? T = some o) (hs : o.data = .seq #[v] n) (g : Nat->Value) :
  BindsTo s fd ⟨(List.range 7).map g,[]⟩ (tagRow.2.1.params.zip ((List.range 7).map g)) := bind_last hP hd ho hs (fun _ => rfl) fun _ => rfl
theorem git_binds {fd : FuncData} (hP : fd.params = gitRow.2.2) {T : Addr} (hd : fd.defaults = .ref T) {s : Shared} {v : Value} {n : Nat} {o : Obj} (ho : s.heap.get? T = some o) (hs : o.data = .seq #[v] n) (g : Nat->Value) :
  BindsTo s fd ⟨(List.range 2).map g,[]⟩ (gitRow.2.1.params.zip ((List.range 2).map g)) := bind_last hP hd ho hs (fun _ => rfl) fun _ => rfl
noncomputable def topV (K : Frag) (q : DRow) : Option (Option Value) := nsIn K mainGlobals q.1
noncomputable def methV (K : Frag) (r : Nat × DRow) : Option (Option Value) := findIn K (.ref (ca0 r.1)) r.2.1
noncomputable def gitV (K : Frag) : Option (Option Value) := findIn K (.ref 52) "__init__"
noncomputable def nsB (K : Frag) : Bool := nsOkIn K mainGlobals && (nsOkIn K builtinsNs && (nsOkIn K cStatics && ((nsIn K cStatics "sys.recursionlimit" == some none) && (K.lookup sysModules).isSome)))
noncomputable def objSet : Option (Option Value) := some (some (.builtin "object.__setattr__"))
noncomputable def attrB (K : Frag) (c : Addr) (a : Str) : Bool := plainGet K c a && (hasDictIn K c && ((findIn K (.ref c) a == some none) && ((findIn K (.ref c) "__setattr__" == objSet) && (plainOver K c && (takerIn K c a == some none)))))
noncomputable def attrsB (K : Frag) : Bool := cIds.all fun c => (attrTable c).all fun a => attrB K (ca0 c) a
noncomputable def okV : Value->Bool
 | .int _ _ => true
 | .str s _ => Nat.ble s.cps.size lineB
 | .bytes b _ => Nat.ble b.size lineB
 | _ => false
noncomputable def pvOf : Value->PV
 | .int i _ => .int i
 | .str s _ => .str s
 | .bytes b _ => .byt b
 | _ => .none
noncomputable def tupO (o : Obj) : Option (List Value) := match o.cls == .type "tuple" with
 | true => seqD o.data
 | false => none
noncomputable def tupPV (l : List Value) : Option PV := match l.all okV && Nat.ble l.length lineB with
 | true => some (.tup (l.map pvOf))
 | false => none
noncomputable def toPV (K : Frag) (v : Value) : Option PV := match okV v with
 | true => some (pvOf v)
 | false => (refV v).bind fun T => (K.lookup T).bind fun o => (tupO o).bind tupPV
noncomputable def valPV (K : Frag) (x : Str) : Option PV := (nsIn K mainGlobals x).bind fun v => v.bind (toPV K)
noncomputable def isV (K : Frag) (x : Str) (v : Value) : Bool := (nsIn K mainGlobals x == some none) && (nsIn K builtinsNs x == some (some v))
noncomputable def bisX : List (Str × Value) := [("range",.type "range"),("enumerate",.type "enumerate"),("sorted",.builtin "sorted"),("bytes",.type "bytes")]
noncomputable def bisB (K : Frag) : Bool := (biTable.all fun p => isV K p.1 (biVal p.2)) && bisX.all fun p => isV K p.1 p.2
noncomputable def clsB (K : Frag) : Bool := clsTable.all fun q => (nsIn K mainGlobals q.1 == some (some (.ref (ca0 q.2.1)))) && (keepIn K (.ref (ca0 q.2.1)) && (q.2.2.2.2 || makesIn K (ca0 q.2.1)))
noncomputable def topB (K : Frag) : Bool := topRows.all fun q => drowB K (topV K q) q
noncomputable def methB (K : Frag) : Bool := methRows.all fun r => drowB K (methV K r) r.2 && plainGet K (ca0 r.1) r.2.1
noncomputable def gitB (K : Frag) : Bool := drowB K (gitV K) gitRow && ((findIn K (.ref 52) "__setattr__" == objSet) && ((findIn K (.ref 52) "__getattribute__" == some (some (.builtin "BaseException.__getattribute__"))) && ((findIn K (.ref 52) "told" == some none) && (findIn K (.ref 52) "__getattr__" == some none))))
noncomputable def excW : Obj := excClassObj "BadObject" "BadObject" 52 51 [.ref 39] [.ref 39,.type "Exception",.type "BaseException",.type "object"] true [] [] false none none (some (.ref 43)) none (some (.str "BadObject" 240)) (some (.str "BadObject" 248)) (some (.bool true)) "Exception.__new__"
structure HeadC (K : Frag) : Prop where
 n : nsB K = true
 a : attrsB K = true
 c : clsB K = true
 b : bisB K = true
 t : topB K = true
 m : methB K = true
 g : gitB K = true
 x : K.lookup 52 = some excW
 v : (valTable.map fun p => valPV K p.1) = valTable.map fun p => some p.2
 rt : (topRows.map fun q => fdRow K (topV K q)) = topRows.map rowWant
 rm : (methRows.map fun r => fdRow K (methV K r)) = methRows.map fun r => rowWant r.2
 rg : fdRow K (gitV K) = rowWant gitRow
section
variable {K : Frag} {hh h : Heap}
theorem okV_rep {p : Pl} {φ : Ob} {v : Value} (k : okV v = true) : Rep p φ v (pvOf v) := by
 cases v with
 | int i t => exact .int i t
 | str s t => exact .str s t (Nat.le_of_ble_eq_true k)
 | bytes b t => exact .byt b t (Nat.le_of_ble_eq_true k)
 | _ => exact noB k
theorem okVs_rep {p : Pl} {φ : Ob} {l : List Value} (k : l.all okV = true) : Reps p φ l (l.map pvOf) := by
 induction l with
 | nil => exact .nil
 | cons v r ih => exact and2 k fun a b => .cons (okV_rep a) (ih b)
theorem toPV_rep {p : Pl} {v : Value} {x : PV} (k : toPV K v = some x) : Rep p (fun a => K.lookup a) v x := by
 have k : (match okV v with
  | true => some (pvOf v)
  | false => (refV v).bind fun T => (K.lookup T).bind fun o => (tupO o).bind tupPV) = some x := k
 cases e : okV v with
 | true => rw [e] at k; cases k; exact okV_rep e
 | false =>
  rw [e] at k
  obtain ⟨T,e1,k⟩ := Option.bind_eq_some_iff.mp k
  obtain ⟨o,e2,k⟩ := Option.bind_eq_some_iff.mp k
  obtain ⟨l,e3,k⟩ := Option.bind_eq_some_iff.mp k
  unfold tupO at e3
  unfold tupPV at k
  cases q : o.cls == .type "tuple" with
  | false => rw [q] at e3; exact noOpt e3
  | true =>
   rw [q] at e3
   obtain ⟨n,e3⟩ := seqD_some e3
   cases z : l.all okV && Nat.ble l.length lineB with
   | false => rw [z] at k; exact noOpt k
   | true =>
    rw [z] at k
    cases k
    rw [refV_some e1]
    exact and2 z fun a b => .tup e2 (eq_of_beq q) e3 (Nat.le_of_ble_eq_true b) (okVs_rep a)
theorem ns_of {N : Addr} (e : nsOkIn K N = true) (X : K.In hh) (h : Heap) (X' : K.In h) : h.Ns N (hh.nsMap N) := by
 have a := Heap.Ns.of_isNs (isNs_of_in X' e)
 cases q : K.lookup N with
 | none => unfold nsOkIn at e; rw [q] at e; exact noB e
 | some o => rwa [show h.nsMap N = hh.nsMap N by unfold Heap.nsMap; rw [X' _ _ q,X _ _ q]] at a
theorem mgOf {N : Addr} (e : nsOkIn K N = true) (X : K.In hh) {x : Str} {v : Value} (q : nsIn K N x = some (some v)) : hh.nsMap N x = some v := by
 obtain ⟨o,es,ep,ho,hd,_,hf⟩ := ns_of e X hh X
 rw [← hf]
 unfold nsIn at q
 cases r : K.lookup N with
 | none => rw [r] at q; cases q
 | some o' =>
  cases ho.symm.trans (X _ _ r)
  obtain ⟨_,_,_,_⟩ := o
  cases hd
  rw [r] at q
  unfold nsFind findBy
  rw [← Array.find?_toList]
  have q : (match es.toList.find? (·.key.isStr x) with
   | some e => some (some e.val)
   | none => if es.toList.any (·.refKey) = true then none else some none) = some (some v) := q
  cases z : es.toList.find? (·.key.isStr x) with
  | some e' => rw [z] at q; cases q; rfl
  | none =>
   rw [z] at q
   cases w : es.toList.any (·.refKey) <;> rw [w] at q <;> cases q
theorem nsS (H : HeadC K) : nsOkIn K mainGlobals = true ∧ nsOkIn K builtinsNs = true ∧ nsOkIn K cStatics = true ∧ nsIn K cStatics "sys.recursionlimit" = some none ∧ (K.lookup sysModules).isSome = true :=
 and2 H.n fun a b => and2 b fun b c => and2 c fun c d => and2 d fun d e => ⟨a,b,c,eq_of_beq d,e⟩
theorem isV_of (H : HeadC K) (X : K.In hh) {x : Str} {v : Value} (k : isV K x v = true) : hh.nsMap mainGlobals x = none ∧ hh.nsMap builtinsNs x = some v :=
 and2 k fun a b => ⟨nsMap_none_of_in X (nsS H).1 (eq_of_beq a),mgOf (nsS H).2.1 X (eq_of_beq b)⟩
theorem attr_ids {c : Nat} {a : Str} (h : cx0.attr c a = true) : c ∈ cIds ∧ a ∈ attrTable c := by
 have h : (attrTable c).any (seq · a) = true := h
 obtain ⟨x,hx,e⟩ := List.any_eq_true.mp h
 refine ⟨?_,seq_iff.mp e ▸ hx⟩
 match c,hx with
 | 1,_ => exact .head _
 | 2,_ => exact .tail _ (.head _)
 | 3,_ => exact .tail _ (.tail _ (.head _))
 | 4,_ => exact .tail _ (.tail _ (.tail _ (.head _)))
 | 5,_ => exact .tail _ (.tail _ (.tail _ (.tail _ (.head _))))
 | 6,_ => exact .tail _ (.tail _ (.tail _ (.tail _ (.tail _ (.head _)))))
theorem attr_of (H : HeadC K) {c : Nat} {a : Str} (h : cx0.attr c a = true) : attrB K (ca0 c) a = true := List.all_eq_true.mp (List.all_eq_true.mp H.a c (attr_ids h).1) a (attr_ids h).2
theorem val_of (H : HeadC K) {p : Str × PV} (h : p ∈ valTable) : ∃ u,nsIn K mainGlobals p.1 = some (some u) ∧ toPV K u = some p.2 := by
 obtain ⟨v,e1,e⟩ := Option.bind_eq_some_iff.mp ((List.map_inj_left.mp H.v) p h)
 obtain ⟨u,rfl,e⟩ := Option.bind_eq_some_iff.mp e
 exact ⟨u,e1,e⟩
theorem gT_val {x : Str} {v : PV} (h : (x,.val v) ∈ gTable) : (x,v) ∈ valTable := by
 rcases List.mem_append.mp h with h | h
 ·exact noB (List.all_eq_true.mp (show (gSpec.all fun p => match p.2 with | .val _ => false | _ => true) = true from rfl) _ h)
 rcases List.mem_append.mp h with h | h
 ·obtain ⟨p,hp,e⟩ := List.mem_map.mp h
  cases e
  exact hp
 ·obtain ⟨p,hp,e⟩ := List.mem_map.mp h
  cases e
theorem gT_bi {x : Str} {v : Bi} (h : (x,.bi v) ∈ gTable) : (x,v) ∈ biTable := by
 rcases List.mem_append.mp h with h | h
 ·exact noB (List.all_eq_true.mp (show (gSpec.all fun p => match p.2 with | .bi _ => false | _ => true) = true from rfl) _ h)
 rcases List.mem_append.mp h with h | h
 ·obtain ⟨p,hp,e⟩ := List.mem_map.mp h
  cases e
 ·obtain ⟨p,hp,e⟩ := List.mem_map.mp h
  cases e
  exact hp
noncomputable def statOf (prog : Program) (w : World) (H : HeadC K) (X : K.In hh) (p : Pl) (k : POk ca0 w.params p) : Stat prog w K p cx0 where
 mg := hh.nsMap mainGlobals
 mb := hh.nsMap builtinsNs
 nsg := ns_of (nsS H).1 X
 nsb := ns_of (nsS H).2.1 X
 lim := fun h X' => ⟨_,.of_isNs (isNs_of_in X' (nsS H).2.2.1),nsMap_none_of_in X' (nsS H).2.2.1 (nsS H).2.2.2.1⟩
 attrs := fun c a h => by
  rw [k.ca]
  exact and2 (attr_of H h) fun a b => and2 b fun b c => and2 c fun c d => ⟨a,b,eq_of_beq c⟩
 sets := fun c a h => by
  rw [k.ca]
  exact and2 (attr_of H h) fun a b => and2 b fun b c => and2 c fun c d => and2 d fun d e => and2 e fun e f => ⟨eq_of_beq d,e,eq_of_beq f⟩
 hP := k.P
 sysm := (nsS H).2.2.2.2
 val := fun x pv h => glob_inv h (fun m => let ⟨u,a,b⟩ := val_of H (gT_val m); ⟨u,mgOf (nsS H).1 X a,toPV_rep b⟩) (fun _ _ _ _ e => nomatch e) fun _ _ _ e => nomatch e
end
theorem top_df : (topRows.all fun q => q.2.2.defaults.isEmpty) = true := by kernel_rfl
theorem meth_df : (methRows.filter fun r => !r.2.2.2.defaults.isEmpty) = [(6,tagRow)] := by kernel_rfl
theorem tag_text : (plainB tagRow.2.1 = true ∧ tagRow.2.1.params.length = 7 ∧ tagRow.2.2.defaults.isEmpty = false) ∧ plainB gitRow.2.1 = true ∧ gitRow.2.1.params.length = 2 ∧ gitRow.2.2.defaults.isEmpty = false := ⟨⟨by kernel_rfl,by kernel_rfl,by kernel_rfl⟩,by kernel_rfl,by kernel_rfl,by kernel_rfl⟩
theorem in_rows0 {q : DRow} (h : q ∈ topRows) : q ∈ rows0 := List.mem_filter.mpr ⟨List.mem_append_left _ h,List.all_eq_true.mp top_df q h⟩
section
variable {K : Frag} {hh : Heap}
theorem last_of {v : Option (Option Value)} {q : DRow} {fa : Addr} {o : Obj} {fd : FuncData} {n : Nat} (R : RowV K v q fa o fd) (hp : plainB q.2.1 = true) (hn : q.2.1.params.length = n) (hd : q.2.2.defaults.isEmpty = false)
  (hb : ∀ {fd : FuncData},fd.params = q.2.2->∀ {T : Addr},fd.defaults = .ref T->∀ {s : Shared} {v : Value} {m : Nat} {o : Obj},s.heap.get? T = some o->o.data = .seq #[v] m->∀ g : Nat->Value,BindsTo s fd ⟨(List.range n).map g,[]⟩ (q.2.1.params.zip ((List.range n).map g))) : FnAt K fa q.2.1 :=
 fn_of R hp fun s X vals hl => by
  have df := R.df
  rw [hd] at df
  obtain ⟨T,o,x,m,e,e1,e2⟩ := refV_eq df
  have z := hb R.ps e (X _ _ e1) e2 fun i => vals.getD i .none
  rw [← hn,← hl,range_map] at z
  exact z
theorem topDef (H : HeadC K) {q : DRow} (hq : q ∈ topRows) : ∃ fa o fd,RowV K (topV K q) q fa o fd := drow_of (List.all_eq_true.mp H.t q hq) ((List.map_inj_left.mp H.rt) q hq)
theorem fnDef (H : HeadC K) {x : Str} {f : Fn} (h : fnNamed x = some f) (nh : seq x "_law_hex" = false) : ∃ fa,nsIn K mainGlobals x = some (some (.ref fa)) ∧ DefAt K fa f ∧ keepIn K (.ref fa) = true := by
 obtain ⟨P,hq⟩ := (fnNamed_some h).1
 obtain ⟨fa,o,fd,R⟩ := topDef H hq
 exact ⟨fa,R.v,def_of R (in_rows0 hq) nh,R.keep⟩
theorem plainDef (H : HeadC K) {x : Str} {f : Fn} (h : fnNamed x = some f) (hp : plainB f = true) : ∃ fa,nsIn K mainGlobals x = some (some (.ref fa)) ∧ keepIn K (.ref fa) = true ∧ FnAt K fa f := by
 obtain ⟨P,hq⟩ := (fnNamed_some h).1
 obtain ⟨fa,o,fd,R⟩ := topDef H hq
 exact ⟨fa,R.v,R.keep,plain_of R (in_rows0 hq) hp⟩
theorem hex_is : fnNamed "_law_hex" = some hexFn ∧ hexFn.params = [Str.ofString "oid"] := ⟨by kernel_rfl,by kernel_rfl⟩
theorem hexDef (H : HeadC K) : ∃ fa,nsIn K mainGlobals (Str.ofString "_law_hex") = some (some (.ref fa)) ∧ keepIn K (.ref fa) = true ∧ FnAtH K fa := by
 obtain ⟨P,hq⟩ := (fnNamed_some hex_is.1).1
 obtain ⟨fa,o,fd,R⟩ := topDef H hq
 refine ⟨fa,R.v,R.keep,o,fd,R.fdat,R.clo,fun v => ?_⟩
 have z := bind_row (vs := [v]) (in_rows0 hq) R.ps (df_none (R.noDf (in_rows0 hq))) (hex_is.2 ▸ rfl)
 rw [hex_is.2] at z
 exact z
theorem methDef (H : HeadC K) {r : Nat × DRow} (hr : r ∈ methRows) (nh : isHex r.2 = false) : plainGet K (ca0 r.1) r.2.1 = true ∧ ∃ fa,findIn K (.ref (ca0 r.1)) r.2.1 = some (some (.ref fa)) ∧ isFn K (.ref fa) = true ∧ DefAt K fa r.2.2.1 ∧ keepIn K (.ref fa) = true :=
 and2 (List.all_eq_true.mp H.m r hr) fun a b => by
  obtain ⟨fa,o,fd,R⟩ := drow_of a ((List.map_inj_left.mp H.rm) r hr)
  refine ⟨b,fa,R.v,R.fn,?_,R.keep⟩
  cases e : r.2.2.2.defaults.isEmpty with
  | true => exact def_of R (List.mem_filter.mpr ⟨List.mem_append_right _ (List.mem_map.mpr ⟨r,hr,rfl⟩),e⟩) nh
  | false =>
   have m : r ∈ methRows.filter fun r => !r.2.2.2.defaults.isEmpty := List.mem_filter.mpr ⟨hr,by rw [e]; rfl⟩
   rw [meth_df] at m
   obtain rfl := List.mem_singleton.mp m
   obtain ⟨⟨t1,t2,t3⟩,_⟩ := tag_text
   exact .plain (last_of R t1 t2 t3 tag_binds)
theorem meth_nohex : (methRows.all fun r => !isHex r.2) = true := by kernel_rfl
theorem methAtC (H : HeadC K) {c : Nat} {m : Str} {f : Fn} (hc : c ∈ cIds) (h : methNamed (className c) m = some f) : plainGet K (ca0 c) m = true ∧ ∃ fa,findIn K (.ref (ca0 c)) m = some (some (.ref fa)) ∧ isFn K (.ref fa) = true ∧ DefAt K fa f ∧ keepIn K (.ref fa) = true := by
 obtain ⟨P,q⟩ := (methNamed_some h).1
 have hr : (c,(m,f,P)) ∈ methRows := List.mem_flatMap.mpr ⟨c,hc,List.mem_map.mpr ⟨_,q,rfl⟩⟩
 exact methDef H hr ((Bool.not_eq_true' _).mp (List.all_eq_true.mp meth_nohex _ hr))
theorem cls_rows : clsTable.all (fun q => q.2.2.2.2 || ((cIds.any fun c => Nat.beq c q.2.1) && seq q.2.2.1 (className q.2.1))) = true := by kernel_rfl
theorem clsDef (H : HeadC K) {x : Str} {c : Nat} {nm : Str} {own exc : Bool} {init : Fn} (hm : (x,c,nm,own,exc) ∈ clsTable) (hi : methNamed nm "__init__" = some init) :
  nsIn K mainGlobals x = some (some (.ref (ca0 c))) ∧ keepIn K (.ref (ca0 c)) = true ∧ (exc = false->makesIn K (ca0 c) = true ∧ ∃ fI,findIn K (.ref (ca0 c)) "__init__" = some (some (.ref fI)) ∧ isFn K (.ref fI) = true ∧ DefAt K fI init) :=
 and2 (List.all_eq_true.mp H.c _ hm) fun a b => and2 b fun b d => ⟨eq_of_beq a,b,fun he => by
  subst he
  refine ⟨d,and2 (List.all_eq_true.mp cls_rows _ hm) fun k1 k2 => ?_⟩
  obtain ⟨c',hc,e⟩ := List.any_eq_true.mp k1
  obtain rfl := Nat.eq_of_beq_eq_true e
  rw [show nm = className _ from seq_iff.mp k2] at hi
  obtain ⟨_,fa,h1,h2,h3,_⟩ := methAtC H hc hi
  exact ⟨fa,h1,h2,h3⟩⟩
noncomputable def gitPos : Nat->Pos := fun i => ((gitRow.2.1.body.flatMap (posS 20))[i]?).getD default
theorem git_is : gitRow.2.1.params = [("self" : Str),("told" : Str)] ∧ gitRow.2.1.body = [.Assign [.Attribute (.Name "self" (gitPos 0)) "told" (gitPos 1)] (.Name "told" (gitPos 2)) (gitPos 3)] := ⟨by kernel_rfl,by kernel_rfl⟩
theorem excOf (H : HeadC K) {w : World} (p : Pl) (k : POk ca0 w.params p) : ExcSt K p := by
 have e7 : p.ca 7 = 52 := by rw [k.ca]; rfl
 refine and2 H.g fun a b => and2 b fun b c => and2 c fun c d => and2 d fun d e => ?_
 obtain ⟨fa,o,fd,R⟩ := drow_of a H.rg
 obtain ⟨_,t1,t2,t3⟩ := tag_text
 rw [← e7] at b c d e
 exact ⟨e7 ▸ ⟨_,_,_,_,_,_,_,_,_,_,_,_,_,_,_,H.x⟩,e7 ▸ ⟨fa,gitRow.2.1,R.v,R.fn,last_of R t1 t2 t3 git_binds,git_is.1,_,_,_,_,git_is.2⟩,eq_of_beq b,eq_of_beq c,eq_of_beq d,eq_of_beq e⟩
theorem sp_is : ((plainB drawFn = true ∧ plainB keyFn = true) ∧ plainB deckFn = true ∧ plainB lwF = true) ∧ (fnNamed "_law_draw" = some drawFn ∧ fnNamed "_law_key" = some keyFn) ∧ fnNamed "_law_deck" = some deckFn ∧ fnNamed "law" = some lwF := ⟨⟨⟨by kernel_rfl,by kernel_rfl⟩,by kernel_rfl,by kernel_rfl⟩,⟨by kernel_rfl,by kernel_rfl⟩,by kernel_rfl,by kernel_rfl⟩
theorem bX (H : HeadC K) (X : K.In hh) {x : Str} {v : Value} (h : (x,v) ∈ bisX) : hh.nsMap mainGlobals x = none ∧ hh.nsMap builtinsNs x = some v := and2 H.b fun _ b => isV_of H X (List.all_eq_true.mp b _ h)
theorem meth_in {c : Nat} (h : (Nat.ble 1 c && Nat.ble c 6) = true) : c ∈ cIds := by
 match c with
 | 0 => exact noB h
 | 1 => exact .head _
 | 2 => exact .tail _ (.head _)
 | 3 => exact .tail _ (.tail _ (.head _))
 | 4 => exact .tail _ (.tail _ (.tail _ (.head _)))
 | 5 => exact .tail _ (.tail _ (.tail _ (.tail _ (.head _))))
 | 6 => exact .tail _ (.tail _ (.tail _ (.tail _ (.tail _ (.head _)))))
 | n + 7 => exact noB h
theorem hex_no {x : Str} (h : lookS gTable x = none) : seq x "_law_hex" = false := by
 cases e : seq x "_law_hex" with
 | false => rfl
 | true =>
  rw [seq_iff.mp e] at h
  exact noOpt (h.symm.trans (show lookS gTable "_law_hex" = some .hex by kernel_rfl))
theorem dfOf (H : HeadC K) (X : K.In hh) (p : Pl) (hp : p.ca = ca0) : Defs K p cx0 (hh.nsMap mainGlobals) (hh.nsMap builtinsNs) where
 fns := fun x fn h => glob_inv h (fun m => noB (in_gT m)) (fun _ _ _ _ e => nomatch e) fun f hx hf e => by
  cases e
  obtain ⟨fa,h1,h2⟩ := fnDef H hf (hex_no hx)
  exact ⟨fa,mgOf (nsS H).1 X h1,h2⟩
 cls := fun x c init own exc h => glob_inv h (fun m => noB (in_gT m)) (fun q f m hi e => by
  cases e
  rw [hp]
  have := clsDef H m hi
  exact ⟨mgOf (nsS H).1 X this.1,this.2⟩) fun _ _ _ e => nomatch e
 bis := fun x id h => glob_inv h (fun m => and2 H.b fun a _ => isV_of H X (List.all_eq_true.mp a _ (gT_bi m))) (fun _ _ _ _ e => nomatch e) fun _ _ _ e => nomatch e
 rng := bX H X (.head _)
 enm := bX H X (.tail _ (.head _))
 meths := fun c m fn h => by
  have h : (match Nat.ble 1 c && Nat.ble c 6 with
   | true => methNamed (className c) m
   | false => none) = some fn := h
  rw [hp]
  cases e : Nat.ble 1 c && Nat.ble c 6 with
  | true => rw [e] at h; exact methAtC H (meth_in e) h
  | false => rw [e] at h; exact noOpt h
theorem spOf (H : HeadC K) (X : K.In hh) : SpecialFacts K (hh.nsMap mainGlobals) (hh.nsMap builtinsNs) where
 draw := let ⟨fa,h1,h2⟩ := plainDef H sp_is.2.1.1 sp_is.1.1.1; ⟨fa,mgOf (nsS H).1 X h1,h2⟩
 hex := let ⟨fa,h1,h2⟩ := hexDef H; ⟨fa,mgOf (nsS H).1 X h1,h2⟩
 key := let ⟨fa,h1,_,h3⟩ := plainDef H sp_is.2.1.2 sp_is.1.1.2; ⟨fa,mgOf (nsS H).1 X h1,h3⟩
 sorted := bX H X (.tail _ (.tail _ (.head _)))
 bytes := bX H X (.tail _ (.tail _ (.tail _ (.head _))))
noncomputable def headOf (prog : Program) (w : World) (H : HeadC K) (X : K.In hh) : HeadF prog w K ca0 where
 st := statOf prog w H X
 df := fun p h => dfOf H X p h.ca
 xs := excOf H
 sp := fun p h => spOf H X
 deck := fun p h => let ⟨fa,h1,h2⟩ := plainDef H sp_is.2.2.1 sp_is.1.2.1; ⟨fa,mgOf (nsS H).1 X h1,h2⟩
theorem lawDef (H : HeadC K) : ∃ fa,nsIn K mainGlobals (Str.ofString "law") = some (some (.ref fa)) ∧ keepIn K (.ref fa) = true ∧ FnAt K fa lwF := plainDef H sp_is.2.2.2 sp_is.1.2.2
end
end Mine
end
section
open PySem PySem.W PyProof.Rows
set_option maxHeartbeats 0
namespace Mine
open PySem.W.Fast
theorem op_plain : opening pw = plainProg pw.main.scope.names := by kernel_rfl
theorem fence_plain : ∀ s,fenceModules? pw s = some s := fun s => by kernel_rfl
noncomputable def runT (den : Code->Sem PySem.Fin) (p : Program) (w : World) (n₀ : Nat) (ann : Option Value) : Nat->SharedT->Thread->Option SharedT
 | 0,_,_ => none
 | n + 1,s,t => match through t with
  | true => some s
  | false => match stepOk n₀ ann t with
   | false => none
   | true => match stepT den p w s t with
    | some (s',t') => runT den p w n₀ ann n s' t'
    | none => none
theorem runT_of {tb : String->Option Builtin} {p : Program} {w : World} {n₀ : Nat} {ann : Option Value} {n : Nat} : ∀ {s s' : SharedT} {t : Thread},runT (denote tb) p w n₀ ann n s t = some s'->topRun tb p w n₀ ann n s.abs t = some s'.abs := by
 induction n with
 | zero => exact fun h => noOpt h
 | succ n ih =>
  intro s s' t h
  have h : (match through t with
   | true => some s
   | false => match stepOk n₀ ann t with
    | false => none
    | true => match stepT (denote tb) p w s t with
     | some (s',t') => runT (denote tb) p w n₀ ann n s' t'
     | none => none) = some s' := h
  show (match through t with
   | true => some s.abs
   | false => match stepOk n₀ ann t with
    | false => none
    | true => match step (denote tb) p w s.abs t with
     | .go s' t' => topRun tb p w n₀ ann n s' t'
     | .halt _ _ => none) = _
  cases ht : through t with
  | true => rw [ht] at h; cases h; rfl
  | false =>
   rw [ht] at h
   cases hk : stepOk n₀ ann t with
   | false => rw [hk] at h; exact noOpt h
   | true =>
    rw [hk] at h
    cases hs : stepT (denote tb) p w s t with
    | none => rw [hs] at h; exact noOpt h
    | some r =>
     rw [hs] at h
     show (match step (denote tb) p w s.abs t with
      | .go s' t' => topRun tb p w n₀ ann n s' t'
      | .halt _ _ => none) = _
     rw [stepT_spec hs]
     exact ih h
noncomputable def growBT (l : List Obj) : BT × Nat := l.foldl (fun x o => (x.1.ins x.2 o,x.2 + 1)) (.nil,0)
noncomputable def bootT (P : Params) : BT := (growBT (boot_heap P).objs.toList).1
theorem boot_abs (P : Params) : absHeap (bootT P) (boot_heap P).objs.size (boot_heap P).life = boot_heap P := by kernel_rfl
noncomputable def s0 (w : World) (os : OsState) : SharedT := ⟨bootT w.params,11,(boot_heap w.params).life,#[],boot_drawn,boot_toks,os⟩
noncomputable def isLaw (st : Stmt) : Bool := match fnA st with
 | some q => seq q.1 "law"
 | none => false
noncomputable def lawStmt : List Stmt := pw.main.body.filter isLaw
noncomputable def qLaw : Program := { pw with main := { pw.main with body := lawStmt } }
noncomputable def looseL : List Str := pw.boundNames.filter fun n => n != (Str.ofString "law")
noncomputable def ranT (w : World) (os : OsState) : Option SharedT := runT (tw11892475500146522536 tw14364793385576792824) pw w 11 ((boot_heap w.params).nsMap mainGlobals "__annotations__") 7628 (s0 w os) (topStub pw)
open PySem.W.Fast
noncomputable def headB (K : Frag) : Bool := nsB K && (attrsB K && (clsB K && (bisB K && (topB K && (methB K && gitB K)))))
noncomputable abbrev Obs := Bool × Option Obj × Option Obj × List (Option PV) × List FdRow × List FdRow × FdRow
noncomputable def obsK (h : Heap) (K : Frag) : Obs := (headB K,h.get? 6,K.lookup 52,valTable.map (fun p => valPV K p.1),topRows.map (fun q => fdRow K (topV K q)),methRows.map (fun r => fdRow K (methV K r)),fdRow K (gitV K))
noncomputable def obsS (s : Shared) : Obs := obsK s.heap (fragOf s.heap)
noncomputable def obsW (_ : World) : Obs := (true,some emptyDict,some excW,valTable.map (fun p => some p.2),topRows.map rowWant,methRows.map (fun r => rowWant r.2),rowWant gitRow)
noncomputable def seenOne (w : World) (s : Shared) := ((s.heap.isNs mainGlobals && gensDone s && namesBound pw s.heap,staticsOk (importedModules pw.main.body) (boot_heap w.params) s.heap && laidKept (boot_heap w.params) s.heap),openSeen qLaw looseL (importedModules pw.main.body) (fun _ => true) true s)
theorem one_seen : ∀ w os,(ranT w os).map (fun s => seenOne w s.abs) = some ((true,true),openGood qLaw looseL) := fun w os => by kernel_rfl
theorem two_seen : ∀ w os,(ranT w os).map (fun s => obsS s.abs) = some (obsW w) := fun w os => by kernel_rfl
open PySem.W.Fast
theorem s0_abs (w : World) (os : OsState) : (s0 w os).abs = ⟨boot_heap w.params,#[],boot_drawn,boot_toks,os⟩ := by
 show (⟨absHeap (bootT w.params) 11 (boot_heap w.params).life,#[],boot_drawn,boot_toks,os⟩ : Shared) = _
 rw [show absHeap (bootT w.params) 11 (boot_heap w.params).life = boot_heap w.params from boot_abs w.params]
theorem leftO_of {p q : Program} {loose : List Str} {Xt : Shared->Bool} {α : Type} {Yf : Shared->α} {Ya : World->α} {N : Nat} {H₀ : Params->Heap} {gs₀ : Array GenState} {d₀ : Drawn} {k₀ m₀ : Nat} {ann : World->Option Value}
  (open_ : ∀ w : World,(fencedOpening treeTable p w N).map (fun s => (s.heap,s.gens,s.drawn,s.toks)) = some (H₀ w.params,gs₀,d₀,k₀))
  (sz : ∀ w : World,((H₀ w.params).isNs mainGlobals && gs₀.size == 0) = true ∧ (H₀ w.params).objs.size = m₀ ∧ (H₀ w.params).nsMap mainGlobals "__annotations__" = ann w)
  (run : ∀ (w : World) (os : OsState),∃ s₁,topRun treeTable p w m₀ (ann w) N ⟨H₀ w.params,gs₀,d₀,k₀,os⟩ (topStub p) = some s₁ ∧ (staticsOk (importedModules p.main.body) (H₀ w.params) s₁.heap = true ∧ namesBound p s₁.heap = true ∧ gensDone s₁ = true ∧ laidKept (H₀ w.params) s₁.heap = true) ∧ (openSeen q loose (importedModules p.main.body) Xt true s₁,Yf s₁) = (openGood q loose,Ya w)) : LeftO p q loose Xt Yf Ya N := fun w => by
 obtain ⟨⟨h,gs,d,k,os⟩,e,e'⟩ := Option.map_eq_some_iff.mp (open_ w)
 obtain ⟨rfl,rfl,rfl,rfl⟩ : h = H₀ w.params ∧ gs = gs₀ ∧ d = d₀ ∧ k = k₀ := by simpa using e'
 obtain ⟨z1,z2,z3⟩ := sz w
 obtain ⟨s₁,r,⟨l1,l2,l3,l4⟩,l5⟩ := run w os
 have t : topFrom treeTable p w N ⟨H₀ w.params,gs,d,k,os⟩ = some s₁ := by
  unfold topFrom
  dsimp only
  rw [z1,z2,z3,r]
  show (match staticsOk (importedModules p.main.body) (H₀ w.params) s₁.heap && namesBound p s₁.heap && gensDone s₁ && laidKept (H₀ w.params) s₁.heap with | true => _ | false => _) = _
  rw [l1,l2,l3,l4]
  rfl
 unfold openEnds
 rw [e]
 show (topFrom treeTable p w N _).map _ = _
 rw [t]
 exact congrArg some l5
theorem run_of {p : Program} {tb : String->Option Builtin} {den : Code->Sem PySem.Fin} (e : denote tb = den) {w : World} {n₀ : Nat} {ann : Option Value} {n : Nat} {s : SharedT} {t : Thread} {α β : Type} {f : Shared->α} {x : α} {g : Shared->β} {y : β} (h : (runT den p w n₀ ann n s t).map (fun s => f s.abs) = some x) (h' : (runT den p w n₀ ann n s t).map (fun s => g s.abs) = some y) : ∃ s₁,topRun tb p w n₀ ann n s.abs t = some s₁ ∧ f s₁ = x ∧ g s₁ = y := by
 subst e
 obtain ⟨s1,h1,h2⟩ := Option.map_eq_some_iff.mp h
 exact ⟨s1.abs,runT_of h1,h2,Option.some.inj ((congrArg (Option.map _) h1).symm.trans h')⟩
theorem and4 {a b c d e : Bool} {α : Type} {x y : α} (h : ((a && b && c,d && e),x) = ((true,true),y)) : (d = true ∧ c = true ∧ b = true ∧ e = true) ∧ x = y := by
 simp only [Prod.mk.injEq,Bool.and_eq_true] at h
 exact ⟨⟨h.1.2.1,h.1.1.2,h.1.1.1.2,h.1.2.2⟩,h.2⟩
theorem boot_sz (w : World) : ((boot_heap w.params).isNs mainGlobals && (Array.mk [] : Array GenState).size == 0) = true ∧ (boot_heap w.params).objs.size = 11 ∧ (boot_heap w.params).nsMap mainGlobals "__annotations__" = (boot_heap w.params).nsMap mainGlobals "__annotations__" := ⟨by kernel_rfl,by kernel_rfl,rfl⟩
theorem ran (w : World) (os : OsState) : ∃ s₁,topRun treeTable pw w 11 ((boot_heap w.params).nsMap mainGlobals "__annotations__") 7628 ⟨boot_heap w.params,Array.mk [],boot_drawn,boot_toks,os⟩ (topStub pw) = some s₁ ∧ seenOne w s₁ = ((true,true),openGood qLaw looseL) ∧ obsS s₁ = obsW w := by
 have h := run_of (congrFun te11892475500146522536 _) (f := seenOne w) (g := obsS) (one_seen w os) (two_seen w os)
 rw [s0_abs,← te14364793385576792824] at h
 exact h
theorem leftO : LeftO pw qLaw looseL (fun _ => true) obsS obsW 7628 :=
 leftO_of (boot_open (p := pw) (N := 7628) op_plain (by rfl) fence_plain) boot_sz fun w os => by
  obtain ⟨s₁,h1,h2,h4⟩ := ran w os
  unfold seenOne at h2
  have h3 := and4 h2
  exact ⟨s₁,h1,h3.1,Prod.ext h3.2 h4⟩
noncomputable def YP (w : World) (h : Heap) : Prop := ∃ K,HeadC K ∧ K.In h ∧ h.get? 6 = some emptyDict ∧ K.lookup 6 = none
theorem yp_of (w : World) (s : Shared) (h : obsS s = obsW w) : YP w s.heap := by
 refine ⟨fragOf s.heap,?_,fun _ _ e => (fragOf_mem e).2,congrArg (fun x => x.2.1) h,fragOf_six _⟩
 refine and2 (congrArg (fun x => x.1) h : headB (fragOf s.heap) = true) fun a b => and2 b fun b c => and2 c fun c d => and2 d fun d e => and2 e fun e f => and2 f fun f g => ?_
 exact ⟨a,b,c,d,e,f,g,congrArg (fun x => x.2.2.1) h,congrArg (fun x => x.2.2.2.1) h,congrArg (fun x => x.2.2.2.2.1) h,congrArg (fun x => x.2.2.2.2.2.1) h,congrArg (fun x => x.2.2.2.2.2.2) h⟩
theorem yp_keeps (w : World) (h h' : Heap) (y : YP w h) (k : ∀ b o,h.get? b = some o->h'.get? b = some o) : YP w h' := by
 obtain ⟨K,H,X,h6,k6⟩ := y
 exact ⟨K,H,fun a o q => k _ _ (X a o q),k _ _ h6,k6⟩
end Mine
namespace Mine
open PySem.W.Fast
noncomputable abbrev rwL : OpenLaw := PySem.Challenge.rw_nt0289_01
noncomputable def lawK : DefRec × List (Str × Expr) := (defOf qLaw "law").getD (⟨default,default,default,default,default⟩,[])
theorem lawK_def : defOf qLaw "law" = some (lawK.1,lawK.2) := by kernel_rfl
theorem lawK_the : pw.theDef "law" = some (lawK.1.params,lawK.1.body,lawK.1.scope) := by kernel_rfl
theorem lawK_kw : kwWritten? lawK.1.params.kwonlyargs lawK.1.params.kw_defaults = some lawK.2 := by kernel_rfl
theorem lawK_name : lawK.1.name = "law" := by kernel_rfl
theorem said1 : rwL.row.wellSaid = true := (congrFun te17960256430627541270 rwL.row).trans (by kernel_rfl)
theorem said : rwL.wellSaid = true := by
 unfold OpenLaw.wellSaid
 rw [said1,te8326940854005059898,te17119622794617984870]
 kernel_rfl
theorem oks : (chainsOk qLaw && opensWell rwL.row.toRowW.prog && (frees rwL.row.toRowW && rwL.row.toRowW.within.isEmpty)) = true := by kernel_rfl
theorem ns_uniq {h : Heap} {N : Addr} {m m' : Str->Option Value} (a : h.Ns N m) (b : h.Ns N m') (x : Str) : m x = m' x := by
 obtain ⟨o,es,ep,ho,hd,_,hf⟩ := a
 obtain ⟨o',es',ep',ho',hd',_,hf'⟩ := b
 rw [ho] at ho'
 cases ho'
 rw [hd] at hd'
 cases hd'
 rw [← hf,← hf']
theorem wellInts {P : Params} {h : Heap} : ∀ {vs : List Value} {ns : List Int},WellAll P h vs (ns.map .int)->IntsAre vs ns
 | _,[],x => by cases x; exact .nil
 | _,n :: ns,x => by
  cases x with
  | cons a b => cases a; exact .cons _ _ (wellInts b)
theorem pre_len {ns : List Int} (h : WTm.holds [] rwL.pre { args := [.list (ns.map .int)] } = true) : ns.length ≤ 63 := by
 simp [WTm.holds,OpenLaw.pre,rwL,PySem.Challenge.rw_nt0289_01,WTm.value] at h
 revert h
 split <;> intro h
 ·rename_i q
  have e : less? (WData.int 63) (WData.int ↑ns.length) = some (decide ((63 : Int) < ns.length)) := by first | (simp [less?,Num.less?]; done) | rfl
  rw [e] at q
  by_cases c : (63 : Int) < ns.length
  ·rw [decide_eq_true c] at q; cases q
  ·omega
 ·cases h
theorem post_ok (ns : List Int) : rwL.row.claim.post [.list (ns.map .int)] (.bool true) [.list (ns.map .int)] = true := by
 show (WShape.has [] (.bool true) .bool && WTm.holds [] (WTm.res.eq (WTm.lit (WData.bool true))) { args := [.list (ns.map .int)],res := some (.bool true),after := [.list (ns.map .int)] }) = true
 simp [WShape.has,WShape.arms,WTm.holds,WTm.value]
 have e : PySem.W.same (WData.bool true) (WData.bool true) = true := by decide +kernel
 rw [e]
theorem walk : WalkO qLaw looseL (fun _ _ => True) YP rwL.row.toRowW lawK.1 lawK.2 fun f vs => PySem.call f vs := by
 intro w s₀ s₁ mg mb G Y a o pm cd doc dV kV ho hd hc hD hn hg args vals as hp hl hr hw hs
 obtain ⟨K,H,X,h6,k6⟩ := Y
 obtain ⟨fa,f1,_,f3⟩ := lawDef H
 have e1 := mgOf (nsS H).1 X f1
 have e2 := ns_uniq G.T.g (ns_of (nsS H).1 X s₁.heap X) (Str.ofString "law")
 rw [lawK_name] at hn
 have ea : a = fa := by
  have := hn.symm.trans (e2.trans e1)
  cases this; rfl
 subst ea
 obtain ⟨p1,p2⟩ := pre_splitW hp
 obtain ⟨d,r,rfl,q1,q2⟩ := hasAllW_cons p1
 obtain rfl := hasAllW_nil q2
 obtain ⟨xs,rfl,q3⟩ := hasW_list q1
 obtain ⟨ns,rfl⟩ := items_int q3
 obtain ⟨v,vs',rfl,w1,w2⟩ := wellAll_cons_inv hw
 cases w2
 have len := pre_len p2
 cases w1 with
 | @list l vs _ hget hall =>
  refine wpAny_call (law_call (prog := pw) (headOf pw w H X) f3 X h6 k6 hget (wellInts hall) len fun h' tk kp => ?_)
  refine GoodW.toG ⟨.inl ⟨.bool true,.bool true,[],rfl,fun _ => rfl,.bool true,post_ok ns,fun _ => ⟨.nil,fun _ q => nomatch q⟩⟩,kp,rfl,hg⟩
end Mine
open Mine
theorem PySem.Challenge.cw_nt0289_01_holds : PySem.Challenge.rw_nt0289_01.Holds :=
 holds_law said fun k1 => holds_open (r := rwL.row) (q := qLaw) (loose := looseL) (Xt := fun _ => true) (XP := fun _ _ => True) (YP := YP) leftO yp_of yp_keeps (fun _ _ => trivial) (fun _ _ _ _ _ => trivial) lawK_def lawK_the lawK_kw (fun _ _ => recFacts_nil rfl) (by rfl) k1 oks ⟨rfl,rfl,rfl,rfl,rfl,by kernel_rfl⟩ ⟨[.list [.int 3,.int 1]],by kernel_rfl,by kernel_rfl⟩ walk
end
