import PyProof.Rows.All
import PySem.Syntax
import PyProof.TableCode
import Wide.BytesRules
import KE.KBytesCut
import KE.BytesMulAny
import PyProof.Rows.CatFin
import KE.LcSums
import PyProof.Rows.SortStr
import PySem.Eval
import KE.KBytesWalk
import PyProof.WalksEnum
import PyProof.WalksMore
import PyProof.StrWalks
import PyProof.EnumMake
import PyProof.RangeFor
import PyProof.Rows.Range3
import PyProof.DictDisplay
import PyProof.ExcFactsAll.ValueError
import OpenK.KCall
import PyProof.RulesTry
import Open.Line
import Wide.All
import PySem.Challenge.RW_sx_r148_3
set_option Elab.async false
set_option linter.all false
section
set_option backward.match.sparseCases false
set_option genSizeOf false
namespace DK.Internal
open PySem
inductive Ty where
 | tBytes | tTuple | tList | tInt | tBool | tStr | tNone
 deriving DecidableEq
set_option genCtorIdx false
inductive D where
 | none
 | bool (b:Bool)
 | int (i:Int)
 | str (s:List Nat)
 | bytes (b:List UInt8)
 | tuple (xs:List D)
 | list (xs:List D)
 | dict (ks vs:List D)
 | typ (t:Ty)
 deriving Inhabited
noncomputable def D.ctorIdx (x:D):Nat:=D.casesOn x (nat_lit 0) (fun _=>nat_lit 1) (fun _=>nat_lit 2) (fun _=>nat_lit 3) (fun _=>nat_lit 4) (fun _=>nat_lit 5) (fun _=>nat_lit 6) (fun _ _=>nat_lit 7) (fun _=>nat_lit 8)
inductive Out (α:Type) where
 | ok (a:α)
 | exc
 | stuck
noncomputable def Out.ctorIdx {α:Type} (x:Out α):Nat:=Out.casesOn x (fun _=>nat_lit 0) (nat_lit 1) (nat_lit 2)
namespace Out
noncomputable def bind {α β:Type} (o:Out α) (f:α→Out β):Out β:=match o with
 | .ok a=>f a
 | .exc=> .exc
 | .stuck=> .stuck
noncomputable instance:Monad Out where
 pure:= .ok
 bind:=bind
theorem ok_bind {α β} (a:α) (f:α→Out β):(Out.ok a>>=f)=f a:=rfl
end Out
@[irreducible] noncomputable def BIG:Nat:=2 ^ 8192
noncomputable def SZ:Nat:=1000000
noncomputable def lexLt:List UInt8→List UInt8→Bool
 | [],[]=>false
 | [],_::_=>true
 | _::_,[]=>false
 | a::as,b::bs=>if a.toNat < b.toNat then true else if a.toNat=b.toNat then lexLt as bs else false
noncomputable def lexLe (a b:List UInt8):Bool:= !lexLt b a
noncomputable def insB (x:List UInt8):List (List UInt8)→List (List UInt8)
 | []=> [x]
 | y::ys=>if lexLt y x then y::insB x ys else x::y::ys
noncomputable def sortB:List (List UInt8)→List (List UInt8)
 | []=> []
 | x::xs=>insB x (sortB xs)
section
variable {β:Type}
noncomputable def onBool (f:Bool→Out β) (y:D):Out β:=match y with
 | .bool i=>f i
 | _=> .stuck
noncomputable def onInt (f:Int→Out β) (y:D):Out β:=match y with
 | .int i=>f i
 | _=> .stuck
noncomputable def onStr (f:List Nat→Out β) (y:D):Out β:=match y with
 | .str i=>f i
 | _=> .stuck
noncomputable def onBytes (f:List UInt8→Out β) (y:D):Out β:=match y with
 | .bytes i=>f i
 | _=> .stuck
noncomputable def onTup (f:List D→Out β) (y:D):Out β:=match y with
 | .tuple i=>f i
 | _=> .stuck
noncomputable def onDict (f:List D→List D→Out β) (y:D):Out β:=match y with
 | .dict ks vs=>f ks vs
 | _=> .stuck
noncomputable def onLst (f:List D→Out β) (y:D):Out β:=match y with
 | .list i=>f i
 | _=> .stuck
end
noncomputable def andB (o p:Out Bool):Out Bool:=o>>=fun b=>p>>=fun c=> .ok (b && c)
noncomputable def allEq (f:D→D→Out Bool):List D→List D→Out Bool
 | [],ys=>(match ys with | []=> .ok true | _=> .stuck)
 | x::xs,ys=>(match ys with | y::ys=>andB (f x y) (allEq f xs ys) | []=> .stuck)
noncomputable def D.feq (x y:D):Out Bool:=match x with
 | .none=>(match y with | .none=> .ok true | _=> .stuck)
 | .bool a=>onBool (fun b=> .ok (a == b)) y
 | .int a=>onInt (fun b=> .ok (decide (a=b))) y
 | .str a=>onStr (fun b=> .ok (a == b)) y
 | .bytes a=>onBytes (fun b=> .ok (decide (a=b))) y
 | _=> .stuck
noncomputable def D.peq:Nat→D→D→Out Bool
 | 0,x,y=>x.feq y
 | n+1,x,y=>match x with
  | .tuple a=>onTup (allEq (D.peq n) a) y
  | .list a=>onLst (allEq (D.peq n) a) y
  | x=>x.feq y
abbrev eqDeep:Nat:=64
noncomputable def truthy:D→Out Bool
 | .bool b=> .ok b
 | .int i=> .ok (decide (i≠0))
 | _=> .stuck
noncomputable def noneOr (o:Out Bool) (y:D):Out Bool:=match y with
 | .none=>o
 | .bool _=> .ok false
 | _=> .stuck
noncomputable def isThing (x y:D):Out Bool:=match x with
 | .none=>noneOr (.ok true) y
 | .bool a=>onBool (fun b=> .ok (a == b)) y
 | .typ a=>(match y with | .typ b=> .ok (decide (a=b)) | _=> .stuck)
 | .int _=>noneOr (.ok false) y
 | .str _=>noneOr (.ok false) y
 | _=> .stuck
noncomputable def small (a:Int):Bool:=decide (a.natAbs < 4294967296)
noncomputable def intOp (a b:Int):Operator→Out D
 | .Add=> .ok (.int (a+b))
 | .Sub=> .ok (.int (a - b))
 | .Mult=>if small a=true∧small b=true then .ok (.int (a*b)) else .stuck
 | .FloorDiv=>if 0 < b∧b < 1073741824 then .ok (.int (a / b)) else .stuck
 | .Mod=>if 0 < b then .ok (.int (a % b)) else .stuck
 | .LShift=>if 0≤b∧b≤8192∧a.natAbs < BIG then .ok (.int (a*2 ^ b.toNat)) else .stuck
 | .RShift=>if 0≤b then .ok (.int (a / 2 ^ b.toNat)) else .stuck
 | .BitAnd=>if 0≤a∧0≤b then .ok (.int (a.toNat &&& b.toNat:Nat)) else .stuck
 | .BitOr=>if 0≤a∧0≤b then .ok (.int (a.toNat ||| b.toNat:Nat)) else .stuck
 | _=> .stuck
noncomputable def addB (a:List UInt8):D→Out D:=onBytes fun b=>if a.length+b.length≤SZ then .ok (.bytes (a++b)) else .stuck
noncomputable def addS (a:List Nat):D→Out D:=onStr fun b=>if a.length+b.length≤SZ then .ok (.str (a++b)) else .stuck
noncomputable def addL (a:List D):D→Out D:=onLst fun b=>if a.length+b.length≤SZ then .ok (.list (a++b)) else .stuck
noncomputable def mulB (a:List UInt8):D→Out D:=onInt fun n=>if 0≤n∧n≤50000∧a≠[]∧a.length≤16 then .ok (.bytes (List.replicate n.toNat a).flatten) else .stuck
noncomputable def mulL (a:List D):D→Out D:=onInt fun n=>if 0≤n∧a.length*n.toNat≤SZ∧n≤SZ then .ok (.list (List.replicate n.toNat a).flatten) else .stuck
noncomputable def binop (op:Operator) (x y:D):Out D:=match x with
 | .int a=>onInt (fun b=>intOp a b op) y
 | .bytes a=>(match op with | .Add=>addB a y | .Mult=>mulB a y | _=> .stuck)
 | .str a=>(match op with | .Add=>addS a y | _=> .stuck)
 | .list a=>(match op with | .Add=>addL a y | .Mult=>mulL a y | _=> .stuck)
 | _=> .stuck
noncomputable def keyIs:D→D→Bool
 | .int a,.int b=>decide (a=b)
 | .str a,.str b=>a == b
 | _,_=>false
noncomputable def dget (k:D):List D→List D→Option D
 | x::xs,v::vs=>if keyIs x k then some v else dget k xs vs
 | _,_=>none
noncomputable def isInt:D→Bool
 | .int _=>true
 | _=>false
noncomputable def isStr:D→Bool
 | .str _=>true
 | _=>false
noncomputable def okB (b:Bool):Out D:= .ok (.bool b)
noncomputable def nokB (b:Bool):Out D:= .ok (.bool !b)
noncomputable def ordI (a b:Int):CmpOp→Out D
 | .Lt=> .ok (.bool (@decide (a < b) (Classical.propDecidable _)))
 | .LtE=> .ok (.bool (@decide (a≤b) (Classical.propDecidable _)))
 | .Gt=> .ok (.bool (@decide (a > b) (Classical.propDecidable _)))
 | .GtE=> .ok (.bool (@decide (a≥b) (Classical.propDecidable _)))
 | _=> .stuck
noncomputable def ordB (a b:List UInt8):CmpOp→Out D
 | .Lt=> .ok (.bool (lexLt a b))
 | .LtE=> .ok (.bool (lexLe a b))
 | _=> .stuck
noncomputable def ordD (od:Int→Int→CmpOp→Out D) (op:CmpOp) (x y:D):Out D:=match x with
 | .int a=>onInt (fun b=>od a b op) y
 | .bytes a=>onBytes (fun b=>ordB a b op) y
 | _=> .stuck
noncomputable def inD (x y:D):Out D:=match y with
 | .dict ks _=>onStr (fun s=>if ks.all isStr then .ok (.bool (ks.any fun k=>keyIs k (.str s))) else .stuck) x
 | .list xs=>onInt (fun i=>if xs.all isInt then .ok (.bool (xs.any fun x=>keyIs x (.int i))) else .stuck) x
 | .tuple xs=>onStr (fun s=>if xs.all isStr then .ok (.bool (xs.any fun x=>keyIs x (.str s))) else .stuck) x
 | _=> .stuck
noncomputable def cmpop (od:Int→Int→CmpOp→Out D) (op:CmpOp) (x y:D):Out D:=match op with
 | .Eq=>D.peq eqDeep x y>>=okB
 | .NotEq=>D.peq eqDeep x y>>=nokB
 | .Is=>isThing x y>>=okB
 | .IsNot=>isThing x y>>=nokB
 | .In=>inD x y
 | op=>ordD od op x y
noncomputable def place (n:Nat) (i:Int):Option Nat:=
 let j:=if i < 0 then i+n else i
 if 0≤j∧j < n then some j.toNat else none
noncomputable def atB (b:List UInt8) (o:Option Nat):Out D:=match o with
 | some j=>(match b[j]? with | some u=> .ok (.int u.toNat) | none=> .stuck)
 | none=> .stuck
noncomputable def atL (b:List D) (o:Option Nat):Out D:=match o with
 | some j=>(match b[j]? with | some d=> .ok d | none=> .stuck)
 | none=> .stuck
noncomputable def optD:Option D→Out D
 | some d=> .ok d
 | none=> .stuck
noncomputable def index (x y:D):Out D:=match x with
 | .tuple xs=>onInt (fun i=>atL xs (place xs.length i)) y
 | .list xs=>onInt (fun i=>atL xs (place xs.length i)) y
 | .bytes b=>onInt (fun i=>atB b (place b.length i)) y
 | .dict ks vs=>onStr (fun s=>if ks.all isStr then optD (dget (.str s) ks vs) else .stuck) y
 | _=> .stuck
noncomputable def clip (n:Nat) (i:Int):Nat:=(max 0 (min (if i < 0 then i+n else i) n)).toNat
noncomputable def part (dflt n:Nat) (x:D) (f:Nat→Out D):Out D:=match x with
 | .none=>f dflt
 | .int i=>f (clip n i)
 | _=> .stuck
noncomputable def cut {α:Type} (xs:List α) (lo hi:Nat):List α:=(xs.drop lo).take (hi - lo)
noncomputable def slice (x a b:D):Out D:=match x with
 | .list xs=>part 0 xs.length a fun lo=>part xs.length xs.length b fun hi=> .ok (.list (cut xs lo hi))
 | .bytes xs=>part 0 xs.length a fun lo=>part xs.length xs.length b fun hi=> .ok (.bytes (cut xs lo hi))
 | .str xs=>onInt (fun i=>match b with | .none=>if 0≤i∧i≤xs.length then .ok (.str (xs.drop i.toNat)) else .stuck | _=> .stuck) a
 | _=> .stuck
noncomputable def isInst (x:D) (t:Ty):Out Bool:=match t with
 | .tTuple=>(match x with | .tuple _=> .ok true | .list _=> .ok false | .int _=> .ok false | .str _=> .ok false | .none=> .ok false | _=> .stuck)
 | .tList=>(match x with | .list _=> .ok true | .tuple _=> .ok false | .int _=> .ok false | .str _=> .ok false | .none=> .ok false | _=> .stuck)
 | .tInt=>(match x with | .int _=> .ok true | .bool _=> .ok true | .tuple _=> .ok false | .list _=> .ok false | .str _=> .ok false | .none=> .ok false | _=> .stuck)
 | .tBytes=>(match x with | .bytes _=> .ok true | .tuple _=> .ok false | .list _=> .ok false | .int _=> .ok false | .str _=> .ok false | .none=> .ok false | _=> .stuck)
 | _=> .stuck
noncomputable def byteOf:D→Option UInt8
 | .int i=>if 0≤i∧i < 256 then some (UInt8.ofNat i.toNat) else none
 | _=>none
noncomputable def bytesOf:List D→Option (List UInt8)
 | []=>some []
 | d::ds=>match byteOf d,bytesOf ds with
  | some b,some bs=>some (b::bs)
  | _,_=>none
noncomputable def intsOf:List D→Option (List Int)
 | []=>some []
 | .int i::ds=>match intsOf ds with
  | some is=>some (i::is)
  | none=>none
 | _=>none
noncomputable def boolsOf:List D→Option (List Bool)
 | []=>some []
 | .bool i::ds=>match boolsOf ds with
  | some is=>some (i::is)
  | none=>none
 | _=>none
noncomputable def byteStrs:List D→Option (List (List UInt8))
 | []=>some []
 | .bytes b::ds=>match byteStrs ds with
  | some bs=>some (b::bs)
  | none=>none
 | _=>none
noncomputable def digit3 (n:Nat):List Nat:= [48+n / 100,48+n / 10 % 10,48+n % 10]
set_option genCtorIdx true in
inductive Bi where
 | len | bytes | ord | str | typ | max | sum | sorted | all | list | join
noncomputable def maxI:Int→List Int→Int
 | m,[]=>m
 | m,x::xs=>maxI (if x > m then x else m) xs
noncomputable def optO {α:Type} (o:Option α) (f:α→Out D):Out D:=match o with
 | some a=>f a
 | none=> .stuck
noncomputable def lenD:D→Out D
 | .tuple xs=> .ok (.int xs.length)
 | .list xs=> .ok (.int xs.length)
 | .bytes xs=> .ok (.int xs.length)
 | _=> .stuck
noncomputable def ordC:D→Out D:=onStr fun s=>match s with | c::s=>(match s with | []=> .ok (.int c) | _=> .stuck) | []=> .stuck
noncomputable def strD:D→Out D:=onInt fun i=>if 100≤i∧i < 200 then .ok (.str (digit3 i.toNat)) else .stuck
noncomputable def typD:D→Out D
 | .bool _=> .ok (.typ .tBool)
 | .int _=> .ok (.typ .tInt)
 | .bytes _=> .ok (.typ .tBytes)
 | _=> .stuck
noncomputable def maxL:List Int→Out D
 | []=> .stuck
 | m::is=> .ok (.int (maxI m is))
noncomputable def bi1 (b:Bi) (x:D):Out D:=match b with
 | .len=>lenD x
 | .bytes=>onLst (fun xs=>optO (bytesOf xs) fun b=> .ok (.bytes b)) x
 | .ord=> .stuck
 | .str=> .stuck
 | .typ=>typD x
 | .max=>onLst (fun xs=>optO (intsOf xs) maxL) x
 | .sum=>onLst (fun xs=>optO (intsOf xs) fun is=> .ok (.int is.sum)) x
 | .sorted=>onLst (fun xs=>optO (byteStrs xs) fun bs=>if bs.length < 64 then .ok (.list ((sortB bs).map .bytes)) else .stuck) x
 | .all=> .stuck
 | .list=>onLst (fun xs=> .ok (.list xs)) x
 | .join=>onLst (fun xs=>optO (byteStrs xs) fun bs=>if bs.flatten.length≤SZ∧bs.length≤SZ then .ok (.bytes bs.flatten) else .stuck) x
noncomputable def builtin (b:Bi) (xs:List D):Out D:=match xs with
 | x::r=>(match r with | []=>bi1 b x | _=> .stuck)
 | []=> .stuck
noncomputable def orElse (dflt:D):Option D→Out D
 | some d=> .ok d
 | none=> .ok dflt
noncomputable def dictGet (ks vs:List D) (xs:List D):Out D:=match xs with
 | k::r=>(match r with
  | []=>onInt (fun i=>if ks.all isInt then orElse .none (dget (.int i) ks vs) else .stuck) k
  | d::r=>(match r with | []=>onStr (fun s=>if ks.all isStr then orElse d (dget (.str s) ks vs) else .stuck) k | _=> .stuck))
 | []=> .stuck
inductive Tgt where
 | one (i:Nat)
 | many (is:List Nat)
set_option genSizeOf false
set_option genInjectivity false
mutual
inductive C where
 | k (d:D)
 | var (i:Nat)
 | glob (g:Nat)
 | bin (op:Operator) (a b:C)
 | neg (a:C)
 | not (a:C)
 | and (a b:C)
 | or (a b:C)
 | cmp (op:CmpOp) (a b:C)
 | idx (a i:C)
 | slc (a lo hi:C)
 | tup (es:Cs)
 | lst (es:Cs)
 | call (f:Nat) (args:Cs)
 | bi (b:Bi) (args:Cs)
 | get (d:C) (args:Cs)
 | copy (i:Nat)
 | isi (a:C) (t:Ty)
 | comp (n:Nat) (gens:Gens)
 | bad
inductive Cs where
 | nil
 | cons (c:C) (cs:Cs)
inductive It where
 | seq (c:C)
 | rng (lo hi:C) (step:Int)
 | enum (c:C)
inductive Gens where
 | last (t:Tgt) (it:It) (ifs:Cs) (elt:C)
 | more (t:Tgt) (it:It) (ifs:Cs) (rest:Gens)
end
inductive As where
 | nil
 | val (c:C) (r:As)
 | own (i:Nat) (r:As)
 | fresh (r:As)
mutual
inductive S where
 | ret (e:C)
 | asg (i:Nat) (e:C)
 | own (i:Nat) (e:C)
 | unp (is:List Nat) (e:C)
 | aug (i:Nat) (op:Operator) (e:C)
 | ife (t:C) (a b:Ss)
 | whl (t:C) (b:Ss)
 | forr (t:Tgt) (it:It) (b:Ss)
 | raise
 | frz (i:Nat)
 | app (i:Nat) (e:C)
 | ext (i:Nat) (e:C)
 | pop (i:Nat)
 | sub (i:Nat) (j v:C)
 | callx (f:Nat) (args:As)
 | ex (e:C)
 | tri (i:Option Nat) (e:C) (hi:Nat) (he:C)
 | brk
 | cont
 | bad
inductive Ss where
 | nil
 | cons (s:S) (ss:Ss)
end
inductive Slot where
 | un
 | val (d:D)
 | own (xs:List D)
noncomputable def Slot.ctorIdx (x:Slot):Nat:=Slot.casesOn x (nat_lit 0) (fun _=>nat_lit 1) (fun _=>nat_lit 2)
inductive Fl where
 | next | brk | cont
 | ret (d:D)
noncomputable def Fl.ctorIdx (x:Fl):Nat:=Fl.casesOn x (nat_lit 0) (nat_lit 1) (nat_lit 2) (fun _=>nat_lit 3)
abbrev Reply:=Fl × List Slot
noncomputable def getS:Option Slot→Out D
 | some (.val d)=> .ok d
 | _=> .stuck
noncomputable def getV (sl:List Slot) (i:Nat):Out D:=getS sl[i]?
noncomputable def setV (sl:List Slot) (i:Nat) (s:Slot):List Slot:=sl.set i s
noncomputable def setAll (sl:List Slot):List Nat→List D→Out (List Slot)
 | [],xs=>(match xs with | []=> .ok sl | _=> .stuck)
 | i::is,xs=>(match xs with | d::ds=>setAll (setV sl i (.val d)) is ds | []=> .stuck)
noncomputable def tupD (n:Nat):D→Out (List D):=onTup fun xs=>if n=xs.length then .ok xs else .stuck
noncomputable def bindT (sl:List Slot) (t:Tgt) (d:D):Out (List Slot):=match t with
 | .one i=> .ok (setV sl i (.val d))
 | .many is=>tupD is.length d>>=setAll sl is
noncomputable def itemsOf:D→Out (List D)
 | .list xs=> .ok xs
 | .tuple xs=> .ok xs
 | .bytes b=> .ok (b.map fun u=> .int u.toNat)
 | .str s=> .ok (s.map fun c=> .str [c])
 | _=> .stuck
noncomputable def upFrom (lo:Int):Nat→List D
 | 0=> []
 | n+1=> .int lo::upFrom (lo+1) n
noncomputable def downFrom (lo:Int):Nat→List D
 | 0=> []
 | n+1=> .int lo::downFrom (lo - 1) n
noncomputable def rngI (a b st:Int):Out (List D):=
 if small a=true∧small b=true∧(b - a).toNat≤SZ∧(a - b).toNat≤SZ then
  (if st=1 then .ok (upFrom a (b - a).toNat) else if st = -1 then .ok (downFrom a (a - b).toNat) else .stuck) else .stuck
noncomputable def rangeOf (x y:D) (st:Int):Out (List D):=onInt (fun a=>onInt (fun b=>rngI a b st) y) x
noncomputable def enumFrom (i:Int):List D→List D
 | []=> []
 | d::ds=> .tuple [.int i,d]::enumFrom (i+1) ds
structure Fn where
 np:Nat
 nl:Nat
 body:Ss
structure Text where
 fns:List Fn
 globs:List D
noncomputable abbrev ap2 {α β γ:Type} (f:α→β→Out γ) (a:Out α) (b:Out β):Out γ:=a>>=fun x=>b>>=fun y=>f x y
noncomputable abbrev ap3 {α β γ δ:Type} (f:α→β→γ→Out δ) (a:Out α) (b:Out β) (c:Out γ):Out δ:=a>>=fun x=>b>>=fun y=>c>>=fun z=>f x y z
noncomputable def tupK (xs:List D):Out D:= .ok (.tuple xs)
noncomputable def lstK (xs:List D):Out D:= .ok (.list xs)
noncomputable def consK (x:D) (xs:List D):Out (List D):= .ok (x::xs)
noncomputable def arK (x:D) (xs:List Slot):Out (List Slot):= .ok (.val x::xs)
noncomputable def arO (x:List D) (xs:List Slot):Out (List Slot):= .ok (.own x::xs)
noncomputable def notB (b:Bool):Out D:= .ok (.bool !b)
noncomputable def notK (x:D):Out D:=truthy x>>=notB
noncomputable def tnotK (b:Bool):Out Bool:= .ok !b
noncomputable def isiK (t:Ty) (x:D):Out D:=isInst x t>>=okB
noncomputable def isiT (t:Ty) (x:D):Out Bool:=isInst x t
noncomputable def rngK (s:Int) (x y:D):Out (List D):=rangeOf x y s
noncomputable def globD (T:Text) (g:Nat):Out D:=match T.globs[g]? with
 | some d=> .ok d
 | none=> .stuck
noncomputable def compE (F:List D→D→(List D→Out (List D))→Out (List D)):List D→List D→Out (List D)
 | [],acc=> .ok acc
 | d::ds,acc=>F acc d (compE F ds)
noncomputable def forE (F:List Slot→D→(List Slot→Out Reply)→Out Reply):List D→List Slot→Out Reply
 | [],sl=> .ok (.next,sl)
 | d::ds,sl=>F sl d (forE F ds)
noncomputable def nextK (sl:List Slot):Out Reply:= .ok (.next,sl)
noncomputable def thenS (k:List Slot→Out Reply) (x:Reply):Out Reply:=match x.1 with
 | .next=>k x.2
 | .brk=> .ok (.brk,x.2)
 | .cont=> .ok (.cont,x.2)
 | .ret v=> .ok (.ret v,x.2)
noncomputable def loopS (k:List Slot→Out Reply) (x:Reply):Out Reply:=match x.1 with
 | .next=>k x.2
 | .cont=>k x.2
 | .brk=> .ok (.next,x.2)
 | .ret v=> .ok (.ret v,x.2)
noncomputable def retD (x:Reply):Out D:=match x.1 with
 | .ret d=> .ok d
 | _=> .stuck
noncomputable def negD:D→Out D:=onInt fun i=> .ok (.int (-i))
noncomputable def boolD:D→Out Bool:=onBool .ok
noncomputable def enumD:D→Out (List D):=onLst fun xs=> .ok (enumFrom 0 xs)
noncomputable def copyS:Option Slot→Out D
 | some (.own xs)=> .ok (.list xs)
 | some (.val (.list xs))=> .ok (.list xs)
 | _=> .stuck
noncomputable def copyD (sl:List Slot) (i:Nat):Out D:=copyS sl[i]?
noncomputable def ownS:Option Slot→Out (List D)
 | some (.own xs)=> .ok xs
 | _=> .stuck
noncomputable def ownD (sl:List Slot) (i:Nat):Out (List D):=ownS sl[i]?
noncomputable def listD:D→Out (List D):=onLst .ok
noncomputable def intD:D→Out Int:=onInt .ok
noncomputable def ifO {α:Type} (c:Bool) (a b:Out α):Out α:=if c=true then a else b
noncomputable def need {α:Type} (c:Prop) [Decidable c] (a:Out α):Out α:=if c then a else .stuck
noncomputable def whS (t:List Slot→Out Bool) (b k:List Slot→Out Reply) (sl:List Slot):Out Reply:=t sl>>=fun c=>ifO c (b sl>>=loopS k) (nextK sl)
noncomputable def whN (t:List Slot→Out Bool) (b:List Slot→Out Reply):Nat→List Slot→Out Reply
 | 0=>fun _=> .stuck
 | n+1=>whS t b (whN t b n)
noncomputable def whL (t:List Slot→Out Bool) (b:List Slot→Out Reply) (sl:List Slot):Out Reply:=
 @dite _ (∃n,whN t b n sl≠.stuck) (Classical.propDecidable _) (fun h=>whN t b (Classical.choose h) sl) (fun _=> .stuck)
noncomputable def freezeS (sl:List Slot) (i:Nat):Option Slot→List Slot
 | some (.own xs)=>setV sl i (.val (.list xs))
 | _=>sl
noncomputable def freeze (sl:List Slot) (i:Nat):List Slot:=freezeS sl i sl[i]?
noncomputable def outX:Out Reply→Out (List Slot)
 | .ok x=>(match x.1 with | .ret _=> .ok x.2 | _=> .stuck)
 | _=> .stuck
noncomputable def back:As→List Slot→List Slot→Out (List Slot)
 | .nil,_,sl=> .ok sl
 | .val _ rest,os,sl=>(match os with | _::os=>back rest os sl | []=> .stuck)
 | .own i rest,os,sl=>(match os with | o::os=>(match o with | .own ys=>back rest os (setV sl i (.own ys)) | _=> .stuck) | []=> .stuck)
 | .fresh rest,os,sl=>(match os with | o::os=>(match o with | .own _=>back rest os sl | _=> .stuck) | []=> .stuck)
noncomputable def asOwn:As→List Nat
 | .nil=> []
 | .val _ r=>asOwn r
 | .own i r=>i::asOwn r
 | .fresh r=>asOwn r
noncomputable def putO (sl:List Slot) (i:Option Nat) (d:D):List Slot:=match i with
 | some j=>setV sl j (.val d)
 | none=>sl
noncomputable def triO (i:Option Nat) (hi:Nat) (h:List Slot→Out D) (sl:List Slot):Out D→Out Reply
 | .ok d=>nextK (putO sl i d)
 | .exc=>h sl>>=fun x=>nextK (setV sl hi (.val x))
 | .stuck=> .stuck
structure Mode where
 ord:Int→Int→CmpOp→Out D
 wh:(List Slot→Out Bool)→(List Slot→Out Reply)→List Slot→Out Reply
noncomputable def real:Mode:=⟨ordI,whL⟩
section
variable (M:Mode) (T:Text) (cl:Nat→List Slot→Out Reply)
noncomputable def callV (f:Nat) (xs:List D):Out D:=cl f (xs.map .val)>>=retD
mutual
noncomputable def ex:C→List Slot→Out D
 | .k d,_=> .ok d
 | .var i,sl=>getV sl i
 | .glob g,_=>globD T g
 | .bin op a b,sl=>ap2 (binop op) (ex a sl) (ex b sl)
 | .neg a,sl=>ex a sl>>=negD
 | .not a,sl=>ex a sl>>=notK
 | .and a b,sl=>ex a sl>>=fun x=>truthy x>>=fun t=>ifO t (ex b sl) (.ok x)
 | .or a b,sl=>ex a sl>>=fun x=>truthy x>>=fun t=>ifO t (.ok x) (ex b sl)
 | .cmp op a b,sl=>ap2 (cmpop M.ord op) (ex a sl) (ex b sl)
 | .idx a i,sl=>ap2 index (ex a sl) (ex i sl)
 | .slc a lo hi,sl=>ap3 slice (ex a sl) (ex lo sl) (ex hi sl)
 | .tup es,sl=>exs es sl>>=tupK
 | .lst es,sl=>exs es sl>>=lstK
 | .call f args,sl=>exs args sl>>=callV cl f
 | .bi b args,sl=>exs args sl>>=builtin b
 | .get d args,sl=>ex d sl>>=onDict fun ks vs=>exs args sl>>=dictGet ks vs
 | .copy i,sl=>copyD sl i
 | .isi a t,sl=>ex a sl>>=isiK t
 | .comp n g,sl=>cmpr g sl (sl++List.replicate n .un) []>>=lstK
 | .bad,_=> .stuck
noncomputable def exs:Cs→List Slot→Out (List D)
 | .nil,_=> .ok []
 | .cons c cs,sl=>ap2 consK (ex c sl) (exs cs sl)
noncomputable def tst:C→List Slot→Out Bool
 | .not a,sl=>tst a sl>>=tnotK
 | .and a b,sl=>tst a sl>>=fun t=>ifO t (tst b sl) (.ok false)
 | .or a b,sl=>tst a sl>>=fun t=>ifO t (.ok true) (tst b sl)
 | .cmp op a b,sl=>ap2 (cmpop M.ord op) (ex a sl) (ex b sl)>>=boolD
 | .k d,_=>truthy d
 | .var i,sl=>getV sl i>>=truthy
 | .call f args,sl=>exs args sl>>=callV cl f>>=truthy
 | .isi a t,sl=>ex a sl>>=isiT t
 | .idx a i,sl=>ap2 index (ex a sl) (ex i sl)>>=truthy
 | .bi b args,sl=>exs args sl>>=builtin b>>=truthy
 | _,_=> .stuck
noncomputable def items:It→List Slot→Out (List D)
 | .seq c,sl=>ex c sl>>=itemsOf
 | .rng lo hi st,sl=>ap2 (rngK st) (ex lo sl) (ex hi sl)
 | .enum c,sl=>ex c sl>>=enumD
noncomputable def tsts:Cs→List Slot→Out Bool
 | .nil,_=> .ok true
 | .cons c cs,sl=>tst c sl>>=fun t=>ifO t (tsts cs sl) (.ok false)
noncomputable def cmpr:Gens→List Slot→List Slot→List D→Out (List D)
 | .last t it ifs elt,slo,sl,acc=>items it slo>>=fun xs=>compE (fun acc d k=>bindT sl t d>>=fun sl'=>tsts ifs sl'>>=fun b=>
   ifO b (ex elt sl'>>=fun y=>need (acc.length < SZ) (k (acc ++ [y]))) (k acc)) xs acc
 | .more t it ifs rest,slo,sl,acc=>items it slo>>=fun xs=>compE (fun acc d k=>bindT sl t d>>=fun sl'=>tsts ifs sl'>>=fun b=>
   ifO b (cmpr rest sl' sl' acc>>=k) (k acc)) xs acc
end
noncomputable def args:As→List Slot→Out (List Slot)
 | .nil,_=> .ok []
 | .val c rest,sl=>ap2 arK (ex M T cl c sl) (args rest sl)
 | .own i rest,sl=>ap2 arO (ownD sl i) (args rest sl)
 | .fresh rest,sl=>ap2 arO (.ok []) (args rest sl)
mutual
noncomputable def st:S→List Slot→Out Reply
 | .ret e,sl=>ex M T cl e sl>>=fun x=> .ok (.ret x,sl)
 | .asg i e,sl=>ex M T cl e sl>>=fun x=>nextK (setV sl i (.val x))
 | .own i e,sl=>ex M T cl e sl>>=fun x=>listD x>>=fun xs=>nextK (setV sl i (.own xs))
 | .unp is e,sl=>ex M T cl e sl>>=fun x=>tupD is.length x>>=fun xs=>setAll sl is xs>>=nextK
 | .aug i op e,sl=>getV sl i>>=fun x=>ex M T cl e sl>>=fun y=>intD x>>=fun a=>intD y>>=fun b=>intOp a b op>>=fun z=>nextK (setV sl i (.val z))
 | .ife t a b,sl=>tst M T cl t sl>>=fun c=>ifO c (sts a sl) (sts b sl)
 | .whl t b,sl=>M.wh (tst M T cl t) (sts b) sl
 | .forr t it b,sl=>items M T cl it sl>>=fun xs=>forE (fun sl d k=>bindT sl t d>>=fun sl'=>sts b sl'>>=loopS k) xs sl
 | .raise,_=> .exc
 | .frz i,sl=>nextK (freeze sl i)
 | .app i e,sl=>ownD sl i>>=fun xs=>ex M T cl e sl>>=fun x=>need (xs.length < SZ) (nextK (setV sl i (.own (xs ++ [x]))))
 | .ext i e,sl=>ownD sl i>>=fun xs=>ex M T cl e sl>>=fun x=>listD x>>=fun ys=>need (xs.length+ys.length≤SZ) (nextK (setV sl i (.own (xs++ys))))
 | .pop i,sl=>ownD sl i>>=fun xs=>need (xs≠[]) (nextK (setV sl i (.own xs.dropLast)))
 | .sub i j v,sl=>ownD sl i>>=fun xs=>ex M T cl v sl>>=fun x=>ex M T cl j sl>>=fun y=>intD y>>=fun n=>need (0≤n∧n < xs.length) (nextK (setV sl i (.own (xs.set n.toNat x))))
 | .callx f as,sl=>need (asOwn as).Nodup (args M T cl as sl>>=fun xs=>outX (cl f xs)>>=fun os=>back as os sl>>=nextK)
 | .ex e,sl=>ex M T cl e sl>>=fun _=>nextK sl
 | .tri i e hi he,sl=>triO i hi (ex M T cl he) sl (ex M T cl e sl)
 | .brk,sl=> .ok (.brk,sl)
 | .cont,sl=> .ok (.cont,sl)
 | .bad,_=> .stuck
noncomputable def sts:Ss→List Slot→Out Reply
 | .nil,sl=>nextK sl
 | .cons s ss,sl=>st s sl>>=thenS (sts ss)
end
end
noncomputable def Fn.start (f:Fn) (as:List Slot):List Slot:=as++List.replicate (f.nl - f.np) .un
noncomputable def retF (np:Nat) (x:Reply):Out Reply:=match x.1 with
 | .ret d=> .ok (.ret d,x.2.take np)
 | .next=> .ok (.ret .none,x.2.take np)
 | _=> .stuck
noncomputable def runF (M:Mode) (T:Text) (cl:Nat→List Slot→Out Reply) (as:List Slot):Option Fn→Out Reply
 | some fn=>need (as.length=fn.np∧fn.np≤fn.nl) (sts M T cl fn.body (fn.start as)>>=retF fn.np)
 | none=> .stuck
noncomputable def callT (M:Mode) (T:Text):Nat→Nat→List Slot→Out Reply
 | 0,_,_=> .stuck
 | r+1,f,as=>runF M T (callT M T r) as T.fns[f]?
theorem Out.bind_assoc {α β γ} (x:Out α) (f:α→Out β) (g:β→Out γ):(x>>=f)>>=g=x>>=fun a=>f a>>=g:=by
 cases x<;>rfl
theorem whS_mono {t b} {k k':List Slot→Out Reply} (h:∀sl,k sl = .stuck∨k sl=k' sl) (sl):whS t b k sl = .stuck∨whS t b k sl=whS t b k' sl:=by
 unfold whS
 cases t sl with
 | exc=>exact .inr rfl
 | stuck=>exact .inl rfl
 | ok c=>
  cases c with
  | false=>exact .inr rfl
  | true=>
   show (b sl>>=loopS k)=_∨(b sl>>=loopS k)=(b sl>>=loopS k')
   cases b sl with
   | exc=>exact .inr rfl
   | stuck=>exact .inl rfl
   | ok x=>
    obtain ⟨f,sl⟩:=x
    cases f with
    | next=>exact h sl
    | cont=>exact h sl
    | brk=>exact .inr rfl
    | ret d=>exact .inr rfl
theorem whN_le (t b):∀n sl,whN t b n sl = .stuck∨whN t b n sl=whN t b (n+1) sl
 | 0=>fun _=> .inl rfl
 | n+1=>whS_mono (whN_le t b n)
theorem whN_up (t b sl n) (h:whN t b n sl≠.stuck):∀m,whN t b (n+m) sl=whN t b n sl
 | 0=>rfl
 | m+1=>by
  have e:=whN_up t b sl n h m
  rcases whN_le t b (n+m) sl with q | q
  ·exact absurd (e.symm.trans q) h
  ·exact q.symm.trans e
theorem whL_get (t b sl):∃n,whL t b sl=whN t b n sl:=by
 unfold whL
 by_cases h:∃n,whN t b n sl≠.stuck
 ·rw [dif_pos h];exact ⟨_,rfl⟩
 ·rw [dif_neg h];exact ⟨0,rfl⟩
theorem whL_of (t b sl n) (h:whN t b n sl≠.stuck):whL t b sl=whN t b n sl:=by
 have hx:∃n,whN t b n sl≠.stuck:=⟨n,h⟩
 unfold whL
 rw [dif_pos hx]
 have h2:=Classical.choose_spec hx
 rw [←whN_up t b sl _ h2 n,←whN_up t b sl _ h (Classical.choose hx),Nat.add_comm]
theorem whN_whL (t b n sl):whN t b n sl = .stuck∨whN t b n sl=whL t b sl:=by
 by_cases h:whN t b n sl = .stuck
 ·exact .inl h
 ·exact .inr (whL_of t b sl n h).symm
theorem whS_get (t b sl):∃n,whS t b (whL t b) sl=whS t b (whN t b n) sl:=by
 unfold whS
 cases t sl with
 | exc=>exact ⟨0,rfl⟩
 | stuck=>exact ⟨0,rfl⟩
 | ok c=>
  cases c with
  | false=>exact ⟨0,rfl⟩
  | true=>
   show ∃n,(b sl>>=loopS (whL t b))=(b sl>>=loopS (whN t b n))
   cases b sl with
   | exc=>exact ⟨0,rfl⟩
   | stuck=>exact ⟨0,rfl⟩
   | ok x=>
    obtain ⟨f,sl⟩:=x
    cases f with
    | next=>exact whL_get t b sl
    | cont=>exact whL_get t b sl
    | brk=>exact ⟨0,rfl⟩
    | ret d=>exact ⟨0,rfl⟩
theorem whL_eq (t b sl):whL t b sl=whS t b (whL t b) sl:=by
 obtain ⟨n,hn⟩:=whS_get t b sl
 by_cases h:whN t b (n+1) sl = .stuck
 ·obtain ⟨m,hm⟩:=whL_get t b sl
  have e:whS t b (whL t b) sl = .stuck:=hn.trans h
  rw [e,hm]
  cases m with
  | zero=>rfl
  | succ m=>exact (whS_mono (whN_whL t b m) sl).elim id fun q=>q.trans e
 ·exact (whL_of t b sl _ h).trans hn.symm
noncomputable def ordF (a b:Int):CmpOp→Out D
 | .Lt=> .ok (.bool (decide (a < b)))
 | .LtE=> .ok (.bool (decide (a≤b)))
 | .Gt=> .ok (.bool (decide (a > b)))
 | .GtE=> .ok (.bool (decide (a≥b)))
 | _=> .stuck
noncomputable def whO (o p:Out Reply):Out Reply:=match o with
 | .stuck=>p
 | o=>o
noncomputable def whF (t:List Slot→Out Bool) (b:List Slot→Out Reply) (sl:List Slot):Out Reply:=whO (whN t b 200 sl) (whL t b sl)
noncomputable def fast:Mode:=⟨ordF,whF⟩
theorem fast_eq:real=fast:=by
 have h1:ordI=ordF:=by
  have e (p:Prop) (i j:Decidable p):@decide p i=@decide p j:=by congr
  funext a b op
  cases op<;>first | rfl | exact congrArg (fun x=>Out.ok (D.bool x)) (e _ _ _)
 have h2:whL=whF:=by
  funext t b sl
  unfold whF
  rcases whN_whL t b 200 sl with q | q
  ·rw [q];rfl
  ·rw [q];cases whL t b sl<;>rfl
 unfold real fast
 rw [h1,h2]
end DK.Internal
end
section
set_option backward.match.sparseCases false
set_option genSizeOf false
set_option genCtorIdx false
namespace DK.Internal.B
open PySem
noncomputable abbrev cmpop:CmpOp→D→D→Out D:=DK.Internal.cmpop ordI
noncomputable def ap2 {α β γ:Type} (f:α→β→Out γ) (a:Out α) (b:Out β):Out γ:=DK.Internal.ap2 f a b
noncomputable def ap3 {α β γ δ:Type} (f:α→β→γ→Out δ) (a:Out α) (b:Out β) (c:Out γ):Out δ:=DK.Internal.ap3 f a b c
noncomputable def getO (o:Out D) (p:Out (List D)):Out D:=o>>=onDict fun ks vs=>p>>=dictGet ks vs
section
variable (T:Text) (r:Nat)
noncomputable def X (c:C) (sl:List Slot):Out D:=ex real T (callT real T r) c sl
noncomputable def XS (c:Cs) (sl:List Slot):Out (List D):=exs real T (callT real T r) c sl
noncomputable def Tt (c:C) (sl:List Slot):Out Bool:=tst real T (callT real T r) c sl
noncomputable def TS (c:Cs) (sl:List Slot):Out Bool:=tsts real T (callT real T r) c sl
noncomputable def IT (c:It) (sl:List Slot):Out (List D):=items real T (callT real T r) c sl
noncomputable def CM (g:Gens) (slo sl:List Slot) (acc:List D):Out (List D):=cmpr real T (callT real T r) g slo sl acc
noncomputable def CE (t:Tgt) (ifs:Cs) (elt:C) (xs:List D) (sl:List Slot) (acc:List D):Out (List D):=compE (fun acc d k=>bindT sl t d>>=fun sl'=>tsts real T (callT real T r) ifs sl'>>=fun b=>
   ifO b (ex real T (callT real T r) elt sl'>>=fun y=>need (acc.length < SZ) (k (acc ++ [y]))) (k acc)) xs acc
noncomputable def CN (t:Tgt) (ifs:Cs) (g:Gens) (xs:List D) (sl:List Slot) (acc:List D):Out (List D):=compE (fun acc d k=>bindT sl t d>>=fun sl'=>tsts real T (callT real T r) ifs sl'>>=fun b=>
   ifO b (cmpr real T (callT real T r) g sl' sl' acc>>=k) (k acc)) xs acc
noncomputable def AR (as:As) (sl:List Slot):Out (List Slot):=args real T (callT real T r) as sl
noncomputable def CL (f:Nat) (xs:List D):Out D:=callV (callT real T r) f xs
noncomputable def CX (f:Nat) (xs:List Slot):Out (List Slot):=outX (callT real T r f xs)
noncomputable def W (t:C) (b:Ss) (sl:List Slot):Out Reply:=whL (tst real T (callT real T r) t) (sts real T (callT real T r) b) sl
theorem YK_ex:∃f:Text→Nat→Ss→(List Slot→Out Reply)→List Slot→Out Reply,f=fun T r ss k sl=>sts real T (callT real T r) ss sl>>=thenS k:=⟨_,rfl⟩
noncomputable def YK:Text→Nat→Ss→(List Slot→Out Reply)→List Slot→Out Reply:=Classical.choose YK_ex
noncomputable def Y (ss:Ss) (sl:List Slot):Out Reply:=YK T r ss nextK sl
noncomputable def FE (t:Tgt) (b:Ss) (xs:List D) (sl:List Slot):Out Reply:=forE (fun sl d k=>bindT sl t d>>=fun sl'=>YK T r b nextK sl'>>=loopS k) xs sl
end
section
variable {T:Text} {r:Nat}
theorem ZeG (ss:Ss) (k:List Slot→Out Reply) (sl:List Slot):(sts real T (callT real T r) ss sl>>=thenS k)=YK T r ss k sl:=
 (congrFun (congrFun (congrFun (congrFun (congrFun (Classical.choose_spec YK_ex) T) r) ss) k) sl).symm
theorem Zki (o:Out Reply):(o>>=thenS nextK)=o:=by
 cases o with
 | ok x=>rcases x with ⟨f,s⟩;cases f<;>rfl
 | exc=>rfl
 | stuck=>rfl
theorem Y_run (ss:Ss) (sl:List Slot):Y T r ss sl=sts real T (callT real T r) ss sl:=(ZeG ss nextK sl).symm.trans (Zki _)
theorem Y_fn (ss:Ss):Y T r ss=sts real T (callT real T r) ss:=funext (Y_run ss)
theorem Zkj (o:Out Reply) (f k:List Slot→Out Reply):(o>>=thenS f)>>=thenS k=o>>=thenS (fun sl=>f sl>>=thenS k):=by
 cases o with
 | ok x=>rcases x with ⟨f,s⟩;cases f<;>rfl
 | exc=>rfl
 | stuck=>rfl
theorem ZbX (s ss k sl):YK T r (.cons s ss) k sl=st real T (callT real T r) s sl>>=thenS (YK T r ss k):=by
 rw [←ZeG]
 refine (Zkj _ _ _).trans ?_
 rw [show YK T r ss k=_ from funext fun sl=>(ZeG ss k sl).symm]
end
section
variable (T:Text) (r:Nat)
noncomputable def andO (b:C) (sl:List Slot) (o:Out D):Out D:=o>>=fun x=>truthy x>>=fun t=>ifO t (X T r b sl) (.ok x)
noncomputable def orO (b:C) (sl:List Slot) (o:Out D):Out D:=o>>=fun x=>truthy x>>=fun t=>ifO t (.ok x) (X T r b sl)
noncomputable def tand (b:C) (sl:List Slot) (o:Out Bool):Out Bool:=o>>=fun t=>ifO t (Tt T r b sl) (.ok false)
noncomputable def tor (b:C) (sl:List Slot) (o:Out Bool):Out Bool:=o>>=fun t=>ifO t (.ok true) (Tt T r b sl)
noncomputable def tsO (cs:Cs) (sl:List Slot) (o:Out Bool):Out Bool:=o>>=fun t=>ifO t (TS T r cs sl) (.ok false)
noncomputable def ceO (t:Tgt) (ifs:Cs) (elt:C) (sl:List Slot) (acc:List D) (o:Out (List D)):Out (List D):=o>>=fun xs=>CE T r t ifs elt xs sl acc
noncomputable def cnO (t:Tgt) (ifs:Cs) (g:Gens) (sl:List Slot) (acc:List D) (o:Out (List D)):Out (List D):=o>>=fun xs=>CN T r t ifs g xs sl acc
noncomputable def ceK (t:Tgt) (ifs:Cs) (elt:C) (ds:List D) (sl:List Slot) (acc:List D) (o:Out D):Out (List D):=
 o>>=fun y=>need (acc.length < SZ) (CE T r t ifs elt ds sl (acc ++ [y]))
noncomputable def ceI (t:Tgt) (ifs:Cs) (elt:C) (ds:List D) (sl:List Slot) (acc:List D) (sl':List Slot) (o:Out Bool):Out (List D):=
 o>>=fun b=>ifO b (ceK T r t ifs elt ds sl acc (X T r elt sl')) (CE T r t ifs elt ds sl acc)
noncomputable def ceB (t:Tgt) (ifs:Cs) (elt:C) (ds:List D) (sl:List Slot) (acc:List D) (o:Out (List Slot)):Out (List D):=
 o>>=fun sl'=>ceI T r t ifs elt ds sl acc sl' (TS T r ifs sl')
noncomputable def cnI (t:Tgt) (ifs:Cs) (g:Gens) (ds:List D) (sl:List Slot) (acc:List D) (sl':List Slot) (o:Out Bool):Out (List D):=
 o>>=fun b=>ifO b (CM T r g sl' sl' acc>>=CN T r t ifs g ds sl) (CN T r t ifs g ds sl acc)
noncomputable def cnB (t:Tgt) (ifs:Cs) (g:Gens) (ds:List D) (sl:List Slot) (acc:List D) (o:Out (List Slot)):Out (List D):=
 o>>=fun sl'=>cnI T r t ifs g ds sl acc sl' (TS T r ifs sl')
abbrev Kn:=List Slot→Out Reply
noncomputable def retO (sl:List Slot) (o:Out D):Out Reply:=o>>=fun x=> .ok (.ret x,sl)
noncomputable def asgO (i:Nat) (f:Kn) (sl:List Slot) (o:Out D):Out Reply:=o>>=fun x=>f (setV sl i (.val x))
noncomputable def ownO (i:Nat) (f:Kn) (sl:List Slot) (o:Out D):Out Reply:=o>>=fun x=>listD x>>=fun xs=>f (setV sl i (.own xs))
noncomputable def unpO (is:List Nat) (f:Kn) (sl:List Slot) (o:Out D):Out Reply:=o>>=fun x=>tupD is.length x>>=fun xs=>setAll sl is xs>>=f
noncomputable def augO (i:Nat) (op:Operator) (f:Kn) (sl:List Slot) (o:Out D) (o2:Out D):Out Reply:=o>>=fun x=>o2>>=fun y=>intD x>>=fun a=>intD y>>=fun b=>
  binop op (.int a) (.int b)>>=fun z=>f (setV sl i (.val z))
noncomputable def iteO (f:Kn) (g:Kn) (sl:List Slot) (o:Out Bool):Out Reply:=o>>=fun c=>ifO c (f sl) (g sl)
noncomputable def forO (t:Tgt) (b:Ss) (f:Kn) (sl:List Slot) (o:Out (List D)):Out Reply:=o>>=fun xs=>FE T r t b xs sl>>=thenS f
noncomputable def appO (i:Nat) (f:Kn) (sl:List Slot) (o:Out (List D)) (o2:Out D):Out Reply:=o>>=fun xs=>o2>>=fun x=>
  need (xs.length < SZ) (f (setV sl i (.own (xs ++ [x]))))
noncomputable def extO (i:Nat) (f:Kn) (sl:List Slot) (o:Out (List D)) (o2:Out D):Out Reply:=o>>=fun xs=>o2>>=fun x=>listD x>>=fun ys=>
  need (xs.length+ys.length≤SZ) (f (setV sl i (.own (xs++ys))))
noncomputable def popO (i:Nat) (f:Kn) (sl:List Slot) (o:Out (List D)):Out Reply:=o>>=fun xs=>need (xs≠[]) (f (setV sl i (.own xs.dropLast)))
noncomputable def subO (i:Nat) (f:Kn) (sl:List Slot) (o:Out (List D)) (o2:Out D) (o3:Out D):Out Reply:=o>>=fun xs=>o2>>=fun x=>o3>>=fun y=>intD y>>=fun n=>
  need (0≤n∧n < xs.length) (f (setV sl i (.own (xs.set n.toNat x))))
noncomputable def triO (i:Option Nat) (hi:Nat) (he:C) (f:Kn) (sl:List Slot) (o:Out D):Out Reply:=match o with
 | .ok d=>f (putO sl i d)
 | .exc=>X T r he sl>>=fun x=>f (setV sl hi (.val x))
 | .stuck=> .stuck
noncomputable def exO (f:Kn) (sl:List Slot) (o:Out D):Out Reply:=o>>=fun _=>f sl
noncomputable def whK (b:Ss) (k:Kn) (sl:List Slot) (o:Out Bool):Out Reply:=o>>=fun c=>ifO c (Y T r b sl>>=loopS k) (nextK sl)
noncomputable def feO (b:Ss) (k:Kn) (o:Out (List Slot)):Out Reply:=o>>=fun sl'=>Y T r b sl'>>=loopS k
noncomputable def bnd {α β:Type} (f:α→Out β) (o:Out α):Out β:=o>>=f
noncomputable def retV (x:Reply):Out D:=match x.1 with
 | .ret d=> .ok d
 | .next=> .ok .none
 | _=> .stuck
variable {T r} {k f g:Kn}
theorem ZK (k sl):thenS k (.next,sl)=k sl:=rfl
theorem ZQ (k sl):loopS k (.next,sl)=k sl:=rfl
theorem Zhv (k sl):loopS k (.brk,sl) = .ok (.next,sl):=rfl
theorem Zd {α β γ:Type} (f:α→β→Out γ) (x:α) (y:β):ap2 f (.ok x) (.ok y)=f x y:=rfl
theorem ZfF {α β γ:Type} (f:α→β→Out γ) (o:Out β):ap2 f (.exc) o = .exc:=rfl
theorem ZfC {α β γ:Type} (f:α→β→Out γ) (x:α):ap2 f (.ok x) .exc = .exc:=rfl
theorem Zae {α β γ δ:Type} (g:α→β→γ→Out δ) (x:α) (y:β) (z:γ):ap3 g (.ok x) (.ok y) (.ok z)=g x y z:=rfl
theorem Zc {α β:Type} (f:α→Out β) (a:α):bnd f (.ok a)=f a:=rfl
theorem ZL {α β:Type} (f:α→Out β):bnd f .exc = .exc:=rfl
theorem okB_ (b):okB b = .ok (.bool b):=rfl
theorem ZaK (b):nokB b = .ok (.bool !b):=rfl
theorem X_k (d sl):X T r (.k d) sl = .ok d:=rfl
theorem Zo (i sl):X T r (.var i) sl=getV sl i:=rfl
theorem ZR {g d sl} (h:T.globs[g]?=some d):X T r (.glob g) sl = .ok d:=by show globD T g=_;unfold globD;rw [h]
theorem ZgK (a sl):X T r (.neg a) sl=bnd negD (X T r a sl):=rfl
theorem ZnB (i sl):X T r (.copy i) sl=copyD sl i:=rfl
theorem ZC (op a b sl):X T r (.bin op a b) sl=ap2 (binop op) (X T r a sl) (X T r b sl):=rfl
theorem ZO (op a b sl):X T r (.cmp op a b) sl=ap2 (cmpop op) (X T r a sl) (X T r b sl):=rfl
theorem Zx (a b sl):X T r (.idx a b) sl=ap2 index (X T r a sl) (X T r b sl):=rfl
theorem ZaF (a b c sl):X T r (.slc a b c) sl=ap3 slice (X T r a sl) (X T r b sl) (X T r c sl):=rfl
theorem P_not (a sl):X T r (.not a) sl=bnd notK (X T r a sl):=rfl
theorem ZbC (a b sl):X T r (.and a b) sl=andO T r b sl (X T r a sl):=rfl
theorem P_or (a b sl):X T r (.or a b) sl=orO T r b sl (X T r a sl):=rfl
theorem ZZ (es sl):X T r (.tup es) sl=bnd tupK (XS T r es sl):=rfl
theorem Zak (es sl):X T r (.lst es) sl=bnd lstK (XS T r es sl):=rfl
theorem P_bi (b es sl):X T r (.bi b es) sl=bnd (builtin b) (XS T r es sl):=rfl
theorem ZbM (d es sl):X T r (.get d es) sl=getO (X T r d sl) (XS T r es sl):=rfl
theorem ZeH (a t sl):X T r (.isi a t) sl=bnd (isiK t) (X T r a sl):=rfl
theorem Zdq (n g sl):X T r (.comp n g) sl=bnd lstK (CM T r g sl (sl++List.replicate n .un) []):=rfl
theorem Zp (f es sl):X T r (.call f es) sl=bnd (CL T r f) (XS T r es sl):=rfl
theorem Zg (sl):XS T r .nil sl = .ok []:=rfl
theorem Zb (c cs sl):XS T r (.cons c cs) sl=ap2 consK (X T r c sl) (XS T r cs sl):=rfl
theorem ZdR (a sl):Tt T r (.not a) sl=bnd tnotK (Tt T r a sl):=rfl
theorem Zao (a b sl):Tt T r (.and a b) sl=tand T r b sl (Tt T r a sl):=rfl
theorem R_or (a b sl):Tt T r (.or a b) sl=tor T r b sl (Tt T r a sl):=rfl
theorem Zs (op a b sl):Tt T r (.cmp op a b) sl=bnd boolD (ap2 (cmpop op) (X T r a sl) (X T r b sl)):=rfl
theorem T_k (d sl):Tt T r (.k d) sl=truthy d:=rfl
theorem Zio (i sl):Tt T r (.var i) sl=bnd truthy (getV sl i):=rfl
theorem R_idx (a b sl):Tt T r (.idx a b) sl=bnd truthy (ap2 index (X T r a sl) (X T r b sl)):=rfl
theorem Zhw (f es sl):Tt T r (.call f es) sl=bnd truthy (bnd (CL T r f) (XS T r es sl)):=rfl
theorem ZeI (sl):TS T r .nil sl = .ok true:=rfl
theorem ZgL (c cs sl):TS T r (.cons c cs) sl=tsO T r cs sl (Tt T r c sl):=rfl
theorem Zdx (c sl):IT T r (.seq c) sl=bnd itemsOf (X T r c sl):=rfl
theorem J_rng (a b s sl):IT T r (.rng a b s) sl=ap2 (rngK s) (X T r a sl) (X T r b sl):=rfl
theorem I_enum (c sl):IT T r (.enum c) sl=bnd enumD (X T r c sl):=rfl
theorem ZcR (t it ifs elt slo sl acc):CM T r (.last t it ifs elt) slo sl acc=ceO T r t ifs elt sl acc (IT T r it slo):=rfl
theorem K_more (t it ifs g slo sl acc):CM T r (.more t it ifs g) slo sl acc=cnO T r t ifs g sl acc (IT T r it slo):=rfl
theorem ZcS (t ifs elt xs sl acc):ceO T r t ifs elt sl acc (.ok xs)=CE T r t ifs elt xs sl acc:=rfl
theorem cnO_ok (t ifs g xs sl acc):cnO T r t ifs g sl acc (.ok xs)=CN T r t ifs g xs sl acc:=rfl
theorem Zgu (t ifs elt sl acc):CE T r t ifs elt [] sl acc = .ok acc:=rfl
theorem CN_nil (t ifs g sl acc):CN T r t ifs g [] sl acc = .ok acc:=rfl
theorem Zhx (t ifs elt d ds sl acc):CE T r t ifs elt (d::ds) sl acc=ceB T r t ifs elt ds sl acc (bindT sl t d):=rfl
theorem CN_go (t ifs g d ds sl acc):CN T r t ifs g (d::ds) sl acc=cnB T r t ifs g ds sl acc (bindT sl t d):=rfl
theorem cnB_ok (t ifs g ds sl acc sl'):cnB T r t ifs g ds sl acc (.ok sl')=cnI T r t ifs g ds sl acc sl' (TS T r ifs sl'):=rfl
theorem cnI_t (t ifs g ds sl acc sl'):cnI T r t ifs g ds sl acc sl' (.ok true)=bnd (CN T r t ifs g ds sl) (CM T r g sl' sl' acc):=rfl
theorem Zeo (t ifs elt ds sl acc sl'):ceB T r t ifs elt ds sl acc (.ok sl')=ceI T r t ifs elt ds sl acc sl' (TS T r ifs sl'):=rfl
theorem Zhy (t ifs elt ds sl acc sl'):ceI T r t ifs elt ds sl acc sl' (.ok true)=ceK T r t ifs elt ds sl acc (X T r elt sl'):=rfl
theorem ceI_f (t ifs elt ds sl acc sl'):ceI T r t ifs elt ds sl acc sl' (.ok false)=CE T r t ifs elt ds sl acc:=rfl
theorem ZfG {acc:List D} (h:acc.length < 1000000) (t ifs elt ds sl y):ceK T r t ifs elt ds sl acc (.ok y)=CE T r t ifs elt ds sl (acc ++ [y]):=if_pos h
theorem ZnP (t ifs elt ds sl acc):ceK T r t ifs elt ds sl acc .exc = .exc:=rfl
theorem Zq (ss sl):Y T r ss sl=YK T r ss nextK sl:=rfl
theorem ZP (sl):nextK sl = .ok (.next,sl):=rfl
theorem Zu (sl):YK T r .nil k sl=k sl:=(ZeG .nil k sl).symm
theorem ZG (e ss sl):YK T r (.cons (.ret e) ss) k sl=retO sl (X T r e sl):=(ZbX ..).trans ((Out.bind_assoc ..).trans rfl)
theorem Zr (x sl):retO sl (.ok x) = .ok (.ret x,sl):=rfl
theorem ZA (i e ss sl):YK T r (.cons (.asg i e) ss) k sl=asgO i (YK T r ss k) sl (X T r e sl):=(ZbX ..).trans ((Out.bind_assoc ..).trans rfl)
theorem Zh (i x sl):asgO i f sl (.ok x)=f (setV sl i (.val x)):=rfl
theorem ZaL (i sl):asgO i f sl .exc = .exc:=rfl
theorem Zgr (i e ss sl):YK T r (.cons (.own i e) ss) k sl=ownO i (YK T r ss k) sl (X T r e sl):=(ZbX ..).trans ((Out.bind_assoc ..).trans (congrArg (X T r e sl >>= ·) (funext fun x=>(Out.bind_assoc ..).trans rfl)))
theorem ZcY (i xs sl):ownO i f sl (.ok (.list xs))=f (setV sl i (.own xs)):=rfl
theorem Zfg (is e ss sl):YK T r (.cons (.unp is e) ss) k sl=unpO is (YK T r ss k) sl (X T r e sl):=(ZbX ..).trans ((Out.bind_assoc ..).trans (congrArg (X T r e sl >>= ·) (funext fun x=>(Out.bind_assoc ..).trans (congrArg (tupD is.length x >>= ·) (funext fun xs=>(Out.bind_assoc ..).trans rfl)))))
theorem Zgv (i j a b sl):unpO [i,j] f sl (.ok (.tuple [a,b]))=f (setV (setV sl i (.val a)) j (.val b)):=rfl
theorem Zgw (i j l a b c sl):unpO [i,j,l] f sl (.ok (.tuple [a,b,c]))=f (setV (setV (setV sl i (.val a)) j (.val b)) l (.val c)):=rfl
theorem unpO_5 (i j l m n a b c d e sl):unpO [i,j,l,m,n] f sl (.ok (.tuple [a,b,c,d,e]))=f (setV (setV (setV (setV (setV sl i (.val a)) j (.val b)) l (.val c)) m (.val d)) n (.val e)):=rfl
theorem Zen (i op e ss sl):YK T r (.cons (.aug i op e) ss) k sl=augO i op (YK T r ss k) sl (getV sl i) (X T r e sl):=(ZbX ..).trans ((Out.bind_assoc ..).trans (congrArg (getV sl i >>= ·) (funext fun x=>(Out.bind_assoc ..).trans
 (congrArg (X T r e sl >>= ·) (funext fun y=>(Out.bind_assoc ..).trans (congrArg (intD x >>= ·) (funext fun a=>(Out.bind_assoc ..).trans (congrArg (intD y >>= ·) (funext fun b=>(Out.bind_assoc ..).trans rfl)))))))))
theorem Zbw (i op a b sl):augO i op f sl (.ok (.int a)) (.ok (.int b))=asgO i f sl (binop op (.int a) (.int b)):=rfl
theorem Zv (t a b ss sl):YK T r (.cons (.ife t a b) ss) k sl=iteO (YK T r a (YK T r ss k)) (YK T r b (YK T r ss k)) sl (Tt T r t sl):=(ZbX ..).trans ((Out.bind_assoc ..).trans (congrArg (Tt T r t sl >>= ·) (funext fun c=>by
 cases c
 ·exact ZeG b _ sl
 ·exact ZeG a _ sl)))
theorem ZE (sl):iteO f g sl (.ok true)=f sl:=rfl
theorem Zz (sl):iteO f g sl (.ok false)=g sl:=rfl
theorem ZY {c:Prop} [Decidable c] (h:c) (sl):iteO f g sl (.ok (decide c))=f sl:=by rw [decide_eq_true h];rfl
theorem Zy {c:Prop} [Decidable c] (h:¬c) (sl):iteO f g sl (.ok (decide c))=g sl:=by rw [decide_eq_false h];rfl
theorem ZgM {c:Prop} [Decidable c] (h:¬c) (sl):iteO f g sl (.ok !(decide c))=f sl:=by rw [decide_eq_false h];rfl
theorem ZnQ {c:Prop} [Decidable c] (h:c) (sl):iteO f g sl (.ok !(decide c))=g sl:=by rw [decide_eq_true h];rfl
theorem Zcu (t b ss sl):YK T r (.cons (.whl t b) ss) k sl=bnd (thenS (YK T r ss k)) (W T r t b sl):=ZbX ..
theorem ZgN (t it b ss sl):YK T r (.cons (.forr t it b) ss) k sl=forO T r t b (YK T r ss k) sl (IT T r it sl):=by
 refine (ZbX ..).trans ((Out.bind_assoc ..).trans ?_)
 show (IT T r it sl>>=fun xs=>forE (fun sl d k=>bindT sl t d>>=fun sl'=>sts real T (callT real T r) b sl'>>=loopS k) xs sl>>=thenS (YK T r ss k))=(IT T r it sl>>=fun xs=>forE (fun sl d k=>bindT sl t d>>=fun sl'=>Y T r b sl'>>=loopS k) xs sl>>=thenS (YK T r ss k))
 rw [Y_fn]
theorem Zdy (t b xs sl):forO T r t b f sl (.ok xs)=bnd (thenS f) (FE T r t b xs sl):=rfl
theorem ZdS (ss sl):YK T r (.cons .raise ss) k sl = .exc:=ZbX ..
theorem ZeJ (i ss sl):YK T r (.cons (.frz i) ss) k sl=YK T r ss k (freeze sl i):=ZbX ..
theorem Y_brk (ss sl):YK T r (.cons .brk ss) k sl = .ok (.brk,sl):=ZbX ..
theorem ZeK {α β:Type} (c:Prop) [Decidable c] (o:Out α) (f:α→Out β):(need c o>>=f)=need c (o>>=f):=by unfold need;split<;>rfl
theorem Zhz (i e ss sl):YK T r (.cons (.app i e) ss) k sl=appO i (YK T r ss k) sl (ownD sl i) (X T r e sl):=(ZbX ..).trans ((Out.bind_assoc ..).trans (congrArg (ownD sl i >>= ·) (funext fun xs=>(Out.bind_assoc ..).trans
 (congrArg (X T r e sl >>= ·) (funext fun x=>(ZeK ..).trans rfl)))))
theorem ZdT {xs:List D} (h:xs.length < 1000000) (i x sl):appO i f sl (.ok xs) (.ok x)=f (setV sl i (.own (xs ++ [x]))):=if_pos h
theorem Z_ext (i e ss sl):YK T r (.cons (.ext i e) ss) k sl=extO i (YK T r ss k) sl (ownD sl i) (X T r e sl):=(ZbX ..).trans ((Out.bind_assoc ..).trans (congrArg (ownD sl i >>= ·) (funext fun xs=>(Out.bind_assoc ..).trans
 (congrArg (X T r e sl >>= ·) (funext fun x=>(Out.bind_assoc ..).trans (congrArg (listD x >>= ·) (funext fun ys=>(ZeK ..).trans rfl)))))))
theorem ZnR {xs ys:List D} (h:xs.length+ys.length≤1000000) (i sl):extO i f sl (.ok xs) (.ok (.list ys))=f (setV sl i (.own (xs++ys))):=if_pos h
theorem Z_pop (i ss sl):YK T r (.cons (.pop i) ss) k sl=popO i (YK T r ss k) sl (ownD sl i):=(ZbX ..).trans ((Out.bind_assoc ..).trans (congrArg (ownD sl i >>= ·) (funext fun xs=>(ZeK ..).trans rfl)))
theorem ZnS (i xs x sl):popO i f sl (.ok (xs ++ [x]))=f (setV sl i (.own xs)):=(if_pos (by simp)).trans (by rw [List.dropLast_concat])
theorem Z_sub (i j v ss sl):YK T r (.cons (.sub i j v) ss) k sl=subO i (YK T r ss k) sl (ownD sl i) (X T r v sl) (X T r j sl):=(ZbX ..).trans ((Out.bind_assoc ..).trans (congrArg (ownD sl i >>= ·) (funext fun xs=>(Out.bind_assoc ..).trans
 (congrArg (X T r v sl >>= ·) (funext fun x=>(Out.bind_assoc ..).trans (congrArg (X T r j sl >>= ·) (funext fun y=>(Out.bind_assoc ..).trans (congrArg (intD y >>= ·) (funext fun n=>(ZeK ..).trans rfl)))))))))
theorem ZnT {xs:List D} {n:Int} (h:0≤n∧n < xs.length) (i x sl):subO i f sl (.ok xs) (.ok x) (.ok (.int n))=f (setV sl i (.own (xs.set n.toNat x))):=if_pos h
theorem Z_ex (e ss sl):YK T r (.cons (.ex e) ss) k sl=exO (YK T r ss k) sl (X T r e sl):=(ZbX ..).trans ((Out.bind_assoc ..).trans rfl)
theorem ZD (x sl):exO f sl (.ok x)=f sl:=rfl
theorem Zav (sl):exO f sl .exc = .exc:=rfl
theorem ZfH (fn as ss sl) (h:(asOwn as).Nodup):YK T r (.cons (.callx fn as) ss) k sl=AR T r as sl>>=fun xs=>CX T r fn xs>>=fun os=>back as os sl>>=YK T r ss k:=
 (ZbX ..).trans ((congrArg (· >>= thenS (YK T r ss k)) (if_pos h)).trans ((Out.bind_assoc ..).trans (congrArg (AR T r as sl >>= ·) (funext fun xs=>(Out.bind_assoc ..).trans (congrArg (CX T r fn xs >>= ·) (funext fun os=>(Out.bind_assoc ..).trans rfl))))))
theorem Z_tri (i e hi he ss sl):YK T r (.cons (.tri i e hi he) ss) k sl=triO T r i hi he (YK T r ss k) sl (X T r e sl):=by
 refine (ZbX ..).trans ?_
 show (DK.Internal.triO i hi (X T r he) sl (X T r e sl)>>=thenS (YK T r ss k))=_
 cases X T r e sl with
 | ok d=>rfl
 | exc=>exact (Out.bind_assoc ..).trans rfl
 | stuck=>rfl
theorem ZlU (i hi he sl):triO T r i hi he f sl .exc=asgO hi f sl (X T r he sl):=rfl
theorem V_eq (t b sl):W T r t b sl=whK T r b (W T r t b) sl (Tt T r t sl):=by
 refine (whL_eq ..).trans ?_
 unfold whK
 rw [Y_run];rfl
theorem ZgO (b k sl):whK T r b k sl (.ok true)=bnd (loopS k) (Y T r b sl):=rfl
theorem whK_f (b k sl):whK T r b k sl (.ok false) = .ok (.next,sl):=rfl
theorem ZdN {c:Prop} [Decidable c] (h:c) (b k sl):whK T r b k sl (.ok (decide c))=bnd (loopS k) (Y T r b sl):=by rw [decide_eq_true h];rfl
theorem Zep {c:Prop} [Decidable c] (h:¬c) (b k sl):whK T r b k sl (.ok (decide c)) = .ok (.next,sl):=by rw [decide_eq_false h];rfl
theorem Zkk (t b sl):FE T r t b [] sl = .ok (.next,sl):=rfl
theorem ZhA (t b d ds sl):FE T r t b (d::ds) sl=feO T r b (FE T r t b ds) (bindT sl t d):=rfl
theorem Zfp (b k sl'):feO T r b k (.ok sl')=bnd (loopS k) (Y T r b sl'):=rfl
theorem ZhB (sl):AR T r .nil sl = .ok []:=rfl
theorem ZhC (c as sl):AR T r (.val c as) sl=ap2 arK (X T r c sl) (AR T r as sl):=rfl
theorem ZhD (i as sl):AR T r (.own i as) sl=ap2 arO (ownD sl i) (AR T r as sl):=rfl
theorem ZlV (as sl):AR T r (.fresh as) sl=ap2 arO (.ok []) (AR T r as sl):=rfl
theorem ZcT (b sl):andO T r b sl (.ok (.bool true))=X T r b sl:=rfl
theorem ZcZ {c:Prop} [Decidable c] (h:c) (b sl):andO T r b sl (.ok (.bool (decide c)))=X T r b sl:=by rw [decide_eq_true h];rfl
theorem ZnU {c:Prop} [Decidable c] (h:¬c) (b sl):andO T r b sl (.ok (.bool (decide c))) = .ok (.bool false):=by rw [decide_eq_false h];rfl
theorem ZfI {c:Prop} [Decidable c] (h:¬c) (b sl):andO T r b sl (.ok (.bool !(decide c)))=X T r b sl:=by rw [decide_eq_false h];rfl
theorem ZnV {c:Prop} [Decidable c] (h:c) (b sl):andO T r b sl (.ok (.bool !(decide c))) = .ok (.bool false):=by rw [decide_eq_true h];rfl
theorem orO_t (b sl):orO T r b sl (.ok (.bool true)) = .ok (.bool true):=rfl
theorem Zfh (b sl):orO T r b sl (.ok (.bool false))=X T r b sl:=rfl
theorem ZiY {c:Prop} [Decidable c] (h:c) (b sl):orO T r b sl (.ok (.bool (decide c))) = .ok (.bool true):=by rw [decide_eq_true h];rfl
theorem ZfJ {c:Prop} [Decidable c] (h:¬c) (b sl):orO T r b sl (.ok (.bool (decide c)))=X T r b sl:=by rw [decide_eq_false h];rfl
theorem Zfq (b sl):tand T r b sl (.ok true)=Tt T r b sl:=rfl
theorem ZcU (b sl):tand T r b sl (.ok false) = .ok false:=rfl
theorem Zda {c:Prop} [Decidable c] (h:c) (b sl):tand T r b sl (.ok (decide c))=Tt T r b sl:=by rw [decide_eq_true h];rfl
theorem Zan {c:Prop} [Decidable c] (h:¬c) (b sl):tand T r b sl (.ok (decide c)) = .ok false:=by rw [decide_eq_false h];rfl
theorem ZfK (b sl):tor T r b sl (.ok true) = .ok true:=rfl
theorem Zal (b sl):tor T r b sl (.ok false)=Tt T r b sl:=rfl
theorem ZnC {c:Prop} [Decidable c] (h:c) (b sl):tor T r b sl (.ok (decide c)) = .ok true:=by rw [decide_eq_true h];rfl
theorem ZfL {c:Prop} [Decidable c] (h:¬c) (b sl):tor T r b sl (.ok (decide c))=Tt T r b sl:=by rw [decide_eq_false h];rfl
theorem ZnD {c:Prop} [Decidable c] (h:c) (b sl):tsO T r b sl (.ok (decide c))=TS T r b sl:=by rw [decide_eq_true h];rfl
theorem ZnE {c:Prop} [Decidable c] (h:¬c) (b sl):tsO T r b sl (.ok (decide c)) = .ok false:=by rw [decide_eq_false h];rfl
theorem Zaa (xs):tupK xs = .ok (.tuple xs):=rfl
theorem Zaf (xs):lstK xs = .ok (.list xs):=rfl
theorem Zi (x xs):consK x xs = .ok (x::xs):=rfl
theorem arK_ (x xs):arK x xs = .ok (.val x::xs):=rfl
theorem arO_ (x xs):arO x xs = .ok (.own x::xs):=rfl
theorem ZnF (b):notK (.int b) = .ok (.bool !(decide (b≠0))):=rfl
theorem ZbY (b):tnotK b = .ok !b:=rfl
theorem ZlW (np:Nat) (o:Out Reply):((o>>=retF np)>>=retD)=bnd retV o:=by
 cases o with
 | ok x=>rcases x with ⟨f,s⟩;cases f<;>rfl
 | exc=>rfl
 | stuck=>rfl
theorem Zip {f np nl b as} (h:T.fns[f]?=some ⟨np,nl,b⟩) (h1:as.length=np) (h2:np≤nl) :
  callT real T (r+1) f as=bnd (retF np) (Y T r b (as++List.replicate (nl - np) .un)):=by
 show runF real T (callT real T r) as T.fns[f]?=_
 rw [h,Y_run];exact if_pos ⟨h1,h2⟩
theorem ZgP (d sl):outX (.ok (.ret d,sl)) = .ok sl:=rfl
theorem CX_eq {f np nl b as} (h:T.fns[f]?=some ⟨np,nl,b⟩) (h1:as.length=np) (h2:np≤nl) :
  CX T (r+1) f as=outX (bnd (retF np) (Y T r b (as++List.replicate (nl - np) .un))):=congrArg outX (Zip h h1 h2)
theorem ZF {f np nl b} {xs:List D} (h:T.fns[f]?=some ⟨np,nl,b⟩) (h1:xs.length=np) (h2:np≤nl) :
  CL T (r+1) f xs=bnd retV (Y T r b (xs.map .val++List.replicate (nl - np) .un)):=
 (congrArg (· >>= retD) (Zip h ((List.length_map ..).trans h1) h2)).trans (ZlW np _)
end
end DK.Internal.B
end
section
set_option backward.match.sparseCases false
set_option genSizeOf false
set_option genCtorIdx false
namespace DK.Internal.B
open PySem
noncomputable def sBool:List Nat:= [98,111,111,108]
noncomputable def sInt:List Nat:= [105,110,116]
noncomputable def sBits:List Nat:= [98,105,116,115]
noncomputable def sBytes:List Nat:= [98,121,116,101,115]
noncomputable def sNull:List Nat:= [110,117,108,108]
noncomputable def sOid:List Nat:= [111,105,100]
noncomputable def sEnum:List Nat:= [101,110,117,109]
noncomputable def sUtf8:List Nat:= [117,116,102,56]
noncomputable def sPrint:List Nat:= [112,114,105,110,116,97,98,108,101]
noncomputable def sTime:List Nat:= [116,105,109,101]
noncomputable def sSeq:List Nat:= [115,101,113,117,101,110,99,101]
noncomputable def sSet:List Nat:= [115,101,116]
noncomputable def sTagged:List Nat:= [116,97,103,103,101,100]
noncomputable def Zbn:C:=(.cmp .Lt (.var 4) (.var 2))
noncomputable def ZbW:Ss:=(.cons (.asg 3 (.bin .BitOr (.bin .LShift (.var 3) (.k (.int 8))) (.idx (.var 0) (.var 4))))
 (.cons (.aug 4 .Add (.k (.int 1)))
 .nil))
noncomputable def ZcV:Ss:=(.cons (.ife (.cmp .LtE (.bin .Sub (.var 2) (.var 1)) (.k (.int 32))) (.cons (.asg 3 (.k (.int 0)))
 (.cons (.asg 4 (.var 1))
 (.cons (.whl Zbn ZbW)
 (.cons (.ret (.var 3))
 .nil)))) .nil)
 (.cons (.asg 5 (.bin .FloorDiv (.bin .Add (.var 1) (.var 2)) (.k (.int 2))))
 (.cons (.asg 6 (.call 0 (.cons (.var 0) (.cons (.var 1) (.cons (.var 5) .nil)))))
 (.cons (.asg 7 (.call 0 (.cons (.var 0) (.cons (.var 5) (.cons (.var 2) .nil)))))
 (.cons (.ret (.bin .BitOr (.bin .LShift (.var 6) (.bin .Mult (.k (.int 8)) (.bin .Sub (.var 2) (.var 5)))) (.var 7)))
 .nil)))))
noncomputable def Zec:Fn:=⟨3,8,ZcV⟩
noncomputable def Zau:C:=(.cmp .GtE (.var 4) (.k (.int 0)))
noncomputable def ZaT:Ss:=(.cons (.sub 3 (.var 4) (.bin .BitAnd (.var 0) (.k (.int 255))))
 (.cons (.asg 0 (.bin .RShift (.var 0) (.k (.int 8))))
 (.cons (.aug 4 .Sub (.k (.int 1)))
 .nil)))
noncomputable def Zct:Ss:=(.cons (.ife (.cmp .LtE (.var 1) (.k (.int 32))) (.cons (.own 3 (.bin .Mult (.lst (.cons (.k (.int 0)) .nil)) (.var 1)))
 (.cons (.asg 4 (.bin .Sub (.var 1) (.k (.int 1))))
 (.cons (.whl Zau ZaT)
 (.cons (.frz 3)
 (.cons (.ext 2 (.var 3))
 (.cons (.ret (.k .none))
 .nil)))))) .nil)
 (.cons (.asg 5 (.bin .FloorDiv (.var 1) (.k (.int 2))))
 (.cons (.asg 6 (.bin .Sub (.var 1) (.var 5)))
 (.cons (.callx 1 (.val (.bin .RShift (.var 0) (.bin .Mult (.k (.int 8)) (.var 5))) (.val (.var 6) (.own 2 .nil))))
 (.cons (.callx 1 (.val (.bin .BitAnd (.var 0) (.bin .Sub (.bin .LShift (.k (.int 1)) (.bin .Mult (.k (.int 8)) (.var 5))) (.k (.int 1)))) (.val (.var 5) (.own 2 .nil))))
 .nil)))))
noncomputable def ZcN:Fn:=⟨3,7,Zct⟩
noncomputable def Zgj:Ss:=(.cons (.own 2 (.lst .nil))
 (.cons (.callx 1 (.val (.var 0) (.val (.var 1) (.own 2 .nil))))
 (.cons (.frz 2)
 (.cons (.ret (.bi .bytes (.cons (.var 2) .nil)))
 .nil))))
noncomputable def Zer:Fn:=⟨2,3,Zgj⟩
noncomputable def ZM:C:=(.cmp .Gt (.var 2) (.k (.int 0)))
noncomputable def ZN:Ss:=(.cons (.aug 1 .Add (.k (.int 1)))
 (.cons (.asg 2 (.bin .RShift (.var 2) (.k (.int 8))))
 .nil))
noncomputable def Zcm:Ss:=(.cons (.ife (.cmp .Lt (.var 0) (.k (.int 0))) (.cons .raise
 .nil) .nil)
 (.cons (.ife (.cmp .Lt (.var 0) (.k (.int 128))) (.cons (.ret (.bi .bytes (.cons (.lst (.cons (.var 0) .nil)) .nil)))
 .nil) .nil)
 (.cons (.asg 1 (.k (.int 0)))
 (.cons (.asg 2 (.var 0))
 (.cons (.whl ZM ZN)
 (.cons (.asg 3 (.call 2 (.cons (.var 0) (.cons (.var 1) .nil))))
 (.cons (.ret (.bin .Add (.bi .bytes (.cons (.lst (.cons (.bin .BitOr (.k (.int 128)) (.bi .len (.cons (.var 3) .nil))) .nil)) .nil)) (.var 3)))
 .nil)))))))
noncomputable def Zdu:Fn:=⟨1,4,Zcm⟩
noncomputable def Zah:Ss:=(.cons (.ife (.cmp .GtE (.var 1) (.bi .len (.cons (.var 0) .nil))) (.cons .raise
 .nil) .nil)
 (.cons (.asg 2 (.idx (.var 0) (.var 1)))
 (.cons (.ife (.cmp .Lt (.var 2) (.k (.int 128))) (.cons (.ret (.tup (.cons (.var 2) (.cons (.bin .Add (.var 1) (.k (.int 1))) .nil))))
 .nil) .nil)
 (.cons (.asg 3 (.bin .BitAnd (.var 2) (.k (.int 127))))
 (.cons (.asg 4 (.slc (.var 0) (.bin .Add (.var 1) (.k (.int 1))) (.bin .Add (.bin .Add (.var 1) (.k (.int 1))) (.var 3))))
 (.cons (.ife (.or (.cmp .Lt (.var 3) (.k (.int 1))) (.or (.cmp .Gt (.var 3) (.k (.int 8))) (.cmp .NotEq (.bi .len (.cons (.var 4) .nil)) (.var 3)))) (.cons .raise
 .nil) .nil)
 (.cons (.asg 5 (.call 0 (.cons (.var 4) (.cons (.k (.int 0)) (.cons (.bi .len (.cons (.var 4) .nil)) .nil)))))
 (.cons (.ife (.cmp .NotEq (.call 3 (.cons (.var 5) .nil)) (.slc (.var 0) (.var 1) (.bin .Add (.bin .Add (.var 1) (.k (.int 1))) (.var 3)))) (.cons .raise
 .nil) .nil)
 (.cons (.ret (.tup (.cons (.var 5) (.cons (.bin .Add (.bin .Add (.var 1) (.k (.int 1))) (.var 3)) .nil))))
 .nil)))))))))
noncomputable def ZdP:Fn:=⟨2,6,Zah⟩
noncomputable def Zas:C:=(.cmp .Gt (.var 0) (.k (.int 127)))
noncomputable def Zat:Ss:=(.cons (.asg 0 (.bin .RShift (.var 0) (.k (.int 7))))
 (.cons (.app 1 (.bin .BitOr (.bin .BitAnd (.var 0) (.k (.int 127))) (.k (.int 128))))
 .nil))
noncomputable def ZaZ:C:=(.cmp .GtE (.var 3) (.k (.int 0)))
noncomputable def Zba:Ss:=(.cons (.frz 1)
 (.cons (.app 2 (.idx (.var 1) (.var 3)))
 (.cons (.aug 3 .Sub (.k (.int 1)))
 .nil)))
noncomputable def Zgk:Ss:=(.cons (.own 1 (.lst (.cons (.bin .BitAnd (.var 0) (.k (.int 127))) .nil)))
 (.cons (.whl Zas Zat)
 (.cons (.own 2 (.lst .nil))
 (.cons (.frz 1)
 (.cons (.asg 3 (.bin .Sub (.bi .len (.cons (.var 1) .nil)) (.k (.int 1))))
 (.cons (.whl ZaZ Zba)
 (.cons (.frz 2)
 (.cons (.ret (.bi .bytes (.cons (.var 2) .nil)))
 .nil))))))))
noncomputable def Zes:Fn:=⟨1,4,Zgk⟩
noncomputable def ZaD:C:=(.not (.and (.cmp .LtE (.neg (.var 2)) (.var 0)) (.cmp .Lt (.var 0) (.var 2))))
noncomputable def ZaE:Ss:=(.cons (.aug 1 .Add (.k (.int 1)))
 (.cons (.asg 2 (.bin .LShift (.var 2) (.k (.int 8))))
 .nil))
noncomputable def ZeF:Ss:=(.cons (.asg 1 (.k (.int 1)))
 (.cons (.asg 2 (.k (.int 128)))
 (.cons (.whl ZaD ZaE)
 (.cons (.ife (.cmp .Lt (.var 0) (.k (.int 0))) (.cons (.asg 3 (.bin .Add (.var 0) (.bin .LShift (.k (.int 1)) (.bin .Mult (.k (.int 8)) (.var 1)))))
 .nil) (.cons (.asg 3 (.var 0))
 .nil))
 (.cons (.ret (.call 2 (.cons (.var 3) (.cons (.var 1) .nil))))
 .nil)))))
noncomputable def Zet:Fn:=⟨1,4,ZeF⟩
noncomputable def Zcd:Ss:=(.cons (.asg 1 (.bi .len (.cons (.var 0) .nil)))
 (.cons (.ife (.cmp .Eq (.var 1) (.k (.int 0))) (.cons .raise
 .nil) .nil)
 (.cons (.asg 2 (.call 0 (.cons (.var 0) (.cons (.k (.int 0)) (.cons (.var 1) .nil)))))
 (.cons (.ife (.cmp .GtE (.idx (.var 0) (.k (.int 0))) (.k (.int 128))) (.cons (.asg 2 (.bin .Sub (.var 2) (.bin .LShift (.k (.int 1)) (.bin .Mult (.k (.int 8)) (.var 1)))))
 .nil) .nil)
 (.cons (.ife (.cmp .Gt (.var 1) (.k (.int 1))) (.cons (.ife (.and (.cmp .Eq (.idx (.var 0) (.k (.int 0))) (.k (.int 0))) (.cmp .Lt (.idx (.var 0) (.k (.int 1))) (.k (.int 128)))) (.cons .raise
 .nil) .nil)
 (.cons (.ife (.and (.cmp .Eq (.idx (.var 0) (.k (.int 0))) (.k (.int 255))) (.cmp .GtE (.idx (.var 0) (.k (.int 1))) (.k (.int 128)))) (.cons .raise
 .nil) .nil)
 .nil)) .nil)
 (.cons (.ret (.var 2))
 .nil))))))
noncomputable def ZeV:Fn:=⟨1,3,Zcd⟩
noncomputable def ZiV:Ss:=(.cons (.ret (.and (.cmp .LtE (.k (.int 48)) (.var 0)) (.cmp .LtE (.var 0) (.k (.int 57)))))
 .nil)
noncomputable def Zeu:Fn:=⟨1,1,ZiV⟩
noncomputable def Zid:C:=(.cmp .Lt (.var 4) (.var 2))
noncomputable def Zie:Ss:=(.cons (.asg 3 (.bin .Add (.bin .Mult (.var 3) (.k (.int 10))) (.bin .Sub (.idx (.var 0) (.var 4)) (.k (.int 48)))))
 (.cons (.aug 4 .Add (.k (.int 1)))
 .nil))
noncomputable def ZlR:Ss:=(.cons (.asg 3 (.k (.int 0)))
 (.cons (.asg 4 (.var 1))
 (.cons (.whl Zid Zie)
 (.cons (.ret (.var 3))
 .nil))))
noncomputable def Zft:Fn:=⟨3,5,ZlR⟩
noncomputable def Zkd:Ss:=(.cons (.ife (.cmp .NotEq (.bin .Mod (.var 0) (.k (.int 4))) (.k (.int 0))) (.cons (.ret (.k (.bool false)))
 .nil) .nil)
 (.cons (.ife (.cmp .NotEq (.bin .Mod (.var 0) (.k (.int 100))) (.k (.int 0))) (.cons (.ret (.k (.bool true)))
 .nil) .nil)
 (.cons (.ret (.cmp .Eq (.bin .Mod (.var 0) (.k (.int 400))) (.k (.int 0))))
 .nil)))
noncomputable def ZeW:Fn:=⟨1,1,Zkd⟩
noncomputable def ZfB:Ss:=(.cons (.ife (.cmp .Eq (.var 1) (.k (.int 2))) (.cons (.ife (.call 10 (.cons (.var 0) .nil)) (.cons (.ret (.k (.int 29)))
 .nil) .nil)
 (.cons (.ret (.k (.int 28)))
 .nil)) .nil)
 (.cons (.ife (.or (.cmp .Eq (.var 1) (.k (.int 4))) (.or (.cmp .Eq (.var 1) (.k (.int 6))) (.or (.cmp .Eq (.var 1) (.k (.int 9))) (.cmp .Eq (.var 1) (.k (.int 11)))))) (.cons (.ret (.k (.int 30)))
 .nil) .nil)
 (.cons (.ret (.k (.int 31)))
 .nil)))
noncomputable def ZcO:Fn:=⟨2,2,ZfB⟩
noncomputable def Zif:C:=(.cmp .Lt (.var 2) (.k (.int 14)))
noncomputable def Zig:Ss:=(.cons (.ife (.not (.call 8 (.cons (.idx (.var 0) (.var 2)) .nil))) (.cons (.ret (.k (.bool false)))
 .nil) .nil)
 (.cons (.aug 2 .Add (.k (.int 1)))
 .nil))
noncomputable def Zih:C:=(.cmp .Lt (.var 3) (.bin .Sub (.var 1) (.k (.int 1))))
noncomputable def Zii:Ss:=(.cons (.ife (.not (.call 8 (.cons (.idx (.var 0) (.var 3)) .nil))) (.cons (.ret (.k (.bool false)))
 .nil) .nil)
 (.cons (.aug 3 .Add (.k (.int 1)))
 .nil))
noncomputable def ZlS:Ss:=(.cons (.asg 1 (.bi .len (.cons (.var 0) .nil)))
 (.cons (.ife (.cmp .Lt (.var 1) (.k (.int 15))) (.cons (.ret (.k (.bool false)))
 .nil) .nil)
 (.cons (.asg 2 (.k (.int 0)))
 (.cons (.whl Zif Zig)
 (.cons (.ife (.cmp .NotEq (.idx (.var 0) (.bin .Sub (.var 1) (.k (.int 1)))) (.k (.int 90))) (.cons (.ret (.k (.bool false)))
 .nil) .nil)
 (.cons (.ife (.cmp .Gt (.var 1) (.k (.int 15))) (.cons (.ife (.cmp .NotEq (.idx (.var 0) (.k (.int 14))) (.k (.int 46))) (.cons (.ret (.k (.bool false)))
 .nil) .nil)
 (.cons (.ife (.cmp .Lt (.var 1) (.k (.int 17))) (.cons (.ret (.k (.bool false)))
 .nil) .nil)
 (.cons (.asg 3 (.k (.int 15)))
 (.cons (.whl Zih Zii)
 (.cons (.ife (.cmp .Eq (.idx (.var 0) (.bin .Sub (.var 1) (.k (.int 2)))) (.k (.int 48))) (.cons (.ret (.k (.bool false)))
 .nil) .nil)
 .nil))))) .nil)
 (.cons (.asg 4 (.call 9 (.cons (.var 0) (.cons (.k (.int 0)) (.cons (.k (.int 4)) .nil)))))
 (.cons (.asg 5 (.call 9 (.cons (.var 0) (.cons (.k (.int 4)) (.cons (.k (.int 6)) .nil)))))
 (.cons (.asg 6 (.call 9 (.cons (.var 0) (.cons (.k (.int 6)) (.cons (.k (.int 8)) .nil)))))
 (.cons (.asg 7 (.call 9 (.cons (.var 0) (.cons (.k (.int 8)) (.cons (.k (.int 10)) .nil)))))
 (.cons (.asg 8 (.call 9 (.cons (.var 0) (.cons (.k (.int 10)) (.cons (.k (.int 12)) .nil)))))
 (.cons (.asg 9 (.call 9 (.cons (.var 0) (.cons (.k (.int 12)) (.cons (.k (.int 14)) .nil)))))
 (.cons (.ife (.or (.cmp .Lt (.var 5) (.k (.int 1))) (.cmp .Gt (.var 5) (.k (.int 12)))) (.cons (.ret (.k (.bool false)))
 .nil) .nil)
 (.cons (.ife (.or (.cmp .Lt (.var 6) (.k (.int 1))) (.cmp .Gt (.var 6) (.call 11 (.cons (.var 4) (.cons (.var 5) .nil))))) (.cons (.ret (.k (.bool false)))
 .nil) .nil)
 (.cons (.ret (.and (.cmp .Lt (.var 7) (.k (.int 24))) (.and (.cmp .Lt (.var 8) (.k (.int 60))) (.cmp .Lt (.var 9) (.k (.int 60))))))
 .nil)))))))))))))))
noncomputable def Zfu:Fn:=⟨1,10,ZlS⟩
noncomputable def ZlT:Ss:=(.cons (.ife (.not (.var 0)) (.cons .raise
 .nil) .nil)
 .nil)
noncomputable def ZgF:Fn:=⟨1,1,ZlT⟩
noncomputable def Zke:Ss:=(.cons (.ret (.and (.cmp .LtE (.k (.int 128)) (.idx (.var 0) (.var 1))) (.cmp .LtE (.idx (.var 0) (.var 1)) (.k (.int 191)))))
 .nil)
noncomputable def ZeX:Fn:=⟨2,2,Zke⟩
noncomputable def Zhs:C:=(.cmp .Lt (.var 2) (.var 1))
noncomputable def Zht:Ss:=(.cons (.asg 3 (.idx (.var 0) (.var 2)))
 (.cons (.ife (.cmp .Lt (.var 3) (.k (.int 128))) (.cons (.aug 2 .Add (.k (.int 1)))
 .nil) (.cons (.ife (.and (.cmp .LtE (.k (.int 194)) (.var 3)) (.cmp .LtE (.var 3) (.k (.int 223)))) (.cons (.ife (.or (.cmp .GtE (.bin .Add (.var 2) (.k (.int 1))) (.var 1)) (.not (.call 14 (.cons (.var 0) (.cons (.bin .Add (.var 2) (.k (.int 1))) .nil))))) (.cons (.ret (.k (.bool false)))
 .nil) .nil)
 (.cons (.aug 2 .Add (.k (.int 2)))
 .nil)) (.cons (.ife (.and (.cmp .LtE (.k (.int 224)) (.var 3)) (.cmp .LtE (.var 3) (.k (.int 239)))) (.cons (.ife (.cmp .GtE (.bin .Add (.var 2) (.k (.int 2))) (.var 1)) (.cons (.ret (.k (.bool false)))
 .nil) .nil)
 (.cons (.asg 4 (.idx (.var 0) (.bin .Add (.var 2) (.k (.int 1)))))
 (.cons (.ife (.cmp .Eq (.var 3) (.k (.int 224))) (.cons (.ife (.or (.cmp .Lt (.var 4) (.k (.int 160))) (.cmp .Gt (.var 4) (.k (.int 191)))) (.cons (.ret (.k (.bool false)))
 .nil) .nil)
 .nil) (.cons (.ife (.cmp .Eq (.var 3) (.k (.int 237))) (.cons (.ife (.or (.cmp .Lt (.var 4) (.k (.int 128))) (.cmp .Gt (.var 4) (.k (.int 159)))) (.cons (.ret (.k (.bool false)))
 .nil) .nil)
 .nil) (.cons (.ife (.or (.cmp .Lt (.var 4) (.k (.int 128))) (.cmp .Gt (.var 4) (.k (.int 191)))) (.cons (.ret (.k (.bool false)))
 .nil) .nil)
 .nil))
 .nil))
 (.cons (.ife (.not (.call 14 (.cons (.var 0) (.cons (.bin .Add (.var 2) (.k (.int 2))) .nil)))) (.cons (.ret (.k (.bool false)))
 .nil) .nil)
 (.cons (.aug 2 .Add (.k (.int 3)))
 .nil))))) (.cons (.ife (.and (.cmp .LtE (.k (.int 240)) (.var 3)) (.cmp .LtE (.var 3) (.k (.int 244)))) (.cons (.ife (.cmp .GtE (.bin .Add (.var 2) (.k (.int 3))) (.var 1)) (.cons (.ret (.k (.bool false)))
 .nil) .nil)
 (.cons (.asg 4 (.idx (.var 0) (.bin .Add (.var 2) (.k (.int 1)))))
 (.cons (.ife (.cmp .Eq (.var 3) (.k (.int 240))) (.cons (.ife (.or (.cmp .Lt (.var 4) (.k (.int 144))) (.cmp .Gt (.var 4) (.k (.int 191)))) (.cons (.ret (.k (.bool false)))
 .nil) .nil)
 .nil) (.cons (.ife (.cmp .Eq (.var 3) (.k (.int 244))) (.cons (.ife (.or (.cmp .Lt (.var 4) (.k (.int 128))) (.cmp .Gt (.var 4) (.k (.int 143)))) (.cons (.ret (.k (.bool false)))
 .nil) .nil)
 .nil) (.cons (.ife (.or (.cmp .Lt (.var 4) (.k (.int 128))) (.cmp .Gt (.var 4) (.k (.int 191)))) (.cons (.ret (.k (.bool false)))
 .nil) .nil)
 .nil))
 .nil))
 (.cons (.ife (.or (.not (.call 14 (.cons (.var 0) (.cons (.bin .Add (.var 2) (.k (.int 2))) .nil)))) (.not (.call 14 (.cons (.var 0) (.cons (.bin .Add (.var 2) (.k (.int 3))) .nil))))) (.cons (.ret (.k (.bool false)))
 .nil) .nil)
 (.cons (.aug 2 .Add (.k (.int 4)))
 .nil))))) (.cons (.ret (.k (.bool false)))
 .nil))
 .nil))
 .nil))
 .nil))
 .nil))
noncomputable def Zkf:Ss:=(.cons (.asg 1 (.bi .len (.cons (.var 0) .nil)))
 (.cons (.asg 2 (.k (.int 0)))
 (.cons (.whl Zhs Zht)
 (.cons (.ret (.k (.bool true)))
 .nil))))
noncomputable def ZeY:Fn:=⟨1,5,Zkf⟩
noncomputable def ZeZ:Ss:=(.cons (.ife (.and (.cmp .LtE (.k (.int 65)) (.var 1)) (.cmp .LtE (.var 1) (.k (.int 90)))) (.cons .cont
 .nil) .nil)
 (.cons (.ife (.and (.cmp .LtE (.k (.int 97)) (.var 1)) (.cmp .LtE (.var 1) (.k (.int 122)))) (.cons .cont
 .nil) .nil)
 (.cons (.ife (.and (.cmp .LtE (.k (.int 48)) (.var 1)) (.cmp .LtE (.var 1) (.k (.int 57)))) (.cons .cont
 .nil) .nil)
 (.cons (.ife (.cmp .In (.var 1) (.glob 2)) (.cons .cont
 .nil) .nil)
 (.cons (.ret (.k (.bool false)))
 .nil)))))
noncomputable def Zgl:Ss:=(.cons (.forr (.one 1) (.seq (.var 0)) ZeZ)
 (.cons (.ret (.k (.bool true)))
 .nil))
noncomputable def ZcW:Fn:=⟨1,2,Zgl⟩
noncomputable def ZgG:Ss:=(.cons (.ife (.cmp .Eq (.var 0) (.k (.str sUtf8))) (.cons (.ret (.call 15 (.cons (.var 1) .nil)))
 .nil) .nil)
 (.cons (.ife (.cmp .Eq (.var 0) (.k (.str sPrint))) (.cons (.ret (.call 16 (.cons (.var 1) .nil)))
 .nil) .nil)
 (.cons (.ife (.cmp .Eq (.var 0) (.k (.str sTime))) (.cons (.ret (.call 12 (.cons (.var 1) .nil)))
 .nil) .nil)
 (.cons (.ret (.k (.bool true)))
 .nil))))
noncomputable def Zfa:Fn:=⟨2,2,ZgG⟩
noncomputable def Zij:Ss:=(.cons (.ret (.and (.isi (.var 0) .tInt) (.and (.cmp .IsNot (.var 0) (.k (.bool true))) (.cmp .IsNot (.var 0) (.k (.bool false))))))
 .nil)
noncomputable def Zfv:Fn:=⟨1,1,Zij⟩
noncomputable def Zbu:Ss:=(.cons (.ex (.call 13 (.cons (.call 18 (.cons (.var 2) .nil)) .nil)))
 .nil)
noncomputable def ZS:Ss:=(.cons (.ex (.call 13 (.cons (.and (.isi (.var 0) .tTuple) (.cmp .Gt (.bi .len (.cons (.var 0) .nil)) (.k (.int 0)))) .nil)))
 (.cons (.asg 1 (.idx (.var 0) (.k (.int 0))))
 (.cons (.ex (.call 13 (.cons (.or (.cmp .Eq (.var 1) (.k (.str sTagged))) (.cmp .In (.var 1) (.glob 0))) .nil)))
 (.cons (.ex (.call 13 (.cons (.cmp .Eq (.bi .len (.cons (.var 0) .nil)) (.get (.glob 3) (.cons (.var 1) (.cons (.k (.int 2)) .nil)))) .nil)))
 (.cons (.ife (.cmp .Eq (.var 1) (.k (.str sBool))) (.cons (.ex (.call 13 (.cons (.or (.cmp .Is (.idx (.var 0) (.k (.int 1))) (.k (.bool true))) (.cmp .Is (.idx (.var 0) (.k (.int 1))) (.k (.bool false)))) .nil)))
 .nil) (.cons (.ife (.or (.cmp .Eq (.var 1) (.k (.str sInt))) (.or (.cmp .Eq (.var 1) (.k (.str sEnum))) (.cmp .Eq (.var 1) (.k (.str sTagged))))) (.cons (.ex (.call 13 (.cons (.call 18 (.cons (.idx (.var 0) (.k (.int 1))) .nil)) .nil)))
 .nil) (.cons (.ife (.cmp .Eq (.var 1) (.k (.str sBits))) (.cons (.ex (.call 13 (.cons (.and (.call 18 (.cons (.idx (.var 0) (.k (.int 1))) .nil)) (.isi (.idx (.var 0) (.k (.int 2))) .tBytes)) .nil)))
 .nil) (.cons (.ife (.cmp .Eq (.var 1) (.k (.str sOid))) (.cons (.ex (.call 13 (.cons (.isi (.idx (.var 0) (.k (.int 1))) .tList) .nil)))
 (.cons (.forr (.one 2) (.seq (.idx (.var 0) (.k (.int 1)))) Zbu)
 .nil)) (.cons (.ife (.or (.cmp .Eq (.var 1) (.k (.str sSeq))) (.cmp .Eq (.var 1) (.k (.str sSet)))) (.cons (.ex (.call 13 (.cons (.isi (.idx (.var 0) (.k (.int 1))) .tList) .nil)))
 .nil) (.cons (.ife (.cmp .NotEq (.var 1) (.k (.str sNull))) (.cons (.ex (.call 13 (.cons (.isi (.idx (.var 0) (.k (.int 1))) .tBytes) .nil)))
 .nil) .nil)
 .nil))
 .nil))
 .nil))
 .nil))
 .nil))
 .nil)))))
noncomputable def Zdv:Fn:=⟨1,3,ZS⟩
noncomputable def ZdI:Ss:=(.cons (.ex (.call 13 (.cons (.cmp .GtE (.var 9) (.k (.int 0))) .nil)))
 .nil)
noncomputable def ZcP:C:=(.cmp .Lt (.var 11) (.bi .len (.cons (.var 8) .nil)))
noncomputable def ZdJ:Ss:=(.cons (.app 10 (.call 5 (.cons (.idx (.var 8) (.var 11)) .nil)))
 (.cons (.aug 11 .Add (.k (.int 1)))
 .nil))
noncomputable def ZaU:C:=(.cmp .Lt (.var 11) (.bi .len (.cons (.var 10) .nil)))
noncomputable def ZbE:Ss:=(.cons (.frz 10)
 (.cons (.ex (.call 13 (.cons (.cmp .LtE (.idx (.var 10) (.bin .Sub (.var 11) (.k (.int 1)))) (.idx (.var 10) (.var 11))) .nil)))
 (.cons (.aug 11 .Add (.k (.int 1)))
 .nil)))
noncomputable def Zac:Ss:=(.cons (.ex (.call 19 (.cons (.var 0) .nil)))
 (.cons (.asg 1 (.idx (.var 0) (.k (.int 0))))
 (.cons (.ife (.cmp .Eq (.var 1) (.k (.str sTagged))) (.cons (.asg 2 (.idx (.var 0) (.k (.int 1))))
 (.cons (.ex (.call 13 (.cons (.cmp .GtE (.var 2) (.k (.int 0))) .nil)))
 (.cons (.ife (.cmp .Lt (.var 2) (.k (.int 31))) (.cons (.asg 3 (.bi .bytes (.cons (.lst (.cons (.bin .Add (.k (.int 160)) (.var 2)) .nil)) .nil)))
 .nil) (.cons (.asg 3 (.bin .Add (.k (.bytes [191])) (.call 5 (.cons (.var 2) .nil))))
 .nil))
 (.cons (.asg 4 (.call 20 (.cons (.idx (.var 0) (.k (.int 2))) .nil)))
 (.cons (.ret (.bin .Add (.bin .Add (.var 3) (.call 3 (.cons (.bi .len (.cons (.var 4) .nil)) .nil))) (.var 4)))
 .nil))))) .nil)
 (.cons (.ife (.cmp .Eq (.var 1) (.k (.str sBool))) (.cons (.ife (.idx (.var 0) (.k (.int 1))) (.cons (.asg 5 (.k (.bytes [255])))
 .nil) (.cons (.asg 5 (.k (.bytes [0])))
 .nil))
 .nil) (.cons (.ife (.or (.cmp .Eq (.var 1) (.k (.str sInt))) (.cmp .Eq (.var 1) (.k (.str sEnum)))) (.cons (.asg 5 (.call 6 (.cons (.idx (.var 0) (.k (.int 1))) .nil)))
 .nil) (.cons (.ife (.cmp .Eq (.var 1) (.k (.str sBits))) (.cons (.asg 6 (.idx (.var 0) (.k (.int 1))))
 (.cons (.asg 7 (.idx (.var 0) (.k (.int 2))))
 (.cons (.ex (.call 13 (.cons (.and (.cmp .LtE (.k (.int 0)) (.var 6)) (.cmp .Lt (.var 6) (.k (.int 8)))) .nil)))
 (.cons (.ex (.call 13 (.cons (.or (.cmp .Gt (.bi .len (.cons (.var 7) .nil)) (.k (.int 0))) (.not (.var 6))) .nil)))
 (.cons (.ife (.cmp .Gt (.bi .len (.cons (.var 7) .nil)) (.k (.int 0))) (.cons (.ex (.call 13 (.cons (.cmp .Eq (.bin .BitAnd (.idx (.var 7) (.bin .Sub (.bi .len (.cons (.var 7) .nil)) (.k (.int 1)))) (.bin .Sub (.bin .LShift (.k (.int 1)) (.var 6)) (.k (.int 1)))) (.k (.int 0))) .nil)))
 .nil) .nil)
 (.cons (.asg 5 (.bin .Add (.bi .bytes (.cons (.lst (.cons (.var 6) .nil)) .nil)) (.var 7)))
 .nil)))))) (.cons (.ife (.cmp .Eq (.var 1) (.k (.str sNull))) (.cons (.asg 5 (.k (.bytes [])))
 .nil) (.cons (.ife (.cmp .Eq (.var 1) (.k (.str sOid))) (.cons (.asg 8 (.idx (.var 0) (.k (.int 1))))
 (.cons (.ex (.call 13 (.cons (.cmp .GtE (.bi .len (.cons (.var 8) .nil)) (.k (.int 2))) .nil)))
 (.cons (.forr (.one 9) (.seq (.var 8)) ZdI)
 (.cons (.ex (.call 13 (.cons (.cmp .LtE (.idx (.var 8) (.k (.int 0))) (.k (.int 2))) .nil)))
 (.cons (.ex (.call 13 (.cons (.or (.cmp .Eq (.idx (.var 8) (.k (.int 0))) (.k (.int 2))) (.cmp .Lt (.idx (.var 8) (.k (.int 1))) (.k (.int 40)))) .nil)))
 (.cons (.own 10 (.lst (.cons (.call 5 (.cons (.bin .Add (.bin .Mult (.k (.int 40)) (.idx (.var 8) (.k (.int 0)))) (.idx (.var 8) (.k (.int 1)))) .nil)) .nil)))
 (.cons (.asg 11 (.k (.int 2)))
 (.cons (.whl ZcP ZdJ)
 (.cons (.frz 10)
 (.cons (.asg 5 (.bi .join (.cons (.var 10) .nil)))
 .nil)))))))))) (.cons (.ife (.or (.cmp .Eq (.var 1) (.k (.str sSeq))) (.cmp .Eq (.var 1) (.k (.str sSet)))) (.cons (.asg 10 (.comp 2 (.last (.one 13) (.seq (.idx (.var 0) (.k (.int 1)))) .nil (.call 20 (.cons (.var 13) .nil)))))
 (.cons (.ife (.cmp .Eq (.var 1) (.k (.str sSet))) (.cons (.asg 11 (.k (.int 1)))
 (.cons (.whl ZaU ZbE)
 .nil)) .nil)
 (.cons (.frz 10)
 (.cons (.asg 5 (.bi .join (.cons (.var 10) .nil)))
 .nil)))) (.cons (.ex (.call 13 (.cons (.call 17 (.cons (.var 1) (.cons (.idx (.var 0) (.k (.int 1))) .nil))) .nil)))
 (.cons (.asg 5 (.idx (.var 0) (.k (.int 1))))
 .nil)))
 .nil))
 .nil))
 .nil))
 .nil))
 .nil))
 (.cons (.ret (.bin .Add (.bin .Add (.bi .bytes (.cons (.lst (.cons (.idx (.glob 0) (.var 1)) .nil)) .nil)) (.call 3 (.cons (.bi .len (.cons (.var 5) .nil)) .nil))) (.var 5)))
 .nil)))))
noncomputable def Zgm:Fn:=⟨1,12,Zac⟩
noncomputable def Zbv:C:=(.cmp .Lt (.var 3) (.bi .len (.cons (.var 0) .nil)))
noncomputable def ZbL:Ss:=(.cons (.asg 4 (.call 23 (.cons (.var 0) (.cons (.var 3) (.cons (.bin .Sub (.var 1) (.k (.int 1))) .nil)))))
 (.cons (.app 2 (.idx (.var 4) (.k (.int 0))))
 (.cons (.asg 3 (.idx (.var 4) (.k (.int 1))))
 .nil)))
noncomputable def Zhu:Ss:=(.cons (.ex (.call 13 (.cons (.cmp .Gt (.var 1) (.k (.int 0))) .nil)))
 (.cons (.own 2 (.lst .nil))
 (.cons (.asg 3 (.k (.int 0)))
 (.cons (.whl Zbv ZbL)
 (.cons (.frz 2)
 (.cons (.ret (.var 2))
 .nil))))))
noncomputable def ZgH:Fn:=⟨2,5,Zhu⟩
noncomputable def Zbb:C:=(.k (.bool true))
noncomputable def Zbc:Ss:=(.cons (.asg 4 (.bin .BitOr (.bin .LShift (.var 4) (.k (.int 7))) (.bin .BitAnd (.idx (.var 0) (.var 3)) (.k (.int 127)))))
 (.cons (.aug 3 .Add (.k (.int 1)))
 (.cons (.ife (.cmp .Lt (.idx (.var 0) (.bin .Sub (.var 3) (.k (.int 1)))) (.k (.int 128))) (.cons .brk
 .nil) .nil)
 .nil)))
noncomputable def Zbz:C:=(.cmp .Lt (.var 3) (.var 1))
noncomputable def ZbA:Ss:=(.cons (.asg 4 (.k (.int 0)))
 (.cons (.asg 5 (.var 3))
 (.cons (.whl Zbb Zbc)
 (.cons (.ex (.call 13 (.cons (.cmp .NotEq (.idx (.var 0) (.var 5)) (.k (.int 128))) .nil)))
 (.cons (.app 2 (.var 4))
 .nil)))))
noncomputable def ZdK:Ss:=(.cons (.asg 1 (.bi .len (.cons (.var 0) .nil)))
 (.cons (.ex (.call 13 (.cons (.and (.cmp .Gt (.var 1) (.k (.int 0))) (.cmp .Lt (.idx (.var 0) (.bin .Sub (.var 1) (.k (.int 1)))) (.k (.int 128)))) .nil)))
 (.cons (.own 2 (.lst .nil))
 (.cons (.asg 3 (.k (.int 0)))
 (.cons (.whl Zbz ZbA)
 (.cons (.frz 2)
 (.cons (.asg 6 (.bin .FloorDiv (.idx (.var 2) (.k (.int 0))) (.k (.int 40))))
 (.cons (.ife (.cmp .Gt (.var 6) (.k (.int 2))) (.cons (.asg 6 (.k (.int 2)))
 .nil) .nil)
 (.cons (.frz 2)
 (.cons (.ret (.bin .Add (.lst (.cons (.var 6) (.cons (.bin .Sub (.idx (.var 2) (.k (.int 0))) (.bin .Mult (.k (.int 40)) (.var 6))) .nil))) (.slc (.var 2) (.k (.int 1)) (.k .none))))
 .nil))))))))))
noncomputable def Zev:Fn:=⟨1,7,ZdK⟩
noncomputable def ZaI:C:=(.k (.bool true))
noncomputable def ZaJ:Ss:=(.cons (.ex (.call 13 (.cons (.cmp .Lt (.var 5) (.bi .len (.cons (.var 0) .nil))) .nil)))
 (.cons (.asg 4 (.bin .BitOr (.bin .LShift (.var 4) (.k (.int 7))) (.bin .BitAnd (.idx (.var 0) (.var 5)) (.k (.int 127)))))
 (.cons (.aug 5 .Add (.k (.int 1)))
 (.cons (.ife (.cmp .Lt (.idx (.var 0) (.bin .Sub (.var 5) (.k (.int 1)))) (.k (.int 128))) (.cons .brk
 .nil) .nil)
 .nil))))
noncomputable def Zai:Ss:=(.cons (.ex (.call 13 (.cons (.cmp .Lt (.var 1) (.bi .len (.cons (.var 0) .nil))) .nil)))
 (.cons (.asg 3 (.idx (.var 0) (.var 1)))
 (.cons (.asg 4 (.k .none))
 (.cons (.asg 5 (.bin .Add (.var 1) (.k (.int 1))))
 (.cons (.ife (.cmp .Eq (.var 3) (.k (.int 191))) (.cons (.asg 4 (.k (.int 0)))
 (.cons (.asg 6 (.var 5))
 (.cons (.whl ZaI ZaJ)
 (.cons (.ex (.call 13 (.cons (.and (.cmp .NotEq (.idx (.var 0) (.var 6)) (.k (.int 128))) (.cmp .GtE (.var 4) (.k (.int 31)))) .nil)))
 .nil)))) (.cons (.ife (.and (.cmp .LtE (.k (.int 160)) (.var 3)) (.cmp .Lt (.var 3) (.k (.int 191)))) (.cons (.asg 4 (.bin .Sub (.var 3) (.k (.int 160))))
 .nil) .nil)
 .nil))
 (.cons (.asg 7 (.call 4 (.cons (.var 0) (.cons (.var 5) .nil))))
 (.cons (.asg 8 (.idx (.var 7) (.k (.int 0))))
 (.cons (.asg 5 (.idx (.var 7) (.k (.int 1))))
 (.cons (.asg 9 (.slc (.var 0) (.var 5) (.bin .Add (.var 5) (.var 8))))
 (.cons (.ex (.call 13 (.cons (.cmp .Eq (.bi .len (.cons (.var 9) .nil)) (.var 8)) .nil)))
 (.cons (.asg 10 (.bin .Add (.var 5) (.var 8)))
 (.cons (.ife (.cmp .IsNot (.var 4) (.k .none)) (.cons (.asg 11 (.call 21 (.cons (.var 9) (.cons (.var 2) .nil))))
 (.cons (.ex (.call 13 (.cons (.cmp .Eq (.bi .len (.cons (.var 11) .nil)) (.k (.int 1))) .nil)))
 (.cons (.ret (.tup (.cons (.tup (.cons (.k (.str sTagged)) (.cons (.var 4) (.cons (.idx (.var 11) (.k (.int 0))) .nil)))) (.cons (.var 10) .nil))))
 .nil))) .nil)
 (.cons (.asg 12 (.get (.glob 1) (.cons (.var 3) .nil)))
 (.cons (.ex (.call 13 (.cons (.cmp .IsNot (.var 12) (.k .none)) .nil)))
 (.cons (.ife (.cmp .Eq (.var 12) (.k (.str sBool))) (.cons (.ex (.call 13 (.cons (.or (.cmp .Eq (.var 9) (.k (.bytes [0]))) (.cmp .Eq (.var 9) (.k (.bytes [255])))) .nil)))
 (.cons (.asg 13 (.tup (.cons (.var 12) (.cons (.cmp .Eq (.var 9) (.k (.bytes [255]))) .nil))))
 .nil)) (.cons (.ife (.or (.cmp .Eq (.var 12) (.k (.str sInt))) (.cmp .Eq (.var 12) (.k (.str sEnum)))) (.cons (.asg 13 (.tup (.cons (.var 12) (.cons (.call 7 (.cons (.var 9) .nil)) .nil))))
 .nil) (.cons (.ife (.cmp .Eq (.var 12) (.k (.str sBits))) (.cons (.ex (.call 13 (.cons (.cmp .Gt (.bi .len (.cons (.var 9) .nil)) (.k (.int 0))) .nil)))
 (.cons (.asg 13 (.tup (.cons (.var 12) (.cons (.idx (.var 9) (.k (.int 0))) (.cons (.slc (.var 9) (.k (.int 1)) (.k .none)) .nil)))))
 .nil)) (.cons (.ife (.cmp .Eq (.var 12) (.k (.str sNull))) (.cons (.ex (.call 13 (.cons (.cmp .Eq (.bi .len (.cons (.var 9) .nil)) (.k (.int 0))) .nil)))
 (.cons (.asg 13 (.tup (.cons (.var 12) .nil)))
 .nil)) (.cons (.ife (.cmp .Eq (.var 12) (.k (.str sOid))) (.cons (.asg 13 (.tup (.cons (.var 12) (.cons (.call 22 (.cons (.var 9) .nil)) .nil))))
 .nil) (.cons (.ife (.or (.cmp .Eq (.var 12) (.k (.str sSeq))) (.cmp .Eq (.var 12) (.k (.str sSet)))) (.cons (.asg 13 (.tup (.cons (.var 12) (.cons (.call 21 (.cons (.var 9) (.cons (.var 2) .nil))) .nil))))
 .nil) (.cons (.asg 13 (.tup (.cons (.var 12) (.cons (.var 9) .nil))))
 .nil))
 .nil))
 .nil))
 .nil))
 .nil))
 .nil))
 (.cons (.ret (.tup (.cons (.var 13) (.cons (.var 10) .nil))))
 .nil))))))))))))))))
noncomputable def Zik:Fn:=⟨3,14,Zai⟩
noncomputable def Zfb:Ss:=(.cons (.asg 2 (.call 23 (.cons (.var 0) (.cons (.k (.int 0)) (.cons (.var 1) .nil)))))
 (.cons (.ex (.call 13 (.cons (.cmp .Eq (.idx (.var 2) (.k (.int 1))) (.bi .len (.cons (.var 0) .nil))) .nil)))
 (.cons (.ex (.call 13 (.cons (.cmp .Eq (.call 20 (.cons (.idx (.var 2) (.k (.int 0))) .nil)) (.var 0)) .nil)))
 (.cons (.ret (.idx (.var 2) (.k (.int 0))))
 .nil))))
noncomputable def Zgn:Fn:=⟨2,3,Zfb⟩
noncomputable def Zaj:Ss:=(.cons (.ife (.cmp .Eq (.idx (.var 0) (.k (.int 0))) (.k (.str sTagged))) (.cons (.ret (.lst (.cons (.idx (.var 0) (.k (.int 2))) .nil)))
 .nil) .nil)
 (.cons (.ife (.or (.cmp .Eq (.idx (.var 0) (.k (.int 0))) (.k (.str sSeq))) (.cmp .Eq (.idx (.var 0) (.k (.int 0))) (.k (.str sSet)))) (.cons (.ret (.idx (.var 0) (.k (.int 1))))
 .nil) .nil)
 (.cons (.ret (.lst .nil))
 .nil)))
noncomputable def Zew:Fn:=⟨1,1,Zaj⟩
noncomputable def Zel:Ss:=(.cons (.app 1 (.var 3))
 (.cons (.callx 26 (.val (.var 4) (.own 1 (.own 2 .nil))))
 (.cons (.pop 1)
 (.cons (.aug 3 .Add (.k (.int 1)))
 .nil))))
noncomputable def ZiW:Ss:=(.cons (.app 2 (.tup (.cons (.copy 1) (.cons (.var 0) .nil))))
 (.cons (.asg 3 (.k (.int 0)))
 (.cons (.forr (.one 4) (.seq (.call 25 (.cons (.var 0) .nil))) Zel)
 .nil)))
noncomputable def ZgI:Fn:=⟨3,5,ZiW⟩
noncomputable def ZnN:Ss:=(.cons (.own 1 (.lst .nil))
 (.cons (.callx 26 (.val (.var 0) (.fresh (.own 1 .nil))))
 (.cons (.frz 1)
 (.cons (.ret (.var 1))
 .nil))))
noncomputable def Zil:Fn:=⟨1,2,ZnN⟩
noncomputable def Zco:D:=(.dict [(.str sBool),(.str sInt),(.str sBits),(.str sBytes),(.str sNull),(.str sOid),(.str sEnum),(.str sUtf8),(.str sPrint),(.str sTime),(.str sSeq),(.str sSet)] [(.int 1),(.int 2),(.int 3),(.int 4),(.int 5),(.int 6),(.int 10),(.int 12),(.int 19),(.int 24),(.int 48),(.int 49)])
noncomputable def ZcX:D:= .dict [.int 1,.int 2,.int 3,.int 4,.int 5,.int 6,.int 10,.int 12,.int 19,.int 24,.int 48,.int 49] [.str sBool,.str sInt,.str sBits,.str sBytes,.str sNull,.str sOid,.str sEnum,.str sUtf8,.str sPrint,.str sTime,.str sSeq,.str sSet]
noncomputable def gExtra:D:=(.list [(.int 32),(.int 39),(.int 40),(.int 41),(.int 43),(.int 44),(.int 45),(.int 46),(.int 47),(.int 58),(.int 61),(.int 63)])
noncomputable def ZcQ:D:=(.dict [(.str sNull),(.str sBits),(.str sTagged)] [(.int 1),(.int 3),(.int 3)])
structure Base (T:Text):Prop where
 f0:T.fns[0]?=some Zec
 f1:T.fns[1]?=some ZcN
 f2:T.fns[2]?=some Zer
 f3:T.fns[3]?=some Zdu
 f4:T.fns[4]?=some ZdP
 f5:T.fns[5]?=some Zes
 f6:T.fns[6]?=some Zet
 f7:T.fns[7]?=some ZeV
 f8:T.fns[8]?=some Zeu
 f9:T.fns[9]?=some Zft
 f10:T.fns[10]?=some ZeW
 f11:T.fns[11]?=some ZcO
 f12:T.fns[12]?=some Zfu
 f13:T.fns[13]?=some ZgF
 f14:T.fns[14]?=some ZeX
 f15:T.fns[15]?=some ZeY
 f16:T.fns[16]?=some ZcW
 f17:T.fns[17]?=some Zfa
 f18:T.fns[18]?=some Zfv
 f19:T.fns[19]?=some Zdv
 f20:T.fns[20]?=some Zgm
 f21:T.fns[21]?=some ZgH
 f22:T.fns[22]?=some Zev
 f23:T.fns[23]?=some Zik
 f24:T.fns[24]?=some Zgn
 f25:T.fns[25]?=some Zew
 f26:T.fns[26]?=some ZgI
 f27:T.fns[27]?=some Zil
 g0:T.globs[0]?=some Zco
 g1:T.globs[1]?=some ZcX
 g2:T.globs[2]?=some gExtra
 g3:T.globs[3]?=some ZcQ
theorem ZaY:D.peq eqDeep (.str sBool) (.str sBool) = .ok true:=rfl
theorem ZgQ:D.peq eqDeep (.str sBool) (.str sSeq) = .ok false:=rfl
theorem ZgR:D.peq eqDeep (.str sBool) (.str sSet) = .ok false:=rfl
theorem ZbB:D.peq eqDeep (.str sBool) (.str sTagged) = .ok false:=rfl
theorem Zcv:D.peq eqDeep (.str sInt) (.str sBool) = .ok false:=rfl
theorem ZdU:D.peq eqDeep (.str sInt) (.str sInt) = .ok true:=rfl
theorem ZhE:D.peq eqDeep (.str sInt) (.str sSeq) = .ok false:=rfl
theorem ZhF:D.peq eqDeep (.str sInt) (.str sSet) = .ok false:=rfl
theorem ZcB:D.peq eqDeep (.str sInt) (.str sTagged) = .ok false:=rfl
theorem Zar:D.peq eqDeep (.str sBits) (.str sBool) = .ok false:=rfl
theorem ZaM:D.peq eqDeep (.str sBits) (.str sInt) = .ok false:=rfl
theorem ZaB:D.peq eqDeep (.str sBits) (.str sBits) = .ok true:=rfl
theorem ZaC:D.peq eqDeep (.str sBits) (.str sEnum) = .ok false:=rfl
theorem ZgS:D.peq eqDeep (.str sBits) (.str sSeq) = .ok false:=rfl
theorem ZgT:D.peq eqDeep (.str sBits) (.str sSet) = .ok false:=rfl
theorem Zap:D.peq eqDeep (.str sBits) (.str sTagged) = .ok false:=rfl
theorem ZbN:D.peq eqDeep (.str sBytes) (.str sBool) = .ok false:=rfl
theorem Zdb:D.peq eqDeep (.str sBytes) (.str sInt) = .ok false:=rfl
theorem ZcC:D.peq eqDeep (.str sBytes) (.str sBits) = .ok false:=rfl
theorem ZcD:D.peq eqDeep (.str sBytes) (.str sNull) = .ok false:=rfl
theorem Zdc:D.peq eqDeep (.str sBytes) (.str sOid) = .ok false:=rfl
theorem ZcE:D.peq eqDeep (.str sBytes) (.str sEnum) = .ok false:=rfl
theorem ZfM:D.peq eqDeep (.str sBytes) (.str sUtf8) = .ok false:=rfl
theorem Zfy:D.peq eqDeep (.str sBytes) (.str sPrint) = .ok false:=rfl
theorem ZfN:D.peq eqDeep (.str sBytes) (.str sTime) = .ok false:=rfl
theorem Zce:D.peq eqDeep (.str sBytes) (.str sSeq) = .ok false:=rfl
theorem Zcf:D.peq eqDeep (.str sBytes) (.str sSet) = .ok false:=rfl
theorem ZbZ:D.peq eqDeep (.str sBytes) (.str sTagged) = .ok false:=rfl
theorem Zcg:D.peq eqDeep (.str sNull) (.str sBool) = .ok false:=rfl
theorem Zdz:D.peq eqDeep (.str sNull) (.str sInt) = .ok false:=rfl
theorem Zdd:D.peq eqDeep (.str sNull) (.str sBits) = .ok false:=rfl
theorem Zde:D.peq eqDeep (.str sNull) (.str sNull) = .ok true:=rfl
theorem ZgU:D.peq eqDeep (.str sNull) (.str sOid) = .ok false:=rfl
theorem Zdf:D.peq eqDeep (.str sNull) (.str sEnum) = .ok false:=rfl
theorem ZeL:D.peq eqDeep (.str sNull) (.str sSeq) = .ok false:=rfl
theorem ZeM:D.peq eqDeep (.str sNull) (.str sSet) = .ok false:=rfl
theorem Zcp:D.peq eqDeep (.str sNull) (.str sTagged) = .ok false:=rfl
theorem Zax:D.peq eqDeep (.str sOid) (.str sBool) = .ok false:=rfl
theorem Zbg:D.peq eqDeep (.str sOid) (.str sInt) = .ok false:=rfl
theorem ZaN:D.peq eqDeep (.str sOid) (.str sBits) = .ok false:=rfl
theorem Zbo:D.peq eqDeep (.str sOid) (.str sNull) = .ok false:=rfl
theorem Zbh:D.peq eqDeep (.str sOid) (.str sOid) = .ok true:=rfl
theorem ZaO:D.peq eqDeep (.str sOid) (.str sEnum) = .ok false:=rfl
theorem ZhG:D.peq eqDeep (.str sOid) (.str sSeq) = .ok false:=rfl
theorem ZhH:D.peq eqDeep (.str sOid) (.str sSet) = .ok false:=rfl
theorem ZaG:D.peq eqDeep (.str sOid) (.str sTagged) = .ok false:=rfl
theorem Zch:D.peq eqDeep (.str sEnum) (.str sBool) = .ok false:=rfl
theorem ZdA:D.peq eqDeep (.str sEnum) (.str sInt) = .ok false:=rfl
theorem Zdg:D.peq eqDeep (.str sEnum) (.str sEnum) = .ok true:=rfl
theorem ZgV:D.peq eqDeep (.str sEnum) (.str sSeq) = .ok false:=rfl
theorem ZgW:D.peq eqDeep (.str sEnum) (.str sSet) = .ok false:=rfl
theorem Zcq:D.peq eqDeep (.str sEnum) (.str sTagged) = .ok false:=rfl
theorem Zci:D.peq eqDeep (.str sUtf8) (.str sBool) = .ok false:=rfl
theorem ZdB:D.peq eqDeep (.str sUtf8) (.str sInt) = .ok false:=rfl
theorem Zdh:D.peq eqDeep (.str sUtf8) (.str sBits) = .ok false:=rfl
theorem Zdi:D.peq eqDeep (.str sUtf8) (.str sNull) = .ok false:=rfl
theorem ZdC:D.peq eqDeep (.str sUtf8) (.str sOid) = .ok false:=rfl
theorem Zdj:D.peq eqDeep (.str sUtf8) (.str sEnum) = .ok false:=rfl
theorem Zcw:D.peq eqDeep (.str sUtf8) (.str sSeq) = .ok false:=rfl
theorem Zcx:D.peq eqDeep (.str sUtf8) (.str sSet) = .ok false:=rfl
theorem Zcr:D.peq eqDeep (.str sUtf8) (.str sTagged) = .ok false:=rfl
theorem ZbO:D.peq eqDeep (.str sPrint) (.str sBool) = .ok false:=rfl
theorem Zdk:D.peq eqDeep (.str sPrint) (.str sInt) = .ok false:=rfl
theorem ZcF:D.peq eqDeep (.str sPrint) (.str sBits) = .ok false:=rfl
theorem ZcG:D.peq eqDeep (.str sPrint) (.str sNull) = .ok false:=rfl
theorem Zdl:D.peq eqDeep (.str sPrint) (.str sOid) = .ok false:=rfl
theorem ZcH:D.peq eqDeep (.str sPrint) (.str sEnum) = .ok false:=rfl
theorem Zcj:D.peq eqDeep (.str sPrint) (.str sSeq) = .ok false:=rfl
theorem Zck:D.peq eqDeep (.str sPrint) (.str sSet) = .ok false:=rfl
theorem Zca:D.peq eqDeep (.str sPrint) (.str sTagged) = .ok false:=rfl
theorem Zcl:D.peq eqDeep (.str sTime) (.str sBool) = .ok false:=rfl
theorem ZdD:D.peq eqDeep (.str sTime) (.str sInt) = .ok false:=rfl
theorem Zdm:D.peq eqDeep (.str sTime) (.str sBits) = .ok false:=rfl
theorem Zdn:D.peq eqDeep (.str sTime) (.str sNull) = .ok false:=rfl
theorem ZdE:D.peq eqDeep (.str sTime) (.str sOid) = .ok false:=rfl
theorem Zdo:D.peq eqDeep (.str sTime) (.str sEnum) = .ok false:=rfl
theorem Zcy:D.peq eqDeep (.str sTime) (.str sSeq) = .ok false:=rfl
theorem Zcz:D.peq eqDeep (.str sTime) (.str sSet) = .ok false:=rfl
theorem Zcs:D.peq eqDeep (.str sTime) (.str sTagged) = .ok false:=rfl
theorem ZaP:D.peq eqDeep (.str sSeq) (.str sBool) = .ok false:=rfl
theorem ZbF:D.peq eqDeep (.str sSeq) (.str sInt) = .ok false:=rfl
theorem Zbp:D.peq eqDeep (.str sSeq) (.str sBits) = .ok false:=rfl
theorem ZbP:D.peq eqDeep (.str sSeq) (.str sNull) = .ok false:=rfl
theorem ZbG:D.peq eqDeep (.str sSeq) (.str sOid) = .ok false:=rfl
theorem Zbq:D.peq eqDeep (.str sSeq) (.str sEnum) = .ok false:=rfl
theorem Zbi:D.peq eqDeep (.str sSeq) (.str sSeq) = .ok true:=rfl
theorem ZhI:D.peq eqDeep (.str sSeq) (.str sSet) = .ok false:=rfl
theorem ZbQ:D.peq eqDeep (.str sSeq) (.str sTagged) = .ok false:=rfl
theorem ZaQ:D.peq eqDeep (.str sSet) (.str sBool) = .ok false:=rfl
theorem ZbH:D.peq eqDeep (.str sSet) (.str sInt) = .ok false:=rfl
theorem Zbr:D.peq eqDeep (.str sSet) (.str sBits) = .ok false:=rfl
theorem ZbR:D.peq eqDeep (.str sSet) (.str sNull) = .ok false:=rfl
theorem ZbI:D.peq eqDeep (.str sSet) (.str sOid) = .ok false:=rfl
theorem Zbs:D.peq eqDeep (.str sSet) (.str sEnum) = .ok false:=rfl
theorem Zbj:D.peq eqDeep (.str sSet) (.str sSeq) = .ok false:=rfl
theorem Zbk:D.peq eqDeep (.str sSet) (.str sSet) = .ok true:=rfl
theorem Zbl:D.peq eqDeep (.str sSet) (.str sTagged) = .ok false:=rfl
theorem ZdO:D.peq eqDeep (.str sTagged) (.str sBool) = .ok false:=rfl
theorem ZfO:D.peq eqDeep (.str sTagged) (.str sInt) = .ok false:=rfl
theorem Zfz:D.peq eqDeep (.str sTagged) (.str sEnum) = .ok false:=rfl
theorem Zbe:D.peq eqDeep (.str sTagged) (.str sTagged) = .ok true:=rfl
theorem ZlX:cmpop .In (.str sBool) Zco = .ok (.bool true):=rfl
theorem ZnW:cmpop .In (.str sInt) Zco = .ok (.bool true):=rfl
theorem ZlY:cmpop .In (.str sBits) Zco = .ok (.bool true):=rfl
theorem Zkl:cmpop .In (.str sBytes) Zco = .ok (.bool true):=rfl
theorem ZlZ:cmpop .In (.str sNull) Zco = .ok (.bool true):=rfl
theorem ZnX:cmpop .In (.str sOid) Zco = .ok (.bool true):=rfl
theorem Zma:cmpop .In (.str sEnum) Zco = .ok (.bool true):=rfl
theorem Zmb:cmpop .In (.str sUtf8) Zco = .ok (.bool true):=rfl
theorem Zkm:cmpop .In (.str sPrint) Zco = .ok (.bool true):=rfl
theorem Zmc:cmpop .In (.str sTime) Zco = .ok (.bool true):=rfl
theorem ZnY:cmpop .In (.str sSeq) Zco = .ok (.bool true):=rfl
theorem ZnZ:cmpop .In (.str sSet) Zco = .ok (.bool true):=rfl
end DK.Internal.B
end
section
set_option backward.match.sparseCases false
set_option genSizeOf false
set_option genCtorIdx false
namespace DK.Internal.B
open PySem
theorem Ze (d:D) (sl:List Slot):getV (.val d::sl) 0 = .ok d:=rfl
theorem Zf (s:Slot) (sl:List Slot) (n:Nat):getV (s::sl) (n+1)=getV sl n:=rfl
theorem Zk (s t:Slot) (sl:List Slot):setV (s::sl) 0 t=t::sl:=rfl
theorem Zl (s t:Slot) (sl:List Slot) (n:Nat):setV (s::sl) (n+1) t=s::setV sl n t:=rfl
theorem ZcI (d:List D) (sl:List Slot):ownD (.own d::sl) 0 = .ok d:=rfl
theorem ZcJ (s:Slot) (sl:List Slot) (n:Nat):ownD (s::sl) (n+1)=ownD sl n:=rfl
theorem ZeN (d:List D) (sl:List Slot):freeze (.own d::sl) 0 = .val (.list d)::sl:=rfl
theorem ZfP (d:D) (sl:List Slot):freeze (.val d::sl) 0 = .val d::sl:=rfl
theorem ZeO (s:Slot) (sl:List Slot) (n:Nat):freeze (s::sl) (n+1)=s::freeze sl n:=by
 simp only [freeze,List.getElem?_cons_succ]
 rcases sl[n]? with _ | t
 ·rfl
 ·cases t<;>rfl
theorem ZcA (i):negD (.int i) = .ok (.int (-i)):=rfl
theorem Za (b):boolD (.bool b) = .ok b:=rfl
theorem ZV (b):truthy (.bool b) = .ok b:=rfl
theorem ZoR (b):truthy (.int b) = .ok (decide (b≠0)):=rfl
theorem ZW (a b):binop .Add (.int a) (.int b) = .ok (.int (a+b)):=rfl
theorem ZaR (a b):binop .Sub (.int a) (.int b) = .ok (.int (a - b)):=rfl
theorem Zbx {a b:Int} (h:0 < b):binop .Mod (.int a) (.int b) = .ok (.int (a % b)):=if_pos h
theorem Zkn {a b:Int} (h:0 < b) (h2:b < 1073741824):binop .FloorDiv (.int a) (.int b) = .ok (.int (a / b)):=if_pos ⟨h,h2⟩
theorem Zdr {a b:Int} (h:a.natAbs < 4294967296) (h2:b.natAbs < 4294967296):binop .Mult (.int a) (.int b) = .ok (.int (a*b)):=by
 exact if_pos ⟨decide_eq_true h,decide_eq_true h2⟩
theorem Ziq {a n:Int} (h:0≤n):binop .RShift (.int a) (.int n) = .ok (.int (a / 2 ^ n.toNat)):=if_pos h
theorem ZeP {a n:Int} (h:0≤n) (h2:n≤8192) (h3:a.natAbs < BIG):binop .LShift (.int a) (.int n) = .ok (.int (a*2 ^ n.toNat)):=by
 exact if_pos ⟨h,h2,h3⟩
theorem Zko (a b:Nat):binop .BitAnd (.int a) (.int b) = .ok (.int (a &&& b:Nat)):=by
 exact if_pos (c:=(0:Int)≤a∧(0:Int)≤b) (e:=Out.stuck) ⟨Int.natCast_nonneg a,Int.natCast_nonneg b⟩
theorem b_or (a b:Nat):binop .BitOr (.int a) (.int b) = .ok (.int (a ||| b:Nat)):=by
 exact if_pos (c:=(0:Int)≤a∧(0:Int)≤b) (e:=Out.stuck) ⟨Int.natCast_nonneg a,Int.natCast_nonneg b⟩
theorem ZbS {a b:List UInt8} (h:a.length+b.length≤SZ):binop .Add (.bytes a) (.bytes b) = .ok (.bytes (a++b)):=by
 exact if_pos h
theorem ZdV {a b:List D} (h:a.length+b.length≤SZ):binop .Add (.list a) (.list b) = .ok (.list (a++b)):=by
 exact if_pos h
theorem c_eq (a b):cmpop .Eq a b=bnd okB (D.peq eqDeep a b):=rfl
theorem c_ne (a b):cmpop .NotEq a b=bnd nokB (D.peq eqDeep a b):=rfl
theorem c_lt (a b):cmpop .Lt (.int a) (.int b) = .ok (.bool (@decide (a < b) (Classical.propDecidable _))):=rfl
theorem c_le (a b):cmpop .LtE (.int a) (.int b) = .ok (.bool (@decide (a≤b) (Classical.propDecidable _))):=rfl
theorem c_gt (a b):cmpop .Gt (.int a) (.int b) = .ok (.bool (@decide (a > b) (Classical.propDecidable _))):=rfl
theorem c_ge (a b):cmpop .GtE (.int a) (.int b) = .ok (.bool (@decide (a≥b) (Classical.propDecidable _))):=rfl
theorem c_leB (a b):cmpop .LtE (.bytes a) (.bytes b) = .ok (.bool (lexLe a b)):=rfl
theorem c_is (a b):cmpop .Is a b=bnd okB (isThing a b):=rfl
theorem Zaw (a b):cmpop .IsNot a b=bnd nokB (isThing a b):=rfl
theorem Zt (n) (a b:Int):D.peq n (.int a) (.int b) = .ok (decide (a=b)):=by cases n<;>rfl
theorem Zcn (n) (a b:List UInt8):D.peq n (.bytes a) (.bytes b) = .ok (decide (a=b)):=by cases n<;>rfl
theorem Zj (b):builtin .len [.bytes b] = .ok (.int b.length):=rfl
theorem Zay (b):builtin .len [.list b] = .ok (.int b.length):=rfl
theorem ZaH (b):builtin .len [.tuple b] = .ok (.int b.length):=rfl
theorem Zn (d s):retV (.ret d,s) = .ok d:=rfl
theorem Zaz (s):retV (.next,s) = .ok .none:=rfl
theorem ZgX (n d s):retF n (.ret d,s) = .ok (.ret d,s.take n):=rfl
theorem ZfQ (n s):retF n (.next,s) = .ok (.ret .none,s.take n):=rfl
theorem ZaW (s i d):bindT s (.one i) d = .ok (setV s i (.val d)):=rfl
theorem Zoa (i):isiK .tInt (.int i) = .ok (.bool true):=rfl
theorem Zmd (i b):isThing (.int i) (.bool b) = .ok false:=rfl
theorem Zob (b i):index (.bytes b) (.int i)=atB b (place b.length i):=rfl
theorem Zoc (b i):index (.list b) (.int i)=atL b (place b.length i):=rfl
theorem Zod (b i):index (.tuple b) (.int i)=atL b (place b.length i):=rfl
theorem atB_ok {b:List UInt8} {j:Nat} (h:j < b.length):atB b (some j) = .ok (.int (b[j].toNat:Nat)):=by simp [atB,h]
theorem atL_ok {b:List D} {j:Nat} (h:j < b.length):atL b (some j) = .ok b[j]:=by simp [atL,h]
theorem ZhJ {n i:Nat} (h:i < n):place n i=some i:=by
 show (if (0:Int)≤(if (i:Int) < 0 then (i:Int)+n else i)∧(if (i:Int) < 0 then (i:Int)+n else i) < n then some (if (i:Int) < 0 then (i:Int)+n else i).toNat else none)=_
 rw [show (if (i:Int) < 0 then (i:Int)+n else i)=i from if_neg (by simp),if_pos ⟨by exact Int.natCast_nonneg _,by exact Int.ofNat_lt.mpr (by assumption)⟩,Int.toNat_natCast]
theorem Zkp (xs a b):slice (.bytes xs) (.int a) (.int b) = .ok (.bytes (cut xs (clip xs.length a) (clip xs.length b))):=rfl
theorem Zkq (xs a):slice (.bytes xs) (.int a) .none = .ok (.bytes (cut xs (clip xs.length a) xs.length)):=rfl
theorem Zkr (xs b):slice (.bytes xs) .none (.int b) = .ok (.bytes (cut xs 0 (clip xs.length b))):=rfl
theorem ZfR (xs a):slice (.list xs) (.int a) .none = .ok (.list (cut xs (clip xs.length a) xs.length)):=rfl
theorem ZhK (xs b):slice (.list xs) .none (.int b) = .ok (.list (cut xs 0 (clip xs.length b))):=rfl
theorem ZgY {xs:List D} {b:List UInt8} (h:bytesOf xs=some b):builtin .bytes [.list xs] = .ok (.bytes b):=by show optO (bytesOf xs) _=_;rw [h];rfl
theorem Zoe {xs:List D} {b:List (List UInt8)} (h:byteStrs xs=some b) (h2:b.flatten.length≤SZ∧b.length≤SZ):builtin .join [.list xs] = .ok (.bytes b.flatten):=by show optO (byteStrs xs) _=_;rw [h];exact if_pos h2
theorem ZdW {i:Int} {ds:List D} {bs:List UInt8} (h:0≤i∧i < 256) (h2:bytesOf ds=some bs):bytesOf (.int i::ds)=some (UInt8.ofNat i.toNat::bs):=by
 show (match (if 0≤i∧i < 256 then some (UInt8.ofNat i.toNat) else none),bytesOf ds with | some b,some bs=>some (b::bs) | _,_=>none)=_
 rw [if_pos h,h2]
theorem zc2 {α:Type} (a b:α) {i:Decidable True}:(@ite α True i a b)=a:=if_pos trivial
theorem zc4:(!true)=false:=rfl
theorem zc5:(!false)=true:=rfl
theorem zc6 {α β:Type} (f:α→β) (a l):(a::l).map f=f a::l.map f:=rfl
theorem zc7 {α β:Type} (f:α→β):([]:List α).map f = []:=rfl
theorem zc8 {α:Type} (a:α) (l m):(a::l)++m=a::(l++m):=rfl
theorem zc9 {α:Type} (m:List α) : []++m=m:=rfl
theorem zc10 {i:Decidable True}:@decide True i=true:=decide_eq_true trivial
theorem zc11 {i:Decidable False}:@decide False i=false:=decide_eq_false id
theorem zc13 {α:Type} (a b:α) {i:Decidable (false=true)}:(@ite α (false=true) i a b)=b:=if_neg Bool.false_ne_true
theorem zc14 (a b:Nat):List.replicate ((a+1) - (b+1)) Slot.un=List.replicate (a - b) Slot.un:=by rw [Nat.add_sub_add_right]
theorem zc15 (a:Nat):List.replicate (a - 0) Slot.un=List.replicate a Slot.un:=rfl
theorem zc16 (a:Nat):List.replicate (a+1) Slot.un=Slot.un::List.replicate a Slot.un:=rfl
theorem zc17:List.replicate 0 Slot.un = []:=rfl
variable {T:Text} {r:Nat}
theorem Zfi (B:Base T) (b:Bool):CL T (r+1) 13 [.bool b]=if b=true then .ok .none else .exc:=by
 rw [ZF B.f13 rfl (by decide)]
 cases b<;>simp only [ZlT,ZdR,Zio,Zu,Zv,ZdS,ZV,Zaz,ZE,Zz,ZbY,Ze,Zc,ZL,Zq,ZP,zc2,zc4,zc5,zc6,zc7,zc8,zc9,zc13,zc14,zc15,zc17]
theorem ZH (B:Base T) {c:Prop} [Decidable c] (h:c):CL T (r+1) 13 [.bool (decide c)] = .ok .none:=by rw [Zfi B];simp [h]
theorem ZcK (B:Base T) {c:Prop} [Decidable c] (h:¬c):CL T (r+1) 13 [.bool (decide c)] = .exc:=by rw [Zfi B];simp [h]
theorem Zks (B:Base T) {c:Prop} [Decidable c] (h:¬c):CL T (r+1) 13 [.bool !(decide c)] = .ok .none:=by rw [Zfi B];simp [h]
theorem Zof (B:Base T) {c:Prop} [Decidable c] (h:c):CL T (r+1) 13 [.bool !(decide c)] = .exc:=by rw [Zfi B];simp [h]
theorem ZB (B:Base T):CL T (r+1) 13 [.bool true] = .ok .none:=by rw [Zfi B];rfl
theorem Zds (B:Base T):CL T (r+1) 13 [.bool false] = .exc:=by rw [Zfi B];rfl
theorem ZdX (B:Base T) (c:Int):CL T (r+1) 18 [.int c] = .ok (.bool true):=by
 rw [ZF B.f18 rfl (by decide)]
 simp (disch:=first | decide | assumption | lia) only [Zij,X_k,Zo,ZbC,ZO,ZeH,ZG,Zn,Zd,Zr,ZcT,Ze,Zc,ZaK,Zq,zc5,zc6,zc7,zc8,zc9,zc14,zc15,zc17,Zoa,Zaw,Zmd]
theorem ZgZ (n i:Nat):clip n ((i:Nat):Int)=min i n:=by
 unfold clip;rw [if_neg (Int.not_lt.mpr (Int.natCast_nonneg i))];omega
theorem ZfS {n i:Nat} (h:i≤n):clip n ((i:Nat):Int)=i:=(ZgZ n i).trans (Nat.min_eq_left h)
end DK.Internal.B
end
section
set_option backward.match.sparseCases false
set_option genSizeOf false
set_option genCtorIdx false
namespace DK.Internal.B
open PySem
noncomputable def beB:Nat→Nat→List UInt8
 | 0,_=> []
 | k+1,m=>beB k (m / 256) ++ [UInt8.ofNat (m % 256)]
noncomputable def stepB (n:Nat) (u:UInt8):Nat:=n*256+u.toNat
noncomputable def beV (b:List UInt8):Nat:=b.foldl stepB 0
theorem Zdt:∀k m,(beB k m).length=k
 | 0,_=>rfl
 | k+1,m=>by simp [beB,Zdt k]
theorem ZhL (a b:List UInt8) (n:Nat):(a++b).foldl stepB n=b.foldl stepB (a.foldl stepB n):=List.foldl_append
theorem ZfT (b:List UInt8):∀n,b.foldl stepB n=n*256 ^ b.length+b.foldl stepB 0:=by
 induction b with
 | nil=>intro n;simp
 | cons u us ih=>
  intro n
  simp only [List.foldl_cons,List.length_cons]
  rw [ih (stepB n u),ih (stepB 0 u)]
  simp only [stepB,Nat.pow_succ]
  have e:256 ^ us.length*256=256*256 ^ us.length:=Nat.mul_comm _ _
  rw [e,←Nat.mul_assoc,Nat.add_mul,Nat.zero_mul,Nat.zero_add,Nat.add_assoc]
theorem ZnG (b:List UInt8):beV b < 256 ^ b.length:=by
 unfold beV
 induction b with
 | nil=>simp
 | cons u us ih=>
  simp only [List.foldl_cons,List.length_cons]
  rw [ZfT]
  simp only [stepB,Nat.pow_succ]
  have:=u.toNat_lt
  have h1:(0*256+u.toNat)*256 ^ us.length≤255*256 ^ us.length:=Nat.mul_le_mul_right _ (by lia)
  lia
theorem Zgx (a b:List UInt8):beV (a++b)=beV a*256 ^ b.length+beV b:=by
 unfold beV;rw [ZhL,ZfT]
theorem Zeq (m:Nat):(UInt8.ofNat (m % 256)).toNat=m % 256:=by
 simp
theorem Zkt:∀k m,beV (beB k m)=m % 256 ^ k
 | 0,m=>by simp [beB,beV,Nat.mod_one]
 | k+1,m=>by
  rw [beB,Zgx,Zkt k]
  simp only [List.length_singleton,Nat.pow_one,beV,List.foldl_cons,List.foldl_nil,stepB,Nat.zero_mul,Nat.zero_add,Zeq]
  rw [Nat.pow_succ,Nat.mul_comm (256 ^ k) 256,Nat.mod_mul]
  rw [Nat.mul_comm,Nat.add_comm]
theorem ZeQ {n k:Nat} (h:n < 2 ^ k) (hk:k≤8192):n < BIG:=by
 unfold BIG
 exact Nat.lt_of_lt_of_le h (Nat.pow_le_pow_right (by decide) hk)
theorem ZeR {n k:Nat} (h:n < 256 ^ k) (hk:k≤1024):n < BIG:=by
 apply ZeQ (k:=8*k) _ (by lia)
 rw [Nat.pow_mul];exact h
theorem ZfU {b:List UInt8} {i:Nat} (h:i < b.length):index (.bytes b) (.int i) = .ok (.int (b[i].toNat:Nat)):=by
 rw [Zob,ZhJ h,atB_ok h]
theorem b_shl8 {n:Nat} (h:n < BIG):binop .LShift (.int n) (.int 8) = .ok (.int (n*256:Nat)):=by
 rw [ZeP (by decide) (by decide) (by simpa using h)];rfl
theorem ZhM (i:Nat):((i:Int)+1)=((i+1:Nat):Int):=rfl
theorem Zog (n:Nat) (u:UInt8):n*256 ||| u.toNat=stepB n u:=by
 have:=u.toNat_lt
 rw [stepB,show (256:Nat)=2 ^ 8 from rfl,Nat.mul_comm,Nat.two_pow_add_eq_or_of_lt this]
theorem Zme {n j:Nat} {u:UInt8} (h:n < 256 ^ j):stepB n u < 256 ^ (j+1):=by
 have:=u.toNat_lt
 simp only [stepB,Nat.pow_succ];lia
theorem Zoh {α} (xs:List α) (i:Nat):cut xs i i = []:=by simp [cut]
theorem Zmf {α} (xs:List α) {i hi:Nat} (h:i < hi) (h2:hi≤xs.length):cut xs i hi=xs[i]::cut xs (i+1) hi:=by
 unfold cut
 rw [List.drop_eq_getElem_cons (by exact Nat.lt_of_lt_of_le (by assumption) (by assumption))]
 rw [show hi - i=(hi - (i+1))+1 by lia,List.take_succ_cons]
theorem Zfj {α} (xs:List α) {i hi:Nat} (h2:hi≤xs.length):(cut xs i hi).length=hi - i:=by
 simp [cut];lia
theorem ZjA {α} (xs:List α) {i j k:Nat} (h:i≤j) (h2:j≤k):cut xs i j++cut xs j k=cut xs i k:=by
 unfold cut
 have e:k - i=(j - i)+(k - j):=by lia
 rw [e,List.take_add,List.drop_drop,show i+(j - i)=j by lia]
theorem Zku {α} (xs:List α):cut xs 0 xs.length=xs:=by simp [cut]
variable {T:Text} {r:Nat}
theorem ZhN (data:List UInt8) (lo hi:Nat) (hhi:hi≤data.length) (s5 s6 s7:Slot):∀d i n j,i+d=hi→n < 256 ^ j→j+d≤1024 →
  W T r Zbn ZbW [.val (.bytes data),.val (.int lo),.val (.int hi),.val (.int (n:Nat)),.val (.int (i:Nat)),s5,s6,s7] =
   .ok (.next,[.val (.bytes data),.val (.int lo),.val (.int hi),.val (.int ((cut data i hi).foldl stepB n:Nat)),.val (.int hi),s5,s6,s7]):=by
 intro d
 induction d with
 | zero=>
  intro i n j hi' hn hj
  have e:i=hi:=by assumption
  subst e
  rw [V_eq]
  simp only [Zbn,Zo,Zs,Za,c_lt,Zd,whK_f,Ze,Zf,Zc,zc11,Int.lt_irrefl,Zoh,List.foldl_nil]
 | succ d ih=>
  intro i n j hi' hn hj
  rw [V_eq]
  have h1:((i:Nat):Int) < hi:=by lia
  have h2:i < data.length:=by lia
  simp only [Zbn,ZbW,X_k,Zo,ZC,Zx,Zs,Zu,ZA,Zen,ZQ,Za,ZW,c_lt,Zd,Zh,Zbw,ZgO,Ze,Zf,Zk,Zl,Zc,Zq,ZP,zc10,h1,ZfU h2,b_shl8 (ZeR hn (by lia)),b_or,Zog,ZhM]
  have:=ih (i+1) (stepB n data[i]) (j+1) (by lia) (Zme hn) (by lia)
  simp only [Zbn,ZbW] at this
  rw [this]
  rw [Zmf data (i:=i) (hi:=hi) (by exact Int.ofNat_lt.mp (by assumption)) hhi]
  rfl
theorem Zha (B:Base T) (data:List UInt8):∀k lo hi r,lo≤hi→hi≤data.length→hi - lo≤32*2 ^ k→hi - lo≤1000 →
  CL T (r+k+1) 0 [.bytes data,.int (lo:Nat),.int (hi:Nat)] = .ok (.int (beV (cut data lo hi):Nat)):=by
 intro k
 induction k with
 | zero=>
  intro lo hi r h1 h2 h3 h4
  rw [ZF B.f0 rfl (by decide)]
  have h5:(hi:Int) - lo≤32:=by lia
  simp only [ZcV,X_k,Zo,ZC,Zs,ZA,Zv,Zcu,Za,ZaR,c_le,Zd,Zh,ZE,Ze,Zf,Zk,Zl,Zc,Zq,zc6,zc7,zc8,zc9,zc10,zc16,zc17,h5]
  rw [show (0:Int)=((0:Nat):Int) from rfl,ZhN data lo hi h2 _ _ _ (hi - lo) lo 0 0 (by lia) (by decide) (by lia)]
  simp only [Zo,ZG,ZK,Zn,Zr,Ze,Zf,Zc]
  rfl
 | succ k ih=>
  intro lo hi r h1 h2 h3 h4
  rw [ZF B.f0 rfl (by decide)]
  by_cases h5:(hi:Int) - lo≤32
  ·simp only [ZcV,X_k,Zo,ZC,Zs,ZA,Zv,Zcu,Za,ZaR,c_le,Zd,Zh,ZE,Ze,Zf,Zk,Zl,Zc,Zq,zc6,zc7,zc8,zc9,zc10,zc16,zc17,h5]
   rw [show (0:Int)=((0:Nat):Int) from rfl,ZhN data lo hi h2 _ _ _ (hi - lo) lo 0 0 (by lia) (by decide) (by lia)]
   simp only [Zo,ZG,ZK,Zn,Zr,Ze,Zf,Zc]
   rfl
  ·have e:((lo:Int)+hi) / 2=(((lo+hi) / 2:Nat):Int):=by rfl
   have hp:32*2 ^ (k+1)=2*(32*2 ^ k):=by rw [Nat.pow_succ];lia
   have hm:=ih lo ((lo+hi) / 2) r (by lia) (by lia) (by lia) (by lia)
   have hm2:=ih ((lo+hi) / 2) hi r (by lia) (by assumption) (by lia) (by lia)
   have e2:(8:Int)*((hi:Int) - ((lo+hi) / 2:Nat))=((8*(hi - (lo+hi) / 2):Nat):Int):=by lia
   have hb:beV (cut data lo ((lo+hi) / 2)) < BIG:=ZeR (ZnG _) (by rw [Zfj _ (by lia)];lia)
   simp (disch:=first | decide | assumption | lia) only [ZcV,X_k,Zo,ZC,Zp,Zg,Zb,Zs,Zu,ZG,ZA,Zv,Za,ZW,ZaR,c_le,Zd,Zh,Zz,Zi,Ze,Zf,Zk,Zl,Zc,Zq,zc6,zc7,zc8,zc9,zc11,zc16,zc17,h5,Zkn,e,show r+(k+1)=r+k+1 from rfl,hm,hm2,Zdr,e2]
   rw [ZeP (by exact Int.natCast_nonneg _) (by lia) (by simpa using hb)]
   simp only [Int.toNat_natCast]
   have e3:((beV (cut data lo ((lo+hi) / 2)):Nat):Int)*2 ^ (8*(hi - (lo+hi) / 2))=((2 ^ (8*(hi - (lo+hi) / 2))*beV (cut data lo ((lo+hi) / 2)):Nat):Int):=by
    rw [Int.natCast_mul,Int.mul_comm];simp
   rw [e3,Zd,b_or]
   simp only [Zn,Zr,Zc]
   have hl:beV (cut data ((lo+hi) / 2) hi) < 2 ^ (8*(hi - (lo+hi) / 2)):=by
    have:=ZnG (cut data ((lo+hi) / 2) hi)
    rw [Zfj _ h2] at this
    rw [Nat.pow_mul];exact this
   rw [←Nat.two_pow_add_eq_or_of_lt hl,←ZjA data (i:=lo) (j:=(lo+hi) / 2) (k:=hi) (by lia) (by lia),Zgx,Zfj _ h2,Nat.mul_comm,Nat.pow_mul]
end DK.Internal.B
end
section
set_option backward.match.sparseCases false
set_option genSizeOf false
set_option genCtorIdx false
namespace DK.Internal.B
open PySem
noncomputable def uD (u:UInt8):D:= .int (u.toNat:Nat)
theorem Zkv:∀b a m,beB (a+b) m=beB a (m / 256 ^ b)++beB b (m % 256 ^ b)
 | 0,a,m=>by simp [beB]
 | b+1,a,m=>by
  show beB (a+b+1) m=_
  rw [beB,beB,Zkv b a,Nat.div_div_eq_div_mul,←Nat.pow_succ',List.append_assoc]
  rw [Nat.pow_succ',Nat.mod_mul_right_div_self,Nat.mod_mul_right_mod]
theorem and255 (m:Nat):m &&& 255=m % 256:=Nat.and_two_pow_sub_one_eq_mod m 8
theorem and127 (m:Nat):m &&& 127=m % 128:=Nat.and_two_pow_sub_one_eq_mod m 7
theorem Zmg (m:Nat):binop .BitAnd (.int m) (.int 255) = .ok (.int (m % 256:Nat)):=by
 rw [←and255];exact Zko m 255
theorem ZaS (m:Nat):binop .BitAnd (.int m) (.int 127) = .ok (.int (m % 128:Nat)):=by
 rw [←and127];exact Zko m 127
theorem ZiZ (m:Nat):binop .RShift (.int m) (.int 8) = .ok (.int (m / 256:Nat)):=by
 rw [Ziq (by decide)];rfl
theorem Zja {α}:∀(l:List α) (j:Nat) (x:α),j < l.length→(l.set j x).drop j=x::l.drop (j+1)
 | a::l,0,x,_=>rfl
 | a::l,j+1,x,h=>by simpa using Zja l j x (by simpa using h)
theorem Zmh (k:Nat):(List.replicate k [D.int 0]).flatten=List.replicate k (D.int 0):=by
 induction k with
 | zero=>rfl
 | succ k ih=>simp [List.replicate_succ,ih]
theorem b_rep {k:Nat} (h:k≤1000):binop .Mult (.list [.int 0]) (.int k) = .ok (.list (List.replicate k (.int 0))):=by
 have h2:0≤(k:Int)∧([D.int 0].length*(k:Int).toNat≤SZ)∧(k:Int)≤SZ:=by
  simp [SZ];lia
 refine (if_pos h2).trans ?_
 rw [Int.toNat_natCast,Zmh]
theorem ZjB (b:List UInt8):bytesOf (b.map uD)=some b:=by
 induction b with
 | nil=>rfl
 | cons u us ih=>
  have h:(0:Int)≤(u.toNat:Nat)∧((u.toNat:Nat):Int) < 256:=by have:=u.toNat_lt;lia
  refine (ZdW h ih).trans ?_
  simp
theorem ZeS (b:List UInt8):builtin .bytes [.list (b.map uD)] = .ok (.bytes b):=by
 exact ZgY (ZjB b)
variable {T:Text} {r:Nat}
theorem Zoi (s1 s2 s5 s6:Slot):∀(j m:Nat) (tmp:List D),j≤tmp.length →
  W T r Zau ZaT [.val (.int (m:Nat)),s1,s2,.own tmp,.val (.int ((j:Nat) - 1:Int)),s5,s6] =
   .ok (.next,[.val (.int (m / 256 ^ j:Nat)),s1,s2,.own ((beB j m).map uD++tmp.drop j),.val (.int (-1)),s5,s6]):=by
 intro j
 induction j with
 | zero=>
  intro m tmp h
  rw [V_eq]
  simp only [Zau,X_k,Zo,Zs,Za,c_ge,Zd,whK_f,Ze,Zf,Zc,zc7,zc9,zc11,show ((0:Nat):Int) - 1 = -1 from rfl,show ¬((-1:Int)≥0) by decide,beB,List.drop_zero,Nat.pow_zero,Nat.div_one]
 | succ j ih=>
  intro m tmp h
  rw [V_eq]
  generalize W T r Zau ZaT=w at ih ⊢
  have e:((j+1:Nat):Int) - 1=(j:Nat):=by simp
  have h3:=ih (m / 256) (tmp.set j (.int (m % 256:Nat))) (by simp;exact Nat.le_of_lt (by assumption))
  simp (disch:=first | decide | assumption | lia) only [Zau,ZaT,X_k,Zo,ZC,Zs,Zu,ZA,Zen,Z_sub,ZQ,Za,ZaR,c_ge,Zd,Zh,Zbw,ZnT,ZdN,Ze,Zf,Zk,Zl,ZcI,ZcJ,Zc,Zq,ZP,e,Zmg,Int.toNat_natCast,ZiZ,h3]
  rw [Zja _ _ _ (by assumption),Nat.div_div_eq_div_mul,←Nat.pow_succ']
  simp only [beB,List.map_append,List.map_cons,List.map_nil,uD,Zeq,List.append_assoc,List.singleton_append]
theorem back3 (c1 c2:C) (a b:Slot) (ys:List D) (sl:List Slot):back (.val c1 (.val c2 (.own 2 .nil))) [a,b,.own ys] sl = .ok (setV sl 2 (.own ys)):=rfl
theorem Zoj (B:Base T):∀q (m k:Nat) (out:List D) r,k≤32*2 ^ q→k≤1000→out.length+k≤1000→m < BIG →
  ∃a b,CX T (r+q+1) 1 [.val (.int (m:Nat)),.val (.int (k:Nat)),.own out] = .ok [a,b,.own (out++(beB k m).map uD)]:=by
 have hbase:∀(m k:Nat) (out:List D) r,k≤32→out.length+k≤1000 →
   ∃a b,CX T (r+1) 1 [.val (.int (m:Nat)),.val (.int (k:Nat)),.own out] = .ok [a,b,.own (out++(beB k m).map uD)]:=by
  intro m k out r h1 h3
  have h5:(k:Int)≤32:=by exact Int.ofNat_le.mpr (by assumption)
  have hl:=Zoi (T:=T) (r:=r) (.val (.int (k:Nat))) (.own out) .un .un k m (List.replicate k (.int 0)) (by simp)
  have hs:out.length+((beB k m).map uD).length≤1000000:=by rw [List.length_map,Zdt];exact Nat.le_trans (by assumption) (by decide)
  refine ⟨.val (.int (m / 256 ^ k:Nat)),.val (.int (k:Nat)),?_⟩
  ·rw [CX_eq B.f1 rfl (by decide)]
   simp (disch:=first | decide | assumption | lia) only [Zct,X_k,Zo,ZC,Zak,Zg,Zb,Zs,ZG,ZA,Zgr,Zv,Zcu,ZeJ,Z_ext,ZK,Za,ZaR,c_le,ZgX,Zd,Zr,Zh,ZcY,ZY,Zaf,Zi,Ze,Zf,Zk,Zl,ZcI,ZcJ,ZeN,ZeO,ZgP,Zc,Zq,zc8,zc9,zc16,b_rep,hl,List.drop_replicate,Nat.sub_self,List.replicate_zero,List.append_nil,ZnR hs,List.take]
 intro q
 induction q with
 | zero=>
  intro m k out r h1 h2 h3 hm
  exact hbase m k out r (by assumption) h3
 | succ q ih=>
  intro m k out r h1 h2 h3 hm
  by_cases h5:(k:Int)≤32
  ·exact hbase m k out (r+(q+1)) (by exact Int.ofNat_le.mp (by assumption)) h3
  ·have hp:32*2 ^ (q+1)=2*(32*2 ^ q):=by rw [Nat.pow_succ];lia
   have e:(k:Int) / 2=((k / 2:Nat):Int):=by rfl
   have e1:(k:Int) - (k / 2:Nat)=((k - k / 2:Nat):Int):=by lia
   have e2:(8:Int)*((k / 2:Nat):Int)=((8*(k / 2):Nat):Int):=by rfl
   have e4:((m:Nat):Int) / 2 ^ (8*(k / 2))=((m / 256 ^ (k / 2):Nat):Int):=by
    rw [show (256:Nat)=2 ^ 8 from rfl,←Nat.pow_mul];simp
   have e5:(1:Int)*2 ^ (8*(k / 2)) - 1=((2 ^ (8*(k / 2)) - 1:Nat):Int):=by
    have:0 < 2 ^ (8*(k / 2)):=Nat.pow_pos (by decide)
    rw [Int.natCast_sub (by assumption)];simp
   have e6:2 ^ (8*(k / 2))=256 ^ (k / 2):=by rw [Nat.pow_mul]
   have e7:m &&& (2 ^ (8*(k / 2)) - 1)=m % 256 ^ (k / 2):=by rw [Nat.and_two_pow_sub_one_eq_mod,e6]
   have hone:(1:Int).natAbs < BIG:=ZeQ (k:=1) (by decide) (by decide)
   obtain ⟨a1,b1,hc1⟩:=ih (m / 256 ^ (k / 2)) (k - k / 2) out r (by lia) (by lia) (by lia) (Nat.lt_of_le_of_lt (Nat.div_le_self _ _) hm)
   obtain ⟨a2,b2,hc2⟩:=ih (m % 256 ^ (k / 2)) (k / 2) (out++(beB (k - k / 2) (m / 256 ^ (k / 2))).map uD) r (by lia) (by lia) (by
    simp [Zdt];lia) (Nat.lt_of_le_of_lt (Nat.mod_le _ _) hm)
   refine ⟨.val (.int (m:Nat)),.val (.int (k:Nat)),?_⟩
   ·rw [CX_eq B.f1 rfl (by decide)]
    simp (disch:=first | decide | assumption | lia) only [Zct,X_k,Zo,ZC,Zs,Zu,ZA,Zv,Za,ZaR,c_le,Zd,Zh,Zy,Ze,Zf,Zk,Zl,Zc,Zq,zc8,zc9,zc16,zc17,Zkn,e,e1,show r+(q+1)=r+q+1 from rfl]
    rw [ZfH _ _ _ _ (by decide)]
    simp (disch:=first | decide | assumption | lia) only [X_k,Zo,ZC,ZhB,ZhC,ZhD,Out.ok_bind,Zd,arK_,arO_,Ze,Zf,Zk,Zl,ZcI,ZcJ,Zdr,e2,Ziq,Int.toNat_natCast,e4,hc1,back3]
    rw [ZfH _ _ _ _ (by decide)]
    simp (disch:=first | decide | assumption | lia) only [X_k,Zo,ZC,Zu,ZhB,ZhC,ZhD,Out.ok_bind,ZaR,ZfQ,Zd,arK_,arO_,Ze,Zf,Zk,Zl,ZcI,ZcJ,ZgP,Zc,ZP,Zdr,e2,ZeP,Int.toNat_natCast,e5,Zko,e7,hc2,back3,List.take]
    rw [List.append_assoc,←List.map_append,←Zkv,show k - k / 2+k / 2=k by lia]
theorem Zhb (B:Base T) {m k:Nat} (hk:k≤1000) (hm:m < BIG):CL T (r+8) 2 [.int (m:Nat),.int (k:Nat)] = .ok (.bytes (beB k m)):=by
 rw [ZF B.f2 rfl (by decide)]
 obtain ⟨a,b,hc⟩:=Zoj B 5 m k [] (r+1) (by exact Nat.le_trans (by assumption) (by decide)) hk (by simpa using hk) hm
 simp only [Zgj,Zak,Zg,Zgr,ZcY,Zaf,Zk,Zl,Zc,Zq,zc6,zc7,zc8,zc9,zc16,zc17]
 rw [show r+7=r+6+1 from rfl,ZfH _ _ _ _ (by decide)]
 simp only [Zo,P_bi,Zg,Zb,ZG,ZeJ,ZhB,ZhC,ZhD,Out.ok_bind,Zn,Zd,Zr,Zi,arK_,arO_,Ze,Zf,Zk,Zl,ZcI,ZcJ,ZeN,ZeO,Zc,zc9,show r+6+1=r+1+5+1 from rfl,hc,back3,ZeS]
end DK.Internal.B
end
section
set_option backward.match.sparseCases false
set_option genSizeOf false
set_option genCtorIdx false
namespace DK.Internal.B
open PySem
noncomputable def lenB (n:Nat):List UInt8:=if n < 128 then [UInt8.ofNat n] else if n < 256 then [129,UInt8.ofNat n] else [130,UInt8.ofNat (n / 256),UInt8.ofNat n]
theorem Zab (pre suf:List UInt8) (u:UInt8) {i:Int} (h:i=(pre.length:Nat)):index (.bytes (pre++u::suf)) (.int i) = .ok (.int (u.toNat:Nat)):=by
 subst h
 rw [ZfU (by simp)]
 simp
theorem ZaX (xs:List UInt8) {a b:Int} (i j:Nat) (h1:a=(i:Nat)) (h2:b=((i+j:Nat):Int)):slice (.bytes xs) (.int a) (.int b) = .ok (.bytes ((xs.drop i).take j)):=by
 subst h1;subst h2
 rw [Zkp,ZgZ,ZgZ]
 refine congrArg (fun l=>Out.ok (D.bytes l)) ?_
 unfold cut
 rcases Nat.le_total i xs.length with h | h
 ·rw [Nat.min_eq_left h]
  rcases Nat.le_total (i+j) xs.length with h2 | h2
  ·rw [Nat.min_eq_left h2,Nat.add_sub_cancel_left]
  ·rw [Nat.min_eq_right h2,List.take_of_length_le (Nat.le_of_eq List.length_drop),List.take_of_length_le (List.length_drop ▸ Nat.sub_le_iff_le_add'.mpr h2)]
 ·rw [Nat.min_eq_right h,List.drop_of_length_le h,List.drop_length,List.take_nil,List.take_nil]
theorem ZeB (pre m suf:List UInt8) (i j:Nat) (h1:i=pre.length) (h2:j=m.length):((pre++(m++suf)).drop i).take j=m:=by
 subst h1;subst h2;simp
theorem ZhO {n:Nat} (h:n < 256):builtin .bytes [.list [.int (n:Nat)]] = .ok (.bytes [UInt8.ofNat n]):=by
 have h2:(0:Int)≤(n:Nat)∧((n:Nat):Int) < 256:=by lia
 exact (ZgY (ZdW h2 rfl)).trans (by simp)
theorem ZX {n:Nat} (h:n < 256):(UInt8.ofNat n).toNat=n:=by simp;assumption
theorem ZfV (n:Nat):UInt8.ofNat (n % 256)=UInt8.ofNat n:=by
 apply UInt8.toNat_inj.mp;simp
variable {T:Text} {r:Nat}
theorem ZI (B:Base T) {n:Nat} (h:n < 65536):CL T (r+9) 3 [.int (n:Nat)] = .ok (.bytes (lenB n)):=by
 rw [ZF B.f3 rfl (by decide)]
 by_cases h1:n < 128
 ·simp (disch:=first | decide | assumption | lia) only [Zcm,X_k,Zo,Zak,P_bi,Zg,Zb,Zs,Zu,ZG,Zv,Za,c_lt,Zn,Zd,Zr,ZY,Zy,Zaf,Zi,Ze,Zc,Zq,zc6,zc7,zc8,zc9,zc16,zc17,ZhO]
  rw [lenB,if_pos h1]
 ·by_cases h2:n < 256
  ·have hw:W T (r+8) ZM ZN [.val (.int (n:Nat)),.val (.int 0),.val (.int (n:Nat)),.un] = .ok (.next,[.val (.int (n:Nat)),.val (.int 1),.val (.int 0),.un]):=by
    rw [V_eq]
    generalize hg:W T (r+8) ZM ZN=w
    have e:n / 256=0:=by lia
    simp (disch:=first | decide | assumption | lia) only [ZM,ZN,X_k,Zo,ZC,Zs,Zu,ZA,Zen,ZQ,Za,ZW,c_gt,Zd,Zh,Zbw,ZdN,Ze,Zf,Zk,Zl,Zc,Zq,ZP,ZiZ,e]
    rw [←hg,V_eq]
    generalize hg:W T (r+8) ZM ZN=w
    simp (disch:=first | decide | assumption | lia) only [ZM,ZN,X_k,Zo,Zs,Za,c_gt,Zd,Zep,Ze,Zf,Zc]
    rfl
   have hb:=Zhb B (r:=r) (m:=n) (k:=1) (by exact Nat.succ_pos _) (ZeQ (k:=16) (by assumption) (by exact Nat.le_add_left _ _))
   have e2:((128:Nat) ||| 1)=129:=by decide
   simp (disch:=first | decide | assumption | lia) only [Zcm,X_k,Zo,ZC,Zak,P_bi,Zp,Zg,Zb,Zs,Zu,ZG,ZA,Zv,Zcu,ZK,Za,c_lt,Zj,Zd,Zh,Zy,Zaf,Zi,Ze,Zf,Zk,Zl,Zc,Zq,zc6,zc7,zc8,zc9,zc16,zc17,hw,show (1:Int)=((1:Nat):Int) from rfl,hb,show (128:Int)=((128:Nat):Int) from rfl,b_or,Zdt,e2,ZhO]
   rw [ZbS (by simp [beB,SZ])]
   simp only [Zn,Zr,Zc,zc8,zc9]
   rw [lenB,if_neg h1,if_pos h2]
   simp [beB,ZfV]
  ·have hw:W T (r+8) ZM ZN [.val (.int (n:Nat)),.val (.int 0),.val (.int (n:Nat)),.un] = .ok (.next,[.val (.int (n:Nat)),.val (.int 2),.val (.int 0),.un]):=by
    rw [V_eq]
    generalize hg:W T (r+8) ZM ZN=w
    have e:n / 256 / 256=0:=by lia
    simp (disch:=first | decide | assumption | lia) only [ZM,ZN,X_k,Zo,ZC,Zs,Zu,ZA,Zen,ZQ,Za,ZW,c_gt,Zd,Zh,Zbw,ZdN,Ze,Zf,Zk,Zl,Zc,Zq,ZP,ZiZ]
    rw [←hg,V_eq]
    generalize hg:W T (r+8) ZM ZN=w
    simp (disch:=first | decide | assumption | lia) only [ZM,ZN,X_k,Zo,ZC,Zs,Zu,ZA,Zen,ZQ,Za,ZW,c_gt,Zd,Zh,Zbw,ZdN,Ze,Zf,Zk,Zl,Zc,Zq,ZP,ZiZ,e]
    rw [←hg,V_eq]
    generalize hg:W T (r+8) ZM ZN=w
    simp (disch:=first | decide | assumption | lia) only [ZM,ZN,X_k,Zo,Zs,Za,c_gt,Zd,Zep,Ze,Zf,Zc]
    rfl
   have hb:=Zhb B (r:=r) (m:=n) (k:=2) (by exact Nat.le_add_left _ _) (ZeQ (k:=16) (by assumption) (by exact Nat.le_add_left _ _))
   have e2:((128:Nat) ||| 2)=130:=by decide
   simp (disch:=first | decide | assumption | lia) only [Zcm,X_k,Zo,ZC,Zak,P_bi,Zp,Zg,Zb,Zs,Zu,ZG,ZA,Zv,Zcu,ZK,Za,c_lt,Zj,Zd,Zh,Zy,Zaf,Zi,Ze,Zf,Zk,Zl,Zc,Zq,zc6,zc7,zc8,zc9,zc16,zc17,hw,show (2:Int)=((2:Nat):Int) from rfl,hb,show (128:Int)=((128:Nat):Int) from rfl,b_or,Zdt,e2,ZhO]
   rw [ZbS (by simp [beB,SZ])]
   simp only [Zn,Zr,Zc,zc8,zc9]
   rw [lenB,if_neg h1,if_neg h2]
   simp [beB,ZfV]
theorem Zdp (B:Base T) {n:Nat} (h:n < 65536) (pre suf:List UInt8) {at':Int} (ha:at'=(pre.length:Nat)) :
  CL T (r+10) 4 [.bytes (pre++(lenB n++suf)),.int at'] = .ok (.tuple [.int (n:Nat),.int (at' + ((lenB n).length:Nat))]):=by
 subst ha
 rw [ZF B.f4 rfl (by decide)]
 have hw:=ZI B (r:=r) h
 have hm:=ZeB pre (lenB n) suf
 by_cases h1:n < 128
 ·have e:lenB n = [UInt8.ofNat n]:=by rw [lenB,if_pos h1]
  rw [e] at hw hm ⊢
  simp (disch:=first | lia | simp) only [Zah,X_k,Zo,ZC,Zx,ZZ,P_bi,Zg,Zb,Zs,Zu,ZG,ZA,Zv,Za,ZW,c_lt,c_ge,Zj,Zn,Zd,Zr,Zh,ZY,Zy,Zaa,Zi,Ze,Zf,Zk,Zl,Zc,Zq,zc6,zc7,zc8,zc9,zc16,zc17,Zab,ZX,List.length_append,List.length_cons]
  rfl
 ·by_cases h2:n < 256
  ·have e:lenB n = [129,UInt8.ofNat n]:=by rw [lenB,if_neg h1,if_pos h2]
   rw [e] at hw hm ⊢
   have e1:(129:UInt8).toNat % 128=1:=by decide
   have hv:beV (cut [UInt8.ofNat n] 0 1)=n:=by simp [cut,beV,stepB];assumption
   have hu:CL T (r+9) 0 [.bytes [UInt8.ofNat n],.int 0,.int ((1:Nat):Int)] = .ok (.int (n:Nat)):=by
    have:=Zha B [UInt8.ofNat n] 0 0 1 (r+8) (by decide) (by simp) (by decide) (by decide)
    rw [hv] at this;exact this
   have hs:slice (.bytes (pre++(129::UInt8.ofNat n::suf))) (.int ((pre.length:Nat)+1)) (.int ((pre.length:Nat)+1+(1:Nat))) = .ok (.bytes [UInt8.ofNat n]):=by
    rw [ZaX _ (pre.length+1) 1 (by rfl) (by rfl)]
    rw [show pre++(129::UInt8.ofNat n::suf)=(pre ++ [129])++([UInt8.ofNat n]++suf) by simp]
    rw [ZeB (pre ++ [129]) [UInt8.ofNat n] suf (pre.length+1) 1 (by simp) rfl]
   have hs1:slice (.bytes (pre++(129::UInt8.ofNat n::suf))) (.int (pre.length:Nat)) (.int ((pre.length:Nat)+1+(1:Nat))) = .ok (.bytes [129,UInt8.ofNat n]):=by
    rw [ZaX _ pre.length 2 (by rfl) (by rfl)]
    simp
   simp (disch:=first | lia | simp) only [Zah,X_k,Zo,ZC,Zx,ZaF,ZZ,P_bi,Zp,Zg,Zb,R_or,Zs,Zu,ZG,ZA,Zv,Za,ZW,c_ne,c_lt,c_gt,c_ge,Zj,Zn,Zt,Zcn,Zd,Zae,Zr,Zh,Zz,Zy,ZfL,Zaa,Zi,Ze,Zf,Zk,Zl,Zc,ZaK,Zq,zc4,zc6,zc7,zc8,zc9,zc10,zc16,zc17,Zab,ZaS,hs,hs1,hu,hw,List.length_append,List.length_cons,List.length_nil,Nat.zero_add,show (129:UInt8).toNat=129 from rfl]
   rfl
  ·have e:lenB n = [130,UInt8.ofNat (n / 256),UInt8.ofNat n]:=by rw [lenB,if_neg h1,if_neg h2]
   rw [e] at hw ⊢
   have e1:(130:UInt8).toNat % 128=2:=by decide
   have hv:beV (cut [UInt8.ofNat (n / 256),UInt8.ofNat n] 0 2)=n:=by simp [cut,beV,stepB];lia
   have hu:CL T (r+9) 0 [.bytes [UInt8.ofNat (n / 256),UInt8.ofNat n],.int 0,.int ((2:Nat):Int)] = .ok (.int (n:Nat)):=by
    have:=Zha B [UInt8.ofNat (n / 256),UInt8.ofNat n] 0 0 2 (r+8) (by decide) (by simp) (by decide) (by decide)
    rw [hv] at this;exact this
   have hs:slice (.bytes (pre++(130::UInt8.ofNat (n / 256)::UInt8.ofNat n::suf))) (.int ((pre.length:Nat)+1)) (.int ((pre.length:Nat)+1+(2:Nat))) = .ok (.bytes [UInt8.ofNat (n / 256),UInt8.ofNat n]):=by
    rw [ZaX _ (pre.length+1) 2 (by rfl) (by rfl)]
    rw [show pre++(130::UInt8.ofNat (n / 256)::UInt8.ofNat n::suf)=(pre ++ [130])++([UInt8.ofNat (n / 256),UInt8.ofNat n]++suf) by simp]
    rw [ZeB (pre ++ [130]) [UInt8.ofNat (n / 256),UInt8.ofNat n] suf (pre.length+1) 2 (by simp) rfl]
   have hs1:slice (.bytes (pre++(130::UInt8.ofNat (n / 256)::UInt8.ofNat n::suf))) (.int (pre.length:Nat)) (.int ((pre.length:Nat)+1+(2:Nat))) = .ok (.bytes [130,UInt8.ofNat (n / 256),UInt8.ofNat n]):=by
    rw [ZaX _ pre.length 3 (by rfl) (by rfl)]
    simp
   simp (disch:=first | lia | simp) only [Zah,X_k,Zo,ZC,Zx,ZaF,ZZ,P_bi,Zp,Zg,Zb,R_or,Zs,Zu,ZG,ZA,Zv,Za,ZW,c_ne,c_lt,c_gt,c_ge,Zj,Zn,Zt,Zcn,Zd,Zae,Zr,Zh,Zz,Zy,ZfL,Zaa,Zi,Ze,Zf,Zk,Zl,Zc,ZaK,Zq,zc4,zc6,zc7,zc8,zc9,zc10,zc16,zc17,Zab,ZaS,hs,hs1,hu,hw,List.length_append,List.length_cons,List.length_nil,Nat.zero_add,Nat.reduceAdd,show (130:UInt8).toNat=130 from rfl]
   rfl
theorem ZfW (B:Base T) {n j:Nat} (hj:j < (lenB n).length) (pre:List UInt8) {at':Int} (ha:at'=(pre.length:Nat)) :
  CL T (r+10) 4 [.bytes (pre++(lenB n).take j),.int at'] = .exc:=by
 subst ha
 rw [ZF B.f4 rfl (by decide)]
 cases j with
 | zero=>
  simp (disch:=first | lia | simp) only [Zah,Zo,P_bi,Zg,Zb,Zs,Zv,ZdS,Za,c_ge,Zj,Zd,ZY,Zi,Ze,Zf,Zc,ZL,Zq,zc6,zc7,zc8,zc9,zc16,zc17,List.take_zero,List.append_nil]
 | succ j=>
  by_cases h1:n < 128
  ·rw [lenB,if_pos h1] at hj;simp at hj
  ·by_cases h2:n < 256
   ·have e:lenB n = [129,UInt8.ofNat n]:=by rw [lenB,if_neg h1,if_pos h2]
    rw [e] at hj ⊢
    have:j=0:=by simp at hj;lia
    subst this
    have e1:(129:UInt8).toNat % 128=1:=by decide
    have hs:slice (.bytes (pre ++ [129])) (.int ((pre.length:Nat)+1)) (.int ((pre.length:Nat)+1+(1:Nat))) = .ok (.bytes []):=by
     rw [ZaX _ (pre.length+1) 1 (by rfl) (by rfl)];simp
    simp (disch:=first | lia | simp) only [List.take_succ_cons,List.take_zero,Zah,X_k,Zo,ZC,Zx,ZaF,P_bi,Zg,Zb,R_or,Zs,Zu,ZA,Zv,ZdS,Za,ZW,c_ne,c_lt,c_gt,c_ge,Zj,Zt,Zd,Zae,Zh,Zy,ZgM,ZfL,Zi,Ze,Zf,Zk,Zl,Zc,ZL,ZaK,Zq,zc6,zc7,zc8,zc9,zc16,zc17,Zab,ZaS,hs,List.length_append,List.length_cons,List.length_nil,Nat.zero_add,show (129:UInt8).toNat=129 from rfl]
   ·have e:lenB n = [130,UInt8.ofNat (n / 256),UInt8.ofNat n]:=by rw [lenB,if_neg h1,if_neg h2]
    rw [e] at hj ⊢
    have:j=0∨j=1:=by simp at hj;lia
    have e1:(130:UInt8).toNat % 128=2:=by decide
    rcases this with this | this
    ·subst this
     have hs:slice (.bytes (pre ++ [130])) (.int ((pre.length:Nat)+1)) (.int ((pre.length:Nat)+1+(2:Nat))) = .ok (.bytes []):=by
      rw [ZaX _ (pre.length+1) 2 (by rfl) (by rfl)];simp
     simp (disch:=first | lia | simp) only [List.take_succ_cons,List.take_zero,Zah,X_k,Zo,ZC,Zx,ZaF,P_bi,Zg,Zb,R_or,Zs,Zu,ZA,Zv,ZdS,Za,ZW,c_ne,c_lt,c_gt,c_ge,Zj,Zt,Zd,Zae,Zh,Zy,ZgM,ZfL,Zi,Ze,Zf,Zk,Zl,Zc,ZL,ZaK,Zq,zc6,zc7,zc8,zc9,zc16,zc17,Zab,ZaS,hs,List.length_append,List.length_cons,List.length_nil,Nat.zero_add,show (130:UInt8).toNat=130 from rfl]
    ·subst this
     have hs:slice (.bytes (pre ++ [130,UInt8.ofNat (n / 256)])) (.int ((pre.length:Nat)+1)) (.int ((pre.length:Nat)+1+(2:Nat))) = .ok (.bytes [UInt8.ofNat (n / 256)]):=by
      rw [ZaX _ (pre.length+1) 2 (by rfl) (by rfl)]
      rw [show pre ++ [130,UInt8.ofNat (n / 256)]=(pre ++ [130])++([UInt8.ofNat (n / 256)] ++ []) by simp,List.drop_left' (by simp)]
      simp
     simp (disch:=first | lia | simp) only [List.take_succ_cons,List.take_zero,Zah,X_k,Zo,ZC,Zx,ZaF,P_bi,Zg,Zb,R_or,Zs,Zu,ZA,Zv,ZdS,Za,ZW,c_ne,c_lt,c_gt,c_ge,Zj,Zt,Zd,Zae,Zh,Zy,ZgM,ZfL,Zi,Ze,Zf,Zk,Zl,Zc,ZL,ZaK,Zq,zc6,zc7,zc8,zc9,zc16,zc17,Zab,ZaS,hs,List.length_append,List.length_cons,List.length_nil,Nat.zero_add,Nat.reduceAdd,show (130:UInt8).toNat=130 from rfl]
end DK.Internal.B
end
section
set_option backward.match.sparseCases false
set_option genSizeOf false
set_option genCtorIdx false
namespace DK.Internal.B
open PySem
noncomputable def arcH (n:Nat):List UInt8:=if n=0 then [] else arcH (n / 128) ++ [UInt8.ofNat (128+n % 128)]
termination_by n
decreasing_by lia
noncomputable def arcB (n:Nat):List UInt8:=arcH (n / 128) ++ [UInt8.ofNat (n % 128)]
noncomputable def stepA (n:Nat) (u:UInt8):Nat:=n*128+u.toNat % 128
theorem ZbT:arcH 0 = []:=by rw [arcH];rfl
theorem ZdF {n:Nat} (h:n≠0):arcH n=arcH (n / 128) ++ [UInt8.ofNat (128+n % 128)]:=by
 rw [arcH,if_neg h]
theorem ZfD:∀n,∀u∈arcH n,128≤u.toNat:=by
 intro n
 induction n using Nat.strongRecOn with
 | ind n ih=>
  by_cases h:n=0
  ·subst h;rw [ZbT];simp
  ·rw [ZdF h]
   intro u hu
   rcases List.mem_append.mp hu with h1 | h1
   ·exact ih _ (by lia) u h1
   ·simp only [List.mem_singleton] at h1;subst h1;rw [ZX (by lia)];exact Nat.le_add_right _ _
theorem Zmi:∀n,(arcH n).foldl stepA 0=n:=by
 intro n
 induction n using Nat.strongRecOn with
 | ind n ih=>
  by_cases h:n=0
  ·subst h;rw [ZbT];rfl
  ·rw [ZdF h,List.foldl_append,ih _ (by lia)]
   simp only [List.foldl_cons,List.foldl_nil,stepA]
   rw [ZX (by lia)];lia
theorem Zhc (n:Nat):(arcB n).foldl stepA 0=n:=by
 rw [arcB,List.foldl_append,Zmi]
 simp only [List.foldl_cons,List.foldl_nil,stepA]
 rw [ZX (by lia)];lia
theorem Zbf:∀j n,n < 128 ^ j→(arcH n).length≤j
 | 0,n,h=>by
  have:n=0:=by simpa using h
  subst this;rw [ZbT];simp
 | j+1,n,h=>by
  by_cases h0:n=0
  ·subst h0;rw [ZbT];simp
  ·rw [ZdF h0]
   have:=Zbf j (n / 128) (by rw [Nat.pow_succ] at h;lia)
   simp;assumption
theorem Zkw:∀n,∀u us,arcH n=u::us→u.toNat≠128:=by
 intro n
 induction n using Nat.strongRecOn with
 | ind n ih=>
  by_cases h:n=0
  ·subst h;rw [ZbT];intro u us h;cases h
  ·rw [ZdF h]
   intro u us e
   cases h2:arcH (n / 128) with
   | nil=>
    rw [h2] at e
    simp only [List.nil_append,List.cons.injEq] at e
    rw [←e.1,ZX (by lia)]
    have:n / 128=0:=by
     by_cases h3:n / 128=0
     ·exact h3
     ·rw [ZdF h3] at h2;simp at h2
    lia
   | cons v vs=>
    rw [h2] at e
    simp only [List.cons_append,List.cons.injEq] at e
    rw [←e.1]
    exact ih _ (by lia) v vs h2
theorem ZfX (n:Nat) (u us) (e:arcB n=u::us):u.toNat≠128:=by
 rw [arcB] at e
 cases h2:arcH (n / 128) with
 | nil=>
  rw [h2] at e
  simp only [List.nil_append,List.cons.injEq] at e
  rw [←e.1,ZX (by lia)];lia
 | cons v vs=>
  rw [h2] at e
  simp only [List.cons_append,List.cons.injEq] at e
  rw [←e.1]
  exact Zkw _ v vs h2
noncomputable def lowB (n:Int):UInt8:=UInt8.ofNat (n % 256).toNat
theorem Zhd (n:Int):((lowB n).toNat:Int)=n % 256:=by
 unfold lowB;rw [ZX (by lia)];lia
noncomputable def intB (n:Int):List UInt8:=if -128≤n∧n < 128 then [lowB n] else intB (n / 256) ++ [lowB n]
termination_by n.natAbs
decreasing_by omega
theorem ZbJ {n:Int} (h : -128≤n∧n < 128):intB n = [lowB n]:=by rw [intB,if_pos h]
theorem Zeg {n:Int} (h:¬(-128≤n∧n < 128)):intB n=intB (n / 256) ++ [lowB n]:=by rw [intB,if_neg h]
theorem Zir {p:Int→Prop} (h1:∀n,(-128≤n∧n < 128)→p n) (h2:∀n,¬(-128≤n∧n < 128)→p (n / 256)→p n):∀n,p n:=by
 have:∀k (n:Int),n.natAbs≤k→p n:=by
  intro k
  induction k with
  | zero=>intro n h;exact h1 n (by lia)
  | succ k ih=>
   intro n h
   by_cases h3 : -128≤n∧n < 128
   ·exact h1 n h3
   ·exact h2 n h3 (ih _ (by omega))
 intro n;exact this n.natAbs n (Nat.le_refl _)
theorem Zis (n c:Int) (hc:0 < c):n % (256*c)=256*((n / 256) % c)+n % 256:=by
 have h1:=Int.mul_ediv_add_emod n 256
 have h2:=Int.mul_ediv_add_emod (n / 256) c
 have h3:=Int.emod_nonneg (n / 256) (by lia:c≠0)
 have h4:=Int.emod_lt_of_pos (n / 256) hc
 have h5:=Int.emod_nonneg n (by lia:(256:Int)≠0)
 have h6:=Int.emod_lt_of_pos n (by exact Int.natCast_nonneg _:(0:Int) < 256)
 generalize n / 256 / c=q at *
 generalize (n / 256) % c=t at *
 have e:n=256*t+n % 256+(256*c)*q:=by
  rw [Int.mul_assoc,Int.add_right_comm,←Int.mul_add]
  rw [Int.add_comm t,h2];lia
 conv=>lhs;rw [e]
 rw [Int.add_mul_emod_self_left]
 apply Int.emod_eq_of_lt<;>lia
theorem Zkx:∀n:Int,intB n=beB (intB n).length (n % 256 ^ (intB n).length).toNat:=by
 apply Zir
 ·intro n h
  rw [ZbJ h]
  simp only [List.length_singleton,beB,List.nil_append,lowB,Int.pow_succ,Int.pow_zero,Int.one_mul]
  congr 2;lia
 ·intro n h ih
  rw [Zeg h]
  simp only [List.length_append,List.length_singleton,beB]
  have hc:(0:Int) < 256 ^ (intB (n / 256)).length:=Int.pow_pos (by decide)
  have e:=Zis n _ hc
  have h3:=Int.emod_nonneg (n / 256) (by lia:(256:Int) ^ (intB (n / 256)).length≠0)
  rw [Int.pow_succ,Int.mul_comm,e]
  rw [show ((256*((n / 256) % 256 ^ (intB (n / 256)).length)+n % 256).toNat) / 256=((n / 256) % 256 ^ (intB (n / 256)).length).toNat by lia]
  rw [←ih]
  congr 2
  unfold lowB;congr 1;lia
theorem ZdG (n:Int):0 < (intB n).length:=by
 rw [intB];split<;>simp
noncomputable def fits (k:Nat) (n:Int):Prop:= -(128*256 ^ k)≤n∧n < 128*256 ^ k
theorem Zky (k:Nat) (n:Int):fits (k+1) n↔fits k (n / 256):=by
 unfold fits
 rw [Int.pow_succ]
 generalize (256:Int) ^ k=c
 constructor<;>intro h<;>lia
theorem Zeh:∀k n,fits k n↔(intB n).length≤k+1:=by
 intro k
 induction k with
 | zero=>
  intro n
  by_cases h : -128≤n∧n < 128
  ·rw [ZbJ h];simp [fits];assumption
  ·rw [Zeg h]
   have:=ZdG (n / 256)
   simp only [fits,Int.pow_zero,Int.mul_one,List.length_append,List.length_singleton]
   constructor<;>intro h'<;>lia
 | succ k ih=>
  intro n
  rw [Zky,ih]
  by_cases h : -128≤n∧n < 128
  ·have h2 : -128≤n / 256∧n / 256 < 128:=by lia
   rw [ZbJ h,ZbJ h2];simp
  ·rw [Zeg h];simp
theorem Zkz:∀n:Int,(∃b,intB n = [b]∧(b.toNat:Int)=n % 256∧-128≤n∧n < 128) ∨
  ∃b c us,intB n=b::c::us∧¬(b.toNat=0∧c.toNat < 128)∧¬(b.toNat=255∧128≤c.toNat)∧(128≤b.toNat↔n < 0):=by
 apply Zir
 ·intro n h
  exact .inl ⟨lowB n,ZbJ h,Zhd n,h.1,h.2⟩
 ·intro n h ih
  right
  rcases ih with ⟨b,hb,h1,h2⟩ | ⟨b,c,us,hb,h1,h2,h3⟩
  ·refine ⟨b,lowB n,[],by rw [Zeg h,hb];rfl,?_,?_,?_⟩
   all_goals (have:=Zhd n;lia)
  ·refine ⟨b,c,us ++ [lowB n],by rw [Zeg h,hb];rfl,h1,h2,?_⟩
   rw [h3];lia
theorem ZdY (n:Int):fits ((intB n).length - 1) n:=by
 rw [Zeh];lia
theorem ZkA (n:Int):n=(beV (intB n):Int) - (if n < 0 then 256 ^ (intB n).length else 0):=by
 have h:=Zkx n
 have hf:=ZdY n
 have hp:=ZdG n
 generalize hl:(intB n).length=k at *
 obtain ⟨k,rfl⟩:∃j,k=j+1:=⟨k - 1,by lia⟩
 have hc:(0:Int) < 256 ^ k:=Int.pow_pos (by decide)
 have hk:(256:Int) ^ (k+1)=256*256 ^ k:=by rw [Int.pow_succ,Int.mul_comm]
 rw [h,Zkt]
 unfold fits at hf
 rw [show k+1 - 1=k from rfl] at hf
 have hn:((256 ^ (k+1):Nat):Int)=256*256 ^ k:=by rw [Int.natCast_pow];exact hk
 have h0:=Int.emod_nonneg n (by rw [hk];lia:(256:Int) ^ (k+1)≠0)
 have hlt:=Int.emod_lt_of_pos n (by rw [hk];lia:(0:Int) < (256:Int) ^ (k+1))
 have e1:(((n % 256 ^ (k+1)).toNat % 256 ^ (k+1):Nat):Int)=n % 256 ^ (k+1):=by
  rw [Nat.mod_eq_of_lt (by lia)];lia
 rw [e1,hk]
 rw [hk] at h0 hlt
 generalize (256:Int) ^ k=c at *
 by_cases hneg:n < 0
 ·rw [if_pos hneg]
  have:n % (256*c)=n+256*c:=by
   rw [←Int.add_emod_right];apply Int.emod_eq_of_lt<;>lia
  lia
 ·rw [if_neg hneg]
  have:n % (256*c)=n:=by apply Int.emod_eq_of_lt<;>lia
  lia
end DK.Internal.B
end
section
set_option backward.match.sparseCases false
set_option genSizeOf false
set_option genCtorIdx false
namespace DK.Internal.B
open PySem
theorem b_shr7 (m:Nat):binop .RShift (.int m) (.int 7) = .ok (.int (m / 128:Nat)):=by
 rw [Ziq (by decide)];rfl
theorem ZhP {n:Nat} (h:n < BIG):binop .LShift (.int n) (.int 7) = .ok (.int (n*128:Nat)):=by
 rw [ZeP (by decide) (by decide) (by simpa using h)];rfl
theorem Zok {m:Nat} (h:m < 128):binop .BitOr (.int m) (.int 128) = .ok (.int (128+m:Nat)):=by
 have:m ||| 128=128+m:=by
  rw [Nat.or_comm,show (128:Nat)=2 ^ 7*1 from rfl,←Nat.two_pow_add_eq_or_of_lt h]
 rw [←this];exact b_or m 128
theorem ZkB (n:Nat) (u:UInt8):binop .BitOr (.int (n*128:Nat)) (.int (u.toNat % 128:Nat)) = .ok (.int (stepA n u:Nat)):=by
 rw [b_or,stepA,show (128:Nat)=2 ^ 7 from rfl,Nat.mul_comm,←Nat.two_pow_add_eq_or_of_lt (Nat.mod_lt _ (by decide))]
theorem Zbt {b:List D} {i:Nat} (h:i < b.length):index (.list b) (.int i) = .ok b[i]:=by
 rw [Zoc,ZhJ h,atL_ok h]
variable {T:Text} {r:Nat}
theorem Zmj (s2 s3:Slot):∀(j n:Nat) (out:List D),n < 128 ^ (j+1)→out.length+j≤1000 →
  ∃m,W T r Zas Zat [.val (.int (n:Nat)),.own out,s2,s3] =
   .ok (.next,[.val (.int m),.own (out++(arcH (n / 128)).reverse.map uD),s2,s3]):=by
 intro j
 induction j with
 | zero=>
  intro n out h h2
  refine ⟨n,?_⟩
  rw [V_eq]
  generalize W T r Zas Zat=w
  have e:n / 128=0:=by lia
  simp (disch:=first | decide | assumption | lia) only [Zas,Zat,X_k,Zo,Zs,Za,c_gt,Zd,Zep,Ze,Zc,zc7,e,ZbT,List.reverse_nil,List.append_nil]
 | succ j ih=>
  intro n out h h2
  by_cases hn:n < 128
  ·refine ⟨n,?_⟩
   rw [V_eq]
   generalize W T r Zas Zat=w
   have e:n / 128=0:=by lia
   simp (disch:=first | decide | assumption | lia) only [Zas,Zat,X_k,Zo,Zs,Za,c_gt,Zd,Zep,Ze,Zc,zc7,e,ZbT,List.reverse_nil,List.append_nil]
  ·obtain ⟨m,hm⟩:=ih (n / 128) (out ++ [.int (128+n / 128 % 128:Nat)]) (by rw [Nat.pow_succ] at h;lia) (by simp;lia)
   refine ⟨m,?_⟩
   rw [V_eq]
   generalize W T r Zas Zat=w at hm ⊢
   have hs:out.length < SZ:=by unfold SZ;lia
   simp (disch:=first | decide | assumption | lia) only [Zas,Zat,X_k,Zo,ZC,Zs,Zu,ZA,Zhz,ZQ,Za,c_gt,Zd,Zh,ZdT,ZdN,Ze,Zk,Zl,ZcI,ZcJ,Zc,Zq,ZP,b_shr7,ZaS,Zok,hm]
   rw [ZdF (by lia:n / 128≠0)]
   simp only [List.reverse_append,List.reverse_cons,List.reverse_nil,List.nil_append,List.singleton_append,List.map_cons,uD,List.append_assoc]
   rw [ZX (by lia)]
theorem ZkC (n:D) (out:List D):∀(j:Nat) (res:List D),j≤out.length→res.length+j≤1000 →
  W T r ZaZ Zba [.val n,.val (.list out),.own res,.val (.int ((j:Nat) - 1:Int))] =
   .ok (.next,[.val n,.val (.list out),.own (res++(out.take j).reverse),.val (.int (-1))]):=by
 intro j
 induction j with
 | zero=>
  intro res h h2
  rw [V_eq]
  generalize W T r ZaZ Zba=w
  simp (disch:=first | decide | assumption | lia) only [ZaZ,Zba,X_k,Zo,Zs,Za,c_ge,Zd,Zep,Ze,Zf,Zc,List.take_zero,List.reverse_nil,List.append_nil,show ((0:Nat):Int) - 1 = -1 from rfl]
 | succ j ih=>
  intro res h h2
  have e:((j+1:Nat):Int) - 1=(j:Nat):=by simp
  have hm:=ih (res ++ [out[j]]) (by exact Nat.le_of_lt (by assumption)) (by simp;lia)
  rw [V_eq]
  generalize W T r ZaZ Zba=w at hm ⊢
  have hs:res.length < SZ:=by unfold SZ;lia
  simp (disch:=first | decide | assumption | lia) only [ZaZ,Zba,X_k,Zo,Zx,Zs,Zu,Zen,ZeJ,Zhz,ZQ,Za,ZaR,c_ge,Zd,Zh,Zbw,ZdT,ZdN,Ze,Zf,Zk,Zl,ZcI,ZcJ,ZfP,ZeO,Zc,Zq,ZP,e,Zbt,hm]
  rw [List.take_succ_eq_append_getElem (by assumption),List.reverse_append]
  simp
theorem ZdZ (B:Base T) {n j:Nat} (h:n < 128 ^ (j+1)) (hj:j≤900):CL T (r+1) 5 [.int (n:Nat)] = .ok (.bytes (arcB n)):=by
 rw [ZF B.f5 rfl (by decide)]
 obtain ⟨m,hm⟩:=Zmj (T:=T) (r:=r) .un .un j n [.int (n % 128:Nat)] h (by simp;lia)
 have hl:=Zbf j (n / 128) (by rw [Nat.pow_succ] at h;lia)
 have h2:=ZkC (T:=T) (r:=r) (.int m) ([.int (n % 128:Nat)]++(arcH (n / 128)).reverse.map uD) ([D.int (n % 128:Nat)]++(arcH (n / 128)).reverse.map uD).length [] (by exact Nat.lt_succ_self _) (by simp;lia)
 simp only [zc8,zc9] at hm h2
 simp (disch:=first | decide | assumption | lia) only [Zgk,X_k,Zo,ZC,Zak,P_bi,Zg,Zb,ZG,ZA,Zgr,Zcu,ZeJ,ZK,ZaR,Zay,Zd,Zh,ZcY,Zaf,Zi,Ze,Zf,Zk,Zl,ZeN,ZeO,Zc,Zq,zc6,zc7,zc8,zc9,zc16,zc17,ZaS,hm,h2]
 rw [List.take_length,show (D.int ((n % 128:Nat):Int))=uD (UInt8.ofNat (n % 128)) by unfold uD;rw [ZX (by lia)]]
 rw [←List.map_cons,←List.map_reverse,ZeS]
 simp [arcB]
 rfl
theorem Zmk (n:Int) (s3:Slot):∀(j k:Nat),k+j+1=(intB n).length→(intB n).length≤1000 →
  W T r ZaD ZaE [.val (.int n),.val (.int ((k+1:Nat):Int)),.val (.int (128*256 ^ k)),s3] =
   .ok (.next,[.val (.int n),.val (.int ((intB n).length:Nat)),.val (.int (128*256 ^ ((intB n).length - 1))),s3]):=by
 intro j
 induction j with
 | zero=>
  intro k hk hl
  have hf:=ZdY n
  rw [V_eq]
  generalize W T r ZaD ZaE=w
  have e:(intB n).length - 1=k:=by lia
  rw [e] at hf ⊢
  have h1:=hf.1
  have h2:=hf.2
  simp (disch:=first | decide | assumption | lia) only [ZaD,ZaE,Zo,ZgK,ZdR,Zao,Zs,ZcA,Za,c_lt,c_le,Zd,whK_f,Zfq,ZbY,Ze,Zf,Zc,zc4,zc10,h1,h2]
  rw [←hk]
 | succ j ih=>
  intro k hk hl
  have hf:¬fits k n:=by rw [Zeh];lia
  have hm:=ih (k+1) (by lia) hl
  rw [V_eq]
  generalize W T r ZaD ZaE=w at hm ⊢
  have hb:(128*256 ^ k:Int).natAbs < BIG:=by
   have:(128*256 ^ k:Int).natAbs=128*256 ^ k:=by rw [show (128*256 ^ k:Int)=((128*256 ^ k:Nat):Int) by simp];exact Int.natAbs_natCast _
   rw [this]
   apply ZeR (k:=k+1) _ (by lia)
   rw [Nat.pow_succ]
   have:0 < 256 ^ k:=Nat.pow_pos (by decide)
   lia
  have e:(128*256 ^ k:Int)*2 ^ (8:Int).toNat=128*256 ^ (k+1):=by
   rw [Int.pow_succ,Int.mul_assoc,show (2:Int) ^ (8:Int).toNat=256 by decide]
  have e2:(((k+1:Nat):Int)+1)=((k+1+1:Nat):Int):=rfl
  unfold fits at hf
  by_cases h1 : -(128*256 ^ k)≤n
  ·have h2:¬(n < 128*256 ^ k):=fun h=>hf ⟨h1,h⟩
   simp (disch:=first | decide | assumption | lia) only [ZaD,ZaE,X_k,Zo,ZC,ZgK,ZdR,Zao,Zs,Zu,ZA,Zen,ZQ,ZcA,Za,ZW,c_lt,c_le,Zd,Zh,Zbw,ZgO,Zfq,ZbY,Ze,Zf,Zk,Zl,Zc,Zq,ZP,zc5,zc10,zc11,h1,h2,ZeP,e,e2,hm]
  ·simp (disch:=first | decide | assumption | lia) only [ZaD,ZaE,X_k,Zo,ZC,ZgK,ZdR,Zao,Zs,Zu,ZA,Zen,ZQ,ZcA,Za,ZW,c_le,Zd,Zh,Zbw,ZgO,ZcU,ZbY,Ze,Zf,Zk,Zl,Zc,Zq,ZP,zc5,zc11,h1,ZeP,e,e2,hm]
theorem Zfr (B:Base T) (n:Int) (hl:(intB n).length≤1000):CL T (r+9) 6 [.int n] = .ok (.bytes (intB n)):=by
 rw [ZF B.f6 rfl (by decide)]
 have hp:=ZdG n
 have hm:=Zmk (T:=T) (r:=r+8) n .un ((intB n).length - 1) 0 (by lia) hl
 have hbe:=Zkx n
 have hf:=ZdY n
 generalize hk:(intB n).length=K at *
 simp only [Int.pow_zero,Int.mul_one,show ((0+1:Nat):Int)=1 from rfl] at hm
 have hc:(0:Int) < 256 ^ (K - 1):=Int.pow_pos (by decide)
 have hone:(1:Int).natAbs < BIG:=ZeQ (k:=1) (by decide) (by decide)
 have e1:(1:Int)*2 ^ ((8:Int)*(K:Nat)).toNat=256 ^ K:=by
  rw [show ((8:Int)*(K:Nat)).toNat=8*K by rfl,Int.one_mul,Int.pow_mul,show (2:Int) ^ 8=256 by decide]
 have hpk:(256:Int) ^ K=256*256 ^ (K - 1):=by
  conv=>lhs;rw [show K=(K - 1)+1 by lia]
  rw [Int.pow_succ,Int.mul_comm]
 have hbig:(n % 256 ^ K).toNat < BIG:=by
  apply ZeR (k:=K) _ (by exact Nat.le_trans (by assumption) (by decide))
  have h2:=Int.emod_lt_of_pos n (by lia:(0:Int) < 256 ^ K)
  have h3:=Int.emod_nonneg n (by lia:(256:Int) ^ K≠0)
  have h4:((256 ^ K:Nat):Int)=256 ^ K:=by simp
  lia
 have hb:=Zhb B (r:=r) (m:=(n % 256 ^ K).toNat) (k:=K) (by assumption) hbig
 have h0:=Int.emod_nonneg n (by lia:(256:Int) ^ K≠0)
 unfold fits at hf
 rw [←hbe] at hb
 by_cases hneg:n < 0
 ·have e2:n+256 ^ K=((n % 256 ^ K).toNat:Int):=by
   have:n % 256 ^ K=n+256 ^ K:=by
    rw [←Int.add_emod_right];apply Int.emod_eq_of_lt<;>lia
   lia
  rw [←e2] at hb
  generalize (256:Int) ^ K=Q at *
  simp (disch:=first | decide | assumption | lia) only [ZeF,X_k,Zo,ZC,Zp,Zg,Zb,Zs,Zu,ZG,ZA,Zv,Zcu,ZK,Za,ZW,c_lt,Zn,Zd,Zr,Zh,ZY,Zi,Ze,Zf,Zk,Zl,Zc,Zq,zc6,zc7,zc8,zc9,zc16,zc17,hm,Zdr,ZeP,e1,hb]
 ·have e2:n=((n % 256 ^ K).toNat:Int):=by
   have:n % 256 ^ K=n:=by apply Int.emod_eq_of_lt<;>lia
   lia
  rw [←e2] at hb
  simp (disch:=first | decide | assumption | lia) only [ZeF,X_k,Zo,Zp,Zg,Zb,Zs,Zu,ZG,ZA,Zv,Zcu,ZK,Za,c_lt,Zn,Zd,Zr,Zh,Zy,Zi,Ze,Zf,Zk,Zl,Zc,Zq,zc6,zc7,zc8,zc9,zc16,zc17,hm,hb]
theorem ZcL (u:UInt8) (us):index (.bytes (u::us)) (.int 0) = .ok (.int (u.toNat:Nat)):=Zab [] us u rfl
theorem ZfY (v u:UInt8) (us):index (.bytes (v::u::us)) (.int 1) = .ok (.int (u.toNat:Nat)):=Zab [v] us u rfl
theorem ZfZ (B:Base T) (n:Int) (hl:(intB n).length≤1000):CL T (r+7) 7 [.bytes (intB n)] = .ok (.int n):=by
 rw [ZF B.f7 rfl (by decide)]
 have hb:=ZkA n
 have hp:=ZdG n
 have hu:=Zha B (intB n) 5 0 (intB n).length r (by exact Nat.zero_le _) (by exact Nat.le_refl _) (by exact Nat.le_trans (by assumption) (by decide)) (by assumption)
 rw [Zku] at hu
 have hone:(1:Int).natAbs < BIG:=ZeQ (k:=1) (by decide) (by decide)
 have e1:(1:Int)*2 ^ ((8:Int)*((intB n).length:Nat)).toNat=256 ^ (intB n).length:=by
  rw [show ((8:Int)*((intB n).length:Nat)).toNat=8*(intB n).length by rfl,Int.one_mul,Int.pow_mul,show (2:Int) ^ 8=256 by decide]
 simp only [show ((0:Nat):Int)=0 from rfl] at hu
 rcases Zkz n with ⟨b,hb1,h1,h2⟩ | ⟨b,c,us,hb1,h1,h2,h3⟩
 ·have hi0:index (.bytes (intB n)) (.int 0) = .ok (.int (b.toNat:Nat)):=by rw [hb1];exact ZcL b []
  have hlen:(intB n).length=1:=by rw [hb1];rfl
  by_cases hneg:n < 0
  ·rw [if_pos hneg] at hb
   simp (disch:=first | decide | assumption | lia) only [Zcd,X_k,Zo,ZC,Zx,P_bi,Zp,Zg,Zb,Zs,Zu,ZG,ZA,Zv,Za,ZaR,c_eq,c_gt,c_ge,Zj,Zn,Zt,Zd,Zr,Zh,ZY,Zy,Zi,Ze,Zf,Zk,Zl,Zc,okB_,Zq,zc6,zc7,zc8,zc9,zc16,zc17,hu,hi0,Zdr,ZeP,e1,←hb]
  ·rw [if_neg hneg] at hb
   simp (disch:=first | decide | assumption | lia) only [Zcd,X_k,Zo,Zx,P_bi,Zp,Zg,Zb,Zs,Zu,ZG,ZA,Zv,Za,c_eq,c_gt,c_ge,Zj,Zn,Zt,Zd,Zr,Zh,Zy,Zi,Ze,Zf,Zk,Zl,Zc,okB_,Zq,zc6,zc7,zc8,zc9,zc16,zc17,hu,hi0]
   congr 2;lia
 ·have hi0:index (.bytes (intB n)) (.int 0) = .ok (.int (b.toNat:Nat)):=by rw [hb1];exact ZcL b _
  have hi1:index (.bytes (intB n)) (.int 1) = .ok (.int (c.toNat:Nat)):=by rw [hb1];exact ZfY b c _
  have hlen:2≤(intB n).length:=by rw [hb1];simp
  have hx:¬((b.toNat:Int)=0∧(c.toNat:Int) < 128):=by lia
  have hx2:¬((b.toNat:Int)=255∧(c.toNat:Int)≥128):=by lia
  by_cases hneg:n < 0
  ·rw [if_pos hneg] at hb
   by_cases h5:b.toNat=255
   ·simp (disch:=first | decide | assumption | lia) only [Zcd,X_k,Zo,ZC,Zx,P_bi,Zp,Zg,Zb,Zao,Zs,Zu,ZG,ZA,Zv,Za,ZaR,c_eq,c_gt,c_ge,Zj,Zn,Zt,Zd,Zr,Zh,Zz,ZY,Zy,Zda,Zan,Zi,Ze,Zf,Zk,Zl,Zc,okB_,Zq,zc6,zc7,zc8,zc9,zc16,zc17,hu,hi0,hi1,Zdr,ZeP,e1,←hb]
   ·simp (disch:=first | decide | assumption | lia) only [Zcd,X_k,Zo,ZC,Zx,P_bi,Zp,Zg,Zb,Zao,Zs,Zu,ZG,ZA,Zv,Za,ZaR,c_eq,c_gt,c_ge,Zj,Zn,Zt,Zd,Zr,Zh,Zz,ZY,Zy,Zan,Zi,Ze,Zf,Zk,Zl,Zc,okB_,Zq,zc6,zc7,zc8,zc9,zc16,zc17,hu,hi0,Zdr,ZeP,e1,←hb]
  ·rw [if_neg hneg] at hb
   have e0:((beV (intB n):Nat):Int)=n:=by lia
   by_cases h5:b.toNat=0
   ·simp (disch:=first | decide | assumption | lia) only [Zcd,X_k,Zo,Zx,P_bi,Zp,Zg,Zb,Zao,Zs,Zu,ZG,ZA,Zv,Za,c_eq,c_lt,c_gt,c_ge,Zj,Zn,Zt,Zd,Zr,Zh,Zz,ZY,Zy,Zda,Zan,Zi,Ze,Zf,Zk,Zl,Zc,okB_,Zq,zc6,zc7,zc8,zc9,zc16,zc17,hu,hi0,hi1,e0]
   ·simp (disch:=first | decide | assumption | lia) only [Zcd,X_k,Zo,Zx,P_bi,Zp,Zg,Zb,Zao,Zs,Zu,ZG,ZA,Zv,Za,c_eq,c_gt,c_ge,Zj,Zn,Zt,Zd,Zr,Zh,Zz,ZY,Zy,Zan,Zi,Ze,Zf,Zk,Zl,Zc,okB_,Zq,zc6,zc7,zc8,zc9,zc16,zc17,hu,hi0,e0]
end DK.Internal.B
end
section
set_option backward.match.sparseCases false
set_option genSizeOf false
set_option genCtorIdx false
namespace DK.Internal.B
open PySem
theorem Zgy (pre suf:List UInt8) (c u:UInt8) {i:Int} (h:i=((pre.length+1:Nat):Int)):index (.bytes (pre++c::u::suf)) (.int i) = .ok (.int (u.toNat:Nat)):=by
 have:=Zab (pre ++ [c]) suf u (i:=i) (by simp;lia)
 simpa using this
noncomputable def at0 (b:List UInt8) (i:Nat):Nat:=(b.getD i 0).toNat
theorem Zml {b:List UInt8} {i:Nat} {j:Int} (hj:j=(i:Nat)) (h:i < b.length):index (.bytes b) (.int j) = .ok (.int (at0 b i:Nat)):=by
 subst hj
 rw [ZfU h];simp [at0,List.getD,List.getElem?_eq_getElem h]
variable {T:Text} {r:Nat}
noncomputable def isB (g:Bool):Out Reply→Bool
 | .ok x=>(match x.1 with | .ret d=>(match d with | .bool b=>b == g | _=>false) | _=>false)
 | _=>false
theorem isB_of {g:Bool} {o:Out Reply} (h:isB g o=true):(o>>=retD) = .ok (.bool g):=by
 cases o with
 | ok x=>
  obtain ⟨f,sl⟩:=x
  cases f with
  | ret d=>
   cases d with
   | bool b=>exact congrArg (fun b=>Out.ok (D.bool b)) (eq_of_beq h)
   | _=>cases h
  | _=>cases h
 | _=>cases h
noncomputable def tx (T:Text) (r:Nat) (k:List Nat) (g:Bool) (b:List UInt8):Bool:=isB g (callT fast T (r+4) 17 [.val (.str k),.val (.bytes b)])
theorem tx_ok {k:List Nat} {g:Bool} {b:List UInt8} (h:tx T r k g b=true):CL T (r+4) 17 [.str k,.bytes b] = .ok (.bool g):=by
 unfold tx at h
 rw [←fast_eq] at h
 exact isB_of h
theorem ZhQ (B:Base T) (b:List UInt8):CL T (r+4) 17 [.str sBytes,.bytes b] = .ok (.bool true):=by
 rw [ZF B.f17 rfl (by decide)]
 simp only [ZgG,X_k,Zo,Zs,Zu,ZG,Zv,Za,c_eq,Zn,Zd,Zr,Zz,Ze,Zc,okB_,Zq,zc6,zc7,zc8,zc9,zc14,zc15,zc17,ZfM,Zfy,ZfN]
end DK.Internal.B
end
section
set_option backward.match.sparseCases false
set_option genSizeOf false
set_option genCtorIdx false
namespace DK.Internal.B
open PySem
theorem Zhe {n j:Nat} {u:UInt8} (h:n < 128 ^ j):stepA n u < 128 ^ (j+1):=by
 simp only [stepA,Nat.pow_succ];have:=Nat.mod_lt u.toNat (by decide:0 < 128);lia
theorem Zea {n k:Nat} (h:n < 128 ^ k) (hk:k≤1000):n < BIG:=by
 apply ZeQ (k:=7*k) _ (by lia)
 rw [Nat.pow_mul];exact h
variable {T:Text} {r:Nat}
theorem Zhf (B:Base T) (data suf:List UInt8) (l:UInt8) (hl:l.toNat < 128) (s1 s2 s3:Slot) (sl:List Slot):∀(hs pre:List UInt8) (n j:Nat),
  data=pre++(hs++l::suf)→(∀u∈hs,128≤u.toNat)→n < 128 ^ j→j+hs.length≤900 →
  W T (r+1) ZaI ZaJ (.val (.bytes data)::s1::s2::s3::.val (.int (n:Nat))::.val (.int (pre.length:Nat))::sl) =
   .ok (.next,.val (.bytes data)::s1::s2::s3::.val (.int ((hs ++ [l]).foldl stepA n:Nat))::.val (.int ((pre.length+hs.length+1:Nat):Int))::sl):=by
 intro hs
 induction hs with
 | nil=>
  intro pre n j hd hb hn hj
  rw [V_eq]
  generalize W T (r+1) ZaI ZaJ=w
  have hi:index (.bytes data) (.int (pre.length:Nat)) = .ok (.int (l.toNat:Nat)):=by rw [hd];exact Zab _ _ _ rfl
  have hlt:pre.length < data.length:=by rw [hd];simp
  have e:((pre.length:Int)+1 - 1)=(pre.length:Nat):=by simp
  simp (disch:=first | decide | assumption | lia) only [ZaI,ZaJ,X_k,Zo,ZC,ZO,Zx,P_bi,Zp,Zg,Zb,Zs,T_k,ZA,Zen,Zv,Y_brk,Z_ex,Zhv,Za,ZV,ZW,ZaR,c_lt,Zj,Zd,Zh,Zbw,ZY,ZD,ZgO,Zi,Ze,Zf,Zk,Zl,Zc,Zq,zc9,ZH B,ZhP (Zea hn (by exact Nat.le_trans (by assumption) (by decide))),hi,ZaS,ZkB,e]
  rfl
 | cons h hs ih=>
  intro pre n j hd hb hn hj
  have hs':=ih (pre ++ [h]) (stepA n h) (j+1) (by rw [hd];simp) (fun u hu=>hb u (List.mem_cons_of_mem _ hu)) (Zhe hn) (by simp at hj;lia)
  have hh:=hb h (List.mem_cons_self ..)
  rw [V_eq]
  generalize W T (r+1) ZaI ZaJ=w at hs' ⊢
  have hi:index (.bytes data) (.int (pre.length:Nat)) = .ok (.int (h.toNat:Nat)):=by rw [hd];exact Zab _ _ _ rfl
  have hlt:pre.length < data.length:=by rw [hd];simp
  have e:((pre.length:Int)+1 - 1)=(pre.length:Nat):=by simp
  have e2:(((pre ++ [h]).length:Nat):Int)=(pre.length:Int)+1:=by simp
  have e3:(pre ++ [h]).length+hs.length+1=pre.length+(h::hs).length+1:=by simp;exact Nat.add_right_comm _ _ _
  rw [e2,e3] at hs'
  simp (disch:=first | decide | assumption | lia) only [ZaI,ZaJ,X_k,Zo,ZC,ZO,Zx,P_bi,Zp,Zg,Zb,Zs,T_k,Zu,ZA,Zen,Zv,Z_ex,ZQ,Za,ZV,ZW,ZaR,c_lt,Zj,Zd,Zh,Zbw,Zy,ZD,ZgO,Zi,Ze,Zf,Zk,Zl,Zc,Zq,ZP,zc8,ZH B,ZhP (Zea hn (by lia)),hi,ZaS,ZkB,e,hs']
  rfl
theorem Zol (B:Base T) (data:List UInt8) (s1 s2 s3:Slot) (sl:List Slot):∀(hs pre:List UInt8) (n j:Nat),
  data=pre++hs→(∀u∈hs,128≤u.toNat)→n < 128 ^ j→j+hs.length≤900 →
  W T (r+1) ZaI ZaJ (.val (.bytes data)::s1::s2::s3::.val (.int (n:Nat))::.val (.int (pre.length:Nat))::sl) = .exc:=by
 intro hs
 induction hs with
 | nil=>
  intro pre n j hd hb hn hj
  rw [V_eq]
  generalize W T (r+1) ZaI ZaJ=w
  have hlt:¬pre.length < data.length:=by rw [hd];simp
  simp (disch:=first | decide | assumption | lia) only [ZaI,ZaJ,Zo,ZO,P_bi,Zp,Zg,Zb,T_k,Z_ex,ZV,c_lt,Zj,Zd,Zav,ZgO,Zi,Ze,Zf,Zc,ZL,Zq,ZcK B]
 | cons h hs ih=>
  intro pre n j hd hb hn hj
  have hs':=ih (pre ++ [h]) (stepA n h) (j+1) (by rw [hd];simp) (fun u hu=>hb u (List.mem_cons_of_mem _ hu)) (Zhe hn) (by simp at hj;lia)
  have hh:=hb h (List.mem_cons_self ..)
  rw [V_eq]
  generalize W T (r+1) ZaI ZaJ=w at hs' ⊢
  have hi:index (.bytes data) (.int (pre.length:Nat)) = .ok (.int (h.toNat:Nat)):=by rw [hd];exact Zab _ _ _ rfl
  have hlt:pre.length < data.length:=by rw [hd];simp
  have e:((pre.length:Int)+1 - 1)=(pre.length:Nat):=by simp
  have e2:(((pre ++ [h]).length:Nat):Int)=(pre.length:Int)+1:=by simp
  rw [e2] at hs'
  simp (disch:=first | decide | assumption | lia) only [ZaI,ZaJ,X_k,Zo,ZC,ZO,Zx,P_bi,Zp,Zg,Zb,Zs,T_k,Zu,ZA,Zen,Zv,Z_ex,ZQ,Za,ZV,ZW,ZaR,c_lt,Zj,Zd,Zh,Zbw,Zy,ZD,ZgO,Zi,Ze,Zf,Zk,Zl,Zc,Zq,ZP,ZH B,ZhP (Zea hn (by lia)),hi,ZaS,ZkB,e,hs']
theorem ZkD (data suf:List UInt8) (l:UInt8) (hl:l.toNat < 128) (s1 s2:Slot) (sl:List Slot):∀(hs pre:List UInt8) (n j:Nat),
  data=pre++(hs++l::suf)→(∀u∈hs,128≤u.toNat)→n < 128 ^ j→j+hs.length≤900 →
  W T r Zbb Zbc (.val (.bytes data)::s1::s2::.val (.int (pre.length:Nat))::.val (.int (n:Nat))::sl) =
   .ok (.next,.val (.bytes data)::s1::s2::.val (.int ((pre.length+hs.length+1:Nat):Int))::.val (.int ((hs ++ [l]).foldl stepA n:Nat))::sl):=by
 intro hs
 induction hs with
 | nil=>
  intro pre n j hd hb hn hj
  rw [V_eq]
  generalize W T r Zbb Zbc=w
  have hi:index (.bytes data) (.int (pre.length:Nat)) = .ok (.int (l.toNat:Nat)):=by rw [hd];exact Zab _ _ _ rfl
  have hlt:pre.length < data.length:=by rw [hd];simp
  have e:((pre.length:Int)+1 - 1)=(pre.length:Nat):=by simp
  simp (disch:=first | decide | assumption | lia) only [Zbb,Zbc,X_k,Zo,ZC,Zx,Zs,T_k,ZA,Zen,Zv,Y_brk,Zhv,Za,ZV,ZW,ZaR,c_lt,Zd,Zh,Zbw,ZY,ZgO,Ze,Zf,Zk,Zl,Zc,Zq,zc9,ZhP (Zea hn (by exact Nat.le_trans (by assumption) (by decide))),hi,ZaS,ZkB,e]
  rfl
 | cons h hs ih=>
  intro pre n j hd hb hn hj
  have hs':=ih (pre ++ [h]) (stepA n h) (j+1) (by rw [hd];simp) (fun u hu=>hb u (List.mem_cons_of_mem _ hu)) (Zhe hn) (by simp at hj;lia)
  have hh:=hb h (List.mem_cons_self ..)
  rw [V_eq]
  generalize W T r Zbb Zbc=w at hs' ⊢
  have hi:index (.bytes data) (.int (pre.length:Nat)) = .ok (.int (h.toNat:Nat)):=by rw [hd];exact Zab _ _ _ rfl
  have hlt:pre.length < data.length:=by rw [hd];simp
  have e:((pre.length:Int)+1 - 1)=(pre.length:Nat):=by simp
  have e2:(((pre ++ [h]).length:Nat):Int)=(pre.length:Int)+1:=by simp
  have e3:(pre ++ [h]).length+hs.length+1=pre.length+(h::hs).length+1:=by simp;exact Nat.add_right_comm _ _ _
  rw [e2,e3] at hs'
  simp (disch:=first | decide | assumption | lia) only [Zbb,Zbc,X_k,Zo,ZC,Zx,Zs,T_k,Zu,ZA,Zen,Zv,ZQ,Za,ZV,ZW,ZaR,c_lt,Zd,Zh,Zbw,Zy,ZgO,Ze,Zf,Zk,Zl,Zc,Zq,ZP,zc8,ZhP (Zea hn (by lia)),hi,ZaS,ZkB,e,hs']
  rfl
noncomputable def arcsB (as:List Nat):List UInt8:=as.flatMap arcB
noncomputable def nD (n:Nat):D:= .int (n:Nat)
theorem ZbU (n:Nat):(arcB n).length=(arcH (n / 128)).length+1:=by simp [arcB]
theorem ZkE (B:Base T) (data:List UInt8) (s6:Slot):∀(as:List Nat) (pre:List UInt8) (acc:List D) (s4 s5:Slot),
  data=pre++arcsB as→(∀a∈as,a < 128 ^ 100)→acc.length+as.length≤1000 →
  ∃s4' s5',W T (r+1) Zbz ZbA [.val (.bytes data),.val (.int (data.length:Nat)),.own acc,.val (.int (pre.length:Nat)),s4,s5,s6] =
   .ok (.next,[.val (.bytes data),.val (.int (data.length:Nat)),.own (acc++as.map nD),.val (.int (data.length:Nat)),s4',s5',s6]):=by
 intro as
 induction as with
 | nil=>
  intro pre acc s4 s5 hd hb hl
  have e:pre=data:=by rw [hd];simp [arcsB]
  rw [e]
  refine ⟨s4,s5,?_⟩
  rw [V_eq]
  simp (disch:=first | decide | assumption | lia) only [Zbz,ZbA,Zo,Zs,Za,c_lt,Zd,Zep,Ze,Zf,Zc,zc7,List.append_nil]
 | cons a as ih=>
  intro pre acc s4 s5 hd hb hl
  have ha:=hb a (List.mem_cons_self ..)
  have hlen:=Zbf 100 (a / 128) (Nat.lt_of_le_of_lt (Nat.div_le_self _ _) ha)
  have hsp:arcsB (a::as)=arcH (a / 128)++UInt8.ofNat (a % 128)::arcsB as:=by simp [arcsB,arcB]
  have hd2:data=pre++(arcH (a / 128)++UInt8.ofNat (a % 128)::arcsB as):=by rw [hd,hsp]
  have hw:=ZkD (T:=T) (r:=r+1) data (arcsB as) (UInt8.ofNat (a % 128)) (by rw [ZX (by lia)];exact Nat.mod_lt _ (by decide)) (.val (.int (data.length:Nat))) (.own acc) [.val (.int (pre.length:Nat)),s6] (arcH (a / 128)) pre 0 0 hd2 (ZfD _) (by decide) (by lia)
  rw [show arcH (a / 128) ++ [UInt8.ofNat (a % 128)]=arcB a from rfl,Zhc] at hw
  obtain ⟨s4',s5',hs⟩:=ih (pre++arcB a) (acc ++ [nD a]) (.val (.int (a:Nat))) (.val (.int (pre.length:Nat))) (by rw [hd];simp [arcsB]) (fun x hx=>hb x (List.mem_cons_of_mem _ hx)) (by simp at hl ⊢;lia)
  refine ⟨s4',s5',?_⟩
  rw [V_eq]
  generalize W T (r+1) Zbz ZbA=w at hs ⊢
  have e2:(((pre++arcB a).length:Nat):Int)=((pre.length+(arcH (a / 128)).length+1:Nat):Int):=by rw [List.length_append,ZbU];rfl
  rw [e2] at hs
  have hlt:pre.length < data.length:=by rw [hd2];simp;exact Nat.succ_pos _
  obtain ⟨u,us,hu⟩:∃u us,arcB a=u::us:=by
   cases h:arcB a with
   | nil=>simp [arcB] at h
   | cons u us=>exact ⟨u,us,rfl⟩
  have hne:=ZfX a u us hu
  have hi:index (.bytes data) (.int (pre.length:Nat)) = .ok (.int (u.toNat:Nat)):=by
   rw [hd,show arcsB (a::as)=arcB a++arcsB as by simp [arcsB],hu];exact Zab _ _ _ rfl
  have hal:acc.length < 1000000:=by simp at hl;lia
  simp only [show ((0:Nat):Int)=0 from rfl] at hw
  simp (disch:=first | decide | assumption | lia) only [Zbz,ZbA,X_k,Zo,ZO,Zx,Zp,Zg,Zb,Zs,Zu,ZA,Zcu,Zhz,Z_ex,ZK,ZQ,Za,c_ne,c_lt,Zt,Zd,Zh,ZdT,ZD,ZdN,Zi,Ze,Zf,Zk,Zl,ZcI,ZcJ,Zc,ZaK,Zq,ZP,zc6,hw,hi,Zks B]
  refine hs.trans ?_
  rw [List.append_assoc];rfl
theorem ZdH (a:D) (l):index (.list (a::l)) (.int 0) = .ok a:=Zbt (b:=a::l) (i:=0) (by simp)
theorem Zga (a:D) (l):slice (.list (a::l)) (.int 1) .none = .ok (.list l):=by
 have e:clip (a::l).length 1=1:=ZfS (Nat.le_add_left 1 _)
 rw [ZfR,e]
 simp [cut]
theorem ZjC (as:List Nat) (h:as≠[]):∃pre u,arcsB as=pre ++ [u]∧u.toNat < 128:=by
 obtain ⟨as',a,rfl⟩:∃l a,as=l ++ [a]:=⟨as.dropLast,as.getLast h,(List.dropLast_concat_getLast h).symm⟩
 exact ⟨arcsB as'++arcH (a / 128),UInt8.ofNat (a % 128),by simp [arcsB,arcB],by rw [ZX (by lia)];exact Nat.mod_lt _ (by decide)⟩
theorem Zit (B:Base T) (a0:Nat) (as:List Nat) (hb:∀a∈a0::as,a < 128 ^ 100) (hl:as.length≤900) :
  CL T (r+2) 22 [.bytes (arcsB (a0::as))] = .ok (.list (.int (min (a0 / 40) 2:Nat)::.int ((a0 - 40*min (a0 / 40) 2:Nat):Int)::as.map nD)):=by
 rw [ZF B.f22 rfl (by decide)]
 obtain ⟨s4,s5,hw⟩:=ZkE B (r:=r) (arcsB (a0::as)) .un (a0::as) [] [] .un .un (by simp) hb (by simp;exact Nat.le_trans (by assumption) (by decide))
 simp only [List.length_nil,show ((0:Nat):Int)=0 from rfl] at hw
 obtain ⟨pre,u,hp,hu⟩:=ZjC (a0::as) (by simp)
 have hi:index (.bytes (arcsB (a0::as))) (.int (((arcsB (a0::as)).length:Int) - 1)) = .ok (.int (u.toNat:Nat)):=by
  rw [hp];exact Zab pre [] u (by simp)
 have hlen:0 < (arcsB (a0::as)).length:=by rw [hp];simp
 have hdiv:((a0:Nat):Int) / 40=((a0 / 40:Nat):Int):=by rfl
 have hcat:∀x y:D,binop .Add (.list [x,y]) (.list (as.map nD)) = .ok (.list (x::y::as.map nD)):=by
  intro x y;rw [ZdV (by simp [SZ];lia)];rfl
 by_cases h2:a0 / 40≤2
 ·have e1:min (a0 / 40) 2=a0 / 40:=by lia
  have e2:((a0:Nat):Int) - 40*((a0 / 40:Nat):Int)=((a0 - 40*(a0 / 40):Nat):Int):=by lia
  rw [e1]
  simp (disch:=first | decide | assumption | lia) only [ZdK,X_k,Zo,ZC,ZbC,ZO,Zx,ZaF,Zak,P_bi,Zp,Zg,Zb,Zs,Zu,ZG,ZA,Zgr,Zv,Zcu,ZeJ,Z_ex,ZK,Za,ZaR,c_lt,c_gt,Zj,Zd,Zae,Zh,ZcY,Zy,ZD,ZcZ,Zaf,Zi,Ze,Zf,Zk,Zl,ZeN,ZfP,ZeO,Zc,Zq,zc6,zc7,zc8,zc9,zc16,zc17,hw,hi,ZH B,nD,ZdH,Zkn,hdiv,Zdr,e2,Zga]
  rw [hcat]
  rfl
 ·have e1:min (a0 / 40) 2=2:=by lia
  have e2:((a0:Nat):Int) - 40*2=((a0 - 40*2:Nat):Int):=by lia
  rw [e1]
  simp (disch:=first | decide | assumption | lia) only [ZdK,X_k,Zo,ZC,ZbC,ZO,Zx,ZaF,Zak,P_bi,Zp,Zg,Zb,Zs,Zu,ZG,ZA,Zgr,Zv,Zcu,ZeJ,Z_ex,ZK,Za,ZaR,c_lt,c_gt,Zj,Zd,Zae,Zh,ZcY,ZY,ZD,ZcZ,Zaf,Zi,Ze,Zf,Zk,Zl,ZeN,ZfP,ZeO,Zc,Zq,zc6,zc7,zc8,zc9,zc16,zc17,hw,hi,ZH B,nD,ZdH,Zkn,hdiv,Zdr,e2,Zga]
  rw [hcat]
  rfl
theorem ZhR (B:Base T) (c:List UInt8) (u:UInt8) (hu:128≤u.toNat):CL T (r+2) 22 [.bytes (c ++ [u])] = .exc:=by
 rw [ZF B.f22 rfl (by decide)]
 have hi:index (.bytes (c ++ [u])) (.int (((c ++ [u]).length:Int) - 1)) = .ok (.int (u.toNat:Nat)):=Zab c [] u (by simp)
 have hlen:0 < (c ++ [u]).length:=by simp
 generalize c ++ [u]=d at *
 simp (disch:=first | decide | assumption | lia) only [ZdK,X_k,Zo,ZC,ZbC,ZO,Zx,P_bi,Zp,Zg,Zb,ZA,Z_ex,ZaR,c_lt,c_gt,Zj,Zd,Zh,Zav,ZcZ,Zi,Ze,Zf,Zk,Zl,Zc,ZL,Zq,zc6,zc7,zc8,zc9,zc16,zc17,hi,ZcK B]
end DK.Internal.B
end
section
set_option backward.match.sparseCases false
set_option genSizeOf false
set_option genCtorIdx false
namespace DK.Internal.B
open PySem
noncomputable def tlv (t c:List UInt8):List UInt8:=t++(lenB c.length++c)
theorem ZeC (n:Nat):(lenB n).length≤3:=by unfold lenB;split<;>(try split)<;>simp
theorem Zmm (n:Nat):0 < (lenB n).length:=by unfold lenB;split<;>(try split)<;>simp
theorem catL {t:List UInt8} {n:Nat} (ht:t.length≤1000):binop .Add (.bytes t) (.bytes (lenB n)) = .ok (.bytes (t++lenB n)):=by
 rw [ZbS];have:=ZeC n;unfold SZ;lia
theorem catC {t c:List UInt8} (ht:t.length≤1000) (hc:c.length < 65536):binop .Add (.bytes (t++lenB c.length)) (.bytes c) = .ok (.bytes (tlv t c)):=by
 rw [ZbS]
 ·simp [tlv]
 ·have:=ZeC c.length;unfold SZ;rw [List.length_append];lia
theorem ZkF:getO (.ok ZcQ) (.ok [.str sBool,.int 2]) = .ok (.int 2):=rfl
theorem Zmn:getO (.ok ZcQ) (.ok [.str sInt,.int 2]) = .ok (.int 2):=rfl
theorem ZkG:getO (.ok ZcQ) (.ok [.str sBits,.int 2]) = .ok (.int 3):=rfl
theorem ZjD:getO (.ok ZcQ) (.ok [.str sBytes,.int 2]) = .ok (.int 2):=rfl
theorem ZkH:getO (.ok ZcQ) (.ok [.str sNull,.int 2]) = .ok (.int 1):=rfl
theorem Zmo:getO (.ok ZcQ) (.ok [.str sOid,.int 2]) = .ok (.int 2):=rfl
theorem ZkI:getO (.ok ZcQ) (.ok [.str sEnum,.int 2]) = .ok (.int 2):=rfl
theorem ZkJ:getO (.ok ZcQ) (.ok [.str sUtf8,.int 2]) = .ok (.int 2):=rfl
theorem ZjE:getO (.ok ZcQ) (.ok [.str sPrint,.int 2]) = .ok (.int 2):=rfl
theorem ZkK:getO (.ok ZcQ) (.ok [.str sTime,.int 2]) = .ok (.int 2):=rfl
theorem Zmp:getO (.ok ZcQ) (.ok [.str sSeq,.int 2]) = .ok (.int 2):=rfl
theorem Zmq:getO (.ok ZcQ) (.ok [.str sSet,.int 2]) = .ok (.int 2):=rfl
theorem Ziu:getO (.ok ZcQ) (.ok [.str sTagged,.int 2]) = .ok (.int 3):=rfl
theorem ZhS:getO (.ok ZcX) (.ok [.int ((1:Nat):Int)]) = .ok (.str sBool):=rfl
theorem ZhT:index Zco (.str sBool) = .ok (.int ((1:Nat):Int)):=rfl
theorem Zmr:getO (.ok ZcX) (.ok [.int ((2:Nat):Int)]) = .ok (.str sInt):=rfl
theorem Zms:index Zco (.str sInt) = .ok (.int ((2:Nat):Int)):=rfl
theorem ZkL:getO (.ok ZcX) (.ok [.int ((3:Nat):Int)]) = .ok (.str sBits):=rfl
theorem ZhU:index Zco (.str sBits) = .ok (.int ((3:Nat):Int)):=rfl
theorem ZjF:getO (.ok ZcX) (.ok [.int ((4:Nat):Int)]) = .ok (.str sBytes):=rfl
theorem ZjG:index Zco (.str sBytes) = .ok (.int ((4:Nat):Int)):=rfl
theorem ZkM:getO (.ok ZcX) (.ok [.int ((5:Nat):Int)]) = .ok (.str sNull):=rfl
theorem ZkN:index Zco (.str sNull) = .ok (.int ((5:Nat):Int)):=rfl
theorem Zjb:getO (.ok ZcX) (.ok [.int ((6:Nat):Int)]) = .ok (.str sOid):=rfl
theorem Zjc:index Zco (.str sOid) = .ok (.int ((6:Nat):Int)):=rfl
theorem ZkO:getO (.ok ZcX) (.ok [.int ((10:Nat):Int)]) = .ok (.str sEnum):=rfl
theorem ZkP:index Zco (.str sEnum) = .ok (.int ((10:Nat):Int)):=rfl
theorem ZkQ:getO (.ok ZcX) (.ok [.int ((12:Nat):Int)]) = .ok (.str sUtf8):=rfl
theorem ZkR:index Zco (.str sUtf8) = .ok (.int ((12:Nat):Int)):=rfl
theorem ZjH:getO (.ok ZcX) (.ok [.int ((19:Nat):Int)]) = .ok (.str sPrint):=rfl
theorem ZjI:index Zco (.str sPrint) = .ok (.int ((19:Nat):Int)):=rfl
theorem ZkS:getO (.ok ZcX) (.ok [.int ((24:Nat):Int)]) = .ok (.str sTime):=rfl
theorem ZkT:index Zco (.str sTime) = .ok (.int ((24:Nat):Int)):=rfl
theorem Zhg:getO (.ok ZcX) (.ok [.int ((48:Nat):Int)]) = .ok (.str sSeq):=rfl
theorem Zmt:index Zco (.str sSeq) = .ok (.int ((48:Nat):Int)):=rfl
theorem Zjd:getO (.ok ZcX) (.ok [.int ((49:Nat):Int)]) = .ok (.str sSet):=rfl
theorem Zmu:index Zco (.str sSet) = .ok (.int ((49:Nat):Int)):=rfl
theorem ix1_0 (a:D):index (.tuple [a]) (.int 0) = .ok a:=rfl
theorem ZT (a b:D):index (.tuple [a,b]) (.int 0) = .ok a:=rfl
theorem Zad (a b:D):index (.tuple [a,b]) (.int 1) = .ok b:=rfl
theorem Zeb (a b c:D):index (.tuple [a,b,c]) (.int 0) = .ok a:=rfl
theorem ZfA (a b c:D):index (.tuple [a,b,c]) (.int 1) = .ok b:=rfl
theorem Zgb (a b c:D):index (.tuple [a,b,c]) (.int 2) = .ok c:=rfl
theorem isT_bb (a b):isThing (.bool a) (.bool b) = .ok (a == b):=rfl
theorem bt1:(false == true)=false:=rfl
theorem bt2:(true == true)=true:=rfl
theorem bt3:(false == false)=true:=rfl
theorem Zcb (xs):isiK .tTuple (.tuple xs) = .ok (.bool true):=rfl
theorem Zgc (xs):isiK .tBytes (.bytes xs) = .ok (.bool true):=rfl
theorem Ziv (xs):isiK .tList (.list xs) = .ok (.bool true):=rfl
variable {T:Text} {r:Nat}
theorem Zgd (B:Base T) (b:Bool):CL T (r+3) 19 [.tuple [.str sBool,.bool b]] = .ok .none:=by
 rw [ZF B.f19 rfl (by decide)]
 cases b<;>simp (disch:=first | decide | assumption | lia) only [ZS,X_k,Zo,ZbC,P_or,ZO,Zx,P_bi,ZbM,ZeH,Zp,Zg,Zb,Zs,Zu,ZA,Zv,Z_ex,Za,c_eq,c_gt,ZaH,Zaz,Zt,Zd,Zh,ZE,ZD,ZcT,orO_t,Zfh,Zi,Ze,Zf,Zk,Zl,Zc,okB_,Zq,ZP,zc6,zc7,zc8,zc9,zc16,zc17,ZT,Zad,Zcb,List.length_cons,List.length_nil,ZR B.g0,ZR B.g3,ZH B,ZB B,c_is,isT_bb,bt1,bt2,bt3,ZlX,ZkF,ZaY,ZbB]
theorem ZjJ (B:Base T) (n:Int):CL T (r+3) 19 [.tuple [.str sInt,.int n]] = .ok .none:=by
 rw [ZF B.f19 rfl (by decide)]
 simp (disch:=first | decide | assumption | lia) only [ZS,X_k,Zo,ZbC,P_or,ZO,Zx,P_bi,ZbM,ZeH,Zp,Zg,Zb,R_or,Zs,Zu,ZA,Zv,Z_ex,Za,c_eq,c_gt,ZaH,Zaz,Zt,Zd,Zh,ZE,Zz,ZD,ZcT,Zfh,ZfK,Zi,Ze,Zf,Zk,Zl,Zc,okB_,Zq,ZP,zc6,zc7,zc8,zc9,zc16,zc17,ZT,Zad,Zcb,List.length_cons,List.length_nil,ZR B.g0,ZR B.g3,ZH B,ZB B,ZdX B,ZnW,Zmn,Zcv,ZdU,ZcB]
theorem Ziw (B:Base T) (n:Int):CL T (r+3) 19 [.tuple [.str sEnum,.int n]] = .ok .none:=by
 rw [ZF B.f19 rfl (by decide)]
 simp (disch:=first | decide | assumption | lia) only [ZS,X_k,Zo,ZbC,P_or,ZO,Zx,P_bi,ZbM,ZeH,Zp,Zg,Zb,R_or,Zs,Zu,ZA,Zv,Z_ex,Za,c_eq,c_gt,ZaH,Zaz,Zt,Zd,Zh,ZE,Zz,ZD,ZcT,Zfh,ZfK,Zal,Zi,Ze,Zf,Zk,Zl,Zc,okB_,Zq,ZP,zc6,zc7,zc8,zc9,zc16,zc17,ZT,Zad,Zcb,List.length_cons,List.length_nil,ZR B.g0,ZR B.g3,ZH B,ZB B,ZdX B,Zma,ZkI,Zch,ZdA,Zdg,Zcq]
theorem ZcM (B:Base T) (u:Int) (b:List UInt8):CL T (r+3) 19 [.tuple [.str sBits,.int u,.bytes b]] = .ok .none:=by
 rw [ZF B.f19 rfl (by decide)]
 simp (disch:=first | decide | assumption | lia) only [ZS,X_k,Zo,ZbC,P_or,ZO,Zx,P_bi,ZbM,ZeH,Zp,Zg,Zb,R_or,Zs,Zu,ZA,Zv,Z_ex,Za,c_eq,c_gt,ZaH,Zaz,Zt,Zd,Zh,ZE,Zz,ZD,ZcT,Zfh,Zal,Zi,Ze,Zf,Zk,Zl,Zc,okB_,Zq,ZP,zc6,zc7,zc8,zc9,zc16,zc17,Zeb,ZfA,Zgb,Zcb,Zgc,List.length_cons,List.length_nil,ZR B.g0,ZR B.g3,ZH B,ZB B,ZdX B,ZlY,ZkG,Zar,ZaM,ZaB,ZaC,Zap]
theorem ZhV (B:Base T) (b:List UInt8):CL T (r+3) 19 [.tuple [.str sBytes,.bytes b]] = .ok .none:=by
 rw [ZF B.f19 rfl (by decide)]
 simp (disch:=first | decide | assumption | lia) only [ZS,X_k,Zo,ZbC,P_or,ZO,Zx,P_bi,ZbM,ZeH,Zp,Zg,Zb,R_or,Zs,Zu,ZA,Zv,Z_ex,Za,c_eq,c_ne,c_gt,ZaH,Zaz,Zt,Zd,Zh,ZE,Zz,ZD,ZcT,Zfh,Zal,Zi,Ze,Zf,Zk,Zl,Zc,okB_,ZaK,Zq,ZP,zc5,zc6,zc7,zc8,zc9,zc16,zc17,ZT,Zad,Zcb,Zgc,List.length_cons,List.length_nil,ZR B.g0,ZR B.g3,ZH B,ZB B,Zkl,ZjD,ZbN,Zdb,ZcC,ZcD,Zdc,ZcE,Zce,Zcf,ZbZ]
theorem Zix (B:Base T) (b:List UInt8):CL T (r+3) 19 [.tuple [.str sUtf8,.bytes b]] = .ok .none:=by
 rw [ZF B.f19 rfl (by decide)]
 simp (disch:=first | decide | assumption | lia) only [ZS,X_k,Zo,ZbC,P_or,ZO,Zx,P_bi,ZbM,ZeH,Zp,Zg,Zb,R_or,Zs,Zu,ZA,Zv,Z_ex,Za,c_eq,c_ne,c_gt,ZaH,Zaz,Zt,Zd,Zh,ZE,Zz,ZD,ZcT,Zfh,Zal,Zi,Ze,Zf,Zk,Zl,Zc,okB_,ZaK,Zq,ZP,zc5,zc6,zc7,zc8,zc9,zc16,zc17,ZT,Zad,Zcb,Zgc,List.length_cons,List.length_nil,ZR B.g0,ZR B.g3,ZH B,ZB B,Zmb,ZkJ,Zci,ZdB,Zdh,Zdi,ZdC,Zdj,Zcw,Zcx,Zcr]
theorem ZhW (B:Base T) (b:List UInt8):CL T (r+3) 19 [.tuple [.str sPrint,.bytes b]] = .ok .none:=by
 rw [ZF B.f19 rfl (by decide)]
 simp (disch:=first | decide | assumption | lia) only [ZS,X_k,Zo,ZbC,P_or,ZO,Zx,P_bi,ZbM,ZeH,Zp,Zg,Zb,R_or,Zs,Zu,ZA,Zv,Z_ex,Za,c_eq,c_ne,c_gt,ZaH,Zaz,Zt,Zd,Zh,ZE,Zz,ZD,ZcT,Zfh,Zal,Zi,Ze,Zf,Zk,Zl,Zc,okB_,ZaK,Zq,ZP,zc5,zc6,zc7,zc8,zc9,zc16,zc17,ZT,Zad,Zcb,Zgc,List.length_cons,List.length_nil,ZR B.g0,ZR B.g3,ZH B,ZB B,Zkm,ZjE,ZbO,Zdk,ZcF,ZcG,Zdl,ZcH,Zcj,Zck,Zca]
theorem Ziy (B:Base T) (b:List UInt8):CL T (r+3) 19 [.tuple [.str sTime,.bytes b]] = .ok .none:=by
 rw [ZF B.f19 rfl (by decide)]
 simp (disch:=first | decide | assumption | lia) only [ZS,X_k,Zo,ZbC,P_or,ZO,Zx,P_bi,ZbM,ZeH,Zp,Zg,Zb,R_or,Zs,Zu,ZA,Zv,Z_ex,Za,c_eq,c_ne,c_gt,ZaH,Zaz,Zt,Zd,Zh,ZE,Zz,ZD,ZcT,Zfh,Zal,Zi,Ze,Zf,Zk,Zl,Zc,okB_,ZaK,Zq,ZP,zc5,zc6,zc7,zc8,zc9,zc16,zc17,ZT,Zad,Zcb,Zgc,List.length_cons,List.length_nil,ZR B.g0,ZR B.g3,ZH B,ZB B,Zmc,ZkK,Zcl,ZdD,Zdm,Zdn,ZdE,Zdo,Zcy,Zcz,Zcs]
theorem Ziz (B:Base T)  : CL T (r+3) 19 [.tuple [.str sNull]] = .ok .none:=by
 rw [ZF B.f19 rfl (by decide)]
 simp (disch:=first | decide | assumption | lia) only [ZS,X_k,Zo,ZbC,P_or,ZO,Zx,P_bi,ZbM,ZeH,Zp,Zg,Zb,R_or,Zs,Zu,ZA,Zv,Z_ex,Za,c_eq,c_ne,c_gt,ZaH,Zaz,Zt,Zd,Zh,Zz,ZD,ZcT,Zfh,Zal,Zi,Ze,Zf,Zk,Zl,Zc,okB_,ZaK,Zq,ZP,zc4,zc6,zc7,zc8,zc9,zc16,zc17,ix1_0,Zcb,List.length_cons,List.length_nil,ZR B.g0,ZR B.g3,ZH B,ZB B,ZlZ,ZkH,Zcg,Zdz,Zdd,Zde,ZgU,Zdf,ZeL,ZeM,Zcp]
theorem Zgz (B:Base T) (xs:List D):CL T (r+3) 19 [.tuple [.str sSeq,.list xs]] = .ok .none:=by
 rw [ZF B.f19 rfl (by decide)]
 simp (disch:=first | decide | assumption | lia) only [ZS,X_k,Zo,ZbC,P_or,ZO,Zx,P_bi,ZbM,ZeH,Zp,Zg,Zb,R_or,Zs,Zu,ZA,Zv,Z_ex,Za,c_eq,c_gt,ZaH,Zaz,Zt,Zd,Zh,ZE,Zz,ZD,ZcT,Zfh,ZfK,Zal,Zi,Ze,Zf,Zk,Zl,Zc,okB_,Zq,ZP,zc6,zc7,zc8,zc9,zc16,zc17,ZT,Zad,Zcb,Ziv,List.length_cons,List.length_nil,ZR B.g0,ZR B.g3,ZH B,ZB B,ZnY,Zmp,ZaP,ZbF,Zbp,ZbG,Zbq,Zbi,ZbQ]
theorem Zfk (B:Base T) (xs:List D):CL T (r+3) 19 [.tuple [.str sSet,.list xs]] = .ok .none:=by
 rw [ZF B.f19 rfl (by decide)]
 simp (disch:=first | decide | assumption | lia) only [ZS,X_k,Zo,ZbC,P_or,ZO,Zx,P_bi,ZbM,ZeH,Zp,Zg,Zb,R_or,Zs,Zu,ZA,Zv,Z_ex,Za,c_eq,c_gt,ZaH,Zaz,Zt,Zd,Zh,ZE,Zz,ZD,ZcT,Zfh,Zal,Zi,Ze,Zf,Zk,Zl,Zc,okB_,Zq,ZP,zc6,zc7,zc8,zc9,zc16,zc17,ZT,Zad,Zcb,Ziv,List.length_cons,List.length_nil,ZR B.g0,ZR B.g3,ZH B,ZB B,ZnZ,Zmq,ZaQ,ZbH,Zbr,ZbI,Zbs,Zbj,Zbk,Zbl]
theorem ZeT (B:Base T) (n:Int) (x:D):CL T (r+3) 19 [.tuple [.str sTagged,.int n,x]] = .ok .none:=by
 rw [ZF B.f19 rfl (by decide)]
 simp (disch:=first | decide | assumption | lia) only [ZS,X_k,Zo,ZbC,P_or,ZO,Zx,P_bi,ZbM,ZeH,Zp,Zg,Zb,R_or,Zs,Zu,ZA,Zv,Z_ex,Za,c_eq,c_gt,ZaH,Zaz,Zt,Zd,Zh,ZE,Zz,ZD,ZcT,orO_t,Zal,Zi,Ze,Zf,Zk,Zl,Zc,okB_,Zq,ZP,zc6,zc7,zc8,zc9,zc16,zc17,Zeb,ZfA,Zcb,List.length_cons,List.length_nil,ZR B.g3,ZH B,ZB B,ZdX B,Ziu,ZdO,ZfO,Zfz,Zbe]
theorem ZjK (B:Base T) (s0 s1:Slot):∀(as:List Int) (s2:Slot),∃sl,FE T (r+2) (.one 2) Zbu (as.map .int) [s0,s1,s2] = .ok (.next,sl):=by
 intro as
 induction as with
 | nil=>intro s2;exact ⟨_,rfl⟩
 | cons a as ih=>
  intro s2
  obtain ⟨sl,hs⟩:=ih (.val (.int a))
  refine ⟨sl,?_⟩
  rw [List.map_cons,ZhA]
  generalize FE T (r+2) (.one 2) Zbu (as.map .int)=w at hs ⊢
  simp (disch:=first | decide | assumption | lia) only [Zbu,Zo,Zp,Zg,Zb,Zu,Z_ex,ZQ,ZaW,Zd,ZD,Zfp,Zi,Ze,Zf,Zk,Zl,Zc,Zq,ZP,ZdX B,ZB B,hs]
theorem ZgA (B:Base T) (as:List Int):CL T (r+3) 19 [.tuple [.str sOid,.list (as.map .int)]] = .ok .none:=by
 rw [ZF B.f19 rfl (by decide)]
 obtain ⟨sl,hs⟩:=ZjK B (r:=r) (.val (.tuple [.str sOid,.list (as.map .int)])) (.val (.str sOid)) as .un
 simp (disch:=first | decide | assumption | lia) only [ZS,X_k,Zo,ZbC,P_or,ZO,Zx,P_bi,ZbM,ZeH,Zp,Zg,Zb,R_or,Zs,Zdx,Zu,ZA,Zv,ZgN,Z_ex,ZK,Za,c_eq,c_gt,ZaH,Zaz,Zt,Zd,Zh,ZE,Zz,Zdy,ZD,ZcT,Zfh,Zal,Zi,Ze,Zf,Zk,Zl,Zc,okB_,Zq,ZP,zc6,zc7,zc8,zc9,zc16,zc17,ZT,Zad,Zcb,Ziv,List.length_cons,List.length_nil,ZR B.g0,ZR B.g3,ZH B,ZB B,itemsOf,hs,ZnX,Zmo,Zax,Zbg,ZaN,Zbh,ZaO,ZaG]
end DK.Internal.B
end
section
set_option backward.match.sparseCases false
set_option genSizeOf false
set_option genCtorIdx false
namespace DK.Internal.B
open PySem
variable {T:Text} {r:Nat}
noncomputable def oneB (k:Nat):List UInt8:= [UInt8.ofNat k]
theorem Zbd {n:Nat} (h:n < 256):builtin .bytes [.list [.int (n:Nat)]] = .ok (.bytes (oneB n)):=ZhO h
theorem ZU (k:Nat):(oneB k).length=1:=rfl
theorem ZeD (k n:Nat):binop .Add (.bytes (oneB k)) (.bytes (lenB n)) = .ok (.bytes (oneB k++lenB n)):=catL (by simp [oneB])
theorem Zfl {c:List UInt8} (k:Nat) (hc:c.length < 65536):binop .Add (.bytes (oneB k++lenB c.length)) (.bytes c) = .ok (.bytes (tlv (oneB k) c)):=catC (by simp [oneB]) hc
theorem Zje (B:Base T) (b:Bool):CL T (r+20) 20 [.tuple [.str sBool,.bool b]] = .ok (.bytes (tlv (oneB 1) (if b=true then [255] else [0]))):=by
 rw [ZF B.f20 rfl (by decide)]
 cases b
 ·have hw:=ZI B (r:=r+10) (n:= [(0:UInt8)].length) (by decide)
  have hc:=Zfl (c:= [(0:UInt8)]) 1 (by decide)
  generalize hg : [(0:UInt8)]=c at hw hc
  simp (disch:=first | decide | assumption | lia) only [Zac,X_k,Zo,ZC,Zx,Zak,P_bi,Zp,Zg,Zb,Zs,R_idx,Zu,ZG,ZA,Zv,Z_ex,Za,ZV,c_eq,Zj,Zn,Zd,Zr,Zh,ZE,Zz,ZD,Zaf,Zi,Ze,Zf,Zk,Zl,Zc,okB_,Zq,zc6,zc7,zc8,zc9,zc13,zc16,zc17,ZT,Zad,Zgd B,ZaY,ZbB,ZR B.g0,ZhT,Zbd,hg,hw,ZeD,hc]
 ·have hw:=ZI B (r:=r+10) (n:= [(255:UInt8)].length) (by decide)
  have hc:=Zfl (c:= [(255:UInt8)]) 1 (by decide)
  generalize hg : [(255:UInt8)]=c at hw hc
  simp (disch:=first | decide | assumption | lia) only [Zac,X_k,Zo,ZC,Zx,Zak,P_bi,Zp,Zg,Zb,Zs,R_idx,Zu,ZG,ZA,Zv,Z_ex,Za,ZV,c_eq,Zj,Zn,Zd,Zr,Zh,ZE,Zz,ZD,Zaf,Zi,Ze,Zf,Zk,Zl,Zc,okB_,Zq,zc2,zc6,zc7,zc8,zc9,zc16,zc17,ZT,Zad,Zgd B,ZaY,ZbB,ZR B.g0,ZhT,Zbd,hg,hw,ZeD,hc]
theorem Zmv (B:Base T):CL T (r+20) 20 [.tuple [.str sNull]] = .ok (.bytes (tlv (oneB 5) [])):=by
 rw [ZF B.f20 rfl (by decide)]
 have hw:=ZI B (r:=r+10) (n:=([]:List UInt8).length) (by decide)
 have hc:=Zfl (c:= []) 5 (by decide)
 generalize hg:([]:List UInt8)=c at hw hc
 simp (disch:=first | decide | assumption | lia) only [Zac,X_k,Zo,ZC,Zx,Zak,P_bi,Zp,Zg,Zb,R_or,Zs,Zu,ZG,ZA,Zv,Z_ex,Za,c_eq,Zj,Zn,Zd,Zr,Zh,ZE,Zz,ZD,Zal,Zaf,Zi,Ze,Zf,Zk,Zl,Zc,okB_,Zq,zc6,zc7,zc8,zc9,zc16,zc17,ix1_0,Ziz B,Zcg,Zdz,Zdd,Zde,Zdf,Zcp,ZR B.g0,ZkN,Zbd,hg,hw,ZeD,hc]
theorem ZiA (B:Base T) (n:Int) (hl:(intB n).length≤1000):CL T (r+20) 20 [.tuple [.str sInt,.int n]] = .ok (.bytes (tlv (oneB 2) (intB n))):=by
 rw [ZF B.f20 rfl (by decide)]
 have hw:=ZI B (r:=r+10) (n:=(intB n).length) (by exact Nat.lt_of_le_of_lt (by assumption) (by decide))
 have hc:=Zfl (c:=intB n) 2 (by exact Nat.lt_of_le_of_lt (by assumption) (by decide))
 have hi:=Zfr B (r:=r+10) n hl
 simp (disch:=first | decide | assumption | lia) only [Zac,X_k,Zo,ZC,Zx,Zak,P_bi,Zp,Zg,Zb,R_or,Zs,Zu,ZG,ZA,Zv,Z_ex,Za,c_eq,Zj,Zn,Zd,Zr,Zh,ZE,Zz,ZD,ZfK,Zaf,Zi,Ze,Zf,Zk,Zl,Zc,okB_,Zq,zc6,zc7,zc8,zc9,zc16,zc17,ZT,Zad,ZjJ B,Zcv,ZdU,ZcB,ZR B.g0,Zms,Zbd,hi,hw,ZeD,hc]
theorem Zmw (B:Base T) (n:Int) (hl:(intB n).length≤1000):CL T (r+20) 20 [.tuple [.str sEnum,.int n]] = .ok (.bytes (tlv (oneB 10) (intB n))):=by
 rw [ZF B.f20 rfl (by decide)]
 have hw:=ZI B (r:=r+10) (n:=(intB n).length) (by exact Nat.lt_of_le_of_lt (by assumption) (by decide))
 have hc:=Zfl (c:=intB n) 10 (by exact Nat.lt_of_le_of_lt (by assumption) (by decide))
 have hi:=Zfr B (r:=r+10) n hl
 simp (disch:=first | decide | assumption | lia) only [Zac,X_k,Zo,ZC,Zx,Zak,P_bi,Zp,Zg,Zb,R_or,Zs,Zu,ZG,ZA,Zv,Z_ex,Za,c_eq,Zj,Zn,Zd,Zr,Zh,ZE,Zz,ZD,Zal,Zaf,Zi,Ze,Zf,Zk,Zl,Zc,okB_,Zq,zc6,zc7,zc8,zc9,zc16,zc17,ZT,Zad,Ziw B,Zch,ZdA,Zdg,Zcq,ZR B.g0,ZkP,Zbd,hi,hw,ZeD,hc]
theorem ZkU (B:Base T) (b:List UInt8) (hl:b.length < 65536):CL T (r+20) 20 [.tuple [.str sBytes,.bytes b]] = .ok (.bytes (tlv (oneB 4) b)):=by
 rw [ZF B.f20 rfl (by decide)]
 have hw:=ZI B (r:=r+10) (n:=b.length) hl
 have hc:=Zfl (c:=b) 4 hl
 simp (disch:=first | decide | assumption | lia) only [Zac,X_k,Zo,ZC,Zx,Zak,P_bi,Zp,Zg,Zb,R_or,Zs,Zu,ZG,ZA,Zv,Z_ex,Za,c_eq,Zj,Zn,Zd,Zr,Zh,Zz,ZD,Zal,Zaf,Zi,Ze,Zf,Zk,Zl,Zc,okB_,Zq,zc6,zc7,zc8,zc9,zc16,zc17,ZT,Zad,ZhV B,ZbN,Zdb,ZcC,ZcD,Zdc,ZcE,Zce,Zcf,ZbZ,ZR B.g0,ZjG,Zbd,ZhQ B,ZB B,hw,ZeD,hc]
theorem Zmx (B:Base T) (b:List UInt8) {g:Bool} (ht:CL T (r+15+4) 17 [.str sUtf8,.bytes b] = .ok (.bool g)) (hl:b.length < 65536):CL T (r+20) 20 [.tuple [.str sUtf8,.bytes b]]=if g=true then .ok (.bytes (tlv (oneB 12) b)) else .exc:=by
 rw [ZF B.f20 rfl (by decide)]
 have hw:=ZI B (r:=r+10) (n:=b.length) hl
 have hc:=Zfl (c:=b) 12 hl
 cases g <;>
 simp (disch:=first | decide | assumption | lia) only [Zac,X_k,Zo,ZC,Zx,Zak,P_bi,Zp,Zg,Zb,R_or,Zs,Zu,ZG,ZA,Zv,Z_ex,Za,c_eq,Zj,Zn,Zd,Zr,Zh,Zz,ZD,Zav,Zal,Zaf,Zi,Ze,Zf,Zk,Zl,Zc,ZL,okB_,Zq,zc2,zc6,zc7,zc8,zc9,zc13,zc16,zc17,ZT,Zad,Zix B,Zci,ZdB,Zdh,Zdi,ZdC,Zdj,Zcw,Zcx,Zcr,ZR B.g0,ZkR,Zbd,ht,ZB B,Zds B,hw,ZeD,hc]
theorem ZkV (B:Base T) (b:List UInt8) {g:Bool} (ht:CL T (r+15+4) 17 [.str sPrint,.bytes b] = .ok (.bool g)) (hl:b.length < 65536):CL T (r+20) 20 [.tuple [.str sPrint,.bytes b]]=if g=true then .ok (.bytes (tlv (oneB 19) b)) else .exc:=by
 rw [ZF B.f20 rfl (by decide)]
 have hw:=ZI B (r:=r+10) (n:=b.length) hl
 have hc:=Zfl (c:=b) 19 hl
 cases g <;>
 simp (disch:=first | decide | assumption | lia) only [Zac,X_k,Zo,ZC,Zx,Zak,P_bi,Zp,Zg,Zb,R_or,Zs,Zu,ZG,ZA,Zv,Z_ex,Za,c_eq,Zj,Zn,Zd,Zr,Zh,Zz,ZD,Zav,Zal,Zaf,Zi,Ze,Zf,Zk,Zl,Zc,ZL,okB_,Zq,zc2,zc6,zc7,zc8,zc9,zc13,zc16,zc17,ZT,Zad,ZhW B,ZbO,Zdk,ZcF,ZcG,Zdl,ZcH,Zcj,Zck,Zca,ZR B.g0,ZjI,Zbd,ht,ZB B,Zds B,hw,ZeD,hc]
theorem Zmy (B:Base T) (b:List UInt8) {g:Bool} (ht:CL T (r+15+4) 17 [.str sTime,.bytes b] = .ok (.bool g)) (hl:b.length < 65536):CL T (r+20) 20 [.tuple [.str sTime,.bytes b]]=if g=true then .ok (.bytes (tlv (oneB 24) b)) else .exc:=by
 rw [ZF B.f20 rfl (by decide)]
 have hw:=ZI B (r:=r+10) (n:=b.length) hl
 have hc:=Zfl (c:=b) 24 hl
 cases g <;>
 simp (disch:=first | decide | assumption | lia) only [Zac,X_k,Zo,ZC,Zx,Zak,P_bi,Zp,Zg,Zb,R_or,Zs,Zu,ZG,ZA,Zv,Z_ex,Za,c_eq,Zj,Zn,Zd,Zr,Zh,Zz,ZD,Zav,Zal,Zaf,Zi,Ze,Zf,Zk,Zl,Zc,ZL,okB_,Zq,zc2,zc6,zc7,zc8,zc9,zc13,zc16,zc17,ZT,Zad,Ziy B,Zcl,ZdD,Zdm,Zdn,ZdE,Zdo,Zcy,Zcz,Zcs,ZR B.g0,ZkT,Zbd,ht,ZB B,Zds B,hw,ZeD,hc]
noncomputable def bitsP (u:Nat) (b:List UInt8):Bool:=decide (u < 8) && (decide (0 < b.length∨u=0) && (decide (b.length=0) || decide (at0 b (b.length - 1) % 2 ^ u=0)))
theorem Zmz (B:Base T) (u:Nat) (b:List UInt8) (hu:u < 256) (hl:b.length < 60000):CL T (r+20) 20 [.tuple [.str sBits,.int (u:Nat),.bytes b]] =
  if bitsP u b=true then .ok (.bytes (tlv (oneB 3) (oneB u++b))) else .exc:=by
 rw [ZF B.f20 rfl (by decide)]
 have hcl:(oneB u++b).length=b.length+1:=by simp [oneB]
 have hw:=ZI B (r:=r+10) (n:=(oneB u++b).length) (by exact Nat.lt_of_le_of_lt (by assumption) (by decide))
 have hc:=Zfl (c:=oneB u++b) 3 (by exact Nat.lt_of_le_of_lt (by assumption) (by decide))
 have h1:binop .Add (.bytes (oneB u)) (.bytes b) = .ok (.bytes (oneB u++b)):=ZbS (by rw [ZU];unfold SZ;lia)
 by_cases h8:u < 8
 ·by_cases h0:0 < b.length
  ·have hi:=Zml (b:=b) (i:=b.length - 1) (j:=(b.length:Int) - 1) (by lia) (by lia)
   have hone:(1:Int).natAbs < BIG:=ZeQ (k:=1) (by decide) (by decide)
   have e5:(1:Int)*2 ^ u - 1=((2 ^ u - 1:Nat):Int):=by
    have:0 < 2 ^ u:=Nat.pow_pos (by decide)
    rw [Int.natCast_sub (by assumption)];simp
   by_cases hz:at0 b (b.length - 1) % 2 ^ u=0
   ·have hp:bitsP u b=true:=by simp only [bitsP,h8,h0,hz,decide_true,true_or,Bool.and_self,Bool.or_true]
    rw [hp]
    simp (disch:=first | decide | assumption | lia) only [Zac,X_k,Zo,ZC,ZbC,P_or,ZO,Zx,Zak,P_bi,Zp,Zg,Zb,R_or,Zs,Zu,ZG,ZA,Zv,Z_ex,Za,ZaR,c_eq,c_lt,c_le,c_gt,Zj,Zn,Zt,Zd,Zr,Zh,ZE,Zz,ZY,ZD,ZcZ,ZiY,Zal,Zaf,Zi,Ze,Zf,Zk,Zl,Zc,okB_,Zq,zc2,zc6,zc7,zc8,zc9,zc16,zc17,Zeb,ZfA,Zgb,ZcM B,Zar,ZaM,ZaB,ZaC,Zap,ZR B.g0,ZhU,Zbd,ZH B,ZB B,hi,ZeP,Int.toNat_natCast,e5,Zko,Nat.and_two_pow_sub_one_eq_mod,hz,h1,hw,ZeD,hc]
   ·have hp:bitsP u b=false:=by simp only [bitsP,hz,show ¬(b.length=0) by exact Nat.ne_of_gt (by assumption),decide_false,Bool.or_self,Bool.and_false]
    rw [hp]
    simp (disch:=first | decide | assumption | lia) only [Zac,X_k,Zo,ZC,ZbC,P_or,ZO,Zx,P_bi,Zp,Zg,Zb,R_or,Zs,Zu,ZA,Zv,Z_ex,Za,ZaR,c_eq,c_lt,c_le,c_gt,Zj,Zt,Zd,Zh,ZE,Zz,ZY,ZD,Zav,ZcZ,ZiY,Zal,Zi,Ze,Zf,Zk,Zl,Zc,ZL,okB_,Zq,zc6,zc7,zc8,zc9,zc13,zc16,zc17,Zeb,ZfA,Zgb,ZcM B,Zar,ZaM,ZaB,ZaC,Zap,ZH B,ZB B,hi,ZeP,Int.toNat_natCast,e5,Zko,Nat.and_two_pow_sub_one_eq_mod,ZcK B]
  ·by_cases hu0:u=0
   ·have hp:bitsP u b=true:=by simp only [bitsP,hu0,show b.length=0 by lia,decide_true,or_true,Bool.and_self,Bool.true_or,show (0:Nat) < 8 by decide]
    rw [hp]
    simp (disch:=first | decide | assumption | lia) only [Zac,X_k,Zo,ZC,P_not,ZbC,P_or,ZO,Zx,Zak,P_bi,Zp,Zg,Zb,R_or,Zs,Zu,ZG,ZA,Zv,Z_ex,Za,c_eq,c_lt,c_le,c_gt,Zj,Zn,Zd,Zr,Zh,ZE,Zz,Zy,ZD,ZcZ,ZfJ,Zal,Zaf,Zi,ZnF,Ze,Zf,Zk,Zl,Zc,okB_,Zq,zc2,zc6,zc7,zc8,zc9,zc16,zc17,Zeb,ZfA,Zgb,ZcM B,Zar,ZaM,ZaB,ZaC,Zap,ZR B.g0,ZhU,Zbd,ZH B,Zks B,h1,hw,ZeD,hc]
   ·have hp:bitsP u b=false:=by simp only [bitsP,show ¬(0 < b.length∨u=0) by lia,decide_false,Bool.false_and,Bool.and_false]
    rw [hp]
    simp (disch:=first | decide | assumption | lia) only [Zac,X_k,Zo,P_not,ZbC,P_or,ZO,Zx,P_bi,Zp,Zg,Zb,R_or,Zs,Zu,ZA,Zv,Z_ex,Za,c_eq,c_lt,c_le,c_gt,Zj,Zd,Zh,ZE,Zz,ZD,Zav,ZcZ,ZfJ,Zal,Zi,ZnF,Ze,Zf,Zk,Zl,Zc,ZL,okB_,Zq,zc6,zc7,zc8,zc9,zc13,zc16,zc17,Zeb,ZfA,Zgb,ZcM B,Zar,ZaM,ZaB,ZaC,Zap,ZH B,Zof B]
 ·have hp:bitsP u b=false:=by simp only [bitsP,h8,decide_false,Bool.false_and]
  rw [hp]
  simp (disch:=first | decide | assumption | lia) only [Zac,X_k,Zo,ZbC,ZO,Zx,Zp,Zg,Zb,R_or,Zs,Zu,ZA,Zv,Z_ex,Za,c_eq,c_lt,c_le,Zd,Zh,ZE,Zz,ZD,Zav,ZcZ,Zal,Zi,Ze,Zf,Zk,Zl,Zc,ZL,okB_,Zq,zc6,zc7,zc8,zc9,zc13,zc16,zc17,Zeb,ZfA,Zgb,ZcM B,Zar,ZaM,ZaB,ZaC,Zap,ZcK B]
end DK.Internal.B
end
section
set_option backward.match.sparseCases false
set_option genSizeOf false
set_option genCtorIdx false
namespace DK.Internal.B
open PySem
variable {T:Text} {r:Nat}
noncomputable def aD (n:Nat):D:= .bytes (arcB n)
theorem Zfs (bs:List (List UInt8)):byteStrs (bs.map .bytes)=some bs:=by
 induction bs with
 | nil=>rfl
 | cons b bs ih=>show (match byteStrs (bs.map .bytes) with | some bs=>some (b::bs) | none=>none)=_;rw [ih]
theorem Zge {bs:List (List UInt8)} (h:bs.flatten.length≤1000000) (h2:bs.length≤1000000):builtin .join [.list (bs.map .bytes)] = .ok (.bytes bs.flatten):=by
 exact Zoe (Zfs bs) ⟨h,h2⟩
theorem ZgB (B:Base T) (s0 s1 s2 s3 s4 s5 s6 s7 s8 s10 s11:Slot):∀(as:List Nat) (s9:Slot),∃s9',FE T (r+1) (.one 9) ZdI (as.map nD) [s0,s1,s2,s3,s4,s5,s6,s7,s8,s9,s10,s11] = .ok (.next,[s0,s1,s2,s3,s4,s5,s6,s7,s8,s9',s10,s11]):=by
 intro as
 induction as with
 | nil=>intro s9;exact ⟨s9,rfl⟩
 | cons a as ih=>
  intro s9
  obtain ⟨s9',hs⟩:=ih (.val (nD a))
  refine ⟨s9',?_⟩
  rw [List.map_cons,ZhA]
  generalize FE T (r+1) (.one 9) ZdI (as.map nD)=w at hs ⊢
  simp only [nD] at hs ⊢
  simp (disch:=first | decide | assumption | lia) only [ZdI,X_k,Zo,ZO,Zp,Zg,Zb,Zu,Z_ex,ZQ,c_ge,ZaW,Zd,ZD,Zfp,Zi,Ze,Zf,Zk,Zl,Zc,Zq,ZP,ZH B,hs]
theorem ZkW (B:Base T) (s0 s1 s2 s3 s4 s5 s6 s7 s9:Slot) (as:List Nat) (hb:∀a∈as,a < 128 ^ 100) (hl:as.length≤900):∀(d i:Nat) (acc:List D),i+d=as.length→acc.length+d≤1000 →
  W T (r+1) ZcP ZdJ [s0,s1,s2,s3,s4,s5,s6,s7,.val (.list (as.map nD)),s9,.own acc,.val (.int (i:Nat))] =
   .ok (.next,[s0,s1,s2,s3,s4,s5,s6,s7,.val (.list (as.map nD)),s9,.own (acc++(as.drop i).map aD),.val (.int (as.length:Nat))]):=by
 intro d
 induction d with
 | zero=>
  intro i acc h h2
  have:i=as.length:=by assumption
  subst this
  rw [V_eq]
  have hm:((as.map nD).length:Int)=as.length:=by simp
  simp (disch:=first | decide | assumption | lia) only [ZcP,Zo,P_bi,Zg,Zb,Zs,Za,c_lt,Zay,Zd,Zep,Zi,Ze,Zf,Zc,zc7,hm,List.drop_length,List.append_nil]
 | succ d ih=>
  intro i acc h h2
  have hi:i < as.length:=by lia
  have ha:=ZdZ B (r:=r) (n:=as[i]) (j:=99) (hb _ (List.getElem_mem _)) (by exact Nat.le_add_left _ _)
  have hs:=ih (i+1) (acc ++ [aD as[i]]) (by lia) (by simp;lia)
  have hm:((as.map nD).length:Int)=as.length:=by simp
  have hx:index (.list (as.map nD)) (.int (i:Nat)) = .ok (.int ((as[i]:Nat):Int)):=by
   rw [Zbt (by simpa using hi)];simp [nD]
  rw [V_eq]
  generalize W T (r+1) ZcP ZdJ=w at hs ⊢
  simp (disch:=first | decide | assumption | lia) only [ZcP,ZdJ,X_k,Zo,Zx,P_bi,Zp,Zg,Zb,Zs,Zu,Zen,Zhz,ZQ,Za,ZW,c_lt,Zay,Zd,Zh,Zbw,ZdT,ZdN,Zi,Ze,Zf,Zk,Zl,ZcI,ZcJ,Zc,Zq,ZP,hm,hx,ha,ZhM]
  refine hs.trans ?_
  rw [List.append_assoc,List.drop_eq_getElem_cons hi];rfl
theorem ZhX (as:List Nat):(as.map arcB).flatten=arcsB as:=by simp [arcsB,List.flatMap]
theorem ZhY (as:List Nat) (hb:∀a∈as,a < 128 ^ 100):(arcsB as).length≤101*as.length:=by
 induction as with
 | nil=>simp [arcsB]
 | cons a as ih=>
  have h1:=ih (fun x hx=>hb x (List.mem_cons_of_mem _ hx))
  have h2:=Zbf 100 (a / 128) (Nat.lt_of_le_of_lt (Nat.div_le_self _ _) (hb a (List.mem_cons_self ..)))
  have h3:=ZbU a
  have h4:arcsB (a::as)=arcB a++arcsB as:=by simp [arcsB]
  rw [h4];simp;lia
theorem Zom (B:Base T) (a b:Nat) (as:List Nat) (ha:a≤2) (hab:a=2∨b < 40) (hb:∀x∈(40*a+b)::as,x < 128 ^ 100) (hbb:b < 4000000000) (hl:as.length≤600) :
  CL T (r+20) 20 [.tuple [.str sOid,.list (nD a::nD b::as.map nD)]] = .ok (.bytes (tlv (oneB 6) (arcsB ((40*a+b)::as)))):=by
 rw [ZF B.f20 rfl (by decide)]
 have hl2:=ZhY _ hb
 simp only [List.length_cons] at hl2
 have hw:=ZI B (r:=r+10) (n:=(arcsB ((40*a+b)::as)).length) (by lia)
 have hc:=Zfl (c:=arcsB ((40*a+b)::as)) 6 (by lia)
 have hsh:=ZgA B (r:=r+16) ((a::b::as).map Nat.cast)
 have em:((a::b::as).map (Nat.cast:Nat→Int)).map D.int=nD a::nD b::as.map nD:=by simp [nD]
 rw [em] at hsh
 obtain ⟨s9,hn⟩:=ZgB B (r:=r+18) (.val (.tuple [.str sOid,.list (nD a::nD b::as.map nD)])) (.val (.str sOid)) .un .un .un .un .un .un (.val (.list (nD a::nD b::as.map nD))) .un .un (a::b::as) .un
 have h0:=ZdZ B (r:=r+18) (n:=40*a+b) (j:=99) (hb _ (List.mem_cons_self ..)) (by exact Nat.le_add_left _ _)
 have hbs:∀x∈as,x < 128 ^ 100:=fun x hx=>hb x (List.mem_cons_of_mem _ hx)
 have hp:=ZkW B (r:=r+18) (.val (.tuple [.str sOid,.list (nD a::nD b::as.map nD)])) (.val (.str sOid)) .un .un .un .un .un .un s9 (a::b::as) (by
  intro x hx
  have h2:(4000000000:Nat) < 128 ^ 100:=by decide
  rcases List.mem_cons.mp hx with e | hx
  ·lia
  ·rcases List.mem_cons.mp hx with e | hx
   ·lia
   ·exact hbs x hx) (by simp;exact Nat.le_trans (by assumption) (by decide)) as.length 2 [aD (40*a+b)] (by simp;exact Nat.add_comm _ _) (by simp;lia)
 have e1:(40:Int)*(a:Nat)+(b:Nat)=((40*a+b:Nat):Int):=by rfl
 have hj:builtin .join [.list ([aD (40*a+b)]++((a::b::as).drop 2).map aD)] = .ok (.bytes (arcsB ((40*a+b)::as))):=by
  have:([aD (40*a+b)]++((a::b::as).drop 2).map aD)=((((40*a+b)::as).map arcB)).map .bytes:=by simp [aD]
  rw [this,Zge (by rw [ZhX];lia) (by simp;exact Nat.le_trans (by assumption) (by decide)),ZhX]
 have i0:index (.list (nD a::nD b::as.map nD)) (.int 0) = .ok (.int (a:Nat)):=Zbt (b:=nD a::nD b::as.map nD) (i:=0) (by simp)
 have i1:index (.list (nD a::nD b::as.map nD)) (.int 1) = .ok (.int (b:Nat)):=Zbt (b:=nD a::nD b::as.map nD) (i:=1) (by simp)
 have hlen:(2:Int)≤((nD a::nD b::as.map nD).length:Nat):=by simp;lia
 simp only [List.map_cons,show ((2:Nat):Int)=2 from rfl] at hn hp
 generalize nD a::nD b::as.map nD=L at *
 generalize [aD (40*a+b)]++((a::b::as).drop 2).map aD=M at *
 rw [show D.bytes (arcB (40*a+b))=aD (40*a+b) from rfl] at h0
 by_cases h2:a=2
 ·simp (disch:=first | decide | assumption | lia) only [Zac,X_k,Zo,ZC,P_or,ZO,Zx,Zak,P_bi,Zp,Zg,Zb,R_or,Zs,Zdx,Zu,ZG,ZA,Zgr,Zv,Zcu,ZgN,ZeJ,Z_ex,ZK,Za,ZW,c_eq,c_le,c_ge,Zj,Zay,Zn,Zt,Zd,Zr,Zh,ZcY,ZE,Zz,Zdy,ZD,ZiY,Zal,Zaf,Zi,Ze,Zf,Zk,Zl,ZeN,ZeO,Zc,okB_,Zq,zc6,zc7,zc8,zc9,zc16,zc17,ZT,Zad,hsh,Zax,Zbg,ZaN,Zbo,Zbh,ZaO,ZaG,ZR B.g0,Zjc,Zbd,ZH B,ZB B,itemsOf,hn,i0,i1,Zdr,e1,h0,hp,hj,hw,ZeD,hc]
 ·simp (disch:=first | decide | assumption | lia) only [Zac,X_k,Zo,ZC,P_or,ZO,Zx,Zak,P_bi,Zp,Zg,Zb,R_or,Zs,Zdx,Zu,ZG,ZA,Zgr,Zv,Zcu,ZgN,ZeJ,Z_ex,ZK,Za,ZW,c_eq,c_lt,c_le,c_ge,Zj,Zay,Zn,Zt,Zd,Zr,Zh,ZcY,ZE,Zz,Zdy,ZD,ZfJ,Zal,Zaf,Zi,Ze,Zf,Zk,Zl,ZeN,ZeO,Zc,okB_,Zq,zc6,zc7,zc8,zc9,zc16,zc17,ZT,Zad,hsh,Zax,Zbg,ZaN,Zbo,Zbh,ZaO,ZaG,ZR B.g0,Zjc,Zbd,ZH B,itemsOf,hn,i0,i1,Zdr,e1,h0,hp,hj,hw,ZeD,hc]
end DK.Internal.B
end
section
set_option backward.match.sparseCases false
set_option genSizeOf false
set_option genCtorIdx false
namespace DK.Internal.B
open PySem
variable {T:Text} {r:Nat}
theorem Zjf (s0 s1 s2 s3 s4 s5 s6 s7 s8 s9 s10 s11 s12 s13:Slot):∀(ps:List (D × List UInt8)) (acc:List D),
  (∀p∈ps,CL T r 20 [p.1] = .ok (.bytes p.2))→acc.length+ps.length≤1000 →
  CE T r (.one 13) .nil (.call 20 (.cons (.var 13) .nil)) (ps.map (·.1)) [s0,s1,s2,s3,s4,s5,s6,s7,s8,s9,s10,s11,s12,s13] acc = .ok (acc++(ps.map (·.2)).map .bytes):=by
 intro ps
 induction ps with
 | nil=>intro acc h hl;rw [List.map_nil,Zgu];simp
 | cons p ps ih=>
  intro acc h hl
  have h1:=h p (List.mem_cons_self ..)
  have hs:=ih (acc ++ [.bytes p.2]) (fun q hq=>h q (List.mem_cons_of_mem _ hq)) (by simp at hl ⊢;lia)
  have hal:acc.length < 1000000:=by simp at hl;lia
  rw [List.map_cons,Zhx]
  simp (disch:=first | decide | assumption | lia) only [Zo,Zp,Zg,Zb,ZeI,ZaW,Zd,Zeo,Zhy,Zi,Ze,Zf,Zk,Zl,Zc,zc6,h1,ZfG,hs]
  simp
theorem ZhZ (s0 s1 s2 s3 s4 s5 s6 s7 s8 s9 s10 s11 s12 s13:Slot) (x:D) (xs:List D) (hx:CL T r 20 [x] = .exc):∀(ps:List (D × List UInt8)) (acc:List D),
  (∀p∈ps,CL T r 20 [p.1] = .ok (.bytes p.2))→acc.length+ps.length≤1000 →
  CE T r (.one 13) .nil (.call 20 (.cons (.var 13) .nil)) (ps.map (·.1)++x::xs) [s0,s1,s2,s3,s4,s5,s6,s7,s8,s9,s10,s11,s12,s13] acc = .exc:=by
 intro ps
 induction ps with
 | nil=>intro acc h hl;rw [List.map_nil,List.nil_append,Zhx];simp (disch:=first | decide | assumption | lia) only [Zo,Zp,Zg,Zb,ZeI,ZaW,Zd,Zeo,Zhy,ZnP,Zi,Ze,Zf,Zk,Zl,Zc,hx]
 | cons p ps ih=>
  intro acc h hl
  have h1:=h p (List.mem_cons_self ..)
  have hs:=ih (acc ++ [.bytes p.2]) (fun q hq=>h q (List.mem_cons_of_mem _ hq)) (by simp at hl ⊢;lia)
  have hal:acc.length < 1000000:=by simp at hl;lia
  rw [List.map_cons,List.cons_append,Zhx]
  simp (disch:=first | decide | assumption | lia) only [Zo,Zp,Zg,Zb,ZeI,ZaW,Zd,Zeo,Zhy,Zi,Ze,Zf,Zk,Zl,Zc,h1,ZfG,hs]
theorem Zon (B:Base T) (ps:List (D × List UInt8)) (h:∀p∈ps,CL T (r+19) 20 [p.1] = .ok (.bytes p.2)) (hl:ps.length≤900) (hc:(ps.map (·.2)).flatten.length < 65536) :
  CL T (r+20) 20 [.tuple [.str sSeq,.list (ps.map (·.1))]] = .ok (.bytes (tlv (oneB 48) (ps.map (·.2)).flatten)):=by
 rw [ZF B.f20 rfl (by decide)]
 have hw:=ZI B (r:=r+10) (n:=(ps.map (·.2)).flatten.length) hc
 have hc1:=Zfl (c:=(ps.map (·.2)).flatten) 48 hc
 have hk:=fun s0 s1 s2 s3 s4 s5 s6 s7 s8 s9 s10 s11 s12 s13=>Zjf (T:=T) (r:=r+19) s0 s1 s2 s3 s4 s5 s6 s7 s8 s9 s10 s11 s12 s13 ps [] h (by simpa using (by exact Nat.le_trans (by assumption) (by decide):ps.length≤1000))
 have hj:=Zge (bs:=ps.map (·.2)) (by lia) (by simp;exact Nat.le_trans (by assumption) (by decide))
 simp only [List.nil_append] at hk
 generalize (ps.map (·.2)).map D.bytes=M at *
 generalize (ps.map (·.2)).flatten=F at *
 generalize ps.map (·.1)=L at *
 simp (disch:=first | decide | assumption | lia) only [Zac,X_k,Zo,ZC,Zx,Zak,P_bi,Zdq,Zp,Zg,Zb,R_or,Zs,Zdx,ZcR,Zu,ZG,ZA,Zv,ZeJ,Z_ex,Za,c_eq,Zj,Zn,Zd,ZcS,Zr,Zh,ZE,Zz,ZD,ZfK,Zal,Zaf,Zi,Ze,Zf,Zk,Zl,ZfP,ZeO,Zc,okB_,Zq,zc6,zc7,zc8,zc9,zc16,zc17,ZT,Zad,Zgz B,ZaP,ZbF,Zbp,ZbP,ZbG,Zbq,Zbi,ZhI,ZbQ,ZR B.g0,Zmt,Zbd,itemsOf,hk,hj,hw,ZeD,hc1]
theorem ZiB (B:Base T) (ps:List (D × List UInt8)) (x:D) (xs:List D) (k:List Nat) (hk':k=sSeq∨k=sSet) (h:∀p∈ps,CL T (r+19) 20 [p.1] = .ok (.bytes p.2)) (hl:ps.length≤900) (hx:CL T (r+19) 20 [x] = .exc) :
  CL T (r+20) 20 [.tuple [.str k,.list (ps.map (·.1)++x::xs)]] = .exc:=by
 rw [ZF B.f20 rfl (by decide)]
 have hk:=fun s0 s1 s2 s3 s4 s5 s6 s7 s8 s9 s10 s11 s12 s13=>ZhZ (T:=T) (r:=r+19) s0 s1 s2 s3 s4 s5 s6 s7 s8 s9 s10 s11 s12 s13 x xs hx ps [] h (by simpa using (by exact Nat.le_trans (by assumption) (by decide):ps.length≤1000))
 generalize ps.map (·.1)++x::xs=L at *
 rcases hk' with rfl | rfl
 ·simp (disch:=first | decide | assumption | lia) only [Zac,X_k,Zo,Zx,Zdq,Zp,Zg,Zb,R_or,Zs,Zdx,ZcR,Zu,ZA,Zv,Z_ex,Za,c_eq,Zd,ZcS,Zh,ZaL,ZE,Zz,ZD,ZfK,Zal,Zi,Ze,Zf,Zk,Zl,Zc,ZL,okB_,Zq,zc6,zc7,zc8,zc9,zc16,zc17,ZT,Zad,Zgz B,ZaP,ZbF,Zbp,ZbP,ZbG,Zbq,Zbi,ZbQ,itemsOf,hk]
 ·simp (disch:=first | decide | assumption | lia) only [Zac,X_k,Zo,Zx,Zdq,Zp,Zg,Zb,R_or,Zs,Zdx,ZcR,Zu,ZA,Zv,Z_ex,Za,c_eq,Zd,ZcS,Zh,ZaL,ZE,Zz,ZD,Zal,Zi,Ze,Zf,Zk,Zl,Zc,ZL,okB_,Zq,zc6,zc7,zc8,zc9,zc16,zc17,ZT,Zad,Zfk B,ZaQ,ZbH,Zbr,ZbR,ZbI,Zbs,Zbj,Zbk,Zbl,itemsOf,hk]
noncomputable def adjP:List (List UInt8)→Bool
 | []=>true
 | [_]=>true
 | a::b::l=>lexLe a b && adjP (b::l)
theorem ZeU (pre suf:List D) (u:D) {i:Int} (h:i=(pre.length:Nat)):index (.list (pre++u::suf)) (.int i) = .ok u:=by
 subst h
 rw [Zbt (by simp)]
 simp
theorem Zgs (pre suf:List D) (c u:D) {i:Int} (h:i=((pre.length+1:Nat):Int)):index (.list (pre++c::u::suf)) (.int i) = .ok u:=by
 have:=ZeU (pre ++ [c]) suf u (i:=i) (by simp;assumption)
 simpa using this
theorem ZmA (B:Base T) (s0 s1 s2 s3 s4 s5 s6 s7 s8 s9:Slot) (L:List D):∀(rest:List (List UInt8)) (a:List UInt8) (pre:List D),L=pre++(.bytes a::rest.map .bytes) →
  W T (r+1) ZaU ZbE [s0,s1,s2,s3,s4,s5,s6,s7,s8,s9,.val (.list L),.val (.int ((pre.length+1:Nat):Int))] =
   if adjP (a::rest)=true then .ok (.next,[s0,s1,s2,s3,s4,s5,s6,s7,s8,s9,.val (.list L),.val (.int (L.length:Nat))]) else .exc:=by
 intro rest
 induction rest with
 | nil=>
  intro a pre hL
  have e:L.length=pre.length+1:=by rw [hL];simp
  rw [V_eq]
  simp (disch:=first | decide | assumption | lia) only [ZaU,Zo,P_bi,Zg,Zb,Zs,Za,c_lt,Zay,Zd,Zep,Zi,Ze,Zf,Zc,zc2,adjP,e]
 | cons b rest ih=>
  intro a pre hL
  have hs:=ih b (pre ++ [.bytes a]) (by rw [hL];simp)
  have hlen:pre.length+1 < L.length:=by rw [hL];simp
  have e1:((pre.length+1:Nat):Int) - 1=(pre.length:Nat):=by simp
  have i0:index (.list L) (.int (pre.length:Nat)) = .ok (.bytes a):=by rw [hL];exact ZeU _ _ _ rfl
  have i1:index (.list L) (.int ((pre.length+1:Nat):Int)) = .ok (.bytes b):=by rw [hL];exact Zgs _ _ _ _ rfl
  have e2:(((pre ++ [D.bytes a]).length+1:Nat):Int)=((pre.length+1:Nat):Int)+1:=by simp
  rw [e2] at hs
  rw [V_eq]
  generalize W T (r+1) ZaU ZbE=w at hs ⊢
  rw [adjP]
  cases hle:lexLe a b with
  | true=>simp (disch:=first | decide | assumption | lia) only [ZaU,ZbE,X_k,Zo,ZC,ZO,Zx,P_bi,Zp,Zg,Zb,Zs,Zu,Zen,ZeJ,Z_ex,ZQ,Za,ZW,ZaR,c_lt,Zay,Zd,Zh,Zbw,ZD,ZdN,Zi,Ze,Zf,Zk,Zl,ZfP,ZeO,Zc,Zq,ZP,e1,i0,i1,c_leB,hle,ZB B,hs,Bool.true_and]
  | false=>simp (disch:=first | decide | assumption | lia) only [ZaU,ZbE,X_k,Zo,ZC,ZO,Zx,P_bi,Zp,Zg,Zb,Zs,ZeJ,Z_ex,Za,ZaR,c_lt,Zay,Zd,Zav,ZdN,Zi,Ze,Zf,ZfP,ZeO,Zc,ZL,Zq,zc13,e1,i0,i1,c_leB,hle,Zds B,Bool.false_and]
theorem Zoo (s0 s1 s2 s3 s4 s5 s6 s7 s8 s9:Slot):W T r ZaU ZbE [s0,s1,s2,s3,s4,s5,s6,s7,s8,s9,.val (.list []),.val (.int 1)] = .ok (.next,[s0,s1,s2,s3,s4,s5,s6,s7,s8,s9,.val (.list []),.val (.int 1)]):=by
 rw [V_eq]
 simp (disch:=first | decide | assumption | lia) only [ZaU,Zo,P_bi,Zg,Zb,Zs,Za,c_lt,Zay,Zd,Zep,Zi,Ze,Zf,Zc,List.length_nil]
theorem Zop (B:Base T) (s0 s1 s2 s3 s4 s5 s6 s7 s8 s9:Slot) (bs:List (List UInt8)):∃s11,
  W T (r+1) ZaU ZbE [s0,s1,s2,s3,s4,s5,s6,s7,s8,s9,.val (.list (bs.map .bytes)),.val (.int 1)] =
   if adjP bs=true then .ok (.next,[s0,s1,s2,s3,s4,s5,s6,s7,s8,s9,.val (.list (bs.map .bytes)),s11]) else .exc:=by
 cases bs with
 | nil=>exact ⟨_,Zoo ..⟩
 | cons b bs=>exact ⟨_,ZmA B s0 s1 s2 s3 s4 s5 s6 s7 s8 s9 _ bs b [] rfl⟩
theorem ZiC (B:Base T) (ps:List (D × List UInt8)) (h:∀p∈ps,CL T (r+19) 20 [p.1] = .ok (.bytes p.2)) (hl:ps.length≤900) (hc:(ps.map (·.2)).flatten.length < 65536) :
  CL T (r+20) 20 [.tuple [.str sSet,.list (ps.map (·.1))]]=if adjP (ps.map (·.2))=true then .ok (.bytes (tlv (oneB 49) (ps.map (·.2)).flatten)) else .exc:=by
 rw [ZF B.f20 rfl (by decide)]
 have hw:=ZI B (r:=r+10) (n:=(ps.map (·.2)).flatten.length) hc
 have hc1:=Zfl (c:=(ps.map (·.2)).flatten) 49 hc
 have hk:=fun s0 s1 s2 s3 s4 s5 s6 s7 s8 s9 s10 s11 s12 s13=>Zjf (T:=T) (r:=r+19) s0 s1 s2 s3 s4 s5 s6 s7 s8 s9 s10 s11 s12 s13 ps [] h (by simpa using (by exact Nat.le_trans (by assumption) (by decide):ps.length≤1000))
 have hj:=Zge (bs:=ps.map (·.2)) (by lia) (by simp;exact Nat.le_trans (by assumption) (by decide))
 simp only [List.nil_append] at hk
 obtain ⟨s11,hr⟩:=Zop B (r:=r+18) (.val (.tuple [.str sSet,.list (ps.map (·.1))])) (.val (.str sSet)) .un .un .un .un .un .un .un .un (ps.map (·.2))
 generalize (ps.map (·.2)).map D.bytes=M at *
 generalize (ps.map (·.2)).flatten=F at *
 generalize ps.map (·.1)=L at *
 cases ha:adjP (ps.map (·.2)) with
 | true=>
  rw [ha,if_pos rfl] at hr
  simp (disch:=first | decide | assumption | lia) only [Zac,X_k,Zo,ZC,Zx,Zak,P_bi,Zdq,Zp,Zg,Zb,R_or,Zs,Zdx,ZcR,Zu,ZG,ZA,Zv,Zcu,ZeJ,Z_ex,ZK,Za,c_eq,Zj,Zn,Zd,ZcS,Zr,Zh,ZE,Zz,ZD,Zal,Zaf,Zi,Ze,Zf,Zk,Zl,ZfP,ZeO,Zc,okB_,Zq,zc2,zc6,zc7,zc8,zc9,zc16,zc17,ZT,Zad,Zfk B,ZaQ,ZbH,Zbr,ZbR,ZbI,Zbs,Zbj,Zbk,Zbl,ZR B.g0,Zmu,Zbd,itemsOf,hk,hr,hj,hw,ZeD,hc1]
 | false=>
  rw [ha,if_neg (by decide)] at hr
  simp (disch:=first | decide | assumption | lia) only [Zac,X_k,Zo,Zx,Zdq,Zp,Zg,Zb,R_or,Zs,Zdx,ZcR,Zu,ZA,Zv,Zcu,Z_ex,Za,c_eq,Zd,ZcS,Zh,ZE,Zz,ZD,Zal,Zaf,Zi,Ze,Zf,Zk,Zl,Zc,ZL,okB_,Zq,zc6,zc7,zc8,zc9,zc13,zc16,zc17,ZT,Zad,Zfk B,ZaQ,ZbH,Zbr,ZbR,ZbI,Zbs,Zbj,Zbk,Zbl,itemsOf,hk,hr]
noncomputable def tagB (n:Nat):List UInt8:=if n < 31 then oneB (160+n) else 191::arcB n
theorem ZmB {n:Nat} (h:n < 128 ^ 100):(tagB n).length≤200:=by
 unfold tagB
 split
 ·simp [oneB]
 ·have h2:=Zbf 100 (n / 128) (Nat.lt_of_le_of_lt (Nat.div_le_self _ _) h)
  have h3:=ZbU n
  simp;lia
theorem Zoq (B:Base T) (n:Nat) (hn:n < 128 ^ 100) (x:D) (b:List UInt8) (h:CL T (r+19) 20 [x] = .ok (.bytes b)) (hc:b.length < 65536) :
  CL T (r+20) 20 [.tuple [.str sTagged,.int (n:Nat),x]] = .ok (.bytes (tlv (tagB n) b)):=by
 rw [ZF B.f20 rfl (by decide)]
 have hw:=ZI B (r:=r+10) (n:=b.length) hc
 have hl:=ZmB hn
 have hc1:=catC (t:=tagB n) (c:=b) (by exact Nat.le_trans (by assumption) (by decide)) hc
 have hc0:=catL (t:=tagB n) (n:=b.length) (by exact Nat.le_trans (by assumption) (by decide))
 by_cases h31:n < 31
 ·have e:tagB n=oneB (160+n):=by rw [tagB,if_pos h31]
  have e1:(160:Int)+(n:Nat)=((160+n:Nat):Int):=by rfl
  rw [e] at hc1 hc0 ⊢
  simp (disch:=first | decide | assumption | lia) only [Zac,X_k,Zo,ZC,ZO,Zx,Zak,P_bi,Zp,Zg,Zb,Zs,Zu,ZG,ZA,Zv,Z_ex,Za,ZW,c_eq,c_lt,c_ge,Zj,Zn,Zd,Zr,Zh,ZE,ZY,ZD,Zaf,Zi,Ze,Zf,Zk,Zl,Zc,okB_,Zq,zc6,zc7,zc8,zc9,zc16,zc17,Zeb,ZfA,Zgb,ZeT B,Zbe,ZH B,e1,Zbd,h,hw,hc0,hc1]
 ·have e:tagB n=191::arcB n:=by rw [tagB,if_neg h31]
  have ha:=ZdZ B (r:=r+18) (n:=n) (j:=99) hn (by exact Nat.le_add_left _ _)
  rw [e] at hc1 hc0 hl ⊢
  have hcc:binop .Add (.bytes [191]) (.bytes (arcB n)) = .ok (.bytes (191::arcB n)):=ZbS (by simp at hl ⊢;unfold SZ;lia)
  generalize 191::arcB n=tg at *
  simp (disch:=first | decide | assumption | lia) only [Zac,X_k,Zo,ZC,ZO,Zx,P_bi,Zp,Zg,Zb,Zs,Zu,ZG,ZA,Zv,Z_ex,Za,c_eq,c_lt,c_ge,Zj,Zn,Zd,Zr,Zh,ZE,Zy,ZD,Zi,Ze,Zf,Zk,Zl,Zc,okB_,Zq,zc6,zc7,zc8,zc9,zc16,zc17,Zeb,ZfA,Zgb,ZeT B,Zbe,ZH B,ha,hcc,h,hw,hc0,hc1]
end DK.Internal.B
end
section
set_option backward.match.sparseCases false
set_option genSizeOf false
set_option genCtorIdx false
namespace DK.Internal.B
open PySem
variable {T:Text} {r:Nat}
theorem Zag (t c:List UInt8):(tlv t c).length=t.length+(lenB c.length).length+c.length:=by simp [tlv];exact (Nat.add_assoc _ _ _).symm
structure Hd (T:Text) (r:Nat) (data:List UInt8) (p L n:Nat) (t:Nat) (c:List UInt8):Prop where
 lt:p < data.length
 ix:index (.bytes data) (.int (p:Nat)) = .ok (.int (t:Nat))
 rl:CL T (r+10) 4 [.bytes data,.int ((p:Nat)+1)] = .ok (.tuple [.int (n:Nat),.int (((p+1+L:Nat):Int))])
 sl:slice (.bytes data) (.int ((p+1+L:Nat):Int)) (.int (((p+1+L:Nat):Int)+(n:Nat))) = .ok (.bytes c)
theorem ZbK (B:Base T) {t:Nat} (ht:t < 256) (c pre suf:List UInt8) (hc:c.length < 65536):Hd T r (pre++(tlv (oneB t) c++suf)) pre.length (lenB c.length).length c.length t c:=by
 have e:pre++(tlv (oneB t) c++suf)=pre++UInt8.ofNat t::(lenB c.length++(c++suf)):=by simp [tlv,oneB]
 have e2:pre++(tlv (oneB t) c++suf)=(pre ++ [UInt8.ofNat t])++(lenB c.length++(c++suf)):=by simp [tlv,oneB]
 have e3:pre++(tlv (oneB t) c++suf)=(pre ++ [UInt8.ofNat t]++lenB c.length)++(c++suf):=by simp [tlv,oneB]
 refine ⟨by rw [e];simp,?_,?_,?_⟩
 ·rw [e,Zab _ _ _ rfl,ZX ht]
 ·rw [e2,Zdp B hc (pre ++ [UInt8.ofNat t]) (c++suf) (at':=(pre.length:Nat)+1) (by simp)]
  congr 4
 ·rw [ZaX _ (pre.length+1+(lenB c.length).length) c.length rfl (by rfl),e3,ZeB _ _ _ _ _ (by simp;exact Nat.add_right_comm _ _ _) rfl]
theorem ZmC (a:UInt8) (l:List UInt8):slice (.bytes (a::l)) (.int 1) .none = .ok (.bytes l):=by
 have e:clip (a::l).length 1=1:=ZfS (Nat.le_add_left 1 _)
 rw [Zkq,e]
 simp [cut]
theorem ZaA:isThing .none .none = .ok true:=rfl
theorem Zbm (s):isThing (.str s) .none = .ok false:=rfl
theorem Zhh (s):isThing (.int s) .none = .ok false:=rfl
theorem ZmD (B:Base T)  (pre suf:List UInt8) (dep:Int) (hc:([255]:List UInt8).length < 65536):CL T (r+20) 23 [.bytes (pre++(tlv (oneB 1) ([255]:List UInt8)++suf)),.int (pre.length:Nat),.int dep] =
  .ok (.tuple [.tuple [.str sBool,.bool true],.int ((pre.length+(tlv (oneB 1) ([255]:List UInt8)).length:Nat):Int)]):=by
 rw [ZF B.f23 rfl (by decide)]
 have H:=ZbK B (r:=r+9) (t:=1) (by decide) ([255]:List UInt8) pre suf hc
 have e9:(((pre.length+1+(lenB ([255]:List UInt8).length).length:Nat):Int)+(([255]:List UInt8).length:Nat))=((pre.length+(tlv (oneB 1) ([255]:List UInt8)).length:Nat):Int):=by rw [Zag,ZU];rfl
 have e10:=H.lt
 have hg:([255]:List UInt8).length=1:=rfl
 generalize pre++(tlv (oneB 1) ([255]:List UInt8)++suf)=data at *
 simp (disch:=first | decide | assumption | lia) only [Zai,X_k,Zo,ZC,P_or,ZO,Zx,ZaF,ZZ,P_bi,ZbM,Zp,Zg,Zb,Zao,Zs,Zu,ZG,ZA,Zv,Z_ex,Za,ZW,c_eq,c_lt,c_le,Zj,Zn,Zt,Zcn,Zd,Zae,Zr,Zh,ZE,Zz,Zy,ZD,Zfh,Zan,Zaa,Zi,Ze,Zf,Zk,Zl,Zc,okB_,ZaK,Zq,zc4,zc5,zc6,zc7,zc8,zc9,zc10,zc16,zc17,ZT,Zad,ZH B,ZB B,H.ix,H.rl,H.sl,Zaw,ZaA,Zbm,ZR B.g1,ZhS,ZaY,show decide (([255]:List UInt8) = [0])=false from rfl]
 rw [e9]
theorem ZkX (B:Base T)  (pre suf:List UInt8) (dep:Int) (hc:([0]:List UInt8).length < 65536):CL T (r+20) 23 [.bytes (pre++(tlv (oneB 1) ([0]:List UInt8)++suf)),.int (pre.length:Nat),.int dep] =
  .ok (.tuple [.tuple [.str sBool,.bool false],.int ((pre.length+(tlv (oneB 1) ([0]:List UInt8)).length:Nat):Int)]):=by
 rw [ZF B.f23 rfl (by decide)]
 have H:=ZbK B (r:=r+9) (t:=1) (by decide) ([0]:List UInt8) pre suf hc
 have e9:(((pre.length+1+(lenB ([0]:List UInt8).length).length:Nat):Int)+(([0]:List UInt8).length:Nat))=((pre.length+(tlv (oneB 1) ([0]:List UInt8)).length:Nat):Int):=by rw [Zag,ZU];rfl
 have e10:=H.lt
 generalize pre++(tlv (oneB 1) ([0]:List UInt8)++suf)=data at *
 simp (disch:=first | decide | assumption | lia) only [Zai,X_k,Zo,ZC,P_or,ZO,Zx,ZaF,ZZ,P_bi,ZbM,Zp,Zg,Zb,Zao,Zs,Zu,ZG,ZA,Zv,Z_ex,Za,ZW,c_eq,c_lt,c_le,Zj,Zn,Zt,Zcn,Zd,Zae,Zr,Zh,ZE,Zz,Zy,ZD,orO_t,Zan,Zaa,Zi,Ze,Zf,Zk,Zl,Zc,okB_,ZaK,Zq,zc4,zc5,zc6,zc7,zc8,zc9,zc10,zc16,zc17,ZT,Zad,ZH B,ZB B,H.ix,H.rl,H.sl,Zaw,ZaA,Zbm,ZR B.g1,ZhS,ZaY,show decide (([0]:List UInt8) = [255])=false from rfl]
 rw [e9]
theorem ZkY (B:Base T) (n:Int) (pre suf:List UInt8) (dep:Int) (hc:(intB n).length < 65536) (hl:(intB n).length≤1000):CL T (r+20) 23 [.bytes (pre++(tlv (oneB 2) (intB n)++suf)),.int (pre.length:Nat),.int dep] =
  .ok (.tuple [.tuple [.str sInt,.int n],.int ((pre.length+(tlv (oneB 2) (intB n)).length:Nat):Int)]):=by
 rw [ZF B.f23 rfl (by decide)]
 have H:=ZbK B (r:=r+9) (t:=2) (by decide) (intB n) pre suf hc
 have e9:(((pre.length+1+(lenB (intB n).length).length:Nat):Int)+((intB n).length:Nat))=((pre.length+(tlv (oneB 2) (intB n)).length:Nat):Int):=by rw [Zag,ZU];lia
 have e10:=H.lt
 have hi:=ZfZ B (r:=r+12) n hl
 generalize pre++(tlv (oneB 2) (intB n)++suf)=data at *
 simp (disch:=first | decide | assumption | lia) only [Zai,X_k,Zo,ZC,ZO,Zx,ZaF,ZZ,P_bi,ZbM,Zp,Zg,Zb,Zao,R_or,Zs,Zu,ZG,ZA,Zv,Z_ex,Za,ZW,c_eq,c_lt,c_le,Zj,Zn,Zt,Zd,Zae,Zr,Zh,ZE,Zz,Zy,ZD,Zan,ZfK,Zaa,Zi,Ze,Zf,Zk,Zl,Zc,okB_,ZaK,Zq,zc4,zc5,zc6,zc7,zc8,zc9,zc10,zc16,zc17,ZT,Zad,ZH B,ZB B,H.ix,H.rl,H.sl,Zaw,ZaA,Zbm,ZR B.g1,Zmr,Zcv,ZdU,hi]
 rw [e9]
theorem ZmE (B:Base T) (n:Int) (pre suf:List UInt8) (dep:Int) (hc:(intB n).length < 65536) (hl:(intB n).length≤1000):CL T (r+20) 23 [.bytes (pre++(tlv (oneB 10) (intB n)++suf)),.int (pre.length:Nat),.int dep] =
  .ok (.tuple [.tuple [.str sEnum,.int n],.int ((pre.length+(tlv (oneB 10) (intB n)).length:Nat):Int)]):=by
 rw [ZF B.f23 rfl (by decide)]
 have H:=ZbK B (r:=r+9) (t:=10) (by decide) (intB n) pre suf hc
 have e9:(((pre.length+1+(lenB (intB n).length).length:Nat):Int)+((intB n).length:Nat))=((pre.length+(tlv (oneB 10) (intB n)).length:Nat):Int):=by rw [Zag,ZU];lia
 have e10:=H.lt
 have hi:=ZfZ B (r:=r+12) n hl
 generalize pre++(tlv (oneB 10) (intB n)++suf)=data at *
 simp (disch:=first | decide | assumption | lia) only [Zai,X_k,Zo,ZC,ZO,Zx,ZaF,ZZ,P_bi,ZbM,Zp,Zg,Zb,Zao,R_or,Zs,Zu,ZG,ZA,Zv,Z_ex,Za,ZW,c_eq,c_lt,c_le,Zj,Zn,Zt,Zd,Zae,Zr,Zh,ZE,Zz,Zy,ZD,Zan,Zal,Zaa,Zi,Ze,Zf,Zk,Zl,Zc,okB_,ZaK,Zq,zc4,zc5,zc6,zc7,zc8,zc9,zc10,zc16,zc17,ZT,Zad,ZH B,ZB B,H.ix,H.rl,H.sl,Zaw,ZaA,Zbm,ZR B.g1,ZkO,Zch,ZdA,Zdg,hi]
 rw [e9]
theorem ZkZ (B:Base T) (b:List UInt8) (pre suf:List UInt8) (dep:Int) (hc:(b).length < 65536):CL T (r+20) 23 [.bytes (pre++(tlv (oneB 4) (b)++suf)),.int (pre.length:Nat),.int dep] =
  .ok (.tuple [.tuple [.str sBytes,.bytes b],.int ((pre.length+(tlv (oneB 4) (b)).length:Nat):Int)]):=by
 rw [ZF B.f23 rfl (by decide)]
 have H:=ZbK B (r:=r+9) (t:=4) (by decide) (b) pre suf hc
 have e9:(((pre.length+1+(lenB (b).length).length:Nat):Int)+((b).length:Nat))=((pre.length+(tlv (oneB 4) (b)).length:Nat):Int):=by rw [Zag,ZU];ac_rfl
 have e10:=H.lt
 generalize pre++(tlv (oneB 4) (b)++suf)=data at *
 simp (disch:=first | decide | assumption | lia) only [Zai,X_k,Zo,ZC,ZO,Zx,ZaF,ZZ,P_bi,ZbM,Zp,Zg,Zb,Zao,R_or,Zs,Zu,ZG,ZA,Zv,Z_ex,Za,ZW,c_eq,c_lt,c_le,Zj,Zn,Zt,Zd,Zae,Zr,Zh,Zz,Zy,ZD,Zan,Zal,Zaa,Zi,Ze,Zf,Zk,Zl,Zc,okB_,ZaK,Zq,zc4,zc5,zc6,zc7,zc8,zc9,zc10,zc16,zc17,ZT,Zad,ZH B,ZB B,H.ix,H.rl,H.sl,Zaw,ZaA,Zbm,ZR B.g1,ZjF,ZbN,Zdb,ZcC,ZcD,Zdc,ZcE,Zce,Zcf]
 rw [e9]
theorem ZmF (B:Base T) (b:List UInt8) (pre suf:List UInt8) (dep:Int) (hc:(b).length < 65536):CL T (r+20) 23 [.bytes (pre++(tlv (oneB 12) (b)++suf)),.int (pre.length:Nat),.int dep] =
  .ok (.tuple [.tuple [.str sUtf8,.bytes b],.int ((pre.length+(tlv (oneB 12) (b)).length:Nat):Int)]):=by
 rw [ZF B.f23 rfl (by decide)]
 have H:=ZbK B (r:=r+9) (t:=12) (by decide) (b) pre suf hc
 have e9:(((pre.length+1+(lenB (b).length).length:Nat):Int)+((b).length:Nat))=((pre.length+(tlv (oneB 12) (b)).length:Nat):Int):=by rw [Zag,ZU];ac_rfl
 have e10:=H.lt
 generalize pre++(tlv (oneB 12) (b)++suf)=data at *
 simp (disch:=first | decide | assumption | lia) only [Zai,X_k,Zo,ZC,ZO,Zx,ZaF,ZZ,P_bi,ZbM,Zp,Zg,Zb,Zao,R_or,Zs,Zu,ZG,ZA,Zv,Z_ex,Za,ZW,c_eq,c_lt,c_le,Zj,Zn,Zt,Zd,Zae,Zr,Zh,Zz,Zy,ZD,Zan,Zal,Zaa,Zi,Ze,Zf,Zk,Zl,Zc,okB_,ZaK,Zq,zc4,zc5,zc6,zc7,zc8,zc9,zc10,zc16,zc17,ZT,Zad,ZH B,ZB B,H.ix,H.rl,H.sl,Zaw,ZaA,Zbm,ZR B.g1,ZkQ,Zci,ZdB,Zdh,Zdi,ZdC,Zdj,Zcw,Zcx]
 rw [e9]
theorem Zla (B:Base T) (b:List UInt8) (pre suf:List UInt8) (dep:Int) (hc:(b).length < 65536):CL T (r+20) 23 [.bytes (pre++(tlv (oneB 19) (b)++suf)),.int (pre.length:Nat),.int dep] =
  .ok (.tuple [.tuple [.str sPrint,.bytes b],.int ((pre.length+(tlv (oneB 19) (b)).length:Nat):Int)]):=by
 rw [ZF B.f23 rfl (by decide)]
 have H:=ZbK B (r:=r+9) (t:=19) (by decide) (b) pre suf hc
 have e9:(((pre.length+1+(lenB (b).length).length:Nat):Int)+((b).length:Nat))=((pre.length+(tlv (oneB 19) (b)).length:Nat):Int):=by rw [Zag,ZU];ac_rfl
 have e10:=H.lt
 generalize pre++(tlv (oneB 19) (b)++suf)=data at *
 simp (disch:=first | decide | assumption | lia) only [Zai,X_k,Zo,ZC,ZO,Zx,ZaF,ZZ,P_bi,ZbM,Zp,Zg,Zb,Zao,R_or,Zs,Zu,ZG,ZA,Zv,Z_ex,Za,ZW,c_eq,c_lt,c_le,Zj,Zn,Zt,Zd,Zae,Zr,Zh,Zz,Zy,ZD,Zan,Zal,Zaa,Zi,Ze,Zf,Zk,Zl,Zc,okB_,ZaK,Zq,zc4,zc5,zc6,zc7,zc8,zc9,zc10,zc16,zc17,ZT,Zad,ZH B,ZB B,H.ix,H.rl,H.sl,Zaw,ZaA,Zbm,ZR B.g1,ZjH,ZbO,Zdk,ZcF,ZcG,Zdl,ZcH,Zcj,Zck]
 rw [e9]
theorem ZmG (B:Base T) (b:List UInt8) (pre suf:List UInt8) (dep:Int) (hc:(b).length < 65536):CL T (r+20) 23 [.bytes (pre++(tlv (oneB 24) (b)++suf)),.int (pre.length:Nat),.int dep] =
  .ok (.tuple [.tuple [.str sTime,.bytes b],.int ((pre.length+(tlv (oneB 24) (b)).length:Nat):Int)]):=by
 rw [ZF B.f23 rfl (by decide)]
 have H:=ZbK B (r:=r+9) (t:=24) (by decide) (b) pre suf hc
 have e9:(((pre.length+1+(lenB (b).length).length:Nat):Int)+((b).length:Nat))=((pre.length+(tlv (oneB 24) (b)).length:Nat):Int):=by rw [Zag,ZU];ac_rfl
 have e10:=H.lt
 generalize pre++(tlv (oneB 24) (b)++suf)=data at *
 simp (disch:=first | decide | assumption | lia) only [Zai,X_k,Zo,ZC,ZO,Zx,ZaF,ZZ,P_bi,ZbM,Zp,Zg,Zb,Zao,R_or,Zs,Zu,ZG,ZA,Zv,Z_ex,Za,ZW,c_eq,c_lt,c_le,Zj,Zn,Zt,Zd,Zae,Zr,Zh,Zz,Zy,ZD,Zan,Zal,Zaa,Zi,Ze,Zf,Zk,Zl,Zc,okB_,ZaK,Zq,zc4,zc5,zc6,zc7,zc8,zc9,zc10,zc16,zc17,ZT,Zad,ZH B,ZB B,H.ix,H.rl,H.sl,Zaw,ZaA,Zbm,ZR B.g1,ZkS,Zcl,ZdD,Zdm,Zdn,ZdE,Zdo,Zcy,Zcz]
 rw [e9]
theorem ZmH (B:Base T)  (pre suf:List UInt8) (dep:Int) (hc:([]:List UInt8).length < 65536):CL T (r+20) 23 [.bytes (pre++(tlv (oneB 5) ([]:List UInt8)++suf)),.int (pre.length:Nat),.int dep] =
  .ok (.tuple [.tuple [.str sNull],.int ((pre.length+(tlv (oneB 5) ([]:List UInt8)).length:Nat):Int)]):=by
 rw [ZF B.f23 rfl (by decide)]
 have H:=ZbK B (r:=r+9) (t:=5) (by decide) ([]:List UInt8) pre suf hc
 have e9:(((pre.length+1+(lenB ([]:List UInt8).length).length:Nat):Int)+(([]:List UInt8).length:Nat))=((pre.length+(tlv (oneB 5) ([]:List UInt8)).length:Nat):Int):=by rw [Zag,ZU];rfl
 have e10:=H.lt
 have hn0:(([]:List UInt8).length:Int)=0:=rfl
 generalize pre++(tlv (oneB 5) ([]:List UInt8)++suf)=data at *
 simp (disch:=first | decide | assumption | lia) only [Zai,X_k,Zo,ZC,ZO,Zx,ZaF,ZZ,P_bi,ZbM,Zp,Zg,Zb,Zao,R_or,Zs,Zu,ZG,ZA,Zv,Z_ex,Za,ZW,c_eq,c_lt,c_le,Zj,Zn,Zt,Zd,Zae,Zr,Zh,ZE,Zz,Zy,ZD,Zan,Zal,Zaa,Zi,Ze,Zf,Zk,Zl,Zc,okB_,ZaK,Zq,zc4,zc5,zc6,zc7,zc8,zc9,zc10,zc16,zc17,ZT,Zad,ZH B,ZB B,H.ix,H.rl,H.sl,Zaw,ZaA,Zbm,ZR B.g1,ZkM,Zcg,Zdz,Zdd,Zde,Zdf]
 rw [e9]
theorem ZmI (B:Base T) (u:Nat) (b:List UInt8) (hu:u < 256) (pre suf:List UInt8) (dep:Int) (hc:(oneB u++b).length < 65536):CL T (r+20) 23 [.bytes (pre++(tlv (oneB 3) (oneB u++b)++suf)),.int (pre.length:Nat),.int dep] =
  .ok (.tuple [.tuple [.str sBits,.int (u:Nat),.bytes b],.int ((pre.length+(tlv (oneB 3) (oneB u++b)).length:Nat):Int)]):=by
 rw [ZF B.f23 rfl (by decide)]
 have H:=ZbK B (r:=r+9) (t:=3) (by decide) (oneB u++b) pre suf hc
 have e9:(((pre.length+1+(lenB (oneB u++b).length).length:Nat):Int)+((oneB u++b).length:Nat))=((pre.length+(tlv (oneB 3) (oneB u++b)).length:Nat):Int):=by rw [Zag,ZU];lia
 have e10:=H.lt
 have i0:index (.bytes (oneB u++b)) (.int 0) = .ok (.int (u:Nat)):=by rw [show oneB u++b=UInt8.ofNat u::b from rfl,ZcL,ZX hu]
 have sl1:slice (.bytes (oneB u++b)) (.int 1) .none = .ok (.bytes b):=ZmC _ b
 have hp:0 < (oneB u++b).length:=by simp [oneB]
 generalize pre++(tlv (oneB 3) (oneB u++b)++suf)=data at *
 simp (disch:=first | decide | assumption | lia) only [Zai,X_k,Zo,ZC,ZO,Zx,ZaF,ZZ,P_bi,ZbM,Zp,Zg,Zb,Zao,R_or,Zs,Zu,ZG,ZA,Zv,Z_ex,Za,ZW,c_eq,c_lt,c_le,c_gt,Zj,Zn,Zt,Zd,Zae,Zr,Zh,ZE,Zz,Zy,ZD,Zan,Zal,Zaa,Zi,Ze,Zf,Zk,Zl,Zc,okB_,ZaK,Zq,zc4,zc5,zc6,zc7,zc8,zc9,zc10,zc16,zc17,ZT,Zad,ZH B,ZB B,H.ix,H.rl,H.sl,Zaw,ZaA,Zbm,ZR B.g1,ZkL,Zar,ZaM,ZaB,ZaC,i0,sl1]
 rw [e9]
theorem Zor (B:Base T) (a0:Nat) (as:List Nat) (pre suf:List UInt8) (dep:Int) (hc:(arcsB (a0::as)).length < 65536) (hb:∀a∈a0::as,a < 128 ^ 100) (hl:as.length≤900):CL T (r+20) 23 [.bytes (pre++(tlv (oneB 6) (arcsB (a0::as))++suf)),.int (pre.length:Nat),.int dep] =
  .ok (.tuple [.tuple [.str sOid,.list (.int (min (a0 / 40) 2:Nat)::.int ((a0 - 40*min (a0 / 40) 2:Nat):Int)::as.map nD)],.int ((pre.length+(tlv (oneB 6) (arcsB (a0::as))).length:Nat):Int)]):=by
 rw [ZF B.f23 rfl (by decide)]
 have H:=ZbK B (r:=r+9) (t:=6) (by decide) (arcsB (a0::as)) pre suf hc
 have e9:(((pre.length+1+(lenB (arcsB (a0::as)).length).length:Nat):Int)+((arcsB (a0::as)).length:Nat))=((pre.length+(tlv (oneB 6) (arcsB (a0::as))).length:Nat):Int):=by rw [Zag,ZU];lia
 have e10:=H.lt
 have hi:=Zit B (r:=r+17) a0 as hb hl
 generalize pre++(tlv (oneB 6) (arcsB (a0::as))++suf)=data at *
 simp (disch:=first | decide | assumption | lia) only [Zai,X_k,Zo,ZC,ZO,Zx,ZaF,ZZ,P_bi,ZbM,Zp,Zg,Zb,Zao,R_or,Zs,Zu,ZG,ZA,Zv,Z_ex,Za,ZW,c_eq,c_lt,c_le,Zj,Zn,Zt,Zd,Zae,Zr,Zh,ZE,Zz,Zy,ZD,Zan,Zal,Zaa,Zi,Ze,Zf,Zk,Zl,Zc,okB_,ZaK,Zq,zc4,zc5,zc6,zc7,zc8,zc9,zc10,zc16,zc17,ZT,Zad,ZH B,ZB B,H.ix,H.rl,H.sl,Zaw,ZaA,Zbm,ZR B.g1,Zjb,Zax,Zbg,ZaN,Zbo,Zbh,ZaO,hi]
 rw [e9]
theorem Zgf (B:Base T) (c:List UInt8) (u:UInt8) (hu:128≤u.toNat) (pre suf:List UInt8) (dep:Int) (hc:(c ++ [u]).length < 65536):CL T (r+20) 23 [.bytes (pre++(tlv (oneB 6) (c ++ [u])++suf)),.int (pre.length:Nat),.int dep] = .exc:=by
 rw [ZF B.f23 rfl (by decide)]
 have H:=ZbK B (r:=r+9) (t:=6) (by decide) (c ++ [u]) pre suf hc
 have e10:=H.lt
 have hi:=ZhR B (r:=r+17) c u hu
 generalize pre++(tlv (oneB 6) (c ++ [u])++suf)=data at *
 generalize c ++ [u]=C at *
 simp (disch:=first | decide | assumption | lia) only [Zai,X_k,Zo,ZC,ZO,Zx,ZaF,ZZ,P_bi,ZbM,Zp,Zg,Zb,Zao,R_or,Zs,Zu,ZA,Zv,Z_ex,Za,ZW,c_eq,c_lt,c_le,Zj,Zt,Zd,ZfF,ZfC,Zae,Zh,ZaL,ZE,Zz,Zy,ZD,Zan,Zal,Zi,Ze,Zf,Zk,Zl,Zc,ZL,okB_,ZaK,Zq,zc4,zc5,zc6,zc7,zc8,zc9,zc10,zc16,zc17,ZT,Zad,ZH B,ZB B,H.ix,H.rl,H.sl,Zaw,ZaA,Zbm,ZR B.g1,Zjb,Zax,Zbg,ZaN,Zbo,Zbh,ZaO,hi]
end DK.Internal.B
end
section
set_option backward.match.sparseCases false
set_option genSizeOf false
set_option genCtorIdx false
namespace DK.Internal.B
open PySem
variable {T:Text} {r:Nat}
structure Dc (T:Text) (d:D) (b:List UInt8) (k:Nat):Prop where
 dec:∀r pre suf (dep:Nat),k≤dep→CL T (r+20+2*k) 23 [.bytes (pre++(b++suf)),.int (pre.length:Nat),.int (dep:Nat)] = .ok (.tuple [d,.int ((pre.length+b.length:Nat):Int)])
 low:∀r pre suf (dep:Nat),dep < k→CL T (r+20+2*k) 23 [.bytes (pre++(b++suf)),.int (pre.length:Nat),.int (dep:Nat)] = .exc
 pos:0 < b.length
theorem Dc.up {d b k} (h:Dc T d b k) {K:Nat} (hk:k≤K) (r pre suf) (dep:Nat) (hd:k≤dep):CL T (r+20+2*K) 23 [.bytes (pre++(b++suf)),.int (pre.length:Nat),.int (dep:Nat)] = .ok (.tuple [d,.int ((pre.length+b.length:Nat):Int)]):=by
 rw [show r+20+2*K=(r+2*(K - k))+20+2*k by lia];exact h.dec _ _ _ _ hd
theorem Dc.upLow {d b k} (h:Dc T d b k) {K:Nat} (hk:k≤K) (r pre suf) (dep:Nat) (hd:dep < k):CL T (r+20+2*K) 23 [.bytes (pre++(b++suf)),.int (pre.length:Nat),.int (dep:Nat)] = .exc:=by
 rw [show r+20+2*K=(r+2*(K - k))+20+2*k by lia];exact h.low _ _ _ _ hd
structure Ni where
 d:D
 b:List UInt8
 k:Nat
noncomputable def flatB (ps:List Ni):List UInt8:=(ps.map (·.b)).flatten
theorem Zei (p:Ni) (ps):flatB (p::ps)=p.b++flatB ps:=by simp [flatB]
theorem Zia (B:Base T) (data suf:List UInt8) (dep K:Nat):∀(ps:List Ni) (pre:List UInt8) (acc:List D) (s4:Slot),data=pre++(flatB ps++suf) →
  (∀p∈ps,Dc T p.d p.b p.k∧p.k≤K∧p.k≤dep)→acc.length+ps.length≤1000 →
  ∃s4',W T (r+20+2*K) Zbv ZbL [.val (.bytes data),.val (.int ((dep+1:Nat):Int)),.own acc,.val (.int (pre.length:Nat)),s4] =
   W T (r+20+2*K) Zbv ZbL [.val (.bytes data),.val (.int ((dep+1:Nat):Int)),.own (acc++ps.map (·.d)),.val (.int ((pre++flatB ps).length:Nat)),s4']:=by
 intro ps
 induction ps with
 | nil=>intro pre acc s4 hd h hl;exact ⟨s4,by simp [flatB]⟩
 | cons p ps ih=>
  intro pre acc s4 hd h hl
  obtain ⟨h1,h2,h3⟩:=h p (List.mem_cons_self ..)
  obtain ⟨s4',hs⟩:=ih (pre++p.b) (acc ++ [p.d]) (.val (.tuple [p.d,.int ((pre.length+p.b.length:Nat):Int)])) (by rw [hd,Zei];simp) (fun q hq=>h q (List.mem_cons_of_mem _ hq)) (by simp at hl ⊢;lia)
  refine ⟨s4',?_⟩
  rw [show pre++flatB (p::ps)=pre++p.b++flatB ps by rw [Zei];simp,show acc++(p::ps).map (·.d)=acc ++ [p.d]++ps.map (·.d) by simp,←hs]
  conv=>lhs;rw [V_eq]
  have hdec:=h1.up h2 r pre (flatB ps++suf) dep h3
  rw [show pre++(p.b++(flatB ps++suf))=data by rw [hd,Zei];simp] at hdec
  have hlt:pre.length < data.length:=by have:=h1.pos;rw [hd,Zei];simp;lia
  have e:((dep+1:Nat):Int) - 1=(dep:Nat):=by simp
  have hal:acc.length < 1000000:=by simp at hl;lia
  have el:((pre++p.b).length:Int)=((pre.length+p.b.length:Nat):Int):=by simp
  rw [el]
  generalize W T (r+20+2*K) Zbv ZbL=w
  simp (disch:=first | decide | assumption | lia) only [Zbv,ZbL,X_k,Zo,ZC,Zx,P_bi,Zp,Zg,Zb,Zs,Zu,ZA,Zhz,ZQ,Za,ZaR,c_lt,Zj,Zd,Zh,ZdT,ZdN,Zi,Ze,Zf,Zk,Zl,ZcI,ZcJ,Zc,Zq,ZP,e,hdec,ZT,Zad]
theorem ZmJ (data:List UInt8) (dep:D) (acc:List D) (s4:Slot):W T r Zbv ZbL [.val (.bytes data),.val dep,.own acc,.val (.int (data.length:Nat)),s4] = .ok (.next,[.val (.bytes data),.val dep,.own acc,.val (.int (data.length:Nat)),s4]):=by
 rw [V_eq]
 simp (disch:=first | decide | assumption | lia) only [Zbv,Zo,P_bi,Zg,Zb,Zs,Za,c_lt,Zj,Zd,Zep,Zi,Ze,Zf,Zc]
theorem ZiD (B:Base T) (ps:List Ni) (dep K:Nat) (h:∀p∈ps,Dc T p.d p.b p.k∧p.k≤K∧p.k≤dep) (hl:ps.length≤900) :
  CL T (r+21+2*K) 21 [.bytes (flatB ps),.int ((dep+1:Nat):Int)] = .ok (.list (ps.map (·.d))):=by
 rw [show r+21+2*K=r+20+2*K+1 by lia,ZF B.f21 rfl (by decide)]
 obtain ⟨s4,hs⟩:=Zia B (r:=r) (flatB ps) [] dep K ps [] [] .un (by simp) h (by simp;exact Nat.le_trans (by assumption) (by decide))
 rw [List.nil_append,List.nil_append,ZmJ] at hs
 simp only [List.length_nil,show ((0:Nat):Int)=0 from rfl] at hs
 rw [show r+20+2*K=r+19+2*K+1 by lia] at hs ⊢
 simp (disch:=first | decide | assumption | lia) only [Zhu,X_k,Zo,ZO,Zak,Zp,Zg,Zb,ZG,ZA,Zgr,Zcu,ZeJ,Z_ex,ZK,c_gt,Zn,Zd,Zr,Zh,ZcY,ZD,Zaf,Zi,Ze,Zf,Zk,Zl,ZeN,ZeO,Zc,Zq,zc6,zc7,zc8,zc9,zc16,zc17,ZH B,hs]
theorem Zlb (B:Base T) (c:List UInt8):CL T (r+2) 21 [.bytes c,.int ((0:Nat):Int)] = .exc:=by
 rw [ZF B.f21 rfl (by decide)]
 simp (disch:=first | decide | assumption | lia) only [Zhu,X_k,Zo,ZO,Zp,Zg,Zb,Z_ex,c_gt,Zd,Zav,Zi,Ze,Zf,Zc,ZL,Zq,zc6,zc7,zc8,zc9,zc16,zc17,ZcK B]
theorem Zjg (B:Base T) (ps:List Ni) (xb suf:List UInt8) (dep K:Nat) (h:∀p∈ps,Dc T p.d p.b p.k∧p.k≤K∧p.k≤dep) (hl:ps.length≤900) (hx0:0 < xb.length)
  (hx:∀pre suf,CL T (r+20+2*K) 23 [.bytes (pre++(xb++suf)),.int (pre.length:Nat),.int (dep:Nat)] = .exc) :
  CL T (r+21+2*K) 21 [.bytes (flatB ps++(xb++suf)),.int ((dep+1:Nat):Int)] = .exc:=by
 rw [show r+21+2*K=r+20+2*K+1 by lia,ZF B.f21 rfl (by decide)]
 obtain ⟨s4,hs⟩:=Zia B (r:=r) (flatB ps++(xb++suf)) (xb++suf) dep K ps [] [] .un (by simp) h (by simp;exact Nat.le_trans (by assumption) (by decide))
 have hx1:=hx (flatB ps) suf
 have hlt:(flatB ps).length < (flatB ps++(xb++suf)).length:=by simp;lia
 have e:((dep+1:Nat):Int) - 1=(dep:Nat):=by simp
 have hend:W T (r+20+2*K) Zbv ZbL [.val (.bytes (flatB ps++(xb++suf))),.val (.int ((dep+1:Nat):Int)),.own ([]++ps.map (·.d)),.val (.int (([]++flatB ps).length:Nat)),s4] = .exc:=by
  rw [V_eq]
  rw [List.nil_append,List.nil_append]
  generalize flatB ps++(xb++suf)=data at *
  simp (disch:=first | decide | assumption | lia) only [Zbv,ZbL,X_k,Zo,ZC,P_bi,Zp,Zg,Zb,Zs,ZA,Za,ZaR,c_lt,Zj,Zd,ZaL,ZdN,Zi,Ze,Zf,Zc,ZL,Zq,e,hx1]
 rw [hend] at hs
 simp only [List.length_nil,show ((0:Nat):Int)=0 from rfl] at hs
 generalize flatB ps++(xb++suf)=data at *
 rw [show r+20+2*K=r+19+2*K+1 by lia] at hs ⊢
 simp (disch:=first | decide | assumption | lia) only [Zhu,X_k,Zo,ZO,Zak,Zp,Zg,Zb,ZA,Zgr,Zcu,Z_ex,c_gt,Zd,Zh,ZcY,ZD,Zaf,Zi,Ze,Zf,Zk,Zl,Zc,ZL,Zq,zc6,zc7,zc8,zc9,zc16,zc17,ZH B,hs]
theorem ZjL (dep:Nat):∀(ps:List Ni),(∃p∈ps,dep < p.k)→∃qs x rs,ps=qs++x::rs∧(∀q∈qs,q.k≤dep)∧dep < x.k:=by
 intro ps
 induction ps with
 | nil=>intro ⟨p,hp,_⟩;cases hp
 | cons p ps ih=>
  intro ⟨q,hq,hk⟩
  by_cases h:dep < p.k
  ·exact ⟨[],p,ps,rfl,by simp,h⟩
  ·rcases List.mem_cons.mp hq with e | hq
   ·subst e;exact absurd hk h
   ·obtain ⟨qs,x,rs,e,h1,h2⟩:=ih ⟨q,hq,hk⟩
    refine ⟨p::qs,x,rs,by rw [e];rfl,?_,h2⟩
    intro y hy
    rcases List.mem_cons.mp hy with e | hy
    ·subst e;exact Nat.not_lt.mp (by assumption)
    ·exact h1 y hy
theorem Zhi (B:Base T) (ps:List Ni) (dep K:Nat) (h:∀p∈ps,Dc T p.d p.b p.k∧p.k≤K) (hl:ps.length≤900) (hx:dep=0∨∃p∈ps,dep - 1 < p.k) :
  CL T (r+21+2*K) 21 [.bytes (flatB ps),.int (dep:Nat)] = .exc:=by
 by_cases h0:dep=0
 ·subst h0
  rw [show r+21+2*K=r+19+2*K+2 by lia]
  exact Zlb B _
 ·have hx:=hx.resolve_left h0
  obtain ⟨qs,x,rs,e,h1,h2⟩:=ZjL (dep - 1) ps hx
  have hxx:=h x (by rw [e];simp)
  have:=Zjg B (r:=r) qs x.b (flatB rs) (dep - 1) K (fun q hq=>⟨(h q (by rw [e];simp [hq])).1,(h q (by rw [e];simp [hq])).2,h1 q hq⟩) (by rw [e] at hl;simp at hl;lia) hxx.1.pos
   (fun pre suf=>hxx.1.upLow hxx.2 r pre suf (dep - 1) h2)
  rw [show dep - 1+1=dep by lia] at this
  rw [e,show flatB (qs++x::rs)=flatB qs++(x.b++flatB rs) by simp [flatB]]
  exact this
end DK.Internal.B
end
section
set_option backward.match.sparseCases false
set_option genSizeOf false
set_option genCtorIdx false
namespace DK.Internal.B
open PySem
variable {T:Text} {r:Nat}
theorem Zlc (B:Base T) (ps:List Ni) (K:Nat) (h:∀p∈ps,Dc T p.d p.b p.k∧p.k≤K) (hmax:K=0∨∃p∈ps,p.k=K) (hl:ps.length≤900) (hc:(flatB ps).length < 65536) :
  Dc T (.tuple [.str sSeq,.list (ps.map (·.d))]) (tlv (oneB 48) (flatB ps)) (K+1):=by
 refine ⟨?_,?_,by rw [Zag,ZU];lia⟩
 ·intro r pre suf dep hd
  rw [show r+20+2*(K+1)=r+21+2*K+1 by lia,ZF B.f23 rfl (by decide)]
  have H:=ZbK B (r:=r+11+2*K) (t:=48) (by decide) (flatB ps) pre suf hc
  have hk:=ZiD B (r:=r) ps (dep - 1) K (fun p hp=>⟨(h p hp).1,(h p hp).2,by have:=(h p hp).2;lia⟩) hl
  rw [show dep - 1+1=dep by lia] at hk
  have e9:(((pre.length+1+(lenB (flatB ps).length).length:Nat):Int)+((flatB ps).length:Nat))=((pre.length+(tlv (oneB 48) (flatB ps)).length:Nat):Int):=by rw [Zag,ZU];lia
  have e10:=H.lt
  have hrl:=H.rl
  rw [show r+11+2*K+10=r+20+2*K+1 by lia] at hrl
  rw [show r+21+2*K=r+20+2*K+1 by lia] at hk ⊢
  generalize pre++(tlv (oneB 48) (flatB ps)++suf)=data at *
  generalize flatB ps=F at *
  simp (disch:=first | decide | assumption | lia) only [Zai,X_k,Zo,ZC,ZO,Zx,ZaF,ZZ,P_bi,ZbM,Zp,Zg,Zb,Zao,R_or,Zs,Zu,ZG,ZA,Zv,Z_ex,Za,ZW,c_eq,c_lt,c_le,Zj,Zn,Zt,Zd,Zae,Zr,Zh,ZE,Zz,Zy,ZD,Zan,ZfK,Zal,Zaa,Zi,Ze,Zf,Zk,Zl,Zc,okB_,ZaK,Zq,zc4,zc5,zc6,zc7,zc8,zc9,zc10,zc16,zc17,ZT,Zad,ZH B,ZB B,Zaw,ZaA,Zbm,ZR B.g1,H.ix,hrl,H.sl,Zhg,ZaP,ZbF,Zbp,ZbP,ZbG,Zbq,Zbi,hk]
  rw [e9]
 ·intro r pre suf dep hd
  rw [show r+20+2*(K+1)=r+21+2*K+1 by lia,ZF B.f23 rfl (by decide)]
  have H:=ZbK B (r:=r+11+2*K) (t:=48) (by decide) (flatB ps) pre suf hc
  have hk:=Zhi B (r:=r) ps dep K h hl (by
   by_cases h0:dep=0
   ·exact .inl h0
   ·right
    rcases hmax with h1 | ⟨p,hp,h1⟩
    ·lia
    ·exact ⟨p,hp,by lia⟩)
  have e10:=H.lt
  have hrl:=H.rl
  rw [show r+11+2*K+10=r+20+2*K+1 by lia] at hrl
  rw [show r+21+2*K=r+20+2*K+1 by lia] at hk ⊢
  generalize pre++(tlv (oneB 48) (flatB ps)++suf)=data at *
  generalize flatB ps=F at *
  simp (disch:=first | decide | assumption | lia) only [Zai,X_k,Zo,ZC,ZO,Zx,ZaF,ZZ,P_bi,ZbM,Zp,Zg,Zb,Zao,R_or,Zs,Zu,ZA,Zv,Z_ex,Za,ZW,c_eq,c_lt,c_le,Zj,Zt,Zd,ZfF,ZfC,Zae,Zh,ZaL,ZE,Zz,Zy,ZD,Zan,ZfK,Zal,Zi,Ze,Zf,Zk,Zl,Zc,ZL,okB_,ZaK,Zq,zc4,zc5,zc6,zc7,zc8,zc9,zc10,zc16,zc17,ZT,Zad,ZH B,ZB B,Zaw,ZaA,Zbm,ZR B.g1,H.ix,hrl,H.sl,Zhg,ZaP,ZbF,Zbp,ZbP,ZbG,Zbq,Zbi,hk]
theorem ZiE (B:Base T) (ps:List Ni) (K:Nat) (h:∀p∈ps,Dc T p.d p.b p.k∧p.k≤K) (hmax:K=0∨∃p∈ps,p.k=K) (hl:ps.length≤900) (hc:(flatB ps).length < 65536) :
  Dc T (.tuple [.str sSet,.list (ps.map (·.d))]) (tlv (oneB 49) (flatB ps)) (K+1):=by
 refine ⟨?_,?_,by rw [Zag,ZU];lia⟩
 ·intro r pre suf dep hd
  rw [show r+20+2*(K+1)=r+21+2*K+1 by lia,ZF B.f23 rfl (by decide)]
  have H:=ZbK B (r:=r+11+2*K) (t:=49) (by decide) (flatB ps) pre suf hc
  have hk:=ZiD B (r:=r) ps (dep - 1) K (fun p hp=>⟨(h p hp).1,(h p hp).2,by have:=(h p hp).2;lia⟩) hl
  rw [show dep - 1+1=dep by lia] at hk
  have e9:(((pre.length+1+(lenB (flatB ps).length).length:Nat):Int)+((flatB ps).length:Nat))=((pre.length+(tlv (oneB 49) (flatB ps)).length:Nat):Int):=by rw [Zag,ZU];lia
  have e10:=H.lt
  have hrl:=H.rl
  rw [show r+11+2*K+10=r+20+2*K+1 by lia] at hrl
  rw [show r+21+2*K=r+20+2*K+1 by lia] at hk ⊢
  generalize pre++(tlv (oneB 49) (flatB ps)++suf)=data at *
  generalize flatB ps=F at *
  simp (disch:=first | decide | assumption | lia) only [Zai,X_k,Zo,ZC,ZO,Zx,ZaF,ZZ,P_bi,ZbM,Zp,Zg,Zb,Zao,R_or,Zs,Zu,ZG,ZA,Zv,Z_ex,Za,ZW,c_eq,c_lt,c_le,Zj,Zn,Zt,Zd,Zae,Zr,Zh,ZE,Zz,Zy,ZD,Zan,Zal,Zaa,Zi,Ze,Zf,Zk,Zl,Zc,okB_,ZaK,Zq,zc4,zc5,zc6,zc7,zc8,zc9,zc10,zc16,zc17,ZT,Zad,ZH B,ZB B,Zaw,ZaA,Zbm,ZR B.g1,H.ix,hrl,H.sl,Zjd,ZaQ,ZbH,Zbr,ZbR,ZbI,Zbs,Zbj,Zbk,hk]
  rw [e9]
 ·intro r pre suf dep hd
  rw [show r+20+2*(K+1)=r+21+2*K+1 by lia,ZF B.f23 rfl (by decide)]
  have H:=ZbK B (r:=r+11+2*K) (t:=49) (by decide) (flatB ps) pre suf hc
  have hk:=Zhi B (r:=r) ps dep K h hl (by
   by_cases h0:dep=0
   ·exact .inl h0
   ·right
    rcases hmax with h1 | ⟨p,hp,h1⟩
    ·lia
    ·exact ⟨p,hp,by lia⟩)
  have e10:=H.lt
  have hrl:=H.rl
  rw [show r+11+2*K+10=r+20+2*K+1 by lia] at hrl
  rw [show r+21+2*K=r+20+2*K+1 by lia] at hk ⊢
  generalize pre++(tlv (oneB 49) (flatB ps)++suf)=data at *
  generalize flatB ps=F at *
  simp (disch:=first | decide | assumption | lia) only [Zai,X_k,Zo,ZC,ZO,Zx,ZaF,ZZ,P_bi,ZbM,Zp,Zg,Zb,Zao,R_or,Zs,Zu,ZA,Zv,Z_ex,Za,ZW,c_eq,c_lt,c_le,Zj,Zt,Zd,ZfF,ZfC,Zae,Zh,ZaL,ZE,Zz,Zy,ZD,Zan,Zal,Zi,Ze,Zf,Zk,Zl,Zc,ZL,okB_,ZaK,Zq,zc4,zc5,zc6,zc7,zc8,zc9,zc10,zc16,zc17,ZT,Zad,ZH B,ZB B,Zaw,ZaA,Zbm,ZR B.g1,H.ix,hrl,H.sl,Zjd,ZaQ,ZbH,Zbr,ZbR,ZbI,Zbs,Zbj,Zbk,hk]
theorem Zos (B:Base T) (ps:List Ni) (xb suf':List UInt8) (K dep:Nat) (h:∀p∈ps,Dc T p.d p.b p.k∧p.k≤K∧p.k≤dep) (hl:ps.length≤900) (hx0:0 < xb.length)
  (hx:∀pre suf,CL T (r+20+2*K) 23 [.bytes (pre++(xb++suf)),.int (pre.length:Nat),.int (dep:Nat)] = .exc) (hc:(flatB ps++(xb++suf')).length < 65536) (pre suf:List UInt8) :
  CL T (r+20+2*(K+1)) 23 [.bytes (pre++(tlv (oneB 48) (flatB ps++(xb++suf'))++suf)),.int (pre.length:Nat),.int ((dep+1:Nat):Int)] = .exc:=by
 rw [show r+20+2*(K+1)=r+21+2*K+1 by lia,ZF B.f23 rfl (by decide)]
 have hk:=Zjg B (r:=r) ps xb suf' dep K h hl hx0 hx
 generalize flatB ps++(xb++suf')=F at *
 have H:=ZbK B (r:=r+11+2*K) (t:=48) (by decide) F pre suf hc
 have e10:=H.lt
 have hrl:=H.rl
 rw [show r+11+2*K+10=r+20+2*K+1 by lia] at hrl
 rw [show r+21+2*K=r+20+2*K+1 by lia] at hk ⊢
 generalize pre++(tlv (oneB 48) F++suf)=data at *
 simp (disch:=first | decide | assumption | lia) only [Zai,X_k,Zo,ZC,ZO,Zx,ZaF,ZZ,P_bi,ZbM,Zp,Zg,Zb,Zao,R_or,Zs,Zu,ZA,Zv,Z_ex,Za,ZW,c_eq,c_lt,c_le,Zj,Zt,Zd,ZfF,ZfC,Zae,Zh,ZaL,ZE,Zz,Zy,ZD,Zan,ZfK,Zal,Zi,Ze,Zf,Zk,Zl,Zc,ZL,okB_,ZaK,Zq,zc4,zc5,zc6,zc7,zc8,zc9,zc10,zc16,zc17,ZT,Zad,ZH B,ZB B,Zaw,ZaA,Zbm,ZR B.g1,H.ix,hrl,H.sl,Zhg,ZaP,ZbF,Zbp,ZbP,ZbG,Zbq,Zbi,hk]
structure Hl (T:Text) (r:Nat) (data:List UInt8) (p A L n:Nat) (g:Nat) (c:List UInt8):Prop where
 lt:p < data.length
 ix:index (.bytes data) (.int (p:Nat)) = .ok (.int ((191:Nat):Int))
 wh:∀s1 s2 s3 sl,W T (r+10) ZaI ZaJ (.val (.bytes data)::s1::s2::s3::.val (.int 0)::.val (.int ((p:Nat)+1))::sl) = .ok (.next,.val (.bytes data)::s1::s2::s3::.val (.int (g:Nat))::.val (.int ((p+1+A:Nat):Int))::sl)
 st:∃u:Nat,u≠128∧index (.bytes data) (.int ((p:Nat)+1)) = .ok (.int (u:Nat))
 rl:CL T (r+10) 4 [.bytes data,.int ((p+1+A:Nat):Int)] = .ok (.tuple [.int (n:Nat),.int ((p+1+A+L:Nat):Int)])
 sl:slice (.bytes data) (.int ((p+1+A+L:Nat):Int)) (.int (((p+1+A+L:Nat):Int)+(n:Nat))) = .ok (.bytes c)
theorem Zld (B:Base T) {g:Nat} (hg:g < 128 ^ 100) (c pre suf:List UInt8) (hc:c.length < 65536):Hl T r (pre++(tlv (191::arcB g) c++suf)) pre.length (arcB g).length (lenB c.length).length c.length g c:=by
 have e:pre++(tlv (191::arcB g) c++suf)=pre++191::(arcB g++(lenB c.length++(c++suf))):=by simp [tlv]
 have e2:pre++(tlv (191::arcB g) c++suf)=(pre ++ [191])++(arcH (g / 128)++UInt8.ofNat (g % 128)::(lenB c.length++(c++suf))):=by simp [tlv,arcB]
 have e3:pre++(tlv (191::arcB g) c++suf)=(pre++191::arcB g)++(lenB c.length++(c++suf)):=by simp [tlv]
 have e4:pre++(tlv (191::arcB g) c++suf)=(pre++191::arcB g++lenB c.length)++(c++suf):=by simp [tlv]
 have hl:=Zbf 100 (g / 128) (Nat.lt_of_le_of_lt (Nat.div_le_self _ _) hg)
 refine ⟨by rw [e];simp,?_,?_,?_,?_,?_⟩
 ·rw [e,Zab _ _ _ rfl];rfl
 ·intro s1 s2 s3 sl
  have:=Zhf B (r:=r+9) _ (lenB c.length++(c++suf)) (UInt8.ofNat (g % 128)) (by rw [ZX (by lia)];exact Nat.mod_lt _ (by decide)) s1 s2 s3 sl (arcH (g / 128)) (pre ++ [191]) 0 0 e2 (ZfD _) (by decide) (by lia)
  rw [show arcH (g / 128) ++ [UInt8.ofNat (g % 128)]=arcB g from rfl,Zhc] at this
  have q1:(((pre ++ [(191:UInt8)]).length:Nat):Int)=((pre.length:Nat):Int)+1:=by simp
  have q2:(pre ++ [(191:UInt8)]).length+(arcH (g / 128)).length+1=pre.length+1+(arcB g).length:=by rw [ZbU];simp;exact Nat.add_assoc _ _ _
  rw [q1,q2] at this
  exact this
 ·obtain ⟨u,us,hu⟩:∃u us,arcB g=u::us:=by
   cases h:arcB g with
   | nil=>simp [arcB] at h
   | cons u us=>exact ⟨u,us,rfl⟩
  refine ⟨u.toNat,ZfX g u us hu,?_⟩
  rw [e,hu]
  exact Zgy pre _ 191 u (by rfl)
 ·rw [e3,Zdp B hc (pre++191::arcB g) (c++suf) (at':=((pre.length+1+(arcB g).length:Nat):Int)) (by simp;lia)]
  congr 4
 ·rw [ZaX _ (pre.length+1+(arcB g).length+(lenB c.length).length) c.length rfl (by rfl),e4,ZeB _ _ _ _ _ (by simp;lia) rfl]
theorem dc_tag (B:Base T) (g:Nat) (hg:g < 128 ^ 100) (x:D) (b:List UInt8) (K:Nat) (h:Dc T x b K) (hc:b.length < 65536) :
  Dc T (.tuple [.str sTagged,.int (g:Nat),x]) (tlv (tagB g) b) (K+1):=by
 have hflat:flatB [⟨x,b,K⟩]=b:=by simp [flatB]
 refine ⟨?_,?_,by rw [Zag];have:=Zmm b.length;lia⟩
 ·intro r pre suf dep hd
  rw [show r+20+2*(K+1)=r+21+2*K+1 by lia,ZF B.f23 rfl (by decide)]
  have hk:=ZiD B (r:=r) [⟨x,b,K⟩] (dep - 1) K (fun p hp=>by
   simp only [List.mem_singleton] at hp;subst hp;exact ⟨h,Nat.le_refl _,by show K≤dep - 1;lia⟩) (by simp)
  rw [show dep - 1+1=dep by lia,hflat] at hk
  rw [show r+21+2*K=r+20+2*K+1 by lia] at hk
  simp only [List.map_cons,List.map_nil] at hk
  by_cases h31:g < 31
  ·have e:tagB g=oneB (160+g):=by rw [tagB,if_pos h31]
   rw [e]
   have H:=ZbK B (r:=r+11+2*K) (t:=160+g) (by lia) b pre suf hc
   have e9:(((pre.length+1+(lenB b.length).length:Nat):Int)+(b.length:Nat))=((pre.length+(tlv (oneB (160+g)) b).length:Nat):Int):=by rw [Zag,ZU];ac_rfl
   have e10:=H.lt
   have hrl:=H.rl
   rw [show r+11+2*K+10=r+20+2*K+1 by lia] at hrl
   rw [show r+21+2*K=r+20+2*K+1 by lia]
   have e11:((160+g:Nat):Int) - 160=(g:Nat):=by lia
   generalize pre++(tlv (oneB (160+g)) b++suf)=data at *
   simp (disch:=first | decide | assumption | lia) only [Zai,X_k,Zo,ZC,ZO,Zx,ZaF,ZZ,P_bi,Zp,Zg,Zb,Zao,Zs,Zu,ZG,ZA,Zv,Z_ex,Za,ZW,ZaR,c_eq,c_lt,c_le,Zj,Zay,Zn,Zt,Zd,Zae,Zr,Zh,ZE,ZY,Zy,ZD,Zda,Zaa,Zi,Ze,Zf,Zk,Zl,Zc,okB_,ZaK,Zq,zc5,zc6,zc7,zc8,zc9,zc10,zc16,zc17,ZT,Zad,ZH B,ZB B,Zaw,Zhh,H.ix,hrl,H.sl,e11,hk,List.length_cons,List.length_nil,ZdH]
   rw [e9]
  ·have e:tagB g=191::arcB g:=by rw [tagB,if_neg h31]
   rw [e]
   have H:=Zld B (r:=r+11+2*K) hg b pre suf hc
   have e9:(((pre.length+1+(arcB g).length+(lenB b.length).length:Nat):Int)+(b.length:Nat))=((pre.length+(tlv (191::arcB g) b).length:Nat):Int):=by rw [Zag];simp;lia
   have e10:=H.lt
   have hrl:=H.rl
   have hwh:=H.wh
   obtain ⟨u,hu,hst⟩:=H.st
   rw [show r+11+2*K+10=r+20+2*K+1 by lia] at hrl hwh
   rw [show r+21+2*K=r+20+2*K+1 by lia]
   generalize pre++(tlv (191::arcB g) b++suf)=data at *
   simp (disch:=first | decide | assumption | lia) only [Zai,X_k,Zo,ZC,ZbC,ZO,Zx,ZaF,ZZ,P_bi,Zp,Zg,Zb,Zs,Zu,ZG,ZA,Zv,Zcu,Z_ex,ZK,Za,ZW,c_eq,c_ne,c_lt,c_ge,Zj,Zay,Zn,Zt,Zd,Zae,Zr,Zh,ZE,ZY,ZD,ZfI,Zaa,Zi,Ze,Zf,Zk,Zl,Zc,okB_,ZaK,Zq,zc5,zc6,zc7,zc8,zc9,zc10,zc16,zc17,ZT,Zad,ZH B,ZB B,Zaw,Zhh,H.ix,hwh,hst,hrl,H.sl,hk,List.length_cons,List.length_nil,ZdH]
   rw [e9]
 ·intro r pre suf dep hd
  rw [show r+20+2*(K+1)=r+21+2*K+1 by lia,ZF B.f23 rfl (by decide)]
  have hk:=Zhi B (r:=r) [⟨x,b,K⟩] dep K (fun p hp=>by
   simp only [List.mem_singleton] at hp;subst hp;exact ⟨h,Nat.le_refl _⟩) (by simp) (by
   by_cases h0:dep=0
   ·exact .inl h0
   ·exact .inr ⟨⟨x,b,K⟩,by simp,by show dep - 1 < K;lia⟩)
  rw [hflat] at hk
  rw [show r+21+2*K=r+20+2*K+1 by lia] at hk
  by_cases h31:g < 31
  ·have e:tagB g=oneB (160+g):=by rw [tagB,if_pos h31]
   rw [e]
   have H:=ZbK B (r:=r+11+2*K) (t:=160+g) (by lia) b pre suf hc
   have e10:=H.lt
   have hrl:=H.rl
   rw [show r+11+2*K+10=r+20+2*K+1 by lia] at hrl
   rw [show r+21+2*K=r+20+2*K+1 by lia]
   generalize pre++(tlv (oneB (160+g)) b++suf)=data at *
   simp (disch:=first | decide | assumption | lia) only [Zai,X_k,Zo,ZC,ZO,Zx,ZaF,P_bi,Zp,Zg,Zb,Zao,Zs,Zu,ZA,Zv,Z_ex,Za,ZW,ZaR,c_eq,c_lt,c_le,Zj,Zt,Zd,Zae,Zh,ZaL,ZE,ZY,Zy,ZD,Zda,Zi,Ze,Zf,Zk,Zl,Zc,ZL,okB_,ZaK,Zq,zc5,zc6,zc7,zc8,zc9,zc10,zc16,zc17,ZT,Zad,ZH B,ZB B,Zaw,Zhh,H.ix,hrl,H.sl,hk]
  ·have e:tagB g=191::arcB g:=by rw [tagB,if_neg h31]
   rw [e]
   have H:=Zld B (r:=r+11+2*K) hg b pre suf hc
   have e10:=H.lt
   have hrl:=H.rl
   have hwh:=H.wh
   obtain ⟨u,hu,hst⟩:=H.st
   rw [show r+11+2*K+10=r+20+2*K+1 by lia] at hrl hwh
   rw [show r+21+2*K=r+20+2*K+1 by lia]
   generalize pre++(tlv (191::arcB g) b++suf)=data at *
   simp (disch:=first | decide | assumption | lia) only [Zai,X_k,Zo,ZC,ZbC,ZO,Zx,ZaF,P_bi,Zp,Zg,Zb,Zs,Zu,ZA,Zv,Zcu,Z_ex,ZK,Za,ZW,c_eq,c_ne,c_lt,c_ge,Zj,Zt,Zd,Zae,Zh,ZaL,ZE,ZY,ZD,ZfI,Zi,Ze,Zf,Zk,Zl,Zc,ZL,okB_,ZaK,Zq,zc5,zc6,zc7,zc8,zc9,zc10,zc16,zc17,ZT,Zad,ZH B,ZB B,Zaw,Zhh,H.ix,hwh,hst,hrl,H.sl,hk]
end DK.Internal.B
end
section
set_option backward.match.sparseCases false
set_option genSizeOf false
set_option genCtorIdx false
namespace DK.Internal.B
open PySem
variable {T:Text} {r:Nat}
theorem ZgC (a b:List UInt8) (j:Nat):(∃i,i < a.length∧(a++b).take j=a.take i)∨(∃i,j=a.length+i∧(a++b).take j=a++b.take i):=by
 by_cases h:j < a.length
 ·exact .inl ⟨j,h,List.take_append_of_le_length (by exact Nat.le_of_lt (by assumption))⟩
 ·right
  refine ⟨j - a.length,by lia,?_⟩
  rw [List.take_append,List.take_of_length_le (by exact Nat.not_lt.mp (by assumption))]
theorem Zjh (B:Base T) (pre c:List UInt8) (hc:c.length < 65536) (j:Nat) (hj:j < (lenB c.length++c).length) :
  CL T (r+10) 4 [.bytes (pre++(lenB c.length++c).take j),.int (pre.length:Nat)] = .exc ∨
  (CL T (r+10) 4 [.bytes (pre++(lenB c.length++c).take j),.int (pre.length:Nat)] = .ok (.tuple [.int (c.length:Nat),.int ((pre.length+(lenB c.length).length:Nat):Int)]) ∧
   ∃m,m.length < c.length∧slice (.bytes (pre++(lenB c.length++c).take j)) (.int ((pre.length+(lenB c.length).length:Nat):Int)) (.int (((pre.length+(lenB c.length).length:Nat):Int)+(c.length:Nat))) = .ok (.bytes m)):=by
 rcases ZgC (lenB c.length) c j with ⟨i,hi,e⟩ | ⟨i,hi,e⟩
 ·left;rw [e];exact ZfW B hi pre rfl
 ·right
  rw [e]
  have hi2:i < c.length:=by simp at hj;lia
  refine ⟨by rw [Zdp B hc pre (c.take i) rfl];congr 4,c.take i,by simp;lia,?_⟩
  rw [ZaX _ (pre.length+(lenB c.length).length) c.length rfl (by rfl)]
  rw [←List.append_assoc,List.drop_left' (by simp),List.take_take]
  congr 3;lia
theorem Zhj (B:Base T) {t:Nat} (ht:t < 256) (ht2:t≠191) (c:List UInt8) (hc:c.length < 65536) (j:Nat) (hj:j < (tlv (oneB t) c).length) (dep:Int) :
  CL T (r+20) 23 [.bytes ((tlv (oneB t) c).take j),.int 0,.int dep] = .exc:=by
 rw [ZF B.f23 rfl (by decide)]
 cases j with
 | zero=>
  simp (disch:=first | decide | assumption | lia) only [Zai,Zo,ZO,P_bi,Zp,Zg,Zb,Z_ex,c_lt,Zj,Zd,Zav,Zi,Ze,Zf,Zc,ZL,Zq,zc6,zc7,zc8,zc9,zc16,zc17,List.take_zero,List.length_nil,ZcK B]
 | succ j=>
  have e:(tlv (oneB t) c).take (j+1) = [UInt8.ofNat t]++(lenB c.length++c).take j:=by simp [tlv,oneB]
  have hj2:j < (lenB c.length++c).length:=by rw [Zag,ZU] at hj;simp;lia
  have hix:index (.bytes ([UInt8.ofNat t]++(lenB c.length++c).take j)) (.int 0) = .ok (.int (t:Nat)):=by
   rw [List.singleton_append,ZcL,ZX ht]
  have hlt:0 < ([UInt8.ofNat t]++(lenB c.length++c).take j).length:=by simp
  have hr:=Zjh B (r:=r+9) [UInt8.ofNat t] c hc j hj2
  rw [e]
  generalize [UInt8.ofNat t]++(lenB c.length++c).take j=data at *
  simp only [List.length_singleton,show ((1:Nat):Int)=1 from rfl] at hr
  have e1:(0:Int)+1=1:=rfl
  by_cases hr1:160≤t∧t < 191
  ·rcases hr with hr | ⟨hr,m,hm,hs⟩
   ·simp (disch:=first | decide | assumption | lia) only [Zai,X_k,Zo,ZC,ZO,Zx,P_bi,Zp,Zg,Zb,Zao,Zs,Zu,ZA,Zv,Z_ex,Za,ZW,ZaR,c_eq,c_lt,c_le,Zj,Zt,Zd,Zh,ZaL,ZY,Zy,ZD,Zda,Zi,Ze,Zf,Zk,Zl,Zc,ZL,okB_,Zq,zc6,zc7,zc8,zc9,zc16,zc17,ZH B,hix,e1,hr]
   ·simp (disch:=first | decide | assumption | lia) only [Zai,X_k,Zo,ZC,ZO,Zx,ZaF,P_bi,Zp,Zg,Zb,Zao,Zs,Zu,ZA,Zv,Z_ex,Za,ZW,ZaR,c_eq,c_lt,c_le,Zj,Zt,Zd,Zae,Zh,ZY,Zy,ZD,Zav,Zda,Zi,Ze,Zf,Zk,Zl,Zc,ZL,okB_,Zq,zc6,zc7,zc8,zc9,zc16,zc17,ZT,Zad,ZH B,hix,e1,hr,hs,ZcK B]
  ·by_cases h160:160≤t
   ·rcases hr with hr | ⟨hr,m,hm,hs⟩
    ·simp (disch:=first | decide | assumption | lia) only [Zai,X_k,Zo,ZC,ZO,Zx,P_bi,Zp,Zg,Zb,Zao,Zs,Zu,ZA,Zv,Z_ex,Za,ZW,c_eq,c_lt,c_le,Zj,Zt,Zd,Zh,ZaL,Zy,ZD,Zda,Zi,Ze,Zf,Zk,Zl,Zc,ZL,okB_,Zq,zc6,zc7,zc8,zc9,zc16,zc17,ZH B,hix,e1,hr]
    ·simp (disch:=first | decide | assumption | lia) only [Zai,X_k,Zo,ZC,ZO,Zx,ZaF,P_bi,Zp,Zg,Zb,Zao,Zs,Zu,ZA,Zv,Z_ex,Za,ZW,c_eq,c_lt,c_le,Zj,Zt,Zd,Zae,Zh,Zy,ZD,Zav,Zda,Zi,Ze,Zf,Zk,Zl,Zc,ZL,okB_,Zq,zc6,zc7,zc8,zc9,zc16,zc17,ZT,Zad,ZH B,hix,e1,hr,hs,ZcK B]
   ·rcases hr with hr | ⟨hr,m,hm,hs⟩
    ·simp (disch:=first | decide | assumption | lia) only [Zai,X_k,Zo,ZC,ZO,Zx,P_bi,Zp,Zg,Zb,Zao,Zs,Zu,ZA,Zv,Z_ex,Za,ZW,c_eq,c_lt,c_le,Zj,Zt,Zd,Zh,ZaL,Zz,Zy,ZD,Zan,Zi,Ze,Zf,Zk,Zl,Zc,ZL,okB_,Zq,zc6,zc7,zc8,zc9,zc16,zc17,ZH B,hix,e1,hr]
    ·simp (disch:=first | decide | assumption | lia) only [Zai,X_k,Zo,ZC,ZO,Zx,ZaF,P_bi,Zp,Zg,Zb,Zao,Zs,Zu,ZA,Zv,Z_ex,Za,ZW,c_eq,c_lt,c_le,Zj,Zt,Zd,Zae,Zh,Zz,Zy,ZD,Zav,Zan,Zi,Ze,Zf,Zk,Zl,Zc,ZL,okB_,Zq,zc6,zc7,zc8,zc9,zc16,zc17,ZT,Zad,ZH B,hix,e1,hr,hs,ZcK B]
theorem Zot (B:Base T) {g:Nat} (hg:g < 128 ^ 100) (c:List UInt8) (hc:c.length < 65536) (j:Nat) (hj:j < (tlv (tagB g) c).length) (dep:Int) :
  CL T (r+20) 23 [.bytes ((tlv (tagB g) c).take j),.int 0,.int dep] = .exc:=by
 by_cases h31:g < 31
 ·rw [tagB,if_pos h31] at hj ⊢
  exact Zhj B (by lia) (by lia) c hc j hj dep
 ·rw [tagB,if_neg h31] at hj ⊢
  rw [ZF B.f23 rfl (by decide)]
  cases j with
  | zero=>
   simp (disch:=first | decide | assumption | lia) only [Zai,Zo,ZO,P_bi,Zp,Zg,Zb,Z_ex,c_lt,Zj,Zd,Zav,Zi,Ze,Zf,Zc,ZL,Zq,zc6,zc7,zc8,zc9,zc16,zc17,List.take_zero,List.length_nil,ZcK B]
  | succ j=>
   have hl:=Zbf 100 (g / 128) (Nat.lt_of_le_of_lt (Nat.div_le_self _ _) hg)
   have e:(tlv (191::arcB g) c).take (j+1)=191::(arcB g++(lenB c.length++c)).take j:=by simp [tlv]
   have e1:(0:Int)+1=1:=rfl
   rw [e]
   have hix:index (.bytes (191::(arcB g++(lenB c.length++c)).take j)) (.int 0) = .ok (.int ((191:Nat):Int)):=by
    rw [ZcL];rfl
   have hlt:0 < (191::(arcB g++(lenB c.length++c)).take j).length:=by simp
   rcases ZgC (arcB g) (lenB c.length++c) j with ⟨i,hi,e2⟩ | ⟨i,hi,e2⟩
   ·rw [e2] at hix hlt ⊢
    have e3:(arcB g).take i=(arcH (g / 128)).take i:=by
     rw [arcB,List.take_append_of_le_length (by rw [ZbU] at hi;exact Nat.le_of_lt_succ (by assumption))]
    rw [e3] at hix hlt ⊢
    have hw:=fun s1 s2 s3 sl=>Zol B (r:=r+18) (191::(arcH (g / 128)).take i) s1 s2 s3 sl ((arcH (g / 128)).take i) [191] 0 0 rfl (fun u hu=>ZfD _ u (List.mem_of_mem_take hu)) (by decide) (by simp;lia)
    simp only [List.length_singleton,show ((1:Nat):Int)=1 from rfl,show ((0:Nat):Int)=0 from rfl] at hw
    generalize 191::(arcH (g / 128)).take i=data at *
    simp (disch:=first | decide | assumption | lia) only [Zai,X_k,Zo,ZC,ZO,Zx,P_bi,Zp,Zg,Zb,Zs,ZA,Zv,Zcu,Z_ex,Za,ZW,c_eq,c_lt,Zj,Zt,Zd,Zh,ZY,ZD,Zi,Ze,Zf,Zk,Zl,Zc,ZL,okB_,Zq,zc6,zc7,zc8,zc9,zc16,zc17,ZH B,hix,e1,hw]
   ·rw [e2] at hix hlt ⊢
    have hi2:i < (lenB c.length++c).length:=by rw [Zag] at hj;simp at hj ⊢;lia
    have hr:=Zjh B (r:=r+9) (191::arcB g) c hc i hi2
    have hw:=fun s1 s2 s3 sl=>Zhf B (r:=r+18) (191::(arcB g++(lenB c.length++c).take i)) ((lenB c.length++c).take i) (UInt8.ofNat (g % 128)) (by rw [ZX (by lia)];exact Nat.mod_lt _ (by decide)) s1 s2 s3 sl (arcH (g / 128)) [191] 0 0 (by simp [arcB]) (ZfD _) (by decide) (by lia)
    rw [show arcH (g / 128) ++ [UInt8.ofNat (g % 128)]=arcB g from rfl,Zhc] at hw
    have q2 : [(191:UInt8)].length+(arcH (g / 128)).length+1=(191::arcB g).length:=by simp [ZbU];exact Nat.add_comm _ _
    rw [q2] at hw
    simp only [List.length_singleton,show ((1:Nat):Int)=1 from rfl,show ((0:Nat):Int)=0 from rfl] at hw
    rw [List.cons_append] at hr
    obtain ⟨u,us,hu⟩:∃u us,arcB g=u::us:=by
     cases h:arcB g with
     | nil=>simp [arcB] at h
     | cons u us=>exact ⟨u,us,rfl⟩
    have hne:=ZfX g u us hu
    have hst:index (.bytes (191::(arcB g++(lenB c.length++c).take i))) (.int 1) = .ok (.int (u.toNat:Nat)):=by
     rw [hu];exact ZfY 191 u _
    generalize 191::(arcB g++(lenB c.length++c).take i)=data at *
    generalize (191::arcB g).length=q at *
    rcases hr with hr | ⟨hr,m,hm,hs⟩
    ·simp (disch:=first | decide | assumption | lia) only [Zai,X_k,Zo,ZC,ZbC,ZO,Zx,P_bi,Zp,Zg,Zb,Zs,Zu,ZA,Zv,Zcu,Z_ex,ZK,Za,ZW,c_eq,c_ne,c_lt,c_ge,Zj,Zt,Zd,Zh,ZaL,ZY,ZD,ZfI,Zi,Ze,Zf,Zk,Zl,Zc,ZL,okB_,ZaK,Zq,zc6,zc7,zc8,zc9,zc16,zc17,ZH B,hix,e1,hw,hst,hr]
    ·simp (disch:=first | decide | assumption | lia) only [Zai,X_k,Zo,ZC,ZbC,ZO,Zx,ZaF,P_bi,Zp,Zg,Zb,Zs,Zu,ZA,Zv,Zcu,Z_ex,ZK,Za,ZW,c_eq,c_ne,c_lt,c_ge,Zj,Zt,Zd,Zae,Zh,ZY,ZD,Zav,ZfI,Zi,Ze,Zf,Zk,Zl,Zc,ZL,okB_,ZaK,Zq,zc6,zc7,zc8,zc9,zc16,zc17,ZT,Zad,ZH B,hix,e1,hw,hst,hr,hs,ZcK B]
noncomputable def En (T:Text) (d:D) (b:List UInt8) (k:Nat):Prop:=∀r,CL T (r+20+k) 20 [d] = .ok (.bytes b)
noncomputable def Eb (T:Text) (d:D) (k:Nat):Prop:=∀r,CL T (r+20+k) 20 [d] = .exc
theorem Zlf (B:Base T) {d b k} (h:Dc T d b k) (h2:En T d b k) (dep:Nat) (hd:k≤dep):CL T (r+21+2*k) 24 [.bytes b,.int (dep:Nat)] = .ok d:=by
 rw [show r+21+2*k=r+19+2*k+1+1 by lia,ZF B.f24 rfl (by decide)]
 have h1:=h.dec r [] [] dep hd
 have h3:=h2 (r+k)
 rw [show r+k+20+k=r+19+2*k+1 by lia] at h3
 rw [show r+20+2*k=r+19+2*k+1 by lia] at h1
 simp only [List.nil_append,List.append_nil,List.length_nil,Nat.zero_add,show ((0:Nat):Int)=0 from rfl] at h1
 simp (disch:=first | lia | rfl) only [Zfb,X_k,Zo,ZO,Zx,P_bi,Zp,Zg,Zb,ZG,ZA,Z_ex,c_eq,Zj,Zn,Zt,Zcn,Zd,Zr,Zh,ZD,Zi,Ze,Zf,Zk,Zl,Zc,okB_,Zq,zc6,zc7,zc8,zc9,zc10,zc16,zc17,h1,ZT,Zad,ZB B,h3]
theorem Zej (B:Base T) {b:List UInt8} {dep:Int} (h:CL T (r+1) 23 [.bytes b,.int 0,.int dep] = .exc):CL T (r+2) 24 [.bytes b,.int dep] = .exc:=by
 rw [ZF B.f24 rfl (by decide)]
 simp (disch:=first | lia | rfl) only [Zfb,X_k,Zo,Zp,Zg,Zb,ZA,Zd,ZaL,Zi,Ze,Zf,Zc,ZL,Zq,zc6,zc7,zc8,zc9,zc16,zc17,h]
theorem ZjM (B:Base T) {d b k} (h:Dc T d b k) (dep:Nat) (hd:dep < k):CL T (r+21+2*k) 24 [.bytes b,.int (dep:Nat)] = .exc:=by
 have h1:=h.low r [] [] dep hd
 rw [show r+20+2*k=r+19+2*k+1 by lia] at h1
 rw [show r+21+2*k=r+19+2*k+2 by lia]
 simp only [List.nil_append,List.append_nil,List.length_nil,show ((0:Nat):Int)=0 from rfl] at h1
 exact Zej B h1
theorem Zfm (B:Base T) {d b k} (h:Dc T d b k) (h2:Eb T d k) (dep:Nat) (hd:k≤dep):CL T (r+21+2*k) 24 [.bytes b,.int (dep:Nat)] = .exc:=by
 rw [show r+21+2*k=r+19+2*k+1+1 by lia,ZF B.f24 rfl (by decide)]
 have h1:=h.dec r [] [] dep hd
 have h3:=h2 (r+k)
 rw [show r+k+20+k=r+19+2*k+1 by lia] at h3
 rw [show r+20+2*k=r+19+2*k+1 by lia] at h1
 simp only [List.nil_append,List.append_nil,List.length_nil,Nat.zero_add,show ((0:Nat):Int)=0 from rfl] at h1
 simp (disch:=first | lia | rfl) only [Zfb,X_k,Zo,ZO,Zx,P_bi,Zp,Zg,Zb,ZA,Z_ex,c_eq,Zj,Zt,Zd,ZfF,Zh,ZD,Zav,Zi,Ze,Zf,Zk,Zl,Zc,ZL,okB_,Zq,zc6,zc7,zc8,zc9,zc10,zc16,zc17,h1,ZT,Zad,ZB B,h3]
theorem ZiF (B:Base T) {d b k} (h:Dc T d b k) (suf:List UInt8) (hs:0 < suf.length) (dep:Nat) (hd:k≤dep):CL T (r+21+2*k) 24 [.bytes (b++suf),.int (dep:Nat)] = .exc:=by
 rw [show r+21+2*k=r+19+2*k+1+1 by lia,ZF B.f24 rfl (by decide)]
 have h1:=h.dec r [] suf dep hd
 rw [show r+20+2*k=r+19+2*k+1 by lia] at h1
 simp only [List.nil_append,List.length_nil,Nat.zero_add,show ((0:Nat):Int)=0 from rfl] at h1
 have hne:b.length≠(b++suf).length:=by rw [List.length_append];lia
 generalize b++suf=data at *
 simp (disch:=first | lia | rfl) only [Zfb,X_k,Zo,ZO,Zx,P_bi,Zp,Zg,Zb,ZA,Z_ex,c_eq,Zj,Zt,Zd,Zh,Zav,Zi,Ze,Zf,Zk,Zl,Zc,ZL,okB_,Zq,zc6,zc7,zc8,zc9,zc16,zc17,h1,Zad,ZcK B]
end DK.Internal.B
end
section
set_option backward.match.sparseCases false
set_option genSizeOf false
set_option genCtorIdx false
namespace DK.Internal.B
open PySem
variable {T:Text} {r:Nat}
abbrev Nd:=List D × D
noncomputable def nodeD (path:List D) (n:Nd):D:= .tuple [.list (path++n.1),n.2]
theorem Zlg (s0:Slot) (xs:List D) (sl):copyD (s0::.own xs::sl) 1 = .ok (.list xs):=rfl
theorem backW (c:C) (a:Slot) (p o:List D) (sl:List Slot):back (.val c (.own 1 (.own 2 .nil))) [a,.own p,.own o] sl = .ok (setV (setV sl 1 (.own p)) 2 (.own o)):=rfl
theorem backW0 (c:C) (a:Slot) (p o:List D) (sl:List Slot):back (.val c (.fresh (.own 1 .nil))) [a,.own p,.own o] sl = .ok (setV sl 1 (.own o)):=rfl
noncomputable def Wk (T:Text) (d:D) (k:Nat) (ns:List Nd):Prop:=∀r (path out:List D),path.length+k≤900→out.length+ns.length≤900000 →
 CX T (r+3+k) 26 [.val d,.own path,.own out] = .ok [.val d,.own path,.own (out++ns.map (nodeD path))]
structure Wi where
 d:D
 k:Nat
 ns:List Nd
noncomputable def under (i:Nat) (n:Nd):Nd:=(nD i::n.1,n.2)
noncomputable def nodesFrom:Nat→List Wi→List Nd
 | _,[]=> []
 | i,w::ws=>w.ns.map (under i)++nodesFrom (i+1) ws
theorem ZjN (path:List D) (i:Nat) (n:Nd):nodeD (path ++ [nD i]) n=nodeD path (under i n):=by simp [nodeD,under]
theorem Zlh (B:Base T) (d0:D) (path:List D) (K:Nat) (hp:path.length+1+K≤900):∀(ws:List Wi) (i:Nat) (out:List D) (s4:Slot),(∀w∈ws,Wk T w.d w.k w.ns∧w.k≤K)→out.length+(nodesFrom i ws).length≤900000 →
  ∃s3 s4',FE T (r+3+K) (.one 4) Zel (ws.map (·.d)) [.val d0,.own path,.own out,.val (.int (i:Nat)),s4] = .ok (.next,[.val d0,.own path,.own (out++(nodesFrom i ws).map (nodeD path)),s3,s4']):=by
 intro ws
 induction ws with
 | nil=>intro i out s4 h hl;exact ⟨.val (.int (i:Nat)),s4,by rw [List.map_nil,Zkk];simp only [nodesFrom,List.map_nil,List.append_nil]⟩
 | cons w ws ih=>
  intro i out s4 h hl
  obtain ⟨h1,h2⟩:=h w (List.mem_cons_self ..)
  simp only [nodesFrom,List.length_append,List.length_map] at hl
  obtain ⟨s3,s4',hs⟩:=ih (i+1) (out++w.ns.map (nodeD (path ++ [nD i]))) (.val w.d) (fun q hq=>h q (List.mem_cons_of_mem _ hq)) (by simp;lia)
  refine ⟨s3,s4',?_⟩
  have hw:=h1 (r+(K - w.k)) (path ++ [nD i]) out (by simp;lia) (by lia)
  rw [show r+(K - w.k)+3+w.k=r+2+K+1 by lia] at hw
  rw [show r+3+K=r+2+K+1 by lia] at hs ⊢
  rw [List.map_cons,ZhA]
  generalize FE T (r+2+K+1) (.one 4) Zel (ws.map (·.d))=f at hs ⊢
  have hpl:path.length < 1000000:=by lia
  simp (disch:=first | decide | assumption | lia) only [Zel,Zo,Zhz,ZaW,ZdT,Zfp,Ze,Zf,Zk,Zl,ZcI,ZcJ,Zq]
  rw [ZfH _ _ _ _ (by decide)]
  rw [show D.int ((i:Nat):Int)=nD i from rfl]
  simp (disch:=first | decide | assumption | lia) only [X_k,Zo,Zu,Zen,Z_pop,ZQ,ZhB,ZhC,ZhD,Out.ok_bind,ZW,Zd,Zh,Zbw,ZnS,arK_,arO_,Ze,Zf,Zk,Zl,ZcI,ZcJ,Zc,ZP,hw,backW,show Out.ok (nD i)=Out.ok (.int (i:Nat)) from rfl]
  refine hs.trans ?_
  rw [nodesFrom,List.map_append,List.map_map,←List.append_assoc,show nodeD path ∘ under i=nodeD (path ++ [nD i]) from funext fun n=>(ZjN path i n).symm]
noncomputable def Ch (T:Text) (d:D) (xs:List D):Prop:=∀r,CL T (r+1) 25 [d] = .ok (.list xs)
theorem wk_of (B:Base T) (d:D) (ws:List Wi) (K:Nat) (hc:Ch T d (ws.map (·.d))) (h:∀w∈ws,Wk T w.d w.k w.ns∧w.k≤K):Wk T d (K+1) (([],d)::nodesFrom 0 ws):=by
 intro r path out hp ho
 simp only [List.length_cons] at ho
 obtain ⟨s3,s4,hs⟩:=Zlh B (r:=r) d path K (by lia) ws 0 (out ++ [.tuple [.list path,d]]) .un h (by simp;lia)
 rw [show r+3+(K+1)=r+3+K+1 by rfl]
 rw [CX_eq B.f26 rfl (by decide)]
 have hc1:=hc (r+2+K)
 rw [show r+2+K+1=r+3+K by exact Nat.add_right_comm _ _ _] at hc1
 have hal:out.length < 1000000:=by lia
 simp only [show ((0:Nat):Int)=0 from rfl] at hs
 simp (disch:=first | decide | assumption | lia) only [ZiW,X_k,Zo,ZZ,ZnB,Zp,Zg,Zb,Zdx,Zu,ZA,ZgN,Zhz,ZK,ZfQ,Zd,Zh,Zdy,ZdT,Zaa,Zi,Ze,Zk,Zl,ZcI,ZcJ,ZgP,Zc,Zq,ZP,zc6,zc8,zc9,zc16,zc17,Zlg,hc1,itemsOf,hs,List.take]
 simp [nodeD]
theorem Zou (B:Base T) (d:D) (hc:Ch T d []):Wk T d 0 [([],d)]:=by
 intro r path out hp ho
 rw [CX_eq B.f26 rfl (by decide)]
 have hc1:=hc (r+1)
 have hal:out.length < 1000000:=by simp at ho;exact Nat.lt_of_le_of_lt (by assumption) (by decide)
 simp (disch:=first | decide | assumption | lia) only [ZiW,X_k,Zo,ZZ,ZnB,Zp,Zg,Zb,Zdx,Zu,ZA,ZgN,Zhz,ZK,Zkk,ZfQ,Zd,Zh,Zdy,ZdT,Zaa,Zi,Ze,Zk,Zl,ZcI,ZcJ,ZgP,Zc,Zq,ZP,zc6,zc7,zc8,zc9,zc16,zc17,Zlg,hc1,itemsOf,List.take]
 simp [nodeD]
theorem Zov (B:Base T) {d k ns} (h:Wk T d k ns) (hk:k≤800) (hn:ns.length≤900000):CL T (r+4+k) 27 [d] = .ok (.list (ns.map (nodeD []))):=by
 rw [show r+4+k=r+2+k+1+1 by lia,ZF B.f27 rfl (by decide)]
 have hw:=h r [] [] (by simp;exact Nat.le_trans (by assumption) (by decide)) (by simpa using hn)
 rw [show r+3+k=r+2+k+1 by lia] at hw
 simp only [ZnN,Zak,Zg,Zgr,ZcY,Zaf,Zk,Zl,Zc,Zq,zc6,zc7,zc8,zc9,zc16,zc17]
 rw [ZfH _ _ _ _ (by decide)]
 simp (disch:=first | decide | assumption | lia) only [Zo,ZG,ZeJ,ZhB,ZhC,ZhD,ZlV,Out.ok_bind,Zn,Zd,Zr,arK_,arO_,Ze,Zf,Zk,Zl,ZcI,ZcJ,ZeN,ZeO,Zc,zc9,hw,backW0]
theorem Zji (B:Base T) (x:D):Ch T (.tuple [.str sBool,x]) []:=by
 intro r
 rw [ZF B.f25 rfl (by decide)]
 simp (disch:=first | decide | assumption | lia) only [Zaj,X_k,Zo,Zx,Zak,Zg,R_or,Zs,Zu,ZG,Zv,Za,c_eq,Zn,Zd,Zr,Zz,Zal,Zaf,Ze,Zc,okB_,Zq,zc6,zc7,zc8,zc9,zc14,zc15,zc17,ZT,ZgQ,ZgR,ZbB]
theorem Zow (B:Base T) (x:D):Ch T (.tuple [.str sInt,x]) []:=by
 intro r
 rw [ZF B.f25 rfl (by decide)]
 simp (disch:=first | decide | assumption | lia) only [Zaj,X_k,Zo,Zx,Zak,Zg,R_or,Zs,Zu,ZG,Zv,Za,c_eq,Zn,Zd,Zr,Zz,Zal,Zaf,Ze,Zc,okB_,Zq,zc6,zc7,zc8,zc9,zc14,zc15,zc17,ZT,ZhE,ZhF,ZcB]
theorem ZmK (B:Base T) (x:D):Ch T (.tuple [.str sEnum,x]) []:=by
 intro r
 rw [ZF B.f25 rfl (by decide)]
 simp (disch:=first | decide | assumption | lia) only [Zaj,X_k,Zo,Zx,Zak,Zg,R_or,Zs,Zu,ZG,Zv,Za,c_eq,Zn,Zd,Zr,Zz,Zal,Zaf,Ze,Zc,okB_,Zq,zc6,zc7,zc8,zc9,zc14,zc15,zc17,ZT,ZgV,ZgW,Zcq]
theorem Zli (B:Base T) (x:D):Ch T (.tuple [.str sBytes,x]) []:=by
 intro r
 rw [ZF B.f25 rfl (by decide)]
 simp (disch:=first | decide | assumption | lia) only [Zaj,X_k,Zo,Zx,Zak,Zg,R_or,Zs,Zu,ZG,Zv,Za,c_eq,Zn,Zd,Zr,Zz,Zal,Zaf,Ze,Zc,okB_,Zq,zc6,zc7,zc8,zc9,zc14,zc15,zc17,ZT,Zce,Zcf,ZbZ]
theorem ZmL (B:Base T) (x:D):Ch T (.tuple [.str sUtf8,x]) []:=by
 intro r
 rw [ZF B.f25 rfl (by decide)]
 simp (disch:=first | decide | assumption | lia) only [Zaj,X_k,Zo,Zx,Zak,Zg,R_or,Zs,Zu,ZG,Zv,Za,c_eq,Zn,Zd,Zr,Zz,Zal,Zaf,Ze,Zc,okB_,Zq,zc6,zc7,zc8,zc9,zc14,zc15,zc17,ZT,Zcw,Zcx,Zcr]
theorem Zlj (B:Base T) (x:D):Ch T (.tuple [.str sPrint,x]) []:=by
 intro r
 rw [ZF B.f25 rfl (by decide)]
 simp (disch:=first | decide | assumption | lia) only [Zaj,X_k,Zo,Zx,Zak,Zg,R_or,Zs,Zu,ZG,Zv,Za,c_eq,Zn,Zd,Zr,Zz,Zal,Zaf,Ze,Zc,okB_,Zq,zc6,zc7,zc8,zc9,zc14,zc15,zc17,ZT,Zcj,Zck,Zca]
theorem ZmM (B:Base T) (x:D):Ch T (.tuple [.str sTime,x]) []:=by
 intro r
 rw [ZF B.f25 rfl (by decide)]
 simp (disch:=first | decide | assumption | lia) only [Zaj,X_k,Zo,Zx,Zak,Zg,R_or,Zs,Zu,ZG,Zv,Za,c_eq,Zn,Zd,Zr,Zz,Zal,Zaf,Ze,Zc,okB_,Zq,zc6,zc7,zc8,zc9,zc14,zc15,zc17,ZT,Zcy,Zcz,Zcs]
theorem Zox (B:Base T) (x:D):Ch T (.tuple [.str sOid,x]) []:=by
 intro r
 rw [ZF B.f25 rfl (by decide)]
 simp (disch:=first | decide | assumption | lia) only [Zaj,X_k,Zo,Zx,Zak,Zg,R_or,Zs,Zu,ZG,Zv,Za,c_eq,Zn,Zd,Zr,Zz,Zal,Zaf,Ze,Zc,okB_,Zq,zc6,zc7,zc8,zc9,zc14,zc15,zc17,ZT,ZhG,ZhH,ZaG]
theorem ZmN (B:Base T):Ch T (.tuple [.str sNull]) []:=by
 intro r
 rw [ZF B.f25 rfl (by decide)]
 simp (disch:=first | decide | assumption | lia) only [Zaj,X_k,Zo,Zx,Zak,Zg,R_or,Zs,Zu,ZG,Zv,Za,c_eq,Zn,Zd,Zr,Zz,Zal,Zaf,Ze,Zc,okB_,Zq,zc6,zc7,zc8,zc9,zc14,zc15,zc17,ix1_0,ZeL,ZeM,Zcp]
theorem ZmO (B:Base T) (x y:D):Ch T (.tuple [.str sBits,x,y]) []:=by
 intro r
 rw [ZF B.f25 rfl (by decide)]
 simp (disch:=first | decide | assumption | lia) only [Zaj,X_k,Zo,Zx,Zak,Zg,R_or,Zs,Zu,ZG,Zv,Za,c_eq,Zn,Zd,Zr,Zz,Zal,Zaf,Ze,Zc,okB_,Zq,zc6,zc7,zc8,zc9,zc14,zc15,zc17,Zeb,ZgS,ZgT,Zap]
theorem Zoy (B:Base T) (x:List D):Ch T (.tuple [.str sSeq,.list x]) x:=by
 intro r
 rw [ZF B.f25 rfl (by decide)]
 simp (disch:=first | decide | assumption | lia) only [Zaj,X_k,Zo,Zx,R_or,Zs,Zu,ZG,Zv,Za,c_eq,Zn,Zd,Zr,ZE,Zz,ZfK,Ze,Zc,okB_,Zq,zc6,zc7,zc8,zc9,zc14,zc15,zc17,ZT,Zad,Zbi,ZbQ]
theorem Zoz (B:Base T) (x:List D):Ch T (.tuple [.str sSet,.list x]) x:=by
 intro r
 rw [ZF B.f25 rfl (by decide)]
 simp (disch:=first | decide | assumption | lia) only [Zaj,X_k,Zo,Zx,R_or,Zs,Zu,ZG,Zv,Za,c_eq,Zn,Zd,Zr,ZE,Zz,Zal,Ze,Zc,okB_,Zq,zc6,zc7,zc8,zc9,zc14,zc15,zc17,ZT,Zad,Zbj,Zbk,Zbl]
theorem ZjO (B:Base T) (n x:D):Ch T (.tuple [.str sTagged,n,x]) [x]:=by
 intro r
 rw [ZF B.f25 rfl (by decide)]
 simp (disch:=first | decide | assumption | lia) only [Zaj,X_k,Zo,Zx,Zak,Zg,Zb,Zs,ZG,Zv,Za,c_eq,Zn,Zd,Zr,ZE,Zaf,Zi,Ze,Zc,okB_,Zq,zc6,zc7,zc8,zc9,zc14,zc15,zc17,Zeb,Zgb,Zbe]
end DK.Internal.B
end
section
set_option backward.match.sparseCases false
set_option genSizeOf false
set_option genCtorIdx false
namespace DK.Internal.B
open PySem
variable {T:Text} {r:Nat}
structure Good (T:Text) (Q:D→Prop) (d:D) (b:List UInt8) (k:Nat) (ns:List Nd):Prop where
 en:En T d b k
 dc:Dc T d b k
 ct:∀r j (dep:Int),j < b.length→CL T (r+20) 23 [.bytes (b.take j),.int 0,.int dep] = .exc
 wk:Wk T d k ns
 pe:∀n,D.peq (n+2+2*k) d d = .ok true
 nd:∀p∈ns,(∀n,D.peq (n+2+2*k) p.2 p.2 = .ok true)∧(∀n,D.peq (n+1) (.list p.1) (.list p.1) = .ok true)∧Q p.2
theorem ZgD (f:D→D→Out Bool) (l:List D) (h:∀d∈l,f d d = .ok true):allEq f l l = .ok true:=by
 induction l with
 | nil=>rfl
 | cons d l ih=>show (f d d>>=fun b=>allEq f l l>>=fun c=>Out.ok (b && c))=_;rw [h d (List.mem_cons_self ..),ih (fun x hx=>h x (List.mem_cons_of_mem _ hx))];rfl
theorem ZbV (n:Nat) (s:List Nat):D.peq n (.str s) (.str s) = .ok true:=by cases n<;>exact congrArg Out.ok (beq_self_eq_true s)
theorem Zjj (n:Nat) (s:Bool):D.peq n (.bool s) (.bool s) = .ok true:=by cases n<;>exact congrArg Out.ok (beq_self_eq_true s)
theorem ZiG (n:Nat) (s:Int):D.peq n (.int s) (.int s) = .ok true:=by cases n<;>exact congrArg Out.ok (decide_eq_true rfl)
theorem Zlk (n:Nat) (s:List UInt8):D.peq n (.bytes s) (.bytes s) = .ok true:=by cases n<;>exact congrArg Out.ok (decide_eq_true rfl)
theorem ZeE (n:Nat) (l:List D) (h:∀d∈l,D.peq n d d = .ok true):D.peq (n+1) (.tuple l) (.tuple l) = .ok true:=ZgD _ l h
theorem peq_l (n:Nat) (l:List D) (h:∀d∈l,D.peq n d d = .ok true):D.peq (n+1) (.list l) (.list l) = .ok true:=ZgD _ l h
theorem mem2 {P:D→Prop} {a b:D} (h1:P a) (h2:P b):∀d∈[a,b],P d:=by
 intro d hd;simp only [List.mem_cons,List.not_mem_nil,or_false] at hd;rcases hd with rfl | rfl<;>assumption
theorem mem3 {P:D→Prop} {a b c:D} (h1:P a) (h2:P b) (h3:P c):∀d∈[a,b,c],P d:=by
 intro d hd;simp only [List.mem_cons,List.not_mem_nil,or_false] at hd;rcases hd with rfl | rfl | rfl<;>assumption
theorem Zib (B:Base T) {Q:D→Prop} {d:D} {t:Nat} {c:List UInt8} (ht:t < 256) (ht2:t≠191) (hc:c.length < 65536) (he:∀r,CL T (r+20) 20 [d] = .ok (.bytes (tlv (oneB t) c)))
  (hd:∀r pre suf (dep:Int),CL T (r+20) 23 [.bytes (pre++(tlv (oneB t) c++suf)),.int (pre.length:Nat),.int dep] = .ok (.tuple [d,.int ((pre.length+(tlv (oneB t) c).length:Nat):Int)]))
  (hch:Ch T d []) (hp:∀n,D.peq (n+2) d d = .ok true) (hq:Q d):Good T Q d (tlv (oneB t) c) 0 [([],d)]:=by
 refine ⟨he,⟨fun r pre suf dep _=>hd r pre suf dep,fun r pre suf dep h=>absurd h (by exact Nat.not_lt_zero _),by rw [Zag,ZU];lia⟩,fun r j dep hj=>Zhj B ht ht2 c hc j hj dep,Zou B d hch,hp,?_⟩
 intro p hp'
 simp only [List.mem_singleton] at hp'
 subst hp'
 exact ⟨hp,fun n=>rfl,hq⟩
structure Gi where
 d:D
 b:List UInt8
 k:Nat
 ns:List Nd
noncomputable def GiOk (T:Text) (Q:D→Prop) (K:Nat) (g:Gi):Prop:=Good T Q g.d g.b g.k g.ns∧g.k≤K
noncomputable def Gi.ni (g:Gi):Ni:=⟨g.d,g.b,g.k⟩
noncomputable def Gi.wi (g:Gi):Wi:=⟨g.d,g.k,g.ns⟩
noncomputable def bytesG (gs:List Gi):List UInt8:=(gs.map (·.b)).flatten
theorem Zby (gs:List Gi):flatB (gs.map Gi.ni)=bytesG gs:=by simp [flatB,bytesG,Gi.ni,Function.comp_def]
theorem Zhk {Q:D→Prop} (K:Nat):∀(gs:List Gi) (i:Nat),(∀g∈gs,GiOk T Q K g)→∀p∈nodesFrom i (gs.map Gi.wi),(∀n,D.peq (n+2+2*(K+1)) p.2 p.2 = .ok true)∧(∀n,D.peq (n+1) (.list p.1) (.list p.1) = .ok true)∧Q p.2:=by
 intro gs
 induction gs with
 | nil=>intro i h p hp;cases hp
 | cons g gs ih=>
  intro i h p hp
  rcases List.mem_append.mp hp with hp | hp
  ·obtain ⟨q,hq,rfl⟩:=List.mem_map.mp hp
   obtain ⟨hg,hk⟩:=h g (List.mem_cons_self ..)
   obtain ⟨h1,h2,h3⟩:=hg.nd q hq
   refine ⟨fun n=> ?_,fun n=> ?_,h3⟩
   ·have:=h1 (n+2*(K+1 - g.k))
    rw [show n+2*(K+1 - g.k)+2+2*g.k=n+2+2*(K+1) by lia] at this
    exact this
   ·have:=h2 n
    simp only [under]
    show allEq (D.peq n) (nD i::q.1) (nD i::q.1) = .ok true
    simp only [allEq,nD,ZiG]
    rw [show allEq (D.peq n) q.1 q.1 = .ok true from this]
    rfl
  ·exact ih (i+1) (fun x hx=>h x (List.mem_cons_of_mem _ hx)) p hp
theorem ZoA {Q:D→Prop} (K:Nat) (gs:List Gi) (h:∀g∈gs,GiOk T Q K g) (n:Nat):∀d∈gs.map (·.d),D.peq (n+2+2*K) d d = .ok true:=by
 intro d hd
 obtain ⟨g,hg,rfl⟩:=List.mem_map.mp hd
 obtain ⟨h1,hk⟩:=h g hg
 have:=h1.pe (n+2*(K - g.k))
 rw [show n+2*(K - g.k)+2+2*g.k=n+2+2*K by lia] at this
 exact this
theorem Zhl {Q:D→Prop} (K:Nat) (gs:List Gi) (h:∀g∈gs,GiOk T Q K g) (r:Nat):∀p∈gs.map (fun g=>(g.d,g.b)),CL T (r+K+1+19) 20 [p.1] = .ok (.bytes p.2):=by
 intro p hp
 obtain ⟨g,hg,rfl⟩:=List.mem_map.mp hp
 obtain ⟨h1,hk⟩:=h g hg
 have:=h1.en (r+(K - g.k))
 rw [show r+(K - g.k)+20+g.k=r+K+1+19 by lia] at this
 exact this
theorem seqpe {k:List Nat} {Q:D→Prop} (K:Nat) (gs:List Gi) (h:∀g∈gs,GiOk T Q K g) (n:Nat):D.peq (n+2+2*(K+1)) (.tuple [.str k,.list (gs.map (·.d))]) (.tuple [.str k,.list (gs.map (·.d))]) = .ok true:=by
 rw [show n+2+2*(K+1)=(n+2+2*K)+1+1 by exact (Nat.add_assoc _ _ _).symm]
 exact ZeE _ _ (mem2 (ZbV _ _) (peq_l _ _ (ZoA K gs h n)))
theorem ZmP (B:Base T) {Q:D→Prop} (gs:List Gi) (K:Nat) (h:∀g∈gs,GiOk T Q K g) (hmax:K=0∨∃g∈gs,g.k=K) (hl:gs.length≤900) (hc:(bytesG gs).length < 65536) (hq:Q (.tuple [.str sSeq,.list (gs.map (·.d))])) :
  Good T Q (.tuple [.str sSeq,.list (gs.map (·.d))]) (tlv (oneB 48) (bytesG gs)) (K+1) (([],.tuple [.str sSeq,.list (gs.map (·.d))])::nodesFrom 0 (gs.map Gi.wi)):=by
 have hmd:(gs.map Gi.ni).map (·.d)=gs.map (·.d):=by simp [Gi.ni,Function.comp_def]
 have hmw:(gs.map Gi.wi).map (·.d)=gs.map (·.d):=by simp [Gi.wi,Function.comp_def]
 refine ⟨?_,?_,fun r j dep hj=>Zhj B (by decide) (by decide) _ hc j hj dep,?_,seqpe K gs h,?_⟩
 ·intro r
  have:=Zon B (r:=r+K+1) (gs.map fun g=>(g.d,g.b)) (Zhl K gs h r) (by simpa using hl) (by simpa [bytesG,Function.comp_def] using hc)
  simp only [List.map_map,Function.comp_def] at this
  rw [show r+K+1+20=r+20+(K+1) by lia] at this
  exact this
 ·have:=Zlc B (gs.map Gi.ni) K (fun p hp=>by obtain ⟨g,hg,rfl⟩:=List.mem_map.mp hp;exact ⟨(h g hg).1.dc,(h g hg).2⟩) (by
   rcases hmax with e | ⟨g,hg,e⟩
   ·exact .inl e
   ·exact .inr ⟨g.ni,List.mem_map_of_mem hg,e⟩) (by simpa using hl) (by rw [Zby];exact hc)
  rw [hmd,Zby] at this
  exact this
 ·apply wk_of B _ (gs.map Gi.wi) K
  ·rw [hmw];exact Zoy B _
  ·intro w hw;obtain ⟨g,hg,rfl⟩:=List.mem_map.mp hw;exact ⟨(h g hg).1.wk,(h g hg).2⟩
 ·intro p hp
  rcases List.mem_cons.mp hp with rfl | hp
  ·exact ⟨seqpe K gs h,fun n=>rfl,hq⟩
  ·exact Zhk K gs 0 h p hp
theorem ZmQ (B:Base T) {Q:D→Prop} (gs:List Gi) (K:Nat) (h:∀g∈gs,GiOk T Q K g) (hmax:K=0∨∃g∈gs,g.k=K) (hl:gs.length≤900) (hc:(bytesG gs).length < 65536) (hadj:adjP (gs.map (·.b))=true) (hq:Q (.tuple [.str sSet,.list (gs.map (·.d))])) :
  Good T Q (.tuple [.str sSet,.list (gs.map (·.d))]) (tlv (oneB 49) (bytesG gs)) (K+1) (([],.tuple [.str sSet,.list (gs.map (·.d))])::nodesFrom 0 (gs.map Gi.wi)):=by
 have hmd:(gs.map Gi.ni).map (·.d)=gs.map (·.d):=by simp [Gi.ni,Function.comp_def]
 have hmw:(gs.map Gi.wi).map (·.d)=gs.map (·.d):=by simp [Gi.wi,Function.comp_def]
 refine ⟨?_,?_,fun r j dep hj=>Zhj B (by decide) (by decide) _ hc j hj dep,?_,seqpe K gs h,?_⟩
 ·intro r
  have:=ZiC B (r:=r+K+1) (gs.map fun g=>(g.d,g.b)) (Zhl K gs h r) (by simpa using hl) (by simpa [bytesG,Function.comp_def] using hc)
  simp only [List.map_map,Function.comp_def] at this
  rw [show gs.map (fun x=>x.b)=gs.map (·.b) from rfl,hadj,if_pos rfl,show r+K+1+20=r+20+(K+1) by lia] at this
  exact this
 ·have:=ZiE B (gs.map Gi.ni) K (fun p hp=>by obtain ⟨g,hg,rfl⟩:=List.mem_map.mp hp;exact ⟨(h g hg).1.dc,(h g hg).2⟩) (by
   rcases hmax with e | ⟨g,hg,e⟩
   ·exact .inl e
   ·exact .inr ⟨g.ni,List.mem_map_of_mem hg,e⟩) (by simpa using hl) (by rw [Zby];exact hc)
  rw [hmd,Zby] at this
  exact this
 ·apply wk_of B _ (gs.map Gi.wi) K
  ·rw [hmw];exact Zoz B _
  ·intro w hw;obtain ⟨g,hg,rfl⟩:=List.mem_map.mp hw;exact ⟨(h g hg).1.wk,(h g hg).2⟩
 ·intro p hp
  rcases List.mem_cons.mp hp with rfl | hp
  ·exact ⟨seqpe K gs h,fun n=>rfl,hq⟩
  ·exact Zhk K gs 0 h p hp
theorem ZmR (B:Base T) {Q:D→Prop} (g:Gi) (n:Nat) (hn:n < 128 ^ 100) (h:Good T Q g.d g.b g.k g.ns) (hc:g.b.length < 65536) (hq:Q (.tuple [.str sTagged,.int (n:Nat),g.d])) :
  Good T Q (.tuple [.str sTagged,.int (n:Nat),g.d]) (tlv (tagB n) g.b) (g.k+1) (([],.tuple [.str sTagged,.int (n:Nat),g.d])::nodesFrom 0 [g.wi]):=by
 have hg:∀x∈[g],GiOk T Q g.k x:=by intro x hx;simp only [List.mem_singleton] at hx;subst hx;exact ⟨h,Nat.le_refl _⟩
 have hpe:∀m,D.peq (m+2+2*(g.k+1)) (.tuple [.str sTagged,.int (n:Nat),g.d]) (.tuple [.str sTagged,.int (n:Nat),g.d]) = .ok true:=by
  intro m
  have:=h.pe (m+1)
  rw [show m+1+2+2*g.k=m+2+2*g.k+1 by lia] at this
  rw [show m+2+2*(g.k+1)=(m+2+2*g.k+1)+1 by exact (Nat.add_assoc _ _ _).symm]
  exact ZeE _ _ (mem3 (ZbV _ _) (ZiG _ _) this)
 refine ⟨?_,dc_tag B n hn g.d g.b g.k h.dc hc,fun r j dep hj=>Zot B hn g.b hc j hj dep,?_,hpe,?_⟩
 ·intro r
  have h1:=h.en r
  rw [show r+20+g.k=r+g.k+1+19 by exact Nat.add_right_comm _ _ _] at h1
  have:=Zoq B (r:=r+g.k+1) n hn g.d g.b h1 hc
  rw [show r+g.k+1+20=r+20+(g.k+1) by lia] at this
  exact this
 ·apply wk_of B _ [g.wi] g.k
  ·exact ZjO B _ _
  ·intro w hw;simp only [List.mem_singleton] at hw;subst hw;exact ⟨h.wk,Nat.le_refl _⟩
 ·intro p hp
  rcases List.mem_cons.mp hp with rfl | hp
  ·exact ⟨hpe,fun n=>rfl,hq⟩
  ·exact Zhk g.k [g] 0 hg p hp
end DK.Internal.B
end
section
set_option backward.match.sparseCases false
set_option genSizeOf false
set_option genCtorIdx false
namespace DK.Internal.B
open PySem
set_option maxRecDepth 20000
noncomputable def ct6a:C:=(.tup (.cons (.k (.bytes [])) (.cons (.k (.bytes [65])) (.cons (.k (.bytes [194,128])) (.cons (.k (.bytes [225,128,128])) (.cons (.k (.bytes [241,128,128,128])) .nil))))))
noncomputable def ct6b:C:=(.tup (.cons (.tup (.cons (.k (.bytes [])) (.cons (.k (.bytes [0])) (.cons (.k (.bytes [127])) (.cons (.k (.bytes [194,128])) (.cons (.k (.bytes [223,191])) (.cons (.k (.bytes [224,160,128])) (.cons (.k (.bytes [224,191,191])) (.cons (.k (.bytes [225,128,128])) (.cons (.k (.bytes [236,191,191])) (.cons (.k (.bytes [237,128,128])) (.cons (.k (.bytes [237,159,191])) (.cons (.k (.bytes [238,128,128])) .nil))))))))))))) (.cons (.tup (.cons (.k (.bytes [239,191,191])) (.cons (.k (.bytes [240,144,128,128])) (.cons (.k (.bytes [240,191,191,191])) (.cons (.k (.bytes [241,128,128,128])) (.cons (.k (.bytes [243,191,191,191])) (.cons (.k (.bytes [244,128,128,128])) (.cons (.k (.bytes [244,143,191,191])) (.cons (.k (.bytes [65])) (.cons (.k (.bytes [195,169])) (.cons (.k (.bytes [226,130,172])) (.cons (.k (.bytes [240,159,152,128])) (.cons (.k (.bytes [242,160,160,160])) .nil))))))))))))) (.cons (.tup (.cons (.k (.bytes [128])) (.cons (.k (.bytes [193,191])) (.cons (.k (.bytes [241,128,128])) (.cons (.k (.bytes [194,127])) (.cons (.k (.bytes [223,192])) (.cons (.k (.bytes [194])) (.cons (.k (.bytes [224,159,191])) (.cons (.k (.bytes [224,192,128])) (.cons (.k (.bytes [225,127,128])) (.cons (.k (.bytes [239,192,128])) (.cons (.k (.bytes [237,127,128])) (.cons (.k (.bytes [237,160,128])) .nil))))))))))))) (.cons (.tup (.cons (.k (.bytes [225,128,127])) (.cons (.k (.bytes [225,128,192])) (.cons (.k (.bytes [225,128])) (.cons (.k (.bytes [240,143,191,191])) (.cons (.k (.bytes [240,192,128,128])) (.cons (.k (.bytes [241,127,128,128])) (.cons (.k (.bytes [241,192,128,128])) (.cons (.k (.bytes [244,127,128,128])) (.cons (.k (.bytes [244,144,128,128])) (.cons (.k (.bytes [241,128,127,128])) (.cons (.k (.bytes [241,128,128,192])) (.cons (.k (.bytes [245,128,128,128])) .nil))))))))))))) .nil)))))
noncomputable def ct7a:C:=(.tup (.cons (.k (.bytes [])) (.cons (.k (.bytes [90])) (.cons (.k (.bytes [97,57])) (.cons (.k (.bytes [32,40])) .nil)))))
noncomputable def ct7b:C:=(.tup (.cons (.tup (.cons (.k (.bytes [])) (.cons (.k (.bytes [65])) (.cons (.k (.bytes [90])) (.cons (.k (.bytes [97])) (.cons (.k (.bytes [122])) (.cons (.k (.bytes [48])) (.cons (.k (.bytes [57])) (.cons (.k (.bytes [32,39,40])) (.cons (.k (.bytes [41,43,44])) (.cons (.k (.bytes [45,46,47])) (.cons (.k (.bytes [58,61,63])) (.cons (.k (.bytes [72,101,108,108,111,44,32,87,111,114,108,100])) .nil))))))))))))) (.cons (.tup (.cons (.k (.bytes [64])) (.cons (.k (.bytes [91])) (.cons (.k (.bytes [96])) (.cons (.k (.bytes [123])) (.cons (.k (.bytes [42])) (.cons (.k (.bytes [38])) (.cons (.k (.bytes [59])) (.cons (.k (.bytes [60])) (.cons (.k (.bytes [62])) (.cons (.k (.bytes [95])) (.cons (.k (.bytes [0])) (.cons (.k (.bytes [233])) .nil))))))))))))) .nil)))
noncomputable def ct8:C:=(.tup (.cons (.tup (.cons (.k (.bytes [50,48,50,52,48,50,50,57,50,51,53,57,53,57,90])) (.cons (.k (.bytes [50,48,48,48,48,50,50,57,48,48,48,48,48,48,90])) (.cons (.k (.bytes [48,48,48,48,48,50,50,57,48,48,48,48,48,48,90])) (.cons (.k (.bytes [57,57,57,57,49,50,51,49,50,51,53,57,53,57,46,53,90])) (.cons (.k (.bytes [50,48,50,51,48,52,51,48,49,48,49,48,49,48,46,48,53,90])) (.cons (.k (.bytes [50,48,50,51,48,50,50,56,49,50,48,48,48,48,90])) (.cons (.k (.bytes [50,48,50,51,48,49,51,49,48,48,48,48,48,48,46,49,50,51,52,53,54,55,56,57,90])) (.cons (.k (.bytes [50,48,50,51,48,54,51,48,48,48,48,48,48,48,90])) (.cons (.k (.bytes [50,48,50,51,48,57,51,48,48,48,48,48,48,48,90])) (.cons (.k (.bytes [50,48,50,51,49,49,51,48,48,48,48,48,48,48,90])) (.cons (.k (.bytes [50,48,50,51,48,53,51,49,48,48,48,48,48,48,90])) (.cons (.k (.bytes [49,57,48,48,48,50,50,56,48,48,48,48,48,48,46,57,90])) .nil))))))))))))) (.cons (.tup (.cons (.k (.bytes [])) (.cons (.k (.bytes [50,48,50,52,48,49,48,49,48,48,48,48,48,47,90])) (.cons (.k (.bytes [50,48,50,52,48,49,48,49,48,48,48,48,48,58,90])) (.cons (.k (.bytes [58,48,50,52,48,49,48,49,48,48,48,48,48,48,90])) (.cons (.k (.bytes [50,48,50,52,48,49,48,49,48,48,48,48,48,48,122])) (.cons (.k (.bytes [50,48,50,52,48,49,48,49,48,48,48,48,48,48,46,53])) (.cons (.k (.bytes [50,48,50,52,48,49,48,49,48,48,48,48,48,48,44,53,90])) (.cons (.k (.bytes [50,48,50,52,48,49,48,49,48,48,48,48,48,48,46,90])) (.cons (.k (.bytes [50,48,50,52,48,49,48,49,48,48,48,48,48,48,46,47,53,90])) (.cons (.k (.bytes [50,48,50,52,48,49,48,49,48,48,48,48,48,48,46,53,58,90])) (.cons (.k (.bytes [50,48,50,52,48,49,48,49,48,48,48,48,48,48,46,53,48,90])) (.cons (.k (.bytes [50,48,50,52,48,49,48,49,48,48,54,48,48,48,90])) .nil))))))))))))) (.cons (.tup (.cons (.k (.bytes [50,48,50,52,48,48,48,49,48,48,48,48,48,48,90])) (.cons (.k (.bytes [50,48,50,52,49,51,48,49,48,48,48,48,48,48,90])) (.cons (.k (.bytes [50,48,50,52,48,49,48,48,48,48,48,48,48,48,90])) (.cons (.k (.bytes [50,48,50,52,48,49,51,50,48,48,48,48,48,48,90])) (.cons (.k (.bytes [50,48,50,51,48,50,50,57,48,48,48,48,48,48,90])) (.cons (.k (.bytes [49,57,48,48,48,50,50,57,48,48,48,48,48,48,90])) (.cons (.k (.bytes [50,48,50,52,48,50,51,48,48,48,48,48,48,48,90])) (.cons (.k (.bytes [50,48,50,51,48,52,51,49,48,48,48,48,48,48,90])) (.cons (.k (.bytes [50,48,50,51,48,54,51,49,48,48,48,48,48,48,90])) (.cons (.k (.bytes [50,48,50,51,48,57,51,49,48,48,48,48,48,48,90])) (.cons (.k (.bytes [50,48,50,51,49,49,51,49,48,48,48,48,48,48,90])) (.cons (.k (.bytes [50,48,50,52,48,49,48,49,50,52,48,48,48,48,90])) .nil))))))))))))) (.cons (.tup (.cons (.k (.bytes [50,48,50,52,48,49,48,49,48,48,48,48,54,48,90])) (.cons (.k (.bytes [50,48,48,48,48,50,51,48,48,48,48,48,48,48,90])) (.cons (.k (.bytes [50,48,50,51,49,50,51,50,48,48,48,48,48,48,90])) (.cons (.k (.bytes [50,48,50,52,48,49,48,49,48,48,48,48,48,48,46,48,90])) (.cons (.k (.bytes [50,48,50,52,48,49,48,49,48,48,48,48,48,48])) (.cons (.k (.bytes [50,48,50,52,48,49,48,49,48,48,48,48,48,48,90,90])) (.cons (.k (.bytes [50,49,48,48,48,50,50,57,48,48,48,48,48,48,90])) (.cons (.k (.bytes [50,48,50,52,48,49,48,49,48,48,48,48,48,90])) (.cons (.k (.bytes [50,48,50,52,48,49,48,49,48,48,48,48,48,48,43,48,49,48,48])) (.cons (.k (.bytes [50,52,48,49,48,49,48,48,48,48,48,48,90])) (.cons (.k (.bytes [50,48,50,52,48,49,48,49,32,48,48,48,48,48,90])) (.cons (.k (.bytes [50,48,50,52,48,49,48,49,48,48,48,48,48,48,46,49,32,53,90])) .nil))))))))))))) .nil)))))
noncomputable def cjv:C:=(.tup (.cons (.tup (.cons (.k .none) (.cons (.lst (.cons (.k (.str sInt)) (.cons (.k (.int 5)) .nil))) (.cons (.tup .nil) (.cons (.tup (.cons (.k (.str [114,101,97,108])) (.cons (.k (.bytes [49])) .nil))) (.cons (.tup (.cons (.k (.str sNull)) (.cons (.k .none) .nil))) (.cons (.tup (.cons (.k (.str sInt)) .nil)) (.cons (.tup (.cons (.k (.str sInt)) (.cons (.k (.int 1)) (.cons (.k (.int 2)) .nil)))) (.cons (.tup (.cons (.k (.str sInt)) (.cons (.k (.bool true)) .nil))) (.cons (.tup (.cons (.k (.str sEnum)) (.cons (.k (.str [53])) .nil))) (.cons (.tup (.cons (.k (.str sBool)) (.cons (.k (.int 1)) .nil))) (.cons (.tup (.cons (.k (.str sBool)) (.cons (.k .none) .nil))) (.cons (.tup (.cons (.k (.str sBits)) (.cons (.k (.int 0)) .nil))) .nil))))))))))))) (.cons (.tup (.cons (.tup (.cons (.k (.str sBits)) (.cons (.k (.bool true)) (.cons (.k (.bytes [97])) .nil)))) (.cons (.tup (.cons (.k (.str sBits)) (.cons (.k (.int 0)) (.cons (.lst (.cons (.k (.int 0)) .nil)) .nil)))) (.cons (.tup (.cons (.k (.str sBits)) (.cons (.neg (.k (.int 1))) (.cons (.k (.bytes [0])) .nil)))) (.cons (.tup (.cons (.k (.str sBytes)) (.cons (.k (.str [97])) .nil))) (.cons (.tup (.cons (.k (.str sUtf8)) (.cons (.lst (.cons (.k (.int 65)) .nil)) .nil))) (.cons (.tup (.cons (.k (.str sOid)) (.cons (.tup (.cons (.k (.int 1)) (.cons (.k (.int 2)) .nil))) .nil))) (.cons (.tup (.cons (.k (.str sOid)) (.cons (.lst (.cons (.k (.int 1)) .nil)) .nil))) (.cons (.tup (.cons (.k (.str sOid)) (.cons (.lst (.cons (.k (.int 1)) (.cons (.k (.bool true)) .nil))) .nil))) (.cons (.tup (.cons (.k (.str sOid)) (.cons (.lst (.cons (.neg (.k (.int 1))) (.cons (.k (.int 3)) .nil))) .nil))) (.cons (.tup (.cons (.k (.str sOid)) (.cons (.lst (.cons (.k (.int 1)) (.cons (.k (.int 2)) (.cons (.neg (.k (.int 1))) .nil)))) .nil))) (.cons (.tup (.cons (.k (.str sSeq)) (.cons (.tup .nil) .nil))) (.cons (.tup (.cons (.k (.str sSet)) (.cons (.k .none) .nil))) .nil))))))))))))) (.cons (.tup (.cons (.tup (.cons (.k (.str sTagged)) (.cons (.neg (.k (.int 1))) (.cons (.tup (.cons (.k (.str sNull)) .nil)) .nil)))) (.cons (.tup (.cons (.k (.str sTagged)) (.cons (.k (.bool true)) (.cons (.tup (.cons (.k (.str sNull)) .nil)) .nil)))) (.cons (.tup (.cons (.k (.str sTagged)) (.cons (.k (.int 1)) .nil))) (.cons (.tup (.cons (.k (.str sSeq)) (.cons (.lst (.cons (.tup (.cons (.k (.str sNull)) .nil)) (.cons (.k (.int 5)) .nil))) .nil))) (.cons (.tup (.cons (.k (.str sSeq)) (.cons (.lst (.cons (.tup (.cons (.k (.str sInt)) (.cons (.k (.int 1)) .nil))) (.cons (.tup (.cons (.k (.str sInt)) (.cons (.k (.bool false)) .nil))) .nil))) .nil))) (.cons (.tup (.cons (.k (.str sSet)) (.cons (.lst (.cons (.tup (.cons (.k (.str sNull)) .nil)) (.cons (.tup (.cons (.k (.str sBool)) (.cons (.k (.bool true)) .nil))) .nil))) .nil))) (.cons (.tup (.cons (.k (.str sTagged)) (.cons (.k (.int 0)) (.cons (.tup (.cons (.k (.str sNull)) (.cons (.k (.int 1)) .nil))) .nil)))) (.cons (.tup (.cons (.k (.str sTagged)) (.cons (.k (.int 0)) (.cons (.k .none) .nil)))) (.cons (.tup (.cons (.k (.str sOid)) (.cons (.lst .nil) .nil))) (.cons (.tup (.cons (.k (.str sOid)) (.cons (.lst (.cons (.k (.int 2)) (.cons (.neg (.k (.int 1))) .nil))) .nil))) (.cons (.tup (.cons (.k (.str sSeq)) (.cons (.lst (.cons (.tup (.cons (.k (.str sOid)) (.cons (.lst (.cons (.k (.int 0)) (.cons (.k (.int 40)) .nil))) .nil))) .nil)) .nil))) (.cons (.tup (.cons (.k (.str sTime)) (.cons (.k (.str [50,48,50,52,48,49,48,49,48,48,48,48,48,48,90])) .nil))) .nil))))))))))))) .nil))))
noncomputable def cjr:C:=(.tup (.cons (.tup (.cons (.k (.bytes [1,1,1])) (.cons (.k (.bytes [1,0])) (.cons (.k (.bytes [1,2,255,255])) (.cons (.k (.bytes [2,0])) (.cons (.k (.bytes [2,2,0,127])) (.cons (.k (.bytes [2,2,255,128])) (.cons (.k (.bytes [10,2,0,0])) (.cons (.k (.bytes [5,1,0])) (.cons (.k (.bytes [6,0])) (.cons (.k (.bytes [6,3,42,128,1])) (.cons (.k (.bytes [3,0])) (.cons (.k (.bytes [10,0])) .nil))))))))))))) (.cons (.tup (.cons (.k (.bytes [160,0])) (.cons (.k (.bytes [160,4,5,0,5,0])) (.cons (.k (.bytes [191,30,2,5,0])) (.cons (.k (.bytes [191,128,31,2,5,0])) (.cons (.k (.bytes [7,0])) (.cons (.k (.bytes [192,2,5,0])) (.cons (.k (.bytes [159,2,5,0])) (.cons (.k (.bytes [48,1,5])) (.cons (.k (.bytes [48,2,4,1])) (.cons (.k (.bytes [48,1,191])) (.cons (.k (.bytes [48,2,191,159])) (.cons (.k (.bytes [49,6,2,1,2,2,1,1])) .nil))))))))))))) (.cons (.tup (.cons (.k (.bytes [5,129,0])) (.cons (.k (.bytes [4,129,1,97])) (.cons (.bin .Add (.k (.bytes [4,129,127])) (.bin .Mult (.k (.bytes [97])) (.k (.int 127)))) (.cons (.bin .Add (.k (.bytes [4,130,0,128])) (.bin .Mult (.k (.bytes [97])) (.k (.int 128)))) (.cons (.k (.bytes [4,128])) (.cons (.k (.bytes [48,128,5,0,0,0])) (.cons (.bin .Add (.k (.bytes [4,137])) (.bin .Mult (.k (.bytes [1])) (.k (.int 9)))) (.cons (.bin .Add (.k (.bytes [4,131,0,1,0])) (.bin .Mult (.k (.bytes [97])) (.k (.int 256)))) (.cons (.k (.bytes [2,130,0,1,5])) (.cons (.k (.bytes [4,132,0,0,0,1,97])) (.cons (.k (.bytes [1,129,1,255])) (.cons (.bin .Add (.k (.bytes [4,130,0,255])) (.bin .Mult (.k (.bytes [97])) (.k (.int 255)))) .nil))))))))))))) .nil))))
noncomputable def ZgJ:Ss:=(.cons (.ret (.bi .bytes (.cons (.bin .Add (.comp 2 (.last (.one 2) (.rng (.k (.int 7)) (.k (.int 0)) (-1)) (.cons (.cmp .Gt (.bin .RShift (.var 0) (.bin .Mult (.k (.int 7)) (.var 2))) (.k (.int 0))) .nil) (.bin .Add (.bin .Mod (.bin .RShift (.var 0) (.bin .Mult (.k (.int 7)) (.var 2))) (.k (.int 128))) (.k (.int 128))))) (.lst (.cons (.bin .Mod (.var 0) (.k (.int 128))) .nil))) .nil)))
 .nil)
noncomputable def Zfc:Fn:=⟨1,1,ZgJ⟩
noncomputable def Zem:Ss:=(.cons (.ife (.cmp .Lt (.bi .len (.cons (.var 1) .nil)) (.k (.int 128))) (.cons (.ret (.bin .Add (.bin .Add (.var 0) (.bi .bytes (.cons (.lst (.cons (.bi .len (.cons (.var 1) .nil)) .nil)) .nil))) (.var 1)))
 .nil) .nil)
 (.cons (.ife (.cmp .Lt (.bi .len (.cons (.var 1) .nil)) (.k (.int 256))) (.cons (.ret (.bin .Add (.bin .Add (.var 0) (.bi .bytes (.cons (.lst (.cons (.k (.int 129)) (.cons (.bi .len (.cons (.var 1) .nil)) .nil))) .nil))) (.var 1)))
 .nil) .nil)
 (.cons (.ret (.bin .Add (.bin .Add (.var 0) (.bi .bytes (.cons (.lst (.cons (.k (.int 130)) (.cons (.bin .FloorDiv (.bi .len (.cons (.var 1) .nil)) (.k (.int 256))) (.cons (.bin .Mod (.bi .len (.cons (.var 1) .nil)) (.k (.int 256))) .nil)))) .nil))) (.var 1)))
 .nil)))
noncomputable def Zfd:Fn:=⟨2,2,Zem⟩
noncomputable def ZdL:Ss:=(.cons (.asg 3 (.idx (.tup (.cons (.k (.int 0)) (.cons (.k (.int 127)) (.cons (.k (.int 128)) (.cons (.k (.int 255)) (.cons (.k (.int 256)) (.cons (.k (.int 32767)) (.cons (.k (.int 32768)) (.cons (.k (.int 8388608)) (.cons (.bin .LShift (.k (.int 1)) (.k (.int 255))) (.cons (.k (.int 1060633355019493427735970913814670478353834735484420927472359568648472795731930295427550799099784)) (.cons (.bin .Mod (.var 0) (.k (.int 1000))) (.cons (.bin .Mod (.var 0) (.bin .LShift (.k (.int 1)) (.k (.int 320)))) .nil))))))))))))) (.bin .Mod (.var 1) (.k (.int 12)))))
 (.cons (.asg 4 (.bin .Add (.k (.int 1)) (.bi .sum (.cons (.comp 2 (.last (.one 6) (.rng (.k (.int 1)) (.k (.int 44)) 1) (.cons (.cmp .Gt (.bin .RShift (.var 3) (.bin .Sub (.bin .Mult (.k (.int 8)) (.var 6)) (.k (.int 1)))) (.k (.int 0))) .nil) (.k (.int 1)))) .nil))))
 (.cons (.ife (.cmp .Eq (.bin .Mod (.var 2) (.k (.int 2))) (.k (.int 1))) (.cons (.asg 3 (.bin .Sub (.neg (.k (.int 1))) (.var 3)))
 .nil) .nil)
 (.cons (.ret (.tup (.cons (.var 3) (.cons (.bi .bytes (.cons (.comp 2 (.last (.one 6) (.rng (.k (.int 0)) (.var 4) 1) .nil (.bin .Mod (.bin .RShift (.var 3) (.bin .Mult (.k (.int 8)) (.bin .Sub (.bin .Sub (.var 4) (.k (.int 1))) (.var 6)))) (.k (.int 256))))) .nil)) .nil))))
 .nil))))
noncomputable def ZdQ:Fn:=⟨3,5,ZdL⟩
noncomputable def Zdw:Ss:=(.cons (.unp [3,4,5] (.tup (.cons (.bin .Mod (.var 0) (.k (.int 4))) (.cons (.idx (.tup (.cons (.k (.int 0)) (.cons (.k (.int 1)) (.cons (.k (.int 39)) (.cons (.k (.int 40)) (.cons (.k (.int 47)) (.cons (.k (.int 48)) (.cons (.k (.int 16303)) (.cons (.k (.int 16304)) .nil))))))))) (.bin .Mod (.var 1) (.k (.int 8)))) (.cons (.idx (.tup (.cons (.k (.int 0)) (.cons (.k (.int 127)) (.cons (.k (.int 128)) (.cons (.k (.int 16383)) (.cons (.k (.int 16384)) (.cons (.k (.int 1099511627776)) .nil))))))) (.bin .Mod (.bin .Add (.var 0) (.var 1)) (.k (.int 6)))) .nil)))))
 (.cons (.asg 6 (.or (.cmp .Eq (.var 3) (.k (.int 2))) (.and (.cmp .Lt (.var 3) (.k (.int 2))) (.cmp .Lt (.var 4) (.k (.int 40))))))
 (.cons (.asg 7 (.bin .Add (.call 28 (.cons (.bin .Add (.bin .Mult (.k (.int 40)) (.var 3)) (.var 4)) .nil)) (.bin .Mult (.call 28 (.cons (.var 5) .nil)) (.bin .Mod (.var 2) (.k (.int 3))))))
 (.cons (.ife (.not (.var 6)) (.cons (.asg 7 (.bin .Add (.var 7) (.k (.bytes [129]))))
 .nil) .nil)
 (.cons (.ret (.tup (.cons (.tup (.cons (.k (.str sOid)) (.cons (.bin .Add (.lst (.cons (.var 3) (.cons (.var 4) .nil))) (.bin .Mult (.lst (.cons (.var 5) .nil)) (.bin .Mod (.var 2) (.k (.int 3))))) .nil))) (.cons (.call 29 (.cons (.k (.bytes [6])) (.cons (.var 7) .nil))) (.cons (.var 6) .nil)))))
 .nil)))))
noncomputable def Zfe:Fn:=⟨3,8,Zdw⟩
noncomputable def ZdM:Ss:=(.cons (.ife (.cmp .Eq (.var 0) (.k (.int 6))) (.cons (.ret (.tup (.cons (.bin .Add (.idx ct6a (.bin .Mod (.var 1) (.k (.int 5)))) (.idx (.idx ct6b (.bin .Mod (.var 2) (.k (.int 4)))) (.bin .Mod (.var 3) (.k (.int 12))))) (.cons (.cmp .Lt (.bin .Mod (.var 2) (.k (.int 4))) (.k (.int 2))) .nil))))
 .nil) .nil)
 (.cons (.ife (.cmp .Eq (.var 0) (.k (.int 7))) (.cons (.ret (.tup (.cons (.bin .Add (.bin .Add (.idx ct7a (.bin .Mod (.var 1) (.k (.int 4)))) (.idx (.idx ct7b (.bin .Mod (.var 2) (.k (.int 2)))) (.bin .Mod (.var 3) (.k (.int 12))))) (.k (.bytes [122,57]))) (.cons (.cmp .Eq (.bin .Mod (.var 2) (.k (.int 2))) (.k (.int 0))) .nil))))
 .nil) .nil)
 (.cons (.ret (.tup (.cons (.idx (.idx ct8 (.bin .Mod (.var 2) (.k (.int 4)))) (.bin .Mod (.var 3) (.k (.int 12)))) (.cons (.cmp .Eq (.bin .Mod (.var 2) (.k (.int 4))) (.k (.int 0))) .nil))))
 .nil)))
noncomputable def Zex:Fn:=⟨4,4,ZdM⟩
noncomputable def Zgo:Ss:=(.cons (.asg 3 (.idx (.idx cjv (.bin .Mod (.var 1) (.k (.int 3)))) (.bin .Mod (.var 2) (.k (.int 12)))))
 (.cons (.asg 4 (.idx (.idx cjr (.bin .Mod (.var 0) (.k (.int 3)))) (.bin .Mod (.var 2) (.k (.int 12)))))
 (.cons (.ret (.tup (.cons (.var 3) (.cons (.var 4) (.cons (.k (.bool false)) .nil)))))
 .nil)))
noncomputable def Zey:Fn:=⟨3,5,Zgo⟩
noncomputable def Zam:Ss:=(.cons (.ife (.cmp .Lt (.var 0) (.k (.int 2))) (.cons (.unp [4,5] (.call 30 (.cons (.var 1) (.cons (.var 2) (.cons (.var 3) .nil)))))
 (.cons (.ret (.tup (.cons (.tup (.cons (.idx (.tup (.cons (.k (.str sInt)) (.cons (.k (.str sEnum)) .nil))) (.var 0)) (.cons (.var 4) .nil))) (.cons (.call 29 (.cons (.idx (.tup (.cons (.k (.bytes [2])) (.cons (.k (.bytes [10])) .nil))) (.var 0)) (.cons (.var 5) .nil))) (.cons (.k (.bool true)) .nil)))))
 .nil)) .nil)
 (.cons (.ife (.cmp .Eq (.var 0) (.k (.int 2))) (.cons (.unp [6,7] (.idx (.tup (.cons (.tup (.cons (.k (.bytes [])) (.cons (.k (.int 0)) .nil))) (.cons (.tup (.cons (.k (.bytes [0])) (.cons (.k (.int 7)) .nil))) (.cons (.tup (.cons (.k (.bytes [128])) (.cons (.k (.int 7)) .nil))) (.cons (.tup (.cons (.k (.bytes [255])) (.cons (.k (.int 0)) .nil))) (.cons (.tup (.cons (.k (.bytes [1,64])) (.cons (.k (.int 6)) .nil))) (.cons (.tup (.cons (.k (.bytes [165,240])) (.cons (.k (.int 4)) .nil))) (.cons (.tup (.cons (.k (.bytes [255,1,2])) (.cons (.k (.int 1)) .nil))) .nil)))))))) (.bin .Mod (.var 2) (.k (.int 7)))))
 (.cons (.ret (.tup (.cons (.tup (.cons (.k (.str sBits)) (.cons (.bin .Mod (.var 1) (.k (.int 9))) (.cons (.var 6) .nil)))) (.cons (.call 29 (.cons (.k (.bytes [3])) (.cons (.bin .Add (.bi .bytes (.cons (.lst (.cons (.bin .Mod (.var 1) (.k (.int 9))) .nil)) .nil)) (.var 6)) .nil))) (.cons (.cmp .LtE (.bin .Mod (.var 1) (.k (.int 9))) (.var 7)) .nil)))))
 .nil)) .nil)
 (.cons (.ife (.cmp .Eq (.var 0) (.k (.int 3))) (.cons (.asg 6 (.bin .Mult (.bi .bytes (.cons (.lst (.cons (.bin .Mod (.var 1) (.k (.int 256))) .nil)) .nil)) (.idx (.tup (.cons (.k (.int 0)) (.cons (.k (.int 1)) (.cons (.k (.int 5)) (.cons (.k (.int 126)) (.cons (.k (.int 127)) (.cons (.k (.int 128)) (.cons (.k (.int 255)) (.cons (.k (.int 256)) .nil))))))))) (.bin .Mod (.var 2) (.k (.int 8))))))
 (.cons (.ret (.tup (.cons (.tup (.cons (.k (.str sBytes)) (.cons (.var 6) .nil))) (.cons (.call 29 (.cons (.k (.bytes [4])) (.cons (.var 6) .nil))) (.cons (.k (.bool true)) .nil)))))
 .nil)) .nil)
 (.cons (.ife (.cmp .Eq (.var 0) (.k (.int 4))) (.cons (.ret (.idx (.tup (.cons (.tup (.cons (.tup (.cons (.k (.str sNull)) .nil)) (.cons (.k (.bytes [5,0])) (.cons (.k (.bool true)) .nil)))) (.cons (.tup (.cons (.tup (.cons (.k (.str sBool)) (.cons (.k (.bool true)) .nil))) (.cons (.k (.bytes [1,1,255])) (.cons (.k (.bool true)) .nil)))) (.cons (.tup (.cons (.tup (.cons (.k (.str sBool)) (.cons (.k (.bool false)) .nil))) (.cons (.k (.bytes [1,1,0])) (.cons (.k (.bool true)) .nil)))) .nil)))) (.bin .Mod (.var 2) (.k (.int 3)))))
 .nil) .nil)
 (.cons (.ife (.cmp .Eq (.var 0) (.k (.int 5))) (.cons (.ret (.call 31 (.cons (.var 1) (.cons (.var 2) (.cons (.var 3) .nil)))))
 .nil) .nil)
 (.cons (.ife (.cmp .Eq (.var 0) (.k (.int 9))) (.cons (.ret (.call 33 (.cons (.var 1) (.cons (.var 2) (.cons (.var 3) .nil)))))
 .nil) .nil)
 (.cons (.unp [8,9] (.idx (.tup (.cons (.tup (.cons (.k (.str sUtf8)) (.cons (.k (.bytes [12])) .nil))) (.cons (.tup (.cons (.k (.str sPrint)) (.cons (.k (.bytes [19])) .nil))) (.cons (.tup (.cons (.k (.str sTime)) (.cons (.k (.bytes [24])) .nil))) .nil)))) (.bin .Sub (.var 0) (.k (.int 6)))))
 (.cons (.unp [6,10] (.call 32 (.cons (.var 0) (.cons (.var 1) (.cons (.var 2) (.cons (.var 3) .nil))))))
 (.cons (.ret (.tup (.cons (.tup (.cons (.var 8) (.cons (.var 6) .nil))) (.cons (.call 29 (.cons (.var 9) (.cons (.var 6) .nil))) (.cons (.var 10) .nil)))))
 .nil)))))))))
noncomputable def Zez:Fn:=⟨4,11,Zam⟩
noncomputable def Zgp:Ss:=(.cons (.asg 3 (.k (.int 0)))
 (.cons (.tri Option.none (.call 20 (.cons (.var 0) .nil)) 3 (.k (.int 1)))
 (.cons (.tri Option.none (.call 24 (.cons (.var 1) (.cons (.var 2) .nil))) 3 (.bin .Add (.var 3) (.k (.int 1))))
 (.cons (.ret (.cmp .Eq (.var 3) (.k (.int 2))))
 .nil))))
noncomputable def Zfw:Fn:=⟨3,4,Zgp⟩
noncomputable def ZJ:Ss:=(.cons (.ife (.and (.cmp .Eq (.idx (.var 9) (.k (.int 0))) (.k (.str sBool))) (.not (.cmp .Is (.bi .typ (.cons (.idx (.var 9) (.k (.int 1))) .nil)) (.k (.typ .tBool))))) (.cons (.ret (.k (.bool false)))
 .nil) .nil)
 (.cons (.ife (.and (.cmp .In (.idx (.var 9) (.k (.int 0))) (.tup (.cons (.k (.str sInt)) (.cons (.k (.str sEnum)) (.cons (.k (.str sTagged)) .nil))))) (.not (.cmp .Is (.bi .typ (.cons (.idx (.var 9) (.k (.int 1))) .nil)) (.k (.typ .tInt))))) (.cons (.ret (.k (.bool false)))
 .nil) .nil)
 .nil))
noncomputable def Zed:Ss:=(.cons (.unp [1,2,3,4,5] (.var 0))
 (.cons (.asg 6 (.call 20 (.cons (.var 1) .nil)))
 (.cons (.ife (.or (.not (.cmp .Is (.bi .typ (.cons (.var 6) .nil)) (.k (.typ .tBytes)))) (.cmp .NotEq (.var 6) (.var 3))) (.cons (.ret (.k (.bool false)))
 .nil) .nil)
 (.cons (.asg 7 (.call 27 (.cons (.call 24 (.cons (.var 3) (.cons (.var 4) .nil))) .nil)))
 (.cons (.ife (.or (.cmp .NotEq (.var 7) (.var 5)) (.or (.cmp .NotEq (.call 27 (.cons (.var 1) .nil)) (.var 5)) (.cmp .NotEq (.var 1) (.var 2)))) (.cons (.ret (.k (.bool false)))
 .nil) .nil)
 (.cons (.forr (.many [8,9]) (.seq (.var 7)) ZJ)
 (.cons (.ret (.k (.bool true)))
 .nil)))))))
noncomputable def Zee:Fn:=⟨1,10,Zed⟩
noncomputable def Zgq:Ss:=(.cons (.asg 4 (.bin .Add (.lst (.cons (.tup (.cons (.lst .nil) (.cons (.var 1) .nil))) .nil)) (.comp 5 (.more (.many [7,8]) (.enum (.var 3)) .nil (.last (.many [9,10]) (.seq (.idx (.var 8) (.k (.int 4)))) .nil (.tup (.cons (.bin .Add (.lst (.cons (.var 7) .nil)) (.var 9)) (.cons (.var 10) .nil))))))))
 (.cons (.asg 5 (.bin .Add (.k (.int 1)) (.bi .max (.cons (.bin .Add (.lst (.cons (.k (.int 0)) .nil)) (.comp 2 (.last (.one 7) (.seq (.var 3)) .nil (.idx (.var 7) (.k (.int 3)))))) .nil))))
 (.cons (.ret (.tup (.cons (.var 0) (.cons (.var 1) (.cons (.call 29 (.cons (.var 2) (.cons (.bi .join (.cons (.comp 2 (.last (.one 7) (.seq (.var 3)) .nil (.idx (.var 7) (.k (.int 2))))) .nil)) .nil))) (.cons (.var 5) (.cons (.var 4) .nil)))))))
 .nil)))
noncomputable def ZeA:Fn:=⟨4,6,Zgq⟩
noncomputable def Zfx:Ss:=(.cons (.ret (.call 37 (.cons (.tup (.cons (.var 0) (.cons (.comp 2 (.last (.one 4) (.seq (.var 2)) .nil (.idx (.var 4) (.k (.int 0))))) .nil))) (.cons (.tup (.cons (.var 0) (.cons (.comp 2 (.last (.one 4) (.seq (.var 2)) .nil (.idx (.var 4) (.k (.int 1))))) .nil))) (.cons (.var 1) (.cons (.var 2) .nil))))))
 .nil)
noncomputable def Zef:Fn:=⟨3,3,Zfx⟩
noncomputable def Zfo:Ss:=(.cons (.asg 2 (.bin .Add (.k (.bytes [191])) (.call 28 (.cons (.var 0) .nil))))
 (.cons (.ife (.cmp .Lt (.var 0) (.k (.int 31))) (.cons (.asg 2 (.bi .bytes (.cons (.lst (.cons (.bin .Add (.k (.int 160)) (.var 0)) .nil)) .nil)))
 .nil) .nil)
 (.cons (.ret (.call 37 (.cons (.tup (.cons (.k (.str sTagged)) (.cons (.var 0) (.cons (.idx (.var 1) (.k (.int 0))) .nil)))) (.cons (.tup (.cons (.k (.str sTagged)) (.cons (.var 0) (.cons (.idx (.var 1) (.k (.int 1))) .nil)))) (.cons (.var 2) (.cons (.lst (.cons (.var 1) .nil)) .nil))))))
 .nil)))
noncomputable def Zff:Fn:=⟨2,3,Zfo⟩
noncomputable def ZaV:Ss:=(.cons (.unp [9,10,11] (.call 34 (.cons (.bin .Mod (.var 3) (.k (.int 10))) (.cons (.var 4) (.cons (.var 5) (.cons (.var 6) .nil))))))
 (.cons (.asg 12 (.idx (.call 34 (.cons (.bin .Mod (.var 3) (.k (.int 10))) (.cons (.var 4) (.cons (.var 5) (.cons (.var 6) .nil))))) (.k (.int 0))))
 (.cons (.ife (.var 11) (.cons (.asg 1 (.bin .Add (.var 1) (.lst (.cons (.tup (.cons (.var 9) (.cons (.var 12) (.cons (.var 10) (.cons (.k (.int 0)) (.cons (.lst (.cons (.tup (.cons (.lst .nil) (.cons (.var 12) .nil))) .nil)) .nil)))))) .nil))))
 (.cons (.ife (.not (.call 36 (.cons (.idx (.var 1) (.neg (.k (.int 1)))) .nil))) (.cons (.ret (.k (.bool false)))
 .nil) .nil)
 .nil)) (.cons (.asg 2 (.var 10))
 (.cons (.ife (.or (.not (.call 35 (.cons (.var 9) (.cons (.var 10) (.cons (.k (.int 9)) .nil))))) (.cmp .NotEq (.var 9) (.var 12))) (.cons (.ret (.k (.bool false)))
 .nil) .nil)
 .nil)))
 (.cons (.ife (.cmp .Eq (.bin .Mod (.var 7) (.k (.int 5))) (.k (.int 1))) (.cons (.asg 1 (.bin .Add (.var 1) (.slc (.var 1) (.neg (.k (.int 1))) (.k .none))))
 .nil) (.cons (.ife (.cmp .Eq (.bin .Mod (.var 7) (.k (.int 5))) (.k (.int 2))) (.cons (.asg 1 (.lst (.cons (.call 38 (.cons (.k (.str sSeq)) (.cons (.k (.bytes [48])) (.cons (.var 1) .nil)))) .nil)))
 .nil) (.cons (.ife (.cmp .Eq (.bin .Mod (.var 7) (.k (.int 5))) (.k (.int 3))) (.cons (.asg 13 (.call 38 (.cons (.k (.str sSet)) (.cons (.k (.bytes [49])) (.cons (.var 1) .nil)))))
 (.cons (.asg 14 (.comp 2 (.last (.one 21) (.seq (.var 1)) .nil (.idx (.var 21) (.k (.int 2))))))
 (.cons (.ife (.cmp .Eq (.var 14) (.bi .sorted (.cons (.var 14) .nil))) (.cons (.asg 1 (.lst (.cons (.var 13) .nil)))
 .nil) (.cons (.ife (.not (.call 35 (.cons (.idx (.var 13) (.k (.int 0))) (.cons (.idx (.var 13) (.k (.int 2))) (.cons (.k (.int 9)) .nil))))) (.cons (.ret (.k (.bool false)))
 .nil) .nil)
 .nil))
 .nil))) (.cons (.ife (.and (.cmp .Eq (.bin .Mod (.var 7) (.k (.int 5))) (.k (.int 4))) (.cmp .Gt (.bi .len (.cons (.var 1) .nil)) (.k (.int 0)))) (.cons (.asg 1 (.bin .Add (.slc (.var 1) (.k .none) (.neg (.k (.int 1)))) (.lst (.cons (.call 39 (.cons (.idx (.tup (.cons (.k (.int 0)) (.cons (.k (.int 1)) (.cons (.k (.int 30)) (.cons (.k (.int 31)) (.cons (.k (.int 127)) (.cons (.k (.int 128)) (.cons (.k (.int 16384)) (.cons (.k (.int 1099511627776)) .nil))))))))) (.bin .Mod (.var 8) (.k (.int 8)))) (.cons (.idx (.var 1) (.neg (.k (.int 1)))) .nil))) .nil))))
 .nil) .nil)
 .nil))
 .nil))
 .nil))
 .nil))))
noncomputable def ZfE:Ss:=(.cons (.ife (.not (.call 35 (.cons (.k .none) (.cons (.var 18) (.cons (.var 19) .nil))))) (.cons (.ret (.k (.bool false)))
 .nil) .nil)
 .nil)
noncomputable def c_law:Ss:=(.cons (.ife (.cmp .Lt (.bi .len (.cons (.var 0) .nil)) (.k (.int 20))) (.cons (.ret (.k (.bool true)))
 .nil) .nil)
 (.cons (.asg 1 (.lst .nil))
 (.cons (.asg 2 (.k (.bytes [7,0])))
 (.cons (.forr (.many [3,4,5,6,7,8]) (.seq (.tup (.cons (.tup (.cons (.idx (.var 0) (.k (.int 0))) (.cons (.idx (.var 0) (.k (.int 1))) (.cons (.idx (.var 0) (.k (.int 2))) (.cons (.idx (.var 0) (.k (.int 3))) (.cons (.idx (.var 0) (.k (.int 4))) (.cons (.idx (.var 0) (.k (.int 5))) .nil))))))) (.cons (.tup (.cons (.idx (.var 0) (.k (.int 6))) (.cons (.idx (.var 0) (.k (.int 7))) (.cons (.idx (.var 0) (.k (.int 8))) (.cons (.idx (.var 0) (.k (.int 9))) (.cons (.idx (.var 0) (.k (.int 10))) (.cons (.idx (.var 0) (.k (.int 11))) .nil))))))) (.cons (.tup (.cons (.idx (.var 0) (.k (.int 12))) (.cons (.idx (.var 0) (.k (.int 13))) (.cons (.idx (.var 0) (.k (.int 14))) (.cons (.idx (.var 0) (.k (.int 15))) (.cons (.idx (.var 0) (.k (.int 16))) (.cons (.idx (.var 0) (.k (.int 17))) .nil))))))) .nil))))) ZaV)
 (.cons (.asg 15 (.call 38 (.cons (.k (.str sSeq)) (.cons (.k (.bytes [48])) (.cons (.var 1) .nil)))))
 (.cons (.ife (.not (.call 36 (.cons (.var 15) .nil))) (.cons (.ret (.k (.bool false)))
 .nil) .nil)
 (.cons (.asg 10 (.idx (.var 15) (.k (.int 2))))
 (.cons (.asg 14 (.comp 2 (.last (.one 21) (.seq (.var 1)) .nil (.idx (.var 21) (.k (.int 2))))))
 (.cons (.asg 16 (.bin .Mod (.idx (.var 0) (.k (.int 19))) (.bin .Add (.bi .len (.cons (.var 1) .nil)) (.k (.int 1)))))
 (.cons (.asg 17 (.call 29 (.cons (.k (.bytes [48])) (.cons (.bi .join (.cons (.bin .Add (.bin .Add (.slc (.var 14) (.k .none) (.var 16)) (.lst (.cons (.var 2) .nil))) (.slc (.var 14) (.var 16) (.k .none))) .nil)) .nil))))
 (.cons (.forr (.many [18,19]) (.seq (.tup (.cons (.tup (.cons (.var 10) (.cons (.bin .Sub (.idx (.var 15) (.k (.int 3))) (.k (.int 1))) .nil))) (.cons (.tup (.cons (.slc (.var 10) (.k .none) (.bin .Mod (.idx (.var 0) (.k (.int 18))) (.bi .len (.cons (.var 10) .nil)))) (.cons (.k (.int 9)) .nil))) (.cons (.tup (.cons (.bin .Add (.var 10) (.k (.bytes [5,0]))) (.cons (.k (.int 9)) .nil))) (.cons (.tup (.cons (.var 17) (.cons (.k (.int 9)) .nil))) .nil)))))) ZfE)
 (.cons (.ret (.k (.bool true)))
 .nil))))))))))))
noncomputable def Zjz:Fn:=⟨1,20,c_law⟩
structure Law3 (T:Text):Prop extends Base T where
 f28:T.fns[28]?=some Zfc
 f29:T.fns[29]?=some Zfd
 f30:T.fns[30]?=some ZdQ
 f31:T.fns[31]?=some Zfe
 f32:T.fns[32]?=some Zex
 f33:T.fns[33]?=some Zey
 f34:T.fns[34]?=some Zez
 f35:T.fns[35]?=some Zfw
 f36:T.fns[36]?=some Zee
 f37:T.fns[37]?=some ZeA
 f38:T.fns[38]?=some Zef
 f39:T.fns[39]?=some Zff
 f40:T.fns[40]?=some Zjz
noncomputable def T3L:Text:=⟨[Zec,ZcN,Zer,Zdu,ZdP,Zes,Zet,ZeV,Zeu,Zft,ZeW,ZcO,Zfu,ZgF,ZeX,ZeY,ZcW,Zfa,Zfv,Zdv,Zgm,ZgH,Zev,Zik,Zgn,Zew,ZgI,Zil,Zfc,Zfd,ZdQ,Zfe,Zex,Zey,Zez,Zfw,Zee,ZeA,Zef,Zff,Zjz],[Zco,ZcX,gExtra,ZcQ]⟩
theorem base3L:Base T3L:=⟨rfl,rfl,rfl,rfl,rfl,rfl,rfl,rfl,rfl,rfl,rfl,rfl,rfl,rfl,rfl,rfl,rfl,rfl,rfl,rfl,rfl,rfl,rfl,rfl,rfl,rfl,rfl,rfl,rfl,rfl,rfl,rfl⟩
theorem Zcc:Law3 T3L:={ base3L with f28:=rfl,f29:=rfl,f30:=rfl,f31:=rfl,f32:=rfl,f33:=rfl,f34:=rfl,f35:=rfl,f36:=rfl,f37:=rfl,f38:=rfl,f39:=rfl,f40:=rfl }
end DK.Internal.B
end
section
set_option backward.match.sparseCases false
set_option genSizeOf false
set_option genCtorIdx false
namespace DK.Internal.B
open PySem
set_option maxRecDepth 20000
variable {T:Text} {r:Nat}
theorem ZnH (n:Int):uD (lowB n) = .int (n % 256):=by unfold uD;rw [Zhd]
theorem ZnI {l:List Nat} (h:∀c∈l,c < 256):builtin .bytes [.list (l.map nD)] = .ok (.bytes (l.map UInt8.ofNat)):=by
 have:bytesOf (l.map nD)=some (l.map UInt8.ofNat):=by
  induction l with
  | nil=>rfl
  | cons c l ih=>
   have hc:(0:Int)≤(c:Nat)∧((c:Nat):Int) < 256:=by have:=h c (List.mem_cons_self ..);lia
   refine (ZdW hc (ih (fun x hx=>h x (List.mem_cons_of_mem _ hx)))).trans ?_
   simp
 exact ZgY this
noncomputable def sel {α:Type} [Inhabited α] (l:List α) (x:Int):α:=l.getD (x % (l.length:Int)).toNat default
theorem Zaq {α:Type} [Inhabited α] (l:List α) (x:Int) (h:0 < l.length):sel l x∈l:=by
 unfold sel
 have h1:=Int.emod_nonneg x (by lia:(l.length:Int)≠0)
 have h2:=Int.emod_lt_of_pos x (by exact Int.ofNat_lt.mpr (by assumption):(0:Int) < l.length)
 rw [List.getD_eq_getElem?_getD,List.getElem?_eq_getElem (by lia)]
 exact List.getElem_mem _
theorem ZbD {α:Type} [Inhabited α] (l:List α) (f:α→D) (x n:Int) (hn:n=(l.length:Nat)) (h:0 < l.length):index (.tuple (l.map f)) (.int (x % n)) = .ok (f (sel l x)):=by
 subst hn
 have h1:=Int.emod_nonneg x (by lia:(l.length:Int)≠0)
 have h2:=Int.emod_lt_of_pos x (by exact Int.ofNat_lt.mpr (by assumption):(0:Int) < l.length)
 have hp:place (l.map f).length (x % (l.length:Nat))=some (x % (l.length:Nat)).toNat:=by
  unfold place
  rw [List.length_map]
  simp only [if_neg (by exact Int.not_lt.mpr (by assumption):¬(x % (l.length:Nat) < 0))]
  rw [if_pos ⟨h1,h2⟩]
 rw [Zod,hp];show (match (l.map f)[(x % (l.length:Nat)).toNat]? with | some u=>Out.ok u | none=> .stuck)=_
 have hi:(x % (l.length:Nat)).toNat < l.length:=by lia
 unfold sel
 rw [List.getElem?_map,List.getElem?_eq_getElem hi,List.getD_eq_getElem?_getD,List.getElem?_eq_getElem hi]
 rfl
theorem ZmS:isThing (.typ .tBool) (.typ .tBool) = .ok true:=rfl
theorem Zhm:isThing (.typ .tInt) (.typ .tInt) = .ok true:=rfl
theorem Zll:isThing (.typ .tBytes) (.typ .tBytes) = .ok true:=rfl
theorem typ_b (b):builtin .typ [.bool b] = .ok (.typ .tBool):=rfl
theorem typ_i (b):builtin .typ [.int b] = .ok (.typ .tInt):=rfl
theorem typ_y (b):builtin .typ [.bytes b] = .ok (.typ .tBytes):=rfl
theorem Zlm (x:Int):builtin .bytes [.list [.int (x % 256)]] = .ok (.bytes [lowB x]):=by
 rw [←ZnH];exact ZeS [lowB x]
theorem ZmT (B:Base T) {Q:D→Prop} (a b:Nat) (as:List Nat) (ha:a≤2) (hab:a=2∨b < 40) (hbb:b < 4000000000) (hb:∀x∈as,x < 128 ^ 100) (hl:as.length≤600) (hq:Q (.tuple [.str sOid,.list (nD a::nD b::as.map nD)])) :
  Good T Q (.tuple [.str sOid,.list (nD a::nD b::as.map nD)]) (tlv (oneB 6) (arcsB ((40*a+b)::as))) 0 [([],.tuple [.str sOid,.list (nD a::nD b::as.map nD)])]:=by
 have hbs:∀x∈(40*a+b)::as,x < 128 ^ 100:=by
  intro x hx
  rcases List.mem_cons.mp hx with e | hx
  ·have h2:(5000000000:Nat) < 128 ^ 100:=by decide
   rw [e];exact Nat.lt_trans (show 40*a+b < 5000000000 by lia) h2
  ·exact hb x hx
 have hlen:=ZhY _ hbs
 simp only [List.length_cons] at hlen
 have hc:(arcsB ((40*a+b)::as)).length < 65536:=by lia
 refine Zib B (by decide) (by decide) hc (fun r=>Zom B a b as ha hab hbs hbb hl) (fun r pre suf dep=> ?_) (Zox B _) (fun n=>ZeE _ _ (mem2 (ZbV _ _) (peq_l _ _ ?_))) hq
 ·have:=Zor B (r:=r) (40*a+b) as pre suf dep hc hbs (by exact Nat.le_trans (by assumption) (by decide))
  rw [show min ((40*a+b) / 40) 2=a by omega,show 40*a+b - 40*a=b by simp] at this
  exact this
 ·intro d hd
  have:∃m:Nat,d=nD m:=by
   rcases List.mem_cons.mp hd with e | hd
   ·exact ⟨a,e⟩
   ·rcases List.mem_cons.mp hd with e | hd
    ·exact ⟨b,e⟩
    ·obtain ⟨m,_,e⟩:=List.mem_map.mp hd;exact ⟨m,e.symm⟩
  obtain ⟨m,rfl⟩:=this
  exact ZiG _ _
theorem ZnJ (a:List UInt8):lexLt a a=false:=by
 induction a with
 | nil=>rfl
 | cons u a ih=>simp [lexLt,ih]
theorem Zgg:∀(a b:List UInt8),lexLt a b=true→lexLt b a=false
 | [],[],h=>by simp [lexLt] at h
 | [],_::_,_=>rfl
 | _::_,[],h=>by simp [lexLt] at h
 | u::a,v::b,h=>by
  simp only [lexLt] at h ⊢
  by_cases h1:u.toNat < v.toNat
  ·rw [if_neg (by lia),if_neg (by exact Nat.ne_of_gt (by assumption))]
  ·rw [if_neg h1] at h
   by_cases h2:u.toNat=v.toNat
   ·rw [if_pos h2] at h
    rw [if_neg (by lia),if_pos h2.symm]
    exact Zgg a b h
   ·rw [if_neg h2] at h;simp at h
theorem ZoB {L K:Nat} (d:D):∀(gs:List Gi) (i:Nat),(∀g∈gs,∀p∈g.ns,p.1.length≤K)→∀p∈nodesFrom i (gs.map Gi.wi),p.1.length≤K+1:=by
 intro gs
 induction gs with
 | nil=>intro i h p hp;cases hp
 | cons g gs ih=>
  intro i h p hp
  rcases List.mem_append.mp hp with hp | hp
  ·obtain ⟨q,hq,rfl⟩:=List.mem_map.mp hp
   have:=h g (List.mem_cons_self ..) q hq
   simp [under];exact this
  ·exact ih (i+1) (fun x hx=>h x (List.mem_cons_of_mem _ hx)) p hp
noncomputable def isExc:Out Reply→Bool
 | .exc=>true
 | _=>false
theorem Zjk {o:Out Reply} (h:isExc o=true):o = .exc:=by
 cases o<;>first | rfl | cases h
theorem Zln {T:Text} {r f:Nat} {xs:List D} (h:isExc (callT fast T r f (xs.map .val))=true):CL T r f xs = .exc:=by
 rw [←fast_eq] at h
 exact congrArg (· >>= retD) (Zjk h)
theorem ZiH (xs:List UInt8) {m:Int} (h0:0≤m) (h:m≤xs.length):slice (.bytes xs) .none (.int m) = .ok (.bytes (xs.take m.toNat)):=by
 obtain ⟨i,rfl⟩:=Int.eq_ofNat_of_zero_le h0
 have e:clip xs.length (i:Nat)=i:=ZfS (Int.ofNat_le.mp h)
 rw [Zkr,e]
 simp [cut]
theorem Zlo {Q:D→Prop} {d:D} {b:List UInt8} {k:Nat} {ns:List Nd} (h:Good T Q d b k ns) (hk:k≤20):D.peq eqDeep (.list (ns.map (nodeD []))) (.list (ns.map (nodeD []))) = .ok true:=by
 refine peq_l 63 _ ?_
 intro x hx
 obtain ⟨n,hn,rfl⟩:=List.mem_map.mp hx
 obtain ⟨h1,h2,h3⟩:=h.nd n hn
 refine ZeE 62 _ (mem2 (h2 61) ?_)
 have:=h1 (60 - 2*k)
 rw [show 60 - 2*k+2+2*k=62 by lia] at this
 exact this
end DK.Internal.B
end
section
set_option backward.match.sparseCases false
set_option genSizeOf false
set_option genCtorIdx false
namespace DK.Internal.B
open PySem
variable {T:Text} {r:Nat}
theorem Zgh (B:Law3 T) (t c:List UInt8) (ht:t.length≤1000) (hc:c.length < 65536):CL T (r+1) 29 [.bytes t,.bytes c] = .ok (.bytes (tlv t c)):=by
 rw [ZF B.f29 rfl (by decide)]
 have h1:=catL (t:=t) (n:=c.length) ht
 have h2:=catC (t:=t) (c:=c) ht hc
 have e1:((c.length:Nat):Int) / 256=((c.length / 256:Nat):Int):=by rfl
 have e2:((c.length:Nat):Int) % 256=((c.length % 256:Nat):Int):=by rfl
 by_cases ha:c.length < 128
 ·have hb:builtin .bytes [.list [.int (c.length:Nat)]] = .ok (.bytes (lenB c.length)):=by
   rw [ZhO (by exact Nat.lt_of_lt_of_le (by assumption) (by decide)),lenB,if_pos ha]
  simp (disch:=first | decide | assumption | lia) only [Zem,X_k,Zo,ZC,Zak,P_bi,Zg,Zb,Zs,ZG,Zv,Za,c_lt,Zj,Zn,Zd,Zr,ZY,Zaf,Zi,Ze,Zf,Zc,Zq,zc6,zc7,zc8,zc9,zc14,zc15,zc17,hb,h1,h2]
 ·by_cases hbb:c.length < 256
  ·have hb:builtin .bytes [.list [.int 129,.int (c.length:Nat)]] = .ok (.bytes (lenB c.length)):=by
    have:=ZnI (l:= [129,c.length]) (by intro x hx;simp at hx;lia)
    rw [lenB,if_neg ha,if_pos hbb];exact this
   simp (disch:=first | decide | assumption | lia) only [Zem,X_k,Zo,ZC,Zak,P_bi,Zg,Zb,Zs,Zu,ZG,Zv,Za,c_lt,Zj,Zn,Zd,Zr,ZY,Zy,Zaf,Zi,Ze,Zf,Zc,Zq,zc6,zc7,zc8,zc9,zc14,zc15,zc17,hb,h1,h2]
  ·have hb:builtin .bytes [.list [.int 130,.int ((c.length / 256:Nat):Int),.int ((c.length % 256:Nat):Int)]] = .ok (.bytes (lenB c.length)):=by
    have:=ZnI (l:= [130,c.length / 256,c.length % 256]) (by intro x hx;simp at hx;lia)
    rw [lenB,if_neg ha,if_neg hbb]
    simp only [List.map_cons,List.map_nil,ZfV] at this
    exact this
   simp (disch:=first | decide | assumption | lia) only [Zem,X_k,Zo,ZC,Zak,P_bi,Zg,Zb,Zs,Zu,ZG,Zv,Za,Zbx,c_lt,Zj,Zn,Zd,Zr,Zy,Zaf,Zi,Ze,Zf,Zc,Zq,zc6,zc7,zc8,zc9,zc14,zc15,zc17,Zkn,e1,e2,hb,h1,h2]
noncomputable def hiD (n:Nat):Nat→List UInt8
 | 0=> []
 | j+1=>(if 0 < n / 128 ^ (j+1) then [UInt8.ofNat (128+n / 128 ^ (j+1) % 128)] else [])++hiD n j
theorem Zjl:∀j n,hiD n (j+1)=hiD (n / 128) j++(if 0 < n / 128 then [UInt8.ofNat (128+n / 128 % 128)] else [])
 | 0,n=>by simp [hiD]
 | j+1,n=>by
  rw [hiD,Zjl j n,hiD]
  rw [Nat.div_div_eq_div_mul,show 128*128 ^ (j+1)=128 ^ (j+1+1) by rw [Nat.pow_succ 128 (j+1)];lia,List.append_assoc]
theorem Zlp:∀j n,n < 128 ^ (j+1)→hiD n j=arcH (n / 128)
 | 0,n,h=>by
  rw [show n / 128=0 by lia,ZbT];rfl
 | j+1,n,h=>by
  rw [Zjl]
  by_cases h0:n / 128=0
  ·rw [h0,ZbT]
   have:∀j,hiD 0 j = []:=by
    intro j;induction j with
    | zero=>rfl
    | succ j ih=>rw [hiD,ih];simp
   rw [this];rfl
  ·rw [Zlp j (n / 128) (by rw [Nat.pow_succ] at h;lia),ZdF h0,if_pos (by exact Nat.pos_of_ne_zero (by assumption))]
theorem ZmU (n:Nat) (s0 s1 s2:Slot) (sl:List Slot):∀(j:Nat) (acc:List D),j≤100→acc.length+j≤1000 →
  CE T r (.one 2) (.cons (.cmp .Gt (.bin .RShift (.var 0) (.bin .Mult (.k (.int 7)) (.var 2))) (.k (.int 0))) .nil) (.bin .Add (.bin .Mod (.bin .RShift (.var 0) (.bin .Mult (.k (.int 7)) (.var 2))) (.k (.int 128))) (.k (.int 128))) (downFrom (j:Nat) j) [.val (.int (n:Nat)),s1,s2] acc = .ok (acc++(hiD n j).map uD):=by
 intro j
 induction j with
 | zero=>intro acc h hl;rw [downFrom,Zgu];simp [hiD]
 | succ j ih=>
  intro acc h hl
  rw [downFrom,Zhx]
  have e1:((j+1:Nat):Int) - 1=(j:Nat):=by simp
  have e2:(7:Int)*((j+1:Nat):Int)=((7*(j+1):Nat):Int):=by rfl
  have e3:((n:Nat):Int) / 2 ^ (7*(j+1))=((n / 128 ^ (j+1):Nat):Int):=by
   rw [show (128:Nat)=2 ^ 7 from rfl,←Nat.pow_mul];simp
  have hal:acc.length < 1000000:=by lia
  rw [e1]
  by_cases h0:0 < n / 128 ^ (j+1)
  ·have e4:((n / 128 ^ (j+1):Nat):Int) % 128+128=((128+n / 128 ^ (j+1) % 128:Nat):Int):=by lia
   have hs:=ih (acc ++ [.int ((128+n / 128 ^ (j+1) % 128:Nat):Int)]) (by exact Nat.le_of_lt (by assumption)) (by simp;lia)
   generalize hq:n / 128 ^ (j+1)=q at *
   simp (disch:=first | decide | assumption | lia) only [X_k,Zo,ZC,Zs,ZeI,ZgL,Za,ZW,Zbx,c_gt,ZaW,Zd,Zeo,Zhy,ZnD,Ze,Zf,Zk,Zl,Zc,Zdr,e2,Ziq,Int.toNat_natCast,e3,e4,ZfG,hs]
   rw [hiD,hq,if_pos h0]
   simp only [List.map_append,List.map_cons,List.map_nil,uD,ZX (show 128+q % 128 < 256 by lia),List.append_assoc]
  ·have hs:=ih acc (by exact Nat.le_of_lt (by assumption)) (by exact Nat.le_of_lt (by assumption))
   generalize hq:n / 128 ^ (j+1)=q at *
   simp (disch:=first | decide | assumption | lia) only [X_k,Zo,ZC,Zs,ZgL,Za,c_gt,ZaW,Zd,Zeo,ceI_f,ZnE,Ze,Zf,Zk,Zl,Zc,Zdr,e2,Ziq,Int.toNat_natCast,e3,hs]
   rw [hiD,hq,if_neg h0];rfl
theorem c3arc (B:Law3 T) {n:Nat} (h:n < 128 ^ 8):CL T (r+1) 28 [.int (n:Nat)] = .ok (.bytes (arcB n)):=by
 rw [ZF B.f28 rfl (by decide)]
 have hc:=ZmU (T:=T) (r:=r) n .un .un .un [] 7 [] (by decide) (by decide)
 have hr:rngK (-1) (.int 7) (.int 0) = .ok (downFrom (7:Nat) 7):=rfl
 have e1:((n:Nat):Int) % 128=((n % 128:Nat):Int):=by rfl
 have hl:=Zbf 8 (n / 128) (Nat.lt_of_le_of_lt (Nat.div_le_self _ _) h)
 rw [Zlp 7 n h] at hc
 have hcat:binop .Add (.list ([]++(arcH (n / 128)).map uD)) (.list [.int ((n % 128:Nat):Int)]) = .ok (.list ((arcB n).map uD)):=by
  rw [ZdV (by simp [SZ];exact Nat.le_trans (by assumption) (by decide))]
  simp only [arcB,List.nil_append,List.map_append,List.map_cons,List.map_nil,uD]
  rw [ZX (by lia)]
 generalize []++(arcH (n / 128)).map uD=M at *
 simp (disch:=first | decide | assumption | lia) only [ZgJ,X_k,Zo,ZC,Zak,P_bi,Zdq,Zg,Zb,J_rng,ZcR,ZG,Zbx,Zn,Zd,ZcS,Zr,Zaf,Zi,Ze,Zc,Zq,zc6,zc7,zc8,zc9,zc14,zc15,zc16,zc17,hr,hc,e1,hcat,ZeS]
end DK.Internal.B
end
section
set_option backward.match.sparseCases false
set_option genSizeOf false
set_option genCtorIdx false
namespace DK.Internal.B
open PySem
variable {T:Text} {r:Nat}
noncomputable def digsF (V:Int):Nat→List UInt8
 | 0=> []
 | m+1=>lowB (V / 256 ^ m)::digsF V m
theorem ZgE:∀m V,digsF V (m+1)=digsF (V / 256) m ++ [lowB V]
 | 0,V=>by simp [digsF]
 | m+1,V=>by
  rw [digsF,ZgE m V,digsF,List.cons_append]
  rw [Int.ediv_ediv_of_nonneg (by decide),Int.pow_succ,Int.mul_comm]
theorem ZjP:∀V:Int,digsF V (intB V).length=intB V:=by
 apply Zir
 ·intro n h
  rw [ZbJ h]
  simp [digsF]
 ·intro n h ih
  rw [Zeg h,List.length_append,List.length_singleton,ZgE,ih]
theorem ZoC (n:Int):(intB (-1 - n)).length=(intB n).length:=by
 have h:∀k,fits k (-1 - n)↔fits k n:=by
  intro k;unfold fits;generalize (256:Int) ^ k=c;constructor<;>intro h<;>lia
 have h1:=ZdG n
 have h2:=ZdG (-1 - n)
 have a:=(Zeh ((intB n).length - 1) (-1 - n)).mp ((h _).mpr (ZdY n))
 have b:=(Zeh ((intB (-1 - n)).length - 1) n).mp ((h _).mp (ZdY (-1 - n)))
 omega
theorem ZoD (N:Int) (hN:0≤N) (i:Nat) (hi:1≤i):(N / 2 ^ (8*i - 1) > 0)↔i < (intB N).length:=by
 have h:=Zeh (i - 1) N
 unfold fits at h
 have e:(2:Int) ^ (8*i - 1)=128*256 ^ (i - 1):=by
  rw [show 8*i - 1=7+8*(i - 1) by lia,Int.pow_add,Int.pow_mul];rfl
 have hp:(0:Int) < 2 ^ (8*i - 1):=Int.pow_pos (by decide)
 rw [e] at hp ⊢
 generalize (128*256 ^ (i - 1):Int)=c at *
 constructor
 ·intro hg
  have:c≤N:=by
   have:=Int.lt_iff_add_one_le.mp hg
   have h2:=Int.mul_le_of_le_ediv hp (by assumption:(1:Int)≤N / c)
   lia
  apply Nat.lt_of_not_le
  intro hle
  have:=h.mpr (by lia)
  lia
 ·intro hlt
  have hn:¬((intB N).length≤i - 1+1):=by lia
  rw [←h] at hn
  have:c≤N:=by lia
  have:=Int.le_ediv_of_mul_le hp (by lia:1*c≤N)
  assumption
theorem cnt_ce (N:Int) (hN:0≤N) (s0 s1 s2 s4 s5 s6:Slot):∀(m i:Nat) (acc:List D),1≤i→i+m≤500→acc.length+m≤1000 →
  CE T r (.one 6) (.cons (.cmp .Gt (.bin .RShift (.var 3) (.bin .Sub (.bin .Mult (.k (.int 8)) (.var 6)) (.k (.int 1)))) (.k (.int 0))) .nil) (.k (.int 1)) (upFrom (i:Nat) m) [s0,s1,s2,.val (.int N),s4,s5,s6] acc = .ok (acc++List.replicate (min m ((intB N).length - i)) (.int 1)):=by
 intro m
 induction m with
 | zero=>intro i acc h1 h2 h3;rw [upFrom,Zgu];simp
 | succ m ih=>
  intro i acc h1 h2 h3
  rw [upFrom,Zhx]
  have hal:acc.length < 1000000:=by lia
  have e1:(8:Int)*((i:Nat):Int) - 1=((8*i - 1:Nat):Int):=by lia
  have hsp:=ZoD N hN i h1
  have hb:binop .RShift (.int N) (.int ((8*i - 1:Nat):Int)) = .ok (.int (N / 2 ^ (8*i - 1))):=by rw [Ziq (by exact Int.natCast_nonneg _),Int.toNat_natCast]
  have e2:((i:Nat):Int)+1=((i+1:Nat):Int):=rfl
  rw [e2]
  by_cases hlt:i < (intB N).length
  ·have hg:=hsp.mpr hlt
   have hs:=ih (i+1) (acc ++ [.int 1]) (by exact Nat.succ_pos _) (by lia) (by simp;lia)
   generalize N / 2 ^ (8*i - 1)=q at *
   simp (disch:=first | decide | assumption | lia) only [X_k,Zo,ZC,Zs,ZeI,ZgL,Za,ZaR,c_gt,ZaW,Zd,Zeo,Zhy,ZnD,Ze,Zf,Zk,Zl,Zc,Zdr,e1,hb,ZfG,hs]
   rw [List.append_assoc,show min (m+1) ((intB N).length - i)=min m ((intB N).length - (i+1))+1 by rw [show (intB N).length - i=((intB N).length - (i+1))+1 from (Nat.succ_pred_eq_of_pos (Nat.sub_pos_of_lt hlt)).symm,Nat.add_min_add_right],List.replicate_succ];rfl
  ·have hg:¬(N / 2 ^ (8*i - 1) > 0):=fun h=>hlt (hsp.mp h)
   have hs:=ih (i+1) acc (by exact Nat.succ_pos _) (by lia) (by exact Nat.le_of_lt (by assumption))
   generalize N / 2 ^ (8*i - 1)=q at *
   simp (disch:=first | decide | assumption | lia) only [X_k,Zo,ZC,Zs,ZgL,Za,ZaR,c_gt,ZaW,Zd,Zeo,ceI_f,ZnE,Ze,Zf,Zk,Zl,Zc,Zdr,e1,hb,hs]
   rw [Nat.sub_eq_zero_of_le (Nat.not_lt.mp hlt),Nat.sub_eq_zero_of_le (Nat.le_succ_of_le (Nat.not_lt.mp hlt)),Nat.min_zero,Nat.min_zero]
theorem ZoE (n:Nat):builtin .sum [.list (List.replicate n (.int 1))] = .ok (.int (n:Nat)):=by
 have h:∀n,intsOf (List.replicate n (.int 1))=some (List.replicate n 1):=by
  intro n;induction n with
  | zero=>rfl
  | succ n ih=>simp [List.replicate_succ,intsOf,ih]
 show optO (intsOf (List.replicate n (.int 1))) (fun is=>Out.ok (.int is.sum))=_
 rw [h]
 show Out.ok (D.int (List.replicate n 1).sum)=_
 refine congrArg (fun i=>Out.ok (D.int i)) ?_
 clear h
 induction n with
 | zero=>rfl
 | succ n ih=>rw [List.replicate_succ,List.sum_cons,ih];lia
theorem dig_ce (V:Int) (l:Nat) (s0 s1 s2 s5 s6:Slot):∀(m i:Nat) (acc:List D),i+m=l→l≤500→acc.length+m≤1000 →
  CE T r (.one 6) .nil (.bin .Mod (.bin .RShift (.var 3) (.bin .Mult (.k (.int 8)) (.bin .Sub (.bin .Sub (.var 4) (.k (.int 1))) (.var 6)))) (.k (.int 256))) (upFrom (i:Nat) m) [s0,s1,s2,.val (.int V),.val (.int (l:Nat)),s5,s6] acc = .ok (acc++(digsF V m).map uD):=by
 intro m
 induction m with
 | zero=>intro i acc h1 h2 h3;rw [upFrom,Zgu];simp [digsF]
 | succ m ih=>
  intro i acc h1 h2 h3
  rw [upFrom,Zhx]
  have hal:acc.length < 1000000:=by lia
  have e1:((l:Nat):Int) - 1 - ((i:Nat):Int)=(m:Nat):=by lia
  have e3:(8:Int)*((m:Nat):Int)=((8*m:Nat):Int):=by rfl
  have hb:binop .RShift (.int V) (.int ((8*m:Nat):Int)) = .ok (.int (V / 256 ^ m)):=by
   rw [Ziq (by exact Int.natCast_nonneg _),Int.toNat_natCast,Int.pow_mul];rfl
  have e2:((i:Nat):Int)+1=((i+1:Nat):Int):=rfl
  rw [e2]
  have hs:=ih (i+1) (acc ++ [.int (V / 256 ^ m % 256)]) (by lia) h2 (by simp;lia)
  generalize hq:V / 256 ^ m=q at *
  simp (disch:=first | decide | assumption | lia) only [X_k,Zo,ZC,ZeI,ZaR,Zbx,ZaW,Zd,Zeo,Zhy,Ze,Zf,Zk,Zl,Zdr,e1,e3,hb,ZfG,hs]
  rw [digsF,hq,List.map_cons,ZnH,List.append_assoc];rfl
noncomputable def p255:Int:=1*2 ^ (255:Int).toNat
noncomputable def p320:Int:=1*2 ^ (320:Int).toNat
noncomputable def numV0 (x y:Int):Int:=sel [0,127,128,255,256,32767,32768,8388608,p255,1060633355019493427735970913814670478353834735484420927472359568648472795731930295427550799099784,x % 1000,x % p320] y
noncomputable def numV (x y z:Int):Int:=if z % 2=1 then -1 - numV0 x y else numV0 x y
theorem Zjm:0 < p320:=by unfold p320;rw [Int.one_mul];exact Int.pow_pos (by decide)
theorem Zjn (a b:Nat) (h:a≤b):(2:Int) ^ a≤2 ^ b:=by
 have h2:((2 ^ a:Nat):Int)≤((2 ^ b:Nat):Int):=Int.ofNat_le.mpr (Nat.pow_le_pow_right (by decide) h)
 rw [Int.natCast_pow,Int.natCast_pow] at h2
 exact h2
theorem big_lt:(1060633355019493427735970913814670478353834735484420927472359568648472795731930295427550799099784:Int) < 2 ^ 320:=by decide +kernel
theorem Zhn (x y:Int):0≤numV0 x y∧(intB (numV0 x y)).length≤42:=by
 have hm:=Zaq [0,127,128,255,256,32767,32768,8388608,p255,1060633355019493427735970913814670478353834735484420927472359568648472795731930295427550799099784,x % 1000,x % p320] y (by simp)
 rw [show sel [0,127,128,255,256,32767,32768,8388608,p255,1060633355019493427735970913814670478353834735484420927472359568648472795731930295427550799099784,x % 1000,x % p320] y=numV0 x y from rfl] at hm
 have h1:p255≤2 ^ 320:=by unfold p255;rw [Int.one_mul];exact Zjn _ _ (by decide)
 have h2:p320=2 ^ 320:=by unfold p320;rw [Int.one_mul];rfl
 have h3:(2:Int) ^ 24≤2 ^ 320:=Zjn _ _ (by decide)
 have h3':(2:Int) ^ 24=16777216:=rfl
 have h4:=big_lt
 have h5:=Zjm
 have h6:=Int.emod_nonneg x (by decide:p320≠0)
 have h7:=Int.emod_lt_of_pos x h5
 have h8:0 < p255:=by unfold p255;rw [Int.one_mul];exact Int.pow_pos (by decide)
 have h9:(128*256 ^ 41:Int)=2 ^ 335:=by rw [show (256:Int) ^ 41=(2 ^ 8) ^ 41 from rfl,←Int.pow_mul];rfl
 have h10:(2:Int) ^ 320≤2 ^ 335:=Zjn _ _ (by decide)
 have hb:0≤numV0 x y∧numV0 x y≤2 ^ 320:=by
  simp only [List.mem_cons,List.not_mem_nil,or_false] at hm
  rw [h3'] at h3
  have h7':x % p320 < 2 ^ 320:=by rw [←h2];exact h7
  generalize (2:Int) ^ 320=R at *
  generalize x % p320=X at *
  generalize numV0 x y=v at *
  generalize p255=P at *
  clear h3' h5 h9 h10 h7 h2
  rcases hm with h | h | h | h | h | h | h | h | h | h | h | h<;>subst h<;>constructor<;>lia
 refine ⟨hb.1,(Zeh 41 _).mp ?_⟩
 unfold fits
 have h11:(2:Int) ^ 320 < 2 ^ 335:=by
  have:=Zjn 321 335 (by decide)
  have h12:(2:Int) ^ 321=2 ^ 320*2:=Int.pow_succ 2 320
  have h13:(0:Int) < 2 ^ 320:=Int.pow_pos (by decide)
  generalize (2:Int) ^ 320=R at *
  generalize (2:Int) ^ 321=R' at *
  lia
 rw [h9]
 generalize (2:Int) ^ 320=R at *
 generalize (2:Int) ^ 335=R' at *
 lia
theorem Zho (x y z:Int):(intB (numV x y z)).length=(intB (numV0 x y)).length:=by
 unfold numV;split
 ·exact ZoC _
 ·rfl
theorem Zjo (B:Law3 T) (x y z:Int):CL T (r+1) 30 [.int x,.int y,.int z] = .ok (.tuple [.int (numV x y z),.bytes (intB (numV x y z))]):=by
 rw [ZF B.f30 rfl (by decide)]
 obtain ⟨h0,hl⟩:=Zhn x y
 have hp:=ZdG (numV0 x y)
 have hvl:=Zho x y z
 have hone:(1:Int).natAbs < BIG:=ZeQ (k:=1) (by decide) (by decide)
 have hs1:binop .LShift (.int 1) (.int 255) = .ok (.int p255):=ZeP (by decide) (by decide) hone
 have hs2:binop .LShift (.int 1) (.int 320) = .ok (.int p320):=ZeP (by decide) (by decide) hone
 have hmd:=Zbx (a:=x) Zjm
 have hix:index (.tuple [.int 0,.int 127,.int 128,.int 255,.int 256,.int 32767,.int 32768,.int 8388608,.int p255,.int 1060633355019493427735970913814670478353834735484420927472359568648472795731930295427550799099784,.int (x % 1000),.int (x % p320)]) (.int (y % 12)) = .ok (.int (numV0 x y)):=
  ZbD [0,127,128,255,256,32767,32768,8388608,p255,1060633355019493427735970913814670478353834735484420927472359568648472795731930295427550799099784,x % 1000,x % p320] .int y 12 rfl (by simp)
 have hr1:rngK 1 (.int 1) (.int 44) = .ok (upFrom ((1:Nat):Int) 43):=rfl
 have hr2:rngK 1 (.int 0) (.int ((intB (numV0 x y)).length:Nat)) = .ok (upFrom ((0:Nat):Int) (intB (numV0 x y)).length):=by
  generalize (intB (numV0 x y)).length=l at hl
  have h1:(small 0=true∧small (l:Nat)=true∧(((l:Nat) - 0:Int).toNat≤SZ)∧(0 - (l:Nat):Int).toNat≤SZ):=by
   refine ⟨rfl,?_,?_,?_⟩
   ·unfold small;exact decide_eq_true (by exact Nat.lt_of_le_of_lt (by assumption) (by decide))
   ·unfold SZ;exact Nat.le_trans (by assumption) (by decide)
   ·unfold SZ;simp
  show rngI 0 (l:Nat) 1=_
  unfold rngI
  rw [if_pos h1,if_pos rfl]
  exact congrArg (fun n=>Out.ok (upFrom 0 n)) (by rfl)
 have hc1:=fun s0 s1 s2 s4 s5 s6=>cnt_ce (T:=T) (r:=r) (numV0 x y) h0 s0 s1 s2 s4 s5 s6 43 1 [] (by decide) (by decide) (by decide)
 have hc2:=fun s0 s1 s2 s5 s6=>dig_ce (T:=T) (r:=r) (numV x y z) (intB (numV0 x y)).length s0 s1 s2 s5 s6 (intB (numV0 x y)).length 0 [] (by exact Nat.add_comm _ _) (by exact Nat.le_trans (by assumption) (by decide)) (by simp;exact Nat.le_trans (by assumption) (by decide))
 rw [show min 43 ((intB (numV0 x y)).length - 1)=(intB (numV0 x y)).length - 1 by lia] at hc1
 simp only [List.nil_append] at hc1 hc2
 rw [←hvl,ZjP,hvl] at hc2
 have hsum:=ZoE ((intB (numV0 x y)).length - 1)
 have e1:(1:Int)+(((intB (numV0 x y)).length - 1:Nat):Int)=((intB (numV0 x y)).length:Nat):=by lia
 have hby:=ZeS (intB (numV x y z))
 have hneg:z % 2=1→-1 - numV0 x y=numV x y z:=by intro h;unfold numV;rw [if_pos h]
 have hpos:¬z % 2=1→numV0 x y=numV x y z:=by intro h;unfold numV;rw [if_neg h]
 generalize List.replicate ((intB (numV0 x y)).length - 1) (D.int 1)=M at *
 generalize (intB (numV x y z)).map uD=K at *
 generalize (intB (numV0 x y)).length=l at *
 by_cases hz:z % 2=1
 ·have hneg:=hneg hz
  generalize p320=P3 at *
  generalize p255=P2 at *
  simp (disch:=first | decide | assumption | lia) only [ZdL,X_k,Zo,ZC,ZgK,Zx,ZZ,P_bi,Zdq,Zg,Zb,Zs,J_rng,ZcR,Zu,ZG,ZA,Zv,ZcA,Za,ZW,ZaR,Zbx,c_eq,Zn,Zt,Zd,ZcS,Zr,Zh,ZY,Zaa,Zaf,Zi,Ze,Zf,Zk,Zl,Zc,okB_,Zq,zc6,zc7,zc8,zc9,zc16,zc17,hs1,hs2,hmd,hix,hr1,hc1,hsum,e1,hneg,hr2,hc2,hby]
 ·have hpos:=hpos hz
  rw [hpos] at hix hc1
  generalize p320=P3 at *
  generalize p255=P2 at *
  simp (disch:=first | decide | assumption | lia) only [ZdL,X_k,Zo,ZC,Zx,ZZ,P_bi,Zdq,Zg,Zb,Zs,J_rng,ZcR,Zu,ZG,ZA,Zv,Za,ZW,Zbx,c_eq,Zn,Zt,Zd,ZcS,Zr,Zh,Zy,Zaa,Zaf,Zi,Ze,Zf,Zk,Zl,Zc,okB_,Zq,zc6,zc7,zc8,zc9,zc16,zc17,hs1,hs2,hmd,hix,hr1,hc1,hsum,e1,hr2,hc2,hby]
end DK.Internal.B
end
section
set_option backward.match.sparseCases false
set_option genSizeOf false
set_option genCtorIdx false
namespace DK.Internal.B
open PySem
variable {T:Text} {r:Nat}
noncomputable def Ty3 (T:Text) (v:D):Prop:=∀r s0 s1 s2 s3 s4 s5 s6 s7 s8,Y T r ZJ [s0,s1,s2,s3,s4,s5,s6,s7,s8,.val v] = .ok (.next,[s0,s1,s2,s3,s4,s5,s6,s7,s8,.val v])
theorem Zlq:cmpop .In (.str sBool) (.tuple [.str sInt,.str sEnum,.str sTagged]) = .ok (.bool false):=rfl
theorem ZmV:cmpop .In (.str sInt) (.tuple [.str sInt,.str sEnum,.str sTagged]) = .ok (.bool true):=rfl
theorem Zlr:cmpop .In (.str sBits) (.tuple [.str sInt,.str sEnum,.str sTagged]) = .ok (.bool false):=rfl
theorem ZjQ:cmpop .In (.str sBytes) (.tuple [.str sInt,.str sEnum,.str sTagged]) = .ok (.bool false):=rfl
theorem Zls:cmpop .In (.str sNull) (.tuple [.str sInt,.str sEnum,.str sTagged]) = .ok (.bool false):=rfl
theorem ZmW:cmpop .In (.str sOid) (.tuple [.str sInt,.str sEnum,.str sTagged]) = .ok (.bool false):=rfl
theorem Zlt:cmpop .In (.str sEnum) (.tuple [.str sInt,.str sEnum,.str sTagged]) = .ok (.bool true):=rfl
theorem Zlu:cmpop .In (.str sUtf8) (.tuple [.str sInt,.str sEnum,.str sTagged]) = .ok (.bool false):=rfl
theorem ZjR:cmpop .In (.str sPrint) (.tuple [.str sInt,.str sEnum,.str sTagged]) = .ok (.bool false):=rfl
theorem Zlv:cmpop .In (.str sTime) (.tuple [.str sInt,.str sEnum,.str sTagged]) = .ok (.bool false):=rfl
theorem ZmX:cmpop .In (.str sSeq) (.tuple [.str sInt,.str sEnum,.str sTagged]) = .ok (.bool false):=rfl
theorem ZmY:cmpop .In (.str sSet) (.tuple [.str sInt,.str sEnum,.str sTagged]) = .ok (.bool false):=rfl
theorem ZiI:cmpop .In (.str sTagged) (.tuple [.str sInt,.str sEnum,.str sTagged]) = .ok (.bool true):=rfl
theorem Zjp (b:Bool):Ty3 T (.tuple [.str sBool,.bool b]):=by
 intro r s0 s1 s2 s3 s4 s5 s6 s7 s8
 simp (disch:=first | decide | assumption | lia) only [ZJ,X_k,Zo,Zx,ZZ,P_bi,Zg,Zb,ZdR,Zao,Zs,Zu,Zv,Za,c_eq,Zd,Zz,Zfq,ZcU,Zaa,Zi,ZbY,Ze,Zf,Zc,okB_,Zq,ZP,zc4,ZT,Zad,ZaY,Zlq,c_is,typ_b,ZmS]
theorem ZoF (n:Int):Ty3 T (.tuple [.str sInt,.int n]):=by
 intro r s0 s1 s2 s3 s4 s5 s6 s7 s8
 simp (disch:=first | decide | assumption | lia) only [ZJ,X_k,Zo,Zx,ZZ,P_bi,Zg,Zb,ZdR,Zao,Zs,Zu,Zv,Za,c_eq,Zd,Zz,Zfq,ZcU,Zaa,Zi,ZbY,Ze,Zf,Zc,okB_,Zq,ZP,zc4,ZT,Zad,Zcv,ZmV,c_is,typ_i,Zhm]
theorem ZmZ (n:Int):Ty3 T (.tuple [.str sEnum,.int n]):=by
 intro r s0 s1 s2 s3 s4 s5 s6 s7 s8
 simp (disch:=first | decide | assumption | lia) only [ZJ,X_k,Zo,Zx,ZZ,P_bi,Zg,Zb,ZdR,Zao,Zs,Zu,Zv,Za,c_eq,Zd,Zz,Zfq,ZcU,Zaa,Zi,ZbY,Ze,Zf,Zc,okB_,Zq,ZP,zc4,ZT,Zad,Zch,Zlt,c_is,typ_i,Zhm]
theorem ZjS (n:Int) (x:D):Ty3 T (.tuple [.str sTagged,.int n,x]):=by
 intro r s0 s1 s2 s3 s4 s5 s6 s7 s8
 simp (disch:=first | decide | assumption | lia) only [ZJ,X_k,Zo,Zx,ZZ,P_bi,Zg,Zb,ZdR,Zao,Zs,Zu,Zv,Za,c_eq,Zd,Zz,Zfq,ZcU,Zaa,Zi,ZbY,Ze,Zf,Zc,okB_,Zq,ZP,zc4,Zeb,ZfA,ZdO,ZiI,c_is,typ_i,Zhm]
theorem Zna (n:Int) (x:D):Ty3 T (.tuple [.str sBits,.int n,x]):=by
 intro r s0 s1 s2 s3 s4 s5 s6 s7 s8
 simp (disch:=first | decide | assumption | lia) only [ZJ,X_k,Zo,Zx,ZZ,Zg,Zb,Zao,Zs,Zu,Zv,Za,c_eq,Zd,Zz,ZcU,Zaa,Zi,Ze,Zf,Zc,okB_,Zq,ZP,Zeb,Zar,Zlr]
theorem Znb:Ty3 T (.tuple [.str sNull]):=by
 intro r s0 s1 s2 s3 s4 s5 s6 s7 s8
 simp (disch:=first | decide | assumption | lia) only [ZJ,X_k,Zo,Zx,ZZ,Zg,Zb,Zao,Zs,Zu,Zv,Za,c_eq,Zd,Zz,ZcU,Zaa,Zi,Ze,Zf,Zc,okB_,Zq,ZP,ix1_0,Zcg,Zls]
theorem Zlw (x:D):Ty3 T (.tuple [.str sBytes,x]):=by
 intro r s0 s1 s2 s3 s4 s5 s6 s7 s8
 simp (disch:=first | decide | assumption | lia) only [ZJ,X_k,Zo,Zx,ZZ,Zg,Zb,Zao,Zs,Zu,Zv,Za,c_eq,Zd,Zz,ZcU,Zaa,Zi,Ze,Zf,Zc,okB_,Zq,ZP,ZT,ZbN,ZjQ]
theorem Znc (x:D):Ty3 T (.tuple [.str sUtf8,x]):=by
 intro r s0 s1 s2 s3 s4 s5 s6 s7 s8
 simp (disch:=first | decide | assumption | lia) only [ZJ,X_k,Zo,Zx,ZZ,Zg,Zb,Zao,Zs,Zu,Zv,Za,c_eq,Zd,Zz,ZcU,Zaa,Zi,Ze,Zf,Zc,okB_,Zq,ZP,ZT,Zci,Zlu]
theorem Zlx (x:D):Ty3 T (.tuple [.str sPrint,x]):=by
 intro r s0 s1 s2 s3 s4 s5 s6 s7 s8
 simp (disch:=first | decide | assumption | lia) only [ZJ,X_k,Zo,Zx,ZZ,Zg,Zb,Zao,Zs,Zu,Zv,Za,c_eq,Zd,Zz,ZcU,Zaa,Zi,Ze,Zf,Zc,okB_,Zq,ZP,ZT,ZbO,ZjR]
theorem Znd (x:D):Ty3 T (.tuple [.str sTime,x]):=by
 intro r s0 s1 s2 s3 s4 s5 s6 s7 s8
 simp (disch:=first | decide | assumption | lia) only [ZJ,X_k,Zo,Zx,ZZ,Zg,Zb,Zao,Zs,Zu,Zv,Za,c_eq,Zd,Zz,ZcU,Zaa,Zi,Ze,Zf,Zc,okB_,Zq,ZP,ZT,Zcl,Zlv]
theorem ZoG (x:D):Ty3 T (.tuple [.str sSeq,x]):=by
 intro r s0 s1 s2 s3 s4 s5 s6 s7 s8
 simp (disch:=first | decide | assumption | lia) only [ZJ,X_k,Zo,Zx,ZZ,Zg,Zb,Zao,Zs,Zu,Zv,Za,c_eq,Zd,Zz,ZcU,Zaa,Zi,Ze,Zf,Zc,okB_,Zq,ZP,ZT,ZaP,ZmX]
theorem ZoH (x:D):Ty3 T (.tuple [.str sSet,x]):=by
 intro r s0 s1 s2 s3 s4 s5 s6 s7 s8
 simp (disch:=first | decide | assumption | lia) only [ZJ,X_k,Zo,Zx,ZZ,Zg,Zb,Zao,Zs,Zu,Zv,Za,c_eq,Zd,Zz,ZcU,Zaa,Zi,Ze,Zf,Zc,okB_,Zq,ZP,ZT,ZaQ,ZmY]
theorem ZoI (x:D):Ty3 T (.tuple [.str sOid,x]):=by
 intro r s0 s1 s2 s3 s4 s5 s6 s7 s8
 simp (disch:=first | decide | assumption | lia) only [ZJ,X_k,Zo,Zx,ZZ,Zg,Zb,Zao,Zs,Zu,Zv,Za,c_eq,Zd,Zz,ZcU,Zaa,Zi,Ze,Zf,Zc,okB_,Zq,ZP,ZT,Zax,ZmW]
theorem ZiJ (B:Base T) (a b:Nat) (as:List Nat) (h:¬(a=2∨(a < 2∧b < 40))):CL T (r+20) 20 [.tuple [.str sOid,.list (nD a::nD b::as.map nD)]] = .exc:=by
 rw [ZF B.f20 rfl (by decide)]
 have hsh:=ZgA B (r:=r+16) ((a::b::as).map Nat.cast)
 have em:((a::b::as).map (Nat.cast:Nat→Int)).map D.int=nD a::nD b::as.map nD:=by simp [nD]
 rw [em] at hsh
 obtain ⟨s9,hn⟩:=ZgB B (r:=r+18) (.val (.tuple [.str sOid,.list (nD a::nD b::as.map nD)])) (.val (.str sOid)) .un .un .un .un .un .un (.val (.list (nD a::nD b::as.map nD))) .un .un (a::b::as) .un
 have i0:index (.list (nD a::nD b::as.map nD)) (.int 0) = .ok (.int (a:Nat)):=Zbt (b:=nD a::nD b::as.map nD) (i:=0) (by simp)
 have i1:index (.list (nD a::nD b::as.map nD)) (.int 1) = .ok (.int (b:Nat)):=Zbt (b:=nD a::nD b::as.map nD) (i:=1) (by simp)
 have hlen:(2:Int)≤((nD a::nD b::as.map nD).length:Nat):=by simp;lia
 simp only [List.map_cons] at hn
 generalize nD a::nD b::as.map nD=L at *
 by_cases h2:a≤2
 ·simp (disch:=first | decide | assumption | lia) only [Zac,X_k,Zo,P_or,ZO,Zx,P_bi,Zp,Zg,Zb,R_or,Zs,Zdx,Zu,ZA,Zv,ZgN,Z_ex,ZK,Za,c_eq,c_lt,c_le,c_ge,Zay,Zt,Zd,Zh,ZE,Zz,Zdy,ZD,Zav,ZfJ,Zal,Zi,Ze,Zf,Zk,Zl,Zc,ZL,okB_,Zq,zc6,zc7,zc8,zc9,zc16,zc17,ZT,Zad,hsh,Zax,Zbg,ZaN,Zbo,Zbh,ZaO,ZaG,ZH B,ZcK B,itemsOf,hn,i0,i1]
 ·simp (disch:=first | decide | assumption | lia) only [Zac,X_k,Zo,ZO,Zx,P_bi,Zp,Zg,Zb,R_or,Zs,Zdx,Zu,ZA,Zv,ZgN,Z_ex,ZK,Za,c_eq,c_le,c_ge,Zay,Zd,Zh,ZE,Zz,Zdy,ZD,Zav,Zal,Zi,Ze,Zf,Zk,Zl,Zc,ZL,okB_,Zq,zc6,zc7,zc8,zc9,zc16,zc17,ZT,Zad,hsh,Zax,Zbg,ZaN,Zbo,Zbh,ZaO,ZaG,ZH B,ZcK B,itemsOf,hn,i0]
noncomputable def oidA (y:Int):Nat:=sel [0,1,39,40,47,48,16303,16304] y
noncomputable def oidC (x y:Int):Nat:=sel [0,127,128,16383,16384,1099511627776] (x+y)
theorem ZoJ (y:Int):oidA y≤16304:=by
 have:∀a∈([0,1,39,40,47,48,16303,16304]:List Nat),a≤16304:=by decide
 exact this _ (Zaq _ _ (by decide))
theorem ZoK (x y:Int):oidC x y≤1099511627776:=by
 have:∀a∈([0,127,128,16383,16384,1099511627776]:List Nat),a≤1099511627776:=by decide
 exact this _ (Zaq _ _ (by decide))
theorem Zly {c:List UInt8} {k:Nat} (hc:c≠[]) (hl:c.length≤16) (hk:k≤2):binop .Mult (.bytes c) (.int (k:Nat)) = .ok (.bytes (List.replicate k c).flatten):=
 (if_pos ⟨by exact Int.natCast_nonneg _,by lia,hc,hl⟩).trans (by rw [Int.toNat_natCast])
theorem Zne {c:D} {k:Nat} (hk:k≤2):binop .Mult (.list [c]) (.int (k:Nat)) = .ok (.list (List.replicate k c)):=by
 refine (if_pos ⟨by exact Int.natCast_nonneg _,by simp [SZ];exact Nat.le_trans (by assumption) (by decide),by unfold SZ;lia⟩).trans ?_
 congr 2
 rw [Int.toNat_natCast]
 clear hk
 induction k with
 | zero=>rfl
 | succ k ih=>rw [List.replicate_succ,List.flatten_cons,ih,List.replicate_succ];rfl
theorem dc_eq (p:Prop) [i:Decidable p]:@decide p (Classical.propDecidable p)=@decide p i:=by congr
theorem dc_t {p:Prop} (h:p):@decide p (Classical.propDecidable p)=true:=@decide_eq_true p (Classical.propDecidable p) h
theorem dc_f {p:Prop} (h:¬p):@decide p (Classical.propDecidable p)=false:=@decide_eq_false p (Classical.propDecidable p) h
theorem c3oid (B:Law3 T) (x y z:Int):∃a b c k:Nat,x % 4=(a:Nat)∧b≤16304∧c < 128 ^ 8∧k≤2∧∀r,CL T (r+2) 31 [.int x,.int y,.int z] =
  .ok (.tuple [.tuple [.str sOid,.list (nD a::nD b::(List.replicate k c).map nD)],.bytes (tlv (oneB 6) (if a=2∨(a < 2∧b < 40) then arcsB ((40*a+b)::List.replicate k c) else arcsB ((40*a+b)::List.replicate k c) ++ [129])),.bool (decide (a=2∨(a < 2∧b < 40)))]):=by
 obtain ⟨a,ha⟩:∃a:Nat,x % 4=(a:Nat):=⟨(x % 4).toNat,by lia⟩
 obtain ⟨k,hk⟩:∃k:Nat,z % 3=(k:Nat):=⟨(z % 3).toNat,by lia⟩
 have hk2:k≤2:=by lia
 have hb:=ZoJ y
 have hc:=ZoK x y
 have h8:(1099511627776:Nat) < 128 ^ 8:=by decide
 have h82:(20000:Nat) < 128 ^ 8:=by decide
 refine ⟨a,oidA y,oidC x y,k,ha,hb,by exact Nat.lt_of_le_of_lt (by assumption) (by assumption),hk2,?_⟩
 intro r
 have ib:index (.tuple [.int 0,.int 1,.int 39,.int 40,.int 47,.int 48,.int 16303,.int 16304]) (.int (y % 8)) = .ok (.int ((oidA y:Nat):Int)):=ZbD [0,1,39,40,47,48,16303,16304] nD y 8 rfl (by decide)
 have ic:index (.tuple [.int 0,.int 127,.int 128,.int 16383,.int 16384,.int 1099511627776]) (.int ((x+y) % 6)) = .ok (.int ((oidC x y:Nat):Int)):=ZbD [0,127,128,16383,16384,1099511627776] nD (x+y) 6 rfl (by decide)
 have h1:=c3arc B (r:=r) (n:=40*a+oidA y) (by lia)
 have h2:=c3arc B (r:=r) (n:=oidC x y) (by exact Nat.lt_of_le_of_lt (by assumption) (by assumption))
 have hl1:=Zbf 8 ((40*a+oidA y) / 128) (by lia)
 have hl2:=Zbf 8 (oidC x y / 128) (by lia)
 have hl3:=ZbU (40*a+oidA y)
 have hl4:=ZbU (oidC x y)
 have e40:(40:Int)*(a:Nat)+(oidA y:Nat)=((40*a+oidA y:Nat):Int):=by rfl
 have hr:=Zly (c:=arcB (oidC x y)) (k:=k) (by intro h;rw [h] at hl4;simp at hl4) (by lia) hk2
 have hfl:(List.replicate k (arcB (oidC x y))).flatten=arcsB (List.replicate k (oidC x y)):=by
  unfold arcsB;rw [List.flatMap,List.map_replicate]
 rw [hfl] at hr
 have hlA:(arcsB (List.replicate k (oidC x y))).length≤18:=by
  rw [←hfl];simp only [List.length_flatten,List.map_replicate,List.sum_replicate_nat];rw [hl4]
  have:k*((arcH (oidC x y / 128)).length+1)≤2*9:=Nat.mul_le_mul hk2 (by exact Nat.lt_succ_of_le (by assumption))
  assumption
 have hcat:binop .Add (.bytes (arcB (40*a+oidA y))) (.bytes (arcsB (List.replicate k (oidC x y)))) = .ok (.bytes (arcsB ((40*a+oidA y)::List.replicate k (oidC x y)))):=by
  rw [ZbS (by unfold SZ;lia)];simp [arcsB]
 have hlB:(arcsB ((40*a+oidA y)::List.replicate k (oidC x y))).length≤40:=by
  rw [show arcsB ((40*a+oidA y)::List.replicate k (oidC x y))=arcB (40*a+oidA y)++arcsB (List.replicate k (oidC x y)) by simp [arcsB],List.length_append];lia
 have hcat2:binop .Add (.bytes (arcsB ((40*a+oidA y)::List.replicate k (oidC x y)))) (.bytes [129]) = .ok (.bytes (arcsB ((40*a+oidA y)::List.replicate k (oidC x y)) ++ [129])):=ZbS (by unfold SZ;simp only [List.length_cons,List.length_nil];exact Nat.lt_of_le_of_lt (by assumption) (by decide))
 have hrl:=Zne (c:= .int ((oidC x y:Nat):Int)) hk2
 have hcl:binop .Add (.list [.int (a:Nat),.int ((oidA y:Nat):Int)]) (.list (List.replicate k (.int ((oidC x y:Nat):Int)))) = .ok (.list (nD a::nD (oidA y)::(List.replicate k (oidC x y)).map nD)):=by
  rw [ZdV (by simp [SZ];lia),List.map_replicate];rfl
 have ht1:=Zgh B (r:=r) (oneB 6) (arcsB ((40*a+oidA y)::List.replicate k (oidC x y))) (by rw [ZU];exact Nat.succ_pos _) (by exact Nat.lt_of_le_of_lt (by assumption) (by decide))
 have ht2:=Zgh B (r:=r) (oneB 6) (arcsB ((40*a+oidA y)::List.replicate k (oidC x y)) ++ [129]) (by rw [ZU];exact Nat.succ_pos _) (by simp;lia)
 rw [show oneB 6 = [6] from rfl] at *
 rw [ZF B.f31 rfl (by decide)]
 generalize List.replicate k (D.int ((oidC x y:Nat):Int))=RL at *
 generalize nD a::nD (oidA y)::(List.replicate k (oidC x y)).map nD=LL at *
 generalize arcsB ((40*a+oidA y)::List.replicate k (oidC x y)) ++ [129]=AB2 at *
 generalize arcsB ((40*a+oidA y)::List.replicate k (oidC x y))=AB at *
 generalize arcsB (List.replicate k (oidC x y))=AA at *
 by_cases h2':a=2
 ·rw [if_pos (.inl h2'),decide_eq_true (.inl h2')]
  simp (disch:=first | decide | assumption | lia) only [Zdw,X_k,Zo,ZC,P_or,ZO,Zx,ZZ,Zak,Zp,Zg,Zb,ZdR,Zio,Zu,ZG,ZA,Zfg,Zv,ZV,ZW,Zbx,c_eq,Zn,Zt,Zd,Zr,Zh,Zgw,Zz,ZiY,Zaa,Zaf,Zi,ZbY,Ze,Zf,Zk,Zl,Zc,okB_,Zq,zc4,zc6,zc7,zc8,zc9,zc16,zc17,ha,ib,ic,hk,Zdr,e40,h1,h2,hr,hcat,hrl,hcl,ht1]
 ·by_cases h3:a < 2
  ·by_cases h4:oidA y < 40
   ·rw [if_pos (.inr ⟨h3,h4⟩),decide_eq_true (.inr ⟨h3,h4⟩)]
    have e5:@decide (((oidA y:Nat):Int) < 40) (Classical.propDecidable _)=true:=dc_t (by exact Int.ofNat_lt.mpr (by assumption))
    simp (disch:=first | decide | assumption | lia) only [Zdw,e5,X_k,Zo,ZC,ZbC,P_or,ZO,Zx,ZZ,Zak,Zp,Zg,Zb,ZdR,Zio,Zu,ZG,ZA,Zfg,Zv,ZV,ZW,Zbx,c_eq,c_lt,Zn,Zt,Zd,Zr,Zh,Zgw,Zz,ZcZ,ZfJ,Zaa,Zaf,Zi,ZbY,Ze,Zf,Zk,Zl,Zc,okB_,Zq,zc4,zc6,zc7,zc8,zc9,zc16,zc17,ha,ib,ic,hk,Zdr,e40,h1,h2,hr,hcat,hrl,hcl,ht1]
   ·rw [if_neg (by lia),decide_eq_false (by lia)]
    have e5:@decide (((oidA y:Nat):Int) < 40) (Classical.propDecidable _)=false:=dc_f (by lia)
    simp (disch:=first | decide | assumption | lia) only [Zdw,e5,X_k,Zo,ZC,ZbC,P_or,ZO,Zx,ZZ,Zak,Zp,Zg,Zb,ZdR,Zio,Zu,ZG,ZA,Zfg,Zv,ZV,ZW,Zbx,c_eq,c_lt,Zn,Zt,Zd,Zr,Zh,Zgw,ZE,ZcZ,ZfJ,Zaa,Zaf,Zi,ZbY,Ze,Zf,Zk,Zl,Zc,okB_,Zq,zc5,zc6,zc7,zc8,zc9,zc16,zc17,ha,ib,ic,hk,Zdr,e40,h1,h2,hr,hcat,hcat2,hrl,hcl,ht2]
  ·rw [if_neg (by lia),decide_eq_false (by lia)]
   simp (disch:=first | decide | assumption | lia) only [Zdw,X_k,Zo,ZC,ZbC,P_or,ZO,Zx,ZZ,Zak,Zp,Zg,Zb,ZdR,Zio,Zu,ZG,ZA,Zfg,Zv,ZV,ZW,Zbx,c_eq,c_lt,Zn,Zt,Zd,Zr,Zh,Zgw,ZE,ZnU,ZfJ,Zaa,Zaf,Zi,ZbY,Ze,Zf,Zk,Zl,Zc,okB_,Zq,zc5,zc6,zc7,zc8,zc9,zc16,zc17,ha,ib,ic,hk,Zdr,e40,h1,h2,hr,hcat,hcat2,hrl,hcl,ht2]
end DK.Internal.B
end
section
set_option backward.match.sparseCases false
set_option genSizeOf false
set_option genCtorIdx false
namespace DK.Internal.B
open PySem
set_option maxRecDepth 20000
variable {T:Text} {r:Nat}
noncomputable def ct6aL:List (List UInt8):= [[],[65],[194,128],[225,128,128],[241,128,128,128]]
noncomputable def ct6aD:D:= .tuple (ct6aL.map .bytes)
theorem hct6a (sl):X T r ct6a sl = .ok ct6aD:=by
 simp only [ct6a,X_k,ZZ,Zg,Zb,Zd,Zaa,Zi,Zc]
 rfl
noncomputable def ct7aL:List (List UInt8):= [[],[90],[97,57],[32,40]]
noncomputable def ct7aD:D:= .tuple (ct7aL.map .bytes)
theorem hct7a (sl):X T r ct7a sl = .ok ct7aD:=by
 simp only [ct7a,X_k,ZZ,Zg,Zb,Zd,Zaa,Zi,Zc]
 rfl
noncomputable def rowD (l:List (List UInt8)):D:= .tuple (l.map .bytes)
noncomputable def ct6bL:List (List (List UInt8)):= [[[],[0],[127],[194,128],[223,191],[224,160,128],[224,191,191],[225,128,128],[236,191,191],[237,128,128],[237,159,191],[238,128,128]],[[239,191,191],[240,144,128,128],[240,191,191,191],[241,128,128,128],[243,191,191,191],[244,128,128,128],[244,143,191,191],[65],[195,169],[226,130,172],[240,159,152,128],[242,160,160,160]],[[128],[193,191],[241,128,128],[194,127],[223,192],[194],[224,159,191],[224,192,128],[225,127,128],[239,192,128],[237,127,128],[237,160,128]],[[225,128,127],[225,128,192],[225,128],[240,143,191,191],[240,192,128,128],[241,127,128,128],[241,192,128,128],[244,127,128,128],[244,144,128,128],[241,128,127,128],[241,128,128,192],[245,128,128,128]]]
noncomputable def ct6bD:D:= .tuple (ct6bL.map rowD)
theorem hct6b (sl):X T r ct6b sl = .ok ct6bD:=by
 simp only [ct6b,X_k,ZZ,Zg,Zb,Zd,Zaa,Zi,Zc]
 rfl
noncomputable def ct7bL:List (List (List UInt8)):= [[[],[65],[90],[97],[122],[48],[57],[32,39,40],[41,43,44],[45,46,47],[58,61,63],[72,101,108,108,111,44,32,87,111,114,108,100]],[[64],[91],[96],[123],[42],[38],[59],[60],[62],[95],[0],[233]]]
noncomputable def ct7bD:D:= .tuple (ct7bL.map rowD)
theorem hct7b (sl):X T r ct7b sl = .ok ct7bD:=by
 simp only [ct7b,X_k,ZZ,Zg,Zb,Zd,Zaa,Zi,Zc]
 rfl
noncomputable def ct8L:List (List (List UInt8)):= [[[50,48,50,52,48,50,50,57,50,51,53,57,53,57,90],[50,48,48,48,48,50,50,57,48,48,48,48,48,48,90],[48,48,48,48,48,50,50,57,48,48,48,48,48,48,90],[57,57,57,57,49,50,51,49,50,51,53,57,53,57,46,53,90],[50,48,50,51,48,52,51,48,49,48,49,48,49,48,46,48,53,90],[50,48,50,51,48,50,50,56,49,50,48,48,48,48,90],[50,48,50,51,48,49,51,49,48,48,48,48,48,48,46,49,50,51,52,53,54,55,56,57,90],[50,48,50,51,48,54,51,48,48,48,48,48,48,48,90],[50,48,50,51,48,57,51,48,48,48,48,48,48,48,90],[50,48,50,51,49,49,51,48,48,48,48,48,48,48,90],[50,48,50,51,48,53,51,49,48,48,48,48,48,48,90],[49,57,48,48,48,50,50,56,48,48,48,48,48,48,46,57,90]],[[],[50,48,50,52,48,49,48,49,48,48,48,48,48,47,90],[50,48,50,52,48,49,48,49,48,48,48,48,48,58,90],[58,48,50,52,48,49,48,49,48,48,48,48,48,48,90],[50,48,50,52,48,49,48,49,48,48,48,48,48,48,122],[50,48,50,52,48,49,48,49,48,48,48,48,48,48,46,53],[50,48,50,52,48,49,48,49,48,48,48,48,48,48,44,53,90],[50,48,50,52,48,49,48,49,48,48,48,48,48,48,46,90],[50,48,50,52,48,49,48,49,48,48,48,48,48,48,46,47,53,90],[50,48,50,52,48,49,48,49,48,48,48,48,48,48,46,53,58,90],[50,48,50,52,48,49,48,49,48,48,48,48,48,48,46,53,48,90],[50,48,50,52,48,49,48,49,48,48,54,48,48,48,90]],[[50,48,50,52,48,48,48,49,48,48,48,48,48,48,90],[50,48,50,52,49,51,48,49,48,48,48,48,48,48,90],[50,48,50,52,48,49,48,48,48,48,48,48,48,48,90],[50,48,50,52,48,49,51,50,48,48,48,48,48,48,90],[50,48,50,51,48,50,50,57,48,48,48,48,48,48,90],[49,57,48,48,48,50,50,57,48,48,48,48,48,48,90],[50,48,50,52,48,50,51,48,48,48,48,48,48,48,90],[50,48,50,51,48,52,51,49,48,48,48,48,48,48,90],[50,48,50,51,48,54,51,49,48,48,48,48,48,48,90],[50,48,50,51,48,57,51,49,48,48,48,48,48,48,90],[50,48,50,51,49,49,51,49,48,48,48,48,48,48,90],[50,48,50,52,48,49,48,49,50,52,48,48,48,48,90]],[[50,48,50,52,48,49,48,49,48,48,48,48,54,48,90],[50,48,48,48,48,50,51,48,48,48,48,48,48,48,90],[50,48,50,51,49,50,51,50,48,48,48,48,48,48,90],[50,48,50,52,48,49,48,49,48,48,48,48,48,48,46,48,90],[50,48,50,52,48,49,48,49,48,48,48,48,48,48],[50,48,50,52,48,49,48,49,48,48,48,48,48,48,90,90],[50,49,48,48,48,50,50,57,48,48,48,48,48,48,90],[50,48,50,52,48,49,48,49,48,48,48,48,48,90],[50,48,50,52,48,49,48,49,48,48,48,48,48,48,43,48,49,48,48],[50,52,48,49,48,49,48,48,48,48,48,48,90],[50,48,50,52,48,49,48,49,32,48,48,48,48,48,90],[50,48,50,52,48,49,48,49,48,48,48,48,48,48,46,49,32,53,90]]]
noncomputable def ct8D:D:= .tuple (ct8L.map rowD)
theorem hct8 (sl):X T r ct8 sl = .ok ct8D:=by
 simp only [ct8,X_k,ZZ,Zg,Zb,Zd,Zaa,Zi,Zc]
 rfl
theorem Zhp (l:List (List UInt8)) (z:Int) (h:l.length=12):index (rowD l) (.int (z % 12)) = .ok (.bytes (sel l z)):=ZbD l .bytes z 12 (by rw [h];rfl) (by lia)
theorem ix6a (x:Int):index ct6aD (.int (x % 5)) = .ok (.bytes (sel ct6aL x)):=ZbD ct6aL .bytes x 5 rfl (by decide)
theorem ix7a (x:Int):index ct7aD (.int (x % 4)) = .ok (.bytes (sel ct7aL x)):=ZbD ct7aL .bytes x 4 rfl (by decide)
theorem ix6b (y:Int):index ct6bD (.int (y % 4)) = .ok (rowD (sel ct6bL y)):=ZbD ct6bL rowD y 4 rfl (by decide)
theorem ix7b (y:Int):index ct7bD (.int (y % 2)) = .ok (rowD (sel ct7bL y)):=ZbD ct7bL rowD y 2 rfl (by decide)
theorem ix8 (y:Int):index ct8D (.int (y % 4)) = .ok (rowD (sel ct8L y)):=ZbD ct8L rowD y 4 rfl (by decide)
theorem ZiK:(∀l∈ct6bL,l.length=12)∧(∀l∈ct7bL,l.length=12)∧(∀l∈ct8L,l.length=12):=by decide
theorem len6:(∀a∈ct6aL,a.length≤40)∧(∀l∈ct6bL,∀a∈l,a.length≤40)∧(∀a∈ct7aL,a.length≤40)∧(∀l∈ct7bL,∀a∈l,a.length≤40)∧(∀l∈ct8L,∀a∈l,a.length≤40):=by decide
theorem tab6 (r:Nat):(ct6aL.all fun a=>([0,1,2,3]:List Nat).all fun i=>(ct6bL.getD i []).all fun b=>tx T3L r sUtf8 (decide (i < 2)) (a++b))=true:=by kernel_rfl
theorem tab7 (r:Nat):(ct7aL.all fun a=>([0,1]:List Nat).all fun i=>(ct7bL.getD i []).all fun b=>tx T3L r sPrint (decide (i=0)) ((a++b) ++ [122,57]))=true:=by kernel_rfl
theorem tab8 (r:Nat):(([0,1,2,3]:List Nat).all fun i=>(ct8L.getD i []).all fun b=>tx T3L r sTime (decide (i=0)) b)=true:=by kernel_rfl
theorem tx_at {k:List Nat} {b:List UInt8} {g g':Bool} (h:∀r,tx T3L r k g b=true) (e:g=g') (r:Nat):CL T3L (r+4) 17 [.str k,.bytes b] = .ok (.bool g'):=e ▸ tx_ok (h r)
theorem ZiL {α:Type} [Inhabited α] (l:List α) (y:Int):sel l y=l.getD (y % (l.length:Int)).toNat default:=rfl
noncomputable def Txt3 (kind:Int) (k:List Nat) (x y z:Int):Prop:=∃d g,(∀r,CL T3L (r+1) 32 [.int kind,.int x,.int y,.int z] = .ok (.tuple [.bytes d,.bool g]))∧(∀r,CL T3L (r+4) 17 [.str k,.bytes d] = .ok (.bool g))∧d.length≤90
theorem text6 (B:Law3 T3L) (x y z:Int):Txt3 6 sUtf8 x y z:=by
 have ma:=Zaq ct6aL x (by decide)
 have mr:=Zaq ct6bL y (by decide)
 have hrow:=ZiK.1 _ mr
 have mb:=Zaq (sel ct6bL y) z (by lia)
 have la:=len6.1 _ ma
 have lb:=len6.2.1 _ mr _ mb
 have ir:=Zhp (sel ct6bL y) z hrow
 have hcat:binop .Add (.bytes (sel ct6aL x)) (.bytes (sel (sel ct6bL y) z)) = .ok (.bytes (sel ct6aL x++sel (sel ct6bL y) z)):=ZbS (by unfold SZ;lia)
 refine ⟨sel ct6aL x++sel (sel ct6bL y) z,decide (y % 4 < 2),?_,?_,by simp;lia⟩
 ·intro r
  rw [ZF B.f32 rfl (by decide)]
  simp (disch:=first | decide | assumption | lia) only [ZdM,X_k,Zo,ZC,ZO,Zx,ZZ,Zg,Zb,Zs,ZG,Zv,Za,Zbx,c_eq,c_lt,Zn,Zt,Zd,Zr,ZE,Zaa,Zi,Ze,Zf,Zc,okB_,Zq,zc6,zc7,zc8,zc9,zc10,zc14,zc15,zc17,hct6a,hct6b,ix6a,ix6b,ir,hcat]
  rw [dc_eq]
 ·have ht:=fun r=>tab6 r
  simp only [List.all_eq_true] at ht
  obtain ⟨j,hj⟩:∃j:Nat,y % 4=(j:Nat):=⟨(y % 4).toNat,by lia⟩
  have e:sel ct6bL y=ct6bL.getD j []:=by
   rw [ZiL,show (ct6bL.length:Int)=4 from rfl,hj];rfl
  exact tx_at (fun r=>ht r _ ma j (by simp;lia) (sel (sel ct6bL y) z) (by rw [←e];exact mb)) (decide_eq_decide.mpr (by lia))
theorem text7 (B:Law3 T3L) (x y z:Int):Txt3 7 sPrint x y z:=by
 have ma:=Zaq ct7aL x (by decide)
 have mr:=Zaq ct7bL y (by decide)
 have hrow:=ZiK.2.1 _ mr
 have mb:=Zaq (sel ct7bL y) z (by lia)
 have la:=len6.2.2.1 _ ma
 have lb:=len6.2.2.2.1 _ mr _ mb
 have ir:=Zhp (sel ct7bL y) z hrow
 have hcat:binop .Add (.bytes (sel ct7aL x)) (.bytes (sel (sel ct7bL y) z)) = .ok (.bytes (sel ct7aL x++sel (sel ct7bL y) z)):=ZbS (by unfold SZ;lia)
 have hcat2:binop .Add (.bytes (sel ct7aL x++sel (sel ct7bL y) z)) (.bytes [122,57]) = .ok (.bytes ((sel ct7aL x++sel (sel ct7bL y) z) ++ [122,57])):=ZbS (by unfold SZ;simp only [List.length_append,List.length_cons,List.length_nil];lia)
 refine ⟨(sel ct7aL x++sel (sel ct7bL y) z) ++ [122,57],decide (y % 2=0),?_,?_,by simp;lia⟩
 ·intro r
  rw [ZF B.f32 rfl (by decide)]
  simp (disch:=first | decide | assumption | lia) only [ZdM,X_k,Zo,ZC,ZO,Zx,ZZ,Zg,Zb,Zs,Zu,ZG,Zv,Za,Zbx,c_eq,Zn,Zt,Zd,Zr,ZE,Zy,Zaa,Zi,Ze,Zf,Zc,okB_,Zq,zc6,zc7,zc8,zc9,zc10,zc14,zc15,zc17,hct7a,hct7b,ix7a,ix7b,ir,hcat,hcat2]
 ·have ht:=fun r=>tab7 r
  simp only [List.all_eq_true] at ht
  obtain ⟨j,hj⟩:∃j:Nat,y % 2=(j:Nat):=⟨(y % 2).toNat,by lia⟩
  have e:sel ct7bL y=ct7bL.getD j []:=by
   rw [ZiL,show (ct7bL.length:Int)=2 from rfl,hj];rfl
  exact tx_at (fun r=>ht r _ ma j (by simp;lia) (sel (sel ct7bL y) z) (by rw [←e];exact mb)) (decide_eq_decide.mpr (by lia))
theorem text8 (B:Law3 T3L) (x y z:Int):Txt3 8 sTime x y z:=by
 have mr:=Zaq ct8L y (by decide)
 have hrow:=ZiK.2.2 _ mr
 have mb:=Zaq (sel ct8L y) z (by lia)
 have lb:=len6.2.2.2.2 _ mr _ mb
 have ir:=Zhp (sel ct8L y) z hrow
 refine ⟨sel (sel ct8L y) z,decide (y % 4=0),?_,?_,by exact Nat.le_trans (by assumption) (by decide)⟩
 ·intro r
  rw [ZF B.f32 rfl (by decide)]
  simp (disch:=first | decide | assumption | lia) only [ZdM,X_k,Zo,ZC,ZO,Zx,ZZ,Zg,Zb,Zs,Zu,ZG,Zv,Za,Zbx,c_eq,Zn,Zt,Zd,Zr,Zy,Zaa,Zi,Ze,Zf,Zc,okB_,Zq,zc6,zc7,zc8,zc9,zc14,zc15,zc17,hct8,ix8,ir]
 ·have ht:=fun r=>tab8 r
  simp only [List.all_eq_true] at ht
  obtain ⟨j,hj⟩:∃j:Nat,y % 4=(j:Nat):=⟨(y % 4).toNat,by lia⟩
  have e:sel ct8L y=ct8L.getD j []:=by
   rw [ZiL,show (ct8L.length:Int)=4 from rfl,hj];rfl
  exact tx_at (fun r=>ht r j (by simp;lia) (sel (sel ct8L y) z) (by rw [←e];exact mb)) (decide_eq_decide.mpr (by lia))
end DK.Internal.B
end
section
set_option backward.match.sparseCases false
set_option genSizeOf false
set_option genCtorIdx false
namespace DK.Internal.B
open PySem
set_option maxRecDepth 20000
variable {T:Text} {r:Nat}
noncomputable def jvL:List (List D):= [[.none,.list [.str sInt,.int 5],.tuple [],.tuple [.str [114,101,97,108],.bytes [49]],.tuple [.str sNull,.none],.tuple [.str sInt],.tuple [.str sInt,.int 1,.int 2],.tuple [.str sInt,.bool true],.tuple [.str sEnum,.str [53]],.tuple [.str sBool,.int 1],.tuple [.str sBool,.none],.tuple [.str sBits,.int 0]],[.tuple [.str sBits,.bool true,.bytes [97]],.tuple [.str sBits,.int 0,.list [.int 0]],.tuple [.str sBits,.int (-1),.bytes [0]],.tuple [.str sBytes,.str [97]],.tuple [.str sUtf8,.list [.int 65]],.tuple [.str sOid,.tuple [.int 1,.int 2]],.tuple [.str sOid,.list [.int 1]],.tuple [.str sOid,.list [.int 1,.bool true]],.tuple [.str sOid,.list [.int (-1),.int 3]],.tuple [.str sOid,.list [.int 1,.int 2,.int (-1)]],.tuple [.str sSeq,.tuple []],.tuple [.str sSet,.none]],[.tuple [.str sTagged,.int (-1),.tuple [.str sNull]],.tuple [.str sTagged,.bool true,.tuple [.str sNull]],.tuple [.str sTagged,.int 1],.tuple [.str sSeq,.list [.tuple [.str sNull],.int 5]],.tuple [.str sSeq,.list [.tuple [.str sInt,.int 1],.tuple [.str sInt,.bool false]]],.tuple [.str sSet,.list [.tuple [.str sNull],.tuple [.str sBool,.bool true]]],.tuple [.str sTagged,.int 0,.tuple [.str sNull,.int 1]],.tuple [.str sTagged,.int 0,.none],.tuple [.str sOid,.list []],.tuple [.str sOid,.list [.int 2,.int (-1)]],.tuple [.str sSeq,.list [.tuple [.str sOid,.list [.int 0,.int 40]]]],.tuple [.str sTime,.str [50,48,50,52,48,49,48,49,48,48,48,48,48,48,90]]]]
noncomputable def jvD:D:= .tuple (jvL.map .tuple)
noncomputable def jrL:List (List (List UInt8)):= [[[1,1,1],[1,0],[1,2,255,255],[2,0],[2,2,0,127],[2,2,255,128],[10,2,0,0],[5,1,0],[6,0],[6,3,42,128,1],[3,0],[10,0]],[[160,0],[160,4,5,0,5,0],[191,30,2,5,0],[191,128,31,2,5,0],[7,0],[192,2,5,0],[159,2,5,0],[48,1,5],[48,2,4,1],[48,1,191],[48,2,191,159],[49,6,2,1,2,2,1,1]],[[5,129,0],[4,129,1,97],([4,129,127]++List.replicate 127 97),([4,130,0,128]++List.replicate 128 97),[4,128],[48,128,5,0,0,0],[4,137,1,1,1,1,1,1,1,1,1],([4,131,0,1,0]++List.replicate 256 97),[2,130,0,1,5],[4,132,0,0,0,1,97],[1,129,1,255],([4,130,0,255]++List.replicate 255 97)]]
noncomputable def jrD:D:= .tuple (jrL.map rowD)
theorem hcjv (sl):X T r cjv sl = .ok jvD:=by
 simp only [cjv,X_k,ZgK,ZZ,Zak,Zg,Zb,ZcA,Zd,Zaa,Zaf,Zi,Zc]
 rfl
theorem Zlz (u:UInt8) (n:Nat) (h:n≤50000):binop .Mult (.bytes [u]) (.int (n:Nat)) = .ok (.bytes (List.replicate n u)):=by
 refine (if_pos ⟨by exact Int.natCast_nonneg _,by exact Int.ofNat_le.mpr (by assumption),by simp,by simp⟩).trans ?_
 congr 2
 rw [Int.toNat_natCast]
 clear h
 induction n with
 | zero=>rfl
 | succ n ih=>rw [List.replicate_succ,List.flatten_cons,ih,List.replicate_succ];rfl
theorem Znf:binop .Mult (.bytes [97]) (.int 127) = .ok (.bytes (List.replicate 127 97)):=Zlz 97 127 (by decide)
theorem Zng:binop .Mult (.bytes [97]) (.int 128) = .ok (.bytes (List.replicate 128 97)):=Zlz 97 128 (by decide)
theorem mulB_9:binop .Mult (.bytes [1]) (.int 9) = .ok (.bytes (List.replicate 9 1)):=Zlz 1 9 (by decide)
theorem Znh:binop .Mult (.bytes [97]) (.int 256) = .ok (.bytes (List.replicate 256 97)):=Zlz 97 256 (by decide)
theorem Zni:binop .Mult (.bytes [97]) (.int 255) = .ok (.bytes (List.replicate 255 97)):=Zlz 97 255 (by decide)
theorem Znj:binop .Add (.bytes [4,129,127]) (.bytes (List.replicate 127 97)) = .ok (.bytes ([4,129,127]++List.replicate 127 97)):=ZbS (by rw [List.length_replicate];decide)
theorem Znk:binop .Add (.bytes [4,130,0,128]) (.bytes (List.replicate 128 97)) = .ok (.bytes ([4,130,0,128]++List.replicate 128 97)):=ZbS (by rw [List.length_replicate];decide)
theorem catJ_9:binop .Add (.bytes [4,137]) (.bytes (List.replicate 9 1)) = .ok (.bytes ([4,137]++List.replicate 9 1)):=ZbS (by rw [List.length_replicate];decide)
theorem Znl:binop .Add (.bytes [4,131,0,1,0]) (.bytes (List.replicate 256 97)) = .ok (.bytes ([4,131,0,1,0]++List.replicate 256 97)):=ZbS (by rw [List.length_replicate];decide)
theorem Znm:binop .Add (.bytes [4,130,0,255]) (.bytes (List.replicate 255 97)) = .ok (.bytes ([4,130,0,255]++List.replicate 255 97)):=ZbS (by rw [List.length_replicate];decide)
theorem hcjr (sl):X T r cjr sl = .ok jrD:=by
 simp only [cjr,X_k,ZC,ZZ,Zg,Zb,Zd,Zaa,Zi,Zc,zc8,zc9,Znf,Zng,mulB_9,Znh,Zni,Znj,Znk,catJ_9,Znl,Znm]
 rfl
theorem ixjv (y:Int):index jvD (.int (y % 3)) = .ok (.tuple (sel jvL y)):=ZbD jvL .tuple y 3 rfl (by decide)
theorem ixjr (y:Int):index jrD (.int (y % 3)) = .ok (rowD (sel jrL y)):=ZbD jrL rowD y 3 rfl (by decide)
theorem rowsj:(∀l∈jvL,l.length=12)∧(∀l∈jrL,l.length=12):=by decide
theorem Znn (l:List D) (z:Int) (h:l.length=12):index (.tuple l) (.int (z % 12)) = .ok (sel l z):=by
 have:=ZbD l id z 12 (by rw [h];rfl) (by lia)
 rw [List.map_id] at this;exact this
noncomputable def isTrue:Out Bool→Bool
 | .ok true=>true
 | _=>false
theorem ZnK:(jvL.all fun l=>l.all fun v=>isExc (callT fast T3L 299 20 [.val v]) && isTrue (D.peq eqDeep v v))=true:=by decide +kernel
theorem jr_all:(jrL.all fun l=>l.all fun b=>isExc (callT fast T3L 299 24 [.val (.bytes b),.val (.int 9)]) && decide (0 < b.length∧b.length≤300))=true:=by decide +kernel
theorem ZlA {o:Out Bool} (h:isTrue o=true):o = .ok true:=by
 cases o with
 | ok b=>cases b<;>simp [isTrue] at h;rfl
 | exc=>simp [isTrue] at h
 | stuck=>simp [isTrue] at h
theorem c3junk (B:Law3 T) (x y z:Int):∀r,CL T (r+1) 33 [.int x,.int y,.int z] = .ok (.tuple [sel (sel jvL y) z,.bytes (sel (sel jrL x) z),.bool false]):=by
 intro r
 rw [ZF B.f33 rfl (by decide)]
 have i1:=Znn (sel jvL y) z (rowsj.1 _ (Zaq jvL y (by decide)))
 have i2:=Zhp (sel jrL x) z (rowsj.2 _ (Zaq jrL x (by decide)))
 generalize sel (sel jvL y) z=V at *
 generalize sel (sel jrL x) z=R at *
 simp (disch:=first | decide | assumption | lia) only [Zgo,X_k,Zo,ZC,Zx,ZZ,Zg,Zb,ZG,ZA,Zbx,Zn,Zd,Zr,Zh,Zaa,Zi,Ze,Zf,Zk,Zl,Zc,Zq,zc6,zc7,zc8,zc9,zc16,zc17,hcjv,hcjr,ixjv,ixjr,i1,i2]
end DK.Internal.B
end
section
set_option backward.match.sparseCases false
set_option genSizeOf false
set_option genCtorIdx false
namespace DK.Internal.B
open PySem
set_option maxRecDepth 20000
variable {T:Text} {r:Nat}
noncomputable def tailS:Nat→Ss→Ss
 | 0,s=>s
 | n+1,s=>match s with
  | .cons _ s=>tailS n s
  | .nil=> .nil
noncomputable def dec_rest:Ss:=tailS 11 Zai
noncomputable def dec_hd (ss:Ss):Ss:=(.cons (.ex (.call 13 (.cons (.cmp .Lt (.var 1) (.bi .len (.cons (.var 0) .nil))) .nil)))
 (.cons (.asg 3 (.idx (.var 0) (.var 1)))
 (.cons (.asg 4 (.k .none))
 (.cons (.asg 5 (.bin .Add (.var 1) (.k (.int 1))))
 (.cons (.ife (.cmp .Eq (.var 3) (.k (.int 191))) (.cons (.asg 4 (.k (.int 0)))
 (.cons (.asg 6 (.var 5))
 (.cons (.whl ZaI ZaJ)
 (.cons (.ex (.call 13 (.cons (.and (.cmp .NotEq (.idx (.var 0) (.var 6)) (.k (.int 128))) (.cmp .GtE (.var 4) (.k (.int 31)))) .nil)))
 .nil)))) (.cons (.ife (.and (.cmp .LtE (.k (.int 160)) (.var 3)) (.cmp .Lt (.var 3) (.k (.int 191)))) (.cons (.asg 4 (.bin .Sub (.var 3) (.k (.int 160))))
 .nil) .nil)
 .nil))
 (.cons (.asg 7 (.call 4 (.cons (.var 0) (.cons (.var 5) .nil))))
 (.cons (.asg 8 (.idx (.var 7) (.k (.int 0))))
 (.cons (.asg 5 (.idx (.var 7) (.k (.int 1))))
 (.cons (.asg 9 (.slc (.var 0) (.var 5) (.bin .Add (.var 5) (.var 8))))
 (.cons (.ex (.call 13 (.cons (.cmp .Eq (.bi .len (.cons (.var 9) .nil)) (.var 8)) .nil)))
 (.cons (.asg 10 (.bin .Add (.var 5) (.var 8))) ss)))))))))))
theorem dec_eq:Zai=dec_hd dec_rest:=by kernel_rfl
noncomputable def shortL:List (Nat × List UInt8):= [(1,[1]),(1,[]),(1,[255,255]),(2,[]),(2,[0,127]),(2,[255,128]),(10,[0,0]),(5,[0]),(6,[]),(6,[42,128,1]),(3,[]),(10,[]),(160,[]),(160,[5,0,5,0]),(7,[]),(192,[5,0]),(159,[5,0]),(48,[5]),(48,[4,1]),(48,[191]),(48,[191,159])]
noncomputable def nOf (t:Nat):D:=if 160≤t∧t < 191 then .int ((t:Int) - 160) else .none
theorem Zno (a b q e pr:D):(shortL.all fun p=>isExc (sts fast T3L (callT fast T3L 295) dec_rest [.val a,.val b,.val (.int 8),.val (.int (p.1:Nat)),.val (nOf p.1),.val q,.un,.val pr,.val (.int (p.2.length:Nat)),.val (.bytes p.2),.val e,.un,.un,.un]))=true:=by kernel_rfl
theorem Znp:∀p∈shortL,p.1 < 256∧p.1≠191∧p.2.length < 128:=by decide
theorem ZlB {t:Nat} {c:List UInt8} (hm:(t,c)∈shortL) (pre suf:List UInt8):CL T3L 296 23 [.bytes (pre++(tlv (oneB t) c++suf)),.int (pre.length:Nat),.int 8] = .exc:=by
 have B:=Zcc
 obtain ⟨h1,h2,h3⟩:=Znp _ hm
 dsimp only at h1 h2 h3
 have H:=ZbK B.toBase (T:=T3L) (r:=285) h1 c pre suf (by exact Nat.lt_of_lt_of_le (by assumption) (by decide))
 have hrl:=H.rl
 have e10:=H.lt
 rw [ZF (r:=295) B.f23 rfl (by decide)]
 show bnd retV (Y T3L 295 Zai _)=_
 rw [dec_eq]
 generalize pre++(tlv (oneB t) c++suf)=data at *
 have hR:=fun b q e pr=>List.all_eq_true.mp (Zno (.bytes data) b q e pr) _ hm
 rw [←fast_eq] at hR
 have hR:=fun b q e pr=>Zjk (hR b q e pr)
 by_cases hn:160≤t∧t < 191
 ·simp only [nOf,if_pos hn] at hR
  simp (disch:=first | decide | assumption | lia) only [dec_hd,X_k,Zo,ZC,ZO,Zx,ZaF,P_bi,Zp,Zg,Zb,Zao,Zs,Zu,ZA,Zv,Z_ex,Za,ZW,ZaR,c_eq,c_lt,c_le,Zj,Zt,Zd,Zae,Zh,ZY,Zy,ZD,Zda,Zi,Ze,Zf,Zk,Zl,Zc,okB_,Zq,zc6,zc7,zc8,zc9,zc10,zc16,zc17,ZT,Zad,ZH B.toBase (T:=T3L) (r:=294),ZB B.toBase (T:=T3L) (r:=294),H.ix,hrl,H.sl]
  rw [←ZeG,hR];rfl
 ·simp only [nOf,if_neg hn] at hR
  by_cases h160:160≤t
  ·simp (disch:=first | decide | assumption | lia) only [dec_hd,X_k,Zo,ZC,ZO,Zx,ZaF,P_bi,Zp,Zg,Zb,Zao,Zs,Zu,ZA,Zv,Z_ex,Za,ZW,c_eq,c_lt,c_le,Zj,Zt,Zd,Zae,Zh,Zy,ZD,Zda,Zi,Ze,Zf,Zk,Zl,Zc,okB_,Zq,zc6,zc7,zc8,zc9,zc10,zc16,zc17,ZT,Zad,ZH B.toBase (T:=T3L) (r:=294),ZB B.toBase (T:=T3L) (r:=294),H.ix,hrl,H.sl]
   rw [←ZeG,hR];rfl
  ·simp (disch:=first | decide | assumption | lia) only [dec_hd,X_k,Zo,ZC,ZO,Zx,ZaF,P_bi,Zp,Zg,Zb,Zao,Zs,Zu,ZA,Zv,Z_ex,Za,ZW,c_eq,c_lt,c_le,Zj,Zt,Zd,Zae,Zh,Zz,Zy,ZD,Zan,Zi,Ze,Zf,Zk,Zl,Zc,okB_,Zq,zc6,zc7,zc8,zc9,zc10,zc16,zc17,ZT,Zad,ZH B.toBase (T:=T3L) (r:=294),ZB B.toBase (T:=T3L) (r:=294),H.ix,hrl,H.sl]
   rw [←ZeG,hR];rfl
theorem Zjq (hs:List UInt8) (l:UInt8) (hl:l.toNat < 128) (hh:∀u∈hs,128≤u.toNat) (hl2:hs.length≤9) (u:UInt8) (us:List UInt8) (hu:hs ++ [l]=u::us) (hbad:u.toNat=128∨(hs ++ [l]).foldl stepA 0 < 31) (rest pre suf:List UInt8) :
  CL T3L 296 23 [.bytes (pre++((191::(hs ++ [l]))++rest++suf)),.int (pre.length:Nat),.int 8] = .exc:=by
 have B:=Zcc
 rw [ZF (r:=295) B.f23 rfl (by decide)]
 have e:pre++((191::(hs ++ [l]))++rest++suf)=(pre ++ [191])++(hs++l::(rest++suf)):=by simp
 have e2:pre++((191::(hs ++ [l]))++rest++suf)=pre++191::u::(us++(rest++suf)):=by
  rw [show (191::(hs ++ [l]))++rest++suf=191::((hs ++ [l])++(rest++suf)) by simp,hu];rfl
 have hw:=fun s1 s2 s3 sl=>Zhf B.toBase (T:=T3L) (r:=294) _ (rest++suf) l hl s1 s2 s3 sl hs (pre ++ [191]) 0 0 e hh (by decide) (by lia)
 have hix:index (.bytes (pre++((191::(hs ++ [l]))++rest++suf))) (.int (pre.length:Nat)) = .ok (.int ((191:Nat):Int)):=by rw [e2];exact Zab _ _ _ rfl
 have hst:index (.bytes (pre++((191::(hs ++ [l]))++rest++suf))) (.int ((pre.length:Nat)+1)) = .ok (.int (u.toNat:Nat)):=by rw [e2];exact Zgy pre _ 191 u (by rfl)
 have hlt:pre.length < (pre++((191::(hs ++ [l]))++rest++suf)).length:=by rw [e2];simp
 have q1:(((pre ++ [(191:UInt8)]).length:Nat):Int)=((pre.length:Nat):Int)+1:=by simp
 rw [q1] at hw
 rw [show 294+1=295 from rfl] at hw
 simp only [show ((0:Nat):Int)=0 from rfl] at hw
 generalize pre++((191::(hs ++ [l]))++rest++suf)=data at *
 generalize (hs ++ [l]).foldl stepA 0=N at *
 by_cases h128:u.toNat=128
 ·rw [h128] at hst
  simp (disch:=first | decide | assumption | lia) only [Zai,X_k,Zo,ZC,ZbC,ZO,Zx,P_bi,Zp,Zg,Zb,Zs,ZA,Zv,Zcu,Z_ex,ZK,Za,ZW,c_eq,c_ne,c_lt,Zj,Zt,Zd,Zh,ZY,ZD,Zav,ZnV,Zi,Ze,Zf,Zk,Zl,Zc,ZL,okB_,ZaK,Zq,zc6,zc7,zc8,zc9,zc16,zc17,ZH B.toBase (T:=T3L) (r:=294),Zds B.toBase (T:=T3L) (r:=294),hix,hw,hst]
 ·have hN:=hbad.resolve_left h128
  simp (disch:=first | decide | assumption | lia) only [Zai,X_k,Zo,ZC,ZbC,ZO,Zx,P_bi,Zp,Zg,Zb,Zs,ZA,Zv,Zcu,Z_ex,ZK,Za,ZW,c_eq,c_ne,c_lt,c_ge,Zj,Zt,Zd,Zh,ZY,ZD,Zav,ZfI,Zi,Ze,Zf,Zk,Zl,Zc,ZL,okB_,ZaK,Zq,zc6,zc7,zc8,zc9,zc16,zc17,ZH B.toBase (T:=T3L) (r:=294),ZcK B.toBase (T:=T3L) (r:=294),hix,hw,hst]
theorem rl_bad (B:Base T) (c:UInt8) (body pre suf:List UInt8) (k:Nat) (hc:c.toNat=128+k) (hk8:k < 128) (h:k=0∨8 < k∨(1≤k∧k≤8∧body.length=k∧beV body < 65536∧lenB (beV body)≠c::body)) :
  CL T (r+10) 4 [.bytes (pre++(c::(body++suf))),.int (pre.length:Nat)] = .exc:=by
 rw [ZF B.f4 rfl (by decide)]
 have e1:(128+k) % 128=k:=by lia
 have hlt:pre.length < (pre++(c::(body++suf))).length:=by simp
 have hix:index (.bytes (pre++(c::(body++suf)))) (.int (pre.length:Nat)) = .ok (.int (c.toNat:Nat)):=Zab _ _ _ rfl
 rw [hc] at hix
 have hs:=ZaX (pre++(c::(body++suf))) (a:=(pre.length:Nat)+1) (b:=(pre.length:Nat)+1+(k:Nat)) (pre.length+1) k (by rfl) (by rfl)
 have hs1:=ZaX (pre++(c::(body++suf))) (a:=(pre.length:Nat)) (b:=(pre.length:Nat)+1+(k:Nat)) pre.length (k+1) rfl (by lia)
 by_cases h0:k=0
 ·generalize (List.drop (pre.length+1) (pre++(c::(body++suf)))).take k=X at *
  generalize pre++(c::(body++suf))=data at *
  simp (disch:=first | decide | assumption | lia) only [Zah,X_k,Zo,ZC,Zx,ZaF,P_bi,Zg,Zb,R_or,Zs,Zu,ZA,Zv,ZdS,Za,ZW,c_lt,c_ge,Zj,Zd,Zae,Zh,ZE,Zy,ZnC,Zi,Ze,Zf,Zk,Zl,Zc,ZL,Zq,zc6,zc7,zc8,zc9,zc16,zc17,hix,ZaS,e1,hs]
 ·by_cases h9:8 < k
  ·generalize (List.drop (pre.length+1) (pre++(c::(body++suf)))).take k=X at *
   generalize pre++(c::(body++suf))=data at *
   simp (disch:=first | decide | assumption | lia) only [Zah,X_k,Zo,ZC,Zx,ZaF,P_bi,Zg,Zb,R_or,Zs,Zu,ZA,Zv,ZdS,Za,ZW,c_lt,c_gt,c_ge,Zj,Zd,Zae,Zh,ZE,Zy,ZnC,ZfL,Zi,Ze,Zf,Zk,Zl,Zc,ZL,Zq,zc6,zc7,zc8,zc9,zc16,zc17,hix,ZaS,e1,hs]
  ·obtain ⟨h1,h2,h3,h4,h5⟩:=(h.resolve_left h0).resolve_left h9
   have hw:=ZI B (r:=r) h4
   have hu:=Zha B body 0 0 body.length (r+8) (by exact Nat.zero_le _) (by exact Nat.le_refl _) (by lia) (by lia)
   rw [Zku] at hu
   rw [show pre++(c::(body++suf))=(pre ++ [c])++(body++suf) by simp,ZeB (pre ++ [c]) body suf (pre.length+1) k (by simp) h3.symm] at hs
   rw [show (pre ++ [c])++(body++suf)=pre++(c::(body++suf)) by simp] at hs
   rw [show pre++(c::(body++suf))=pre++((c::body)++suf) by simp,ZeB pre (c::body) suf pre.length (k+1) rfl (by simp [h3])] at hs1
   rw [show pre++((c::body)++suf)=pre++(c::(body++suf)) by simp] at hs1
   generalize pre++(c::(body++suf))=data at *
   generalize hcb:c::body=cb at *
   simp only [show ((0:Nat):Int)=0 from rfl] at hu
   simp (disch:=first | decide | assumption | lia) only [Zah,X_k,Zo,ZC,Zx,ZaF,P_bi,Zp,Zg,Zb,R_or,Zs,Zu,ZA,Zv,ZdS,Za,ZW,c_ne,c_lt,c_gt,c_ge,Zj,Zt,Zcn,Zd,Zae,Zh,Zy,ZgM,ZnQ,ZfL,Zi,Ze,Zf,Zk,Zl,Zc,ZL,ZaK,Zq,zc6,zc7,zc8,zc9,zc16,zc17,hix,ZaS,e1,hs,hs1,hu,hw]
theorem ZjT (B:Base T) (t:UInt8) (ht:t.toNat < 160) (x pre:List UInt8) (dep:Int) (h:CL T (r+10) 4 [.bytes (pre++t::x),.int ((pre.length:Nat)+1)] = .exc) :
  CL T (r+11) 23 [.bytes (pre++t::x),.int (pre.length:Nat),.int dep] = .exc:=by
 rw [ZF B.f23 rfl (by decide)]
 have hlt:pre.length < (pre++t::x).length:=by simp
 have hix:index (.bytes (pre++t::x)) (.int (pre.length:Nat)) = .ok (.int (t.toNat:Nat)):=Zab _ _ _ rfl
 generalize pre++t::x=data at *
 simp (disch:=first | decide | assumption | lia) only [Zai,X_k,Zo,ZC,ZO,Zx,P_bi,Zp,Zg,Zb,Zao,Zs,Zu,ZA,Zv,Z_ex,Za,ZW,c_eq,c_lt,c_le,Zj,Zt,Zd,Zh,ZaL,Zz,Zy,ZD,Zan,Zi,Ze,Zf,Zk,Zl,Zc,ZL,okB_,Zq,zc6,zc7,zc8,zc9,zc16,zc17,ZH B,hix,h]
noncomputable def badL:List (UInt8 × UInt8 × List UInt8 × List UInt8):= [(5,129,[0],[]),(4,129,[1],[97]),(4,129,[127],List.replicate 127 97),(4,130,[0,128],List.replicate 128 97),(4,128,[],[]),(48,128,[],[5,0,0,0]),(4,137,[1,1,1,1,1,1,1,1,1],[]),(4,131,[0,1,0],List.replicate 256 97),(2,130,[0,1],[5]),(4,132,[0,0,0,1],[97]),(1,129,[1],[255]),(4,130,[0,255],List.replicate 255 97)]
noncomputable def badOk (p:UInt8 × UInt8 × List UInt8 × List UInt8):Bool:=decide (p.1.toNat < 160∧128≤p.2.1.toNat) && (decide (p.2.1.toNat=128) || (decide (136 < p.2.1.toNat) || decide (p.2.2.1.length=p.2.1.toNat - 128∧128 < p.2.1.toNat∧p.2.1.toNat≤136∧beV p.2.2.1 < 65536∧lenB (beV p.2.2.1)≠p.2.1::p.2.2.1)))
noncomputable def badB (p:UInt8 × UInt8 × List UInt8 × List UInt8):List UInt8:=p.1::p.2.1::(p.2.2.1++p.2.2.2)
theorem bad_ok:badL.all badOk=true:=by decide +kernel
theorem ZoL {p:UInt8 × UInt8 × List UInt8 × List UInt8} (hp:p∈badL) (pre suf:List UInt8):CL T3L 296 23 [.bytes (pre++(badB p++suf)),.int (pre.length:Nat),.int 8] = .exc:=by
 have h:=List.all_eq_true.mp bad_ok p hp
 obtain ⟨t,c,body,rest⟩:=p
 simp only [badOk,Bool.and_eq_true,Bool.or_eq_true,decide_eq_true_eq] at h
 obtain ⟨⟨h1,h2⟩,h3⟩:=h
 have hc:=c.toNat_lt
 rw [show pre++(badB (t,c,body,rest)++suf)=pre++t::(c::(body++(rest++suf))) by simp [badB]]
 refine ZjT Zcc.toBase (T:=T3L) (r:=285) t h1 _ pre 8 ?_
 have:=rl_bad Zcc.toBase (T:=T3L) (r:=285) c body (pre ++ [t]) (rest++suf) (c.toNat - 128) (by lia) (by omega) (by
  rcases h3 with h | h | ⟨a,b,d,e,f⟩
  ·left;lia
  ·right;left;lia
  ·right;right;exact ⟨by lia,by lia,a,e,f⟩)
 rw [show (pre ++ [t])++(c::(body++(rest++suf)))=pre++t::(c::(body++(rest++suf))) by simp] at this
 rw [show (((pre ++ [t]).length:Nat):Int)=((pre.length:Nat):Int)+1 by simp] at this
 exact this
noncomputable def Wr (w:List UInt8):Prop:=0 < w.length∧w.length≤300∧((∀pre suf:List UInt8,CL T3L 296 23 [.bytes (pre++(w++suf)),.int (pre.length:Nat),.int 8] = .exc)∨∃d k,k≤1∧Dc T3L d w k∧Eb T3L d k)
noncomputable def w31:List UInt8:= [191,30,2,5,0]
noncomputable def w128:List UInt8:= [191,128,31,2,5,0]
noncomputable def wset:List UInt8:= [49,6,2,1,2,2,1,1]
theorem Znq:∀l∈jrL,∀b∈l,0 < b.length∧b.length≤300∧(b=w31∨b=w128∨b=wset∨(∃p∈shortL,b=tlv (oneB p.1) p.2)∨∃p∈badL,b=badB p):=by decide +kernel
theorem ZoM:∃d k,k≤1∧Dc T3L d wset k∧Eb T3L d k:=by
 have B:=Zcc.toBase
 have hi:∀(n:Int),(intB n).length≤10→Dc T3L (.tuple [.str sInt,.int n]) (tlv (oneB 2) (intB n)) 0:=fun n hn=>
  ⟨fun r pre suf dep _=>ZkY B n pre suf dep (by exact Nat.lt_of_le_of_lt (by assumption) (by decide)) (by exact Nat.le_trans (by assumption) (by decide)),fun r pre suf dep h=>absurd h (by exact Nat.not_lt_zero _),by rw [Zag,ZU];lia⟩
 have i2:intB 2 = [2]:=by rw [ZbJ (by decide)];rfl
 have i1:intB 1 = [1]:=by rw [ZbJ (by decide)];rfl
 have a:=hi 2 (by rw [i2];decide)
 have b:=hi 1 (by rw [i1];decide)
 have ea:=fun r=>ZiA B (T:=T3L) (r:=r) 2 (by rw [i2];decide)
 have eb:=fun r=>ZiA B (T:=T3L) (r:=r) 1 (by rw [i1];decide)
 rw [i2] at a ea
 rw [i1] at b eb
 have h:=ZiE B [⟨.tuple [.str sInt,.int 2],tlv (oneB 2) [2],0⟩,⟨.tuple [.str sInt,.int 1],tlv (oneB 2) [1],0⟩] 0 (by
  intro p hp
  simp only [List.mem_cons,List.not_mem_nil,or_false] at hp
  rcases hp with rfl | rfl
  ·exact ⟨a,Nat.le_refl _⟩
  ·exact ⟨b,Nat.le_refl _⟩) (.inl rfl) (by decide) (by decide)
 refine ⟨_,1,Nat.le_refl _,h,?_⟩
 intro r
 have:=ZiC B (T:=T3L) (r:=r+1) [(.tuple [.str sInt,.int 2],tlv (oneB 2) [2]),(.tuple [.str sInt,.int 1],tlv (oneB 2) [1])] (by
  intro p hp
  simp only [List.mem_cons,List.not_mem_nil,or_false] at hp
  rcases hp with rfl | rfl
  ·exact ea r
  ·exact eb r) (by decide) (by decide)
 rw [if_neg (by decide)] at this
 exact this
theorem jr_wr:∀l∈jrL,∀b∈l,Wr b:=by
 intro l hl b hb
 obtain ⟨h1,h2,h⟩:=Znq l hl b hb
 refine ⟨h1,h2,?_⟩
 rcases h with rfl | rfl | rfl | ⟨⟨t,c⟩,hp,rfl⟩ | ⟨p,hp,rfl⟩
 ·exact .inl fun pre suf=>Zjq [] 30 (by decide) (fun _ h=>nomatch h) (by decide) 30 [] rfl (.inr (by decide)) [2,5,0] pre suf
 ·exact .inl fun pre suf=>Zjq [128] 31 (by decide) (by decide) (by decide) 128 [31] rfl (.inl (by decide)) [2,5,0] pre suf
 ·exact .inr ZoM
 ·exact .inl fun pre suf=>ZlB hp pre suf
 ·exact .inl fun pre suf=>ZoL hp pre suf
end DK.Internal.B
end
section
set_option backward.match.sparseCases false
set_option genSizeOf false
set_option genCtorIdx false
namespace DK.Internal.B
open PySem
set_option maxRecDepth 20000
noncomputable def leafR (v:D) (b:List UInt8) (g:Bool):D:= .tuple [v,.bytes b,.bool g]
structure Lf (v:D) (b:List UInt8) (g:Bool):Prop where
 len:b.length≤300
 pe:D.peq eqDeep v v = .ok true
 good:g=true→Good T3L (Ty3 T3L) v b 0 [([],v)]
 no:g=false→CL T3L 299 20 [v] = .exc∧CL T3L 299 24 [.bytes b,.int 9] = .exc∧Wr b
noncomputable def Leaf3 (k x y z:Int):Prop:=∃v b g,(∀r,CL T3L (r+4) 34 [.int k,.int x,.int y,.int z] = .ok (leafR v b g))∧Lf v b g
theorem Zgt {v:D} {t:Nat} {c:List UInt8} {g:Bool} (ht:t < 256) (ht2:t≠191) (hc:c.length≤290)
  (he:∀r,CL T3L (r+20) 20 [v]=if g=true then .ok (.bytes (tlv (oneB t) c)) else .exc)
  (hd:∀r pre suf (dep:Int),CL T3L (r+20) 23 [.bytes (pre++(tlv (oneB t) c++suf)),.int (pre.length:Nat),.int dep] = .ok (.tuple [v,.int ((pre.length+(tlv (oneB t) c).length:Nat):Int)]))
  (hch:Ch T3L v []) (hp:∀n,D.peq (n+2) v v = .ok true) (hq:Ty3 T3L v):Lf v (tlv (oneB t) c) g:=by
 have B:=Zcc.toBase
 have hl:(tlv (oneB t) c).length≤300:=by rw [Zag,ZU];have:=ZeC c.length;lia
 refine ⟨hl,hp 62,fun hg=> ?_,fun hg=> ?_⟩
 ·subst hg
  exact Zib B ht ht2 (by exact Nat.lt_of_le_of_lt (by assumption) (by decide)) (fun r=>(he r).trans (if_pos rfl)) hd hch hp hq
 ·subst hg
  have hE:Eb T3L v 0:=fun r=>(he r).trans (if_neg Bool.false_ne_true)
  have hD:Dc T3L v (tlv (oneB t) c) 0:=⟨fun r pre suf dep _=>hd r pre suf dep,fun r pre suf dep h=>absurd h (by exact Nat.not_lt_zero _),by rw [Zag,ZU];lia⟩
  exact ⟨hE 279,Zfm B (r:=278) hD hE 9 (by exact Nat.zero_le _),by rw [Zag,ZU];lia,hl,.inr ⟨v,0,by exact Nat.zero_le _,hD,hE⟩⟩
theorem ZlC (x y z:Int):Leaf3 0 x y z:=by
 have B:=Zcc
 have hl:=(Zhn x y).2
 rw [←Zho x y z] at hl
 have hn:=fun r=>Zjo B (r:=r) x y z
 generalize numV x y z=V at *
 refine ⟨.tuple [.str sInt,.int V],tlv (oneB 2) (intB V),true,?_,Zgt (by decide) (by decide) (by exact Nat.le_trans (by assumption) (by decide)) (fun r=>(ZiA B.toBase V (by exact Nat.le_trans (by assumption) (by decide))).trans (if_pos rfl).symm) (fun r pre suf dep=>ZkY B.toBase V pre suf dep (by exact Nat.lt_of_le_of_lt (by assumption) (by decide)) (by exact Nat.le_trans (by assumption) (by decide))) (Zow B.toBase _) (fun n=>ZeE _ _ (mem2 (ZbV _ _) (ZiG _ _))) (ZoF _)⟩
 intro r
 rw [ZF B.f34 rfl (by decide)]
 have ht:=Zgh B (r:=r+2) [2] (intB V) (by simp) (by exact Nat.lt_of_le_of_lt (by assumption) (by decide))
 simp (disch:=first | decide | assumption | lia) only [Zam,X_k,Zo,Zx,ZZ,Zp,Zg,Zb,Zs,ZG,Zfg,Zv,Za,c_lt,Zn,Zd,Zr,Zgv,ZY,Zaa,Zi,Ze,Zf,Zk,Zl,Zc,Zq,zc6,zc7,zc8,zc9,zc16,zc17,ZT,hn,ht]
 rfl
theorem ZjU (x y z:Int):Leaf3 1 x y z:=by
 have B:=Zcc
 have hl:=(Zhn x y).2
 rw [←Zho x y z] at hl
 have hn:=fun r=>Zjo B (r:=r) x y z
 generalize numV x y z=V at *
 refine ⟨.tuple [.str sEnum,.int V],tlv (oneB 10) (intB V),true,?_,Zgt (by decide) (by decide) (by exact Nat.le_trans (by assumption) (by decide)) (fun r=>(Zmw B.toBase V (by exact Nat.le_trans (by assumption) (by decide))).trans (if_pos rfl).symm) (fun r pre suf dep=>ZmE B.toBase V pre suf dep (by exact Nat.lt_of_le_of_lt (by assumption) (by decide)) (by exact Nat.le_trans (by assumption) (by decide))) (ZmK B.toBase _) (fun n=>ZeE _ _ (mem2 (ZbV _ _) (ZiG _ _))) (ZmZ _)⟩
 intro r
 rw [ZF B.f34 rfl (by decide)]
 have ht:=Zgh B (r:=r+2) [10] (intB V) (by simp) (by exact Nat.lt_of_le_of_lt (by assumption) (by decide))
 simp (disch:=first | decide | assumption | lia) only [Zam,X_k,Zo,Zx,ZZ,Zp,Zg,Zb,Zs,ZG,Zfg,Zv,Za,c_lt,Zn,Zd,Zr,Zgv,ZY,Zaa,Zi,Ze,Zf,Zk,Zl,Zc,Zq,zc6,zc7,zc8,zc9,zc16,zc17,Zad,hn,ht]
 rfl
noncomputable def bitsL:List (List UInt8 × Int):= [([],0),([0],7),([128],7),([255],0),([1,64],6),([165,240],4),([255,1,2],1)]
noncomputable def bD (p:List UInt8 × Int):D:= .tuple [.bytes p.1,.int p.2]
theorem Znr (y:Int):index (.tuple [.tuple [.bytes [],.int 0],.tuple [.bytes [0],.int 7],.tuple [.bytes [128],.int 7],.tuple [.bytes [255],.int 0],.tuple [.bytes [1,64],.int 6],.tuple [.bytes [165,240],.int 4],.tuple [.bytes [255,1,2],.int 1]]) (.int (y % 7)) = .ok (.tuple [.bytes (sel bitsL y).1,.int (sel bitsL y).2]):=ZbD bitsL bD y 7 rfl (by decide)
theorem Zns:(bitsL.all fun p=>(List.range 9).all fun u=>(bitsP u p.1 == decide (((u:Nat):Int)≤p.2)) && decide (p.1.length≤3))=true:=by decide +kernel
theorem ZjV (x y z:Int):Leaf3 2 x y z:=by
 have B:=Zcc
 obtain ⟨u,hu⟩:∃u:Nat,x % 9=(u:Nat):=⟨(x % 9).toNat,by lia⟩
 have hu9:u < 9:=by lia
 have hix:=Znr y
 have hm:=Zaq bitsL y (by decide)
 generalize sel bitsL y=p at *
 obtain ⟨c,m⟩:=p
 have ht:=List.all_eq_true.mp (List.all_eq_true.mp Zns _ hm) u (List.mem_range.mpr hu9)
 simp only [Bool.and_eq_true,beq_iff_eq,decide_eq_true_eq] at ht
 obtain ⟨h1,h2⟩:=ht
 have hl:(oneB u++c).length≤4:=by simp [oneB];assumption
 refine ⟨.tuple [.str sBits,.int (u:Nat),.bytes c],tlv (oneB 3) (oneB u++c),decide (((u:Nat):Int)≤m),?_,Zgt (by decide) (by decide) (by exact Nat.lt_of_le_of_lt (by assumption) (by decide)) (fun r=> ?_) (fun r pre suf dep=>ZmI B.toBase u c (by exact Nat.lt_of_lt_of_le (by assumption) (by decide)) pre suf dep (by exact Nat.lt_of_le_of_lt (by assumption) (by decide))) (ZmO B.toBase _ _) (fun n=>ZeE _ _ (mem3 (ZbV _ _) (ZiG _ _) (Zlk _ _))) (Zna _ _)⟩
 ·intro r
  rw [ZF B.f34 rfl (by decide)]
  have ht:=Zgh B (r:=r+2) [3] (oneB u++c) (by simp) (by exact Nat.lt_of_le_of_lt (by assumption) (by decide))
  have hb0:builtin .bytes [.list [.int (u:Nat)]] = .ok (.bytes (oneB u)):=Zbd (by exact Nat.lt_of_lt_of_le (by assumption) (by decide))
  have hc:binop .Add (.bytes (oneB u)) (.bytes c) = .ok (.bytes (oneB u++c)):=ZbS (by rw [←List.length_append];unfold SZ;exact Nat.lt_of_le_of_lt (by assumption) (by decide))
  generalize oneB u++c=C at *
  simp (disch:=first | decide | assumption | lia) only [Zam,X_k,Zo,ZC,ZO,Zx,ZZ,Zak,P_bi,Zp,Zg,Zb,Zs,Zu,ZG,Zfg,Zv,Za,Zbx,c_eq,c_lt,c_le,Zn,Zt,Zd,Zr,Zgv,ZE,Zy,Zaa,Zaf,Zi,Ze,Zf,Zk,Zl,Zc,okB_,Zq,zc6,zc7,zc8,zc9,zc10,zc16,zc17,hix,hu,hb0,hc,ht]
  rw [dc_eq];rfl
 ·rw [Zmz B.toBase u c (by exact Nat.lt_of_lt_of_le (by assumption) (by decide)) (by exact Nat.lt_of_le_of_lt (by assumption) (by decide)),h1]
noncomputable def lens3:List Int:= [0,1,5,126,127,128,255,256]
noncomputable def body3 (x y:Int):List UInt8:=List.replicate (sel lens3 y).toNat (lowB x)
theorem Zjr:∀a∈lens3,0≤a∧a≤256:=by decide
theorem ZlD (y:Int):index (.tuple [.int 0,.int 1,.int 5,.int 126,.int 127,.int 128,.int 255,.int 256]) (.int (y % 8)) = .ok (.int (sel lens3 y)):=ZbD lens3 .int y 8 rfl (by decide)
theorem ZlE (x y:Int):binop .Mult (.bytes [lowB x]) (.int (sel lens3 y)) = .ok (.bytes (body3 x y)):=by
 obtain ⟨h1,h2⟩:=Zjr _ (Zaq lens3 y (by decide))
 refine (if_pos ⟨h1,by exact Int.le_trans (by assumption) (by decide),by simp,by simp⟩).trans ?_
 unfold body3
 congr 2
 generalize (sel lens3 y).toNat=n
 induction n with
 | zero=>rfl
 | succ n ih=>simp [List.replicate_succ,ih]
theorem ZlF (x y:Int):(body3 x y).length≤256:=by
 obtain ⟨h1,h2⟩:=Zjr _ (Zaq lens3 y (by decide))
 simp [body3];assumption
theorem ZiM (x y z:Int):Leaf3 3 x y z:=by
 have B:=Zcc
 have hl:=ZlF x y
 have hm:=ZlE x y
 generalize body3 x y=c at *
 refine ⟨.tuple [.str sBytes,.bytes c],tlv (oneB 4) c,true,?_,Zgt (by decide) (by decide) (by exact Nat.le_trans (by assumption) (by decide)) (fun r=>(ZkU B.toBase c (by exact Nat.lt_of_le_of_lt (by assumption) (by decide))).trans (if_pos rfl).symm) (fun r pre suf dep=>ZkZ B.toBase c pre suf dep (by exact Nat.lt_of_le_of_lt (by assumption) (by decide))) (Zli B.toBase _) (fun n=>ZeE _ _ (mem2 (ZbV _ _) (Zlk _ _))) (Zlw _)⟩
 intro r
 rw [ZF B.f34 rfl (by decide)]
 have ht:=Zgh B (r:=r+2) [4] c (by simp) (by exact Nat.lt_of_le_of_lt (by assumption) (by decide))
 simp (disch:=first | decide | assumption | lia) only [Zam,X_k,Zo,ZC,Zx,ZZ,Zak,P_bi,Zp,Zg,Zb,Zs,Zu,ZG,ZA,Zv,Za,Zbx,c_eq,c_lt,Zn,Zt,Zd,Zr,Zh,ZE,Zy,Zaa,Zaf,Zi,Ze,Zf,Zk,Zl,Zc,okB_,Zq,zc6,zc7,zc8,zc9,zc10,zc16,zc17,Zlm,ZlD,hm,ht]
 rfl
theorem ZjW (x y z:Int):Leaf3 4 x y z:=by
 have B:=Zcc
 have hy:y % 3=0∨y % 3=1∨y % 3=2:=by lia
 rcases hy with hy | hy | hy
 ·refine ⟨.tuple [.str sNull],tlv (oneB 5) [],true,?_,Zgt (by decide) (by decide) (by decide) (fun r=>(Zmv B.toBase).trans (if_pos rfl).symm) (fun r pre suf dep=>ZmH B.toBase pre suf dep (by decide)) (ZmN B.toBase) (fun n=>ZeE _ _ (by intro d hd;simp only [List.mem_singleton] at hd;subst hd;exact ZbV _ _)) Znb⟩
  intro r
  rw [ZF B.f34 rfl (by decide)]
  simp (disch:=first | decide | assumption | lia) only [Zam,X_k,Zo,ZC,Zx,ZZ,Zg,Zb,Zs,Zu,ZG,Zv,Za,Zbx,c_eq,c_lt,Zn,Zt,Zd,Zr,ZE,Zy,Zaa,Zi,Ze,Zf,Zc,okB_,Zq,zc6,zc7,zc8,zc9,zc10,zc16,zc17,hy,Zeb]
  rfl
 ·refine ⟨.tuple [.str sBool,.bool true],tlv (oneB 1) [255],true,?_,Zgt (by decide) (by decide) (by decide) (fun r=>(Zje B.toBase true).trans (if_pos rfl).symm) (fun r pre suf dep=>ZmD B.toBase pre suf dep (by decide)) (Zji B.toBase _) (fun n=>ZeE _ _ (mem2 (ZbV _ _) (Zjj _ _))) (Zjp _)⟩
  intro r
  rw [ZF B.f34 rfl (by decide)]
  simp (disch:=first | decide | assumption | lia) only [Zam,X_k,Zo,ZC,Zx,ZZ,Zg,Zb,Zs,Zu,ZG,Zv,Za,Zbx,c_eq,c_lt,Zn,Zt,Zd,Zr,ZE,Zy,Zaa,Zi,Ze,Zf,Zc,okB_,Zq,zc6,zc7,zc8,zc9,zc10,zc16,zc17,hy,ZfA]
  rfl
 ·refine ⟨.tuple [.str sBool,.bool false],tlv (oneB 1) [0],true,?_,Zgt (by decide) (by decide) (by decide) (fun r=>(Zje B.toBase false).trans (if_pos rfl).symm) (fun r pre suf dep=>ZkX B.toBase pre suf dep (by decide)) (Zji B.toBase _) (fun n=>ZeE _ _ (mem2 (ZbV _ _) (Zjj _ _))) (Zjp _)⟩
  intro r
  rw [ZF B.f34 rfl (by decide)]
  simp (disch:=first | decide | assumption | lia) only [Zam,X_k,Zo,ZC,Zx,ZZ,Zg,Zb,Zs,Zu,ZG,Zv,Za,Zbx,c_eq,c_lt,Zn,Zt,Zd,Zr,ZE,Zy,Zaa,Zi,Ze,Zf,Zc,okB_,Zq,zc6,zc7,zc8,zc9,zc10,zc16,zc17,hy,Zgb]
  rfl
theorem ZlG (a b c k:Nat) (ha:a≤3) (hb:b≤16304) (hc:c < 128 ^ 8) (hk:k≤2):(∀x∈(40*a+b)::List.replicate k c,x < 128 ^ 100)∧(arcsB ((40*a+b)::List.replicate k c)).length≤40:=by
 have h8:(128:Nat) ^ 8≤128 ^ 100:=Nat.pow_le_pow_right (by decide) (by decide)
 have h82:(20000:Nat) < 128 ^ 8:=by decide
 have l1:=Zbf 8 ((40*a+b) / 128) (by lia)
 have l2:=Zbf 8 (c / 128) (by lia)
 refine ⟨fun x hx=> ?_,?_⟩
 ·rcases List.mem_cons.mp hx with e | hx
  ·lia
  ·have:=List.eq_of_mem_replicate hx;lia
 ·have:k=0∨k=1∨k=2:=by lia
  rcases this with rfl | rfl | rfl<;>simp only [arcsB,List.replicate,List.flatMap_cons,List.flatMap_nil,List.length_append,List.length_nil,ZbU]<;>lia
theorem ZlH (x y z:Int):Leaf3 5 x y z:=by
 have B:=Zcc
 obtain ⟨a,b,c,k,ha,hb,hc,hk,ho⟩:=c3oid B x y z
 have ha3:a≤3:=by lia
 obtain ⟨hx,hl⟩:=ZlG a b c k ha3 hb hc hk
 have hpe:∀n,D.peq (n+2) (.tuple [.str sOid,.list (nD a::nD b::(List.replicate k c).map nD)]) (.tuple [.str sOid,.list (nD a::nD b::(List.replicate k c).map nD)]) = .ok true:=fun n=>ZeE _ _ (mem2 (ZbV _ _) (peq_l _ _ (by
  rw [show nD a::nD b::(List.replicate k c).map nD=(a::b::List.replicate k c).map nD from rfl]
  intro d hd
  obtain ⟨m,_,rfl⟩:=List.mem_map.mp hd
  exact ZiG _ _)))
 have hcall:∀r,CL T3L (r+4) 34 [.int 5,.int x,.int y,.int z] = .ok (leafR (.tuple [.str sOid,.list (nD a::nD b::(List.replicate k c).map nD)]) (tlv (oneB 6) (if a=2∨(a < 2∧b < 40) then arcsB ((40*a+b)::List.replicate k c) else arcsB ((40*a+b)::List.replicate k c) ++ [129])) (decide (a=2∨(a < 2∧b < 40)))):=by
  intro r
  rw [ZF B.f34 rfl (by decide)]
  have:=ho (r+1)
  simp (disch:=first | decide | assumption | lia) only [Zam,X_k,Zo,Zp,Zg,Zb,Zs,Zu,ZG,Zv,Za,c_eq,c_lt,Zn,Zt,Zd,Zr,ZE,Zy,Zi,Ze,Zf,Zc,okB_,Zq,zc6,zc7,zc8,zc9,zc10,zc16,zc17,this]
  rfl
 refine ⟨_,_,_,hcall,?_⟩
 by_cases hg:a=2∨(a < 2∧b < 40)
 ·rw [if_pos hg,decide_eq_true hg]
  refine ⟨by rw [Zag,ZU];have:=ZeC (arcsB ((40*a+b)::List.replicate k c)).length;lia,hpe 62,fun _=> ?_,(fun h=>nomatch h)⟩
  exact ZmT B.toBase a b (List.replicate k c) (by lia) (by lia) (by exact Nat.lt_of_le_of_lt (by assumption) (by decide)) (fun x hx'=>hx x (List.mem_cons_of_mem _ hx')) (by simp;exact Nat.le_trans (by assumption) (by decide)) (ZoI _)
 ·rw [if_neg hg,decide_eq_false hg]
  have hlen:(arcsB ((40*a+b)::List.replicate k c) ++ [129]).length≤41:=by simp;assumption
  have hl2:=ZeC (arcsB ((40*a+b)::List.replicate k c) ++ [129]).length
  refine ⟨by rw [Zag,ZU];lia,hpe 62,(fun h=>nomatch h),fun _=>⟨ZiJ B.toBase (r:=279) a b (List.replicate k c) hg,?_,by rw [Zag,ZU];lia,by rw [Zag,ZU];lia,.inl fun pre suf=>Zgf B.toBase (r:=276) _ 129 (by decide) pre suf 8 (by exact Nat.lt_of_le_of_lt (by assumption) (by decide))⟩⟩
  refine Zej B.toBase (r:=297) ?_
  have:=Zgf B.toBase (T:=T3L) (r:=278) (arcsB ((40*a+b)::List.replicate k c)) 129 (by decide) [] [] 9 (by exact Nat.lt_of_le_of_lt (by assumption) (by decide))
  simp only [List.nil_append,List.append_nil] at this
  exact this
theorem ZjX (x y z:Int):Leaf3 6 x y z:=by
 have B:=Zcc
 obtain ⟨d,g,hT,hg,hl⟩:=text6 B x y z
 refine ⟨.tuple [.str sUtf8,.bytes d],tlv (oneB 12) d,g,?_,Zgt (by decide) (by decide) (by exact Nat.le_trans (by assumption) (by decide)) (fun r=>Zmx B.toBase d (hg (r+15)) (by exact Nat.lt_of_le_of_lt (by assumption) (by decide))) (fun r pre suf dep=>ZmF B.toBase d pre suf dep (by exact Nat.lt_of_le_of_lt (by assumption) (by decide))) (ZmL B.toBase _) (fun n=>ZeE _ _ (mem2 (ZbV _ _) (Zlk _ _))) (Znc _)⟩
 intro r
 rw [ZF B.f34 rfl (by decide)]
 have ht:=Zgh B (r:=r+2) [12] d (by simp) (by exact Nat.lt_of_le_of_lt (by assumption) (by decide))
 simp (disch:=first | decide | assumption | lia) only [Zam,X_k,Zo,ZC,Zx,ZZ,Zp,Zg,Zb,Zs,Zu,ZG,Zfg,Zv,Za,ZaR,c_eq,c_lt,Zn,Zt,Zd,Zr,Zgv,Zy,Zaa,Zi,Ze,Zf,Zk,Zl,Zc,okB_,Zq,zc6,zc7,zc8,zc9,zc16,zc17,Zeb,show (6:Int) - 6=0 from rfl,hT,ht]
 rfl
theorem ZiN (x y z:Int):Leaf3 7 x y z:=by
 have B:=Zcc
 obtain ⟨d,g,hT,hg,hl⟩:=text7 B x y z
 refine ⟨.tuple [.str sPrint,.bytes d],tlv (oneB 19) d,g,?_,Zgt (by decide) (by decide) (by exact Nat.le_trans (by assumption) (by decide)) (fun r=>ZkV B.toBase d (hg (r+15)) (by exact Nat.lt_of_le_of_lt (by assumption) (by decide))) (fun r pre suf dep=>Zla B.toBase d pre suf dep (by exact Nat.lt_of_le_of_lt (by assumption) (by decide))) (Zlj B.toBase _) (fun n=>ZeE _ _ (mem2 (ZbV _ _) (Zlk _ _))) (Zlx _)⟩
 intro r
 rw [ZF B.f34 rfl (by decide)]
 have ht:=Zgh B (r:=r+2) [19] d (by simp) (by exact Nat.lt_of_le_of_lt (by assumption) (by decide))
 simp (disch:=first | decide | assumption | lia) only [Zam,X_k,Zo,ZC,Zx,ZZ,Zp,Zg,Zb,Zs,Zu,ZG,Zfg,Zv,Za,ZaR,c_eq,c_lt,Zn,Zt,Zd,Zr,Zgv,Zy,Zaa,Zi,Ze,Zf,Zk,Zl,Zc,okB_,Zq,zc6,zc7,zc8,zc9,zc16,zc17,ZfA,show (7:Int) - 6=1 from rfl,hT,ht]
 rfl
theorem ZjY (x y z:Int):Leaf3 8 x y z:=by
 have B:=Zcc
 obtain ⟨d,g,hT,hg,hl⟩:=text8 B x y z
 refine ⟨.tuple [.str sTime,.bytes d],tlv (oneB 24) d,g,?_,Zgt (by decide) (by decide) (by exact Nat.le_trans (by assumption) (by decide)) (fun r=>Zmy B.toBase d (hg (r+15)) (by exact Nat.lt_of_le_of_lt (by assumption) (by decide))) (fun r pre suf dep=>ZmG B.toBase d pre suf dep (by exact Nat.lt_of_le_of_lt (by assumption) (by decide))) (ZmM B.toBase _) (fun n=>ZeE _ _ (mem2 (ZbV _ _) (Zlk _ _))) (Znd _)⟩
 intro r
 rw [ZF B.f34 rfl (by decide)]
 have ht:=Zgh B (r:=r+2) [24] d (by simp) (by exact Nat.lt_of_le_of_lt (by assumption) (by decide))
 simp (disch:=first | decide | assumption | lia) only [Zam,X_k,Zo,ZC,Zx,ZZ,Zp,Zg,Zb,Zs,Zu,ZG,Zfg,Zv,Za,ZaR,c_eq,c_lt,Zn,Zt,Zd,Zr,Zgv,Zy,Zaa,Zi,Ze,Zf,Zk,Zl,Zc,okB_,Zq,zc6,zc7,zc8,zc9,zc16,zc17,Zgb,show (8:Int) - 6=2 from rfl,hT,ht]
 rfl
theorem ZjZ (x y z:Int):Leaf3 9 x y z:=by
 have B:=Zcc
 have hj:=c3junk B x y z
 have mv:=Zaq (sel jvL y) z (by have:=rowsj.1 _ (Zaq jvL y (by decide));lia)
 have mr:=Zaq (sel jrL x) z (by have:=rowsj.2 _ (Zaq jrL x (by decide));lia)
 have hv:=List.all_eq_true.mp (List.all_eq_true.mp ZnK _ (Zaq jvL y (by decide))) _ mv
 have hr:=List.all_eq_true.mp (List.all_eq_true.mp jr_all _ (Zaq jrL x (by decide))) _ mr
 have hw:=jr_wr _ (Zaq jrL x (by decide)) _ mr
 rw [Bool.and_eq_true] at hv hr
 generalize sel (sel jvL y) z=V at *
 generalize sel (sel jrL x) z=R at *
 refine ⟨V,R,false,?_,hw.2.1,ZlA hv.2,(fun h=>nomatch h),fun _=>⟨Zln (xs:= [V]) hv.1,Zln (xs:= [.bytes R,.int 9]) hr.1,hw⟩⟩
 intro r
 rw [ZF B.f34 rfl (by decide)]
 simp (disch:=first | decide | assumption | lia) only [Zam,X_k,Zo,Zp,Zg,Zb,Zs,Zu,ZG,Zv,Za,c_eq,c_lt,Zn,Zt,Zd,Zr,ZE,Zy,Zi,Ze,Zf,Zc,okB_,Zq,zc6,zc7,zc8,zc9,zc10,zc16,zc17,hj]
 rfl
theorem Znt (k x y z:Int):Leaf3 (k % 10) x y z:=by
 have:k % 10=0∨k % 10=1∨k % 10=2∨k % 10=3∨k % 10=4∨k % 10=5∨k % 10=6∨k % 10=7∨k % 10=8∨k % 10=9:=by lia
 rcases this with h | h | h | h | h | h | h | h | h | h<;>rw [h]
 ·exact ZlC x y z
 ·exact ZjU x y z
 ·exact ZjV x y z
 ·exact ZiM x y z
 ·exact ZjW x y z
 ·exact ZlH x y z
 ·exact ZjX x y z
 ·exact ZiN x y z
 ·exact ZjY x y z
 ·exact ZjZ x y z
end DK.Internal.B
end
section
set_option backward.match.sparseCases false
set_option genSizeOf false
set_option genCtorIdx false
namespace DK.Internal.B
open PySem
set_option maxRecDepth 20000
variable {T:Text} {r:Nat}
noncomputable def itD (g:Gi):D:= .tuple [g.d,g.d,.bytes g.b,.int (g.k:Nat),.list (g.ns.map (nodeD []))]
theorem c3no {v b e:D} (h1:CL T3L 299 20 [v] = .exc) (h2:CL T3L 299 24 [b,e] = .exc):CL T3L 300 35 [v,b,e] = .ok (.bool true):=by
 have B:=Zcc
 rw [ZF (r:=299) B.f35 rfl (by decide)]
 show bnd retV (Y T3L 299 Zgp _)=_
 simp (disch:=first | decide | assumption | lia) only [Zgp,X_k,Zo,ZC,ZO,Zp,Zg,Zb,ZG,ZA,ZW,c_eq,Zn,Zt,Zd,Zr,Zh,Zi,Ze,Zf,Zk,Zl,Zc,okB_,Zq,Z_tri,ZlU,zc6,zc7,zc8,zc9,zc16,zc17,h1,h2]
 rfl
theorem Znu (s0 s1 s2 s3 s4 s5 s6 s7:Slot):∀(ns:List Nd) (s8 s9:Slot),(∀p∈ns,Ty3 T p.2) →
  ∃a b,FE T r (.many [8,9]) ZJ (ns.map (nodeD [])) [s0,s1,s2,s3,s4,s5,s6,s7,s8,s9] = .ok (.next,[s0,s1,s2,s3,s4,s5,s6,s7,a,b]):=by
 intro ns
 induction ns with
 | nil=>intro s8 s9 h;exact ⟨s8,s9,rfl⟩
 | cons n ns ih=>
  intro s8 s9 h
  obtain ⟨a,b,hs⟩:=ih (.val (.list ([]++n.1))) (.val n.2) (fun x hx=>h x (List.mem_cons_of_mem _ hx))
  refine ⟨a,b,?_⟩
  have h1:=h n (List.mem_cons_self ..) r s0 s1 s2 s3 s4 s5 s6 s7 (.val (.list ([]++n.1)))
  rw [List.map_cons,ZhA]
  have hb:bindT [s0,s1,s2,s3,s4,s5,s6,s7,s8,s9] (.many [8,9]) (nodeD [] n) = .ok [s0,s1,s2,s3,s4,s5,s6,s7,.val (.list ([]++n.1)),.val n.2]:=rfl
  rw [hb,Zfp,h1,Zc,ZQ,hs]
theorem ZlI {g:Gi} (hG:Good T3L (Ty3 T3L) g.d g.b g.k g.ns) (hk:g.k≤8) (hn:g.ns.length≤900000):CL T3L 300 36 [itD g] = .ok (.bool true):=by
 have B:=Zcc
 rw [ZF (r:=299) B.f36 rfl (by decide)]
 show bnd retV (Y T3L 299 Zed _)=_
 have hen:=hG.en (279 - g.k)
 rw [show 279 - g.k+20+g.k=299 by lia] at hen
 have hpe:=hG.pe (62 - 2*g.k)
 rw [show 62 - 2*g.k+2+2*g.k=eqDeep by show _=64;lia] at hpe
 have hdd:=Zlf B.toBase (r:=278 - 2*g.k) hG.dc hG.en g.k (Nat.le_refl _)
 rw [show 278 - 2*g.k+21+2*g.k=299 by lia] at hdd
 have hwk:=Zov B.toBase (r:=295 - g.k) hG.wk (by exact Nat.le_trans (by assumption) (by decide)) hn
 rw [show 295 - g.k+4+g.k=299 by lia] at hwk
 have hpn:=Zlo hG (by exact Nat.le_trans (by assumption) (by decide))
 have hty:∀p∈g.ns,Ty3 T3L p.2:=fun p hp=>(hG.nd p hp).2.2
 unfold itD
 obtain ⟨a,b,hfe⟩:=Znu (T:=T3L) (r:=299) (.val (.tuple [g.d,g.d,.bytes g.b,.int (g.k:Nat),.list (g.ns.map (nodeD []))])) (.val g.d) (.val g.d) (.val (.bytes g.b)) (.val (.int (g.k:Nat))) (.val (.list (g.ns.map (nodeD [])))) (.val (.bytes g.b)) (.val (.list (g.ns.map (nodeD [])))) g.ns .un .un hty
 generalize g.ns.map (nodeD [])=N at *
 simp (disch:=first | decide | assumption | lia) only [Zed,X_k,Zo,P_bi,Zp,Zg,Zb,ZdR,R_or,Zs,Zdx,Zu,ZG,ZA,Zfg,Zv,ZgN,ZK,Za,c_ne,Zn,Zcn,Zd,Zr,Zh,unpO_5,Zz,Zdy,Zal,Zi,ZbY,Ze,Zf,Zk,Zl,Zc,okB_,ZaK,Zq,zc4,zc6,zc7,zc8,zc9,zc10,zc16,zc17,hen,typ_y,c_is,Zll,hdd,hwk,hpn,hpe,itemsOf,hfe]
theorem Zka (i:Nat) (s0 s1 s2 s3 s4 s5 s6 s8 s9 s10:Slot):∀(ns:List Nd) (acc:List D),(∀p∈ns,p.1.length≤100)→acc.length+ns.length≤900000 →
  CE T r (.many [9,10]) .nil (.tup (.cons (.bin .Add (.lst (.cons (.var 7) .nil)) (.var 9)) (.cons (.var 10) .nil))) (ns.map (nodeD [])) [s0,s1,s2,s3,s4,s5,s6,.val (.int (i:Nat)),s8,s9,s10] acc = .ok (acc++(ns.map (under i)).map (nodeD [])):=by
 intro ns
 induction ns with
 | nil=>intro acc h hl;rw [List.map_nil,Zgu];simp
 | cons n ns ih=>
  intro acc h hl
  have h1:=h n (List.mem_cons_self ..)
  have hs:=ih (acc ++ [nodeD [] (under i n)]) (fun x hx=>h x (List.mem_cons_of_mem _ hx)) (by simp at hl ⊢;lia)
  have hal:acc.length < 1000000:=by simp at hl;lia
  rw [List.map_cons,Zhx]
  have hc:binop .Add (.list [.int (i:Nat)]) (.list ([]++n.1)) = .ok (.list ([]++(under i n).1)):=ZdV (by simp [SZ];lia)
  have hb:∀d e:D,bindT [s0,s1,s2,s3,s4,s5,s6,.val (.int (i:Nat)),s8,s9,s10] (.many [9,10]) (.tuple [d,e]) = .ok [s0,s1,s2,s3,s4,s5,s6,.val (.int (i:Nat)),s8,.val d,.val e]:=fun d e=>rfl
  rw [show acc++((n::ns).map (under i)).map (nodeD [])=acc ++ [nodeD [] (under i n)]++(ns.map (under i)).map (nodeD []) by simp,←hs]
  rw [show nodeD [] n = .tuple [.list ([]++n.1),n.2] from rfl,show nodeD [] (under i n) = .tuple [.list ([]++(under i n).1),n.2] from rfl]
  generalize []++n.1=P at *
  generalize []++(under i n).1=P' at *
  simp (disch:=first | decide | assumption | lia) only [Zo,ZC,ZZ,Zak,Zg,Zb,ZeI,Zd,Zeo,Zhy,Zaa,Zaf,Zi,Ze,Zf,Zc,hb,hc,ZfG]
theorem Zkb (s0 s1 s2 s3 s4 s5 s6 s7 s8 s9 s10:Slot):∀(gs:List Gi) (i:Nat) (acc:List D),(∀g∈gs,∀p∈g.ns,p.1.length≤100)→acc.length+(nodesFrom i (gs.map Gi.wi)).length≤900000 →
  CN T r (.many [7,8]) .nil (.last (.many [9,10]) (.seq (.idx (.var 8) (.k (.int 4)))) .nil (.tup (.cons (.bin .Add (.lst (.cons (.var 7) .nil)) (.var 9)) (.cons (.var 10) .nil)))) (enumFrom (i:Nat) (gs.map itD)) [s0,s1,s2,s3,s4,s5,s6,s7,s8,s9,s10] acc = .ok (acc++(nodesFrom i (gs.map Gi.wi)).map (nodeD [])):=by
 intro gs
 induction gs with
 | nil=>intro i acc h hl;rw [List.map_nil,enumFrom,CN_nil];simp [nodesFrom]
 | cons g gs ih=>
  intro i acc h hl
  have e1:nodesFrom i ((g::gs).map Gi.wi)=g.ns.map (under i)++nodesFrom (i+1) (gs.map Gi.wi):=rfl
  rw [e1,List.length_append,List.length_map] at hl
  have hs:=ih (i+1) (acc++(g.ns.map (under i)).map (nodeD [])) (fun x hx=>h x (List.mem_cons_of_mem _ hx)) (by simp;lia)
  have hc:=Zka (T:=T) (r:=r) i s0 s1 s2 s3 s4 s5 s6 (.val (itD g)) s9 s10 g.ns acc (h g (List.mem_cons_self ..)) (by lia)
  rw [List.map_cons,enumFrom,CN_go,show ((i:Nat):Int)+1=((i+1:Nat):Int) from rfl]
  have hb:bindT [s0,s1,s2,s3,s4,s5,s6,s7,s8,s9,s10] (.many [7,8]) (.tuple [.int (i:Nat),itD g]) = .ok [s0,s1,s2,s3,s4,s5,s6,.val (.int (i:Nat)),.val (itD g),s9,s10]:=rfl
  have hi:index (itD g) (.int 4) = .ok (.list (g.ns.map (nodeD []))):=rfl
  rw [e1,List.map_append,←List.append_assoc,←hs]
  generalize itD g=I at *
  generalize g.ns.map (nodeD [])=N at *
  generalize (g.ns.map (under i)).map (nodeD [])=N' at *
  simp (disch:=first | decide | assumption | lia) only [X_k,Zo,Zx,ZeI,Zdx,ZcR,Zd,ZcS,Ze,Zf,Zc,cnB_ok,cnI_t,hb,hi,itemsOf,hc]
theorem Zek (m:Nat) (j:Int) (f:Gi→D) (hf:∀g,index (itD g) (.int j) = .ok (f g)) (sl:List Slot) (hm:∀d,getV (setV sl m (.val d)) m = .ok d):∀(gs:List Gi) (acc:List D),acc.length+gs.length≤100000 →
  CE T r (.one m) .nil (.idx (.var m) (.k (.int j))) (gs.map itD) sl acc = .ok (acc++gs.map f):=by
 intro gs
 induction gs with
 | nil=>intro acc h;rw [List.map_nil,Zgu];simp
 | cons g gs ih=>
  intro acc h
  have hs:=ih (acc ++ [f g]) (by simp at h ⊢;lia)
  have hal:acc.length < 1000000:=by simp at h;lia
  rw [List.map_cons,Zhx]
  rw [show acc++(g::gs).map f=acc ++ [f g]++gs.map f by simp,←hs]
  simp (disch:=first | decide | assumption | lia) only [X_k,Zo,Zx,ZeI,ZaW,Zd,Zeo,Zhy,hm,hf,ZfG]
noncomputable def maxK:Nat→List Gi→Nat
 | m,[]=>m
 | m,g::gs=>maxK (max m g.k) gs
theorem ZiO:∀(gs:List Gi) (m:Nat),m≤maxK m gs∧∀g∈gs,g.k≤maxK m gs
 | [],m=>⟨Nat.le_refl _,fun _ h=>nomatch h⟩
 | g::gs,m=>by
  obtain ⟨h1,h2⟩:=ZiO gs (max m g.k)
  refine ⟨by rw [maxK];lia,fun x hx=> ?_⟩
  rw [maxK]
  rcases List.mem_cons.mp hx with e | hx
  ·subst e;lia
  ·exact h2 x hx
theorem Zhq:∀(gs:List Gi) (m:Nat),maxK m gs=m∨∃g∈gs,g.k=maxK m gs
 | [],m=> .inl rfl
 | g::gs,m=>by
  rw [maxK]
  rcases Zhq gs (max m g.k) with h | ⟨x,hx,h⟩
  ·by_cases hm:g.k≤m
   ·left;lia
   ·right;exact ⟨g,List.mem_cons_self ..,by lia⟩
  ·exact .inr ⟨x,List.mem_cons_of_mem _ hx,h⟩
theorem ZlJ:∀(gs:List Gi) (m:Nat),maxI (m:Nat) (gs.map fun g=>((g.k:Nat):Int))=(maxK m gs:Nat)
 | [],m=>rfl
 | g::gs,m=>by
  rw [List.map_cons,maxI,maxK,←ZlJ gs (max m g.k)]
  congr 1
  split<;>lia
theorem ZnL:∀gs:List Gi,intsOf (gs.map fun g=> .int ((g.k:Nat):Int))=some (gs.map fun g=>((g.k:Nat):Int))
 | []=>rfl
 | g::gs=>by rw [List.map_cons,intsOf,ZnL gs];rfl
theorem Znv (gs:List Gi):builtin .max [.list (.int 0::gs.map fun g=> .int ((g.k:Nat):Int))] = .ok (.int (maxK 0 gs:Nat)):=by
 show optO (intsOf (.int 0::gs.map fun g=> .int ((g.k:Nat):Int))) maxL=_
 rw [intsOf,ZnL]
 exact congrArg (fun i=>Out.ok (D.int i)) (ZlJ gs 0)
theorem Zgi:∀(gs:List Gi) (i:Nat),(nodesFrom i (gs.map Gi.wi)).length=(gs.map fun g=>g.ns.length).sum
 | [],_=>rfl
 | g::gs,i=>by
  rw [show nodesFrom i ((g::gs).map Gi.wi)=g.ns.map (under i)++nodesFrom (i+1) (gs.map Gi.wi) from rfl,List.length_append,List.length_map,Zgi gs (i+1)];rfl
structure Its (gs:List Gi) (L K:Nat):Prop where
 all:∀g∈gs,Good T3L (Ty3 T3L) g.d g.b g.k g.ns∧g.k≤K∧∀p∈g.ns,p.1.length≤K
 num:gs.length≤L
 byt:(bytesG gs).length≤L
 nod:(gs.map fun g=>g.ns.length).sum≤L
theorem ZnM (v w:D) (tag:List UInt8) (ht:tag.length≤100) {gs:List Gi} {L K:Nat} (h:Its gs L K) (hL:L≤20000) (hK:K≤90):CL T3L (r+2) 37 [v,w,.bytes tag,.list (gs.map itD)] =
  .ok (.tuple [v,w,.bytes (tlv tag (bytesG gs)),.int ((maxK 0 gs+1:Nat):Int),.list ((([],w)::nodesFrom 0 (gs.map Gi.wi)).map (nodeD []))]):=by
 have B:=Zcc
 have hn:=h.num
 have hb:=h.byt
 have hd:=h.nod
 rw [←Zgi gs 0] at hd
 rw [ZF (r:=r+1) B.f37 rfl (by decide)]
 have h1:=fun s0 s1 s2 s3 s4 s5 s6 s7 s8 s9 s10=>Zkb (T:=T3L) (r:=r+1) s0 s1 s2 s3 s4 s5 s6 s7 s8 s9 s10 gs 0 [] (fun g hg p hp=>by have:=(h.all g hg).2.2 p hp;lia) (by simp only [List.length_nil];lia)
 have h3:=fun s0 s1 s2 s3 s4 s5 s6 s7=>Zek (T:=T3L) (r:=r+1) 7 3 (fun g=> .int ((g.k:Nat):Int)) (fun g=>rfl) [s0,s1,s2,s3,s4,s5,s6,s7] (fun d=>rfl) gs [] (by simp;lia)
 have h2:=fun s0 s1 s2 s3 s4 s5 s6 s7=>Zek (T:=T3L) (r:=r+1) 7 2 (fun g=> .bytes g.b) (fun g=>rfl) [s0,s1,s2,s3,s4,s5,s6,s7] (fun d=>rfl) gs [] (by simp;lia)
 have hm:=Znv gs
 have hj:=Zge (bs:=gs.map (·.b)) (by show (bytesG gs).length≤_;lia) (by simp;lia)
 rw [show (gs.map (·.b)).flatten=bytesG gs from rfl,List.map_map,show (D.bytes ∘ fun x=>x.b)=(fun g:Gi=>D.bytes g.b) from rfl] at hj
 have hc1:binop .Add (.list [.tuple [.list [],w]]) (.list ((nodesFrom 0 (gs.map Gi.wi)).map (nodeD []))) = .ok (.list ((([],w)::nodesFrom 0 (gs.map Gi.wi)).map (nodeD []))):=ZdV (by simp [SZ];lia)
 have hc2:binop .Add (.list [.int 0]) (.list (gs.map fun g=> .int ((g.k:Nat):Int))) = .ok (.list (.int 0::gs.map fun g=> .int ((g.k:Nat):Int))):=ZdV (by simp [SZ];lia)
 have htl:=Zgh B (T:=T3L) (r:=r) tag (bytesG gs) (by exact Nat.le_trans (by assumption) (by decide)) (by lia)
 have he:enumD (.list (gs.map itD)) = .ok (enumFrom ((0:Nat):Int) (gs.map itD)):=rfl
 have e1:(1:Int)+((maxK 0 gs:Nat):Int)=((maxK 0 gs+1:Nat):Int):=by lia
 simp only [List.nil_append] at h1 h2 h3
 generalize (([],w)::nodesFrom 0 (gs.map Gi.wi)).map (nodeD [])=NN at *
 generalize (nodesFrom 0 (gs.map Gi.wi)).map (nodeD [])=N at *
 generalize bytesG gs=BB at *
 generalize (gs.map fun g=>D.int ((g.k:Nat):Int))=KK at *
 generalize (gs.map fun g=>D.bytes g.b)=BS at *
 generalize enumFrom ((0:Nat):Int) (gs.map itD)=EE at *
 generalize hGS:gs.map itD=GS at *
 simp (disch:=first | decide | assumption | lia) only [Zgq,X_k,Zo,ZC,ZZ,Zak,P_bi,Zdq,Zp,Zg,Zb,Zdx,I_enum,ZcR,K_more,ZG,ZA,ZW,Zn,Zd,ZcS,cnO_ok,Zr,Zh,Zaa,Zaf,Zi,Ze,Zf,Zk,Zl,Zc,Zq,zc6,zc7,zc8,zc9,zc16,zc17,itemsOf,he,h1,h2,h3,hm,hj,hc1,hc2,htl,e1]
noncomputable def grpG (name:List Nat) (t:Nat) (gs:List Gi):Gi:=⟨.tuple [.str name,.list (gs.map (·.d))],tlv (oneB t) (bytesG gs),maxK 0 gs+1,([],.tuple [.str name,.list (gs.map (·.d))])::nodesFrom 0 (gs.map Gi.wi)⟩
theorem ZiP (name:List Nat) (t:Nat) {gs:List Gi} {L K:Nat} (h:Its gs L K) (hL:L≤20000) (hK:K≤90):CL T3L (r+3) 38 [.str name,.bytes (oneB t),.list (gs.map itD)] = .ok (itD (grpG name t gs)):=by
 have B:=Zcc
 have hn:=h.num
 rw [ZF (r:=r+2) B.f38 rfl (by decide)]
 have h0:=fun s0 s1 s2 s3 s4=>Zek (T:=T3L) (r:=r+2) 4 0 (·.d) (fun g=>rfl) [s0,s1,s2,s3,s4] (fun d=>rfl) gs [] (by simp;lia)
 have h1:=fun s0 s1 s2 s3 s4=>Zek (T:=T3L) (r:=r+2) 4 1 (·.d) (fun g=>rfl) [s0,s1,s2,s3,s4] (fun d=>rfl) gs [] (by simp;lia)
 have hw:=ZnM (r:=r) (.tuple [.str name,.list (gs.map (·.d))]) (.tuple [.str name,.list (gs.map (·.d))]) (oneB t) (by rw [ZU];exact Nat.succ_pos _) h hL hK
 simp only [List.nil_append] at h0 h1
 rw [show itD (grpG name t gs) = .tuple [.tuple [.str name,.list (gs.map (·.d))],.tuple [.str name,.list (gs.map (·.d))],.bytes (tlv (oneB t) (bytesG gs)),.int ((maxK 0 gs+1:Nat):Int),.list ((([],.tuple [.str name,.list (gs.map (·.d))])::nodesFrom 0 (gs.map Gi.wi)).map (nodeD []))] from rfl]
 generalize (([],D.tuple [.str name,.list (gs.map (·.d))])::nodesFrom 0 (gs.map Gi.wi)).map (nodeD [])=NN at *
 generalize gs.map (·.d)=DS at *
 generalize hGS:gs.map itD=GS at *
 simp (disch:=first | decide | assumption | lia) only [Zfx,Zo,ZZ,Zdq,Zp,Zg,Zb,Zdx,ZcR,ZG,Zn,Zd,ZcS,Zr,Zaa,Zaf,Zi,Ze,Zf,Zc,Zq,zc6,zc7,zc8,zc9,zc14,zc15,zc16,zc17,itemsOf,h0,h1,hw]
noncomputable def tagG (n:Nat) (g:Gi):Gi:=⟨.tuple [.str sTagged,.int (n:Nat),g.d],tlv (tagB n) g.b,g.k+1,([],.tuple [.str sTagged,.int (n:Nat),g.d])::nodesFrom 0 [g.wi]⟩
theorem c3tag (n:Nat) (hn:n < 128 ^ 8) {g:Gi} {L K:Nat} (h:Its [g] L K) (hL:L≤20000) (hK:K≤90):CL T3L (r+3) 39 [.int (n:Nat),itD g] = .ok (itD (tagG n g)):=by
 have B:=Zcc
 rw [ZF (r:=r+2) B.f39 rfl (by decide)]
 have ha:=c3arc B (T:=T3L) (r:=r+1) hn
 have hl:=Zbf 8 (n / 128) (Nat.lt_of_le_of_lt (Nat.div_le_self _ _) hn)
 have hl2:=ZbU n
 have hc:binop .Add (.bytes [191]) (.bytes (arcB n)) = .ok (.bytes (191::arcB n)):=ZbS (by simp [SZ];lia)
 have hw:=ZnM (r:=r) (.tuple [.str sTagged,.int (n:Nat),g.d]) (.tuple [.str sTagged,.int (n:Nat),g.d]) (tagB n) (by unfold tagB;split<;>simp [oneB];lia) h hL hK
 have e1:bytesG [g]=g.b:=by simp [bytesG]
 have e2:maxK 0 [g]=g.k:=by simp [maxK]
 rw [e1,e2] at hw
 simp only [List.map_cons,List.map_nil] at hw
 have i0:index (itD g) (.int 0) = .ok g.d:=rfl
 have i1:index (itD g) (.int 1) = .ok g.d:=rfl
 rw [show itD (tagG n g) = .tuple [.tuple [.str sTagged,.int (n:Nat),g.d],.tuple [.str sTagged,.int (n:Nat),g.d],.bytes (tlv (tagB n) g.b),.int ((g.k+1:Nat):Int),.list ((([],.tuple [.str sTagged,.int (n:Nat),g.d])::nodesFrom 0 [g.wi]).map (nodeD []))] from rfl]
 simp only [List.map_cons,List.map_nil]
 generalize nodeD [] ([],D.tuple [.str sTagged,.int (n:Nat),g.d])::(nodesFrom 0 [g.wi]).map (nodeD [])=NN at *
 generalize itD g=I at *
 by_cases h31:n < 31
 ·rw [tagB,if_pos h31] at hw ⊢
  have hb:builtin .bytes [.list [.int ((160+n:Nat):Int)]] = .ok (.bytes (oneB (160+n))):=Zbd (by lia)
  have e3:(160:Int)+(n:Nat)=((160+n:Nat):Int):=by rfl
  simp (disch:=first | decide | assumption | lia) only [Zfo,X_k,Zo,ZC,Zx,ZZ,Zak,P_bi,Zp,Zg,Zb,Zs,Zu,ZG,ZA,Zv,Za,ZW,c_lt,Zn,Zd,Zr,Zh,ZY,Zaa,Zaf,Zi,Ze,Zf,Zk,Zl,Zc,Zq,zc8,zc9,zc16,zc17,ha,hc,e3,hb,i0,i1,hw]
 ·rw [tagB,if_neg h31] at hw ⊢
  simp (disch:=first | decide | assumption | lia) only [Zfo,X_k,Zo,ZC,Zx,ZZ,Zak,Zp,Zg,Zb,Zs,Zu,ZG,ZA,Zv,Za,c_lt,Zn,Zd,Zr,Zh,Zy,Zaa,Zaf,Zi,Ze,Zf,Zk,Zl,Zc,Zq,zc8,zc9,zc16,zc17,ha,hc,i0,i1,hw]
end DK.Internal.B
end
section
set_option backward.match.sparseCases false
set_option genSizeOf false
set_option genCtorIdx false
namespace DK.Internal.B
open PySem
set_option maxRecDepth 20000
variable {T:Text} {r:Nat}
theorem Zfn (a b:List Gi):bytesG (a++b)=bytesG a++bytesG b:=by simp [bytesG]
theorem Zjs (a b:List Gi):((a++b).map fun g=>g.ns.length).sum=(a.map fun g=>g.ns.length).sum+(b.map fun g=>g.ns.length).sum:=by simp
theorem Its.mono {gs:List Gi} {L K L' K':Nat} (h:Its gs L K) (hL:L≤L') (hK:K≤K'):Its gs L' K':=
 ⟨fun g hg=>⟨(h.all g hg).1,Nat.le_trans (h.all g hg).2.1 hK,fun p hp=>Nat.le_trans ((h.all g hg).2.2 p hp) hK⟩,Nat.le_trans h.num hL,Nat.le_trans h.byt hL,Nat.le_trans h.nod hL⟩
theorem Its.app {a b:List Gi} {L L' K:Nat} (h:Its a L K) (h':Its b L' K):Its (a++b) (L+L') K:=by
 have h1:=h.num
 have h2:=h'.num
 have h3:=h.byt
 have h4:=h'.byt
 have h5:=h.nod
 have h6:=h'.nod
 refine ⟨fun g hg=>(List.mem_append.mp hg).elim (h.all g) (h'.all g),by rw [List.length_append];lia,by rw [Zfn,List.length_append];lia,by rw [Zjs];lia⟩
theorem Its.parts {a b:List Gi} {L K:Nat} (h:Its (a++b) L K):Its a L K∧Its b L K:=by
 have h1:=h.num
 have h3:=h.byt
 have h5:=h.nod
 rw [List.length_append] at h1
 rw [Zfn,List.length_append] at h3
 rw [Zjs] at h5
 exact ⟨⟨fun g hg=>h.all g (List.mem_append_left _ hg),by lia,by lia,by lia⟩,⟨fun g hg=>h.all g (List.mem_append_right _ hg),by lia,by lia,by lia⟩⟩
theorem Znw {v:D} {b:List UInt8} (h:Good T3L (Ty3 T3L) v b 0 [([],v)]) (hl:b.length≤300) (K:Nat):Its [⟨v,b,0,[([],v)]⟩] 300 K:=by
 refine ⟨fun g hg=> ?_,by simp,by simpa [bytesG] using hl,by simp⟩
 simp only [List.mem_singleton] at hg
 subst hg
 exact ⟨h,by simp,fun p hp=>by simp only [List.mem_singleton] at hp;subst hp;simp⟩
theorem ZlK {g:Gi} {L K:Nat} (h:Good T3L (Ty3 T3L) g.d g.b g.k g.ns) (hk:g.k≤K) (hp:∀p∈g.ns,p.1.length≤K) (hb:g.b.length≤L) (hn:g.ns.length≤L) (hL:1≤L):Its [g] L K:=by
 refine ⟨fun x hx=> ?_,by simpa using hL,by simpa [bytesG] using hb,by simpa using hn⟩
 simp only [List.mem_singleton] at hx
 subst hx
 exact ⟨h,hk,hp⟩
theorem Its.kids {gs:List Gi} {L K:Nat} (h:Its gs L K):(∀g∈gs,GiOk T3L (Ty3 T3L) (maxK 0 gs) g)∧(maxK 0 gs=0∨∃g∈gs,g.k=maxK 0 gs)∧maxK 0 gs≤K:=by
 refine ⟨fun g hg=>⟨(h.all g hg).1,(ZiO gs 0).2 g hg⟩,Zhq gs 0,?_⟩
 rcases Zhq gs 0 with e | ⟨g,hg,e⟩
 ·lia
 ·rw [←e];exact (h.all g hg).2.1
theorem ZiQ {gs:List Gi} {L K:Nat} (name:List Nat) (t:Nat) (h:Its gs L K) (hg:Good T3L (Ty3 T3L) (grpG name t gs).d (grpG name t gs).b (grpG name t gs).k (grpG name t gs).ns):Its [grpG name t gs] (L+20) (K+1):=by
 have hk:=h.kids.2.2
 have hb:=h.byt
 have hn:=h.nod
 rw [←Zgi gs 0] at hn
 refine ZlK hg (by show maxK 0 gs+1≤_;exact Nat.lt_succ_of_le (by assumption)) (fun p hp=> ?_) ?_ ?_ (by exact Nat.succ_pos _)
 ·rcases List.mem_cons.mp hp with rfl | hp
  ·simp
  ·exact ZoB (L:=0) (K:=K) .none gs 0 (fun g hg=>(h.all g hg).2.2) p hp
 ·show (tlv (oneB t) (bytesG gs)).length≤_
  rw [Zag,ZU];have:=ZeC (bytesG gs).length;lia
 ·show (([],_)::nodesFrom 0 (gs.map Gi.wi)).length≤_
  simp only [List.length_cons];lia
theorem Zjt {gs:List Gi} {L K:Nat} (h:Its gs L K) (hL:L≤20000) (hM:gs.length≤900):Good T3L (Ty3 T3L) (grpG sSeq 48 gs).d (grpG sSeq 48 gs).b (grpG sSeq 48 gs).k (grpG sSeq 48 gs).ns:=by
 have hb:=h.byt
 exact ZmP Zcc.toBase gs (maxK 0 gs) h.kids.1 h.kids.2.1 hM (by lia) (ZoG _)
theorem Znx {gs:List Gi} {L K:Nat} (h:Its gs L K) (hL:L≤20000) (hM:gs.length≤900) (ha:adjP (gs.map (·.b))=true):Good T3L (Ty3 T3L) (grpG sSet 49 gs).d (grpG sSet 49 gs).b (grpG sSet 49 gs).k (grpG sSet 49 gs).ns:=by
 have hb:=h.byt
 exact ZmQ Zcc.toBase gs (maxK 0 gs) h.kids.1 h.kids.2.1 hM (by lia) ha (ZoH _)
theorem set_no {gs:List Gi} {L K:Nat} (h:Its gs L K) (hL:L≤20000) (hK:K≤8) (hM:gs.length≤900) (ha:adjP (gs.map (·.b))=false) :
  CL T3L 299 20 [(grpG sSet 49 gs).d] = .exc∧CL T3L 299 24 [.bytes (grpG sSet 49 gs).b,.int 9] = .exc:=by
 have B:=Zcc.toBase
 have hb:=h.byt
 obtain ⟨h1,h2,h3⟩:=h.kids
 have hE:Eb T3L (grpG sSet 49 gs).d (maxK 0 gs+1):=by
  intro r
  have:=ZiC B (r:=r+maxK 0 gs+1) (gs.map fun g=>(g.d,g.b)) (Zhl (maxK 0 gs) gs h1 r) (by simpa using hM) (by simpa [bytesG,Function.comp_def] using (by lia:(bytesG gs).length < 65536))
  simp only [List.map_map,Function.comp_def] at this
  rw [show gs.map (fun x=>x.b)=gs.map (·.b) from rfl,ha,if_neg Bool.false_ne_true,show r+maxK 0 gs+1+20=r+20+(maxK 0 gs+1) by lia] at this
  exact this
 have hD:=ZiE B (gs.map Gi.ni) (maxK 0 gs) (fun p hp=>by obtain ⟨g,hg,rfl⟩:=List.mem_map.mp hp;exact ⟨(h1 g hg).1.dc,(h1 g hg).2⟩) (by
   rcases h2 with e | ⟨g,hg,e⟩
   ·exact .inl e
   ·exact .inr ⟨g.ni,List.mem_map_of_mem hg,e⟩) (by simpa using hM) (by rw [Zby];lia)
 have hmd:(gs.map Gi.ni).map (·.d)=gs.map (·.d):=by simp [Gi.ni,Function.comp_def]
 rw [hmd,Zby] at hD
 refine ⟨?_,?_⟩
 ·have:=hE (279 - (maxK 0 gs+1))
  rw [show 279 - (maxK 0 gs+1)+20+(maxK 0 gs+1)=299 by lia] at this
  exact this
 ·have:=Zfm B (r:=278 - 2*(maxK 0 gs+1)) hD hE 9 (by lia)
  rw [show 278 - 2*(maxK 0 gs+1)+21+2*(maxK 0 gs+1)=299 by lia] at this
  exact this
theorem ZoN {g:Gi} {L K:Nat} (n:Nat) (hn:n < 128 ^ 8) (h:Its [g] L K) (hL:L≤20000):Its [tagG n g] (L+20) (K+1):=by
 obtain ⟨h1,h2,h3⟩:=h.all g (List.mem_singleton.mpr rfl)
 have hb:g.b.length≤L:=by have:=h.byt;simpa [bytesG] using this
 have hd:g.ns.length≤L:=by have:=h.nod;simpa using this
 have hn2:n < 128 ^ 100:=Nat.lt_of_lt_of_le hn (Nat.pow_le_pow_right (by decide) (by decide))
 have hl:=Zbf 8 (n / 128) (Nat.lt_of_le_of_lt (Nat.div_le_self _ _) hn)
 have hl2:=ZbU n
 have ht:(tagB n).length≤10:=by unfold tagB;split<;>simp [oneB];lia
 have e:nodesFrom 0 [g.wi]=g.ns.map (under 0):=by simp [nodesFrom,Gi.wi]
 refine ZlK (ZmR Zcc.toBase g n hn2 h1 (by lia) (ZjS _ _)) (by show g.k+1≤_;exact Nat.lt_succ_of_le (by assumption)) (fun p hp=> ?_) ?_ ?_ (by exact Nat.succ_pos _)
 ·rcases List.mem_cons.mp hp with rfl | hp
  ·simp
  ·rw [e] at hp
   obtain ⟨q,hq,rfl⟩:=List.mem_map.mp hp
   have:=h3 q hq
   simp [under];exact this
 ·show (tlv (tagB n) g.b).length≤_
  rw [Zag];have:=ZeC g.b.length;lia
 ·show (([],_)::nodesFrom 0 [g.wi]).length≤_
  rw [e];simp only [List.length_cons,List.length_map];lia
theorem ZlL (x:List UInt8):∀ys,(insB x ys).length=ys.length+1
 | []=>rfl
 | y::ys=>by rw [insB];split<;>simp [ZlL x ys]
theorem Zju:∀xs,(sortB xs).length=xs.length
 | []=>rfl
 | x::xs=>by rw [sortB,ZlL,Zju xs];rfl
theorem Zjv (y:List UInt8) (l:List (List UInt8)) (h:adjP l=true) (hy:∀z∈l.head?,lexLe y z=true):adjP (y::l)=true:=by
 cases l with
 | nil=>rfl
 | cons z zs=>rw [adjP,h,hy z rfl];rfl
theorem ZlM (x:List UInt8):∀ys,adjP ys=true→adjP (insB x ys)=true
 | [],_=>rfl
 | y::ys,h=>by
  rw [insB]
  by_cases hc:lexLt y x=true
  ·rw [if_pos hc]
   have ht:adjP ys=true:=by
    cases ys with
    | nil=>rfl
    | cons z zs=>rw [adjP,Bool.and_eq_true] at h;exact h.2
   refine Zjv y _ (ZlM x ys ht) fun z hz=> ?_
   have hyx:lexLe y x=true:=by unfold lexLe;rw [Zgg y x hc];rfl
   cases ys with
   | nil=>cases hz;exact hyx
   | cons w ws=>
    rw [adjP,Bool.and_eq_true] at h
    rw [insB] at hz
    split at hz
    ·cases hz;exact h.1
    ·cases hz;exact hyx
  ·rw [if_neg hc]
   refine Zjv x _ h fun z hz=> ?_
   cases hz
   unfold lexLe
   cases e:lexLt y x with
   | true=>exact absurd e hc
   | false=>rfl
theorem Zjw:∀xs,adjP (sortB xs)=true
 | []=>rfl
 | x::xs=>ZlM x _ (Zjw xs)
theorem Zjx:∀xs,adjP xs=true→sortB xs=xs
 | [],_=>rfl
 | x::xs,h=>by
  have ht:adjP xs=true:=by
   cases xs with
   | nil=>rfl
   | cons z zs=>rw [adjP,Bool.and_eq_true] at h;exact h.2
  rw [sortB,Zjx xs ht]
  cases xs with
  | nil=>rfl
  | cons z zs=>
   rw [adjP,Bool.and_eq_true] at h
   have h1:=h.1
   unfold lexLe at h1
   rw [insB,if_neg]
   intro q;rw [q] at h1;cases h1
theorem Zic:∀(as bs:List (List UInt8)),as.length=bs.length→allEq (D.peq 63) (as.map .bytes) (bs.map .bytes) = .ok (decide (as=bs))
 | [],bs,h=>by
  cases bs with
  | nil=>rfl
  | cons b bs=>cases h
 | a::as,bs,h=>by
  cases bs with
  | nil=>cases h
  | cons b bs=>
   have ih:=Zic as bs (Nat.succ.inj h)
   show andB (D.peq 63 (.bytes a) (.bytes b)) (allEq (D.peq 63) (as.map .bytes) (bs.map .bytes))=_
   rw [ih,Zcn]
   show Out.ok (decide (a=b) && decide (as=bs))=_
   refine congrArg Out.ok ?_
   rw [←Bool.decide_and]
   exact decide_eq_decide.mpr (by rw [List.cons.injEq])
theorem ZlN (gs:List Gi) (h:gs.length < 64):builtin .sorted [.list (gs.map fun g=> .bytes g.b)] = .ok (.list ((sortB (gs.map (·.b))).map .bytes)):=by
 show optO (byteStrs (gs.map fun g=> .bytes g.b)) (fun bs=>if bs.length < 64 then .ok (.list ((sortB bs).map .bytes)) else .stuck)=_
 have:=Zfs (gs.map (·.b))
 rw [List.map_map,show (D.bytes ∘ fun x=>x.b)=(fun g:Gi=>D.bytes g.b) from rfl] at this
 rw [this]
 exact if_pos (by simpa using h)
theorem Zkc (gs:List Gi):D.peq eqDeep (.list (gs.map fun g=> .bytes g.b)) (.list ((sortB (gs.map (·.b))).map .bytes)) = .ok (adjP (gs.map (·.b))):=by
 have:=Zic (gs.map (·.b)) (sortB (gs.map (·.b))) (Zju _).symm
 rw [List.map_map,show (D.bytes ∘ fun x=>x.b)=(fun g:Gi=>D.bytes g.b) from rfl] at this
 refine Eq.trans this ?_
 refine congrArg Out.ok ?_
 cases e:adjP (gs.map (·.b)) with
 | true=>exact decide_eq_true (Zjx _ e).symm
 | false=>
  refine decide_eq_false fun q=> ?_
  have:=Zjw (gs.map (·.b))
  rw [←q,e] at this;cases this
end DK.Internal.B
end
section
set_option backward.match.sparseCases false
set_option genSizeOf false
set_option genCtorIdx false
namespace DK.Internal.B
open PySem
set_option maxRecDepth 20000
variable {T:Text} {r:Nat}
noncomputable def law_w:Ss:=tailS 3 ZaV
noncomputable def law_p (ss:Ss):Ss:=(.cons (.unp [9,10,11] (.call 34 (.cons (.bin .Mod (.var 3) (.k (.int 10))) (.cons (.var 4) (.cons (.var 5) (.cons (.var 6) .nil))))))
 (.cons (.asg 12 (.idx (.call 34 (.cons (.bin .Mod (.var 3) (.k (.int 10))) (.cons (.var 4) (.cons (.var 5) (.cons (.var 6) .nil))))) (.k (.int 0))))
 (.cons (.ife (.var 11) (.cons (.asg 1 (.bin .Add (.var 1) (.lst (.cons (.tup (.cons (.var 9) (.cons (.var 12) (.cons (.var 10) (.cons (.k (.int 0)) (.cons (.lst (.cons (.tup (.cons (.lst .nil) (.cons (.var 12) .nil))) .nil)) .nil)))))) .nil))))
 (.cons (.ife (.not (.call 36 (.cons (.idx (.var 1) (.neg (.k (.int 1)))) .nil))) (.cons (.ret (.k (.bool false)))
 .nil) .nil)
 .nil)) (.cons (.asg 2 (.var 10))
 (.cons (.ife (.or (.not (.call 35 (.cons (.var 9) (.cons (.var 10) (.cons (.k (.int 9)) .nil))))) (.cmp .NotEq (.var 9) (.var 12))) (.cons (.ret (.k (.bool false)))
 .nil) .nil)
 .nil))) ss)))
theorem ZlO:ZaV=law_p law_w:=by kernel_rfl
theorem Zjy (xs:List D) (x:D):index (.list (xs ++ [x])) (.int (-1)) = .ok x:=by
 show atL (xs ++ [x]) (place (xs ++ [x]).length (-1))=_
 have:place (xs ++ [x]).length (-1)=some xs.length:=by
  unfold place
  have e:(if (-1:Int) < 0 then (-1:Int)+((xs ++ [x]).length:Nat) else -1)=(xs.length:Nat):=by rw [if_pos (by decide)];simp;lia
  simp only [e]
  rw [if_pos ⟨by exact Int.natCast_nonneg _,by simp;lia⟩]
  simp
 rw [this]
 simp [atL]
theorem ZlP (xs:List D) (x:D):clip (xs ++ [x]).length (-1)=xs.length:=by unfold clip;rw [if_pos (by decide)];simp;lia
theorem ZlQ (xs:List D) (x:D):slice (.list (xs ++ [x])) .none (.int (-1)) = .ok (.list xs):=by
 rw [ZhK,ZlP];simp [cut]
theorem ZiR (xs:List D) (x:D):slice (.list (xs ++ [x])) (.int (-1)) .none = .ok (.list [x]):=by
 rw [ZfR,ZlP];simp [cut]
theorem ZiS:slice (.list []) (.int (-1)) .none = .ok (.list []):=rfl
theorem push3 {gs:List Gi} {L K:Nat} {w:List UInt8} (h:Its gs L K) (hw:Wr w) (hL:L≤8000) (hK:K≤5) (k x y z a n:Int) (s0 s9 s10 s11 s12 s13 s14 s15 s16 s17 s18 s19:Slot) :
  ∃gs' w' t9 t10 t11 t12,Its gs' (L+300) K∧gs'.length≤gs.length+1∧Wr w'∧Y T3L 300 ZaV [s0,.val (.list (gs.map itD)),.val (.bytes w),.val (.int k),.val (.int x),.val (.int y),.val (.int z),.val (.int a),.val (.int n),s9,s10,s11,s12,s13,s14,s15,s16,s17,s18,s19] =
   YK T3L 300 law_w nextK [s0,.val (.list (gs'.map itD)),.val (.bytes w'),.val (.int k),.val (.int x),.val (.int y),.val (.int z),.val (.int a),.val (.int n),t9,t10,t11,t12,s13,s14,s15,s16,s17,s18,s19]:=by
 obtain ⟨v,b,g,hc,hf⟩:=Znt k x y z
 have hc:=hc 296
 simp only [Nat.reduceAdd,leafR] at hc
 have hpe:=hf.pe
 have hn:=h.num
 rw [ZlO]
 cases g with
 | true=>
  have hg:=hf.good rfl
  have hi:=Znw hg hf.len K
  have hcat:binop .Add (.list (gs.map itD)) (.list [.tuple [v,v,.bytes b,.int 0,.list [.tuple [.list [],v]]]]) = .ok (.list (gs.map itD ++ [itD ⟨v,b,0,[([],v)]⟩])):=ZdV (by simp [SZ];lia)
  have hl:=Zjy (gs.map itD) (itD ⟨v,b,0,[([],v)]⟩)
  have hh:=ZlI (g:=⟨v,b,0,[([],v)]⟩) hg (by simp) (by simp)
  refine ⟨gs ++ [⟨v,b,0,[([],v)]⟩],w,.val v,.val (.bytes b),.val (.bool true),.val v,h.app hi,by simp,hw,?_⟩
  rw [List.map_append,List.map_cons,List.map_nil]
  generalize itD ⟨v,b,0,[([],v)]⟩=I at *
  generalize gs.map itD ++ [I]=GS' at *
  generalize gs.map itD=GS at *
  simp (disch:=first | decide | assumption | lia) only [law_p,X_k,Zo,ZC,ZgK,Zx,ZZ,Zak,Zp,Zg,Zb,ZdR,Zio,Zhw,Zu,ZA,Zfg,Zv,ZcA,ZV,Zbx,Zd,Zh,Zgw,ZE,Zz,Zaa,Zaf,Zi,ZbY,Ze,Zf,Zk,Zl,Zc,Zq,zc4,hc,Zeb,hcat,hl,hh]
 | false=>
  obtain ⟨h1,h2,h3⟩:=hf.no rfl
  have hno:=c3no h1 h2
  refine ⟨gs,b,.val v,.val (.bytes b),.val (.bool false),.val v,h.mono (by exact Nat.le_add_right _ _) (Nat.le_refl _),by exact Nat.le_add_right _ _,h3,?_⟩
  generalize gs.map itD=GS at *
  simp (disch:=first | decide | assumption | lia) only [law_p,X_k,Zo,ZC,Zx,Zp,Zg,Zb,ZdR,R_or,Zs,Zio,Zhw,Zu,ZA,Zfg,Zv,Za,ZV,Zbx,c_ne,Zd,Zh,Zgw,Zz,Zal,Zi,ZbY,Ze,Zf,Zk,Zl,Zc,ZaK,Zq,zc4,hc,Zeb,hno,hpe]
noncomputable def numsL:List Nat:= [0,1,30,31,127,128,16384,1099511627776]
theorem ZoO:∀a∈numsL,a < 128 ^ 8:=by decide
theorem Zny (n:Int):index (.tuple [.int 0,.int 1,.int 30,.int 31,.int 127,.int 128,.int 16384,.int 1099511627776]) (.int (n % 8)) = .ok (.int ((sel numsL n:Nat):Int)):=ZbD numsL nD n 8 rfl (by decide)
theorem wrap3 {gs:List Gi} {L K:Nat} (h:Its gs L K) (hM:gs.length < 64) (hL:L≤9000) (hK:K≤5) (a n:Int) (s0 s2 s3 s4 s5 s6 s9 s10 s11 s12 s13 s14 s15 s16 s17 s18 s19:Slot) :
  ∃gs' t13 t14,Its gs' (2*L+20) (K+1)∧gs'.length≤gs.length+1∧YK T3L 300 law_w nextK [s0,.val (.list (gs.map itD)),s2,s3,s4,s5,s6,.val (.int a),.val (.int n),s9,s10,s11,s12,s13,s14,s15,s16,s17,s18,s19] =
   .ok (.next,[s0,.val (.list (gs'.map itD)),s2,s3,s4,s5,s6,.val (.int a),.val (.int n),s9,s10,s11,s12,t13,t14,s15,s16,s17,s18,s19]):=by
 have hn:=h.num
 have hcase:a % 5=0∨a % 5=1∨a % 5=2∨a % 5=3∨a % 5=4:=by lia
 have elw:law_w=tailS 3 ZaV:=rfl
 rcases hcase with ha | ha | ha | ha | ha
 ·refine ⟨gs,s13,s14,h.mono (by lia) (by exact Nat.le_add_right _ _),by exact Nat.le_add_right _ _,?_⟩
  generalize gs.map itD=GS at *
  simp (disch:=first | decide | assumption | lia) only [elw,tailS,ZaV,X_k,Zo,ZC,Zao,Zs,Zu,Zv,Za,Zbx,c_eq,Zt,Zd,Zz,Zy,Zan,Ze,Zf,Zc,okB_,ZP,ha]
 ·rcases List.eq_nil_or_concat gs with rfl | ⟨hs,g,rfl⟩
  ·refine ⟨[],s13,s14,h.mono (by lia) (by exact Nat.le_add_right _ _),by exact Nat.le_add_left _ _,?_⟩
   have hcat:binop .Add (.list []) (.list []) = .ok (.list []):=rfl
   simp (disch:=first | decide | assumption | lia) only [elw,tailS,ZaV,X_k,Zo,ZC,ZgK,ZaF,Zs,Zu,ZA,Zv,ZcA,Za,Zbx,c_eq,Zt,Zd,Zae,Zh,ZE,Ze,Zf,Zk,Zl,Zc,okB_,ZP,zc7,zc10,ha,ZiS,hcat]
  ·rw [List.concat_eq_append] at *
   have hp:=h.parts
   refine ⟨(hs ++ [g]) ++ [g],s13,s14,(h.app hp.2).mono (by lia) (by exact Nat.le_add_right _ _),by simp,?_⟩
   have hcat:binop .Add (.list (hs.map itD ++ [itD g])) (.list [itD g]) = .ok (.list ((hs.map itD ++ [itD g]) ++ [itD g])):=ZdV (by simp [SZ] at hn ⊢;lia)
   have hsl:=ZiR (hs.map itD) (itD g)
   simp only [List.map_append,List.map_cons,List.map_nil]
   generalize (hs.map itD ++ [itD g]) ++ [itD g]=G2 at *
   generalize hs.map itD ++ [itD g]=G1 at *
   simp (disch:=first | decide | assumption | lia) only [elw,tailS,ZaV,X_k,Zo,ZC,ZgK,ZaF,Zs,Zu,ZA,Zv,ZcA,Za,Zbx,c_eq,Zt,Zd,Zae,Zh,ZE,Ze,Zf,Zk,Zl,Zc,okB_,ZP,zc10,ha,hsl,hcat]
 ·have hc:=ZiP (r:=297) sSeq 48 h (by exact Nat.le_trans (by assumption) (by decide)) (by exact Nat.le_trans (by assumption) (by decide))
  simp only [Nat.reduceAdd,show oneB 48 = [48] from rfl] at hc
  refine ⟨[grpG sSeq 48 gs],s13,s14,(ZiQ sSeq 48 h (Zjt h (by exact Nat.le_trans (by assumption) (by decide)) (by lia))).mono (by lia) (by exact Nat.lt_succ_self _),by simp,?_⟩
  simp only [List.map_cons,List.map_nil]
  generalize itD (grpG sSeq 48 gs)=I at *
  generalize gs.map itD=GS at *
  simp (disch:=first | decide | assumption | lia) only [elw,tailS,ZaV,X_k,Zo,ZC,Zak,Zp,Zg,Zb,Zs,Zu,ZA,Zv,Za,Zbx,c_eq,Zt,Zd,Zh,ZE,Zy,Zaf,Zi,Ze,Zf,Zk,Zl,Zc,okB_,ZP,zc10,ha,hc]
 ·have hc:=ZiP (r:=297) sSet 49 h (by exact Nat.le_trans (by assumption) (by decide)) (by exact Nat.le_trans (by assumption) (by decide))
  simp only [Nat.reduceAdd,show oneB 49 = [49] from rfl] at hc
  have hf:=fun s0 s1 s2 s3 s4 s5 s6 s7 s8 s9 s10 s11 s12 s13 s14 s15 s16 s17 s18 s19 s20 s21=>Zek (T:=T3L) (r:=300) 21 2 (fun g=> .bytes g.b) (fun g=>rfl) [s0,s1,s2,s3,s4,s5,s6,s7,s8,s9,s10,s11,s12,s13,s14,s15,s16,s17,s18,s19,s20,s21] (fun d=>rfl) gs [] (by simp;lia)
  simp only [List.nil_append] at hf
  have hso:=ZlN gs hM
  have hpq:=Zkc gs
  cases hadj:adjP (gs.map (·.b)) with
  | true=>
   rw [hadj] at hpq
   refine ⟨[grpG sSet 49 gs],.val (itD (grpG sSet 49 gs)),.val (.list (gs.map fun g=> .bytes g.b)),(ZiQ sSet 49 h (Znx h (by exact Nat.le_trans (by assumption) (by decide)) (by lia) hadj)).mono (by lia) (by exact Nat.lt_succ_self _),by simp,?_⟩
   simp only [List.map_cons,List.map_nil]
   generalize itD (grpG sSet 49 gs)=I at *
   generalize (sortB (gs.map (·.b))).map D.bytes=SS at *
   generalize (gs.map fun g=>D.bytes g.b)=BS at *
   generalize gs.map itD=GS at *
   simp (disch:=first | decide | assumption | lia) only [elw,tailS,ZaV,X_k,Zo,ZC,Zak,P_bi,Zdq,Zp,Zg,Zb,Zs,Zdx,ZcR,Zu,ZA,Zv,Za,Zbx,c_eq,Zt,Zd,ZcS,Zh,ZE,Zy,Zaf,Zi,Ze,Zf,Zk,Zl,Zc,okB_,ZP,zc8,zc9,zc10,zc16,zc17,ha,hc,hf,itemsOf,hso,hpq]
  | false=>
   rw [hadj] at hpq
   obtain ⟨h1,h2⟩:=set_no h (by exact Nat.le_trans (by assumption) (by decide)) (by exact Nat.le_trans (by assumption) (by decide)) (by lia) hadj
   have hno:=c3no h1 h2
   have i0:index (itD (grpG sSet 49 gs)) (.int 0) = .ok (grpG sSet 49 gs).d:=rfl
   have i2:index (itD (grpG sSet 49 gs)) (.int 2) = .ok (.bytes (grpG sSet 49 gs).b):=rfl
   refine ⟨gs,.val (itD (grpG sSet 49 gs)),.val (.list (gs.map fun g=> .bytes g.b)),h.mono (by lia) (by exact Nat.le_add_right _ _),by exact Nat.le_add_right _ _,?_⟩
   generalize itD (grpG sSet 49 gs)=I at *
   generalize (grpG sSet 49 gs).d=ID at *
   generalize (grpG sSet 49 gs).b=IB at *
   generalize (sortB (gs.map (·.b))).map D.bytes=SS at *
   generalize (gs.map fun g=>D.bytes g.b)=BS at *
   generalize gs.map itD=GS at *
   simp (disch:=first | decide | assumption | lia) only [elw,tailS,ZaV,X_k,Zo,ZC,Zx,P_bi,Zdq,Zp,Zg,Zb,ZdR,Zs,Zhw,Zdx,ZcR,Zu,ZA,Zv,Za,ZV,Zbx,c_eq,Zt,Zd,ZcS,Zh,ZE,Zz,Zy,Zaf,Zi,ZbY,Ze,Zf,Zk,Zl,Zc,okB_,ZP,zc4,zc8,zc9,zc10,zc16,zc17,ha,hc,hf,itemsOf,hso,hpq,i0,i2,hno]
 ·rcases List.eq_nil_or_concat gs with rfl | ⟨hs,g,rfl⟩
  ·refine ⟨[],s13,s14,h.mono (by lia) (by exact Nat.le_add_right _ _),by exact Nat.le_add_left _ _,?_⟩
   have hl0:builtin .len [.list ([]:List D)] = .ok (.int 0):=rfl
   simp (disch:=first | decide | assumption | lia) only [List.map_nil,elw,tailS,ZaV,X_k,Zo,ZC,P_bi,Zg,Zb,Zao,Zs,Zu,Zv,Za,Zbx,c_eq,c_gt,Zt,Zd,Zy,Zfq,Zi,Ze,Zf,Zc,okB_,ZP,zc10,hl0,ha]
  ·rw [List.concat_eq_append] at *
   have hp:=h.parts
   have hN:=ZoO _ (Zaq numsL n (by decide))
   have hix:=Zny n
   generalize sel numsL n=N at *
   have hc:=c3tag (r:=297) N hN hp.2 (by exact Nat.le_trans (by assumption) (by decide)) (by exact Nat.le_trans (by assumption) (by decide))
   simp only [Nat.reduceAdd] at hc
   refine ⟨hs ++ [tagG N g],s13,s14,((hp.1.mono (Nat.le_refl _) (Nat.le_succ _)).app (ZoN N hN hp.2 (by exact Nat.le_trans (by assumption) (by decide)))).mono (by lia) (by exact Nat.lt_succ_self _),by simp,?_⟩
   have hsl:=ZlQ (hs.map itD) (itD g)
   have hil:=Zjy (hs.map itD) (itD g)
   have hlen:0 < (hs.map itD ++ [itD g]).length:=by simp
   have hcat:binop .Add (.list (hs.map itD)) (.list [itD (tagG N g)]) = .ok (.list (hs.map itD ++ [itD (tagG N g)])):=ZdV (by simp [SZ] at hn ⊢;lia)
   simp only [List.map_append,List.map_cons,List.map_nil]
   generalize hs.map itD ++ [itD (tagG N g)]=G2 at *
   generalize hs.map itD ++ [itD g]=G1 at *
   generalize itD (tagG N g)=TG at *
   generalize itD g=I at *
   generalize hs.map itD=HS at *
   simp (disch:=first | decide | assumption | lia) only [elw,tailS,ZaV,X_k,Zo,ZC,ZgK,Zx,ZaF,ZZ,Zak,P_bi,Zp,Zg,Zb,Zao,Zs,Zu,ZA,Zv,ZcA,Za,Zbx,c_eq,c_gt,Zay,Zt,Zd,Zae,Zh,ZY,Zy,Zfq,Zaa,Zaf,Zi,Ze,Zf,Zk,Zl,Zc,okB_,ZP,zc10,ha,hsl,hil,hix,hc,hcat]
theorem step3 {gs:List Gi} {L K:Nat} {w:List UInt8} (h:Its gs L K) (hM:gs.length≤20) (hw:Wr w) (hL:L≤8000) (hK:K≤5) (k x y z a n:Int) (s0 s9 s10 s11 s12 s13 s14 s15 s16 s17 s18 s19:Slot) {P:Prop}
  (kk:∀gs' w' t9 t10 t11 t12 t13 t14,Its gs' (2*L+1000) (K+1)→gs'.length≤gs.length+2→Wr w'→Y T3L 300 ZaV [s0,.val (.list (gs.map itD)),.val (.bytes w),.val (.int k),.val (.int x),.val (.int y),.val (.int z),.val (.int a),.val (.int n),s9,s10,s11,s12,s13,s14,s15,s16,s17,s18,s19] =
   .ok (.next,[s0,.val (.list (gs'.map itD)),.val (.bytes w'),.val (.int k),.val (.int x),.val (.int y),.val (.int z),.val (.int a),.val (.int n),t9,t10,t11,t12,t13,t14,s15,s16,s17,s18,s19])→P):P:=by
 obtain ⟨g1,w1,t9,t10,t11,t12,h1,m1,hw1,e1⟩:=push3 h hw hL hK k x y z a n s0 s9 s10 s11 s12 s13 s14 s15 s16 s17 s18 s19
 obtain ⟨g2,t13,t14,h2,m2,e2⟩:=wrap3 h1 (by lia) (by lia) hK a n s0 (.val (.bytes w1)) (.val (.int k)) (.val (.int x)) (.val (.int y)) (.val (.int z)) t9 t10 t11 t12 s13 s14 s15 s16 s17 s18 s19
 exact kk g2 w1 t9 t10 t11 t12 t13 t14 (h2.mono (by lia) (Nat.le_refl _)) (by lia) hw1 (e1.trans e2)
end DK.Internal.B
end
section
set_option backward.match.sparseCases false
set_option genSizeOf false
set_option genCtorIdx false
namespace DK.Internal.B
open PySem
set_option maxRecDepth 20000
variable {T:Text} {r:Nat}
theorem Zhr:CL T3L 299 20 [.none] = .exc:=by
 have:=List.all_eq_true.mp (List.all_eq_true.mp ZnK _ (List.mem_cons_self ..)) _ (List.mem_cons_self ..)
 rw [Bool.and_eq_true] at this
 exact Zln (xs:= [.none]) this.1
theorem wr0:Wr [7,0]:=jr_wr _ (List.mem_cons_of_mem _ (List.mem_cons_self ..)) [7,0] (by decide)
theorem ZoP {gs:List Gi} {L K:Nat} {w:List UInt8} (h:Its gs L K) (hw:Wr w) (hL:L≤20000) (hK:K≤5) (hM:gs.length≤400) (p:Nat) :
  CL T3L 299 24 [.bytes (tlv (oneB 48) (bytesG (gs.take p)++(w++bytesG (gs.drop p)))),.int 9] = .exc:=by
 have B:=Zcc.toBase
 obtain ⟨w0,w1,hw⟩:=hw
 have hb:=h.byt
 rw [←List.take_append_drop p gs] at h
 obtain ⟨ht,hd⟩:=h.parts
 have hbt:=ht.byt
 have hbd:=hd.byt
 have hlt:(gs.take p).length≤400:=by rw [List.length_take];lia
 have hld:(gs.drop p).length≤400:=by rw [List.length_drop];lia
 generalize gs.take p=A at *
 generalize gs.drop p=Z at *
 clear h hb
 have hF:(bytesG A++(w++bytesG Z)).length < 65536:=by simp only [List.length_append];lia
 rcases hw with hw | ⟨d,k,hk,hD,hE⟩
 ·refine Zej B (r:=297) ?_
  have:=Zos B (r:=260) (A.map Gi.ni) w (bytesG Z) 8 8 (fun q hq=>by
   obtain ⟨g,hg,rfl⟩:=List.mem_map.mp hq
   have h1:=ht.all g hg
   exact ⟨h1.1.dc,Nat.le_trans h1.2.1 (by exact Nat.le_trans (by assumption) (by decide)),Nat.le_trans h1.2.1 (by exact Nat.le_trans (by assumption) (by decide))⟩) (by rw [List.length_map];exact Nat.le_trans (by assumption) (by decide)) w0 hw (by rw [Zby];exact hF) [] []
  rw [Zby] at this
  simp only [List.nil_append,List.append_nil] at this
  exact this
 ·have hall:∀g∈A++⟨d,w,k,[]⟩::Z,Dc T3L g.d g.b g.k∧g.k≤5:=by
   intro g hg
   rcases List.mem_append.mp hg with hg | hg
   ·have:=ht.all g hg;exact ⟨this.1.dc,by lia⟩
   ·rcases List.mem_cons.mp hg with rfl | hg
    ·exact ⟨hD,by show k≤5;exact Nat.le_trans (by assumption) (by decide)⟩
    ·have:=hd.all g hg;exact ⟨this.1.dc,by lia⟩
  obtain ⟨m1,m2⟩:=ZiO (A++⟨d,w,k,[]⟩::Z) 0
  have m3:=Zhq (A++⟨d,w,k,[]⟩::Z) 0
  have m4:maxK 0 (A++⟨d,w,k,[]⟩::Z)≤5:=by
   rcases m3 with e | ⟨g,hg,e⟩
   ·lia
   ·rw [←e];exact (hall g hg).2
  have eb:bytesG (A++⟨d,w,k,[]⟩::Z)=bytesG A++(w++bytesG Z):=by simp [bytesG]
  have hmd:((A++⟨d,w,k,[]⟩::Z).map Gi.ni).map (·.d)=A.map (·.d)++d::Z.map (·.d):=by simp [Gi.ni,Function.comp_def]
  have hDs:=Zlc B ((A++⟨d,w,k,[]⟩::Z).map Gi.ni) (maxK 0 (A++⟨d,w,k,[]⟩::Z)) (fun q hq=>by
   obtain ⟨g,hg,rfl⟩:=List.mem_map.mp hq
   exact ⟨(hall g hg).1,m2 g hg⟩) (by
   rcases m3 with e | ⟨g,hg,e⟩
   ·exact .inl e
   ·exact .inr ⟨g.ni,List.mem_map_of_mem hg,e⟩) (by simp;lia) (by rw [Zby,eb];exact hF)
  rw [Zby,eb,hmd] at hDs
  have hkM:k≤maxK 0 (A++⟨d,w,k,[]⟩::Z):=m2 ⟨d,w,k,[]⟩ (by simp)
  have hkA:∀g∈A,GiOk T3L (Ty3 T3L) (maxK 0 (A++⟨d,w,k,[]⟩::Z)) g:=fun g hg=>⟨(ht.all g hg).1,m2 g (List.mem_append_left _ hg)⟩
  generalize maxK 0 (A++⟨d,w,k,[]⟩::Z)=KK at *
  have hEs:Eb T3L (.tuple [.str sSeq,.list (A.map (·.d)++d::Z.map (·.d))]) (KK+1):=by
   intro r
   have hx:=hE (r+(KK - k))
   rw [show r+(KK - k)+20+k=r+KK+1+19 by lia] at hx
   have:=ZiB B (r:=r+KK+1) (A.map fun g=>(g.d,g.b)) d (Z.map (·.d)) sSeq (.inl rfl) (Zhl KK A hkA r) (by rw [List.length_map];exact Nat.le_trans (by assumption) (by decide)) hx
   simp only [List.map_map,Function.comp_def] at this
   rw [show r+KK+1+20=r+20+(KK+1) by lia] at this
   exact this
  have:=Zfm B (r:=278 - 2*(KK+1)) hDs hEs 9 (by exact Nat.lt_of_le_of_lt (by assumption) (by decide))
  rw [show 278 - 2*(KK+1)+21+2*(KK+1)=299 by lia] at this
  exact this
theorem ZoQ:Its [] 0 0:=⟨fun _ h=>(nomatch h),Nat.le_refl _,Nat.le_refl _,Nat.le_refl _⟩
noncomputable abbrev six (a b c d e f:Int):D:= .tuple [.int a,.int b,.int c,.int d,.int e,.int f]
theorem bind6 (s0 s1 s2 s3 s4 s5 s6 s7 s8:Slot) (sl:List Slot) (a b c d e f:Int):bindT (s0::s1::s2::s3::s4::s5::s6::s7::s8::sl) (.many [3,4,5,6,7,8]) (six a b c d e f) =
  .ok (s0::s1::s2::.val (.int a)::.val (.int b)::.val (.int c)::.val (.int d)::.val (.int e)::.val (.int f)::sl):=rfl
theorem steps3 (s:Nat→Int) (s0:Slot) {P:Prop} (kk:∀gs w t3 t4 t5 t6 t7 t8 t9 t10 t11 t12 t13 t14,Its gs 7000 3→gs.length≤6→Wr w →
  FE T3L 300 (.many [3,4,5,6,7,8]) ZaV [six (s 0) (s 1) (s 2) (s 3) (s 4) (s 5),six (s 6) (s 7) (s 8) (s 9) (s 10) (s 11),six (s 12) (s 13) (s 14) (s 15) (s 16) (s 17)] [s0,.val (.list []),.val (.bytes [7,0]),.un,.un,.un,.un,.un,.un,.un,.un,.un,.un,.un,.un,.un,.un,.un,.un,.un] =
   .ok (.next,[s0,.val (.list (gs.map itD)),.val (.bytes w),t3,t4,t5,t6,t7,t8,t9,t10,t11,t12,t13,t14,.un,.un,.un,.un,.un])→P):P:=by
 refine step3 ZoQ (by simp) wr0 (by exact Nat.zero_le _) (by exact Nat.zero_le _) (s 0) (s 1) (s 2) (s 3) (s 4) (s 5) s0 .un .un .un .un .un .un .un .un .un .un .un fun g1 w1 a9 a10 a11 a12 a13 a14 h1 m1 hw1 e1=> ?_
 refine step3 h1 (by simp at m1;exact Nat.le_trans (by assumption) (by decide)) hw1 (by exact Nat.le_add_left _ _) (by exact Nat.succ_pos _) (s 6) (s 7) (s 8) (s 9) (s 10) (s 11) s0 a9 a10 a11 a12 a13 a14 .un .un .un .un .un fun g2 w2 b9 b10 b11 b12 b13 b14 h2 m2 hw2 e2=> ?_
 refine step3 h2 (by simp at m1;lia) hw2 (by exact Nat.le_add_left _ _) (by exact Nat.le_add_left _ _) (s 12) (s 13) (s 14) (s 15) (s 16) (s 17) s0 b9 b10 b11 b12 b13 b14 .un .un .un .un .un fun g3 w3 c9 c10 c11 c12 c13 c14 h3 m3 hw3 e3=> ?_
 refine kk g3 w3 (.val (.int (s 12))) (.val (.int (s 13))) (.val (.int (s 14))) (.val (.int (s 15))) (.val (.int (s 16))) (.val (.int (s 17))) c9 c10 c11 c12 c13 c14 (h3.mono (by exact Nat.le_refl _) (by exact Nat.lt_succ_self _)) (by simp at m1;lia) hw3 ?_
 rw [List.map_nil] at e1
 rw [ZhA,bind6,Zfp,e1,Zc,ZQ,ZhA,bind6,Zfp,e2,Zc,ZQ,ZhA,bind6,Zfp,e3,Zc,ZQ,Zkk]
theorem no_fe (s:List Slot→Prop) (s0 s1 s2 s3 s4 s5 s6 s7 s8 s9 s10 s11 s12 s13 s14 s15 s16 s17:Slot):∀(ps:List (D × D)) (s18 s19:Slot),(∀p∈ps,CL T3L 300 35 [.none,p.1,p.2] = .ok (.bool true)) →
  ∃a b,FE T3L 300 (.many [18,19]) ZfE (ps.map fun p=> .tuple [p.1,p.2]) [s0,s1,s2,s3,s4,s5,s6,s7,s8,s9,s10,s11,s12,s13,s14,s15,s16,s17,s18,s19] = .ok (.next,[s0,s1,s2,s3,s4,s5,s6,s7,s8,s9,s10,s11,s12,s13,s14,s15,s16,s17,a,b]):=by
 intro ps
 induction ps with
 | nil=>intro s18 s19 h;exact ⟨s18,s19,rfl⟩
 | cons p ps ih=>
  intro s18 s19 h
  obtain ⟨a,b,hs⟩:=ih (.val p.1) (.val p.2) (fun x hx=>h x (List.mem_cons_of_mem _ hx))
  refine ⟨a,b,?_⟩
  have h1:=h p (List.mem_cons_self ..)
  rw [List.map_cons,ZhA]
  have hb:bindT [s0,s1,s2,s3,s4,s5,s6,s7,s8,s9,s10,s11,s12,s13,s14,s15,s16,s17,s18,s19] (.many [18,19]) (.tuple [p.1,p.2]) = .ok [s0,s1,s2,s3,s4,s5,s6,s7,s8,s9,s10,s11,s12,s13,s14,s15,s16,s17,.val p.1,.val p.2]:=rfl
  rw [hb,Zfp]
  generalize FE T3L 300 (.many [18,19]) ZfE (ps.map fun p=> .tuple [p.1,p.2])=f at *
  simp (disch:=first | decide | assumption | lia) only [ZfE,X_k,Zo,Zg,Zb,ZdR,Zhw,Zu,Zv,ZQ,ZV,Zd,Zz,Zi,ZbY,Ze,Zf,Zc,Zq,ZP,zc4,h1]
  exact hs
theorem ZiT (xs:List D) (m:Nat) (h:m≤xs.length):slice (.list xs) .none (.int (m:Nat)) = .ok (.list (xs.take m)):=by
 rw [ZhK,ZfS h];rfl
theorem ZiU (xs:List D) (m:Nat) (h:m≤xs.length):slice (.list xs) (.int (m:Nat)) .none = .ok (.list (xs.drop m)):=by
 have e:clip xs.length (m:Nat)=m:=ZfS h
 rw [ZfR,e]
 unfold cut
 rw [List.take_of_length_le (Nat.le_of_eq List.length_drop)]
theorem law3_true (zs:List Int):∃sl,callT real T3L 301 40 [.val (.list (zs.map .int))] = .ok (.ret (.bool true),sl):=by
 have B:=Zcc
 rw [Zip (r:=300) B.f40 rfl (by decide)]
 have hlen:(((zs.map D.int).length:Nat):Int)=zs.length:=by simp
 by_cases h20:zs.length < 20
 ·refine ⟨[.val (.list (zs.map .int))],?_⟩
  simp (disch:=first | decide | assumption | lia) only [c_law,X_k,Zo,P_bi,Zg,Zb,Zs,ZG,Zv,Za,c_lt,Zay,ZgX,Zd,Zr,ZY,Zi,Ze,Zc,Zq,zc8,zc9,zc16,zc17,hlen,List.take]
 ·obtain ⟨s,hs⟩:∃s:Nat→Int,∀i,s i=zs.getD i 0:=⟨_,fun i=>rfl⟩
  have hI:∀i:Nat,i < 20→index (.list (zs.map .int)) (.int (i:Nat)) = .ok (.int (s i)):=by
   intro i hi
   rw [Zbt (by simp;lia),hs]
   simp [List.getD,List.getElem?_eq_getElem (by lia:i < zs.length)]
  have i0:index (.list (zs.map .int)) (.int 0) = .ok (.int (s 0)):=hI 0 (by exact Nat.succ_pos _)
  have i1:index (.list (zs.map .int)) (.int 1) = .ok (.int (s 1)):=hI 1 (by exact Nat.le_add_left _ _)
  have i2:index (.list (zs.map .int)) (.int 2) = .ok (.int (s 2)):=hI 2 (by exact Nat.le_add_left _ _)
  have i3:index (.list (zs.map .int)) (.int 3) = .ok (.int (s 3)):=hI 3 (by exact Nat.le_add_left _ _)
  have i4:index (.list (zs.map .int)) (.int 4) = .ok (.int (s 4)):=hI 4 (by exact Nat.le_add_left _ _)
  have i5:index (.list (zs.map .int)) (.int 5) = .ok (.int (s 5)):=hI 5 (by exact Nat.le_add_left _ _)
  have i6:index (.list (zs.map .int)) (.int 6) = .ok (.int (s 6)):=hI 6 (by exact Nat.le_add_left _ _)
  have i7:index (.list (zs.map .int)) (.int 7) = .ok (.int (s 7)):=hI 7 (by exact Nat.le_add_left _ _)
  have i8:index (.list (zs.map .int)) (.int 8) = .ok (.int (s 8)):=hI 8 (by exact Nat.le_add_left _ _)
  have i9:index (.list (zs.map .int)) (.int 9) = .ok (.int (s 9)):=hI 9 (by exact Nat.le_add_left _ _)
  have i10:index (.list (zs.map .int)) (.int 10) = .ok (.int (s 10)):=hI 10 (by exact Nat.le_add_left _ _)
  have i11:index (.list (zs.map .int)) (.int 11) = .ok (.int (s 11)):=hI 11 (by exact Nat.le_add_left _ _)
  have i12:index (.list (zs.map .int)) (.int 12) = .ok (.int (s 12)):=hI 12 (by exact Nat.le_add_left _ _)
  have i13:index (.list (zs.map .int)) (.int 13) = .ok (.int (s 13)):=hI 13 (by exact Nat.le_add_left _ _)
  have i14:index (.list (zs.map .int)) (.int 14) = .ok (.int (s 14)):=hI 14 (by exact Nat.le_add_left _ _)
  have i15:index (.list (zs.map .int)) (.int 15) = .ok (.int (s 15)):=hI 15 (by exact Nat.le_add_left _ _)
  have i16:index (.list (zs.map .int)) (.int 16) = .ok (.int (s 16)):=hI 16 (by exact Nat.le_add_left _ _)
  have i17:index (.list (zs.map .int)) (.int 17) = .ok (.int (s 17)):=hI 17 (by exact Nat.le_add_left _ _)
  have i18:index (.list (zs.map .int)) (.int 18) = .ok (.int (s 18)):=hI 18 (by exact Nat.le_add_left _ _)
  have i19:index (.list (zs.map .int)) (.int 19) = .ok (.int (s 19)):=hI 19 (by exact Nat.lt_succ_self _)
  clear hI
  refine steps3 s (.val (.list (zs.map .int))) fun gs w t3 t4 t5 t6 t7 t8 t9 t10 t11 t12 t13 t14 hIts hM hW hfe=> ?_
  have hb:=hIts.byt
  have hnm:=hIts.num
  have hgrp:=ZiP (r:=297) sSeq 48 hIts (by exact Nat.le_add_left _ _) (by exact Nat.le_add_left _ _)
  simp only [Nat.reduceAdd,show oneB 48 = [48] from rfl] at hgrp
  have hG:=Zjt hIts (by exact Nat.le_add_left _ _) (by lia)
  have hI1:=ZiQ sSeq 48 hIts hG
  have hgl:(grpG sSeq 48 gs).b.length≤7020:=by have:=hI1.byt;simpa [bytesG] using this
  have hgn:(grpG sSeq 48 gs).ns.length≤7020:=by have:=hI1.nod;simpa using this
  have hgk:(grpG sSeq 48 gs).k≤4:=(hI1.all _ (List.mem_singleton.mpr rfl)).2.1
  have hk0:0 < (grpG sSeq 48 gs).k:=Nat.succ_pos _
  have hholds:=ZlI hG (by exact Nat.lt_of_lt_of_le (by assumption) (by decide)) (by exact Nat.le_trans (by assumption) (by decide))
  obtain ⟨p,hp⟩:∃p:Nat,s 19 % ((gs.length:Nat)+1:Int)=(p:Nat):=⟨(s 19 % ((gs.length:Nat)+1:Int)).toNat,by have:=Int.emod_nonneg (s 19) (by lia:((gs.length:Nat)+1:Int)≠0);lia⟩
  have hple:p≤gs.length:=by have:=Int.emod_lt_of_pos (s 19) (by simp:(0:Int) < ((gs.length:Nat)+1:Int));lia
  have hbent:=ZoP hIts hW (by exact Nat.le_add_left _ _) (by exact Nat.le_add_left _ _) (by lia) p
  have hf:=fun s0 s1 s2 s3 s4 s5 s6 s7 s8 s9 s10 s11 s12 s13 s14 s15 s16 s17 s18 s19 s20 s21=>Zek (T:=T3L) (r:=300) 21 2 (fun g=> .bytes g.b) (fun g=>rfl) [s0,s1,s2,s3,s4,s5,s6,s7,s8,s9,s10,s11,s12,s13,s14,s15,s16,s17,s18,s19,s20,s21] (fun d=>rfl) gs [] (by simp;exact Nat.le_trans (by assumption) (by decide))
  simp only [List.nil_append] at hf
  have hlg:builtin .len [.list (gs.map itD)] = .ok (.int (gs.length:Nat)):=by rw [Zay,List.length_map]
  have hmod:binop .Mod (.int (s 19)) (.int ((gs.length:Nat)+1:Int)) = .ok (.int (p:Nat)):=by rw [Zbx (by simp),hp]
  have st:=ZiT (gs.map fun g=>D.bytes g.b) p (by rw [List.length_map];exact hple)
  have sd:=ZiU (gs.map fun g=>D.bytes g.b) p (by rw [List.length_map];exact hple)
  rw [←List.map_take] at st
  rw [←List.map_drop] at sd
  have hlt:(gs.take p).length≤800:=by rw [List.length_take];lia
  have hld:(gs.drop p).length≤800:=by rw [List.length_drop];lia
  have hwl:=hW.2.1
  have hbl:(bytesG (gs.take p)++(w++bytesG (gs.drop p))).length≤8000:=by
   have:(bytesG gs).length=(bytesG (gs.take p)).length+(bytesG (gs.drop p)).length:=by
    rw [←List.length_append,←Zfn,List.take_append_drop]
   simp only [List.length_append];lia
  have ca:binop .Add (.list ((gs.take p).map fun g=>D.bytes g.b)) (.list [.bytes w]) = .ok (.list (((gs.take p).map fun g=>D.bytes g.b) ++ [.bytes w])):=ZdV (by simp only [List.length_map,List.length_cons,List.length_nil,SZ];exact Nat.lt_of_le_of_lt (by assumption) (by decide))
  have cb:binop .Add (.list (((gs.take p).map fun g=>D.bytes g.b) ++ [.bytes w])) (.list ((gs.drop p).map fun g=>D.bytes g.b)) = .ok (.list ((((gs.take p).map fun g=>D.bytes g.b) ++ [.bytes w])++((gs.drop p).map fun g=>D.bytes g.b))):=ZdV (by simp only [List.length_append,List.length_map,List.length_cons,List.length_nil,SZ];lia)
  have hj:builtin .join [.list ((((gs.take p).map fun g=>D.bytes g.b) ++ [.bytes w])++((gs.drop p).map fun g=>D.bytes g.b))] = .ok (.bytes (bytesG (gs.take p)++(w++bytesG (gs.drop p)))):=by
   have e1:((((gs.take p).map fun g=>D.bytes g.b) ++ [.bytes w])++((gs.drop p).map fun g=>D.bytes g.b))=(((gs.take p).map (·.b) ++ [w])++(gs.drop p).map (·.b)).map D.bytes:=by simp only [List.map_append,List.map_map,List.map_cons,List.map_nil];rfl
   have e2:(((gs.take p).map (·.b) ++ [w])++(gs.drop p).map (·.b)).flatten=bytesG (gs.take p)++(w++bytesG (gs.drop p)):=by simp [bytesG]
   rw [e1,←e2]
   exact Zge (by rw [e2];exact Nat.le_trans (by assumption) (by decide)) (by simp only [List.length_append,List.length_map,List.length_cons,List.length_nil];lia)
  have htl:=Zgh B (T:=T3L) (r:=299) [48] (bytesG (gs.take p)++(w++bytesG (gs.drop p))) (by simp) (by exact Nat.lt_of_le_of_lt (by assumption) (by decide))
  rw [show oneB 48 = [48] from rfl] at hbent
  generalize bytesG (gs.take p)++(w++bytesG (gs.drop p))=BF at *
  generalize tlv [48] BF=BT at *
  generalize (((gs.take p).map fun g=>D.bytes g.b) ++ [.bytes w])++((gs.drop p).map fun g=>D.bytes g.b)=L3 at *
  generalize ((gs.take p).map fun g=>D.bytes g.b) ++ [.bytes w]=L2 at *
  generalize ((gs.take p).map fun g=>D.bytes g.b)=L1 at *
  generalize ((gs.drop p).map fun g=>D.bytes g.b)=L1' at *
  have j2:index (itD (grpG sSeq 48 gs)) (.int 2) = .ok (.bytes (grpG sSeq 48 gs).b):=rfl
  have j3:index (itD (grpG sSeq 48 gs)) (.int 3) = .ok (.int ((grpG sSeq 48 gs).k:Nat)):=rfl
  have hpos:0 < (grpG sSeq 48 gs).b.length:=hG.dc.pos
  have hen:=hG.en
  have hdc:=hG.dc
  have hct:=hG.ct
  generalize itD (grpG sSeq 48 gs)=I at *
  generalize (grpG sSeq 48 gs).b=EB at *
  generalize (grpG sSeq 48 gs).k=EK at *
  generalize (grpG sSeq 48 gs).d=ED at *
  clear hI1 hG
  have hlo:=ZjM B.toBase (r:=278 - 2*EK) hdc (EK - 1) (by lia)
  rw [show 278 - 2*EK+21+2*EK=299 by lia,show ((EK - 1:Nat):Int)=(EK:Nat) - 1 by lia] at hlo
  have n1:=c3no Zhr hlo
  have hc0:=Int.emod_nonneg (s 18) (by lia:(EB.length:Int)≠0)
  have hc1:=Int.emod_lt_of_pos (s 18) (by exact Int.ofNat_lt.mpr (by assumption):(0:Int) < EB.length)
  have hct:=hct 278 (s 18 % (EB.length:Nat)).toNat 9 (by lia)
  have n2:=c3no Zhr (Zej B.toBase (r:=297) hct)
  have hsl:=ZiH EB hc0 (by exact Int.le_of_lt (by assumption))
  have hlg2:=ZiF B.toBase (r:=278 - 2*EK) hdc [5,0] (by simp) 9 (by exact Nat.le_trans (by assumption) (by decide))
  rw [show 278 - 2*EK+21+2*EK=299 by lia] at hlg2
  have n3:=c3no Zhr hlg2
  have hcat:binop .Add (.bytes EB) (.bytes [5,0]) = .ok (.bytes (EB ++ [5,0])):=ZbS (by simp [SZ];exact Nat.le_trans (by assumption) (by decide))
  have n4:=c3no Zhr hbent
  have hmd:binop .Mod (.int (s 18)) (.int (EB.length:Nat)) = .ok (.int (s 18 % (EB.length:Nat))):=Zbx (by exact Int.ofNat_lt.mpr (by assumption))
  generalize EB ++ [5,0]=EB2 at *
  generalize EB.take (s 18 % (EB.length:Nat)).toNat=EB1 at *
  generalize s 18 % (EB.length:Nat)=CM' at *
  obtain ⟨a,b,hf2⟩:=no_fe (fun _=>True) (.val (.list (zs.map .int))) (.val (.list (gs.map itD))) (.val (.bytes w)) t3 t4 t5 t6 t7 t8 t9 (.val (.bytes EB)) t11 t12 t13 (.val (.list (gs.map fun g=>D.bytes g.b))) (.val I) (.val (.int (p:Nat))) (.val (.bytes BT)) [(.bytes EB,.int ((EK:Nat) - 1)),(.bytes EB1,.int 9),(.bytes EB2,.int 9),(.bytes BT,.int 9)] .un .un (by
   intro q hq
   simp only [List.mem_cons,List.not_mem_nil,or_false] at hq
   rcases hq with rfl | rfl | rfl | rfl
   ·exact n1
   ·exact n2
   ·exact n3
   ·exact n4)
  simp only [List.map_cons,List.map_nil] at hf2
  simp only [Nat.reduceAdd] at htl
  generalize (gs.map fun g=>D.bytes g.b)=PS at *
  generalize hGS:gs.map itD=GS at *
  generalize hL:zs.map D.int=L at *
  refine ⟨[.val (.list L)],?_⟩
  simp (disch:=first | decide | assumption | lia) only [c_law,X_k,Zo,ZC,Zx,ZaF,ZZ,Zak,P_bi,Zdq,Zp,Zg,Zb,ZdR,Zs,Zhw,Zdx,ZcR,Zu,ZG,ZA,Zv,ZgN,ZK,Za,ZV,ZW,ZaR,c_lt,Zj,ZgX,Zd,Zae,ZcS,Zr,Zh,Zz,Zy,Zdy,Zaa,Zaf,Zi,ZbY,Ze,Zf,Zk,Zl,Zc,Zq,zc4,zc8,zc9,zc16,zc17,Zay L,hlg,hlen,i0,i1,i2,i3,i4,i5,i6,i7,i8,i9,i10,i11,i12,i13,i14,i15,i16,i17,i18,i19,itemsOf,hfe,hgrp,hholds,j2,j3,hf,hmod,st,sd,ca,cb,hj,htl,hmd,hsl,hcat,hf2,List.take]
end DK.Internal.B
end
section
set_option backward.match.sparseCases false
set_option genSizeOf false
set_option genCtorIdx false
namespace DK.Internal
open PySem PyProof.Rows
set_option genSizeOf false
set_option genInjectivity false
noncomputable def Ty.name:Ty→String
 | .tBytes=> "bytes" | .tTuple=> "tuple" | .tList=> "list" | .tInt=> "int" | .tBool=> "bool" | .tStr=> "str" | .tNone=> "NoneType"
noncomputable def fas (l:List Env):List Addr:=l.filterMap (·.frame)
structure Def where
 name:Str
 ps:List Str
 names:List (Str × NameKind)
 body:List Stmt
structure Prg where
 prog:Program
 w:World
 T:Text
 defs:List Def
 fns:List (Str × Nat)
 gls:List (Str × Nat)
 io:List (Str × List Bool)
 gh:Heap
 mg:Str→Option Value
 mb:Str→Option Value
structure Cx where
 P:Prg
 r:Nat
 A:Around
 base:Heap
 l:List Env
noncomputable abbrev Cx.M (Y:Cx):Model:=model Y.P.prog Y.P.w
abbrev Zm:=Addr→Option Obj
def Sub (Z:Zm) (h:Heap):Prop:=∀b o,Z b=some o→h.get? b=some o
noncomputable abbrev lstO (vs:List Value) (n:Nat):Obj:={ cls:= .type "list",dict:=none,data:= .seq vs.toArray n,slots:=#[] }
noncomputable abbrev tupO (vs:List Value) (n:Nat):Obj:={ cls:= .type "tuple",dict:=none,data:= .seq vs.toArray n,slots:=#[] }
noncomputable def Flat (v:Value):D→Prop
 | .int i=>∃t,v = .int i t
 | .str s=>∃x t,v = .str x t∧x.cps.size≤SZ∧x.cps.toList=s
 | _=>False
noncomputable def FlatO:Option Value→Option D→Prop
 | none,none=>True
 | some v,some d=>Flat v d
 | _,_=>False
structure DictAt (P:Prg) (Z:Zm) {κ : Type} [DecidableEq κ] (kd:PySem.KeyKind P.prog P.w κ) (key : κ→D) (isK:D→Bool) (a:Addr) (ks vs:List D):Prop where
 sys:(a == sysModules)=false
 ne:ks≠[]
 len:ks.length=vs.length
 all:ks.all isK=true
 at_:∃f,(∀h,Sub Z h→h.MapOf kd a f)∧∀k,FlatO (f k) (dget (key k) ks vs)
section
variable (P:Prg) (Z:Zm)
mutual
noncomputable def Rep:D→Value→Prop
 | .none,v=>v = .none
 | .bool b,v=>v = .bool b
 | .int i,v=>∃t,v = .int i t
 | .str s,v=>∃x t,v = .str x t∧x.cps.size≤SZ∧x.cps.toList=s
 | .bytes b,v=>∃x t,v = .bytes x t∧x.size≤SZ∧x.toList=b
 | .typ t,v=>v = .type t.name
 | .tuple xs,v=>∃a vs n,v = .ref a∧Z a=some (tupO vs n)∧vs.length≤SZ∧Reps xs vs
 | .list xs,v=>∃a vs n,v = .ref a∧Z a=some (lstO vs n)∧vs.length≤SZ∧Reps xs vs
 | .dict ks vs,v=>∃a,v = .ref a∧(DictAt P Z (strKind P.prog P.w) (fun s=> .str s.cps.toList) isStr a ks vs∨DictAt P Z (intKind P.prog P.w) .int isInt a ks vs)
noncomputable def Reps:List D→List Value→Prop
 | [],vs=>vs = []
 | d::ds,vs=>∃v us,vs=v::us∧Rep d v∧Reps ds us
end
end
section
variable {P:Prg} {Z Z':Zm}
def Zle (Z Z':Zm):Prop:=∀b o,Z b=some o→Z' b=some o
theorem DictAt.mono {κ : Type} [DecidableEq κ] {kd:PySem.KeyKind P.prog P.w κ} {key isK a ks vs} (x:DictAt P Z kd key isK a ks vs) (k:Zle Z Z'):DictAt P Z' kd key isK a ks vs:=
 ⟨x.sys,x.ne,x.len,x.all,x.at_.elim fun f y=>⟨f,fun h q=>y.1 h fun b o e=>q b o (k b o e),y.2⟩⟩
mutual
theorem Rep.mono (k:Zle Z Z') (d:D):∀{v:Value},Rep P Z d v→Rep P Z' d v:=by
 cases d with
 | tuple xs=>exact fun r=>by obtain ⟨a,vs,n,e,h,z,q⟩:=r;exact ⟨a,vs,n,e,k _ _ h,z,Reps.mono k xs q⟩
 | list xs=>exact fun r=>by obtain ⟨a,vs,n,e,h,z,q⟩:=r;exact ⟨a,vs,n,e,k _ _ h,z,Reps.mono k xs q⟩
 | dict ks vs=>exact fun r=>by obtain ⟨a,e,q⟩:=r;exact ⟨a,e,q.imp (·.mono k) (·.mono k)⟩
 | _=>exact fun r=>r
theorem Reps.mono (k:Zle Z Z') (ds:List D):∀{vs:List Value},Reps P Z ds vs→Reps P Z' ds vs:=by
 cases ds with
 | nil=>exact fun r=>r
 | cons d ds=>exact fun r=>by obtain ⟨v,us,e,q,qs⟩:=r;exact ⟨v,us,e,Rep.mono k d q,Reps.mono k ds qs⟩
end
theorem Rep.up {d:D} {v:Value} (r:Rep P Z d v) (k:Zle Z Z'):Rep P Z' d v:=Rep.mono k d r
theorem Reps.up {d:List D} {v:List Value} (r:Reps P Z d v) (k:Zle Z Z'):Reps P Z' d v:=Reps.mono k d r
theorem Reps.ind {mo:List D→List Value→Prop} (h0:mo [] []) (h1:∀d v ds vs,Rep P Z d v→Reps P Z ds vs→mo ds vs→mo (d::ds) (v::vs)) (ds:List D):∀{vs:List Value},Reps P Z ds vs→mo ds vs:=by
 induction ds with
 | nil=>intro vs r;cases (show vs = [] from r);exact h0
 | cons d ds ih=>intro vs r;obtain ⟨v,us,rfl,a,q⟩:=r;exact h1 d v ds us a q (ih q)
theorem Reps.nil:Reps P Z [] []:=rfl
theorem Reps.cons {d:D} {ds:List D} {v:Value} {vs:List Value} (a:Rep P Z d v) (r:Reps P Z ds vs):Reps P Z (d::ds) (v::vs):=⟨v,vs,rfl,a,r⟩
theorem Reps.length {ds:List D} {vs:List Value} (r:Reps P Z ds vs):vs.length=ds.length:=
 r.ind (mo:=fun ds vs=>vs.length=ds.length) rfl fun _ _ _ _ _ _ e=>congrArg (· + 1) e
theorem Reps.append {ds es:List D} {vs ws:List Value} (r:Reps P Z ds vs) (q:Reps P Z es ws):Reps P Z (ds++es) (vs++ws):=
 r.ind (mo:=fun ds vs=>Reps P Z (ds++es) (vs++ws)) q fun _ _ _ _ a _ e=> .cons a e
theorem Reps.get {ds:List D} {vs:List Value} (r:Reps P Z ds vs):∀{j:Nat} {d:D},ds[j]?=some d→∃v,vs[j]?=some v∧Rep P Z d v:=
 r.ind (mo:=fun ds vs=>∀{j:Nat} {d:D},ds[j]?=some d→∃v,vs[j]?=some v∧Rep P Z d v) (fun {_ _} e=>nomatch e) fun d v ds vs a _ e {j _} h=>by
  cases j with
  | zero=>cases h;exact ⟨v,rfl,a⟩
  | succ j=>exact e h
theorem Reps.set {ds:List D} {vs:List Value} (r:Reps P Z ds vs):∀(j:Nat) {d:D} {v:Value},Rep P Z d v→Reps P Z (ds.set j d) (vs.set j v):=
 r.ind (mo:=fun ds vs=>∀(j:Nat) {d:D} {v:Value},Rep P Z d v→Reps P Z (ds.set j d) (vs.set j v)) (fun _ {_ _} _=>rfl) fun _ _ _ _ a q e j {_ _} h=>by
  cases j with
  | zero=>exact .cons h q
  | succ j=>exact .cons a (e j h)
theorem Reps.take {ds:List D} {vs:List Value} (r:Reps P Z ds vs):∀n:Nat,Reps P Z (ds.take n) (vs.take n):=
 r.ind (mo:=fun ds vs=>∀n:Nat,Reps P Z (ds.take n) (vs.take n)) (fun n=>by rw [List.take_nil,List.take_nil];rfl) fun _ _ _ _ a q e n=>by
  cases n with
  | zero=>rfl
  | succ n=>exact .cons a (e n)
theorem Reps.drop {ds:List D} {vs:List Value} (r:Reps P Z ds vs):∀n:Nat,Reps P Z (ds.drop n) (vs.drop n):=
 r.ind (mo:=fun ds vs=>∀n:Nat,Reps P Z (ds.drop n) (vs.drop n)) (fun n=>by rw [List.drop_nil,List.drop_nil];rfl) fun _ _ _ _ a q e n=>by
  cases n with
  | zero=>exact .cons a q
  | succ n=>exact e n
theorem Reps.replicate {ds:List D} {vs:List Value} (r:Reps P Z ds vs) (n:Nat):Reps P Z (List.replicate n ds).flatten (List.replicate n vs).flatten:=by
 induction n with
 | zero=>rfl
 | succ n ih=>rw [List.replicate_succ,List.replicate_succ];exact r.append ih
theorem Reps.reverse {ds:List D} {vs:List Value} (r:Reps P Z ds vs):Reps P Z ds.reverse vs.reverse:=
 r.ind (mo:=fun ds vs=>Reps P Z ds.reverse vs.reverse) rfl fun _ _ _ _ a _ e=>by rw [List.reverse_cons,List.reverse_cons];exact e.append (.cons a rfl)
end
structure KS (W:Addr→Prop) (Ls:List Addr) (h h':Heap):Prop where
 keep:∀b o,h.get? b=some o→¬W b→b∉Ls→h'.get? b=some o
 fr:∀b o,h.get? b=some o→¬W b→b∈Ls→∃sl,h'.get? b=some { o with slots:=sl }
 alive:∀b o,h.get? b=some o→W b→b∈Ls→(∀vs,o.data≠.fields vs)→∃o',h'.get? b=some o'∧∀vs,o'.data≠.fields vs
abbrev No:Addr→Prop:=fun _=>False
section
variable {W W':Addr→Prop} {Ls:List Addr} {h h' h₁ h₂ h₃:Heap}
theorem KS.stay (x:KS W Ls h h') {b o} (e:h.get? b=some o) (nw:¬W b):∃o',h'.get? b=some o'∧o'.data=o.data:=by
 by_cases m:b∈Ls
 ·obtain ⟨sl,q⟩:=x.fr b o e nw m;exact ⟨_,q,rfl⟩
 ·exact ⟨o,x.keep b o e nw m,rfl⟩
theorem KS.gone (x:KS W Ls h h') {b} (e:h'.get? b=none):W b∨h.get? b=none:=by
 by_cases w:W b
 ·exact .inl w
 ·cases q:h.get? b with
  | none=>exact .inr rfl
  | some o=>obtain ⟨o',e',_⟩:=x.stay q w;rw [e] at e';cases e'
theorem KS.trans (x:KS W Ls h₁ h₂) (y:KS W' Ls h₂ h₃) (n:∀b,W' b→W b∨h₁.get? b=none):KS W Ls h₁ h₃:=by
 have no:∀b o,h₁.get? b=some o→¬W b→¬W' b:=fun b o e nw q=>(n b q).elim nw fun z=>by rw [z] at e;cases e
 refine ⟨fun b o e nw m=>y.keep b o (x.keep b o e nw m) (no b o e nw) m,fun b o e nw m=> ?_,fun b o e q m nf=> ?_⟩
 ·obtain ⟨sl,e'⟩:=x.fr b o e nw m
  obtain ⟨sl',e''⟩:=y.fr b _ e' (no b o e nw) m
  exact ⟨sl',e''⟩
 ·obtain ⟨o',e',nf'⟩:=x.alive b o e q m nf
  by_cases q':W' b
  ·exact y.alive b o' e' q' m nf'
  ·obtain ⟨sl',e''⟩:=y.fr b _ e' q' m;exact ⟨_,e'',nf'⟩
theorem KS.of_keeps (k:∀b o,h.get? b=some o→h'.get? b=some o):KS W Ls h h':=
 ⟨fun b o e _ _=>k b o e,fun b o e _ _=>⟨o.slots,k b o e⟩,fun b o e _ _ nf=>⟨o,k b o e,nf⟩⟩
end
structure Go (W:Addr→Prop) (Y:Cx) (Z:Zm) (s:Shared) (Z':Zm) (s':Shared):Prop where
 ks:KS W (fas Y.l) s.heap s'.heap
 le:Zle Z Z'
 new:∀b,Z' b≠none→Z b≠none∨W b∨s.heap.get? b=none
 sub:Sub Z' s'.heap
 same:s'={ s with heap:=s'.heap,toks:=s'.toks }
abbrev Nx:=Go No
section
variable {Y:Cx} {Z Z' Z₁ Z₂:Zm} {s s' s₁ s₂:Shared} {W W':Addr→Prop}
theorem Go.trans (x:Go W Y Z s Z₁ s₁) (y:Go W' Y Z₁ s₁ Z₂ s₂) (n:∀b,W' b→W b∨s.heap.get? b=none):Go W Y Z s Z₂ s₂ where
 ks:=x.ks.trans y.ks n
 le b o e:=y.le b o (x.le b o e)
 new b e:=(y.new b e).elim (x.new b) fun q=> .inr (q.elim (n b) x.ks.gone)
 sub:=y.sub
 same:=y.same.trans (by rw [x.same])
theorem Go.nx (x:Go W Y Z s Z₁ s₁) (y:Nx Y Z₁ s₁ Z₂ s₂):Go W Y Z s Z₂ s₂:=x.trans y fun _ q=>q.elim
theorem Nx.go (x:Nx Y Z s Z₁ s₁) (y:Go W Y Z₁ s₁ Z₂ s₂):Go W Y Z s Z₂ s₂:=
 Go.trans (W:=W) ⟨⟨fun b o e _ m=>x.ks.keep b o e id m,fun b o e _ m=>x.ks.fr b o e id m,fun b o e _ m nf=>let ⟨sl,q⟩:=x.ks.fr b o e id m;⟨_,q,nf⟩⟩,x.le,fun b e=>(x.new b e).imp id (Or.imp False.elim id),x.sub,x.same⟩ y fun _ q=> .inl q
theorem Go.refl (h:Sub Z s.heap) (tk:Nat):Go W Y Z s Z { s with toks:=tk }:=⟨.of_keeps fun _ _ e=>e,fun _ _ e=>e,fun _ e=> .inl e,h,rfl⟩
theorem Go.self (h:Sub Z s.heap):Go W Y Z s Z s:=⟨.of_keeps fun _ _ e=>e,fun _ _ e=>e,fun _ e=> .inl e,h,rfl⟩
theorem Go.keeps (h:Sub Z s.heap) {h':Heap} (k:∀b o,s.heap.get? b=some o→h'.get? b=some o) (tk:Nat):Go W Y Z s Z { s with heap:=h',toks:=tk }:=
 ⟨.of_keeps k,fun _ _ e=>e,fun _ e=> .inl e,fun b o e=>k b o (h b o e),rfl⟩
theorem Go.zle (x:Go W Y Z s Z' s'):Zle Z Z':=x.le
noncomputable def Zput (Z:Zm) (a:Addr) (o:Obj):Zm:=fun b=>if b=a then some o else Z b
theorem Zps {a:Addr} {o:Obj} (h:Z a=none):Zle Z (Zput Z a o):=fun b o' e=>by
 unfold Zput;rw [if_neg (fun q=>by rw [q,h] at e;cases e)];exact e
theorem ZoX {a:Addr} {o:Obj}:Zput Z a o a=some o:=if_pos rfl
theorem Sub.fresh (h:Sub Z s.heap) {a:Addr} (e:s.heap.get? a=none):Z a=none:=by
 cases q:Z a with
 | none=>rfl
 | some o=>rw [h a o q] at e;cases e
theorem Sub.put {h:Heap} {a:Addr} {o:Obj} (x:Sub Z h) (e:h.get? a=some o):Sub (Zput Z a o) h:=fun b o' q=>by
 unfold Zput at q
 split at q
 ·rename_i z;cases q;rw [z];exact e
 ·exact x b o' q
theorem Go.put (h:Sub Z s.heap) {h':Heap} {a:Addr} {o:Obj} (k:∀b o,s.heap.get? b=some o→h'.get? b=some o) (fr:s.heap.get? a=none) (e:h'.get? a=some o) (tk:Nat):Nx Y Z s (Zput Z a o) { s with heap:=h',toks:=tk } where
 ks:= .of_keeps k
 le:=Zps (h.fresh fr)
 new b e:=by
  by_cases q:b=a
  ·exact .inr (.inr (q ▸ fr))
  ·exact .inl (by rwa [Zput,if_neg q] at e)
 sub:=Sub.put (fun b o e=>k b o (h b o e)) e
 same:=rfl
theorem Go.push (h:Sub Z s.heap) {o:Obj} (ho:o.isFreed=false) (tk:Nat):Nx Y Z s (Zput Z s.heap.objs.size o) { s with heap:=s.heap.push o,toks:=tk }:=
 .put h (fun _ _ e=>Heap.get?_push_of_some _ e) (Heap.get?_none_of_le (Nat.le_refl _)) (Heap.get?_push_size _ ho) tk
end
end DK.Internal
end
section
set_option backward.match.sparseCases false
set_option genSizeOf false
set_option genCtorIdx false
namespace DK.Internal
open PySem PyProof.Rows
abbrev VE:Value:= .type "ValueError"
def ExcNew (base:Heap) (l:List Env) (e:Addr) (a0:Value) (h:Heap):Prop:=
 base.StaysIn h∧base.get? e=none∧h.FunFrames base l∧∃oe vs,h.get? e=some oe∧oe.cls=VE∧oe.data = .fields vs∧vs[0]?=some a0∧vs[1]?=some .none
def Exc (base:Heap) (l:List Env) (e:Addr) (h:Heap):Prop:=
 ∃a0,ExcNew base l e a0 h∨Heap.FlyingW base l e VE a0 h∨∃env rest L,l=env::rest∧env.frame=some L∧Heap.HeldW base l e VE a0 L h
def HeldAt (base:Heap) (env:Env) (outer:List Env) (e:Addr) (h:Heap):Prop:=∃a0 L,env.frame=some L∧Heap.HeldW base (env::outer) e VE a0 L h
def Fly (base:Heap) (l:List Env) (e:Addr) (h:Heap):Prop:=∃a0,Heap.FlyingW base l e VE a0 h
theorem Fly.exc {base:Heap} {l:List Env} {e:Addr} {h:Heap} (x:Fly base l e h):Exc base l e h:=x.imp fun _ y=> .inr (.inl y)
theorem HeldAt.exc {base:Heap} {env:Env} {outer:List Env} {e:Addr} {h:Heap} (x:HeldAt base env outer e h):Exc base (env::outer) e h:=
 x.imp fun _ y=>y.elim fun L z=> .inr (.inr ⟨env,outer,L,rfl,z.1,z.2⟩)
theorem Exc.of_new {base:Heap} {l:List Env} {e:Addr} {h h':Heap} (hb:base.StaysIn h) (hl:h.FunFrames base l) (x:Heap.NewExc h h' e "ValueError"):Exc base l e h':=by
 obtain ⟨ob,t,he,hc,hd⟩:=x.there
 refine ⟨t,.inl ⟨fun b o q=>x.keeps b o (hb b o q),?_,hl.of_keeps fun b o q _=>⟨o,x.keeps b o q,rfl⟩,ob,_,he,hc,hd,rfl,rfl⟩⟩
 cases hq:base.get? e with
 | none=>rfl
 | some o'=>have:=hb e o' hq;rw [x.new] at this;cases this
section
variable {M:Model} {A:Around} {E:Value→Shared→Prop} {s:Shared} {base:Heap} {env:Env} {outer:List Env} {L e:Addr} {Q:Unit→Shared→Prop}
theorem ZrF (hfr:A.frames=some (env::outer)) (hf:env.frame=some L) (X:Exc base (env::outer) e s.heap)
  (hQ:∀h',HeldAt base env outer e h'→s.heap.UpToSlots h'→Q () { s with heap:=h' }):wpAny M A (noteFrame (.ref e) env) Q E s:=by
 obtain ⟨a0,X | X | ⟨env',rest,L',hl,hf',X⟩⟩:=X
 ·obtain ⟨k1,k2,k3,oe,vs,he,hc,hd,h0,h1⟩:=X
  unfold noteFrame
  simp only [hf]
  refine wpAny_bind (wpAny_field he hd h1 ?_)
  rw [if_neg (by decide)]
  refine wpAny_entryW hfr k3 hf he k1 k2 hd (Array.getElem?_eq_some_iff.mp h1).1 h0 fun h' N=> ?_
  obtain ⟨n1,n2,n3,n4⟩:=N
  exact hQ h' ⟨a0,L,hf,n1,k2,n2,hc ▸ n3⟩ n4
 ·exact wpAny_looks_onW hfr hf X fun h' H U=>hQ h' ⟨a0,L,hf,H⟩ U
 ·injection hl with e1 e2
  subst e1;subst e2
  have:L=L':=Option.some.inj (hf.symm.trans hf')
  subst this
  exact wpAny_noteFrame_againW hf X.2.2.2 (hQ _ ⟨a0,L,hf,X⟩ (.refl _))
theorem ZqS (X:HeldAt base env outer e s.heap) (hQ:∀h',Fly base (env::outer) e h'→s.heap.UpToSlots h'→Q () { s with heap:=h' }):wpAny M A (setFlight (.ref e) none) Q E s:=by
 obtain ⟨a0,L,hf,X⟩:=X
 exact wpAny_landsW X fun h' F U=>hQ h' ⟨a0,F⟩ U
theorem ZsJ {l:List Env} (X:Fly base l e s.heap) (hQ:∀h',Fly base l e h'→s.heap.UpToSlots h'→Q () { s with heap:=h' }):wpAny M A (setFlight (.ref e) none) Q E s:=by
 obtain ⟨a0,X⟩:=X
 exact lands_againW X fun h' F U=>hQ h' ⟨a0,F⟩ U
theorem Zsj (hfr:A.frames=some (env::outer)) (hf:env.frame=some L) (X:Exc base (env::outer) e s.heap)
  (hQ:∀h',Fly base outer e h'→s.heap.UpToSlots h'→Q () { s with heap:=h' }):wpAny M A (leaving env (.ref e)) Q E s:=by
 unfold leaving
 refine wpAny_bind (ZrF hfr hf X fun h₁ H U=> ?_)
 refine ZqS (s:={ s with heap:=h₁ }) H fun h₂ F U'=> ?_
 obtain ⟨a0,k1,k2,⟨_,_,k3⟩,k4⟩:=F
 exact hQ h₂ ⟨a0,k1,k2,k3,k4⟩ (U.trans U')
theorem Zro {msg:String} (X:HeldAt base env outer e s.heap) (hQ:∀h',HeldAt base env outer e h'→s.heap.UpToSlots h'→Q () { s with heap:=h' }) :
  wpAny M A (do
         if (←field (.ref e) 1) == .none then unsupported msg
         setFlight (.ref e) env.frame) Q E s:=by
 obtain ⟨a0,L,hf,k1,k2,k3,oe,vs,T,oT,ts,he,⟨hcls,h0⟩,hd,h1,hnT,hTe,hT,hdT,h3⟩:=X
 have hsz3:3 < ts.size:=(Array.getElem?_eq_some_iff.mp h3).1
 refine wpAny_bind (wpAny_field he hd h1 ?_)
 rw [if_neg (by simp)]
 have other:∀b,b≠T→(s.heap.update T (Obj.mapFields (·.setIfInBounds 3 ((some L:Option Addr).elim Value.none fun f=>rawInt f)))).get? b=s.heap.get? b:=fun b hb=>Heap.get?_update_other _ _ (Ne.symm hb)
 have noRecord:∀b o,s.heap.get? b=some o→(∀vs,o.data≠.fields vs)→b≠T:=fun b o hb hnf q=>by
  rw [q,hT] at hb;injection hb with hb;subst hb;exact hnf ts hdT
 unfold setFlight
 refine wpAny_bind (wpAny_field he hd h1 ?_)
 rw [if_pos (show (Value.ref T != Value.none)=true from by simp),hf]
 refine wpAny_setField hT hdT hsz3 (hQ _ ?_ fun b o hb hnf=>⟨o.slots,(other b (noRecord b o hb hnf)).trans hb⟩)
 refine ⟨a0,L,hf,fun b o hbo=>(other b fun q=>by rw [q,hnT] at hbo;cases hbo).trans (k1 b o hbo),k2,k3.of_keeps fun b o hb hnf=>⟨o,(other b (noRecord b o hb hnf)).trans hb,rfl⟩,?_⟩
 exact ⟨oe,vs,T,_,_,(other e (Ne.symm hTe)).trans he,⟨hcls,h0⟩,hd,h1,hnT,hTe,Heap.get?_update_self _ hT (Obj.isFreed_of_fields (Obj.data_mapFields hdT _)),Obj.data_mapFields hdT _,by simp [hsz3]⟩
end
theorem Exc.base {base B:Heap} {l:List Env} {e:Addr} {h:Heap} (k:base.StaysIn B) (X:Exc B l e h):Exc base l e h:=by
 have fresh:∀{b:Addr},B.get? b=none→base.get? b=none:=fun {b} q=>by
  cases z:base.get? b with
  | none=>rfl
  | some o=>have:=k b o z;rw [q] at this;cases this
 have ff:∀{l:List Env},h.FunFrames B l→h.FunFrames base l:=by
  intro l
  induction l with
  | nil=>intro _;trivial
  | cons env rest ih=>rintro ⟨hk,⟨L,o,hf,hn,ho,hd⟩,hr⟩;exact ⟨hk,⟨L,o,hf,fresh hn,ho,hd⟩,ih hr⟩
 obtain ⟨a0,X | X | ⟨env',rest,L',hl,hf',X⟩⟩:=X
 ·obtain ⟨k1,k2,k3,r⟩:=X
  exact ⟨a0,.inl ⟨fun b o q=>k1 b o (k b o q),fresh k2,ff k3,r⟩⟩
 ·obtain ⟨k1,k2,k3,oe,vs,T,oT,ts,a1,a2,a3,a4,a5,a6⟩:=X
  exact ⟨a0,.inr (.inl ⟨fun b o q=>k1 b o (k b o q),fresh k2,ff k3,oe,vs,T,oT,ts,a1,a2,a3,a4,fresh a5,a6⟩)⟩
 ·obtain ⟨k1,k2,k3,oe,vs,T,oT,ts,a1,a2,a3,a4,a5,a6⟩:=X
  exact ⟨a0,.inr (.inr ⟨env',rest,L',hl,hf',fun b o q=>k1 b o (k b o q),fresh k2,ff k3,oe,vs,T,oT,ts,a1,a2,a3,a4,fresh a5,a6⟩)⟩
structure Ex (W:Addr→Prop) (Y:Cx) (s:Shared) (x:Addr) (s':Shared):Prop where
 us:∀b o,s.heap.get? b=some o→¬W b→(∀vs,o.data≠.fields vs)→∃sl,s'.heap.get? b=some { o with slots:=sl }
 exc:Exc Y.base Y.l x s'.heap
 same:s'={ s with heap:=s'.heap,toks:=s'.toks }
noncomputable def K {α β:Type} (Y:Cx) (Z:Zm) (R:Zm→β→α→Prop) (o:Out β) (Q:α→Shared→Prop) (E:Value→Shared→Prop) (s:Shared):Prop:=
 match o with
 | .ok d=>∀v Z' s',Nx Y Z s Z' s'→R Z' d v→Q v s'
 | .exc=>∀x s',Ex No Y s x s'→E (.ref x) s'
 | .stuck=>False
section
variable {α α' β β':Type} {Y:Cx} {Z Z':Zm} {R:Zm→β→α→Prop} {R':Zm→β'→α'→Prop} {Q:α→Shared→Prop} {Q':α'→Shared→Prop} {E:Value→Shared→Prop} {s s':Shared} {o:Out β} {W W':Addr→Prop}
theorem Go.ex {x:Addr} (g:Go W Y Z s Z' s') {s₂:Shared} (e:Ex W' Y s' x s₂) (n:∀b,W' b→W b∨s.heap.get? b=none):Ex W Y s x s₂ where
 us b o h nw nf:=by
  have nw':¬W' b:=fun q=>(n b q).elim nw fun z=>by rw [z] at h;cases h
  by_cases m:b∈fas Y.l
  ·obtain ⟨sl,q⟩:=g.ks.fr b o h nw m
   obtain ⟨sl',q'⟩:=e.us b _ q nw' nf
   exact ⟨sl',q'⟩
  ·exact e.us b o (g.ks.keep b o h nw m) nw' nf
 exc:=e.exc
 same:=e.same.trans (by rw [g.same])
theorem K.go (k:K Y Z R o Q E s) (g:Nx Y Z s Z' s'):K Y Z' R o Q E s':=by
 cases o with
 | ok d=>exact fun v Z₂ s₂ y r=>k v Z₂ s₂ (g.nx y) r
 | exc=>exact fun x s₂ y=>k x s₂ (g.ex y fun _ q=>q.elim)
 | stuck=>exact k
theorem K.bindE {f:β→Out β'} (k:K Y Z R' (o>>=f) Q' E s) (g:∀d v Z' s',o = .ok d→Nx Y Z s Z' s'→R Z' d v→K Y Z' R' (f d) Q' E s'→Q v s'):K Y Z R o Q E s:=by
 cases o with
 | ok d=>exact fun v Z' s' x r=>g d v Z' s' rfl x r (K.go (o:=f d) k x)
 | exc=>exact k
 | stuck=>exact k
theorem K.bind {f:β→Out β'} (k:K Y Z R' (o>>=f) Q' E s) (g:∀d v Z' s',Nx Y Z s Z' s'→R Z' d v→K Y Z' R' (f d) Q' E s'→Q v s'):K Y Z R o Q E s:=
 k.bindE fun d v Z' s' _=>g d v Z' s'
theorem K.ok {d:β} {v:α} (k:K Y Z R (.ok d) Q E s) (h:Sub Z s.heap) (r:R Z d v) (tk:Nat):Q v { s with toks:=tk }:=k v Z _ (.refl h tk) r
theorem K.okS {d:β} {v:α} (k:K Y Z R (.ok d) Q E s) (h:Sub Z s.heap) (r:R Z d v):Q v s:=k v Z s (.self h) r
theorem K.need {c:Prop} [Decidable c] (k:K Y Z R (need c o) Q E s) (g:c→K Y Z R o Q E s→Q' v' s'):Q' v' s':=by
 unfold DK.Internal.need at k
 split at k
 ·exact g ‹_› k
 ·exact k.elim
end
section
variable {Y:Cx} {Z:Zm} {Q:Value→Shared→Prop} {E:Value→Shared→Prop} {s:Shared}
theorem K.newL {xs:List D} {vs:List Value} (k:K Y Z (Rep Y.P) (.ok (.list xs)) Q E s) (h:Sub Z s.heap) (r:Reps Y.P Z xs vs) (z:vs.length≤SZ) (tk:Nat):Q (.ref s.heap.objs.size) { s with heap:=s.heap.push { cls:= .type "list",data:= .seq vs.toArray },toks:=tk }:=
 have g:Nx Y Z s _ _:= .push h (o:=lstO vs 0) rfl tk
 k _ _ _ g ⟨_,vs,0,rfl,ZoX,z,r.up g.le⟩
theorem K.newT {xs:List D} {vs:List Value} (k:K Y Z (Rep Y.P) (.ok (.tuple xs)) Q E s) (h:Sub Z s.heap) (r:Reps Y.P Z xs vs) (z:vs.length≤SZ) (tk:Nat):Q (.ref s.heap.objs.size) { s with heap:=s.heap.push { cls:= .type "tuple",data:= .seq vs.toArray },toks:=tk }:=
 have g:Nx Y Z s _ _:= .push h (o:=tupO vs 0) rfl tk
 k _ _ _ g ⟨_,vs,0,rfl,ZoX,z,r.up g.le⟩
end
theorem ZoW:SZ≤sizeLine:=by unfold SZ sizeLine;decide
end DK.Internal
end
section
set_option backward.match.sparseCases false
set_option genSizeOf false
set_option genCtorIdx false
set_option maxRecDepth 100000
namespace DK.Internal
open PySem PyProof.Rows PySem.SeqAt
section
variable {P:Prg} {Z:Zm}
theorem rNone:Rep P Z .none .none:=rfl
theorem ZpQ (b:Bool):Rep P Z (.bool b) (.bool b):=rfl
theorem rInt (i:Int) (t:Tok):Rep P Z (.int i) (.int i t):=⟨t,rfl⟩
theorem rStr (x:Str) (t:Tok) (z:x.cps.size≤SZ):Rep P Z (.str x.cps.toList) (.str x t):=⟨x,t,rfl,z,rfl⟩
theorem Zsk (x:Array UInt8) (t:Tok) (z:x.size≤SZ):Rep P Z (.bytes x.toList) (.bytes x t):=⟨x,t,rfl,z,rfl⟩
theorem ZqF {b:List UInt8} (t:Tok) (z:b.length≤SZ):Rep P Z (.bytes b) (.bytes b.toArray t):=⟨_,t,rfl,z,rfl⟩
theorem rFlat {v:Value} {d:D} (h:Flat v d):Rep P Z d v:=by
 cases d with
 | int i=>exact h
 | str s=>exact h
 | _=>exact False.elim h
end
section
variable {α β:Type} {Y:Cx} {Z:Zm} {R:Zm→β→α→Prop} {Q:α→Shared→Prop} {E:Value→Shared→Prop} {s:Shared} {o:Out β}
theorem K.ite {c G:Prop} [Decidable c] (k:K Y Z R (if c then o else .stuck) Q E s) (g:c→K Y Z R o Q E s→G):G:=by
 by_cases h:c
 ·rw [if_pos h] at k;exact g h k
 ·rw [if_neg h] at k;exact False.elim k
theorem K.keeps {d:β} {v:α} {h':Heap} (k:K Y Z R (.ok d) Q E s) (hs:Sub Z s.heap) (hk:∀b o,s.heap.get? b=some o→h'.get? b=some o) (tk:Nat) (r:R Z d v):Q v { s with heap:=h',toks:=tk }:=k v Z _ (.keeps hs hk tk) r
end
section
variable {α β:Type} {Y:Cx} {Z:Zm} {R:Zm→β→α→Prop} {Q:α→Shared→Prop} {E:Value→Shared→Prop} {s:Shared} {x:D} {v:Value} {G:Value→Prop}
@[elab_as_elim] theorem K.onInt {f:Int→Out β} (k:K Y Z R (onInt f x) Q E s) (r:Rep Y.P Z x v) (g:∀i t,K Y Z R (f i) Q E s→G (.int i t)):G v:=by
 cases x with
 | int i=>obtain ⟨t,rfl⟩:=r;exact g i t k
 | _=>exact False.elim k
@[elab_as_elim] theorem K.onBool {f:Bool→Out β} (k:K Y Z R (onBool f x) Q E s) (r:Rep Y.P Z x v) (g:∀b,K Y Z R (f b) Q E s→G (.bool b)):G v:=by
 cases x with
 | bool i=>cases r;exact g i k
 | _=>exact False.elim k
@[elab_as_elim] theorem K.onStr {f:List Nat→Out β} (k:K Y Z R (onStr f x) Q E s) (r:Rep Y.P Z x v) (g:∀(y:Str) t,y.cps.size≤SZ→K Y Z R (f y.cps.toList) Q E s→G (.str y t)):G v:=by
 cases x with
 | str i=>obtain ⟨y,t,rfl,z,rfl⟩:=r;exact g y t z k
 | _=>exact False.elim k
@[elab_as_elim] theorem K.onBytes {f:List UInt8→Out β} (k:K Y Z R (onBytes f x) Q E s) (r:Rep Y.P Z x v) (g:∀(y:Array UInt8) t,y.size≤SZ→K Y Z R (f y.toList) Q E s→G (.bytes y t)):G v:=by
 cases x with
 | bytes i=>obtain ⟨y,t,rfl,z,rfl⟩:=r;exact g y t z k
 | _=>exact False.elim k
@[elab_as_elim] theorem K.onLst {f:List D→Out β} (hs:Sub Z s.heap) (k:K Y Z R (onLst f x) Q E s) (r:Rep Y.P Z x v) (g:∀xs a vs n,s.heap.get? a=some (lstO vs n)→vs.length≤SZ→Reps Y.P Z xs vs→K Y Z R (f xs) Q E s→G (.ref a)):G v:=by
 cases x with
 | list i=>obtain ⟨a,vs,n,rfl,e,z,q⟩:=r;exact g i a vs n (hs _ _ e) z q k
 | _=>exact False.elim k
@[elab_as_elim] theorem K.onTup {f:List D→Out β} (hs:Sub Z s.heap) (k:K Y Z R (onTup f x) Q E s) (r:Rep Y.P Z x v) (g:∀xs a vs n,s.heap.get? a=some (tupO vs n)→vs.length≤SZ→Reps Y.P Z xs vs→K Y Z R (f xs) Q E s→G (.ref a)):G v:=by
 cases x with
 | tuple i=>obtain ⟨a,vs,n,rfl,e,z,q⟩:=r;exact g i a vs n (hs _ _ e) z q k
 | _=>exact False.elim k
end
variable {Y:Cx} {Z:Zm} {s:Shared} {Q:Value→Shared→Prop} {E:Value→Shared→Prop}
theorem Zrp {a b:Int} (ha:small a=true):IntMulOk a b:=by
 have h:a.natAbs < 4294967296:=of_decide_eq_true ha
 exact .of_left (intBits_le_64 (by omega) (by omega))
theorem ZsK {n:Nat} (h:n < BIG):n.log2 < 8192:=by
 rcases Nat.eq_zero_or_pos n with h0 | hp
 ·rw [h0];decide
 ·refine (Nat.log2_lt (Nat.ne_of_gt hp)).mpr ?_
  unfold BIG at h
  exact h
theorem ZrO {a n:Int} (ha:a.natAbs < BIG) (hn:n≤8192):(Builtin.Int.intBits a:Int)+n≤2 ^ 27:=by
 have:=ZsK ha
 unfold Builtin.Int.intBits
 split<;>lia
theorem ZrP {a b:Int} (ha:0≤a) (hb:0≤b):Builtin.bitAnd a b=(a.toNat &&& b.toNat:Nat):=by
 unfold Builtin.bitAnd
 rw [decide_eq_true ha,decide_eq_true hb]
theorem Zsl {a b:Int} (ha:0≤a) (hb:0≤b):Builtin.bitOr a b=(a.toNat ||| b.toNat:Nat):=by
 unfold Builtin.bitOr Builtin.bitAnd Builtin.bitNot
 rw [decide_eq_false (by lia:¬0≤-a - 1),decide_eq_false (by lia:¬0≤-b - 1)]
 show -(-(((-(-a - 1) - 1).toNat ||| (-(-b - 1) - 1).toNat:Nat):Int) - 1) - 1=_
 rw [show -(-a - 1) - 1=a by lia,show -(-b - 1) - 1=b by lia]
 lia
theorem int_op {op:Operator} {a b:Int} {t u:Tok} (hs:Sub Z s.heap) (k:K Y Z (Rep Y.P) (intOp a b op) Q E s):wpAny Y.M Y.A (binaryOp op (.int a t) (.int b u)) Q E s:=by
 cases op with
 | Add=>exact add_int (k.ok hs (rInt _ _) _)
 | Sub=>exact sub_int (k.ok hs (rInt _ _) _)
 | Mult=>exact k.ite fun hc k=>mul_int (k.ok hs (rInt _ _) _) (Zrp hc.1)
 | FloorDiv=>exact k.ite fun hc k=>floordiv_int (by lia) (by rw [Int.fdiv_eq_ediv_of_nonneg _ (Int.le_of_lt hc.1)];exact k.ok hs (rInt _ _) _) (.inl (PyProof.noPylong_small (by omega)))
 | Mod=>exact k.ite fun hc k=>mod_int (Int.ne_of_gt hc) (by rw [Int.fmod_eq_emod_of_nonneg _ (Int.le_of_lt hc)];exact k.ok hs (rInt _ _) _)
 | LShift=>exact k.ite fun hc k=>lshift_int hc.1 (ZrO hc.2.2 hc.2.1) (k.ok hs (rInt _ _) _)
 | RShift=>exact k.ite fun hc k=>rshift_int hc (by rw [Int.fdiv_eq_ediv_of_nonneg _ (Int.pow_nonneg (by decide))];exact k.ok hs (rInt _ _) _)
 | BitAnd=>exact k.ite fun hc k=>and_int (by rw [ZrP hc.1 hc.2];exact k.ok hs (rInt _ _) _)
 | BitOr=>exact k.ite fun hc k=>or_int (by rw [Zsl hc.1 hc.2];exact k.ok hs (rInt _ _) _)
 | _=>exact False.elim k
theorem foldl_append (l:List (Array Value)):∀acc:Array Value,(List.foldl (fun x1 x2=>x1++x2) acc l).toList=acc.toList++(l.map Array.toList).flatten:=by
 induction l with
 | nil=>intro acc;exact (List.append_nil _).symm
 | cons a r ih=>intro acc;rw [List.foldl_cons,ih,Array.toList_append,List.append_assoc];rfl
theorem Zsm (vs:List Value) (n:Nat):(List.foldl (fun x1 x2=>x1++x2) #[] (List.replicate (if vs.toArray.isEmpty=true then 0 else n) vs.toArray))=((List.replicate n vs).flatten).toArray:=by
 apply Array.ext'
 rw [foldl_append]
 cases vs with
 | nil=>simp
 | cons v vs=>rw [if_neg (by simp)];simp
theorem ZrG {a:Addr} {vs:List Value} {n:Nat} {x:Int} {u:Tok} (hl:s.heap.get? a=some (lstO vs n)) (h0:0≤x) (hx:x≤SZ) (hsz:vs.length*x.toNat≤SZ)
  (h:Q (.ref s.heap.objs.size) { s with heap:=s.heap.push { cls:= .type "list",data:= .seq ((List.replicate x.toNat vs).flatten).toArray } }):wpAny Y.M Y.A (binaryOp .Mult (.ref a) (.int x u)) Q E s:=by
 rw [←Zsm vs x.toNat] at h
 unfold SZ at hx hsz
 exact wpAny_binaryOp_repeat_ref (T:= "list") (U:= "int") (by decide) ⟨_,hl,rfl⟩ (fun s'=>typeIs_int s' x u) noFill_list_mul F.fills_int_mul F.slot_int_rmul repeat_list F.slot_int_index.lookup
  (call_meets F.slot_int_rmul (typeIs_int s x u) F.entry_int_rmul (F.args_int_rmul_2 _ _) (int___rmul___int_list x u a vs.toArray n)
   ⟨hl,rfl,⟨_,hl,rfl⟩,call_meets F.slot_list_mul ⟨_,hl,rfl⟩ F.entry_list_mul (F.args_list_mul_2 _ _)
    (AutoListH.list___mul___list_int_3 a vs.toArray n x u (by simp [Builtin.List.listFitsIndex];lia) (by rw [List.size_toArray];lia) (by simp [Builtin.List.listTooLong,sizeLine];exact Nat.le_trans (by assumption) (by decide)))
    ⟨hl,h⟩⟩)
theorem Zsn {vs:List Value} {n:Nat}:((List.replicate n vs).flatten).length=vs.length*n:=by simp [Nat.mul_comm]
theorem Zqg {op:Operator} {va vb:Value} {x y:D} (hs:Sub Z s.heap) (ra:Rep Y.P Z x va) (rb:Rep Y.P Z y vb) (k:K Y Z (Rep Y.P) (binop op x y) Q E s):wpAny Y.M Y.A (binaryOp op va vb) Q E s:=by
 cases x with
 | int a=>obtain ⟨t,rfl⟩:=ra;exact K.onInt k rb fun b u k=>int_op hs k
 | bytes a=>
  obtain ⟨a,t,rfl,za,rfl⟩:=ra
  cases op with
  | Add=>exact K.onBytes k rb fun b u zb k=>k.ite fun hc k=>W.bytes_add_K (b:=a.toList) (c:=b.toList) (Nat.le_trans hc (by decide)) rfl fun t' tk=>k.ok hs (ZqF t' (by rw [List.length_append];exact hc)) _
  | Mult=>
   refine K.onInt k rb fun n u k=>k.ite fun hc k=>W.bytes_mul_any (b:=a.toList) hc.2.2.1 (by lia) (by lia) hc.2.2.2 fun t' tk=>k.ok hs (ZqF t' ?_) _
   rw [List.length_flatten,List.map_replicate,List.sum_replicate_nat]
   exact Nat.le_trans (Nat.mul_le_mul (show n.toNat≤50000 by lia) hc.2.2.2) (by decide)
  | _=>exact False.elim k
 | str a=>
  obtain ⟨a,t,rfl,za,rfl⟩:=ra
  cases op with
  | Add=>
   refine K.onStr k rb fun b u zb k=>k.ite fun hc k=>add_str (fun t' tk=> ?_) (Nat.le_trans (by rw [Array.length_toList,Array.length_toList] at hc;exact hc) ZoW)
   have r:Rep Y.P Z _ _:=rStr (a++b) t' (by rw [←Array.length_toList,show (a++b).cps.toList=a.cps.toList++b.cps.toList from Array.toList_append,List.length_append];exact hc)
   rw [show (a++b).cps.toList=a.cps.toList++b.cps.toList from Array.toList_append] at r
   exact k.ok hs r _
  | _=>exact False.elim k
 | list a=>
  obtain ⟨a1,v1,n1,rfl,e1,z1,q1⟩:=ra
  cases op with
  | Add=>
   refine K.onLst hs k rb fun b a2 v2 n2 e2 z2 q2 k=>k.ite fun hc k=> ?_
   have hl:(v1++v2).length≤SZ:=by rw [List.length_append,q1.length,q2.length];exact hc
   refine P.add_list (hs _ _ e1) e2 ?_ (by rw [List.length_append] at hl;exact Nat.le_trans hl ZoW)
   rw [List.append_toArray]
   exact k.newL hs (q1.append q2) hl _
  | Mult=>
   refine K.onInt k rb fun n u k=>k.ite fun hc k=> ?_
   rw [←q1.length] at hc
   exact ZrG (hs _ _ e1) hc.1 hc.2.2 hc.2.1 (k.newL hs (q1.replicate _) (by rw [Zsn];exact hc.2.1) _)
  | _=>exact False.elim k
 | _=>exact False.elim k
theorem ZpR {n:Nat} {i:Int} {j:Nat} (h:place n i=some j):seqIndex? i n=some j∧j < n∧(if i < 0 then i+n else i)=(j:Int):=by
 unfold place at h
 unfold seqIndex?
 dsimp only at h ⊢
 generalize (if i < 0 then i+(n:Int) else i)=m at h ⊢
 by_cases hc:0≤m∧m < n
 ·rw [if_pos hc] at h
  have hj:=Option.some.inj h
  refine ⟨?_,by lia,by lia⟩
  rw [if_pos (by simpa using hc)]
  exact h
 ·rw [if_neg hc] at h;cases h
theorem ZrH {ks:List D} (hn:ks≠[]) (h1:ks.all isInt=true) (h2:ks.all isStr=true):False:=by
 cases ks with
 | nil=>exact hn rfl
 | cons c cs=>
  rw [List.all_cons,Bool.and_eq_true] at h1 h2
  cases c<;>first | exact absurd h1.1 Bool.false_ne_true | exact absurd h2.1 Bool.false_ne_true
def Items (Y:Cx) (va vi:Value) (Q:Value→Shared→Prop) (E:Value→Shared→Prop) (s:Shared):Prop:=
 ∃T id,s.TypeIs va T∧typeLookup (.type T) "__getitem__" = pure (some (.builtin id))∧wpAny Y.M Y.A (getItem va vi) Q E s
theorem K.atL {xs:List D} {n:Nat} {i:Int} {vs:List Value} {G:Prop} (k:K Y Z (Rep Y.P) (atL xs (place n i)) Q E s) (q:Reps Y.P Z xs vs)
  (g:∀j d v,place n i=some j→vs[j]?=some v→Rep Y.P Z d v→K Y Z (Rep Y.P) (.ok d) Q E s→G):G:=by
 cases hj:place n i with
 | none=>rw [hj] at k;exact False.elim k
 | some j=>
  rw [hj] at k
  unfold DK.Internal.atL at k
  dsimp only at k
  cases hd:xs[j]? with
  | none=>rw [hd] at k;exact False.elim k
  | some d=>
   rw [hd] at k
   obtain ⟨v,hv,rv⟩:=q.get hd
   exact g j d v hj hv rv k
theorem Zrq {va vi:Value} {x y:D} (hs:Sub Z s.heap) (ra:Rep Y.P Z x va) (ri:Rep Y.P Z y vi) (k:K Y Z (Rep Y.P) (index x y) Q E s):Items Y va vi Q E s:=by
 have hsz:SZ=1000000:=rfl
 cases x with
 | tuple xs=>
  obtain ⟨a,vs,n,rfl,e,z,q⟩:=ra
  refine K.onInt k ri fun i t k=>k.atL q fun j d v hj hv rv k=> ?_
  rw [←q.length] at hj
  obtain ⟨h1,h2,h3⟩:=ZpR hj
  exact ⟨"tuple",_,⟨_,hs _ _ e,rfl⟩,F.slot_tuple_getitem.lookup,P.getItem_tuple (hs _ _ e) (by lia) (by lia) h1 (List.getElem?_toArray.trans hv) (k.okS hs rv)⟩
 | list xs=>
  obtain ⟨a,vs,n,rfl,e,z,q⟩:=ra
  refine K.onInt k ri fun i t k=>k.atL q fun j d v hj hv rv k=> ?_
  rw [←q.length] at hj
  obtain ⟨h1,h2,h3⟩:=ZpR hj
  have hL:s.heap.IsList a vs.toArray:=⟨_,hs _ _ e,rfl,n,rfl⟩
  refine ⟨"list",_,⟨_,hs _ _ e,rfl⟩,slot_list_getitem.lookup,?_⟩
  by_cases hi:i < 0
  ·rw [if_pos hi] at h3
   exact wpAny_getItem_list_neg hL hi (by rw [List.size_toArray];lia) (by lia) (by rw [List.size_toArray,h3];exact List.getElem?_toArray.trans hv) (k.okS hs rv)
  ·rw [if_neg hi] at h3
   exact wpAny_getItem_list hL (by exact Int.not_lt.mp (by assumption)) (by lia) (by rw [h3];exact List.getElem?_toArray.trans hv) (k.okS hs rv)
 | bytes xs=>
  obtain ⟨b,tb,rfl,z,rfl⟩:=ra
  refine K.onInt k ri fun i t k=> ?_
  cases hj:place b.toList.length i with
  | none=>rw [hj] at k;exact False.elim k
  | some j=>
   rw [hj] at k
   unfold atB at k
   dsimp only at k
   cases hd:b.toList[j]? with
   | none=>rw [hd] at k;exact False.elim k
   | some d=>
    rw [hd] at k
    rw [Array.length_toList] at hj
    obtain ⟨h1,h2,h3⟩:=ZpR hj
    refine ⟨"bytes",_,rfl,W.FB.slot_bytes_getitem.lookup,?_⟩
    refine getItem_gives (m:= .int d.toNat) (W.typeIs_bytes s b tb) (by decide) W.FB.slot_bytes_getitem W.FB.entry_bytes_getitem (W.FB.args_bytes_getitem_2 _ _) (W.gives_bytes_getitem b i tb t d ?_ ?_) (k.ok hs (rInt _ _) _)
    ·rw [Builtin.Bytes.fitsIndex,Bool.and_eq_true,decide_eq_true_eq,decide_eq_true_eq];exact ⟨by lia,by lia⟩
    ·rw [h1];exact (Array.getElem?_toList ..).symm.trans hd
 | dict ks vs=>
  refine K.onStr k ri fun x t z k=>k.ite fun hall k=> ?_
  obtain ⟨a,rfl,ra | ra⟩:=ra
  ·obtain ⟨f,h1,h2⟩:=ra.at_
   have q:=h2 x
   cases hd:dget (.str x.cps.toList) ks vs with
   | none=>rw [hd] at k;exact False.elim k
   | some d=>
    rw [hd] at k q
    cases hf:f x with
    | none=>rw [hf] at q;exact False.elim q
    | some v=>
     rw [hf] at q
     exact ⟨"dict",_,(h1 _ hs).typeIs,slot_dict_getitem.lookup,wpAny_getItem_of (strKind_is _ _ x t) (h1 _ hs) hf (k.ok hs (rFlat q) _)⟩
  ·exact (ZrH ra.ne ra.all hall).elim
 | _=>exact False.elim k
theorem K.part {n dflt:Nat} {x:D} {v:Value} {f:Nat→Out D} {G:Prop} (k:K Y Z (Rep Y.P) (part dflt n x f) Q E s) (r:Rep Y.P Z x v) (g:∀p,IsPart v p→K Y Z (Rep Y.P) (f (p.elim dflt (clipAt n))) Q E s→G):G:=by
 cases x with
 | none=>cases r;exact g none .none k
 | int i=>obtain ⟨t,rfl⟩:=r;exact g (some i) (.int _ _) k
 | _=>exact False.elim k
theorem Zrr {va vl vu:Value} {sa:Addr} {x lo hi:D} (h:Sub Z s.heap) (ra:Rep Y.P Z x va) (rl:Rep Y.P Z lo vl) (ru:Rep Y.P Z hi vu)
  (hs:s.heap.IsSliceOf sa vl vu .none) (k:K Y Z (Rep Y.P) (slice x lo hi) Q E s):Items Y va (.ref sa) Q E s:=by
 have hsl:=ZoW
 cases x with
 | list xs=>
  obtain ⟨a,vs,n,rfl,e,z,q⟩:=ra
  refine K.part (f:=fun lo=>part xs.length xs.length hi fun hi=> .ok (.list (cut xs lo hi))) k rl fun p hp k=>K.part k ru fun u hu k=> ?_
  refine ⟨"list",_,⟨_,h _ _ e,rfl⟩,slot_list_getitem.lookup,wpAny_getItem_list_slice ⟨_,h _ _ e,rfl,n,rfl⟩ hs hp hu .none (by simp) ?_ (by rw [List.size_toArray];exact Nat.le_trans z hsl)⟩
  rw [slicePick_plain,List.size_toArray]
  rw [←q.length] at k
  exact k.newL h ((q.drop _).take _) (Nat.le_trans (List.length_take_le' _ _) (Nat.le_trans (by rw [List.length_drop];exact Nat.sub_le _ _) z)) _
 | bytes xs=>
  obtain ⟨b,t,rfl,z,rfl⟩:=ra
  refine K.part (f:=fun lo=>part b.toList.length b.toList.length hi fun hi=> .ok (.bytes (cut b.toList lo hi))) k rl fun p hp k=>K.part k ru fun u hu k=> ?_
  refine ⟨"bytes",_,rfl,W.FB.slot_bytes_getitem.lookup,getItem_meets (W.typeIs_bytes s b t) (by decide) W.FB.slot_bytes_getitem W.FB.entry_bytes_getitem (W.FB.args_bytes_getitem_2 _ _) (W.KBc.meets_slice2 b t sa hp hu) ?_⟩
  have hle:=W.KBc.size_picked_le b p u
  refine ⟨hs,by lia,fun t' tk=> ?_⟩
  have r:Rep Y.P Z _ _:=Zsk (W.KBy.picked b p u) t' (by exact Nat.le_trans (by assumption) (by assumption))
  rw [show (W.KBy.picked b p u).toList=cut b.toList (p.elim 0 (clipAt b.toList.length)) (u.elim b.toList.length (clipAt b.toList.length)) by rw [W.KBc.picked_eq];simp [cut]] at r
  exact k.ok h r _
 | str xs=>
  obtain ⟨x,t,rfl,z,rfl⟩:=ra
  cases hi with
  | none=>
   cases ru
   revert hs
   refine K.onInt k rl fun i ti k hs=>K.ite k fun hc k=> ?_
   have e:(Txt.slice x (some i) none).cps.toList=x.cps.toList.drop i.toNat:=by
    rw [Array.length_toList] at hc
    rw [slice_from_eq (b:=x.length) hc.1 hc.2 rfl]
    show ((x.cps.toList.drop i.toNat).take _)=_
    rw [List.take_of_length_le]
    rw [List.length_drop,Array.length_toList];show x.cps.size - i.toNat≤((x.cps.size:Int) - i).toNat;omega
   have hz:(Txt.slice x (some i) none).cps.size≤SZ:=by
    rw [←Array.length_toList,e,List.length_drop,Array.length_toList];exact Nat.le_trans (Nat.sub_le _ _) z
   refine ⟨"str",_,rfl,F.slot_str_getitem.lookup,wpAny_getItem_str_slice (l:=some (i,ti)) (u:=none) (st:=none) hs rfl (post_val_or_str ⟨Nat.le_trans hz hsl,fun t' tk=> ?_⟩)⟩
   have r:Rep Y.P Z _ _:=rStr (Txt.slice x (some i) none) t' hz
   rw [e] at r
   exact k.ok h r tk
  | _=>exact False.elim (K.onInt (G:=fun _=>False) k rl fun i ti k=>k)
 | _=>exact False.elim k
end DK.Internal
end
section
set_option backward.match.sparseCases false
set_option genSizeOf false
set_option genCtorIdx false
set_option maxRecDepth 100000
namespace DK.Internal
open PySem PyProof.Rows PySem.SeqAt
theorem EqAt.of_rc {A:Around} {s:Shared} {y x:Value} {b:Bool} (hf:∀a t,y≠.float a t) (h:RcAt A s y x b) (hb:y=x→b=true):EqAt A s y x b:=fun prog w E Q hq=>by
 unfold eqBool
 refine wpAny_holding (wpAny_ite_split (fun hab=> ?_) (fun _=> ?_))
 ·cases hb (eq_of_beq hab)
  exact wpAny_bind (wpAny_rule (wpAny_pure hq))
 ·cases y with
  | float a t=>exact absurd rfl (hf a t)
  | _=>exact wpAny_bind (h prog w E _ (wpAny_truthy_bool hq))
theorem ZqU {bs:List Bool}:(List.range bs.length).all (fun j=>bs.getD j true)=bs.all id:=by
 rw [Bool.eq_iff_iff]
 simp only [List.all_eq_true,List.mem_range,id]
 constructor
 ·intro h b hb
  obtain ⟨j,hj,rfl⟩:=List.getElem_of_mem hb
  simpa [hj] using h j hj
 ·intro h j hj
  simpa [hj] using h _ (List.getElem_mem hj)
variable {Y:Cx} {P:Prg} {Z:Zm} {s:Shared} {Q:Value→Shared→Prop} {E:Value→Shared→Prop}
noncomputable def Nex {β:Type} (o:Out β) (G:β→Prop):Prop:=match o with
 | .ok b=>G b
 | .exc=>False
 | .stuck=>True
theorem Nex.andB {o p:Out Bool} {F G H:Bool→Prop} (a:Nex o F) (b:Nex p G) (h:∀x y,F x→G y→H (x && y)):Nex (andB o p) H:=by
 cases o with
 | ok x=>
  cases p with
  | ok y=>exact h x y a b
  | exc=>exact b
  | stuck=>exact trivial
 | exc=>exact a
 | stuck=>exact trivial
theorem ZsL {f:D→D→Out Bool} {C:Bool→Value→Value→Prop} (hf:∀{x y v w},Rep P Z x v→Rep P Z y w→Nex (f x y) fun c=>C c v w) {xs:List D} {vs:List Value} (r:Reps P Z xs vs):∀{ys:List D} {ws:List Value},Reps P Z ys ws →
  Nex (allEq f xs ys) fun b=>∃bs:List Bool,vs.length=bs.length∧ws.length=bs.length∧b=bs.all id∧∀(j:Nat) (v w:Value),vs[j]?=some v→ws[j]?=some w→C (bs.getD j true) v w:=by
 refine r.ind (mo:=fun xs vs=>∀{ys:List D} {ws:List Value},Reps P Z ys ws →
  Nex (allEq f xs ys) fun b=>∃bs:List Bool,vs.length=bs.length∧ws.length=bs.length∧b=bs.all id∧∀(j:Nat) (v w:Value),vs[j]?=some v→ws[j]?=some w→C (bs.getD j true) v w) ?_ ?_
 ·intro ys ws q
  cases ys with
  | nil=>cases (show ws = [] from q);exact ⟨[],rfl,rfl,rfl,fun j v w e=>nomatch e⟩
  | cons y ys=>exact trivial
 ·intro d v ds vs a r ih ys ws q
  cases ys with
  | nil=>exact trivial
  | cons y ys=>
   obtain ⟨w,us,rfl,qa,q⟩:=q
   refine Nex.andB (hf a qa) (ih q) fun c e hc he=> ?_
   obtain ⟨bs,e1,e2,e3,e4⟩:=he
   refine ⟨c::bs,congrArg (· + 1) e1,congrArg (· + 1) e2,congrArg (c && ·) e3,fun j v' w' hv hw=> ?_⟩
   cases j with
   | zero=>cases hv;cases hw;exact hc
   | succ j=>exact e4 j v' w' hv hw
theorem ZsM {tup:Bool} {v1 v2:List Value} {n1 n2:Nat} (h:(cond tup (tupO v1 n1) (lstO v1 n1))=cond tup (tupO v2 n2) (lstO v2 n2)):v1=v2:=by
 have:(cond tup (tupO v1 n1) (lstO v1 n1)).data=(cond tup (tupO v2 n2) (lstO v2 n2)).data:=by rw [h]
 have:Data.seq v1.toArray n1 = .seq v2.toArray n2:=by cases tup<;>exact this
 injection this with e
 exact congrArg Array.toList e
theorem Zrs {v:Value} {d:D} (r:Rep P Z d v):∀a t,v≠.float a t:=by
 intro a t e;subst e
 cases d with
 | int i=>exact r.elim fun _ e=>nomatch e
 | str i=>exact r.elim fun _ r=>r.elim fun _ e=>nomatch e.1
 | bytes i=>exact r.elim fun _ r=>r.elim fun _ e=>nomatch e.1
 | tuple i=>exact r.elim fun _ r=>r.elim fun _ r=>r.elim fun _ e=>nomatch e.1
 | list i=>exact r.elim fun _ r=>r.elim fun _ r=>r.elim fun _ e=>nomatch e.1
 | dict i=>exact r.elim fun _ e=>nomatch e.1
 | _=>exact nomatch r
structure Cmp (s:Shared) (n:Nat) (b:Bool) (v w:Value):Prop where
 same:v=w→b=true
 nf:∀a t,v≠.float a t
 eq:∀A:Around,A.units+n < cLine→RcAt A s v w b
 ne:∀A:Around,A.units+n < cLine→RcNeAt A s v w !b
theorem Zqw {n:Nat} {x y:D} {va vb:Value} (ra:Rep P Z x va) (rb:Rep P Z y vb):Nex (D.feq x y) fun b=>Cmp s n b va vb:=by
 have nf:=Zrs ra
 cases x with
 | none=>
  cases y with
  | none=>cases ra;cases rb;exact ⟨fun _=>rfl,nf,fun _ _=>RcAt.none_none,fun _ _=>RcNeAt.none_none⟩
  | _=>exact trivial
 | bool a=>
  cases y with
  | bool c=>cases ra;cases rb;exact ⟨fun e=>by cases e;exact beq_self_eq_true _,nf,fun _ _=>RcAt.bool_bool _ _,fun _ _=>RcNeAt.bool_bool _ _⟩
  | _=>exact trivial
 | int a=>
  cases y with
  | int c=>obtain ⟨t,rfl⟩:=ra;obtain ⟨u,rfl⟩:=rb;exact ⟨fun e=>by cases e;exact decide_eq_true rfl,nf,fun _ _=>RcAt.int_int _ _ _ _,fun _ _=>RcNeAt.int_int _ _ _ _⟩
  | _=>exact trivial
 | str a=>
  cases y with
  | str c=>
   obtain ⟨a,t,rfl,_,rfl⟩:=ra
   obtain ⟨c,u,rfl,_,rfl⟩:=rb
   show Cmp s n (a.cps.toList == c.cps.toList) _ _
   rw [str_beq]
   exact ⟨fun e=>by cases e;exact beq_self_eq_true _,nf,fun _ _=>RcAt.str_str _ _ _ _,fun _ _=>RcNeAt.str_str _ _ _ _⟩
  | _=>exact trivial
 | bytes a=>
  cases y with
  | bytes c=>
   obtain ⟨a,t,rfl,_,rfl⟩:=ra
   obtain ⟨c,u,rfl,_,rfl⟩:=rb
   show Cmp s n (decide (a.toList=c.toList)) _ _
   rw [show decide (a.toList=c.toList)=(a.toList == c.toList) by rw [Bool.eq_iff_iff];simp]
   exact ⟨fun e=>by cases e;exact beq_self_eq_true _,nf,fun _ _ prog w E Q hq=>W.eq_bytes hq,fun _ _ prog w E Q hq=>W.ne_bytes hq⟩
  | _=>exact trivial
 | _=>exact trivial
theorem Ztc (hs:Sub Z s.heap) {n:Nat} (ih:∀{x y v w},Rep P Z x v→Rep P Z y w→Nex (D.peq n x y) fun b=>Cmp s n b v w) (tup:Bool) {a1 a2:Addr} {v1 v2:List Value} {n1 n2:Nat} {xs ys:List D}
  (e1:Z a1=some (cond tup (tupO v1 n1) (lstO v1 n1))) (e2:Z a2=some (cond tup (tupO v2 n2) (lstO v2 n2))) (q1:Reps P Z xs v1) (q2:Reps P Z ys v2):Nex (allEq (D.peq n) xs ys) fun b=>Cmp s (n+1) b (.ref a1) (.ref a2):=by
 have:=ZsL (C:=fun c v w=>Cmp s n c v w) ih q1 q2
 cases h:allEq (D.peq n) xs ys with
 | exc=>rw [h] at this;exact this
 | stuck=>exact trivial
 | ok b=>
  rw [h] at this
  obtain ⟨bs,l1,l2,l3,l4⟩:=this
  have at_:∀A:Around,A.units+(n+1) < cLine→∀j (h1:j < v1.toArray.size) (h2:j < v2.toArray.size),EqAt A.in1 s v1.toArray[j] v2.toArray[j] (bs.getD j true):=fun A hu j h1 h2=>
   have c:=l4 j v1.toArray[j] v2.toArray[j] (List.getElem?_toArray.symm.trans (Array.getElem?_eq_getElem h1)) (List.getElem?_toArray.symm.trans (Array.getElem?_eq_getElem h2))
   EqAt.of_rc c.nf (c.eq A.in1 (by rw [Around.in1_units];lia)) c.same
  refine ⟨fun e=> ?_,fun _ _ e=>(nomatch e),fun A hu=> ?_,fun A hu=> ?_⟩
  ·injection e with e
   rw [e,e2] at e1
   cases ZsM (Option.some.inj e1)
   rw [l3,←ZqU,List.all_eq_true]
   intro j hj
   have hj:=List.mem_range.mp hj
   have hv:=List.getElem?_eq_getElem (show j < v1.length by rw [l1];exact hj)
   exact (l4 j _ _ hv hv).same rfl
  all_goals rw [l3,←ZqU]
  ·cases tup with
   | true=>
    have:=RcAt.tuples (s:=s) ⟨_,hs _ _ e1,rfl,_,rfl⟩ ⟨_,hs _ _ e2,rfl,_,rfl⟩ (Nat.lt_of_le_of_lt (Nat.le_add_right _ _) hu) (at_ A hu)
    simpa only [List.size_toArray,l1,l2,Nat.min_self,beq_self_eq_true,Bool.and_true] using this
   | false=>
    have:=RcAt.lists (s:=s) ⟨_,hs _ _ e1,rfl,_,rfl⟩ ⟨_,hs _ _ e2,rfl,_,rfl⟩ (by rw [List.size_toArray,List.size_toArray,l1,l2]) (Nat.lt_of_le_of_lt (Nat.le_add_right _ _) hu) (at_ A hu)
    simpa only [List.size_toArray,l1] using this
  ·cases tup with
   | true=>
    have:=RcNeAt.tuples (s:=s) ⟨_,hs _ _ e1,rfl,_,rfl⟩ ⟨_,hs _ _ e2,rfl,_,rfl⟩ (Nat.lt_of_le_of_lt (Nat.le_add_right _ _) hu) (at_ A hu)
    simpa only [List.size_toArray,l1,l2,Nat.min_self,beq_self_eq_true,Bool.and_true] using this
   | false=>
    have:=RcNeAt.lists (s:=s) ⟨_,hs _ _ e1,rfl,_,rfl⟩ ⟨_,hs _ _ e2,rfl,_,rfl⟩ (by rw [List.size_toArray,List.size_toArray,l1,l2]) (Nat.lt_of_le_of_lt (Nat.le_add_right _ _) hu) (at_ A hu)
    simpa only [List.size_toArray,l1] using this
theorem peq_ok (hs:Sub Z s.heap) (n:Nat):∀{x y v w},Rep P Z x v→Rep P Z y w→Nex (D.peq n x y) fun b=>Cmp s n b v w:=by
 induction n with
 | zero=>exact fun {x y v w} ra rb=>Zqw ra rb
 | succ n ih=>
  intro x y va vb ra rb
  cases x with
  | tuple xs=>
   cases y with
   | tuple ys=>obtain ⟨a,v,m,rfl,e,_,q⟩:=ra;obtain ⟨a',v',m',rfl,e',_,q'⟩:=rb;exact Ztc hs ih true e e' q q'
   | _=>exact trivial
  | list xs=>
   cases y with
   | list ys=>obtain ⟨a,v,m,rfl,e,_,q⟩:=ra;obtain ⟨a',v',m',rfl,e',_,q'⟩:=rb;exact Ztc hs ih false e e' q q'
   | _=>exact trivial
  | none=>exact Zqw (x:= .none) ra rb
  | bool b=>exact Zqw (x:= .bool b) ra rb
  | int b=>exact Zqw (x:= .int b) ra rb
  | str b=>exact Zqw (x:= .str b) ra rb
  | bytes b=>exact Zqw (x:= .bytes b) ra rb
  | _=>exact trivial
theorem Zpk:PySem.Slot "bytes" (cmpInfo .Lt).2.1 "bytes.__lt__" :=
 .of (owner:= "bytes") (n:= "__lt__") (by rw [typeLookup_type,builtinLookup_eq_fast];kernel_rfl) (by decide +kernel) (by decide +kernel) (by decide +kernel)
  (by first | exact .inl (by decide +kernel) | exact .inr (by decide +kernel)) (by rw [isSubtype_type];kernel_rfl)
theorem ZpG:entryFor table "bytes.__lt__" = some Builtin.«bytes.__lt__»:=entryFor_of_tree (by kernel_rfl)
theorem ZpM (a b:Value):argsOk "bytes.__lt__" ⟨[a,b],[]⟩:=by
 unfold argsOk;rw [signature?_of (id:= "bytes.__lt__") (n:= ['_','_','t','l','_','_']) (o:= ['s','e','t','y','b']) (by kernel_rfl) W.FB.owner_bytes];kernel_rfl
theorem ZqG:PySem.Slot "bytes" (cmpInfo .LtE).2.1 "bytes.__le__" :=
 .of (owner:= "bytes") (n:= "__le__") (by rw [typeLookup_type,builtinLookup_eq_fast];kernel_rfl) (by decide +kernel) (by decide +kernel) (by decide +kernel)
  (by first | exact .inl (by decide +kernel) | exact .inr (by decide +kernel)) (by rw [isSubtype_type];kernel_rfl)
theorem Zqs:entryFor table "bytes.__le__" = some Builtin.«bytes.__le__»:=entryFor_of_tree (by kernel_rfl)
theorem ZqH (a b:Value):argsOk "bytes.__le__" ⟨[a,b],[]⟩:=by
 unfold argsOk;rw [signature?_of (id:= "bytes.__le__") (n:= ['_','_','e','l','_','_']) (o:= ['s','e','t','y','b']) (by kernel_rfl) W.FB.owner_bytes];kernel_rfl
theorem ZqI (a:List UInt8):∀b:List UInt8,(Builtin.Bytes.order a b == .lt)=lexLt a b∧(Builtin.Bytes.order b a == .gt)=lexLt a b:=by
 induction a with
 | nil=>intro b;cases b<;>exact ⟨rfl,rfl⟩
 | cons x a ih=>
  intro b
  cases b with
  | nil=>exact ⟨rfl,rfl⟩
  | cons y b=>
   obtain ⟨i1,i2⟩:=ih b
   show ((if x < y then Ordering.lt else if x > y then .gt else Builtin.Bytes.order a b) == .lt)=(if x.toNat < y.toNat then true else if x.toNat=y.toNat then lexLt a b else false) ∧
    ((if y < x then Ordering.lt else if y > x then .gt else Builtin.Bytes.order b a) == .gt)=(if x.toNat < y.toNat then true else if x.toNat=y.toNat then lexLt a b else false)
   by_cases h1:x.toNat < y.toNat
   ·have h2:¬y < x:=fun h:y.toNat < x.toNat=>by lia
    rw [if_pos (show x < y from h1),if_pos h1,if_neg h2,if_pos (show y > x from h1)];exact ⟨rfl,rfl⟩
   ·have h1':¬x < y:=h1
    by_cases h2:y.toNat < x.toNat
    ·rw [if_neg h1',if_pos (show x > y from h2),if_neg h1,if_neg (by exact Nat.ne_of_gt (by assumption)),if_pos (show y < x from h2)];exact ⟨rfl,rfl⟩
    ·have h2':¬y < x:=h2
     rw [if_neg h1',if_neg h2',if_neg h1,if_pos (by lia),if_neg h2',if_neg h1'];exact ⟨i1,i2⟩
theorem Zqt (b c:Array UInt8) (t u:Tok):Gives (Builtin.«bytes.__lt__» ⟨[.bytes b t,.bytes c u],[]⟩) (.val (.bool (lexLt b.toList c.toList))):=by
 refine .of_wp fun M A E s Q hq=> ?_
 show wpAny M A (isInstance (.bytes c u) (.type "bytes")>>=fun r=>_) _ E s
 refine wpAny_bind (wpAny_isInstance (W.typeIs_bytes s c u) F.sub_bytes_bytes ?_)
 exact wpAny_pure ⟨_,rfl,by rw [←(ZqI _ _).1] at hq;exact hq⟩
theorem Zqu (b c:Array UInt8) (t u:Tok):Gives (Builtin.«bytes.__le__» ⟨[.bytes b t,.bytes c u],[]⟩) (.val (.bool (lexLe b.toList c.toList))):=by
 refine .of_wp fun M A E s Q hq=> ?_
 show wpAny M A (isInstance (.bytes c u) (.type "bytes")>>=fun r=>_) _ E s
 refine wpAny_bind (wpAny_isInstance (W.typeIs_bytes s c u) F.sub_bytes_bytes ?_)
 exact wpAny_pure ⟨_,rfl,by unfold lexLe at hq;rw [←(ZqI _ _).2] at hq;exact hq⟩
theorem Zso {op:CmpOp} {va vb:Value} {x y:D} (hs:Sub Z s.heap) (ra:Rep Y.P Z x va) (rb:Rep Y.P Z y vb) (k:K Y Z (Rep Y.P) (ordD ordI op x y) Q E s):wpAny Y.M Y.A (compareOp op va vb) Q E s:=by
 have e (p:Prop) [i:Decidable p]:@decide p (Classical.propDecidable p)=decide p:=by congr
 cases x with
 | int a=>
  obtain ⟨t,rfl⟩:=ra
  refine K.onInt k rb fun b u k=> ?_
  cases op with
  | Lt=>exact lt_int (by rw [←e];exact k.okS hs (ZpQ _))
  | LtE=>exact le_int (by rw [←e];exact k.okS hs (ZpQ _))
  | Gt=>exact gt_int (by rw [←e];exact k.okS hs (ZpQ _))
  | GtE=>exact ge_int (by rw [←e];exact k.okS hs (ZpQ _))
  | _=>exact False.elim k
 | bytes a=>
  obtain ⟨b,t,rfl,_,rfl⟩:=ra
  refine K.onBytes k rb fun c u _ k=> ?_
  cases op with
  | Lt=>exact compareOp_gives (op:= .Lt) (W.typeIs_bytes s b t) (W.typeIs_bytes s c u) Zpk ZpG (ZpM _ _) (Zqt b c t u) (fun e=>nomatch e) (k.okS hs (ZpQ _))
  | LtE=>exact compareOp_gives (op:= .LtE) (W.typeIs_bytes s b t) (W.typeIs_bytes s c u) ZqG Zqs (ZqH _ _) (Zqu b c t u) (fun e=>nomatch e) (k.okS hs (ZpQ _))
  | _=>exact False.elim k
 | _=>exact False.elim k
theorem Zrt {a b:Ty}:(a.name == b.name)=decide (a=b):=by revert a b;intro a b;cases a<;>cases b<;>rfl
theorem Zpt {y:D} {va vb:Value} {b:Bool} {f:Bool→Out D} (h1:isSame va .none=pure b) (h2:∀c,isSame va (.bool c)=pure false) (rb:Rep Y.P Z y vb) (k:K Y Z (Rep Y.P) (noneOr (.ok b) y>>=f) Q E s):∃b,isSame va vb=pure b∧K Y Z (Rep Y.P) (f b) Q E s:=by
 cases y with
 | none=>cases rb;exact ⟨b,h1,k⟩
 | bool c=>cases rb;exact ⟨false,h2 c,k⟩
 | _=>exact False.elim k
theorem ZrI {x y:D} {va vb:Value} {f:Bool→Out D} (ra:Rep Y.P Z x va) (rb:Rep Y.P Z y vb) (k:K Y Z (Rep Y.P) (isThing x y>>=f) Q E s):∃b,isSame va vb=pure b∧K Y Z (Rep Y.P) (f b) Q E s:=by
 cases x with
 | none=>cases ra;exact Zpt rfl (fun _=>rfl) rb k
 | bool a=>
  cases ra
  cases y with
  | bool b=>cases rb;cases a<;>cases b<;>exact ⟨_,rfl,k⟩
  | _=>exact False.elim k
 | typ a=>
  cases ra
  cases y with
  | typ b=>cases rb;exact ⟨_,congrArg pure (by rw [Bool.eq_iff_iff,beq_iff_eq,decide_eq_true_eq];exact ⟨fun e=>of_decide_eq_true (Zrt.symm.trans (beq_iff_eq.mpr (by injection e))),fun e=>by rw [e]⟩),k⟩
  | _=>exact False.elim k
 | int a=>obtain ⟨t,rfl⟩:=ra;exact Zpt rfl (fun _=>rfl) rb k
 | str a=>obtain ⟨x,t,rfl,_⟩:=ra;exact Zpt rfl (fun _=>rfl) rb k
 | _=>exact False.elim k
noncomputable def vInt (i:Int):Value→Bool
 | .int j _=>j == i
 | _=>false
noncomputable def vStr (x:Str):Value→Bool
 | .str y _=>y == x
 | _=>false
theorem Ztf {i:Int} {xs:List D} {vs:List Value} (r:Reps P Z xs vs):xs.all isInt=true→(∀y∈vs,∃i t,y = .int i t)∧vs.any (vInt i)=xs.any fun x=>keyIs x (.int i):=by
 refine r.ind (mo:=fun xs vs=>xs.all isInt=true→(∀y∈vs,∃i t,y = .int i t)∧vs.any (vInt i)=xs.any fun x=>keyIs x (.int i)) (fun _=>⟨fun y h=>(nomatch h),rfl⟩) fun d v ds vs a _ ih ha=> ?_
 rw [List.all_cons,Bool.and_eq_true] at ha
 obtain ⟨h1,h2⟩:=ih ha.2
 cases d with
 | int j=>
  obtain ⟨t,rfl⟩:=a
  exact ⟨fun y h=>(List.mem_cons.mp h).elim (fun e=>⟨j,t,e⟩) (h1 y),by rw [List.any_cons,List.any_cons,h2];rfl⟩
 | _=>cases ha.1
theorem Ztg {x:Str} {xs:List D} {vs:List Value} (r:Reps P Z xs vs):xs.all isStr=true→(∀y∈vs,∃i t,y = .str i t)∧vs.any (vStr x)=xs.any fun y=>keyIs y (.str x.cps.toList):=by
 refine r.ind (mo:=fun xs vs=>xs.all isStr=true→(∀y∈vs,∃i t,y = .str i t)∧vs.any (vStr x)=xs.any fun y=>keyIs y (.str x.cps.toList)) (fun _=>⟨fun y h=>(nomatch h),rfl⟩) fun d v ds vs a _ ih ha=> ?_
 rw [List.all_cons,Bool.and_eq_true] at ha
 obtain ⟨h1,h2⟩:=ih ha.2
 cases d with
 | str j=>
  obtain ⟨y,t,rfl,_,rfl⟩:=a
  exact ⟨fun z h=>(List.mem_cons.mp h).elim (fun e=>⟨y,t,e⟩) (h1 z),by rw [List.any_cons,List.any_cons,h2,show keyIs (.str y.cps.toList) (.str x.cps.toList)=(y.cps.toList == x.cps.toList) from rfl,str_beq];rfl⟩
 | _=>cases ha.1
theorem ZsN {k:D} (ks:List D):∀{vs:List D},ks.length=vs.length→(ks.any fun x=>keyIs x k)=(dget k ks vs).isSome:=by
 induction ks with
 | nil=>intro vs _;rfl
 | cons x ks ih=>
  intro vs h
  cases vs with
  | nil=>cases h
  | cons v vs=>
   show (keyIs x k || _)=(if keyIs x k=true then some v else dget k ks vs).isSome
   rw [ih (Nat.succ.inj h)]
   cases keyIs x k<;>rfl
theorem ZrQ {a:Option Value} {b:Option D} (h:FlatO a b):a.isSome=b.isSome:=by
 cases a<;>cases b<;>first | rfl | exact False.elim h
theorem ZsO {x y:D} {va vb:Value} (hs:Sub Z s.heap) (ra:Rep Y.P Z x va) (rb:Rep Y.P Z y vb) (k:K Y Z (Rep Y.P) (inD x y) Q E s):wpAny Y.M Y.A (compareOp .In va vb) Q E s:=by
 cases y with
 | dict ks vs=>
  refine K.onStr k ra fun x t z k=>K.ite k fun hall k=> ?_
  obtain ⟨a,rfl,rb | rb⟩:=rb
  ·obtain ⟨f,h1,h2⟩:=rb.at_
   refine wpAny_in_of (strKind_is _ _ x t) rb.sys (h1 _ hs) ?_
   rw [ZrQ (h2 x),←ZsN ks rb.len]
   exact k.ok hs (ZpQ _) _
  ·exact (ZrH rb.ne rb.all hall).elim
 | list xs=>
  obtain ⟨a,vs,n,rfl,e,z,q⟩:=rb
  refine K.onInt k ra fun i t k=>K.ite k fun hall k=> ?_
  obtain ⟨h1,h2⟩:=Ztf (i:=i) q hall
  refine SeqAt.in_listAt (vInt i) ⟨_,hs _ _ e,rfl,n,rfl⟩ (fun y hy=> ?_) ?_
  ·obtain ⟨j,t',rfl⟩:=h1 y (by simpa using hy)
   exact EqAt.int_int _ _ _ _
  ·rw [List.any_toArray,h2];exact k.okS hs (ZpQ _)
 | tuple xs=>
  obtain ⟨a,vs,n,rfl,e,z,q⟩:=rb
  refine K.onStr k ra fun x t z k=>K.ite k fun hall k=> ?_
  obtain ⟨h1,h2⟩:=Ztg (x:=x) q hall
  refine SeqAt.in_tupleAt (vStr x) ⟨_,hs _ _ e,rfl,n,rfl⟩ (fun y hy=> ?_) ?_
  ·obtain ⟨j,t',rfl⟩:=h1 y (by simpa using hy)
   exact EqAt.str_str _ _ _ _
  ·rw [List.any_toArray,h2];exact k.okS hs (ZpQ _)
 | _=>exact False.elim k
theorem Ztd {x y:D} {va vb:Value} {f:Bool→Out D} {G:Prop} (hs:Sub Z s.heap) (ra:Rep Y.P Z x va) (rb:Rep Y.P Z y vb) (k:K Y Z (Rep Y.P) (D.peq eqDeep x y>>=f) Q E s) (g:∀b,Cmp s eqDeep b va vb→K Y Z (Rep Y.P) (f b) Q E s→G):G:=by
 have h:=peq_ok hs eqDeep ra rb
 generalize D.peq eqDeep x y=o at h k
 cases o with
 | ok b=>exact g b h k
 | exc=>exact False.elim h
 | stuck=>exact False.elim k
theorem Zqh {op:CmpOp} {va vb:Value} {x y:D} (hu:Y.A.units+70 < cLine) (hs:Sub Z s.heap) (ra:Rep Y.P Z x va) (rb:Rep Y.P Z y vb) (k:K Y Z (Rep Y.P) (cmpop ordI op x y) Q E s):wpAny Y.M Y.A (compareOp op va vb) Q E s:=by
 have hd:Y.A.units+eqDeep < cLine:=Nat.lt_of_le_of_lt (Nat.add_le_add_left (by decide) _) hu
 cases op with
 | Eq=>exact Ztd hs ra rb k fun b c k=>c.eq _ hd _ _ E Q (k.okS hs (ZpQ _))
 | NotEq=>exact Ztd hs ra rb k fun b c k=>c.ne _ hd _ _ E Q (k.okS hs (ZpQ _))
 | Is=>obtain ⟨b,e,k⟩:=ZrI ra rb k;exact wpAny_bind (wpAny_of_eq e (wpAny_pure (k.okS hs (ZpQ _))))
 | IsNot=>obtain ⟨b,e,k⟩:=ZrI ra rb k;exact wpAny_bind (wpAny_of_eq e (wpAny_pure (k.okS hs (ZpQ _))))
 | In=>exact ZsO hs ra rb k
 | _=>exact Zso hs ra rb k
end DK.Internal
end
section
set_option backward.match.sparseCases false
set_option genSizeOf false
set_option genCtorIdx false
set_option maxRecDepth 100000
set_option genSizeOf false
set_option genInjectivity false
namespace DK.Internal
section
open PySem PyProof.Rows PySem.SeqAt PySem.Builtin
theorem Zpu:PySem.Slot "bytes" "join" "bytes.join" :=
 .of (owner:= "bytes") (n:= "join") (by rw [typeLookup_type,builtinLookup_eq_fast];kernel_rfl) (by decide +kernel) (by decide +kernel) (by decide +kernel)
  (by first | exact .inl (by decide +kernel) | exact .inr (by decide +kernel)) (by rw [isSubtype_type];kernel_rfl)
theorem Zqi:typeOf (.builtin "bytes.join")=pure (.type "method_descriptor"):=by show builtinType _=_;rw [builtinType_eq_fast];kernel_rfl
theorem Zqa:entryFor table "bytes.join" = some Builtin.«bytes.join»:=entryFor_of_tree (by kernel_rfl)
theorem Zqj (a b:Value):argsOk "bytes.join" ⟨[a,b],[]⟩:=by
 unfold argsOk;rw [signature?_of (id:= "bytes.join") (n:= ['n','i','o','j']) (o:= ['s','e','t','y','b']) (by kernel_rfl) W.FB.owner_bytes];kernel_rfl
theorem Zpc:typeLookup (.type "bytes") "__buffer__" = pure (some (.builtin "bytes.__buffer__")):=by rw [typeLookup_type,builtinLookup_eq_fast];kernel_rfl
theorem ZqV:typeLookup (.type "bytes") "__release_buffer__" = pure none:=by rw [typeLookup_type,builtinLookup_eq_fast];kernel_rfl
section
variable {M:Model} {A:Around} {E:Value→Shared→Prop} {s:Shared}
theorem ZpV {b:Array UInt8} {t:Tok} {Q:Bool→Shared→Prop} (h:Q true s):wpAny M A (Bytes.slotIsOwn (.bytes b t) "__buffer__") Q E s:=by
 unfold Bytes.slotIsOwn
 refine wpAny_bind (wpAny_specialOf (W.typeIs_bytes s b t) Zpc ?_)
 have e:(String.endsWith "bytes.__buffer__" ("." ++ "__buffer__"))=true:=by decide +kernel
 simp only [e,Bool.not_true,Bool.false_eq_true,if_false]
 have e2:("bytes.__buffer__".dropRight ("__buffer__".length+1)) = "bytes" :=by decide +kernel
 rw [e2]
 exact wpAny_isInstance (W.typeIs_bytes s b t) F.sub_bytes_bytes h
theorem ZqJ {b:Array UInt8} {t:Tok} {Q:Bool→Shared→Prop} (h:Q false s):wpAny M A (Bytes.ownRelease (.bytes b t)) Q E s:=by
 unfold Bytes.ownRelease Bytes.slotIsOwn
 refine wpAny_bind (wpAny_bind (wpAny_specialOf (W.typeIs_bytes s b t) ZqV ?_))
 exact wpAny_pure (wpAny_pure h)
theorem Zsp {id:String} {b:Array UInt8} {t:Tok} {Q:Option (Array UInt8)→Shared→Prop} (h:Q (some b) s):wpAny M A (Bytes.buffer? id (.bytes b t) false) Q E s:=by
 unfold Bytes.buffer?
 refine wpAny_bind (wpAny_specialOf (W.typeIs_bytes s b t) Zpc ?_)
 refine wpAny_bind (ZpV ?_)
 simp only [Bool.not_true,Bool.false_eq_true,if_false]
 refine wpAny_bind (wpAny_specialOf (W.typeIs_bytes s b t) Zpc ?_)
 refine wpAny_bind (ZqJ ?_)
 simp only [Bool.false_eq_true,if_false]
 exact wpAny_bind (wpAny_of_eq (a:=b) rfl (wpAny_pure h))
theorem ZqK {id:String} {b:Array UInt8} {t:Tok} {Q:Option (Array UInt8 × Option Value)→Shared→Prop} (h:Q (some (b,none)) s):wpAny M A (Bytes.takeBufferQuiet? id (.bytes b t) 0) Q E s:=by
 unfold Bytes.takeBufferQuiet? Bytes.takeBuffer?
 refine wpAny_bind (wpAny_attempt ?_)
 refine wpAny_bind (wpAny_specialOf (W.typeIs_bytes s b t) Zpc ?_)
 refine wpAny_bind (ZpV ?_)
 simp only [Bool.not_true,Bool.false_eq_true,if_false]
 refine wpAny_bind (wpAny_specialOf (W.typeIs_bytes s b t) Zpc ?_)
 have e:((0:Int) == Bytes.fullReadOnly)=false:=by decide
 simp only [e]
 refine wpAny_bind (Zsp ?_)
 exact wpAny_pure (wpAny_pure h)
end
inductive BytesAre:List Value→List (List UInt8)→Prop
 | nil:BytesAre [] []
 | cons (b:Array UInt8) (t:Tok) {vs:List Value} {bs:List (List UInt8)}:BytesAre vs bs→BytesAre (.bytes b t::vs) (b.toList::bs)
theorem Zqx:∀(ps:List (Array UInt8)) (k:Nat) (acc:Array UInt8),((ps.zipIdx k).foldl (fun out (p,i)=>(if i > 0 then out++(#[]:Array UInt8) else out)++p) acc).toList=acc.toList++(ps.map Array.toList).flatten
 | [],k,acc=>by simp
 | p::ps,k,acc=>by
  simp only [List.zipIdx_cons,List.foldl_cons]
  rw [Zqx ps (k+1)]
  split<;>simp [List.append_assoc]
theorem ZqW:∀(ps:List (Array UInt8)) (n:Nat),ps.foldl (fun x p=>x+p.size) n=n+((ps.map Array.toList).flatten).length
 | [],n=>by simp
 | p::ps,n=>by
  simp only [List.foldl_cons,List.map_cons,List.flatten_cons,List.length_append,Array.length_toList]
  rw [ZqW ps];exact Nat.add_assoc _ _ _
theorem ZpW {M:Model} {A:Around} {E:Value→Shared→Prop} {s:Shared} {keep:List Value}:∀{tk:List (Value × Option Value)} {Q:Unit→Shared→Prop},(∀p∈tk,p.2=none)→Q () s→wpAny M A (Bytes.joinLetGo tk keep) Q E s
 | [],_,_,h=>wpAny_pure h
 | (x,u)::rest,Q,hp,h=>by
  have hu:u=none:=hp (x,u) (by simp)
  subst hu
  unfold Bytes.joinLetGo
  refine wpAny_bind (wpAny_letGo ?_)
  exact ZpW (fun p q=>hp p (List.mem_cons_of_mem _ q)) h
theorem ZqL {M:Model} {A:Around} {α:Type} {Q:α→Shared→Prop} {E:Value→Shared→Prop} {s:Shared} {c:Prop} [Decidable c] {m n:Sem α} (h:¬c) (k:wpAny M A n Q E s):wpAny M A (if c then m else n) Q E s:=by
 rw [if_neg h];exact k
theorem BytesAre.len {vs:List Value} {bs:List (List UInt8)} (h:BytesAre vs bs):vs.length=bs.length:=by
 induction h with
 | nil=>rfl
 | cons b u _ ih=>exact congrArg (· + 1) ih
theorem BytesAre.get {vs:List Value} {bs:List (List UInt8)} (h:BytesAre vs bs):∀i,i < vs.length→∃b u,vs.toArray.getD i Value.none = .bytes b u∧bs[i]?=some b.toList:=by
 induction h with
 | nil=>exact fun _ h=>absurd h (Nat.not_lt_zero _)
 | cons b u _ ih=>
  intro i hi
  cases i with
  | zero=>exact ⟨b,u,rfl,rfl⟩
  | succ i=>
   obtain ⟨b',u',q1,q2⟩:=ih i (Nat.lt_of_succ_lt_succ hi)
   exact ⟨b',u',by simpa using q1,q2⟩
abbrev JS:=Array (Array UInt8) × List (Value × Option Value)
theorem ZrR {P:Prop} (k:∀(f:Tok→Value→Sem PySem.Fin) (g:Tok→Value→Option (Array Value)→Sem PySem.Fin) (m j:Tok→Value→Array Value→Sem PySem.Fin) (h:Tok→Value→Value→Value→Sem PySem.Fin) (e:Tok→Value→Value→Sem PySem.Fin) (b:Value→Array Value→Nat→JS→Sem (ForInStep JS)) (fin:Tok→JS→Sem PySem.Fin)
  (b1:Value→Array Value→Nat→JS→Option (Array Value)→Sem (ForInStep JS)) (b2:Value→Array Value→Nat→JS→Array Value→Option (Array UInt8 × Option Value)→Sem (ForInStep JS)) (x1:Value→Array Value→Nat→JS→Array Value→Sem (ForInStep JS)) (hs:Value→Nat→JS→Array Value→List Value) (nm:String)
  (b3:Value→Array Value→Nat→JS→Array Value→Array UInt8→Option Value→Option (Array Value)→Sem (ForInStep JS)) (x2:Value→Array Value→Nat→JS→Array Value→Array UInt8→Option Value→Array Value→Sem (ForInStep JS)) (y1:JS→Array UInt8→Sem PySem.Fin) (hk:JS→Value→List Value),
  (∀t a,Builtin.«bytes.join» ⟨[.bytes #[] t,.ref a],[]⟩=(Bytes.joinItems (.ref a)>>=f t)) →
  (∀t q,f t q=(seqItems? q>>=g t q)) →
  (∀t q n,g t q (some n)=if (Bytes.Kind.bytes == Bytes.Kind.bytes)=true then m t q n else j t q n) →
  (∀t q n,j t q n=(forIn [:n.size] ((#[],[]):JS) (b q n)>>=fin t)) →
  (∀t q x,m t q #[x]=(typeOf x>>=h t q x)) →
  (∀t q,m t q #[]=j t q #[]) →
  (∀t q x y l,m t q (x::y::l).toArray=j t q (x::y::l).toArray) →
  (∀t q x y,h t q x y=if (y == .type "bytes")=true then (do rule "bytes.join.one-item";ret x) else e t q x) →
  (∀q n i c,b q n i c=(seqItems? q>>=b1 q n i c)) →
  (∀q n i c v,b1 q n i c (some v)=if (Bytes.Kind.bytes == Bytes.Kind.bytearray || c.2.any (·.1.onHeap))=true then x1 q n i c v else (holding (hs q i c v) (Bytes.takeBufferQuiet? nm (v.getD i .none) 0)>>=b2 q n i c v)) →
  (∀q n i c v p w,b2 q n i c v (some (p,w))=(seqItems? q>>=b3 q n i c v p w)) →
  (∀q n i c v p w u,b3 q n i c v p w (some u)=if (u.size != n.size)=true then x2 q n i c v p w u else pure (.yield (c.1.push p,c.2 ++ [(v.getD i .none,w)]))) →
  (∀t c,fin t c=(Bytes.payload (Value.bytes #[] t)>>=fun sep=>if Bytes.tooLong (c.1.foldl (· + ·.size) (sep.size*(c.1.size - 1)))=true then y1 c sep else do
   let r ←Bytes.Kind.bytes.new (Bytes.joined sep c.1.toList)
   holding (hk c r) point
   Bytes.joinLetGo c.2 [r]
   ret r))→P):P:=
 k _ _ _ _ _ _ _ _ _ _ _ _ _ _ _ _ _ (fun t a=>rfl) (fun t q=>rfl) (fun t q n=>rfl) (fun t q n=>rfl) (fun t q x=>rfl) (fun t q=>rfl) (fun t q x y l=>rfl) (fun t q x y=>rfl) (fun q n i c=>rfl) (fun q n i c v=>rfl) (fun q n i c v p w=>rfl) (fun q n i c v p w u=>rfl) (fun t c=>rfl)
theorem ZrS (a:Addr) (vs:List Value) (n:Nat) (bs:List (List UInt8)) (t:Tok) :
  Meets (Builtin.«bytes.join» ⟨[.bytes #[] t,.ref a],[]⟩) (fun _ R s=>s.heap.get? a=some { cls:= .type "list",dict:=none,data:= .seq vs.toArray n,slots:=#[] }∧BytesAre vs bs∧bs.flatten.length≤SZ ∧
   ∀t' k,R (.ok (.ret (.bytes bs.flatten.toArray t'))) { s with toks:=k }):=
 .of_wp fun prog w A R s h=>by
  obtain ⟨hl,hv,hz,h⟩:=h
  have hT:s.TypeIs (.ref a) "list" :=⟨_,hl,rfl⟩
  refine ZrR fun f g m j h' e b fin b1 b2 x1 hs nm b3 x2 y1 hk ea eb ec ed ee ef eg eh ei ej ek el em=> ?_
  rw [ea]
  have joinItems_list:∀{Q:Value→Shared→Prop} {E:Value→Shared→Prop},Q (.ref a) s→wpAny (model prog w) A.in1 (Bytes.joinItems (.ref a)) Q E s:=by
   intro Q E hq
   unfold Bytes.joinItems
   refine wpAny_bind (wpAny_typeOf hT ?_)
   exact wpAny_pure hq
  refine wpAny_bind (joinItems_list ?_)
  rw [eb]
  refine wpAny_bind (wpAny_seqItems hl rfl ?_)
  rw [ec,if_pos (show (Bytes.Kind.bytes == Bytes.Kind.bytes)=true from rfl)]
  have fi:∀(c:JS),c.1.toList.map Array.toList=bs→(∀p∈c.2,p.2=none)→wpAny (model prog w) A.in1 (fin t c) (fun fin s'=>∃v,fin = .done (.ret v)∧R (.ok (.ret v)) s') (fun e s'=>R (.error e) s') s:=by
   intro c hps htk
   rw [em]
   refine wpAny_bind (wpAny_of_eq (a:=(#[]:Array UInt8)) rfl ?_)
   have hfl:c.1.foldl (fun x p=>x+p.size) ((#[]:Array UInt8).size*(c.1.size - 1))=bs.flatten.length:=by
    rw [←Array.foldl_toList,ZqW,hps];simp
   have hsz:SZ≤sizeLine:=ZoW
   refine ZqL (by rw [hfl];simp only [Bytes.tooLong,decide_eq_true_eq];lia) ?_
   have hj:Bytes.joined #[] c.1.toList=bs.flatten.toArray:=by
    apply Array.toList_inj.mp
    unfold Bytes.joined
    rw [Zqx,hps];simp
   rw [hj]
   refine wpAny_bind (m:=mkBytes _) (wpAny_mkBytes ?_ (by rw [List.size_toArray];exact Nat.le_trans (by assumption) (by assumption)))
   refine wpAny_bind (wpAny_holding (wpAny_point ?_))
   refine wpAny_bind (ZpW htk ?_)
   exact wpAny_pure ⟨_,rfl,h _ _⟩
  have lp:wpAny (model prog w) A.in1 (j t (.ref a) vs.toArray) (fun fin s'=>∃v,fin = .done (.ret v)∧R (.ok (.ret v)) s') (fun e s'=>R (.error e) s') s:=by
   rw [ed,Std.Legacy.Range.forIn_eq_forIn_range']
   simp only [Std.Legacy.Range.size,Nat.sub_zero,Nat.add_sub_cancel,Nat.div_one,List.size_toArray]
   have hget:=hv.get
   have hlen:=hv.len
   refine wpAny_bind (wpAny_forIn_list _
    (fun r c s'=>s'=s∧∃i,r=List.range' i (vs.length - i)∧i≤vs.length∧c.1.toList.map Array.toList=bs.take i∧(∀p∈c.2,p.2=none)∧(∀p∈c.2,p.1.onHeap=false))
    _ ?_ ?_ _ _ ⟨rfl,0,by simp,Nat.zero_le _,by simp,by simp,by simp⟩)
   ·rintro x r c s' ⟨rfl,i,hr,hi,hp,h2,h3⟩
    have hlt:i < vs.length:=by
     rcases Nat.lt_or_ge i vs.length with h | h
     ·exact h
     ·rw [Nat.sub_eq_zero_of_le h] at hr;simp at hr
    obtain ⟨rfl,hrest⟩:x=i∧r=List.range' (i+1) (vs.length - (i+1)):=by
     have e:vs.length - i=(vs.length - (i+1))+1:=by lia
     rw [e,List.range'_succ] at hr
     injection hr with h1 h2
     exact ⟨h1,h2⟩
    obtain ⟨p,u,q1,q2⟩:=hget x hlt
    rw [ei]
    refine wpAny_bind (wpAny_seqItems hl rfl ?_)
    have e3:(Bytes.Kind.bytes == Bytes.Kind.bytearray || c.2.any fun x=>x.1.onHeap)=false:=by
     have:(Bytes.Kind.bytes == Bytes.Kind.bytearray)=false:=rfl
     rw [this,Bool.false_or,List.any_eq_false]
     intro p hp;simp [h3 p hp]
    rw [ej]
    refine ZqL (by rw [e3];exact Bool.false_ne_true) ?_
    rw [q1]
    refine wpAny_bind (wpAny_holding (ZqK ?_))
    rw [ek]
    refine wpAny_bind (wpAny_seqItems hl rfl ?_)
    rw [el,q1]
    refine ZqL (by simp) (wpAny_pure ?_)
    refine ⟨rfl,x+1,hrest,hlt,?_,?_,?_⟩
    ·simp only [Array.toList_push,List.map_append,hp,List.map_cons,List.map_nil]
     rw [List.take_add_one,q2];rfl
    ·intro p hp;rcases List.mem_append.mp hp with hp | hp
     ·exact h2 p hp
     ·simp at hp;rw [hp]
    ·intro p hp;rcases List.mem_append.mp hp with hp | hp
     ·exact h3 p hp
     ·simp at hp;rw [hp];rfl
   ·rintro c s' ⟨rfl,i,hr,hi,hp,h2,h3⟩
    have hin:i=vs.length:=by
     rcases Nat.lt_or_ge i vs.length with h | h
     ·have e:vs.length - i=(vs.length - (i+1))+1:=by lia
      rw [e,List.range'_succ] at hr;cases hr
     ·lia
    subst hin
    rw [hlen,List.take_length] at hp
    exact fi c hp h2
  rcases vs with _ | ⟨v1,_ | ⟨v2,rest⟩⟩
  ·exact (ef t (.ref a)).symm ▸ lp
  ·rw [ee]
   cases hv with
   | cons b u hr=>
    cases hr
    refine wpAny_bind (wpAny_typeOf (W.typeIs_bytes s b u) ?_)
    rw [eh,if_pos (show (Value.type "bytes" == Value.type "bytes")=true by decide)]
    refine wpAny_bind (wpAny_rule (wpAny_pure ⟨_,rfl,?_⟩))
    have hh:R (.ok (.ret (.bytes b u))) s:=by simpa using h u s.toks
    exact hh
  ·rw [eg]
   exact lp
end
open PySem PyProof.Rows
theorem Zpv:∀a,lexLt a a=false
 | []=>rfl
 | x::a=>by simp [lexLt,Zpv a]
theorem Zpl:∀a b c,lexLt a b=true→lexLt b c=true→lexLt a c=true
 | [],[],_,h,_=>by simp [lexLt] at h
 | [],_::_,[],_,h=>by simp [lexLt] at h
 | [],_::_,_::_,_,_=>rfl
 | _::_,[],_,h,_=>by simp [lexLt] at h
 | _::_,_::_,[],_,h=>by simp [lexLt] at h
 | x::a,y::b,z::c,h1,h2=>by
  have ih:=Zpl a b c
  simp only [lexLt] at h1 h2 ⊢
  by_cases e1:x.toNat < y.toNat
  ·by_cases e2:y.toNat < z.toNat
   ·rw [if_pos (by lia)]
   ·rw [if_neg e2] at h2
    by_cases e3:y.toNat=z.toNat
    ·rw [if_pos (by lia)]
    ·rw [if_neg e3] at h2;cases h2
  ·rw [if_neg e1] at h1
   by_cases e4:x.toNat=y.toNat
   ·rw [if_pos e4] at h1
    by_cases e2:y.toNat < z.toNat
    ·rw [if_pos (by lia)]
    ·rw [if_neg e2] at h2
     by_cases e3:y.toNat=z.toNat
     ·rw [if_pos e3] at h2;rw [if_neg (by lia),if_pos (by lia)];exact ih h1 h2
     ·rw [if_neg e3] at h2;cases h2
   ·rw [if_neg e4] at h1;cases h1
theorem Zpm:∀a b,lexLt a b=false→lexLt b a=false→a=b
 | [],[],_,_=>rfl
 | [],_::_,h,_=>by simp [lexLt] at h
 | _::_,[],_,h=>by simp [lexLt] at h
 | x::a,y::b,h1,h2=>by
  simp only [lexLt] at h1 h2
  by_cases e1:x.toNat < y.toNat
  ·rw [if_pos e1] at h1;cases h1
  ·rw [if_neg e1] at h1
   by_cases e2:y.toNat < x.toNat
   ·rw [if_pos e2] at h2;cases h2
   ·rw [if_neg e2] at h2
    have e3:x.toNat=y.toNat:=by lia
    rw [if_pos e3] at h1;rw [if_pos e3.symm] at h2
    rw [Zpm a b h1 h2,UInt8.toNat_inj.mp e3]
theorem ZqX (a b c:List UInt8) (h:lexLt a c=true):lexLt a b=true∨lexLt b c=true:=by
 by_cases h1:lexLt a b=true
 ·exact .inl h1
 ·by_cases h2:lexLt b a=true
  ·exact .inr (Zpl _ _ _ h2 h)
  ·have e:=Zpm a b (by simpa using h1) (by simpa using h2)
   subst e;exact .inr h
@[reducible] noncomputable def bytesKind:KeyKind where
 α:=List UInt8
 blt:=lexLt
 irrefl:=Zpv
 trans:=Zpl
 negTrans:=ZqX
 total:=Zpm
 keyOf v:=match v with | .bytes x _=>some x.toList | _=>none
 dflt:= []
section
variable {prog:Program} {w:World} {A:Around} {E:Value→Shared→Prop} {s:Shared}
theorem ZqM {a b:Array UInt8} {t u:Tok} {Q:Value→Shared→Prop} (h:Q (.bool (lexLt a.toList b.toList)) s) :
  wpAny (model prog w) A (call (.builtin "bytes.__lt__") [.bytes a t,.bytes b u]) Q E s:=by
 refine wpAny_call_entry Zpk (W.typeIs_bytes s a t) ZpG ?_ (ZpM _ _)
 show wpAny _ _ (isInstance (.bytes b u) (.type "bytes")>>=fun r=>_) _ _ s
 refine wpAny_bind (wpAny_isInstance (W.typeIs_bytes s b u) F.sub_bytes_bytes ?_)
 refine wpAny_pure ⟨_,rfl,?_⟩
 rw [←(ZqI _ _).1] at h
 exact h
theorem Zru {a b:Array UInt8} {t u:Tok} {Q:Bool→Shared→Prop} (h:Q (lexLt a.toList b.toList) s):wpAny (model prog w) A (oneLt' true (.bytes a t) (.bytes b u)) Q E s:=by
 rw [oneLt'_eq]
 simp only [if_true]
 refine wpAny_bind (wpAny_cRoomFor_byValue rfl ?_)
 refine wpAny_bind (wpAny_callSpecialIfBound?_slot (W.typeIs_bytes s a t) Zpk (ZqM ?_))
 exact wpAny_truthy_bool h
end
theorem Zqk:bytesKind.OneLt:=by
 intro prog w A E s x y a b Q ha hb h
 cases x<;>simp only [bytesKind,reduceCtorEq,Option.some.injEq] at ha
 cases y<;>simp only [bytesKind,reduceCtorEq,Option.some.injEq] at hb
 cases ha;cases hb
 exact Zru h
noncomputable def bytesOfV:Value→List UInt8
 | .bytes x _=>x.toList
 | _=> []
theorem BytesAre.all:∀{vs:List Value} {ss:List (List UInt8)},BytesAre vs ss→∀v,v∈vs→∃x t,v = .bytes x t
 | _,_,.nil,v,hv=>by simp at hv
 | _,_,.cons x t h,v,hv=>by
  rcases List.mem_cons.mp hv with rfl | hv
  ·exact ⟨_,t,rfl⟩
  ·exact BytesAre.all h v hv
theorem BytesAre.strs:∀{vs:List Value} {ss:List (List UInt8)},BytesAre vs ss→vs.map bytesOfV=ss
 | _,_,.nil=>rfl
 | _,_,.cons x t h=>by rw [List.map_cons,BytesAre.strs h];simp [bytesOfV]
theorem ZqY {vs:List Value} {ss:List (List UInt8)} (hS:BytesAre vs ss):KeysOf bytesKind (pairsOf vs):=by
 intro p hp
 rw [pairsOf_toList] at hp
 obtain ⟨x,t,e⟩:=BytesAre.all hS _ (mem_zip_self hp).2
 exact ⟨x.toList,by rw [e]⟩
theorem ZrJ {xs:Array Keyed} {i:Nat} (hi:i < xs.size) {x:Array UInt8} {t:Tok} {q:Value} (hx:xs[i]=(.bytes x t,q)):KK bytesKind xs i=x.toList:=by
 unfold KK;rw [getElem?_pos xs i hi,hx];rfl
theorem ZpI (x:Array UInt8) (t:Tok):firstOfTuple' (.bytes x t)=pure none:=rfl
theorem Zpr:∀{vs:List Value},(∀v∈vs,∃x t,v = .bytes x t)→vs.mapM firstOfTuple'=pure (vs.map fun _=>none)
 | [],_=>by simp
 | v::vs,h=>by
  obtain ⟨x,t,rfl⟩:=h v (by simp)
  rw [List.mapM_cons,ZpI,Zpr fun u hu=>h u (by simp [hu])];simp
theorem Zpj:∀{vs:List Value},(∀v∈vs,∃x t,v = .bytes x t)→vs.mapM typeOf=pure (vs.map fun _=>Value.type "bytes")
 | [],_=>by simp
 | v::vs,h=>by
  obtain ⟨x,t,rfl⟩:=h v (by simp)
  rw [List.mapM_cons,Zpj fun u hu=>h u (by simp [hu])]
  show (pure (Value.type "bytes")>>=fun b=>pure _>>=fun bs=>pure (b::bs))=_
  simp
theorem ZqN {v₁ v₂:Value} {vs:List Value} (hS:∀v∈v₁::v₂::vs,∃x t,v = .bytes x t):keyKind' (v₁::v₂::vs).toArray=pure oneType':=by
 rw [keyKind'_eq,List.mapM_toArray,Zpr hS]
 simp only [map_pure,pure_bind]
 rw [if_neg (by simp),if_neg (by simp)]
 rw [oneTypeOnly'_eq,List.mapM_toArray,Zpj hS]
 simp only [map_pure,pure_bind]
 have hall:((List.map (fun _=>Value.type "bytes") (v₁::v₂::vs)).toArray.all fun x=>x == Value.type "bytes")=true:=by
  simp only [List.all_toArray,List.all_map,List.all_eq_true]
  intro _ _
  rfl
 have h0:(List.map (fun _=>Value.type "bytes") (v₁::v₂::vs)).toArray[0]?=some (Value.type "bytes"):=by simp
 rw [h0]
 simp only [hall,if_true,pure_bind,Option.isSome_some]
theorem Zql (x:List UInt8):∀l,(insB x l).Perm (x::l)
 | []=> .refl _
 | y::l=>by
  unfold insB;split
  ·exact ((Zql x l).cons y).trans (.swap _ _ _)
  ·exact .refl _
theorem Zqy:∀l,(sortB l).Perm l
 | []=> .refl _
 | x::l=>(Zql x _).trans ((Zqy l).cons x)
theorem Zrv {a b c:List UInt8} (h1:lexLt b a=false) (h2:lexLt c b=false):lexLt c a=false:=by
 cases h:lexLt c a with
 | false=>rfl
 | true=>
      rcases ZqX _ b _ h with q | q
      ·rw [h2] at q;cases q
      ·rw [h1] at q;cases q
theorem Zqm (x:List UInt8):∀l,l.Pairwise (fun a b=>lexLt b a=false)→(insB x l).Pairwise (fun a b=>lexLt b a=false)
 | [],_=>by simp [insB]
 | y::l,h=>by
  have hy:=List.pairwise_cons.mp h
  unfold insB;split
  ·rename_i hlt
   refine List.pairwise_cons.mpr ⟨fun z hz=> ?_,Zqm x l hy.2⟩
   have hz:=(Zql x l).mem_iff.mp hz
   rcases List.mem_cons.mp hz with rfl | hz
   ·cases hq:lexLt z y with
    | false=>rfl
    | true=>have:=Zpl _ _ _ hlt hq;rw [Zpv] at this;cases this
   ·exact hy.1 z hz
  ·rename_i hlt
   have hlt:lexLt y x=false:=by simpa using hlt
   refine List.pairwise_cons.mpr ⟨fun z hz=> ?_,h⟩
   rcases List.mem_cons.mp hz with rfl | hz
   ·exact hlt
   ·exact Zrv hlt (hy.1 z hz)
theorem ZpX:∀l,(sortB l).Pairwise (fun a b=>lexLt b a=false)
 | []=> .nil
 | x::l=>Zqm x _ (ZpX l)
theorem ZpN:∀(l m:List (List UInt8)),l.Perm m→l.Pairwise (fun a b=>lexLt b a=false)→m.Pairwise (fun a b=>lexLt b a=false)→l=m
 | [],m,p,_,_=>by rw [List.nil_perm.mp p]
 | x::l,[],p,_,_=>by simp at p
 | x::l,y::m,p,h1,h2=>by
  have a1:=List.pairwise_cons.mp h1
  have a2:=List.pairwise_cons.mp h2
  have e:x=y:=by
   have m1:x∈y::m:=p.mem_iff.mp (by simp)
   have m2:y∈x::l:=p.mem_iff.mpr (by simp)
   rcases List.mem_cons.mp m1 with q | q
   ·exact q
   ·rcases List.mem_cons.mp m2 with q' | q'
    ·exact q'.symm
    ·exact Zpm _ _ (a2.1 x q) (a1.1 y q')
  subst e
  rw [ZpN l m (List.Perm.cons_inv p) a1.2 a2.2]
theorem ZrT {vs:List Value} {ss:List (List UInt8)} (hS:BytesAre vs ss) {xs:Array Keyed} (hp:xs.Perm (pairsOf vs)) (hs:SortedToK bytesKind xs (pairsOf vs).size) :
  (∀v∈(xs.map (·.2)).toList,∃x t,v = .bytes x t)∧(xs.map (·.2)).toList.length=vs.length∧(xs.map (·.2)).toList.map bytesOfV=sortB ss∧∀v∈(xs.map (·.2)).toList,v∈vs:=by
 have hl:xs.toList.Perm (vs.zip vs):=by rw [←pairsOf_toList];exact Array.perm_iff_toList_perm.mp hp
 have hmem:∀p,p∈xs.toList→p.1=p.2∧p.1∈vs:=fun p hp'=>mem_zip_self (hl.mem_iff.mp hp')
 have e:(xs.map (·.2)).toList=xs.toList.map (·.1):=by
  rw [Array.toList_map];exact List.map_congr_left fun p hp'=>(hmem p hp').1.symm
 have hin:∀v∈(xs.map (·.2)).toList,v∈vs:=by
  rw [e];intro v hv
  obtain ⟨p,hp',rfl⟩:=List.mem_map.mp hv
  exact (hmem p hp').2
 refine ⟨fun v hv=>BytesAre.all hS _ (hin v hv),?_,?_,hin⟩
 ·rw [e];simp [hl.length_eq]
 ·refine ZpN _ _ ?_ ?_ (ZpX ss)
  ·have h1:=hl.map (fun p=>bytesOfV p.1)
   have e2:(vs.zip vs).map (fun p=>bytesOfV p.1)=ss:=by
    have:(vs.zip vs).map (fun p=>bytesOfV p.1)=((vs.zip vs).map Prod.fst).map bytesOfV:=by rw [List.map_map];rfl
    rw [this,List.map_fst_zip (Nat.le_refl _),BytesAre.strs hS]
   rw [e2] at h1
   rw [e,List.map_map]
   exact h1.trans (Zqy ss).symm
  ·rw [e,List.map_map,List.pairwise_iff_getElem]
   intro i j hi hj hij
   have hi':i < xs.size:=by simpa using hi
   have hj':j < xs.size:=by simpa using hj
   have h1:=hs i j (Nat.le_of_lt hij) (by rw [←hp.size_eq];exact hj')
   obtain ⟨x,t,ex⟩:=BytesAre.all hS _ (hmem xs[i] (by simp)).2
   obtain ⟨y,u,ey⟩:=BytesAre.all hS _ (hmem xs[j] (by simp)).2
   rw [ZrJ hi' (x:=x) (t:=t) (q:=xs[i].2) (Prod.ext ex rfl),ZrJ hj' (x:=y) (t:=u) (q:=xs[j].2) (Prod.ext ey rfl)] at h1
   change lexLt y.toList x.toList=false at h1
   simp only [List.getElem_map,Array.getElem_toList,Function.comp]
   rw [ex,ey];exact h1
end DK.Internal
end
section
set_option backward.match.sparseCases false
set_option genSizeOf false
set_option genCtorIdx false
set_option maxRecDepth 100000
namespace DK.Internal
open PySem PyProof.Rows PySem.SeqAt
variable {Y:Cx} {P:Prg} {Z:Zm} {s:Shared} {Q:Value→Shared→Prop} {E:Value→Shared→Prop}
theorem Zsq {v:Value} {d:D} {t:Ty} (hs:Sub Z s.heap) (r:Rep Y.P Z d v) (k:K Y Z (fun _ (b:Bool) (v:Value)=>v = .bool b) (isInst d t) Q E s):wpAny Y.M Y.A (call (.builtin "isinstance") [v,.type t.name]) Q E s:=by
 cases t with
 | tTuple=>
  cases d with
  | none=>cases r;exact IsiPair.NoneType_tuple (k.ok hs rfl _)
  | int i=>obtain ⟨t,rfl⟩:=r;exact IsiPair.int_tuple (k.ok hs rfl _)
  | str i=>obtain ⟨x,t,rfl,_⟩:=r;exact IsiPair.str_tuple (k.ok hs rfl _)
  | tuple i=>obtain ⟨a,vs,n,rfl,e,_⟩:=r;exact IsiPair.tuple_tuple (hs _ _ e) rfl (k.okS hs rfl)
  | list i=>obtain ⟨a,vs,n,rfl,e,_⟩:=r;exact IsiPair.list_tuple (hs _ _ e) rfl (k.ok hs rfl _)
  | _=>exact False.elim k
 | tList=>
  cases d with
  | none=>cases r;exact IsiPair.NoneType_list (k.ok hs rfl _)
  | int i=>obtain ⟨t,rfl⟩:=r;exact IsiPair.int_list (k.ok hs rfl _)
  | str i=>obtain ⟨x,t,rfl,_⟩:=r;exact IsiPair.str_list (k.ok hs rfl _)
  | tuple i=>obtain ⟨a,vs,n,rfl,e,_⟩:=r;exact IsiPair.tuple_list (hs _ _ e) rfl (k.ok hs rfl _)
  | list i=>obtain ⟨a,vs,n,rfl,e,_⟩:=r;exact IsiPair.list_list (hs _ _ e) rfl (k.okS hs rfl)
  | _=>exact False.elim k
 | tInt=>
  cases d with
  | none=>cases r;exact IsiPair.NoneType_int (k.ok hs rfl _)
  | bool b=>cases r;exact IsiPair.bool_int (k.okS hs rfl)
  | int i=>obtain ⟨t,rfl⟩:=r;exact IsiPair.int_int (k.okS hs rfl)
  | str i=>obtain ⟨x,t,rfl,_⟩:=r;exact IsiPair.str_int (k.ok hs rfl _)
  | tuple i=>obtain ⟨a,vs,n,rfl,e,_⟩:=r;exact IsiPair.tuple_int (hs _ _ e) rfl (k.ok hs rfl _)
  | list i=>obtain ⟨a,vs,n,rfl,e,_⟩:=r;exact IsiPair.list_int (hs _ _ e) rfl (k.ok hs rfl _)
  | _=>exact False.elim k
 | tBytes=>
  cases d with
  | none=>cases r;exact IsiPair.NoneType_bytes (k.ok hs rfl _)
  | int i=>obtain ⟨t,rfl⟩:=r;exact IsiPair.int_bytes (k.ok hs rfl _)
  | str i=>obtain ⟨x,t,rfl,_⟩:=r;exact IsiPair.str_bytes (k.ok hs rfl _)
  | bytes b=>obtain ⟨x,t,rfl,_⟩:=r;exact call_isinstance (isinstance_true (Tx:= "bytes") F.isi_meta_bytes F.sub_bytes_bytes) ⟨rfl,k.okS hs rfl⟩
  | tuple i=>obtain ⟨a,vs,n,rfl,e,_⟩:=r;exact IsiPair.tuple_bytes (hs _ _ e) rfl (k.ok hs rfl _)
  | list i=>obtain ⟨a,vs,n,rfl,e,_⟩:=r;exact IsiPair.list_bytes (hs _ _ e) rfl (k.ok hs rfl _)
  | _=>exact False.elim k
 | _=>exact False.elim k
theorem ZqO {xs:List D} {vs:List Value} (r:Reps P Z xs vs):∀{is:List Int},intsOf xs=some is→IntsAre vs is:=by
 refine r.ind (mo:=fun xs vs=>∀{is:List Int},intsOf xs=some is→IntsAre vs is) (fun {is} h=>by cases h;exact .nil) fun d v ds vs a _ ih is h=> ?_
 cases d with
 | int i=>
  obtain ⟨t,rfl⟩:=a
  unfold intsOf at h
  cases hr:intsOf ds with
  | none=>rw [hr] at h;cases h
  | some js=>rw [hr] at h;cases h;exact .cons _ _ (ih hr)
 | _=>cases h
theorem ZqZ {xs:List D} {vs:List Value} (r:Reps P Z xs vs):∀{is:List (List UInt8)},byteStrs xs=some is→BytesAre vs is:=by
 refine r.ind (mo:=fun xs vs=>∀{is:List (List UInt8)},byteStrs xs=some is→BytesAre vs is) (fun {is} h=>by cases h;exact .nil) fun d v ds vs a _ ih is h=> ?_
 cases d with
 | bytes i=>
  obtain ⟨x,t,rfl,_,rfl⟩:=a
  unfold byteStrs at h
  cases hr:byteStrs ds with
  | none=>rw [hr] at h;cases h
  | some js=>rw [hr] at h;cases h;exact .cons _ _ (ih hr)
 | _=>cases h
theorem ZrU (xs:List D):∀{b:List UInt8},bytesOf xs=some b→∃is,intsOf xs=some is∧(∀n∈is,0≤n∧n < 256)∧b=is.map fun n=>n.toNat.toUInt8:=by
 induction xs with
 | nil=>intro b h;cases h;exact ⟨[],rfl,fun n h=>(nomatch h),rfl⟩
 | cons d ds ih=>
  intro b h
  unfold bytesOf at h
  cases hb:byteOf d with
  | none=>rw [hb] at h;cases h
  | some u=>
   rw [hb] at h
   cases h2:bytesOf ds with
   | none=>rw [h2] at h;cases h
   | some bs=>
    rw [h2] at h
    cases h
    obtain ⟨is,e1,e2,e3⟩:=ih h2
    cases d with
    | int i=>
     replace hb:(if 0≤i∧i < 256 then some (UInt8.ofNat i.toNat) else none)=some u:=hb
     by_cases hc:0≤i∧i < 256
     ·rw [if_pos hc] at hb
      cases hb
      exact ⟨i::is,by unfold intsOf;rw [e1],fun n hn=>(List.mem_cons.mp hn).elim (fun e=>e ▸ hc) (e2 n),by rw [e3];rfl⟩
     ·rw [if_neg hc] at hb;cases hb
    | _=>cases hb
noncomputable def biVal:Bi→Value
 | .len=> .builtin "len" | .bytes=> .type "bytes" | .ord=> .builtin "ord" | .str=> .type "str" | .typ=> .type "type" | .max=> .builtin "max"
 | .sum=> .builtin "sum" | .sorted=> .builtin "sorted" | .all=> .builtin "all" | _=> .none
theorem K.optO {α:Type} {o:Option α} {f:α→Out D} {G:Prop} (k:K Y Z (Rep Y.P) (optO o f) Q E s) (g:∀a,o=some a→K Y Z (Rep Y.P) (f a) Q E s→G):G:=by
 cases o with
 | none=>exact False.elim k
 | some a=>exact g a rfl k
theorem Zsr (is:List Int):∀m:Int,(maxI m is=m∨maxI m is∈is)∧m≤maxI m is∧∀a∈is,a≤maxI m is:=by
 induction is with
 | nil=>exact fun m=>⟨.inl rfl,Int.le_refl _,fun a h=>nomatch h⟩
 | cons x xs ih=>
  intro m
  show (maxI (if x > m then x else m) xs=m∨maxI (if x > m then x else m) xs∈x::xs)∧m≤maxI (if x > m then x else m) xs∧∀a∈x::xs,a≤maxI (if x > m then x else m) xs
  by_cases hx:x > m
  ·obtain ⟨h1,h2,h3⟩:=ih x
   rw [if_pos hx]
   exact ⟨.inr (h1.elim (fun e=>by rw [e];exact List.mem_cons_self ..) (List.mem_cons_of_mem _)),Int.le_trans (Int.le_of_lt hx) h2,fun a ha=>(List.mem_cons.mp ha).elim (fun e=>by rw [e];exact h2) (h3 a)⟩
  ·obtain ⟨h1,h2,h3⟩:=ih m
   rw [if_neg hx]
   exact ⟨h1.imp id (List.mem_cons_of_mem _),h2,fun a ha=>(List.mem_cons.mp ha).elim (fun e=>by rw [e];exact Int.le_trans (Int.not_lt.mp hx) h2) (h3 a)⟩
theorem Zss {v:Value} {d:D} (hs:Sub Z s.heap) (r:Rep Y.P Z d v) (k:K Y Z (Rep Y.P) (lenD d) Q E s):wpAny Y.M Y.A (call (.builtin "len") [v]) Q E s:=by
 have hz:SZ≤2 ^ 24:=by decide
 cases d with
 | tuple xs=>
  obtain ⟨a,vs,n,rfl,e,z,q⟩:=r
  exact P.len_tuple (hs _ _ e) (by rw [List.size_toArray];lia) (K.ok k hs (by rw [List.size_toArray,q.length];exact rInt _ _) _)
 | list xs=>
  obtain ⟨a,vs,n,rfl,e,z,q⟩:=r
  exact len_list ⟨_,hs _ _ e,rfl,_,rfl⟩ (by rw [List.size_toArray];lia) (K.ok k hs (by rw [List.size_toArray,q.length];exact rInt _ _) _)
 | bytes xs=>
  obtain ⟨b,t,rfl,z,rfl⟩:=r
  exact W.len_bytes (by exact Nat.le_trans (by assumption) (by decide)) (K.ok k hs (by rw [Array.length_toList];exact rInt _ _) _)
 | _=>exact False.elim k
theorem Zst {a:Addr} {vs:List Value} {n:Nat} {xs:List D} (hs:Sub Z s.heap) (hh:Y.A.handled=none) (e:s.heap.get? a=some (lstO vs n)) (q:Reps Y.P Z xs vs) (k:K Y Z (Rep Y.P) (optO (intsOf xs) maxL) Q E s):wpAny Y.M Y.A (call (.builtin "max") [.ref a]) Q E s:=by
 refine k.optO fun ns h k=> ?_
 cases ns with
 | nil=>exact False.elim k
 | cons m is=>
  have hi:=ZqO q h
  have hl:s.heap.IsList a vs.toArray:=⟨_,e,rfl,n,rfl⟩
  obtain ⟨ys,ey⟩:=hi.allInts.items
  have hns:(m::is)=ys.toList.map (·.1):=by rw [←hi.numsOf,←nums_intItems,←ey]
  have hlen:ys.size=is.length+1:=by rw [←Array.length_toList,←List.length_map (f:=(·.1)),←hns];rfl
  rw [ey] at hl
  refine max_intList hh hl (by lia) fun v h' tk hv hk=> ?_
  obtain ⟨t,rfl⟩:=intItems_at hv
  obtain ⟨h1,h2⟩:=argBest_gt (numAt ys) (ys.size - 1)
  obtain ⟨m1,m2,m3⟩:=Zsr is m
  have hmem:numAt ys (argBest (fun i j=>decide (numAt ys i > numAt ys j)) (ys.size - 1))∈(m::is):=by
   rw [hns,numAt_eq];exact getD_mem (by rw [List.length_map,Array.length_toList];omega)
  have hmax:maxI m is≤numAt ys (argBest (fun i j=>decide (numAt ys i > numAt ys j)) (ys.size - 1)):=by
   have:maxI m is∈(m::is):=m1.elim (fun e=>e.symm ▸ List.mem_cons_self ..) (List.mem_cons_of_mem _)
   rw [hns] at this
   obtain ⟨j,hj,ej⟩:=mem_getD this
   rw [List.length_map,Array.length_toList] at hj
   rw [←ej,←numAt_eq];exact h2 j (by lia)
  rw [Int.le_antisymm ((List.mem_cons.mp hmem).elim (fun e=>e ▸ m2) (m3 _)) hmax]
  exact k.keeps hs hk tk (rInt _ _)
theorem Zsu {a:Addr} {vs:List Value} {n:Nat} {xs:List D} (hs:Sub Z s.heap) (hh:Y.A.handled=none) (e:s.heap.get? a=some (lstO vs n)) (q:Reps Y.P Z xs vs) (k:K Y Z (Rep Y.P) (optO (intsOf xs) fun is=> .ok (.int is.sum)) Q E s):wpAny Y.M Y.A (call (.builtin "sum") [.ref a]) Q E s:=by
 refine k.optO fun ns h k=> ?_
 have hi:=ZqO q h
 have hl:s.heap.IsList a vs.toArray:=⟨_,e,rfl,n,rfl⟩
 obtain ⟨ys,ey⟩:=hi.allInts.items
 have hns:ns=ys.toList.map (·.1):=by rw [←hi.numsOf,←nums_intItems,←ey]
 rw [ey] at hl
 refine sum_intListG hh hl fun h' tk t' hk=> ?_
 have e2:preSum (numAt ys) ys.size=ns.sum:=by rw [preSum_eq,List.take_of_length_le (by simp),hns]
 rw [e2]
 exact k.keeps hs hk tk (rInt _ _)
theorem Zrw {vs:List Value} (ws:List Value) (h4:∀v∈ws,v∈vs) {xs:List D} (q:Reps P Z xs vs) (h1:∀v∈ws,∃x t,v = .bytes x t):Reps P Z ((ws.map bytesOfV).map D.bytes) ws:=by
 have sz:∀v∈vs,∀x t,v = .bytes x t→x.size≤SZ:=q.ind (mo:=fun xs vs=>∀v∈vs,∀x t,v = .bytes x t→x.size≤SZ) (fun v h=>nomatch h) fun d v ds vs a _ ih w hw x t e=>by
  rcases List.mem_cons.mp hw with rfl | hw
  ·subst e
   cases d with
   | bytes b=>obtain ⟨y,u,e,z,_⟩:=a;cases e;exact z
   | none=>cases a
   | bool b=>cases a
   | typ b=>cases a
   | int b=>obtain ⟨_,e⟩:=a;cases e
   | str b=>obtain ⟨_,_,e,_⟩:=a;cases e
   | tuple b=>obtain ⟨_,_,_,e,_⟩:=a;cases e
   | list b=>obtain ⟨_,_,_,e,_⟩:=a;cases e
   | dict b=>obtain ⟨_,e,_⟩:=a;cases e
  ·exact ih w hw x t e
 induction ws with
 | nil=>rfl
 | cons w ws ih=>
  obtain ⟨x,t,rfl⟩:=h1 w (List.mem_cons_self ..)
  exact .cons (Zsk x t (sz _ (h4 _ (List.mem_cons_self ..)) x t rfl)) (ih (fun v h=>h4 v (List.mem_cons_of_mem _ h)) fun v h=>h1 v (List.mem_cons_of_mem _ h))
theorem Zra {a:Addr} {vs:List Value} {n:Nat} {xs:List D} (hs:Sub Z s.heap) (e:s.heap.get? a=some (lstO vs n)) (z:vs.length≤SZ) (q:Reps Y.P Z xs vs)
  (k:K Y Z (Rep Y.P) (optO (byteStrs xs) fun bs=>if bs.length < 64 then .ok (.list ((sortB bs).map .bytes)) else .stuck) Q E s):wpAny Y.M Y.A (call (.builtin "sorted") [.ref a]) Q E s:=by
 refine k.optO fun bs hb k=>k.ite fun h64 k=> ?_
 have hS:=ZqZ q hb
 have hlen:vs.length=bs.length:=by rw [←BytesAre.strs hS,List.length_map]
 refine sortedK Zqk ⟨_,e,rfl,_,rfl⟩ (ZqY hS) (fun v₁ v₂ rest e'=>ZqN (by rw [←e'];exact fun v hv=>BytesAre.all hS v hv)) (by lia) fun st' hp hst=> ?_
 obtain ⟨h1,h2,h3,h4⟩:=ZrT hS hp hst
 obtain ⟨c',he⟩:=sortedAll_at s.heap vs ((arrOf st').map (·.2))
 have hk:∀b o,s.heap.get? b=some o→(sortedAll s.heap vs ((arrOf st').map (·.2))).get? b=some o:=fun b o q=>sortedAll_old q
 rw [←h3] at k
 have fr:s.heap.get? (s.heap.objs.size+1)=none:=Heap.get?_none_of_le (Nat.le_succ _)
 have g:=fun tk=>Go.put (Y:=Y) (o:=lstO ((arrOf st').map (·.2)).toList c') hs hk fr (by rw [lstO,Array.toArray_toList];exact he) tk
 exact k _ _ _ (g _) ⟨_,_,c',rfl,ZoX,by rw [h2];exact z,(Zrw _ h4 q h1).up (g 0).le⟩
theorem Zqz {a:Addr} {vs:List Value} {n:Nat} {xs:List D} (hs:Sub Z s.heap) (e:s.heap.get? a=some (lstO vs n)) (z:vs.length≤SZ) (q:Reps Y.P Z xs vs)
  (k:K Y Z (Rep Y.P) (.ok (.list xs)) Q E s):wpAny Y.M Y.A (call (.type "list") [.ref a]) Q E s:=by
 refine call_list_seq a (.inl rfl) e rfl rfl (fun h' c' hk hn=> ?_) (by rw [List.size_toArray];exact Nat.le_trans z ZoW)
 have g:Nx Y Z s (Zput Z s.heap.objs.size (lstO vs c')) { s with heap:=h',toks:=s.toks }:= .put hs hk (Heap.get?_none_of_le (Nat.le_refl _)) hn _
 exact k _ _ _ g ⟨_,vs,c',rfl,ZoX,z,q.up g.le⟩
theorem Zrx {a:Addr} {vs:List Value} {n:Nat} {xs:List D} (hs:Sub Z s.heap) (hh:Y.A.handled=none) (e:s.heap.get? a=some (lstO vs n)) (z:vs.length≤SZ) (q:Reps Y.P Z xs vs)
  (k:K Y Z (Rep Y.P) (optO (bytesOf xs) fun b=> .ok (.bytes b)) Q E s):wpAny Y.M Y.A (call (.type "bytes") [.ref a]) Q E s:=by
 refine k.optO fun b h k=> ?_
 obtain ⟨is,e1,e2,e3⟩:=ZrU xs h
 have hi:=ZqO q e1
 refine call_bytes_ints ⟨_,e,rfl,_,rfl⟩ hi e2 (Nat.le_trans z ZoW) hh fun h' t tk hk=>k.keeps hs hk tk ?_
 have r:Rep Y.P Z _ _:=Zsk (byteArr is) t (by rw [byteArr_size,←hi.length];exact z)
 rw [show (byteArr is).toList=b by rw [e3];simp [byteArr]] at r
 exact r
theorem Zsv {v:Value} {d:D} (hs:Sub Z s.heap) (r:Rep Y.P Z d v) (k:K Y Z (Rep Y.P) (typD d) Q E s):wpAny Y.M Y.A (call (.type "type") [v]) Q E s:=by
 cases d with
 | bool b=>cases r;exact call_type_of (Tx:= "bool") rfl (by decide) (K.okS k hs rfl)
 | int b=>obtain ⟨t,rfl⟩:=r;exact call_type_of (Tx:= "int") rfl (by decide) (K.okS k hs rfl)
 | bytes b=>obtain ⟨x,t,rfl,_⟩:=r;exact call_type_of (Tx:= "bytes") rfl (by decide) (K.okS k hs rfl)
 | _=>exact False.elim k
noncomputable def biFn:Bi→Bool
 | .list | .join=>false
 | _=>true
theorem Zth {v:Value} {d:D} {b:Bi} (hb:biFn b=true) (hs:Sub Z s.heap) (hh:Y.A.handled=none) (r:Rep Y.P Z d v) (k:K Y Z (Rep Y.P) (bi1 b d) Q E s):wpAny Y.M Y.A (PySem.call (biVal b) [v]) Q E s:=by
 cases b with
 | len=>exact Zss hs r k
 | bytes=>exact K.onLst hs k r fun xs a vs n e z q k=>Zrx hs hh e z q k
 | ord=>exact False.elim k
 | str=>exact False.elim k
 | typ=>exact Zsv hs r k
 | max=>exact K.onLst hs k r fun xs a vs n e z q k=>Zst hs hh e q k
 | sum=>exact K.onLst hs k r fun xs a vs n e z q k=>Zsu hs hh e q k
 | sorted=>exact K.onLst hs k r fun xs a vs n e z q k=>Zra hs e z q k
 | all=>exact False.elim k
 | _=>cases hb
theorem ZsP {v:Value} {d:D} {t:Tok} (hs:Sub Z s.heap) (r:Rep Y.P Z d v) (k:K Y Z (Rep Y.P) (bi1 .join d) Q E s) :
  s.TypeIs (.bytes #[] t) "bytes" ∧argsOk "bytes.join" ⟨[.bytes #[] t,v],[]⟩∧∃S,Meets (Builtin.«bytes.join» ⟨[.bytes #[] t,v],[]⟩) S∧S Y.A (wants Q E) s:=
 K.onLst hs k r fun xs a vs n e z q k=>k.optO fun bs h k=>k.ite fun hc k=>
  ⟨rfl,Zqj _ _,_,ZrS a vs n bs t,e,ZqZ q h,hc.1,fun t' tk=>k.ok hs (ZqF t' hc.1) tk⟩
theorem Zrb {x:Option Value} {y:Option D} (q:FlatO x y) {u:Value} {d:D} (ru:Rep P Z d u):Rep P Z (y.getD d) (x.getD u):=by
 cases x with
 | none=>cases y with
  | none=>exact ru
  | some _=>exact False.elim q
 | some v=>cases y with
  | none=>exact False.elim q
  | some _=>exact rFlat q
theorem Zrc (d:D) (o:Option D):orElse d o = .ok (o.getD d):=by cases o<;>rfl
def GetOk (Y:Cx) (va vi vd:Value) (Q:Value→Shared→Prop) (s:Shared):Prop:=
 ∃(Kt:Type) (_:DecidableEq Kt) (knd:PySem.KeyKind Y.P.prog Y.P.w Kt) (a:Addr) (kk:Kt) (f:Kt→Option Value),va = .ref a∧(a == sysModules)=false∧knd.is kk vi=true∧s.heap.MapOf knd a f∧Q ((f kk).getD vd) { s with toks:=s.toks+1 }
theorem ZrV {va vi:Value} {ks vs:List D} {y:D} (hs:Sub Z s.heap) (ra:Rep Y.P Z (.dict ks vs) va) (ri:Rep Y.P Z y vi) (k:K Y Z (Rep Y.P) (dictGet ks vs [y]) Q E s):GetOk Y va vi .none Q s:=by
 refine K.onInt k ri fun i t k=>k.ite fun hall k=> ?_
 obtain ⟨a,rfl,ra | ra⟩:=ra
 ·exact (ZrH ra.ne hall ra.all).elim
 ·obtain ⟨f,h1,h2⟩:=ra.at_
  rw [Zrc] at k
  exact ⟨_,_,PySem.intKind Y.P.prog Y.P.w,a,i,f,rfl,ra.sys,intKind_is _ _ i t,h1 _ hs,k.ok hs (Zrb (h2 i) rNone) _⟩
theorem ZrW {va vi vd:Value} {ks vs:List D} {y z:D} (hs:Sub Z s.heap) (ra:Rep Y.P Z (.dict ks vs) va) (ri:Rep Y.P Z y vi) (rd:Rep Y.P Z z vd) (k:K Y Z (Rep Y.P) (dictGet ks vs [y,z]) Q E s):GetOk Y va vi vd Q s:=by
 refine K.onStr k ri fun x t _ k=>k.ite fun hall k=> ?_
 obtain ⟨a,rfl,ra | ra⟩:=ra
 ·obtain ⟨f,h1,h2⟩:=ra.at_
  rw [Zrc] at k
  exact ⟨_,_,PySem.strKind Y.P.prog Y.P.w,a,x,f,rfl,ra.sys,strKind_is _ _ x t,h1 _ hs,k.ok hs (Zrb (h2 x) rd) _⟩
 ·exact (ZrH ra.ne ra.all hall).elim
end DK.Internal
end
section
set_option backward.match.sparseCases false
set_option genSizeOf false
set_option genCtorIdx false
set_option genSizeOf false
set_option genInjectivity false
namespace DK.Internal
open PySem PyProof.Rows
structure Rs where
 loc:List (Str × Nat)
 fns:List (Str × Nat)
 gls:List (Str × Nat)
 io:List (Str × List Bool)
 nl:Nat
 own:List Str
 names:List (Str × NameKind)
 byref:List Str
noncomputable def Rs.glob (R:Rs) (x:Str):Bool:=decide (R.loc.lookup x=none∧R.names.lookup x=some .globalImplicit∧(x == ("__debug__" : Str))=false)
noncomputable def Rs.put (R:Rs) (x:Str):Option Nat:=if x∈R.byref then none else R.loc.lookup x
noncomputable def tyTab:List (Str × Ty):= [("bytes",.tBytes),("int",.tInt),("tuple",.tTuple),("list",.tList),("bool",.tBool)]
noncomputable def tyName (x:Str):Option Ty:=tyTab.lookup x
noncomputable def biTab:List (Str × Bi):= [("len",.len),("bytes",.bytes),("ord",.ord),("str",.str),("type",.typ),("max",.max),("sum",.sum),("sorted",.sorted),("all",.all)]
noncomputable def biName (x:Str):Option Bi:=biTab.lookup x
noncomputable def refsOf:List Str→List Bool→List Str
 | x::xs,true::bs=>x::refsOf xs bs
 | _::xs,false::bs=>refsOf xs bs
 | _,_=> []
structure FnOk (P:Prg) (a:Addr) (i:Nat) (fd:FuncData) (d:Def):Prop where
 obj:∃o,P.gh.get? a=some o∧o.data = .func fd
 code:P.gh.CodeRec fd.code fd.qualname
 body:fd.body = .stmts d.body
 names:fd.scope.names=d.names
 kind:fd.scope.kind = .function
 co:fd.scope.isCoroutine=false
 gen:fd.scope.isGenerator=false
 clo:fd.closure = []
 glob:fd.globals=mainGlobals
 buil:fd.builtins=builtinsNs
 bind:∀vs:List Value,vs.length=d.ps.length→bindArgs fd ⟨vs,[]⟩=pure (d.ps.zip vs)
 fn:P.defs[i]?=some d
 pk:∀x∈d.ps,d.names.lookup x=some .local∨d.names.lookup x=some .cell
 nd:d.ps.Nodup
 nk:∀n∈d.names,d.names.lookup n.1=some n.2
structure Glo (P:Prg):Prop where
 g:P.gh.Ns mainGlobals P.mg
 b:P.gh.Ns builtinsNs P.mb
 lim:P.gh.NoLimit
 ty:∀x t,tyName x=some t→P.mg x=none∧P.mb x=some (.type t.name)
 bi:∀x b,biName x=some b→P.mg x=none∧P.mb x=some (biVal b)
 isi:P.mg "isinstance" = none∧P.mb "isinstance" = some (.builtin "isinstance")
 rng:P.mg "range" = none∧P.mb "range" = some (.type "range")
 enu:P.mg "enumerate" = none∧P.mb "enumerate" = some (.type "enumerate")
 sys:∃b o,sysModules≤b∧P.gh.get? b=some o
 ve:P.mg "ValueError" = none∧P.mb "ValueError" = some VE
 data:∀x g,P.gls.lookup x=some g→∃v d,P.mg x=some v∧P.T.globs[g]?=some d∧Rep P P.gh.get? d v
 fn:∀f i,P.fns.lookup f=some i→∃a fd d,P.mg f=some (.ref a)∧FnOk P a i fd d∧d.name=f
structure COk (Y:Cx) (Z:Zm) (h:Heap):Prop where
 glo:Glo Y.P
 below:Below Y.A Y.base Y.l h
 gb:Y.P.gh.StaysIn Y.base
 sub:Sub Z h
 gz:Zle Y.P.gh.get? Z
 frz:∀b∈fas Y.l,Z b=none
 depth:Y.A.depth+Y.r < recursionLimit
 units:Y.A.units+3*Y.r+100≤cLine
 hand:Y.A.handled=none
inductive ArgsAt (P:Prg) (Z:Zm) (h:Heap):List Value→List Slot→List (Option Addr)→Prop
 | nil:ArgsAt P Z h [] [] []
 | val {v d vs sls ads}:Rep P Z d v→ArgsAt P Z h vs sls ads→ArgsAt P Z h (v::vs) (.val d::sls) (none::ads)
 | own {a us n xs vs sls ads}:h.get? a=some (lstO us n)→us.length≤SZ→Reps P Z xs us→ArgsAt P Z h vs sls ads→ArgsAt P Z h (.ref a::vs) (.own xs::sls) (some a::ads)
inductive BackAt (P:Prg) (Z:Zm) (h:Heap):List Slot→List (Option Addr)→Prop
 | nil:BackAt P Z h [] []
 | val {o os ads}:BackAt P Z h os ads→BackAt P Z h (o::os) (none::ads)
 | own {a us n xs os ads}:h.get? a=some (lstO us n)→us.length≤SZ→Reps P Z xs us→BackAt P Z h os ads→BackAt P Z h (.own xs::os) (some a::ads)
abbrev AsIn (ads:List (Option Addr)) (b:Addr):Prop:=some b∈ads
noncomputable def KG (Y:Cx) (Z:Zm) (ads:List (Option Addr)) (o:Out Reply) (Q:Value→Shared→Prop) (E:Value→Shared→Prop) (s:Shared):Prop:=
 match o with
 | .ok x=>(match x.1 with
  | .ret d=>∀v Z' s',Go (AsIn ads) Y Z s Z' s'→(∀b,AsIn ads b→Z' b=none)→Rep Y.P Z' d v→BackAt Y.P Z' s'.heap x.2 ads→Q v s'
  | _=>False)
 | .exc=>∀x s',Ex (AsIn ads) Y s x s'→E (.ref x) s'
 | .stuck=>False
def CallG (Y:Cx):Prop:=∀{Z s f a fd d vs sls ads Q E},COk Y Z s.heap→FnOk Y.P a f fd d→ArgsAt Y.P Z s.heap vs sls ads→(∀(i j:Nat) (b:Addr),ads[i]?=some (some b)→ads[j]?=some (some b)→i=j) →
 (∀b,AsIn ads b→Z b=none∧Y.base.get? b=none∧b∉fas Y.l) →
 (d.ps.length=sls.length→∀(i:Nat) (b:Addr),ads[i]?=some (some b)→∃x,d.ps[i]?=some x∧x∈refsOf d.ps ((Y.P.io.lookup d.name).getD [])) →
 KG Y Z ads (callT real Y.P.T Y.r f sls) Q E s→wpAny Y.M Y.A (call (.ref a) vs) Q E s
noncomputable def Cx.ex (Y:Cx) (c:C) (sl:List Slot):Out D:=DK.Internal.ex real Y.P.T (callT real Y.P.T Y.r) c sl
noncomputable def Cx.exs (Y:Cx) (c:Cs) (sl:List Slot):Out (List D):=DK.Internal.exs real Y.P.T (callT real Y.P.T Y.r) c sl
noncomputable def Cx.tst (Y:Cx) (c:C) (sl:List Slot):Out Bool:=DK.Internal.tst real Y.P.T (callT real Y.P.T Y.r) c sl
noncomputable def Cx.tsts (Y:Cx) (c:Cs) (sl:List Slot):Out Bool:=DK.Internal.tsts real Y.P.T (callT real Y.P.T Y.r) c sl
noncomputable def Cx.items (Y:Cx) (c:It) (sl:List Slot):Out (List D):=DK.Internal.items real Y.P.T (callT real Y.P.T Y.r) c sl
def VarAt (h:Heap) (env:Env) (x:Str) (v:Option Value):Prop:=
 (env.kindOf x=some .local∧∃m,h.Ns env.locals m∧m x=v)∨(env.kindOf x=some .cell∧∃c,env.cells.lookup x=some c∧h.IsCell c v)
noncomputable def SlotAt (P:Prg) (Z:Zm) (oa:Nat→Option Addr) (h:Heap) (env:Env) (x:Str) (i:Nat):Option Slot→Prop
 | some (.val d)=>∃v,VarAt h env x (some v)∧Rep P Z d v
 | some (.own xs)=>∃a vs n,oa i=some a∧VarAt h env x (some (.ref a))∧h.get? a=some (lstO vs n)∧vs.length≤SZ∧Reps P Z xs vs
 | _=>True
structure Rs.WF (R:Rs):Prop where
 inj:∀x y i,R.loc.lookup x=some i→R.loc.lookup y=some i→x=y
 lt:∀x i,R.loc.lookup x=some i→i < R.nl
def Home (env:Env) (x:Str) (b:Addr):Prop:=(env.kindOf x=some .local∧b=env.locals)∨(env.kindOf x=some .cell∧env.cells.lookup x=some b)
def Loc (env:Env) (b:Addr):Prop:=b=env.locals∨∃x,env.cells.lookup x=some b
structure Stat (R:Rs) (Y:Cx) (env:Env):Prop where
 calls:∀Y':Cx,Y'.P=Y.P→Y'.r=Y.r→CallG Y'
 fns:R.fns=Y.P.fns
 gls:R.gls=Y.P.gls
 io:R.io=Y.P.io
 kind:env.scope.kind = .function
 glob:env.globals=mainGlobals
 buil:env.builtins=builtinsNs
 gk:∀x,R.names.lookup x=some .globalImplicit→env.kindOf x=some .globalImplicit
 ck:∀x,R.names.lookup x=some .cell→env.kindOf x=some .cell∧(env.cells.lookup x).isSome=true
 fr:∃fenv outer L,Y.l=fenv::outer∧fenv.frame=some L∧env.frame=some L
 wf:R.WF
 cellA:∀x y c,env.cells.lookup x=some c→env.cells.lookup y=some c→x=y
 cellL:∀x c,env.cells.lookup x=some c→c≠env.locals
def Bs (R:Rs) (Y:Cx) (env:Env):Prop:=∀x i b,R.put x=some i→Home env x b→Y.base.get? b=none
structure Ok (R:Rs) (Y:Cx) (env:Env) (Z:Zm) (oa:Nat→Option Addr) (sl:List Slot) (h:Heap):Prop where
 st:Stat R Y env
 c:COk Y Z h
 var:∀x i,R.loc.lookup x=some i→SlotAt Y.P Z oa h env x i sl[i]?
 has:∀x i,R.loc.lookup x=some i→∃v,VarAt h env x v
 len:sl.length=R.nl
 loz:∀b,Loc env b→Z b=none∧(h.get? b).isSome=true
 own:∀i a,oa i=some a→Z a=none∧True∧a∉fas Y.l∧¬Loc env a∧(h.get? a).isSome=true
 oinj:∀i j a,oa i=some a→oa j=some a→i=j
 ns:∃m,h.Ns env.locals m
section
variable {Y:Cx} {Z Z':Zm} {s s':Shared} {env:Env} {R:Rs} {oa:Nat→Option Addr} {sl:List Slot} {W:Addr→Prop} {h h':Heap}
theorem Zpe {base h:Heap} {l:List Env} (f:h.FunFrames base l):∀b∈fas l,base.get? b=none∧∃o,h.get? b=some o∧∀vs,o.data≠.fields vs:=by
 induction l with
 | nil=>intro b hb;cases hb
 | cons env rest ih=>
  obtain ⟨_,⟨L,o,hf,hn,ho,hd⟩,hr⟩:=f
  intro b hb
  rw [show fas (env::rest)=L::fas rest by unfold fas;rw [List.filterMap_cons_some hf]] at hb
  rcases List.mem_cons.mp hb with rfl | hb
  ·exact ⟨hn,o,ho,hd⟩
  ·exact ih hr b hb
theorem Zpw {base base':Heap} {l:List Env} (k:∀b∈fas l,∀o,h.get? b=some o→(∀vs,o.data≠.fields vs)→base'.get? b=none∧∃o',h'.get? b=some o'∧∀vs,o'.data≠.fields vs) (f:h.FunFrames base l):h'.FunFrames base' l:=by
 induction l with
 | nil=>trivial
 | cons env rest ih=>
  obtain ⟨hk,⟨L,o,hf,hn,ho,hd⟩,hr⟩:=f
  have hfa:fas (env::rest)=L::fas rest:=by unfold fas;rw [List.filterMap_cons_some hf]
  rw [hfa] at k
  obtain ⟨hb,o',ho',hd'⟩:=k L (List.mem_cons_self ..) o ho hd
  exact ⟨hk,⟨L,o',hf,hb,ho',hd'⟩,ih (fun b hb=>k b (List.mem_cons_of_mem _ hb)) hr⟩
theorem COk.ks (c:COk Y Z h) (x:KS W (fas Y.l) h h') (hb:∀b,W b→Y.base.get? b=none) (le:Zle Z Z') (sub:Sub Z' h') (frz:∀b∈fas Y.l,Z' b=none):COk Y Z' h':=
 {
  c with
  below:=⟨c.below.stack,fun b o e=>x.keep b o (c.below.stays b o e) (fun w=>by rw [hb b w] at e;cases e) (fun m=>by rw [(Zpe c.below.frames b m).1] at e;cases e),Zpw (fun b hb o e nf=>⟨(Zpe c.below.frames b hb).1,by
   by_cases w:W b
   ·exact x.alive b o e w hb nf
   ·obtain ⟨sl,q⟩:=x.fr b o e w hb;exact ⟨_,q,nf⟩⟩) c.below.frames⟩
  sub:=sub
  gz:=fun b o e=>le b o (c.gz b o e)
  frz:=frz }
theorem Nx.still (g:Nx Y Z s Z' s') {b:Addr} (z:Z b=none) (e:(s.heap.get? b).isSome=true):Z' b=none:=by
 cases q:Z' b with
 | none=>rfl
 | some o=>
  rcases g.new b (by rw [q];exact nofun) with n | n | n
  ·exact absurd z n
  ·exact n.elim
  ·rw [n] at e;cases e
theorem COk.nx (c:COk Y Z s.heap) (g:Nx Y Z s Z' s'):COk Y Z' s'.heap:=
 c.ks g.ks (fun _ q=>q.elim) g.le g.sub fun b hb=>g.still (c.frz b hb) (by obtain ⟨_,o,e,_⟩:=Zpe c.below.frames b hb;rw [e];rfl)
theorem ns_keep {a:Addr} {m:Str→Option Value} (n:h.Ns a m) (k:∀o,h.get? a=some o→∃o',h'.get? a=some o'∧o'.data=o.data):h'.Ns a m:=by
 obtain ⟨o,es,ep,ho,hd,q⟩:=n
 obtain ⟨o',ho',hd'⟩:=k o ho
 exact ⟨o',es,ep,ho',hd'.trans hd,q⟩
theorem VarAt.keep {x:Str} {v:Option Value} (q:VarAt h env x v) (k:∀b o,Loc env b→h.get? b=some o→∃o',h'.get? b=some o'∧o'.data=o.data):VarAt h' env x v:=by
 rcases q with ⟨kk,m,n,e⟩ | ⟨kk,c,e,o,ho,hd⟩
 ·exact .inl ⟨kk,m,ns_keep n fun o e=>k _ o (.inl rfl) e,e⟩
 ·obtain ⟨o',ho',hd'⟩:=k c o (.inr ⟨x,e⟩) ho
  exact .inr ⟨kk,c,e,o',ho',hd'.trans hd⟩
theorem SlotAt.keep {P:Prg} {x:Str} {i:Nat} {t:Option Slot} (q:SlotAt P Z oa h env x i t) (le:Zle Z Z') (k:∀{y v},VarAt h env y v→VarAt h' env y v) (ko:∀a o,oa i=some a→h.get? a=some o→h'.get? a=some o):SlotAt P Z' oa h' env x i t:=by
 cases t with
 | none=>trivial
 | some t=>
  cases t with
  | un=>trivial
  | val d=>obtain ⟨v,a,b⟩:=q;exact ⟨v,k a,b.up le⟩
  | own xs=>obtain ⟨a,vs,n,a0,a1,a2,a3,a4⟩:=q;exact ⟨a,vs,n,a0,k a1,ko a _ a0 a2,a3,a4.up le⟩
theorem Ok.nx (c:Ok R Y env Z oa sl s.heap) (g:Nx Y Z s Z' s'):Ok R Y env Z' oa sl s'.heap:=
 have kd:∀b o,s.heap.get? b=some o→∃o',s'.heap.get? b=some o'∧o'.data=o.data:=fun b o e=>g.ks.stay e id
 have sm:∀b,(s.heap.get? b).isSome=true→(s'.heap.get? b).isSome=true:=fun b e=>by
  cases q:s.heap.get? b with
  | none=>rw [q] at e;cases e
  | some o=>obtain ⟨o',e',_⟩:=kd b o q;rw [e'];rfl
 have kv:∀{y v},VarAt s.heap env y v→VarAt s'.heap env y v:=fun q=>q.keep fun b o _ e=>kd b o e
 {
  c with
  c:=c.c.nx g
  var:=fun y i e=>(c.var y i e).keep g.le kv fun a o ha e=>g.ks.keep a o e id (c.own i a ha).2.2.1
  has:=fun y i e=>(c.has y i e).imp fun _ q=>kv q
  loz:=fun b q=>⟨g.still (c.loz b q).1 (c.loz b q).2,sm b (c.loz b q).2⟩
  own:=fun i a q=>have o:=c.own i a q;⟨g.still o.1 o.2.2.2.2,o.2.1,o.2.2.1,o.2.2.2.1,sm a o.2.2.2.2⟩
  ns:=c.ns.imp fun m q=>ns_keep q fun o e=>kd _ o e }
theorem COk.gh (c:COk Y Z h):Y.P.gh.StaysIn h:=fun b o e=>c.below.stays b o (c.gb b o e)
theorem COk.ns (c:COk Y Z h) {a:Addr} {m:Str→Option Value} (n:Y.P.gh.Ns a m):h.Ns a m:=ns_keep n fun o e=>⟨o,c.gh _ _ e,rfl⟩
theorem Ok.g (c:Ok R Y env Z oa sl h):h.Ns env.globals Y.P.mg:=c.st.glob ▸ c.c.ns c.c.glo.g
theorem Ok.b (c:Ok R Y env Z oa sl h):h.Ns env.builtins Y.P.mb:=c.st.buil ▸ c.c.ns c.c.glo.b
end
def SE (R:Rs) (e:Expr) (c:C):Prop:=∀{Y:Cx} {env:Env} {Z:Zm} {oa:Nat→Option Addr} {sl:List Slot} {s:Shared} {Q:Value→Shared→Prop} {E:Value→Shared→Prop},
 Ok R Y env Z oa sl s.heap→K Y Z (Rep Y.P) (Y.ex c sl) Q E s→wpAny Y.M Y.A (eval e env) Q E s
abbrev Same {β:Type} (_:Zm) (a b:β):Prop:=b=a
def ST (R:Rs) (e:Expr) (c:C):Prop:=∀{Y:Cx} {env:Env} {Z:Zm} {oa:Nat→Option Addr} {sl:List Slot} {s:Shared} {Q:Bool→Shared→Prop} {E:Value→Shared→Prop},
 Ok R Y env Z oa sl s.heap→K Y Z Same (Y.tst c sl) Q E s→wpAny Y.M Y.A (isTrue e env (eval e env)) Q E s
def SEs (R:Rs) (es:List Expr) (c:Cs):Prop:=∀{Y:Cx} {env:Env} {Z:Zm} {oa:Nat→Option Addr} {sl:List Slot} {s:Shared} {Q:List Value→Shared→Prop} {E:Value→Shared→Prop} {pos:Pos},
 Ok R Y env Z oa sl s.heap→K Y Z (Reps Y.P) (Y.exs c sl) Q E s→wpAny Y.M Y.A (spliced (backTo pos (starEach es env))) Q E s
section
variable {R:Rs} {Y:Cx} {env:Env} {Z:Zm} {oa:Nat→Option Addr} {sl:List Slot} {s:Shared} {E:Value→Shared→Prop}
theorem SE.bad {e:Expr}:SE R e .bad:=fun _ k=>False.elim k
theorem Zpi {x:Str} {v:Value} {Q:Value→Shared→Prop} {M:Model} {A:Around} (hk:env.scope.kind = .function) (h:VarAt s.heap env x (some v)) (q:Q v s):wpAny M A (loadName env x) Q E s:=by
 rcases h with ⟨k,m,n,e⟩ | ⟨k,c,e,i⟩
 ·exact wpAny_loadName_local hk k n e q
 ·exact wpAny_loadName_cell hk k e i q
theorem K.getV {β α:Type} {R':Zm→β→α→Prop} {Q:α→Shared→Prop} {f:D→Out β} {x:Str} {i:Nat} {G:Prop} (ok:Ok R Y env Z oa sl s.heap) (hx:R.loc.lookup x=some i) (k:K Y Z R' (DK.Internal.getV sl i>>=f) Q E s) (g:∀d v,VarAt s.heap env x (some v)→Rep Y.P Z d v→K Y Z R' (f d) Q E s→G):G:=by
 have hv:=ok.var x i hx
 unfold DK.Internal.getV at k
 cases hs:sl[i]? with
 | none=>rw [hs] at k;exact False.elim k
 | some t=>
  rw [hs] at k hv
  cases t with
  | val d=>obtain ⟨v,hv,rv⟩:=hv;exact g d v hv rv k
  | _=>exact False.elim k
theorem K.pure {β α:Type} {R':Zm→β→α→Prop} {Q:α→Shared→Prop} {o:Out β} (k:K Y Z R' o Q E s):K Y Z R' (o>>=Out.ok) Q E s:=by cases o<;>exact k
theorem SE.var {x:Str} {i:Nat} {pos:Pos} (h:R.loc.lookup x=some i) (hd:(x == ("__debug__" : Str))=false):SE R (.Name x pos) (.var i):=fun ok k=>
 wpAny_Name (K.getV ok h k.pure fun d v hv rv k=>Zpi ok.st.kind hv (k.okS ok.c.sub rv)) hd
theorem Zqn {x:Str} (h:R.glob x=true):R.loc.lookup x=none∧R.names.lookup x=some .globalImplicit∧(x == ("__debug__" : Str))=false:=of_decide_eq_true h
theorem ZoS {Q:Value→Shared→Prop} {x:Str} {pos:Pos} {v:Value} (c:Ok R Y env Z oa sl s.heap) (hx:R.glob x=true) (hg:Y.P.mg x=none∧Y.P.mb x=some v) (q:Q v s):wpAny Y.M Y.A (eval (.Name x pos) env) Q E s:=
 have h:=Zqn hx
 Calls.Name_function_global c.st.kind (c.st.gk x h.2.1) (Calls.loadGlobal_builtin c.g hg.1 c.b hg.2 q) h.2.2
theorem ZpJ {Q:Value→Shared→Prop} {x:Str} {pos:Pos} {v:Value} (c:Ok R Y env Z oa sl s.heap) (hx:R.glob x=true) (hg:Y.P.mg x=some v) (q:Q v s):wpAny Y.M Y.A (eval (.Name x pos) env) Q E s:=
 have h:=Zqn hx
 Calls.Name_function_global c.st.kind (c.st.gk x h.2.1) (Calls.loadGlobal_global c.g hg q) h.2.2
theorem SE.glob {x:Str} {pos:Pos} {g:Nat} (hx:R.glob x=true) (hg:R.gls.lookup x=some g):SE R (.Name x pos) (.glob g):=by
 intro Y env Z oa sl s Q E c k
 obtain ⟨v,d,h1,h2,h3⟩:=c.c.glo.data x g (c.st.gls ▸ hg)
 replace k:K Y Z (Rep Y.P) (globD Y.P.T g) Q E s:=k
 unfold globD at k
 rw [h2] at k
 exact ZpJ c hx h1 (k.okS c.c.sub (h3.up c.c.gz))
theorem SE.ty {x:Str} {pos:Pos} {t:Ty} (hx:R.glob x=true) (ht:tyName x=some t):SE R (.Name x pos) (.k (.typ t)):=fun c k=>
 ZoS c hx (c.c.glo.ty x t ht) (K.okS (d:=D.typ t) k c.c.sub rfl)
theorem SE.cNone {n:Nat} {pos:Pos}:SE R (.Constant .none n pos) (.k .none):=fun c k=>wpAny_Constant_none (K.okS (d:=D.none) k c.c.sub rfl)
theorem SE.cBool {n:Nat} {pos:Pos} {b:Bool}:SE R (.Constant (.bool b) n pos) (.k (.bool b)):=fun c k=>wpAny_Constant_bool (K.okS (d:=D.bool b) k c.c.sub rfl)
theorem SE.cInt {n:Nat} {pos:Pos} {i:Int}:SE R (.Constant (.int i) n pos) (.k (.int i)):=fun c k=>wpAny_Constant_int (K.ok (d:=D.int i) k c.c.sub (rInt _ _) _)
theorem SE.cStr {n:Nat} {pos:Pos} {x:Str} (h:x.cps.size≤SZ):SE R (.Constant (.str x) n pos) (.k (.str x.cps.toList)):=fun c k=>Calls.Constant_str (K.ok (d:=D.str x.cps.toList) k c.c.sub (rStr _ _ h) _)
theorem SE.cBytes {n:Nat} {pos:Pos} {b:List UInt8} (h:b.length≤SZ):SE R (.Constant (.bytes b) n pos) (.k (.bytes b)):=fun c k=>W.Constant_bytes (K.ok (d:=D.bytes b) k c.c.sub (ZqF _ h) _)
theorem SE.bin {a b:Expr} {ca cb:C} {op:Operator} {pos:Pos} (ha:SE R a ca) (hb:SE R b cb):SE R (.BinOp a op b pos) (.bin op ca cb):=fun c k=>
 wpAny_BinOp (ha c (K.bind k fun x v Z₁ s₁ g rv k=>hb (c.nx g) (K.bind k fun y u Z₂ s₂ g₂ ru k=>Zqg g₂.sub (rv.up g₂.le) ru k)))
theorem SE.neg {a:Expr} {ca:C} {pos:Pos} (ha:SE R a ca):SE R (.UnaryOp .USub a pos) (.neg ca):=fun c k=>
 wpAny_UnaryOp (ha c (K.bind k fun x v Z₁ s₁ g rv k=>K.onInt k rv fun i t k=>neg_int (k.ok g.sub (rInt _ _) _)))
theorem SE.cmp {a b:Expr} {ca cb:C} {op:CmpOp} {pos:Pos} (hm:behindInMarks op b=false) (ha:SE R a ca) (hb:SE R b cb):SE R (.Compare a [op] [b] pos) (.cmp op ca cb):=fun c k=>
 wpAny_Compare1 (ha c (K.bind k fun x v Z₁ s₁ g rv k=>hb (c.nx g) (K.bind k fun y u Z₂ s₂ g₂ ru k=>Zqh (by have:=c.c.units;lia) g₂.sub (rv.up g₂.le) ru k))) hm
theorem Zpf {Q:Bool→Shared→Prop} {v:Value} {x:D} (hs:Sub Z s.heap) (rv:Rep Y.P Z x v) (k:K Y Z Same (truthy x) Q E s):wpAny Y.M Y.A (PySem.truthy v) Q E s:=by
 cases x with
 | bool b=>cases rv;exact wpAny_truthy_bool (K.okS k hs rfl)
 | int i=>
  obtain ⟨t,rfl⟩:=rv
  have e:(i != 0)=decide (i≠0):=by by_cases h:i=0<;>simp [h]
  exact truthy_int (by rw [e];exact K.okS k hs rfl)
 | _=>exact False.elim k
theorem ST.cmp {a b:Expr} {ca cb:C} {op:CmpOp} {pos:Pos} (hm:behindInMarks op b=false) (ha:SE R a ca) (hb:SE R b cb):ST R (.Compare a [op] [b] pos) (.cmp op ca cb):=by
 intro Y env Z oa sl s Q E c k
 replace k:K Y Z Same ((Y.ex ca sl>>=fun x=>Y.ex cb sl>>=fun y=>cmpop ordI op x y)>>=boolD) Q E s:=k
 rw [Out.bind_assoc] at k
 refine wpAny_isTrue_Compare1 (ha c (k.bind fun x v Z₁ s₁ g rv k=> ?_)) hm
 rw [Out.bind_assoc] at k
 exact hb (c.nx g) (k.bind fun y u Z₂ s₂ g₂ ru k=>Zqh (by have:=c.c.units;lia) g₂.sub (rv.up g₂.le) ru (k.bind fun z t Z₃ s₃ g₃ rz k=>K.onBool k rz fun b k=>wpAny_truthy_bool (k.okS g₃.sub rfl)))
theorem ST.not {a:Expr} {ca:C} {pos:Pos} (ha:ST R a ca):ST R (.UnaryOp .Not a pos) (.not ca):=fun c k=>
 wpAny_isTrue_Not (ha c (K.bind k fun x v Z₁ s₁ g rv k=>K.okS k g.sub (by cases rv;rfl)))
theorem ST.no {e:Expr} {c:C} (h:∀(Y:Cx) sl,Y.tst c sl = .stuck):ST R e c:=fun {Y env Z oa sl s Q E} _ k=>False.elim (by rw [h] at k;exact k)
theorem ST.value {e:Expr} {c:C} (h:SE R e c) (hq:∀(Y:Cx) sl,Y.tst c sl=(Y.ex c sl>>=truthy)) (he:∀env whole,isTrue e env whole=(do let v ←whole;standAt e.pos;holding [v] (PySem.truthy v))):ST R e c:=by
 intro Y env Z oa sl s Q E ok k
 rw [hq] at k
 exact wpAny_isTrue_value (h ok (k.bind fun x v Z₁ s₁ g rv k=>Zpf g.sub rv k)) (he _ _)
theorem SE.not {a:Expr} {ca:C} {pos:Pos} (ha:SE R a ca):SE R (.UnaryOp .Not a pos) (.not ca):=fun c k=>
 wpAny_UnaryOp (ha c (K.bind k fun x v Z₁ s₁ g rv k=>not_value (Zpf g.sub rv (K.bind k fun b t Z₂ s₂ g₂ rb k=>K.okS k g₂.sub (by cases rb;rfl)))))
theorem SE.and1 {x y:Expr} {ys:List Expr} {cx cy:C} {pos:Pos} (hx:SE R x cx) (hy:SE R (.BoolOp .And (y::ys) pos) cy):SE R (.BoolOp .And (x::y::ys) pos) (.and cx cy):=by
 intro Y env Z oa sl s Q E c k
 refine wpAny_bind (hx c (K.bind k fun d v Z₁ s₁ g rv k=>wpAny_bind (wpAny_standAt (wpAny_bind (wpAny_holding (Zpf g.sub rv (K.bind k fun b t Z₂ s₂ g₂ rb k=> ?_)))))))
 cases rb
 cases b with
 | false=>exact wpAny_pure (K.okS (d:=d) k g₂.sub (rv.up g₂.le))
 | true=>exact hy ((c.nx g).nx g₂) k
theorem SE.or1 {x y:Expr} {ys:List Expr} {cx cy:C} {pos:Pos} (hx:SE R x cx) (hy:SE R (.BoolOp .Or (y::ys) pos) cy):SE R (.BoolOp .Or (x::y::ys) pos) (.or cx cy):=by
 intro Y env Z oa sl s Q E c k
 refine wpAny_bind (hx c (K.bind k fun d v Z₁ s₁ g rv k=>wpAny_bind (wpAny_standAt (wpAny_bind (wpAny_holding (Zpf g.sub rv (K.bind k fun b t Z₂ s₂ g₂ rb k=> ?_)))))))
 cases rb
 cases b with
 | true=>exact wpAny_pure (K.okS (d:=d) k g₂.sub (rv.up g₂.le))
 | false=>exact hy ((c.nx g).nx g₂) k
theorem SE.one {op:BoolOp} {x:Expr} {c:C} {pos:Pos} (hx:SE R x c):SE R (.BoolOp op [x] pos) c:=fun ok k=>hx ok k
theorem ST.and1 {x y:Expr} {ys:List Expr} {cx cy:C} {pos:Pos} (hx:ST R x cx) (hy:ST R (.BoolOp .And (y::ys) pos) cy):ST R (.BoolOp .And (x::y::ys) pos) (.and cx cy):=by
 intro Y env Z oa sl s Q E c k
 refine wpAny_isTrue_BoolOp (wpAny_allTrue_And_cons (hx c (K.bind k fun b t Z₁ s₁ g rb k=> ?_)))
 cases rb
 cases b with
 | false=>exact K.okS (d:=false) k g.sub rfl
 | true=>exact hy (c.nx g) k
theorem ST.or1 {x y:Expr} {ys:List Expr} {cx cy:C} {pos:Pos} (hx:ST R x cx) (hy:ST R (.BoolOp .Or (y::ys) pos) cy):ST R (.BoolOp .Or (x::y::ys) pos) (.or cx cy):=by
 intro Y env Z oa sl s Q E c k
 refine wpAny_isTrue_BoolOp (wpAny_allTrue_Or_cons (hx c (K.bind k fun b t Z₁ s₁ g rb k=> ?_)))
 cases rb
 cases b with
 | true=>exact K.okS (d:=true) k g.sub rfl
 | false=>exact hy (c.nx g) k
theorem ST.oneAnd {x:Expr} {c:C} {pos:Pos} (hx:ST R x c):ST R (.BoolOp .And [x] pos) c:=fun ok k=>
 wpAny_isTrue_BoolOp (wpAny_allTrue_And_cons (wpAny_mono (hx ok k) (fun b s₁ q=>by cases b;exact q;exact wpAny_allTrue_And_nil q) fun _ _ q=>q))
theorem ST.oneOr {x:Expr} {c:C} {pos:Pos} (hx:ST R x c):ST R (.BoolOp .Or [x] pos) c:=fun ok k=>
 wpAny_isTrue_BoolOp (wpAny_allTrue_Or_cons (wpAny_mono (hx ok k) (fun b s₁ q=>by cases b;exact wpAny_allTrue_Or_nil q;exact q) fun _ _ q=>q))
theorem ZqA {e i:Expr} {va vi:Value} {Q:Value→Shared→Prop} (h:Items Y va vi Q E s):wpAny Y.M Y.A (subscriptTail e i va vi) Q E s:=by
 obtain ⟨T,id,hT,hl,hg⟩:=h
 have hs:∃ops,subscripted i false va vi=operate ops (getItem va vi):=by
  cases i with
  | Slice lo hi st p=>cases st<;>exact ⟨_,rfl⟩
  | _=>exact ⟨_,rfl⟩
 obtain ⟨ops,hs⟩:=hs
 exact tail_any hT hl hg hs
end
end DK.Internal
end
section
set_option backward.match.sparseCases false
set_option genSizeOf false
set_option genCtorIdx false
namespace DK.Internal
open PySem PyProof.Rows
noncomputable def noStar:Expr→Bool
 | .Starred _ _=>false
 | _=>true
theorem ZoV {e:Expr} {es:List Expr} {env:Env} (h:noStar e=true):starEach (e::es) env=(false,eval e env)::starEach es env:=by
 cases e<;>first | rfl | exact absurd h Bool.false_ne_true
theorem Zrd {env:Env} {pos:Pos} {e:Expr} (hn:noStar e=true):backTo pos (starEach [e] env) = [(false,eval e env)]:=by rw [ZoV hn];rfl
theorem args2 {env:Env} {pos:Pos} {e e':Expr} (hn:noStar e=true) (hn':noStar e'=true):backTo pos (starEach [e,e'] env) = [(false,eval e env),(false,eval e' env)]:=by rw [ZoV hn,ZoV hn'];rfl
section
variable {R:Rs}
theorem SE.idx {a i:Expr} {ca ci:C} {pos:Pos} (ha:SE R a ca) (hi:SE R i ci):SE R (.Subscript a i pos) (.idx ca ci):=fun c k=>
 Subscript_ (ha c (K.bind k fun x v Z₁ s₁ g rv k=>hi (c.nx g) (K.bind k fun y u Z₂ s₂ g₂ ru k=>ZqA (Zrq g₂.sub (rv.up g₂.le) ru k))))
def SP (R:Rs) (e:Option Expr) (c:C):Prop:=∀{Y:Cx} {env:Env} {Z:Zm} {oa:Nat→Option Addr} {sl:List Slot} {s:Shared} {Q:Value→Shared→Prop} {E:Value→Shared→Prop},
 Ok R Y env Z oa sl s.heap→K Y Z (Rep Y.P) (Y.ex c sl) Q E s→wpAny Y.M Y.A (evalPart e env) Q E s
theorem SP.none:SP R Option.none (.k .none):=fun ok k=>wpAny_pure (K.okS (d:=D.none) k ok.c.sub rfl)
theorem SP.some {e:Expr} {c:C} (h:SE R e c):SP R (some e) c:=fun ok k=>h ok k
theorem SE.slc {a:Expr} {lo hi:Option Expr} {ca cl ch:C} {pos p:Pos} (ha:SE R a ca) (hl:SP R lo cl) (hh:SP R hi ch):SE R (.Subscript a (.Slice lo hi Option.none p) pos) (.slc ca cl ch):=fun c k=>
 Subscript_ (ha c (K.bind k fun x v Z₁ s₁ g rv k=>wpAny_Slice (hl (c.nx g) (K.bind k fun y u Z₂ s₂ g₂ ru k=>hh ((c.nx g).nx g₂) (K.bind k fun z t Z₃ s₃ g₃ rt k=>wpAny_pure
  (ZqA (Zrr (s:={ s₃ with heap:=s₃.heap.push { cls:= .type "slice",data:= .fields #[u,t,.none] } }) (fun b o e=>Heap.get?_push_of_some _ (g₃.sub b o e)) (rv.up fun b o e=>g₃.le b o (g₂.le b o e)) (ru.up g₃.le) rt (Heap.IsSliceOf.new ..)
   (k.go (.keeps g₃.sub (fun _ _ e=>Heap.get?_push_of_some _ e) _)))))))))
theorem SEs.nil:SEs R [] .nil:=fun ok k=>Calls.spliced_nil (K.okS (d:= []) k ok.c.sub rfl)
theorem SEs.cons {e:Expr} {es:List Expr} {c:C} {cs:Cs} (h:SE R e c) (hn:noStar e=true) (hs:SEs R es cs):SEs R (e::es) (.cons c cs):=by
 intro Y env Z oa sl s Q E pos ok k
 rw [ZoV hn]
 exact Calls.spliced_cons (h ok (K.bind k fun x v Z₁ s₁ g rv k=>hs (pos:=pos) (ok.nx g) (K.bind k fun ys us Z₂ s₂ g₂ rus k=>K.okS (d:=x::ys) k g₂.sub (.cons (rv.up g₂.le) rus))))
theorem SEs.bad {es:List Expr} {cs:Cs} (h:∀(Y:Cx) sl,Y.exs cs sl = .stuck):SEs R es cs:=fun {Y env Z oa sl s Q E pos} _ k=>False.elim (by rw [h] at k;exact k)
theorem SE.lst {es:List Expr} {cs:Cs} {pos:Pos} (h:SEs R es cs) (hz:es.length≤SZ) (hl:∀(Y:Cx) sl ds,Y.exs cs sl = .ok ds→ds.length=es.length):SE R (.List es pos) (.lst cs):=fun {Y env Z oa sl s Q E} c k=>
 List_ (h c (K.bindE k fun ds vs Z₁ s₁ e g rv k=>have z:vs.length≤SZ:=by rw [rv.length,hl Y sl ds e];exact hz
  wpAny_newList (K.newL k g.sub rv z _) (Nat.le_trans z ZoW)))
theorem SE.tup {es:List Expr} {cs:Cs} {n:Nat} {pos:Pos} (h:SEs R es cs) (hz:es.length≤SZ) (hl:∀(Y:Cx) sl ds,Y.exs cs sl = .ok ds→ds.length=es.length):SE R (.Tuple es n pos) (.tup cs):=fun {Y env Z oa sl s Q E} c k=>
 Tuple_ (h c (K.bindE k fun ds vs Z₁ s₁ e g rv k=>have z:vs.length≤SZ:=by rw [rv.length,hl Y sl ds e];exact hz
  wpAny_newObj_type (K.newT k g.sub rv z _) (by show vs.toArray.size≤sizeLine;rw [List.size_toArray];exact Nat.le_trans z ZoW)))
theorem Zre {P:Prg} {Z:Zm} {h:Heap} {xs:List D} {vs:List Value} (r:Reps P Z xs vs):ArgsAt P Z h vs (xs.map .val) (xs.map fun _=>none):=
 r.ind (mo:=fun xs vs=>ArgsAt P Z h vs (xs.map .val) (xs.map fun _=>none)) .nil fun _ _ _ _ a _ e=> .val a e
theorem CallG.plain {Y:Cx} (hG:CallG Y) {Z:Zm} {s:Shared} {f:Nat} {Q:Value→Shared→Prop} {E:Value→Shared→Prop} {a:Addr} {fd:FuncData} {d:Def} {vs:List Value} {xs:List D} (c:COk Y Z s.heap) (ho:FnOk Y.P a f fd d) (rv:Reps Y.P Z xs vs)
  (k:K Y Z (Rep Y.P) (callV (callT real Y.P.T Y.r) f xs) Q E s):wpAny Y.M Y.A (call (.ref a) vs) Q E s:=by
 have no:∀b,¬AsIn (xs.map fun _=>(none:Option Addr)) b:=fun b q=>by obtain ⟨_,_,q⟩:=List.mem_map.mp q;cases q
 have no':∀(i:Nat) b,(xs.map fun _=>(none:Option Addr))[i]?≠some (some b):=fun i b q=>no b (List.mem_of_getElem? q)
 refine hG c ho (Zre rv) (fun i j b hi=>absurd hi (no' i b)) (fun b q=>absurd q (no b)) (fun _ i b hi=>absurd hi (no' i b)) ?_
 unfold callV at k
 generalize callT real Y.P.T Y.r f (xs.map .val)=o at k
 cases o with
 | stuck=>exact k
 | exc=>exact fun x s' q=>k x s' ⟨fun b o e _ nf=>q.us b o e (no b) nf,q.exc,q.same⟩
 | ok y=>
  obtain ⟨fl,os⟩:=y
  cases fl with
  | ret dd=>exact fun v Z' s' g _ r _=>k v Z' s' ⟨⟨fun b o e _ m=>g.ks.keep b o e (no b) m,fun b o e _ m=>g.ks.fr b o e (no b) m,fun _ _ _ q=>q.elim⟩,g.le,fun b e=>(g.new b e).imp id (Or.imp (no b) id),g.sub,g.same⟩ r
  | _=>exact k
theorem SE.call {f:Str} {i:Nat} {es:List Expr} {cs:Cs} {p pos:Pos} (hf:R.glob f=true) (hi:R.fns.lookup f=some i) (h:SEs R es cs) (hn:∀e r,es=e::r→noStar e=true) (h0:es = []→cs = .nil):SE R (.Call (.Name f p) es [] pos) (.call i cs):=by
 intro Y env Z oa sl s Q E c k
 rw [arm_eval_Call_Name']
 obtain ⟨a,fd,d,hg,ho,_⟩:=c.c.glo.fn f i (c.st.fns ▸ hi)
 obtain ⟨o,ho1,ho2⟩:=ho.obj
 refine wpAny_bind (ZpJ c hf hg ?_)
 have fin:∀{Z' s'} {ds:List D} {vs:List Value},Nx Y Z s Z' s'→Reps Y.P Z' ds vs→K Y Z' (Rep Y.P) (callV (callT real Y.P.T Y.r) i ds) Q E s'→((s'.heap.get? a=some o∧o.data = .func fd)∧wpAny Y.M Y.A (PySem.call (.ref a) ([]++vs) []) Q E s'):=
  fun g rv k=>⟨⟨(c.c.nx g).gh _ _ ho1,ho2⟩,CallG.plain (c.st.calls Y rfl rfl) (c.c.nx g) ho rv k⟩
 cases es with
 | nil=>
  rw [h0 rfl] at k
  exact Calls.callWith_function (o:=o) (fd:=fd) (PySem.evalArgs_none (fin (.self c.c.sub) .nil k))
 | cons e es=>
  have hh:=@h Y env Z oa sl s
  rw [ZoV (hn e es rfl)] at hh ⊢
  exact Calls.callWith_function (o:=o) (fd:=fd) (Calls.evalArgs_plain (hh c (K.bind k fun ds vs Z₁ s₁ g rv k=>fin g rv k)))
theorem ZrX {b:Bi} (hb:biFn b=true):(∃id,biVal b = .builtin id)∨∃T,biVal b = .type T:=by
 cases b<;>first | exact .inl ⟨_,rfl⟩ | exact .inr ⟨_,rfl⟩ | cases hb
theorem SE.bi1 {f:Str} {b:Bi} {e:Expr} {c:C} {p pos:Pos} (hf:R.glob f=true) (hb:biName f=some b) (hb':biFn b=true) (hn:noStar e=true) (h:SE R e c):SE R (.Call (.Name f p) [e] [] pos) (.bi b (.cons c .nil)):=by
 intro Y env Z oa sl s Q E ok k
 replace k:K Y Z (Rep Y.P) ((Y.ex c sl>>=fun x=> .ok [x])>>=builtin b) Q E s:=k
 rw [Out.bind_assoc] at k
 rw [arm_eval_Call_Name']
 refine wpAny_bind (ZoS ok hf (ok.c.glo.bi f b hb) ?_)
 have main:wpAny Y.M Y.A (spliced [(false,eval e env)]) (fun vs s'=>wpAny Y.M Y.A (PySem.call (biVal b) ([]++vs) []) Q E s') E s:=
  Calls.spliced_cons (h ok (k.bind fun x v Z₁ s₁ g rv k=>Calls.spliced_nil (Zth hb' g.sub ok.c.hand rv k)))
 rw [Zrd hn]
 rcases ZrX hb' with ⟨id,q⟩ | ⟨T,q⟩
 ·rw [q] at main ⊢
  exact Calls.callWith_builtin rfl (Calls.evalArgs_plain main)
 ·rw [q] at main ⊢
  exact PySem.callWith_type rfl (Calls.evalArgs_plain main)
theorem SE.isi {e:Expr} {c:C} {t:Str} {ty:Ty} {p q pos:Pos} (hf:R.glob "isinstance" = true) (hn:noStar e=true) (ht:R.glob t=true) (hty:tyName t=some ty) (h:SE R e c) :
  SE R (.Call (.Name "isinstance" p) [e,.Name t q] [] pos) (.isi c ty):=by
 intro Y env Z oa sl s Q E ok k
 rw [arm_eval_Call_Name']
 refine wpAny_bind (ZoS ok hf ok.c.glo.isi ?_)
 rw [args2 hn rfl]
 exact Calls.callWith_builtin rfl (Calls.evalArgs_plain (Calls.spliced_cons (h ok (K.bind k fun x v Z₁ s₁ g rv k=>Calls.spliced_cons (ZoS (ok.nx g) ht (ok.c.glo.ty t ty hty)
  (Calls.spliced_nil (Zsq g.sub rv (K.bind k fun b u Z₂ s₂ g₂ rb k=>K.okS k g₂.sub rb))))))))
theorem Zti {t:Ty} (o:Out D):(o>>=isiT t)=((o>>=isiK t)>>=truthy):=by
 cases o with
 | ok x=>show isInst x t=((isInst x t>>=okB)>>=truthy);cases isInst x t<;>rfl
 | exc=>rfl
 | stuck=>rfl
theorem SE.copy {y:Str} {i:Nat} {p q pos:Pos} (hf:R.glob "list" = true) (hy:R.loc.lookup y=some i) (hd:(y == ("__debug__" : Str))=false):SE R (.Call (.Name "list" p) [.Name y q] [] pos) (.copy i):=by
 intro Y env Z oa sl s Q E ok k
 replace k:K Y Z (Rep Y.P) (copyS sl[i]?) Q E s:=k
 rw [arm_eval_Call_Name']
 refine wpAny_bind (ZoS ok hf (ok.c.glo.ty "list" .tList rfl) ?_)
 rw [Zrd rfl]
 refine PySem.callWith_type rfl (Calls.evalArgs_plain (Calls.spliced_cons (wpAny_Name ?_ hd)))
 have hv:=ok.var y i hy
 cases hs:sl[i]? with
 | none=>rw [hs] at k;exact False.elim k
 | some t=>
  rw [hs] at k hv
  cases t with
  | un=>exact False.elim k
  | own xs=>
   obtain ⟨a,vs,n,_,h1,h4,h5,h6⟩:=hv
   exact Zpi ok.st.kind h1 (Calls.spliced_nil (Zqz ok.c.sub h4 h5 h6 k))
  | val d=>
   obtain ⟨v,hv,rv⟩:=hv
   cases d with
   | list xs=>
    obtain ⟨a,vs,n,rfl,h4,h5,h6⟩:=rv
    exact Zpi ok.st.kind hv (Calls.spliced_nil (Zqz ok.c.sub (ok.c.sub _ _ h4) h5 h6 k))
   | _=>exact False.elim k
theorem SE.join {e:Expr} {c:C} {n:Nat} {bp apos pos:Pos} (hl:(apos.endLine == pos.line)=true) (hn:noStar e=true) (h:SE R e c) :
  SE R (.Call (.Attribute (.Constant (.bytes []) n bp) "join" apos) [e] [] pos) (.bi .join (.cons c .nil)):=by
 intro Y env Z oa sl s Q E ok k
 replace k:K Y Z (Rep Y.P) ((Y.ex c sl>>=fun x=> .ok [x])>>=builtin .join) Q E s:=k
 rw [Out.bind_assoc] at k
 refine wpAny_Call_method1_late rfl hl (Zrd hn) (W.Constant_bytes ?_)
 refine ⟨"bytes", "bytes.join",W.FB.plainAttrs_bytes,Zpu,Zqi,W.typeIs_bytes _ _ _,(fun a q=>nomatch q),?_⟩
 refine method1_meetsIn Zpu Zqa (h (s:={ s with toks:=s.toks+1 }) ok ((k.go (.refl ok.c.sub _)).bind fun x v Z₁ s₁ g rv k=> ?_))
 obtain ⟨h1,h2,S,h3,h4⟩:=ZsP (t:=s.toks) g.sub rv k
 exact ⟨h1,h2,S,h3.inModel _ _,h4⟩
theorem Zrf {Y:Cx} {Z:Zm} {s:Shared} {ks vs:List D} {v:Value} (hs:Sub Z s.heap) (rv:Rep Y.P Z (.dict ks vs) v):Shared.TypeIs s v "dict" ∧∀a,v = .ref a→∃ob,s.heap.get? a=some ob∧ob.dict=none:=by
 obtain ⟨a,rfl,h | h⟩:=rv
 ·obtain ⟨f,h1,_⟩:=h.at_;exact ⟨(h1 _ hs).typeIs,fun a' q=>by cases q;exact (h1 _ hs).noDict _ rfl⟩
 ·obtain ⟨f,h1,_⟩:=h.at_;exact ⟨(h1 _ hs).typeIs,fun a' q=>by cases q;exact (h1 _ hs).noDict _ rfl⟩
theorem SE.get1 {d:Str} {cd:C} {e:Expr} {c:C} {dp apos pos:Pos} (hd:SE R (.Name d dp) cd) (hl:(apos.endLine == pos.line)=true) (hn:noStar e=true) (h:SE R e c) :
  SE R (.Call (.Attribute (.Name d dp) "get" apos) [e] [] pos) (.get cd (.cons c .nil)):=by
 intro Y env Z oa sl s Q E ok k
 refine wpAny_Call_method1_late rfl hl (Zrd hn) (hd ok (K.bind k fun x v Z₁ s₁ g rv k=> ?_))
 cases x with
 | dict ks vs=>
  obtain ⟨hT,hob⟩:=Zrf g.sub rv
  refine ⟨"dict", "dict.get",PySem.F.plainAttrs_dict,PySem.F.slot_dict_get,PySem.F.type_dict_get,hT,hob,?_⟩
  replace k:K Y Z₁ (Rep Y.P) ((Y.ex c sl>>=fun x=> .ok [x])>>=dictGet ks vs) Q E s₁:=k
  rw [Out.bind_assoc] at k
  refine method1_meetsIn PySem.F.slot_dict_get PySem.F.entry_dict_get (h (ok.nx g) (k.bind fun y u Z₂ s₂ g₂ ru k=> ?_))
  obtain ⟨Kt,_,knd,a,kk,f,e1,e2,e3,e4,e5⟩:=ZrV g₂.sub (rv.up g₂.le) ru k
  subst e1
  exact ⟨e4.typeIs,PySem.F.args_dict_get_2 _ _,_,meets_dict_get knd a e3 e2,f,e4,e5⟩
 | _=>exact False.elim k
theorem SE.get2 {d:Str} {cd:C} {e e':Expr} {c c':C} {dp apos pos:Pos} (hd:SE R (.Name d dp) cd) (hl:(apos.endLine == pos.line)=true) (hn:noStar e=true) (hn':noStar e'=true) (h:SE R e c) (h':SE R e' c') :
  SE R (.Call (.Attribute (.Name d dp) "get" apos) [e,e'] [] pos) (.get cd (.cons c (.cons c' .nil))):=by
 intro Y env Z oa sl s Q E ok k
 refine wpAny_Call_method2_late rfl hl (args2 hn hn') (hd ok (K.bind k fun x v Z₁ s₁ g rv k=> ?_))
 cases x with
 | dict ks vs=>
  obtain ⟨hT,hob⟩:=Zrf g.sub rv
  refine ⟨"dict", "dict.get",PySem.F.plainAttrs_dict,PySem.F.slot_dict_get,PySem.F.type_dict_get,hT,hob,?_⟩
  replace k:K Y Z₁ (Rep Y.P) ((Y.ex c sl>>=fun x=>(Y.ex c' sl>>=fun y=> .ok [y])>>=fun ys=> .ok (x::ys))>>=dictGet ks vs) Q E s₁:=k
  rw [Out.bind_assoc] at k
  refine method2_meetsIn PySem.F.slot_dict_get PySem.F.entry_dict_get (h (ok.nx g) (k.bind fun y u Z₂ s₂ g₂ ru k=> ?_))
  rw [Out.bind_assoc,Out.bind_assoc] at k
  refine h' ((ok.nx g).nx g₂) (k.bind fun z t Z₃ s₃ g₃ rt k=> ?_)
  obtain ⟨Kt,_,knd,a,kk,f,e1,e2,e3,e4,e5⟩:=ZrW g₃.sub ((rv.up g₂.le).up g₃.le) (ru.up g₃.le) rt k
  subst e1
  exact ⟨e4.typeIs,PySem.F.args_dict_get_3 _ _ _,_,meets_dict_get_default knd a e3 e2 t,f,e4,e5⟩
 | _=>exact False.elim k
end
end DK.Internal
end
section
set_option backward.match.sparseCases false
set_option genSizeOf false
set_option genCtorIdx false
namespace DK.Internal
open PySem PyProof.Rows
structure Stored (env:Env) (x:Str) (v:Value) (h h':Heap):Prop where
 at_:VarAt h' env x (some v)
 other:∀y u,y≠x→VarAt h env y u→VarAt h' env y u
 but:∃b,Home env x b∧Heap.SameBut b h h'∧∃o,h'.get? b=some o∧∀vs,o.data≠.fields vs
theorem SameBut.get {a b:Addr} {h h':Heap} (x:Heap.SameBut a h h') (n:b≠a) {o:Obj} (e:h.get? b=some o):h'.get? b=some o:=(x.2 b n).trans e
theorem ns_unique {h:Heap} {a:Addr} {m m':Str→Option Value} (x:h.Ns a m) (y:h.Ns a m'):m=m':=by
 obtain ⟨o,es,ep,ho,hd,hk,hm⟩:=x
 obtain ⟨o',es',ep',ho',hd',hk',hm'⟩:=y
 rw [ho] at ho';cases ho'
 rw [hd] at hd';cases hd'
 funext z
 rw [←hm z,←hm' z]
theorem ZpD {env:Env} {x:Str} {b:Addr} (h:Home env x b):Loc env b:=h.imp (·.2) fun q=>⟨x,q.2⟩
def Homes (R:Rs) (env:Env) (b:Addr):Prop:=∃x i,R.put x=some i∧Home env x b
theorem Zpd {R:Rs} {x:Str} {i:Nat} (h:R.put x=some i):R.loc.lookup x=some i:=by
 unfold Rs.put at h;split at h
 ·cases h
 ·exact h
theorem Zpn {sl:List Slot} {i j:Nat} {t:Slot}:(setV sl i t)[j]?=if i=j∧i < sl.length then some t else sl[j]?:=by
 unfold setV
 by_cases h:i=j
 ·subst h
  by_cases hl:i < sl.length
  ·rw [if_pos ⟨rfl,hl⟩,List.getElem?_set_self hl]
  ·rw [if_neg (fun q=>hl q.2),List.set_eq_of_length_le (Nat.le_of_not_lt hl)]
 ·rw [if_neg (fun q=>h q.1),List.getElem?_set_ne h]
theorem KS.of_but {W:Addr→Prop} {Ls:List Addr} {h h':Heap} {b:Addr} (sb:Heap.SameBut b h h') (hb:W b) (hn:∃o,h'.get? b=some o∧∀vs,o.data≠.fields vs):KS W Ls h h':=by
 have nb:∀b',¬W b'→b'≠b:=fun b' nw z=>nw (z ▸ hb)
 refine ⟨fun b' o e nw m=>SameBut.get sb (nb b' nw) e,fun b' o e nw m=>⟨o.slots,SameBut.get sb (nb b' nw) e⟩,fun b' o e q _ nf=> ?_⟩
 by_cases z:b'=b
 ·subst z;exact hn
 ·exact ⟨o,SameBut.get sb z e,nf⟩
section
variable {R:Rs} {Y:Cx} {env:Env} {Z:Zm} {oa oa':Nat→Option Addr} {sl sl':List Slot} {s:Shared} {E:Value→Shared→Prop} {h h':Heap}
theorem store {x:Str} {u:Option Value} {v:Value} {Q:Unit→Shared→Prop} (st:Stat R Y env) (hv:VarAt s.heap env x u) (hQ:∀h' tk',Stored env x v s.heap h'→Q () { s with heap:=h',toks:=tk' }) {M:Model} {A:Around}:wpAny M A (storeName env x v) Q E s:=by
 rcases hv with ⟨k,m,n,e⟩ | ⟨k,c,e,i⟩
 ·refine wpAny_storeName_local k n (fun h' n' sb=>hQ h' _ ⟨.inl ⟨k,_,n',if_pos rfl⟩,fun y u ne q=> ?_,_,.inl ⟨k,rfl⟩,sb,?_⟩) (by rw [st.kind];rfl)
  ·rcases q with ⟨k',m',n₂,e'⟩ | ⟨k',c,e',o,ho,hd⟩
   ·refine .inl ⟨k',_,n',?_⟩
    rw [if_neg ne,←e']
    exact congrFun (ns_unique n n₂) y
   ·exact .inr ⟨k',c,e',o,SameBut.get sb (st.cellL y c e') ho,hd⟩
  ·obtain ⟨o,es,ep,ho,hd,_⟩:=n';exact ⟨o,ho,by rw [hd];exact nofun⟩
 ·refine wpAny_storeName_cell st.kind k e i fun h' i' sb=>hQ h' s.toks ⟨.inr ⟨k,c,e,i'⟩,fun y u ne q=> ?_,c,.inr ⟨k,e⟩,sb,?_⟩
  ·rcases q with ⟨k',m',n,e'⟩ | ⟨k',c',e',o,ho,hd⟩
   ·exact .inl ⟨k',m',ns_keep n fun o ho=>⟨o,SameBut.get sb (fun z=>st.cellL x c e z.symm) ho,rfl⟩,e'⟩
   ·exact .inr ⟨k',c',e',o,SameBut.get sb (fun z=>ne (st.cellA y x c' e' (by rw [z];exact e))) ho,hd⟩
  ·obtain ⟨o,ho,hd⟩:=i';exact ⟨o,ho,by rw [hd];exact nofun⟩
theorem Ok.putS {x:Str} {i:Nat} {v:Value} {t:Slot} (hB:Bs R Y env) (ok:Ok R Y env Z oa sl h) (hx:R.put x=some i) (st:Stored env x v h h') (ht:SlotAt Y.P Z oa' h' env x i (some t)) (hoa:∀j,j≠i→oa' j=oa j)
  (hi:∀a,oa' i=some a→Z a=none∧True∧a∉fas Y.l∧¬Loc env a∧(h'.get? a).isSome=true∧∀j,j≠i→oa j≠some a):Ok R Y env Z oa' (setV sl i t) h':=by
 obtain ⟨b,hm,sb,hn⟩:=st.but
 have hxl:=Zpd hx
 have hbL:=ZpD hm
 have hbZ:=(ok.loz b hbL).1
 have alive:∀a,(h.get? a).isSome=true→(h'.get? a).isSome=true:=fun a e=>by
  by_cases z:a=b
  ·obtain ⟨o,ho,_⟩:=hn;rw [z,ho];rfl
  ·rw [sb.2 a z];exact e
 refine { st:=ok.st,c:=ok.c.ks (W:=fun a=>a=b) (.of_but sb rfl hn) (fun a q=>q ▸ hB x i b hx hm) (fun _ _ e=>e) (fun a o e=>SameBut.get sb (fun z=>by rw [z,hbZ] at e;cases e) (ok.c.sub a o e)) ok.c.frz,var:=fun y j e=> ?_,has:=fun y j e=> ?_,len:=by unfold setV;rw [List.length_set];exact ok.len,loz:=fun a q=>⟨(ok.loz a q).1,alive a (ok.loz a q).2⟩,own:=fun j a q=> ?_,oinj:=fun j k a hj hk=> ?_,ns:= ?_ }
 ·rw [Zpn]
  by_cases z:i=j
  ·subst z
   cases ok.st.wf.inj x y i hxl e
   rw [if_pos ⟨rfl,by rw [ok.len];exact ok.st.wf.lt x i hxl⟩]
   exact ht
  ·rw [if_neg (fun q=>z q.1)]
   have ne:y≠x:=fun q=>by rw [q,hxl] at e;exact z (Option.some.inj e)
   have hj:=hoa j (fun q=>z q.symm)
   have q:=ok.var y j e
   cases hs:sl[j]? with
   | none=>trivial
   | some t=>
    rw [hs] at q
    cases t with
    | un=>trivial
    | val d'=>obtain ⟨u,a1,a2⟩:=q;exact ⟨u,st.other y _ ne a1,a2⟩
    | own xs=>
     obtain ⟨a,vs,n,a0,a1,a2,a3⟩:=q
     exact ⟨a,vs,n,hj.trans a0,st.other y _ ne a1,SameBut.get sb (fun z=>(ok.own j a a0).2.2.2.1 (by rw [z];exact hbL)) a2,a3⟩
 ·by_cases z:y=x
  ·subst z;exact ⟨_,st.at_⟩
  ·exact (ok.has y j e).imp fun u q=>st.other y u z q
 ·by_cases z:j=i
  ·have q:=hi a (z ▸ q);exact ⟨q.1,q.2.1,q.2.2.1,q.2.2.2.1,q.2.2.2.2.1⟩
  ·have q:=ok.own j a ((hoa j z).symm.trans q);exact ⟨q.1,q.2.1,q.2.2.1,q.2.2.2.1,alive a q.2.2.2.2⟩
 ·by_cases z:j=i
  ·by_cases z':k=i
   ·rw [z,z']
   ·exact absurd ((hoa k z').symm.trans hk) ((hi a (z ▸ hj)).2.2.2.2.2 k z')
  ·by_cases z':k=i
   ·exact absurd ((hoa j z).symm.trans hj) ((hi a (z' ▸ hk)).2.2.2.2.2 j z)
   ·exact ok.oinj j k a ((hoa j z).symm.trans hj) ((hoa k z').symm.trans hk)
 ·by_cases z:env.locals=b
  ·rcases st.at_ with ⟨_,m,n,_⟩ | ⟨k,c,hc,_⟩
   ·exact ⟨m,n⟩
   ·rcases hm with ⟨k',_⟩ | ⟨_,hc'⟩
    ·rw [k] at k';cases k'
    ·exact absurd z.symm (ok.st.cellL x b hc')
  ·exact ok.ns.imp fun m q=>ns_keep q fun o ho=>⟨o,SameBut.get sb z ho,rfl⟩
theorem Stored.go {x:Str} {i:Nat} {v:Value} {h':Heap} {tk':Nat} (ok:Ok R Y env Z oa sl s.heap) (hx:R.put x=some i) (st:Stored env x v s.heap h'):Go (Homes R env) Y Z s Z { s with heap:=h',toks:=tk' }:=by
 obtain ⟨b,hm,sb,hn⟩:=st.but
 exact ⟨.of_but sb ⟨x,i,hx,hm⟩ hn,fun _ _ e=>e,fun _ e=> .inl e,fun a o e=>SameBut.get sb (fun z=>by rw [z,(ok.loz b (ZpD hm)).1] at e;cases e) (ok.c.sub a o e),rfl⟩
theorem ZpO {x:Str} {i:Nat} {v:Value} {d:D} {Q:Unit→Shared→Prop} (hB:Bs R Y env) (hx:R.put x=some i) (ok:Ok R Y env Z oa sl s.heap) (rv:Rep Y.P Z d v)
  (hQ:∀s',Ok R Y env Z oa (setV sl i (.val d)) s'.heap→Go (Homes R env) Y Z s Z s'→Q () s') {A:Around}:wpAny Y.M A (storeName env x v) Q E s:=by
 obtain ⟨u,hu⟩:=ok.has x i (Zpd hx)
 refine store ok.st hu fun h' tk' st=>hQ _ (ok.putS hB hx st ⟨v,st.at_,rv⟩ (fun _ _=>rfl) fun a ha=> ?_) (st.go ok hx)
 have q:=ok.own i a ha
 refine ⟨q.1,q.2.1,q.2.2.1,q.2.2.2.1,?_,fun j hj e=>hj (ok.oinj j i a e ha)⟩
 obtain ⟨b,hm,sb,_⟩:=st.but
 rw [sb.2 a (fun z=>q.2.2.2.1 (z ▸ ZpD hm))];exact q.2.2.2.2
noncomputable def Tgt.idx:Tgt→List Nat
 | .one i=> [i]
 | .many is=>is
inductive TgtN (R:Rs):List Expr→List Nat→Prop
 | nil:TgtN R [] []
 | cons {x i p es is}:R.put x=some i→TgtN R es is→TgtN R (.Name x p::es) (i::is)
inductive Tg (R:Rs):Expr→Tgt→Prop
 | one {x i p}:R.put x=some i→Tg R (.Name x p) (.one i)
 | many {es is n p}:TgtN R es is→Tg R (.Tuple es n p) (.many is)
theorem Zrg {es:List Expr} {is:List Nat} (hB:Bs R Y env) (ht:TgtN R es is):∀{vs:List Value} {xs:List D} {sl:List Slot} {s:Shared} {Q:Unit→Shared→Prop},Ok R Y env Z oa sl s.heap →
  Reps Y.P Z xs vs→setAll sl is xs = .ok sl'→(∀s',Ok R Y env Z oa sl' s'.heap→Go (Homes R env) Y Z s Z s'→Q () s')→wpAny Y.M Y.A (assignInOrder ((assignEach es env).map (·.2)) vs) Q E s:=by
 induction ht with
 | nil=>
  intro vs xs sl s Q ok rv hs hQ
  cases xs with
  | nil=>cases hs;cases (show vs = [] from rv);exact assignInOrder_nil (hQ s ok (.self ok.c.sub))
  | cons x xs=>cases hs
 | cons hi ht ih=>
  intro vs xs sl s Q ok rv hs hQ
  cases xs with
  | nil=>cases hs
  | cons d ds=>
   obtain ⟨v,us,rfl,r1,rs⟩:=rv
   exact assignInOrder_cons (wpAny_assign_Name (ZpO hB hi ok r1 fun s' ok' g=>ih ok' rs hs fun s₂ ok₂ g₂=>hQ s₂ ok₂ (g.trans g₂ fun b q=> .inl q)))
theorem ZsQ {es:List Expr} {is:List Nat} (h:TgtN R es is):(assignEach es env).length=is.length∧(assignEach es env).findIdx? (·.1)=none:=by
 induction h with
 | nil=>exact ⟨rfl,rfl⟩
 | cons hi ht ih=>
  refine ⟨congrArg (· + 1) ih.1,?_⟩
  show List.findIdx? (·.1) ((false,_)::assignEach _ env)=none
  rw [List.findIdx?_cons,ih.2];rfl
theorem Zsw {es:List Expr} {is:List Nat} (h:TgtN R es is):∀j∈is,∃x,R.put x=some j:=by
 induction h with
 | nil=>intro j hj;cases hj
 | cons hi ht ih=>exact fun j hj=>(List.mem_cons.mp hj).elim (fun e=>⟨_,e ▸ hi⟩) (ih j)
theorem Zte {t:Expr} {tg:Tgt} (h:Tg R t tg):∀j∈tg.idx,∃x,R.put x=some j:=by
 cases h with
 | one hi=>intro j hj;cases List.mem_singleton.mp hj;exact ⟨_,hi⟩
 | many hi=>exact Zsw hi
theorem ZpS {t:Expr} {tg:Tgt} {v:Value} {d:D} {Q:Unit→Shared→Prop} (hB:Bs R Y env) (ht:Tg R t tg) (ok:Ok R Y env Z oa sl s.heap) (rv:Rep Y.P Z d v) (hs:bindT sl tg d = .ok sl')
  (hQ:∀s',Ok R Y env Z oa sl' s'.heap→Go (Homes R env) Y Z s Z s'→Q () s'):wpAny Y.M Y.A (assign t env v) Q E s:=by
 cases ht with
 | one hi=>cases hs;exact wpAny_assign_Name (ZpO hB hi ok rv hQ)
 | many hi=>
  cases d with
  | tuple xs=>
   rename_i es is n p
   replace hs:((if is.length=xs.length then Out.ok xs else .stuck)>>=setAll sl is) = .ok sl':=hs
   by_cases hl:is.length=xs.length
   ·rw [if_pos hl] at hs
    obtain ⟨a,vs,n,rfl,e,z,rs⟩:=rv
    obtain ⟨h1,h2⟩:=ZsQ (env:=env) hi
    refine wpAny_assign_Tuple ok.c.hand ⟨_,ok.c.sub _ _ e,rfl,_,rfl⟩ (by rw [h1,hl,List.size_toArray,rs.length]) h2 fun h' ex=> ?_
    have g:Nx Y Z s Z { s with heap:=h' }:= .keeps ok.c.sub (fun b o e=>ex b o (Nat.ne_of_lt (Heap.lt_size e)) e) s.toks
    exact Zrg (s:={ s with heap:=h' }) hB hi (ok.nx g) rs hs fun s₂ ok₂ g₂=>hQ s₂ ok₂ (g.go g₂)
   ·rw [if_neg hl] at hs;cases hs
  | _=>cases hs
theorem Zqo (sl:List Slot) (tg:Tgt) (d:D):bindT sl tg d≠.exc:=by
 cases tg with
 | one i=>exact fun e=>nomatch e
 | many is=>
  cases d with
  | tuple xs=>
   show ((if is.length=xs.length then Out.ok xs else .stuck)>>=setAll sl is)≠.exc
   split
   ·show setAll sl is xs≠.exc
    induction is generalizing sl xs with
    | nil=>cases xs<;>exact fun e=>nomatch e
    | cons i is ih=>
     cases xs with
     | nil=>exact fun e=>nomatch e
     | cons x xs=>exact ih _ xs (Nat.succ.inj ‹_›)
   ·exact fun e=>nomatch e
  | _=>exact fun e=>nomatch e
theorem ZpY {is:List Nat}:∀{xs:List D} {sl sl':List Slot},setAll sl is xs = .ok sl'→sl'.length=sl.length∧∀j,j∉is→sl'[j]?=sl[j]?:=by
 induction is with
 | nil=>
  intro xs sl sl' h
  cases xs with
  | nil=>cases h;exact ⟨rfl,fun _ _=>rfl⟩
  | cons x xs=>cases h
 | cons i is ih=>
  intro xs sl sl' h
  cases xs with
  | nil=>cases h
  | cons x xs=>
   obtain ⟨h1,h2⟩:=ih (show setAll (setV sl i (.val x)) is xs = .ok sl' from h)
   exact ⟨h1.trans (List.length_set ..),fun j hj=>by rw [h2 j (fun m=>hj (List.mem_cons_of_mem _ m)),Zpn,if_neg (fun q=>hj (by rw [q.1];exact List.mem_cons_self ..))]⟩
theorem ZpK {sl sl':List Slot} {t:Tgt} {d:D} (h:bindT sl t d = .ok sl'):sl'.length=sl.length∧∀j,j∉t.idx→sl'[j]?=sl[j]?:=by
 cases t with
 | one i=>
  cases h
  exact ⟨List.length_set ..,fun j hj=>by rw [Zpn,if_neg (fun q=>hj (by rw [←q.1];exact List.mem_cons_self ..))]⟩
 | many is=>
  cases d with
  | tuple xs=>
   replace h:((if is.length=xs.length then Out.ok xs else .stuck)>>=setAll sl is) = .ok sl':=h
   split at h
   ·exact ZpY h
   ·cases h
  | _=>cases h
end
end DK.Internal
end
section
set_option backward.match.sparseCases false
set_option genSizeOf false
set_option genCtorIdx false
namespace DK.Internal
open PySem PyProof.Rows
noncomputable def isTup:Expr→Bool
 | .Tuple _ _ _=>true
 | _=>false
structure Wt (wr:List Addr) (Y:Cx) (Z:Zm) (s:Shared) (Z':Zm) (s':Shared):Prop where
 go:Go (·∈wr) Y Z s Z' s'
 nz:∀b∈wr,Z' b=none
structure Wk (Y:Cx) (tup:Bool) (I:Addr) (wr:List Addr) (ds:List D) (St:Nat→Heap→Prop) (Z₀:Zm):Prop where
 alive:∀i h,St i h→∀b∈wr,(h.get? b).isSome=true
 frame:∀i h h',St i h→Sub Z₀ h→Sub Z₀ h'→(∀b∈wr,∀o,h.get? b=some o→h'.get? b=some o)→St i h'
 item:∀{Z:Zm} {i:Nat} {d:D} {s:Shared} {G:Value→Shared→Prop} {E:Value→Shared→Prop} (tgt:Expr),(tup=true→isTup tgt=true)→ds[i]?=some d→St i s.heap→Zle Z₀ Z→Sub Z s.heap→(∀b∈wr,Z b=none∧b∉fas Y.l) →
  (∀v Z' s',St (i+1) s'.heap→Wt wr Y Z s Z' s'→Rep Y.P Z' d v→G v s') →
  wpAny Y.M Y.A (pyNext (.ref I)) (fun x s₁=>∃v,x=some v∧wpAny Y.M Y.A (letOwnedTupleGo tgt (.ref I) v) (fun _ s₂=>G v s₂) E s₁) E s
 done:∀{Z:Zm} {s:Shared} {Q:Option Value→Shared→Prop} {E:Value→Shared→Prop},St ds.length s.heap→Sub Z s.heap→(∀b∈wr,Z b=none∧b∉fas Y.l)→(∀s',Wt wr Y Z s Z s'→Q none s')→wpAny Y.M Y.A (pyNext (.ref I)) Q E s
 self:∀{i:Nat} {s:Shared} {Q:Value→Shared→Prop} {E:Value→Shared→Prop},St i s.heap→Q (.ref I) s→wpAny Y.M Y.A (pyIter (.ref I)) Q E s
section
variable {Y:Cx} {Z Z₀:Zm} {s:Shared} {E:Value→Shared→Prop}
theorem Wt.of_keep {wr:List Addr} {h':Heap} (hs:Sub Z s.heap) (hw:∀b∈wr,Z b=none∧b∉fas Y.l) (k:∀b o,b∉wr→s.heap.get? b=some o→h'.get? b=some o) (tk:Nat):Wt wr Y Z s Z { s with heap:=h',toks:=tk }:=
 ⟨⟨⟨fun b o e nw _=>k b o nw e,fun b o e nw _=>⟨o.slots,k b o nw e⟩,fun b o e w m=>absurd m (hw b w).2⟩,fun _ _ e=>e,fun _ e=> .inl e,fun b o e=>k b o (fun w=>by rw [(hw b w).1] at e;cases e) (hs b o e),rfl⟩,fun b w=>(hw b w).1⟩
def enums:List String:= ["enumerate", "zip", "dict_itemiterator", "dict_reverseitemiterator", "odict_iterator", "itertools.zip_longest", "itertools.pairwise"]
theorem Zrh {I:Addr} {v:Value} {o:Obj} {T:String} {Q:Unit→Shared→Prop} {M:Model} {A:Around} (ho:s.heap.get? I=some o) (hc:o.cls = .type T) (hT:enums.contains T=false) (hQ:Q () s):wpAny M A (letOwnedTupleGo (.Tuple [] 0 default) (.ref I) v) Q E s:=by
 cases v with
 | ref a=>
  refine wpAny_bind (m:=load I) (wpAny_load ho ?_)
  obtain ⟨c,di,da,sl⟩:=o
  cases (show c = .type T from hc)
  cases da with
  | fields vs=>exact ZqL (by rw [show (["enumerate", "zip", "dict_itemiterator", "dict_reverseitemiterator", "odict_iterator", "itertools.zip_longest", "itertools.pairwise"].contains T)=false from hT];exact Bool.false_ne_true) (wpAny_pure hQ)
  | _=>exact wpAny_pure hQ
 | _=>exact wpAny_pure hQ
theorem Zry {tgt:Expr} {I:Addr} {v:Value} {o:Obj} {T:String} {Q:Unit→Shared→Prop} {M:Model} {A:Around} (ho:s.heap.get? I=some o) (hc:o.cls = .type T) (hT:enums.contains T=false) (hQ:Q () s):wpAny M A (letOwnedTupleGo tgt (.ref I) v) Q E s:=by
 cases tgt with
 | Tuple es n p=>exact Zrh ho hc hT hQ
 | List es p=>exact Zrh ho hc hT hQ
 | _=>exact wpAny_pure hQ
theorem Wk.of_walks {I:Addr} {fp:List Addr} {ds:List D} {Pv:Nat→Value→Prop} {St:Nat→Heap→Prop} {T:String} (W:Walks Y.P.prog Y.P.w Y.A I fp [I] ds.length Pv St) (hT:enums.contains T=false) (hfp:∀b∈fp,b=I∨∃o,Z₀ b=some o)
  (cls:∀i h,St i h→∃o,h.get? I=some o∧o.cls = .type T) (val:∀{i:Nat} {v:Value} {d:D},ds[i]?=some d→Pv i v→Rep Y.P Z₀ d v):Wk Y false I [I] ds St Z₀ where
 alive:=fun i h st b hb=>by rw [List.mem_singleton.mp hb];obtain ⟨o,ho,_⟩:=cls i h st;rw [ho];rfl
 frame:=fun i h h' st s1 s2 k=>W.frame i h h' st fun b hb o e=>by
  rcases hfp b hb with q | ⟨o',q⟩
  ·exact k b (List.mem_singleton.mpr q) o e
  ·rw [s1 b o' q] at e;cases e;exact s2 b _ q
 item:=fun {Z i d s G E} tgt _ hd st le hs hw hG=>by
  refine W.item i s _ E (List.getElem?_eq_some_iff.mp hd).1 st fun v h' tk hv st' hk=> ?_
  obtain ⟨o,ho,hc⟩:=cls _ _ st'
  exact ⟨v,rfl,Zry (s:={ s with heap:=h',toks:=tk }) ho hc hT (hG v Z _ st' (.of_keep hs hw hk tk) ((val hd hv).up le))⟩
 done:=fun {Z s Q E} st hs hw hQ=>W.done s Q E st fun h' tk hk=>hQ _ (.of_keep hs hw hk tk)
 self:=fun {i s Q E} st hQ=>W.self i s Q E st hQ
structure It0 (Y:Cx) (tup:Bool) (I:Addr) (wr:List Addr) (ds:List D) (St:Nat→Heap→Prop) (Z:Zm) (h₀ h:Heap):Prop where
 wk:Wk Y tup I wr ds St Z
 st:St 0 h
 new:∀b∈wr,h₀.get? b=none∧Z b=none
 sz:ds.length≤SZ
noncomputable def KI (Y:Cx) (tup:Bool) (Q:Value→Shared→Prop) (E:Value→Shared→Prop) (Z:Zm) (s:Shared) (o:Out (List D)):Prop:=match o with
 | .ok ds=>∀I wr St Z' s',Nx Y Z s Z' s'→It0 Y tup I wr ds St Z' s.heap s'.heap→Q (.ref I) s'
 | .exc=>∀x s',Ex No Y s x s'→E (.ref x) s'
 | .stuck=>False
structure Post {γ:Type} (Y:Cx) (E:Value→Shared→Prop) (T:Zm→Shared→Out γ→Prop):Prop where
 step:∀{Z s Z' s' o},T Z s o→Nx Y Z s Z' s'→T Z' s' o
 exc:∀{Z s},T Z s .exc→∀x s',Ex No Y s x s'→E (.ref x) s'
 stuck:∀{Z s},T Z s .stuck→False
theorem Post.bindE {α β γ:Type} {T:Zm→Shared→Out γ→Prop} {R:Zm→β→α→Prop} {Q:α→Shared→Prop} {o:Out β} {f:β→Out γ} (p:Post Y E T) (k:T Z s (o>>=f)) (g:∀d v Z' s',o = .ok d→Nx Y Z s Z' s'→R Z' d v→T Z' s' (f d)→Q v s'):K Y Z R o Q E s:=by
 cases o with
 | ok d=>exact fun v Z' s' x r=>g d v Z' s' rfl x r (p.step (o:=f d) k x)
 | exc=>exact p.exc k
 | stuck=>exact p.stuck k
theorem Post.bind {α β γ:Type} {T:Zm→Shared→Out γ→Prop} {R:Zm→β→α→Prop} {Q:α→Shared→Prop} {o:Out β} {f:β→Out γ} (p:Post Y E T) (k:T Z s (o>>=f)) (g:∀d v Z' s',Nx Y Z s Z' s'→R Z' d v→T Z' s' (f d)→Q v s'):K Y Z R o Q E s:=
 p.bindE k fun d v Z' s' _=>g d v Z' s'
theorem KI.post {tup:Bool} {Q:Value→Shared→Prop}:Post Y E (KI Y tup Q E) where
 step:=fun {Z s Z' s' o} k g=>by
  cases o with
  | ok ds=>exact fun I wr St Z₂ s₂ g₂ i=>k I wr St Z₂ s₂ (g.nx g₂) { i with new:=fun b hb=>⟨(g.ks.gone (i.new b hb).1).resolve_left id,(i.new b hb).2⟩ }
  | exc=>exact fun x s₂ e=>k x s₂ (g.ex e fun _ q=>q.elim)
  | stuck=>exact k
 exc:=fun k=>k
 stuck:=fun k=>k
theorem KI.done {tup:Bool} {Q:Value→Shared→Prop} {ds:List D} {St:Nat→Heap→Prop} {o:Obj} {tk:Nat} (hs:Sub Z s.heap) (k:KI Y tup Q E Z s (.ok ds)) (wk:Wk Y tup s.heap.objs.size [s.heap.objs.size] ds St Z) (st:St 0 (s.heap.push o)) (z:ds.length≤SZ):Q (.ref s.heap.objs.size) { s with heap:=s.heap.push o,toks:=tk }:=
 have fr:s.heap.get? s.heap.objs.size=none:=Heap.get?_none_of_le (Nat.le_refl _)
 k _ _ _ Z _ (.keeps hs (fun _ _ e=>Heap.get?_push_of_some _ e) tk) ⟨wk,st,fun b hb=>by rw [List.mem_singleton.mp hb];exact ⟨fr,hs.fresh fr⟩,z⟩
theorem ZrY {v:Value} {d:D} {Q:Value→Shared→Prop} (hh:Y.A.handled=none) (hs:Sub Z s.heap) (rv:Rep Y.P Z d v) (k:KI Y false Q E Z s (itemsOf d)):wpAny Y.M Y.A (pyIter v) Q E s:=by
 cases d with
 | list ds=>
  obtain ⟨a,vs,n,rfl,e,z,rs⟩:=rv
  have he:=hs _ _ e
  have hne:a≠s.heap.objs.size:=Nat.ne_of_lt (Heap.lt_size he)
  have W:=Walks.list (prog:=Y.P.prog) (w:=Y.P.w) hh s.heap.objs.size a hne vs.toArray
  rw [show vs.toArray.size=ds.length from rs.length] at W
  refine wpAny_pyIter_list ⟨_,he,rfl,_,rfl⟩ (KI.done hs k (.of_walks (T:= "list_iterator") W (by decide) (fun b hb=> ?_) (fun i h st=>st.1.elim fun o q=>⟨o,q.1,q.2.1⟩) fun {i v d} hd hv=> ?_) ⟨⟨_,Heap.get?_push_size _ rfl,rfl,rfl⟩,⟨_,Heap.get?_push_of_some _ he,rfl,_,rfl⟩⟩ (rs.length ▸ z))
  ·rcases List.mem_cons.mp hb with q | q
   ·exact .inl q
   ·exact .inr ⟨_,List.mem_singleton.mp q ▸ e⟩
  ·obtain ⟨u,hu,ru⟩:=rs.get hd
   rw [List.getElem?_toArray,hu] at hv;cases hv;exact ru
 | tuple ds=>
  obtain ⟨a,vs,n,rfl,e,z,rs⟩:=rv
  have he:=hs _ _ e
  have hne:a≠s.heap.objs.size:=Nat.ne_of_lt (Heap.lt_size he)
  have W:=Walks.tuple (prog:=Y.P.prog) (w:=Y.P.w) hh s.heap.objs.size a hne vs.toArray
  rw [show vs.toArray.size=ds.length from rs.length] at W
  refine wpAny_pyIter_tuple ⟨_,he,rfl,_,rfl⟩ (KI.done hs k (.of_walks (T:= "tuple_iterator") W (by decide) (fun b hb=> ?_) (fun i h st=>st.1.elim fun o q=>⟨o,q.1,q.2.1⟩) fun {i v d} hd hv=> ?_) ⟨⟨_,Heap.get?_push_size _ rfl,rfl,rfl⟩,⟨_,Heap.get?_push_of_some _ he,rfl,_,rfl⟩⟩ (rs.length ▸ z))
  ·rcases List.mem_cons.mp hb with q | q
   ·exact .inl q
   ·exact .inr ⟨_,List.mem_singleton.mp q ▸ e⟩
  ·obtain ⟨u,hu,ru⟩:=rs.get hd
   rw [List.getElem?_toArray,hu] at hv;cases hv;exact ru
 | bytes bs=>
  obtain ⟨b,t,rfl,z,rfl⟩:=rv
  have W:=PySem.W.KBw.walks (prog:=Y.P.prog) (w:=Y.P.w) hh s.heap.objs.size b t
  rw [show b.size=(b.toList.map fun u=>D.int u.toNat).length by rw [List.length_map,Array.length_toList]] at W
  refine PySem.W.KBw.pyIter_bytes (KI.done hs k (.of_walks (T:= "bytes_iterator") W (by decide) (fun b hb=> .inl (List.mem_singleton.mp hb)) (fun i h st=>st.elim fun o q=>⟨o,q.1,q.2.1⟩) fun {i v d} hd hv=> ?_) ⟨_,Heap.get?_push_size _ rfl,rfl,rfl⟩ (by rw [List.length_map,Array.length_toList];exact z))
  obtain ⟨c,u,hc,rfl⟩:=hv
  rw [List.getElem?_map,Array.getElem?_toList,hc] at hd
  cases hd;exact rInt _ _
 | str cs=>
  obtain ⟨x,t,rfl,z,rfl⟩:=rv
  have main:∀(T:String) (o:Obj) (St:Nat→Heap→Prop),enums.contains T=false→Walks Y.P.prog Y.P.w Y.A s.heap.objs.size [s.heap.objs.size] [s.heap.objs.size] x.cps.size (SignAt x) St→(∀i h,St i h→∃o,h.get? s.heap.objs.size=some o∧o.cls = .type T)→St 0 (s.heap.push o) →
    Q (.ref s.heap.objs.size) { s with heap:=s.heap.push o }:=by
   intro T o St hT W hc st
   rw [show x.cps.size=(x.cps.toList.map fun c=>D.str [c]).length by rw [List.length_map,Array.length_toList]] at W
   refine KI.done (tk:=s.toks) hs k (.of_walks (T:=T) W hT (fun b hb=> .inl (List.mem_singleton.mp hb)) hc fun {i v d} hd hv=> ?_) st (by rw [List.length_map,Array.length_toList];exact z)
   obtain ⟨c,u,hc,rfl⟩:=hv
   rw [List.getElem?_map,Array.getElem?_toList,hc] at hd
   cases hd
   exact rStr ⟨#[c]⟩ u (show 1≤SZ by decide)
  cases ha:x.cps.all (· < 128)
  ·exact wpAny_pyIter_wide ha (main "str_iterator" _ _ (by decide) (Walks.strWide hh _ x t) (fun i h st=>st.elim fun o q=>⟨o,q.1,q.2.1⟩) ⟨_,Heap.get?_push_size _ rfl,rfl,rfl⟩)
  ·exact wpAny_pyIter_ascii ha (main "str_ascii_iterator" _ _ (by decide) (Walks.strAscii hh _ x t) (fun i h st=>st.elim fun o q=>⟨o,q.1,q.2.1⟩) ⟨_,Heap.get?_push_size _ rfl,rfl,rfl⟩)
 | _=>exact False.elim k
end
theorem ZpT (n:Nat):∀{a:Int},(upFrom a n).length=n∧∀{i:Nat} {d:D},(upFrom a n)[i]?=some d→d = .int (a+i*1):=by
 induction n with
 | zero=>exact fun {a}=>⟨rfl,fun {i d} h=>nomatch h⟩
 | succ n ih=>
  intro a
  refine ⟨congrArg (· + 1) ih.1,fun {i d} h=> ?_⟩
  cases i with
  | zero=>cases h;exact congrArg _ (by simp)
  | succ i=>exact (ih.2 h).trans (congrArg _ (by lia))
theorem Zpx (n:Nat):∀{a:Int},(downFrom a n).length=n∧∀{i:Nat} {d:D},(downFrom a n)[i]?=some d→d = .int (a+i * -1):=by
 induction n with
 | zero=>exact fun {a}=>⟨rfl,fun {i d} h=>nomatch h⟩
 | succ n ih=>
  intro a
  refine ⟨congrArg (· + 1) ih.1,fun {i d} h=> ?_⟩
  cases i with
  | zero=>cases h;exact congrArg _ (by simp)
  | succ i=>exact (ih.2 h).trans (congrArg _ (by lia))
theorem Zpy (xs:List D):∀{a:Int},(enumFrom a xs).length=xs.length∧∀{i:Nat} {d:D},(enumFrom a xs)[i]?=some d→∃x,xs[i]?=some x∧d = .tuple [.int (a+i),x]:=by
 induction xs with
 | nil=>exact fun {a}=>⟨rfl,fun {i d} h=>nomatch h⟩
 | cons x xs ih=>
  intro a
  refine ⟨congrArg (· + 1) ih.1,fun {i d} h=> ?_⟩
  cases i with
  | zero=>cases h;exact ⟨x,rfl,by rw [show a+((0:Nat):Int)=a by simp]⟩
  | succ i=>
   obtain ⟨y,hy,e⟩:=ih.2 h
   exact ⟨y,hy,by rw [e,show a+1+(i:Int)=a+((i+1:Nat):Int) by lia]⟩
theorem Zqb {a:Int} (h:small a=true) : -4294967296 < a∧a < 4294967296:=by
 have h:a.natAbs < 4294967296:=of_decide_eq_true h
 omega
theorem ZpH (a b:Int):Builtin.Range.rangeSize a b (-1)=if b < a then a - b else 0:=by
 unfold Builtin.Range.rangeSize
 rw [if_neg (by decide),show (-(-1):Int)=1 by decide]
 simp only [Int.ediv_one,gt_iff_lt]
 split<;>lia
theorem ZrZ {a b:Int} (ha:small a=true) (hb:small b=true):Builtin.Range.small a b (-1)=true:=by
 have:=Zqb ha
 have:=Zqb hb
 unfold Builtin.Range.small
 rw [ZpH]
 simp only [Builtin.Range.rangeFitsLong,Bool.and_eq_true,Bool.or_eq_true,decide_eq_true_eq,beq_iff_eq,show ¬((-1:Int) > 0) by decide,if_false]
 split<;>lia
section
variable {Y:Cx} {Z Z₀:Zm} {s:Shared} {E:Value→Shared→Prop} {Q:Value→Shared→Prop} {R:Rs}
theorem ZrK (hh:Y.A.handled=none) {I:Addr} (a c:Int) (ds:List D) (hd:∀{i:Nat} {d},ds[i]?=some d→d = .int (a+i*c)):Wk Y false I [I] ds (fun i h=>IsRangeIter h I (a+(i:Nat)*c) ((ds.length:Int) - (i:Nat)) c) Z₀:=
 Wk.of_walks (T:= "range_iterator") (Walks.range (prog:=Y.P.prog) (w:=Y.P.w) hh I a c ds.length) (by decide) (fun b hb=> .inl (List.mem_singleton.mp hb)) (fun i h st=>⟨_,st,rfl⟩) (fun {i v d} e hv=>by obtain ⟨t,rfl⟩:=hv;rw [hd e];exact rInt _ _)
theorem Zqp {a b:Int} {t u v:Tok} {st:Int} {rg:Addr} (hh:Y.A.handled=none) (hs:Sub Z s.heap) (hr:IsRange s.heap rg a b st t u v) (k:KI Y false Q E Z s (rngI a b st)):wpAny Y.M Y.A (pyIter (.ref rg)) Q E s:=by
 unfold rngI at k
 by_cases hc:small a=true∧small b=true∧(b - a).toNat≤SZ∧(a - b).toNat≤SZ
 ·rw [if_pos hc] at k
  obtain ⟨h1,h2,h3,h4⟩:=hc
  by_cases e1:st=1
  ·rw [if_pos e1] at k
   subst e1
   have h1:=Zqb h1
   have h2:=Zqb h2
   refine wpAny_pyIter_range hr (small_one (by lia) (by lia) (by lia) (by lia)) (KI.done hs k (ZrK hh a 1 _ (ZpT _).2) ?_ (by rw [(ZpT _).1];exact h3))
   rw [(ZpT _).1,show a+((0:Nat):Int)*1=a by simp,show (((b - a).toNat:Nat):Int) - ((0:Nat):Int)=Builtin.Range.rangeSize a b 1 by rw [rangeSize_one];split<;>lia]
   exact Heap.get?_push_size _ rfl
  ·rw [if_neg e1] at k
   by_cases e2:st = -1
   ·rw [if_pos e2] at k
    subst e2
    refine wpAny_pyIter_range hr (ZrZ h1 h2) (KI.done hs k (ZrK hh a (-1) _ (Zpx _).2) ?_ (by rw [(Zpx _).1];exact h4))
    rw [(Zpx _).1,show a+((0:Nat):Int)*(-1)=a by simp,show (((a - b).toNat:Nat):Int) - ((0:Nat):Int)=Builtin.Range.rangeSize a b (-1) by rw [ZpH];split<;>lia]
    exact Heap.get?_push_size _ rfl
   ·rw [if_neg e2] at k;exact False.elim k
 ·rw [if_neg hc] at k;exact False.elim k
theorem Ztj (hh:Y.A.handled=none) {e it ax:Addr} (hei:e≠it) (hle:ax≠e) (hli:ax≠it) {vs:List Value} {xs:List D} {n:Nat} (hz:Z₀ ax=some (lstO vs n)) (rs:Reps Y.P Z₀ xs vs) :
  Wk Y true e [e,it] (enumFrom 0 xs) (fun i h=>(∃old,IsEnum h e it i old)∧h.IsListIter it ax i∧h.IsList ax vs.toArray) Z₀:=
 have W:=WalksT.enumerate (prog:=Y.P.prog) (w:=Y.P.w) hh e it ax hei hle hli vs.toArray
 have mem:∀b,b∉[e,it]→b≠e∧b≠it:=fun b nb=>⟨fun z=>nb (z ▸ List.mem_cons_self ..),fun z=>nb (z ▸ List.mem_cons_of_mem _ (List.mem_cons_self ..))⟩
 {
  alive:=fun i h st b hb=>by
   obtain ⟨⟨old,he⟩,⟨o,ho,_⟩,_⟩:=st
   rcases List.mem_cons.mp hb with rfl | hb
   ·rw [he];rfl
   ·cases List.mem_singleton.mp hb;rw [ho];rfl
  frame:=fun i h h' st s1 s2 k=>W.frame i h h' st fun b hb o eo=>by
   by_cases m:b∈[e,it]
   ·exact k b m o eo
   ·have:b=ax:=by
     rcases List.mem_cons.mp hb with q | hb
     ·exact absurd q (mem b m).1
     ·rcases List.mem_cons.mp hb with q | hb
      ·exact absurd q (mem b m).2
      ·exact List.mem_singleton.mp hb
    subst this
    rw [s1 _ _ hz] at eo;cases eo;exact s2 _ _ hz
  done:=fun {Z s Q E} st hs hw hQ=>W.done s Q E (by rw [(Zpy _).1] at st;rw [List.size_toArray,rs.length];exact st) fun h' tk hk=>hQ _ (.of_keep hs hw hk tk)
  self:=fun {i s Q E} st hQ=>W.self i s Q E st hQ
  item:=fun {Z i d s G E} tgt htup hd st le hs hw hG=>by
   obtain ⟨x,hx,rfl⟩:=(Zpy _).2 hd
   obtain ⟨⟨old,he⟩,hit,hL⟩:=st
   obtain ⟨u,hu,ru⟩:=rs.get hx
   refine wpAny_pyNext_enum_item he hit hL (x:=u) (by rw [List.getElem?_toArray];exact hu) hei fun h' ho hit' hT hsz hk=>⟨_,rfl,?_⟩
   have hTe:s.heap.objs.size≠e:=Nat.ne_of_gt (Heap.lt_size he)
   have fr:s.heap.get? s.heap.objs.size=none:=Heap.get?_none_of_le (Nat.le_refl _)
   cases tgt with
   | Tuple elts k pos=>
    refine wpAny_letOwnedTupleGo_enum ho fun h₂ he₂ sb=> ?_
    have w:Wt [e,it] Y Z s Z { s with heap:=h₂,toks:=s.toks+1 }:= .of_keep hs hw (fun b o nb q=>(sb.2 b (mem b nb).1).trans (hk b o (mem b nb).1 (mem b nb).2 q)) _
    have hT₂:h₂.get? s.heap.objs.size=some (tupO [.int i s.toks,u] 0):=(sb.2 _ hTe).trans hT
    have wz:∀b∈[e,it],b≠s.heap.objs.size:=fun b hb z=>by
     rcases List.mem_cons.mp hb with q | hb
     ·exact hTe (z.symm.trans q)
     ·obtain ⟨o,ho,_⟩:=hit;rw [←List.mem_singleton.mp hb,z,fr] at ho;cases ho
    refine hG _ (Zput Z s.heap.objs.size (tupO [.int i s.toks,u] 0)) _ ⟨⟨u,by simpa using he₂⟩,hit'.at fun o y=>(sb.2 it hei.symm).trans y,(hL.at fun o x=>hk ax o hle hli x).at fun o y=>(sb.2 ax hle).trans y⟩
     ⟨⟨w.go.ks,Zps (hs.fresh fr),fun b q=> ?_,Sub.put w.go.sub hT₂,rfl⟩,fun b hb=>by rw [Zput,if_neg (wz b hb)];exact (hw b hb).1⟩
     ⟨_,_,0,rfl,ZoX,(by decide:2≤SZ),.cons (by rw [Int.zero_add];exact rInt _ _) (.cons ((ru.up le).up (Zps (hs.fresh fr))) rfl)⟩
    by_cases z:b=s.heap.objs.size
    ·exact .inr (.inr (z ▸ fr))
    ·exact .inl (by rwa [Zput,if_neg z] at q)
   | _=>exact absurd (htup rfl) Bool.false_ne_true }
noncomputable def It.isEnum:It→Bool
 | .enum _=>true
 | _=>false
def SI (R:Rs) (e:Expr) (it:It):Prop:=∀{Y:Cx} {env:Env} {Z:Zm} {oa:Nat→Option Addr} {sl:List Slot} {s:Shared} {Q:Value→Shared→Prop} {E:Value→Shared→Prop},
 Ok R Y env Z oa sl s.heap→KI Y it.isEnum Q E Z s (Y.items it sl)→wpAny Y.M Y.A (eval e env) (fun x s₁=>wpAny Y.M Y.A (pyIter x) Q E s₁) E s
theorem SI.seq {e:Expr} {c:C} (h:SE R e c):SI R e (.seq c):=fun ok k=>
 h ok (KI.post.bind k fun d v Z₁ s₁ g rv k=>ZrY ok.c.hand g.sub rv k)
@[elab_as_elim] theorem KI.onInt {tup:Bool} {x:D} {v:Value} {f:Int→Out (List D)} {G:Value→Prop} (k:KI Y tup Q E Z s (onInt f x)) (r:Rep Y.P Z x v) (g:∀i t,KI Y tup Q E Z s (f i)→G (.int i t)):G v:=by
 cases x with
 | int i=>obtain ⟨t,rfl⟩:=r;exact g i t k
 | _=>exact False.elim k
theorem Zpo {Y:Cx} {Z:Zm} {s:Shared} (hs:Sub Z s.heap) (o:Obj) (tk:Nat):Nx Y Z s Z { s with heap:=s.heap.push o,toks:=tk }:= .keeps hs (fun _ _ e=>Heap.get?_push_of_some _ e) tk
theorem SI.rng1 {e:Expr} {c:C} {p pos:Pos} (hf:R.glob "range" = true) (hn:noStar e=true) (h:SE R e c):SI R (.Call (.Name "range" p) [e] [] pos) (.rng (.k (.int 0)) c 1):=by
 intro Y env Z oa sl s Q E ok k
 rw [arm_eval_Call_Name']
 refine wpAny_bind (ZoS ok hf ok.c.glo.rng ?_)
 rw [Zrd hn]
 refine PySem.callWith_type rfl (Calls.evalArgs_plain (Calls.spliced_cons (h ok (KI.post.bind (f:=fun y=>rngK 1 (.int 0) y) k fun x v Z₁ s₁ g rv k=>Calls.spliced_nil ?_))))
 refine KI.onInt (f:=fun b=>rngI 0 b 1) k rv fun i t k=>call_range_1 ?_
 exact Zqp ok.c.hand (Zpo (Y:=Y) g.sub _ _).sub (IsRange.new ..) (KI.post.step k (Zpo g.sub _ _))
theorem SI.rng2 {e e':Expr} {c c':C} {p pos:Pos} (hf:R.glob "range" = true) (hn:noStar e=true) (hn':noStar e'=true) (h:SE R e c) (h':SE R e' c'):SI R (.Call (.Name "range" p) [e,e'] [] pos) (.rng c c' 1):=by
 intro Y env Z oa sl s Q E ok k
 rw [arm_eval_Call_Name']
 refine wpAny_bind (ZoS ok hf ok.c.glo.rng ?_)
 rw [args2 hn hn']
 refine PySem.callWith_type rfl (Calls.evalArgs_plain (Calls.spliced_cons (h ok (KI.post.bind (f:=fun x=>Y.ex c' sl>>=fun y=>rngK 1 x y) k fun x v Z₁ s₁ g rv k=>Calls.spliced_cons (h' (ok.nx g) (KI.post.bind k fun x' v' Z₂ s₂ g₂ rv' k=>Calls.spliced_nil ?_))))))
 refine KI.onInt (f:=fun a=>onInt (fun b=>rngI a b 1) x') k (rv.up g₂.le) fun i t k=>KI.onInt k rv' fun i' t' k=>call_range_2 ?_
 exact Zqp ok.c.hand (Zpo (Y:=Y) g₂.sub _ _).sub (IsRange.new ..) (KI.post.step k (Zpo g₂.sub _ _))
theorem SI.rng3 {e e' e3:Expr} {c c':C} {p pos:Pos} (hf:R.glob "range" = true) (hn:noStar e=true) (hn':noStar e'=true) (hn3:noStar e3=true) (h:SE R e c) (h':SE R e' c') (h3:SE R e3 (.neg (.k (.int 1)))):SI R (.Call (.Name "range" p) [e,e',e3] [] pos) (.rng c c' (-1)):=by
 intro Y env Z oa sl s Q E ok k
 rw [arm_eval_Call_Name']
 refine wpAny_bind (ZoS ok hf ok.c.glo.rng ?_)
 rw [show backTo pos (starEach [e,e',e3] env) = [(false,eval e env),(false,eval e' env),(false,eval e3 env)] by rw [ZoV hn,ZoV hn',ZoV hn3];rfl]
 refine PySem.callWith_type rfl (Calls.evalArgs_plain (Calls.spliced_cons (h ok (KI.post.bind (f:=fun x=>Y.ex c' sl>>=fun y=>rngK (-1) x y) k fun x v Z₁ s₁ g rv k=>Calls.spliced_cons (h' (ok.nx g) (KI.post.bind k fun x' v' Z₂ s₂ g₂ rv' k=>Calls.spliced_cons (h3 ((ok.nx g).nx g₂) ?_)))))))
 show ∀v Z' s',Nx Y Z₂ s₂ Z' s'→Rep Y.P Z' (.int (-1)) v→_
 intro w Z₃ s₃ g₃ r3
 refine Calls.spliced_nil ?_
 obtain ⟨t3,rfl⟩:=r3
 refine KI.onInt (f:=fun a=>onInt (fun b=>rngI a b (-1)) x') (KI.post.step k g₃) ((rv.up g₂.le).up g₃.le) fun i t k=>KI.onInt k (rv'.up g₃.le) fun i' t' k=>call_range_3 (by decide) ?_ (.inl (PyProof.noPylong_small (by decide)))
 exact Zqp ok.c.hand (Zpo (Y:=Y) g₃.sub _ _).sub (IsRange.new ..) (KI.post.step k (Zpo g₃.sub _ _))
theorem SI.enum {e:Expr} {c:C} {p pos:Pos} (hf:R.glob "enumerate" = true) (hn:noStar e=true) (h:SE R e c):SI R (.Call (.Name "enumerate" p) [e] [] pos) (.enum c):=by
 intro Y env Z oa sl s Q E ok k
 rw [arm_eval_Call_Name']
 refine wpAny_bind (ZoS ok hf ok.c.glo.enu ?_)
 rw [Zrd hn]
 refine PySem.callWith_type rfl (Calls.evalArgs_plain (Calls.spliced_cons (h ok (KI.post.bind k fun x v Z₁ s₁ g rv k=>Calls.spliced_nil ?_))))
 cases x with
 | list xs=>
  obtain ⟨a,vs,n,rfl,e,z,rs⟩:=rv
  have he:=g.sub _ _ e
  refine call_enumerate_list ⟨_,he,rfl,_,rfl⟩ fun h2 he2 hit hsz hk=>wpAny_pyIter_enum he2 ?_
  have hlt:a < s₁.heap.objs.size:=Heap.lt_size he
  refine k _ [s₁.heap.objs.size+1,s₁.heap.objs.size] _ Z₁ _ (.keeps g.sub hk _) ⟨Ztj ok.c.hand (Nat.succ_ne_self _) (Nat.ne_of_lt (Nat.lt_succ_of_lt hlt)) (Nat.ne_of_lt hlt) e rs,⟨⟨_,he2⟩,hit,⟨_,hk _ _ he,rfl,_,rfl⟩⟩,fun b hb=> ?_,by rw [(Zpy _).1,←rs.length];exact z⟩
  have fr:s₁.heap.get? b=none:=by
   rcases List.mem_cons.mp hb with q | hb
   ·rw [q];exact Heap.get?_none_of_le (Nat.le_succ _)
   ·rw [List.mem_singleton.mp hb];exact Heap.get?_none_of_le (Nat.le_refl _)
  exact ⟨fr,g.sub.fresh fr⟩
 | _=>exact False.elim k
end
end DK.Internal
end
section
set_option backward.match.sparseCases false
set_option genSizeOf false
set_option genCtorIdx false
namespace DK.Internal
open PySem PyProof.Rows
noncomputable def notSet:Expr→Bool
 | .Set _ _ _=>false
 | _=>true
theorem Zpz {e:Expr} {env:Env} (h:notSet e=true) (x:Value):foldedSetIterable e env x=pure x:=by
 cases e<;>first | rfl | exact absurd h Bool.false_ne_true
noncomputable def numbered (n:Nat):List (Str × NameKind)→List (Str × Nat)
 | []=> []
 | (x,.local)::r=>(x,n)::numbered (n+1) r
 | _::r=>numbered n r
noncomputable def frees (loc:List (Str × Nat)):List (Str × NameKind)→List (Str × Nat)
 | []=> []
 | (x,.free)::r=>match loc.lookup x with
  | some i=>(x,i)::frees loc r
  | none=>frees loc r
 | _::r=>frees loc r
noncomputable def Rs.inner (R:Rs) (sc:Scope):Rs:={ R with loc:=numbered R.nl sc.names++frees R.loc sc.names,nl:=R.nl+(numbered R.nl sc.names).length,own:= [],names:=sc.names,byref:=(frees R.loc sc.names).map (·.1) }
noncomputable def okScope (R:Rs) (sc:Scope):Bool:=decide (sc.kind = .function∧∀n∈sc.names,n.2≠.cell∧(n.2 = .local→sc.names.lookup n.1=some .local) ∧
 (n.2 = .free→sc.names.lookup n.1=some .free∧R.names.lookup n.1=some .cell∧(R.loc.lookup n.1).isSome=true))
section
variable {env:Env}
noncomputable def closed (env:Env):List (Str × NameKind)→List (Str × Addr)→List (Str × Addr)
 | [],acc=>acc
 | (x,.free)::r,acc=>match env.cells.lookup x with
  | some c=>closed env r ((x,c)::acc)
  | none=>closed env r acc
 | _::r,acc=>closed env r acc
theorem ZpU {scope:Scope} (hf:∀n∈scope.names,n.2 = .free→(env.cells.lookup n.1).isSome=true):closureFor scope env=pure (closed env scope.names []):=by
 unfold closureFor
 generalize scope.names=ns at hf
 suffices h:∀acc,(forIn ns acc fun (x:Str × NameKind) (cs:List (Str × Addr))=>(match x with
   | (name,kind)=>if (kind == NameKind.free)=true then (do let c ←cellOf env name;pure (ForInStep.yield ((name,c)::cs))) else pure (ForInStep.yield cs):Sem (ForInStep (List (Str × Addr)))))=pure (closed env ns acc) by
  have:=h []
  simp only [bind_pure]
  exact this
 induction ns with
 | nil=>intro acc;rfl
 | cons n ns ih=>
  intro acc
  obtain ⟨x,k⟩:=n
  have ih:=ih fun n hn=>hf n (List.mem_cons_of_mem _ hn)
  rw [List.forIn_cons]
  by_cases hk:k = .free
  ·subst hk
   have hx:=hf (x,.free) (by simp) rfl
   cases hc:env.cells.lookup x with
   | none=>rw [hc] at hx;cases hx
   | some c=>
    have h1:cellOf env x=pure c:=by unfold cellOf;rw [hc]
    simp only [beq_self_eq_true,if_true,h1,pure_bind,closed,hc]
    exact ih _
  ·have hb:(k == NameKind.free)=false:=by simpa using hk
   simp only [hb,Bool.false_eq_true,if_false,pure_bind]
   rw [show closed env ((x,k)::ns) acc=closed env ns acc by cases k<;>first | rfl | exact absurd rfl hk]
   exact ih _
end
theorem ZqB {α:Type} {x:Str}:∀(a b:List (Str × α)),(a++b).lookup x=match a.lookup x with | some i=>some i | none=>b.lookup x
 | [],b=>rfl
 | (y,i)::a,b=>by
  simp only [List.cons_append,List.lookup_cons]
  cases x == y with
  | true=>rfl
  | false=>exact ZqB a b
theorem lookup_mem {α:Type} {x:Str} {k:α}:∀{l:List (Str × α)},l.lookup x=some k→(x,k)∈l
 | [],h=>by simp at h
 | (y,i)::l,h=>by
  simp only [List.lookup_cons] at h
  cases hxy:x == y with
  | true=>rw [hxy] at h;cases h;simp only [beq_iff_eq] at hxy;subst hxy;exact List.mem_cons_self ..
  | false=>rw [hxy] at h;exact List.mem_cons_of_mem _ (lookup_mem h)
theorem ZpP {n:Nat} {x:Str} {k:NameKind} {r:List (Str × NameKind)}:numbered n ((x,k)::r)=if k = .local then (x,n)::numbered (n+1) r else numbered n r:=by
 cases k<;>rfl
theorem ZoU {x:Str} {i:Nat}:∀{n:Nat} {ns:List (Str × NameKind)},(numbered n ns).lookup x=some i→n≤i∧i < n+(numbered n ns).length∧(x,.local)∈ns
 | n,[],h=>by simp [numbered] at h
 | n,(y,k)::r,h=>by
  rw [ZpP] at h ⊢
  by_cases hk:k = .local
  ·subst hk
   rw [if_pos rfl] at h ⊢
   simp only [List.lookup_cons] at h
   cases hxy:x == y with
   | true=>rw [hxy] at h;cases h;simp only [beq_iff_eq] at hxy;subst hxy;exact ⟨Nat.le_refl _,by simp,List.mem_cons_self ..⟩
   | false=>
    rw [hxy] at h
    obtain ⟨a,b,c⟩:=ZoU h
    exact ⟨by exact Nat.le_of_lt (by assumption),by simp only [List.length_cons];lia,List.mem_cons_of_mem _ c⟩
  ·rw [if_neg hk] at h ⊢
   obtain ⟨a,b,c⟩:=ZoU h
   exact ⟨a,b,List.mem_cons_of_mem _ c⟩
theorem ZpA {x y:Str} {i:Nat}:∀{n:Nat} {ns:List (Str × NameKind)},(numbered n ns).lookup x=some i→(numbered n ns).lookup y=some i→x=y
 | n,[],h,_=>by simp [numbered] at h
 | n,(z,k)::r,h,h'=>by
  rw [ZpP] at h h'
  by_cases hk:k = .local
  ·rw [if_pos hk] at h h'
   simp only [List.lookup_cons] at h h'
   cases hx:x == z with
   | true=>
    rw [hx] at h;cases h
    cases hy:y == z with
    | true=>simp only [beq_iff_eq] at hx hy;rw [hx,hy]
    | false=>rw [hy] at h';have:=(ZoU h').1;lia
   | false=>
    rw [hx] at h
    cases hy:y == z with
    | true=>rw [hy] at h';cases h';have:=(ZoU h).1;lia
    | false=>rw [hy] at h';exact ZpA h h'
  ·rw [if_neg hk] at h h';exact ZpA h h'
theorem Zsa {loc:List (Str × Nat)} {x:Str} {k:NameKind} {r:List (Str × NameKind)}:frees loc ((x,k)::r)=if k = .free then (match loc.lookup x with | some i=>(x,i)::frees loc r | none=>frees loc r) else frees loc r:=by
 cases k<;>rfl
theorem Zpg {loc:List (Str × Nat)} {x:Str} {i:Nat}:∀{ns:List (Str × NameKind)},(frees loc ns).lookup x=some i→loc.lookup x=some i∧(x,.free)∈ns
 | [],h=>by simp [frees] at h
 | (y,k)::r,h=>by
  rw [Zsa] at h
  by_cases hk:k = .free
  ·subst hk
   rw [if_pos rfl] at h
   cases hy:loc.lookup y with
   | none=>rw [hy] at h;obtain ⟨a,b⟩:=Zpg h;exact ⟨a,List.mem_cons_of_mem _ b⟩
   | some j=>
    rw [hy] at h
    simp only [List.lookup_cons] at h
    cases hxy:x == y with
    | true=>rw [hxy] at h;cases h;simp only [beq_iff_eq] at hxy;subst hxy;exact ⟨hy,List.mem_cons_self ..⟩
    | false=>rw [hxy] at h;obtain ⟨a,b⟩:=Zpg h;exact ⟨a,List.mem_cons_of_mem _ b⟩
  ·rw [if_neg hk] at h;obtain ⟨a,b⟩:=Zpg h;exact ⟨a,List.mem_cons_of_mem _ b⟩
theorem Zqq {env:Env} {x:Str} {k:NameKind} {r:List (Str × NameKind)} {acc:List (Str × Addr)}:closed env ((x,k)::r) acc=if k = .free then (match env.cells.lookup x with | some c=>closed env r ((x,c)::acc) | none=>closed env r acc) else closed env r acc:=by
 cases k<;>rfl
theorem Zpa {env:Env} {x:Str} {c:Addr}:∀{ns:List (Str × NameKind)} {acc:List (Str × Addr)},(closed env ns acc).lookup x=some c→(∀y d,acc.lookup y=some d→env.cells.lookup y=some d)→env.cells.lookup x=some c
 | [],acc,h,ha=>ha x c h
 | (y,k)::r,acc,h,ha=>by
  rw [Zqq] at h
  by_cases hk:k = .free
  ·rw [if_pos hk] at h
   cases hy:env.cells.lookup y with
   | none=>rw [hy] at h;exact Zpa h ha
   | some d=>
    rw [hy] at h
    refine Zpa h fun z e hz=> ?_
    simp only [List.lookup_cons] at hz
    cases hzy:z == y with
    | true=>rw [hzy] at hz;cases hz;simp only [beq_iff_eq] at hzy;subst hzy;exact hy
    | false=>rw [hzy] at hz;exact ha z e hz
  ·rw [if_neg hk] at h;exact Zpa h ha
theorem Zpp {env:Env} {x:Str}:∀{ns:List (Str × NameKind)} {acc:List (Str × Addr)},((x,.free)∈ns∧(env.cells.lookup x).isSome=true)∨(acc.lookup x).isSome=true→((closed env ns acc).lookup x).isSome=true
 | [],acc,h=>by rcases h with ⟨h,_⟩ | h;simp at h;exact h
 | (y,k)::r,acc,h=>by
  rw [Zqq]
  by_cases hk:k = .free
  ·subst hk
   rw [if_pos rfl]
   cases hy:env.cells.lookup y with
   | none=>
    refine Zpp ?_
    rcases h with ⟨h,h'⟩ | h
    ·rcases List.mem_cons.mp h with q | q
     ·cases q;rw [hy] at h';cases h'
     ·exact .inl ⟨q,h'⟩
    ·exact .inr h
   | some d=>
    refine Zpp ?_
    by_cases hxy:x=y
    ·subst hxy;right;simp [List.lookup_cons]
    ·have hb:(x == y)=false:=by simpa using hxy
     rcases h with ⟨h,h'⟩ | h
     ·rcases List.mem_cons.mp h with q | q
      ·exact absurd (congrArg Prod.fst q) hxy
      ·exact .inl ⟨q,h'⟩
     ·right;simp only [List.lookup_cons,hb];exact h
  ·rw [if_neg hk]
   refine Zpp ?_
   rcases h with ⟨h,h'⟩ | h
   ·rcases List.mem_cons.mp h with q | q
    ·exact absurd (congrArg Prod.snd q).symm hk
    ·exact .inl ⟨q,h'⟩
   ·exact .inr h
noncomputable def relab (env:Env) (ns:List (Str × NameKind)):List (Str × NameKind):=ns.map fun (n,k)=>if (k == NameKind.free && env.scope.kind == .function && env.kindOf n == some .cell) then (n,NameKind.cell) else (n,k)
theorem ZpZ {env:Env} {x:Str} {k:NameKind} (hk:env.scope.kind = .function):∀{ns:List (Str × NameKind)},ns.lookup x=some k→(relab env ns).lookup x=some (if k = .free∧env.kindOf x=some .cell then .cell else k)
 | [],h=>by simp at h
 | (y,j)::r,h=>by
  show List.lookup x ((if (j == NameKind.free && env.scope.kind == .function && env.kindOf y == some .cell)=true then (y,NameKind.cell) else (y,j))::relab env r)=_
  simp only [List.lookup_cons] at h
  cases hxy:x == y with
  | true=>
   rw [hxy] at h;cases h
   simp only [beq_iff_eq] at hxy;subst hxy
   by_cases hc:(k == NameKind.free && env.scope.kind == .function && env.kindOf x == some .cell)=true
   ·rw [if_pos hc]
    simp only [Bool.and_eq_true,beq_iff_eq] at hc
    rw [if_pos ⟨hc.1.1,hc.2⟩];simp [List.lookup_cons]
   ·rw [if_neg hc]
    simp only [Bool.and_eq_true,beq_iff_eq] at hc
    rw [if_neg (fun q=>hc ⟨⟨q.1,hk⟩,q.2⟩)];simp [List.lookup_cons]
  | false=>
   rw [hxy] at h
   have ih:=ZpZ hk h
   by_cases hc:(j == NameKind.free && env.scope.kind == .function && env.kindOf y == some .cell)=true
   ·rw [if_pos hc];simp only [List.lookup_cons,hxy];exact ih
   ·rw [if_neg hc];simp only [List.lookup_cons,hxy];exact ih
theorem Zph {R:Rs} {sc:Scope} (h:okScope R sc=true):sc.kind = .function∧∀n∈sc.names,n.2≠.cell∧(n.2 = .local→sc.names.lookup n.1=some .local) ∧
  (n.2 = .free→sc.names.lookup n.1=some .free∧R.names.lookup n.1=some .cell∧(R.loc.lookup n.1).isSome=true):=of_decide_eq_true h
theorem ZoZ {R:Rs} {sc:Scope} {x:Str} {i:Nat} (h:(R.inner sc).loc.lookup x=some i) :
  (R.nl≤i∧i < R.nl+(numbered R.nl sc.names).length∧(x,.local)∈sc.names∧(numbered R.nl sc.names).lookup x=some i)∨(R.loc.lookup x=some i∧(x,.free)∈sc.names∧(frees R.loc sc.names).lookup x=some i):=by
 have h:(numbered R.nl sc.names++frees R.loc sc.names).lookup x=some i:=h
 rw [ZqB] at h
 cases hn:(numbered R.nl sc.names).lookup x with
 | some j=>rw [hn] at h;cases h;obtain ⟨a,b,c⟩:=ZoU hn;exact .inl ⟨a,b,c,rfl⟩
 | none=>rw [hn] at h;obtain ⟨a,b⟩:=Zpg h;exact .inr ⟨a,b,h⟩
theorem ZsR {R:Rs} {sc:Scope} (wf:R.WF):(R.inner sc).WF:=by
 refine ⟨fun x y i hx hy=> ?_,fun x i hx=> ?_⟩
 ·rcases ZoZ hx with ⟨a,b,c,d⟩ | ⟨a,b,d⟩
  ·rcases ZoZ hy with ⟨a',b',c',d'⟩ | ⟨a',b',d'⟩
   ·exact ZpA d d'
   ·have:=wf.lt y i a';lia
  ·rcases ZoZ hy with ⟨a',b',c',d'⟩ | ⟨a',b',d'⟩
   ·have:=wf.lt x i a;lia
   ·exact wf.inj x y i a a'
 ·show i < R.nl+(numbered R.nl sc.names).length
  rcases ZoZ hx with ⟨a,b,c,d⟩ | ⟨a,b,d⟩
  ·exact b
  ·have:=wf.lt x i a;lia
section
variable {R:Rs} {Y:Cx} {env:Env} {Z:Zm} {oa oa':Nat→Option Addr} {sl:List Slot} {h:Heap} {sc:Scope} {C:Addr}
noncomputable abbrev cenvOf (sc:Scope) (env:Env) (C:Addr):Env:=compEnvC sc (closed env sc.names []) C env
theorem ZpE {x:Str} {k:NameKind} (hk:env.scope.kind = .function) (h:sc.names.lookup x=some k):(cenvOf sc env C).kindOf x=some (if k = .free∧env.kindOf x=some .cell then .cell else k):=ZpZ hk h
theorem Zpb {x:Str} {c:Addr} (h:(cenvOf sc env C).cells.lookup x=some c):env.cells.lookup x=some c:=Zpa h (fun y d hy=>nomatch hy)
theorem ZqC (st:Stat R Y env) (hs:okScope R sc=true) {x:Str} {i:Nat} {b:Addr} (hx:(R.inner sc).put x=some i) (hm:Home (cenvOf sc env C) x b):b=C∧R.nl≤i:=by
 obtain ⟨hkind,hn⟩:=Zph hs
 have hnr:x∉(R.inner sc).byref:=by
  unfold Rs.put at hx;split at hx
  ·cases hx
  ·assumption
 rcases ZoZ (Zpd hx) with ⟨h1,_,c,_⟩ | ⟨_,_,c⟩
 ·have hk:(cenvOf sc env C).kindOf x=some .local:=by rw [ZpE st.kind ((hn _ c).2.1 rfl),if_neg (fun q=>by cases q.1)]
  rcases hm with ⟨_,e⟩ | ⟨k,_⟩
  ·exact ⟨e,h1⟩
  ·rw [hk] at k;cases k
 ·exact absurd (List.mem_map.mpr ⟨_,lookup_mem c,rfl⟩) hnr
theorem Stat.inner (st:Stat R Y env) (hs:okScope R sc=true) (hCc:∀x c,env.cells.lookup x=some c→c≠C):Stat (R.inner sc) Y (cenvOf sc env C):=by
 obtain ⟨hkind,hn⟩:=Zph hs
 refine { calls:=st.calls,fns:=st.fns,gls:=st.gls,io:=st.io,kind:=hkind,glob:=st.glob,buil:=st.buil,gk:=fun x hx=> ?_,ck:=fun x hx=> ?_,fr:=st.fr,wf:=ZsR st.wf,cellA:=fun x y c hx hy=>st.cellA x y c (Zpb hx) (Zpb hy),cellL:=fun x c hc=>hCc x c (Zpb hc) }
 ·rw [ZpE (C:=C) st.kind (show sc.names.lookup x=some .globalImplicit from hx),if_neg (fun q=>by cases q.1)]
 ·exact absurd rfl (hn _ (lookup_mem (show sc.names.lookup x=some .cell from hx))).1
theorem Ok.inner (ok:Ok R Y env Z oa sl h) (hs:okScope R sc=true) {m:Str→Option Value} (hC:h.Ns C m) (hCz:Z C=none) (hCc:∀x c,env.cells.lookup x=some c→c≠C) (hoa:∀j,j < R.nl→oa' j=oa j)
  (own:∀i a,oa' i=some a→Z a=none∧True∧a∉fas Y.l∧¬Loc (cenvOf sc env C) a∧(h.get? a).isSome=true) (oinj:∀i j a,oa' i=some a→oa' j=some a→i=j) :
  Ok (R.inner sc) Y (cenvOf sc env C) Z oa' (sl++List.replicate (numbered R.nl sc.names).length .un) h:=by
 obtain ⟨hkind,hn⟩:=Zph hs
 have vfree:∀{x:Str} {i:Nat} {v:Option Value},R.loc.lookup x=some i→(x,NameKind.free)∈sc.names→VarAt h env x v→VarAt h (cenvOf sc env C) x v:=by
  intro x i v hx hf q
  obtain ⟨e1,e2,e3⟩:=(hn _ hf).2.2 rfl
  obtain ⟨c1,c2⟩:=ok.st.ck x e2
  rcases q with ⟨k,_⟩ | ⟨k,c,hc,hv⟩
  ·rw [c1] at k;cases k
  ·refine .inr ⟨by rw [ZpE ok.st.kind e1,if_pos ⟨rfl,c1⟩],c,?_,hv⟩
   have:=Zpp (env:=env) (acc:= []) (.inl ⟨hf,c2⟩)
   cases hcl:(closed env sc.names []).lookup x with
   | none=>rw [hcl] at this;cases this
   | some c'=>
    have h':=Zpb (C:=C) hcl
    rw [hc] at h';cases h'
    exact hcl
 refine { st:=ok.st.inner hs hCc,c:=ok.c,var:=fun x i e=> ?_,has:=fun x i e=> ?_,len:= ?_,loz:=fun b q=> ?_,own:=own,oinj:=oinj,ns:=⟨m,hC⟩ }
 ·rcases ZoZ e with ⟨a,b,_⟩ | ⟨a,b,_⟩
  ·rw [List.getElem?_append_right (by rw [ok.len];exact a),List.getElem?_replicate,if_pos (by rw [ok.len];lia)];trivial
  ·have hlt:=ok.st.wf.lt x i a
   rw [List.getElem?_append_left (by rw [ok.len];exact hlt)]
   have q:=ok.var x i a
   cases ht:sl[i]? with
   | none=>trivial
   | some t=>
    rw [ht] at q
    cases t with
    | un=>trivial
    | val d=>obtain ⟨v,a1,a2⟩:=q;exact ⟨v,vfree a b a1,a2⟩
    | own xs=>obtain ⟨aa,vs,n,a0,a1,a2⟩:=q;exact ⟨aa,vs,n,(hoa i hlt).trans a0,vfree a b a1,a2⟩
 ·rcases ZoZ e with ⟨a,b,c,_⟩ | ⟨a,b,_⟩
  ·exact ⟨_,.inl ⟨by rw [ZpE ok.st.kind ((hn _ c).2.1 rfl),if_neg (fun q=>by cases q.1)],m,hC,rfl⟩⟩
  ·exact (ok.has x i a).imp fun v q=>vfree a b q
 ·rw [List.length_append,List.length_replicate,ok.len];rfl
 ·rcases q with rfl | ⟨x,q⟩
  ·obtain ⟨o,_,_,e,_⟩:=hC;exact ⟨hCz,(congrArg Option.isSome e).trans rfl⟩
  ·exact ok.loz b (.inr ⟨x,Zpb q⟩)
end
end DK.Internal
end
section
set_option backward.match.sparseCases false
set_option genSizeOf false
set_option genCtorIdx false
namespace DK.Internal
open PySem PyProof.Rows
def HeldL (base:Heap) (l:List Env) (e:Addr) (h:Heap):Prop:=∃fenv outer,l=fenv::outer∧HeldAt base fenv outer e h
section
variable {R:Rs} {Y:Cx} {env:Env} {Z Z':Zm} {oa:Nat→Option Addr} {sl:List Slot} {h h':Heap} {s s':Shared} {E:Value→Shared→Prop} {W W':Addr→Prop}
theorem Ok.chg {i:Nat} {a:Addr} {t:Slot} (ok:Ok R Y env Z oa sl h) (ha:oa i=some a) (ob:Y.base.get? a=none) (sb:Heap.SameBut a h h') (hn:∃o,h'.get? a=some o∧∀vs,o.data≠.fields vs) (ht:∀x,R.loc.lookup x=some i→(∀{v},VarAt h env x v→VarAt h' env x v)→SlotAt Y.P Z oa h' env x i (some t)):Ok R Y env Z oa (setV sl i t) h':=by
 obtain ⟨oz,_,of_,ol,oe⟩:=ok.own i a ha
 have alive:∀b,(h.get? b).isSome=true→(h'.get? b).isSome=true:=fun b e=>by
  by_cases z:b=a
  ·obtain ⟨o,ho,_⟩:=hn;rw [z,ho];rfl
  ·rw [sb.2 b z];exact e
 have kd:∀b o,Loc env b→h.get? b=some o→∃o',h'.get? b=some o'∧o'.data=o.data:=fun b o l e=>⟨o,SameBut.get sb (fun z=>ol (z ▸ l)) e,rfl⟩
 refine { st:=ok.st,c:=ok.c.ks (W:=fun b=>b=a) (.of_but sb rfl hn) (fun b q=>q ▸ ob) (fun _ _ e=>e) (fun b o e=>SameBut.get sb (fun z=>by rw [z,oz] at e;cases e) (ok.c.sub b o e)) ok.c.frz,var:=fun y j e=> ?_,has:=fun y j e=>(ok.has y j e).imp fun _ q=>q.keep kd,len:=by unfold setV;rw [List.length_set];exact ok.len,loz:=fun b q=>⟨(ok.loz b q).1,alive b (ok.loz b q).2⟩,own:=fun j b q=>have o:=ok.own j b q;⟨o.1,o.2.1,o.2.2.1,o.2.2.2.1,alive b o.2.2.2.2⟩,oinj:=ok.oinj,ns:=ok.ns.imp fun m q=>ns_keep q fun o e=>kd _ o (.inl rfl) e }
 rw [Zpn]
 by_cases z:i=j∧i < sl.length
 ·rw [if_pos z]
  obtain ⟨rfl,_⟩:=z
  exact ht y e fun q=>q.keep kd
 ·rw [if_neg z]
  have z:i≠j:=fun q=>z ⟨q,by rw [ok.len,q];exact ok.st.wf.lt y j e⟩
  exact (ok.var y j e).keep (fun _ _ e=>e) (fun q=>q.keep kd) fun b o hb e=>SameBut.get sb (fun q=>z (ok.oinj i j a ha (q ▸ hb))) e
theorem Go.of_but {a:Addr} {tk:Nat} (hs:Sub Z s.heap) (hz:Z a=none) (hw:W a) (sb:Heap.SameBut a s.heap h') (hn:∃o,h'.get? a=some o∧∀vs,o.data≠.fields vs):Go W Y Z s Z { s with heap:=h',toks:=tk }:=
 ⟨.of_but sb hw hn,fun _ _ e=>e,fun _ e=> .inl e,fun b o e=>SameBut.get sb (fun z=>by rw [z,hz] at e;cases e) (hs b o e),rfl⟩
theorem Go.mono (g:Go W' Y Z s Z' s') (n:∀b,W' b→W b∨s.heap.get? b=none):Go W Y Z s Z' s':=by
 have no:∀b o,s.heap.get? b=some o→¬W b→¬W' b:=fun b o e nw q=>(n b q).elim nw fun z=>by rw [z] at e;cases e
 exact ⟨⟨fun b o e nw m=>g.ks.keep b o e (no b o e nw) m,fun b o e nw m=>g.ks.fr b o e (no b o e nw) m,fun b o e w m nf=>by
  by_cases q:W' b
  ·exact g.ks.alive b o e q m nf
  ·obtain ⟨sl,e'⟩:=g.ks.fr b o e q m;exact ⟨_,e',nf⟩⟩,g.le,fun b q=>(g.new b q).imp id fun q=>q.elim (n b) .inr,g.sub,g.same⟩
structure IOk (Y:Cx) (env:Env) (oa:Nat→Option Addr) (tup:Bool) (I:Addr) (wr:List Addr) (ds:List D) (St:Nat→Heap→Prop) (i:Nat) (Z:Zm) (h:Heap):Prop where
 wk:∃Z₀,Wk Y tup I wr ds St Z₀∧Zle Z₀ Z
 st:St i h
 nz:∀b∈wr,Z b=none∧b∉fas Y.l∧¬Loc env b∧(∀j,oa j≠some b)∧Y.base.get? b=none
variable {tup:Bool} {I:Addr} {wr:List Addr} {ds:List D} {St:Nat→Heap→Prop} {i:Nat}
theorem IOk.alive (io:IOk Y env oa tup I wr ds St i Z h):∀b∈wr,(h.get? b).isSome=true:=io.wk.elim fun _ q=>q.1.alive i h io.st
theorem IOk.go (io:IOk Y env oa tup I wr ds St i Z s.heap) (hs:Sub Z s.heap) (g:Go W Y Z s Z' s') (hw:∀b∈wr,¬W b):IOk Y env oa tup I wr ds St i Z' s'.heap:=by
 obtain ⟨Z₀,wk,le⟩:=io.wk
 refine ⟨⟨Z₀,wk,fun b o e=>g.le b o (le b o e)⟩,wk.frame i _ _ io.st (fun b o e=>hs b o (le b o e)) (fun b o e=>g.sub b o (g.le b o (le b o e))) fun b hb o e=>g.ks.keep b o e (hw b hb) (io.nz b hb).2.1,fun b hb=>⟨?_,(io.nz b hb).2⟩⟩
 cases q:Z' b with
 | none=>rfl
 | some o=>
  rcases g.new b (by rw [q];exact nofun) with n | n | n
  ·exact absurd (io.nz b hb).1 n
  ·exact absurd n (hw b hb)
  ·have:=io.alive b hb;rw [n] at this;cases this
theorem Ok.wt (ok:Ok R Y env Z oa sl s.heap) (w:Wt wr Y Z s Z' s') (nz:∀b∈wr,b∉fas Y.l∧¬Loc env b∧(∀j,oa j≠some b)∧Y.base.get? b=none):Ok R Y env Z' oa sl s'.heap:=by
 have kd:∀b o,b∉wr→s.heap.get? b=some o→∃o',s'.heap.get? b=some o'∧o'.data=o.data:=fun b o nb e=>w.go.ks.stay e nb
 have nl:∀b,Loc env b→b∉wr:=fun b l m=>(nz b m).2.1 l
 have no:∀j a,oa j=some a→a∉wr:=fun j a h m=>(nz a m).2.2.1 j h
 have still:∀b,b∉wr→Z b=none→(s.heap.get? b).isSome=true→Z' b=none∧(s'.heap.get? b).isSome=true:=fun b nb z e=>by
  refine ⟨?_,?_⟩
  ·cases q:Z' b with
   | none=>rfl
   | some o=>
    rcases w.go.new b (by rw [q];exact nofun) with n | n | n
    ·exact absurd z n
    ·exact absurd n nb
    ·rw [n] at e;cases e
  ·cases q:s.heap.get? b with
   | none=>rw [q] at e;cases e
   | some o=>obtain ⟨o',e',_⟩:=kd b o nb q;rw [e'];rfl
 have kv:∀{y v},VarAt s.heap env y v→VarAt s'.heap env y v:=fun q=>q.keep fun b o l e=>kd b o (nl b l) e
 exact { ok with
  c:=ok.c.ks w.go.ks (fun b m=>(nz b m).2.2.2) w.go.le w.go.sub fun b hb=>(still b (fun m=>(nz b m).1 hb) (ok.c.frz b hb) (by obtain ⟨_,o,e,_⟩:=Zpe ok.c.below.frames b hb;rw [e];rfl)).1
  var:=fun y j e=>(ok.var y j e).keep w.go.le kv fun a o ha e=>w.go.ks.keep a o e (no j a ha) (ok.own j a ha).2.2.1
  has:=fun y j e=>(ok.has y j e).imp fun _ q=>kv q
  loz:=fun b q=>still b (nl b q) (ok.loz b q).1 (ok.loz b q).2
  own:=fun j a q=>have o:=ok.own j a q;have t:=still a (no j a q) o.1 o.2.2.2.2;⟨t.1,o.2.1,o.2.2.1,o.2.2.2.1,t.2⟩
  ns:=ok.ns.imp fun m q=>ns_keep q fun o e=>kd _ o (nl _ (.inl rfl)) e }
theorem Zqv {x:Value} {env env':Env} (h:env.frame=env'.frame):noteFrame x env=noteFrame x env':=by
 unfold noteFrame PySem.frameOf;rw [h]
theorem ZpF {M:Model} {e:Addr} {Q:Unit→Shared→Prop} (hfr:Y.A.frames=some Y.l) (fr:∃fenv outer L,Y.l=fenv::outer∧fenv.frame=some L∧env.frame=some L) (X:Exc Y.base Y.l e s.heap)
  (hQ:∀h',HeldL Y.base Y.l e h'→s.heap.UpToSlots h'→Q () { s with heap:=h' }):wpAny M Y.A (noteFrame (.ref e) env) Q E s:=by
 obtain ⟨fenv,outer,L,hl,hf,hf'⟩:=fr
 rw [Zqv (env':=fenv) (hf'.trans hf.symm)]
 rw [hl] at hfr X hQ
 exact ZrF hfr hf X fun h' H U=>hQ h' ⟨fenv,outer,rfl,H⟩ U
theorem ZpB {msg:String} {M:Model} {e:Addr} {Q:Unit→Shared→Prop} (fr:∃fenv outer L,Y.l=fenv::outer∧fenv.frame=some L∧env.frame=some L) (X:HeldL Y.base Y.l e s.heap)
  (hQ:∀h',HeldL Y.base Y.l e h'→s.heap.UpToSlots h'→Q () { s with heap:=h' }) :
  wpAny M Y.A (do
          if (←field (.ref e) 1) == .none then unsupported msg
          setFlight (.ref e) env.frame) Q E s:=by
 obtain ⟨fenv,outer,L,hl,hf,hf'⟩:=fr
 rw [hl] at X hQ
 obtain ⟨fenv',outer',e1,H⟩:=X
 cases e1
 rw [hf'.trans hf.symm]
 exact Zro H fun h' H U=>hQ h' ⟨fenv,outer,rfl,H⟩ U
theorem HeldL.exc {base:Heap} {l:List Env} {e:Addr} {h:Heap} (x:HeldL base l e h):Exc base l e h:=by obtain ⟨fenv,outer,rfl,H⟩:=x;exact H.exc
theorem Ex.up {x:Addr} (e:Ex W Y s x s') {h':Heap} (u:s'.heap.UpToSlots h') (X:Exc Y.base Y.l x h'):Ex W Y s x { s' with heap:=h' }:=
 ⟨fun b o q nw nf=>by obtain ⟨sl,q'⟩:=e.us b o q nw nf;obtain ⟨sl',q''⟩:=u b _ q' nf;exact ⟨sl',q''⟩,X,by rw [e.same]⟩
theorem ns_ex {a:Addr} {m:Str→Option Value} {x:Addr} (n:s.heap.Ns a m) (e:Ex W Y s x s') (nw:¬W a):s'.heap.Ns a m:=ns_keep n fun o q=>by
 obtain ⟨o₂,es,ep,ho,hd,_⟩:=n
 rw [ho] at q;cases q
 obtain ⟨sl,e'⟩:=e.us a _ ho nw (by rw [hd];exact nofun)
 exact ⟨_,e',rfl⟩
end
structure LOk (R:Rs) (Y:Cx) (env:Env) (oa:Nat→Option Addr) (Dd:Addr) (sl:List Slot) (acc:List D) (Z:Zm) (h:Heap):Prop where
 ok:Ok R Y env Z oa sl h
 oD:∃N,oa N=some Dd∧R.nl≤N
 bD:Y.base.get? Dd=none
 hB:Bs R Y env
 acc:∃vs n,h.get? Dd=some (lstO vs n)∧vs.length≤SZ∧Reps Y.P Z acc vs
noncomputable def LK (R:Rs) (Y:Cx) (env:Env) (oa:Nat→Option Addr) (Dd:Addr) (sl:List Slot) (W:Addr→Prop) (Rr:Result→Shared→Prop) (Z:Zm) (s:Shared) (o:Out (List D)):Prop:=match o with
 | .ok acc=>∀Z' s',LOk R Y env oa Dd sl acc Z' s'.heap→Go W Y Z s Z' s'→Rr (.ok .next) s'
 | .exc=>∀x s',Ex W Y s x s'→HeldL Y.base Y.l x s'.heap→(∃m,s'.heap.Ns env.locals m)→Rr (.error (.ref x)) s'
 | .stuck=>False
section
variable {R:Rs} {Y:Cx} {env:Env} {Z Z':Zm} {oa:Nat→Option Addr} {Dd:Addr} {sl sl':List Slot} {s s':Shared} {W W':Addr→Prop} {Rr:Result→Shared→Prop} {acc:List D} {h:Heap}
theorem LOk.own (lo:LOk R Y env oa Dd sl acc Z h):Z Dd=none∧True∧Dd∉fas Y.l∧¬Loc env Dd∧(h.get? Dd).isSome=true:=lo.oD.elim fun N q=>lo.ok.own N Dd q.1
theorem LOk.go (lo:LOk R Y env oa Dd sl acc Z s.heap) (g:Go W Y Z s Z' s') (hw:¬W Dd) (ok':Ok R Y env Z' oa sl' s'.heap):LOk R Y env oa Dd sl' acc Z' s'.heap:=
 ⟨ok',lo.oD,lo.bD,lo.hB,by obtain ⟨vs,n,e,z,q⟩:=lo.acc;exact ⟨vs,n,g.ks.keep _ _ e hw lo.own.2.2.1,z,q.up g.le⟩⟩
theorem LOk.nx (lo:LOk R Y env oa Dd sl acc Z s.heap) (g:Nx Y Z s Z' s'):LOk R Y env oa Dd sl acc Z' s'.heap:=lo.go g id (lo.ok.nx g)
theorem LK.go {o:Out (List D)} (k:LK R Y env oa Dd sl W Rr Z s o) (g:Go W' Y Z s Z' s') (n:∀b,W' b→W b∨s.heap.get? b=none):LK R Y env oa Dd sl W Rr Z' s' o:=by
 have g':Go W Y Z s Z' s':=g.mono n
 cases o with
 | ok acc=>exact fun Z₂ s₂ lo y=>k Z₂ s₂ lo (g'.trans y fun b q=> .inl q)
 | exc=>exact fun x s₂ e hx hn=>k x s₂ (g'.ex e fun b q=> .inl q) hx hn
 | stuck=>exact k
abbrev LE (Y:Cx) (env:Env) (Rr:Result→Shared→Prop):Value→Shared→Prop:=notedBy Y.M Y.A env fun e s'=>Rr (.error e) s'
theorem LK.post (st:Stat R Y env) (hfr:Y.A.frames=some Y.l):Post Y (LE Y env Rr) (fun Z s o=>(∃m,s.heap.Ns env.locals m)∧LK R Y env oa Dd sl W Rr Z s o) where
 step:=fun k g=>⟨k.1.imp fun m q=>ns_keep q fun o e=>g.ks.stay e id,k.2.go g fun _ q=>q.elim⟩
 exc:=fun {Z s} k x s' e=>ZpF hfr st.fr e.exc fun h' H u=>k.2 x _ (Ex.up ⟨fun b o q _ nf=>e.us b o q id nf,e.exc,e.same⟩ u H.exc) H (k.1.imp fun m q=>ns_ex q (e.up u H.exc) id)
 stuck:=fun k=>k.2
theorem Zri {v:Value} {d:D} {Q:Value→Shared→Prop} {E:Value→Shared→Prop} (lo:LOk R Y env oa Dd sl acc Z s.heap) (rv:Rep Y.P Z d v) (hz:acc.length < SZ)
  (hQ:∀s',LOk R Y env oa Dd sl (acc ++ [d]) Z s'.heap→Go (· = Dd) Y Z s Z s'→Q .none s'):wpAny Y.M Y.A (PySem.call (.builtin "list.append") [.ref Dd,v]) Q E s:=by
 obtain ⟨vs,n,e,z,q⟩:=lo.acc
 obtain ⟨N,hN,hle⟩:=lo.oD
 refine wpAny_list_append_plain (items:=vs.toArray) (hsz:=by rw [List.size_toArray];exact Nat.le_trans z ZoW) ⟨n,e⟩ fun h' hl sb=> ?_
 obtain ⟨n',e'⟩:=hl
 rw [List.push_toArray] at e'
 have hn:∃o,h'.get? Dd=some o∧∀vs,o.data≠.fields vs:=⟨_,e',fun vs q=>nomatch q⟩
 have ok':=lo.ok.chg (t:= .un) hN lo.bD sb hn fun x hx _=>trivial
 rw [show setV sl N .un=sl from List.set_eq_of_length_le (by rw [lo.ok.len];exact hle)] at ok'
 exact hQ { s with heap:=h' } ⟨ok',lo.oD,lo.bD,lo.hB,vs ++ [v],n',e',by rw [List.length_append,q.length];exact hz,q.append (.cons rv rfl)⟩ (.of_but (tk:=s.toks) lo.ok.c.sub lo.own.1 rfl sb hn)
theorem Ok.forget (ok:Ok R Y env Z oa sl' h) (hl:sl'.length=sl.length) (hs:∀j:Nat,sl[j]?=sl'[j]?∨sl[j]?=some Slot.un∨sl[j]?=none):Ok R Y env Z oa sl h:=
 {
  ok with
  len:=hl.symm.trans ok.len
  var:=fun x i e=>by
   rcases hs i with q | q | q
   ·rw [q];exact ok.var x i e
   ·rw [q];trivial
   ·rw [q];trivial }
end
abbrev testsOf (ifs:List Expr) (env:Env):Sem Bool:=
 forIn ifs true fun c r=>if r=true then do let ok ←isTrue c env (eval c env);pure (ForInStep.yield ok) else pure (ForInStep.yield r)
def STs (R:Rs) (es:List Expr) (c:Cs):Prop:=∀{Y:Cx} {env:Env} {Z:Zm} {oa:Nat→Option Addr} {sl:List Slot} {s:Shared} {Q:Bool→Shared→Prop} {E:Value→Shared→Prop},
 Ok R Y env Z oa sl s.heap→K Y Z Same (Y.tsts c sl) Q E s→wpAny Y.M Y.A (testsOf es env) Q E s
theorem Zrz {M:Model} {A:Around} {E:Value→Shared→Prop} {s:Shared} {env:Env} {Q:Bool→Shared→Prop} (h:Q false s) (es:List Expr) :
  wpAny M A (forIn es false fun c r=>if r=true then do let ok ←isTrue c env (eval c env);pure (ForInStep.yield ok) else pure (ForInStep.yield r)) Q E s:=by
 induction es with
 | nil=>exact wpAny_pure h
 | cons e es ih=>rw [List.forIn_cons];exact wpAny_bind (wpAny_pure ih)
theorem STs.nil {R:Rs}:STs R [] .nil:=fun ok k=>wpAny_pure (K.okS (d:=true) k ok.c.sub rfl)
theorem STs.cons {R:Rs} {e:Expr} {es:List Expr} {c:C} {cs:Cs} (h:ST R e c) (hs:STs R es cs):STs R (e::es) (.cons c cs):=by
 intro Y env Z oa sl s Q E ok k
 show wpAny _ Y.A (forIn (e::es) true _) Q E s
 rw [List.forIn_cons]
 refine wpAny_bind (wpAny_bind (h ok (K.bind k fun b t Z₁ s₁ g rb k=>wpAny_pure ?_)))
 cases rb
 cases b with
 | true=>exact hs (ok.nx g) k
 | false=>exact Zrz (K.okS (d:=false) k g.sub rfl) es
end DK.Internal
end
section
set_option backward.match.sparseCases false
set_option genSizeOf false
set_option genCtorIdx false
namespace DK.Internal
open PySem PyProof.Rows
noncomputable def restLast (e:Expr) (k:Nat) (elt:Expr) (it acc:Value) (env:Env) (ok:Bool):Sem Fin:=
 if ok=true then (eval elt env>>=fun x=>PySem.call (.builtin "list.append") [acc,x]>>=fun _=>pure PUnit.unit)>>=fun _=>again (.compLoop e k it acc env) else again (.compLoop e k it acc env)
noncomputable def lastTail (e:Expr) (k:Nat) (t elt:Expr) (ifs:List Expr) (it acc:Value) (env:Env) (v:Value):Sem Fin:=assign t env v>>=fun _=>testsOf ifs env>>=restLast e k elt it acc env
noncomputable def turnForm (p:Pos) (t:Expr) (it:Value) (tail:Value→Sem Fin):Sem Fin:=do
 standAt p
 match ←pyNext it with
 | none=>pure (.done .next)
 | some v=>
  letOwnedTupleGo t it v
  tail v
noncomputable def restMore (e:Expr) (it1:Expr) (it acc:Value) (env:Env) (ok:Bool):Sem Fin:=
 if ok=true then eval it1 env>>=fun x=>standAt it1.pos>>=fun _=>foldedSetIterable it1 env x>>=fun x=>holding [x] (pyIter x)>>=fun i=>runOwn (.compStart e 1 i acc env) env>>=fun _=>again (.compLoop e 0 it acc env) else again (.compLoop e 0 it acc env)
noncomputable def moreTail (e:Expr) (t:Expr) (ifs:List Expr) (it1:Expr) (it acc:Value) (env:Env) (v:Value):Sem Fin:=assign t env v>>=fun _=>testsOf ifs env>>=restMore e it1 it acc env
theorem ZsS (elt t it0:Expr) (ifs:List Expr) (sc:Scope) (pos:Pos) (it acc:Value) (env:Env) :
  compTurn (.ListComp elt [⟨t,it0,ifs,0⟩] sc pos) 0 it acc env=turnForm it0.pos t it (lastTail (.ListComp elt [⟨t,it0,ifs,0⟩] sc pos) 0 t elt ifs it acc env):=by rfl
theorem ZsT (elt t0 it0:Expr) (ifs0:List Expr) (t1 it1:Expr) (ifs1:List Expr) (sc:Scope) (pos:Pos) (it acc:Value) (env:Env) :
  compTurn (.ListComp elt [⟨t0,it0,ifs0,0⟩,⟨t1,it1,ifs1,0⟩] sc pos) 1 it acc env=turnForm it1.pos t1 it (lastTail (.ListComp elt [⟨t0,it0,ifs0,0⟩,⟨t1,it1,ifs1,0⟩] sc pos) 1 t1 elt ifs1 it acc env):=by rfl
theorem Zrj (elt t0 it0:Expr) (ifs0:List Expr) (t1 it1:Expr) (ifs1:List Expr) (sc:Scope) (pos:Pos) (it acc:Value) (env:Env) :
  compTurn (.ListComp elt [⟨t0,it0,ifs0,0⟩,⟨t1,it1,ifs1,0⟩] sc pos) 0 it acc env=turnForm it0.pos t0 it (moreTail (.ListComp elt [⟨t0,it0,ifs0,0⟩,⟨t1,it1,ifs1,0⟩] sc pos) t0 ifs0 it1 it acc env):=by rfl
section
variable {R:Rs} {Y:Cx} {env:Env} {Z:Zm} {oa:Nat→Option Addr} {Dd:Addr} {sl:List Slot} {s:Shared} {W:Addr→Prop} {Rr:Result→Shared→Prop} {tup:Bool} {I:Addr} {wr:List Addr} {ds:List D} {St:Nat→Heap→Prop}
abbrev turnPost (Y:Cx) (Rr:Result→Shared→Prop) (fin:Fin) (s':Shared):Prop:=
 match fin with
 | .done f=>Rr (.ok f) s'
 | .again c'=>c'.quiet=true∧codeAny Y.M Y.A c' Rr s'
structure Wd (R:Rs) (env:Env) (Dd:Addr) (wr:List Addr) (W:Addr→Prop):Prop where
 d:W Dd
 w:∀b∈wr,W b
 h:∀b,Homes R env b→W b
theorem ZoY {b:Addr} (h:Homes R env b):Loc env b:=by obtain ⟨x,i,_,hm⟩:=h;exact ZpD hm
theorem Zrk {p:Pos} {t:Expr} {tg:Tgt} {ifs:List Expr} {cifs:Cs} {rest:Bool→Sem Fin} {i:Nat} {acc:List D} {d:D} {f:List Slot→Bool→Out (List D)}
  (ht:Tg R t tg) (hts:STs R ifs cifs) (htup:tup=true→isTup t=true) (wd:Wd R env Dd wr W) (lo:LOk R Y env oa Dd sl acc Z s.heap) (io:IOk Y env oa tup I wr ds St i Z s.heap) (hd:ds[i]?=some d)
  (k:LK R Y env oa Dd sl W Rr Z s (bindT sl tg d>>=fun sl'=>Y.tsts cifs sl'>>=f sl'))
  (hQ:∀sl' b Z' s',bindT sl tg d = .ok sl'→LOk R Y env oa Dd sl' acc Z' s'.heap→IOk Y env oa tup I wr ds St (i+1) Z' s'.heap→LK R Y env oa Dd sl W Rr Z' s' (f sl' b)→wpAny Y.M Y.A (rest b) (turnPost Y Rr) (LE Y env Rr) s') :
  wpAny Y.M Y.A (turnForm p t (.ref I) fun v=>assign t env v>>=fun _=>testsOf ifs env>>=rest) (turnPost Y Rr) (LE Y env Rr) s:=by
 obtain ⟨Z₀,wk,le⟩:=io.wk
 unfold turnForm
 refine wpAny_bind (wpAny_standAt (wpAny_bind (wpAny_mono (wk.item (G:=fun v s₂=>wpAny Y.M Y.A (assign t env v>>=fun _=>testsOf ifs env>>=rest) (turnPost Y Rr) (LE Y env Rr) s₂) t htup hd io.st le lo.ok.c.sub (fun b hb=>⟨(io.nz b hb).1,(io.nz b hb).2.1⟩) (fun v Z₁ s₁ st1 w rv=> ?_)) (fun x s₁ hx=> ?_) fun _ _ q=>q)))
 rotate_left
 ·obtain ⟨v,rfl,hx⟩:=hx
  exact wpAny_bind hx
 have ok1:=lo.ok.wt w fun b hb=>(io.nz b hb).2
 have lo1:LOk R Y env oa Dd sl acc Z₁ s₁.heap:=lo.go w.go (fun q=>lo.oD.elim fun N e=>(io.nz _ q).2.2.2.1 N e.1) ok1
 have io1:IOk Y env oa tup I wr ds St (i+1) Z₁ s₁.heap:=⟨⟨Z₀,wk,fun b o e=>w.go.le b o (le b o e)⟩,st1,fun b hb=>⟨w.nz b hb,(io.nz b hb).2⟩⟩
 replace k:=k.go w.go fun b q=> .inl (wd.w b q)
 cases hb:bindT sl tg d with
 | exc=>exact absurd hb (Zqo _ _ _)
 | stuck=>rw [hb] at k;exact False.elim k
 | ok sl1=>
  rw [hb] at k
  refine wpAny_bind (ZpS lo.hB ht lo1.ok rv hb fun s₂ ok2 g2=> ?_)
  have lo2:=lo1.go g2 (fun q=>lo1.own.2.2.2.1 (ZoY q)) ok2
  have io2:=io1.go lo1.ok.c.sub g2 fun b hb q=>(io.nz b hb).2.2.1 (ZoY q)
  refine wpAny_bind (hts lo2.ok ((LK.post lo.ok.st lo.ok.c.below.stack).bind ⟨lo2.ok.ns,LK.go (o:=Y.tsts cifs sl1>>=f sl1) k g2 fun b q=> .inl (wd.h b q)⟩ fun b t Z₃ s₃ g rb k=> ?_))
  cases rb
  exact hQ sl1 b Z₃ s₃ hb (lo2.nx g) (io2.go g2.sub g fun _ _ q=>q) k.2
theorem ZrL {p:Pos} {t:Expr} {tail:Value→Sem Fin} {acc:List D} {E:Value→Shared→Prop} (wd:Wd R env Dd wr W) (lo:LOk R Y env oa Dd sl acc Z s.heap) (io:IOk Y env oa tup I wr ds St ds.length Z s.heap) (k:LK R Y env oa Dd sl W Rr Z s (.ok acc)) :
  wpAny Y.M Y.A (turnForm p t (.ref I) tail) (turnPost Y Rr) E s:=by
 obtain ⟨Z₀,wk,le⟩:=io.wk
 unfold turnForm
 refine wpAny_bind (wpAny_standAt (wpAny_bind (wk.done io.st lo.ok.c.sub (fun b hb=>⟨(io.nz b hb).1,(io.nz b hb).2.1⟩) fun s₁ w=>wpAny_pure (k Z s₁ ?_ (w.go.mono fun b q=> .inl (wd.w b q))))))
 exact lo.go w.go (fun q=>lo.oD.elim fun N e=>(io.nz _ q).2.2.2.1 N e.1) (lo.ok.wt w fun b hb=>(io.nz b hb).2)
theorem Zqr {α:Type} {l r:List α} {i:Nat} {d:α} (h:l.drop i=d::r):l[i]?=some d∧l.drop (i+1)=r∧i < l.length:=by
 have hlt:i < l.length:=by
  rcases Nat.lt_or_ge i l.length with q | q
  ·exact q
  ·rw [List.drop_eq_nil_of_le q] at h;cases h
 rw [List.drop_eq_getElem_cons hlt] at h
 cases h
 exact ⟨List.getElem?_eq_getElem hlt,rfl,hlt⟩
theorem drop_nil {α:Type} {l:List α} {i:Nat} (h:l.drop i = []) (hi:i≤l.length):i=l.length:=Nat.le_antisymm hi (List.drop_eq_nil_iff.mp h)
theorem LOk.back {tg:Tgt} {d:D} {sl':List Slot} {acc:List D} {h:Heap} (lo:LOk R Y env oa Dd sl' acc Z h) (hb:bindT sl tg d = .ok sl') (hun:∀j∈tg.idx,sl[j]?=some .un∨sl[j]?=none):LOk R Y env oa Dd sl acc Z h:=by
 obtain ⟨h1,h2⟩:=ZpK hb
 refine { lo with ok:=lo.ok.forget h1 fun j=> ?_ }
 by_cases m:j∈tg.idx
 ·exact .inr (hun j m)
 ·exact .inl (h2 j m).symm
noncomputable def stepLast (Y:Cx) (cifs:Cs) (celt:C) (tg:Tgt) (sl:List Slot) (acc:List D) (d:D) (k:List D→Out (List D)):Out (List D):=bindT sl tg d>>=fun sl'=>Y.tsts cifs sl'>>=fun b=>
 ifO b (Y.ex celt sl'>>=fun y=>need (acc.length < SZ) (k (acc ++ [y]))) (k acc)
theorem Zrl {gens:List Comprehension} {sc:Scope} {epos:Pos} {kk:Nat} {p:Pos} {t elt:Expr} {ifs:List Expr} {tg:Tgt} {cifs:Cs} {celt:C}
  (hq:∀it acc env,compTurn (.ListComp elt gens sc epos) kk it acc env=turnForm p t it (lastTail (.ListComp elt gens sc epos) kk t elt ifs it acc env)) (ht:Tg R t tg) (hts:STs R ifs cifs) (hel:SE R elt celt) (htup:tup=true→isTup t=true)
  (hun:∀j∈tg.idx,sl[j]?=some .un∨sl[j]?=none) (wd:Wd R env Dd wr W) (rest:List D):∀(i:Nat) (Z:Zm) (s:Shared) (acc:List D),ds.drop i=rest→LOk R Y env oa Dd sl acc Z s.heap→IOk Y env oa tup I wr ds St i Z s.heap→i≤ds.length →
   LK R Y env oa Dd sl W Rr Z s (compE (stepLast Y cifs celt tg sl) rest acc)→codeAny Y.M Y.A (.compLoop (.ListComp elt gens sc epos) kk (.ref I) (.ref Dd) env) Rr s:=by
 have start:∀{s},wpAny Y.M Y.A (compTurn (.ListComp elt gens sc epos) kk (.ref I) (.ref Dd) env) (turnPost Y Rr) (LE Y env Rr) s→codeAny Y.M Y.A (.compLoop (.ListComp elt gens sc epos) kk (.ref I) (.ref Dd) env) Rr s:=fun h=>codeAny_of_tree (wpAny_noted h)
 induction rest with
 | nil=>
  intro i Z s acc hn lo io hi k
  cases drop_nil hn hi
  refine start ?_
  rw [hq]
  exact ZrL wd lo io k
 | cons d rest ih=>
  intro i Z s acc hn lo io hi k
  obtain ⟨hd,hr,hlt⟩:=Zqr hn
  refine start ?_
  rw [hq]
  refine Zrk (rest:=restLast _ _ _ _ _ _) ht hts htup wd lo io hd k fun sl1 b Z₁ s₁ hb lo1 io1 k=> ?_
  ·cases b with
   | false=>exact wpAny_pure ⟨rfl,ih (i+1) Z₁ s₁ acc hr (lo1.back hb hun) io1 hlt k⟩
   | true=>
    refine wpAny_bind (wpAny_bind (hel lo1.ok ((LK.post lo.ok.st lo.ok.c.below.stack).bind ⟨lo1.ok.ns,k⟩ fun y v Z₂ s₂ g rv k=> ?_)))
    by_cases hz:acc.length < SZ
    ·have k:=k.2
     rw [show need (acc.length < SZ) (compE (stepLast Y cifs celt tg sl) rest (acc ++ [y]))=_ from if_pos hz] at k
     refine wpAny_bind (Zri (lo1.nx g) rv hz fun s₃ lo3 g3=>wpAny_pure (wpAny_pure ⟨rfl,ih (i+1) Z₂ s₃ (acc ++ [y]) hr (lo3.back hb hun) ((io1.go lo1.ok.c.sub g fun _ _ q=>q).go g.sub g3 fun b hb q=>lo.oD.elim fun N e=>(io1.nz b hb).2.2.2.1 N (q ▸ e.1)) hlt (k.go g3 fun b q=> .inl (q ▸ wd.d))⟩))
    ·have k:=k.2
     rw [show need (acc.length < SZ) (compE (stepLast Y cifs celt tg sl) rest (acc ++ [y]))=_ from if_neg hz] at k
     exact False.elim k
end
end DK.Internal
end
section
set_option backward.match.sparseCases false
set_option genSizeOf false
set_option genCtorIdx false
namespace DK.Internal
open PySem PyProof.Rows
section
variable {M:Model} {A:Around} {E:Value→Shared→Prop} {s:Shared} {env:Env}
noncomputable def compPost' (M:Model) (A:Around) (E:Value→Shared→Prop) (use:Option (Value→Sem Unit)) (Q:Value→Shared→Prop) (acc:Value) (cenv:Env) (r:Result) (s':Shared):Prop:=
 match r,use with
 | .ok _,none=>∃m,s'.heap.Ns cenv.locals m∧∀h',Heap.SameBut cenv.locals s'.heap h'→Q acc { s' with heap:=h' }
 | .ok _,some u=>wpAny M A (u acc) (fun _ s''=>∃m,s''.heap.Ns cenv.locals m∧∀h',Heap.SameBut cenv.locals s''.heap h'→Q .none { s'' with heap:=h' }) E s'
 | .error x,_=>∃m,s'.heap.Ns cenv.locals m∧∀h' m',h'.Ns cenv.locals m'→Heap.SameBut cenv.locals s'.heap h'→wpAny M A (passOn "comprehension.variables-let-go" x cenv:Sem Value) (fun _ _=>False) E { s' with heap:=h' }
theorem Zsx {e:Expr} {scope:Scope} {pos:Pos} {newAcc first:Sem Value} {g:Comprehension} {gs:List Comprehension} {cl:List (Str × Addr)} {use:Option (Value→Sem Unit)}
  {Q:Value→Shared→Prop}
  (hcl:clausesOf e=g::gs) (hs:∀x,foldedSetIterable g.iter env x=pure x) (hclos:closureFor scope env=pure cl)
  (hkind:scope.kind = .function) (hnames:∀x∈scope.names,x.2 = .local→scope.names.lookup x.1=some .local)
  (h:wpAny M A first (fun x s₁=>wpAny M A (pyIter x) (fun it s₂=>wpAny M A newAcc (fun acc s₃=>
   wpAny M A (newFunctionEnv scope env.globals cl [] env.qual none .none (some env)) (fun cenv s₄=>
    codeAny M A (.compStart e 0 it acc { cenv with scope:=relabel scope env }) (compPost' M A E use Q acc { cenv with scope:=relabel scope env }) s₄) E s₃) E s₂) E s₁) E s) :
  wpAny M A (comprehension e scope env pos newAcc false first use) Q E s:=by
 unfold comprehension
 rw [hclos,hcl]
 refine wpAny_bind (wpAny_mono h (fun x s₁ h₁=>wpAny_bind (wpAny_standAt (wpAny_bind (wpAny_of_eq (hs x) (wpAny_bind (wpAny_holding (wpAny_mono h₁ (fun it s₂ h₂=>
  wpAny_standIf (wpAny_bind (wpAny_mono h₂ (fun acc s₃ h₃=>wpAny_bind (wpAny_pure (wpAny_bind (wpAny_mono h₃ (fun cenv s₄ h₄=> ?_) fun _ _ h'=>h')))) fun _ _ h'=>h')))
   fun _ _ h'=>h'))))))) fun _ _ h'=>h')
 dsimp only
 have hv:∀x∈(scope.names.filter fun x=>(x.2 == .local || x.2 == .cell) && x.1 != (".0" : Str)).reverse,x.2 = .local →
   Env.kindOf { cenv with scope:=relabel scope env } x.1=some .local:=fun x hx hl=>lookup_relabel_local (hnames x (List.mem_filter.mp (List.mem_reverse.mp hx)).1 hl)
 have hv':∀x∈(scope.names.filter fun x=>(x.2 == .local || x.2 == .cell) && x.1 != (".0" : Str)).reverse.drop 1++(scope.names.filter fun x=>(x.2 == .local || x.2 == .cell) && x.1 != (".0" : Str)).reverse.take 1,
   x.2 = .local→Env.kindOf { cenv with scope:=relabel scope env } x.1=some .local:=fun x hx hl=>by
  rcases List.mem_append.mp hx with h1 | h1
  ·exact hv x (List.mem_of_mem_drop h1) hl
  ·exact hv x (List.mem_of_mem_take h1) hl
 refine wpAny_holding (wpAny_bind (wpAny_attempt (wpAny_holding (wpAny_run (codeAny_mono h₄ fun r s' hr=> ?_)))))
 cases r with
 | ok f=>
  cases use with
  | none=>
   obtain ⟨m,hn,hr⟩:=hr
   exact wpAny_bind (wpAny_holding (wpAny_comp_letGo (cenv:={ cenv with scope:=relabel scope env }) hkind _ s' m hv hn fun h' m' _ hs'=>wpAny_pure (hr h' hs')))
  | some u=>
   refine wpAny_bind (wpAny_rule (wpAny_bind (wpAny_holding (wpAny_mono hr (fun _ s'' hr'=> ?_) fun _ _ h'=>h'))))
   obtain ⟨m,hn,hr'⟩:=hr'
   exact wpAny_bind (wpAny_comp_letGo (cenv:={ cenv with scope:=relabel scope env }) hkind _ s'' m hv' hn fun h' m' _ hs'=>wpAny_pure (hr' h' hs'))
 | error x=>
  have hr':∃m,s'.heap.Ns cenv.locals m∧∀h' m',h'.Ns cenv.locals m'→Heap.SameBut cenv.locals s'.heap h'→wpAny M A (passOn "comprehension.variables-let-go" x { cenv with scope:=relabel scope env }:Sem Value) (fun _ _=>False) E { s' with heap:=h' }:=by cases use<;>exact hr
  obtain ⟨m,hn,hr⟩:=hr'
  exact wpAny_bind (wpAny_holding (wpAny_comp_letGo (cenv:={ cenv with scope:=relabel scope env }) hkind _ s' m hv hn fun h' m' hn' hs'=>wpAny_mono (hr h' m' hn' hs') (fun _ _ f=>f.elim) fun _ _ y=>y))
theorem ZsU {α:Type} {M:Model} {Q:α→Shared→Prop} {x:Value} (h:E x s):wpAny M A (throw x:Sem α) Q E s:=wpAny_throw h
noncomputable def flightPart (msg:String) (x:Value) (env:Env):Sem Unit:=do
 if (←field x 1) == .none then unsupported msg
 setFlight x env.frame
theorem Ztk {α:Type} {M:Model} {Q:α→Shared→Prop} {x:Value} {what:String} (h:wpAny M A (flightPart (what ++ ":exception-without-traceback") x env) (fun _ s₂=>wpAny M A (throw x:Sem α) Q E s₂) E s) :
  wpAny M A (PySem.passOn what x env:Sem α) Q E s:=by
 have e:(PySem.passOn what x env:Sem α)=(flightPart (what ++ ":exception-without-traceback") x env>>=fun _=>throw x):=by
  unfold PySem.passOn flightPart
  simp only [bind_assoc]
  congr 1;funext y
  split<;>simp [bind_assoc]<;>rfl
 rw [e]
 exact wpAny_bind h
end
section
variable {R:Rs} {Y:Cx} {env:Env} {Z:Zm} {oa:Nat→Option Addr} {Dd:Addr} {sl:List Slot} {s:Shared} {W:Addr→Prop} {Rr:Result→Shared→Prop} {tup:Bool} {I:Addr} {wr:List Addr} {ds:List D} {St:Nat→Heap→Prop}
theorem ZpL {elt:Expr} {gens:List Comprehension} {sc:Scope} {pos:Pos} {kk:Nat} {acc:Value} {g:Comprehension} {i:Nat} (hg:gens[kk]?=some g) (ha:g.is_async=0) (io:IOk Y env oa tup I wr ds St i Z s.heap)
  (h0:codeAny Y.M Y.A (.compLoop (.ListComp elt gens sc pos) kk (.ref I) acc env) Rr s):codeAny Y.M Y.A (.compStart (.ListComp elt gens sc pos) kk (.ref I) acc env) Rr s:=by
 refine codeAny_of_tree ?_
 show wpAny _ _ ((compStart (.ListComp elt gens sc pos) kk (.ref I) acc env).onRaise (fun x=>do noteFrame x env;standAt theWindowsPlace)) _ _ s
 refine wpAny_notedAt ?_
 unfold compStart
 rw [show (clausesOf (.ListComp elt gens sc pos))[kk]?=some g from hg,show (Option.some g).elim false (fun x=>x.is_async != 0)=false by simp [ha],if_neg Bool.false_ne_true]
 refine wpAny_bind (wpAny_askSetting (wpAny_ite ?_))
 obtain ⟨Z₀,wk,_⟩:=io.wk
 split
 ·exact wpAny_pure (And.intro rfl h0)
 ·exact wpAny_bind (wpAny_rule (wpAny_bind (wpAny_standAt (wpAny_bind (wk.self io.st (wpAny_pure (And.intro rfl h0)))))))
theorem Post.bindI {γ:Type} {T:Zm→Shared→Out γ→Prop} {E:Value→Shared→Prop} {Q:Value→Shared→Prop} {o:Out (List D)} {f:List D→Out γ} (p:Post Y E T) (k:T Z s (o>>=f)) (g:∀ds I wr St Z' s',o = .ok ds→Nx Y Z s Z' s'→It0 Y tup I wr ds St Z' s.heap s'.heap→Q (.ref I) s'):KI Y tup Q E Z s o:=by
 cases o with
 | ok ds=>exact fun I wr St Z' s' x i=>g ds I wr St Z' s' rfl x i
 | exc=>exact p.exc k
 | stuck=>exact p.stuck k
theorem Ok.fresh (ok:Ok R Y env Z oa sl s.heap) {b:Addr} (h:s.heap.get? b=none):Z b=none∧b∉fas Y.l∧¬Loc env b∧(∀j,oa j≠some b)∧Y.base.get? b=none:=by
 have no:(s.heap.get? b).isSome=true→False:=fun e=>by rw [h] at e;cases e
 refine ⟨ok.c.sub.fresh h,fun m=> ?_,fun l=>no (ok.loz b l).2,fun j e=>no (ok.own j b e).2.2.2.2,?_⟩
 ·obtain ⟨_,o,e,_⟩:=Zpe ok.c.below.frames b m;rw [h] at e;cases e
 ·cases e:Y.base.get? b with
  | none=>rfl
  | some o=>rw [ok.c.below.stays b o e] at h;cases h
theorem It0.iok {Z':Zm} {s':Shared} (i:It0 Y tup I wr ds St Z' s.heap s'.heap) (ok:Ok R Y env Z oa sl s.heap):IOk Y env oa tup I wr ds St 0 Z' s'.heap:=
 ⟨⟨Z',i.wk,fun _ _ e=>e⟩,i.st,fun b hb=>⟨(i.new b hb).2,(ok.fresh (i.new b hb).1).2⟩⟩
theorem ns_up {a:Addr} {m:Str→Option Value} {h h':Heap} (n:h.Ns a m) (u:h.UpToSlots h'):h'.Ns a m:=ns_keep n fun o q=>by
 obtain ⟨o₂,es,ep,ho,hd,_⟩:=n
 rw [ho] at q;cases q
 obtain ⟨sl,e'⟩:=u a _ ho (by rw [hd];exact nofun)
 exact ⟨_,e',rfl⟩
noncomputable def stepMore (Y:Cx) (cifs:Cs) (g:List Slot→List Slot→List D→Out (List D)) (tg:Tgt) (sl:List Slot) (acc:List D) (d:D) (k:List D→Out (List D)):Out (List D):=bindT sl tg d>>=fun sl'=>Y.tsts cifs sl'>>=fun b=>
 ifO b (g sl' sl' acc>>=k) (k acc)
noncomputable def goLast (Y:Cx) (it:It) (cifs:Cs) (celt:C) (tg:Tgt) (slo sl:List Slot) (acc:List D):Out (List D):=Y.items it slo>>=fun xs=>compE (stepLast Y cifs celt tg sl) xs acc
theorem Zsy {elt t0 i0 t1 i1:Expr} {ifs0 ifs1:List Expr} {sc:Scope} {epos:Pos} {tg0 tg1:Tgt} {it1:It} {cifs0 cifs1:Cs} {celt:C}
  (ht0:Tg R t0 tg0) (ht1:Tg R t1 tg1) (hts0:STs R ifs0 cifs0) (hts1:STs R ifs1 cifs1) (hel:SE R elt celt) (hi1:SI R i1 it1) (hset:notSet i1=true) (htup:tup=true→isTup t0=true) (htup1:it1.isEnum=true→isTup t1=true)
  (hun:∀j∈tg0.idx,sl[j]?=some .un∨sl[j]?=none) (hun1:∀j∈tg1.idx,j∉tg0.idx∧(sl[j]?=some .un∨sl[j]?=none)) (wd:Wd R env Dd wr W) (rest:List D) :
  ∀(i:Nat) (Z:Zm) (s:Shared) (acc:List D),ds.drop i=rest→LOk R Y env oa Dd sl acc Z s.heap→IOk Y env oa tup I wr ds St i Z s.heap→i≤ds.length →
   LK R Y env oa Dd sl W Rr Z s (compE (stepMore Y cifs0 (goLast Y it1 cifs1 celt tg1) tg0 sl) rest acc) →
   codeAny Y.M Y.A (.compLoop (.ListComp elt [⟨t0,i0,ifs0,0⟩,⟨t1,i1,ifs1,0⟩] sc epos) 0 (.ref I) (.ref Dd) env) Rr s:=by
 have start:∀{s},wpAny Y.M Y.A (compTurn (.ListComp elt [⟨t0,i0,ifs0,0⟩,⟨t1,i1,ifs1,0⟩] sc epos) 0 (.ref I) (.ref Dd) env) (turnPost Y Rr) (LE Y env Rr) s→codeAny Y.M Y.A (.compLoop (.ListComp elt [⟨t0,i0,ifs0,0⟩,⟨t1,i1,ifs1,0⟩] sc epos) 0 (.ref I) (.ref Dd) env) Rr s:=fun h=>codeAny_of_tree (wpAny_noted h)
 induction rest with
 | nil=>
  intro i Z s acc hn lo io hi k
  cases drop_nil hn hi
  refine start ?_
  rw [Zrj]
  exact ZrL wd lo io k
 | cons d rest ih=>
  intro i Z s acc hn lo io hi k
  obtain ⟨hd,hr,hlt⟩:=Zqr hn
  refine start ?_
  rw [Zrj]
  refine Zrk (rest:=restMore _ _ _ _ _) ht0 hts0 htup wd lo io hd k fun sl1 b Z₁ s₁ hb lo1 io1 k=> ?_
  cases b with
  | false=>exact wpAny_pure ⟨rfl,ih (i+1) Z₁ s₁ acc hr (lo1.back hb hun) io1 hlt k⟩
  | true=>
   replace k:LK R Y env oa Dd sl W Rr Z₁ s₁ ((Y.items it1 sl1>>=fun xs=>compE (stepLast Y cifs1 celt tg1 sl1) xs acc)>>=compE (stepMore Y cifs0 (goLast Y it1 cifs1 celt tg1) tg0 sl) rest):=k
   rw [Out.bind_assoc] at k
   show wpAny Y.M Y.A (eval i1 env>>=fun x=>standAt i1.pos>>=fun _=>foldedSetIterable i1 env x>>=fun x=>holding [x] (pyIter x)>>=fun i=>runOwn (.compStart (.ListComp elt [⟨t0,i0,ifs0,0⟩,⟨t1,i1,ifs1,0⟩] sc epos) 1 i (.ref Dd) env) env>>=fun _=>again (.compLoop (.ListComp elt [⟨t0,i0,ifs0,0⟩,⟨t1,i1,ifs1,0⟩] sc epos) 0 (.ref I) (.ref Dd) env)) _ _ s₁
   refine wpAny_bind (wpAny_mono (hi1 (Q:=fun v s₂=>wpAny Y.M Y.A (runOwn (.compStart (.ListComp elt [⟨t0,i0,ifs0,0⟩,⟨t1,i1,ifs1,0⟩] sc epos) 1 v (.ref Dd) env) env>>=fun _=>again (.compLoop (.ListComp elt [⟨t0,i0,ifs0,0⟩,⟨t1,i1,ifs1,0⟩] sc epos) 0 (.ref I) (.ref Dd) env)) (turnPost Y Rr) (LE Y env Rr) s₂) lo1.ok
    ((LK.post lo.ok.st lo.ok.c.below.stack).bindI ⟨lo1.ok.ns,k⟩ fun ds1 I1 wr1 St1 Z₂ s₂ e1 g hit=> ?_)) (fun x s₂ hx=> ?_) fun _ _ q=>q)
   rotate_left
   ·refine wpAny_bind (wpAny_standAt ?_)
    rw [Zpz hset]
    exact wpAny_bind (wpAny_pure (wpAny_bind (wpAny_holding hx)))
   have lo2:=lo1.nx g
   have io2:=io1.go lo1.ok.c.sub g fun _ _ q=>q
   have io3:=hit.iok lo1.ok
   rw [e1] at k
   have dis:∀b∈wr,¬(b=Dd∨b∈wr1∨Homes R env b):=fun b hb q=>by
    rcases q with q | q | q
    ·exact lo.oD.elim fun N e=>(io1.nz b hb).2.2.2.1 N (q ▸ e.1)
    ·have:=io1.alive b hb;rw [(hit.new b q).1] at this;cases this
    ·exact (io1.nz b hb).2.2.1 (ZoY q)
   have W3:∀b,(b=Dd∨b∈wr1∨Homes R env b)→W b∨s₁.heap.get? b=none:=fun b q=>by
    rcases q with q | q | q
    ·exact .inl (q ▸ wd.d)
    ·exact .inr (hit.new b q).1
    ·exact .inl (wd.h b q)
   have main:∀{Rr1:Result→Shared→Prop},LK R Y env oa Dd sl1 (fun b=>b=Dd∨b∈wr1∨Homes R env b) Rr1 Z₂ s₂ (compE (stepLast Y cifs1 celt tg1 sl1) ds1 acc)→codeAny Y.M Y.A (.compStart (.ListComp elt [⟨t0,i0,ifs0,0⟩,⟨t1,i1,ifs1,0⟩] sc epos) 1 (.ref I1) (.ref Dd) env) Rr1 s₂:=fun k=>
    ZpL (g:=⟨t1,i1,ifs1,0⟩) rfl rfl io3 (Zrl (fun it acc env=>ZsT ..) ht1 hts1 hel htup1 (fun j hj=>by rw [(ZpK hb).2 j (hun1 j hj).1];exact (hun1 j hj).2) ⟨.inl rfl,fun b hb=> .inr (.inl hb),fun b hb=> .inr (.inr hb)⟩ ds1 0 Z₂ s₂ acc rfl lo2 io3 (Nat.zero_le _) k)
   refine wpAny_bind (wpAny_runOwn (main ?_))
   replace k:LK R Y env oa Dd sl W Rr Z₁ s₁ (compE (stepLast Y cifs1 celt tg1 sl1) ds1 acc>>=compE (stepMore Y cifs0 (goLast Y it1 cifs1 celt tg1) tg0 sl) rest):=k
   revert k
   generalize compE (stepLast Y cifs1 celt tg1 sl1) ds1 acc=oo
   intro k
   cases oo with
   | ok acc1=>exact fun Z₃ s₃ lo3 g3=>wpAny_pure ⟨rfl,ih (i+1) Z₃ s₃ acc1 hr (lo3.back hb hun) (io2.go g.sub g3 dis) hlt (LK.go (o:=compE (stepMore Y cifs0 (goLast Y it1 cifs1 celt tg1) tg0 sl) rest acc1) k (g.go g3) W3)⟩
   | exc=>
    intro x s₃ e3 H3 ns3
    refine ZpB lo.ok.st.fr H3 fun h4 H4 u4=>ZpF (s:={ s₃ with heap:=h4 }) lo.ok.c.below.stack lo.ok.st.fr H4.exc fun h5 H5 u5=> ?_
    exact k x _ ((((g.mono (W:=W) fun _ q=>q.elim).ex e3 W3).up u4 H4.exc).up u5 H5.exc) H5 (ns3.imp fun m q=>ns_up (ns_up q u4) u5)
   | stuck=>exact False.elim k
end
end DK.Internal
end
section
set_option backward.match.sparseCases false
set_option genSizeOf false
set_option genCtorIdx false
namespace DK.Internal
open PySem PyProof.Rows
theorem HeldL.but {base h h':Heap} {l:List Env} {e C:Addr} {m:Str→Option Value} (x:HeldL base l e h) (n:h.Ns C m) (sb:Heap.SameBut C h h') (hb:base.get? C=none) (hl:C∉fas l):HeldL base l e h':=by
 obtain ⟨fenv,outer,rfl,a0,L,hf,k1,k2,k3,oe,vs,T,oT,ts,he,hh,hd,h1,hnT,hTe,hT,hdT,h3⟩:=x
 obtain ⟨o,es,ep,ho,hod,_⟩:=n
 have ne:∀{b:Addr} {o':Obj} {vs:Array Value},h.get? b=some o'→o'.data = .fields vs→b≠C:=fun e1 e2 q=>by rw [q,ho] at e1;cases e1;rw [hod] at e2;cases e2
 exact ⟨fenv,outer,rfl,a0,L,hf,fun b o' q=>SameBut.get sb (fun z=>by rw [z,hb] at q;cases q) (k1 b o' q),k2,Zpw (fun b hb' o' q nf=>⟨(Zpe k3 b hb').1,o',SameBut.get sb (fun z=>hl (z ▸ hb')) q,nf⟩) k3,
  oe,vs,T,oT,ts,SameBut.get sb (ne he hd) he,hh,hd,h1,hnT,hTe,SameBut.get sb (ne hT hdT) hT,hdT,h3⟩
structure CEnd (Y:Cx) (Z:Zm) (s:Shared) (xs:List D) (Dd C:Addr) (Z':Zm) (s':Shared):Prop where
 nx:Nx Y Z s Z' s'
 fD:s.heap.get? Dd=none
 fC:s.heap.get? C=none
 ne:Dd≠C
 zD:Z' Dd=none
 zC:Z' C=none
 ns:∃m,s'.heap.Ns C m
 acc:∃vs n,s'.heap.get? Dd=some (lstO vs n)∧vs.length≤SZ∧Reps Y.P Z' xs vs
noncomputable def KC (Y:Cx) (sc:Scope) (env:Env) (use:Option (Value→Sem Unit)) (Q:Value→Shared→Prop) (E:Value→Shared→Prop) (Z:Zm) (s:Shared) (o:Out (List D)):Prop:=match o with
 | .ok xs=>∀Dd C Z' s',CEnd Y Z s xs Dd C Z' s'→compPost' Y.M Y.A E use Q (.ref Dd) (cenvOf sc env C) (.ok .next) s'
 | .exc=>∀x s',Ex No Y s x s'→E (.ref x) s'
 | .stuck=>False
section
variable {R:Rs} {Y:Cx} {env:Env} {Z:Zm} {oa:Nat→Option Addr} {sl:List Slot} {s:Shared} {Q:Value→Shared→Prop} {E:Value→Shared→Prop} {sc:Scope} {use:Option (Value→Sem Unit)}
theorem KC.post:Post Y E (KC Y sc env use Q E) where
 step:=fun {Z s Z' s' o} k g=>by
  cases o with
  | ok xs=>exact fun Dd C Z₂ s₂ c=>k Dd C Z₂ s₂ { c with nx:=g.nx c.nx,fD:=(g.ks.gone c.fD).resolve_left id,fC:=(g.ks.gone c.fC).resolve_left id }
  | exc=>exact fun x s₂ e=>k x s₂ (g.ex e fun _ q=>q.elim)
  | stuck=>exact k
 exc:=fun k=>k
 stuck:=fun k=>k
theorem Zsz {elt:Expr} {g:Comprehension} {gs:List Comprehension} {epos pos:Pos} {it:It} {lp:List D→Out (List D)} (hsc:okScope R sc=true) (hset:notSet g.iter=true) (hi:SI R g.iter it) (ok:Ok R Y env Z oa sl s.heap)
  (body:∀{oa' Dd C I wr ds St Z₄ s₄ Rr},LOk (R.inner sc) Y (cenvOf sc env C) oa' Dd (sl++List.replicate (numbered R.nl sc.names).length .un) [] Z₄ s₄.heap→IOk Y (cenvOf sc env C) oa' it.isEnum I wr ds St 0 Z₄ s₄.heap→Wd (R.inner sc) (cenvOf sc env C) Dd wr (fun b=>b=Dd∨b∈wr∨b=C) →
   LK (R.inner sc) Y (cenvOf sc env C) oa' Dd (sl++List.replicate (numbered R.nl sc.names).length .un) (fun b=>b=Dd∨b∈wr∨b=C) Rr Z₄ s₄ (lp ds) →
   codeAny Y.M Y.A (.compStart (.ListComp elt (g::gs) sc epos) 0 (.ref I) (.ref Dd) (cenvOf sc env C)) Rr s₄)
  (k:KC Y sc env use Q E Z s (Y.items it sl>>=lp)):wpAny Y.M Y.A (comprehension (.ListComp elt (g::gs) sc epos) sc env pos (newList []) false (eval g.iter env) use) Q E s:=by
 obtain ⟨hkind,hn⟩:=Zph hsc
 refine Zsx rfl (fun x=>Zpz hset x) (ZpU fun n hn' hf=>(ok.st.ck n.1 ((hn n hn').2.2 hf).2.1).2) hkind (fun x hx hl=>(hn x hx).2.1 hl) (hi ok (KC.post.bindI k fun ds I wr St Z₁ s₁ e1 g1 hit=> ?_))
 rw [e1] at k
 refine wpAny_newObj_type (wpAny_newFunctionEnv (fun x hx=>(hn x hx).1) (fun y hy=>nomatch hy) (fun h3 hns hsb=> ?_) hkind)
 have hz:(s₁.heap.push { cls:= .type "list",data:= .seq ([]:List Value).toArray }).objs.size=s₁.heap.objs.size+1:=Heap.size_push ..
 generalize hH2:s₁.heap.push { cls:= .type "list",dict:=none,data:= .seq ([]:List Value).toArray }=h2 at hns hsb hz
 have keep3:∀b o,h2.get? b=some o→h3.get? b=some o:=fun b o e=>hsb.extBut b o (Nat.ne_of_lt (Heap.lt_size e)) (Heap.get?_push_of_some _ e)
 have hD3:h3.get? s₁.heap.objs.size=some (lstO [] 0):=keep3 _ _ (hH2 ▸ Heap.get?_push_size _ rfl)
 have keep:∀b o,s₁.heap.get? b=some o→h3.get? b=some o:=fun b o e=>keep3 b o (hH2 ▸ Heap.get?_push_of_some _ e)
 have hCns:h3.Ns h2.objs.size (fun x=>([]:List (Str × Value)).reverse.lookup x):=hns
 rw [hz] at hCns ⊢
 generalize hD:s₁.heap.objs.size=Dd at hD3 hCns ⊢
 have f1D:s₁.heap.get? Dd=none:=Heap.get?_none_of_le (Nat.le_of_eq hD)
 have f1C:s₁.heap.get? (Dd+1)=none:=Heap.get?_none_of_le (by rw [hD];exact Nat.le_succ _)
 have g2:∀tk,Nx Y Z₁ s₁ Z₁ { s₁ with heap:=h3,toks:=tk }:=fun tk=> .keeps g1.sub keep tk
 have fD:=(g1.ks.gone f1D).resolve_left id
 have fC:=(g1.ks.gone f1C).resolve_left id
 have ok1:=ok.nx g1
 have freD:=ok1.fresh f1D
 have freC:=ok1.fresh f1C
 have loc:∀{b},Loc (cenvOf sc env (Dd+1)) b→b=Dd+1∨Loc env b:=fun q=>q.imp id fun ⟨x,q⟩=> .inr ⟨x,Zpb q⟩
 let oa':Nat→Option Addr:=fun j=>if j=(R.inner sc).nl then some Dd else oa j
 have hoa:∀j a,oa' j=some a→(j=(R.inner sc).nl∧a=Dd)∨(j≠(R.inner sc).nl∧oa j=some a):=fun j a q=>by
  by_cases z:j=(R.inner sc).nl
  ·exact .inl ⟨z,by rw [show oa' j=some Dd from if_pos z] at q;cases q;rfl⟩
  ·exact .inr ⟨z,by rw [show oa' j=oa j from if_neg z] at q;exact q⟩
 have okc:∀tk,Ok (R.inner sc) Y (cenvOf sc env (Dd+1)) Z₁ oa' (sl++List.replicate (numbered R.nl sc.names).length .un) ({ s₁ with heap:=h3,toks:=tk }:Shared).heap:=fun tk=>
  (ok1.nx (g2 tk)).inner hsc hCns freC.1 (fun x c hc q=>freC.2.2.1 (.inr ⟨x,q ▸ hc⟩)) (fun j hj=>if_neg (Nat.ne_of_lt (Nat.lt_of_lt_of_le hj (Nat.le_add_right _ _)))) (fun j a q=>by
   rcases hoa j a q with ⟨_,rfl⟩ | ⟨_,q⟩
   ·exact ⟨freD.1,trivial,freD.2.1,fun q=>(loc q).elim (fun q=>absurd q (Nat.ne_of_lt (Nat.lt_succ_self _))) freD.2.2.1,by show (h3.get? _).isSome=true;rw [hD3];rfl⟩
   ·have o:=(ok1.nx (g2 tk)).own j a q
    exact ⟨o.1,o.2.1,o.2.2.1,fun l=>(loc l).elim (fun z=>freC.2.2.2.1 j (z ▸ q)) o.2.2.2.1,o.2.2.2.2⟩) (fun i j a hi hj=>by
   rcases hoa i a hi with ⟨z,rfl⟩ | ⟨_,q⟩
   ·rcases hoa j _ hj with ⟨z',_⟩ | ⟨_,q'⟩
    ·rw [z,z']
    ·exact absurd q' (freD.2.2.2.1 j)
   ·rcases hoa j a hj with ⟨z',rfl⟩ | ⟨_,q'⟩
    ·exact absurd q (freD.2.2.2.1 i)
    ·exact ok.oinj i j a q q')
 have io1:=hit.iok ok
 have alive:=io1.alive
 have io2:∀tk,IOk Y (cenvOf sc env (Dd+1)) oa' it.isEnum I wr ds St 0 Z₁ ({ s₁ with heap:=h3,toks:=tk }:Shared).heap:=fun tk=>
  have i:=io1.go g1.sub (g2 tk) fun _ _ q=>q
  { i with nz:=fun b hb=>have n:=i.nz b hb;⟨n.1,n.2.1,fun l=>(loc l).elim (fun z=>by have:=alive b hb;rw [z,f1C] at this;cases this) n.2.2.1,fun j q=>by
    rcases hoa j b q with ⟨_,rfl⟩ | ⟨_,q⟩
    ·have:=alive _ hb;rw [f1D] at this;cases this
    ·exact n.2.2.2.1 j q,n.2.2.2.2⟩ }
 have wf:∀b,(b=Dd∨b∈wr∨b=Dd+1)→No b∨s.heap.get? b=none:=fun b q=> .inr (q.elim (fun q=>q ▸ fD) fun q=>q.elim (fun q=>(hit.new b q).1) fun q=>q ▸ fC)
 refine body ⟨okc _,⟨_,if_pos rfl,Nat.le_refl _⟩,freD.2.2.2.2,fun x i b hx hm=>(ZqC ok.st hsc hx hm).1 ▸ freC.2.2.2.2,[],0,hD3,Nat.zero_le _,rfl⟩ (io2 _) ⟨.inl rfl,fun b hb=> .inr (.inl hb),fun b ⟨x,i,hx,hm⟩=> .inr (.inr (ZqC ok.st hsc hx hm).1)⟩ ?_
 replace k:KC Y sc env use Q E Z s (lp ds):=k
 revert k
 generalize lp ds=oo
 intro k
 cases oo with
 | stuck=>exact k
 | ok ys=>exact fun Z₄ s₄ lo4 g4=>k Dd (Dd+1) Z₄ s₄ ⟨(Nx.go (g1.nx (g2 _)) g4).mono wf,fD,fC,Nat.ne_of_lt (Nat.lt_succ_self _),lo4.own.1,(lo4.ok.loz _ (.inl rfl)).1,lo4.ok.ns,lo4.acc⟩
 | exc=>
  intro x s₄ e4 H4 ns4
  obtain ⟨m4,n4⟩:=ns4
  refine ⟨m4,n4,fun h5 m5 n5 sb5=> ?_⟩
  replace n4:s₄.heap.Ns (Dd+1) m4:=n4
  replace sb5:Heap.SameBut (Dd+1) s₄.heap h5:=sb5
  have H5:=H4.but n4 sb5 freC.2.2.2.2 freC.2.1
  have e5:Ex No Y s x { s₄ with heap:=h5 }:=by
   have e:=((g1.nx (g2 _)).mono (W:=fun b=>b=Dd∨b∈wr∨b=Dd+1) fun _ q=>q.elim).ex e4 fun b q=> .inl q
   refine ⟨fun b o q _ nf=> ?_,H5.exc,by rw [e.same]⟩
   obtain ⟨sl',q'⟩:=e.us b o q (fun w=>by rw [(wf b w).resolve_left id] at q;cases q) nf
   exact ⟨sl',SameBut.get sb5 (fun z=>by rw [z,fC] at q;cases q) q'⟩
  exact Ztk (ZpB (msg:= "comprehension.variables-let-go" ++ ":exception-without-traceback") (env:=cenvOf sc env (Dd+1)) (s:={ s₄ with heap:=h5 }) (okc 0).st.fr H5 fun h6 H6 u6=>ZsU (k x _ (e5.up u6 H6.exc)))
def SC (R:Rs) (elt:Expr) (gens:List Comprehension) (sc:Scope) (epos:Pos) (n:Nat) (G:Gens):Prop:=∀{Y:Cx} {env:Env} {Z:Zm} {oa:Nat→Option Addr} {sl:List Slot} {s:Shared} {Q:Value→Shared→Prop} {E:Value→Shared→Prop} {pos:Pos} {use:Option (Value→Sem Unit)},
 Ok R Y env Z oa sl s.heap→KC Y sc env use Q E Z s (cmpr real Y.P.T (callT real Y.P.T Y.r) G sl (sl++List.replicate n .un) []) →
 wpAny Y.M Y.A (comprehension (.ListComp elt gens sc epos) sc env pos (newList []) (firstAsync gens) (firstIter gens env) use) Q E s
theorem ZqP {t:Expr} {tg:Tgt} (hl:sl.length=R.nl) (hs:okScope R sc=true) (h:Tg (R.inner sc) t tg):∀j∈tg.idx,(sl++List.replicate (numbered R.nl sc.names).length Slot.un)[j]?=some .un∨(sl++List.replicate (numbered R.nl sc.names).length Slot.un)[j]?=none:=by
 intro j hj
 obtain ⟨x,hx⟩:=Zte h j hj
 have hge:R.nl≤j:=by
  rcases ZoZ (Zpd hx) with ⟨a,_⟩ | ⟨_,_,c⟩
  ·exact a
  ·unfold Rs.put at hx
   rw [if_pos (show x∈(R.inner sc).byref from List.mem_map.mpr ⟨_,lookup_mem c,rfl⟩)] at hx;cases hx
 rw [List.getElem?_append_right (by rw [hl];exact hge),List.getElem?_replicate]
 split
 ·exact .inl rfl
 ·exact .inr rfl
theorem SC.one {elt t i0:Expr} {ifs:List Expr} {epos:Pos} {tg:Tgt} {it:It} {cifs:Cs} {celt:C} (hsc:okScope R sc=true) (hset:notSet i0=true) (ht:Tg (R.inner sc) t tg)
  (hi:SI R i0 it) (htup:it.isEnum=true→isTup t=true) (hts:STs (R.inner sc) ifs cifs) (hel:SE (R.inner sc) elt celt):SC R elt [⟨t,i0,ifs,0⟩] sc epos (numbered R.nl sc.names).length (.last tg it cifs celt):=fun {Y env Z oa sl s Q E pos use} ok k=>
 Zsz (g:=⟨t,i0,ifs,0⟩) (lp:=fun ds=>compE (stepLast Y cifs celt tg (sl++List.replicate (numbered R.nl sc.names).length Slot.un)) ds []) hsc hset hi ok (fun lo io wd k=>ZpL rfl rfl io (Zrl (fun it acc env=>ZsS ..) ht hts hel htup (ZqP ok.len hsc ht) wd _ 0 _ _ [] rfl lo io (Nat.zero_le _) k)) k
theorem SC.two {elt t0 i0 t1 i1:Expr} {ifs0 ifs1:List Expr} {epos:Pos} {tg0 tg1:Tgt} {it0 it1:It} {cifs0 cifs1:Cs} {celt:C} (hsc:okScope R sc=true) (hset0:notSet i0=true) (hset1:notSet i1=true)
  (ht0:Tg (R.inner sc) t0 tg0) (ht1:Tg (R.inner sc) t1 tg1) (hi0:SI R i0 it0) (hi1:SI (R.inner sc) i1 it1) (htup0:it0.isEnum=true→isTup t0=true) (htup1:it1.isEnum=true→isTup t1=true)
  (hts0:STs (R.inner sc) ifs0 cifs0) (hts1:STs (R.inner sc) ifs1 cifs1) (hel:SE (R.inner sc) elt celt) (hdis:∀j∈tg1.idx,j∉tg0.idx) :
  SC R elt [⟨t0,i0,ifs0,0⟩,⟨t1,i1,ifs1,0⟩] sc epos (numbered R.nl sc.names).length (.more tg0 it0 cifs0 (.last tg1 it1 cifs1 celt)):=fun {Y env Z oa sl s Q E pos use} ok k=>
 Zsz (g:=⟨t0,i0,ifs0,0⟩) (lp:=fun ds=>compE (stepMore Y cifs0 (goLast Y it1 cifs1 celt tg1) tg0 (sl++List.replicate (numbered R.nl sc.names).length Slot.un)) ds []) hsc hset0 hi0 ok (fun lo io wd k=>ZpL rfl rfl io
  (Zsy ht0 ht1 hts0 hts1 hel hi1 hset1 htup0 htup1 (ZqP ok.len hsc ht0) (fun j hj=>⟨hdis j hj,ZqP ok.len hsc ht1 j hj⟩) wd _ 0 _ _ [] rfl lo io (Nat.zero_le _) k)) k
theorem SE.comp {elt:Expr} {gens:List Comprehension} {epos:Pos} {n:Nat} {G:Gens} (h:SC R elt gens sc epos n G):SE R (.ListComp elt gens sc epos) (.comp n G):=by
 intro Y env Z oa sl s Q E ok k
 replace k:K Y Z (Rep Y.P) (cmpr real Y.P.T (callT real Y.P.T Y.r) G sl (sl++List.replicate n .un) []>>=lstK) Q E s:=k
 rw [eval_ListComp]
 refine h ok ?_
 revert k
 generalize cmpr real Y.P.T (callT real Y.P.T Y.r) G sl (sl++List.replicate n .un) []=o
 intro k
 cases o with
 | stuck=>exact k
 | exc=>exact k
 | ok xs=>
  intro Dd C Z₁ s₁ c
  obtain ⟨m,hm⟩:=c.ns
  refine ⟨m,hm,fun h2 sb=> ?_⟩
  replace sb:Heap.SameBut C s₁.heap h2:=sb
  obtain ⟨vs,n',e,z,q⟩:=c.acc
  have eD:=SameBut.get sb c.ne e
  have nF:C∉fas Y.l:=(ok.fresh c.fC).2.1
  have g2:Go (· = C) Y Z₁ s₁ Z₁ { s₁ with heap:=h2 }:=⟨⟨fun b o e nw _=>SameBut.get sb nw e,fun b o e nw _=>⟨o.slots,SameBut.get sb nw e⟩,fun b o e q m=>absurd (q ▸ m) nF⟩,fun _ _ e=>e,fun _ e=> .inl e,fun b o e=>SameBut.get sb (fun z=>by rw [z,c.zC] at e;cases e) (c.nx.sub b o e),rfl⟩
  have g3:Nx Y Z s Z₁ { s₁ with heap:=h2 }:=(Nx.go c.nx g2).mono fun b q=> .inr (q ▸ c.fC)
  have fr:=c.fD
  refine k _ (Zput Z₁ Dd (lstO vs n')) _ ⟨g3.ks,fun b o q=>Zps c.zD b o (g3.le b o q),fun b q=> ?_,g3.sub.put eD,g3.same⟩ ⟨Dd,vs,n',rfl,ZoX,z,q.up (Zps c.zD)⟩
  by_cases w:b=Dd
  ·exact .inr (.inr (w ▸ c.fD))
  ·exact g3.new b (by rwa [Zput,if_neg w] at q)
end
end DK.Internal
end
section
set_option backward.match.sparseCases false
set_option genSizeOf false
set_option genCtorIdx false
set_option genSizeOf false
set_option genInjectivity false
namespace DK.Internal
open PySem PyProof.Rows
inductive DP:List (Option Expr)→List Expr→List (Str × Int)→Prop
 | nil:DP [] [] []
 | cons {x i a b c d ks vs ps}:DP ks vs ps→DP (some (.Constant (.str x) a b)::ks) (.Constant (.int i) c d::vs) ((x,i)::ps)
noncomputable def pairTrees (env:Env) (pos:Pos):List (Option Expr)→List Expr→List (Sem Value × Sem Value)
 | some k::ks,v::vs=>(eval k env,do let x ←eval v env;standAt pos;pure x)::pairTrees env pos ks vs
 | _,_=> []
theorem Zsb {env:Env} {pos:Pos} {ks:List (Option Expr)} {vs:List Expr} {ps:List (Str × Int)} (h:DP ks vs ps) :
  (evalEachOpt ks env).zip ((evalEach vs env).map fun v=>do let x ←v;standAt pos;pure x)=(pairTrees env pos ks vs).map (fun p=>(some p.1,p.2))∧(pairTrees env pos ks vs).length=ps.length:=by
 induction h with
 | nil=>exact ⟨rfl,rfl⟩
 | cons _ ih=>exact ⟨congrArg (_ :: ·) ih.1,congrArg (· + 1) ih.2⟩
noncomputable abbrev keysD (ps:List (Str × Int)):List D:=ps.map fun p=> .str p.1.cps.toList
noncomputable abbrev valsD (ps:List (Str × Int)):List D:=ps.map fun p=> .int p.2
theorem ZsA {P:Prg} {A:Around} {E:Value→Shared→Prop} {env:Env} {pos:Pos} {ks:List (Option Expr)} {vs:List Expr} {ps:List (Str × Int)} (h:DP ks vs ps):∀{s:Shared} {Q:List (Value × Value)→Shared→Prop},
  (∀us kvs tk,Carries (PySem.strKind P.prog P.w) us kvs→kvs.map (·.1)=ps.map (·.1)→(∀x:Str,FlatO (valueAt kvs x) (dget (.str x.cps.toList) (keysD ps) (valsD ps)))→Q us { s with toks:=tk }) →
  wpAny (model P.prog P.w) A (evalPairs (pairTrees env pos ks vs)) Q E s:=by
 induction h with
 | nil=>exact fun hQ=>evalPairs_nil (hQ [] [] _ trivial rfl fun x=>trivial)
 | @cons x i a b c d ks vs ps hp ih=>
  intro s Q hQ
  refine evalPairs_cons (Calls.Constant_str (wpAny_bind (wpAny_Constant_int (wpAny_bind (wpAny_standAt (wpAny_pure (ih (s:={ s with toks:=s.toks+1+1 }) fun us kvs tk hc hk hd=> ?_)))))))
  refine hQ ((.str x s.toks,.int i (s.toks+1))::us) ((x,.int i (s.toks+1))::kvs) tk ⟨by simp [PySem.strKind,Value.isStrOf],rfl,hc⟩ (congrArg (x :: ·) hk) fun y=> ?_
  show FlatO (valueAt ((x,.int i (s.toks+1))::kvs) y) (if (x.cps.toList == y.cps.toList)=true then some (.int i) else dget (.str y.cps.toList) (keysD ps) (valsD ps))
  have hd:=hd y
  unfold valueAt at hd ⊢
  rw [SeqAt.str_beq,List.find?_cons]
  by_cases hxy:x=y
  ·subst hxy
   rw [if_pos (beq_self_eq_true _),decide_eq_true rfl]
   exact ⟨_,rfl⟩
  ·rw [if_neg (by simpa using hxy),decide_eq_false hxy]
   exact hd
theorem SE.dict {R:Rs} {ks:List (Option Expr)} {vs:List Expr} {ps:List (Str × Int)} {pos:Pos} (h:DP ks vs ps) (h0:ps≠[]) (hl:ps.length≤15) (hn:(ps.map (·.1)).Nodup):SE R (.Dict ks vs pos) (.k (.dict (keysD ps) (valsD ps))):=by
 intro Y env Z oa sl s Q E ok k
 obtain ⟨a,b⟩:=Zsb (env:=env) (pos:=pos) h
 refine wpAny_Dict_pairs (knd:=PySem.strKind Y.P.prog Y.P.w) a (fun q=>h0 (by rw [q] at b;exact List.length_eq_zero_iff.mp b.symm)) (by lia) ?_
 refine ZsA (P:=Y.P) h fun us kvs tk hc hk hd=>⟨kvs,hc,Heap.DictOf.new s.heap,fun h' hm sb=> ?_⟩
 rw [show merged [] kvs=kvs by rw [merged_append_of_fresh [] kvs (by rw [List.nil_append,hk];exact hn)];rfl] at hm
 have hkeep:∀b o,s.heap.get? b=some o→h'.get? b=some o:=fun b o e=>SameBut.get sb (Nat.ne_of_lt (Heap.lt_size e)) (Heap.get?_push_of_some _ e)
 have fr:s.heap.get? s.heap.objs.size=none:=Heap.get?_none_of_le (Nat.le_refl _)
 have hmap:=hm.mapOf
 obtain ⟨o,es,ep,ho,q⟩:=hmap
 refine k _ _ _ (.put ok.c.sub hkeep fr ho _) ⟨_,rfl,.inl ⟨?_,fun q=>h0 (List.map_eq_nil_iff.mp q),by rw [List.length_map,List.length_map],?_,_,fun h₂ hs=>⟨o,es,ep,hs _ _ ZoX,q⟩,hd⟩⟩
 ·obtain ⟨b,o,hb,e⟩:=ok.c.glo.sys
  have:=Heap.lt_size (ok.c.gh _ _ e)
  rw [beq_eq_false_iff_ne]
  exact Nat.ne_of_gt (Nat.lt_of_le_of_lt hb this)
 ·rw [List.all_map];exact List.all_eq_true.mpr fun _ _=>rfl
def Wr (R:Rs) (env:Env) (oa:Nat→Option Addr) (b:Addr):Prop:=Homes R env b∨∃i,oa i=some b
structure SOk (R:Rs) (Y:Cx) (env:Env) (io:Nat→Option Addr) (Z:Zm) (oa:Nat→Option Addr) (sl:List Slot) (h:Heap):Prop where
 ok:Ok R Y env Z oa sl h
 hB:Bs R Y env
 ob:∀i a,oa i=some a→Y.base.get? a=none
 ioR:∀x i,R.put x=some i→io i=none
 io:∀i a,io i=some a→oa i=some a∧∃xs,sl[i]?=some (.own xs)
noncomputable def FlowRep (P:Prg) (Z:Zm) (f:Flow):Fl→Prop
 | .next=>f = .next
 | .brk=>f = .brk
 | .cont=>f = .cont
 | .ret d=>∃v,f = .ret v∧Rep P Z d v
structure Aft (R:Rs) (Y:Cx) (env:Env) (io oa:Nat→Option Addr) (Z:Zm) (s:Shared) (oa':Nat→Option Addr) (Z':Zm) (sl':List Slot) (s':Shared):Prop where
 so:SOk R Y env io Z' oa' sl' s'.heap
 go:Go (Wr R env oa) Y Z s Z' s'
 n:∀i a,oa' i=some a→(∃j,oa j=some a)∨s.heap.get? a=none
noncomputable def KSt (R:Rs) (Y:Cx) (env:Env) (io oa:Nat→Option Addr) (Q:Flow→Shared→Prop) (E:Value→Shared→Prop) (Z:Zm) (s:Shared) (o:Out Reply):Prop:=match o with
 | .ok x=>∀f oa' Z' s',Aft R Y env io oa Z s oa' Z' x.2 s'→FlowRep Y.P Z' f x.1→Q f s'
 | .exc=>∀x s',Ex (Wr R env oa) Y s x s'→E (.ref x) s'
 | .stuck=>False
noncomputable def Cx.st (Y:Cx) (c:S) (sl:List Slot):Out Reply:=DK.Internal.st real Y.P.T (callT real Y.P.T Y.r) c sl
noncomputable def Cx.sts (Y:Cx) (c:Ss) (sl:List Slot):Out Reply:=DK.Internal.sts real Y.P.T (callT real Y.P.T Y.r) c sl
def SS (R:Rs) (st:Stmt) (c:S):Prop:=∀{Y:Cx} {env:Env} {io:Nat→Option Addr} {Z:Zm} {oa:Nat→Option Addr} {sl:List Slot} {s:Shared} {Q:Flow→Shared→Prop} {E:Value→Shared→Prop},
 SOk R Y env io Z oa sl s.heap→KSt R Y env io oa Q E Z s (Y.st c sl)→wpAny Y.M Y.A (exec st env) Q E s
def SSs (R:Rs) (sts:List Stmt) (c:Ss):Prop:=∀{Y:Cx} {env:Env} {io:Nat→Option Addr} {Z:Zm} {oa:Nat→Option Addr} {sl:List Slot} {s:Shared} {Q:Flow→Shared→Prop} {E:Value→Shared→Prop},
 SOk R Y env io Z oa sl s.heap→KSt R Y env io oa Q E Z s (Y.sts c sl)→wpAny Y.M Y.A (execs sts env) Q E s
section
variable {R:Rs} {Y:Cx} {env:Env} {io oa oa':Nat→Option Addr} {Z Z':Zm} {sl sl':List Slot} {s s':Shared} {Q:Flow→Shared→Prop} {E:Value→Shared→Prop}
theorem SOk.nx (so:SOk R Y env io Z oa sl s.heap) (g:Nx Y Z s Z' s'):SOk R Y env io Z' oa sl s'.heap:={ so with ok:=so.ok.nx g }
theorem SOk.self (so:SOk R Y env io Z oa sl s.heap):Aft R Y env io oa Z s oa Z sl s:=⟨so,.self so.ok.c.sub,fun i a h=> .inl ⟨i,h⟩⟩
theorem wr_le (n:∀i a,oa' i=some a→(∃j,oa j=some a)∨s.heap.get? a=none):∀b,Wr R env oa' b→Wr R env oa b∨s.heap.get? b=none:=fun b q=>q.elim (fun q=> .inl (.inl q)) fun ⟨i,q⟩=>(n i b q).imp .inr id
theorem KSt.aft {o:Out Reply} (k:KSt R Y env io oa Q E Z s o) (a:Aft R Y env io oa Z s oa' Z' sl' s'):KSt R Y env io oa' Q E Z' s' o:=by
 cases o with
 | ok x=>exact fun f oa₂ Z₂ s₂ b fr=>k f oa₂ Z₂ s₂ ⟨b.so,a.go.trans b.go (wr_le a.n),fun i c h=>(b.n i c h).elim (fun ⟨j,q⟩=>a.n j c q) fun z=>(a.go.ks.gone z).elim (fun w=>w.elim (fun w=>by have:=(a.so.ok.loz c (ZoY w)).2;rw [z] at this;cases this) .inl) .inr⟩ fr
 | exc=>exact fun x s₂ e=>k x s₂ (a.go.ex e (wr_le a.n))
 | stuck=>exact k
theorem KSt.post:Post Y E (KSt R Y env io oa Q E) where
 step:=fun {Z s Z' s' o} k g=>by
  cases o with
  | ok x=>exact fun f oa₂ Z₂ s₂ b fr=>k f oa₂ Z₂ s₂ ⟨b.so,Nx.go g b.go,fun i c h=>(b.n i c h).imp id fun z=>(g.ks.gone z).resolve_left id⟩ fr
  | exc=>exact fun x s₂ e=>k x s₂ ((g.mono fun _ q=>q.elim).ex e fun _ q=> .inl q)
  | stuck=>exact k
 exc:=fun k x s' e=>k x s' ⟨fun b o q _ nf=>e.us b o q id nf,e.exc,e.same⟩
 stuck:=fun k=>k
theorem KSt.seq {o:Out Reply} {f:Reply→Out Reply} {Q':Flow→Shared→Prop} (k:KSt R Y env io oa Q E Z s (o>>=f)) (g:∀fl sl' f' oa' Z' s',Aft R Y env io oa Z s oa' Z' sl' s'→FlowRep Y.P Z' f' fl→KSt R Y env io oa' Q E Z' s' (f (fl,sl'))→Q' f' s'):KSt R Y env io oa Q' E Z s o:=by
 cases o with
 | ok x=>exact fun f' oa' Z' s' a fr=>g x.1 x.2 f' oa' Z' s' a fr (KSt.aft (o:=f x) k a)
 | exc=>exact k
 | stuck=>exact k
theorem SS.bad {st:Stmt}:SS R st .bad:=fun _ k=>False.elim k
theorem SSs.nil:SSs R [] .nil:=fun so k=>wpAny_execs_nil (k _ _ _ _ so.self rfl)
theorem SSs.cons {st:Stmt} {sts:List Stmt} {c:S} {cs:Ss} (h:SS R st c) (hs:SSs R sts cs):SSs R (st::sts) (.cons c cs):=fun so k=>
 wpAny_execs_cons (h so (KSt.seq k fun fl sl' f' oa' Z' s' a fr k=>by
  cases fl with
  | next=>cases fr;exact hs a.so k
  | brk=>cases fr;exact k _ _ _ _ a.so.self rfl
  | cont=>cases fr;exact k _ _ _ _ a.so.self rfl
  | ret d=>obtain ⟨v,rfl,rv⟩:=fr;exact k _ _ _ _ a.so.self ⟨v,rfl,rv⟩))
theorem SS.ret {e:Expr} {c:C} {pos:Pos} (h:SE R e c):SS R (.Return (some e) pos) (.ret c):=fun so k=>
 wpAny_Return_some (h so.ok (KSt.post.bind k fun d v Z₁ s₁ g rv k=>k _ _ _ _ (so.nx g).self ⟨v,rfl,rv⟩))
theorem SS.ret0 {pos:Pos}:SS R (.Return none pos) (.ret (.k .none)):=fun so k=>wpAny_Return_none (k _ _ _ _ so.self ⟨_,rfl,rfl⟩)
theorem SS.brk {pos:Pos}:SS R (.Break pos) .brk:=fun so k=>wpAny_bind (wpAny_standAt (wpAny_pure (k _ _ _ _ so.self rfl)))
theorem SS.cont {pos:Pos}:SS R (.Continue pos) .cont:=fun so k=>wpAny_bind (wpAny_standAt (wpAny_pure (k _ _ _ _ so.self rfl)))
theorem SS.ife {t:Expr} {a b:List Stmt} {ct:C} {ca cb:Ss} {pos:Pos} (ht:ST R t ct) (ha:SSs R a ca) (hb:SSs R b cb):SS R (.If t a b pos) (.ife ct ca cb):=fun so k=>
 wpAny_If (ht so.ok (KSt.post.bind k fun d v Z₁ s₁ g rv k=>by
  cases rv
  cases d with
  | true=>exact ha (so.nx g) k
  | false=>exact hb (so.nx g) k))
noncomputable def noComp:Expr→Bool
 | .ListComp _ _ _ _=>false
 | .SetComp _ _ _ _=>false
 | .DictComp _ _ _ _ _=>false
 | _=>true
theorem Zpq {e:Expr} {t:Option Expr} {n:Nat} {env:Env} (h:noComp e=true):swapsWith e t n env=pure false:=by
 cases e<;>first | rfl | exact absurd h Bool.false_ne_true
theorem ZrM {i:Nat} {t:Slot} (hi:io i=none) (h:∀i a,io i=some a→oa i=some a∧∃xs,sl[i]?=some (.own xs)):∀j a,io j=some a→oa j=some a∧∃xs,(setV sl i t)[j]?=some (.own xs):=fun j a hj=>by
 rw [Zpn,if_neg (fun q=>by rw [←q.1,hi] at hj;cases hj)];exact h j a hj
theorem SOk.put {x:Str} {i:Nat} {v:Value} {d:D} (so:SOk R Y env io Z oa sl s.heap) (hx:R.put x=some i) (rv:Rep Y.P Z d v) {Q':Unit→Shared→Prop} (hQ:∀s',Aft R Y env io oa Z s oa Z (setV sl i (.val d)) s'→Q' () s') {A:Around}:wpAny Y.M A (storeName env x v) Q' E s:=
 ZpO so.hB hx so.ok rv fun s' ok' g=>hQ s' ⟨⟨ok',so.hB,so.ob,so.ioR,ZrM (so.ioR x i hx) so.io⟩,g.mono fun b q=> .inl (.inl q),fun i a h=> .inl ⟨i,h⟩⟩
theorem SS.asg {x:Str} {i:Nat} {e:Expr} {c:C} {p pos:Pos} (hx:R.put x=some i) (hn:noComp e=true) (h:SE R e c):SS R (.Assign [.Name x p] e pos) (.asg i c):=fun so k=>
 wpAny_Assign_Name (h so.ok (KSt.post.bind k fun d v Z₁ s₁ g rv k=>(so.nx g).put hx rv fun s₂ a=>k _ _ _ _ a rfl)) (Zpq hn)
theorem ZoT (so:SOk R Y env io Z oa sl s.heap):interactive env=false:=by unfold interactive;rw [so.ok.st.kind];rfl
theorem SS.exp {e:Expr} {c:C} {pos:Pos} (hn:noComp e=true) (h:SE R e c):SS R (.Expr e pos) (.ex c):=fun so k=>
 wpAny_Expr_any (h so.ok (KSt.post.bind k fun d v Z₁ s₁ g rv k=>k _ _ _ _ (so.nx g).self rfl)) (ZoT so) (Zpq hn)
noncomputable def augOk:Operator→Bool
 | .Add=>true
 | .Sub=>true
 | _=>false
theorem Ztl {a b:Int} {t u:Tok} {op:Operator} {Q:Value→Shared→Prop} (hs:Sub Z s.heap) (hop:augOk op=true) (k:K Y Z (Rep Y.P) (intOp a b op) Q E s):wpAny Y.M Y.A (inplaceOp op (.int a t) (.int b u)) Q E s:=by
 cases op with
 | Add=>exact PySem.P.iadd_int (k.ok hs (rInt _ _) _)
 | Sub=>exact PySem.P.isub_int (k.ok hs (rInt _ _) _)
 | _=>cases hop
theorem KSt.getV {f:D→Out Reply} {x:Str} {i:Nat} {G:Prop} (ok:Ok R Y env Z oa sl s.heap) (hx:R.loc.lookup x=some i) (k:KSt R Y env io oa Q E Z s (DK.Internal.getV sl i>>=f)) (g:∀d v,VarAt s.heap env x (some v)→Rep Y.P Z d v→KSt R Y env io oa Q E Z s (f d)→G):G:=by
 have hv:=ok.var x i hx
 unfold DK.Internal.getV at k
 cases hs:sl[i]? with
 | none=>rw [hs] at k;exact False.elim k
 | some t=>
  rw [hs] at k hv
  cases t with
  | val d=>obtain ⟨v,hv,rv⟩:=hv;exact g d v hv rv k
  | _=>exact False.elim k
@[elab_as_elim] theorem KSt.onInt {x:D} {v:Value} {f:Int→Out Reply} {G:Value→Prop} (k:KSt R Y env io oa Q E Z s (intD x>>=f)) (r:Rep Y.P Z x v) (g:∀i t,KSt R Y env io oa Q E Z s (f i)→G (.int i t)):G v:=by
 cases x with
 | int i=>obtain ⟨t,rfl⟩:=r;exact g i t k
 | _=>exact False.elim k
theorem SS.aug {x:Str} {i:Nat} {op:Operator} {e:Expr} {c:C} {p pos:Pos} (hx:R.put x=some i) (hop:augOk op=true) (h:SE R e c):SS R (.AugAssign (.Name x p) op e pos) (.aug i op c):=fun so k=>
 KSt.getV so.ok (Zpd hx) k fun d v hv rv k=>wpAny_AugAssign_Name (Zpi so.ok.st.kind hv (h so.ok (KSt.post.bind k fun y u Z₁ s₁ g ru k=>
  KSt.onInt k (rv.up g.le) fun a t k=>KSt.onInt k ru fun b t' k=>Ztl g.sub hop (KSt.post.bind k fun z w Z₂ s₂ g₂ rz k=>((so.nx g).nx g₂).put hx rz fun s₃ a=>k _ _ _ _ a rfl))))
theorem SS.raise {m:Str} {np mp cpos pos:Pos} {kn:Nat} (hx:R.glob "ValueError" = true):SS R (.Raise (some (.Call (.Name "ValueError" np) [.Constant (.str m) kn mp] [] cpos)) none pos) .raise:=fun {Y env io Z oa sl s Q E} so k=>by
 refine Raise_madeB PySem.F.excCall_ValueError PySem.F.excRaise_ValueError so.ok.c.hand (ZoS so.ok hx so.ok.c.glo.ve ⟨rfl,?_⟩)
 refine Calls.spliced_cons (Calls.Constant_str (k:=kn) (pos:=mp) (Calls.spliced_nil ⟨(show 1≤sizeLine by decide),fun h' e M=> ?_⟩))
 exact k e _ ⟨fun b o q _ nf=>⟨o.slots,M.keeps b o q⟩,Exc.of_new so.ok.c.below.stays so.ok.c.below.frames M.newExc,rfl⟩
end
end DK.Internal
end
section
set_option backward.match.sparseCases false
set_option genSizeOf false
set_option genCtorIdx false
namespace DK.Internal
open PySem PyProof.Rows
section
variable {R:Rs} {Y:Cx} {env:Env} {io oa oa':Nat→Option Addr} {Z Z':Zm} {sl sl':List Slot} {s s':Shared} {Q:Flow→Shared→Prop} {E:Value→Shared→Prop}
theorem KSt.ownD {f:List D→Out Reply} {x:Str} {i:Nat} {G:Prop} (ok:Ok R Y env Z oa sl s.heap) (hx:R.loc.lookup x=some i) (k:KSt R Y env io oa Q E Z s (DK.Internal.ownD sl i>>=f))
  (g:∀xs a vs n,sl[i]?=some (.own xs)→oa i=some a→VarAt s.heap env x (some (.ref a))→s.heap.get? a=some (lstO vs n)→vs.length≤SZ→Reps Y.P Z xs vs→KSt R Y env io oa Q E Z s (f xs)→G):G:=by
 have hv:=ok.var x i hx
 unfold DK.Internal.ownD at k
 cases hs:sl[i]? with
 | none=>rw [hs] at k;exact False.elim k
 | some t=>
  rw [hs] at k hv
  cases t with
  | own xs=>obtain ⟨a,vs,n,a0,a1,a2,a3,a4⟩:=hv;exact g xs a vs n hs a0 a1 a2 a3 a4 k
  | _=>exact False.elim k
theorem SOk.chg {x:Str} {i:Nat} {a:Addr} {vs:List Value} {n:Nat} {xs:List D} {h':Heap} {tk:Nat} (so:SOk R Y env io Z oa sl s.heap) (hx:R.loc.lookup x=some i) (ha:oa i=some a) (hv:VarAt s.heap env x (some (.ref a))) (sb:Heap.SameBut a s.heap h') (e:h'.get? a=some (lstO vs n)) (z:vs.length≤SZ) (q:Reps Y.P Z xs vs) :
  Aft R Y env io oa Z s oa Z (setV sl i (.own xs)) { s with heap:=h',toks:=tk }:=by
 have hn:∃o,h'.get? a=some o∧∀vs,o.data≠.fields vs:=⟨_,e,fun vs q=>nomatch q⟩
 refine ⟨⟨so.ok.chg ha (so.ob i a ha) sb hn fun y hy kv=> ?_,so.hB,so.ob,so.ioR,fun j b hj=>⟨(so.io j b hj).1,?_⟩⟩,.of_but so.ok.c.sub (so.ok.own i a ha).1 (.inr ⟨i,ha⟩) sb hn,fun i a h=> .inl ⟨i,h⟩⟩
 ·cases so.ok.st.wf.inj x y i hx hy
  exact ⟨a,vs,n,ha,kv hv,e,z,q⟩
 ·rw [Zpn]
  by_cases z:i=j∧i < sl.length
  ·rw [if_pos z];exact ⟨xs,rfl⟩
  ·rw [if_neg z];exact (so.io j b hj).2
theorem Zqc {i:Nat} {a:Addr} {o:Obj} (ok:Ok R Y env Z oa sl s.heap) (g:Nx Y Z s Z' s') (ha:oa i=some a) (e:s.heap.get? a=some o):s'.heap.get? a=some o:=g.ks.keep a o e id (ok.own i a ha).2.2.1
theorem Zqd {x:Str} {v:Option Value} (g:Nx Y Z s Z' s') (q:VarAt s.heap env x v):VarAt s'.heap env x v:=q.keep fun b o _ e=>g.ks.stay e id
theorem KSt.need {c:Prop} [Decidable c] {o:Out Reply} {G:Prop} (k:KSt R Y env io oa Q E Z s (need c o)) (g:c→KSt R Y env io oa Q E Z s o→G):G:=by
 by_cases h:c
 ·rw [show DK.Internal.need c o=o from if_pos h] at k;exact g h k
 ·rw [show DK.Internal.need c o = .stuck from if_neg h] at k;exact False.elim k
theorem Zqe {h:Heap} {a:Addr} {vs:List Value} {n:Nat} (e:h.get? a=some (lstO vs n)) (f:Array Value→Array Value) {ws:List Value} (hf:f vs.toArray=ws.toArray):∃m,(h.update a (Obj.mapSeq f)).get? a=some (lstO ws m):=by
 have:IsL h a vs.toArray n:=e
 have:=this.update f
 rw [hf] at this
 exact ⟨_,this⟩
theorem SS.app {x:Str} {i:Nat} {e:Expr} {c:C} {xp apos pos sp:Pos} (hx:R.loc.lookup x=some i) (hd:(x == ("__debug__" : Str))=false) (hl:(apos.endLine == pos.line)=true) (hn:noStar e=true) (h:SE R e c) :
  SS R (.Expr (.Call (.Attribute (.Name x xp) "append" apos) [e] [] pos) sp) (.app i c):=by
 intro Y env io Z oa sl s Q E so k
 refine KSt.ownD so.ok hx k fun xs a vs n hs ha hv hL hz rs k=> ?_
 refine wpAny_Expr_any (wpAny_Call_method1_late rfl hl (Zrd hn) (wpAny_Name (Zpi so.ok.st.kind hv ?_) hd)) (ZoT so) rfl
 refine ⟨"list", "list.append",PySem.F.plainAttrs_list,PySem.F.slot_list_append,PySem.F.type_list_append,⟨_,hL,rfl⟩,fun a' q=>by cases q;exact ⟨_,hL,rfl⟩,?_⟩
 refine PySem.P.append_list (h so.ok (KSt.post.bind k fun d v Z₁ s₁ g rv k=>k.need fun hlt k=> ?_))
 have hL':=Zqc so.ok g ha hL
 refine ⟨vs.toArray,n,by rw [List.size_toArray];exact Nat.le_trans hz ZoW,hL',?_⟩
 obtain ⟨m,e'⟩:=Zqe hL' (fun xs=>xs.push v) (List.push_toArray ..)
 exact k _ _ _ _ ((so.nx g).chg (tk:=s₁.toks) hx ha (Zqd g hv) (Heap.SameBut.update ..) e' (by rw [List.length_append,rs.length];exact hlt) ((rs.up g.le).append (.cons rv rfl))) rfl
theorem SS.ext {x:Str} {i:Nat} {e:Expr} {c:C} {xp apos pos sp:Pos} (hx:R.loc.lookup x=some i) (hd:(x == ("__debug__" : Str))=false) (hl:(apos.endLine == pos.line)=true) (hn:noStar e=true) (h:SE R e c) :
  SS R (.Expr (.Call (.Attribute (.Name x xp) "extend" apos) [e] [] pos) sp) (.ext i c):=by
 intro Y env io Z oa sl s Q E so k
 refine KSt.ownD so.ok hx k fun xs a vs n hs ha hv hL hz rs k=> ?_
 refine wpAny_Expr_any (wpAny_Call_method1_late rfl hl (Zrd hn) (wpAny_Name (Zpi so.ok.st.kind hv ?_) hd)) (ZoT so) rfl
 refine ⟨"list", "list.extend",PySem.F.plainAttrs_list,PySem.F.slot_list_extend,PySem.F.type_list_extend,⟨_,hL,rfl⟩,fun a' q=>by cases q;exact ⟨_,hL,rfl⟩,?_⟩
 refine PySem.P.extend_list (h so.ok (KSt.post.bind k fun d v Z₁ s₁ g rv k=> ?_))
 have hL':=Zqc so.ok g ha hL
 cases d with
 | list ys=>
  obtain ⟨b,ws,n2,rfl,e2,z2,q2⟩:=rv
  refine KSt.need (o:=nextK (setV sl i (.own (xs++ys)))) k fun hlt k=> ?_
  have hlen:(vs++ws).length≤SZ:=by rw [List.length_append,rs.length,q2.length];exact hlt
  refine ⟨b,vs.toArray,ws.toArray,n,n2,by rw [List.size_toArray];exact Nat.le_trans hz ZoW,by rw [List.length_append] at hlen;exact Nat.le_succ_of_le (Nat.le_trans hlen ZoW),?_,rfl,hL',g.sub _ _ e2,?_⟩
  ·rw [show Builtin.List.listTooLong (vs.toArray.size+ws.toArray.size)=false by unfold Builtin.List.listTooLong;rw [List.length_append] at hlen;have:=ZoW;simp;exact Nat.le_trans (by assumption) (by assumption),Bool.and_false];exact Bool.false_ne_true
  ·obtain ⟨m,e'⟩:=Zqe hL' (fun xs=>xs++ws.toArray) (List.append_toArray ..)
   exact k _ _ _ _ ((so.nx g).chg (tk:=s₁.toks) hx ha (Zqd g hv) (Heap.SameBut.update ..) e' hlen ((rs.up g.le).append q2)) rfl
 | _=>exact False.elim k
theorem Zsc {α:Type} (vs:List α):0 < vs.length→vs.eraseIdx (vs.length - 1)=vs.dropLast:=by
 induction vs with
 | nil=>exact fun h=>absurd h (Nat.lt_irrefl _)
 | cons a vs ih=>
  intro _
  cases vs with
  | nil=>rfl
  | cons b vs=>exact congrArg (a :: ·) (ih (Nat.succ_pos _))
theorem SS.pop {x:Str} {i:Nat} {xp apos pos sp:Pos} (hx:R.loc.lookup x=some i) (hd:(x == ("__debug__" : Str))=false) (hl:(apos.endLine == pos.line)=true) :
  SS R (.Expr (.Call (.Attribute (.Name x xp) "pop" apos) [] [] pos) sp) (.pop i):=by
 intro Y env io Z oa sl s Q E so k
 refine KSt.ownD so.ok hx k fun xs a vs n hs ha hv hL hz rs k=>k.need fun hne k=> ?_
 have hlen:0 < vs.length:=by rw [rs.length];exact List.length_pos_iff.mpr hne
 refine wpAny_Expr_any (wpAny_Call_method0_late rfl hl (wpAny_Name (Zpi so.ok.st.kind hv ?_) hd)) (ZoT so) rfl
 refine ⟨"list", "list.pop",PySem.F.plainAttrs_list,PySem.F.slot_list_pop,PySem.F.type_list_pop,⟨_,hL,rfl⟩,fun a' q=>by cases q;exact ⟨_,hL,rfl⟩,?_⟩
 refine PySem.P.pop_list hL (y:=vs[vs.length - 1]'(by omega)) (by simp) ?_ (by rw [List.size_toArray];exact Nat.le_trans hz ZoW)
 obtain ⟨m,e'⟩:=Zqe hL (fun xs=>xs.eraseIdxIfInBounds (vs.toArray.size - 1)) (ws:=vs.dropLast) (by
  apply Array.ext'
  rw [Array.toList_eraseIdxIfInBounds]
  exact Zsc vs hlen)
 exact k _ _ _ _ (so.chg (tk:=s.toks) hx ha hv (Heap.SameBut.update ..) e' (by rw [List.length_dropLast];lia) (by rw [List.dropLast_eq_take,List.dropLast_eq_take,rs.length];exact rs.take _)) rfl
theorem ZqQ {a:Addr} {items:Array Value} {n:Nat} {kk:Int} {t:Tok} {v:Value} {Q:Unit→Shared→Prop} (hL:IsL s.heap a items n) (h0:0≤kk) (hfit:kk < 2 ^ 63) (hn:kk < items.size)
  (hQ:Q () { s with heap:=s.heap.update a (Obj.mapSeq (·.setIfInBounds kk.toNat v)) }):wpAny Y.M Y.A (setItem (.ref a) (.int kk t) v) Q E s:=by
 have hl:=hL.isList
 unfold setItem
 refine wpAny_holding ?_
 refine wpAny_bind (wpAny_sequenceKey hl.typeIs (by decide) ?_)
 refine wpAny_bind (wpAny_callSpecial?_slot (name:=Str.ofString "__setitem__") hl.typeIs slot_list_setitem
  (wpAny_call_entry slot_list_setitem hl.typeIs entry_list_setitem ?_ (args_list_setitem _ _ _)))
 show wpAny _ _ (Builtin.List.listSubscript? (.int kk t)>>=_) _ _ s
 refine wpAny_bind (wpAny_listSubscript_int (fitsIndex_of h0 hfit) ?_)
 obtain ⟨j,rfl⟩:=Int.eq_ofNat_of_zero_le h0
 have hx':items[j]?=some items[j]:=Array.getElem?_eq_getElem (Int.ofNat_lt.mp hn)
 show wpAny _ _ ((seqItemAt a j>>=fun r=>pure (r.map (j,·)))>>=_) _ _ s
 refine wpAny_bind (wpAny_bind (wpAny_seqItemAt hL rfl (wpAny_pure ?_)))
 rw [hx']
 show wpAny _ _ (setSeqItemAt a j v>>=_) _ _ s
 refine wpAny_bind (wpAny_setSeqItemAt hL rfl ?_)
 first
  | exact wpAny_bind (wpAny_pure (wpAny_pure ⟨.none,rfl,wpAny_pure hQ⟩))
  | exact wpAny_pure ⟨.none,rfl,wpAny_pure hQ⟩
theorem SS.sub {x:Str} {i:Nat} {j e:Expr} {cj c:C} {xp p2 pos:Pos} (hx:R.loc.lookup x=some i) (hd:(x == ("__debug__" : Str))=false) (hj:SE R j cj) (h:SE R e c):SS R (.Assign [.Subscript (.Name x xp) j p2] e pos) (.sub i cj c):=by
 intro Y env io Z oa sl s Q E so k
 refine KSt.ownD so.ok hx k fun xs a vs n hs ha hv hL hz rs k=> ?_
 refine wpAny_Assign_Subscript (h so.ok (KSt.post.bind k fun d v Z₁ s₁ g rv k=> ?_)) (by cases e<;>rfl)
 refine wpAny_Name (Zpi so.ok.st.kind (Zqd g hv) (hj (so.ok.nx g) (KSt.post.bind k fun d2 u Z₂ s₂ g₂ ru k=>KSt.onInt k ru fun m t k=>k.need fun hm k=> ?_))) hd
 have g':=g.nx g₂
 have hL2:=Zqc so.ok g' ha hL
 have hsz:SZ=1000000:=rfl
 have hvl:=rs.length
 refine ZqQ hL2 hm.1 (by lia) (by rw [List.size_toArray];lia) ?_
 obtain ⟨m',e'⟩:=Zqe hL2 (·.setIfInBounds m.toNat v) (ws:=vs.set m.toNat v) (List.setIfInBounds_toArray ..)
 exact k _ _ _ _ (((so.nx g).nx g₂).chg (tk:=s₂.toks) hx ha (Zqd g' hv) (Heap.SameBut.update ..) e' (by rw [List.length_set];exact hz) ((rs.up g'.le).set _ (rv.up g₂.le))) rfl
theorem SSs.frz {sts:List Stmt} {cs:Ss} {i:Nat} {x:Str} (hx:R.put x=some i) (hs:SSs R sts cs):SSs R sts (.cons (.frz i) cs):=by
 intro Y env io Z oa sl s Q E so k
 replace k:KSt R Y env io oa Q E Z s (Y.sts cs (freezeS sl i sl[i]?)):=k
 have hi:=so.ioR x i hx
 have hv:=so.ok.var x i (Zpd hx)
 cases ht:sl[i]? with
 | none=>rw [ht] at k;exact hs so k
 | some t=>
  rw [ht] at k hv
  cases t with
  | un=>exact hs so k
  | val d=>exact hs so k
  | own xs=>
   obtain ⟨a,vs,n,a0,a1,a2,a3,a4⟩:=hv
   have o:=so.ok.own i a a0
   have zle:Zle Z (Zput Z a (lstO vs n)):=Zps o.1
   have still:∀b,b≠a→Z b=none→Zput Z a (lstO vs n) b=none:=fun b nb z=>by rw [Zput,if_neg nb];exact z
   let oa':Nat→Option Addr:=fun j=>if j=i then none else oa j
   have hoa:∀j b,oa' j=some b→j≠i∧oa j=some b:=fun j b q=>by
    by_cases z:j=i
    ·rw [show oa' j=none from if_pos z] at q;cases q
    ·exact ⟨z,by rw [show oa' j=oa j from if_neg z] at q;exact q⟩
   have nea:∀j b,oa' j=some b→b≠a:=fun j b q z=>(hoa j b q).1 (so.ok.oinj j i a (z ▸ (hoa j b q).2) a0)
   have ok':Ok R Y env (Zput Z a (lstO vs n)) oa' (setV sl i (.val (.list xs))) s.heap:=
    {
     so.ok with
     c:=so.ok.c.ks (W:=No) (.of_keeps fun _ _ e=>e) (fun _ q=>q.elim) zle (so.ok.c.sub.put a2) fun b hb=>still b (fun z=>o.2.2.1 (z ▸ hb)) (so.ok.c.frz b hb)
     len:=by unfold setV;rw [List.length_set];exact so.ok.len
     loz:=fun b q=>⟨still b (fun z=>o.2.2.2.1 (z ▸ q)) (so.ok.loz b q).1,(so.ok.loz b q).2⟩
     own:=fun j b q=>have p:=so.ok.own j b (hoa j b q).2;⟨still b (nea j b q) p.1,p.2⟩
     oinj:=fun j k b h1 h2=>so.ok.oinj j k b (hoa j b h1).2 (hoa k b h2).2
     var:=fun y j e=>by
      rw [Zpn]
      by_cases z:i=j∧i < sl.length
      ·rw [if_pos z]
       obtain ⟨rfl,_⟩:=z
       cases so.ok.st.wf.inj x y i (Zpd hx) e
       exact ⟨.ref a,a1,a,vs,n,rfl,ZoX,a3,a4.up zle⟩
      ·rw [if_neg z]
       have z:j≠i:=fun q=>z ⟨q.symm,by rw [so.ok.len,←q];exact so.ok.st.wf.lt y j e⟩
       have q:=so.ok.var y j e
       cases ht:sl[j]? with
       | none=>trivial
       | some t=>
        rw [ht] at q
        cases t with
        | un=>trivial
        | val d=>obtain ⟨v,b1,b2⟩:=q;exact ⟨v,b1,b2.up zle⟩
        | own ys=>obtain ⟨b,us,m,b0,b1,b2,b3,b4⟩:=q;exact ⟨b,us,m,(if_neg z).trans b0,b1,b2,b3,b4.up zle⟩ }
   refine hs (oa:=oa') ⟨ok',so.hB,fun j b q=>so.ob j b (hoa j b q).2,so.ioR,fun j b hj=> ?_⟩ (k.aft (oa':=oa') (sl':=setV sl i (.val (.list xs))) ⟨⟨ok',so.hB,fun j b q=>so.ob j b (hoa j b q).2,so.ioR,fun j b hj=> ?_⟩,⟨.of_keeps fun _ _ e=>e,zle,fun b q=> ?_,so.ok.c.sub.put a2,rfl⟩,fun j b q=> .inl ⟨j,(hoa j b q).2⟩⟩)
   ·have z:j≠i:=fun q=>by rw [q,hi] at hj;cases hj
    have q:=ZrM (t:= .val (.list xs)) hi so.io j b hj
    exact ⟨(if_neg z).trans q.1,q.2⟩
   ·have z:j≠i:=fun q=>by rw [q,hi] at hj;cases hj
    have q:=ZrM (t:= .val (.list xs)) hi so.io j b hj
    exact ⟨(if_neg z).trans q.1,q.2⟩
   ·by_cases z:b=a
    ·exact .inr (.inl (.inr ⟨i,z ▸ a0⟩))
    ·exact .inl (by rwa [Zput,if_neg z] at q)
end
end DK.Internal
end
section
set_option backward.match.sparseCases false
set_option genSizeOf false
set_option genCtorIdx false
namespace DK.Internal
open PySem PyProof.Rows
section
variable {R:Rs} {Y:Cx} {env:Env} {io oa oa':Nat→Option Addr} {Z Z':Zm} {sl sl':List Slot} {s s':Shared} {Q:Flow→Shared→Prop} {E:Value→Shared→Prop}
theorem KSt.noted {o:Out Reply} (k:KSt R Y env io oa Q E Z s o) (st:Stat R Y env) (hfr:Y.A.frames=some Y.l):KSt R Y env io oa Q (notedBy Y.M Y.A env fun e s'=>cameBackBy Y.M Y.A env E e s') Z s o:=by
 cases o with
 | exc=>exact fun x s₁ e=>ZpF hfr st.fr e.exc fun h2 H2 u2=>ZpB (s:={ s₁ with heap:=h2 }) st.fr H2 fun h3 H3 u3=>k x _ ((e.up u2 H2.exc).up u3 H3.exc)
 | _=>exact k
theorem SS.whl {t:Expr} {body:List Stmt} {ct:C} {cb:Ss} {pos:Pos} (ht:ST R t ct) (hb:SSs R body cb):SS R (.While t body [] pos) (.whl ct cb):=by
 intro Y env io Z oa sl s Q E so k
 replace k:KSt R Y env io oa Q E Z s (whL (Y.tst ct) (Y.sts cb) sl):=k
 obtain ⟨n,hn⟩:=whL_get (Y.tst ct) (Y.sts cb) sl
 rw [hn] at k
 refine wpAny_While (codeAny_whileLoop (fun m s=>∃sl oa Z,SOk R Y env io Z oa sl s.heap∧KSt R Y env io oa _ (notedBy Y.M Y.A env fun e s'=>cameBackBy Y.M Y.A env E e s') Z s (whN (Y.tst ct) (Y.sts cb) m sl)) ?_ n ⟨sl,oa,Z,so,k.noted so.ok.st so.ok.c.below.stack⟩)
 rintro m s ⟨sl,oa,Z,so,k⟩
 cases m with
 | zero=>exact False.elim k
 | succ m=>
  refine ht so.ok (KSt.post.bind (f:=fun c=>ifO c (Y.sts cb sl>>=loopS (whN (Y.tst ct) (Y.sts cb) m)) (nextK sl)) k fun b t Z₁ s₁ g rb k=> ?_)
  cases rb
  cases b with
  | false=>exact wpAny_execs_nil (k _ _ _ _ (so.nx g).self rfl)
  | true=>
   refine hb (so.nx g) (KSt.seq k fun fl sl' f oa' Z₂ s₂ a fr k=> ?_)
   cases fl with
   | next=>cases fr;exact ⟨m,Nat.lt_succ_self _,sl',oa',Z₂,a.so,k⟩
   | cont=>cases fr;exact ⟨m,Nat.lt_succ_self _,sl',oa',Z₂,a.so,k⟩
   | brk=>cases fr;exact k _ _ _ _ a.so.self rfl
   | ret d=>obtain ⟨v,rfl,rv⟩:=fr;exact k _ _ _ _ a.so.self ⟨v,rfl,rv⟩
structure ForI (R:Rs) (Y:Cx) (env:Env) (io:Nat→Option Addr) (tup:Bool) (I:Addr) (wr:List Addr) (ds:List D) (St:Nat→Heap→Prop) (tg:Tgt) (cb:Ss) (Rr:Result→Shared→Prop) (Z₀:Zm) (s₀:Shared) (oa₀:Nat→Option Addr) (i:Nat) (sl:List Slot) (oa:Nat→Option Addr) (Z:Zm) (s:Shared):Prop where
 hi:i≤ds.length
 so:SOk R Y env io Z oa sl s.heap
 it:IOk Y env oa tup I wr ds St i Z s.heap
 go:Go (Wr R env oa₀) Y Z₀ s₀ Z s
 n:∀j a,oa j=some a→(∃k,oa₀ k=some a)∨s₀.heap.get? a=none
 k:KSt R Y env io oa₀ (fun f s'=>Rr (.ok f) s') (LE Y env Rr) Z₀ s₀ (forE (fun sl d k=>bindT sl tg d>>=fun sl'=>Y.sts cb sl'>>=loopS k) (ds.drop i) sl)
theorem ZsV {tup:Bool} {I:Addr} {wr:List Addr} {ds:List D} {St:Nat→Heap→Prop} {t:Expr} {tg:Tgt} {body:List Stmt} {cb:Ss} {Rr:Result→Shared→Prop} {Z₀:Zm} {s₀:Shared} {oa₀:Nat→Option Addr}
  (ht:Tg R t tg) (hb:SSs R body cb) (htup:tup=true→isTup t=true) (hw0:∀b∈wr,s₀.heap.get? b=none) (fi:ForI R Y env io tup I wr ds St tg cb Rr Z₀ s₀ oa₀ 0 sl oa Z s):codeAny Y.M Y.A (.forLoop t (.ref I) body [] env) Rr s:=by
 refine codeAny_forLoop_any (fun m s=>∃i sl oa Z,m=ds.length+1 - i∧ForI R Y env io tup I wr ds St tg cb Rr Z₀ s₀ oa₀ i sl oa Z s) ?_ _ ⟨0,sl,oa,Z,rfl,fi⟩
 clear fi
 rintro m s ⟨i,sl,oa,Z,rfl,fi⟩
 obtain ⟨Zw,wk,le⟩:=fi.it.wk
 have so:=fi.so
 have nz2:∀b∈wr,Z b=none∧b∉fas Y.l:=fun b hb=>⟨(fi.it.nz b hb).1,(fi.it.nz b hb).2.1⟩
 have k:=fi.k
 cases hd:ds.drop i with
 | nil=>
  cases drop_nil hd fi.hi
  rw [hd] at k
  exact wk.done fi.it.st so.ok.c.sub nz2 fun s₁ w=>wpAny_execs_nil (k _ _ _ _ ⟨{ so with ok:=so.ok.wt w fun b hb=>(fi.it.nz b hb).2 },fi.go.trans w.go fun b q=> .inr (hw0 b q),fi.n⟩ rfl)
 | cons d rest=>
  obtain ⟨hd1,hr,hlt⟩:=Zqr hd
  rw [hd] at k
  refine wpAny_mono (wk.item (G:=fun v s₂=>wpAny Y.M Y.A (assign t env v) (fun _ s₂=>wpAny Y.M Y.A (execs body env) (fun f s₃=>match f with
      | .next | .cont=>∃m,m < ds.length+1 - i∧∃i sl oa Z,m=ds.length+1 - i∧ForI R Y env io tup I wr ds St tg cb Rr Z₀ s₀ oa₀ i sl oa Z s₃
      | .brk=>Rr (.ok .next) s₃
      | .ret v=>Rr (.ok (.ret v)) s₃) (LE Y env Rr) s₂) (LE Y env Rr) s₂) t htup hd1 fi.it.st le so.ok.c.sub nz2 fun v Z₁ s₁ st1 w rv=> ?_) (fun x s₁ hx=> ?_) fun _ _ q=>q
  rotate_left
  ·obtain ⟨v,rfl,hx⟩:=hx
   exact hx
  have ok1:=so.ok.wt w fun b hb=>(fi.it.nz b hb).2
  have it1:IOk Y env oa tup I wr ds St (i+1) Z₁ s₁.heap:=⟨⟨Zw,wk,fun b o e=>w.go.le b o (le b o e)⟩,st1,fun b hb=>⟨w.nz b hb,(fi.it.nz b hb).2⟩⟩
  have go1:=fi.go.trans w.go fun b q=> .inr (hw0 b q)
  replace k:KSt R Y env io oa₀ (fun f s'=>Rr (.ok f) s') (LE Y env Rr) Z₀ s₀ (bindT sl tg d>>=fun sl'=>Y.sts cb sl'>>=loopS (forE (fun sl d k=>bindT sl tg d>>=fun sl'=>Y.sts cb sl'>>=loopS k) rest)):=k
  cases hbd:bindT sl tg d with
  | exc=>exact absurd hbd (Zqo _ _ _)
  | stuck=>rw [hbd] at k;exact False.elim k
  | ok sl1=>
   rw [hbd] at k
   refine ZpS so.hB ht ok1 rv hbd fun s₂ ok2 g2=> ?_
   have so2:SOk R Y env io Z₁ oa sl1 s₂.heap:=⟨ok2,so.hB,so.ob,so.ioR,fun j a hj=>by
    rw [(ZpK hbd).2 j fun m=>by obtain ⟨x,hx⟩:=Zte ht j m;rw [so.ioR x j hx] at hj;cases hj]
    exact so.io j a hj⟩
   have it2:=it1.go ok1.c.sub g2 fun b hb q=>(fi.it.nz b hb).2.2.1 (ZoY q)
   have go2:=go1.trans g2 fun b q=> .inl (.inl q)
   refine hb so2 ?_
   replace k:KSt R Y env io oa₀ (fun f s'=>Rr (.ok f) s') (LE Y env Rr) Z₀ s₀ (Y.sts cb sl1>>=loopS (forE (fun sl d k=>bindT sl tg d>>=fun sl'=>Y.sts cb sl'>>=loopS k) rest)):=k
   revert k
   generalize Y.sts cb sl1=oo
   intro k
   cases oo with
   | stuck=>exact False.elim k
   | exc=>exact fun x s₃ e=>k x s₃ (go2.ex e (wr_le fi.n))
   | ok y=>
    obtain ⟨fl,sl3⟩:=y
    intro f oa3 Z₃ s₃ a fr
    have go3:=go2.trans a.go (wr_le fi.n)
    have n3:∀j b,oa3 j=some b→(∃k,oa₀ k=some b)∨s₀.heap.get? b=none:=fun j b q=>(a.n j b q).elim (fun ⟨j',q⟩=>fi.n j' b q) fun z=>(go2.ks.gone z).elim (fun w=>w.elim (fun w=>by have:=(ok2.loz b (ZoY w)).2;rw [z] at this;cases this) .inl) .inr
    have alive:=it2.alive
    have it3:IOk Y env oa3 tup I wr ds St (i+1) Z₃ s₃.heap:=by
     have q:=it2.go ok2.c.sub a.go fun b hb q=>q.elim (fun q=>(fi.it.nz b hb).2.2.1 (ZoY q)) fun ⟨j,q⟩=>(fi.it.nz b hb).2.2.2.1 j q
     exact { q with nz:=fun b hb=>have p:=q.nz b hb;⟨p.1,p.2.1,p.2.2.1,fun j e=>(a.n j b e).elim (fun ⟨j',q⟩=>p.2.2.2.1 j' q) fun z=>(by have:=alive b hb;rw [z] at this;cases this),p.2.2.2.2⟩ }
    have again:KSt R Y env io oa₀ (fun f s'=>Rr (.ok f) s') (LE Y env Rr) Z₀ s₀ (forE (fun sl d k=>bindT sl tg d>>=fun sl'=>Y.sts cb sl'>>=loopS k) rest sl3) →
      ∃m,m < ds.length+1 - i∧∃i sl oa Z,m=ds.length+1 - i∧ForI R Y env io tup I wr ds St tg cb Rr Z₀ s₀ oa₀ i sl oa Z s₃:=fun k=>
     ⟨ds.length+1 - (i+1),by lia,i+1,sl3,oa3,Z₃,rfl,hlt,a.so,it3,go3,n3,by rw [hr];exact k⟩
    cases fl with
    | next=>cases fr;exact again k
    | cont=>cases fr;exact again k
    | brk=>cases fr;exact k _ _ _ _ ⟨a.so,go3,n3⟩ rfl
    | ret d=>obtain ⟨v,rfl,rv⟩:=fr;exact k _ _ _ _ ⟨a.so,go3,n3⟩ ⟨v,rfl,rv⟩
theorem SS.forr {t e:Expr} {tg:Tgt} {it:It} {body:List Stmt} {cb:Ss} {pos:Pos} (ht:Tg R t tg) (hi:SI R e it) (htup:it.isEnum=true→isTup t=true) (hset:notSet e=true) (hb:SSs R body cb):SS R (.For t e body [] pos) (.forr tg it cb):=by
 intro Y env io Z oa sl s Q E so k
 replace k:KSt R Y env io oa Q E Z s (Y.items it sl>>=fun xs=>forE (fun sl d k=>bindT sl tg d>>=fun sl'=>Y.sts cb sl'>>=loopS k) xs sl):=k
 refine wpAny_For (hi so.ok (KSt.post.bindI k fun ds I wr St Z₁ s₁ e1 g hit=> ?_)) (fun x=>Zpz hset x)
 rw [e1] at k
 exact ZsV ht hb htup (fun b hb=>(hit.new b hb).1) ⟨Nat.zero_le _,so.nx g,hit.iok so.ok,g.mono fun _ q=>q.elim,fun j a h=> .inl ⟨j,h⟩,k.noted so.ok.st so.ok.c.below.stack⟩
structure New (Y:Cx) (Z:Zm) (s:Shared) (xs:List D) (a:Addr) (Z':Zm) (s':Shared):Prop where
 nx:Nx Y Z s Z' s'
 fr:s.heap.get? a=none
 nz:Z' a=none
 at_:∃vs n,s'.heap.get? a=some (lstO vs n)∧vs.length≤SZ∧Reps Y.P Z' xs vs
noncomputable def KN (Y:Cx) (Q:Value→Shared→Prop) (E:Value→Shared→Prop) (Z:Zm) (s:Shared) (o:Out D):Prop:=match o with
 | .ok d=>∀xs a Z' s',d = .list xs→New Y Z s xs a Z' s'→Q (.ref a) s'
 | .exc=>∀x s',Ex No Y s x s'→E (.ref x) s'
 | .stuck=>False
theorem KN.post {Q:Value→Shared→Prop}:Post Y E (KN Y Q E) where
 step:=fun {Z s Z' s' o} k g=>by
  cases o with
  | ok d=>exact fun xs a Z₂ s₂ e n=>k xs a Z₂ s₂ e { n with nx:=g.nx n.nx,fr:=(g.ks.gone n.fr).resolve_left id }
  | exc=>exact fun x s₂ e=>k x s₂ (g.ex e fun _ q=>q.elim)
  | stuck=>exact k
 exc:=fun k=>k
 stuck:=fun k=>k
def SF (R:Rs) (e:Expr) (c:C):Prop:=∀{Y:Cx} {env:Env} {Z:Zm} {oa:Nat→Option Addr} {sl:List Slot} {s:Shared} {Q:Value→Shared→Prop} {E:Value→Shared→Prop},
 Ok R Y env Z oa sl s.heap→KN Y Q E Z s (Y.ex c sl)→wpAny Y.M Y.A (eval e env) Q E s
theorem KN.push {Q:Value→Shared→Prop} {vs:List Value} {xs:List D} {tk:Nat} (k:KN Y Q E Z s (.ok (.list xs))) (hs:Sub Z s.heap) (z:vs.length≤SZ) (q:Reps Y.P Z xs vs):Q (.ref s.heap.objs.size) { s with heap:=s.heap.push { cls:= .type "list",data:= .seq vs.toArray },toks:=tk }:=
 have fr:s.heap.get? s.heap.objs.size=none:=Heap.get?_none_of_le (Nat.le_refl _)
 k xs _ Z _ rfl ⟨Zpo hs _ tk,fr,hs.fresh fr,vs,0,Heap.get?_push_size _ rfl,z,q⟩
theorem SF.lst {es:List Expr} {cs:Cs} {pos:Pos} (h:SEs R es cs) (hz:es.length≤SZ) (hl:∀(Y:Cx) sl ds,Y.exs cs sl = .ok ds→ds.length=es.length):SF R (.List es pos) (.lst cs):=fun {Y env Z oa sl s Q E} c k=>
 List_ (h c (KN.post.bindE k fun ds vs Z₁ s₁ e g rv k=>have z:vs.length≤SZ:=by rw [rv.length,hl Y sl ds e];exact hz
  wpAny_newList (KN.push k g.sub z rv) (Nat.le_trans z ZoW)))
theorem SF.mul {a b:Expr} {ca cb:C} {pos:Pos} (ha:SE R a ca) (hb:SE R b cb) (hl:∀(Y:Cx) sl d,Y.ex ca sl = .ok d→∃xs,d = .list xs):SF R (.BinOp a .Mult b pos) (.bin .Mult ca cb):=fun {Y env Z oa sl s Q E} c k=>
 wpAny_BinOp (ha c (KN.post.bindE (f:=fun x=>Y.ex cb sl>>=fun y=>binop .Mult x y) k fun x v Z₁ s₁ e1 g rv k=>hb (c.nx g) (KN.post.bind k fun y u Z₂ s₂ g₂ ru k=>by
  obtain ⟨xs,rfl⟩:=hl Y sl x e1
  obtain ⟨a',vs,n',rfl,e,z,q⟩:=rv.up g₂.le
  cases y with
  | int n=>
   obtain ⟨t,rfl⟩:=ru
   replace k:KN Y Q E Z₂ s₂ (if 0≤n∧xs.length*n.toNat≤SZ∧n≤SZ then .ok (.list (List.replicate n.toNat xs).flatten) else .stuck):=k
   by_cases hc:0≤n∧xs.length*n.toNat≤SZ∧n≤SZ
   ·rw [if_pos hc] at k
    rw [←q.length] at hc
    exact ZrG (g₂.sub _ _ e) hc.1 hc.2.2 hc.2.1 (KN.push (tk:=s₂.toks) k g₂.sub (by rw [Zsn];exact hc.2.1) (q.replicate _))
   ·rw [if_neg hc] at k;exact False.elim k
  | _=>exact False.elim k)))
theorem SS.own {x:Str} {i:Nat} {e:Expr} {c:C} {p pos:Pos} (hx:R.put x=some i) (hn:noComp e=true) (h:SF R e c):SS R (.Assign [.Name x p] e pos) (.own i c):=by
 intro Y env io Z oa sl s Q E so k
 replace k:KSt R Y env io oa Q E Z s (Y.ex c sl>>=fun x=>listD x>>=fun xs=>nextK (setV sl i (.own xs))):=k
 refine wpAny_Assign_Name (h so.ok ?_) (Zpq hn)
 cases ho:Y.ex c sl with
 | stuck=>rw [ho] at k;exact k
 | exc=>rw [ho] at k;exact KSt.post.exc k
 | ok d=>
  rw [ho] at k
  intro xs a Z₁ s₁ hd nw
  subst hd
  replace k:KSt R Y env io oa Q E Z s (.ok (.next,setV sl i (.own xs))):=k
  have ok1:=so.ok.nx nw.nx
  obtain ⟨vs,n,e1,z,rs⟩:=nw.at_
  have fre:=so.ok.fresh nw.fr
  obtain ⟨u,hu⟩:=ok1.has x i (Zpd hx)
  refine store ok1.st hu fun h2 tk2 st=> ?_
  have e2:h2.get? a=some (lstO vs n):=by
   obtain ⟨b,hm,sb,_⟩:=st.but
   exact SameBut.get sb (fun z=>fre.2.2.1 (by rw [z];exact ZpD hm)) e1
  let oa':Nat→Option Addr:=fun j=>if j=i then some a else oa j
  have hoi:oa' i=some a:=if_pos rfl
  have hoj:∀j,j≠i→oa' j=oa j:=fun j hj=>if_neg hj
  have hio:=so.ioR x i hx
  refine k _ oa' Z₁ _ ⟨⟨ok1.putS (oa':=oa') so.hB hx st ⟨a,vs,n,hoi,st.at_,e2,z,rs⟩ hoj fun b hb=> ?_,so.hB,fun j b hj=> ?_,so.ioR,fun j b hj=> ?_⟩,Nx.go nw.nx ((st.go ok1 hx).mono fun b q=> .inl (.inl q)),fun j b hj=> ?_⟩ rfl
  ·rw [hoi] at hb;cases hb
   exact ⟨nw.nz,trivial,fre.2.1,fre.2.2.1,by rw [e2];rfl,fun j _=>fre.2.2.2.1 j⟩
  ·by_cases z:j=i
   ·rw [z,hoi] at hj;cases hj;exact fre.2.2.2.2
   ·exact so.ob j b ((hoj j z).symm.trans hj)
  ·have q:=ZrM (t:= .own xs) hio so.io j b hj
   exact ⟨(hoj j fun z=>by rw [z,hio] at hj;cases hj).trans q.1,q.2⟩
  ·by_cases z:j=i
   ·rw [z,hoi] at hj;cases hj;exact .inr nw.fr
   ·exact .inl ⟨j,(hoj j z).symm.trans hj⟩
theorem SS.asgC {x:Str} {i:Nat} {elt:Expr} {gens:List Comprehension} {sc:Scope} {cp p pos:Pos} {n:Nat} {G:Gens} (hx:R.put x=some i) (h:SC R elt gens sc cp n G):SS R (.Assign [.Name x p] (.ListComp elt gens sc cp) pos) (.asg i (.comp n G)):=by
 intro Y env io Z oa sl s Q E so k
 rw [arm_exec_Assign]
 refine wpAny_bind (wpAny_standAt ?_)
 rw [show swapsWithSole [.Name x p] (.ListComp elt gens sc cp) pos.line env=pure (env.blockKind == .function && env.kindOf x == some .local && p.line == cp.line && !(sc.names.any fun (n,k)=>n == x && (k == .local || k == .cell))) from rfl]
 refine wpAny_bind (wpAny_pure ?_)
 cases (env.blockKind == .function && env.kindOf x == some .local && p.line == cp.line && !(sc.names.any fun (n,k)=>n == x && (k == .local || k == .cell))) with
 | false=>
  rw [if_neg Bool.false_ne_true]
  refine wpAny_bind (SE.comp h so.ok (KSt.post.bind k fun d v Z₁ s₁ g rv k=>wpAny_bind (wpAny_pure ?_)))
  show wpAny _ Y.A (assignAll v [assign (.Name x p) env]>>=fun _=>pure .next) Q E _
  exact wpAny_bind (wpAny_assign_Name ((so.nx g).put hx rv fun s₂ a=>wpAny_pure (k _ _ _ _ a rfl)))
 | true=>
  rw [if_pos rfl]
  refine wpAny_bind (wpAny_bind (h so.ok ?_))
  replace k:KSt R Y env io oa Q E Z s ((cmpr real Y.P.T (callT real Y.P.T Y.r) G sl (sl++List.replicate n .un) []>>=lstK)>>=fun x=>nextK (setV sl i (.val x))):=k
  revert k
  generalize cmpr real Y.P.T (callT real Y.P.T Y.r) G sl (sl++List.replicate n .un) []=o
  intro k
  cases o with
  | stuck=>exact k
  | exc=>exact KSt.post.exc k
  | ok xs=>
   intro Dd C Z₁ s₁ c
   obtain ⟨m,hm⟩:=c.ns
   obtain ⟨vs,n',e,z,q⟩:=c.acc
   have fre:=so.ok.fresh c.fC
   have g1:Nx Y Z s (Zput Z₁ Dd (lstO vs n')) s₁:=⟨c.nx.ks,fun b o q=>Zps c.zD b o (c.nx.le b o q),fun b q=>by
    by_cases w:b=Dd
    ·exact .inr (.inr (w ▸ c.fD))
    ·exact c.nx.new b (by rwa [Zput,if_neg w] at q),c.nx.sub.put e,c.nx.same⟩
   have zC:Zput Z₁ Dd (lstO vs n') C=none:=by rw [Zput,if_neg (fun w=>c.ne w.symm)];exact c.zC
   refine wpAny_assign_Name ((so.nx g1).put hx (d:= .list xs) ⟨Dd,vs,n',rfl,ZoX,z,q.up (Zps c.zD)⟩ fun s₂ a=> ?_)
   have nH:¬Wr R env oa C:=fun w=>w.elim (fun w=>fre.2.2.1 (ZoY w)) fun ⟨j,w⟩=>fre.2.2.2.1 j w
   refine ⟨m,ns_keep hm fun o ho=>⟨o,a.go.ks.keep C o ho nH fre.2.1,rfl⟩,fun h3 sb=>wpAny_pure ?_⟩
   replace sb:Heap.SameBut C s₂.heap h3:=sb
   have w:Wt [C] Y (Zput Z₁ Dd (lstO vs n')) s₂ (Zput Z₁ Dd (lstO vs n')) { s₂ with heap:=h3 }:= .of_keep (tk:=s₂.toks) a.go.sub (fun b hb=>by rw [List.mem_singleton.mp hb];exact ⟨zC,fre.2.1⟩) fun b o nb e=>SameBut.get sb (fun z=>nb (List.mem_singleton.mpr z)) e
   exact wpAny_pure (k _ oa _ _ ⟨{ a.so with ok:=a.so.ok.wt w fun b hb=>by rw [List.mem_singleton.mp hb];exact fre.2 },(Nx.go g1 a.go).trans w.go fun b q=> .inr (by rw [List.mem_singleton.mp q];exact c.fC),fun i a h=> .inl ⟨i,h⟩⟩ rfl)
end
end DK.Internal
end
section
set_option backward.match.sparseCases false
set_option genSizeOf false
set_option genCtorIdx false
namespace DK.Internal
open PySem PyProof.Rows
inductive NP (R:Rs):List Str→List Nat→Prop
 | nil:NP R [] []
 | cons {x i xs is}:R.put x=some i→NP R xs is→NP R (x::xs) (i::is)
theorem ZrA {α:Type} [BEq α] [LawfulBEq α] (n:Nat):∀l:List α,l.length≤n→l.eraseDups.length≤l.length∧(l.eraseDups.length=l.length→l.Nodup):=by
 induction n with
 | zero=>
  intro l h
  cases l with
  | nil=>exact ⟨Nat.le_refl _,fun _=> .nil⟩
  | cons a l=>exact absurd h (Nat.not_succ_le_zero _)
 | succ n ih=>
  intro l h
  cases l with
  | nil=>exact ⟨Nat.le_refl _,fun _=> .nil⟩
  | cons a as=>
   rw [List.eraseDups_cons]
   have hf:(as.filter fun b=> !b == a).length≤as.length:=List.length_filter_le _ _
   obtain ⟨h1,h2⟩:=ih (as.filter fun b=> !b == a) (Nat.le_trans hf (Nat.le_of_succ_le_succ h))
   rw [List.length_cons,List.length_cons]
   refine ⟨Nat.succ_le_succ (Nat.le_trans h1 hf),fun e=> ?_⟩
   have e:=Nat.succ.inj e
   have e1:(as.filter fun b=> !b == a).length=as.length:=Nat.le_antisymm hf (e ▸ h1)
   have e2:as.filter (fun b=> !b == a)=as:=(List.filter_sublist (l:=as) (p:=fun b=> !b == a)).eq_of_length e1
   have nd:=h2 (e.trans e1.symm)
   rw [e2] at nd
   refine List.nodup_cons.mpr ⟨fun m=> ?_,nd⟩
   have:=(List.filter_eq_self.mp e2) a m
   simp at this
section
variable {R:Rs}
theorem NP.append {xs ys:List Str} {is js:List Nat} (h:NP R xs is) (h':NP R ys js):NP R (xs++ys) (is++js):=by
 induction h with
 | nil=>exact h'
 | cons hi _ ih=>exact .cons hi ih
theorem NP.rev {xs:List Str} {is:List Nat} (h:NP R xs is):NP R xs.reverse is.reverse:=by
 induction h with
 | nil=>exact .nil
 | cons hi _ ih=>rw [List.reverse_cons,List.reverse_cons];exact ih.append (.cons hi .nil)
theorem NP.len {xs:List Str} {is:List Nat} (h:NP R xs is):xs.length=is.length:=by
 induction h with
 | nil=>rfl
 | cons _ _ ih=>exact congrArg (· + 1) ih
theorem NP.nodup (wf:R.WF) {xs:List Str} {is:List Nat} (h:NP R xs is):xs.Nodup→is.Nodup:=by
 have mem:∀{xs:List Str} {is:List Nat} {i:Nat},NP R xs is→i∈is→∃x∈xs,R.put x=some i:=fun {xs is i} h=>by
  induction h with
  | nil=>exact fun m=>nomatch m
  | cons hi _ ih=>exact fun m=>(List.mem_cons.mp m).elim (fun e=>⟨_,List.mem_cons_self ..,e ▸ hi⟩) fun m=>(ih m).imp fun x q=>⟨List.mem_cons_of_mem _ q.1,q.2⟩
 induction h with
 | nil=>exact fun _=> .nil
 | cons hi ht ih=>
  intro nd
  obtain ⟨n1,n2⟩:=List.nodup_cons.mp nd
  refine List.nodup_cons.mpr ⟨fun m=> ?_,ih n2⟩
  obtain ⟨y,hy,e⟩:=mem ht m
  exact n1 (wf.inj _ y _ (Zpd hi) (Zpd e) ▸ hy)
theorem Zsd {i:Nat} {d:D} (is:List Nat):∀{xs:List D} {sl sl':List Slot},i∉is→setAll sl is xs = .ok sl'→setAll (setV sl i (.val d)) is xs = .ok (setV sl' i (.val d)):=by
 induction is with
 | nil=>
  intro xs sl sl' _ h
  cases xs with
  | nil=>cases h;rfl
  | cons x xs=>cases h
 | cons j is ih=>
  intro xs sl sl' hi h
  cases xs with
  | nil=>cases h
  | cons x xs=>
   show setAll (setV (setV sl i (.val d)) j (.val x)) is xs=_
   rw [show setV (setV sl i (.val d)) j (.val x)=setV (setV sl j (.val x)) i (.val d) from List.set_comm _ _ fun q=>hi (q ▸ List.mem_cons_self ..)]
   exact ih (fun m=>hi (List.mem_cons_of_mem _ m)) h
theorem Zse {i:Nat} {d:D} (is:List Nat):∀{xs:List D} {sl sl':List Slot},setAll sl is xs = .ok sl'→setAll sl (is ++ [i]) (xs ++ [d]) = .ok (setV sl' i (.val d)):=by
 induction is with
 | nil=>
  intro xs sl sl' h
  cases xs with
  | nil=>cases h;rfl
  | cons x xs=>cases h
 | cons j is ih=>
  intro xs sl sl' h
  cases xs with
  | nil=>cases h
  | cons x xs=>exact ih h
theorem Zrm (is:List Nat):∀{xs:List D} {sl:List Slot},is.length=xs.length→∃sl',setAll sl is xs = .ok sl':=by
 induction is with
 | nil=>
  intro xs sl h
  cases xs with
  | nil=>exact ⟨sl,rfl⟩
  | cons x xs=>cases h
 | cons i is ih=>
  intro xs sl h
  cases xs with
  | nil=>cases h
  | cons x xs=>exact ih (Nat.succ.inj h)
theorem Zsf (is:List Nat):∀{xs:List D} {sl sl':List Slot},is.Nodup→is.length=xs.length→setAll sl is xs = .ok sl'→setAll sl is.reverse xs.reverse = .ok sl':=by
 induction is with
 | nil=>
  intro xs sl sl' _ hl h
  cases xs with
  | nil=>exact h
  | cons x xs=>cases hl
 | cons i is ih=>
  intro xs sl sl' nd hl h
  cases xs with
  | nil=>cases hl
  | cons x xs=>
   obtain ⟨n1,n2⟩:=List.nodup_cons.mp nd
   obtain ⟨sm,hsm⟩:=Zrm is (sl:=sl) (Nat.succ.inj hl)
   have h1:=Zsd is (i:=i) (d:=x) n1 hsm
   rw [show setAll sl (i::is) (x::xs)=setAll (setV sl i (.val x)) is xs from rfl,h1] at h;cases h
   rw [List.reverse_cons,List.reverse_cons]
   exact Zse _ (ih n2 (Nat.succ.inj hl) hsm)
variable {Y:Cx} {env:Env} {oa:Nat→Option Addr} {Z:Zm} {sl sl':List Slot} {E:Value→Shared→Prop}
theorem ZrB {xs:List Str} {is:List Nat} (hB:Bs R Y env) (ht:NP R xs is):∀{vs:List Value} {ds:List D} {sl:List Slot} {s:Shared} {Q:Unit→Shared→Prop},Ok R Y env Z oa sl s.heap →
  Reps Y.P Z ds vs→setAll sl is ds = .ok sl'→(∀s',Ok R Y env Z oa sl' s'.heap→Go (Homes R env) Y Z s Z s'→Q () s')→wpAny Y.M Y.A (assignInOrder (xs.map fun n=>bindName env n) vs) Q E s:=by
 induction ht with
 | nil=>
  intro vs xs sl s Q ok rv hs hQ
  cases xs with
  | nil=>cases hs;cases (show vs = [] from rv);exact assignInOrder_nil (hQ s ok (.self ok.c.sub))
  | cons x xs=>cases hs
 | cons hi ht ih=>
  intro vs xs sl s Q ok rv hs hQ
  cases xs with
  | nil=>cases hs
  | cons d ds=>
   obtain ⟨v,us,rfl,r1,rs⟩:=rv
   exact assignInOrder_cons (wpAny_bindName (ZpO hB hi ok r1 fun s' ok' g=>ih ok' rs hs fun s₂ ok₂ g₂=>hQ s₂ ok₂ (g.trans g₂ fun b q=> .inl q)))
theorem ZsW (f:Expr→Option Str) (hf:∀x p,f (.Name x p)=some x∨f (.Name x p)=none) {ts:List Expr} {is:List Nat} (h:TgtN R ts is):(ts.filterMap f).length=ts.length→NP R (ts.filterMap f) is:=by
 induction h with
 | nil=>exact fun _=> .nil
 | @cons x i p es is hi ht ih=>
  intro hl
  have hle:(es.filterMap f).length≤es.length:=List.length_filterMap_le _ _
  rcases hf x p with e | e
  ·rw [List.filterMap_cons_some e] at hl ⊢
   exact .cons hi (ih (Nat.succ.inj hl))
  ·rw [List.filterMap_cons_none e] at hl
   rw [hl] at hle;exact absurd hle (Nat.not_succ_le_self _)
noncomputable def swapOk:Expr→Bool
 | .Tuple vs _ _=>vs.all (foldedForSure 8) || !(vs.all (constantsAlone 8))
 | e=>noComp e
theorem ZqR {ts:List Expr} {kn:Nat} {p:Pos} {v:Expr} {is:List Nat} (ht:TgtN R ts is) (hv:swapOk v=true) :
  swappedStores [.Tuple ts kn p] v env=pure none∨∃names,swappedStores [.Tuple ts kn p] v env=pure (some names)∧NP R names is∧names.Nodup:=by
 cases v with
 | Tuple vs k2 p2=>
  unfold swappedStores
  dsimp only
  split
  ·exact .inl rfl
  ·split
   ·exact .inl rfl
   ·split
    ·exact .inl rfl
    ·rename_i hlen
     split
     ·exact .inl rfl
     ·rename_i hfold
      split
      ·rename_i hcon
       exfalso
       replace hv:(vs.all (foldedForSure 8) || !(vs.all (constantsAlone 8)))=true:=hv
       rw [hcon,Bool.not_true,Bool.or_false] at hv
       exact hfold hv
      ·right
       simp only [Bool.or_eq_true,bne_iff_ne,ne_eq,not_or,Decidable.not_not] at hlen
       refine ⟨_,rfl,ZsW _ (fun x p=> ?_) ht hlen.1,(ZrA _ _ (Nat.le_refl _)).2 hlen.2⟩
       dsimp only
       split
       ·exact .inl rfl
       ·exact .inr rfl
 | _=>exact .inl rfl
theorem ZsB {v:Expr} (h:swapOk v=true):noComp v=true:=by cases v<;>first | rfl | exact h
theorem SS.unp {ts:List Expr} {kn:Nat} {p pos:Pos} {v:Expr} {is:List Nat} {c:C} (ht:TgtN R ts is) (hv:swapOk v=true) (h:SE R v c):SS R (.Assign [.Tuple ts kn p] v pos) (.unp is c):=by
 intro Y env io Z oa sl s Q E so k
 rw [arm_exec_Assign]
 refine wpAny_bind (wpAny_standAt ?_)
 rw [show swapsWithSole [.Tuple ts kn p] v pos.line env=pure false by unfold swapsWithSole;exact Zpq (ZsB hv)]
 refine wpAny_bind (wpAny_pure ?_)
 rw [if_neg Bool.false_ne_true]
 refine wpAny_bind (h so.ok (KSt.post.bind k fun d u Z₁ s₁ g ru k=> ?_))
 cases d with
 | tuple xs=>
  replace k:KSt R Y env io oa Q E Z₁ s₁ ((if is.length=xs.length then Out.ok xs else .stuck)>>=fun xs=>setAll sl is xs>>=nextK):=k
  by_cases hl:is.length=xs.length
  ·rw [if_pos hl] at k
   obtain ⟨sl',hset⟩:=Zrm is (sl:=sl) hl
   replace k:KSt R Y env io oa Q E Z₁ s₁ (setAll sl is xs>>=nextK):=k
   rw [hset] at k
   have fin:∀s',Ok R Y env Z₁ oa sl' s'.heap→Go (Homes R env) Y Z₁ s₁ Z₁ s'→Q .next s':=fun s' ok' g'=>
    k _ _ _ _ ⟨⟨ok',so.hB,so.ob,so.ioR,fun j a hj=>by rw [(ZpY hset).2 j fun m=>by obtain ⟨x,hx⟩:=Zsw ht j m;rw [so.ioR x j hx] at hj;cases hj];exact so.io j a hj⟩,g'.mono fun b q=> .inl (.inl q),fun i a h=> .inl ⟨i,h⟩⟩ rfl
   rcases ZqR (env:=env) (kn:=kn) (p:=p) ht hv with e | ⟨names,e,hnm,hnd⟩
   ·rw [e]
    refine wpAny_bind (wpAny_pure ?_)
    show wpAny _ Y.A (assignAll u [assign (.Tuple ts kn p) env]>>=fun _=>pure .next) Q E _
    exact wpAny_bind (ZpS (tg:= .many is) so.hB (.many ht) (so.ok.nx g) ru (by show ((if is.length=xs.length then Out.ok xs else .stuck)>>=setAll sl is)=_;rw [if_pos hl];exact hset) fun s' ok' g'=>wpAny_pure (fin s' ok' g'))
   ·rw [e]
    refine wpAny_bind (wpAny_pure ?_)
    show wpAny _ Y.A (do
     rule "assign.swapped-stores"
     let items ←unpackItems u names.length none
     assignInOrder (names.reverse.map fun n=>bindName env n) items.reverse
     pure .next) Q E _
    refine wpAny_bind (wpAny_rule ?_)
    obtain ⟨a,vs,n,rfl,e2,z,rs⟩:=ru
    rw [show names.length=vs.toArray.size by rw [List.size_toArray,rs.length,←hl,hnm.len]]
    refine wpAny_bind (wpAny_unpackItems_tuple so.ok.c.hand ⟨_,g.sub _ _ e2,rfl,_,rfl⟩ fun h2 ex=> ?_)
    have g2:Nx Y Z₁ s₁ Z₁ { s₁ with heap:=h2 }:= .keeps g.sub (fun b o e=>ex b o (Nat.ne_of_lt (Heap.lt_size e)) e) s₁.toks
    exact wpAny_bind (ZrB so.hB hnm.rev ((so.ok.nx g).nx g2) rs.reverse (Zsf is (hnm.nodup so.ok.st.wf hnd) hl hset) fun s' ok' g'=>wpAny_pure (fin s' ok' (Nx.go g2 g')))
  ·rw [if_neg hl] at k;exact False.elim k
 | _=>exact False.elim k
theorem Ok.hide {s:Shared} (ok:Ok R Y env Z oa sl s.heap):Ok R { Y with base:=PySem.W.hideAll s.heap (fas Y.l) } env Z oa sl s.heap:=
 {
  ok with
  st:={ ok.st with }
  c:={ ok.c with
   below:=⟨ok.c.below.stack,fun b o e=>PySem.W.of_hideAll _ e,Zpw (fun b hb o e nf=>⟨PySem.W.hideAll_none _ hb,o,e,nf⟩) ok.c.below.frames⟩
   gb:=fun b o e=>PySem.W.hideAll_get _ (ok.c.gh b o e) fun m=>by have:=ok.c.gz b o e;rw [ok.c.frz b m] at this;cases this } }
end
end DK.Internal
end
section
set_option backward.match.sparseCases false
set_option genSizeOf false
set_option genCtorIdx false
namespace DK.Internal
open PySem PyProof.Rows
section
variable {R:Rs} {Y:Cx} {env:Env} {io oa:Nat→Option Addr} {Z:Zm} {sl:List Slot} {s s':Shared} {Q:Flow→Shared→Prop} {E:Value→Shared→Prop}
structure HE (R:Rs) (he:Expr) (c:C):Prop where
 no:noComp he=true
 ev:∀{Y:Cx} {env:Env} {Z:Zm} {oa:Nat→Option Addr} {sl:List Slot} {s:Shared} {Q:Value→Shared→Prop} {E:Value→Shared→Prop} {A:Around},Ok R Y env Z oa sl s.heap→K Y Z (Rep Y.P) (Y.ex c sl) Q E s→wpAny Y.M A (eval he env) Q E s
theorem HE.str {x:Str} {n:Nat} {pos:Pos} (h:x.cps.size≤SZ):HE R (.Constant (.str x) n pos) (.k (.str x.cps.toList)):=⟨rfl,fun c k=>Calls.Constant_str (K.ok (d:=D.str x.cps.toList) k c.c.sub (rStr _ _ h) _)⟩
theorem hid_nx (ok:Ok R Y env Z oa sl s.heap) (st:(PySem.W.hideAll s.heap (fas Y.l)).StaysIn s'.heap) (us:∀b o,s.heap.get? b=some o→(∀vs,o.data≠.fields vs)→∃sl,s'.heap.get? b=some { o with slots:=sl }) (sm:s'={ s with heap:=s'.heap,toks:=s'.toks }):Nx Y Z s Z s':=
 have keep:∀b o,s.heap.get? b=some o→b∉fas Y.l→s'.heap.get? b=some o:=fun b o e nb=>st b o (PySem.W.hideAll_get _ e nb)
 have fr:∀b o,s.heap.get? b=some o→b∈fas Y.l→∃sl,s'.heap.get? b=some { o with slots:=sl }:=fun b o e hb=>by
  obtain ⟨_,o',e',nf⟩:=Zpe ok.c.below.frames b hb
  rw [e] at e';cases e'
  exact us b o e nf
 ⟨⟨fun b o e _ nb=>keep b o e nb,fun b o e _ hb=>fr b o e hb,fun _ _ _ q=>q.elim⟩,fun _ _ e=>e,fun _ e=> .inl e,fun b o e=>keep b o (ok.c.sub b o e) fun m=>(by rw [ok.c.frz b m] at e;cases e),sm⟩
theorem Ztm:isSubtype (.type "ValueError") (.type "BaseException")=pure true:=by rw [isSubtype_type];kernel_rfl
theorem nt_exc:isSubtype (.type ((Manifest.find? "ValueError").elim "type" fun x=>x.metatype)) (.type "tuple")=pure false:=by rw [isSubtype_type];kernel_rfl
theorem ZsX:isSubtype (.type "ValueError") (.type "ValueError")=pure true:=by rw [isSubtype_type];kernel_rfl
theorem ZsC {x y:Str} {xp yp hp hpos:Pos} {he:Expr} {hi:Nat} {ch:C} (hg:R.glob "ValueError" = true) (hy:R.put y=some hi) (hh:HE R he ch) (so:SOk R Y env io Z oa sl s.heap)
  (k:KSt R Y env io oa Q E Z s (Y.ex ch sl>>=fun x=>nextK (setV sl hi (.val x)))) (nex:Y.ex ch sl≠.exc) {a:Addr} {s₁:Shared} (e:Ex No { Y with base:=PySem.W.hideAll s.heap (fas Y.l) } s a s₁) :
  wpAny Y.M Y.A (noteFrame (.ref a) env) (fun _ s₂=>wpAny Y.M Y.A (setFlight (.ref a) none) (fun _ s₃=>wpAny Y.M Y.A (handleBy (.ref a) env [.ExceptHandler (some (.Name "ValueError" xp)) none [.Assign [.Name y yp] he hp] hpos]) Q E s₃) E s₂) E s₁:=by
 refine ZpF (Y:={ Y with base:=PySem.W.hideAll s.heap (fas Y.l) }) so.ok.c.below.stack so.ok.st.fr e.exc fun h2 H2 u2=> ?_
 have e2:=e.up u2 H2.exc
 obtain ⟨fenv,outer,hl,H2⟩:=H2
 replace hl:Y.l=fenv::outer:=hl
 refine ZqS (s:={ s₁ with heap:=h2 }) H2 fun h3 F3 u3=> ?_
 have nx:∀{h:Heap},Fly (PySem.W.hideAll s.heap (fas Y.l)) (fenv::outer) a h→(∀b o,s.heap.get? b=some o→(∀vs,o.data≠.fields vs)→∃sl,h.get? b=some { o with slots:=sl })→Nx Y Z s Z { s₁ with heap:=h }:=fun {h} f u=>by
  obtain ⟨a0,st,_⟩:=f
  exact hid_nx so.ok st u (by rw [e.same])
 have us3:∀b o,s.heap.get? b=some o→(∀vs,o.data≠.fields vs)→∃sl,h3.get? b=some { o with slots:=sl }:=fun b o q nf=>by
  obtain ⟨sl1,q1⟩:=e2.us b o q id nf
  obtain ⟨sl2,q2⟩:=u3 b _ q1 nf
  exact ⟨sl2,q2⟩
 have so3:=so.nx (nx F3 us3)
 have gs:=Zqn hg
 refine wpAny_handleBy_builtin (X:= "ValueError") (T:= "ValueError") (b:=true) Ztm nt_exc ZsX (Calls.Name_function_global so.ok.st.kind (so.ok.st.gk _ gs.2.1) (Calls.loadGlobal_builtin so3.ok.g so.ok.c.glo.ve.1 so3.ok.b so.ok.c.glo.ve.2 ⟨rfl,?_,?_⟩) gs.2.2)
 ·obtain ⟨a0,_,_,_,oe,vs,T,oT,ts,he,⟨hcls,_⟩,_⟩:=F3
  exact ⟨oe,he,hcls⟩
 rw [if_pos rfl]
 refine ZsJ (s:={ s₁ with heap:=h3 }) F3 fun h4 F4 u4=> ?_
 have g4:=nx F4 fun b o q nf=>by
  obtain ⟨sl1,q1⟩:=us3 b o q nf
  obtain ⟨sl2,q2⟩:=u4 b _ q1 nf
  exact ⟨sl2,q2⟩
 have so4:=so.nx g4
 have k4:=KSt.post.step k g4
 refine wpAny_execs_cons (wpAny_Assign_Name (hh.ev so4.ok ?_) (Zpq hh.no))
 cases ho:Y.ex ch sl with
 | exc=>exact absurd ho nex
 | stuck=>rw [ho] at k4;exact False.elim k4
 | ok d=>
  rw [ho] at k4
  exact fun v Z₅ s₅ g5 rv=>(so4.nx g5).put hy rv fun s₆ a=>wpAny_execs_nil (KSt.post.step (o:= .ok (.next,setV sl hi (.val d))) k4 g5 _ _ _ _ a rfl)
theorem ZrN {ee:Expr} {c:C} {i:Option Nat} {hi:Nat} {h:List Slot→Out D} (hs:SE R ee c) (so:SOk R Y env io Z oa sl s.heap) (k:KSt R Y env io oa Q E Z s (triO i hi h sl (Y.ex c sl))) {Q':Value→Shared→Prop} {E':Value→Shared→Prop}
  (kOk:∀d v Z' s',Nx Y Z s Z' s'→Rep Y.P Z' d v→KSt R Y env io oa Q E Z' s' (nextK (putO sl i d))→Q' v s')
  (kEx:KSt R Y env io oa Q E Z s (h sl>>=fun x=>nextK (setV sl hi (.val x)))→∀a s₁,Ex No { Y with base:=PySem.W.hideAll s.heap (fas Y.l) } s a s₁→E' (.ref a) s₁):wpAny Y.M Y.A (eval ee env) Q' E' s:=by
 refine hs (Y:={ Y with base:=PySem.W.hideAll s.heap (fas Y.l) }) so.ok.hide ?_
 show K _ Z (Rep Y.P) (Y.ex c sl) Q' E' s
 revert k
 generalize Y.ex c sl=o
 intro k
 cases o with
 | stuck=>exact False.elim k
 | exc=>exact fun a s₁ e=>kEx k a s₁ e
 | ok d=>exact fun v Z' s' g rv=>kOk d v Z' s' ⟨g.ks,g.le,g.new,g.sub,g.same⟩ rv (KSt.post.step (o:=nextK (putO sl i d)) k ⟨g.ks,g.le,g.new,g.sub,g.same⟩)
theorem SS.tri {z y:Str} {zp xp yp tp hp hpos ap:Pos} {ee he:Expr} {j hi:Nat} {c ch:C} (hg:R.glob "ValueError" = true) (hz:R.put z=some j) (hn:noComp ee=true) (hs:SE R ee c) (hy:R.put y=some hi) (hh:HE R he ch) (nex:∀(Y:Cx) sl,Y.ex ch sl≠.exc) :
  SS R (.Try [.Assign [.Name z zp] ee ap] [.ExceptHandler (some (.Name "ValueError" xp)) none [.Assign [.Name y yp] he hp] hpos] [] [] tp) (.tri (some j) c hi ch):=fun {Y env io Z oa sl s Q E} so k=>
 wpAny_Try_except (wpAny_execs_cons (wpAny_Assign_Name (ZrN hs so k (fun d v Z₁ s₁ g rv k=>(so.nx g).put hz rv fun s₂ a=>wpAny_execs_nil (wpAny_execs_nil (k _ _ _ _ a rfl))) fun k a s₁ e=>ZsC (x:=y) hg hy hh so k (nex Y sl) e) (Zpq hn)))
end
end DK.Internal
end
section
set_option backward.match.sparseCases false
set_option genSizeOf false
set_option genCtorIdx false
namespace DK.Internal
open PySem PyProof.Rows
section
variable {R:Rs}
theorem K.around {α β:Type} {Y:Cx} {Z:Zm} {R':Zm→β→α→Prop} {o:Out β} {Q:α→Shared→Prop} {E:Value→Shared→Prop} {s:Shared} (A:Around) (k:K Y Z R' o Q E s):K { Y with A:=A } Z R' o Q E s:=by
 cases o with
 | ok d=>exact fun v Z' s' g r=>k v Z' s' ⟨g.ks,g.le,g.new,g.sub,g.same⟩ r
 | exc=>exact fun x s' e=>k x s' ⟨e.us,e.exc,e.same⟩
 | stuck=>exact k
theorem HE.int {i:Int} {n:Nat} {pos:Pos}:HE R (.Constant (.int i) n pos) (.k (.int i)):=⟨rfl,fun c k=>wpAny_Constant_int (K.ok (d:=D.int i) k c.c.sub (rInt _ _) _)⟩
theorem HE.inc {x:Str} {j:Nat} {i:Int} {n:Nat} {xp cp p:Pos} (h:R.loc.lookup x=some j) (hd:(x == ("__debug__" : Str))=false):HE R (.BinOp (.Name x xp) .Add (.Constant (.int i) n cp) p) (.bin .Add (.var j) (.k (.int i))):=
 ⟨rfl,fun {Y env Z oa sl s Q E A} ok k=>wpAny_BinOp (wpAny_Name (K.getV (f:=fun x=>binop .Add x (.int i)) ok h k fun d v hv rv k=>Zpi ok.st.kind hv (wpAny_Constant_int (Zqg (Y:={ Y with A:=A }) (s:={ s with toks:=s.toks+1 }) ok.c.sub rv (rInt _ _) (K.around A (K.go (o:=binop .Add d (.int i)) k (.refl ok.c.sub _)))))) hd)⟩
theorem HE.inc_nex {Y:Cx} {sl:List Slot} {j:Nat} {i:Int}:Y.ex (.bin .Add (.var j) (.k (.int i))) sl≠.exc:=by
 show (getV sl j>>=fun x=>binop .Add x (.int i))≠.exc
 unfold getV
 cases sl[j]? with
 | none=>exact nofun
 | some t=>
  cases t with
  | val d=>cases d<;>exact nofun
  | _=>exact nofun
theorem SS.triE {y:Str} {xp yp tp hp hpos ap:Pos} {ee he:Expr} {hi:Nat} {c ch:C} (hg:R.glob "ValueError" = true) (hn:noComp ee=true) (hs:SE R ee c) (hy:R.put y=some hi) (hh:HE R he ch) (nex:∀(Y:Cx) sl,Y.ex ch sl≠.exc) :
  SS R (.Try [.Expr ee ap] [.ExceptHandler (some (.Name "ValueError" xp)) none [.Assign [.Name y yp] he hp] hpos] [] [] tp) (.tri none c hi ch):=fun {Y env io Z oa sl s Q E} so k=>
 wpAny_Try_except (wpAny_execs_cons (wpAny_Expr_any (ZrN hs so k (fun d v Z₁ s₁ g rv k=>wpAny_execs_nil (wpAny_execs_nil (k _ _ _ _ (so.nx g).self rfl))) fun k a s₁ e=>ZsC (x:=y) hg hy hh so k (nex Y sl) e) (ZoT so) (Zpq hn)))
end
end DK.Internal
end
section
set_option backward.match.sparseCases false
set_option genSizeOf false
set_option genCtorIdx false
namespace DK.Internal
open PySem PyProof.Rows
noncomputable def Cx.args (Y:Cx) (c:As) (sl:List Slot):Out (List Slot):=DK.Internal.args real Y.P.T (callT real Y.P.T Y.r) c sl
inductive AsT (R:Rs):List Bool→List Expr→As→Prop
 | nil:AsT R [] [] .nil
 | val {e c bs es as}:SE R e c→noStar e=true→AsT R bs es as→AsT R (false::bs) (e::es) (.val c as)
 | own {x i p bs es as}:R.loc.lookup x=some i→(x == ("__debug__" : Str))=false→AsT R bs es as→AsT R (true::bs) (.Name x p::es) (.own i as)
 | fresh {p bs es as}:AsT R bs es as→AsT R (true::bs) (.List [] p::es) (.fresh as)
inductive AdsOk (oa:Nat→Option Addr) (h₀:Heap):List Bool→As→List (Option Addr)→Prop
 | nil:AdsOk oa h₀ [] .nil []
 | val {c bs r ads}:AdsOk oa h₀ bs r ads→AdsOk oa h₀ (false::bs) (.val c r) (none::ads)
 | own {i a bs r ads}:oa i=some a→AdsOk oa h₀ bs r ads→AdsOk oa h₀ (true::bs) (.own i r) (some a::ads)
 | fresh {a bs r ads}:h₀.get? a=none→some a∉ads→AdsOk oa h₀ bs r ads→AdsOk oa h₀ (true::bs) (.fresh r) (some a::ads)
section
variable {oa:Nat→Option Addr} {h h₀:Heap} {bs:List Bool} {as:As} {ads:List (Option Addr)}
theorem AdsOk.mono (x:AdsOk oa h bs as ads) (k:∀b,h.get? b=none→h₀.get? b=none):AdsOk oa h₀ bs as ads:=by
 induction x with
 | nil=>exact .nil
 | val _ ih=>exact .val ih
 | own e _ ih=>exact .own e ih
 | fresh e n _ ih=>exact .fresh (k _ e) n ih
theorem AdsOk.mem (x:AdsOk oa h bs as ads) {b:Addr}:AsIn ads b→(∃i∈asOwn as,oa i=some b)∨h.get? b=none:=by
 induction x with
 | nil=>exact fun m=>nomatch m
 | val _ ih=>exact fun m=>ih ((List.mem_cons.mp m).resolve_left fun q=>nomatch q)
 | own e _ ih=>exact fun m=>(List.mem_cons.mp m).elim (fun q=> .inl ⟨_,List.mem_cons_self ..,by cases q;exact e⟩) fun m=>(ih m).imp (fun ⟨i,q,r⟩=>⟨i,List.mem_cons_of_mem _ q,r⟩) id
 | fresh e n _ ih=>exact fun m=>(List.mem_cons.mp m).elim (fun q=> .inr (by cases q;exact e)) ih
theorem AdsOk.inj (x:AdsOk oa h bs as ads) (oinj:∀i j a,oa i=some a→oa j=some a→i=j) (al:∀j a,oa j=some a→(h.get? a).isSome=true):(asOwn as).Nodup→∀(i j:Nat) (b:Addr),ads[i]?=some (some b)→ads[j]?=some (some b)→i=j:=by
 have step:∀{a:Addr} {ads:List (Option Addr)},some a∉ads→(∀(i j:Nat) (b:Addr),ads[i]?=some (some b)→ads[j]?=some (some b)→i=j)→∀(i j:Nat) (b:Addr),(some a::ads)[i]?=some (some b)→(some a::ads)[j]?=some (some b)→i=j:=by
  intro a ads n ih i j b hi hj
  cases i with
  | zero=>
   cases j with
   | zero=>rfl
   | succ j=>cases hi;exact absurd (List.mem_of_getElem? (show ads[j]?=some (some a) from hj)) n
  | succ i=>
   cases j with
   | zero=>cases hj;exact absurd (List.mem_of_getElem? (show ads[i]?=some (some a) from hi)) n
   | succ j=>exact congrArg (· + 1) (ih i j b hi hj)
 induction x with
 | nil=>exact fun _ i j b hi=>nomatch hi
 | val _ ih=>
  intro nd i j b hi hj
  cases i with
  | zero=>cases hi
  | succ i=>
   cases j with
   | zero=>cases hj
   | succ j=>exact congrArg (· + 1) (ih nd i j b hi hj)
 | @own i a bs r ads e x ih=>
  intro nd
  obtain ⟨n1,n2⟩:=List.nodup_cons.mp nd
  refine step (fun m=> ?_) (ih n2)
  rcases x.mem m with ⟨j,hj,e'⟩ | z
  ·exact n1 (oinj i j a e e' ▸ hj)
  ·have:=al i a e;rw [z] at this;cases this
 | fresh e n _ ih=>exact fun nd=>step n (ih nd)
theorem AdsOk.flags (x:AdsOk oa h bs as ads):∀{ps:List Str},ps.length=ads.length→∀(i:Nat) (b:Addr),ads[i]?=some (some b)→∃x,ps[i]?=some x∧x∈refsOf ps bs:=by
 induction x with
 | nil=>exact fun _ i b hi=>nomatch hi
 | val _ ih=>
  intro ps hl i b hi
  cases ps with
  | nil=>cases hl
  | cons p ps=>
   cases i with
   | zero=>cases hi
   | succ i=>exact ih (Nat.succ.inj hl) i b hi
 | own _ _ ih=>
  intro ps hl i b hi
  cases ps with
  | nil=>cases hl
  | cons p ps=>
   cases i with
   | zero=>exact ⟨p,rfl,List.mem_cons_self ..⟩
   | succ i=>exact (ih (Nat.succ.inj hl) i b hi).imp fun y q=>⟨q.1,List.mem_cons_of_mem _ q.2⟩
 | fresh _ _ _ ih=>
  intro ps hl i b hi
  cases ps with
  | nil=>cases hl
  | cons p ps=>
   cases i with
   | zero=>exact ⟨p,rfl,List.mem_cons_self ..⟩
   | succ i=>exact (ih (Nat.succ.inj hl) i b hi).imp fun y q=>⟨q.1,List.mem_cons_of_mem _ q.2⟩
theorem ArgsAt.len {P:Prg} {Z:Zm} {vs:List Value} {sls:List Slot} (x:ArgsAt P Z h vs sls ads):sls.length=ads.length∧vs.length=ads.length:=by
 induction x with
 | nil=>exact ⟨rfl,rfl⟩
 | val _ _ ih=>exact ⟨congrArg (· + 1) ih.1,congrArg (· + 1) ih.2⟩
 | own _ _ _ _ ih=>exact ⟨congrArg (· + 1) ih.1,congrArg (· + 1) ih.2⟩
theorem Zsg {P:Prg} {Z:Zm} (ao:AdsOk oa h₀ bs as ads):∀{os sl sl':List Slot},BackAt P Z h os ads→back as os sl = .ok sl' →
  sl'.length=sl.length∧∀j,(j∉asOwn as∧sl'[j]?=sl[j]?)∨(∃a us n ys,(j∈asOwn as∧oa j=some a)∧h.get? a=some (lstO us n)∧us.length≤SZ∧Reps P Z ys us∧(j < sl.length→sl'[j]?=some (.own ys))):=by
 induction ao with
 | nil=>
  intro os sl sl' ba hb
  cases ba;cases hb;exact ⟨rfl,fun j=> .inl ⟨fun m=>(nomatch m),rfl⟩⟩
 | val _ ih=>
  intro os sl sl' ba hb
  cases ba with
  | val ba=>exact ih ba hb
 | fresh _ _ _ ih=>
  intro os sl sl' ba hb
  cases ba with
  | own _ _ _ ba=>exact ih ba hb
 | @own i a bs r ads e ao ih=>
  intro os sl sl' ba hb
  cases ba with
  | @own _ us n xs _ _ e1 e2 e3 ba=>
   obtain ⟨h1,h2⟩:=ih ba hb
   have hlen:(setV sl i (.own xs)).length=sl.length:=List.length_set ..
   refine ⟨h1.trans hlen,fun j=> ?_⟩
   rcases h2 j with ⟨q1,q2⟩ | ⟨a',us',n',ys',q1,q2,q3,q4,q5⟩
   ·by_cases z:i=j
    ·subst z
     exact .inr ⟨a,us,n,xs,⟨List.mem_cons_self ..,e⟩,e1,e2,e3,fun hlt=>by rw [q2,Zpn,if_pos ⟨rfl,hlt⟩]⟩
    ·exact .inl ⟨fun m=>(List.mem_cons.mp m).elim (fun q=>z q.symm) q1,by rw [q2,Zpn,if_neg (fun q=>z q.1)]⟩
   ·exact .inr ⟨a',us',n',ys',⟨List.mem_cons_of_mem _ q1.1,q1.2⟩,q2,q3,q4,fun hlt=>q5 (by rw [hlen];exact hlt)⟩
theorem Zsh:∀(as:As) (os sl:List Slot),back as os sl≠.exc:=by
 intro as
 induction as with
 | nil=>exact fun _ _ e=>nomatch e
 | val c r ih=>intro os sl;cases os with
  | nil=>exact fun e=>nomatch e
  | cons o os=>exact ih os sl
 | own i r ih=>intro os sl;cases os with
  | nil=>exact fun e=>nomatch e
  | cons o os=>cases o with
   | own ys=>exact ih os _
   | _=>exact fun e=>nomatch e
 | fresh r ih=>intro os sl;cases os with
  | nil=>exact fun e=>nomatch e
  | cons o os=>cases o with
   | own ys=>exact ih os _
   | _=>exact fun e=>nomatch e
end
structure AEnd (Y:Cx) (oa:Nat→Option Addr) (bs:List Bool) (as:As) (Z:Zm) (s:Shared) (sls:List Slot) (vs:List Value) (ads:List (Option Addr)) (Z':Zm) (s':Shared):Prop where
 nx:Nx Y Z s Z' s'
 at_:ArgsAt Y.P Z' s'.heap vs sls ads
 ao:AdsOk oa s.heap bs as ads
 nz:∀b,AsIn ads b→Z' b=none
noncomputable def KA (Y:Cx) (oa:Nat→Option Addr) (bs:List Bool) (as:As) (Q:List Value→Shared→Prop) (E:Value→Shared→Prop) (Z:Zm) (s:Shared) (o:Out (List Slot)):Prop:=match o with
 | .ok sls=>∀vs ads Z' s',AEnd Y oa bs as Z s sls vs ads Z' s'→Q vs s'
 | .exc=>∀x s',Ex No Y s x s'→E (.ref x) s'
 | .stuck=>False
section
variable {R:Rs} {Y:Cx} {env:Env} {io oa:Nat→Option Addr} {Z:Zm} {sl:List Slot} {s:Shared} {E:Value→Shared→Prop}
theorem KA.step {bs as Q} {Z':Zm} {s':Shared} {o:Out (List Slot)} (k:KA Y oa bs as Q E Z s o) (g:Nx Y Z s Z' s'):KA Y oa bs as Q E Z' s' o:=by
 cases o with
 | ok sls=>exact fun vs ads Z₂ s₂ a=>k vs ads Z₂ s₂ { a with nx:=g.nx a.nx,ao:=a.ao.mono fun b z=>(g.ks.gone z).resolve_left id }
 | exc=>exact fun x s₂ e=>k x s₂ (g.ex e fun _ q=>q.elim)
 | stuck=>exact k
theorem Zsi {bs:List Bool} {es:List Expr} {as:As} (h:AsT R bs es as):∀{Z:Zm} {s:Shared} {Q:List Value→Shared→Prop} {pos:Pos},Ok R Y env Z oa sl s.heap→KA Y oa bs as Q E Z s (Y.args as sl)→wpAny Y.M Y.A (spliced (backTo pos (starEach es env))) Q E s:=by
 induction h with
 | nil=>exact fun ok k=>Calls.spliced_nil (k [] [] _ _ ⟨.self ok.c.sub,.nil,.nil,fun b m=>absurd m List.not_mem_nil⟩)
 | @val e c bs es as h hn _ ih=>
  intro Z s Q pos ok k
  rw [ZoV hn]
  replace k:KA Y oa (false::bs) (.val c as) Q E Z s (Y.ex c sl>>=fun x=>Y.args as sl>>=fun xs=> .ok (.val x::xs)):=k
  refine Calls.spliced_cons (h ok ?_)
  revert k
  generalize Y.ex c sl=o
  intro k
  cases o with
  | stuck=>exact k
  | exc=>exact k
  | ok d=>
   intro v Z₁ s₁ g rv
   refine ih (pos:=pos) (ok.nx g) ?_
   replace k:=KA.step (o:=Y.args as sl>>=fun xs=> .ok (.val d::xs)) k g
   revert k
   generalize Y.args as sl=o
   intro k
   cases o with
   | stuck=>exact k
   | exc=>exact k
   | ok sls=>exact fun vs ads Z₂ s₂ a=>k (v::vs) (none::ads) Z₂ s₂ ⟨a.nx,.val (rv.up a.nx.le) a.at_,.val a.ao,fun b m=>a.nz b ((List.mem_cons.mp m).resolve_left (by intro q;cases q))⟩
 | @own x i p bs es as hx hd _ ih=>
  intro Z s Q pos ok k
  replace k:KA Y oa (true::bs) (.own i as) Q E Z s (ownD sl i>>=fun ys=>Y.args as sl>>=fun xs=> .ok (.own ys::xs)):=k
  have hv:=ok.var x i hx
  unfold ownD at k
  cases hs:sl[i]? with
  | none=>rw [hs] at k;exact False.elim k
  | some t=>
   rw [hs] at k hv
   cases t with
   | own xs=>
    obtain ⟨a,us,n,a0,a1,a2,a3,a4⟩:=hv
    replace k:KA Y oa (true::bs) (.own i as) Q E Z s (Y.args as sl>>=fun ys=> .ok (.own xs::ys)):=k
    refine Calls.spliced_cons (wpAny_Name (Zpi ok.st.kind a1 (ih (pos:=pos) ok ?_)) hd)
    revert k
    generalize Y.args as sl=o
    intro k
    have ow:=ok.own i a a0
    cases o with
    | stuck=>exact k
    | exc=>exact k
    | ok sls=>exact fun vs ads Z₂ s₂ e=>k (.ref a::vs) (some a::ads) Z₂ s₂ ⟨e.nx,.own (Zqc ok e.nx a0 a2) a3 (a4.up e.nx.le) e.at_,.own a0 e.ao,fun b m=>(List.mem_cons.mp m).elim (fun q=>(Option.some.inj q).symm ▸ e.nx.still ow.1 ow.2.2.2.2) (e.nz b)⟩
   | _=>exact False.elim k
 | @fresh p bs es as _ ih=>
  intro Z s Q pos ok k
  replace k:KA Y oa (true::bs) (.fresh as) Q E Z s (Y.args as sl>>=fun xs=> .ok (.own []::xs)):=k
  refine Calls.spliced_cons (List_ (Calls.spliced_nil (wpAny_newList (ih (pos:=pos) (ok.nx (Zpo ok.c.sub _ s.toks)) ?_) (Nat.zero_le _))))
  have fa:s.heap.get? s.heap.objs.size=none:=Heap.get?_none_of_le (Nat.le_refl _)
  have hp:(s.heap.push (lstO [] 0)).get? s.heap.objs.size=some (lstO [] 0):=Heap.get?_push_size _ rfl
  have fre:=ok.fresh fa
  revert k
  generalize Y.args as sl=o
  intro k
  have g:Nx Y Z s Z { s with heap:=s.heap.push (lstO [] 0),toks:=s.toks }:=Zpo ok.c.sub _ _
  cases o with
  | stuck=>exact k
  | exc=>exact fun x s₂ e=>k x s₂ (g.ex e fun _ q=>q.elim)
  | ok sls=>
   intro vs ads Z₂ s₂ e
   have na:some s.heap.objs.size∉ads:=fun m=>(e.ao.mem m).elim (fun ⟨j,_,q⟩=>fre.2.2.2.1 j q) fun z=>(by rw [show (s.heap.push (lstO [] 0)).get? s.heap.objs.size=none from z] at hp;cases hp)
   exact k (.ref s.heap.objs.size::vs) (some s.heap.objs.size::ads) Z₂ s₂ ⟨g.nx e.nx,.own (us:= []) (n:=0) (e.nx.ks.keep _ _ hp id fre.2.1) (Nat.zero_le _) rfl e.at_,.fresh fa na (e.ao.mono fun b z=>(g.ks.gone z).resolve_left id),
    fun b m=>(List.mem_cons.mp m).elim (fun q=>(Option.some.inj q).symm ▸ e.nx.still fre.1 ((congrArg Option.isSome hp).trans rfl)) (e.nz b)⟩
theorem AsT.star {bs:List Bool} {e:Expr} {es:List Expr} {as:As} (h:AsT R bs (e::es) as):noStar e=true:=by cases h<;>first | rfl | assumption
theorem AsT.len {bs:List Bool} {es:List Expr} {as:As} (h:AsT R bs es as):bs.length=es.length:=by
 induction h with
 | nil=>rfl
 | val _ _ _ ih=>exact congrArg (· + 1) ih
 | own _ _ _ ih=>exact congrArg (· + 1) ih
 | fresh _ ih=>exact congrArg (· + 1) ih
theorem ZsY {as:As}:∀{sls:List Slot} {j:Nat},j∈asOwn as→Y.args as sl = .ok sls→∃xs,sl[j]?=some (.own xs):=by
 induction as with
 | nil=>exact fun h=>nomatch h
 | val c r ih=>
  intro sls j h hr
  replace hr:(Y.ex c sl>>=fun x=>Y.args r sl>>=fun xs=> .ok (.val x::xs)) = .ok sls:=hr
  cases h1:Y.ex c sl with
  | ok x=>
   rw [h1] at hr
   cases h2:Y.args r sl with
   | ok xs=>exact ih h h2
   | _=>rw [show (Out.ok x>>=fun x=>Y.args r sl>>=fun xs=>Out.ok (Slot.val x::xs))=(Y.args r sl>>=fun xs=> .ok (.val x::xs)) from rfl,h2] at hr;cases hr
  | _=>rw [h1] at hr;cases hr
 | own i r ih=>
  intro sls j h hr
  replace hr:(ownS sl[i]?>>=fun ys=>Y.args r sl>>=fun xs=> .ok (.own ys::xs)) = .ok sls:=hr
  cases hs:sl[i]? with
  | none=>rw [hs] at hr;cases hr
  | some t=>
   rw [hs] at hr
   cases t with
   | own ys=>
    rcases List.mem_cons.mp h with rfl | h
    ·exact ⟨ys,hs⟩
    ·cases h2:Y.args r sl with
     | ok xs=>exact ih h h2
     | _=>rw [show (ownS (some (.own ys))>>=fun ys=>Y.args r sl>>=fun xs=>Out.ok (Slot.own ys::xs))=(Y.args r sl>>=fun xs=> .ok (.own ys::xs)) from rfl,h2] at hr;cases hr
   | _=>cases hr
 | fresh r ih=>
  intro sls j h hr
  replace hr:(Y.args r sl>>=fun xs=> .ok (.own []::xs)) = .ok sls:=hr
  cases h2:Y.args r sl with
  | ok xs=>exact ih h h2
  | _=>rw [h2] at hr;cases hr
theorem BackAt.alive {P:Prg} {Z:Zm} {h:Heap} {os:List Slot} {ads:List (Option Addr)} (x:BackAt P Z h os ads) {b:Addr}:AsIn ads b→(h.get? b).isSome=true:=by
 induction x with
 | nil=>exact fun m=>nomatch m
 | val _ ih=>exact fun m=>ih ((List.mem_cons.mp m).resolve_left fun q=>nomatch q)
 | own e _ _ _ ih=>exact fun m=>(List.mem_cons.mp m).elim (fun q=>by cases q;rw [e];rfl) ih
theorem SS.callx {f:Str} {e:Expr} {es:List Expr} {p q sp:Pos} {i:Nat} {bs:List Bool} {as:As} (hg:R.glob f=true) (hi:R.fns.lookup f=some i) (hio:R.io.lookup f=some bs) (has:AsT R bs (e::es) as):SS R (.Expr (.Call (.Name f p) (e::es) [] q) sp) (.callx i as):=by
 intro Y env io Z oa sl s Q E so k
 refine wpAny_Expr_any ?_ (ZoT so) rfl
 rw [arm_eval_Call_Name']
 obtain ⟨a,fd,d,hmg,ho,hname⟩:=so.ok.c.glo.fn f i (so.ok.st.fns ▸ hi)
 refine wpAny_bind (ZpJ so.ok hg hmg ?_)
 obtain ⟨o,ho1,ho2⟩:=ho.obj
 refine KSt.need (o:=Y.args as sl>>=fun xs=>outX (callT real Y.P.T Y.r i xs)>>=fun os=>back as os sl>>=nextK) k fun hnd k=> ?_
 have main:wpAny Y.M Y.A (spliced (backTo q (starEach (e::es) env))) (fun vs s₁=>(s₁.heap.get? a=some o∧o.data = .func fd)∧wpAny Y.M Y.A (PySem.call (.ref a) ([]++vs) []) (fun _=>Q .next) E s₁) E s:=by
  refine Zsi has so.ok ?_
  cases hs:Y.args as sl with
  | stuck=>rw [hs] at k;exact k
  | exc=>rw [hs] at k;exact KSt.post.exc k
  | ok sls=>
   rw [hs] at k
   replace k:KSt R Y env io oa Q E Z s (outX (callT real Y.P.T Y.r i sls)>>=fun os=>back as os sl>>=nextK):=k
   intro vs ads Z₁ s₁ ae
   have c1:=so.ok.c.nx ae.nx
   refine ⟨⟨c1.gh _ _ ho1,ho2⟩,?_⟩
   have mem:∀b,AsIn ads b→b∉fas Y.l∧Y.base.get? b=none∧¬Loc env b:=fun b m=>(ae.ao.mem m).elim (fun ⟨j,_,q⟩=>have o:=so.ok.own j b q;⟨o.2.2.1,so.ob j b q,o.2.2.2.1⟩) fun z=>have f:=so.ok.fresh z;⟨f.2.1,f.2.2.2.2,f.2.2.1⟩
   refine so.ok.st.calls Y rfl rfl c1 ho ae.at_ (ae.ao.inj so.ok.oinj (fun j a q=>(so.ok.own j a q).2.2.2.2) hnd) (fun b m=>⟨ae.nz b m,(mem b m).2.1,(mem b m).1⟩) (fun hl=> ?_) ?_
   ·rw [show (Y.P.io.lookup d.name).getD []=bs by rw [hname,←so.ok.st.io,hio];rfl]
    exact ae.ao.flags (hl.trans ae.at_.len.1)
   revert k
   generalize callT real Y.P.T Y.r i sls=oo
   intro k
   cases oo with
   | stuck=>exact False.elim k
   | exc=>exact False.elim k
   | ok y=>
    obtain ⟨fl,os⟩:=y
    cases fl with
    | ret dd=>
     intro v Z₂ s₂ g2 nz2 rv ba
     replace k:KSt R Y env io oa Q E Z s (back as os sl>>=nextK):=k
     cases hbk:back as os sl with
     | exc=>exact absurd hbk (Zsh _ _ _)
     | stuck=>rw [hbk] at k;exact False.elim k
     | ok sl'=>
      rw [hbk] at k
      obtain ⟨hlen,hsl⟩:=Zsg ae.ao ba hbk
      have ok1:=so.ok.nx ae.nx
      have nL:∀b,Loc env b→¬AsIn ads b:=fun b l m=>(mem b m).2.2 l
      have kd:∀b o,¬AsIn ads b→s₁.heap.get? b=some o→∃o',s₂.heap.get? b=some o'∧o'.data=o.data:=fun b o n e=>g2.ks.stay e n
      have still:∀b,Z₁ b=none→(s₁.heap.get? b).isSome=true→Z₂ b=none∧(s₂.heap.get? b).isSome=true:=fun b z e=>by
       by_cases m:AsIn ads b
       ·exact ⟨nz2 b m,ba.alive m⟩
       ·refine ⟨?_,?_⟩
        ·cases q:Z₂ b with
         | none=>rfl
         | some o=>
          rcases g2.new b (by rw [q];exact nofun) with n | n | n
          ·exact absurd z n
          ·exact absurd n m
          ·rw [n] at e;cases e
        ·cases q:s₁.heap.get? b with
         | none=>rw [q] at e;cases e
         | some o=>obtain ⟨o',e',_⟩:=kd b o m q;rw [e'];rfl
      have kv:∀{y v},VarAt s₁.heap env y v→VarAt s₂.heap env y v:=fun q=>q.keep fun b o l e=>kd b o (nL b l) e
      have ok2:Ok R Y env Z₂ oa sl' s₂.heap:=
       {
        ok1 with
        c:=ok1.c.ks g2.ks (fun b m=>(mem b m).2.1) g2.le g2.sub fun b hb=>(still b (ok1.c.frz b hb) (by obtain ⟨_,o,e,_⟩:=Zpe ok1.c.below.frames b hb;rw [e];rfl)).1
        var:=fun y j e=>by
         have q:=ok1.var y j e
         rcases hsl j with ⟨q1,q2⟩ | ⟨a',us',n',ys',q1,q2,q3,q4,q5⟩
         ·rw [q2]
          refine q.keep g2.le kv fun a' o ha e=>g2.ks.keep a' o e (fun m=> ?_) (ok1.own j a' ha).2.2.1
          rcases ae.ao.mem m with ⟨m',hm,e'⟩ | z
          ·exact q1 (so.ok.oinj m' j a' e' ha ▸ hm)
          ·have:=(so.ok.own j a' ha).2.2.2.2;rw [z] at this;cases this
         ·rw [q5 (by rw [so.ok.len];exact so.ok.st.wf.lt y j e)]
          obtain ⟨xs,hxs⟩:=ZsY q1.1 hs
          rw [hxs] at q
          obtain ⟨a'',vs',n'',a0,a1,_⟩:=q
          rw [q1.2] at a0;cases a0
          exact ⟨a',us',n',q1.2,kv a1,q2,q3,q4⟩
        has:=fun y j e=>(ok1.has y j e).imp fun _ q=>kv q
        len:=hlen.trans so.ok.len
        loz:=fun b q=>still b (ok1.loz b q).1 (ok1.loz b q).2
        own:=fun j a q=>have o:=ok1.own j a q;have t:=still a o.1 o.2.2.2.2;⟨t.1,o.2.1,o.2.2.1,o.2.2.2.1,t.2⟩
        ns:=ok1.ns.imp fun m q=>ns_keep q fun o e=>kd _ o (nL _ (.inl rfl)) e }
      refine k _ oa Z₂ s₂ ⟨⟨ok2,so.hB,so.ob,so.ioR,fun j b hj=>⟨(so.io j b hj).1,?_⟩⟩,(Nx.go ae.nx g2).mono fun b m=>(ae.ao.mem m).imp (fun ⟨j,_,q⟩=> .inr ⟨j,q⟩) id,fun i a h=> .inl ⟨i,h⟩⟩ rfl
      obtain ⟨xs,hxs⟩:=(so.io j b hj).2
      rcases hsl j with ⟨_,q2⟩ | ⟨_,_,_,ys',_,_,_,_,q5⟩
      ·rw [q2];exact ⟨xs,hxs⟩
      ·exact ⟨ys',q5 (List.getElem?_eq_some_iff.mp hxs).1⟩
    | _=>exact False.elim k
 rw [ZoV has.star] at main ⊢
 exact Calls.callWith_function (o:=o) (fd:=fd) (Calls.evalArgs_plain main)
end
end DK.Internal
end
section
set_option backward.match.sparseCases false
set_option genSizeOf false
set_option genCtorIdx false
namespace DK.Internal
open PySem PyProof.Rows
noncomputable def locals (ps:List Str) (names:List (Str × NameKind)):List Str:=
 ps++(names.filter fun n=>(n.2 == .local || n.2 == .cell) && !ps.contains n.1).map (·.1)
noncomputable def placed (n:Nat):List Str→List (Str × Nat)
 | []=> []
 | x::r=>(x,n)::placed (n+1) r
noncomputable def rsOf (P:Prg) (own:List Str) (d:Def):Rs:=
 {
  loc:=placed 0 (locals d.ps d.names),fns:=P.fns,gls:=P.gls,io:=P.io,nl:=(locals d.ps d.names).length,own:=own,names:=d.names,byref:=refsOf d.ps ((P.io.lookup d.name).getD []) }
def Bodies (P:Prg):Prop:=∀(i:Nat) (d:Def) (fn:Fn),P.defs[i]?=some d→P.T.fns[i]?=some fn→∃own,fn.np=d.ps.length∧fn.nl=(locals d.ps d.names).length∧SSs (rsOf P own d) d.body fn.body
theorem placed_get {x:Str} {i:Nat} (ls:List Str):∀{n:Nat},(placed n ls).lookup x=some i→n≤i∧ls[i - n]?=some x:=by
 induction ls with
 | nil=>exact fun h=>nomatch h
 | cons y ls ih=>
  intro n h
  rw [placed,List.lookup_cons] at h
  cases hxy:x == y with
  | true=>rw [hxy] at h;cases h;rw [Nat.sub_self,eq_of_beq hxy];exact ⟨Nat.le_refl _,rfl⟩
  | false=>
   rw [hxy] at h
   obtain ⟨a,b⟩:=ih h
   refine ⟨by exact Nat.le_of_lt (by assumption),?_⟩
   rw [show i - n=(i - (n+1))+1 by lia];exact b
theorem ZrC {x:Str} (ls ms:List Str):∀{i n:Nat},ls.Nodup→ls[i]?=some x→(placed n (ls++ms)).lookup x=some (n+i):=by
 induction ls with
 | nil=>exact fun _ h=>nomatch h
 | cons y ls ih=>
  intro i n nd h
  obtain ⟨n1,n2⟩:=List.nodup_cons.mp nd
  rw [List.cons_append,placed,List.lookup_cons]
  cases i with
  | zero=>cases h;rw [beq_self_eq_true];rfl
  | succ i=>
   have h:ls[i]?=some x:=h
   rw [beq_eq_false_iff_ne.mpr fun q=>n1 (by rw [←q];exact List.mem_of_getElem? h)]
   exact (ih (n:=n+1) n2 h).trans (congrArg some (by exact Nat.add_right_comm _ _ _))
theorem ZqD {x:Str} (ns:List (Str × NameKind)):∀{n:Nat} {acc:List (Str × Addr)},(x,NameKind.cell)∈ns∨(acc.lookup x).isSome=true→((cellsFrom n ns acc).lookup x).isSome=true:=by
 induction ns with
 | nil=>exact fun h=>h.elim (fun q=>nomatch q) id
 | cons p r ih=>
  obtain ⟨y,k⟩:=p
  intro n acc h
  unfold cellsFrom
  by_cases hk:k = .cell
  ·subst hk
   rw [if_pos (beq_self_eq_true _)]
   refine ih ?_
   rw [List.lookup_cons]
   by_cases hxy:x=y
   ·subst hxy;rw [beq_self_eq_true];exact .inr rfl
   ·rw [beq_eq_false_iff_ne.mpr hxy]
    exact h.imp (fun q=>(List.mem_cons.mp q).resolve_left fun q=>hxy (congrArg Prod.fst q)) id
  ·rw [if_neg (by rw [beq_iff_eq];exact hk)]
   exact ih (h.imp (fun q=>(List.mem_cons.mp q).resolve_left fun q=>hk (congrArg Prod.snd q).symm) id)
theorem ZqE {kf:Str→Option NameKind} {x:Str} (ps:List Str):∀{vs:List Value} {m:Str→Option Value},x∉ps→bindL kf (ps.zip vs) m x=m x∧bindC kf (ps.zip vs) m x=m x:=by
 induction ps with
 | nil=>exact fun _=>⟨rfl,rfl⟩
 | cons p ps ih=>
  intro vs m h
  cases vs with
  | nil=>exact ⟨rfl,rfl⟩
  | cons v vs=>
   have ne:x≠p:=fun q=>h (q ▸ List.mem_cons_self ..)
   rw [List.zip_cons_cons,bindL,bindC,(ih fun q=>h (List.mem_cons_of_mem _ q)).1,(ih fun q=>h (List.mem_cons_of_mem _ q)).2]
   refine ⟨?_,?_⟩
   ·split
    ·exact if_neg ne
    ·rfl
   ·split
    ·rfl
    ·exact if_neg ne
theorem ZsZ {kf:Str→Option NameKind} {x:Str} {v:Value} (ps:List Str):∀{vs:List Value} {m:Str→Option Value} {i:Nat},ps.Nodup→ps[i]?=some x→vs[i]?=some v→(kf x=some .local→bindL kf (ps.zip vs) m x=some v)∧(kf x=some .cell→bindC kf (ps.zip vs) m x=some v):=by
 induction ps with
 | nil=>exact fun _ h=>nomatch h
 | cons p ps ih=>
  intro vs m i nd hp hv
  cases vs with
  | nil=>cases hv
  | cons u vs=>
   obtain ⟨n1,n2⟩:=List.nodup_cons.mp nd
   rw [List.zip_cons_cons,bindL,bindC]
   cases i with
   | zero=>
    cases hp;cases hv
    rw [(ZqE ps n1).1,(ZqE ps n1).2]
    exact ⟨fun hk=>by rw [if_pos hk];exact if_pos rfl,fun hk=>by rw [if_neg (by rw [hk];exact nofun)];exact if_pos rfl⟩
   | succ i=>exact ⟨(ih n2 hp hv).1,(ih n2 hp hv).2⟩
section
variable {P:Prg} {Z:Zm} {h:Heap} {ads:List (Option Addr)}
theorem ArgsAt.at {vs:List Value} {sls:List Slot} (x:ArgsAt P Z h vs sls ads):∀{i:Nat} {t:Slot},sls[i]?=some t →
  ∃v,vs[i]?=some v∧((∃d,t = .val d∧Rep P Z d v∧ads[i]?=some none)∨(∃a us n xs,t = .own xs∧v = .ref a∧ads[i]?=some (some a)∧h.get? a=some (lstO us n)∧us.length≤SZ∧Reps P Z xs us)):=by
 induction x with
 | nil=>exact fun e=>nomatch e
 | val r _ ih=>
  intro i t e
  cases i with
  | zero=>cases e;exact ⟨_,rfl,.inl ⟨_,rfl,r,rfl⟩⟩
  | succ i=>exact ih e
 | own hL z r _ ih=>
  intro i t e
  cases i with
  | zero=>cases e;exact ⟨_,rfl,.inr ⟨_,_,_,_,rfl,rfl,rfl,hL,z,r⟩⟩
  | succ i=>exact ih e
theorem ZsD (ads:List (Option Addr)):∀{os:List Slot},os.length=ads.length→(∀(i:Nat) (a:Addr),ads[i]?=some (some a)→∃us n xs,os[i]?=some (.own xs)∧h.get? a=some (lstO us n)∧us.length≤SZ∧Reps P Z xs us)→BackAt P Z h os ads:=by
 induction ads with
 | nil=>intro os hl _;cases os with
  | nil=>exact .nil
  | cons o os=>cases hl
 | cons ad ads ih=>
  intro os hl hq
  cases os with
  | nil=>cases hl
  | cons o os=>
   have r:=ih (os:=os) (Nat.succ.inj hl) fun i a hi=>hq (i+1) a hi
   cases ad with
   | none=>exact .val r
   | some a=>
    obtain ⟨us,n,xs,e,q1,q2,q3⟩:=hq 0 a rfl
    cases e
    exact .own q1 q2 q3 r
theorem ZrD {j:Nat} {b:Addr} (q:(ads[j]?).join=some b):ads[j]?=some (some b):=by
 cases e:ads[j]? with
 | none=>rw [e] at q;cases q
 | some o=>rw [e] at q;exact congrArg some q
end
theorem rs_wf (P:Prg) (own:List Str) (d:Def):(rsOf P own d).WF:=by
 refine ⟨fun x y i hx hy=> ?_,fun x i hx=> ?_⟩
 ·obtain ⟨_,e1⟩:=placed_get _ hx
  obtain ⟨_,e2⟩:=placed_get _ hy
  rw [e1] at e2;exact Option.some.inj e2
 ·obtain ⟨_,e1⟩:=placed_get _ hx
  exact (List.getElem?_eq_some_iff.mp e1).1
theorem Zta {Y:Cx} {r f:Nat} {Z:Zm} {s:Shared} {a:Addr} {fd:FuncData} {d:Def} {own:List Str} {vs:List Value} {sls:List Slot} {ads:List (Option Addr)} {env:Env} {h:Heap} (hr:Y.r=r+1) (calls:∀Y':Cx,Y'.P=Y.P→Y'.r=r→CallG Y')
  (c:COk Y Z s.heap) (ho:FnOk Y.P a f fd d) (aa:ArgsAt Y.P Z s.heap vs sls ads) (inj:∀(i j:Nat) (b:Addr),ads[i]?=some (some b)→ads[j]?=some (some b)→i=j) (hin:∀b,AsIn ads b→Z b=none∧Y.base.get? b=none∧b∉fas Y.l)
  (flags:∀(i:Nat) (b:Addr),ads[i]?=some (some b)→∃x,d.ps[i]?=some x∧x∈refsOf d.ps ((Y.P.io.lookup d.name).getD [])) (hl:sls.length=d.ps.length)
  (he:env=newEnv fd.scope s.heap.objs.size fd.globals (cellsFrom (s.heap.objs.size+1) fd.scope.names []) (fd.qualname ++ ".<locals>.") (some a) fd.code none fd.builtins)
  (hns:h.Ns env.locals (bindL env.kindOf (d.ps.zip vs) fun _=>none)) (hcell:∀n c,env.cells.lookup n=some c→h.IsCell c (bindC env.kindOf (d.ps.zip vs) (fun _=>none) n)) (apart:env.cells.Pairwise fun x y=>x.2≠y.2) (above:∀n c,(n,c)∈env.cells→env.locals < c)
  (keep:∀b o,s.heap.get? b=some o→h.get? b=some o) :
  SOk (rsOf Y.P own d) { Y with r:=r,A:=Y.A.deeper env,l:=env::Y.l } env (fun j=>(ads[j]?).join) Z (fun j=>(ads[j]?).join) (sls++List.replicate ((locals d.ps d.names).length - d.ps.length) .un) h:=by
 have eL:env.locals=s.heap.objs.size:=by rw [he];rfl
 have eK:∀x,env.kindOf x=d.names.lookup x:=fun x=>by rw [he,←ho.names];rfl
 have eF:env.frame=some env.locals:=by rw [he];rfl
 have eS:env.scope.kind = .function:=by rw [he];exact ho.kind
 have adM:∀{j:Nat} {b:Addr},(ads[j]?).join=some b→AsIn ads b:=fun q=>List.mem_of_getElem? (ZrD q)
 have fLoc:∀b,Loc env b→s.heap.get? b=none:=fun b q=>Heap.get?_none_of_le (q.elim (fun q=>by rw [q,eL];exact Nat.le_refl _) fun ⟨x,q⟩=>by have:=above x b (lookup_mem q);rw [eL] at this;exact Nat.le_of_lt this)
 have bN:∀b,s.heap.get? b=none→Y.base.get? b=none:=fun b hb=>by
  cases e:Y.base.get? b with
  | none=>rfl
  | some o=>rw [c.below.stays b o e] at hb;cases hb
 have adAt:∀{j:Nat} {b:Addr},ads[j]?=some (some b)→∃us n xs,sls[j]?=some (.own xs)∧s.heap.get? b=some (lstO us n):=fun {j b} q=>by
  have hlt:j < sls.length:=by rw [aa.len.1];exact (List.getElem?_eq_some_iff.mp q).1
  obtain ⟨v,_,q' | ⟨a',us,n,xs,q1,_,q3,q4,_⟩⟩:=aa.at (List.getElem?_eq_getElem hlt)
  ·obtain ⟨_,_,_,q'⟩:=q';rw [q] at q';cases q'
  ·rw [q] at q3;cases q3
   exact ⟨us,n,xs,(List.getElem?_eq_getElem hlt).trans (congrArg some q1),q4⟩
 have hfa:fas (env::Y.l)=env.locals::fas Y.l:=by unfold fas;rw [List.filterMap_cons_some eF]
 have cellAt:∀x,d.names.lookup x=some .cell→∃b,env.cells.lookup x=some b:=fun x hx=>by
  have:((cellsFrom (s.heap.objs.size+1) fd.scope.names []).lookup x).isSome=true:=ZqD _ (.inl (by rw [ho.names];exact lookup_mem hx))
  rw [show cellsFrom (s.heap.objs.size+1) fd.scope.names []=env.cells by rw [he];rfl] at this
  exact Option.isSome_iff_exists.mp this
 have kinds:∀{x:Str} {j:Nat},(placed 0 (locals d.ps d.names)).lookup x=some j→d.names.lookup x=some .local∨d.names.lookup x=some .cell:=fun {x j} hx=>by
  obtain ⟨_,e⟩:=placed_get _ hx
  rcases List.mem_append.mp (List.mem_of_getElem? e) with q | q
  ·exact ho.pk x q
  ·obtain ⟨n,hn,rfl⟩:=List.mem_map.mp q
   obtain ⟨h1,h2⟩:=List.mem_filter.mp hn
   rw [ho.nk n h1]
   rw [Bool.and_eq_true,Bool.or_eq_true,beq_iff_eq,beq_iff_eq] at h2
   exact h2.1.imp (congrArg some) (congrArg some)
 have pget:∀{x:Str} {j:Nat},(placed 0 (locals d.ps d.names)).lookup x=some j→j < d.ps.length→d.ps[j]?=some x:=fun {x j} hx hj=>by
  obtain ⟨_,e⟩:=placed_get _ hx
  rw [Nat.sub_zero,locals,List.getElem?_append_left hj] at e
  exact e
 have aliveL:∀b,Loc env b→(h.get? b).isSome=true:=fun b q=>by
  rcases q with rfl | ⟨x,q⟩
  ·obtain ⟨o,_,_,e,_⟩:=hns;rw [e];rfl
  ·obtain ⟨o,e,_⟩:=hcell x b q;rw [e];rfl
 have hsz:d.ps.length≤(locals d.ps d.names).length:=by unfold locals;rw [List.length_append];exact Nat.le_add_right _ _
 refine
  {
   ok:=
    {
     st:=
      {
       calls:=calls,fns:=rfl,gls:=rfl,io:=rfl,kind:=eS,glob:=by rw [he];exact ho.glob,buil:=by rw [he];exact ho.buil,gk:=fun x hx=>by rw [eK];exact hx
       ck:=fun x hx=>⟨by rw [eK];exact hx,by obtain ⟨b,hb⟩:=cellAt x hx;rw [hb];rfl⟩
       fr:=⟨env,Y.l,env.locals,rfl,eF,eF⟩,wf:=rs_wf _ _ _
       cellA:=fun x y b hx hy=>name_of_addr apart (lookup_mem hx) (lookup_mem hy)
       cellL:=fun x b hb=>Nat.ne_of_gt (above x b (lookup_mem hb)) }
     c:=
      {
       glo:=c.glo
       below:=⟨by show Y.A.frames.map (env :: ·)=_;rw [c.below.stack];rfl,fun b o e=>keep b o (c.below.stays b o e),by
        refine ⟨by rw [eS];exact nofun,⟨env.locals,?_⟩,c.below.frames.of_keeps fun b o e _=>⟨o,keep b o e,rfl⟩⟩
        obtain ⟨o,es,ep,e,hd,_⟩:=hns
        exact ⟨o,eF,bN _ (fLoc _ (.inl rfl)),e,by rw [hd];exact nofun⟩⟩
       gb:=c.gb
       sub:=fun b o e=>keep b o (c.sub b o e)
       gz:=c.gz
       frz:=fun b hb=>by
        rw [hfa] at hb
        rcases List.mem_cons.mp hb with q | q
        ·exact c.sub.fresh (fLoc b (.inl q))
        ·exact c.frz b q
       depth:=by show Y.A.depth+1+r < _;have:=c.depth;lia
       units:=by show Y.A.units+3+3*r+100≤_;have:=c.units;lia
       hand:=c.hand }
     var:=fun x j hx=> ?_
     has:=fun x j hx=> ?_
     len:= ?_
     loz:=fun b q=>⟨c.sub.fresh (fLoc b q),aliveL b q⟩
     own:=fun i b hi=> ?_
     oinj:=fun i j b hi hj=>inj i j b (ZrD hi) (ZrD hj)
     ns:=⟨_,hns⟩ }
   hB:=fun x i b _ hm=>bN b (fLoc b (ZpD hm))
   ob:=fun i b hi=>(hin b (adM hi)).2.1
   ioR:=fun x j hx=> ?_
   io:=fun i b hi=>⟨hi,?_⟩ }
 ·replace hx:(placed 0 (locals d.ps d.names)).lookup x=some j:=hx
  by_cases hj:j < d.ps.length
  ·have hlt:j < sls.length:=by rw [hl];exact hj
   rw [List.getElem?_append_left hlt]
   have e:=List.getElem?_eq_getElem hlt
   rw [e]
   obtain ⟨v,hv,q⟩:=aa.at e
   have va:VarAt h env x (some v):=by
    have bg:=ZsZ (kf:=env.kindOf) (m:=fun _=>none) d.ps ho.nd (pget hx hj) hv
    rcases kinds hx with q | q
    ·exact .inl ⟨by rw [eK,q],_,hns,bg.1 (by rw [eK,q])⟩
    ·obtain ⟨b,hb⟩:=cellAt x q
     have:=hcell x b hb
     rw [bg.2 (by rw [eK,q])] at this
     exact .inr ⟨by rw [eK,q],b,hb,this⟩
   rcases q with ⟨dd,q1,q2,_⟩ | ⟨b,us,n,xs,q1,rfl,q3,q4,q5,q6⟩
   ·rw [q1];exact ⟨v,va,q2⟩
   ·rw [q1];exact ⟨b,us,n,congrArg Option.join q3,va,keep _ _ q4,q5,q6⟩
  ·rw [List.getElem?_append_right (by rw [hl];exact Nat.le_of_not_lt hj),List.getElem?_replicate]
   split<;>trivial
 ·replace hx:(placed 0 (locals d.ps d.names)).lookup x=some j:=hx
  rcases kinds hx with q | q
  ·exact ⟨_,.inl ⟨by rw [eK,q],_,hns,rfl⟩⟩
  ·obtain ⟨b,hb⟩:=cellAt x q
   exact ⟨_,.inr ⟨by rw [eK,q],b,hb,hcell x b hb⟩⟩
 ·rw [List.length_append,List.length_replicate,hl]
  exact Nat.add_sub_cancel' hsz
 ·obtain ⟨us,n,xs,_,q4⟩:=adAt (ZrD hi)
  have old:∀{b'},s.heap.get? b'=none→b≠b':=fun z q=>by rw [q,z] at q4;cases q4
  exact ⟨(hin b (adM hi)).1,trivial,fun m=>by
   rw [hfa] at m
   rcases List.mem_cons.mp m with q | q
   ·exact old (fLoc _ (.inl rfl)) q
   ·exact (hin b (adM hi)).2.2 q,fun l=>old (fLoc b l) rfl,by rw [keep _ _ q4];rfl⟩
 ·show (ads[j]?).join=none
  cases e:(ads[j]?).join with
  | none=>rfl
  | some b=>
   obtain ⟨y,hy,hm⟩:=flags j b (ZrD e)
   have:=pget (Zpd hx) (List.getElem?_eq_some_iff.mp hy).1
   rw [hy] at this
   cases this
   unfold Rs.put at hx
   rw [if_pos (show _∈(rsOf Y.P own d).byref from hm)] at hx;cases hx
 ·obtain ⟨us,n,xs,q1,_⟩:=adAt (ZrD hi)
  exact ⟨xs,by rw [List.getElem?_append_left (List.getElem?_eq_some_iff.mp q1).1];exact q1⟩
theorem ZsE {Y:Cx} {r:Nat} (hr:Y.r=r+1) (H:Bodies Y.P) (calls:∀Y':Cx,Y'.P=Y.P→Y'.r=r→CallG Y'):CallG Y:=by
 intro Z s f a fd d vs sls ads Q E c ho aa inj hin flags k
 rw [hr] at k
 replace k:KG Y Z ads (runF real Y.P.T (callT real Y.P.T r) sls Y.P.T.fns[f]?) Q E s:=k
 cases hfn:Y.P.T.fns[f]? with
 | none=>rw [hfn] at k;exact False.elim k
 | some fn=>
  rw [hfn] at k
  obtain ⟨own,hnp,hnl,hbody⟩:=H f d fn ho.fn hfn
  replace k:KG Y Z ads (need (sls.length=fn.np∧fn.np≤fn.nl) (sts real Y.P.T (callT real Y.P.T r) fn.body (fn.start sls)>>=retF fn.np)) Q E s:=k
  by_cases hl:sls.length=fn.np∧fn.np≤fn.nl
  ·rw [show need (sls.length=fn.np∧fn.np≤fn.nl) (sts real Y.P.T (callT real Y.P.T r) fn.body (fn.start sls)>>=retF fn.np)=_ from if_pos hl] at k
   rw [show fn.start sls=sls++List.replicate ((locals d.ps d.names).length - d.ps.length) .un by unfold Fn.start;rw [hnp,hnl]] at k
   rw [hnp] at k hl
   obtain ⟨o,ho1,ho2⟩:=ho.obj
   refine wpAny_call (codeAny_call_function (by have:=c.depth;lia) (c.gh _ _ ho1) ho2 ho.co ho.gen ho.body (ho.code.keeps c.gh) ?_)
   rw [ho.bind vs (by rw [aa.len.2,←aa.len.1,hl.1])]
   refine wpAny_pure ?_
   rw [ho.clo]
   refine wpAny_newFunctionEnv_cells ho.kind (fun x hx=> ?_) fun env he s' ic=> ?_
   ·exact (ho.pk x.1 (List.of_mem_zip (a:=x.1) (b:=x.2) hx).1).imp (fun q=>by rw [ho.names];exact q) fun q=>⟨by rw [ho.names];exact q,ZqD _ (.inl (by rw [ho.names];exact lookup_mem q))⟩
   ·obtain ⟨h,tk,rfl⟩:=ic.toInCall.same
    have so:=Zta (own:=own) (h:=h) hr calls c ho aa inj hin (flags hl.1.symm) hl.1 he ic.toInCall.ns ic.cell ic.apart ic.above ic.toInCall.keep
    have keep:=ic.toInCall.keep
    refine ⟨c.glo.lim.keeps fun b o e=>keep b o (c.gh b o e),codeAny_func (hbody (Y:={ Y with r:=r,A:=Y.A.deeper env,l:=env::Y.l }) (s:={ s with heap:=h,toks:=tk }) so ?_)⟩
    have eF:env.frame=some env.locals:=by rw [he];rfl
    have hfa:fas (env::Y.l)=env.locals::fas Y.l:=by unfold fas;rw [List.filterMap_cons_some eF]
    have fLoc:∀b,Loc env b→s.heap.get? b=none:=fun b q=>Heap.get?_none_of_le (q.elim (fun q=>by rw [q,he];exact Nat.le_refl _) fun ⟨x,q⟩=>by have:=ic.above x b (lookup_mem q);rw [he] at this;exact Nat.le_of_lt this)
    have wIn:∀b,Wr (rsOf Y.P own d) env (fun j=>(ads[j]?).join) b→AsIn ads b∨s.heap.get? b=none:=fun b q=>q.elim (fun q=> .inr (fLoc b (ZoY q))) fun ⟨j,q⟩=> .inl (List.mem_of_getElem? (ZrD q))
    have notW:∀b o,s.heap.get? b=some o→¬AsIn ads b→¬Wr (rsOf Y.P own d) env (fun j=>(ads[j]?).join) b:=fun b o e nb q=>(wIn b q).elim nb fun z=>by rw [z] at e;cases e
    have hfm:∀b o,s.heap.get? b=some o→(b∈fas (env::Y.l)↔b∈fas Y.l):=fun b o e=>by
     rw [hfa]
     exact ⟨fun m=>(List.mem_cons.mp m).resolve_left fun q=>(by rw [q,fLoc _ (.inl rfl)] at e;cases e),List.mem_cons_of_mem _⟩
    replace k:KG Y Z ads (Cx.sts { Y with r:=r,A:=Y.A.deeper env,l:=env::Y.l } fn.body (sls++List.replicate ((locals d.ps d.names).length - d.ps.length) .un)>>=retF d.ps.length) Q E s:=k
    revert k
    generalize Cx.sts { Y with r:=r,A:=Y.A.deeper env,l:=env::Y.l } fn.body (sls++List.replicate ((locals d.ps d.names).length - d.ps.length) .un)=oo
    intro k
    have fin:∀{oa' Z' sl'} {s':Shared},Aft (rsOf Y.P own d) { Y with r:=r,A:=Y.A.deeper env,l:=env::Y.l } env (fun j=>(ads[j]?).join) (fun j=>(ads[j]?).join) Z { s with heap:=h,toks:=tk } oa' Z' sl' s' →
      Go (AsIn ads) Y Z s Z' s'∧(∀b,AsIn ads b→Z' b=none)∧BackAt Y.P Z' s'.heap (sl'.take d.ps.length) ads:=by
     intro oa' Z' sl' s' af
     have oM:∀b,AsIn ads b→Z' b=none:=fun b q=>by
      obtain ⟨j,hj⟩:=List.mem_iff_getElem?.mp q
      exact (af.so.ok.own j b (af.so.io j b (congrArg Option.join hj)).1).1
     refine ⟨⟨⟨fun b o e nb m=>af.go.ks.keep b o (keep b o e) (notW b o e nb) (fun q=>m ((hfm b o e).mp q)),fun b o e nb m=>af.go.ks.fr b o (keep b o e) (notW b o e nb) ((hfm b o e).mpr m),fun b o e q m _=>absurd m (hin b q).2.2⟩,af.go.le,fun b q=> ?_,af.go.sub,af.go.same.trans rfl⟩,oM,ZsD ads ?_ fun i b hi=> ?_⟩
     ·rcases af.go.new b q with n | n | n
      ·exact .inl n
      ·exact .inr (wIn b n)
      ·refine .inr (.inr ?_)
       cases e:s.heap.get? b with
       | none=>rfl
       | some o=>have:=keep b o e;rw [show h.get? b=none from n] at this;cases this
     ·rw [List.length_take,af.so.ok.len,←aa.len.1,hl.1]
      exact Nat.min_eq_left (by unfold rsOf locals;rw [List.length_append];exact Nat.le_add_right _ _)
     ·obtain ⟨h1,xs,h2⟩:=af.so.io i b (congrArg Option.join hi)
      obtain ⟨x,hx,_⟩:=flags hl.1.symm i b hi
      have q:=af.so.ok.var x i (by have:=ZrC (n:=0) d.ps ((d.names.filter fun n=>(n.2 == .local || n.2 == .cell) && !d.ps.contains n.1).map (·.1)) ho.nd hx;rw [Nat.zero_add] at this;exact this)
      rw [h2] at q
      obtain ⟨a',us,n',a0,a1,a2,a3,a4⟩:=q
      rw [h1] at a0;cases a0
      exact ⟨us,n',xs,by rw [List.getElem?_take,if_pos (List.getElem?_eq_some_iff.mp hx).1];exact h2,a2,a3,a4⟩
    cases oo with
    | stuck=>exact False.elim k
    | exc=>
     intro x s₁ e1
     refine Zsj so.ok.c.below.stack eF e1.exc fun h2 F2 u2=>k x _ ⟨fun b o e nb nf=> ?_,F2.exc,by rw [e1.same]⟩
     obtain ⟨sl1,q1⟩:=e1.us b o (keep b o e) (notW b o e nb) nf
     obtain ⟨sl2,q2⟩:=u2 b _ q1 nf
     exact ⟨sl2,q2⟩
    | ok y=>
     obtain ⟨fl,sl'⟩:=y
     intro f' oa' Z₁ s₁ af fr
     obtain ⟨g,nz,ba⟩:=fin af
     cases fl with
     | next=>cases fr;exact k .none Z₁ s₁ g nz rfl ba
     | brk=>exact False.elim k
     | cont=>exact False.elim k
     | ret dd=>obtain ⟨v,rfl,rv⟩:=fr;exact k v Z₁ s₁ g nz rv ba
  ·rw [show need (sls.length=fn.np∧fn.np≤fn.nl) (sts real Y.P.T (callT real Y.P.T r) fn.body (fn.start sls)>>=retF fn.np) = .stuck from if_neg hl] at k
   exact False.elim k
theorem call_all {P:Prg} (H:Bodies P) (r:Nat):∀Y:Cx,Y.P=P→Y.r=r→CallG Y:=by
 induction r with
 | zero=>intro Y _ hr Z s f a fd d vs sls ads Q E _ _ _ _ _ _ k;rw [hr] at k;exact False.elim k
 | succ r ih=>intro Y hP hr;exact ZsE hr (hP ▸ H) fun Y' h1 h2=>ih Y' (h1.trans hP) h2
end DK.Internal
end
section
set_option backward.match.sparseCases false
set_option genSizeOf false
set_option genCtorIdx false
set_option genSizeOf false
set_option genInjectivity false
namespace DK.Internal
open PySem PyProof.Rows
section
universe u v
variable {α:Type u} {β:Type v}
noncomputable def ifS (o:Option α) (n:β) (s:∀a,o=some a→β):β:=
 Option.rec (motive:=fun o'=>(∀a,o'=some a→β)→β) (fun _=>n) (fun a s=>s a rfl) o s
noncomputable def ifT (b:Bool) (n:β) (s:b=true→β):β:=
 Bool.rec (motive:=fun b'=>(b'=true→β)→β) (fun _=>n) (fun s=>s rfl) b s
noncomputable def ifD (p:Prop) [h:Decidable p] (n:β) (s:p→β):β:=dite p s fun _=>n
end
structure TE (R:Rs) (e:Expr) where
 c:C
 se:SE R e c
 st:ST R e c
structure TEs (R:Rs) (es:List Expr) where
 cs:Cs
 ses:SEs R es cs
 len:∀(Y:Cx) sl ds,Y.exs cs sl = .ok ds→ds.length=es.length
 hd:∀e r,es=e::r→noStar e=true
 nil:es = []→cs = .nil
structure TP (R:Rs) (o:Option Expr) where
 c:C
 sp:SP R o c
structure TTs (R:Rs) (es:List Expr) where
 cs:Cs
 sts:STs R es cs
structure TC (R:Rs) (elt:Expr) (gens:List Comprehension) (sc:Scope) (p:Pos) where
 n:Nat
 g:Gens
 sc:SC R elt gens sc p n g
structure TI (R:Rs) (t e:Expr) where
 i:It
 si:SI R e i
 tp:i.isEnum=true→isTup t=true
structure TG (R:Rs) (t:Expr) where
 g:Tgt
 tg:Tg R t g
structure TN (R:Rs) (ts:List Expr) where
 is:List Nat
 tn:TgtN R ts is
structure TD (ks:List (Option Expr)) (vs:List Expr) where
 ps:List (Str × Int)
 dp:DP ks vs ps
structure TA (R:Rs) (bs:List Bool) (es:List Expr) where
 as:As
 h:AsT R bs es as
structure TS (R:Rs) (st:Stmt) where
 c:S
 f:List Nat
 ss:SS R st c
structure TSs (R:Rs) (sts:List Stmt) where
 c:Ss
 ss:SSs R sts c
section
variable {R:Rs}
theorem Ztb {Y:Cx} {c:C} {cs:Cs} {sl:List Slot} {ds:List D} {n:Nat} (h:∀ds,Y.exs cs sl = .ok ds→ds.length=n) (q:Y.exs (.cons c cs) sl = .ok ds):ds.length=n+1:=by
 replace q:ap2 consK (Y.ex c sl) (Y.exs cs sl) = .ok ds:=q
 revert q
 cases Y.ex c sl with
 | ok x=>
  cases e:Y.exs cs sl with
  | ok xs=>intro q;cases q;exact congrArg (· + 1) (h _ e)
  | exc=>intro q;cases q
  | stuck=>intro q;cases q
 | exc=>intro q;cases q
 | stuck=>intro q;cases q
noncomputable def TE.no {e:Expr} {c:C} (h:SE R e c) (q:∀(Y:Cx) sl,Y.tst c sl = .stuck):TE R e:=⟨c,h,ST.no q⟩
noncomputable def TE.val {e:Expr} {c:C} (h:SE R e c) (q:∀(Y:Cx) sl,Y.tst c sl=(Y.ex c sl>>=truthy)) (he:∀env whole,isTrue e env whole=(do let v ←whole;standAt e.pos;holding [v] (PySem.truthy v))):TE R e:=⟨c,h,ST.value h q he⟩
noncomputable def TE.bad {e:Expr}:TE R e:= .no SE.bad fun _ _=>rfl
noncomputable def trConst (n:Nat) (p:Pos):∀k:Const,TE R (.Constant k n p)
 | .none=> .val SE.cNone (fun _ _=>rfl) fun _ _=>rfl
 | .bool b=> .val SE.cBool (fun _ _=>rfl) fun _ _=>rfl
 | .int i=> .val SE.cInt (fun _ _=>rfl) fun _ _=>rfl
 | .str x=>ifD (x.cps.size≤SZ) .bad fun h=> .val (SE.cStr h) (fun _ _=>rfl) fun _ _=>rfl
 | .bytes b=>ifD (b.length≤SZ) .bad fun h=> .val (SE.cBytes h) (fun _ _=>rfl) fun _ _=>rfl
 | _=> .bad
noncomputable def nd (x:Str):Bool:= !(x == ("__debug__" : Str))
theorem ZpC {x:Str} (h:nd x=true):(x == ("__debug__" : Str))=false:=by
 unfold nd at h;cases e:x == ("__debug__" : Str) with
 | false=>rfl
 | true=>rw [e] at h;cases h
noncomputable def trName (x:Str) (p:Pos):TE R (.Name x p):=
 ifS (R.loc.lookup x) (ifT (R.glob x) .bad fun g=>ifS (R.gls.lookup x) (ifS (tyName x) .bad fun t h=> .val (SE.ty g h) (fun _ _=>rfl) fun _ _=>rfl) fun i h=> .no (SE.glob g h) fun _ _=>rfl)
  fun i h=>ifT (nd x) .bad fun d=> .val (SE.var h (ZpC d)) (fun _ _=>rfl) fun _ _=>rfl
variable (rec:∀(R:Rs) (e:Expr),TE R e)
noncomputable def trEs:∀es:List Expr,Option (TEs R es)
 | []=>some ⟨.nil,SEs.nil,fun _ _ _ q=>(by cases q;rfl),fun _ _ q=>(nomatch q),fun _=>rfl⟩
 | e::es=>ifT (noStar e) none fun hs=>ifS (trEs es) none fun t _=>some ⟨.cons (rec R e).c t.cs,SEs.cons (rec R e).se hs t.ses,fun Y sl ds q=>Ztb (t.len Y sl) q,fun _ _ q=>(by cases q;exact hs),fun q=>nomatch q⟩
noncomputable def trAnd (p:Pos):∀es:List Expr,TE R (.BoolOp .And es p)
 | []=> .bad
 | x::es=>match es with
  | []=>⟨(rec R x).c,SE.one (rec R x).se,ST.oneAnd (rec R x).st⟩
  | y::ys=>⟨.and (rec R x).c (trAnd p (y::ys)).c,SE.and1 (rec R x).se (trAnd p (y::ys)).se,ST.and1 (rec R x).st (trAnd p (y::ys)).st⟩
noncomputable def trOr (p:Pos):∀es:List Expr,TE R (.BoolOp .Or es p)
 | []=> .bad
 | x::es=>match es with
  | []=>⟨(rec R x).c,SE.one (rec R x).se,ST.oneOr (rec R x).st⟩
  | y::ys=>⟨.or (rec R x).c (trOr p (y::ys)).c,SE.or1 (rec R x).se (trOr p (y::ys)).se,ST.or1 (rec R x).st (trOr p (y::ys)).st⟩
noncomputable def trPart:∀o:Option Expr,TP R o
 | none=>⟨_,SP.none⟩
 | some e=>⟨_,SP.some (rec R e).se⟩
noncomputable def trSub (a:Expr) (p:Pos):∀i:Expr,TE R (.Subscript a i p)
 | .Slice lo hi st q=>match st with
  | none=> .no (SE.slc (rec R a).se (trPart rec lo).sp (trPart rec hi).sp) fun _ _=>rfl
  | some _=> .bad
 | i=> .val (SE.idx (rec R a).se (rec R i).se) (fun _ _=>rfl) fun _ _=>rfl
theorem SE.isi' {f:Str} {e:Expr} {c:C} {t:Str} {ty:Ty} {p q pos:Pos} (h0:f = "isinstance") (hf:R.glob f=true) (hn:noStar e=true) (ht:R.glob t=true) (hty:tyName t=some ty) (h:SE R e c):SE R (.Call (.Name f p) [e,.Name t q] [] pos) (.isi c ty):=by
 subst h0;exact SE.isi hf hn ht hty h
theorem SE.copy' {f:Str} {y:Str} {i:Nat} {p q pos:Pos} (h0:f = "list") (hf:R.glob f=true) (hy:R.loc.lookup y=some i) (hd:(y == ("__debug__" : Str))=false):SE R (.Call (.Name f p) [.Name y q] [] pos) (.copy i):=by
 subst h0;exact SE.copy hf hy hd
noncomputable def trIsi {f:Str} {p pos:Pos} (g:R.glob f=true) (e:Expr):∀y:Expr,TE R (.Call (.Name f p) [e,y] [] pos)
 | .Name t q=>ifD (f = "isinstance") .bad fun h0=>ifT (noStar e) .bad fun hn=>ifT (R.glob t) .bad fun ht=>ifS (tyName t) .bad fun ty hty=>
  .val (SE.isi' h0 g hn ht hty (rec R e).se) (fun _ _=>Zti _) fun _ _=>rfl
 | _=> .bad
noncomputable def trBi {f:Str} {p pos:Pos} (g:R.glob f=true) (e:Expr):TE R (.Call (.Name f p) [e] [] pos):=
 ifT (noStar e) .bad fun hn=>ifS (biName f) .bad fun b hb=>ifT (biFn b) .bad fun hb'=> .val (SE.bi1 g hb hb' hn (rec R e).se) (fun _ _=>rfl) fun _ _=>rfl
noncomputable def trOne {f:Str} {p pos:Pos} (g:R.glob f=true):∀e:Expr,TE R (.Call (.Name f p) [e] [] pos)
 | .Name y q=>ifD (f = "list") (trBi rec g _) fun h0=>ifS (R.loc.lookup y) .bad fun i h=>ifT (nd y) .bad fun d=> .no (SE.copy' h0 g h (ZpC d)) fun _ _=>rfl
 | e=>trBi rec g e
noncomputable def trFew {f:Str} {p pos:Pos} (g:R.glob f=true):∀es:List Expr,TE R (.Call (.Name f p) es [] pos)
 | []=> .bad
 | e::es=>match es with
  | []=>trOne rec g e
  | y::es=>match es with
   | []=>trIsi rec g e y
   | _=> .bad
noncomputable def trCallN (f:Str) (p pos:Pos) (es:List Expr):TE R (.Call (.Name f p) es [] pos):=
 ifT (R.glob f) .bad fun g=>ifS (R.fns.lookup f) (trFew rec g es) fun i hi=>ifS (trEs rec es) .bad fun t _=> .val (SE.call g hi t.ses t.hd t.nil) (fun _ _=>rfl) fun _ _=>rfl
theorem SE.join' {m:Str} {b:List UInt8} {e:Expr} {c:C} {n:Nat} {bp apos pos:Pos} (h0:m = "join" ∧b = []) (hl:(apos.endLine == pos.line)=true) (hn:noStar e=true) (h:SE R e c) :
  SE R (.Call (.Attribute (.Constant (.bytes b) n bp) m apos) [e] [] pos) (.bi .join (.cons c .nil)):=by obtain ⟨rfl,rfl⟩:=h0;exact SE.join hl hn h
theorem SE.get1' {m d:Str} {cd:C} {e:Expr} {c:C} {dp apos pos:Pos} (h0:m = "get") (hd:SE R (.Name d dp) cd) (hl:(apos.endLine == pos.line)=true) (hn:noStar e=true) (h:SE R e c) :
  SE R (.Call (.Attribute (.Name d dp) m apos) [e] [] pos) (.get cd (.cons c .nil)):=by subst h0;exact SE.get1 hd hl hn h
theorem SE.get2' {m d:Str} {cd:C} {e e':Expr} {c c':C} {dp apos pos:Pos} (h0:m = "get") (hd:SE R (.Name d dp) cd) (hl:(apos.endLine == pos.line)=true) (hn:noStar e=true) (hn':noStar e'=true) (h:SE R e c) (h':SE R e' c') :
  SE R (.Call (.Attribute (.Name d dp) m apos) [e,e'] [] pos) (.get cd (.cons c (.cons c' .nil))):=by subst h0;exact SE.get2 hd hl hn hn' h h'
noncomputable def trAttr (m:Str) (apos pos:Pos) (e:Expr):∀(v:Expr) (es:List Expr),TE R (.Call (.Attribute v m apos) (e::es) [] pos)
 | .Constant k n bp,es=>match es with
  | []=>match k with
   | .bytes b=>ifD (m = "join" ∧b = []) .bad fun h0=>ifT (apos.endLine == pos.line) .bad fun hl=>ifT (noStar e) .bad fun hn=> .val (SE.join' h0 hl hn (rec R e).se) (fun _ _=>rfl) fun _ _=>rfl
   | _=> .bad
  | _=> .bad
 | .Name d dp,es=>ifD (m = "get") .bad fun h0=>ifT (apos.endLine == pos.line) .bad fun hl=>ifT (noStar e) .bad fun hn=>match es with
  | []=> .no (SE.get1' h0 (trName d dp).se hl hn (rec R e).se) fun _ _=>rfl
  | e'::es=>match es with
   | []=>ifT (noStar e') .bad fun hn'=> .no (SE.get2' h0 (trName d dp).se hl hn hn' (rec R e).se (rec R e').se) fun _ _=>rfl
   | _=> .bad
 | _,_=> .bad
noncomputable def trCall (es:List Expr) (pos:Pos):∀(f:Expr),TE R (.Call f es [] pos)
 | .Name f p=>trCallN rec f p pos es
 | .Attribute v m apos=>match es with
  | []=> .bad
  | e::es=>trAttr rec m apos pos e v es
 | _=> .bad
noncomputable def trDict:∀(ks:List (Option Expr)) (vs:List Expr),Option (TD ks vs)
 | [],vs=>match vs with
  | []=>some ⟨_,.nil⟩
  | _=>none
 | k::ks,vs=>match vs with
  | []=>none
  | v::vs=>match k with
   | none=>none
   | some k=>match k with
    | .Constant k a b=>match k with
     | .str x=>match v with
      | .Constant v c d=>match v with
       | .int i=>ifS (trDict ks vs) none fun t _=>some ⟨_,.cons t.dp⟩
       | _=>none
      | _=>none
     | _=>none
    | _=>none
noncomputable def trNames:∀ts:List Expr,Option (TN R ts)
 | []=>some ⟨_,.nil⟩
 | t::ts=>match t with
  | .Name x p=>ifS (R.put x) none fun i h=>ifS (trNames ts) none fun t _=>some ⟨_,.cons h t.tn⟩
  | _=>none
noncomputable def trTgt:∀t:Expr,Option (TG R t)
 | .Name x p=>ifS (R.put x) none fun i h=>some ⟨_,.one h⟩
 | .Tuple es n p=>ifS (trNames es) none fun t _=>some ⟨_,.many t.tn⟩
 | _=>none
theorem SI.rng1' {f:Str} {e:Expr} {c:C} {p pos:Pos} (h0:f = "range") (hf:R.glob f=true) (hn:noStar e=true) (h:SE R e c):SI R (.Call (.Name f p) [e] [] pos) (.rng (.k (.int 0)) c 1):=by
 subst h0;exact SI.rng1 hf hn h
theorem SI.rng2' {f:Str} {e e':Expr} {c c':C} {p pos:Pos} (h0:f = "range") (hf:R.glob f=true) (hn:noStar e=true) (hn':noStar e'=true) (h:SE R e c) (h':SE R e' c'):SI R (.Call (.Name f p) [e,e'] [] pos) (.rng c c' 1):=by
 subst h0;exact SI.rng2 hf hn hn' h h'
theorem SI.rng3' {f:Str} {e e' e3:Expr} {c c':C} {p pos:Pos} (h0:f = "range") (hf:R.glob f=true) (hn:noStar e=true) (hn':noStar e'=true) (hn3:noStar e3=true) (h:SE R e c) (h':SE R e' c') (h3:SE R e3 (.neg (.k (.int 1)))):SI R (.Call (.Name f p) [e,e',e3] [] pos) (.rng c c' (-1)):=by
 subst h0;exact SI.rng3 hf hn hn' hn3 h h' h3
theorem SI.enum' {f:Str} {e:Expr} {c:C} {p pos:Pos} (h0:f = "enumerate") (hf:R.glob f=true) (hn:noStar e=true) (h:SE R e c):SI R (.Call (.Name f p) [e] [] pos) (.enum c):=by
 subst h0;exact SI.enum hf hn h
theorem SE.m1 {i:Int} {n:Nat} {q p:Pos} (h0:i=1):SE R (.UnaryOp .USub (.Constant (.int i) n q) p) (.neg (.k (.int 1))):=by
 subst h0;exact SE.neg SE.cInt
structure TM (R:Rs) (e:Expr):Type where
 h:SE R e (.neg (.k (.int 1)))
noncomputable def trM1:∀e:Expr,Option (TM R e)
 | .UnaryOp op a p=>match op with
  | .USub=>match a with
   | .Constant k n q=>match k with
    | .int i=>ifD (i=1) none fun h0=>some ⟨SE.m1 h0⟩
    | _=>none
   | _=>none
  | _=>none
 | _=>none
noncomputable def TI.seq {t e:Expr} (x:TE R e):TI R t e:=⟨.seq x.c,SI.seq x.se,fun q=>nomatch q⟩
noncomputable def trItN (t:Expr) (f:Str) (p pos:Pos):∀es:List Expr,TI R t (.Call (.Name f p) es [] pos)
 | []=> .seq .bad
 | e::es=>match es with
  | []=>ifD (f = "range") (ifD (f = "enumerate") (.seq (rec R _)) fun h0=>ifT (R.glob f) (.seq .bad) fun g=>ifT (noStar e) (.seq .bad) fun hn=>ifT (isTup t) (.seq .bad) fun ht=>⟨.enum (rec R e).c,SI.enum' h0 g hn (rec R e).se,fun _=>ht⟩) fun h0=>ifT (R.glob f) (.seq .bad) fun g=>ifT (noStar e) (.seq .bad) fun hn=>⟨_,SI.rng1' h0 g hn (rec R e).se,fun q=>nomatch q⟩
  | e'::es=>match es with
   | []=>ifD (f = "range") (.seq (rec R _)) fun h0=>ifT (R.glob f) (.seq .bad) fun g=>ifT (noStar e) (.seq .bad) fun hn=>ifT (noStar e') (.seq .bad) fun hn'=>⟨_,SI.rng2' h0 g hn hn' (rec R e).se (rec R e').se,fun q=>nomatch q⟩
   | e3::es=>match es with
    | []=>ifD (f = "range") (.seq (rec R _)) fun h0=>ifT (R.glob f) (.seq .bad) fun g=>ifT (noStar e) (.seq .bad) fun hn=>ifT (noStar e') (.seq .bad) fun hn'=>ifT (noStar e3) (.seq .bad) fun hn3=>ifS (trM1 (R:=R) e3) (.seq .bad) fun m _=>⟨_,SI.rng3' h0 g hn hn' hn3 (rec R e).se (rec R e').se m.h,fun q=>nomatch q⟩
    | _=> .seq (rec R _)
noncomputable def trIt (t:Expr):∀e:Expr,TI R t e
 | .Call f es kws pos=>match kws with
  | []=>match f with
   | .Name f p=>trItN rec t f p pos es
   | f=> .seq (rec R (.Call f es [] pos))
  | kws=> .seq (rec R (.Call f es kws pos))
 | e=> .seq (rec R e)
noncomputable def trTests:∀es:List Expr,TTs R es
 | []=>⟨.nil,STs.nil⟩
 | e::es=>⟨_,STs.cons (rec R e).st (trTests es).sts⟩
theorem SC.one' {elt t i0:Expr} {ifs:List Expr} {sc:Scope} {epos:Pos} {tg:Tgt} {it:It} {cifs:Cs} {celt:C} {a:Int} (h0:a=0) (hsc:okScope R sc=true) (hset:notSet i0=true) (ht:Tg (R.inner sc) t tg)
  (hi:SI R i0 it) (htup:it.isEnum=true→isTup t=true) (hts:STs (R.inner sc) ifs cifs) (hel:SE (R.inner sc) elt celt):SC R elt [⟨t,i0,ifs,a⟩] sc epos (numbered R.nl sc.names).length (.last tg it cifs celt):=by
 subst h0;exact SC.one hsc hset ht hi htup hts hel
theorem SC.two' {elt t0 i0 t1 i1:Expr} {ifs0 ifs1:List Expr} {sc:Scope} {epos:Pos} {tg0 tg1:Tgt} {it0 it1:It} {cifs0 cifs1:Cs} {celt:C} {a0 a1:Int} (h0:a0=0∧a1=0) (hsc:okScope R sc=true) (hset0:notSet i0=true) (hset1:notSet i1=true)
  (ht0:Tg (R.inner sc) t0 tg0) (ht1:Tg (R.inner sc) t1 tg1) (hi0:SI R i0 it0) (hi1:SI (R.inner sc) i1 it1) (htup0:it0.isEnum=true→isTup t0=true) (htup1:it1.isEnum=true→isTup t1=true)
  (hts0:STs (R.inner sc) ifs0 cifs0) (hts1:STs (R.inner sc) ifs1 cifs1) (hel:SE (R.inner sc) elt celt) (hdis:∀j∈tg1.idx,j∉tg0.idx) :
  SC R elt [⟨t0,i0,ifs0,a0⟩,⟨t1,i1,ifs1,a1⟩] sc epos (numbered R.nl sc.names).length (.more tg0 it0 cifs0 (.last tg1 it1 cifs1 celt)):=by
 obtain ⟨rfl,rfl⟩:=h0;exact SC.two hsc hset0 hset1 ht0 ht1 hi0 hi1 htup0 htup1 hts0 hts1 hel hdis
noncomputable def trTwo (elt:Expr) (sc:Scope) (p:Pos):∀g h:Comprehension,Option (TC R elt [g,h] sc p)
 | ⟨t,i,ifs,a⟩,⟨t',i',ifs',a'⟩=>ifD (a=0∧a'=0) none fun h0=>ifT (okScope R sc) none fun hs=>ifT (notSet i) none fun hi=>ifT (notSet i') none fun hi'=>ifS (trTgt t) none fun tg _=>ifS (trTgt t') none fun tg' _=>ifD (∀j∈tg'.g.idx,j∉tg.g.idx) none fun hd=>
  some ⟨_,_,SC.two' h0 hs hi hi' tg.tg tg'.tg (trIt rec t i).si (trIt rec t' i').si (trIt rec t i).tp (trIt rec t' i').tp (trTests rec ifs).sts (trTests rec ifs').sts (rec (R.inner sc) elt).se hd⟩
noncomputable def trComp (elt:Expr) (sc:Scope) (p:Pos):∀gens:List Comprehension,Option (TC R elt gens sc p)
 | []=>none
 | g::gs=>match gs with
  | []=>match g with
   | ⟨t,i,ifs,a⟩=>ifD (a=0) none fun h0=>ifT (okScope R sc) none fun hs=>ifT (notSet i) none fun hi=>ifS (trTgt t) none fun tg _=>some ⟨_,_,SC.one' h0 hs hi tg.tg (trIt rec t i).si (trIt rec t i).tp (trTests rec ifs).sts (rec (R.inner sc) elt).se⟩
  | h::gs=>match gs with
   | []=>trTwo rec elt sc p g h
   | _=>none
noncomputable def trE1:∀e:Expr,TE R e
 | .Constant k n p=>trConst n p k
 | .Name x p=>trName x p
 | .BoolOp op es p=>match op with
  | .And=>trAnd rec p es
  | .Or=>trOr rec p es
 | .BinOp a op b p=> .no (SE.bin (rec R a).se (rec R b).se) fun _ _=>rfl
 | .UnaryOp op a p=>match op with
  | .Not=>⟨_,SE.not (rec R a).se,ST.not (rec R a).st⟩
  | .USub=> .no (SE.neg (rec R a).se) fun _ _=>rfl
  | _=> .bad
 | .Compare a ops bs p=>match ops with
  | []=> .bad
  | op::ops=>match ops with
   | []=>match bs with
    | []=> .bad
    | b::bs=>match bs with
     | []=>ifT (!(behindInMarks op b)) .bad fun h=>⟨_,SE.cmp (by simpa using h) (rec R a).se (rec R b).se,ST.cmp (by simpa using h) (rec R a).se (rec R b).se⟩
     | _=> .bad
   | _=> .bad
 | .Call f es kws p=>match kws with
  | []=>trCall rec es p f
  | _=> .bad
 | .Subscript a i p=>trSub rec a p i
 | .Tuple es n p=>ifD (es.length≤SZ) .bad fun hz=>ifS (trEs rec es) .bad fun t _=> .no (SE.tup t.ses hz t.len) fun _ _=>rfl
 | .List es p=>ifD (es.length≤SZ) .bad fun hz=>ifS (trEs rec es) .bad fun t _=> .no (SE.lst t.ses hz t.len) fun _ _=>rfl
 | .Dict ks vs p=>ifS (trDict ks vs) .bad fun t _=>ifD (t.ps≠[]∧t.ps.length≤15∧(t.ps.map (·.1)).Nodup) .bad fun h=> .val (SE.dict t.dp h.1 h.2.1 h.2.2) (fun _ _=>rfl) fun _ _=>rfl
 | .ListComp elt gens sc p=>ifS (trComp rec elt sc p gens) .bad fun t _=> .no (SE.comp t.sc) fun _ _=>rfl
 | _=> .bad
end
noncomputable def trE:Nat→∀(R:Rs) (e:Expr),TE R e
 | 0=>fun _ _=> .bad
 | n+1=>fun _ e=>trE1 (trE n) e
end DK.Internal
end
section
set_option backward.match.sparseCases false
set_option genSizeOf false
set_option genCtorIdx false
set_option genSizeOf false
set_option genInjectivity false
namespace DK.Internal
open PySem PyProof.Rows
mutual
noncomputable def C.reads:C→List Nat
 | .var i=> [i]
 | .bin _ a b=>a.reads++b.reads
 | .neg a=>a.reads
 | .not a=>a.reads
 | .and a b=>a.reads++b.reads
 | .or a b=>a.reads++b.reads
 | .cmp _ a b=>a.reads++b.reads
 | .idx a b=>a.reads++b.reads
 | .slc a b c=>a.reads++b.reads++c.reads
 | .tup es=>es.reads
 | .lst es=>es.reads
 | .call _ es=>es.reads
 | .bi _ es=>es.reads
 | .get a es=>a.reads++es.reads
 | .isi a _=>a.reads
 | _=> []
noncomputable def Cs.reads:Cs→List Nat
 | .nil=> []
 | .cons c cs=>c.reads++cs.reads
end
noncomputable def Rs.owned (R:Rs):List Nat:=R.own.filterMap fun x=>R.put x
noncomputable def Rs.frz (R:Rs) (c:C):List Nat:=match R.own with
 | []=> []
 | _=>(c.reads.filter fun i=>decide (i∈R.owned)).eraseDups
noncomputable def frzs (R:Rs):List Nat→Ss→Ss
 | [],ss=>ss
 | i::is,ss=>ifD (i∈R.owned) (frzs R is ss) fun _=> .cons (.frz i) (frzs R is ss)
section
variable {R:Rs}
theorem SSs.frzs {sts:List Stmt} {cs:Ss} (h:SSs R sts cs) (is:List Nat):SSs R sts (DK.Internal.frzs R is cs):=by
 induction is with
 | nil=>exact h
 | cons i is ih=>
  unfold DK.Internal.frzs ifD
  by_cases q:i∈R.owned
  ·rw [dif_pos q]
   obtain ⟨x,_,hx⟩:=List.mem_filterMap.mp q
   exact SSs.frz hx ih
  ·rw [dif_neg q];exact ih
theorem lst_ok {Y:Cx} {cs:Cs} {sl:List Slot} {d:D} (h:Y.ex (.lst cs) sl = .ok d):∃xs,d = .list xs:=by
 replace h:(Y.exs cs sl>>=lstK) = .ok d:=h
 revert h
 cases Y.exs cs sl with
 | ok xs=>intro h;cases h;exact ⟨_,rfl⟩
 | exc=>intro h;cases h
 | stuck=>intro h;cases h
noncomputable def TS.bad {st:Stmt}:TS R st:=⟨.bad,[],SS.bad⟩
structure TF (R:Rs) (e:Expr) where
 c:C
 sf:SF R e c
 no:noComp e=true
variable (rec:∀(R:Rs) (e:Expr),TE R e)
noncomputable def trMul (es:List Expr) (q:Pos) (b:Expr) (p:Pos):∀op:Operator,Option (TF R (.BinOp (.List es q) op b p))
 | .Mult=>ifD (es.length≤SZ) none fun hz=>ifS (trEs rec es) none fun t _=>some ⟨_,SF.mul (SE.lst t.ses hz t.len) (rec R b).se fun _ _ _ h=>lst_ok h,rfl⟩
 | _=>none
noncomputable def trFresh:∀e:Expr,Option (TF R e)
 | .List es p=>ifD (es.length≤SZ) none fun hz=>ifS (trEs rec es) none fun t _=>some ⟨_,SF.lst t.ses hz t.len,rfl⟩
 | .BinOp a op b p=>match a with
  | .List es q=>trMul rec es q b p op
  | _=>none
 | _=>none
noncomputable def trPlain (x:Str) (p pos:Pos) {i:Nat} (h:R.put x=some i):∀e:Expr,TS R (.Assign [.Name x p] e pos)
 | .ListComp elt gens sc q=>ifS (trComp rec elt sc q gens) .bad fun t _=>⟨_,[],SS.asgC h t.sc⟩
 | e=>ifT (noComp e) .bad fun hn=>⟨_,R.frz (rec R e).c,SS.asg h hn (rec R e).se⟩
noncomputable def trAsg (v:Expr) (pos:Pos):∀t:Expr,TS R (.Assign [t] v pos)
 | .Name x p=>ifS (R.put x) .bad fun i h=>ifD (x∈R.own) (trPlain rec x p pos h v) fun _=>ifS (trFresh rec v) (trPlain rec x p pos h v) fun t _=>⟨_,R.frz t.c,SS.own h t.no t.sf⟩
 | .Tuple ts n p=>ifS (trNames ts) .bad fun t _=>ifT (swapOk v) .bad fun hs=>⟨_,R.frz (rec R v).c,SS.unp t.tn hs (rec R v).se⟩
 | .Subscript a j p=>match a with
  | .Name x q=>ifS (R.loc.lookup x) .bad fun i h=>ifT (nd x) .bad fun d=>⟨_,R.frz (.and (rec R j).c (rec R v).c),SS.sub h (ZpC d) (rec R j).se (rec R v).se⟩
  | _=> .bad
 | _=> .bad
noncomputable def trAs:∀(bs:List Bool) (es:List Expr),Option (TA R bs es)
 | [],es=>match es with
  | []=>some ⟨_,.nil⟩
  | _=>none
 | b::bs,es=>match es with
  | []=>none
  | e::es=>ifS (trAs bs es) none fun t _=>match b with
   | false=>ifT (noStar e) none fun hn=>some ⟨_,.val (rec R e).se hn t.h⟩
   | true=>match e with
    | .Name x p=>ifS (R.loc.lookup x) none fun i h=>ifT (nd x) none fun d=>some ⟨_,.own h (ZpC d) t.h⟩
    | .List ls p=>match ls with
     | []=>some ⟨_,.fresh t.h⟩
     | _=>none
    | _=>none
theorem SS.app' {m x:Str} {i:Nat} {e:Expr} {c:C} {xp apos pos sp:Pos} (h0:m = "append") (hx:R.loc.lookup x=some i) (hd:nd x=true) (hl:(apos.endLine == pos.line)=true) (hn:noStar e=true) (h:SE R e c) :
  SS R (.Expr (.Call (.Attribute (.Name x xp) m apos) [e] [] pos) sp) (.app i c):=by subst h0;exact SS.app hx (ZpC hd) hl hn h
theorem SS.ext' {m x:Str} {i:Nat} {e:Expr} {c:C} {xp apos pos sp:Pos} (h0:m = "extend") (hx:R.loc.lookup x=some i) (hd:nd x=true) (hl:(apos.endLine == pos.line)=true) (hn:noStar e=true) (h:SE R e c) :
  SS R (.Expr (.Call (.Attribute (.Name x xp) m apos) [e] [] pos) sp) (.ext i c):=by subst h0;exact SS.ext hx (ZpC hd) hl hn h
theorem SS.pop' {m x:Str} {i:Nat} {xp apos pos sp:Pos} (h0:m = "pop") (hx:R.loc.lookup x=some i) (hd:nd x=true) (hl:(apos.endLine == pos.line)=true) :
  SS R (.Expr (.Call (.Attribute (.Name x xp) m apos) [] [] pos) sp) (.pop i):=by subst h0;exact SS.pop hx (ZpC hd) hl
noncomputable def trMeth1 {x m:Str} {q apos pos p:Pos} {i:Nat} (h:R.loc.lookup x=some i) (d:nd x=true) (hl:(apos.endLine == pos.line)=true) (e:Expr):TS R (.Expr (.Call (.Attribute (.Name x q) m apos) [e] [] pos) p):=
 ifT (noStar e) .bad fun hn=>ifD (m = "append") (ifD (m = "extend") .bad fun h0=>⟨.ext i (rec R e).c,R.frz (rec R e).c,SS.ext' h0 h d hl hn (rec R e).se⟩) fun h0=>⟨.app i (rec R e).c,R.frz (rec R e).c,SS.app' h0 h d hl hn (rec R e).se⟩
noncomputable def trMeth (x m:Str) (q apos pos p:Pos) (es:List Expr):TS R (.Expr (.Call (.Attribute (.Name x q) m apos) es [] pos) p):=
 ifS (R.loc.lookup x) .bad fun i h=>ifT (nd x) .bad fun d=>ifT (apos.endLine == pos.line) .bad fun hl=>match es with
  | []=>ifD (m = "pop") .bad fun h0=>⟨.pop i,[],SS.pop' h0 h d hl⟩
  | e::es=>match es with
   | []=>trMeth1 rec h d hl e
   | _=> .bad
noncomputable def trX (f:Str) (q pos p:Pos) (es:List Expr):TS R (.Expr (.Call (.Name f q) es [] pos) p):=
 ifS (R.io.lookup f) ⟨.ex (trCallN (R:=R) rec f q pos es).c,R.frz (trCallN (R:=R) rec f q pos es).c,SS.exp rfl (trCallN rec f q pos es).se⟩ fun bs hb=>ifT (R.glob f) .bad fun hg=>ifS (R.fns.lookup f) .bad fun i hi=>match es with
  | []=> .bad
  | e::es=>ifS (trAs rec bs (e::es)) .bad fun t _=>⟨_,[],SS.callx hg hi hb t.h⟩
noncomputable def trExp (p:Pos):∀e:Expr,TS R (.Expr e p)
 | .Call f es kws pos=>match kws with
  | []=>match f with
   | .Name f q=>trX rec f q pos p es
   | .Attribute v m apos=>match v with
    | .Name x q=>trMeth rec x m q apos pos p es
    | _=> .bad
   | _=> .bad
  | _=> .bad
 | _=> .bad
theorem SS.raise' {f m:Str} {np mp cpos pos:Pos} {kn:Nat} (h0:f = "ValueError") (hx:R.glob f=true):SS R (.Raise (some (.Call (.Name f np) [.Constant (.str m) kn mp] [] cpos)) none pos) .raise:=by
 subst h0;exact SS.raise hx
noncomputable def trRaise (p:Pos):∀e c:Option Expr,TS R (.Raise e c p)
 | some (.Call (.Name f _) [.Constant (.str _) _ _] [] _),none=>ifD (f = "ValueError") .bad fun h0=>ifT (R.glob f) .bad fun h=>⟨_,[],SS.raise' h0 h⟩
 | _,_=> .bad
theorem SS.triE' {f y:Str} {xp yp tp hp hpos ap:Pos} {ee he:Expr} {hi:Nat} {c ch:C} (h0:f = "ValueError") (hg:R.glob f=true) (hn:noComp ee=true) (hs:SE R ee c) (hy:R.put y=some hi) (hh:HE R he ch) (nex:∀(Y:Cx) sl,Y.ex ch sl≠.exc) :
  SS R (.Try [.Expr ee ap] [.ExceptHandler (some (.Name f xp)) none [.Assign [.Name y yp] he hp] hpos] [] [] tp) (.tri none c hi ch):=by
 subst h0;exact SS.triE hg hn hs hy hh nex
structure TH (R:Rs) (he:Expr) where
 c:C
 he:HE R he c
 nex:∀(Y:Cx) sl,Y.ex c sl≠.exc
theorem HE.inc' {x:Str} {j:Nat} {i:Int} {n:Nat} {xp cp p:Pos} (h:R.loc.lookup x=some j) (hd:nd x=true):HE R (.BinOp (.Name x xp) .Add (.Constant (.int i) n cp) p) (.bin .Add (.var j) (.k (.int i))):=HE.inc h (ZpC hd)
noncomputable def trHe:∀he:Expr,Option (TH R he)
 | .Constant k n p=>match k with
  | .int i=>some ⟨_,HE.int,fun _ _=>nofun⟩
  | _=>none
 | .BinOp a op b p=>match op with
  | .Add=>match a with
   | .Name x q=>match b with
    | .Constant k n r=>match k with
     | .int i=>ifS (R.loc.lookup x) none fun j h=>ifT (nd x) none fun d=>some ⟨_,HE.inc' h d,fun Y sl=>HE.inc_nex⟩
     | _=>none
    | _=>none
   | _=>none
  | _=>none
 | _=>none
noncomputable def trTryE (e:Expr) (p q:Pos):∀h:ExceptHandler,TS R (.Try [.Expr e q] [h] [] [] p)
 | .ExceptHandler (some (.Name f _)) none [.Assign [.Name y _] he _] _=>
  ifD (f = "ValueError") .bad fun h0=>ifT (R.glob f) .bad fun hg=>ifS (R.put y) .bad fun j hj=>ifT (noComp e) .bad fun hn=>ifS (trHe (R:=R) he) .bad fun t _=>
   ⟨_,R.frz (rec R e).c,SS.triE' h0 hg hn (rec R e).se hj t.he t.nex⟩
 | _=> .bad
noncomputable def trTry (p:Pos):∀(b:List Stmt) (hs:List ExceptHandler) (o f:List Stmt),TS R (.Try b hs o f p)
 | [.Expr e q],[h],[],[]=>trTryE rec e p q h
 | _,_,_,_=> .bad
noncomputable def It.frz (R:Rs):It→List Nat
 | .seq c=>R.frz c
 | _=> []
variable (recS:∀st:Stmt,TS R st)
noncomputable def trSs:∀sts:List Stmt,TSs R sts
 | []=>⟨.nil,SSs.nil⟩
 | s::r=>⟨frzs R (recS s).f (.cons (recS s).c (trSs r).c),SSs.frzs (SSs.cons (recS s).ss (trSs r).ss) _⟩
noncomputable def trS1:∀st:Stmt,TS R st
 | .Return v p=>match v with
  | none=>⟨_,[],SS.ret0⟩
  | some e=>⟨_,R.frz (rec R e).c,SS.ret (rec R e).se⟩
 | .Assign ts v p=>match ts with
  | []=> .bad
  | t::ts=>match ts with
   | []=>trAsg rec v p t
   | _=> .bad
 | .AugAssign t op v p=>match t with
  | .Name x q=>ifS (R.put x) .bad fun i h=>ifT (augOk op) .bad fun ho=>⟨_,R.frz (rec R v).c,SS.aug h ho (rec R v).se⟩
  | _=> .bad
 | .If t a b p=>⟨_,R.frz (rec R t).c,SS.ife (rec R t).st (trSs recS a).ss (trSs recS b).ss⟩
 | .While t b o p=>match o with
  | []=>⟨_,[],SS.whl (rec R t).st (trSs recS b).ss⟩
  | _=> .bad
 | .For t e b o p=>match o with
  | []=>ifT (notSet e) .bad fun hs=>ifS (trTgt t) .bad fun tg _=>⟨_,(trIt (R:=R) rec t e).i.frz R,SS.forr tg.tg (trIt rec t e).si (trIt rec t e).tp hs (trSs recS b).ss⟩
  | _=> .bad
 | .Raise e c p=>trRaise p e c
 | .Expr e p=>trExp rec p e
 | .Try b hs o f p=>trTry rec p b hs o f
 | .Break p=>⟨_,[],SS.brk⟩
 | .Continue p=>⟨_,[],SS.cont⟩
 | _=> .bad
end
noncomputable def trS {R:Rs}:Nat→∀st:Stmt,TS R st
 | 0=>fun _=> .bad
 | n+1=>fun st=>trS1 (trE 60) (trS n) st
end DK.Internal
end
section
set_option backward.match.sparseCases false
set_option genSizeOf false
set_option genCtorIdx false
namespace DK.Internal
open PySem PyProof.Rows
noncomputable def defsOf:List Stmt→List Def
 | []=> []
 | .FunctionDef name args body _ _ _ sc _ _ _::r=>⟨name,args.args.map (·.arg),sc.names,body⟩::defsOf r
 | _::r=>defsOf r
noncomputable def fnOf (P:Prg) (own:List (Str × List Str)) (d:Def):Fn:=⟨d.ps.length,(locals d.ps d.names).length,(trSs (R:=rsOf P ((own.lookup d.name).getD []) d) (trS 20) d.body).c⟩
theorem bodies_of {P:Prg} {own:List (Str × List Str)} (h:P.T.fns=P.defs.map (fnOf P own)):Bodies P:=fun i d fn hd hf=>by
 rw [h,List.getElem?_map,hd] at hf
 cases hf
 exact ⟨_,rfl,rfl,(trSs (trS 20) d.body).ss⟩
end DK.Internal
end
section
set_option backward.match.sparseCases false
set_option genSizeOf false
set_option genCtorIdx false
namespace DK.Internal
open PySem PyProof.Rows
noncomputable def flatV (t:Nat):D→Value
 | .int i=> .int i t
 | .str s=> .str ⟨⟨s⟩⟩ t
 | _=> .none
noncomputable def flatOk:D→Bool
 | .int _=>true
 | .str s=>decide (s.length≤SZ)
 | _=>false
theorem Ztn {t:Nat} (d:D) (h:flatOk d=true):Flat (flatV t d) d:=by
 cases d with
 | int i=>exact ⟨t,rfl⟩
 | str s=>exact ⟨_,t,rfl,of_decide_eq_true h,rfl⟩
 | _=>cases h
noncomputable def ents {κ : Type} (hash : κ→Int) (kv : κ→Nat→Value):Nat→List (κ × D)→List DictEntry
 | _,[]=> []
 | t,p::r=>⟨hash p.1,kv p.1 t,flatV (t+1) p.2⟩::ents hash kv (t+2) r
noncomputable abbrev dicO (es:List DictEntry) (n:Nat):Obj:=⟨.type "dict",none,.dict es.toArray n,#[]⟩
section
variable {P:Prg} {κ : Type} [DecidableEq κ] {kd:PySem.KeyKind P.prog P.w κ} {key : κ→D} {kv : κ→Nat→Value} {isK:D→Bool}
theorem ZsF (hk:∀k t,kd.is k (kv k t)=true) (hkey:∀a b,keyIs (key a) (key b)=decide (b=a)) (k : κ) (ps:List (κ × D)):∀t,(ps.all fun p=>flatOk p.2)=true→FlatO (findBy kd.is (ents kd.hash kv t ps).toArray k) (dget (key k) (ps.map fun p=>key p.1) (ps.map (·.2))):=by
 induction ps with
 | nil=>exact fun _ _=>trivial
 | cons p ps ih=>
  intro t h
  rw [List.all_cons,Bool.and_eq_true] at h
  have:=ih (t+2) h.2
  unfold findBy at this ⊢
  rw [List.find?_toArray] at this ⊢
  rw [ents,List.map_cons,List.map_cons,dget,hkey,List.find?_cons,show kd.is k (kv p.1 t)=decide (k=p.1) from KeyKind.is_eq_decide (hk p.1 t) k]
  by_cases e:k=p.1
  ·rw [decide_eq_true e];exact Ztn _ h.1
  ·rw [decide_eq_false e];exact this
theorem ZsG (hk:∀k t,kd.is k (kv k t)=true) (ps:List (κ × D)):∀t,∀e∈ents kd.hash kv t ps,∃k,kd.is k e.key=true∧e.hash=kd.hash k:=by
 induction ps with
 | nil=>exact fun _ _ h=>nomatch h
 | cons p ps ih=>
  intro t e h
  rcases List.mem_cons.mp h with q | q
  ·exact ⟨p.1,by rw [q];exact hk ..,by rw [q]⟩
  ·exact ih _ e q
theorem Zrn (hk:∀k t,kd.is k (kv k t)=true) (hkey:∀a b,keyIs (key a) (key b)=decide (b=a)) (hK:∀k,isK (key k)=true) {Z:Zm} {a:Addr} {t n:Nat} (p : κ × D) (ps:List (κ × D)) (hs:(a == sysModules)=false)
  (ho:Z a=some (dicO (ents kd.hash kv t (p::ps)) n)) (hf:((p::ps).all fun p=>flatOk p.2)=true):DictAt P Z kd key isK a ((p::ps).map fun p=>key p.1) ((p::ps).map (·.2)):=
 ⟨hs,nofun,by rw [List.length_map,List.length_map],by rw [List.all_map];exact List.all_eq_true.mpr fun x _=>hK x.1,_,
  fun h q=>⟨_,_,n,q a _ ho,⟨rfl,rfl,rfl⟩,rfl,fun e he=>ZsG hk (p::ps) t e (List.mem_toArray.mp he),fun _=>rfl⟩,fun k=>ZsF hk hkey k (p::ps) t hf⟩
end
section
variable {P:Prg} {a:Addr} {t n:Nat} {Z:Zm}
theorem rep_str (p:Str × D) (ps:List (Str × D)) (hs:(a == sysModules)=false) (ho:Z a=some (dicO (ents (hashStr P.w) (fun x t=> .str x t) t (p::ps)) n)) (hf:((p::ps).all fun p=>flatOk p.2)=true) :
  Rep P Z (.dict ((p::ps).map fun p=> .str p.1.cps.toList) ((p::ps).map (·.2))) (.ref a):=
 ⟨a,rfl,.inl (Zrn (kd:=PySem.strKind P.prog P.w) (kv:=fun x t=> .str x t) (fun k t=>by unfold PySem.strKind Value.isStrOf;exact beq_self_eq_true k) (fun x y=>by
  show (x.cps.toList == y.cps.toList)=_
  by_cases e:y=x
  ·rw [e,beq_self_eq_true,decide_eq_true rfl]
  ·rw [decide_eq_false e]
   refine beq_eq_false_iff_ne.mpr fun q=>e ?_
   obtain ⟨⟨x⟩⟩:=x
   obtain ⟨⟨y⟩⟩:=y
   exact congrArg (fun l:List Nat=>(⟨⟨l⟩⟩:Str)) (Eq.symm q)) (fun _=>rfl) p ps hs ho hf)⟩
theorem rep_int (p:Int × D) (ps:List (Int × D)) (hs:(a == sysModules)=false) (ho:Z a=some (dicO (ents hashInt (fun x t=> .int x t) t (p::ps)) n)) (hf:((p::ps).all fun p=>flatOk p.2)=true) :
  Rep P Z (.dict ((p::ps).map fun p=> .int p.1) ((p::ps).map (·.2))) (.ref a):=
 ⟨a,rfl,.inr (Zrn (kd:=PySem.intKind P.prog P.w) (kv:=fun x t=> .int x t) (fun k t=>by unfold PySem.intKind Value.isInt;exact beq_self_eq_true k) (fun x y=>by
  show decide (x=y)=_
  exact decide_eq_decide.mpr eq_comm) (fun _=>rfl) p ps hs ho hf)⟩
end
noncomputable def readAll (f:Value→Option D):List Value→Option (List D)
 | []=>some []
 | v::vs=>(f v).bind fun d=>(readAll f vs).map (d :: ·)
noncomputable def readS (o:Obj) (ds:List D):Option D:=if o.cls = .type "tuple" then some (.tuple ds) else if o.cls = .type "list" then some (.list ds) else none
noncomputable def readO (f:Value→Option D) (o:Obj):Option D:=match o.data with
 | .seq vs _=>if o.dict=none∧o.slots.size=0∧vs.size≤SZ then (readAll f vs.toList).bind (readS o) else none
 | _=>none
noncomputable def readH (h:Heap):Nat→Value→Option D
 | 0,_=>none
 | n+1,v=>match v with
  | .int i _=>some (.int i)
  | .str x _=>if x.cps.size≤SZ then some (.str x.cps.toList) else none
  | .bytes b _=>if b.size≤SZ then some (.bytes b.toList) else none
  | .ref a=>(h.get? a).bind (readO (readH h n))
  | _=>none
theorem Zqf {α:Type} {c:Prop} [i:Decidable c] {x:Option α} {a:α} (h:(if c then x else none)=some a):c∧x=some a:=by
 by_cases q:c
 ·rw [if_pos q] at h;exact ⟨q,h⟩
 ·rw [if_neg q] at h;cases h
section
variable {P:Prg} {h:Heap} {f:Value→Option D}
theorem ZrE {Z:Zm} (hf:∀v d,f v=some d→Rep P Z d v) (vs:List Value):∀{ds:List D},readAll f vs=some ds→Reps P Z ds vs:=by
 induction vs with
 | nil=>intro ds e;cases e;rfl
 | cons v vs ih=>
  intro ds e
  obtain ⟨d,h1,e⟩:=Option.bind_eq_some_iff.mp e
  obtain ⟨ds',h2,e⟩:=Option.map_eq_some_iff.mp e
  cases e
  exact .cons (hf v d h1) (ih h2)
theorem ZsH {Z:Zm} {a:Addr} {c:Value} {vs:List Value} {n:Nat} {ds:List D} {d:D} (ho:Z a=some ⟨c,none,.seq ⟨vs⟩ n,#[]⟩) (q3:vs.length≤SZ) (r:Reps P Z ds vs) (e:readS ⟨c,none,.seq ⟨vs⟩ n,#[]⟩ ds=some d):Rep P Z d (.ref a):=by
 unfold readS at e
 by_cases q:c = .type "tuple"
 ·subst q;cases (show some (D.tuple ds)=some d from e);exact ⟨a,vs,n,rfl,ho,q3,r⟩
 ·obtain ⟨q,e⟩:=Zqf ((if_neg q).symm.trans e)
  subst q;cases e;exact ⟨a,vs,n,rfl,ho,q3,r⟩
theorem ZsI {Z:Zm} {a:Addr} {o:Obj} {d:D} (hf:∀v d,f v=some d→Rep P Z d v) (ho:Z a=some o) (e:readO f o=some d):Rep P Z d (.ref a):=by
 obtain ⟨c,di,da,sl⟩:=o
 cases da with
 | seq vs n=>
  obtain ⟨⟨q1,q2,q3⟩,e⟩:=Zqf (show (if di=none∧sl.size=0∧vs.size≤SZ then (readAll f vs.toList).bind (readS ⟨c,di,.seq vs n,sl⟩) else none)=some d from e)
  subst q1
  cases Array.size_eq_zero_iff.mp q2
  obtain ⟨vs⟩:=vs
  obtain ⟨ds,h1,e⟩:=Option.bind_eq_some_iff.mp e
  exact ZsH ho q3 (ZrE hf vs h1) e
 | _=>cases e
theorem readH_rep (st:h.StaysIn P.gh) (n:Nat):∀(v:Value) (d:D),readH h n v=some d→Rep P P.gh.get? d v:=by
 induction n with
 | zero=>intro v d e;cases e
 | succ n ih=>
  intro v d e
  cases v with
  | int i t=>cases e;exact ⟨t,rfl⟩
  | str x t=>
   replace e:(if x.cps.size≤SZ then some (D.str x.cps.toList) else none)=some d:=e
   obtain ⟨q,e⟩:=Zqf e
   cases e;exact ⟨x,t,rfl,q,rfl⟩
  | bytes b t=>
   replace e:(if b.size≤SZ then some (D.bytes b.toList) else none)=some d:=e
   obtain ⟨q,e⟩:=Zqf e
   cases e;exact ⟨b,t,rfl,q,rfl⟩
  | ref a=>
   obtain ⟨o,h1,e⟩:=Option.bind_eq_some_iff.mp (show (h.get? a).bind (readO (readH h n))=some d from e)
   exact ZsI ih (st a o h1) e
  | _=>cases e
end
noncomputable def readG (h:Heap) (x:Str):Option D:=(h.nsMap mainGlobals x).bind (readH h 5)
noncomputable def objV (h:Heap) (v:Value):Option Obj:=match v with
 | .ref a=>if (a == sysModules)=true then none else h.get? a
 | _=>none
noncomputable def objG (h:Heap) (x:Str):Option Obj:=(h.nsMap mainGlobals x).bind (objV h)
theorem objG_spec {h:Heap} {x:Str} {o:Obj} (e:objG h x=some o):∃a,h.nsMap mainGlobals x=some (.ref a)∧(a == sysModules)=false∧h.get? a=some o:=by
 obtain ⟨v,h1,e⟩:=Option.bind_eq_some_iff.mp e
 cases v with
 | ref a=>
  replace e:(if (a == sysModules)=true then none else h.get? a)=some o:=e
  cases q:a == sysModules with
  | false=>rw [q,if_neg Bool.false_ne_true] at e;exact ⟨a,h1,q,e⟩
  | true=>rw [q,if_pos rfl] at e;cases e
 | _=>cases e
noncomputable def defOf (d:DefRec):Def:=⟨d.name,d.params.args.map (·.arg),d.scope.names,d.body⟩
noncomputable def recOk (d:DefRec):Bool:=
 decide (d.scope.kind = .function∧d.scope.isCoroutine=false∧d.scope.isGenerator=false∧(∀x∈(defOf d).ps,d.scope.names.lookup x=some .local∨d.scope.names.lookup x=some .cell) ∧
  (defOf d).ps.Nodup∧∀n∈d.scope.names,d.scope.names.lookup n.1=some n.2)
noncomputable abbrev vals (n:Nat) (v:Nat→Value):List Value:=(List.range n).map v
theorem Zto (vs:List Value):vals vs.length (fun i=>vs.getD i .none)=vs:=by
 refine List.ext_getElem (by rw [List.length_map,List.length_range]) fun i h1 h2=> ?_
 rw [List.getElem_map,List.getElem_range,List.getD_eq_getElem?_getD,List.getElem?_eq_getElem h2];rfl
noncomputable def fdOf (d:DefRec) (pm code doc:Value):FuncData:=Calls.docDef d.name d.params d.body d.scope pm code doc
def Binds (d:DefRec):Prop:=∀(pm code doc:Value) (v:Nat→Value),bindArgs (fdOf d pm code doc) ⟨vals d.params.args.length v,[]⟩=pure ((defOf d).ps.zip (vals d.params.args.length v))
theorem fnOk_of {P:Prg} {d:DefRec} {a:Addr} {o:Obj} {pm code doc:Value} {i:Nat} (hd:recOk d=true) (hB:Binds d) (ho:P.gh.get? a=some o) (hf:o.data = .func (fdOf d pm code doc)) (hc:P.gh.CodeRec code d.name)
  (hi:P.defs[i]?=some (defOf d)):FnOk P a i (fdOf d pm code doc) (defOf d):=
 have k:=of_decide_eq_true hd
 {
  obj:=⟨o,ho,hf⟩,code:=hc,body:=rfl,names:=rfl,kind:=k.1,co:=k.2.1,gen:=k.2.2.1,clo:=rfl,glob:=rfl,buil:=rfl
  bind:=fun vs hv=>by
   have hv:vs.length=d.params.args.length:=hv.trans (List.length_map ..)
   have:=hB pm code doc fun i=>vs.getD i .none
   rw [←hv,Zto vs] at this
   exact this
  fn:=hi,pk:=k.2.2.2.1,nd:=k.2.2.2.2.1,nk:=k.2.2.2.2.2 }
end DK.Internal
end
section
set_option backward.match.sparseCases false
set_option genSizeOf false
set_option genCtorIdx false
set_option maxRecDepth 100000
namespace DK.Internal
open DK.Internal.B
open PySem PySem.W PyProof.Rows
noncomputable def pX:Program:=PySem.Challenge.pw_sx_r148_3
noncomputable def dsX:List Def:=defsOf PySem.Challenge.pw_sx_r148_3.main.body
noncomputable def fnsX:List (Str × Nat):=placed 0 (dsX.map fun d=>d.name)
noncomputable def glX:List Str:= ["_TAGS", "_NAMES", "_PRINTABLE_EXTRA", "_PARTS"]
noncomputable def ownX:List (Str × List Str):= [("_be_bytes_into",["tmp", "out"]),("_be_bytes",["out"]),("write_arc",["out", "result"]),("encode",["parts"]),("_kids",["out"]),("_read_oid",["arcs"]),("_walk",["path", "out"]),("walk",["out"])]
noncomputable def PX (prog:Program) (w:World) (h:Heap) (mg mb:Str→Option Value):Prg:=⟨prog,w,T3L,dsX,fnsX,placed 0 glX,[("_be_bytes_into",[false,false,true]),("_walk",[false,true,true])],h,mg,mb⟩
theorem TXfns (prog:Program) (w:World) (h:Heap) (mg mb:Str→Option Value):T3L.fns=dsX.map (fnOf (PX prog w h mg mb) ownX):=by kernel_rfl
noncomputable def isDef:Stmt→Bool
 | .FunctionDef .. =>true
 | _=>false
noncomputable def qX:Program:={ PySem.Challenge.pw_sx_r148_3 with main:={ PySem.Challenge.pw_sx_r148_3.main with body:=PySem.Challenge.pw_sx_r148_3.main.body.filter isDef } }
theorem recsX:(recsOf qX).map DK.Internal.defOf=dsX:=by kernel_rfl
theorem bindsX (pm code doc:Value) (v:Nat→Value):(recsOf qX).map (fun d=>bindArgs (fdOf d pm code doc) ⟨vals d.params.args.length v,[]⟩)=(recsOf qX).map fun d=>pure ((DK.Internal.defOf d).ps.zip (vals d.params.args.length v)):=by kernel_rfl
theorem recsX_ok:(recsOf qX).all DK.Internal.recOk=true:=by kernel_rfl
noncomputable def bnX:List Str:=tyTab.map (·.1)++biTab.map (·.1)++(["isinstance", "range", "enumerate", "ValueError"]:List Str)
noncomputable def freeOk (x:Str):Bool:=decide (x∉startupNames∧x∉looseW qX glX∧x∉(recsOf qX).map (·.name)∧x∉(litsOf qX).map (·.1)∧x∉(clssOf qX (looseW qX glX)).map (·.name)∧x≠ "__name__")
theorem bnX_free:bnX.all freeOk=true:=by kernel_rfl
theorem boot_ty:tyTab.map (fun p=>bootBuiltins p.1)=tyTab.map fun p=>some (.type p.2.name):=by kernel_rfl
theorem boot_bi:biTab.map (fun p=>bootBuiltins p.1)=biTab.map fun p=>some (biVal p.2):=by kernel_rfl
theorem boot_rest:(["isinstance", "range", "enumerate", "ValueError"]:List Str).map bootBuiltins = [some (.builtin "isinstance"),some (.type "range"),some (.type "enumerate"),some VE]:=by kernel_rfl
noncomputable def strX (s:List Nat):Str:=⟨⟨s⟩⟩
noncomputable def tagsX:List (Str × D):= [(strX sBool,.int 1),(strX sInt,.int 2),(strX sBits,.int 3),(strX sBytes,.int 4),(strX sNull,.int 5),(strX sOid,.int 6),(strX sEnum,.int 10),(strX sUtf8,.int 12),(strX sPrint,.int 19),(strX sTime,.int 24),(strX sSeq,.int 48),(strX sSet,.int 49)]
noncomputable def namesX:List (Int × D):= [(1,.str sBool),(2,.str sInt),(3,.str sBits),(4,.str sBytes),(5,.str sNull),(6,.str sOid),(10,.str sEnum),(12,.str sUtf8),(19,.str sPrint),(24,.str sTime),(48,.str sSeq),(49,.str sSet)]
noncomputable def partsX:List (Str × D):= [(strX sNull,.int 1),(strX sBits,.int 3),(strX sTagged,.int 3)]
noncomputable def rnX:List Str:= ["_PRINTABLE_EXTRA"]
noncomputable def rdX:List D:= [gExtra]
def DataX (P:Prg) (m:Str→Option Value):Prop:=∀p∈glX.zip T3L.globs,∃v,m p.1=some v∧Rep P P.gh.get? p.2 v
noncomputable def obsX (s:Shared):Bool × List (Option Obj) × List (Option D):=(s.heap.isNs mainGlobals,(["_TAGS", "_NAMES", "_PARTS"]:List Str).map (objG s.heap),rnX.map (readG s.heap))
noncomputable def valX (w:World):Bool × List (Option Obj) × List (Option D):=(true,[some (dicO (ents (hashStr w) (fun x t=> .str x t) 331 tagsX) 12),some (dicO (ents hashInt (fun x t=> .int x t) 368 namesX) 12),some (dicO (ents (hashStr w) (fun x t=> .str x t) 460 partsX) 3)],rdX.map some)
def saysX (w:World) (h:Heap):Prop:=∀P:Prg,P.w=w→h.StaysIn P.gh→∀m,P.gh.Ns mainGlobals m→DataX P m
theorem says_of (w:World) (s:Shared) (e:obsX s=valX w):saysX w s.heap:=fun P hw st m hm=>by
 subst hw
 have hN:s.heap.isNs mainGlobals=true:=congrArg Prod.fst e
 cases ns_unique (ns_keep (Heap.Ns.of_isNs hN) fun o q=>⟨o,st _ _ q,rfl⟩) hm
 have rd:∀{x:Str} {d:D},readG s.heap x=some d→∃v,s.heap.nsMap mainGlobals x=some v∧Rep P P.gh.get? d v:=fun h=>by
  obtain ⟨v,h1,h2⟩:=Option.bind_eq_some_iff.mp h
  exact ⟨v,h1,readH_rep st 5 v _ h2⟩
 have e1:(["_TAGS", "_NAMES", "_PARTS"]:List Str).map (objG s.heap)=_:=congrArg (fun x=>x.2.1) e
 have e2:rnX.map (readG s.heap)=rdX.map some:=congrArg (fun x=>x.2.2) e
 obtain ⟨q1,e1⟩:=List.cons.inj e1
 obtain ⟨q2,e1⟩:=List.cons.inj e1
 obtain ⟨q3,_⟩:=List.cons.inj e1
 obtain ⟨a1,b1,c1,d1⟩:=objG_spec q1
 obtain ⟨a2,b2,c2,d2⟩:=objG_spec q2
 obtain ⟨a3,b3,c3,d3⟩:=objG_spec q3
 obtain ⟨r1,_⟩:=List.cons.inj e2
 have t1:=rep_str (P:=P) _ _ c1 (st _ _ d1) (by kernel_rfl)
 have t2:=rep_int (P:=P) _ _ c2 (st _ _ d2) (by kernel_rfl)
 have t3:=rep_str (P:=P) _ _ c3 (st _ _ d3) (by kernel_rfl)
 exact List.forall_mem_cons.mpr ⟨⟨_,b1,t1⟩,List.forall_mem_cons.mpr ⟨⟨_,b2,t2⟩,List.forall_mem_cons.mpr ⟨rd r1,List.forall_mem_cons.mpr ⟨⟨_,b3,t3⟩,fun _ h=>nomatch h⟩⟩⟩⟩
section
variable {w:World} {mean:ExcName→Option Value} {mg mb:Str→Option Value} {prog:Program} {s:Shared}
theorem gloX (T:Top qX (looseW qX glX) mean mg mb s.heap) (Y:saysX w s.heap):Glo (PX prog w s.heap mg mb):=by
 have fr:∀{x},x∈bnX→mg x=none∧mb x=bootBuiltins x:=fun {x} h=>by
  obtain ⟨h1,h2,h3,h4,h5,h6⟩:=of_decide_eq_true (List.all_eq_true.mp bnX_free x h)
  exact ⟨T.free x h1 h2 h3 h4 h5,T.builtins x h6⟩
 have nm:∀{x},x∈(["isinstance", "range", "enumerate", "ValueError"]:List Str)→x∈bnX:=fun h=>List.mem_append_right _ h
 have bt:=boot_rest
 obtain ⟨b1,bt⟩:=List.cons.inj bt
 obtain ⟨b2,bt⟩:=List.cons.inj bt
 obtain ⟨b3,bt⟩:=List.cons.inj bt
 obtain ⟨b4,_⟩:=List.cons.inj bt
 have ot:∀{x v},x∈(["isinstance", "range", "enumerate", "ValueError"]:List Str)→bootBuiltins x=some v→mg x=none∧mb x=some v:=fun h q=>⟨(fr (nm h)).1,(fr (nm h)).2.trans q⟩
 refine { g:=T.g,b:=T.b,lim:=T.nolimit,ty:=fun x t e=> ?_,bi:=fun x t e=> ?_,isi:=ot (.head _) b1,rng:=ot (.tail _ (.head _)) b2,enu:=ot (.tail _ (.tail _ (.head _))) b3,sys:= ?_,ve:=ot (.tail _ (.tail _ (.tail _ (.head _)))) b4,data:=fun x g e=> ?_,fn:=fun f i e=> ?_ }
 ·have m:=lookup_mem e
  have:=fr (List.mem_append_left _ (List.mem_append_left _ (List.mem_map_of_mem (f:=(·.1)) m)))
  exact ⟨this.1,this.2.trans (List.map_inj_left.mp boot_ty _ m)⟩
 ·have m:=lookup_mem e
  have:=fr (List.mem_append_left _ (List.mem_append_right _ (List.mem_map_of_mem (f:=(·.1)) m)))
  exact ⟨this.1,this.2.trans (List.map_inj_left.mp boot_bi _ m)⟩
 ·obtain ⟨o,es,ep,ho,_⟩:=T.g
  exact ⟨_,o,by decide,ho⟩
 ·have h1:=(placed_get glX e).2
  rw [Nat.sub_zero] at h1
  have hlt:g < T3L.globs.length:=(List.getElem?_eq_some_iff.mp h1).1
  have h2:=List.getElem?_eq_getElem hlt
  obtain ⟨v,a,b⟩:=Y (PX prog w s.heap mg mb) rfl (fun _ _ q=>q) mg T.g _ (List.mem_of_getElem? (List.getElem?_zip_eq_some (z:=(x,T3L.globs[g])).mpr ⟨h1,h2⟩))
  exact ⟨v,_,a,h2,b⟩
 ·have:=(placed_get (dsX.map fun d=>d.name) e).2
  rw [Nat.sub_zero,←recsX,List.map_map,List.getElem?_map] at this
  cases hr:(recsOf qX)[i]? with
  | none=>rw [hr] at this;cases this
  | some rec=>
   rw [hr] at this
   have hn:rec.name=f:=Option.some.inj this
   have hm:=List.mem_of_getElem? hr
   obtain ⟨a,o,pm,code,doc,h1,h2,h3,h4⟩:=T.fn rec hm
   exact ⟨a,_,DK.Internal.defOf rec,hn ▸ h1,fnOk_of (P:=PX prog w s.heap mg mb) (List.all_eq_true.mp recsX_ok _ hm) (fun pm code doc v=>List.map_inj_left.mp (bindsX pm code doc v) _ hm) h2 h3 h4 (by show dsX[i]?=_;rw [←recsX,List.getElem?_map,hr];rfl),hn⟩
theorem depthX:callerA.depth+301 < recursionLimit:=by decide +kernel
theorem unitsX:callerA.units+3*301+100≤cLine:=by decide +kernel
theorem law_ix:fnsX.lookup (Str.ofString "law")=some 40:=by kernel_rfl
theorem repsInts {P:Prg} {Z:Zm} {Ps:Params} {h:Heap} (zs:List Int):∀{vs:List Value},WellAll Ps h vs (ofPys (zs.map PyData.int))→Reps P Z (zs.map .int) vs:=by
 induction zs with
 | nil=>intro vs x;cases x;rfl
 | cons i is ih=>
  intro vs x
  cases x with
  | cons a b=>cases a;exact .cons ⟨_,rfl⟩ (ih b)
theorem lawX (T:Top qX (looseW qX glX) mean mg mb s.heap) (Y:saysX w s.heap) {fa:Addr} (hmg:mg "law" = some (.ref fa)) {v:Value} {zs:List Int} (hl:zs.length≤1000) {Ps:Params}
  (hW:Well Ps s.heap v (ofPy (.list (zs.map PyData.int)))) {Q:Value→Shared→Prop} {E:Value→Shared→Prop} (hQ:∀s':Shared,(∀b o,s.heap.get? b=some o→s'.heap.get? b=some o)→s'={ s with heap:=s'.heap,toks:=s'.toks }→Q (.bool true) s') :
  wpAny (model prog w) callerA (PySem.call (.ref fa) [v]) Q E s:=by
 obtain ⟨sl,hev⟩:=law3_true zs
 have hG:=gloX (prog:=prog) T Y
 obtain ⟨a,fd,d,ha,ok,_⟩:=hG.fn "law" 40 law_ix
 cases Option.some.inj (hmg.symm.trans ha)
 have rv:Rep (PX prog w s.heap mg mb) s.heap.get? (.list (zs.map .int)) v:=by
  cases hW with
  | list e y=>
   have r:=repsInts (P:=PX prog w s.heap mg mb) (Z:=s.heap.get?) zs y
   exact ⟨_,_,_,rfl,e,by rw [r.length,List.length_map];exact Nat.le_trans hl (by decide),r⟩
 refine CallG.plain (call_all (P:=PX prog w s.heap mg mb) (bodies_of (TXfns prog w s.heap mg mb)) 301 ⟨PX prog w s.heap mg mb,301,callerA,s.heap,[]⟩ rfl rfl) (Z:=s.heap.get?) (xs:= [.list (zs.map .int)])
  {
   glo:=hG,below:=below_caller _,gb:=fun _ _ e=>e,sub:=fun _ _ e=>e,gz:=fun _ _ e=>e,frz:=fun b hb=>(nomatch hb),depth:=depthX,units:=unitsX,hand:=rfl } ok (.cons rv .nil) ?_
 show K _ _ _ (callT real T3L 301 40 [.val (.list (zs.map .int))]>>=retD) Q E s
 rw [hev]
 intro v' Z' s' g r
 cases (show v' = .bool true from r)
 exact hQ s' (fun b o e=>g.ks.keep b o e (fun q=>q) (fun q=>nomatch q)) g.same
end
theorem lawPost (l:OpenLaw) (args:List WData):l.row.claim.post args (.bool true) args=true:=by
 refine postW_of (X:=true) ?_ ?_ rfl
 ·first | rfl | decide | simp [WShape.has,OpenLaw.row]
 ·show WTm.value _ (.eq .res (.lit (.bool true))) _=_
  first | rfl | decide | (unfold WTm.value;rfl) | (simp [WTm.value];first | rfl | decide | exact (same_iff _ _).mpr rfl | exact same_iff.mpr rfl | simp [same_iff])
end DK.Internal
end
section
set_option backward.match.sparseCases false
set_option genSizeOf false
set_option genCtorIdx false
set_option maxRecDepth 100000
set_option maxHeartbeats 8000000
namespace DK.Internal
open PySem PySem.W PyProof.Rows
noncomputable abbrev rX:OpenRow:=PySem.Challenge.rw_sx_r148_3.row
noncomputable def XtX (s:Shared):Bool:=xlAt qX [] s && W.recOk (RowW.records (OpenRow.toRowW rX)) s
theorem pair_map {α β γ:Type} {o:Option α} {f:α→β} {g:α→γ} {a:β} {b:γ} (h1:o.map f=some a) (h2:o.map g=some b):o.map (fun x=>(f x,g x))=some (a,b):=by
 cases o with
 | none=>cases h1
 | some x=>cases h1;cases h2;rfl
theorem left0 (w:World):(fencedOpening treeTable rX.prog w 3868).map (fun s₀=>(topFrom treeTable rX.prog (w.withFollow "special-get-raises" false) 3868 s₀).map fun s=>(openSeen qX glX (importedModules rX.prog.main.body) XtX true s,obsX s))=some (some (openGood qX glX,valX (w.withFollow "special-get-raises" false))):=by kernel_rfl
theorem left1 (w:World):(fencedOpening treeTable rX.prog w 3868).map (fun s₀=>(topFrom treeTable rX.prog (w.withFollow "special-get-raises" true) 3868 s₀).map fun s=>(openSeen qX glX (importedModules rX.prog.main.body) XtX true s,obsX s))=some (some (openGood qX glX,valX (w.withFollow "special-get-raises" true))):=by kernel_rfl
theorem leftX:LeftO rX.prog qX glX XtX obsX valX 3868:=LeftO.of_split "special-get-raises" fun w=>pair_map (left0 w) (left1 w)
end DK.Internal
end
section
set_option backward.match.sparseCases false
set_option genSizeOf false
set_option genCtorIdx false
set_option maxRecDepth 100000
set_option maxHeartbeats 8000000
namespace DK.Internal
open PySem PySem.W PyProof.Rows
theorem says_keeps (w:World) (h h':Heap) (y:saysX w h) (k:∀b o,h.get? b=some o→h'.get? b=some o):saysX w h':=fun P hw st m hm=>y P hw (fun b o e=>st b o (k b o e)) m hm
noncomputable def dX:DefRec:=((PySem.W.defOf qX rX.name).getD ⟨⟨"",default,[],default,default⟩,[]⟩).1
theorem nameX:dX.name=Str.ofString "law" :=by kernel_rfl
theorem hdefX:PySem.W.defOf qX rX.name=some (dX,[]):=by kernel_rfl
theorem hpX:rX.prog.theDef rX.name=some (dX.params,dX.body,dX.scope):=by kernel_rfl
theorem hkX:kwWritten? dX.params.kwonlyargs dX.params.kw_defaults=some []:=by kernel_rfl
theorem okX:(chainsOk qX && opensWell rX.prog && (PySem.W.frees rX.toRowW && rX.within.isEmpty))=true:=by kernel_rfl
theorem roadX:noRoadLSs { strict:= !(importedModules rX.prog.main.body).all cThrough.contains,foot:=none,bare:=(["vars", "dir", "locals"]:List Str).filter (readsOut rX.prog rX.prog.main.body) } rX.prog.main.body=true:=by kernel_rfl
theorem looksX:looksOpen rX.prog=true:=by
 unfold looksOpen
 rw [roadX]
 kernel_rfl
theorem partX:rX.partSaid=true:=by
 unfold OpenRow.partSaid
 rw [looksX]
 kernel_rfl
theorem rowX:rX.wellSaid=true:=by
 unfold OpenRow.wellSaid
 rw [partX]
 kernel_rfl
noncomputable abbrev lX:OpenLaw:=PySem.Challenge.rw_sx_r148_3
theorem road2X:noRoadLSs { strict:=true,foot:=some lX.bound',writes:=lX.writes,may:=lX.may } lX.footing=true:=by kernel_rfl
theorem boundX:lX.bound'.all (fun n=> !builtinNamed n || lX.about == [n] || !lX.reads n)=true:=by kernel_rfl
theorem saidX:lX.wellSaid=true:=by
 unfold OpenLaw.wellSaid
 rw [rowX,road2X,boundX]
 kernel_rfl
theorem bareX:rX.prog.bare:=⟨rfl,rfl,rfl,rfl,rfl,by decide +kernel⟩
theorem witX:rX.toRowW.promised:=⟨[.list []],by decide +kernel,by decide +kernel⟩
theorem walkX:WalkO qX glX (XL qX []) saysX rX.toRowW dX [] (fun f vs=>PySem.call f vs):=by
 intro w s₀ s₁ mg mb G Y fa o pm cd doc dV kV ho hd hcd hD hmg hg args vals as hpre hlay hrd hwl hlo
 rw [nameX] at hmg
 refine Ground.open G ?_
 intro T B D TE TW
 clear ho hd hcd hD B D TE TW G
 wrow_args hpre hlay hrd hwl hlo
 all_goals (
  refine lawX T Y hmg ?_ ‹Well _ _ _ _› ?_
  ·omega
  ·intro s' k e
   refine ⟨.inl ⟨_,.bool true,[],rfl,fun _=>rfl,.bool true,lawPost _ _,fun _=>⟨List.nodup_nil,fun a ha=>nomatch ha⟩⟩,.of_keep k,by rw [e],.of_eq (by rw [e];exact hg)⟩)
end DK.Internal
end
open PySem PySem.W PyProof.Rows DK.Internal
theorem PySem.Challenge.cw_sx_r148_3_holds : PySem.Challenge.rw_sx_r148_3.Holds :=
  holds_law saidX fun said => holds_open (q := qX) (loose := glX) (Xt := XtX) (XP := XL qX []) (Yf := obsX) (Ya := valX) (YP := saysX) (N := 3868) leftX says_of says_keeps (fun s e => xl_of s (Bool.and_eq_true_iff.mp e).1) XL.keeps hdefX hpX hkX (fun s e => recFacts_of (Bool.and_eq_true_iff.mp e).2) rfl said okX bareX witX walkX
