import PyProof.Rows.All
import PySem.Syntax
import PyProof.TableCode
import Wide.BytesRules
import KE.KBytesCut
import KE.BytesMulAny
import PyProof.Rows.CatFin
import KE.LcSums
import PyProof.Rows.SortStr
import PySem.Eval
import KE.KBytesWalk
import PyProof.WalksEnum
import PyProof.WalksMore
import PyProof.StrWalks
import PyProof.EnumMake
import PyProof.RangeFor
import PyProof.Rows.Range3
import PyProof.DictDisplay
import PyProof.ExcFactsAll.ValueError
import OpenK.KCall
import PyProof.RulesTry
import Open.Line
import Wide.All
import PySem.Challenge.RW_sx_r148_2
set_option Elab.async false
set_option linter.all false
section
set_option backward.match.sparseCases false
set_option genSizeOf false
namespace DK.Internal
open PySem
inductive Ty where
 | tBytes | tTuple | tList | tInt | tBool | tStr | tNone
 deriving DecidableEq
set_option genCtorIdx false
inductive D where
 | none
 | bool (b:Bool)
 | int (i:Int)
 | str (s:List Nat)
 | bytes (b:List UInt8)
 | tuple (xs:List D)
 | list (xs:List D)
 | dict (ks vs:List D)
 | typ (t:Ty)
 deriving Inhabited
noncomputable def D.ctorIdx (x:D):Nat:=D.casesOn x (nat_lit 0) (fun _=>nat_lit 1) (fun _=>nat_lit 2) (fun _=>nat_lit 3) (fun _=>nat_lit 4) (fun _=>nat_lit 5) (fun _=>nat_lit 6) (fun _ _=>nat_lit 7) (fun _=>nat_lit 8)
inductive Out (α:Type) where
 | ok (a:α)
 | exc
 | stuck
noncomputable def Out.ctorIdx {α:Type} (x:Out α):Nat:=Out.casesOn x (fun _=>nat_lit 0) (nat_lit 1) (nat_lit 2)
namespace Out
noncomputable def bind {α β:Type} (o:Out α) (f:α→Out β):Out β:=match o with
 | .ok a=>f a
 | .exc=> .exc
 | .stuck=> .stuck
noncomputable instance:Monad Out where
 pure:= .ok
 bind:=bind
theorem ok_bind {α β} (a:α) (f:α→Out β):(Out.ok a>>=f)=f a:=rfl
end Out
@[irreducible] noncomputable def BIG:Nat:=2 ^ 8192
noncomputable def SZ:Nat:=1000000
noncomputable def lexLt:List UInt8→List UInt8→Bool
 | [],[]=>false
 | [],_::_=>true
 | _::_,[]=>false
 | a::as,b::bs=>if a.toNat < b.toNat then true else if a.toNat=b.toNat then lexLt as bs else false
noncomputable def lexLe (a b:List UInt8):Bool:= !lexLt b a
noncomputable def insB (x:List UInt8):List (List UInt8)→List (List UInt8)
 | []=> [x]
 | y::ys=>if lexLt y x then y::insB x ys else x::y::ys
noncomputable def sortB:List (List UInt8)→List (List UInt8)
 | []=> []
 | x::xs=>insB x (sortB xs)
section
variable {β:Type}
noncomputable def onBool (f:Bool→Out β) (y:D):Out β:=match y with
 | .bool i=>f i
 | _=> .stuck
noncomputable def onInt (f:Int→Out β) (y:D):Out β:=match y with
 | .int i=>f i
 | _=> .stuck
noncomputable def onStr (f:List Nat→Out β) (y:D):Out β:=match y with
 | .str i=>f i
 | _=> .stuck
noncomputable def onBytes (f:List UInt8→Out β) (y:D):Out β:=match y with
 | .bytes i=>f i
 | _=> .stuck
noncomputable def onTup (f:List D→Out β) (y:D):Out β:=match y with
 | .tuple i=>f i
 | _=> .stuck
noncomputable def onDict (f:List D→List D→Out β) (y:D):Out β:=match y with
 | .dict ks vs=>f ks vs
 | _=> .stuck
noncomputable def onLst (f:List D→Out β) (y:D):Out β:=match y with
 | .list i=>f i
 | _=> .stuck
end
noncomputable def andB (o p:Out Bool):Out Bool:=o>>=fun b=>p>>=fun c=> .ok (b && c)
noncomputable def allEq (f:D→D→Out Bool):List D→List D→Out Bool
 | [],ys=>(match ys with | []=> .ok true | _=> .stuck)
 | x::xs,ys=>(match ys with | y::ys=>andB (f x y) (allEq f xs ys) | []=> .stuck)
noncomputable def D.feq (x y:D):Out Bool:=match x with
 | .none=>(match y with | .none=> .ok true | _=> .stuck)
 | .bool a=>onBool (fun b=> .ok (a == b)) y
 | .int a=>onInt (fun b=> .ok (decide (a=b))) y
 | .str a=>onStr (fun b=> .ok (a == b)) y
 | .bytes a=>onBytes (fun b=> .ok (decide (a=b))) y
 | _=> .stuck
noncomputable def D.peq:Nat→D→D→Out Bool
 | 0,x,y=>x.feq y
 | n+1,x,y=>match x with
  | .tuple a=>onTup (allEq (D.peq n) a) y
  | .list a=>onLst (allEq (D.peq n) a) y
  | x=>x.feq y
abbrev eqDeep:Nat:=64
noncomputable def truthy:D→Out Bool
 | .bool b=> .ok b
 | .int i=> .ok (decide (i≠0))
 | _=> .stuck
noncomputable def noneOr (o:Out Bool) (y:D):Out Bool:=match y with
 | .none=>o
 | .bool _=> .ok false
 | _=> .stuck
noncomputable def isThing (x y:D):Out Bool:=match x with
 | .none=>noneOr (.ok true) y
 | .bool a=>onBool (fun b=> .ok (a == b)) y
 | .typ a=>(match y with | .typ b=> .ok (decide (a=b)) | _=> .stuck)
 | .int _=>noneOr (.ok false) y
 | .str _=>noneOr (.ok false) y
 | _=> .stuck
noncomputable def small (a:Int):Bool:=decide (a.natAbs < 4294967296)
noncomputable def intOp (a b:Int):Operator→Out D
 | .Add=> .ok (.int (a+b))
 | .Sub=> .ok (.int (a - b))
 | .Mult=>if small a=true∧small b=true then .ok (.int (a*b)) else .stuck
 | .FloorDiv=>if 0 < b∧b < 1073741824 then .ok (.int (a / b)) else .stuck
 | .Mod=>if 0 < b then .ok (.int (a % b)) else .stuck
 | .LShift=>if 0≤b∧b≤8192∧a.natAbs < BIG then .ok (.int (a*2 ^ b.toNat)) else .stuck
 | .RShift=>if 0≤b then .ok (.int (a / 2 ^ b.toNat)) else .stuck
 | .BitAnd=>if 0≤a∧0≤b then .ok (.int (a.toNat &&& b.toNat:Nat)) else .stuck
 | .BitOr=>if 0≤a∧0≤b then .ok (.int (a.toNat ||| b.toNat:Nat)) else .stuck
 | _=> .stuck
noncomputable def addB (a:List UInt8):D→Out D:=onBytes fun b=>if a.length+b.length≤SZ then .ok (.bytes (a++b)) else .stuck
noncomputable def addS (a:List Nat):D→Out D:=onStr fun b=>if a.length+b.length≤SZ then .ok (.str (a++b)) else .stuck
noncomputable def addL (a:List D):D→Out D:=onLst fun b=>if a.length+b.length≤SZ then .ok (.list (a++b)) else .stuck
noncomputable def mulB (a:List UInt8):D→Out D:=onInt fun n=>if 0≤n∧n≤50000∧a≠[]∧a.length≤16 then .ok (.bytes (List.replicate n.toNat a).flatten) else .stuck
noncomputable def mulL (a:List D):D→Out D:=onInt fun n=>if 0≤n∧a.length*n.toNat≤SZ∧n≤SZ then .ok (.list (List.replicate n.toNat a).flatten) else .stuck
noncomputable def binop (op:Operator) (x y:D):Out D:=match x with
 | .int a=>onInt (fun b=>intOp a b op) y
 | .bytes a=>(match op with | .Add=>addB a y | .Mult=>mulB a y | _=> .stuck)
 | .str a=>(match op with | .Add=>addS a y | _=> .stuck)
 | .list a=>(match op with | .Add=>addL a y | .Mult=>mulL a y | _=> .stuck)
 | _=> .stuck
noncomputable def keyIs:D→D→Bool
 | .int a,.int b=>decide (a=b)
 | .str a,.str b=>a == b
 | _,_=>false
noncomputable def dget (k:D):List D→List D→Option D
 | x::xs,v::vs=>if keyIs x k then some v else dget k xs vs
 | _,_=>none
noncomputable def isInt:D→Bool
 | .int _=>true
 | _=>false
noncomputable def isStr:D→Bool
 | .str _=>true
 | _=>false
noncomputable def okB (b:Bool):Out D:= .ok (.bool b)
noncomputable def nokB (b:Bool):Out D:= .ok (.bool !b)
noncomputable def ordI (a b:Int):CmpOp→Out D
 | .Lt=> .ok (.bool (@decide (a < b) (Classical.propDecidable _)))
 | .LtE=> .ok (.bool (@decide (a≤b) (Classical.propDecidable _)))
 | .Gt=> .ok (.bool (@decide (a > b) (Classical.propDecidable _)))
 | .GtE=> .ok (.bool (@decide (a≥b) (Classical.propDecidable _)))
 | _=> .stuck
noncomputable def ordB (a b:List UInt8):CmpOp→Out D
 | .Lt=> .ok (.bool (lexLt a b))
 | .LtE=> .ok (.bool (lexLe a b))
 | _=> .stuck
noncomputable def ordD (od:Int→Int→CmpOp→Out D) (op:CmpOp) (x y:D):Out D:=match x with
 | .int a=>onInt (fun b=>od a b op) y
 | .bytes a=>onBytes (fun b=>ordB a b op) y
 | _=> .stuck
noncomputable def inD (x y:D):Out D:=match y with
 | .dict ks _=>onStr (fun s=>if ks.all isStr then .ok (.bool (ks.any fun k=>keyIs k (.str s))) else .stuck) x
 | .list xs=>onInt (fun i=>if xs.all isInt then .ok (.bool (xs.any fun x=>keyIs x (.int i))) else .stuck) x
 | .tuple xs=>onStr (fun s=>if xs.all isStr then .ok (.bool (xs.any fun x=>keyIs x (.str s))) else .stuck) x
 | _=> .stuck
noncomputable def cmpop (od:Int→Int→CmpOp→Out D) (op:CmpOp) (x y:D):Out D:=match op with
 | .Eq=>D.peq eqDeep x y>>=okB
 | .NotEq=>D.peq eqDeep x y>>=nokB
 | .Is=>isThing x y>>=okB
 | .IsNot=>isThing x y>>=nokB
 | .In=>inD x y
 | op=>ordD od op x y
noncomputable def place (n:Nat) (i:Int):Option Nat:=
 let j:=if i < 0 then i+n else i
 if 0≤j∧j < n then some j.toNat else none
noncomputable def atB (b:List UInt8) (o:Option Nat):Out D:=match o with
 | some j=>(match b[j]? with | some u=> .ok (.int u.toNat) | none=> .stuck)
 | none=> .stuck
noncomputable def atL (b:List D) (o:Option Nat):Out D:=match o with
 | some j=>(match b[j]? with | some d=> .ok d | none=> .stuck)
 | none=> .stuck
noncomputable def optD:Option D→Out D
 | some d=> .ok d
 | none=> .stuck
noncomputable def index (x y:D):Out D:=match x with
 | .tuple xs=>onInt (fun i=>atL xs (place xs.length i)) y
 | .list xs=>onInt (fun i=>atL xs (place xs.length i)) y
 | .bytes b=>onInt (fun i=>atB b (place b.length i)) y
 | .dict ks vs=>onStr (fun s=>if ks.all isStr then optD (dget (.str s) ks vs) else .stuck) y
 | _=> .stuck
noncomputable def clip (n:Nat) (i:Int):Nat:=(max 0 (min (if i < 0 then i+n else i) n)).toNat
noncomputable def part (dflt n:Nat) (x:D) (f:Nat→Out D):Out D:=match x with
 | .none=>f dflt
 | .int i=>f (clip n i)
 | _=> .stuck
noncomputable def cut {α:Type} (xs:List α) (lo hi:Nat):List α:=(xs.drop lo).take (hi - lo)
noncomputable def slice (x a b:D):Out D:=match x with
 | .list xs=>part 0 xs.length a fun lo=>part xs.length xs.length b fun hi=> .ok (.list (cut xs lo hi))
 | .bytes xs=>part 0 xs.length a fun lo=>part xs.length xs.length b fun hi=> .ok (.bytes (cut xs lo hi))
 | .str xs=>onInt (fun i=>match b with | .none=>if 0≤i∧i≤xs.length then .ok (.str (xs.drop i.toNat)) else .stuck | _=> .stuck) a
 | _=> .stuck
noncomputable def isInst (x:D) (t:Ty):Out Bool:=match t with
 | .tTuple=>(match x with | .tuple _=> .ok true | .list _=> .ok false | .int _=> .ok false | .str _=> .ok false | .none=> .ok false | _=> .stuck)
 | .tList=>(match x with | .list _=> .ok true | .tuple _=> .ok false | .int _=> .ok false | .str _=> .ok false | .none=> .ok false | _=> .stuck)
 | .tInt=>(match x with | .int _=> .ok true | .bool _=> .ok true | .tuple _=> .ok false | .list _=> .ok false | .str _=> .ok false | .none=> .ok false | _=> .stuck)
 | .tBytes=>(match x with | .bytes _=> .ok true | .tuple _=> .ok false | .list _=> .ok false | .int _=> .ok false | .str _=> .ok false | .none=> .ok false | _=> .stuck)
 | _=> .stuck
noncomputable def byteOf:D→Option UInt8
 | .int i=>if 0≤i∧i < 256 then some (UInt8.ofNat i.toNat) else none
 | _=>none
noncomputable def bytesOf:List D→Option (List UInt8)
 | []=>some []
 | d::ds=>match byteOf d,bytesOf ds with
  | some b,some bs=>some (b::bs)
  | _,_=>none
noncomputable def intsOf:List D→Option (List Int)
 | []=>some []
 | .int i::ds=>match intsOf ds with
  | some is=>some (i::is)
  | none=>none
 | _=>none
noncomputable def boolsOf:List D→Option (List Bool)
 | []=>some []
 | .bool i::ds=>match boolsOf ds with
  | some is=>some (i::is)
  | none=>none
 | _=>none
noncomputable def byteStrs:List D→Option (List (List UInt8))
 | []=>some []
 | .bytes b::ds=>match byteStrs ds with
  | some bs=>some (b::bs)
  | none=>none
 | _=>none
noncomputable def digit3 (n:Nat):List Nat:= [48+n / 100,48+n / 10 % 10,48+n % 10]
set_option genCtorIdx true in
inductive Bi where
 | len | bytes | ord | str | typ | max | sum | sorted | all | list | join
noncomputable def maxI:Int→List Int→Int
 | m,[]=>m
 | m,x::xs=>maxI (if x > m then x else m) xs
noncomputable def optO {α:Type} (o:Option α) (f:α→Out D):Out D:=match o with
 | some a=>f a
 | none=> .stuck
noncomputable def lenD:D→Out D
 | .tuple xs=> .ok (.int xs.length)
 | .list xs=> .ok (.int xs.length)
 | .bytes xs=> .ok (.int xs.length)
 | _=> .stuck
noncomputable def ordC:D→Out D:=onStr fun s=>match s with | c::s=>(match s with | []=> .ok (.int c) | _=> .stuck) | []=> .stuck
noncomputable def strD:D→Out D:=onInt fun i=>if 100≤i∧i < 200 then .ok (.str (digit3 i.toNat)) else .stuck
noncomputable def typD:D→Out D
 | .bool _=> .ok (.typ .tBool)
 | .int _=> .ok (.typ .tInt)
 | .bytes _=> .ok (.typ .tBytes)
 | _=> .stuck
noncomputable def maxL:List Int→Out D
 | []=> .stuck
 | m::is=> .ok (.int (maxI m is))
noncomputable def bi1 (b:Bi) (x:D):Out D:=match b with
 | .len=>lenD x
 | .bytes=>onLst (fun xs=>optO (bytesOf xs) fun b=> .ok (.bytes b)) x
 | .ord=>ordC x
 | .str=>strD x
 | .typ=>typD x
 | .max=>onLst (fun xs=>optO (intsOf xs) maxL) x
 | .sum=> .stuck
 | .sorted=> .stuck
 | .all=>onLst (fun xs=>optO (boolsOf xs) fun bs=> .ok (.bool (bs.all id))) x
 | .list=>onLst (fun xs=> .ok (.list xs)) x
 | .join=>onLst (fun xs=>optO (byteStrs xs) fun bs=>if bs.flatten.length≤SZ∧bs.length≤SZ then .ok (.bytes bs.flatten) else .stuck) x
noncomputable def builtin (b:Bi) (xs:List D):Out D:=match xs with
 | x::r=>(match r with | []=>bi1 b x | _=> .stuck)
 | []=> .stuck
noncomputable def orElse (dflt:D):Option D→Out D
 | some d=> .ok d
 | none=> .ok dflt
noncomputable def dictGet (ks vs:List D) (xs:List D):Out D:=match xs with
 | k::r=>(match r with
  | []=>onInt (fun i=>if ks.all isInt then orElse .none (dget (.int i) ks vs) else .stuck) k
  | d::r=>(match r with | []=>onStr (fun s=>if ks.all isStr then orElse d (dget (.str s) ks vs) else .stuck) k | _=> .stuck))
 | []=> .stuck
inductive Tgt where
 | one (i:Nat)
 | many (is:List Nat)
set_option genSizeOf false
set_option genInjectivity false
mutual
inductive C where
 | k (d:D)
 | var (i:Nat)
 | glob (g:Nat)
 | bin (op:Operator) (a b:C)
 | neg (a:C)
 | not (a:C)
 | and (a b:C)
 | or (a b:C)
 | cmp (op:CmpOp) (a b:C)
 | idx (a i:C)
 | slc (a lo hi:C)
 | tup (es:Cs)
 | lst (es:Cs)
 | call (f:Nat) (args:Cs)
 | bi (b:Bi) (args:Cs)
 | get (d:C) (args:Cs)
 | copy (i:Nat)
 | isi (a:C) (t:Ty)
 | comp (n:Nat) (gens:Gens)
 | bad
inductive Cs where
 | nil
 | cons (c:C) (cs:Cs)
inductive It where
 | seq (c:C)
 | rng (lo hi:C) (step:Int)
 | enum (c:C)
inductive Gens where
 | last (t:Tgt) (it:It) (ifs:Cs) (elt:C)
 | more (t:Tgt) (it:It) (ifs:Cs) (rest:Gens)
end
inductive As where
 | nil
 | val (c:C) (r:As)
 | own (i:Nat) (r:As)
 | fresh (r:As)
mutual
inductive S where
 | ret (e:C)
 | asg (i:Nat) (e:C)
 | own (i:Nat) (e:C)
 | unp (is:List Nat) (e:C)
 | aug (i:Nat) (op:Operator) (e:C)
 | ife (t:C) (a b:Ss)
 | whl (t:C) (b:Ss)
 | forr (t:Tgt) (it:It) (b:Ss)
 | raise
 | frz (i:Nat)
 | app (i:Nat) (e:C)
 | ext (i:Nat) (e:C)
 | pop (i:Nat)
 | sub (i:Nat) (j v:C)
 | callx (f:Nat) (args:As)
 | ex (e:C)
 | tri (i:Option Nat) (e:C) (hi:Nat) (he:C)
 | brk
 | cont
 | bad
inductive Ss where
 | nil
 | cons (s:S) (ss:Ss)
end
inductive Slot where
 | un
 | val (d:D)
 | own (xs:List D)
noncomputable def Slot.ctorIdx (x:Slot):Nat:=Slot.casesOn x (nat_lit 0) (fun _=>nat_lit 1) (fun _=>nat_lit 2)
inductive Fl where
 | next | brk | cont
 | ret (d:D)
noncomputable def Fl.ctorIdx (x:Fl):Nat:=Fl.casesOn x (nat_lit 0) (nat_lit 1) (nat_lit 2) (fun _=>nat_lit 3)
abbrev Reply:=Fl × List Slot
noncomputable def getS:Option Slot→Out D
 | some (.val d)=> .ok d
 | _=> .stuck
noncomputable def getV (sl:List Slot) (i:Nat):Out D:=getS sl[i]?
noncomputable def setV (sl:List Slot) (i:Nat) (s:Slot):List Slot:=sl.set i s
noncomputable def setAll (sl:List Slot):List Nat→List D→Out (List Slot)
 | [],xs=>(match xs with | []=> .ok sl | _=> .stuck)
 | i::is,xs=>(match xs with | d::ds=>setAll (setV sl i (.val d)) is ds | []=> .stuck)
noncomputable def tupD (n:Nat):D→Out (List D):=onTup fun xs=>if n=xs.length then .ok xs else .stuck
noncomputable def bindT (sl:List Slot) (t:Tgt) (d:D):Out (List Slot):=match t with
 | .one i=> .ok (setV sl i (.val d))
 | .many is=>tupD is.length d>>=setAll sl is
noncomputable def itemsOf:D→Out (List D)
 | .list xs=> .ok xs
 | .tuple xs=> .ok xs
 | .bytes b=> .ok (b.map fun u=> .int u.toNat)
 | .str s=> .ok (s.map fun c=> .str [c])
 | _=> .stuck
noncomputable def upFrom (lo:Int):Nat→List D
 | 0=> []
 | n+1=> .int lo::upFrom (lo+1) n
noncomputable def downFrom (lo:Int):Nat→List D
 | 0=> []
 | n+1=> .int lo::downFrom (lo - 1) n
noncomputable def rngI (a b st:Int):Out (List D):=
 if small a=true∧small b=true∧(b - a).toNat≤SZ∧(a - b).toNat≤SZ then
  (if st=1 then .ok (upFrom a (b - a).toNat) else if st = -1 then .ok (downFrom a (a - b).toNat) else .stuck) else .stuck
noncomputable def rangeOf (x y:D) (st:Int):Out (List D):=onInt (fun a=>onInt (fun b=>rngI a b st) y) x
noncomputable def enumFrom (i:Int):List D→List D
 | []=> []
 | d::ds=> .tuple [.int i,d]::enumFrom (i+1) ds
structure Fn where
 np:Nat
 nl:Nat
 body:Ss
structure Text where
 fns:List Fn
 globs:List D
noncomputable abbrev ap2 {α β γ:Type} (f:α→β→Out γ) (a:Out α) (b:Out β):Out γ:=a>>=fun x=>b>>=fun y=>f x y
noncomputable abbrev ap3 {α β γ δ:Type} (f:α→β→γ→Out δ) (a:Out α) (b:Out β) (c:Out γ):Out δ:=a>>=fun x=>b>>=fun y=>c>>=fun z=>f x y z
noncomputable def tupK (xs:List D):Out D:= .ok (.tuple xs)
noncomputable def lstK (xs:List D):Out D:= .ok (.list xs)
noncomputable def consK (x:D) (xs:List D):Out (List D):= .ok (x::xs)
noncomputable def arK (x:D) (xs:List Slot):Out (List Slot):= .ok (.val x::xs)
noncomputable def arO (x:List D) (xs:List Slot):Out (List Slot):= .ok (.own x::xs)
noncomputable def notB (b:Bool):Out D:= .ok (.bool !b)
noncomputable def notK (x:D):Out D:=truthy x>>=notB
noncomputable def tnotK (b:Bool):Out Bool:= .ok !b
noncomputable def isiK (t:Ty) (x:D):Out D:=isInst x t>>=okB
noncomputable def isiT (t:Ty) (x:D):Out Bool:=isInst x t
noncomputable def rngK (s:Int) (x y:D):Out (List D):=rangeOf x y s
noncomputable def globD (T:Text) (g:Nat):Out D:=match T.globs[g]? with
 | some d=> .ok d
 | none=> .stuck
noncomputable def compE (F:List D→D→(List D→Out (List D))→Out (List D)):List D→List D→Out (List D)
 | [],acc=> .ok acc
 | d::ds,acc=>F acc d (compE F ds)
noncomputable def forE (F:List Slot→D→(List Slot→Out Reply)→Out Reply):List D→List Slot→Out Reply
 | [],sl=> .ok (.next,sl)
 | d::ds,sl=>F sl d (forE F ds)
noncomputable def nextK (sl:List Slot):Out Reply:= .ok (.next,sl)
noncomputable def thenS (k:List Slot→Out Reply) (x:Reply):Out Reply:=match x.1 with
 | .next=>k x.2
 | .brk=> .ok (.brk,x.2)
 | .cont=> .ok (.cont,x.2)
 | .ret v=> .ok (.ret v,x.2)
noncomputable def loopS (k:List Slot→Out Reply) (x:Reply):Out Reply:=match x.1 with
 | .next=>k x.2
 | .cont=>k x.2
 | .brk=> .ok (.next,x.2)
 | .ret v=> .ok (.ret v,x.2)
noncomputable def retD (x:Reply):Out D:=match x.1 with
 | .ret d=> .ok d
 | _=> .stuck
noncomputable def negD:D→Out D:=onInt fun i=> .ok (.int (-i))
noncomputable def boolD:D→Out Bool:=onBool .ok
noncomputable def enumD:D→Out (List D):=onLst fun xs=> .ok (enumFrom 0 xs)
noncomputable def copyS:Option Slot→Out D
 | some (.own xs)=> .ok (.list xs)
 | some (.val (.list xs))=> .ok (.list xs)
 | _=> .stuck
noncomputable def copyD (sl:List Slot) (i:Nat):Out D:=copyS sl[i]?
noncomputable def ownS:Option Slot→Out (List D)
 | some (.own xs)=> .ok xs
 | _=> .stuck
noncomputable def ownD (sl:List Slot) (i:Nat):Out (List D):=ownS sl[i]?
noncomputable def listD:D→Out (List D):=onLst .ok
noncomputable def intD:D→Out Int:=onInt .ok
noncomputable def ifO {α:Type} (c:Bool) (a b:Out α):Out α:=if c=true then a else b
noncomputable def need {α:Type} (c:Prop) [Decidable c] (a:Out α):Out α:=if c then a else .stuck
noncomputable def whS (t:List Slot→Out Bool) (b k:List Slot→Out Reply) (sl:List Slot):Out Reply:=t sl>>=fun c=>ifO c (b sl>>=loopS k) (nextK sl)
noncomputable def whN (t:List Slot→Out Bool) (b:List Slot→Out Reply):Nat→List Slot→Out Reply
 | 0=>fun _=> .stuck
 | n+1=>whS t b (whN t b n)
noncomputable def whL (t:List Slot→Out Bool) (b:List Slot→Out Reply) (sl:List Slot):Out Reply:=
 @dite _ (∃n,whN t b n sl≠.stuck) (Classical.propDecidable _) (fun h=>whN t b (Classical.choose h) sl) (fun _=> .stuck)
noncomputable def freezeS (sl:List Slot) (i:Nat):Option Slot→List Slot
 | some (.own xs)=>setV sl i (.val (.list xs))
 | _=>sl
noncomputable def freeze (sl:List Slot) (i:Nat):List Slot:=freezeS sl i sl[i]?
noncomputable def outX:Out Reply→Out (List Slot)
 | .ok x=>(match x.1 with | .ret _=> .ok x.2 | _=> .stuck)
 | _=> .stuck
noncomputable def back:As→List Slot→List Slot→Out (List Slot)
 | .nil,_,sl=> .ok sl
 | .val _ rest,os,sl=>(match os with | _::os=>back rest os sl | []=> .stuck)
 | .own i rest,os,sl=>(match os with | o::os=>(match o with | .own ys=>back rest os (setV sl i (.own ys)) | _=> .stuck) | []=> .stuck)
 | .fresh rest,os,sl=>(match os with | o::os=>(match o with | .own _=>back rest os sl | _=> .stuck) | []=> .stuck)
noncomputable def asOwn:As→List Nat
 | .nil=> []
 | .val _ r=>asOwn r
 | .own i r=>i::asOwn r
 | .fresh r=>asOwn r
noncomputable def putO (sl:List Slot) (i:Option Nat) (d:D):List Slot:=match i with
 | some j=>setV sl j (.val d)
 | none=>sl
noncomputable def triO (i:Option Nat) (hi:Nat) (h:List Slot→Out D) (sl:List Slot):Out D→Out Reply
 | .ok d=>nextK (putO sl i d)
 | .exc=>h sl>>=fun x=>nextK (setV sl hi (.val x))
 | .stuck=> .stuck
structure Mode where
 ord:Int→Int→CmpOp→Out D
 wh:(List Slot→Out Bool)→(List Slot→Out Reply)→List Slot→Out Reply
noncomputable def real:Mode:=⟨ordI,whL⟩
section
variable (M:Mode) (T:Text) (cl:Nat→List Slot→Out Reply)
noncomputable def callV (f:Nat) (xs:List D):Out D:=cl f (xs.map .val)>>=retD
mutual
noncomputable def ex:C→List Slot→Out D
 | .k d,_=> .ok d
 | .var i,sl=>getV sl i
 | .glob g,_=>globD T g
 | .bin op a b,sl=>ap2 (binop op) (ex a sl) (ex b sl)
 | .neg a,sl=>ex a sl>>=negD
 | .not a,sl=>ex a sl>>=notK
 | .and a b,sl=>ex a sl>>=fun x=>truthy x>>=fun t=>ifO t (ex b sl) (.ok x)
 | .or a b,sl=>ex a sl>>=fun x=>truthy x>>=fun t=>ifO t (.ok x) (ex b sl)
 | .cmp op a b,sl=>ap2 (cmpop M.ord op) (ex a sl) (ex b sl)
 | .idx a i,sl=>ap2 index (ex a sl) (ex i sl)
 | .slc a lo hi,sl=>ap3 slice (ex a sl) (ex lo sl) (ex hi sl)
 | .tup es,sl=>exs es sl>>=tupK
 | .lst es,sl=>exs es sl>>=lstK
 | .call f args,sl=>exs args sl>>=callV cl f
 | .bi b args,sl=>exs args sl>>=builtin b
 | .get d args,sl=>ex d sl>>=onDict fun ks vs=>exs args sl>>=dictGet ks vs
 | .copy i,sl=>copyD sl i
 | .isi a t,sl=>ex a sl>>=isiK t
 | .comp n g,sl=>cmpr g sl (sl++List.replicate n .un) []>>=lstK
 | .bad,_=> .stuck
noncomputable def exs:Cs→List Slot→Out (List D)
 | .nil,_=> .ok []
 | .cons c cs,sl=>ap2 consK (ex c sl) (exs cs sl)
noncomputable def tst:C→List Slot→Out Bool
 | .not a,sl=>tst a sl>>=tnotK
 | .and a b,sl=>tst a sl>>=fun t=>ifO t (tst b sl) (.ok false)
 | .or a b,sl=>tst a sl>>=fun t=>ifO t (.ok true) (tst b sl)
 | .cmp op a b,sl=>ap2 (cmpop M.ord op) (ex a sl) (ex b sl)>>=boolD
 | .k d,_=>truthy d
 | .var i,sl=>getV sl i>>=truthy
 | .call f args,sl=>exs args sl>>=callV cl f>>=truthy
 | .isi a t,sl=>ex a sl>>=isiT t
 | .idx a i,sl=>ap2 index (ex a sl) (ex i sl)>>=truthy
 | .bi b args,sl=>exs args sl>>=builtin b>>=truthy
 | _,_=> .stuck
noncomputable def items:It→List Slot→Out (List D)
 | .seq c,sl=>ex c sl>>=itemsOf
 | .rng lo hi st,sl=>ap2 (rngK st) (ex lo sl) (ex hi sl)
 | .enum c,sl=>ex c sl>>=enumD
noncomputable def tsts:Cs→List Slot→Out Bool
 | .nil,_=> .ok true
 | .cons c cs,sl=>tst c sl>>=fun t=>ifO t (tsts cs sl) (.ok false)
noncomputable def cmpr:Gens→List Slot→List Slot→List D→Out (List D)
 | .last t it ifs elt,slo,sl,acc=>items it slo>>=fun xs=>compE (fun acc d k=>bindT sl t d>>=fun sl'=>tsts ifs sl'>>=fun b=>
   ifO b (ex elt sl'>>=fun y=>need (acc.length < SZ) (k (acc ++ [y]))) (k acc)) xs acc
 | .more t it ifs rest,slo,sl,acc=>items it slo>>=fun xs=>compE (fun acc d k=>bindT sl t d>>=fun sl'=>tsts ifs sl'>>=fun b=>
   ifO b (cmpr rest sl' sl' acc>>=k) (k acc)) xs acc
end
noncomputable def args:As→List Slot→Out (List Slot)
 | .nil,_=> .ok []
 | .val c rest,sl=>ap2 arK (ex M T cl c sl) (args rest sl)
 | .own i rest,sl=>ap2 arO (ownD sl i) (args rest sl)
 | .fresh rest,sl=>ap2 arO (.ok []) (args rest sl)
mutual
noncomputable def st:S→List Slot→Out Reply
 | .ret e,sl=>ex M T cl e sl>>=fun x=> .ok (.ret x,sl)
 | .asg i e,sl=>ex M T cl e sl>>=fun x=>nextK (setV sl i (.val x))
 | .own i e,sl=>ex M T cl e sl>>=fun x=>listD x>>=fun xs=>nextK (setV sl i (.own xs))
 | .unp is e,sl=>ex M T cl e sl>>=fun x=>tupD is.length x>>=fun xs=>setAll sl is xs>>=nextK
 | .aug i op e,sl=>getV sl i>>=fun x=>ex M T cl e sl>>=fun y=>intD x>>=fun a=>intD y>>=fun b=>intOp a b op>>=fun z=>nextK (setV sl i (.val z))
 | .ife t a b,sl=>tst M T cl t sl>>=fun c=>ifO c (sts a sl) (sts b sl)
 | .whl t b,sl=>M.wh (tst M T cl t) (sts b) sl
 | .forr t it b,sl=>items M T cl it sl>>=fun xs=>forE (fun sl d k=>bindT sl t d>>=fun sl'=>sts b sl'>>=loopS k) xs sl
 | .raise,_=> .exc
 | .frz i,sl=>nextK (freeze sl i)
 | .app i e,sl=>ownD sl i>>=fun xs=>ex M T cl e sl>>=fun x=>need (xs.length < SZ) (nextK (setV sl i (.own (xs ++ [x]))))
 | .ext i e,sl=>ownD sl i>>=fun xs=>ex M T cl e sl>>=fun x=>listD x>>=fun ys=>need (xs.length+ys.length≤SZ) (nextK (setV sl i (.own (xs++ys))))
 | .pop i,sl=>ownD sl i>>=fun xs=>need (xs≠[]) (nextK (setV sl i (.own xs.dropLast)))
 | .sub i j v,sl=>ownD sl i>>=fun xs=>ex M T cl v sl>>=fun x=>ex M T cl j sl>>=fun y=>intD y>>=fun n=>need (0≤n∧n < xs.length) (nextK (setV sl i (.own (xs.set n.toNat x))))
 | .callx f as,sl=>need (asOwn as).Nodup (args M T cl as sl>>=fun xs=>outX (cl f xs)>>=fun os=>back as os sl>>=nextK)
 | .ex e,sl=>ex M T cl e sl>>=fun _=>nextK sl
 | .tri i e hi he,sl=>triO i hi (ex M T cl he) sl (ex M T cl e sl)
 | .brk,sl=> .ok (.brk,sl)
 | .cont,sl=> .ok (.cont,sl)
 | .bad,_=> .stuck
noncomputable def sts:Ss→List Slot→Out Reply
 | .nil,sl=>nextK sl
 | .cons s ss,sl=>st s sl>>=thenS (sts ss)
end
end
noncomputable def Fn.start (f:Fn) (as:List Slot):List Slot:=as++List.replicate (f.nl - f.np) .un
noncomputable def retF (np:Nat) (x:Reply):Out Reply:=match x.1 with
 | .ret d=> .ok (.ret d,x.2.take np)
 | .next=> .ok (.ret .none,x.2.take np)
 | _=> .stuck
noncomputable def runF (M:Mode) (T:Text) (cl:Nat→List Slot→Out Reply) (as:List Slot):Option Fn→Out Reply
 | some fn=>need (as.length=fn.np∧fn.np≤fn.nl) (sts M T cl fn.body (fn.start as)>>=retF fn.np)
 | none=> .stuck
noncomputable def callT (M:Mode) (T:Text):Nat→Nat→List Slot→Out Reply
 | 0,_,_=> .stuck
 | r+1,f,as=>runF M T (callT M T r) as T.fns[f]?
theorem Out.bind_assoc {α β γ} (x:Out α) (f:α→Out β) (g:β→Out γ):(x>>=f)>>=g=x>>=fun a=>f a>>=g:=by
 cases x<;>rfl
theorem whS_mono {t b} {k k':List Slot→Out Reply} (h:∀sl,k sl = .stuck∨k sl=k' sl) (sl):whS t b k sl = .stuck∨whS t b k sl=whS t b k' sl:=by
 unfold whS
 cases t sl with
 | exc=>exact .inr rfl
 | stuck=>exact .inl rfl
 | ok c=>
  cases c with
  | false=>exact .inr rfl
  | true=>
   show (b sl>>=loopS k)=_∨(b sl>>=loopS k)=(b sl>>=loopS k')
   cases b sl with
   | exc=>exact .inr rfl
   | stuck=>exact .inl rfl
   | ok x=>
    obtain ⟨f,sl⟩:=x
    cases f with
    | next=>exact h sl
    | cont=>exact h sl
    | brk=>exact .inr rfl
    | ret d=>exact .inr rfl
theorem whN_le (t b):∀n sl,whN t b n sl = .stuck∨whN t b n sl=whN t b (n+1) sl
 | 0=>fun _=> .inl rfl
 | n+1=>whS_mono (whN_le t b n)
theorem whN_up (t b sl n) (h:whN t b n sl≠.stuck):∀m,whN t b (n+m) sl=whN t b n sl
 | 0=>rfl
 | m+1=>by
  have e:=whN_up t b sl n h m
  rcases whN_le t b (n+m) sl with q | q
  ·exact absurd (e.symm.trans q) h
  ·exact q.symm.trans e
theorem whL_get (t b sl):∃n,whL t b sl=whN t b n sl:=by
 unfold whL
 by_cases h:∃n,whN t b n sl≠.stuck
 ·rw [dif_pos h];exact ⟨_,rfl⟩
 ·rw [dif_neg h];exact ⟨0,rfl⟩
theorem whL_of (t b sl n) (h:whN t b n sl≠.stuck):whL t b sl=whN t b n sl:=by
 have hx:∃n,whN t b n sl≠.stuck:=⟨n,h⟩
 unfold whL
 rw [dif_pos hx]
 have h2:=Classical.choose_spec hx
 rw [←whN_up t b sl _ h2 n,←whN_up t b sl _ h (Classical.choose hx),Nat.add_comm]
theorem whN_whL (t b n sl):whN t b n sl = .stuck∨whN t b n sl=whL t b sl:=by
 by_cases h:whN t b n sl = .stuck
 ·exact .inl h
 ·exact .inr (whL_of t b sl n h).symm
theorem whS_get (t b sl):∃n,whS t b (whL t b) sl=whS t b (whN t b n) sl:=by
 unfold whS
 cases t sl with
 | exc=>exact ⟨0,rfl⟩
 | stuck=>exact ⟨0,rfl⟩
 | ok c=>
  cases c with
  | false=>exact ⟨0,rfl⟩
  | true=>
   show ∃n,(b sl>>=loopS (whL t b))=(b sl>>=loopS (whN t b n))
   cases b sl with
   | exc=>exact ⟨0,rfl⟩
   | stuck=>exact ⟨0,rfl⟩
   | ok x=>
    obtain ⟨f,sl⟩:=x
    cases f with
    | next=>exact whL_get t b sl
    | cont=>exact whL_get t b sl
    | brk=>exact ⟨0,rfl⟩
    | ret d=>exact ⟨0,rfl⟩
theorem whL_eq (t b sl):whL t b sl=whS t b (whL t b) sl:=by
 obtain ⟨n,hn⟩:=whS_get t b sl
 by_cases h:whN t b (n+1) sl = .stuck
 ·obtain ⟨m,hm⟩:=whL_get t b sl
  have e:whS t b (whL t b) sl = .stuck:=hn.trans h
  rw [e,hm]
  cases m with
  | zero=>rfl
  | succ m=>exact (whS_mono (whN_whL t b m) sl).elim id fun q=>q.trans e
 ·exact (whL_of t b sl _ h).trans hn.symm
noncomputable def ordF (a b:Int):CmpOp→Out D
 | .Lt=> .ok (.bool (decide (a < b)))
 | .LtE=> .ok (.bool (decide (a≤b)))
 | .Gt=> .ok (.bool (decide (a > b)))
 | .GtE=> .ok (.bool (decide (a≥b)))
 | _=> .stuck
noncomputable def whO (o p:Out Reply):Out Reply:=match o with
 | .stuck=>p
 | o=>o
noncomputable def whF (t:List Slot→Out Bool) (b:List Slot→Out Reply) (sl:List Slot):Out Reply:=whO (whN t b 200 sl) (whL t b sl)
noncomputable def fast:Mode:=⟨ordF,whF⟩
theorem fast_eq:real=fast:=by
 have h1:ordI=ordF:=by
  have e (p:Prop) (i j:Decidable p):@decide p i=@decide p j:=by congr
  funext a b op
  cases op<;>first | rfl | exact congrArg (fun x=>Out.ok (D.bool x)) (e _ _ _)
 have h2:whL=whF:=by
  funext t b sl
  unfold whF
  rcases whN_whL t b 200 sl with q | q
  ·rw [q];rfl
  ·rw [q];cases whL t b sl<;>rfl
 unfold real fast
 rw [h1,h2]
end DK.Internal
end
section
set_option backward.match.sparseCases false
set_option genSizeOf false
set_option genCtorIdx false
namespace DK.Internal.B
open PySem
noncomputable abbrev cmpop:CmpOp→D→D→Out D:=DK.Internal.cmpop ordI
noncomputable def ap2 {α β γ:Type} (f:α→β→Out γ) (a:Out α) (b:Out β):Out γ:=DK.Internal.ap2 f a b
noncomputable def ap3 {α β γ δ:Type} (f:α→β→γ→Out δ) (a:Out α) (b:Out β) (c:Out γ):Out δ:=DK.Internal.ap3 f a b c
noncomputable def getO (o:Out D) (p:Out (List D)):Out D:=o>>=onDict fun ks vs=>p>>=dictGet ks vs
section
variable (T:Text) (r:Nat)
noncomputable def X (c:C) (sl:List Slot):Out D:=ex real T (callT real T r) c sl
noncomputable def XS (c:Cs) (sl:List Slot):Out (List D):=exs real T (callT real T r) c sl
noncomputable def Tt (c:C) (sl:List Slot):Out Bool:=tst real T (callT real T r) c sl
noncomputable def TS (c:Cs) (sl:List Slot):Out Bool:=tsts real T (callT real T r) c sl
noncomputable def IT (c:It) (sl:List Slot):Out (List D):=items real T (callT real T r) c sl
noncomputable def CM (g:Gens) (slo sl:List Slot) (acc:List D):Out (List D):=cmpr real T (callT real T r) g slo sl acc
noncomputable def CE (t:Tgt) (ifs:Cs) (elt:C) (xs:List D) (sl:List Slot) (acc:List D):Out (List D):=compE (fun acc d k=>bindT sl t d>>=fun sl'=>tsts real T (callT real T r) ifs sl'>>=fun b=>
   ifO b (ex real T (callT real T r) elt sl'>>=fun y=>need (acc.length < SZ) (k (acc ++ [y]))) (k acc)) xs acc
noncomputable def AR (as:As) (sl:List Slot):Out (List Slot):=args real T (callT real T r) as sl
noncomputable def CL (f:Nat) (xs:List D):Out D:=callV (callT real T r) f xs
noncomputable def CX (f:Nat) (xs:List Slot):Out (List Slot):=outX (callT real T r f xs)
noncomputable def W (t:C) (b:Ss) (sl:List Slot):Out Reply:=whL (tst real T (callT real T r) t) (sts real T (callT real T r) b) sl
theorem YK_ex:∃f:Text→Nat→Ss→(List Slot→Out Reply)→List Slot→Out Reply,f=fun T r ss k sl=>sts real T (callT real T r) ss sl>>=thenS k:=⟨_,rfl⟩
noncomputable def YK:Text→Nat→Ss→(List Slot→Out Reply)→List Slot→Out Reply:=Classical.choose YK_ex
noncomputable def Y (ss:Ss) (sl:List Slot):Out Reply:=YK T r ss nextK sl
noncomputable def FE (t:Tgt) (b:Ss) (xs:List D) (sl:List Slot):Out Reply:=forE (fun sl d k=>bindT sl t d>>=fun sl'=>YK T r b nextK sl'>>=loopS k) xs sl
end
section
variable {T:Text} {r:Nat}
theorem ZhT (ss:Ss) (k:List Slot→Out Reply) (sl:List Slot):(sts real T (callT real T r) ss sl>>=thenS k)=YK T r ss k sl:=
 (congrFun (congrFun (congrFun (congrFun (congrFun (Classical.choose_spec YK_ex) T) r) ss) k) sl).symm
theorem ZlL (o:Out Reply):(o>>=thenS nextK)=o:=by
 cases o with
 | ok x=>rcases x with ⟨f,s⟩;cases f<;>rfl
 | exc=>rfl
 | stuck=>rfl
theorem Y_run (ss:Ss) (sl:List Slot):Y T r ss sl=sts real T (callT real T r) ss sl:=(ZhT ss nextK sl).symm.trans (ZlL _)
theorem Y_fn (ss:Ss):Y T r ss=sts real T (callT real T r) ss:=funext (Y_run ss)
theorem ZlM (o:Out Reply) (f k:List Slot→Out Reply):(o>>=thenS f)>>=thenS k=o>>=thenS (fun sl=>f sl>>=thenS k):=by
 cases o with
 | ok x=>rcases x with ⟨f,s⟩;cases f<;>rfl
 | exc=>rfl
 | stuck=>rfl
theorem Zcx (s ss k sl):YK T r (.cons s ss) k sl=st real T (callT real T r) s sl>>=thenS (YK T r ss k):=by
 rw [←ZhT]
 refine (ZlM _ _ _).trans ?_
 rw [show YK T r ss k=_ from funext fun sl=>(ZhT ss k sl).symm]
end
section
variable (T:Text) (r:Nat)
noncomputable def andO (b:C) (sl:List Slot) (o:Out D):Out D:=o>>=fun x=>truthy x>>=fun t=>ifO t (X T r b sl) (.ok x)
noncomputable def orO (b:C) (sl:List Slot) (o:Out D):Out D:=o>>=fun x=>truthy x>>=fun t=>ifO t (.ok x) (X T r b sl)
noncomputable def tand (b:C) (sl:List Slot) (o:Out Bool):Out Bool:=o>>=fun t=>ifO t (Tt T r b sl) (.ok false)
noncomputable def tor (b:C) (sl:List Slot) (o:Out Bool):Out Bool:=o>>=fun t=>ifO t (.ok true) (Tt T r b sl)
noncomputable def ceO (t:Tgt) (ifs:Cs) (elt:C) (sl:List Slot) (acc:List D) (o:Out (List D)):Out (List D):=o>>=fun xs=>CE T r t ifs elt xs sl acc
noncomputable def ceK (t:Tgt) (ifs:Cs) (elt:C) (ds:List D) (sl:List Slot) (acc:List D) (o:Out D):Out (List D):=
 o>>=fun y=>need (acc.length < SZ) (CE T r t ifs elt ds sl (acc ++ [y]))
noncomputable def ceI (t:Tgt) (ifs:Cs) (elt:C) (ds:List D) (sl:List Slot) (acc:List D) (sl':List Slot) (o:Out Bool):Out (List D):=
 o>>=fun b=>ifO b (ceK T r t ifs elt ds sl acc (X T r elt sl')) (CE T r t ifs elt ds sl acc)
noncomputable def ceB (t:Tgt) (ifs:Cs) (elt:C) (ds:List D) (sl:List Slot) (acc:List D) (o:Out (List Slot)):Out (List D):=
 o>>=fun sl'=>ceI T r t ifs elt ds sl acc sl' (TS T r ifs sl')
abbrev Kn:=List Slot→Out Reply
noncomputable def retO (sl:List Slot) (o:Out D):Out Reply:=o>>=fun x=> .ok (.ret x,sl)
noncomputable def asgO (i:Nat) (f:Kn) (sl:List Slot) (o:Out D):Out Reply:=o>>=fun x=>f (setV sl i (.val x))
noncomputable def ownO (i:Nat) (f:Kn) (sl:List Slot) (o:Out D):Out Reply:=o>>=fun x=>listD x>>=fun xs=>f (setV sl i (.own xs))
noncomputable def unpO (is:List Nat) (f:Kn) (sl:List Slot) (o:Out D):Out Reply:=o>>=fun x=>tupD is.length x>>=fun xs=>setAll sl is xs>>=f
noncomputable def augO (i:Nat) (op:Operator) (f:Kn) (sl:List Slot) (o:Out D) (o2:Out D):Out Reply:=o>>=fun x=>o2>>=fun y=>intD x>>=fun a=>intD y>>=fun b=>
  binop op (.int a) (.int b)>>=fun z=>f (setV sl i (.val z))
noncomputable def iteO (f:Kn) (g:Kn) (sl:List Slot) (o:Out Bool):Out Reply:=o>>=fun c=>ifO c (f sl) (g sl)
noncomputable def forO (t:Tgt) (b:Ss) (f:Kn) (sl:List Slot) (o:Out (List D)):Out Reply:=o>>=fun xs=>FE T r t b xs sl>>=thenS f
noncomputable def appO (i:Nat) (f:Kn) (sl:List Slot) (o:Out (List D)) (o2:Out D):Out Reply:=o>>=fun xs=>o2>>=fun x=>
  need (xs.length < SZ) (f (setV sl i (.own (xs ++ [x]))))
noncomputable def extO (i:Nat) (f:Kn) (sl:List Slot) (o:Out (List D)) (o2:Out D):Out Reply:=o>>=fun xs=>o2>>=fun x=>listD x>>=fun ys=>
  need (xs.length+ys.length≤SZ) (f (setV sl i (.own (xs++ys))))
noncomputable def popO (i:Nat) (f:Kn) (sl:List Slot) (o:Out (List D)):Out Reply:=o>>=fun xs=>need (xs≠[]) (f (setV sl i (.own xs.dropLast)))
noncomputable def subO (i:Nat) (f:Kn) (sl:List Slot) (o:Out (List D)) (o2:Out D) (o3:Out D):Out Reply:=o>>=fun xs=>o2>>=fun x=>o3>>=fun y=>intD y>>=fun n=>
  need (0≤n∧n < xs.length) (f (setV sl i (.own (xs.set n.toNat x))))
noncomputable def triO (i:Option Nat) (hi:Nat) (he:C) (f:Kn) (sl:List Slot) (o:Out D):Out Reply:=match o with
 | .ok d=>f (putO sl i d)
 | .exc=>X T r he sl>>=fun x=>f (setV sl hi (.val x))
 | .stuck=> .stuck
noncomputable def exO (f:Kn) (sl:List Slot) (o:Out D):Out Reply:=o>>=fun _=>f sl
noncomputable def whK (b:Ss) (k:Kn) (sl:List Slot) (o:Out Bool):Out Reply:=o>>=fun c=>ifO c (Y T r b sl>>=loopS k) (nextK sl)
noncomputable def feO (b:Ss) (k:Kn) (o:Out (List Slot)):Out Reply:=o>>=fun sl'=>Y T r b sl'>>=loopS k
noncomputable def bnd {α β:Type} (f:α→Out β) (o:Out α):Out β:=o>>=f
noncomputable def retV (x:Reply):Out D:=match x.1 with
 | .ret d=> .ok d
 | .next=> .ok .none
 | _=> .stuck
variable {T r} {k f g:Kn}
theorem ZE (k sl):thenS k (.next,sl)=k sl:=rfl
theorem ZiU (k d sl):thenS k (.ret d,sl) = .ok (.ret d,sl):=rfl
theorem ZK (k sl):loopS k (.next,sl)=k sl:=rfl
theorem Zeh (k sl):loopS k (.brk,sl) = .ok (.next,sl):=rfl
theorem ZiV (k d sl):loopS k (.ret d,sl) = .ok (.ret d,sl):=rfl
theorem Zd {α β γ:Type} (f:α→β→Out γ) (x:α) (y:β):ap2 f (.ok x) (.ok y)=f x y:=rfl
theorem ZjP {α β γ:Type} (f:α→β→Out γ) (o:Out β):ap2 f (.exc) o = .exc:=rfl
theorem Zkq {α β γ:Type} (f:α→β→Out γ) (x:α):ap2 f (.ok x) .exc = .exc:=rfl
theorem Zap {α β γ δ:Type} (g:α→β→γ→Out δ) (x:α) (y:β) (z:γ):ap3 g (.ok x) (.ok y) (.ok z)=g x y z:=rfl
theorem Zb {α β:Type} (f:α→Out β) (a:α):bnd f (.ok a)=f a:=rfl
theorem ZY {α β:Type} (f:α→Out β):bnd f .exc = .exc:=rfl
theorem okB_ (b):okB b = .ok (.bool b):=rfl
theorem ZaF (b):nokB b = .ok (.bool !b):=rfl
theorem X_k (d sl):X T r (.k d) sl = .ok d:=rfl
theorem Zp (i sl):X T r (.var i) sl=getV sl i:=rfl
theorem ZH {g d sl} (h:T.globs[g]?=some d):X T r (.glob g) sl = .ok d:=by show globD T g=_;unfold globD;rw [h]
theorem ZhG (a sl):X T r (.neg a) sl=bnd negD (X T r a sl):=rfl
theorem Zpb (i sl):X T r (.copy i) sl=copyD sl i:=rfl
theorem ZB (op a b sl):X T r (.bin op a b) sl=ap2 (binop op) (X T r a sl) (X T r b sl):=rfl
theorem ZX (op a b sl):X T r (.cmp op a b) sl=ap2 (cmpop op) (X T r a sl) (X T r b sl):=rfl
theorem Zx (a b sl):X T r (.idx a b) sl=ap2 index (X T r a sl) (X T r b sl):=rfl
theorem Zbk (a b c sl):X T r (.slc a b c) sl=ap3 slice (X T r a sl) (X T r b sl) (X T r c sl):=rfl
theorem P_not (a sl):X T r (.not a) sl=bnd notK (X T r a sl):=rfl
theorem Zcd (a b sl):X T r (.and a b) sl=andO T r b sl (X T r a sl):=rfl
theorem P_or (a b sl):X T r (.or a b) sl=orO T r b sl (X T r a sl):=rfl
theorem ZZ (es sl):X T r (.tup es) sl=bnd tupK (XS T r es sl):=rfl
theorem Zac (es sl):X T r (.lst es) sl=bnd lstK (XS T r es sl):=rfl
theorem P_bi (b es sl):X T r (.bi b es) sl=bnd (builtin b) (XS T r es sl):=rfl
theorem Zcw (d es sl):X T r (.get d es) sl=getO (X T r d sl) (XS T r es sl):=rfl
theorem ZfL (a t sl):X T r (.isi a t) sl=bnd (isiK t) (X T r a sl):=rfl
theorem ZdD (n g sl):X T r (.comp n g) sl=bnd lstK (CM T r g sl (sl++List.replicate n .un) []):=rfl
theorem Zs (f es sl):X T r (.call f es) sl=bnd (CL T r f) (XS T r es sl):=rfl
theorem Zi (sl):XS T r .nil sl = .ok []:=rfl
theorem Zc (c cs sl):XS T r (.cons c cs) sl=ap2 consK (X T r c sl) (XS T r cs sl):=rfl
theorem Zfi (a sl):Tt T r (.not a) sl=bnd tnotK (Tt T r a sl):=rfl
theorem Zaw (a b sl):Tt T r (.and a b) sl=tand T r b sl (Tt T r a sl):=rfl
theorem R_or (a b sl):Tt T r (.or a b) sl=tor T r b sl (Tt T r a sl):=rfl
theorem Zr (op a b sl):Tt T r (.cmp op a b) sl=bnd boolD (ap2 (cmpop op) (X T r a sl) (X T r b sl)):=rfl
theorem T_k (d sl):Tt T r (.k d) sl=truthy d:=rfl
theorem T_var (i sl):Tt T r (.var i) sl=bnd truthy (getV sl i):=rfl
theorem R_idx (a b sl):Tt T r (.idx a b) sl=bnd truthy (ap2 index (X T r a sl) (X T r b sl)):=rfl
theorem R_bi (b es sl):Tt T r (.bi b es) sl=bnd truthy (bnd (builtin b) (XS T r es sl)):=rfl
theorem ZiW (f es sl):Tt T r (.call f es) sl=bnd truthy (bnd (CL T r f) (XS T r es sl)):=rfl
theorem ZgS (sl):TS T r .nil sl = .ok true:=rfl
theorem ZdE (c sl):IT T r (.seq c) sl=bnd itemsOf (X T r c sl):=rfl
theorem J_rng (a b s sl):IT T r (.rng a b s) sl=ap2 (rngK s) (X T r a sl) (X T r b sl):=rfl
theorem ZdF (t it ifs elt slo sl acc):CM T r (.last t it ifs elt) slo sl acc=ceO T r t ifs elt sl acc (IT T r it slo):=rfl
theorem ZdG (t ifs elt xs sl acc):ceO T r t ifs elt sl acc (.ok xs)=CE T r t ifs elt xs sl acc:=rfl
theorem ZiX (t ifs elt sl acc):CE T r t ifs elt [] sl acc = .ok acc:=rfl
theorem ZjQ (t ifs elt d ds sl acc):CE T r t ifs elt (d::ds) sl acc=ceB T r t ifs elt ds sl acc (bindT sl t d):=rfl
theorem ZgT (t ifs elt ds sl acc sl'):ceB T r t ifs elt ds sl acc (.ok sl')=ceI T r t ifs elt ds sl acc sl' (TS T r ifs sl'):=rfl
theorem ZjR (t ifs elt ds sl acc sl'):ceI T r t ifs elt ds sl acc sl' (.ok true)=ceK T r t ifs elt ds sl acc (X T r elt sl'):=rfl
theorem ZhU {acc:List D} (h:acc.length < 1000000) (t ifs elt ds sl y):ceK T r t ifs elt ds sl acc (.ok y)=CE T r t ifs elt ds sl (acc ++ [y]):=if_pos h
theorem Zpl (t ifs elt ds sl acc):ceK T r t ifs elt ds sl acc .exc = .exc:=rfl
theorem Zq (ss sl):Y T r ss sl=YK T r ss nextK sl:=rfl
theorem ZQ (sl):nextK sl = .ok (.next,sl):=rfl
theorem Zu (sl):YK T r .nil k sl=k sl:=(ZhT .nil k sl).symm
theorem ZD (e ss sl):YK T r (.cons (.ret e) ss) k sl=retO sl (X T r e sl):=(Zcx ..).trans ((Out.bind_assoc ..).trans rfl)
theorem Zo (x sl):retO sl (.ok x) = .ok (.ret x,sl):=rfl
theorem Zz (i e ss sl):YK T r (.cons (.asg i e) ss) k sl=asgO i (YK T r ss k) sl (X T r e sl):=(Zcx ..).trans ((Out.bind_assoc ..).trans rfl)
theorem Zg (i x sl):asgO i f sl (.ok x)=f (setV sl i (.val x)):=rfl
theorem ZbP (i sl):asgO i f sl .exc = .exc:=rfl
theorem ZhH (i e ss sl):YK T r (.cons (.own i e) ss) k sl=ownO i (YK T r ss k) sl (X T r e sl):=(Zcx ..).trans ((Out.bind_assoc ..).trans (congrArg (X T r e sl >>= ·) (funext fun x=>(Out.bind_assoc ..).trans rfl)))
theorem Zeb (i xs sl):ownO i f sl (.ok (.list xs))=f (setV sl i (.own xs)):=rfl
theorem Zeo (is e ss sl):YK T r (.cons (.unp is e) ss) k sl=unpO is (YK T r ss k) sl (X T r e sl):=(Zcx ..).trans ((Out.bind_assoc ..).trans (congrArg (X T r e sl >>= ·) (funext fun x=>(Out.bind_assoc ..).trans (congrArg (tupD is.length x >>= ·) (funext fun xs=>(Out.bind_assoc ..).trans rfl)))))
theorem ZdH (i j a b sl):unpO [i,j] f sl (.ok (.tuple [a,b]))=f (setV (setV sl i (.val a)) j (.val b)):=rfl
theorem Zkr (i j l a b c sl):unpO [i,j,l] f sl (.ok (.tuple [a,b,c]))=f (setV (setV (setV sl i (.val a)) j (.val b)) l (.val c)):=rfl
theorem Zpc (i j l m a b c d sl):unpO [i,j,l,m] f sl (.ok (.tuple [a,b,c,d]))=f (setV (setV (setV (setV sl i (.val a)) j (.val b)) l (.val c)) m (.val d)):=rfl
theorem Zep (i op e ss sl):YK T r (.cons (.aug i op e) ss) k sl=augO i op (YK T r ss k) sl (getV sl i) (X T r e sl):=(Zcx ..).trans ((Out.bind_assoc ..).trans (congrArg (getV sl i >>= ·) (funext fun x=>(Out.bind_assoc ..).trans
 (congrArg (X T r e sl >>= ·) (funext fun y=>(Out.bind_assoc ..).trans (congrArg (intD x >>= ·) (funext fun a=>(Out.bind_assoc ..).trans (congrArg (intD y >>= ·) (funext fun b=>(Out.bind_assoc ..).trans rfl)))))))))
theorem ZaT (i op a b sl):augO i op f sl (.ok (.int a)) (.ok (.int b))=asgO i f sl (binop op (.int a) (.int b)):=rfl
theorem Zt (t a b ss sl):YK T r (.cons (.ife t a b) ss) k sl=iteO (YK T r a (YK T r ss k)) (YK T r b (YK T r ss k)) sl (Tt T r t sl):=(Zcx ..).trans ((Out.bind_assoc ..).trans (congrArg (Tt T r t sl >>= ·) (funext fun c=>by
 cases c
 ·exact ZhT b _ sl
 ·exact ZhT a _ sl)))
theorem ZG (sl):iteO f g sl (.ok true)=f sl:=rfl
theorem Zy (sl):iteO f g sl (.ok false)=g sl:=rfl
theorem ZP {c:Prop} [Decidable c] (h:c) (sl):iteO f g sl (.ok (decide c))=f sl:=by rw [decide_eq_true h];rfl
theorem ZA {c:Prop} [Decidable c] (h:¬c) (sl):iteO f g sl (.ok (decide c))=g sl:=by rw [decide_eq_false h];rfl
theorem ZfE {c:Prop} [Decidable c] (h:¬c) (sl):iteO f g sl (.ok !(decide c))=f sl:=by rw [decide_eq_false h];rfl
theorem ZeG {c:Prop} [Decidable c] (h:c) (sl):iteO f g sl (.ok !(decide c))=g sl:=by rw [decide_eq_true h];rfl
theorem ZbF (t b ss sl):YK T r (.cons (.whl t b) ss) k sl=bnd (thenS (YK T r ss k)) (W T r t b sl):=Zcx ..
theorem ZhI (t it b ss sl):YK T r (.cons (.forr t it b) ss) k sl=forO T r t b (YK T r ss k) sl (IT T r it sl):=by
 refine (Zcx ..).trans ((Out.bind_assoc ..).trans ?_)
 show (IT T r it sl>>=fun xs=>forE (fun sl d k=>bindT sl t d>>=fun sl'=>sts real T (callT real T r) b sl'>>=loopS k) xs sl>>=thenS (YK T r ss k))=(IT T r it sl>>=fun xs=>forE (fun sl d k=>bindT sl t d>>=fun sl'=>Y T r b sl'>>=loopS k) xs sl>>=thenS (YK T r ss k))
 rw [Y_fn]
theorem Zec (t b xs sl):forO T r t b f sl (.ok xs)=bnd (thenS f) (FE T r t b xs sl):=rfl
theorem ZgU (ss sl):YK T r (.cons .raise ss) k sl = .exc:=Zcx ..
theorem ZfM (i ss sl):YK T r (.cons (.frz i) ss) k sl=YK T r ss k (freeze sl i):=Zcx ..
theorem ZkY (ss sl):YK T r (.cons .brk ss) k sl = .ok (.brk,sl):=Zcx ..
theorem ZfN {α β:Type} (c:Prop) [Decidable c] (o:Out α) (f:α→Out β):(need c o>>=f)=need c (o>>=f):=by unfold need;split<;>rfl
theorem ZiY (i e ss sl):YK T r (.cons (.app i e) ss) k sl=appO i (YK T r ss k) sl (ownD sl i) (X T r e sl):=(Zcx ..).trans ((Out.bind_assoc ..).trans (congrArg (ownD sl i >>= ·) (funext fun xs=>(Out.bind_assoc ..).trans
 (congrArg (X T r e sl >>= ·) (funext fun x=>(ZfN ..).trans rfl)))))
theorem ZeH {xs:List D} (h:xs.length < 1000000) (i x sl):appO i f sl (.ok xs) (.ok x)=f (setV sl i (.own (xs ++ [x]))):=if_pos h
theorem Z_ext (i e ss sl):YK T r (.cons (.ext i e) ss) k sl=extO i (YK T r ss k) sl (ownD sl i) (X T r e sl):=(Zcx ..).trans ((Out.bind_assoc ..).trans (congrArg (ownD sl i >>= ·) (funext fun xs=>(Out.bind_assoc ..).trans
 (congrArg (X T r e sl >>= ·) (funext fun x=>(Out.bind_assoc ..).trans (congrArg (listD x >>= ·) (funext fun ys=>(ZfN ..).trans rfl)))))))
theorem Zpm {xs ys:List D} (h:xs.length+ys.length≤1000000) (i sl):extO i f sl (.ok xs) (.ok (.list ys))=f (setV sl i (.own (xs++ys))):=if_pos h
theorem Z_pop (i ss sl):YK T r (.cons (.pop i) ss) k sl=popO i (YK T r ss k) sl (ownD sl i):=(Zcx ..).trans ((Out.bind_assoc ..).trans (congrArg (ownD sl i >>= ·) (funext fun xs=>(ZfN ..).trans rfl)))
theorem Zpn (i xs x sl):popO i f sl (.ok (xs ++ [x]))=f (setV sl i (.own xs)):=(if_pos (by simp)).trans (by rw [List.dropLast_concat])
theorem Z_sub (i j v ss sl):YK T r (.cons (.sub i j v) ss) k sl=subO i (YK T r ss k) sl (ownD sl i) (X T r v sl) (X T r j sl):=(Zcx ..).trans ((Out.bind_assoc ..).trans (congrArg (ownD sl i >>= ·) (funext fun xs=>(Out.bind_assoc ..).trans
 (congrArg (X T r v sl >>= ·) (funext fun x=>(Out.bind_assoc ..).trans (congrArg (X T r j sl >>= ·) (funext fun y=>(Out.bind_assoc ..).trans (congrArg (intD y >>= ·) (funext fun n=>(ZfN ..).trans rfl)))))))))
theorem Zpo {xs:List D} {n:Int} (h:0≤n∧n < xs.length) (i x sl):subO i f sl (.ok xs) (.ok x) (.ok (.int n))=f (setV sl i (.own (xs.set n.toNat x))):=if_pos h
theorem Z_ex (e ss sl):YK T r (.cons (.ex e) ss) k sl=exO (YK T r ss k) sl (X T r e sl):=(Zcx ..).trans ((Out.bind_assoc ..).trans rfl)
theorem ZI (x sl):exO f sl (.ok x)=f sl:=rfl
theorem Zbl (sl):exO f sl .exc = .exc:=rfl
theorem ZgV (fn as ss sl) (h:(asOwn as).Nodup):YK T r (.cons (.callx fn as) ss) k sl=AR T r as sl>>=fun xs=>CX T r fn xs>>=fun os=>back as os sl>>=YK T r ss k:=
 (Zcx ..).trans ((congrArg (· >>= thenS (YK T r ss k)) (if_pos h)).trans ((Out.bind_assoc ..).trans (congrArg (AR T r as sl >>= ·) (funext fun xs=>(Out.bind_assoc ..).trans (congrArg (CX T r fn xs >>= ·) (funext fun os=>(Out.bind_assoc ..).trans rfl))))))
theorem Z_tri (i e hi he ss sl):YK T r (.cons (.tri i e hi he) ss) k sl=triO T r i hi he (YK T r ss k) sl (X T r e sl):=by
 refine (Zcx ..).trans ?_
 show (DK.Internal.triO i hi (X T r he) sl (X T r e sl)>>=thenS (YK T r ss k))=_
 cases X T r e sl with
 | ok d=>rfl
 | exc=>exact (Out.bind_assoc ..).trans rfl
 | stuck=>rfl
theorem ZiZ (j d hi he sl):triO T r (some j) hi he f sl (.ok d)=f (setV sl j (.val d)):=rfl
theorem Zks (i hi he sl):triO T r i hi he f sl .exc=asgO hi f sl (X T r he sl):=rfl
theorem V_eq (t b sl):W T r t b sl=whK T r b (W T r t b) sl (Tt T r t sl):=by
 refine (whL_eq ..).trans ?_
 unfold whK
 rw [Y_run];rfl
theorem ZeI (b k sl):whK T r b k sl (.ok true)=bnd (loopS k) (Y T r b sl):=rfl
theorem whK_f (b k sl):whK T r b k sl (.ok false) = .ok (.next,sl):=rfl
theorem Zdc {c:Prop} [Decidable c] (h:c) (b k sl):whK T r b k sl (.ok (decide c))=bnd (loopS k) (Y T r b sl):=by rw [decide_eq_true h];rfl
theorem Zei {c:Prop} [Decidable c] (h:¬c) (b k sl):whK T r b k sl (.ok (decide c)) = .ok (.next,sl):=by rw [decide_eq_false h];rfl
theorem Zkt (t b sl):FE T r t b [] sl = .ok (.next,sl):=rfl
theorem ZkZ (t b d ds sl):FE T r t b (d::ds) sl=feO T r b (FE T r t b ds) (bindT sl t d):=rfl
theorem ZhV (b k sl'):feO T r b k (.ok sl')=bnd (loopS k) (Y T r b sl'):=rfl
theorem Zja (sl):AR T r .nil sl = .ok []:=rfl
theorem Zjb (c as sl):AR T r (.val c as) sl=ap2 arK (X T r c sl) (AR T r as sl):=rfl
theorem Zjc (i as sl):AR T r (.own i as) sl=ap2 arO (ownD sl i) (AR T r as sl):=rfl
theorem ZnG (as sl):AR T r (.fresh as) sl=ap2 arO (.ok []) (AR T r as sl):=rfl
theorem ZdU (b sl):andO T r b sl (.ok (.bool true))=X T r b sl:=rfl
theorem Zed {c:Prop} [Decidable c] (h:c) (b sl):andO T r b sl (.ok (.bool (decide c)))=X T r b sl:=by rw [decide_eq_true h];rfl
theorem ZjS {c:Prop} [Decidable c] (h:¬c) (b sl):andO T r b sl (.ok (.bool (decide c))) = .ok (.bool false):=by rw [decide_eq_false h];rfl
theorem Zij {c:Prop} [Decidable c] (h:¬c) (b sl):andO T r b sl (.ok (.bool !(decide c)))=X T r b sl:=by rw [decide_eq_false h];rfl
theorem orO_t (b sl):orO T r b sl (.ok (.bool true)) = .ok (.bool true):=rfl
theorem Zgn (b sl):orO T r b sl (.ok (.bool false))=X T r b sl:=rfl
theorem ZlN {c:Prop} [Decidable c] (h:c) (b sl):orO T r b sl (.ok (.bool (decide c))) = .ok (.bool true):=by rw [decide_eq_true h];rfl
theorem ZlO {c:Prop} [Decidable c] (h:¬c) (b sl):orO T r b sl (.ok (.bool (decide c)))=X T r b sl:=by rw [decide_eq_false h];rfl
theorem Zgz (b sl):tand T r b sl (.ok true)=Tt T r b sl:=rfl
theorem ZdV (b sl):tand T r b sl (.ok false) = .ok false:=rfl
theorem Zcy {c:Prop} [Decidable c] (h:c) (b sl):tand T r b sl (.ok (decide c))=Tt T r b sl:=by rw [decide_eq_true h];rfl
theorem Zat {c:Prop} [Decidable c] (h:¬c) (b sl):tand T r b sl (.ok (decide c)) = .ok false:=by rw [decide_eq_false h];rfl
theorem ZgW (b sl):tor T r b sl (.ok true) = .ok true:=rfl
theorem Zai (b sl):tor T r b sl (.ok false)=Tt T r b sl:=rfl
theorem ZhW {c:Prop} [Decidable c] (h:c) (b sl):tor T r b sl (.ok (decide c)) = .ok true:=by rw [decide_eq_true h];rfl
theorem Zdo {c:Prop} [Decidable c] (h:¬c) (b sl):tor T r b sl (.ok (decide c))=Tt T r b sl:=by rw [decide_eq_false h];rfl
theorem Zad (xs):tupK xs = .ok (.tuple xs):=rfl
theorem ZW (xs):lstK xs = .ok (.list xs):=rfl
theorem Zj (x xs):consK x xs = .ok (x::xs):=rfl
theorem arK_ (x xs):arK x xs = .ok (.val x::xs):=rfl
theorem arO_ (x xs):arO x xs = .ok (.own x::xs):=rfl
theorem Zpd (b):notK (.int b) = .ok (.bool !(decide (b≠0))):=rfl
theorem Zdp (b):tnotK b = .ok !b:=rfl
theorem ZnH (np:Nat) (o:Out Reply):((o>>=retF np)>>=retD)=bnd retV o:=by
 cases o with
 | ok x=>rcases x with ⟨f,s⟩;cases f<;>rfl
 | exc=>rfl
 | stuck=>rfl
theorem ZjT {f np nl b as} (h:T.fns[f]?=some ⟨np,nl,b⟩) (h1:as.length=np) (h2:np≤nl) :
  callT real T (r+1) f as=bnd (retF np) (Y T r b (as++List.replicate (nl - np) .un)):=by
 show runF real T (callT real T r) as T.fns[f]?=_
 rw [h,Y_run];exact if_pos ⟨h1,h2⟩
theorem Zik (d sl):outX (.ok (.ret d,sl)) = .ok sl:=rfl
theorem CX_eq {f np nl b as} (h:T.fns[f]?=some ⟨np,nl,b⟩) (h1:as.length=np) (h2:np≤nl) :
  CX T (r+1) f as=outX (bnd (retF np) (Y T r b (as++List.replicate (nl - np) .un))):=congrArg outX (ZjT h h1 h2)
theorem ZJ {f np nl b} {xs:List D} (h:T.fns[f]?=some ⟨np,nl,b⟩) (h1:xs.length=np) (h2:np≤nl) :
  CL T (r+1) f xs=bnd retV (Y T r b (xs.map .val++List.replicate (nl - np) .un)):=
 (congrArg (· >>= retD) (ZjT h ((List.length_map ..).trans h1) h2)).trans (ZnH np _)
end
end DK.Internal.B
end
section
set_option backward.match.sparseCases false
set_option genSizeOf false
set_option genCtorIdx false
namespace DK.Internal.B
open PySem
noncomputable def sBool:List Nat:= [98,111,111,108]
noncomputable def sInt:List Nat:= [105,110,116]
noncomputable def sBits:List Nat:= [98,105,116,115]
noncomputable def sBytes:List Nat:= [98,121,116,101,115]
noncomputable def sNull:List Nat:= [110,117,108,108]
noncomputable def sOid:List Nat:= [111,105,100]
noncomputable def sEnum:List Nat:= [101,110,117,109]
noncomputable def sUtf8:List Nat:= [117,116,102,56]
noncomputable def sPrint:List Nat:= [112,114,105,110,116,97,98,108,101]
noncomputable def sTime:List Nat:= [116,105,109,101]
noncomputable def sSeq:List Nat:= [115,101,113,117,101,110,99,101]
noncomputable def sSet:List Nat:= [115,101,116]
noncomputable def sTagged:List Nat:= [116,97,103,103,101,100]
noncomputable def sTable:List Nat:= [116,97,98,108,101]
noncomputable def sRefused:List Nat:= [114,101,102,117,115,101,100]
noncomputable def Zbu:C:=(.cmp .Lt (.var 4) (.var 2))
noncomputable def Zcv:Ss:=(.cons (.asg 3 (.bin .BitOr (.bin .LShift (.var 3) (.k (.int 8))) (.idx (.var 0) (.var 4))))
 (.cons (.aug 4 .Add (.k (.int 1)))
 .nil))
noncomputable def ZdX:Ss:=(.cons (.ife (.cmp .LtE (.bin .Sub (.var 2) (.var 1)) (.k (.int 32))) (.cons (.asg 3 (.k (.int 0)))
 (.cons (.asg 4 (.var 1))
 (.cons (.whl Zbu Zcv)
 (.cons (.ret (.var 3))
 .nil)))) .nil)
 (.cons (.asg 5 (.bin .FloorDiv (.bin .Add (.var 1) (.var 2)) (.k (.int 2))))
 (.cons (.asg 6 (.call 0 (.cons (.var 0) (.cons (.var 1) (.cons (.var 5) .nil)))))
 (.cons (.asg 7 (.call 0 (.cons (.var 0) (.cons (.var 5) (.cons (.var 2) .nil)))))
 (.cons (.ret (.bin .BitOr (.bin .LShift (.var 6) (.bin .Mult (.k (.int 8)) (.bin .Sub (.var 2) (.var 5)))) (.var 7)))
 .nil)))))
noncomputable def ZeY:Fn:=⟨3,8,ZdX⟩
noncomputable def ZaD:C:=(.cmp .GtE (.var 4) (.k (.int 0)))
noncomputable def ZaY:Ss:=(.cons (.sub 3 (.var 4) (.bin .BitAnd (.var 0) (.k (.int 255))))
 (.cons (.asg 0 (.bin .RShift (.var 0) (.k (.int 8))))
 (.cons (.aug 4 .Sub (.k (.int 1)))
 .nil)))
noncomputable def Zdn:Ss:=(.cons (.ife (.cmp .LtE (.var 1) (.k (.int 32))) (.cons (.own 3 (.bin .Mult (.lst (.cons (.k (.int 0)) .nil)) (.var 1)))
 (.cons (.asg 4 (.bin .Sub (.var 1) (.k (.int 1))))
 (.cons (.whl ZaD ZaY)
 (.cons (.frz 3)
 (.cons (.ext 2 (.var 3))
 (.cons (.ret (.k .none))
 .nil)))))) .nil)
 (.cons (.asg 5 (.bin .FloorDiv (.var 1) (.k (.int 2))))
 (.cons (.asg 6 (.bin .Sub (.var 1) (.var 5)))
 (.cons (.callx 1 (.val (.bin .RShift (.var 0) (.bin .Mult (.k (.int 8)) (.var 5))) (.val (.var 6) (.own 2 .nil))))
 (.cons (.callx 1 (.val (.bin .BitAnd (.var 0) (.bin .Sub (.bin .LShift (.k (.int 1)) (.bin .Mult (.k (.int 8)) (.var 5))) (.k (.int 1)))) (.val (.var 5) (.own 2 .nil))))
 .nil)))))
noncomputable def ZdP:Fn:=⟨3,7,Zdn⟩
noncomputable def ZhA:Ss:=(.cons (.own 2 (.lst .nil))
 (.cons (.callx 1 (.val (.var 0) (.val (.var 1) (.own 2 .nil))))
 (.cons (.frz 2)
 (.cons (.ret (.bi .bytes (.cons (.var 2) .nil)))
 .nil))))
noncomputable def Zfu:Fn:=⟨2,3,ZhA⟩
noncomputable def ZL:C:=(.cmp .Gt (.var 2) (.k (.int 0)))
noncomputable def ZM:Ss:=(.cons (.aug 1 .Add (.k (.int 1)))
 (.cons (.asg 2 (.bin .RShift (.var 2) (.k (.int 8))))
 .nil))
noncomputable def ZcZ:Ss:=(.cons (.ife (.cmp .Lt (.var 0) (.k (.int 0))) (.cons .raise
 .nil) .nil)
 (.cons (.ife (.cmp .Lt (.var 0) (.k (.int 128))) (.cons (.ret (.bi .bytes (.cons (.lst (.cons (.var 0) .nil)) .nil)))
 .nil) .nil)
 (.cons (.asg 1 (.k (.int 0)))
 (.cons (.asg 2 (.var 0))
 (.cons (.whl ZL ZM)
 (.cons (.asg 3 (.call 2 (.cons (.var 0) (.cons (.var 1) .nil))))
 (.cons (.ret (.bin .Add (.bi .bytes (.cons (.lst (.cons (.bin .BitOr (.k (.int 128)) (.bi .len (.cons (.var 3) .nil))) .nil)) .nil)) (.var 3)))
 .nil)))))))
noncomputable def Zek:Fn:=⟨1,4,ZcZ⟩
noncomputable def ZaJ:Ss:=(.cons (.ife (.cmp .GtE (.var 1) (.bi .len (.cons (.var 0) .nil))) (.cons .raise
 .nil) .nil)
 (.cons (.asg 2 (.idx (.var 0) (.var 1)))
 (.cons (.ife (.cmp .Lt (.var 2) (.k (.int 128))) (.cons (.ret (.tup (.cons (.var 2) (.cons (.bin .Add (.var 1) (.k (.int 1))) .nil))))
 .nil) .nil)
 (.cons (.asg 3 (.bin .BitAnd (.var 2) (.k (.int 127))))
 (.cons (.asg 4 (.slc (.var 0) (.bin .Add (.var 1) (.k (.int 1))) (.bin .Add (.bin .Add (.var 1) (.k (.int 1))) (.var 3))))
 (.cons (.ife (.or (.cmp .Lt (.var 3) (.k (.int 1))) (.or (.cmp .Gt (.var 3) (.k (.int 8))) (.cmp .NotEq (.bi .len (.cons (.var 4) .nil)) (.var 3)))) (.cons .raise
 .nil) .nil)
 (.cons (.asg 5 (.call 0 (.cons (.var 4) (.cons (.k (.int 0)) (.cons (.bi .len (.cons (.var 4) .nil)) .nil)))))
 (.cons (.ife (.cmp .NotEq (.call 3 (.cons (.var 5) .nil)) (.slc (.var 0) (.var 1) (.bin .Add (.bin .Add (.var 1) (.k (.int 1))) (.var 3)))) (.cons .raise
 .nil) .nil)
 (.cons (.ret (.tup (.cons (.var 5) (.cons (.bin .Add (.bin .Add (.var 1) (.k (.int 1))) (.var 3)) .nil))))
 .nil)))))))))
noncomputable def ZeC:Fn:=⟨2,6,ZaJ⟩
noncomputable def ZaA:C:=(.cmp .Gt (.var 0) (.k (.int 127)))
noncomputable def ZaB:Ss:=(.cons (.asg 0 (.bin .RShift (.var 0) (.k (.int 7))))
 (.cons (.app 1 (.bin .BitOr (.bin .BitAnd (.var 0) (.k (.int 127))) (.k (.int 128))))
 .nil))
noncomputable def Zbd:C:=(.cmp .GtE (.var 3) (.k (.int 0)))
noncomputable def Zbe:Ss:=(.cons (.frz 1)
 (.cons (.app 2 (.idx (.var 1) (.var 3)))
 (.cons (.aug 3 .Sub (.k (.int 1)))
 .nil)))
noncomputable def ZhB:Ss:=(.cons (.own 1 (.lst (.cons (.bin .BitAnd (.var 0) (.k (.int 127))) .nil)))
 (.cons (.whl ZaA ZaB)
 (.cons (.own 2 (.lst .nil))
 (.cons (.frz 1)
 (.cons (.asg 3 (.bin .Sub (.bi .len (.cons (.var 1) .nil)) (.k (.int 1))))
 (.cons (.whl Zbd Zbe)
 (.cons (.frz 2)
 (.cons (.ret (.bi .bytes (.cons (.var 2) .nil)))
 .nil))))))))
noncomputable def Zfv:Fn:=⟨1,4,ZhB⟩
noncomputable def ZaM:C:=(.not (.and (.cmp .LtE (.neg (.var 2)) (.var 0)) (.cmp .Lt (.var 0) (.var 2))))
noncomputable def ZaN:Ss:=(.cons (.aug 1 .Add (.k (.int 1)))
 (.cons (.asg 2 (.bin .LShift (.var 2) (.k (.int 8))))
 .nil))
noncomputable def ZfH:Ss:=(.cons (.asg 1 (.k (.int 1)))
 (.cons (.asg 2 (.k (.int 128)))
 (.cons (.whl ZaM ZaN)
 (.cons (.ife (.cmp .Lt (.var 0) (.k (.int 0))) (.cons (.asg 3 (.bin .Add (.var 0) (.bin .LShift (.k (.int 1)) (.bin .Mult (.k (.int 8)) (.var 1)))))
 .nil) (.cons (.asg 3 (.var 0))
 .nil))
 (.cons (.ret (.call 2 (.cons (.var 3) (.cons (.var 1) .nil))))
 .nil)))))
noncomputable def Zfw:Fn:=⟨1,4,ZfH⟩
noncomputable def ZcE:Ss:=(.cons (.asg 1 (.bi .len (.cons (.var 0) .nil)))
 (.cons (.ife (.cmp .Eq (.var 1) (.k (.int 0))) (.cons .raise
 .nil) .nil)
 (.cons (.asg 2 (.call 0 (.cons (.var 0) (.cons (.k (.int 0)) (.cons (.var 1) .nil)))))
 (.cons (.ife (.cmp .GtE (.idx (.var 0) (.k (.int 0))) (.k (.int 128))) (.cons (.asg 2 (.bin .Sub (.var 2) (.bin .LShift (.k (.int 1)) (.bin .Mult (.k (.int 8)) (.var 1)))))
 .nil) .nil)
 (.cons (.ife (.cmp .Gt (.var 1) (.k (.int 1))) (.cons (.ife (.and (.cmp .Eq (.idx (.var 0) (.k (.int 0))) (.k (.int 0))) (.cmp .Lt (.idx (.var 0) (.k (.int 1))) (.k (.int 128)))) (.cons .raise
 .nil) .nil)
 (.cons (.ife (.and (.cmp .Eq (.idx (.var 0) (.k (.int 0))) (.k (.int 255))) (.cmp .GtE (.idx (.var 0) (.k (.int 1))) (.k (.int 128)))) (.cons .raise
 .nil) .nil)
 .nil)) .nil)
 (.cons (.ret (.var 2))
 .nil))))))
noncomputable def Zgd:Fn:=⟨1,3,ZcE⟩
noncomputable def ZfI:Ss:=(.cons (.ret (.and (.cmp .LtE (.k (.int 48)) (.var 0)) (.cmp .LtE (.var 0) (.k (.int 57)))))
 .nil)
noncomputable def Zfx:Fn:=⟨1,1,ZfI⟩
noncomputable def Zdh:C:=(.cmp .Lt (.var 4) (.var 2))
noncomputable def ZdY:Ss:=(.cons (.asg 3 (.bin .Add (.bin .Mult (.var 3) (.k (.int 10))) (.bin .Sub (.idx (.var 0) (.var 4)) (.k (.int 48)))))
 (.cons (.aug 4 .Add (.k (.int 1)))
 .nil))
noncomputable def ZjJ:Ss:=(.cons (.asg 3 (.k (.int 0)))
 (.cons (.asg 4 (.var 1))
 (.cons (.whl Zdh ZdY)
 (.cons (.ret (.var 3))
 .nil))))
noncomputable def ZgD:Fn:=⟨3,5,ZjJ⟩
noncomputable def Zff:Ss:=(.cons (.ife (.cmp .NotEq (.bin .Mod (.var 0) (.k (.int 4))) (.k (.int 0))) (.cons (.ret (.k (.bool false)))
 .nil) .nil)
 (.cons (.ife (.cmp .NotEq (.bin .Mod (.var 0) (.k (.int 100))) (.k (.int 0))) (.cons (.ret (.k (.bool true)))
 .nil) .nil)
 (.cons (.ret (.cmp .Eq (.bin .Mod (.var 0) (.k (.int 400))) (.k (.int 0))))
 .nil)))
noncomputable def Zge:Fn:=⟨1,1,Zff⟩
noncomputable def Zav:Ss:=(.cons (.ife (.cmp .Eq (.var 1) (.k (.int 2))) (.cons (.ife (.call 10 (.cons (.var 0) .nil)) (.cons (.ret (.k (.int 29)))
 .nil) .nil)
 (.cons (.ret (.k (.int 28)))
 .nil)) .nil)
 (.cons (.ife (.or (.cmp .Eq (.var 1) (.k (.int 4))) (.or (.cmp .Eq (.var 1) (.k (.int 6))) (.or (.cmp .Eq (.var 1) (.k (.int 9))) (.cmp .Eq (.var 1) (.k (.int 11)))))) (.cons (.ret (.k (.int 30)))
 .nil) .nil)
 (.cons (.ret (.k (.int 31)))
 .nil)))
noncomputable def ZdQ:Fn:=⟨2,2,Zav⟩
noncomputable def ZaR:C:=(.cmp .Lt (.var 2) (.k (.int 14)))
noncomputable def Zbv:Ss:=(.cons (.ife (.not (.call 8 (.cons (.idx (.var 0) (.var 2)) .nil))) (.cons (.ret (.k (.bool false)))
 .nil) .nil)
 (.cons (.aug 2 .Add (.k (.int 1)))
 .nil))
noncomputable def ZaS:C:=(.cmp .Lt (.var 3) (.bin .Sub (.var 1) (.k (.int 1))))
noncomputable def Zbw:Ss:=(.cons (.ife (.not (.call 8 (.cons (.idx (.var 0) (.var 3)) .nil))) (.cons (.ret (.k (.bool false)))
 .nil) .nil)
 (.cons (.aug 3 .Add (.k (.int 1)))
 .nil))
noncomputable def ZjK:Ss:=(.cons (.asg 1 (.bi .len (.cons (.var 0) .nil)))
 (.cons (.ife (.cmp .Lt (.var 1) (.k (.int 15))) (.cons (.ret (.k (.bool false)))
 .nil) .nil)
 (.cons (.asg 2 (.k (.int 0)))
 (.cons (.whl ZaR Zbv)
 (.cons (.ife (.cmp .NotEq (.idx (.var 0) (.bin .Sub (.var 1) (.k (.int 1)))) (.k (.int 90))) (.cons (.ret (.k (.bool false)))
 .nil) .nil)
 (.cons (.ife (.cmp .Gt (.var 1) (.k (.int 15))) (.cons (.ife (.cmp .NotEq (.idx (.var 0) (.k (.int 14))) (.k (.int 46))) (.cons (.ret (.k (.bool false)))
 .nil) .nil)
 (.cons (.ife (.cmp .Lt (.var 1) (.k (.int 17))) (.cons (.ret (.k (.bool false)))
 .nil) .nil)
 (.cons (.asg 3 (.k (.int 15)))
 (.cons (.whl ZaS Zbw)
 (.cons (.ife (.cmp .Eq (.idx (.var 0) (.bin .Sub (.var 1) (.k (.int 2)))) (.k (.int 48))) (.cons (.ret (.k (.bool false)))
 .nil) .nil)
 .nil))))) .nil)
 (.cons (.asg 4 (.call 9 (.cons (.var 0) (.cons (.k (.int 0)) (.cons (.k (.int 4)) .nil)))))
 (.cons (.asg 5 (.call 9 (.cons (.var 0) (.cons (.k (.int 4)) (.cons (.k (.int 6)) .nil)))))
 (.cons (.asg 6 (.call 9 (.cons (.var 0) (.cons (.k (.int 6)) (.cons (.k (.int 8)) .nil)))))
 (.cons (.asg 7 (.call 9 (.cons (.var 0) (.cons (.k (.int 8)) (.cons (.k (.int 10)) .nil)))))
 (.cons (.asg 8 (.call 9 (.cons (.var 0) (.cons (.k (.int 10)) (.cons (.k (.int 12)) .nil)))))
 (.cons (.asg 9 (.call 9 (.cons (.var 0) (.cons (.k (.int 12)) (.cons (.k (.int 14)) .nil)))))
 (.cons (.ife (.or (.cmp .Lt (.var 5) (.k (.int 1))) (.cmp .Gt (.var 5) (.k (.int 12)))) (.cons (.ret (.k (.bool false)))
 .nil) .nil)
 (.cons (.ife (.or (.cmp .Lt (.var 6) (.k (.int 1))) (.cmp .Gt (.var 6) (.call 11 (.cons (.var 4) (.cons (.var 5) .nil))))) (.cons (.ret (.k (.bool false)))
 .nil) .nil)
 (.cons (.ret (.and (.cmp .Lt (.var 7) (.k (.int 24))) (.and (.cmp .Lt (.var 8) (.k (.int 60))) (.cmp .Lt (.var 9) (.k (.int 60))))))
 .nil)))))))))))))))
noncomputable def ZgE:Fn:=⟨1,10,ZjK⟩
noncomputable def ZnF:Ss:=(.cons (.ife (.not (.var 0)) (.cons .raise
 .nil) .nil)
 .nil)
noncomputable def Zif:Fn:=⟨1,1,ZnF⟩
noncomputable def ZlG:Ss:=(.cons (.ret (.and (.cmp .LtE (.k (.int 128)) (.idx (.var 0) (.var 1))) (.cmp .LtE (.idx (.var 0) (.var 1)) (.k (.int 191)))))
 .nil)
noncomputable def Zgf:Fn:=⟨2,2,ZlG⟩
noncomputable def ZiR:C:=(.cmp .Lt (.var 2) (.var 1))
noncomputable def ZiS:Ss:=(.cons (.asg 3 (.idx (.var 0) (.var 2)))
 (.cons (.ife (.cmp .Lt (.var 3) (.k (.int 128))) (.cons (.aug 2 .Add (.k (.int 1)))
 .nil) (.cons (.ife (.and (.cmp .LtE (.k (.int 194)) (.var 3)) (.cmp .LtE (.var 3) (.k (.int 223)))) (.cons (.ife (.or (.cmp .GtE (.bin .Add (.var 2) (.k (.int 1))) (.var 1)) (.not (.call 14 (.cons (.var 0) (.cons (.bin .Add (.var 2) (.k (.int 1))) .nil))))) (.cons (.ret (.k (.bool false)))
 .nil) .nil)
 (.cons (.aug 2 .Add (.k (.int 2)))
 .nil)) (.cons (.ife (.and (.cmp .LtE (.k (.int 224)) (.var 3)) (.cmp .LtE (.var 3) (.k (.int 239)))) (.cons (.ife (.cmp .GtE (.bin .Add (.var 2) (.k (.int 2))) (.var 1)) (.cons (.ret (.k (.bool false)))
 .nil) .nil)
 (.cons (.asg 4 (.idx (.var 0) (.bin .Add (.var 2) (.k (.int 1)))))
 (.cons (.ife (.cmp .Eq (.var 3) (.k (.int 224))) (.cons (.ife (.or (.cmp .Lt (.var 4) (.k (.int 160))) (.cmp .Gt (.var 4) (.k (.int 191)))) (.cons (.ret (.k (.bool false)))
 .nil) .nil)
 .nil) (.cons (.ife (.cmp .Eq (.var 3) (.k (.int 237))) (.cons (.ife (.or (.cmp .Lt (.var 4) (.k (.int 128))) (.cmp .Gt (.var 4) (.k (.int 159)))) (.cons (.ret (.k (.bool false)))
 .nil) .nil)
 .nil) (.cons (.ife (.or (.cmp .Lt (.var 4) (.k (.int 128))) (.cmp .Gt (.var 4) (.k (.int 191)))) (.cons (.ret (.k (.bool false)))
 .nil) .nil)
 .nil))
 .nil))
 (.cons (.ife (.not (.call 14 (.cons (.var 0) (.cons (.bin .Add (.var 2) (.k (.int 2))) .nil)))) (.cons (.ret (.k (.bool false)))
 .nil) .nil)
 (.cons (.aug 2 .Add (.k (.int 3)))
 .nil))))) (.cons (.ife (.and (.cmp .LtE (.k (.int 240)) (.var 3)) (.cmp .LtE (.var 3) (.k (.int 244)))) (.cons (.ife (.cmp .GtE (.bin .Add (.var 2) (.k (.int 3))) (.var 1)) (.cons (.ret (.k (.bool false)))
 .nil) .nil)
 (.cons (.asg 4 (.idx (.var 0) (.bin .Add (.var 2) (.k (.int 1)))))
 (.cons (.ife (.cmp .Eq (.var 3) (.k (.int 240))) (.cons (.ife (.or (.cmp .Lt (.var 4) (.k (.int 144))) (.cmp .Gt (.var 4) (.k (.int 191)))) (.cons (.ret (.k (.bool false)))
 .nil) .nil)
 .nil) (.cons (.ife (.cmp .Eq (.var 3) (.k (.int 244))) (.cons (.ife (.or (.cmp .Lt (.var 4) (.k (.int 128))) (.cmp .Gt (.var 4) (.k (.int 143)))) (.cons (.ret (.k (.bool false)))
 .nil) .nil)
 .nil) (.cons (.ife (.or (.cmp .Lt (.var 4) (.k (.int 128))) (.cmp .Gt (.var 4) (.k (.int 191)))) (.cons (.ret (.k (.bool false)))
 .nil) .nil)
 .nil))
 .nil))
 (.cons (.ife (.or (.not (.call 14 (.cons (.var 0) (.cons (.bin .Add (.var 2) (.k (.int 2))) .nil)))) (.not (.call 14 (.cons (.var 0) (.cons (.bin .Add (.var 2) (.k (.int 3))) .nil))))) (.cons (.ret (.k (.bool false)))
 .nil) .nil)
 (.cons (.aug 2 .Add (.k (.int 4)))
 .nil))))) (.cons (.ret (.k (.bool false)))
 .nil))
 .nil))
 .nil))
 .nil))
 .nil))
noncomputable def ZlH:Ss:=(.cons (.asg 1 (.bi .len (.cons (.var 0) .nil)))
 (.cons (.asg 2 (.k (.int 0)))
 (.cons (.whl ZiR ZiS)
 (.cons (.ret (.k (.bool true)))
 .nil))))
noncomputable def Zgg:Fn:=⟨1,5,ZlH⟩
noncomputable def Zgh:Ss:=(.cons (.ife (.and (.cmp .LtE (.k (.int 65)) (.var 1)) (.cmp .LtE (.var 1) (.k (.int 90)))) (.cons .cont
 .nil) .nil)
 (.cons (.ife (.and (.cmp .LtE (.k (.int 97)) (.var 1)) (.cmp .LtE (.var 1) (.k (.int 122)))) (.cons .cont
 .nil) .nil)
 (.cons (.ife (.and (.cmp .LtE (.k (.int 48)) (.var 1)) (.cmp .LtE (.var 1) (.k (.int 57)))) (.cons .cont
 .nil) .nil)
 (.cons (.ife (.cmp .In (.var 1) (.glob 2)) (.cons .cont
 .nil) .nil)
 (.cons (.ret (.k (.bool false)))
 .nil)))))
noncomputable def ZhC:Ss:=(.cons (.forr (.one 1) (.seq (.var 0)) Zgh)
 (.cons (.ret (.k (.bool true)))
 .nil))
noncomputable def ZdZ:Fn:=⟨1,2,ZhC⟩
noncomputable def Zgy:Ss:=(.cons (.ife (.cmp .Eq (.var 0) (.k (.str sUtf8))) (.cons (.ret (.call 15 (.cons (.var 1) .nil)))
 .nil) .nil)
 (.cons (.ife (.cmp .Eq (.var 0) (.k (.str sPrint))) (.cons (.ret (.call 16 (.cons (.var 1) .nil)))
 .nil) .nil)
 (.cons (.ife (.cmp .Eq (.var 0) (.k (.str sTime))) (.cons (.ret (.call 12 (.cons (.var 1) .nil)))
 .nil) .nil)
 (.cons (.ret (.k (.bool true)))
 .nil))))
noncomputable def Zgi:Fn:=⟨2,2,Zgy⟩
noncomputable def ZjL:Ss:=(.cons (.ret (.and (.isi (.var 0) .tInt) (.and (.cmp .IsNot (.var 0) (.k (.bool true))) (.cmp .IsNot (.var 0) (.k (.bool false))))))
 .nil)
noncomputable def ZgF:Fn:=⟨1,1,ZjL⟩
noncomputable def ZbC:Ss:=(.cons (.ex (.call 13 (.cons (.call 18 (.cons (.var 2) .nil)) .nil)))
 .nil)
noncomputable def ZV:Ss:=(.cons (.ex (.call 13 (.cons (.and (.isi (.var 0) .tTuple) (.cmp .Gt (.bi .len (.cons (.var 0) .nil)) (.k (.int 0)))) .nil)))
 (.cons (.asg 1 (.idx (.var 0) (.k (.int 0))))
 (.cons (.ex (.call 13 (.cons (.or (.cmp .Eq (.var 1) (.k (.str sTagged))) (.cmp .In (.var 1) (.glob 0))) .nil)))
 (.cons (.ex (.call 13 (.cons (.cmp .Eq (.bi .len (.cons (.var 0) .nil)) (.get (.glob 3) (.cons (.var 1) (.cons (.k (.int 2)) .nil)))) .nil)))
 (.cons (.ife (.cmp .Eq (.var 1) (.k (.str sBool))) (.cons (.ex (.call 13 (.cons (.or (.cmp .Is (.idx (.var 0) (.k (.int 1))) (.k (.bool true))) (.cmp .Is (.idx (.var 0) (.k (.int 1))) (.k (.bool false)))) .nil)))
 .nil) (.cons (.ife (.or (.cmp .Eq (.var 1) (.k (.str sInt))) (.or (.cmp .Eq (.var 1) (.k (.str sEnum))) (.cmp .Eq (.var 1) (.k (.str sTagged))))) (.cons (.ex (.call 13 (.cons (.call 18 (.cons (.idx (.var 0) (.k (.int 1))) .nil)) .nil)))
 .nil) (.cons (.ife (.cmp .Eq (.var 1) (.k (.str sBits))) (.cons (.ex (.call 13 (.cons (.and (.call 18 (.cons (.idx (.var 0) (.k (.int 1))) .nil)) (.isi (.idx (.var 0) (.k (.int 2))) .tBytes)) .nil)))
 .nil) (.cons (.ife (.cmp .Eq (.var 1) (.k (.str sOid))) (.cons (.ex (.call 13 (.cons (.isi (.idx (.var 0) (.k (.int 1))) .tList) .nil)))
 (.cons (.forr (.one 2) (.seq (.idx (.var 0) (.k (.int 1)))) ZbC)
 .nil)) (.cons (.ife (.or (.cmp .Eq (.var 1) (.k (.str sSeq))) (.cmp .Eq (.var 1) (.k (.str sSet)))) (.cons (.ex (.call 13 (.cons (.isi (.idx (.var 0) (.k (.int 1))) .tList) .nil)))
 .nil) (.cons (.ife (.cmp .NotEq (.var 1) (.k (.str sNull))) (.cons (.ex (.call 13 (.cons (.isi (.idx (.var 0) (.k (.int 1))) .tBytes) .nil)))
 .nil) .nil)
 .nil))
 .nil))
 .nil))
 .nil))
 .nil))
 .nil)))))
noncomputable def Zel:Fn:=⟨1,3,ZV⟩
noncomputable def Zev:Ss:=(.cons (.ex (.call 13 (.cons (.cmp .GtE (.var 9) (.k (.int 0))) .nil)))
 .nil)
noncomputable def ZdR:C:=(.cmp .Lt (.var 11) (.bi .len (.cons (.var 8) .nil)))
noncomputable def Zew:Ss:=(.cons (.app 10 (.call 5 (.cons (.idx (.var 8) (.var 11)) .nil)))
 (.cons (.aug 11 .Add (.k (.int 1)))
 .nil))
noncomputable def ZaZ:C:=(.cmp .Lt (.var 11) (.bi .len (.cons (.var 10) .nil)))
noncomputable def ZbX:Ss:=(.cons (.frz 10)
 (.cons (.ex (.call 13 (.cons (.cmp .LtE (.idx (.var 10) (.bin .Sub (.var 11) (.k (.int 1)))) (.idx (.var 10) (.var 11))) .nil)))
 (.cons (.aug 11 .Add (.k (.int 1)))
 .nil)))
noncomputable def Zaj:Ss:=(.cons (.ex (.call 19 (.cons (.var 0) .nil)))
 (.cons (.asg 1 (.idx (.var 0) (.k (.int 0))))
 (.cons (.ife (.cmp .Eq (.var 1) (.k (.str sTagged))) (.cons (.asg 2 (.idx (.var 0) (.k (.int 1))))
 (.cons (.ex (.call 13 (.cons (.cmp .GtE (.var 2) (.k (.int 0))) .nil)))
 (.cons (.ife (.cmp .Lt (.var 2) (.k (.int 31))) (.cons (.asg 3 (.bi .bytes (.cons (.lst (.cons (.bin .Add (.k (.int 160)) (.var 2)) .nil)) .nil)))
 .nil) (.cons (.asg 3 (.bin .Add (.k (.bytes [191])) (.call 5 (.cons (.var 2) .nil))))
 .nil))
 (.cons (.asg 4 (.call 20 (.cons (.idx (.var 0) (.k (.int 2))) .nil)))
 (.cons (.ret (.bin .Add (.bin .Add (.var 3) (.call 3 (.cons (.bi .len (.cons (.var 4) .nil)) .nil))) (.var 4)))
 .nil))))) .nil)
 (.cons (.ife (.cmp .Eq (.var 1) (.k (.str sBool))) (.cons (.ife (.idx (.var 0) (.k (.int 1))) (.cons (.asg 5 (.k (.bytes [255])))
 .nil) (.cons (.asg 5 (.k (.bytes [0])))
 .nil))
 .nil) (.cons (.ife (.or (.cmp .Eq (.var 1) (.k (.str sInt))) (.cmp .Eq (.var 1) (.k (.str sEnum)))) (.cons (.asg 5 (.call 6 (.cons (.idx (.var 0) (.k (.int 1))) .nil)))
 .nil) (.cons (.ife (.cmp .Eq (.var 1) (.k (.str sBits))) (.cons (.asg 6 (.idx (.var 0) (.k (.int 1))))
 (.cons (.asg 7 (.idx (.var 0) (.k (.int 2))))
 (.cons (.ex (.call 13 (.cons (.and (.cmp .LtE (.k (.int 0)) (.var 6)) (.cmp .Lt (.var 6) (.k (.int 8)))) .nil)))
 (.cons (.ex (.call 13 (.cons (.or (.cmp .Gt (.bi .len (.cons (.var 7) .nil)) (.k (.int 0))) (.not (.var 6))) .nil)))
 (.cons (.ife (.cmp .Gt (.bi .len (.cons (.var 7) .nil)) (.k (.int 0))) (.cons (.ex (.call 13 (.cons (.cmp .Eq (.bin .BitAnd (.idx (.var 7) (.bin .Sub (.bi .len (.cons (.var 7) .nil)) (.k (.int 1)))) (.bin .Sub (.bin .LShift (.k (.int 1)) (.var 6)) (.k (.int 1)))) (.k (.int 0))) .nil)))
 .nil) .nil)
 (.cons (.asg 5 (.bin .Add (.bi .bytes (.cons (.lst (.cons (.var 6) .nil)) .nil)) (.var 7)))
 .nil)))))) (.cons (.ife (.cmp .Eq (.var 1) (.k (.str sNull))) (.cons (.asg 5 (.k (.bytes [])))
 .nil) (.cons (.ife (.cmp .Eq (.var 1) (.k (.str sOid))) (.cons (.asg 8 (.idx (.var 0) (.k (.int 1))))
 (.cons (.ex (.call 13 (.cons (.cmp .GtE (.bi .len (.cons (.var 8) .nil)) (.k (.int 2))) .nil)))
 (.cons (.forr (.one 9) (.seq (.var 8)) Zev)
 (.cons (.ex (.call 13 (.cons (.cmp .LtE (.idx (.var 8) (.k (.int 0))) (.k (.int 2))) .nil)))
 (.cons (.ex (.call 13 (.cons (.or (.cmp .Eq (.idx (.var 8) (.k (.int 0))) (.k (.int 2))) (.cmp .Lt (.idx (.var 8) (.k (.int 1))) (.k (.int 40)))) .nil)))
 (.cons (.own 10 (.lst (.cons (.call 5 (.cons (.bin .Add (.bin .Mult (.k (.int 40)) (.idx (.var 8) (.k (.int 0)))) (.idx (.var 8) (.k (.int 1)))) .nil)) .nil)))
 (.cons (.asg 11 (.k (.int 2)))
 (.cons (.whl ZdR Zew)
 (.cons (.frz 10)
 (.cons (.asg 5 (.bi .join (.cons (.var 10) .nil)))
 .nil)))))))))) (.cons (.ife (.or (.cmp .Eq (.var 1) (.k (.str sSeq))) (.cmp .Eq (.var 1) (.k (.str sSet)))) (.cons (.asg 10 (.comp 2 (.last (.one 13) (.seq (.idx (.var 0) (.k (.int 1)))) .nil (.call 20 (.cons (.var 13) .nil)))))
 (.cons (.ife (.cmp .Eq (.var 1) (.k (.str sSet))) (.cons (.asg 11 (.k (.int 1)))
 (.cons (.whl ZaZ ZbX)
 .nil)) .nil)
 (.cons (.frz 10)
 (.cons (.asg 5 (.bi .join (.cons (.var 10) .nil)))
 .nil)))) (.cons (.ex (.call 13 (.cons (.call 17 (.cons (.var 1) (.cons (.idx (.var 0) (.k (.int 1))) .nil))) .nil)))
 (.cons (.asg 5 (.idx (.var 0) (.k (.int 1))))
 .nil)))
 .nil))
 .nil))
 .nil))
 .nil))
 .nil))
 (.cons (.ret (.bin .Add (.bin .Add (.bi .bytes (.cons (.lst (.cons (.idx (.glob 0) (.var 1)) .nil)) .nil)) (.call 3 (.cons (.bi .len (.cons (.var 5) .nil)) .nil))) (.var 5)))
 .nil)))))
noncomputable def ZhD:Fn:=⟨1,12,Zaj⟩
noncomputable def ZbD:C:=(.cmp .Lt (.var 3) (.bi .len (.cons (.var 0) .nil)))
noncomputable def Zcc:Ss:=(.cons (.asg 4 (.call 23 (.cons (.var 0) (.cons (.var 3) (.cons (.bin .Sub (.var 1) (.k (.int 1))) .nil)))))
 (.cons (.app 2 (.idx (.var 4) (.k (.int 0))))
 (.cons (.asg 3 (.idx (.var 4) (.k (.int 1))))
 .nil)))
noncomputable def ZiT:Ss:=(.cons (.ex (.call 13 (.cons (.cmp .Gt (.var 1) (.k (.int 0))) .nil)))
 (.cons (.own 2 (.lst .nil))
 (.cons (.asg 3 (.k (.int 0)))
 (.cons (.whl ZbD Zcc)
 (.cons (.frz 2)
 (.cons (.ret (.var 2))
 .nil))))))
noncomputable def Zig:Fn:=⟨2,5,ZiT⟩
noncomputable def Zbf:C:=(.k (.bool true))
noncomputable def Zbg:Ss:=(.cons (.asg 4 (.bin .BitOr (.bin .LShift (.var 4) (.k (.int 7))) (.bin .BitAnd (.idx (.var 0) (.var 3)) (.k (.int 127)))))
 (.cons (.aug 3 .Add (.k (.int 1)))
 (.cons (.ife (.cmp .Lt (.idx (.var 0) (.bin .Sub (.var 3) (.k (.int 1)))) (.k (.int 128))) (.cons .brk
 .nil) .nil)
 .nil)))
noncomputable def ZbN:C:=(.cmp .Lt (.var 3) (.var 1))
noncomputable def ZbO:Ss:=(.cons (.asg 4 (.k (.int 0)))
 (.cons (.asg 5 (.var 3))
 (.cons (.whl Zbf Zbg)
 (.cons (.ex (.call 13 (.cons (.cmp .NotEq (.idx (.var 0) (.var 5)) (.k (.int 128))) .nil)))
 (.cons (.app 2 (.var 4))
 .nil)))))
noncomputable def ZfJ:Ss:=(.cons (.asg 1 (.bi .len (.cons (.var 0) .nil)))
 (.cons (.ex (.call 13 (.cons (.and (.cmp .Gt (.var 1) (.k (.int 0))) (.cmp .Lt (.idx (.var 0) (.bin .Sub (.var 1) (.k (.int 1)))) (.k (.int 128)))) .nil)))
 (.cons (.own 2 (.lst .nil))
 (.cons (.asg 3 (.k (.int 0)))
 (.cons (.whl ZbN ZbO)
 (.cons (.frz 2)
 (.cons (.asg 6 (.bin .FloorDiv (.idx (.var 2) (.k (.int 0))) (.k (.int 40))))
 (.cons (.ife (.cmp .Gt (.var 6) (.k (.int 2))) (.cons (.asg 6 (.k (.int 2)))
 .nil) .nil)
 (.cons (.frz 2)
 (.cons (.ret (.bin .Add (.lst (.cons (.var 6) (.cons (.bin .Sub (.idx (.var 2) (.k (.int 0))) (.bin .Mult (.k (.int 40)) (.var 6))) .nil))) (.slc (.var 2) (.k (.int 1)) (.k .none))))
 .nil))))))))))
noncomputable def Zfy:Fn:=⟨1,7,ZfJ⟩
noncomputable def Zbb:C:=(.k (.bool true))
noncomputable def Zbc:Ss:=(.cons (.ex (.call 13 (.cons (.cmp .Lt (.var 5) (.bi .len (.cons (.var 0) .nil))) .nil)))
 (.cons (.asg 4 (.bin .BitOr (.bin .LShift (.var 4) (.k (.int 7))) (.bin .BitAnd (.idx (.var 0) (.var 5)) (.k (.int 127)))))
 (.cons (.aug 5 .Add (.k (.int 1)))
 (.cons (.ife (.cmp .Lt (.idx (.var 0) (.bin .Sub (.var 5) (.k (.int 1)))) (.k (.int 128))) (.cons .brk
 .nil) .nil)
 .nil))))
noncomputable def ZaE:Ss:=(.cons (.ex (.call 13 (.cons (.cmp .Lt (.var 1) (.bi .len (.cons (.var 0) .nil))) .nil)))
 (.cons (.asg 3 (.idx (.var 0) (.var 1)))
 (.cons (.asg 4 (.k .none))
 (.cons (.asg 5 (.bin .Add (.var 1) (.k (.int 1))))
 (.cons (.ife (.cmp .Eq (.var 3) (.k (.int 191))) (.cons (.asg 4 (.k (.int 0)))
 (.cons (.asg 6 (.var 5))
 (.cons (.whl Zbb Zbc)
 (.cons (.ex (.call 13 (.cons (.and (.cmp .NotEq (.idx (.var 0) (.var 6)) (.k (.int 128))) (.cmp .GtE (.var 4) (.k (.int 31)))) .nil)))
 .nil)))) (.cons (.ife (.and (.cmp .LtE (.k (.int 160)) (.var 3)) (.cmp .Lt (.var 3) (.k (.int 191)))) (.cons (.asg 4 (.bin .Sub (.var 3) (.k (.int 160))))
 .nil) .nil)
 .nil))
 (.cons (.asg 7 (.call 4 (.cons (.var 0) (.cons (.var 5) .nil))))
 (.cons (.asg 8 (.idx (.var 7) (.k (.int 0))))
 (.cons (.asg 5 (.idx (.var 7) (.k (.int 1))))
 (.cons (.asg 9 (.slc (.var 0) (.var 5) (.bin .Add (.var 5) (.var 8))))
 (.cons (.ex (.call 13 (.cons (.cmp .Eq (.bi .len (.cons (.var 9) .nil)) (.var 8)) .nil)))
 (.cons (.asg 10 (.bin .Add (.var 5) (.var 8)))
 (.cons (.ife (.cmp .IsNot (.var 4) (.k .none)) (.cons (.asg 11 (.call 21 (.cons (.var 9) (.cons (.var 2) .nil))))
 (.cons (.ex (.call 13 (.cons (.cmp .Eq (.bi .len (.cons (.var 11) .nil)) (.k (.int 1))) .nil)))
 (.cons (.ret (.tup (.cons (.tup (.cons (.k (.str sTagged)) (.cons (.var 4) (.cons (.idx (.var 11) (.k (.int 0))) .nil)))) (.cons (.var 10) .nil))))
 .nil))) .nil)
 (.cons (.asg 12 (.get (.glob 1) (.cons (.var 3) .nil)))
 (.cons (.ex (.call 13 (.cons (.cmp .IsNot (.var 12) (.k .none)) .nil)))
 (.cons (.ife (.cmp .Eq (.var 12) (.k (.str sBool))) (.cons (.ex (.call 13 (.cons (.or (.cmp .Eq (.var 9) (.k (.bytes [0]))) (.cmp .Eq (.var 9) (.k (.bytes [255])))) .nil)))
 (.cons (.asg 13 (.tup (.cons (.var 12) (.cons (.cmp .Eq (.var 9) (.k (.bytes [255]))) .nil))))
 .nil)) (.cons (.ife (.or (.cmp .Eq (.var 12) (.k (.str sInt))) (.cmp .Eq (.var 12) (.k (.str sEnum)))) (.cons (.asg 13 (.tup (.cons (.var 12) (.cons (.call 7 (.cons (.var 9) .nil)) .nil))))
 .nil) (.cons (.ife (.cmp .Eq (.var 12) (.k (.str sBits))) (.cons (.ex (.call 13 (.cons (.cmp .Gt (.bi .len (.cons (.var 9) .nil)) (.k (.int 0))) .nil)))
 (.cons (.asg 13 (.tup (.cons (.var 12) (.cons (.idx (.var 9) (.k (.int 0))) (.cons (.slc (.var 9) (.k (.int 1)) (.k .none)) .nil)))))
 .nil)) (.cons (.ife (.cmp .Eq (.var 12) (.k (.str sNull))) (.cons (.ex (.call 13 (.cons (.cmp .Eq (.bi .len (.cons (.var 9) .nil)) (.k (.int 0))) .nil)))
 (.cons (.asg 13 (.tup (.cons (.var 12) .nil)))
 .nil)) (.cons (.ife (.cmp .Eq (.var 12) (.k (.str sOid))) (.cons (.asg 13 (.tup (.cons (.var 12) (.cons (.call 22 (.cons (.var 9) .nil)) .nil))))
 .nil) (.cons (.ife (.or (.cmp .Eq (.var 12) (.k (.str sSeq))) (.cmp .Eq (.var 12) (.k (.str sSet)))) (.cons (.asg 13 (.tup (.cons (.var 12) (.cons (.call 21 (.cons (.var 9) (.cons (.var 2) .nil))) .nil))))
 .nil) (.cons (.asg 13 (.tup (.cons (.var 12) (.cons (.var 9) .nil))))
 .nil))
 .nil))
 .nil))
 .nil))
 .nil))
 .nil))
 (.cons (.ret (.tup (.cons (.var 13) (.cons (.var 10) .nil))))
 .nil))))))))))))))))
noncomputable def ZjM:Fn:=⟨3,14,ZaE⟩
noncomputable def Zgj:Ss:=(.cons (.asg 2 (.call 23 (.cons (.var 0) (.cons (.k (.int 0)) (.cons (.var 1) .nil)))))
 (.cons (.ex (.call 13 (.cons (.cmp .Eq (.idx (.var 2) (.k (.int 1))) (.bi .len (.cons (.var 0) .nil))) .nil)))
 (.cons (.ex (.call 13 (.cons (.cmp .Eq (.call 20 (.cons (.idx (.var 2) (.k (.int 0))) .nil)) (.var 0)) .nil)))
 (.cons (.ret (.idx (.var 2) (.k (.int 0))))
 .nil))))
noncomputable def ZhE:Fn:=⟨2,3,Zgj⟩
noncomputable def Zam:Ss:=(.cons (.ife (.cmp .Eq (.idx (.var 0) (.k (.int 0))) (.k (.str sTagged))) (.cons (.ret (.lst (.cons (.idx (.var 0) (.k (.int 2))) .nil)))
 .nil) .nil)
 (.cons (.ife (.or (.cmp .Eq (.idx (.var 0) (.k (.int 0))) (.k (.str sSeq))) (.cmp .Eq (.idx (.var 0) (.k (.int 0))) (.k (.str sSet)))) (.cons (.ret (.idx (.var 0) (.k (.int 1))))
 .nil) .nil)
 (.cons (.ret (.lst .nil))
 .nil)))
noncomputable def Zfz:Fn:=⟨1,1,Zam⟩
noncomputable def Zfg:Ss:=(.cons (.app 1 (.var 3))
 (.cons (.callx 26 (.val (.var 4) (.own 1 (.own 2 .nil))))
 (.cons (.pop 1)
 (.cons (.aug 3 .Add (.k (.int 1)))
 .nil))))
noncomputable def Zko:Ss:=(.cons (.app 2 (.tup (.cons (.copy 1) (.cons (.var 0) .nil))))
 (.cons (.asg 3 (.k (.int 0)))
 (.cons (.forr (.one 4) (.seq (.call 25 (.cons (.var 0) .nil))) Zfg)
 .nil)))
noncomputable def Zih:Fn:=⟨3,5,Zko⟩
noncomputable def Zpj:Ss:=(.cons (.own 1 (.lst .nil))
 (.cons (.callx 26 (.val (.var 0) (.fresh (.own 1 .nil))))
 (.cons (.frz 1)
 (.cons (.ret (.var 1))
 .nil))))
noncomputable def ZjN:Fn:=⟨1,2,Zpj⟩
noncomputable def Zdi:D:=(.dict [(.str sBool),(.str sInt),(.str sBits),(.str sBytes),(.str sNull),(.str sOid),(.str sEnum),(.str sUtf8),(.str sPrint),(.str sTime),(.str sSeq),(.str sSet)] [(.int 1),(.int 2),(.int 3),(.int 4),(.int 5),(.int 6),(.int 10),(.int 12),(.int 19),(.int 24),(.int 48),(.int 49)])
noncomputable def Zea:D:= .dict [.int 1,.int 2,.int 3,.int 4,.int 5,.int 6,.int 10,.int 12,.int 19,.int 24,.int 48,.int 49] [.str sBool,.str sInt,.str sBits,.str sBytes,.str sNull,.str sOid,.str sEnum,.str sUtf8,.str sPrint,.str sTime,.str sSeq,.str sSet]
noncomputable def gExtra:D:=(.list [(.int 32),(.int 39),(.int 40),(.int 41),(.int 43),(.int 44),(.int 45),(.int 46),(.int 47),(.int 58),(.int 61),(.int 63)])
noncomputable def ZdS:D:=(.dict [(.str sNull),(.str sBits),(.str sTagged)] [(.int 1),(.int 3),(.int 3)])
structure Base (T:Text):Prop where
 f0:T.fns[0]?=some ZeY
 f1:T.fns[1]?=some ZdP
 f2:T.fns[2]?=some Zfu
 f3:T.fns[3]?=some Zek
 f4:T.fns[4]?=some ZeC
 f5:T.fns[5]?=some Zfv
 f6:T.fns[6]?=some Zfw
 f7:T.fns[7]?=some Zgd
 f8:T.fns[8]?=some Zfx
 f9:T.fns[9]?=some ZgD
 f10:T.fns[10]?=some Zge
 f11:T.fns[11]?=some ZdQ
 f12:T.fns[12]?=some ZgE
 f13:T.fns[13]?=some Zif
 f14:T.fns[14]?=some Zgf
 f15:T.fns[15]?=some Zgg
 f16:T.fns[16]?=some ZdZ
 f17:T.fns[17]?=some Zgi
 f18:T.fns[18]?=some ZgF
 f19:T.fns[19]?=some Zel
 f20:T.fns[20]?=some ZhD
 f21:T.fns[21]?=some Zig
 f22:T.fns[22]?=some Zfy
 f23:T.fns[23]?=some ZjM
 f24:T.fns[24]?=some ZhE
 f25:T.fns[25]?=some Zfz
 f26:T.fns[26]?=some Zih
 f27:T.fns[27]?=some ZjN
 g0:T.globs[0]?=some Zdi
 g1:T.globs[1]?=some Zea
 g2:T.globs[2]?=some gExtra
 g3:T.globs[3]?=some ZdS
theorem Zaz:D.peq eqDeep (.str sBool) (.str sBool) = .ok true:=rfl
theorem ZfO:D.peq eqDeep (.str sBool) (.str sInt) = .ok false:=rfl
theorem Zfj:D.peq eqDeep (.str sBool) (.str sBits) = .ok false:=rfl
theorem Zfk:D.peq eqDeep (.str sBool) (.str sNull) = .ok false:=rfl
theorem Zeq:D.peq eqDeep (.str sBool) (.str sOid) = .ok false:=rfl
theorem Zfl:D.peq eqDeep (.str sBool) (.str sEnum) = .ok false:=rfl
theorem Zfm:D.peq eqDeep (.str sBool) (.str sUtf8) = .ok false:=rfl
theorem ZeJ:D.peq eqDeep (.str sBool) (.str sPrint) = .ok false:=rfl
theorem Zfn:D.peq eqDeep (.str sBool) (.str sTime) = .ok false:=rfl
theorem Zil:D.peq eqDeep (.str sBool) (.str sSeq) = .ok false:=rfl
theorem Zim:D.peq eqDeep (.str sBool) (.str sSet) = .ok false:=rfl
theorem ZbQ:D.peq eqDeep (.str sBool) (.str sTagged) = .ok false:=rfl
theorem Zce:D.peq eqDeep (.str sInt) (.str sBool) = .ok false:=rfl
theorem ZdW:D.peq eqDeep (.str sInt) (.str sInt) = .ok true:=rfl
theorem Zin:D.peq eqDeep (.str sInt) (.str sBits) = .ok false:=rfl
theorem Zio:D.peq eqDeep (.str sInt) (.str sNull) = .ok false:=rfl
theorem ZgA:D.peq eqDeep (.str sInt) (.str sOid) = .ok false:=rfl
theorem Zip:D.peq eqDeep (.str sInt) (.str sUtf8) = .ok false:=rfl
theorem ZhJ:D.peq eqDeep (.str sInt) (.str sPrint) = .ok false:=rfl
theorem Ziq:D.peq eqDeep (.str sInt) (.str sTime) = .ok false:=rfl
theorem Zjd:D.peq eqDeep (.str sInt) (.str sSeq) = .ok false:=rfl
theorem Zje:D.peq eqDeep (.str sInt) (.str sSet) = .ok false:=rfl
theorem ZdI:D.peq eqDeep (.str sInt) (.str sTagged) = .ok false:=rfl
theorem Zal:D.peq eqDeep (.str sBits) (.str sBool) = .ok false:=rfl
theorem Zay:D.peq eqDeep (.str sBits) (.str sInt) = .ok false:=rfl
theorem Zar:D.peq eqDeep (.str sBits) (.str sBits) = .ok true:=rfl
theorem Zfo:D.peq eqDeep (.str sBits) (.str sNull) = .ok false:=rfl
theorem Zer:D.peq eqDeep (.str sBits) (.str sOid) = .ok false:=rfl
theorem Zas:D.peq eqDeep (.str sBits) (.str sEnum) = .ok false:=rfl
theorem Zfp:D.peq eqDeep (.str sBits) (.str sUtf8) = .ok false:=rfl
theorem ZeK:D.peq eqDeep (.str sBits) (.str sPrint) = .ok false:=rfl
theorem Zfq:D.peq eqDeep (.str sBits) (.str sTime) = .ok false:=rfl
theorem Zir:D.peq eqDeep (.str sBits) (.str sSeq) = .ok false:=rfl
theorem Zis:D.peq eqDeep (.str sBits) (.str sSet) = .ok false:=rfl
theorem Zau:D.peq eqDeep (.str sBits) (.str sTagged) = .ok false:=rfl
theorem Zbm:D.peq eqDeep (.str sBytes) (.str sBool) = .ok false:=rfl
theorem ZcF:D.peq eqDeep (.str sBytes) (.str sInt) = .ok false:=rfl
theorem Zcf:D.peq eqDeep (.str sBytes) (.str sBits) = .ok false:=rfl
theorem Zcg:D.peq eqDeep (.str sBytes) (.str sNull) = .ok false:=rfl
theorem ZbG:D.peq eqDeep (.str sBytes) (.str sOid) = .ok false:=rfl
theorem Zch:D.peq eqDeep (.str sBytes) (.str sEnum) = .ok false:=rfl
theorem ZeL:D.peq eqDeep (.str sBytes) (.str sUtf8) = .ok false:=rfl
theorem Zez:D.peq eqDeep (.str sBytes) (.str sPrint) = .ok false:=rfl
theorem ZeM:D.peq eqDeep (.str sBytes) (.str sTime) = .ok false:=rfl
theorem ZcG:D.peq eqDeep (.str sBytes) (.str sSeq) = .ok false:=rfl
theorem ZcH:D.peq eqDeep (.str sBytes) (.str sSet) = .ok false:=rfl
theorem Zcz:D.peq eqDeep (.str sBytes) (.str sTagged) = .ok false:=rfl
theorem ZbH:D.peq eqDeep (.str sNull) (.str sBool) = .ok false:=rfl
theorem Zds:D.peq eqDeep (.str sNull) (.str sInt) = .ok false:=rfl
theorem ZcI:D.peq eqDeep (.str sNull) (.str sBits) = .ok false:=rfl
theorem ZcJ:D.peq eqDeep (.str sNull) (.str sNull) = .ok true:=rfl
theorem Zes:D.peq eqDeep (.str sNull) (.str sOid) = .ok false:=rfl
theorem ZcK:D.peq eqDeep (.str sNull) (.str sEnum) = .ok false:=rfl
theorem ZhK:D.peq eqDeep (.str sNull) (.str sUtf8) = .ok false:=rfl
theorem ZgX:D.peq eqDeep (.str sNull) (.str sPrint) = .ok false:=rfl
theorem ZhL:D.peq eqDeep (.str sNull) (.str sTime) = .ok false:=rfl
theorem ZfP:D.peq eqDeep (.str sNull) (.str sSeq) = .ok false:=rfl
theorem ZfQ:D.peq eqDeep (.str sNull) (.str sSet) = .ok false:=rfl
theorem Zdj:D.peq eqDeep (.str sNull) (.str sTagged) = .ok false:=rfl
theorem Zbx:D.peq eqDeep (.str sOid) (.str sBool) = .ok false:=rfl
theorem Zdd:D.peq eqDeep (.str sOid) (.str sInt) = .ok false:=rfl
theorem Zci:D.peq eqDeep (.str sOid) (.str sBits) = .ok false:=rfl
theorem Zdt:D.peq eqDeep (.str sOid) (.str sNull) = .ok false:=rfl
theorem ZbY:D.peq eqDeep (.str sOid) (.str sOid) = .ok true:=rfl
theorem Zcj:D.peq eqDeep (.str sOid) (.str sEnum) = .ok false:=rfl
theorem Zit:D.peq eqDeep (.str sOid) (.str sUtf8) = .ok false:=rfl
theorem ZhM:D.peq eqDeep (.str sOid) (.str sPrint) = .ok false:=rfl
theorem Ziu:D.peq eqDeep (.str sOid) (.str sTime) = .ok false:=rfl
theorem Zjf:D.peq eqDeep (.str sOid) (.str sSeq) = .ok false:=rfl
theorem Zjg:D.peq eqDeep (.str sOid) (.str sSet) = .ok false:=rfl
theorem Zck:D.peq eqDeep (.str sOid) (.str sTagged) = .ok false:=rfl
theorem ZbI:D.peq eqDeep (.str sEnum) (.str sBool) = .ok false:=rfl
theorem Zdu:D.peq eqDeep (.str sEnum) (.str sInt) = .ok false:=rfl
theorem ZhN:D.peq eqDeep (.str sEnum) (.str sBits) = .ok false:=rfl
theorem ZhO:D.peq eqDeep (.str sEnum) (.str sNull) = .ok false:=rfl
theorem ZfR:D.peq eqDeep (.str sEnum) (.str sOid) = .ok false:=rfl
theorem ZcL:D.peq eqDeep (.str sEnum) (.str sEnum) = .ok true:=rfl
theorem ZhP:D.peq eqDeep (.str sEnum) (.str sUtf8) = .ok false:=rfl
theorem ZgY:D.peq eqDeep (.str sEnum) (.str sPrint) = .ok false:=rfl
theorem ZhQ:D.peq eqDeep (.str sEnum) (.str sTime) = .ok false:=rfl
theorem Ziv:D.peq eqDeep (.str sEnum) (.str sSeq) = .ok false:=rfl
theorem Ziw:D.peq eqDeep (.str sEnum) (.str sSet) = .ok false:=rfl
theorem Zdk:D.peq eqDeep (.str sEnum) (.str sTagged) = .ok false:=rfl
theorem ZbJ:D.peq eqDeep (.str sUtf8) (.str sBool) = .ok false:=rfl
theorem Zdv:D.peq eqDeep (.str sUtf8) (.str sInt) = .ok false:=rfl
theorem ZcM:D.peq eqDeep (.str sUtf8) (.str sBits) = .ok false:=rfl
theorem ZcN:D.peq eqDeep (.str sUtf8) (.str sNull) = .ok false:=rfl
theorem Zcl:D.peq eqDeep (.str sUtf8) (.str sOid) = .ok false:=rfl
theorem ZcO:D.peq eqDeep (.str sUtf8) (.str sEnum) = .ok false:=rfl
theorem Zfr:D.peq eqDeep (.str sUtf8) (.str sUtf8) = .ok true:=rfl
theorem ZgZ:D.peq eqDeep (.str sUtf8) (.str sPrint) = .ok false:=rfl
theorem Zfs:D.peq eqDeep (.str sUtf8) (.str sTime) = .ok false:=rfl
theorem Zdw:D.peq eqDeep (.str sUtf8) (.str sSeq) = .ok false:=rfl
theorem Zdx:D.peq eqDeep (.str sUtf8) (.str sSet) = .ok false:=rfl
theorem Zdl:D.peq eqDeep (.str sUtf8) (.str sTagged) = .ok false:=rfl
theorem Zha:D.peq eqDeep (.str sUtf8) (.str sTable) = .ok false:=rfl
theorem Zbn:D.peq eqDeep (.str sPrint) (.str sBool) = .ok false:=rfl
theorem ZcP:D.peq eqDeep (.str sPrint) (.str sInt) = .ok false:=rfl
theorem Zcm:D.peq eqDeep (.str sPrint) (.str sBits) = .ok false:=rfl
theorem Zcn:D.peq eqDeep (.str sPrint) (.str sNull) = .ok false:=rfl
theorem ZbK:D.peq eqDeep (.str sPrint) (.str sOid) = .ok false:=rfl
theorem Zco:D.peq eqDeep (.str sPrint) (.str sEnum) = .ok false:=rfl
theorem ZeN:D.peq eqDeep (.str sPrint) (.str sUtf8) = .ok false:=rfl
theorem ZgG:D.peq eqDeep (.str sPrint) (.str sPrint) = .ok true:=rfl
theorem ZeO:D.peq eqDeep (.str sPrint) (.str sTime) = .ok false:=rfl
theorem ZcQ:D.peq eqDeep (.str sPrint) (.str sSeq) = .ok false:=rfl
theorem ZcR:D.peq eqDeep (.str sPrint) (.str sSet) = .ok false:=rfl
theorem ZcA:D.peq eqDeep (.str sPrint) (.str sTagged) = .ok false:=rfl
theorem ZgH:D.peq eqDeep (.str sPrint) (.str sTable) = .ok false:=rfl
theorem ZbL:D.peq eqDeep (.str sTime) (.str sBool) = .ok false:=rfl
theorem Zdy:D.peq eqDeep (.str sTime) (.str sInt) = .ok false:=rfl
theorem ZcS:D.peq eqDeep (.str sTime) (.str sBits) = .ok false:=rfl
theorem ZcT:D.peq eqDeep (.str sTime) (.str sNull) = .ok false:=rfl
theorem Zcp:D.peq eqDeep (.str sTime) (.str sOid) = .ok false:=rfl
theorem ZcU:D.peq eqDeep (.str sTime) (.str sEnum) = .ok false:=rfl
theorem ZcV:D.peq eqDeep (.str sTime) (.str sUtf8) = .ok false:=rfl
theorem ZeP:D.peq eqDeep (.str sTime) (.str sPrint) = .ok false:=rfl
theorem ZcW:D.peq eqDeep (.str sTime) (.str sTime) = .ok true:=rfl
theorem Zdz:D.peq eqDeep (.str sTime) (.str sSeq) = .ok false:=rfl
theorem ZdA:D.peq eqDeep (.str sTime) (.str sSet) = .ok false:=rfl
theorem Zdm:D.peq eqDeep (.str sTime) (.str sTagged) = .ok false:=rfl
theorem ZeQ:D.peq eqDeep (.str sTime) (.str sTable) = .ok false:=rfl
theorem Zby:D.peq eqDeep (.str sSeq) (.str sBool) = .ok false:=rfl
theorem Zde:D.peq eqDeep (.str sSeq) (.str sInt) = .ok false:=rfl
theorem Zcq:D.peq eqDeep (.str sSeq) (.str sBits) = .ok false:=rfl
theorem ZdB:D.peq eqDeep (.str sSeq) (.str sNull) = .ok false:=rfl
theorem ZbZ:D.peq eqDeep (.str sSeq) (.str sOid) = .ok false:=rfl
theorem Zcr:D.peq eqDeep (.str sSeq) (.str sEnum) = .ok false:=rfl
theorem Zca:D.peq eqDeep (.str sSeq) (.str sSeq) = .ok true:=rfl
theorem Zjh:D.peq eqDeep (.str sSeq) (.str sSet) = .ok false:=rfl
theorem Zcs:D.peq eqDeep (.str sSeq) (.str sTagged) = .ok false:=rfl
theorem ZaU:D.peq eqDeep (.str sSet) (.str sBool) = .ok false:=rfl
theorem Zcb:D.peq eqDeep (.str sSet) (.str sInt) = .ok false:=rfl
theorem Zbz:D.peq eqDeep (.str sSet) (.str sBits) = .ok false:=rfl
theorem Zct:D.peq eqDeep (.str sSet) (.str sNull) = .ok false:=rfl
theorem Zbo:D.peq eqDeep (.str sSet) (.str sOid) = .ok false:=rfl
theorem ZbA:D.peq eqDeep (.str sSet) (.str sEnum) = .ok false:=rfl
theorem Zbp:D.peq eqDeep (.str sSet) (.str sSeq) = .ok false:=rfl
theorem Zbq:D.peq eqDeep (.str sSet) (.str sSet) = .ok true:=rfl
theorem Zbr:D.peq eqDeep (.str sSet) (.str sTagged) = .ok false:=rfl
theorem ZeA:D.peq eqDeep (.str sTagged) (.str sBool) = .ok false:=rfl
theorem Zhb:D.peq eqDeep (.str sTagged) (.str sInt) = .ok false:=rfl
theorem Zhc:D.peq eqDeep (.str sTagged) (.str sOid) = .ok false:=rfl
theorem ZgI:D.peq eqDeep (.str sTagged) (.str sEnum) = .ok false:=rfl
theorem Zbj:D.peq eqDeep (.str sTagged) (.str sTagged) = .ok true:=rfl
theorem ZbR:D.peq eqDeep (.str sTable) (.str sTable) = .ok true:=rfl
theorem Zdq:D.peq eqDeep (.str sRefused) (.str sRefused) = .ok true:=rfl
theorem ZnI:cmpop .In (.str sBool) Zdi = .ok (.bool true):=rfl
theorem Zpp:cmpop .In (.str sInt) Zdi = .ok (.bool true):=rfl
theorem ZnJ:cmpop .In (.str sBits) Zdi = .ok (.bool true):=rfl
theorem ZlP:cmpop .In (.str sBytes) Zdi = .ok (.bool true):=rfl
theorem ZnK:cmpop .In (.str sNull) Zdi = .ok (.bool true):=rfl
theorem Zpq:cmpop .In (.str sOid) Zdi = .ok (.bool true):=rfl
theorem ZnL:cmpop .In (.str sEnum) Zdi = .ok (.bool true):=rfl
theorem ZnM:cmpop .In (.str sUtf8) Zdi = .ok (.bool true):=rfl
theorem ZlQ:cmpop .In (.str sPrint) Zdi = .ok (.bool true):=rfl
theorem ZnN:cmpop .In (.str sTime) Zdi = .ok (.bool true):=rfl
theorem Zpr:cmpop .In (.str sSeq) Zdi = .ok (.bool true):=rfl
theorem Zps:cmpop .In (.str sSet) Zdi = .ok (.bool true):=rfl
end DK.Internal.B
end
section
set_option backward.match.sparseCases false
set_option genSizeOf false
set_option genCtorIdx false
namespace DK.Internal.B
open PySem
theorem Ze (d:D) (sl:List Slot):getV (.val d::sl) 0 = .ok d:=rfl
theorem Zf (s:Slot) (sl:List Slot) (n:Nat):getV (s::sl) (n+1)=getV sl n:=rfl
theorem Zk (s t:Slot) (sl:List Slot):setV (s::sl) 0 t=t::sl:=rfl
theorem Zl (s t:Slot) (sl:List Slot) (n:Nat):setV (s::sl) (n+1) t=s::setV sl n t:=rfl
theorem ZdJ (d:List D) (sl:List Slot):ownD (.own d::sl) 0 = .ok d:=rfl
theorem ZdK (s:Slot) (sl:List Slot) (n:Nat):ownD (s::sl) (n+1)=ownD sl n:=rfl
theorem ZfS (d:List D) (sl:List Slot):freeze (.own d::sl) 0 = .val (.list d)::sl:=rfl
theorem Zhd (d:D) (sl:List Slot):freeze (.val d::sl) 0 = .val d::sl:=rfl
theorem ZfT (s:Slot) (sl:List Slot) (n:Nat):freeze (s::sl) (n+1)=s::freeze sl n:=by
 simp only [freeze,List.getElem?_cons_succ]
 rcases sl[n]? with _ | t
 ·rfl
 ·cases t<;>rfl
theorem ZcX (i):negD (.int i) = .ok (.int (-i)):=rfl
theorem Za (b):boolD (.bool b) = .ok b:=rfl
theorem ZN (b):truthy (.bool b) = .ok b:=rfl
theorem Zqn (b):truthy (.int b) = .ok (decide (b≠0)):=rfl
theorem Zae (a b):binop .Add (.int a) (.int b) = .ok (.int (a+b)):=rfl
theorem ZaC (a b):binop .Sub (.int a) (.int b) = .ok (.int (a - b)):=rfl
theorem ZaG {a b:Int} (h:0 < b):binop .Mod (.int a) (.int b) = .ok (.int (a % b)):=if_pos h
theorem Zgo {a b:Int} (h:0 < b) (h2:b < 1073741824):binop .FloorDiv (.int a) (.int b) = .ok (.int (a / b)):=if_pos ⟨h,h2⟩
theorem ZeR {a b:Int} (h:a.natAbs < 4294967296) (h2:b.natAbs < 4294967296):binop .Mult (.int a) (.int b) = .ok (.int (a*b)):=by
 exact if_pos ⟨decide_eq_true h,decide_eq_true h2⟩
theorem b_shr {a n:Int} (h:0≤n):binop .RShift (.int a) (.int n) = .ok (.int (a / 2 ^ n.toNat)):=if_pos h
theorem ZeE {a n:Int} (h:0≤n) (h2:n≤8192) (h3:a.natAbs < BIG):binop .LShift (.int a) (.int n) = .ok (.int (a*2 ^ n.toNat)):=by
 exact if_pos ⟨h,h2,h3⟩
theorem ZlR (a b:Nat):binop .BitAnd (.int a) (.int b) = .ok (.int (a &&& b:Nat)):=by
 exact if_pos (c:=(0:Int)≤a∧(0:Int)≤b) (e:=Out.stuck) ⟨Int.natCast_nonneg a,Int.natCast_nonneg b⟩
theorem b_or (a b:Nat):binop .BitOr (.int a) (.int b) = .ok (.int (a ||| b:Nat)):=by
 exact if_pos (c:=(0:Int)≤a∧(0:Int)≤b) (e:=Out.stuck) ⟨Int.natCast_nonneg a,Int.natCast_nonneg b⟩
theorem ZdL {a b:List UInt8} (h:a.length+b.length≤SZ):binop .Add (.bytes a) (.bytes b) = .ok (.bytes (a++b)):=by
 exact if_pos h
theorem ZhX {a b:List D} (h:a.length+b.length≤SZ):binop .Add (.list a) (.list b) = .ok (.list (a++b)):=by
 exact if_pos h
theorem b_catS {a b:List Nat} (h:a.length+b.length≤SZ):binop .Add (.str a) (.str b) = .ok (.str (a++b)):=by
 exact if_pos h
theorem c_eq (a b):cmpop .Eq a b=bnd okB (D.peq eqDeep a b):=rfl
theorem c_ne (a b):cmpop .NotEq a b=bnd nokB (D.peq eqDeep a b):=rfl
theorem c_lt (a b):cmpop .Lt (.int a) (.int b) = .ok (.bool (@decide (a < b) (Classical.propDecidable _))):=rfl
theorem c_le (a b):cmpop .LtE (.int a) (.int b) = .ok (.bool (@decide (a≤b) (Classical.propDecidable _))):=rfl
theorem c_gt (a b):cmpop .Gt (.int a) (.int b) = .ok (.bool (@decide (a > b) (Classical.propDecidable _))):=rfl
theorem c_ge (a b):cmpop .GtE (.int a) (.int b) = .ok (.bool (@decide (a≥b) (Classical.propDecidable _))):=rfl
theorem c_ltB (a b):cmpop .Lt (.bytes a) (.bytes b) = .ok (.bool (lexLt a b)):=rfl
theorem c_leB (a b):cmpop .LtE (.bytes a) (.bytes b) = .ok (.bool (lexLe a b)):=rfl
theorem c_is (a b):cmpop .Is a b=bnd okB (isThing a b):=rfl
theorem ZaP (a b):cmpop .IsNot a b=bnd nokB (isThing a b):=rfl
theorem Zv (n) (a b:Int):D.peq n (.int a) (.int b) = .ok (decide (a=b)):=by cases n<;>rfl
theorem ZdM (n) (a b:List UInt8):D.peq n (.bytes a) (.bytes b) = .ok (decide (a=b)):=by cases n<;>rfl
theorem Zn (b):builtin .len [.bytes b] = .ok (.int b.length):=rfl
theorem ZaV (b):builtin .len [.list b] = .ok (.int b.length):=rfl
theorem ZaQ (b):builtin .len [.tuple b] = .ok (.int b.length):=rfl
theorem Zh (d s):retV (.ret d,s) = .ok d:=rfl
theorem ZaH (s):retV (.next,s) = .ok .none:=rfl
theorem ZgJ (n d s):retF n (.ret d,s) = .ok (.ret d,s.take n):=rfl
theorem Zhe (n s):retF n (.next,s) = .ok (.ret .none,s.take n):=rfl
theorem Zbs (s i d):bindT s (.one i) d = .ok (setV s i (.val d)):=rfl
theorem Zpt (i):isiK .tInt (.int i) = .ok (.bool true):=rfl
theorem ZnO (i b):isThing (.int i) (.bool b) = .ok false:=rfl
theorem Zpu (b i):index (.bytes b) (.int i)=atB b (place b.length i):=rfl
theorem Zpv (b i):index (.list b) (.int i)=atL b (place b.length i):=rfl
theorem Zpw (b i):index (.tuple b) (.int i)=atL b (place b.length i):=rfl
theorem atB_ok {b:List UInt8} {j:Nat} (h:j < b.length):atB b (some j) = .ok (.int (b[j].toNat:Nat)):=by simp [atB,h]
theorem atL_ok {b:List D} {j:Nat} (h:j < b.length):atL b (some j) = .ok b[j]:=by simp [atL,h]
theorem Zji {n i:Nat} (h:i < n):place n i=some i:=by
 show (if (0:Int)≤(if (i:Int) < 0 then (i:Int)+n else i)∧(if (i:Int) < 0 then (i:Int)+n else i) < n then some (if (i:Int) < 0 then (i:Int)+n else i).toNat else none)=_
 rw [show (if (i:Int) < 0 then (i:Int)+n else i)=i from if_neg (by simp),if_pos ⟨by exact Int.natCast_nonneg _,by exact Int.ofNat_lt.mpr (by assumption)⟩,Int.toNat_natCast]
theorem ZlS (xs a b):slice (.bytes xs) (.int a) (.int b) = .ok (.bytes (cut xs (clip xs.length a) (clip xs.length b))):=rfl
theorem ZlT (xs a):slice (.bytes xs) (.int a) .none = .ok (.bytes (cut xs (clip xs.length a) xs.length)):=rfl
theorem ZlU (xs b):slice (.bytes xs) .none (.int b) = .ok (.bytes (cut xs 0 (clip xs.length b))):=rfl
theorem Zjj (xs a):slice (.list xs) (.int a) .none = .ok (.list (cut xs (clip xs.length a) xs.length)):=rfl
theorem ZlV (xs b):slice (.list xs) .none (.int b) = .ok (.list (cut xs 0 (clip xs.length b))):=rfl
theorem Zix {xs:List D} {b:List UInt8} (h:bytesOf xs=some b):builtin .bytes [.list xs] = .ok (.bytes b):=by show optO (bytesOf xs) _=_;rw [h];rfl
theorem bi_all {xs:List D} {b:List Bool} (h:boolsOf xs=some b):builtin .all [.list xs] = .ok (.bool (b.all id)):=by show optO (boolsOf xs) _=_;rw [h];rfl
theorem Zpx {xs:List D} {b:List (List UInt8)} (h:byteStrs xs=some b) (h2:b.flatten.length≤SZ∧b.length≤SZ):builtin .join [.list xs] = .ok (.bytes b.flatten):=by show optO (byteStrs xs) _=_;rw [h];exact if_pos h2
theorem ZeS {i:Int} {ds:List D} {bs:List UInt8} (h:0≤i∧i < 256) (h2:bytesOf ds=some bs):bytesOf (.int i::ds)=some (UInt8.ofNat i.toNat::bs):=by
 show (match (if 0≤i∧i < 256 then some (UInt8.ofNat i.toNat) else none),bytesOf ds with | some b,some bs=>some (b::bs) | _,_=>none)=_
 rw [if_pos h,h2]
theorem zc2 {α:Type} (a b:α) {i:Decidable True}:(@ite α True i a b)=a:=if_pos trivial
theorem zc4:(!true)=false:=rfl
theorem zc5:(!false)=true:=rfl
theorem zc6 {α β:Type} (f:α→β) (a l):(a::l).map f=f a::l.map f:=rfl
theorem zc7 {α β:Type} (f:α→β):([]:List α).map f = []:=rfl
theorem zc8 {α:Type} (a:α) (l m):(a::l)++m=a::(l++m):=rfl
theorem zc9 {α:Type} (m:List α) : []++m=m:=rfl
theorem zc10 {i:Decidable True}:@decide True i=true:=decide_eq_true trivial
theorem zc11 {i:Decidable False}:@decide False i=false:=decide_eq_false id
theorem zc13 {α:Type} (a b:α) {i:Decidable (false=true)}:(@ite α (false=true) i a b)=b:=if_neg Bool.false_ne_true
theorem zc14 (a b:Nat):List.replicate ((a+1) - (b+1)) Slot.un=List.replicate (a - b) Slot.un:=by rw [Nat.add_sub_add_right]
theorem zc15 (a:Nat):List.replicate (a - 0) Slot.un=List.replicate a Slot.un:=rfl
theorem zc16 (a:Nat):List.replicate (a+1) Slot.un=Slot.un::List.replicate a Slot.un:=rfl
theorem zc17:List.replicate 0 Slot.un = []:=rfl
variable {T:Text} {r:Nat}
theorem Zgp (B:Base T) (b:Bool):CL T (r+1) 13 [.bool b]=if b=true then .ok .none else .exc:=by
 rw [ZJ B.f13 rfl (by decide)]
 cases b<;>simp only [ZnF,Zfi,T_var,Zu,Zt,ZgU,ZN,ZaH,ZG,Zy,Zdp,Ze,Zb,ZY,Zq,ZQ,zc2,zc4,zc5,zc6,zc7,zc8,zc9,zc13,zc14,zc15,zc17]
theorem ZT (B:Base T) {c:Prop} [Decidable c] (h:c):CL T (r+1) 13 [.bool (decide c)] = .ok .none:=by rw [Zgp B];simp [h]
theorem ZeT (B:Base T) {c:Prop} [Decidable c] (h:¬c):CL T (r+1) 13 [.bool (decide c)] = .exc:=by rw [Zgp B];simp [h]
theorem ZlW (B:Base T) {c:Prop} [Decidable c] (h:¬c):CL T (r+1) 13 [.bool !(decide c)] = .ok .none:=by rw [Zgp B];simp [h]
theorem Zpy (B:Base T) {c:Prop} [Decidable c] (h:c):CL T (r+1) 13 [.bool !(decide c)] = .exc:=by rw [Zgp B];simp [h]
theorem ZF (B:Base T):CL T (r+1) 13 [.bool true] = .ok .none:=by rw [Zgp B];rfl
theorem Zfb (B:Base T):CL T (r+1) 13 [.bool false] = .exc:=by rw [Zgp B];rfl
theorem Zku (B:Base T) (c:Int):CL T (r+1) 8 [.int c] = .ok (.bool (decide (48≤c∧c≤57))):=by
 rw [ZJ B.f8 rfl (by decide)]
 by_cases h:48≤c
 ·simp (disch:=first | decide | assumption | lia) only [ZfI,X_k,Zp,Zcd,ZX,ZD,c_le,Zh,Zd,Zo,Zed,Ze,Zb,Zq,zc6,zc7,zc8,zc9,zc14,zc15,zc17];simp [h]
 ·simp (disch:=first | decide | assumption | lia) only [ZfI,X_k,Zp,Zcd,ZX,ZD,c_le,Zh,Zd,Zo,ZjS,Ze,Zb,Zq,zc6,zc7,zc8,zc9,zc14,zc15,zc17];simp [h]
theorem ZeU (B:Base T) (c:Int):CL T (r+1) 18 [.int c] = .ok (.bool true):=by
 rw [ZJ B.f18 rfl (by decide)]
 simp (disch:=first | decide | assumption | lia) only [ZjL,X_k,Zp,Zcd,ZX,ZfL,ZD,Zh,Zd,Zo,ZdU,Ze,Zb,ZaF,Zq,zc5,zc6,zc7,zc8,zc9,zc14,zc15,zc17,Zpt,ZaP,ZnO]
theorem Zpz (B:Base T) (y:Int):CL T (r+1) 10 [.int y] = .ok (.bool (decide (y % 4=0∧(y % 100≠0∨y % 400=0)))):=by
 rw [ZJ B.f10 rfl (by decide)]
 by_cases h:y % 4=0
 ·by_cases h2:y % 100=0
  ·simp (disch:=first | decide | assumption | lia) only [Zff,X_k,Zp,ZB,ZX,Zr,Zu,ZD,Zt,Za,ZaG,c_eq,c_ne,Zh,Zv,Zd,Zo,ZeG,Ze,Zb,okB_,ZaF,Zq,zc6,zc7,zc8,zc9,zc14,zc15,zc17];simp [h,h2]
  ·simp (disch:=first | decide | assumption | lia) only [Zff,X_k,Zp,ZB,Zr,Zu,ZD,Zt,Za,ZaG,c_ne,Zh,Zv,Zd,Zo,ZfE,ZeG,Ze,Zb,ZaF,Zq,zc6,zc7,zc8,zc9,zc14,zc15,zc17];simp [h,h2]
 ·simp (disch:=first | decide | assumption | lia) only [Zff,X_k,Zp,ZB,Zr,ZD,Zt,Za,ZaG,c_ne,Zh,Zv,Zd,Zo,ZfE,Ze,Zb,ZaF,Zq,zc6,zc7,zc8,zc9,zc14,zc15,zc17];simp [h]
theorem Ziy (n i:Nat):clip n ((i:Nat):Int)=min i n:=by
 unfold clip;rw [if_neg (Int.not_lt.mpr (Int.natCast_nonneg i))];omega
theorem Zhf {n i:Nat} (h:i≤n):clip n ((i:Nat):Int)=i:=(Ziy n i).trans (Nat.min_eq_left h)
end DK.Internal.B
end
section
set_option backward.match.sparseCases false
set_option genSizeOf false
set_option genCtorIdx false
namespace DK.Internal.B
open PySem
noncomputable def beB:Nat→Nat→List UInt8
 | 0,_=> []
 | k+1,m=>beB k (m / 256) ++ [UInt8.ofNat (m % 256)]
noncomputable def stepB (n:Nat) (u:UInt8):Nat:=n*256+u.toNat
noncomputable def beV (b:List UInt8):Nat:=b.foldl stepB 0
theorem Zej:∀k m,(beB k m).length=k
 | 0,_=>rfl
 | k+1,m=>by simp [beB,Zej k]
theorem Zjk (a b:List UInt8) (n:Nat):(a++b).foldl stepB n=b.foldl stepB (a.foldl stepB n):=List.foldl_append
theorem Zhg (b:List UInt8):∀n,b.foldl stepB n=n*256 ^ b.length+b.foldl stepB 0:=by
 induction b with
 | nil=>intro n;simp
 | cons u us ih=>
  intro n
  simp only [List.foldl_cons,List.length_cons]
  rw [ih (stepB n u),ih (stepB 0 u)]
  simp only [stepB,Nat.pow_succ]
  have e:256 ^ us.length*256=256*256 ^ us.length:=Nat.mul_comm _ _
  rw [e,←Nat.mul_assoc,Nat.add_mul,Nat.zero_mul,Nat.zero_add,Nat.add_assoc]
theorem Zpe (b:List UInt8):beV b < 256 ^ b.length:=by
 unfold beV
 induction b with
 | nil=>simp
 | cons u us ih=>
  simp only [List.foldl_cons,List.length_cons]
  rw [Zhg]
  simp only [stepB,Nat.pow_succ]
  have:=u.toNat_lt
  have h1:(0*256+u.toNat)*256 ^ us.length≤255*256 ^ us.length:=Nat.mul_le_mul_right _ (by lia)
  lia
theorem ZhY (a b:List UInt8):beV (a++b)=beV a*256 ^ b.length+beV b:=by
 unfold beV;rw [Zjk,Zhg]
theorem Zft (m:Nat):(UInt8.ofNat (m % 256)).toNat=m % 256:=by
 simp
theorem ZlX:∀k m,beV (beB k m)=m % 256 ^ k
 | 0,m=>by simp [beB,beV,Nat.mod_one]
 | k+1,m=>by
  rw [beB,ZhY,ZlX k]
  simp only [List.length_singleton,Nat.pow_one,beV,List.foldl_cons,List.foldl_nil,stepB,Nat.zero_mul,Nat.zero_add,Zft]
  rw [Nat.pow_succ,Nat.mul_comm (256 ^ k) 256,Nat.mod_mul]
  rw [Nat.mul_comm,Nat.add_comm]
theorem ZeB {n k:Nat} (h:n < 2 ^ k) (hk:k≤8192):n < BIG:=by
 unfold BIG
 exact Nat.lt_of_lt_of_le h (Nat.pow_le_pow_right (by decide) hk)
theorem ZfU {n k:Nat} (h:n < 256 ^ k) (hk:k≤1024):n < BIG:=by
 apply ZeB (k:=8*k) _ (by lia)
 rw [Nat.pow_mul];exact h
theorem Zdf {b:List UInt8} {i:Nat} (h:i < b.length):index (.bytes b) (.int i) = .ok (.int (b[i].toNat:Nat)):=by
 rw [Zpu,Zji h,atB_ok h]
theorem b_shl8 {n:Nat} (h:n < BIG):binop .LShift (.int n) (.int 8) = .ok (.int (n*256:Nat)):=by
 rw [ZeE (by decide) (by decide) (by simpa using h)];rfl
theorem ZeV (i:Nat):((i:Int)+1)=((i+1:Nat):Int):=rfl
theorem ZpA (n:Nat) (u:UInt8):n*256 ||| u.toNat=stepB n u:=by
 have:=u.toNat_lt
 rw [stepB,show (256:Nat)=2 ^ 8 from rfl,Nat.mul_comm,Nat.two_pow_add_eq_or_of_lt this]
theorem ZnP {n j:Nat} {u:UInt8} (h:n < 256 ^ j):stepB n u < 256 ^ (j+1):=by
 have:=u.toNat_lt
 simp only [stepB,Nat.pow_succ];lia
theorem Ziz {α} (xs:List α) (i:Nat):cut xs i i = []:=by simp [cut]
theorem ZgK {α} (xs:List α) {i hi:Nat} (h:i < hi) (h2:hi≤xs.length):cut xs i hi=xs[i]::cut xs (i+1) hi:=by
 unfold cut
 rw [List.drop_eq_getElem_cons (by exact Nat.lt_of_lt_of_le (by assumption) (by assumption))]
 rw [show hi - i=(hi - (i+1))+1 by lia,List.take_succ_cons]
theorem Zgq {α} (xs:List α) {i hi:Nat} (h2:hi≤xs.length):(cut xs i hi).length=hi - i:=by
 simp [cut];lia
theorem Zgr {α} (xs:List α) {i j k:Nat} (h:i≤j) (h2:j≤k):cut xs i j++cut xs j k=cut xs i k:=by
 unfold cut
 have e:k - i=(j - i)+(k - j):=by lia
 rw [e,List.take_add,List.drop_drop,show i+(j - i)=j by lia]
theorem ZpB {α} (xs:List α):cut xs 0 xs.length=xs:=by simp [cut]
variable {T:Text} {r:Nat}
theorem Zjl (data:List UInt8) (lo hi:Nat) (hhi:hi≤data.length) (s5 s6 s7:Slot):∀d i n j,i+d=hi→n < 256 ^ j→j+d≤1024 →
  W T r Zbu Zcv [.val (.bytes data),.val (.int lo),.val (.int hi),.val (.int (n:Nat)),.val (.int (i:Nat)),s5,s6,s7] =
   .ok (.next,[.val (.bytes data),.val (.int lo),.val (.int hi),.val (.int ((cut data i hi).foldl stepB n:Nat)),.val (.int hi),s5,s6,s7]):=by
 intro d
 induction d with
 | zero=>
  intro i n j hi' hn hj
  have e:i=hi:=by assumption
  subst e
  rw [V_eq]
  simp only [Zbu,Zp,Zr,Za,c_lt,Zd,whK_f,Ze,Zf,Zb,zc11,Int.lt_irrefl,Ziz,List.foldl_nil]
 | succ d ih=>
  intro i n j hi' hn hj
  rw [V_eq]
  have h1:((i:Nat):Int) < hi:=by lia
  have h2:i < data.length:=by lia
  simp only [Zbu,Zcv,X_k,Zp,ZB,Zx,Zr,Zu,Zz,Zep,ZK,Za,Zae,c_lt,Zd,Zg,ZaT,ZeI,Ze,Zf,Zk,Zl,Zb,Zq,ZQ,zc10,h1,Zdf h2,b_shl8 (ZfU hn (by lia)),b_or,ZpA,ZeV]
  have:=ih (i+1) (stepB n data[i]) (j+1) (by lia) (ZnP hn) (by lia)
  simp only [Zbu,Zcv] at this
  rw [this]
  rw [ZgK data (i:=i) (hi:=hi) (by exact Int.ofNat_lt.mp (by assumption)) hhi]
  rfl
theorem ZjU (B:Base T) (data:List UInt8):∀k lo hi r,lo≤hi→hi≤data.length→hi - lo≤32*2 ^ k→hi - lo≤1000 →
  CL T (r+k+1) 0 [.bytes data,.int (lo:Nat),.int (hi:Nat)] = .ok (.int (beV (cut data lo hi):Nat)):=by
 intro k
 induction k with
 | zero=>
  intro lo hi r h1 h2 h3 h4
  rw [ZJ B.f0 rfl (by decide)]
  have h5:(hi:Int) - lo≤32:=by lia
  simp only [ZdX,X_k,Zp,ZB,Zr,Zz,Zt,ZbF,Za,ZaC,c_le,Zd,Zg,ZG,Ze,Zf,Zk,Zl,Zb,Zq,zc6,zc7,zc8,zc9,zc10,zc16,zc17,h5]
  rw [show (0:Int)=((0:Nat):Int) from rfl,Zjl data lo hi h2 _ _ _ (hi - lo) lo 0 0 (by lia) (by decide) (by lia)]
  simp only [Zp,ZD,ZE,Zh,Zo,Ze,Zf,Zb]
  rfl
 | succ k ih=>
  intro lo hi r h1 h2 h3 h4
  rw [ZJ B.f0 rfl (by decide)]
  by_cases h5:(hi:Int) - lo≤32
  ·simp only [ZdX,X_k,Zp,ZB,Zr,Zz,Zt,ZbF,Za,ZaC,c_le,Zd,Zg,ZG,Ze,Zf,Zk,Zl,Zb,Zq,zc6,zc7,zc8,zc9,zc10,zc16,zc17,h5]
   rw [show (0:Int)=((0:Nat):Int) from rfl,Zjl data lo hi h2 _ _ _ (hi - lo) lo 0 0 (by lia) (by decide) (by lia)]
   simp only [Zp,ZD,ZE,Zh,Zo,Ze,Zf,Zb]
   rfl
  ·have e:((lo:Int)+hi) / 2=(((lo+hi) / 2:Nat):Int):=by rfl
   have hp:32*2 ^ (k+1)=2*(32*2 ^ k):=by rw [Nat.pow_succ];lia
   have hm:=ih lo ((lo+hi) / 2) r (by lia) (by lia) (by lia) (by lia)
   have hm2:=ih ((lo+hi) / 2) hi r (by lia) (by assumption) (by lia) (by lia)
   have e2:(8:Int)*((hi:Int) - ((lo+hi) / 2:Nat))=((8*(hi - (lo+hi) / 2):Nat):Int):=by lia
   have hb:beV (cut data lo ((lo+hi) / 2)) < BIG:=ZfU (Zpe _) (by rw [Zgq _ (by lia)];lia)
   simp (disch:=first | decide | assumption | lia) only [ZdX,X_k,Zp,ZB,Zs,Zi,Zc,Zr,Zu,ZD,Zz,Zt,Za,Zae,ZaC,c_le,Zd,Zg,Zy,Zj,Ze,Zf,Zk,Zl,Zb,Zq,zc6,zc7,zc8,zc9,zc11,zc16,zc17,h5,Zgo,e,show r+(k+1)=r+k+1 from rfl,hm,hm2,ZeR,e2]
   rw [ZeE (by exact Int.natCast_nonneg _) (by lia) (by simpa using hb)]
   simp only [Int.toNat_natCast]
   have e3:((beV (cut data lo ((lo+hi) / 2)):Nat):Int)*2 ^ (8*(hi - (lo+hi) / 2))=((2 ^ (8*(hi - (lo+hi) / 2))*beV (cut data lo ((lo+hi) / 2)):Nat):Int):=by
    rw [Int.natCast_mul,Int.mul_comm];simp
   rw [e3,Zd,b_or]
   simp only [Zh,Zo,Zb]
   have hl:beV (cut data ((lo+hi) / 2) hi) < 2 ^ (8*(hi - (lo+hi) / 2)):=by
    have:=Zpe (cut data ((lo+hi) / 2) hi)
    rw [Zgq _ h2] at this
    rw [Nat.pow_mul];exact this
   rw [←Nat.two_pow_add_eq_or_of_lt hl,←Zgr data (i:=lo) (j:=(lo+hi) / 2) (k:=hi) (by lia) (by lia),ZhY,Zgq _ h2,Nat.mul_comm,Nat.pow_mul]
end DK.Internal.B
end
section
set_option backward.match.sparseCases false
set_option genSizeOf false
set_option genCtorIdx false
namespace DK.Internal.B
open PySem
noncomputable def uD (u:UInt8):D:= .int (u.toNat:Nat)
theorem ZlY:∀b a m,beB (a+b) m=beB a (m / 256 ^ b)++beB b (m % 256 ^ b)
 | 0,a,m=>by simp [beB]
 | b+1,a,m=>by
  show beB (a+b+1) m=_
  rw [beB,beB,ZlY b a,Nat.div_div_eq_div_mul,←Nat.pow_succ',List.append_assoc]
  rw [Nat.pow_succ',Nat.mod_mul_right_div_self,Nat.mod_mul_right_mod]
theorem and255 (m:Nat):m &&& 255=m % 256:=Nat.and_two_pow_sub_one_eq_mod m 8
theorem and127 (m:Nat):m &&& 127=m % 128:=Nat.and_two_pow_sub_one_eq_mod m 7
theorem ZnQ (m:Nat):binop .BitAnd (.int m) (.int 255) = .ok (.int (m % 256:Nat)):=by
 rw [←and255];exact ZlR m 255
theorem ZbS (m:Nat):binop .BitAnd (.int m) (.int 127) = .ok (.int (m % 128:Nat)):=by
 rw [←and127];exact ZlR m 127
theorem Zkv (m:Nat):binop .RShift (.int m) (.int 8) = .ok (.int (m / 256:Nat)):=by
 rw [b_shr (by decide)];rfl
theorem Zkw {α}:∀(l:List α) (j:Nat) (x:α),j < l.length→(l.set j x).drop j=x::l.drop (j+1)
 | a::l,0,x,_=>rfl
 | a::l,j+1,x,h=>by simpa using Zkw l j x (by simpa using h)
theorem ZnR (k:Nat):(List.replicate k [D.int 0]).flatten=List.replicate k (D.int 0):=by
 induction k with
 | zero=>rfl
 | succ k ih=>simp [List.replicate_succ,ih]
theorem b_rep {k:Nat} (h:k≤1000):binop .Mult (.list [.int 0]) (.int k) = .ok (.list (List.replicate k (.int 0))):=by
 have h2:0≤(k:Int)∧([D.int 0].length*(k:Int).toNat≤SZ)∧(k:Int)≤SZ:=by
  simp [SZ];lia
 refine (if_pos h2).trans ?_
 rw [Int.toNat_natCast,ZnR]
theorem Zla (b:List UInt8):bytesOf (b.map uD)=some b:=by
 induction b with
 | nil=>rfl
 | cons u us ih=>
  have h:(0:Int)≤(u.toNat:Nat)∧((u.toNat:Nat):Int) < 256:=by have:=u.toNat_lt;lia
  refine (ZeS h ih).trans ?_
  simp
theorem Zfc (b:List UInt8):builtin .bytes [.list (b.map uD)] = .ok (.bytes b):=by
 exact Zix (Zla b)
variable {T:Text} {r:Nat}
theorem ZpC (s1 s2 s5 s6:Slot):∀(j m:Nat) (tmp:List D),j≤tmp.length →
  W T r ZaD ZaY [.val (.int (m:Nat)),s1,s2,.own tmp,.val (.int ((j:Nat) - 1:Int)),s5,s6] =
   .ok (.next,[.val (.int (m / 256 ^ j:Nat)),s1,s2,.own ((beB j m).map uD++tmp.drop j),.val (.int (-1)),s5,s6]):=by
 intro j
 induction j with
 | zero=>
  intro m tmp h
  rw [V_eq]
  simp only [ZaD,X_k,Zp,Zr,Za,c_ge,Zd,whK_f,Ze,Zf,Zb,zc7,zc9,zc11,show ((0:Nat):Int) - 1 = -1 from rfl,show ¬((-1:Int)≥0) by decide,beB,List.drop_zero,Nat.pow_zero,Nat.div_one]
 | succ j ih=>
  intro m tmp h
  rw [V_eq]
  generalize W T r ZaD ZaY=w at ih ⊢
  have e:((j+1:Nat):Int) - 1=(j:Nat):=by simp
  have h3:=ih (m / 256) (tmp.set j (.int (m % 256:Nat))) (by simp;exact Nat.le_of_lt (by assumption))
  simp (disch:=first | decide | assumption | lia) only [ZaD,ZaY,X_k,Zp,ZB,Zr,Zu,Zz,Zep,Z_sub,ZK,Za,ZaC,c_ge,Zd,Zg,ZaT,Zpo,Zdc,Ze,Zf,Zk,Zl,ZdJ,ZdK,Zb,Zq,ZQ,e,ZnQ,Int.toNat_natCast,Zkv,h3]
  rw [Zkw _ _ _ (by assumption),Nat.div_div_eq_div_mul,←Nat.pow_succ']
  simp only [beB,List.map_append,List.map_cons,List.map_nil,uD,Zft,List.append_assoc,List.singleton_append]
theorem back3 (c1 c2:C) (a b:Slot) (ys:List D) (sl:List Slot):back (.val c1 (.val c2 (.own 2 .nil))) [a,b,.own ys] sl = .ok (setV sl 2 (.own ys)):=rfl
theorem ZpD (B:Base T):∀q (m k:Nat) (out:List D) r,k≤32*2 ^ q→k≤1000→out.length+k≤1000→m < BIG →
  ∃a b,CX T (r+q+1) 1 [.val (.int (m:Nat)),.val (.int (k:Nat)),.own out] = .ok [a,b,.own (out++(beB k m).map uD)]:=by
 have hbase:∀(m k:Nat) (out:List D) r,k≤32→out.length+k≤1000 →
   ∃a b,CX T (r+1) 1 [.val (.int (m:Nat)),.val (.int (k:Nat)),.own out] = .ok [a,b,.own (out++(beB k m).map uD)]:=by
  intro m k out r h1 h3
  have h5:(k:Int)≤32:=by exact Int.ofNat_le.mpr (by assumption)
  have hl:=ZpC (T:=T) (r:=r) (.val (.int (k:Nat))) (.own out) .un .un k m (List.replicate k (.int 0)) (by simp)
  have hs:out.length+((beB k m).map uD).length≤1000000:=by rw [List.length_map,Zej];exact Nat.le_trans (by assumption) (by decide)
  refine ⟨.val (.int (m / 256 ^ k:Nat)),.val (.int (k:Nat)),?_⟩
  ·rw [CX_eq B.f1 rfl (by decide)]
   simp (disch:=first | decide | assumption | lia) only [Zdn,X_k,Zp,ZB,Zac,Zi,Zc,Zr,ZD,Zz,ZhH,Zt,ZbF,ZfM,Z_ext,ZE,Za,ZaC,c_le,ZgJ,Zd,Zo,Zg,Zeb,ZP,ZW,Zj,Ze,Zf,Zk,Zl,ZdJ,ZdK,ZfS,ZfT,Zik,Zb,Zq,zc8,zc9,zc16,b_rep,hl,List.drop_replicate,Nat.sub_self,List.replicate_zero,List.append_nil,Zpm hs,List.take]
 intro q
 induction q with
 | zero=>
  intro m k out r h1 h2 h3 hm
  exact hbase m k out r (by assumption) h3
 | succ q ih=>
  intro m k out r h1 h2 h3 hm
  by_cases h5:(k:Int)≤32
  ·exact hbase m k out (r+(q+1)) (by exact Int.ofNat_le.mp (by assumption)) h3
  ·have hp:32*2 ^ (q+1)=2*(32*2 ^ q):=by rw [Nat.pow_succ];lia
   have e:(k:Int) / 2=((k / 2:Nat):Int):=by rfl
   have e1:(k:Int) - (k / 2:Nat)=((k - k / 2:Nat):Int):=by lia
   have e2:(8:Int)*((k / 2:Nat):Int)=((8*(k / 2):Nat):Int):=by rfl
   have e4:((m:Nat):Int) / 2 ^ (8*(k / 2))=((m / 256 ^ (k / 2):Nat):Int):=by
    rw [show (256:Nat)=2 ^ 8 from rfl,←Nat.pow_mul];simp
   have e5:(1:Int)*2 ^ (8*(k / 2)) - 1=((2 ^ (8*(k / 2)) - 1:Nat):Int):=by
    have:0 < 2 ^ (8*(k / 2)):=Nat.pow_pos (by decide)
    rw [Int.natCast_sub (by assumption)];simp
   have e6:2 ^ (8*(k / 2))=256 ^ (k / 2):=by rw [Nat.pow_mul]
   have e7:m &&& (2 ^ (8*(k / 2)) - 1)=m % 256 ^ (k / 2):=by rw [Nat.and_two_pow_sub_one_eq_mod,e6]
   have hone:(1:Int).natAbs < BIG:=ZeB (k:=1) (by decide) (by decide)
   obtain ⟨a1,b1,hc1⟩:=ih (m / 256 ^ (k / 2)) (k - k / 2) out r (by lia) (by lia) (by lia) (Nat.lt_of_le_of_lt (Nat.div_le_self _ _) hm)
   obtain ⟨a2,b2,hc2⟩:=ih (m % 256 ^ (k / 2)) (k / 2) (out++(beB (k - k / 2) (m / 256 ^ (k / 2))).map uD) r (by lia) (by lia) (by
    simp [Zej];lia) (Nat.lt_of_le_of_lt (Nat.mod_le _ _) hm)
   refine ⟨.val (.int (m:Nat)),.val (.int (k:Nat)),?_⟩
   ·rw [CX_eq B.f1 rfl (by decide)]
    simp (disch:=first | decide | assumption | lia) only [Zdn,X_k,Zp,ZB,Zr,Zu,Zz,Zt,Za,ZaC,c_le,Zd,Zg,ZA,Ze,Zf,Zk,Zl,Zb,Zq,zc8,zc9,zc16,zc17,Zgo,e,e1,show r+(q+1)=r+q+1 from rfl]
    rw [ZgV _ _ _ _ (by decide)]
    simp (disch:=first | decide | assumption | lia) only [X_k,Zp,ZB,Zja,Zjb,Zjc,Out.ok_bind,Zd,arK_,arO_,Ze,Zf,Zk,Zl,ZdJ,ZdK,ZeR,e2,b_shr,Int.toNat_natCast,e4,hc1,back3]
    rw [ZgV _ _ _ _ (by decide)]
    simp (disch:=first | decide | assumption | lia) only [X_k,Zp,ZB,Zu,Zja,Zjb,Zjc,Out.ok_bind,ZaC,Zhe,Zd,arK_,arO_,Ze,Zf,Zk,Zl,ZdJ,ZdK,Zik,Zb,ZQ,ZeR,e2,ZeE,Int.toNat_natCast,e5,ZlR,e7,hc2,back3,List.take]
    rw [List.append_assoc,←List.map_append,←ZlY,show k - k / 2+k / 2=k by lia]
theorem ZiA (B:Base T) {m k:Nat} (hk:k≤1000) (hm:m < BIG):CL T (r+8) 2 [.int (m:Nat),.int (k:Nat)] = .ok (.bytes (beB k m)):=by
 rw [ZJ B.f2 rfl (by decide)]
 obtain ⟨a,b,hc⟩:=ZpD B 5 m k [] (r+1) (by exact Nat.le_trans (by assumption) (by decide)) hk (by simpa using hk) hm
 simp only [ZhA,Zac,Zi,ZhH,Zeb,ZW,Zk,Zl,Zb,Zq,zc6,zc7,zc8,zc9,zc16,zc17]
 rw [show r+7=r+6+1 from rfl,ZgV _ _ _ _ (by decide)]
 simp only [Zp,P_bi,Zi,Zc,ZD,ZfM,Zja,Zjb,Zjc,Out.ok_bind,Zh,Zd,Zo,Zj,arK_,arO_,Ze,Zf,Zk,Zl,ZdJ,ZdK,ZfS,ZfT,Zb,zc9,show r+6+1=r+1+5+1 from rfl,hc,back3,Zfc]
end DK.Internal.B
end
section
set_option backward.match.sparseCases false
set_option genSizeOf false
set_option genCtorIdx false
namespace DK.Internal.B
open PySem
noncomputable def lenB (n:Nat):List UInt8:=if n < 128 then [UInt8.ofNat n] else if n < 256 then [129,UInt8.ofNat n] else [130,UInt8.ofNat (n / 256),UInt8.ofNat n]
theorem Zan (pre suf:List UInt8) (u:UInt8) {i:Int} (h:i=(pre.length:Nat)):index (.bytes (pre++u::suf)) (.int i) = .ok (.int (u.toNat:Nat)):=by
 subst h
 rw [Zdf (by simp)]
 simp
theorem ZbM (xs:List UInt8) {a b:Int} (i j:Nat) (h1:a=(i:Nat)) (h2:b=((i+j:Nat):Int)):slice (.bytes xs) (.int a) (.int b) = .ok (.bytes ((xs.drop i).take j)):=by
 subst h1;subst h2
 rw [ZlS,Ziy,Ziy]
 refine congrArg (fun l=>Out.ok (D.bytes l)) ?_
 unfold cut
 rcases Nat.le_total i xs.length with h | h
 ·rw [Nat.min_eq_left h]
  rcases Nat.le_total (i+j) xs.length with h2 | h2
  ·rw [Nat.min_eq_left h2,Nat.add_sub_cancel_left]
  ·rw [Nat.min_eq_right h2,List.take_of_length_le (Nat.le_of_eq List.length_drop),List.take_of_length_le (List.length_drop ▸ Nat.sub_le_iff_le_add'.mpr h2)]
 ·rw [Nat.min_eq_right h,List.drop_of_length_le h,List.drop_length,List.take_nil,List.take_nil]
theorem Zhh (pre m suf:List UInt8) (i j:Nat) (h1:i=pre.length) (h2:j=m.length):((pre++(m++suf)).drop i).take j=m:=by
 subst h1;subst h2;simp
theorem Zjm {n:Nat} (h:n < 256):builtin .bytes [.list [.int (n:Nat)]] = .ok (.bytes [UInt8.ofNat n]):=by
 have h2:(0:Int)≤(n:Nat)∧((n:Nat):Int) < 256:=by lia
 exact (Zix (ZeS h2 rfl)).trans (by simp)
theorem Zaa {n:Nat} (h:n < 256):(UInt8.ofNat n).toNat=n:=by simp;assumption
theorem Zhi (n:Nat):UInt8.ofNat (n % 256)=UInt8.ofNat n:=by
 apply UInt8.toNat_inj.mp;simp
variable {T:Text} {r:Nat}
theorem ZO (B:Base T) {n:Nat} (h:n < 65536):CL T (r+9) 3 [.int (n:Nat)] = .ok (.bytes (lenB n)):=by
 rw [ZJ B.f3 rfl (by decide)]
 by_cases h1:n < 128
 ·simp (disch:=first | decide | assumption | lia) only [ZcZ,X_k,Zp,Zac,P_bi,Zi,Zc,Zr,Zu,ZD,Zt,Za,c_lt,Zh,Zd,Zo,ZP,ZA,ZW,Zj,Ze,Zb,Zq,zc6,zc7,zc8,zc9,zc16,zc17,Zjm]
  rw [lenB,if_pos h1]
 ·by_cases h2:n < 256
  ·have hw:W T (r+8) ZL ZM [.val (.int (n:Nat)),.val (.int 0),.val (.int (n:Nat)),.un] = .ok (.next,[.val (.int (n:Nat)),.val (.int 1),.val (.int 0),.un]):=by
    rw [V_eq]
    generalize hg:W T (r+8) ZL ZM=w
    have e:n / 256=0:=by lia
    simp (disch:=first | decide | assumption | lia) only [ZL,ZM,X_k,Zp,ZB,Zr,Zu,Zz,Zep,ZK,Za,Zae,c_gt,Zd,Zg,ZaT,Zdc,Ze,Zf,Zk,Zl,Zb,Zq,ZQ,Zkv,e]
    rw [←hg,V_eq]
    generalize hg:W T (r+8) ZL ZM=w
    simp (disch:=first | decide | assumption | lia) only [ZL,ZM,X_k,Zp,Zr,Za,c_gt,Zd,Zei,Ze,Zf,Zb]
    rfl
   have hb:=ZiA B (r:=r) (m:=n) (k:=1) (by exact Nat.succ_pos _) (ZeB (k:=16) (by assumption) (by exact Nat.le_add_left _ _))
   have e2:((128:Nat) ||| 1)=129:=by decide
   simp (disch:=first | decide | assumption | lia) only [ZcZ,X_k,Zp,ZB,Zac,P_bi,Zs,Zi,Zc,Zr,Zu,ZD,Zz,Zt,ZbF,ZE,Za,c_lt,Zn,Zd,Zg,ZA,ZW,Zj,Ze,Zf,Zk,Zl,Zb,Zq,zc6,zc7,zc8,zc9,zc16,zc17,hw,show (1:Int)=((1:Nat):Int) from rfl,hb,show (128:Int)=((128:Nat):Int) from rfl,b_or,Zej,e2,Zjm]
   rw [ZdL (by simp [beB,SZ])]
   simp only [Zh,Zo,Zb,zc8,zc9]
   rw [lenB,if_neg h1,if_pos h2]
   simp [beB,Zhi]
  ·have hw:W T (r+8) ZL ZM [.val (.int (n:Nat)),.val (.int 0),.val (.int (n:Nat)),.un] = .ok (.next,[.val (.int (n:Nat)),.val (.int 2),.val (.int 0),.un]):=by
    rw [V_eq]
    generalize hg:W T (r+8) ZL ZM=w
    have e:n / 256 / 256=0:=by lia
    simp (disch:=first | decide | assumption | lia) only [ZL,ZM,X_k,Zp,ZB,Zr,Zu,Zz,Zep,ZK,Za,Zae,c_gt,Zd,Zg,ZaT,Zdc,Ze,Zf,Zk,Zl,Zb,Zq,ZQ,Zkv]
    rw [←hg,V_eq]
    generalize hg:W T (r+8) ZL ZM=w
    simp (disch:=first | decide | assumption | lia) only [ZL,ZM,X_k,Zp,ZB,Zr,Zu,Zz,Zep,ZK,Za,Zae,c_gt,Zd,Zg,ZaT,Zdc,Ze,Zf,Zk,Zl,Zb,Zq,ZQ,Zkv,e]
    rw [←hg,V_eq]
    generalize hg:W T (r+8) ZL ZM=w
    simp (disch:=first | decide | assumption | lia) only [ZL,ZM,X_k,Zp,Zr,Za,c_gt,Zd,Zei,Ze,Zf,Zb]
    rfl
   have hb:=ZiA B (r:=r) (m:=n) (k:=2) (by exact Nat.le_add_left _ _) (ZeB (k:=16) (by assumption) (by exact Nat.le_add_left _ _))
   have e2:((128:Nat) ||| 2)=130:=by decide
   simp (disch:=first | decide | assumption | lia) only [ZcZ,X_k,Zp,ZB,Zac,P_bi,Zs,Zi,Zc,Zr,Zu,ZD,Zz,Zt,ZbF,ZE,Za,c_lt,Zn,Zd,Zg,ZA,ZW,Zj,Ze,Zf,Zk,Zl,Zb,Zq,zc6,zc7,zc8,zc9,zc16,zc17,hw,show (2:Int)=((2:Nat):Int) from rfl,hb,show (128:Int)=((128:Nat):Int) from rfl,b_or,Zej,e2,Zjm]
   rw [ZdL (by simp [beB,SZ])]
   simp only [Zh,Zo,Zb,zc8,zc9]
   rw [lenB,if_neg h1,if_neg h2]
   simp [beB,Zhi]
theorem Zee (B:Base T) {n:Nat} (h:n < 65536) (pre suf:List UInt8) {at':Int} (ha:at'=(pre.length:Nat)) :
  CL T (r+10) 4 [.bytes (pre++(lenB n++suf)),.int at'] = .ok (.tuple [.int (n:Nat),.int (at' + ((lenB n).length:Nat))]):=by
 subst ha
 rw [ZJ B.f4 rfl (by decide)]
 have hw:=ZO B (r:=r) h
 have hm:=Zhh pre (lenB n) suf
 by_cases h1:n < 128
 ·have e:lenB n = [UInt8.ofNat n]:=by rw [lenB,if_pos h1]
  rw [e] at hw hm ⊢
  simp (disch:=first | lia | simp) only [ZaJ,X_k,Zp,ZB,Zx,ZZ,P_bi,Zi,Zc,Zr,Zu,ZD,Zz,Zt,Za,Zae,c_lt,c_ge,Zn,Zh,Zd,Zo,Zg,ZP,ZA,Zad,Zj,Ze,Zf,Zk,Zl,Zb,Zq,zc6,zc7,zc8,zc9,zc16,zc17,Zan,Zaa,List.length_append,List.length_cons]
  rfl
 ·by_cases h2:n < 256
  ·have e:lenB n = [129,UInt8.ofNat n]:=by rw [lenB,if_neg h1,if_pos h2]
   rw [e] at hw hm ⊢
   have e1:(129:UInt8).toNat % 128=1:=by decide
   have hv:beV (cut [UInt8.ofNat n] 0 1)=n:=by simp [cut,beV,stepB];assumption
   have hu:CL T (r+9) 0 [.bytes [UInt8.ofNat n],.int 0,.int ((1:Nat):Int)] = .ok (.int (n:Nat)):=by
    have:=ZjU B [UInt8.ofNat n] 0 0 1 (r+8) (by decide) (by simp) (by decide) (by decide)
    rw [hv] at this;exact this
   have hs:slice (.bytes (pre++(129::UInt8.ofNat n::suf))) (.int ((pre.length:Nat)+1)) (.int ((pre.length:Nat)+1+(1:Nat))) = .ok (.bytes [UInt8.ofNat n]):=by
    rw [ZbM _ (pre.length+1) 1 (by rfl) (by rfl)]
    rw [show pre++(129::UInt8.ofNat n::suf)=(pre ++ [129])++([UInt8.ofNat n]++suf) by simp]
    rw [Zhh (pre ++ [129]) [UInt8.ofNat n] suf (pre.length+1) 1 (by simp) rfl]
   have hs1:slice (.bytes (pre++(129::UInt8.ofNat n::suf))) (.int (pre.length:Nat)) (.int ((pre.length:Nat)+1+(1:Nat))) = .ok (.bytes [129,UInt8.ofNat n]):=by
    rw [ZbM _ pre.length 2 (by rfl) (by rfl)]
    simp
   simp (disch:=first | lia | simp) only [ZaJ,X_k,Zp,ZB,Zx,Zbk,ZZ,P_bi,Zs,Zi,Zc,R_or,Zr,Zu,ZD,Zz,Zt,Za,Zae,c_ne,c_lt,c_gt,c_ge,Zn,Zh,Zv,ZdM,Zd,Zap,Zo,Zg,Zy,ZA,Zdo,Zad,Zj,Ze,Zf,Zk,Zl,Zb,ZaF,Zq,zc4,zc6,zc7,zc8,zc9,zc10,zc16,zc17,Zan,ZbS,hs,hs1,hu,hw,List.length_append,List.length_cons,List.length_nil,Nat.zero_add,show (129:UInt8).toNat=129 from rfl]
   rfl
  ·have e:lenB n = [130,UInt8.ofNat (n / 256),UInt8.ofNat n]:=by rw [lenB,if_neg h1,if_neg h2]
   rw [e] at hw ⊢
   have e1:(130:UInt8).toNat % 128=2:=by decide
   have hv:beV (cut [UInt8.ofNat (n / 256),UInt8.ofNat n] 0 2)=n:=by simp [cut,beV,stepB];lia
   have hu:CL T (r+9) 0 [.bytes [UInt8.ofNat (n / 256),UInt8.ofNat n],.int 0,.int ((2:Nat):Int)] = .ok (.int (n:Nat)):=by
    have:=ZjU B [UInt8.ofNat (n / 256),UInt8.ofNat n] 0 0 2 (r+8) (by decide) (by simp) (by decide) (by decide)
    rw [hv] at this;exact this
   have hs:slice (.bytes (pre++(130::UInt8.ofNat (n / 256)::UInt8.ofNat n::suf))) (.int ((pre.length:Nat)+1)) (.int ((pre.length:Nat)+1+(2:Nat))) = .ok (.bytes [UInt8.ofNat (n / 256),UInt8.ofNat n]):=by
    rw [ZbM _ (pre.length+1) 2 (by rfl) (by rfl)]
    rw [show pre++(130::UInt8.ofNat (n / 256)::UInt8.ofNat n::suf)=(pre ++ [130])++([UInt8.ofNat (n / 256),UInt8.ofNat n]++suf) by simp]
    rw [Zhh (pre ++ [130]) [UInt8.ofNat (n / 256),UInt8.ofNat n] suf (pre.length+1) 2 (by simp) rfl]
   have hs1:slice (.bytes (pre++(130::UInt8.ofNat (n / 256)::UInt8.ofNat n::suf))) (.int (pre.length:Nat)) (.int ((pre.length:Nat)+1+(2:Nat))) = .ok (.bytes [130,UInt8.ofNat (n / 256),UInt8.ofNat n]):=by
    rw [ZbM _ pre.length 3 (by rfl) (by rfl)]
    simp
   simp (disch:=first | lia | simp) only [ZaJ,X_k,Zp,ZB,Zx,Zbk,ZZ,P_bi,Zs,Zi,Zc,R_or,Zr,Zu,ZD,Zz,Zt,Za,Zae,c_ne,c_lt,c_gt,c_ge,Zn,Zh,Zv,ZdM,Zd,Zap,Zo,Zg,Zy,ZA,Zdo,Zad,Zj,Ze,Zf,Zk,Zl,Zb,ZaF,Zq,zc4,zc6,zc7,zc8,zc9,zc10,zc16,zc17,Zan,ZbS,hs,hs1,hu,hw,List.length_append,List.length_cons,List.length_nil,Nat.zero_add,Nat.reduceAdd,show (130:UInt8).toNat=130 from rfl]
   rfl
theorem Zhj (B:Base T) {n j:Nat} (hj:j < (lenB n).length) (pre:List UInt8) {at':Int} (ha:at'=(pre.length:Nat)) :
  CL T (r+10) 4 [.bytes (pre++(lenB n).take j),.int at'] = .exc:=by
 subst ha
 rw [ZJ B.f4 rfl (by decide)]
 cases j with
 | zero=>
  simp (disch:=first | lia | simp) only [ZaJ,Zp,P_bi,Zi,Zc,Zr,Zt,ZgU,Za,c_ge,Zn,Zd,ZP,Zj,Ze,Zf,Zb,ZY,Zq,zc6,zc7,zc8,zc9,zc16,zc17,List.take_zero,List.append_nil]
 | succ j=>
  by_cases h1:n < 128
  ·rw [lenB,if_pos h1] at hj;simp at hj
  ·by_cases h2:n < 256
   ·have e:lenB n = [129,UInt8.ofNat n]:=by rw [lenB,if_neg h1,if_pos h2]
    rw [e] at hj ⊢
    have:j=0:=by simp at hj;lia
    subst this
    have e1:(129:UInt8).toNat % 128=1:=by decide
    have hs:slice (.bytes (pre ++ [129])) (.int ((pre.length:Nat)+1)) (.int ((pre.length:Nat)+1+(1:Nat))) = .ok (.bytes []):=by
     rw [ZbM _ (pre.length+1) 1 (by rfl) (by rfl)];simp
    simp (disch:=first | lia | simp) only [List.take_succ_cons,List.take_zero,ZaJ,X_k,Zp,ZB,Zx,Zbk,P_bi,Zi,Zc,R_or,Zr,Zu,Zz,Zt,ZgU,Za,Zae,c_ne,c_lt,c_gt,c_ge,Zn,Zv,Zd,Zap,Zg,ZA,ZfE,Zdo,Zj,Ze,Zf,Zk,Zl,Zb,ZY,ZaF,Zq,zc6,zc7,zc8,zc9,zc16,zc17,Zan,ZbS,hs,List.length_append,List.length_cons,List.length_nil,Nat.zero_add,show (129:UInt8).toNat=129 from rfl]
   ·have e:lenB n = [130,UInt8.ofNat (n / 256),UInt8.ofNat n]:=by rw [lenB,if_neg h1,if_neg h2]
    rw [e] at hj ⊢
    have:j=0∨j=1:=by simp at hj;lia
    have e1:(130:UInt8).toNat % 128=2:=by decide
    rcases this with this | this
    ·subst this
     have hs:slice (.bytes (pre ++ [130])) (.int ((pre.length:Nat)+1)) (.int ((pre.length:Nat)+1+(2:Nat))) = .ok (.bytes []):=by
      rw [ZbM _ (pre.length+1) 2 (by rfl) (by rfl)];simp
     simp (disch:=first | lia | simp) only [List.take_succ_cons,List.take_zero,ZaJ,X_k,Zp,ZB,Zx,Zbk,P_bi,Zi,Zc,R_or,Zr,Zu,Zz,Zt,ZgU,Za,Zae,c_ne,c_lt,c_gt,c_ge,Zn,Zv,Zd,Zap,Zg,ZA,ZfE,Zdo,Zj,Ze,Zf,Zk,Zl,Zb,ZY,ZaF,Zq,zc6,zc7,zc8,zc9,zc16,zc17,Zan,ZbS,hs,List.length_append,List.length_cons,List.length_nil,Nat.zero_add,show (130:UInt8).toNat=130 from rfl]
    ·subst this
     have hs:slice (.bytes (pre ++ [130,UInt8.ofNat (n / 256)])) (.int ((pre.length:Nat)+1)) (.int ((pre.length:Nat)+1+(2:Nat))) = .ok (.bytes [UInt8.ofNat (n / 256)]):=by
      rw [ZbM _ (pre.length+1) 2 (by rfl) (by rfl)]
      rw [show pre ++ [130,UInt8.ofNat (n / 256)]=(pre ++ [130])++([UInt8.ofNat (n / 256)] ++ []) by simp,List.drop_left' (by simp)]
      simp
     simp (disch:=first | lia | simp) only [List.take_succ_cons,List.take_zero,ZaJ,X_k,Zp,ZB,Zx,Zbk,P_bi,Zi,Zc,R_or,Zr,Zu,Zz,Zt,ZgU,Za,Zae,c_ne,c_lt,c_gt,c_ge,Zn,Zv,Zd,Zap,Zg,ZA,ZfE,Zdo,Zj,Ze,Zf,Zk,Zl,Zb,ZY,ZaF,Zq,zc6,zc7,zc8,zc9,zc16,zc17,Zan,ZbS,hs,List.length_append,List.length_cons,List.length_nil,Nat.zero_add,Nat.reduceAdd,show (130:UInt8).toNat=130 from rfl]
end DK.Internal.B
end
section
set_option backward.match.sparseCases false
set_option genSizeOf false
set_option genCtorIdx false
namespace DK.Internal.B
open PySem
noncomputable def arcH (n:Nat):List UInt8:=if n=0 then [] else arcH (n / 128) ++ [UInt8.ofNat (128+n % 128)]
termination_by n
decreasing_by lia
noncomputable def arcB (n:Nat):List UInt8:=arcH (n / 128) ++ [UInt8.ofNat (n % 128)]
noncomputable def stepA (n:Nat) (u:UInt8):Nat:=n*128+u.toNat % 128
theorem Zcu:arcH 0 = []:=by rw [arcH];rfl
theorem Zet {n:Nat} (h:n≠0):arcH n=arcH (n / 128) ++ [UInt8.ofNat (128+n % 128)]:=by
 rw [arcH,if_neg h]
theorem ZgL:∀n,∀u∈arcH n,128≤u.toNat:=by
 intro n
 induction n using Nat.strongRecOn with
 | ind n ih=>
  by_cases h:n=0
  ·subst h;rw [Zcu];simp
  ·rw [Zet h]
   intro u hu
   rcases List.mem_append.mp hu with h1 | h1
   ·exact ih _ (by lia) u h1
   ·simp only [List.mem_singleton] at h1;subst h1;rw [Zaa (by lia)];exact Nat.le_add_right _ _
theorem ZnS:∀n,(arcH n).foldl stepA 0=n:=by
 intro n
 induction n using Nat.strongRecOn with
 | ind n ih=>
  by_cases h:n=0
  ·subst h;rw [Zcu];rfl
  ·rw [Zet h,List.foldl_append,ih _ (by lia)]
   simp only [List.foldl_cons,List.foldl_nil,stepA]
   rw [Zaa (by lia)];lia
theorem ZiB (n:Nat):(arcB n).foldl stepA 0=n:=by
 rw [arcB,List.foldl_append,ZnS]
 simp only [List.foldl_cons,List.foldl_nil,stepA]
 rw [Zaa (by lia)];lia
theorem ZbT:∀j n,n < 128 ^ j→(arcH n).length≤j
 | 0,n,h=>by
  have:n=0:=by simpa using h
  subst this;rw [Zcu];simp
 | j+1,n,h=>by
  by_cases h0:n=0
  ·subst h0;rw [Zcu];simp
  ·rw [Zet h0]
   have:=ZbT j (n / 128) (by rw [Nat.pow_succ] at h;lia)
   simp;assumption
theorem ZlZ:∀n,∀u us,arcH n=u::us→u.toNat≠128:=by
 intro n
 induction n using Nat.strongRecOn with
 | ind n ih=>
  by_cases h:n=0
  ·subst h;rw [Zcu];intro u us h;cases h
  ·rw [Zet h]
   intro u us e
   cases h2:arcH (n / 128) with
   | nil=>
    rw [h2] at e
    simp only [List.nil_append,List.cons.injEq] at e
    rw [←e.1,Zaa (by lia)]
    have:n / 128=0:=by
     by_cases h3:n / 128=0
     ·exact h3
     ·rw [Zet h3] at h2;simp at h2
    lia
   | cons v vs=>
    rw [h2] at e
    simp only [List.cons_append,List.cons.injEq] at e
    rw [←e.1]
    exact ih _ (by lia) v vs h2
theorem Zhk (n:Nat) (u us) (e:arcB n=u::us):u.toNat≠128:=by
 rw [arcB] at e
 cases h2:arcH (n / 128) with
 | nil=>
  rw [h2] at e
  simp only [List.nil_append,List.cons.injEq] at e
  rw [←e.1,Zaa (by lia)];lia
 | cons v vs=>
  rw [h2] at e
  simp only [List.cons_append,List.cons.injEq] at e
  rw [←e.1]
  exact ZlZ _ v vs h2
noncomputable def lowB (n:Int):UInt8:=UInt8.ofNat (n % 256).toNat
theorem ZgM (n:Int):((lowB n).toNat:Int)=n % 256:=by
 unfold lowB;rw [Zaa (by lia)];lia
noncomputable def intB (n:Int):List UInt8:=if -128≤n∧n < 128 then [lowB n] else intB (n / 256) ++ [lowB n]
termination_by n.natAbs
decreasing_by omega
theorem ZdC {n:Int} (h : -128≤n∧n < 128):intB n = [lowB n]:=by rw [intB,if_pos h]
theorem Zfd {n:Int} (h:¬(-128≤n∧n < 128)):intB n=intB (n / 256) ++ [lowB n]:=by rw [intB,if_neg h]
theorem ZjV {p:Int→Prop} (h1:∀n,(-128≤n∧n < 128)→p n) (h2:∀n,¬(-128≤n∧n < 128)→p (n / 256)→p n):∀n,p n:=by
 have:∀k (n:Int),n.natAbs≤k→p n:=by
  intro k
  induction k with
  | zero=>intro n h;exact h1 n (by lia)
  | succ k ih=>
   intro n h
   by_cases h3 : -128≤n∧n < 128
   ·exact h1 n h3
   ·exact h2 n h3 (ih _ (by omega))
 intro n;exact this n.natAbs n (Nat.le_refl _)
theorem ZjW (n c:Int) (hc:0 < c):n % (256*c)=256*((n / 256) % c)+n % 256:=by
 have h1:=Int.mul_ediv_add_emod n 256
 have h2:=Int.mul_ediv_add_emod (n / 256) c
 have h3:=Int.emod_nonneg (n / 256) (by lia:c≠0)
 have h4:=Int.emod_lt_of_pos (n / 256) hc
 have h5:=Int.emod_nonneg n (by lia:(256:Int)≠0)
 have h6:=Int.emod_lt_of_pos n (by exact Int.natCast_nonneg _:(0:Int) < 256)
 generalize n / 256 / c=q at *
 generalize (n / 256) % c=t at *
 have e:n=256*t+n % 256+(256*c)*q:=by
  rw [Int.mul_assoc,Int.add_right_comm,←Int.mul_add]
  rw [Int.add_comm t,h2];lia
 conv=>lhs;rw [e]
 rw [Int.add_mul_emod_self_left]
 apply Int.emod_eq_of_lt<;>lia
theorem Zma:∀n:Int,intB n=beB (intB n).length (n % 256 ^ (intB n).length).toNat:=by
 apply ZjV
 ·intro n h
  rw [ZdC h]
  simp only [List.length_singleton,beB,List.nil_append,lowB,Int.pow_succ,Int.pow_zero,Int.one_mul]
  congr 2;lia
 ·intro n h ih
  rw [Zfd h]
  simp only [List.length_append,List.length_singleton,beB]
  have hc:(0:Int) < 256 ^ (intB (n / 256)).length:=Int.pow_pos (by decide)
  have e:=ZjW n _ hc
  have h3:=Int.emod_nonneg (n / 256) (by lia:(256:Int) ^ (intB (n / 256)).length≠0)
  rw [Int.pow_succ,Int.mul_comm,e]
  rw [show ((256*((n / 256) % 256 ^ (intB (n / 256)).length)+n % 256).toNat) / 256=((n / 256) % 256 ^ (intB (n / 256)).length).toNat by lia]
  rw [←ih]
  congr 2
  unfold lowB;congr 1;lia
theorem ZgN (n:Int):0 < (intB n).length:=by
 rw [intB];split<;>simp
noncomputable def fits (k:Nat) (n:Int):Prop:= -(128*256 ^ k)≤n∧n < 128*256 ^ k
theorem Zmb (k:Nat) (n:Int):fits (k+1) n↔fits k (n / 256):=by
 unfold fits
 rw [Int.pow_succ]
 generalize (256:Int) ^ k=c
 constructor<;>intro h<;>lia
theorem ZiC:∀k n,fits k n↔(intB n).length≤k+1:=by
 intro k
 induction k with
 | zero=>
  intro n
  by_cases h : -128≤n∧n < 128
  ·rw [ZdC h];simp [fits];assumption
  ·rw [Zfd h]
   have:=ZgN (n / 256)
   simp only [fits,Int.pow_zero,Int.mul_one,List.length_append,List.length_singleton]
   constructor<;>intro h'<;>lia
 | succ k ih=>
  intro n
  rw [Zmb,ih]
  by_cases h : -128≤n∧n < 128
  ·have h2 : -128≤n / 256∧n / 256 < 128:=by lia
   rw [ZdC h,ZdC h2];simp
  ·rw [Zfd h];simp
theorem Zmc:∀n:Int,(∃b,intB n = [b]∧(b.toNat:Int)=n % 256∧-128≤n∧n < 128) ∨
  ∃b c us,intB n=b::c::us∧¬(b.toNat=0∧c.toNat < 128)∧¬(b.toNat=255∧128≤c.toNat)∧(128≤b.toNat↔n < 0):=by
 apply ZjV
 ·intro n h
  exact .inl ⟨lowB n,ZdC h,ZgM n,h.1,h.2⟩
 ·intro n h ih
  right
  rcases ih with ⟨b,hb,h1,h2⟩ | ⟨b,c,us,hb,h1,h2,h3⟩
  ·refine ⟨b,lowB n,[],by rw [Zfd h,hb];rfl,?_,?_,?_⟩
   all_goals (have:=ZgM n;lia)
  ·refine ⟨b,c,us ++ [lowB n],by rw [Zfd h,hb];rfl,h1,h2,?_⟩
   rw [h3];lia
theorem Zhl (n:Int):fits ((intB n).length - 1) n:=by
 rw [ZiC];lia
theorem Zmd (n:Int):n=(beV (intB n):Int) - (if n < 0 then 256 ^ (intB n).length else 0):=by
 have h:=Zma n
 have hf:=Zhl n
 have hp:=ZgN n
 generalize hl:(intB n).length=k at *
 obtain ⟨k,rfl⟩:∃j,k=j+1:=⟨k - 1,by lia⟩
 have hc:(0:Int) < 256 ^ k:=Int.pow_pos (by decide)
 have hk:(256:Int) ^ (k+1)=256*256 ^ k:=by rw [Int.pow_succ,Int.mul_comm]
 rw [h,ZlX]
 unfold fits at hf
 rw [show k+1 - 1=k from rfl] at hf
 have hn:((256 ^ (k+1):Nat):Int)=256*256 ^ k:=by rw [Int.natCast_pow];exact hk
 have h0:=Int.emod_nonneg n (by rw [hk];lia:(256:Int) ^ (k+1)≠0)
 have hlt:=Int.emod_lt_of_pos n (by rw [hk];lia:(0:Int) < (256:Int) ^ (k+1))
 have e1:(((n % 256 ^ (k+1)).toNat % 256 ^ (k+1):Nat):Int)=n % 256 ^ (k+1):=by
  rw [Nat.mod_eq_of_lt (by lia)];lia
 rw [e1,hk]
 rw [hk] at h0 hlt
 generalize (256:Int) ^ k=c at *
 by_cases hneg:n < 0
 ·rw [if_pos hneg]
  have:n % (256*c)=n+256*c:=by
   rw [←Int.add_emod_right];apply Int.emod_eq_of_lt<;>lia
  lia
 ·rw [if_neg hneg]
  have:n % (256*c)=n:=by apply Int.emod_eq_of_lt<;>lia
  lia
end DK.Internal.B
end
section
set_option backward.match.sparseCases false
set_option genSizeOf false
set_option genCtorIdx false
namespace DK.Internal.B
open PySem
theorem b_shr7 (m:Nat):binop .RShift (.int m) (.int 7) = .ok (.int (m / 128:Nat)):=by
 rw [b_shr (by decide)];rfl
theorem Zjn {n:Nat} (h:n < BIG):binop .LShift (.int n) (.int 7) = .ok (.int (n*128:Nat)):=by
 rw [ZeE (by decide) (by decide) (by simpa using h)];rfl
theorem ZpE {m:Nat} (h:m < 128):binop .BitOr (.int m) (.int 128) = .ok (.int (128+m:Nat)):=by
 have:m ||| 128=128+m:=by
  rw [Nat.or_comm,show (128:Nat)=2 ^ 7*1 from rfl,←Nat.two_pow_add_eq_or_of_lt h]
 rw [←this];exact b_or m 128
theorem Zme (n:Nat) (u:UInt8):binop .BitOr (.int (n*128:Nat)) (.int (u.toNat % 128:Nat)) = .ok (.int (stepA n u:Nat)):=by
 rw [b_or,stepA,show (128:Nat)=2 ^ 7 from rfl,Nat.mul_comm,←Nat.two_pow_add_eq_or_of_lt (Nat.mod_lt _ (by decide))]
theorem ZbB {b:List D} {i:Nat} (h:i < b.length):index (.list b) (.int i) = .ok b[i]:=by
 rw [Zpv,Zji h,atL_ok h]
variable {T:Text} {r:Nat}
theorem ZnT (s2 s3:Slot):∀(j n:Nat) (out:List D),n < 128 ^ (j+1)→out.length+j≤1000 →
  ∃m,W T r ZaA ZaB [.val (.int (n:Nat)),.own out,s2,s3] =
   .ok (.next,[.val (.int m),.own (out++(arcH (n / 128)).reverse.map uD),s2,s3]):=by
 intro j
 induction j with
 | zero=>
  intro n out h h2
  refine ⟨n,?_⟩
  rw [V_eq]
  generalize W T r ZaA ZaB=w
  have e:n / 128=0:=by lia
  simp (disch:=first | decide | assumption | lia) only [ZaA,ZaB,X_k,Zp,Zr,Za,c_gt,Zd,Zei,Ze,Zb,zc7,e,Zcu,List.reverse_nil,List.append_nil]
 | succ j ih=>
  intro n out h h2
  by_cases hn:n < 128
  ·refine ⟨n,?_⟩
   rw [V_eq]
   generalize W T r ZaA ZaB=w
   have e:n / 128=0:=by lia
   simp (disch:=first | decide | assumption | lia) only [ZaA,ZaB,X_k,Zp,Zr,Za,c_gt,Zd,Zei,Ze,Zb,zc7,e,Zcu,List.reverse_nil,List.append_nil]
  ·obtain ⟨m,hm⟩:=ih (n / 128) (out ++ [.int (128+n / 128 % 128:Nat)]) (by rw [Nat.pow_succ] at h;lia) (by simp;lia)
   refine ⟨m,?_⟩
   rw [V_eq]
   generalize W T r ZaA ZaB=w at hm ⊢
   have hs:out.length < SZ:=by unfold SZ;lia
   simp (disch:=first | decide | assumption | lia) only [ZaA,ZaB,X_k,Zp,ZB,Zr,Zu,Zz,ZiY,ZK,Za,c_gt,Zd,Zg,ZeH,Zdc,Ze,Zk,Zl,ZdJ,ZdK,Zb,Zq,ZQ,b_shr7,ZbS,ZpE,hm]
   rw [Zet (by lia:n / 128≠0)]
   simp only [List.reverse_append,List.reverse_cons,List.reverse_nil,List.nil_append,List.singleton_append,List.map_cons,uD,List.append_assoc]
   rw [Zaa (by lia)]
theorem Zmf (n:D) (out:List D):∀(j:Nat) (res:List D),j≤out.length→res.length+j≤1000 →
  W T r Zbd Zbe [.val n,.val (.list out),.own res,.val (.int ((j:Nat) - 1:Int))] =
   .ok (.next,[.val n,.val (.list out),.own (res++(out.take j).reverse),.val (.int (-1))]):=by
 intro j
 induction j with
 | zero=>
  intro res h h2
  rw [V_eq]
  generalize W T r Zbd Zbe=w
  simp (disch:=first | decide | assumption | lia) only [Zbd,Zbe,X_k,Zp,Zr,Za,c_ge,Zd,Zei,Ze,Zf,Zb,List.take_zero,List.reverse_nil,List.append_nil,show ((0:Nat):Int) - 1 = -1 from rfl]
 | succ j ih=>
  intro res h h2
  have e:((j+1:Nat):Int) - 1=(j:Nat):=by simp
  have hm:=ih (res ++ [out[j]]) (by exact Nat.le_of_lt (by assumption)) (by simp;lia)
  rw [V_eq]
  generalize W T r Zbd Zbe=w at hm ⊢
  have hs:res.length < SZ:=by unfold SZ;lia
  simp (disch:=first | decide | assumption | lia) only [Zbd,Zbe,X_k,Zp,Zx,Zr,Zu,Zep,ZfM,ZiY,ZK,Za,ZaC,c_ge,Zd,Zg,ZaT,ZeH,Zdc,Ze,Zf,Zk,Zl,ZdJ,ZdK,Zhd,ZfT,Zb,Zq,ZQ,e,ZbB,hm]
  rw [List.take_succ_eq_append_getElem (by assumption),List.reverse_append]
  simp
theorem ZeW (B:Base T) {n j:Nat} (h:n < 128 ^ (j+1)) (hj:j≤900):CL T (r+1) 5 [.int (n:Nat)] = .ok (.bytes (arcB n)):=by
 rw [ZJ B.f5 rfl (by decide)]
 obtain ⟨m,hm⟩:=ZnT (T:=T) (r:=r) .un .un j n [.int (n % 128:Nat)] h (by simp;lia)
 have hl:=ZbT j (n / 128) (by rw [Nat.pow_succ] at h;lia)
 have h2:=Zmf (T:=T) (r:=r) (.int m) ([.int (n % 128:Nat)]++(arcH (n / 128)).reverse.map uD) ([D.int (n % 128:Nat)]++(arcH (n / 128)).reverse.map uD).length [] (by exact Nat.lt_succ_self _) (by simp;lia)
 simp only [zc8,zc9] at hm h2
 simp (disch:=first | decide | assumption | lia) only [ZhB,X_k,Zp,ZB,Zac,P_bi,Zi,Zc,ZD,Zz,ZhH,ZbF,ZfM,ZE,ZaC,ZaV,Zd,Zg,Zeb,ZW,Zj,Ze,Zf,Zk,Zl,ZfS,ZfT,Zb,Zq,zc6,zc7,zc8,zc9,zc16,zc17,ZbS,hm,h2]
 rw [List.take_length,show (D.int ((n % 128:Nat):Int))=uD (UInt8.ofNat (n % 128)) by unfold uD;rw [Zaa (by lia)]]
 rw [←List.map_cons,←List.map_reverse,Zfc]
 simp [arcB]
 rfl
theorem ZnU (n:Int) (s3:Slot):∀(j k:Nat),k+j+1=(intB n).length→(intB n).length≤1000 →
  W T r ZaM ZaN [.val (.int n),.val (.int ((k+1:Nat):Int)),.val (.int (128*256 ^ k)),s3] =
   .ok (.next,[.val (.int n),.val (.int ((intB n).length:Nat)),.val (.int (128*256 ^ ((intB n).length - 1))),s3]):=by
 intro j
 induction j with
 | zero=>
  intro k hk hl
  have hf:=Zhl n
  rw [V_eq]
  generalize W T r ZaM ZaN=w
  have e:(intB n).length - 1=k:=by lia
  rw [e] at hf ⊢
  have h1:=hf.1
  have h2:=hf.2
  simp (disch:=first | decide | assumption | lia) only [ZaM,ZaN,Zp,ZhG,Zfi,Zaw,Zr,ZcX,Za,c_lt,c_le,Zd,whK_f,Zgz,Zdp,Ze,Zf,Zb,zc4,zc10,h1,h2]
  rw [←hk]
 | succ j ih=>
  intro k hk hl
  have hf:¬fits k n:=by rw [ZiC];lia
  have hm:=ih (k+1) (by lia) hl
  rw [V_eq]
  generalize W T r ZaM ZaN=w at hm ⊢
  have hb:(128*256 ^ k:Int).natAbs < BIG:=by
   have:(128*256 ^ k:Int).natAbs=128*256 ^ k:=by rw [show (128*256 ^ k:Int)=((128*256 ^ k:Nat):Int) by simp];exact Int.natAbs_natCast _
   rw [this]
   apply ZfU (k:=k+1) _ (by lia)
   rw [Nat.pow_succ]
   have:0 < 256 ^ k:=Nat.pow_pos (by decide)
   lia
  have e:(128*256 ^ k:Int)*2 ^ (8:Int).toNat=128*256 ^ (k+1):=by
   rw [Int.pow_succ,Int.mul_assoc,show (2:Int) ^ (8:Int).toNat=256 by decide]
  have e2:(((k+1:Nat):Int)+1)=((k+1+1:Nat):Int):=rfl
  unfold fits at hf
  by_cases h1 : -(128*256 ^ k)≤n
  ·have h2:¬(n < 128*256 ^ k):=fun h=>hf ⟨h1,h⟩
   simp (disch:=first | decide | assumption | lia) only [ZaM,ZaN,X_k,Zp,ZB,ZhG,Zfi,Zaw,Zr,Zu,Zz,Zep,ZK,ZcX,Za,Zae,c_lt,c_le,Zd,Zg,ZaT,ZeI,Zgz,Zdp,Ze,Zf,Zk,Zl,Zb,Zq,ZQ,zc5,zc10,zc11,h1,h2,ZeE,e,e2,hm]
  ·simp (disch:=first | decide | assumption | lia) only [ZaM,ZaN,X_k,Zp,ZB,ZhG,Zfi,Zaw,Zr,Zu,Zz,Zep,ZK,ZcX,Za,Zae,c_le,Zd,Zg,ZaT,ZeI,ZdV,Zdp,Ze,Zf,Zk,Zl,Zb,Zq,ZQ,zc5,zc11,h1,ZeE,e,e2,hm]
theorem ZgB (B:Base T) (n:Int) (hl:(intB n).length≤1000):CL T (r+9) 6 [.int n] = .ok (.bytes (intB n)):=by
 rw [ZJ B.f6 rfl (by decide)]
 have hp:=ZgN n
 have hm:=ZnU (T:=T) (r:=r+8) n .un ((intB n).length - 1) 0 (by lia) hl
 have hbe:=Zma n
 have hf:=Zhl n
 generalize hk:(intB n).length=K at *
 simp only [Int.pow_zero,Int.mul_one,show ((0+1:Nat):Int)=1 from rfl] at hm
 have hc:(0:Int) < 256 ^ (K - 1):=Int.pow_pos (by decide)
 have hone:(1:Int).natAbs < BIG:=ZeB (k:=1) (by decide) (by decide)
 have e1:(1:Int)*2 ^ ((8:Int)*(K:Nat)).toNat=256 ^ K:=by
  rw [show ((8:Int)*(K:Nat)).toNat=8*K by rfl,Int.one_mul,Int.pow_mul,show (2:Int) ^ 8=256 by decide]
 have hpk:(256:Int) ^ K=256*256 ^ (K - 1):=by
  conv=>lhs;rw [show K=(K - 1)+1 by lia]
  rw [Int.pow_succ,Int.mul_comm]
 have hbig:(n % 256 ^ K).toNat < BIG:=by
  apply ZfU (k:=K) _ (by exact Nat.le_trans (by assumption) (by decide))
  have h2:=Int.emod_lt_of_pos n (by lia:(0:Int) < 256 ^ K)
  have h3:=Int.emod_nonneg n (by lia:(256:Int) ^ K≠0)
  have h4:((256 ^ K:Nat):Int)=256 ^ K:=by simp
  lia
 have hb:=ZiA B (r:=r) (m:=(n % 256 ^ K).toNat) (k:=K) (by assumption) hbig
 have h0:=Int.emod_nonneg n (by lia:(256:Int) ^ K≠0)
 unfold fits at hf
 rw [←hbe] at hb
 by_cases hneg:n < 0
 ·have e2:n+256 ^ K=((n % 256 ^ K).toNat:Int):=by
   have:n % 256 ^ K=n+256 ^ K:=by
    rw [←Int.add_emod_right];apply Int.emod_eq_of_lt<;>lia
   lia
  rw [←e2] at hb
  generalize (256:Int) ^ K=Q at *
  simp (disch:=first | decide | assumption | lia) only [ZfH,X_k,Zp,ZB,Zs,Zi,Zc,Zr,Zu,ZD,Zz,Zt,ZbF,ZE,Za,Zae,c_lt,Zh,Zd,Zo,Zg,ZP,Zj,Ze,Zf,Zk,Zl,Zb,Zq,zc6,zc7,zc8,zc9,zc16,zc17,hm,ZeR,ZeE,e1,hb]
 ·have e2:n=((n % 256 ^ K).toNat:Int):=by
   have:n % 256 ^ K=n:=by apply Int.emod_eq_of_lt<;>lia
   lia
  rw [←e2] at hb
  simp (disch:=first | decide | assumption | lia) only [ZfH,X_k,Zp,Zs,Zi,Zc,Zr,Zu,ZD,Zz,Zt,ZbF,ZE,Za,c_lt,Zh,Zd,Zo,Zg,ZA,Zj,Ze,Zf,Zk,Zl,Zb,Zq,zc6,zc7,zc8,zc9,zc16,zc17,hm,hb]
theorem ZdN (u:UInt8) (us):index (.bytes (u::us)) (.int 0) = .ok (.int (u.toNat:Nat)):=Zan [] us u rfl
theorem Zhm (v u:UInt8) (us):index (.bytes (v::u::us)) (.int 1) = .ok (.int (u.toNat:Nat)):=Zan [v] us u rfl
theorem Zhn (B:Base T) (n:Int) (hl:(intB n).length≤1000):CL T (r+7) 7 [.bytes (intB n)] = .ok (.int n):=by
 rw [ZJ B.f7 rfl (by decide)]
 have hb:=Zmd n
 have hp:=ZgN n
 have hu:=ZjU B (intB n) 5 0 (intB n).length r (by exact Nat.zero_le _) (by exact Nat.le_refl _) (by exact Nat.le_trans (by assumption) (by decide)) (by assumption)
 rw [ZpB] at hu
 have hone:(1:Int).natAbs < BIG:=ZeB (k:=1) (by decide) (by decide)
 have e1:(1:Int)*2 ^ ((8:Int)*((intB n).length:Nat)).toNat=256 ^ (intB n).length:=by
  rw [show ((8:Int)*((intB n).length:Nat)).toNat=8*(intB n).length by rfl,Int.one_mul,Int.pow_mul,show (2:Int) ^ 8=256 by decide]
 simp only [show ((0:Nat):Int)=0 from rfl] at hu
 rcases Zmc n with ⟨b,hb1,h1,h2⟩ | ⟨b,c,us,hb1,h1,h2,h3⟩
 ·have hi0:index (.bytes (intB n)) (.int 0) = .ok (.int (b.toNat:Nat)):=by rw [hb1];exact ZdN b []
  have hlen:(intB n).length=1:=by rw [hb1];rfl
  by_cases hneg:n < 0
  ·rw [if_pos hneg] at hb
   simp (disch:=first | decide | assumption | lia) only [ZcE,X_k,Zp,ZB,Zx,P_bi,Zs,Zi,Zc,Zr,Zu,ZD,Zz,Zt,Za,ZaC,c_eq,c_gt,c_ge,Zn,Zh,Zv,Zd,Zo,Zg,ZP,ZA,Zj,Ze,Zf,Zk,Zl,Zb,okB_,Zq,zc6,zc7,zc8,zc9,zc16,zc17,hu,hi0,ZeR,ZeE,e1,←hb]
  ·rw [if_neg hneg] at hb
   simp (disch:=first | decide | assumption | lia) only [ZcE,X_k,Zp,Zx,P_bi,Zs,Zi,Zc,Zr,Zu,ZD,Zz,Zt,Za,c_eq,c_gt,c_ge,Zn,Zh,Zv,Zd,Zo,Zg,ZA,Zj,Ze,Zf,Zk,Zl,Zb,okB_,Zq,zc6,zc7,zc8,zc9,zc16,zc17,hu,hi0]
   congr 2;lia
 ·have hi0:index (.bytes (intB n)) (.int 0) = .ok (.int (b.toNat:Nat)):=by rw [hb1];exact ZdN b _
  have hi1:index (.bytes (intB n)) (.int 1) = .ok (.int (c.toNat:Nat)):=by rw [hb1];exact Zhm b c _
  have hlen:2≤(intB n).length:=by rw [hb1];simp
  have hx:¬((b.toNat:Int)=0∧(c.toNat:Int) < 128):=by lia
  have hx2:¬((b.toNat:Int)=255∧(c.toNat:Int)≥128):=by lia
  by_cases hneg:n < 0
  ·rw [if_pos hneg] at hb
   by_cases h5:b.toNat=255
   ·simp (disch:=first | decide | assumption | lia) only [ZcE,X_k,Zp,ZB,Zx,P_bi,Zs,Zi,Zc,Zaw,Zr,Zu,ZD,Zz,Zt,Za,ZaC,c_eq,c_gt,c_ge,Zn,Zh,Zv,Zd,Zo,Zg,Zy,ZP,ZA,Zcy,Zat,Zj,Ze,Zf,Zk,Zl,Zb,okB_,Zq,zc6,zc7,zc8,zc9,zc16,zc17,hu,hi0,hi1,ZeR,ZeE,e1,←hb]
   ·simp (disch:=first | decide | assumption | lia) only [ZcE,X_k,Zp,ZB,Zx,P_bi,Zs,Zi,Zc,Zaw,Zr,Zu,ZD,Zz,Zt,Za,ZaC,c_eq,c_gt,c_ge,Zn,Zh,Zv,Zd,Zo,Zg,Zy,ZP,ZA,Zat,Zj,Ze,Zf,Zk,Zl,Zb,okB_,Zq,zc6,zc7,zc8,zc9,zc16,zc17,hu,hi0,ZeR,ZeE,e1,←hb]
  ·rw [if_neg hneg] at hb
   have e0:((beV (intB n):Nat):Int)=n:=by lia
   by_cases h5:b.toNat=0
   ·simp (disch:=first | decide | assumption | lia) only [ZcE,X_k,Zp,Zx,P_bi,Zs,Zi,Zc,Zaw,Zr,Zu,ZD,Zz,Zt,Za,c_eq,c_lt,c_gt,c_ge,Zn,Zh,Zv,Zd,Zo,Zg,Zy,ZP,ZA,Zcy,Zat,Zj,Ze,Zf,Zk,Zl,Zb,okB_,Zq,zc6,zc7,zc8,zc9,zc16,zc17,hu,hi0,hi1,e0]
   ·simp (disch:=first | decide | assumption | lia) only [ZcE,X_k,Zp,Zx,P_bi,Zs,Zi,Zc,Zaw,Zr,Zu,ZD,Zz,Zt,Za,c_eq,c_gt,c_ge,Zn,Zh,Zv,Zd,Zo,Zg,Zy,ZP,ZA,Zat,Zj,Ze,Zf,Zk,Zl,Zb,okB_,Zq,zc6,zc7,zc8,zc9,zc16,zc17,hu,hi0,e0]
end DK.Internal.B
end
section
set_option backward.match.sparseCases false
set_option genSizeOf false
set_option genCtorIdx false
namespace DK.Internal.B
open PySem
theorem Zlb (pre suf:List UInt8) (c u:UInt8) {i:Int} (h:i=((pre.length+1:Nat):Int)):index (.bytes (pre++c::u::suf)) (.int i) = .ok (.int (u.toNat:Nat)):=by
 have:=Zan (pre ++ [c]) suf u (i:=i) (by simp;lia)
 simpa using this
noncomputable def at0 (b:List UInt8) (i:Nat):Nat:=(b.getD i 0).toNat
theorem ZgO {b:List UInt8} {i:Nat} {j:Int} (hj:j=(i:Nat)) (h:i < b.length):index (.bytes b) (.int j) = .ok (.int (at0 b i:Nat)):=by
 subst hj
 rw [Zdf h];simp [at0,List.getD,List.getElem?_eq_getElem h]
variable {T:Text} {r:Nat}
noncomputable def isB (g:Bool):Out Reply→Bool
 | .ok x=>(match x.1 with | .ret d=>(match d with | .bool b=>b == g | _=>false) | _=>false)
 | _=>false
theorem isB_of {g:Bool} {o:Out Reply} (h:isB g o=true):(o>>=retD) = .ok (.bool g):=by
 cases o with
 | ok x=>
  obtain ⟨f,sl⟩:=x
  cases f with
  | ret d=>
   cases d with
   | bool b=>exact congrArg (fun b=>Out.ok (D.bool b)) (eq_of_beq h)
   | _=>cases h
  | _=>cases h
 | _=>cases h
noncomputable def tx (T:Text) (r:Nat) (k:List Nat) (g:Bool) (b:List UInt8):Bool:=isB g (callT fast T (r+4) 17 [.val (.str k),.val (.bytes b)])
theorem tx_ok {k:List Nat} {g:Bool} {b:List UInt8} (h:tx T r k g b=true):CL T (r+4) 17 [.str k,.bytes b] = .ok (.bool g):=by
 unfold tx at h
 rw [←fast_eq] at h
 exact isB_of h
theorem Zjo (B:Base T) (b:List UInt8):CL T (r+4) 17 [.str sBytes,.bytes b] = .ok (.bool true):=by
 rw [ZJ B.f17 rfl (by decide)]
 simp only [Zgy,X_k,Zp,Zr,Zu,ZD,Zt,Za,c_eq,Zh,Zd,Zo,Zy,Ze,Zb,okB_,Zq,zc6,zc7,zc8,zc9,zc14,zc15,zc17,ZeL,Zez,ZeM]
end DK.Internal.B
end
section
set_option backward.match.sparseCases false
set_option genSizeOf false
set_option genCtorIdx false
namespace DK.Internal.B
open PySem
noncomputable def digitP (u:UInt8):Bool:=decide (48≤u.toNat∧u.toNat≤57)
noncomputable def numF (n:Nat) (u:UInt8):Nat:=n*10+(u.toNat - 48)
noncomputable def numP (b:List UInt8) (lo hi:Nat):Nat:=(cut b lo hi).foldl numF 0
noncomputable def leapP (y:Nat):Bool:=decide (y % 4=0∧(y % 100≠0∨y % 400=0))
noncomputable def daysP (y mo:Nat):Nat:=if mo=2 then (if leapP y=true then 29 else 28) else if mo=4∨mo=6∨mo=9∨mo=11 then 30 else 31
noncomputable def fracP (b:List UInt8):Bool:=decide (b.length≤15) || (decide (at0 b 14=46) && (decide (17≤b.length) && ((cut b 15 (b.length - 1)).all digitP && decide (at0 b (b.length - 2)≠48))))
noncomputable def dayP (b:List UInt8):Bool:=decide (1≤numP b 4 6∧numP b 4 6≤12) && decide (1≤numP b 6 8∧numP b 6 8≤daysP (numP b 0 4) (numP b 4 6))
noncomputable def hmsP (b:List UInt8):Bool:=decide (numP b 8 10 < 24∧numP b 10 12 < 60∧numP b 12 14 < 60)
noncomputable def timeP (b:List UInt8):Bool:=decide (15≤b.length) && ((cut b 0 14).all digitP && (decide (at0 b (b.length - 1)=90) && (fracP b && (dayP b && hmsP b))))
variable {T:Text} {r:Nat}
theorem ZjX (b:List UInt8) (s1:Slot) (hi:Nat) (hh:hi≤b.length):∀d i n j,i+d=hi→n < 10 ^ j→j+d≤8→(cut b i hi).all digitP=true →
  W T r Zdh ZdY [.val (.bytes b),s1,.val (.int (hi:Nat)),.val (.int (n:Nat)),.val (.int (i:Nat))] =
   .ok (.next,[.val (.bytes b),s1,.val (.int (hi:Nat)),.val (.int ((cut b i hi).foldl numF n:Nat)),.val (.int (hi:Nat))]):=by
 intro d
 induction d with
 | zero=>
  intro i n j h1 h2 h3 h4
  have:i=hi:=by assumption
  subst this
  rw [V_eq]
  simp (disch:=first | decide | assumption | lia) only [Zdh,Zp,Zr,Za,c_lt,Zd,Zei,Ze,Zf,Zb,Ziz,List.foldl_nil]
 | succ d ih=>
  intro i n j h1 h2 h3 h4
  rw [ZgK b (i:=i) (hi:=hi) (by lia) hh] at h4 ⊢
  simp only [List.all_cons,Bool.and_eq_true,digitP,decide_eq_true_eq] at h4
  have hb:n < 10000000:=Nat.lt_of_lt_of_le h2 (Nat.pow_le_pow_right (by decide) (by lia:j≤7))
  have e:((n:Int)*10+(((b[i].toNat:Nat):Int) - 48))=((numF n b[i]:Nat):Int):=by unfold numF;lia
  have hs:=ih (i+1) (numF n b[i]) (j+1) (by lia) (by unfold numF;rw [Nat.pow_succ];lia) (by lia) h4.2
  rw [V_eq]
  generalize W T r Zdh ZdY=w at hs ⊢
  simp (disch:=first | decide | assumption | lia) only [Zdh,ZdY,X_k,Zp,ZB,Zx,Zr,Zu,Zz,Zep,ZK,Za,Zae,ZaC,c_lt,Zd,Zg,ZaT,Zdc,Ze,Zf,Zk,Zl,Zb,Zq,ZQ,ZeR,Zdf,e,ZeV,hs,List.foldl_cons]
theorem Zmg (B:Base T) (b:List UInt8) (lo hi:Nat) (h1:lo≤hi) (h2:hi≤b.length) (h3:hi - lo≤8) (h4:(cut b lo hi).all digitP=true) :
  CL T (r+1) 9 [.bytes b,.int (lo:Nat),.int (hi:Nat)] = .ok (.int (numP b lo hi:Nat)):=by
 rw [ZJ B.f9 rfl (by decide)]
 have hs:=ZjX (T:=T) (r:=r) b (.val (.int (lo:Nat))) hi h2 (hi - lo) lo 0 0 (by lia) (by decide) (by lia) h4
 simp only [show ((0:Nat):Int)=0 from rfl] at hs
 simp only [ZjJ,X_k,Zp,ZD,Zz,ZbF,ZE,Zh,Zo,Zg,Ze,Zf,Zk,Zl,Zb,Zq,zc6,zc7,zc8,zc9,zc16,zc17,hs]
 rfl
theorem ZpF (B:Base T) (y mo:Nat):CL T (r+2) 11 [.int (y:Nat),.int (mo:Nat)] = .ok (.int (daysP y mo:Nat)):=by
 rw [ZJ B.f11 rfl (by decide)]
 have hl:(decide ((y:Int) % 4=0∧((y:Int) % 100≠0∨(y:Int) % 400=0)))=leapP y:=by
  unfold leapP
  congr 1
  apply propext
  constructor<;>intro h<;>lia
 by_cases h2:mo=2
 ·cases hy:leapP y<;>(simp (disch:=first | decide | assumption | lia) only [Zav,X_k,Zp,Zi,Zc,Zr,ZiW,Zu,ZD,Zt,Za,ZN,c_eq,Zh,Zv,Zd,Zo,ZG,Zy,ZP,Zj,Ze,Zf,Zb,okB_,Zq,zc6,zc7,zc8,zc9,zc14,zc15,zc17,Zpz B,hl,hy];simp [daysP,h2,hy])
 ·by_cases h4:mo=4
  ·simp (disch:=first | decide | assumption | lia) only [Zav,X_k,Zp,R_or,Zr,Zu,ZD,Zt,Za,c_eq,Zh,Zv,Zd,Zo,ZG,ZA,ZhW,Ze,Zf,Zb,okB_,Zq,zc6,zc7,zc8,zc9,zc14,zc15,zc17];simp [daysP,h4]
  ·by_cases h6:mo=6
   ·simp (disch:=first | decide | assumption | lia) only [Zav,X_k,Zp,R_or,Zr,Zu,ZD,Zt,Za,c_eq,Zh,Zv,Zd,Zo,ZG,ZA,ZhW,Zdo,Ze,Zf,Zb,okB_,Zq,zc6,zc7,zc8,zc9,zc14,zc15,zc17];simp [daysP,h6]
   ·by_cases h9:mo=9
    ·simp (disch:=first | decide | assumption | lia) only [Zav,X_k,Zp,R_or,Zr,Zu,ZD,Zt,Za,c_eq,Zh,Zv,Zd,Zo,ZG,ZA,ZhW,Zdo,Ze,Zf,Zb,okB_,Zq,zc6,zc7,zc8,zc9,zc14,zc15,zc17];simp [daysP,h9]
    ·by_cases h11:mo=11
     ·simp (disch:=first | decide | assumption | lia) only [Zav,X_k,Zp,R_or,Zr,Zu,ZD,Zt,Za,c_eq,Zh,Zv,Zd,Zo,ZP,ZA,Zdo,Ze,Zf,Zb,okB_,Zq,zc6,zc7,zc8,zc9,zc14,zc15,zc17];simp [daysP,h11]
     ·simp (disch:=first | decide | assumption | lia) only [Zav,X_k,Zp,R_or,Zr,Zu,ZD,Zt,Za,c_eq,Zh,Zv,Zd,Zo,ZA,Zdo,Ze,Zf,Zb,okB_,Zq,zc6,zc7,zc8,zc9,zc14,zc15,zc17];simp [daysP,h2,h4,h6,h9,h11]
theorem dig_t (B:Base T) {u:UInt8} (h:digitP u=true):CL T (r+1) 8 [.int (u.toNat:Nat)] = .ok (.bool true):=by
 rw [Zku B];simp only [digitP,decide_eq_true_eq] at h;simp;lia
theorem dig_f (B:Base T) {u:UInt8} (h:digitP u=false):CL T (r+1) 8 [.int (u.toNat:Nat)] = .ok (.bool false):=by
 rw [Zku B];simp only [digitP,decide_eq_false_iff_not] at h;simp;lia
theorem Zmh (B:Base T) (b:List UInt8) (s1:Slot) (sl:List Slot) (hh:14≤b.length):∀d i,i+d=14 →
  if (cut b i 14).all digitP=true then W T (r+1) ZaR Zbv (.val (.bytes b)::s1::.val (.int (i:Nat))::sl) = .ok (.next,.val (.bytes b)::s1::.val (.int 14)::sl)
  else ∃sl',W T (r+1) ZaR Zbv (.val (.bytes b)::s1::.val (.int (i:Nat))::sl) = .ok (.ret (.bool false),sl'):=by
 intro d
 induction d with
 | zero=>
  intro i h
  have:i=14:=by assumption
  subst this
  rw [Ziz,List.all_nil,if_pos rfl,V_eq]
  simp (disch:=first | decide | assumption | lia) only [ZaR,X_k,Zp,Zr,Za,c_lt,Zd,Zei,Ze,Zf,Zb]
  rfl
 | succ d ih=>
  intro i h
  have hs:=ih (i+1) (by lia)
  rw [ZgK b (i:=i) (hi:=14) (by lia) hh,List.all_cons]
  rw [V_eq]
  generalize W T (r+1) ZaR Zbv=w at hs ⊢
  cases hd:digitP b[i] with
  | false=>
   rw [Bool.false_and,if_neg (by decide)]
   refine ⟨.val (.bytes b)::s1::.val (.int (i:Nat))::sl,?_⟩
   simp (disch:=first | decide | assumption | lia) only [ZaR,Zbv,X_k,Zp,Zx,Zi,Zc,Zfi,Zr,ZiW,ZD,Zt,ZiV,Za,ZN,c_lt,Zd,Zo,ZG,Zdc,Zj,Zdp,Ze,Zf,Zb,Zq,zc5,Zdf,dig_f B hd]
  | true=>
   rw [Bool.true_and]
   simp (disch:=first | decide | assumption | lia) only [ZaR,Zbv,X_k,Zp,Zx,Zi,Zc,Zfi,Zr,ZiW,Zu,Zep,Zt,ZK,Za,ZN,Zae,c_lt,Zd,Zg,ZaT,Zy,Zdc,Zj,Zdp,Ze,Zf,Zk,Zl,Zb,Zq,ZQ,zc4,Zdf,dig_t B hd,ZeV]
   exact hs
theorem Zmi (B:Base T) (b:List UInt8) (s2:Slot) (sl:List Slot) (hi:Nat) (hh:hi+1=b.length):∀d i,i+d=hi →
  if (cut b i hi).all digitP=true then W T (r+1) ZaS Zbw (.val (.bytes b)::.val (.int (b.length:Nat))::s2::.val (.int (i:Nat))::sl) = .ok (.next,.val (.bytes b)::.val (.int (b.length:Nat))::s2::.val (.int (hi:Nat))::sl)
  else ∃sl',W T (r+1) ZaS Zbw (.val (.bytes b)::.val (.int (b.length:Nat))::s2::.val (.int (i:Nat))::sl) = .ok (.ret (.bool false),sl'):=by
 intro d
 induction d with
 | zero=>
  intro i h
  have:i=hi:=by assumption
  subst this
  rw [Ziz,List.all_nil,if_pos rfl,V_eq]
  simp (disch:=first | decide | assumption | lia) only [ZaS,X_k,Zp,ZB,Zr,Za,ZaC,c_lt,Zd,Zei,Ze,Zf,Zb]
 | succ d ih=>
  intro i h
  have hs:=ih (i+1) (by lia)
  rw [ZgK b (i:=i) (hi:=hi) (by lia) (by lia),List.all_cons]
  rw [V_eq]
  generalize W T (r+1) ZaS Zbw=w at hs ⊢
  cases hd:digitP b[i] with
  | false=>
   rw [Bool.false_and,if_neg (by decide)]
   refine ⟨.val (.bytes b)::.val (.int (b.length:Nat))::s2::.val (.int (i:Nat))::sl,?_⟩
   simp (disch:=first | decide | assumption | lia) only [ZaS,Zbw,X_k,Zp,ZB,Zx,Zi,Zc,Zfi,Zr,ZiW,ZD,Zt,ZiV,Za,ZN,ZaC,c_lt,Zd,Zo,ZG,Zdc,Zj,Zdp,Ze,Zf,Zb,Zq,zc5,Zdf,dig_f B hd]
  | true=>
   rw [Bool.true_and]
   simp (disch:=first | decide | assumption | lia) only [ZaS,Zbw,X_k,Zp,ZB,Zx,Zi,Zc,Zfi,Zr,ZiW,Zu,Zep,Zt,ZK,Za,ZN,Zae,ZaC,c_lt,Zd,Zg,ZaT,Zy,Zdc,Zj,Zdp,Ze,Zf,Zk,Zl,Zb,Zq,ZQ,zc4,Zdf,dig_t B hd,ZeV]
   exact hs
theorem ZpG (b:List UInt8) {i j:Nat} (h:(cut b 0 14).all digitP=true) (h1:i≤j) (h2:j≤14):(cut b i j).all digitP=true:=by
 rw [←Zgr b (i:=0) (j:=i) (k:=14) (by exact Nat.zero_le _) (by exact Nat.le_trans (by assumption) (by assumption)),←Zgr b (i:=i) (j:=j) (k:=14) h1 h2] at h
 simp only [List.all_append,Bool.and_eq_true] at h
 exact h.2.1
noncomputable def time_u:Ss:=(.cons (.ife (.or (.cmp .Lt (.var 5) (.k (.int 1))) (.cmp .Gt (.var 5) (.k (.int 12)))) (.cons (.ret (.k (.bool false)))
 .nil) .nil)
 (.cons (.ife (.or (.cmp .Lt (.var 6) (.k (.int 1))) (.cmp .Gt (.var 6) (.call 11 (.cons (.var 4) (.cons (.var 5) .nil))))) (.cons (.ret (.k (.bool false)))
 .nil) .nil)
 (.cons (.ret (.and (.cmp .Lt (.var 7) (.k (.int 24))) (.and (.cmp .Lt (.var 8) (.k (.int 60))) (.cmp .Lt (.var 9) (.k (.int 60))))))
 .nil)))
noncomputable def time_m (ss:Ss):Ss:=(.cons (.asg 4 (.call 9 (.cons (.var 0) (.cons (.k (.int 0)) (.cons (.k (.int 4)) .nil)))))
 (.cons (.asg 5 (.call 9 (.cons (.var 0) (.cons (.k (.int 4)) (.cons (.k (.int 6)) .nil)))))
 (.cons (.asg 6 (.call 9 (.cons (.var 0) (.cons (.k (.int 6)) (.cons (.k (.int 8)) .nil)))))
 (.cons (.asg 7 (.call 9 (.cons (.var 0) (.cons (.k (.int 8)) (.cons (.k (.int 10)) .nil)))))
 (.cons (.asg 8 (.call 9 (.cons (.var 0) (.cons (.k (.int 10)) (.cons (.k (.int 12)) .nil)))))
 (.cons (.asg 9 (.call 9 (.cons (.var 0) (.cons (.k (.int 12)) (.cons (.k (.int 14)) .nil)))))
 ss))))))
noncomputable def time_h (ss:Ss):Ss:=(.cons (.asg 1 (.bi .len (.cons (.var 0) .nil)))
 (.cons (.ife (.cmp .Lt (.var 1) (.k (.int 15))) (.cons (.ret (.k (.bool false)))
 .nil) .nil)
 (.cons (.asg 2 (.k (.int 0)))
 (.cons (.whl ZaR Zbv)
 (.cons (.ife (.cmp .NotEq (.idx (.var 0) (.bin .Sub (.var 1) (.k (.int 1)))) (.k (.int 90))) (.cons (.ret (.k (.bool false)))
 .nil) .nil)
 (.cons (.ife (.cmp .Gt (.var 1) (.k (.int 15))) (.cons (.ife (.cmp .NotEq (.idx (.var 0) (.k (.int 14))) (.k (.int 46))) (.cons (.ret (.k (.bool false)))
 .nil) .nil)
 (.cons (.ife (.cmp .Lt (.var 1) (.k (.int 17))) (.cons (.ret (.k (.bool false)))
 .nil) .nil)
 (.cons (.asg 3 (.k (.int 15)))
 (.cons (.whl ZaS Zbw)
 (.cons (.ife (.cmp .Eq (.idx (.var 0) (.bin .Sub (.var 1) (.k (.int 2)))) (.k (.int 48))) (.cons (.ret (.k (.bool false)))
 .nil) .nil)
 .nil))))) .nil)
 ss))))))
theorem Zlc:ZjK=time_h (time_m time_u):=rfl
theorem Zmj (B:Base T) (s0 s1 s2 s3:Slot) (y mo d h mi s:Nat):bnd retV (YK T (r+2) time_u nextK [s0,s1,s2,s3,.val (.int (y:Nat)),.val (.int (mo:Nat)),.val (.int (d:Nat)),.val (.int (h:Nat)),.val (.int (mi:Nat)),.val (.int (s:Nat))]) = .ok (.bool ((decide (1≤mo∧mo≤12) && decide (1≤d∧d≤daysP y mo)) && decide (h < 24∧mi < 60∧s < 60))):=by
 have hd:=ZpF B (r:=r) y mo
 by_cases hmo:1≤mo∧mo≤12
 ·by_cases hda:1≤d∧d≤daysP y mo
  ·rw [decide_eq_true hmo,decide_eq_true hda,Bool.true_and,Bool.true_and]
   by_cases hh:h < 24
   ·by_cases hm:mi < 60
    ·simp (disch:=first | decide | assumption | lia) only [time_u,X_k,Zp,Zcd,ZX,Zs,Zi,Zc,R_or,Zr,Zu,ZD,Zt,Za,c_lt,c_gt,Zh,Zd,Zo,ZA,Zed,Zdo,Zj,Ze,Zf,Zb,hd]
     congr 2;simp [hh,hm];lia
    ·simp (disch:=first | decide | assumption | lia) only [time_u,X_k,Zp,Zcd,ZX,Zs,Zi,Zc,R_or,Zr,Zu,ZD,Zt,Za,c_lt,c_gt,Zh,Zd,Zo,ZA,Zed,ZjS,Zdo,Zj,Ze,Zf,Zb,hd]
     congr 2;simp [hm]
   ·simp (disch:=first | decide | assumption | lia) only [time_u,X_k,Zp,Zcd,ZX,Zs,Zi,Zc,R_or,Zr,Zu,ZD,Zt,Za,c_lt,c_gt,Zh,Zd,Zo,ZA,ZjS,Zdo,Zj,Ze,Zf,Zb,hd]
    congr 2;simp [hh]
  ·rw [decide_eq_false hda,Bool.and_false,Bool.false_and]
   by_cases h1:1≤d
   ·simp (disch:=first | decide | assumption | lia) only [time_u,X_k,Zp,Zs,Zi,Zc,R_or,Zr,Zu,ZD,Zt,Za,c_lt,c_gt,Zh,Zd,Zo,ZP,ZA,Zdo,Zj,Ze,Zf,Zb,hd]
   ·simp (disch:=first | decide | assumption | lia) only [time_u,X_k,Zp,R_or,Zr,Zu,ZD,Zt,Za,c_lt,c_gt,Zh,Zd,Zo,ZG,ZA,ZhW,Zdo,Ze,Zf,Zb]
 ·rw [decide_eq_false hmo,Bool.false_and,Bool.false_and]
  by_cases h1:1≤mo
  ·simp (disch:=first | decide | assumption | lia) only [time_u,X_k,Zp,R_or,Zr,ZD,Zt,Za,c_lt,c_gt,Zh,Zd,Zo,ZP,Zdo,Ze,Zf,Zb]
  ·simp (disch:=first | decide | assumption | lia) only [time_u,X_k,Zp,R_or,Zr,ZD,Zt,Za,c_lt,Zh,Zd,Zo,ZG,ZhW,Ze,Zf,Zb]
theorem Zld (B:Base T) (b:List UInt8) (h0:15≤b.length) (hd:(cut b 0 14).all digitP=true) {i j:Nat} (h1:i≤j) (h2:j≤14) (h3:j - i≤8):CL T (r+1) 9 [.bytes b,.int (i:Nat),.int (j:Nat)] = .ok (.int (numP b i j:Nat)):=
 Zmg B b i j h1 (by lia) h3 (ZpG b hd h1 h2)
theorem Zmk (B:Base T) (b:List UInt8) (h0:15≤b.length) (hd:(cut b 0 14).all digitP=true) (s1 s2 s3:Slot):bnd retV (YK T (r+2) (time_m time_u) nextK [.val (.bytes b),s1,s2,s3,.un,.un,.un,.un,.un,.un]) = .ok (.bool (dayP b && hmsP b)):=by
 have n0:CL T (r+2) 9 [.bytes b,.int 0,.int 4]=_:=Zld B b h0 hd (i:=0) (j:=4) (by decide) (by decide) (by decide)
 have n1:CL T (r+2) 9 [.bytes b,.int 4,.int 6]=_:=Zld B b h0 hd (i:=4) (j:=6) (by decide) (by decide) (by decide)
 have n2:CL T (r+2) 9 [.bytes b,.int 6,.int 8]=_:=Zld B b h0 hd (i:=6) (j:=8) (by decide) (by decide) (by decide)
 have n3:CL T (r+2) 9 [.bytes b,.int 8,.int 10]=_:=Zld B b h0 hd (i:=8) (j:=10) (by decide) (by decide) (by decide)
 have n4:CL T (r+2) 9 [.bytes b,.int 10,.int 12]=_:=Zld B b h0 hd (i:=10) (j:=12) (by decide) (by decide) (by decide)
 have n5:CL T (r+2) 9 [.bytes b,.int 12,.int 14]=_:=Zld B b h0 hd (i:=12) (j:=14) (by decide) (by decide) (by decide)
 simp (disch:=first | decide | assumption | lia) only [time_m,X_k,Zp,Zs,Zi,Zc,Zz,Zd,Zg,Zj,Ze,Zk,Zl,Zb,n0,n1,n2,n3,n4,n5,Zmj B]
 rfl
theorem ZpH (B:Base T) (b:List UInt8):CL T (r+3) 12 [.bytes b] = .ok (.bool (timeP b)):=by
 rw [ZJ B.f12 rfl (by decide),Zlc]
 unfold timeP
 by_cases h0:15≤b.length
 ·have hw:=Zmh B (r:=r+1) b (.val (.int (b.length:Nat))) [.un,.un,.un,.un,.un,.un,.un] (by exact Nat.le_of_lt (by assumption)) 14 0 (by exact Nat.add_comm _ _)
  have hz1:=ZgO (b:=b) (i:=b.length - 1) (j:=(b.length:Int) - 1) (by lia) (by omega)
  rw [decide_eq_true h0,Bool.true_and]
  cases hd:(cut b 0 14).all digitP with
  | false=>
   rw [hd,if_neg (by decide)] at hw
   obtain ⟨sl',hw⟩:=hw
   simp only [show ((0:Nat):Int)=0 from rfl] at hw
   simp (disch:=first | decide | assumption | lia) only [time_h,X_k,Zp,P_bi,Zi,Zc,Zr,Zu,Zz,Zt,ZbF,ZiU,Za,c_lt,Zn,Zh,Zd,Zg,ZA,Zj,Ze,Zf,Zk,Zl,Zb,Zq,zc6,zc7,zc8,zc9,zc16,zc17,hw,Bool.false_and]
  | true=>
   have hm:=Zmk (r:=r) B b h0 hd
   generalize time_m time_u=tm at hm ⊢
   rw [hd,if_pos rfl] at hw
   simp only [show ((0:Nat):Int)=0 from rfl] at hw
   rw [Bool.true_and]
   by_cases hz:at0 b (b.length - 1)=90
   ·rw [decide_eq_true hz,Bool.true_and]
    rw [hz] at hz1
    by_cases h15:b.length≤15
    ·have hf:fracP b=true:=by simp only [fracP,h15,decide_true,Bool.true_or]
     rw [hf,Bool.true_and]
     simp (disch:=first | decide | assumption | lia) only [time_h,X_k,Zp,ZB,Zx,P_bi,Zi,Zc,Zr,Zu,Zz,Zt,ZbF,ZE,Za,ZaC,c_ne,c_lt,c_gt,Zn,Zv,Zd,Zg,ZA,ZeG,Zj,Ze,Zf,Zk,Zl,Zb,ZaF,Zq,zc6,zc7,zc8,zc9,zc16,zc17,hw,hz1,hm]
    ·have hf:fracP b=(decide (at0 b 14=46) && (decide (17≤b.length) && ((cut b 15 (b.length - 1)).all digitP && decide (at0 b (b.length - 2)≠48)))):=by
      simp only [fracP,h15,decide_false,Bool.false_or]
     rw [hf]
     have h14:=ZgO (b:=b) (i:=14) (j:=14) (by rfl) (by assumption)
     by_cases h46:at0 b 14=46
     ·rw [decide_eq_true h46,Bool.true_and]
      rw [h46] at h14
      by_cases h17:17≤b.length
      ·rw [decide_eq_true h17,Bool.true_and]
       have hw2:=Zmi B (r:=r+1) b (.val (.int 14)) [.un,.un,.un,.un,.un,.un] (b.length - 1) (by omega) (b.length - 1 - 15) 15 (by omega)
       have hx:=ZgO (b:=b) (i:=b.length - 2) (j:=(b.length:Int) - 2) (by lia) (by lia)
       cases hd2:(cut b 15 (b.length - 1)).all digitP with
       | false=>
        rw [hd2,if_neg (by decide)] at hw2
        obtain ⟨sl',hw2⟩:=hw2
        simp only [show ((15:Nat):Int)=15 from rfl] at hw2
        simp (disch:=first | decide | assumption | lia) only [time_h,X_k,Zp,ZB,Zx,P_bi,Zi,Zc,Zr,Zu,Zz,Zt,ZbF,ZE,ZiU,Za,ZaC,c_ne,c_lt,c_gt,Zn,Zh,Zv,Zd,Zg,ZP,ZA,ZeG,Zj,Ze,Zf,Zk,Zl,Zb,ZaF,Zq,zc6,zc7,zc8,zc9,zc16,zc17,hw,hz1,h14,hw2,Bool.false_and]
       | true=>
        rw [hd2,if_pos rfl] at hw2
        simp only [show ((15:Nat):Int)=15 from rfl] at hw2
        rw [Bool.true_and]
        by_cases h48:at0 b (b.length - 2)=48
        ·rw [h48] at hx ⊢
         simp (disch:=first | decide | assumption | lia) only [time_h,X_k,Zp,ZB,Zx,P_bi,Zi,Zc,Zr,Zu,ZD,Zz,Zt,ZbF,ZE,Za,ZaC,c_eq,c_ne,c_lt,c_gt,Zn,Zh,Zv,Zd,Zo,Zg,ZP,ZA,ZeG,Zj,Ze,Zf,Zk,Zl,Zb,okB_,ZaF,Zq,zc6,zc7,zc8,zc9,zc11,zc16,zc17,hw,hz1,h14,hw2,hx,ne_eq,not_true_eq_false,Bool.false_and]
        ·rw [decide_eq_true h48,Bool.true_and]
         simp (disch:=first | decide | assumption | lia) only [time_h,X_k,Zp,ZB,Zx,P_bi,Zi,Zc,Zr,Zu,Zz,Zt,ZbF,ZE,Za,ZaC,c_eq,c_ne,c_lt,c_gt,Zn,Zv,Zd,Zg,ZP,ZA,ZeG,Zj,Ze,Zf,Zk,Zl,Zb,okB_,ZaF,Zq,zc6,zc7,zc8,zc9,zc16,zc17,hw,hz1,h14,hw2,hx,hm]
      ·rw [decide_eq_false h17,Bool.false_and,Bool.false_and]
       simp (disch:=first | decide | assumption | lia) only [time_h,X_k,Zp,ZB,Zx,P_bi,Zi,Zc,Zr,Zu,ZD,Zz,Zt,ZbF,ZE,Za,ZaC,c_ne,c_lt,c_gt,Zn,Zh,Zv,Zd,Zo,Zg,ZP,ZA,ZeG,Zj,Ze,Zf,Zk,Zl,Zb,ZaF,Zq,zc6,zc7,zc8,zc9,zc16,zc17,hw,hz1,h14]
     ·rw [decide_eq_false h46,Bool.false_and,Bool.false_and]
      simp (disch:=first | decide | assumption | lia) only [time_h,X_k,Zp,ZB,Zx,P_bi,Zi,Zc,Zr,Zu,ZD,Zz,Zt,ZbF,ZE,Za,ZaC,c_ne,c_lt,c_gt,Zn,Zh,Zv,Zd,Zo,Zg,ZP,ZA,ZfE,ZeG,Zj,Ze,Zf,Zk,Zl,Zb,ZaF,Zq,zc6,zc7,zc8,zc9,zc16,zc17,hw,hz1,h14]
   ·rw [decide_eq_false hz,Bool.false_and]
    simp (disch:=first | decide | assumption | lia) only [time_h,X_k,Zp,ZB,Zx,P_bi,Zi,Zc,Zr,Zu,ZD,Zz,Zt,ZbF,ZE,Za,ZaC,c_ne,c_lt,Zn,Zh,Zv,Zd,Zo,Zg,ZA,ZfE,Zj,Ze,Zf,Zk,Zl,Zb,ZaF,Zq,zc6,zc7,zc8,zc9,zc16,zc17,hw,hz1]
 ·rw [decide_eq_false h0,Bool.false_and]
  simp (disch:=first | decide | assumption | lia) only [time_h,X_k,Zp,P_bi,Zi,Zc,Zr,ZD,Zz,Zt,Za,c_lt,Zn,Zh,Zd,Zo,Zg,ZP,Zj,Ze,Zf,Zk,Zl,Zb,Zq,zc6,zc7,zc8,zc9,zc16,zc17]
theorem ZfF (B:Base T) (b:List UInt8):CL T (r+4) 17 [.str sTime,.bytes b] = .ok (.bool (timeP b)):=by
 rw [ZJ B.f17 rfl (by decide)]
 simp only [Zgy,X_k,Zp,Zs,Zi,Zc,Zr,Zu,ZD,Zt,Za,c_eq,Zh,Zd,Zo,ZG,Zy,Zj,Ze,Zf,Zb,okB_,Zq,zc6,zc7,zc8,zc9,zc14,zc15,zc17,ZcV,ZeP,ZcW,ZpH B]
end DK.Internal.B
end
section
set_option backward.match.sparseCases false
set_option genSizeOf false
set_option genCtorIdx false
namespace DK.Internal.B
open PySem
theorem ZiD {n j:Nat} {u:UInt8} (h:n < 128 ^ j):stepA n u < 128 ^ (j+1):=by
 simp only [stepA,Nat.pow_succ];have:=Nat.mod_lt u.toNat (by decide:0 < 128);lia
theorem ZeX {n k:Nat} (h:n < 128 ^ k) (hk:k≤1000):n < BIG:=by
 apply ZeB (k:=7*k) _ (by lia)
 rw [Nat.pow_mul];exact h
variable {T:Text} {r:Nat}
theorem Zkx (B:Base T) (data suf:List UInt8) (l:UInt8) (hl:l.toNat < 128) (s1 s2 s3:Slot) (sl:List Slot):∀(hs pre:List UInt8) (n j:Nat),
  data=pre++(hs++l::suf)→(∀u∈hs,128≤u.toNat)→n < 128 ^ j→j+hs.length≤900 →
  W T (r+1) Zbb Zbc (.val (.bytes data)::s1::s2::s3::.val (.int (n:Nat))::.val (.int (pre.length:Nat))::sl) =
   .ok (.next,.val (.bytes data)::s1::s2::s3::.val (.int ((hs ++ [l]).foldl stepA n:Nat))::.val (.int ((pre.length+hs.length+1:Nat):Int))::sl):=by
 intro hs
 induction hs with
 | nil=>
  intro pre n j hd hb hn hj
  rw [V_eq]
  generalize W T (r+1) Zbb Zbc=w
  have hi:index (.bytes data) (.int (pre.length:Nat)) = .ok (.int (l.toNat:Nat)):=by rw [hd];exact Zan _ _ _ rfl
  have hlt:pre.length < data.length:=by rw [hd];simp
  have e:((pre.length:Int)+1 - 1)=(pre.length:Nat):=by simp
  simp (disch:=first | decide | assumption | lia) only [Zbb,Zbc,X_k,Zp,ZB,ZX,Zx,P_bi,Zs,Zi,Zc,Zr,T_k,Zz,Zep,Zt,ZkY,Z_ex,Zeh,Za,ZN,Zae,ZaC,c_lt,Zn,Zd,Zg,ZaT,ZP,ZI,ZeI,Zj,Ze,Zf,Zk,Zl,Zb,Zq,zc9,ZT B,Zjn (ZeX hn (by exact Nat.le_trans (by assumption) (by decide))),hi,ZbS,Zme,e]
  rfl
 | cons h hs ih=>
  intro pre n j hd hb hn hj
  have hs':=ih (pre ++ [h]) (stepA n h) (j+1) (by rw [hd];simp) (fun u hu=>hb u (List.mem_cons_of_mem _ hu)) (ZiD hn) (by simp at hj;lia)
  have hh:=hb h (List.mem_cons_self ..)
  rw [V_eq]
  generalize W T (r+1) Zbb Zbc=w at hs' ⊢
  have hi:index (.bytes data) (.int (pre.length:Nat)) = .ok (.int (h.toNat:Nat)):=by rw [hd];exact Zan _ _ _ rfl
  have hlt:pre.length < data.length:=by rw [hd];simp
  have e:((pre.length:Int)+1 - 1)=(pre.length:Nat):=by simp
  have e2:(((pre ++ [h]).length:Nat):Int)=(pre.length:Int)+1:=by simp
  have e3:(pre ++ [h]).length+hs.length+1=pre.length+(h::hs).length+1:=by simp;exact Nat.add_right_comm _ _ _
  rw [e2,e3] at hs'
  simp (disch:=first | decide | assumption | lia) only [Zbb,Zbc,X_k,Zp,ZB,ZX,Zx,P_bi,Zs,Zi,Zc,Zr,T_k,Zu,Zz,Zep,Zt,Z_ex,ZK,Za,ZN,Zae,ZaC,c_lt,Zn,Zd,Zg,ZaT,ZA,ZI,ZeI,Zj,Ze,Zf,Zk,Zl,Zb,Zq,ZQ,zc8,ZT B,Zjn (ZeX hn (by lia)),hi,ZbS,Zme,e,hs']
  rfl
theorem ZpI (B:Base T) (data:List UInt8) (s1 s2 s3:Slot) (sl:List Slot):∀(hs pre:List UInt8) (n j:Nat),
  data=pre++hs→(∀u∈hs,128≤u.toNat)→n < 128 ^ j→j+hs.length≤900 →
  W T (r+1) Zbb Zbc (.val (.bytes data)::s1::s2::s3::.val (.int (n:Nat))::.val (.int (pre.length:Nat))::sl) = .exc:=by
 intro hs
 induction hs with
 | nil=>
  intro pre n j hd hb hn hj
  rw [V_eq]
  generalize W T (r+1) Zbb Zbc=w
  have hlt:¬pre.length < data.length:=by rw [hd];simp
  simp (disch:=first | decide | assumption | lia) only [Zbb,Zbc,Zp,ZX,P_bi,Zs,Zi,Zc,T_k,Z_ex,ZN,c_lt,Zn,Zd,Zbl,ZeI,Zj,Ze,Zf,Zb,ZY,Zq,ZeT B]
 | cons h hs ih=>
  intro pre n j hd hb hn hj
  have hs':=ih (pre ++ [h]) (stepA n h) (j+1) (by rw [hd];simp) (fun u hu=>hb u (List.mem_cons_of_mem _ hu)) (ZiD hn) (by simp at hj;lia)
  have hh:=hb h (List.mem_cons_self ..)
  rw [V_eq]
  generalize W T (r+1) Zbb Zbc=w at hs' ⊢
  have hi:index (.bytes data) (.int (pre.length:Nat)) = .ok (.int (h.toNat:Nat)):=by rw [hd];exact Zan _ _ _ rfl
  have hlt:pre.length < data.length:=by rw [hd];simp
  have e:((pre.length:Int)+1 - 1)=(pre.length:Nat):=by simp
  have e2:(((pre ++ [h]).length:Nat):Int)=(pre.length:Int)+1:=by simp
  rw [e2] at hs'
  simp (disch:=first | decide | assumption | lia) only [Zbb,Zbc,X_k,Zp,ZB,ZX,Zx,P_bi,Zs,Zi,Zc,Zr,T_k,Zu,Zz,Zep,Zt,Z_ex,ZK,Za,ZN,Zae,ZaC,c_lt,Zn,Zd,Zg,ZaT,ZA,ZI,ZeI,Zj,Ze,Zf,Zk,Zl,Zb,Zq,ZQ,ZT B,Zjn (ZeX hn (by lia)),hi,ZbS,Zme,e,hs']
theorem Zml (data suf:List UInt8) (l:UInt8) (hl:l.toNat < 128) (s1 s2:Slot) (sl:List Slot):∀(hs pre:List UInt8) (n j:Nat),
  data=pre++(hs++l::suf)→(∀u∈hs,128≤u.toNat)→n < 128 ^ j→j+hs.length≤900 →
  W T r Zbf Zbg (.val (.bytes data)::s1::s2::.val (.int (pre.length:Nat))::.val (.int (n:Nat))::sl) =
   .ok (.next,.val (.bytes data)::s1::s2::.val (.int ((pre.length+hs.length+1:Nat):Int))::.val (.int ((hs ++ [l]).foldl stepA n:Nat))::sl):=by
 intro hs
 induction hs with
 | nil=>
  intro pre n j hd hb hn hj
  rw [V_eq]
  generalize W T r Zbf Zbg=w
  have hi:index (.bytes data) (.int (pre.length:Nat)) = .ok (.int (l.toNat:Nat)):=by rw [hd];exact Zan _ _ _ rfl
  have hlt:pre.length < data.length:=by rw [hd];simp
  have e:((pre.length:Int)+1 - 1)=(pre.length:Nat):=by simp
  simp (disch:=first | decide | assumption | lia) only [Zbf,Zbg,X_k,Zp,ZB,Zx,Zr,T_k,Zz,Zep,Zt,ZkY,Zeh,Za,ZN,Zae,ZaC,c_lt,Zd,Zg,ZaT,ZP,ZeI,Ze,Zf,Zk,Zl,Zb,Zq,zc9,Zjn (ZeX hn (by exact Nat.le_trans (by assumption) (by decide))),hi,ZbS,Zme,e]
  rfl
 | cons h hs ih=>
  intro pre n j hd hb hn hj
  have hs':=ih (pre ++ [h]) (stepA n h) (j+1) (by rw [hd];simp) (fun u hu=>hb u (List.mem_cons_of_mem _ hu)) (ZiD hn) (by simp at hj;lia)
  have hh:=hb h (List.mem_cons_self ..)
  rw [V_eq]
  generalize W T r Zbf Zbg=w at hs' ⊢
  have hi:index (.bytes data) (.int (pre.length:Nat)) = .ok (.int (h.toNat:Nat)):=by rw [hd];exact Zan _ _ _ rfl
  have hlt:pre.length < data.length:=by rw [hd];simp
  have e:((pre.length:Int)+1 - 1)=(pre.length:Nat):=by simp
  have e2:(((pre ++ [h]).length:Nat):Int)=(pre.length:Int)+1:=by simp
  have e3:(pre ++ [h]).length+hs.length+1=pre.length+(h::hs).length+1:=by simp;exact Nat.add_right_comm _ _ _
  rw [e2,e3] at hs'
  simp (disch:=first | decide | assumption | lia) only [Zbf,Zbg,X_k,Zp,ZB,Zx,Zr,T_k,Zu,Zz,Zep,Zt,ZK,Za,ZN,Zae,ZaC,c_lt,Zd,Zg,ZaT,ZA,ZeI,Ze,Zf,Zk,Zl,Zb,Zq,ZQ,zc8,Zjn (ZeX hn (by lia)),hi,ZbS,Zme,e,hs']
  rfl
noncomputable def arcsB (as:List Nat):List UInt8:=as.flatMap arcB
noncomputable def nD (n:Nat):D:= .int (n:Nat)
theorem ZcY (n:Nat):(arcB n).length=(arcH (n / 128)).length+1:=by simp [arcB]
theorem Zmm (B:Base T) (data:List UInt8) (s6:Slot):∀(as:List Nat) (pre:List UInt8) (acc:List D) (s4 s5:Slot),
  data=pre++arcsB as→(∀a∈as,a < 128 ^ 100)→acc.length+as.length≤1000 →
  ∃s4' s5',W T (r+1) ZbN ZbO [.val (.bytes data),.val (.int (data.length:Nat)),.own acc,.val (.int (pre.length:Nat)),s4,s5,s6] =
   .ok (.next,[.val (.bytes data),.val (.int (data.length:Nat)),.own (acc++as.map nD),.val (.int (data.length:Nat)),s4',s5',s6]):=by
 intro as
 induction as with
 | nil=>
  intro pre acc s4 s5 hd hb hl
  have e:pre=data:=by rw [hd];simp [arcsB]
  rw [e]
  refine ⟨s4,s5,?_⟩
  rw [V_eq]
  simp (disch:=first | decide | assumption | lia) only [ZbN,ZbO,Zp,Zr,Za,c_lt,Zd,Zei,Ze,Zf,Zb,zc7,List.append_nil]
 | cons a as ih=>
  intro pre acc s4 s5 hd hb hl
  have ha:=hb a (List.mem_cons_self ..)
  have hlen:=ZbT 100 (a / 128) (Nat.lt_of_le_of_lt (Nat.div_le_self _ _) ha)
  have hsp:arcsB (a::as)=arcH (a / 128)++UInt8.ofNat (a % 128)::arcsB as:=by simp [arcsB,arcB]
  have hd2:data=pre++(arcH (a / 128)++UInt8.ofNat (a % 128)::arcsB as):=by rw [hd,hsp]
  have hw:=Zml (T:=T) (r:=r+1) data (arcsB as) (UInt8.ofNat (a % 128)) (by rw [Zaa (by lia)];exact Nat.mod_lt _ (by decide)) (.val (.int (data.length:Nat))) (.own acc) [.val (.int (pre.length:Nat)),s6] (arcH (a / 128)) pre 0 0 hd2 (ZgL _) (by decide) (by lia)
  rw [show arcH (a / 128) ++ [UInt8.ofNat (a % 128)]=arcB a from rfl,ZiB] at hw
  obtain ⟨s4',s5',hs⟩:=ih (pre++arcB a) (acc ++ [nD a]) (.val (.int (a:Nat))) (.val (.int (pre.length:Nat))) (by rw [hd];simp [arcsB]) (fun x hx=>hb x (List.mem_cons_of_mem _ hx)) (by simp at hl ⊢;lia)
  refine ⟨s4',s5',?_⟩
  rw [V_eq]
  generalize W T (r+1) ZbN ZbO=w at hs ⊢
  have e2:(((pre++arcB a).length:Nat):Int)=((pre.length+(arcH (a / 128)).length+1:Nat):Int):=by rw [List.length_append,ZcY];rfl
  rw [e2] at hs
  have hlt:pre.length < data.length:=by rw [hd2];simp;exact Nat.succ_pos _
  obtain ⟨u,us,hu⟩:∃u us,arcB a=u::us:=by
   cases h:arcB a with
   | nil=>simp [arcB] at h
   | cons u us=>exact ⟨u,us,rfl⟩
  have hne:=Zhk a u us hu
  have hi:index (.bytes data) (.int (pre.length:Nat)) = .ok (.int (u.toNat:Nat)):=by
   rw [hd,show arcsB (a::as)=arcB a++arcsB as by simp [arcsB],hu];exact Zan _ _ _ rfl
  have hal:acc.length < 1000000:=by simp at hl;lia
  simp only [show ((0:Nat):Int)=0 from rfl] at hw
  simp (disch:=first | decide | assumption | lia) only [ZbN,ZbO,X_k,Zp,ZX,Zx,Zs,Zi,Zc,Zr,Zu,Zz,ZbF,ZiY,Z_ex,ZE,ZK,Za,c_ne,c_lt,Zv,Zd,Zg,ZeH,ZI,Zdc,Zj,Ze,Zf,Zk,Zl,ZdJ,ZdK,Zb,ZaF,Zq,ZQ,zc6,hw,hi,ZlW B]
  refine hs.trans ?_
  rw [List.append_assoc];rfl
theorem ZcB (a:D) (l):index (.list (a::l)) (.int 0) = .ok a:=ZbB (b:=a::l) (i:=0) (by simp)
theorem Zho (a:D) (l):slice (.list (a::l)) (.int 1) .none = .ok (.list l):=by
 have e:clip (a::l).length 1=1:=Zhf (Nat.le_add_left 1 _)
 rw [Zjj,e]
 simp [cut]
theorem Zlf (as:List Nat) (h:as≠[]):∃pre u,arcsB as=pre ++ [u]∧u.toNat < 128:=by
 obtain ⟨as',a,rfl⟩:∃l a,as=l ++ [a]:=⟨as.dropLast,as.getLast h,(List.dropLast_concat_getLast h).symm⟩
 exact ⟨arcsB as'++arcH (a / 128),UInt8.ofNat (a % 128),by simp [arcsB,arcB],by rw [Zaa (by lia)];exact Nat.mod_lt _ (by decide)⟩
theorem ZjY (B:Base T) (a0:Nat) (as:List Nat) (hb:∀a∈a0::as,a < 128 ^ 100) (hl:as.length≤900) :
  CL T (r+2) 22 [.bytes (arcsB (a0::as))] = .ok (.list (.int (min (a0 / 40) 2:Nat)::.int ((a0 - 40*min (a0 / 40) 2:Nat):Int)::as.map nD)):=by
 rw [ZJ B.f22 rfl (by decide)]
 obtain ⟨s4,s5,hw⟩:=Zmm B (r:=r) (arcsB (a0::as)) .un (a0::as) [] [] .un .un (by simp) hb (by simp;exact Nat.le_trans (by assumption) (by decide))
 simp only [List.length_nil,show ((0:Nat):Int)=0 from rfl] at hw
 obtain ⟨pre,u,hp,hu⟩:=Zlf (a0::as) (by simp)
 have hi:index (.bytes (arcsB (a0::as))) (.int (((arcsB (a0::as)).length:Int) - 1)) = .ok (.int (u.toNat:Nat)):=by
  rw [hp];exact Zan pre [] u (by simp)
 have hlen:0 < (arcsB (a0::as)).length:=by rw [hp];simp
 have hdiv:((a0:Nat):Int) / 40=((a0 / 40:Nat):Int):=by rfl
 have hcat:∀x y:D,binop .Add (.list [x,y]) (.list (as.map nD)) = .ok (.list (x::y::as.map nD)):=by
  intro x y;rw [ZhX (by simp [SZ];lia)];rfl
 by_cases h2:a0 / 40≤2
 ·have e1:min (a0 / 40) 2=a0 / 40:=by lia
  have e2:((a0:Nat):Int) - 40*((a0 / 40:Nat):Int)=((a0 - 40*(a0 / 40):Nat):Int):=by lia
  rw [e1]
  simp (disch:=first | decide | assumption | lia) only [ZfJ,X_k,Zp,ZB,Zcd,ZX,Zx,Zbk,Zac,P_bi,Zs,Zi,Zc,Zr,Zu,ZD,Zz,ZhH,Zt,ZbF,ZfM,Z_ex,ZE,Za,ZaC,c_lt,c_gt,Zn,Zd,Zap,Zg,Zeb,ZA,ZI,Zed,ZW,Zj,Ze,Zf,Zk,Zl,ZfS,Zhd,ZfT,Zb,Zq,zc6,zc7,zc8,zc9,zc16,zc17,hw,hi,ZT B,nD,ZcB,Zgo,hdiv,ZeR,e2,Zho]
  rw [hcat]
  rfl
 ·have e1:min (a0 / 40) 2=2:=by lia
  have e2:((a0:Nat):Int) - 40*2=((a0 - 40*2:Nat):Int):=by lia
  rw [e1]
  simp (disch:=first | decide | assumption | lia) only [ZfJ,X_k,Zp,ZB,Zcd,ZX,Zx,Zbk,Zac,P_bi,Zs,Zi,Zc,Zr,Zu,ZD,Zz,ZhH,Zt,ZbF,ZfM,Z_ex,ZE,Za,ZaC,c_lt,c_gt,Zn,Zd,Zap,Zg,Zeb,ZP,ZI,Zed,ZW,Zj,Ze,Zf,Zk,Zl,ZfS,Zhd,ZfT,Zb,Zq,zc6,zc7,zc8,zc9,zc16,zc17,hw,hi,ZT B,nD,ZcB,Zgo,hdiv,ZeR,e2,Zho]
  rw [hcat]
  rfl
end DK.Internal.B
end
section
set_option backward.match.sparseCases false
set_option genSizeOf false
set_option genCtorIdx false
namespace DK.Internal.B
open PySem
noncomputable def tlv (t c:List UInt8):List UInt8:=t++(lenB c.length++c)
theorem ZaW (n:Nat):(lenB n).length≤3:=by unfold lenB;split<;>(try split)<;>simp
theorem ZnV (n:Nat):0 < (lenB n).length:=by unfold lenB;split<;>(try split)<;>simp
theorem catL {t:List UInt8} {n:Nat} (ht:t.length≤1000):binop .Add (.bytes t) (.bytes (lenB n)) = .ok (.bytes (t++lenB n)):=by
 rw [ZdL];have:=ZaW n;unfold SZ;lia
theorem catC {t c:List UInt8} (ht:t.length≤1000) (hc:c.length < 65536):binop .Add (.bytes (t++lenB c.length)) (.bytes c) = .ok (.bytes (tlv t c)):=by
 rw [ZdL]
 ·simp [tlv]
 ·have:=ZaW c.length;unfold SZ;rw [List.length_append];lia
theorem Zmn:getO (.ok ZdS) (.ok [.str sBool,.int 2]) = .ok (.int 2):=rfl
theorem ZnW:getO (.ok ZdS) (.ok [.str sInt,.int 2]) = .ok (.int 2):=rfl
theorem Zmo:getO (.ok ZdS) (.ok [.str sBits,.int 2]) = .ok (.int 3):=rfl
theorem Zlg:getO (.ok ZdS) (.ok [.str sBytes,.int 2]) = .ok (.int 2):=rfl
theorem Zmp:getO (.ok ZdS) (.ok [.str sNull,.int 2]) = .ok (.int 1):=rfl
theorem ZnX:getO (.ok ZdS) (.ok [.str sOid,.int 2]) = .ok (.int 2):=rfl
theorem Zmq:getO (.ok ZdS) (.ok [.str sEnum,.int 2]) = .ok (.int 2):=rfl
theorem Zmr:getO (.ok ZdS) (.ok [.str sUtf8,.int 2]) = .ok (.int 2):=rfl
theorem Zlh:getO (.ok ZdS) (.ok [.str sPrint,.int 2]) = .ok (.int 2):=rfl
theorem Zms:getO (.ok ZdS) (.ok [.str sTime,.int 2]) = .ok (.int 2):=rfl
theorem ZnY:getO (.ok ZdS) (.ok [.str sSeq,.int 2]) = .ok (.int 2):=rfl
theorem ZnZ:getO (.ok ZdS) (.ok [.str sSet,.int 2]) = .ok (.int 2):=rfl
theorem ZjZ:getO (.ok ZdS) (.ok [.str sTagged,.int 2]) = .ok (.int 3):=rfl
theorem Zjp:getO (.ok Zea) (.ok [.int ((1:Nat):Int)]) = .ok (.str sBool):=rfl
theorem Zjq:index Zdi (.str sBool) = .ok (.int ((1:Nat):Int)):=rfl
theorem Zoa:getO (.ok Zea) (.ok [.int ((2:Nat):Int)]) = .ok (.str sInt):=rfl
theorem Zob:index Zdi (.str sInt) = .ok (.int ((2:Nat):Int)):=rfl
theorem Zmt:getO (.ok Zea) (.ok [.int ((3:Nat):Int)]) = .ok (.str sBits):=rfl
theorem Zjr:index Zdi (.str sBits) = .ok (.int ((3:Nat):Int)):=rfl
theorem Zli:getO (.ok Zea) (.ok [.int ((4:Nat):Int)]) = .ok (.str sBytes):=rfl
theorem Zlj:index Zdi (.str sBytes) = .ok (.int ((4:Nat):Int)):=rfl
theorem Zmu:getO (.ok Zea) (.ok [.int ((5:Nat):Int)]) = .ok (.str sNull):=rfl
theorem Zmv:index Zdi (.str sNull) = .ok (.int ((5:Nat):Int)):=rfl
theorem Zoc:getO (.ok Zea) (.ok [.int ((6:Nat):Int)]) = .ok (.str sOid):=rfl
theorem Zky:index Zdi (.str sOid) = .ok (.int ((6:Nat):Int)):=rfl
theorem Zmw:getO (.ok Zea) (.ok [.int ((10:Nat):Int)]) = .ok (.str sEnum):=rfl
theorem Zmx:index Zdi (.str sEnum) = .ok (.int ((10:Nat):Int)):=rfl
theorem Zmy:getO (.ok Zea) (.ok [.int ((12:Nat):Int)]) = .ok (.str sUtf8):=rfl
theorem Zmz:index Zdi (.str sUtf8) = .ok (.int ((12:Nat):Int)):=rfl
theorem Zlk:getO (.ok Zea) (.ok [.int ((19:Nat):Int)]) = .ok (.str sPrint):=rfl
theorem Zll:index Zdi (.str sPrint) = .ok (.int ((19:Nat):Int)):=rfl
theorem ZmA:getO (.ok Zea) (.ok [.int ((24:Nat):Int)]) = .ok (.str sTime):=rfl
theorem ZmB:index Zdi (.str sTime) = .ok (.int ((24:Nat):Int)):=rfl
theorem Zkz:getO (.ok Zea) (.ok [.int ((48:Nat):Int)]) = .ok (.str sSeq):=rfl
theorem Zod:index Zdi (.str sSeq) = .ok (.int ((48:Nat):Int)):=rfl
theorem ZkA:getO (.ok Zea) (.ok [.int ((49:Nat):Int)]) = .ok (.str sSet):=rfl
theorem Zoe:index Zdi (.str sSet) = .ok (.int ((49:Nat):Int)):=rfl
theorem ix1_0 (a:D):index (.tuple [a]) (.int 0) = .ok a:=rfl
theorem Zag (a b:D):index (.tuple [a,b]) (.int 0) = .ok a:=rfl
theorem Zak (a b:D):index (.tuple [a,b]) (.int 1) = .ok b:=rfl
theorem Zgs (a b c:D):index (.tuple [a,b,c]) (.int 0) = .ok a:=rfl
theorem Zgt (a b c:D):index (.tuple [a,b,c]) (.int 1) = .ok b:=rfl
theorem Zhp (a b c:D):index (.tuple [a,b,c]) (.int 2) = .ok c:=rfl
theorem ix4_0 (a b c d:D):index (.tuple [a,b,c,d]) (.int 0) = .ok a:=rfl
theorem isT_bb (a b):isThing (.bool a) (.bool b) = .ok (a == b):=rfl
theorem bt1:(false == true)=false:=rfl
theorem bt2:(true == true)=true:=rfl
theorem bt3:(false == false)=true:=rfl
theorem ZcC (xs):isiK .tTuple (.tuple xs) = .ok (.bool true):=rfl
theorem Zhq (xs):isiK .tBytes (.bytes xs) = .ok (.bool true):=rfl
theorem Zka (xs):isiK .tList (.list xs) = .ok (.bool true):=rfl
variable {T:Text} {r:Nat}
theorem Zhr (B:Base T) (b:Bool):CL T (r+3) 19 [.tuple [.str sBool,.bool b]] = .ok .none:=by
 rw [ZJ B.f19 rfl (by decide)]
 cases b<;>simp (disch:=first | decide | assumption | lia) only [ZV,X_k,Zp,Zcd,P_or,ZX,Zx,P_bi,Zcw,ZfL,Zs,Zi,Zc,Zr,Zu,Zz,Zt,Z_ex,Za,c_eq,c_gt,ZaQ,ZaH,Zv,Zd,Zg,ZG,ZI,ZdU,orO_t,Zgn,Zj,Ze,Zf,Zk,Zl,Zb,okB_,Zq,ZQ,zc6,zc7,zc8,zc9,zc16,zc17,Zag,Zak,ZcC,List.length_cons,List.length_nil,ZH B.g0,ZH B.g3,ZT B,ZF B,c_is,isT_bb,bt1,bt2,bt3,ZnI,Zmn,Zaz,ZbQ]
theorem Zlm (B:Base T) (n:Int):CL T (r+3) 19 [.tuple [.str sInt,.int n]] = .ok .none:=by
 rw [ZJ B.f19 rfl (by decide)]
 simp (disch:=first | decide | assumption | lia) only [ZV,X_k,Zp,Zcd,P_or,ZX,Zx,P_bi,Zcw,ZfL,Zs,Zi,Zc,R_or,Zr,Zu,Zz,Zt,Z_ex,Za,c_eq,c_gt,ZaQ,ZaH,Zv,Zd,Zg,ZG,Zy,ZI,ZdU,Zgn,ZgW,Zj,Ze,Zf,Zk,Zl,Zb,okB_,Zq,ZQ,zc6,zc7,zc8,zc9,zc16,zc17,Zag,Zak,ZcC,List.length_cons,List.length_nil,ZH B.g0,ZH B.g3,ZT B,ZF B,ZeU B,Zpp,ZnW,Zce,ZdW,ZdI]
theorem Zkb (B:Base T) (n:Int):CL T (r+3) 19 [.tuple [.str sEnum,.int n]] = .ok .none:=by
 rw [ZJ B.f19 rfl (by decide)]
 simp (disch:=first | decide | assumption | lia) only [ZV,X_k,Zp,Zcd,P_or,ZX,Zx,P_bi,Zcw,ZfL,Zs,Zi,Zc,R_or,Zr,Zu,Zz,Zt,Z_ex,Za,c_eq,c_gt,ZaQ,ZaH,Zv,Zd,Zg,ZG,Zy,ZI,ZdU,Zgn,ZgW,Zai,Zj,Ze,Zf,Zk,Zl,Zb,okB_,Zq,ZQ,zc6,zc7,zc8,zc9,zc16,zc17,Zag,Zak,ZcC,List.length_cons,List.length_nil,ZH B.g0,ZH B.g3,ZT B,ZF B,ZeU B,ZnL,Zmq,ZbI,Zdu,ZcL,Zdk]
theorem ZdO (B:Base T) (u:Int) (b:List UInt8):CL T (r+3) 19 [.tuple [.str sBits,.int u,.bytes b]] = .ok .none:=by
 rw [ZJ B.f19 rfl (by decide)]
 simp (disch:=first | decide | assumption | lia) only [ZV,X_k,Zp,Zcd,P_or,ZX,Zx,P_bi,Zcw,ZfL,Zs,Zi,Zc,R_or,Zr,Zu,Zz,Zt,Z_ex,Za,c_eq,c_gt,ZaQ,ZaH,Zv,Zd,Zg,ZG,Zy,ZI,ZdU,Zgn,Zai,Zj,Ze,Zf,Zk,Zl,Zb,okB_,Zq,ZQ,zc6,zc7,zc8,zc9,zc16,zc17,Zgs,Zgt,Zhp,ZcC,Zhq,List.length_cons,List.length_nil,ZH B.g0,ZH B.g3,ZT B,ZF B,ZeU B,ZnJ,Zmo,Zal,Zay,Zar,Zas,Zau]
theorem Zjs (B:Base T) (b:List UInt8):CL T (r+3) 19 [.tuple [.str sBytes,.bytes b]] = .ok .none:=by
 rw [ZJ B.f19 rfl (by decide)]
 simp (disch:=first | decide | assumption | lia) only [ZV,X_k,Zp,Zcd,P_or,ZX,Zx,P_bi,Zcw,ZfL,Zs,Zi,Zc,R_or,Zr,Zu,Zz,Zt,Z_ex,Za,c_eq,c_ne,c_gt,ZaQ,ZaH,Zv,Zd,Zg,ZG,Zy,ZI,ZdU,Zgn,Zai,Zj,Ze,Zf,Zk,Zl,Zb,okB_,ZaF,Zq,ZQ,zc5,zc6,zc7,zc8,zc9,zc16,zc17,Zag,Zak,ZcC,Zhq,List.length_cons,List.length_nil,ZH B.g0,ZH B.g3,ZT B,ZF B,ZlP,Zlg,Zbm,ZcF,Zcf,Zcg,ZbG,Zch,ZcG,ZcH,Zcz]
theorem Zkc (B:Base T) (b:List UInt8):CL T (r+3) 19 [.tuple [.str sUtf8,.bytes b]] = .ok .none:=by
 rw [ZJ B.f19 rfl (by decide)]
 simp (disch:=first | decide | assumption | lia) only [ZV,X_k,Zp,Zcd,P_or,ZX,Zx,P_bi,Zcw,ZfL,Zs,Zi,Zc,R_or,Zr,Zu,Zz,Zt,Z_ex,Za,c_eq,c_ne,c_gt,ZaQ,ZaH,Zv,Zd,Zg,ZG,Zy,ZI,ZdU,Zgn,Zai,Zj,Ze,Zf,Zk,Zl,Zb,okB_,ZaF,Zq,ZQ,zc5,zc6,zc7,zc8,zc9,zc16,zc17,Zag,Zak,ZcC,Zhq,List.length_cons,List.length_nil,ZH B.g0,ZH B.g3,ZT B,ZF B,ZnM,Zmr,ZbJ,Zdv,ZcM,ZcN,Zcl,ZcO,Zdw,Zdx,Zdl]
theorem Zjt (B:Base T) (b:List UInt8):CL T (r+3) 19 [.tuple [.str sPrint,.bytes b]] = .ok .none:=by
 rw [ZJ B.f19 rfl (by decide)]
 simp (disch:=first | decide | assumption | lia) only [ZV,X_k,Zp,Zcd,P_or,ZX,Zx,P_bi,Zcw,ZfL,Zs,Zi,Zc,R_or,Zr,Zu,Zz,Zt,Z_ex,Za,c_eq,c_ne,c_gt,ZaQ,ZaH,Zv,Zd,Zg,ZG,Zy,ZI,ZdU,Zgn,Zai,Zj,Ze,Zf,Zk,Zl,Zb,okB_,ZaF,Zq,ZQ,zc5,zc6,zc7,zc8,zc9,zc16,zc17,Zag,Zak,ZcC,Zhq,List.length_cons,List.length_nil,ZH B.g0,ZH B.g3,ZT B,ZF B,ZlQ,Zlh,Zbn,ZcP,Zcm,Zcn,ZbK,Zco,ZcQ,ZcR,ZcA]
theorem Zkd (B:Base T) (b:List UInt8):CL T (r+3) 19 [.tuple [.str sTime,.bytes b]] = .ok .none:=by
 rw [ZJ B.f19 rfl (by decide)]
 simp (disch:=first | decide | assumption | lia) only [ZV,X_k,Zp,Zcd,P_or,ZX,Zx,P_bi,Zcw,ZfL,Zs,Zi,Zc,R_or,Zr,Zu,Zz,Zt,Z_ex,Za,c_eq,c_ne,c_gt,ZaQ,ZaH,Zv,Zd,Zg,ZG,Zy,ZI,ZdU,Zgn,Zai,Zj,Ze,Zf,Zk,Zl,Zb,okB_,ZaF,Zq,ZQ,zc5,zc6,zc7,zc8,zc9,zc16,zc17,Zag,Zak,ZcC,Zhq,List.length_cons,List.length_nil,ZH B.g0,ZH B.g3,ZT B,ZF B,ZnN,Zms,ZbL,Zdy,ZcS,ZcT,Zcp,ZcU,Zdz,ZdA,Zdm]
theorem Zke (B:Base T)  : CL T (r+3) 19 [.tuple [.str sNull]] = .ok .none:=by
 rw [ZJ B.f19 rfl (by decide)]
 simp (disch:=first | decide | assumption | lia) only [ZV,X_k,Zp,Zcd,P_or,ZX,Zx,P_bi,Zcw,ZfL,Zs,Zi,Zc,R_or,Zr,Zu,Zz,Zt,Z_ex,Za,c_eq,c_ne,c_gt,ZaQ,ZaH,Zv,Zd,Zg,Zy,ZI,ZdU,Zgn,Zai,Zj,Ze,Zf,Zk,Zl,Zb,okB_,ZaF,Zq,ZQ,zc4,zc6,zc7,zc8,zc9,zc16,zc17,ix1_0,ZcC,List.length_cons,List.length_nil,ZH B.g0,ZH B.g3,ZT B,ZF B,ZnK,Zmp,ZbH,Zds,ZcI,ZcJ,Zes,ZcK,ZfP,ZfQ,Zdj]
theorem ZhZ (B:Base T) (xs:List D):CL T (r+3) 19 [.tuple [.str sSeq,.list xs]] = .ok .none:=by
 rw [ZJ B.f19 rfl (by decide)]
 simp (disch:=first | decide | assumption | lia) only [ZV,X_k,Zp,Zcd,P_or,ZX,Zx,P_bi,Zcw,ZfL,Zs,Zi,Zc,R_or,Zr,Zu,Zz,Zt,Z_ex,Za,c_eq,c_gt,ZaQ,ZaH,Zv,Zd,Zg,ZG,Zy,ZI,ZdU,Zgn,ZgW,Zai,Zj,Ze,Zf,Zk,Zl,Zb,okB_,Zq,ZQ,zc6,zc7,zc8,zc9,zc16,zc17,Zag,Zak,ZcC,Zka,List.length_cons,List.length_nil,ZH B.g0,ZH B.g3,ZT B,ZF B,Zpr,ZnY,Zby,Zde,Zcq,ZbZ,Zcr,Zca,Zcs]
theorem Zgu (B:Base T) (xs:List D):CL T (r+3) 19 [.tuple [.str sSet,.list xs]] = .ok .none:=by
 rw [ZJ B.f19 rfl (by decide)]
 simp (disch:=first | decide | assumption | lia) only [ZV,X_k,Zp,Zcd,P_or,ZX,Zx,P_bi,Zcw,ZfL,Zs,Zi,Zc,R_or,Zr,Zu,Zz,Zt,Z_ex,Za,c_eq,c_gt,ZaQ,ZaH,Zv,Zd,Zg,ZG,Zy,ZI,ZdU,Zgn,Zai,Zj,Ze,Zf,Zk,Zl,Zb,okB_,Zq,ZQ,zc6,zc7,zc8,zc9,zc16,zc17,Zag,Zak,ZcC,Zka,List.length_cons,List.length_nil,ZH B.g0,ZH B.g3,ZT B,ZF B,Zps,ZnZ,ZaU,Zcb,Zbz,Zbo,ZbA,Zbp,Zbq,Zbr]
theorem ZfV (B:Base T) (n:Int) (x:D):CL T (r+3) 19 [.tuple [.str sTagged,.int n,x]] = .ok .none:=by
 rw [ZJ B.f19 rfl (by decide)]
 simp (disch:=first | decide | assumption | lia) only [ZV,X_k,Zp,Zcd,P_or,ZX,Zx,P_bi,Zcw,ZfL,Zs,Zi,Zc,R_or,Zr,Zu,Zz,Zt,Z_ex,Za,c_eq,c_gt,ZaQ,ZaH,Zv,Zd,Zg,ZG,Zy,ZI,ZdU,orO_t,Zai,Zj,Ze,Zf,Zk,Zl,Zb,okB_,Zq,ZQ,zc6,zc7,zc8,zc9,zc16,zc17,Zgs,Zgt,ZcC,List.length_cons,List.length_nil,ZH B.g3,ZT B,ZF B,ZeU B,ZjZ,ZeA,Zhb,ZgI,Zbj]
theorem Zln (B:Base T) (s0 s1:Slot):∀(as:List Int) (s2:Slot),∃sl,FE T (r+2) (.one 2) ZbC (as.map .int) [s0,s1,s2] = .ok (.next,sl):=by
 intro as
 induction as with
 | nil=>intro s2;exact ⟨_,rfl⟩
 | cons a as ih=>
  intro s2
  obtain ⟨sl,hs⟩:=ih (.val (.int a))
  refine ⟨sl,?_⟩
  rw [List.map_cons,ZkZ]
  generalize FE T (r+2) (.one 2) ZbC (as.map .int)=w at hs ⊢
  simp (disch:=first | decide | assumption | lia) only [ZbC,Zp,Zs,Zi,Zc,Zu,Z_ex,ZK,Zbs,Zd,ZI,ZhV,Zj,Ze,Zf,Zk,Zl,Zb,Zq,ZQ,ZeU B,ZF B,hs]
theorem Zlo (B:Base T) (as:List Int):CL T (r+3) 19 [.tuple [.str sOid,.list (as.map .int)]] = .ok .none:=by
 rw [ZJ B.f19 rfl (by decide)]
 obtain ⟨sl,hs⟩:=Zln B (r:=r) (.val (.tuple [.str sOid,.list (as.map .int)])) (.val (.str sOid)) as .un
 simp (disch:=first | decide | assumption | lia) only [ZV,X_k,Zp,Zcd,P_or,ZX,Zx,P_bi,Zcw,ZfL,Zs,Zi,Zc,R_or,Zr,ZdE,Zu,Zz,Zt,ZhI,Z_ex,ZE,Za,c_eq,c_gt,ZaQ,ZaH,Zv,Zd,Zg,ZG,Zy,Zec,ZI,ZdU,Zgn,Zai,Zj,Ze,Zf,Zk,Zl,Zb,okB_,Zq,ZQ,zc6,zc7,zc8,zc9,zc16,zc17,Zag,Zak,ZcC,Zka,List.length_cons,List.length_nil,ZH B.g0,ZH B.g3,ZT B,ZF B,itemsOf,hs,Zpq,ZnX,Zbx,Zdd,Zci,ZbY,Zcj,Zck]
end DK.Internal.B
end
section
set_option backward.match.sparseCases false
set_option genSizeOf false
set_option genCtorIdx false
namespace DK.Internal.B
open PySem
variable {T:Text} {r:Nat}
noncomputable def oneB (k:Nat):List UInt8:= [UInt8.ofNat k]
theorem Zaf {n:Nat} (h:n < 256):builtin .bytes [.list [.int (n:Nat)]] = .ok (.bytes (oneB n)):=Zjm h
theorem ZC (k:Nat):(oneB k).length=1:=rfl
theorem ZfG (k n:Nat):binop .Add (.bytes (oneB k)) (.bytes (lenB n)) = .ok (.bytes (oneB k++lenB n)):=catL (by simp [oneB])
theorem Zgv {c:List UInt8} (k:Nat) (hc:c.length < 65536):binop .Add (.bytes (oneB k++lenB c.length)) (.bytes c) = .ok (.bytes (tlv (oneB k) c)):=catC (by simp [oneB]) hc
theorem ZkB (B:Base T) (b:Bool):CL T (r+20) 20 [.tuple [.str sBool,.bool b]] = .ok (.bytes (tlv (oneB 1) (if b=true then [255] else [0]))):=by
 rw [ZJ B.f20 rfl (by decide)]
 cases b
 ·have hw:=ZO B (r:=r+10) (n:= [(0:UInt8)].length) (by decide)
  have hc:=Zgv (c:= [(0:UInt8)]) 1 (by decide)
  generalize hg : [(0:UInt8)]=c at hw hc
  simp (disch:=first | decide | assumption | lia) only [Zaj,X_k,Zp,ZB,Zx,Zac,P_bi,Zs,Zi,Zc,Zr,R_idx,Zu,ZD,Zz,Zt,Z_ex,Za,ZN,c_eq,Zn,Zh,Zd,Zo,Zg,ZG,Zy,ZI,ZW,Zj,Ze,Zf,Zk,Zl,Zb,okB_,Zq,zc6,zc7,zc8,zc9,zc13,zc16,zc17,Zag,Zak,Zhr B,Zaz,ZbQ,ZH B.g0,Zjq,Zaf,hg,hw,ZfG,hc]
 ·have hw:=ZO B (r:=r+10) (n:= [(255:UInt8)].length) (by decide)
  have hc:=Zgv (c:= [(255:UInt8)]) 1 (by decide)
  generalize hg : [(255:UInt8)]=c at hw hc
  simp (disch:=first | decide | assumption | lia) only [Zaj,X_k,Zp,ZB,Zx,Zac,P_bi,Zs,Zi,Zc,Zr,R_idx,Zu,ZD,Zz,Zt,Z_ex,Za,ZN,c_eq,Zn,Zh,Zd,Zo,Zg,ZG,Zy,ZI,ZW,Zj,Ze,Zf,Zk,Zl,Zb,okB_,Zq,zc2,zc6,zc7,zc8,zc9,zc16,zc17,Zag,Zak,Zhr B,Zaz,ZbQ,ZH B.g0,Zjq,Zaf,hg,hw,ZfG,hc]
theorem ZkC (B:Base T):CL T (r+20) 20 [.tuple [.str sNull]] = .ok (.bytes (tlv (oneB 5) [])):=by
 rw [ZJ B.f20 rfl (by decide)]
 have hw:=ZO B (r:=r+10) (n:=([]:List UInt8).length) (by decide)
 have hc:=Zgv (c:= []) 5 (by decide)
 generalize hg:([]:List UInt8)=c at hw hc
 simp (disch:=first | decide | assumption | lia) only [Zaj,X_k,Zp,ZB,Zx,Zac,P_bi,Zs,Zi,Zc,R_or,Zr,Zu,ZD,Zz,Zt,Z_ex,Za,c_eq,Zn,Zh,Zd,Zo,Zg,ZG,Zy,ZI,Zai,ZW,Zj,Ze,Zf,Zk,Zl,Zb,okB_,Zq,zc6,zc7,zc8,zc9,zc16,zc17,ix1_0,Zke B,ZbH,Zds,ZcI,ZcJ,ZcK,Zdj,ZH B.g0,Zmv,Zaf,hg,hw,ZfG,hc]
theorem ZpJ (B:Base T) (n:Int) (hl:(intB n).length≤1000):CL T (r+20) 20 [.tuple [.str sInt,.int n]] = .ok (.bytes (tlv (oneB 2) (intB n))):=by
 rw [ZJ B.f20 rfl (by decide)]
 have hw:=ZO B (r:=r+10) (n:=(intB n).length) (by exact Nat.lt_of_le_of_lt (by assumption) (by decide))
 have hc:=Zgv (c:=intB n) 2 (by exact Nat.lt_of_le_of_lt (by assumption) (by decide))
 have hi:=ZgB B (r:=r+10) n hl
 simp (disch:=first | decide | assumption | lia) only [Zaj,X_k,Zp,ZB,Zx,Zac,P_bi,Zs,Zi,Zc,R_or,Zr,Zu,ZD,Zz,Zt,Z_ex,Za,c_eq,Zn,Zh,Zd,Zo,Zg,ZG,Zy,ZI,ZgW,ZW,Zj,Ze,Zf,Zk,Zl,Zb,okB_,Zq,zc6,zc7,zc8,zc9,zc16,zc17,Zag,Zak,Zlm B,Zce,ZdW,ZdI,ZH B.g0,Zob,Zaf,hi,hw,ZfG,hc]
theorem Zof (B:Base T) (n:Int) (hl:(intB n).length≤1000):CL T (r+20) 20 [.tuple [.str sEnum,.int n]] = .ok (.bytes (tlv (oneB 10) (intB n))):=by
 rw [ZJ B.f20 rfl (by decide)]
 have hw:=ZO B (r:=r+10) (n:=(intB n).length) (by exact Nat.lt_of_le_of_lt (by assumption) (by decide))
 have hc:=Zgv (c:=intB n) 10 (by exact Nat.lt_of_le_of_lt (by assumption) (by decide))
 have hi:=ZgB B (r:=r+10) n hl
 simp (disch:=first | decide | assumption | lia) only [Zaj,X_k,Zp,ZB,Zx,Zac,P_bi,Zs,Zi,Zc,R_or,Zr,Zu,ZD,Zz,Zt,Z_ex,Za,c_eq,Zn,Zh,Zd,Zo,Zg,ZG,Zy,ZI,Zai,ZW,Zj,Ze,Zf,Zk,Zl,Zb,okB_,Zq,zc6,zc7,zc8,zc9,zc16,zc17,Zag,Zak,Zkb B,ZbI,Zdu,ZcL,Zdk,ZH B.g0,Zmx,Zaf,hi,hw,ZfG,hc]
theorem ZmC (B:Base T) (b:List UInt8) (hl:b.length < 65536):CL T (r+20) 20 [.tuple [.str sBytes,.bytes b]] = .ok (.bytes (tlv (oneB 4) b)):=by
 rw [ZJ B.f20 rfl (by decide)]
 have hw:=ZO B (r:=r+10) (n:=b.length) hl
 have hc:=Zgv (c:=b) 4 hl
 simp (disch:=first | decide | assumption | lia) only [Zaj,X_k,Zp,ZB,Zx,Zac,P_bi,Zs,Zi,Zc,R_or,Zr,Zu,ZD,Zz,Zt,Z_ex,Za,c_eq,Zn,Zh,Zd,Zo,Zg,Zy,ZI,Zai,ZW,Zj,Ze,Zf,Zk,Zl,Zb,okB_,Zq,zc6,zc7,zc8,zc9,zc16,zc17,Zag,Zak,Zjs B,Zbm,ZcF,Zcf,Zcg,ZbG,Zch,ZcG,ZcH,Zcz,ZH B.g0,Zlj,Zaf,Zjo B,ZF B,hw,ZfG,hc]
theorem ZkD (B:Base T) (b:List UInt8) {g:Bool} (ht:CL T (r+15+4) 17 [.str sUtf8,.bytes b] = .ok (.bool g)) (hl:b.length < 65536):CL T (r+20) 20 [.tuple [.str sUtf8,.bytes b]]=if g=true then .ok (.bytes (tlv (oneB 12) b)) else .exc:=by
 rw [ZJ B.f20 rfl (by decide)]
 have hw:=ZO B (r:=r+10) (n:=b.length) hl
 have hc:=Zgv (c:=b) 12 hl
 cases g <;>
 simp (disch:=first | decide | assumption | lia) only [Zaj,X_k,Zp,ZB,Zx,Zac,P_bi,Zs,Zi,Zc,R_or,Zr,Zu,ZD,Zz,Zt,Z_ex,Za,c_eq,Zn,Zh,Zd,Zo,Zg,Zy,ZI,Zbl,Zai,ZW,Zj,Ze,Zf,Zk,Zl,Zb,ZY,okB_,Zq,zc2,zc6,zc7,zc8,zc9,zc13,zc16,zc17,Zag,Zak,Zkc B,ZbJ,Zdv,ZcM,ZcN,Zcl,ZcO,Zdw,Zdx,Zdl,ZH B.g0,Zmz,Zaf,ht,ZF B,Zfb B,hw,ZfG,hc]
theorem Zju (B:Base T) (b:List UInt8) {g:Bool} (ht:CL T (r+15+4) 17 [.str sPrint,.bytes b] = .ok (.bool g)) (hl:b.length < 65536):CL T (r+20) 20 [.tuple [.str sPrint,.bytes b]]=if g=true then .ok (.bytes (tlv (oneB 19) b)) else .exc:=by
 rw [ZJ B.f20 rfl (by decide)]
 have hw:=ZO B (r:=r+10) (n:=b.length) hl
 have hc:=Zgv (c:=b) 19 hl
 cases g <;>
 simp (disch:=first | decide | assumption | lia) only [Zaj,X_k,Zp,ZB,Zx,Zac,P_bi,Zs,Zi,Zc,R_or,Zr,Zu,ZD,Zz,Zt,Z_ex,Za,c_eq,Zn,Zh,Zd,Zo,Zg,Zy,ZI,Zbl,Zai,ZW,Zj,Ze,Zf,Zk,Zl,Zb,ZY,okB_,Zq,zc2,zc6,zc7,zc8,zc9,zc13,zc16,zc17,Zag,Zak,Zjt B,Zbn,ZcP,Zcm,Zcn,ZbK,Zco,ZcQ,ZcR,ZcA,ZH B.g0,Zll,Zaf,ht,ZF B,Zfb B,hw,ZfG,hc]
theorem ZiE (B:Base T) (b:List UInt8) {g:Bool} (ht:CL T (r+15+4) 17 [.str sTime,.bytes b] = .ok (.bool g)) (hl:b.length < 65536):CL T (r+20) 20 [.tuple [.str sTime,.bytes b]]=if g=true then .ok (.bytes (tlv (oneB 24) b)) else .exc:=by
 rw [ZJ B.f20 rfl (by decide)]
 have hw:=ZO B (r:=r+10) (n:=b.length) hl
 have hc:=Zgv (c:=b) 24 hl
 cases g <;>
 simp (disch:=first | decide | assumption | lia) only [Zaj,X_k,Zp,ZB,Zx,Zac,P_bi,Zs,Zi,Zc,R_or,Zr,Zu,ZD,Zz,Zt,Z_ex,Za,c_eq,Zn,Zh,Zd,Zo,Zg,Zy,ZI,Zbl,Zai,ZW,Zj,Ze,Zf,Zk,Zl,Zb,ZY,okB_,Zq,zc2,zc6,zc7,zc8,zc9,zc13,zc16,zc17,Zag,Zak,Zkd B,ZbL,Zdy,ZcS,ZcT,Zcp,ZcU,Zdz,ZdA,Zdm,ZH B.g0,ZmB,Zaf,ht,ZF B,Zfb B,hw,ZfG,hc]
noncomputable def bitsP (u:Nat) (b:List UInt8):Bool:=decide (u < 8) && (decide (0 < b.length∨u=0) && (decide (b.length=0) || decide (at0 b (b.length - 1) % 2 ^ u=0)))
theorem Zog (B:Base T) (u:Nat) (b:List UInt8) (hu:u < 256) (hl:b.length < 60000):CL T (r+20) 20 [.tuple [.str sBits,.int (u:Nat),.bytes b]] =
  if bitsP u b=true then .ok (.bytes (tlv (oneB 3) (oneB u++b))) else .exc:=by
 rw [ZJ B.f20 rfl (by decide)]
 have hcl:(oneB u++b).length=b.length+1:=by simp [oneB]
 have hw:=ZO B (r:=r+10) (n:=(oneB u++b).length) (by exact Nat.lt_of_le_of_lt (by assumption) (by decide))
 have hc:=Zgv (c:=oneB u++b) 3 (by exact Nat.lt_of_le_of_lt (by assumption) (by decide))
 have h1:binop .Add (.bytes (oneB u)) (.bytes b) = .ok (.bytes (oneB u++b)):=ZdL (by rw [ZC];unfold SZ;lia)
 by_cases h8:u < 8
 ·by_cases h0:0 < b.length
  ·have hi:=ZgO (b:=b) (i:=b.length - 1) (j:=(b.length:Int) - 1) (by lia) (by lia)
   have hone:(1:Int).natAbs < BIG:=ZeB (k:=1) (by decide) (by decide)
   have e5:(1:Int)*2 ^ u - 1=((2 ^ u - 1:Nat):Int):=by
    have:0 < 2 ^ u:=Nat.pow_pos (by decide)
    rw [Int.natCast_sub (by assumption)];simp
   by_cases hz:at0 b (b.length - 1) % 2 ^ u=0
   ·have hp:bitsP u b=true:=by simp only [bitsP,h8,h0,hz,decide_true,true_or,Bool.and_self,Bool.or_true]
    rw [hp]
    simp (disch:=first | decide | assumption | lia) only [Zaj,X_k,Zp,ZB,Zcd,P_or,ZX,Zx,Zac,P_bi,Zs,Zi,Zc,R_or,Zr,Zu,ZD,Zz,Zt,Z_ex,Za,ZaC,c_eq,c_lt,c_le,c_gt,Zn,Zh,Zv,Zd,Zo,Zg,ZG,Zy,ZP,ZI,Zed,ZlN,Zai,ZW,Zj,Ze,Zf,Zk,Zl,Zb,okB_,Zq,zc2,zc6,zc7,zc8,zc9,zc16,zc17,Zgs,Zgt,Zhp,ZdO B,Zal,Zay,Zar,Zas,Zau,ZH B.g0,Zjr,Zaf,ZT B,ZF B,hi,ZeE,Int.toNat_natCast,e5,ZlR,Nat.and_two_pow_sub_one_eq_mod,hz,h1,hw,ZfG,hc]
   ·have hp:bitsP u b=false:=by simp only [bitsP,hz,show ¬(b.length=0) by exact Nat.ne_of_gt (by assumption),decide_false,Bool.or_self,Bool.and_false]
    rw [hp]
    simp (disch:=first | decide | assumption | lia) only [Zaj,X_k,Zp,ZB,Zcd,P_or,ZX,Zx,P_bi,Zs,Zi,Zc,R_or,Zr,Zu,Zz,Zt,Z_ex,Za,ZaC,c_eq,c_lt,c_le,c_gt,Zn,Zv,Zd,Zg,ZG,Zy,ZP,ZI,Zbl,Zed,ZlN,Zai,Zj,Ze,Zf,Zk,Zl,Zb,ZY,okB_,Zq,zc6,zc7,zc8,zc9,zc13,zc16,zc17,Zgs,Zgt,Zhp,ZdO B,Zal,Zay,Zar,Zas,Zau,ZT B,ZF B,hi,ZeE,Int.toNat_natCast,e5,ZlR,Nat.and_two_pow_sub_one_eq_mod,ZeT B]
  ·by_cases hu0:u=0
   ·have hp:bitsP u b=true:=by simp only [bitsP,hu0,show b.length=0 by lia,decide_true,or_true,Bool.and_self,Bool.true_or,show (0:Nat) < 8 by decide]
    rw [hp]
    simp (disch:=first | decide | assumption | lia) only [Zaj,X_k,Zp,ZB,P_not,Zcd,P_or,ZX,Zx,Zac,P_bi,Zs,Zi,Zc,R_or,Zr,Zu,ZD,Zz,Zt,Z_ex,Za,c_eq,c_lt,c_le,c_gt,Zn,Zh,Zd,Zo,Zg,ZG,Zy,ZA,ZI,Zed,ZlO,Zai,ZW,Zj,Zpd,Ze,Zf,Zk,Zl,Zb,okB_,Zq,zc2,zc6,zc7,zc8,zc9,zc16,zc17,Zgs,Zgt,Zhp,ZdO B,Zal,Zay,Zar,Zas,Zau,ZH B.g0,Zjr,Zaf,ZT B,ZlW B,h1,hw,ZfG,hc]
   ·have hp:bitsP u b=false:=by simp only [bitsP,show ¬(0 < b.length∨u=0) by lia,decide_false,Bool.false_and,Bool.and_false]
    rw [hp]
    simp (disch:=first | decide | assumption | lia) only [Zaj,X_k,Zp,P_not,Zcd,P_or,ZX,Zx,P_bi,Zs,Zi,Zc,R_or,Zr,Zu,Zz,Zt,Z_ex,Za,c_eq,c_lt,c_le,c_gt,Zn,Zd,Zg,ZG,Zy,ZI,Zbl,Zed,ZlO,Zai,Zj,Zpd,Ze,Zf,Zk,Zl,Zb,ZY,okB_,Zq,zc6,zc7,zc8,zc9,zc13,zc16,zc17,Zgs,Zgt,Zhp,ZdO B,Zal,Zay,Zar,Zas,Zau,ZT B,Zpy B]
 ·have hp:bitsP u b=false:=by simp only [bitsP,h8,decide_false,Bool.false_and]
  rw [hp]
  simp (disch:=first | decide | assumption | lia) only [Zaj,X_k,Zp,Zcd,ZX,Zx,Zs,Zi,Zc,R_or,Zr,Zu,Zz,Zt,Z_ex,Za,c_eq,c_lt,c_le,Zd,Zg,ZG,Zy,ZI,Zbl,Zed,Zai,Zj,Ze,Zf,Zk,Zl,Zb,ZY,okB_,Zq,zc6,zc7,zc8,zc9,zc13,zc16,zc17,Zgs,Zgt,Zhp,ZdO B,Zal,Zay,Zar,Zas,Zau,ZeT B]
end DK.Internal.B
end
section
set_option backward.match.sparseCases false
set_option genSizeOf false
set_option genCtorIdx false
namespace DK.Internal.B
open PySem
variable {T:Text} {r:Nat}
noncomputable def aD (n:Nat):D:= .bytes (arcB n)
theorem Zjv (bs:List (List UInt8)):byteStrs (bs.map .bytes)=some bs:=by
 induction bs with
 | nil=>rfl
 | cons b bs ih=>show (match byteStrs (bs.map .bytes) with | some bs=>some (b::bs) | none=>none)=_;rw [ih]
theorem ZiF {bs:List (List UInt8)} (h:bs.flatten.length≤1000000) (h2:bs.length≤1000000):builtin .join [.list (bs.map .bytes)] = .ok (.bytes bs.flatten):=by
 exact Zpx (Zjv bs) ⟨h,h2⟩
theorem Zlp (B:Base T) (s0 s1 s2 s3 s4 s5 s6 s7 s8 s10 s11:Slot):∀(as:List Nat) (s9:Slot),∃s9',FE T (r+1) (.one 9) Zev (as.map nD) [s0,s1,s2,s3,s4,s5,s6,s7,s8,s9,s10,s11] = .ok (.next,[s0,s1,s2,s3,s4,s5,s6,s7,s8,s9',s10,s11]):=by
 intro as
 induction as with
 | nil=>intro s9;exact ⟨s9,rfl⟩
 | cons a as ih=>
  intro s9
  obtain ⟨s9',hs⟩:=ih (.val (nD a))
  refine ⟨s9',?_⟩
  rw [List.map_cons,ZkZ]
  generalize FE T (r+1) (.one 9) Zev (as.map nD)=w at hs ⊢
  simp only [nD] at hs ⊢
  simp (disch:=first | decide | assumption | lia) only [Zev,X_k,Zp,ZX,Zs,Zi,Zc,Zu,Z_ex,ZK,c_ge,Zbs,Zd,ZI,ZhV,Zj,Ze,Zf,Zk,Zl,Zb,Zq,ZQ,ZT B,hs]
theorem ZmD (B:Base T) (s0 s1 s2 s3 s4 s5 s6 s7 s9:Slot) (as:List Nat) (hb:∀a∈as,a < 128 ^ 100) (hl:as.length≤900):∀(d i:Nat) (acc:List D),i+d=as.length→acc.length+d≤1000 →
  W T (r+1) ZdR Zew [s0,s1,s2,s3,s4,s5,s6,s7,.val (.list (as.map nD)),s9,.own acc,.val (.int (i:Nat))] =
   .ok (.next,[s0,s1,s2,s3,s4,s5,s6,s7,.val (.list (as.map nD)),s9,.own (acc++(as.drop i).map aD),.val (.int (as.length:Nat))]):=by
 intro d
 induction d with
 | zero=>
  intro i acc h h2
  have:i=as.length:=by assumption
  subst this
  rw [V_eq]
  have hm:((as.map nD).length:Int)=as.length:=by simp
  simp (disch:=first | decide | assumption | lia) only [ZdR,Zp,P_bi,Zi,Zc,Zr,Za,c_lt,ZaV,Zd,Zei,Zj,Ze,Zf,Zb,zc7,hm,List.drop_length,List.append_nil]
 | succ d ih=>
  intro i acc h h2
  have hi:i < as.length:=by lia
  have ha:=ZeW B (r:=r) (n:=as[i]) (j:=99) (hb _ (List.getElem_mem _)) (by exact Nat.le_add_left _ _)
  have hs:=ih (i+1) (acc ++ [aD as[i]]) (by lia) (by simp;lia)
  have hm:((as.map nD).length:Int)=as.length:=by simp
  have hx:index (.list (as.map nD)) (.int (i:Nat)) = .ok (.int ((as[i]:Nat):Int)):=by
   rw [ZbB (by simpa using hi)];simp [nD]
  rw [V_eq]
  generalize W T (r+1) ZdR Zew=w at hs ⊢
  simp (disch:=first | decide | assumption | lia) only [ZdR,Zew,X_k,Zp,Zx,P_bi,Zs,Zi,Zc,Zr,Zu,Zep,ZiY,ZK,Za,Zae,c_lt,ZaV,Zd,Zg,ZaT,ZeH,Zdc,Zj,Ze,Zf,Zk,Zl,ZdJ,ZdK,Zb,Zq,ZQ,hm,hx,ha,ZeV]
  refine hs.trans ?_
  rw [List.append_assoc,List.drop_eq_getElem_cons hi];rfl
theorem Zjw (as:List Nat):(as.map arcB).flatten=arcsB as:=by simp [arcsB,List.flatMap]
theorem Zhs (as:List Nat) (hb:∀a∈as,a < 128 ^ 100):(arcsB as).length≤101*as.length:=by
 induction as with
 | nil=>simp [arcsB]
 | cons a as ih=>
  have h1:=ih (fun x hx=>hb x (List.mem_cons_of_mem _ hx))
  have h2:=ZbT 100 (a / 128) (Nat.lt_of_le_of_lt (Nat.div_le_self _ _) (hb a (List.mem_cons_self ..)))
  have h3:=ZcY a
  have h4:arcsB (a::as)=arcB a++arcsB as:=by simp [arcsB]
  rw [h4];simp;lia
theorem ZpK (B:Base T) (a b:Nat) (as:List Nat) (ha:a≤2) (hab:a=2∨b < 40) (hb:∀x∈(40*a+b)::as,x < 128 ^ 100) (hbb:b < 4000000000) (hl:as.length≤600) :
  CL T (r+20) 20 [.tuple [.str sOid,.list (nD a::nD b::as.map nD)]] = .ok (.bytes (tlv (oneB 6) (arcsB ((40*a+b)::as)))):=by
 rw [ZJ B.f20 rfl (by decide)]
 have hl2:=Zhs _ hb
 simp only [List.length_cons] at hl2
 have hw:=ZO B (r:=r+10) (n:=(arcsB ((40*a+b)::as)).length) (by lia)
 have hc:=Zgv (c:=arcsB ((40*a+b)::as)) 6 (by lia)
 have hsh:=Zlo B (r:=r+16) ((a::b::as).map Nat.cast)
 have em:((a::b::as).map (Nat.cast:Nat→Int)).map D.int=nD a::nD b::as.map nD:=by simp [nD]
 rw [em] at hsh
 obtain ⟨s9,hn⟩:=Zlp B (r:=r+18) (.val (.tuple [.str sOid,.list (nD a::nD b::as.map nD)])) (.val (.str sOid)) .un .un .un .un .un .un (.val (.list (nD a::nD b::as.map nD))) .un .un (a::b::as) .un
 have h0:=ZeW B (r:=r+18) (n:=40*a+b) (j:=99) (hb _ (List.mem_cons_self ..)) (by exact Nat.le_add_left _ _)
 have hbs:∀x∈as,x < 128 ^ 100:=fun x hx=>hb x (List.mem_cons_of_mem _ hx)
 have hp:=ZmD B (r:=r+18) (.val (.tuple [.str sOid,.list (nD a::nD b::as.map nD)])) (.val (.str sOid)) .un .un .un .un .un .un s9 (a::b::as) (by
  intro x hx
  have h2:(4000000000:Nat) < 128 ^ 100:=by decide
  rcases List.mem_cons.mp hx with e | hx
  ·lia
  ·rcases List.mem_cons.mp hx with e | hx
   ·lia
   ·exact hbs x hx) (by simp;exact Nat.le_trans (by assumption) (by decide)) as.length 2 [aD (40*a+b)] (by simp;exact Nat.add_comm _ _) (by simp;lia)
 have e1:(40:Int)*(a:Nat)+(b:Nat)=((40*a+b:Nat):Int):=by rfl
 have hj:builtin .join [.list ([aD (40*a+b)]++((a::b::as).drop 2).map aD)] = .ok (.bytes (arcsB ((40*a+b)::as))):=by
  have:([aD (40*a+b)]++((a::b::as).drop 2).map aD)=((((40*a+b)::as).map arcB)).map .bytes:=by simp [aD]
  rw [this,ZiF (by rw [Zjw];lia) (by simp;exact Nat.le_trans (by assumption) (by decide)),Zjw]
 have i0:index (.list (nD a::nD b::as.map nD)) (.int 0) = .ok (.int (a:Nat)):=ZbB (b:=nD a::nD b::as.map nD) (i:=0) (by simp)
 have i1:index (.list (nD a::nD b::as.map nD)) (.int 1) = .ok (.int (b:Nat)):=ZbB (b:=nD a::nD b::as.map nD) (i:=1) (by simp)
 have hlen:(2:Int)≤((nD a::nD b::as.map nD).length:Nat):=by simp;lia
 simp only [List.map_cons,show ((2:Nat):Int)=2 from rfl] at hn hp
 generalize nD a::nD b::as.map nD=L at *
 generalize [aD (40*a+b)]++((a::b::as).drop 2).map aD=M at *
 rw [show D.bytes (arcB (40*a+b))=aD (40*a+b) from rfl] at h0
 by_cases h2:a=2
 ·simp (disch:=first | decide | assumption | lia) only [Zaj,X_k,Zp,ZB,P_or,ZX,Zx,Zac,P_bi,Zs,Zi,Zc,R_or,Zr,ZdE,Zu,ZD,Zz,ZhH,Zt,ZbF,ZhI,ZfM,Z_ex,ZE,Za,Zae,c_eq,c_le,c_ge,Zn,ZaV,Zh,Zv,Zd,Zo,Zg,Zeb,ZG,Zy,Zec,ZI,ZlN,Zai,ZW,Zj,Ze,Zf,Zk,Zl,ZfS,ZfT,Zb,okB_,Zq,zc6,zc7,zc8,zc9,zc16,zc17,Zag,Zak,hsh,Zbx,Zdd,Zci,Zdt,ZbY,Zcj,Zck,ZH B.g0,Zky,Zaf,ZT B,ZF B,itemsOf,hn,i0,i1,ZeR,e1,h0,hp,hj,hw,ZfG,hc]
 ·simp (disch:=first | decide | assumption | lia) only [Zaj,X_k,Zp,ZB,P_or,ZX,Zx,Zac,P_bi,Zs,Zi,Zc,R_or,Zr,ZdE,Zu,ZD,Zz,ZhH,Zt,ZbF,ZhI,ZfM,Z_ex,ZE,Za,Zae,c_eq,c_lt,c_le,c_ge,Zn,ZaV,Zh,Zv,Zd,Zo,Zg,Zeb,ZG,Zy,Zec,ZI,ZlO,Zai,ZW,Zj,Ze,Zf,Zk,Zl,ZfS,ZfT,Zb,okB_,Zq,zc6,zc7,zc8,zc9,zc16,zc17,Zag,Zak,hsh,Zbx,Zdd,Zci,Zdt,ZbY,Zcj,Zck,ZH B.g0,Zky,Zaf,ZT B,itemsOf,hn,i0,i1,ZeR,e1,h0,hp,hj,hw,ZfG,hc]
end DK.Internal.B
end
section
set_option backward.match.sparseCases false
set_option genSizeOf false
set_option genCtorIdx false
namespace DK.Internal.B
open PySem
variable {T:Text} {r:Nat}
theorem ZkE (s0 s1 s2 s3 s4 s5 s6 s7 s8 s9 s10 s11 s12 s13:Slot):∀(ps:List (D × List UInt8)) (acc:List D),
  (∀p∈ps,CL T r 20 [p.1] = .ok (.bytes p.2))→acc.length+ps.length≤1000 →
  CE T r (.one 13) .nil (.call 20 (.cons (.var 13) .nil)) (ps.map (·.1)) [s0,s1,s2,s3,s4,s5,s6,s7,s8,s9,s10,s11,s12,s13] acc = .ok (acc++(ps.map (·.2)).map .bytes):=by
 intro ps
 induction ps with
 | nil=>intro acc h hl;rw [List.map_nil,ZiX];simp
 | cons p ps ih=>
  intro acc h hl
  have h1:=h p (List.mem_cons_self ..)
  have hs:=ih (acc ++ [.bytes p.2]) (fun q hq=>h q (List.mem_cons_of_mem _ hq)) (by simp at hl ⊢;lia)
  have hal:acc.length < 1000000:=by simp at hl;lia
  rw [List.map_cons,ZjQ]
  simp (disch:=first | decide | assumption | lia) only [Zp,Zs,Zi,Zc,ZgS,Zbs,Zd,ZgT,ZjR,Zj,Ze,Zf,Zk,Zl,Zb,zc6,h1,ZhU,hs]
  simp
theorem Zjx (s0 s1 s2 s3 s4 s5 s6 s7 s8 s9 s10 s11 s12 s13:Slot) (x:D) (xs:List D) (hx:CL T r 20 [x] = .exc):∀(ps:List (D × List UInt8)) (acc:List D),
  (∀p∈ps,CL T r 20 [p.1] = .ok (.bytes p.2))→acc.length+ps.length≤1000 →
  CE T r (.one 13) .nil (.call 20 (.cons (.var 13) .nil)) (ps.map (·.1)++x::xs) [s0,s1,s2,s3,s4,s5,s6,s7,s8,s9,s10,s11,s12,s13] acc = .exc:=by
 intro ps
 induction ps with
 | nil=>intro acc h hl;rw [List.map_nil,List.nil_append,ZjQ];simp (disch:=first | decide | assumption | lia) only [Zp,Zs,Zi,Zc,ZgS,Zbs,Zd,ZgT,ZjR,Zpl,Zj,Ze,Zf,Zk,Zl,Zb,hx]
 | cons p ps ih=>
  intro acc h hl
  have h1:=h p (List.mem_cons_self ..)
  have hs:=ih (acc ++ [.bytes p.2]) (fun q hq=>h q (List.mem_cons_of_mem _ hq)) (by simp at hl ⊢;lia)
  have hal:acc.length < 1000000:=by simp at hl;lia
  rw [List.map_cons,List.cons_append,ZjQ]
  simp (disch:=first | decide | assumption | lia) only [Zp,Zs,Zi,Zc,ZgS,Zbs,Zd,ZgT,ZjR,Zj,Ze,Zf,Zk,Zl,Zb,h1,ZhU,hs]
theorem ZpL (B:Base T) (ps:List (D × List UInt8)) (h:∀p∈ps,CL T (r+19) 20 [p.1] = .ok (.bytes p.2)) (hl:ps.length≤900) (hc:(ps.map (·.2)).flatten.length < 65536) :
  CL T (r+20) 20 [.tuple [.str sSeq,.list (ps.map (·.1))]] = .ok (.bytes (tlv (oneB 48) (ps.map (·.2)).flatten)):=by
 rw [ZJ B.f20 rfl (by decide)]
 have hw:=ZO B (r:=r+10) (n:=(ps.map (·.2)).flatten.length) hc
 have hc1:=Zgv (c:=(ps.map (·.2)).flatten) 48 hc
 have hk:=fun s0 s1 s2 s3 s4 s5 s6 s7 s8 s9 s10 s11 s12 s13=>ZkE (T:=T) (r:=r+19) s0 s1 s2 s3 s4 s5 s6 s7 s8 s9 s10 s11 s12 s13 ps [] h (by simpa using (by exact Nat.le_trans (by assumption) (by decide):ps.length≤1000))
 have hj:=ZiF (bs:=ps.map (·.2)) (by lia) (by simp;exact Nat.le_trans (by assumption) (by decide))
 simp only [List.nil_append] at hk
 generalize (ps.map (·.2)).map D.bytes=M at *
 generalize (ps.map (·.2)).flatten=F at *
 generalize ps.map (·.1)=L at *
 simp (disch:=first | decide | assumption | lia) only [Zaj,X_k,Zp,ZB,Zx,Zac,P_bi,ZdD,Zs,Zi,Zc,R_or,Zr,ZdE,ZdF,Zu,ZD,Zz,Zt,ZfM,Z_ex,Za,c_eq,Zn,Zh,Zd,ZdG,Zo,Zg,ZG,Zy,ZI,ZgW,Zai,ZW,Zj,Ze,Zf,Zk,Zl,Zhd,ZfT,Zb,okB_,Zq,zc6,zc7,zc8,zc9,zc16,zc17,Zag,Zak,ZhZ B,Zby,Zde,Zcq,ZdB,ZbZ,Zcr,Zca,Zjh,Zcs,ZH B.g0,Zod,Zaf,itemsOf,hk,hj,hw,ZfG,hc1]
theorem Zht (B:Base T) (ps:List (D × List UInt8)) (x:D) (xs:List D) (k:List Nat) (hk':k=sSeq∨k=sSet) (h:∀p∈ps,CL T (r+19) 20 [p.1] = .ok (.bytes p.2)) (hl:ps.length≤900) (hx:CL T (r+19) 20 [x] = .exc) :
  CL T (r+20) 20 [.tuple [.str k,.list (ps.map (·.1)++x::xs)]] = .exc:=by
 rw [ZJ B.f20 rfl (by decide)]
 have hk:=fun s0 s1 s2 s3 s4 s5 s6 s7 s8 s9 s10 s11 s12 s13=>Zjx (T:=T) (r:=r+19) s0 s1 s2 s3 s4 s5 s6 s7 s8 s9 s10 s11 s12 s13 x xs hx ps [] h (by simpa using (by exact Nat.le_trans (by assumption) (by decide):ps.length≤1000))
 generalize ps.map (·.1)++x::xs=L at *
 rcases hk' with rfl | rfl
 ·simp (disch:=first | decide | assumption | lia) only [Zaj,X_k,Zp,Zx,ZdD,Zs,Zi,Zc,R_or,Zr,ZdE,ZdF,Zu,Zz,Zt,Z_ex,Za,c_eq,Zd,ZdG,Zg,ZbP,ZG,Zy,ZI,ZgW,Zai,Zj,Ze,Zf,Zk,Zl,Zb,ZY,okB_,Zq,zc6,zc7,zc8,zc9,zc16,zc17,Zag,Zak,ZhZ B,Zby,Zde,Zcq,ZdB,ZbZ,Zcr,Zca,Zcs,itemsOf,hk]
 ·simp (disch:=first | decide | assumption | lia) only [Zaj,X_k,Zp,Zx,ZdD,Zs,Zi,Zc,R_or,Zr,ZdE,ZdF,Zu,Zz,Zt,Z_ex,Za,c_eq,Zd,ZdG,Zg,ZbP,ZG,Zy,ZI,Zai,Zj,Ze,Zf,Zk,Zl,Zb,ZY,okB_,Zq,zc6,zc7,zc8,zc9,zc16,zc17,Zag,Zak,Zgu B,ZaU,Zcb,Zbz,Zct,Zbo,ZbA,Zbp,Zbq,Zbr,itemsOf,hk]
noncomputable def adjP:List (List UInt8)→Bool
 | []=>true
 | [_]=>true
 | a::b::l=>lexLe a b && adjP (b::l)
theorem Zeu (pre suf:List D) (u:D) {i:Int} (h:i=(pre.length:Nat)):index (.list (pre++u::suf)) (.int i) = .ok u:=by
 subst h
 rw [ZbB (by simp)]
 simp
theorem ZhR (pre suf:List D) (c u:D) {i:Int} (h:i=((pre.length+1:Nat):Int)):index (.list (pre++c::u::suf)) (.int i) = .ok u:=by
 have:=Zeu (pre ++ [c]) suf u (i:=i) (by simp;assumption)
 simpa using this
theorem Zoh (B:Base T) (s0 s1 s2 s3 s4 s5 s6 s7 s8 s9:Slot) (L:List D):∀(rest:List (List UInt8)) (a:List UInt8) (pre:List D),L=pre++(.bytes a::rest.map .bytes) →
  W T (r+1) ZaZ ZbX [s0,s1,s2,s3,s4,s5,s6,s7,s8,s9,.val (.list L),.val (.int ((pre.length+1:Nat):Int))] =
   if adjP (a::rest)=true then .ok (.next,[s0,s1,s2,s3,s4,s5,s6,s7,s8,s9,.val (.list L),.val (.int (L.length:Nat))]) else .exc:=by
 intro rest
 induction rest with
 | nil=>
  intro a pre hL
  have e:L.length=pre.length+1:=by rw [hL];simp
  rw [V_eq]
  simp (disch:=first | decide | assumption | lia) only [ZaZ,Zp,P_bi,Zi,Zc,Zr,Za,c_lt,ZaV,Zd,Zei,Zj,Ze,Zf,Zb,zc2,adjP,e]
 | cons b rest ih=>
  intro a pre hL
  have hs:=ih b (pre ++ [.bytes a]) (by rw [hL];simp)
  have hlen:pre.length+1 < L.length:=by rw [hL];simp
  have e1:((pre.length+1:Nat):Int) - 1=(pre.length:Nat):=by simp
  have i0:index (.list L) (.int (pre.length:Nat)) = .ok (.bytes a):=by rw [hL];exact Zeu _ _ _ rfl
  have i1:index (.list L) (.int ((pre.length+1:Nat):Int)) = .ok (.bytes b):=by rw [hL];exact ZhR _ _ _ _ rfl
  have e2:(((pre ++ [D.bytes a]).length+1:Nat):Int)=((pre.length+1:Nat):Int)+1:=by simp
  rw [e2] at hs
  rw [V_eq]
  generalize W T (r+1) ZaZ ZbX=w at hs ⊢
  rw [adjP]
  cases hle:lexLe a b with
  | true=>simp (disch:=first | decide | assumption | lia) only [ZaZ,ZbX,X_k,Zp,ZB,ZX,Zx,P_bi,Zs,Zi,Zc,Zr,Zu,Zep,ZfM,Z_ex,ZK,Za,Zae,ZaC,c_lt,ZaV,Zd,Zg,ZaT,ZI,Zdc,Zj,Ze,Zf,Zk,Zl,Zhd,ZfT,Zb,Zq,ZQ,e1,i0,i1,c_leB,hle,ZF B,hs,Bool.true_and]
  | false=>simp (disch:=first | decide | assumption | lia) only [ZaZ,ZbX,X_k,Zp,ZB,ZX,Zx,P_bi,Zs,Zi,Zc,Zr,ZfM,Z_ex,Za,ZaC,c_lt,ZaV,Zd,Zbl,Zdc,Zj,Ze,Zf,Zhd,ZfT,Zb,ZY,Zq,zc13,e1,i0,i1,c_leB,hle,Zfb B,Bool.false_and]
theorem ZpM (s0 s1 s2 s3 s4 s5 s6 s7 s8 s9:Slot):W T r ZaZ ZbX [s0,s1,s2,s3,s4,s5,s6,s7,s8,s9,.val (.list []),.val (.int 1)] = .ok (.next,[s0,s1,s2,s3,s4,s5,s6,s7,s8,s9,.val (.list []),.val (.int 1)]):=by
 rw [V_eq]
 simp (disch:=first | decide | assumption | lia) only [ZaZ,Zp,P_bi,Zi,Zc,Zr,Za,c_lt,ZaV,Zd,Zei,Zj,Ze,Zf,Zb,List.length_nil]
theorem ZpN (B:Base T) (s0 s1 s2 s3 s4 s5 s6 s7 s8 s9:Slot) (bs:List (List UInt8)):∃s11,
  W T (r+1) ZaZ ZbX [s0,s1,s2,s3,s4,s5,s6,s7,s8,s9,.val (.list (bs.map .bytes)),.val (.int 1)] =
   if adjP bs=true then .ok (.next,[s0,s1,s2,s3,s4,s5,s6,s7,s8,s9,.val (.list (bs.map .bytes)),s11]) else .exc:=by
 cases bs with
 | nil=>exact ⟨_,ZpM ..⟩
 | cons b bs=>exact ⟨_,Zoh B s0 s1 s2 s3 s4 s5 s6 s7 s8 s9 _ bs b [] rfl⟩
theorem ZpO (B:Base T) (ps:List (D × List UInt8)) (h:∀p∈ps,CL T (r+19) 20 [p.1] = .ok (.bytes p.2)) (hl:ps.length≤900) (hc:(ps.map (·.2)).flatten.length < 65536) :
  CL T (r+20) 20 [.tuple [.str sSet,.list (ps.map (·.1))]]=if adjP (ps.map (·.2))=true then .ok (.bytes (tlv (oneB 49) (ps.map (·.2)).flatten)) else .exc:=by
 rw [ZJ B.f20 rfl (by decide)]
 have hw:=ZO B (r:=r+10) (n:=(ps.map (·.2)).flatten.length) hc
 have hc1:=Zgv (c:=(ps.map (·.2)).flatten) 49 hc
 have hk:=fun s0 s1 s2 s3 s4 s5 s6 s7 s8 s9 s10 s11 s12 s13=>ZkE (T:=T) (r:=r+19) s0 s1 s2 s3 s4 s5 s6 s7 s8 s9 s10 s11 s12 s13 ps [] h (by simpa using (by exact Nat.le_trans (by assumption) (by decide):ps.length≤1000))
 have hj:=ZiF (bs:=ps.map (·.2)) (by lia) (by simp;exact Nat.le_trans (by assumption) (by decide))
 simp only [List.nil_append] at hk
 obtain ⟨s11,hr⟩:=ZpN B (r:=r+18) (.val (.tuple [.str sSet,.list (ps.map (·.1))])) (.val (.str sSet)) .un .un .un .un .un .un .un .un (ps.map (·.2))
 generalize (ps.map (·.2)).map D.bytes=M at *
 generalize (ps.map (·.2)).flatten=F at *
 generalize ps.map (·.1)=L at *
 cases ha:adjP (ps.map (·.2)) with
 | true=>
  rw [ha,if_pos rfl] at hr
  simp (disch:=first | decide | assumption | lia) only [Zaj,X_k,Zp,ZB,Zx,Zac,P_bi,ZdD,Zs,Zi,Zc,R_or,Zr,ZdE,ZdF,Zu,ZD,Zz,Zt,ZbF,ZfM,Z_ex,ZE,Za,c_eq,Zn,Zh,Zd,ZdG,Zo,Zg,ZG,Zy,ZI,Zai,ZW,Zj,Ze,Zf,Zk,Zl,Zhd,ZfT,Zb,okB_,Zq,zc2,zc6,zc7,zc8,zc9,zc16,zc17,Zag,Zak,Zgu B,ZaU,Zcb,Zbz,Zct,Zbo,ZbA,Zbp,Zbq,Zbr,ZH B.g0,Zoe,Zaf,itemsOf,hk,hr,hj,hw,ZfG,hc1]
 | false=>
  rw [ha,if_neg (by decide)] at hr
  simp (disch:=first | decide | assumption | lia) only [Zaj,X_k,Zp,Zx,ZdD,Zs,Zi,Zc,R_or,Zr,ZdE,ZdF,Zu,Zz,Zt,ZbF,Z_ex,Za,c_eq,Zd,ZdG,Zg,ZG,Zy,ZI,Zai,ZW,Zj,Ze,Zf,Zk,Zl,Zb,ZY,okB_,Zq,zc6,zc7,zc8,zc9,zc13,zc16,zc17,Zag,Zak,Zgu B,ZaU,Zcb,Zbz,Zct,Zbo,ZbA,Zbp,Zbq,Zbr,itemsOf,hk,hr]
noncomputable def tagB (n:Nat):List UInt8:=if n < 31 then oneB (160+n) else 191::arcB n
theorem Zoi {n:Nat} (h:n < 128 ^ 100):(tagB n).length≤200:=by
 unfold tagB
 split
 ·simp [oneB]
 ·have h2:=ZbT 100 (n / 128) (Nat.lt_of_le_of_lt (Nat.div_le_self _ _) h)
  have h3:=ZcY n
  simp;lia
theorem ZpP (B:Base T) (n:Nat) (hn:n < 128 ^ 100) (x:D) (b:List UInt8) (h:CL T (r+19) 20 [x] = .ok (.bytes b)) (hc:b.length < 65536) :
  CL T (r+20) 20 [.tuple [.str sTagged,.int (n:Nat),x]] = .ok (.bytes (tlv (tagB n) b)):=by
 rw [ZJ B.f20 rfl (by decide)]
 have hw:=ZO B (r:=r+10) (n:=b.length) hc
 have hl:=Zoi hn
 have hc1:=catC (t:=tagB n) (c:=b) (by exact Nat.le_trans (by assumption) (by decide)) hc
 have hc0:=catL (t:=tagB n) (n:=b.length) (by exact Nat.le_trans (by assumption) (by decide))
 by_cases h31:n < 31
 ·have e:tagB n=oneB (160+n):=by rw [tagB,if_pos h31]
  have e1:(160:Int)+(n:Nat)=((160+n:Nat):Int):=by rfl
  rw [e] at hc1 hc0 ⊢
  simp (disch:=first | decide | assumption | lia) only [Zaj,X_k,Zp,ZB,ZX,Zx,Zac,P_bi,Zs,Zi,Zc,Zr,Zu,ZD,Zz,Zt,Z_ex,Za,Zae,c_eq,c_lt,c_ge,Zn,Zh,Zd,Zo,Zg,ZG,ZP,ZI,ZW,Zj,Ze,Zf,Zk,Zl,Zb,okB_,Zq,zc6,zc7,zc8,zc9,zc16,zc17,Zgs,Zgt,Zhp,ZfV B,Zbj,ZT B,e1,Zaf,h,hw,hc0,hc1]
 ·have e:tagB n=191::arcB n:=by rw [tagB,if_neg h31]
  have ha:=ZeW B (r:=r+18) (n:=n) (j:=99) hn (by exact Nat.le_add_left _ _)
  rw [e] at hc1 hc0 hl ⊢
  have hcc:binop .Add (.bytes [191]) (.bytes (arcB n)) = .ok (.bytes (191::arcB n)):=ZdL (by simp at hl ⊢;unfold SZ;lia)
  generalize 191::arcB n=tg at *
  simp (disch:=first | decide | assumption | lia) only [Zaj,X_k,Zp,ZB,ZX,Zx,P_bi,Zs,Zi,Zc,Zr,Zu,ZD,Zz,Zt,Z_ex,Za,c_eq,c_lt,c_ge,Zn,Zh,Zd,Zo,Zg,ZG,ZA,ZI,Zj,Ze,Zf,Zk,Zl,Zb,okB_,Zq,zc6,zc7,zc8,zc9,zc16,zc17,Zgs,Zgt,Zhp,ZfV B,Zbj,ZT B,ha,hcc,h,hw,hc0,hc1]
end DK.Internal.B
end
section
set_option backward.match.sparseCases false
set_option genSizeOf false
set_option genCtorIdx false
namespace DK.Internal.B
open PySem
variable {T:Text} {r:Nat}
theorem ZU (t c:List UInt8):(tlv t c).length=t.length+(lenB c.length).length+c.length:=by simp [tlv];exact (Nat.add_assoc _ _ _).symm
structure Hd (T:Text) (r:Nat) (data:List UInt8) (p L n:Nat) (t:Nat) (c:List UInt8):Prop where
 lt:p < data.length
 ix:index (.bytes data) (.int (p:Nat)) = .ok (.int (t:Nat))
 rl:CL T (r+10) 4 [.bytes data,.int ((p:Nat)+1)] = .ok (.tuple [.int (n:Nat),.int (((p+1+L:Nat):Int))])
 sl:slice (.bytes data) (.int ((p+1+L:Nat):Int)) (.int (((p+1+L:Nat):Int)+(n:Nat))) = .ok (.bytes c)
theorem Zdg (B:Base T) {t:Nat} (ht:t < 256) (c pre suf:List UInt8) (hc:c.length < 65536):Hd T r (pre++(tlv (oneB t) c++suf)) pre.length (lenB c.length).length c.length t c:=by
 have e:pre++(tlv (oneB t) c++suf)=pre++UInt8.ofNat t::(lenB c.length++(c++suf)):=by simp [tlv,oneB]
 have e2:pre++(tlv (oneB t) c++suf)=(pre ++ [UInt8.ofNat t])++(lenB c.length++(c++suf)):=by simp [tlv,oneB]
 have e3:pre++(tlv (oneB t) c++suf)=(pre ++ [UInt8.ofNat t]++lenB c.length)++(c++suf):=by simp [tlv,oneB]
 refine ⟨by rw [e];simp,?_,?_,?_⟩
 ·rw [e,Zan _ _ _ rfl,Zaa ht]
 ·rw [e2,Zee B hc (pre ++ [UInt8.ofNat t]) (c++suf) (at':=(pre.length:Nat)+1) (by simp)]
  congr 4
 ·rw [ZbM _ (pre.length+1+(lenB c.length).length) c.length rfl (by rfl),e3,Zhh _ _ _ _ _ (by simp;exact Nat.add_right_comm _ _ _) rfl]
theorem Zoj (a:UInt8) (l:List UInt8):slice (.bytes (a::l)) (.int 1) .none = .ok (.bytes l):=by
 have e:clip (a::l).length 1=1:=Zhf (Nat.le_add_left 1 _)
 rw [ZlT,e]
 simp [cut]
theorem ZaX:isThing .none .none = .ok true:=rfl
theorem ZbW (s):isThing (.str s) .none = .ok false:=rfl
theorem ZiG (s):isThing (.int s) .none = .ok false:=rfl
theorem Zok (B:Base T)  (pre suf:List UInt8) (dep:Int) (hc:([255]:List UInt8).length < 65536):CL T (r+20) 23 [.bytes (pre++(tlv (oneB 1) ([255]:List UInt8)++suf)),.int (pre.length:Nat),.int dep] =
  .ok (.tuple [.tuple [.str sBool,.bool true],.int ((pre.length+(tlv (oneB 1) ([255]:List UInt8)).length:Nat):Int)]):=by
 rw [ZJ B.f23 rfl (by decide)]
 have H:=Zdg B (r:=r+9) (t:=1) (by decide) ([255]:List UInt8) pre suf hc
 have e9:(((pre.length+1+(lenB ([255]:List UInt8).length).length:Nat):Int)+(([255]:List UInt8).length:Nat))=((pre.length+(tlv (oneB 1) ([255]:List UInt8)).length:Nat):Int):=by rw [ZU,ZC];rfl
 have e10:=H.lt
 have hg:([255]:List UInt8).length=1:=rfl
 generalize pre++(tlv (oneB 1) ([255]:List UInt8)++suf)=data at *
 simp (disch:=first | decide | assumption | lia) only [ZaE,X_k,Zp,ZB,P_or,ZX,Zx,Zbk,ZZ,P_bi,Zcw,Zs,Zi,Zc,Zaw,Zr,Zu,ZD,Zz,Zt,Z_ex,Za,Zae,c_eq,c_lt,c_le,Zn,Zh,Zv,ZdM,Zd,Zap,Zo,Zg,ZG,Zy,ZA,ZI,Zgn,Zat,Zad,Zj,Ze,Zf,Zk,Zl,Zb,okB_,ZaF,Zq,zc4,zc5,zc6,zc7,zc8,zc9,zc10,zc16,zc17,Zag,Zak,ZT B,ZF B,H.ix,H.rl,H.sl,ZaP,ZaX,ZbW,ZH B.g1,Zjp,Zaz,show decide (([255]:List UInt8) = [0])=false from rfl]
 rw [e9]
theorem ZmE (B:Base T)  (pre suf:List UInt8) (dep:Int) (hc:([0]:List UInt8).length < 65536):CL T (r+20) 23 [.bytes (pre++(tlv (oneB 1) ([0]:List UInt8)++suf)),.int (pre.length:Nat),.int dep] =
  .ok (.tuple [.tuple [.str sBool,.bool false],.int ((pre.length+(tlv (oneB 1) ([0]:List UInt8)).length:Nat):Int)]):=by
 rw [ZJ B.f23 rfl (by decide)]
 have H:=Zdg B (r:=r+9) (t:=1) (by decide) ([0]:List UInt8) pre suf hc
 have e9:(((pre.length+1+(lenB ([0]:List UInt8).length).length:Nat):Int)+(([0]:List UInt8).length:Nat))=((pre.length+(tlv (oneB 1) ([0]:List UInt8)).length:Nat):Int):=by rw [ZU,ZC];rfl
 have e10:=H.lt
 generalize pre++(tlv (oneB 1) ([0]:List UInt8)++suf)=data at *
 simp (disch:=first | decide | assumption | lia) only [ZaE,X_k,Zp,ZB,P_or,ZX,Zx,Zbk,ZZ,P_bi,Zcw,Zs,Zi,Zc,Zaw,Zr,Zu,ZD,Zz,Zt,Z_ex,Za,Zae,c_eq,c_lt,c_le,Zn,Zh,Zv,ZdM,Zd,Zap,Zo,Zg,ZG,Zy,ZA,ZI,orO_t,Zat,Zad,Zj,Ze,Zf,Zk,Zl,Zb,okB_,ZaF,Zq,zc4,zc5,zc6,zc7,zc8,zc9,zc10,zc16,zc17,Zag,Zak,ZT B,ZF B,H.ix,H.rl,H.sl,ZaP,ZaX,ZbW,ZH B.g1,Zjp,Zaz,show decide (([0]:List UInt8) = [255])=false from rfl]
 rw [e9]
theorem ZpQ (B:Base T) (n:Int) (pre suf:List UInt8) (dep:Int) (hc:(intB n).length < 65536) (hl:(intB n).length≤1000):CL T (r+20) 23 [.bytes (pre++(tlv (oneB 2) (intB n)++suf)),.int (pre.length:Nat),.int dep] =
  .ok (.tuple [.tuple [.str sInt,.int n],.int ((pre.length+(tlv (oneB 2) (intB n)).length:Nat):Int)]):=by
 rw [ZJ B.f23 rfl (by decide)]
 have H:=Zdg B (r:=r+9) (t:=2) (by decide) (intB n) pre suf hc
 have e9:(((pre.length+1+(lenB (intB n).length).length:Nat):Int)+((intB n).length:Nat))=((pre.length+(tlv (oneB 2) (intB n)).length:Nat):Int):=by rw [ZU,ZC];lia
 have e10:=H.lt
 have hi:=Zhn B (r:=r+12) n hl
 generalize pre++(tlv (oneB 2) (intB n)++suf)=data at *
 simp (disch:=first | decide | assumption | lia) only [ZaE,X_k,Zp,ZB,ZX,Zx,Zbk,ZZ,P_bi,Zcw,Zs,Zi,Zc,Zaw,R_or,Zr,Zu,ZD,Zz,Zt,Z_ex,Za,Zae,c_eq,c_lt,c_le,Zn,Zh,Zv,Zd,Zap,Zo,Zg,ZG,Zy,ZA,ZI,Zat,ZgW,Zad,Zj,Ze,Zf,Zk,Zl,Zb,okB_,ZaF,Zq,zc4,zc5,zc6,zc7,zc8,zc9,zc10,zc16,zc17,Zag,Zak,ZT B,ZF B,H.ix,H.rl,H.sl,ZaP,ZaX,ZbW,ZH B.g1,Zoa,Zce,ZdW,hi]
 rw [e9]
theorem Zol (B:Base T) (n:Int) (pre suf:List UInt8) (dep:Int) (hc:(intB n).length < 65536) (hl:(intB n).length≤1000):CL T (r+20) 23 [.bytes (pre++(tlv (oneB 10) (intB n)++suf)),.int (pre.length:Nat),.int dep] =
  .ok (.tuple [.tuple [.str sEnum,.int n],.int ((pre.length+(tlv (oneB 10) (intB n)).length:Nat):Int)]):=by
 rw [ZJ B.f23 rfl (by decide)]
 have H:=Zdg B (r:=r+9) (t:=10) (by decide) (intB n) pre suf hc
 have e9:(((pre.length+1+(lenB (intB n).length).length:Nat):Int)+((intB n).length:Nat))=((pre.length+(tlv (oneB 10) (intB n)).length:Nat):Int):=by rw [ZU,ZC];lia
 have e10:=H.lt
 have hi:=Zhn B (r:=r+12) n hl
 generalize pre++(tlv (oneB 10) (intB n)++suf)=data at *
 simp (disch:=first | decide | assumption | lia) only [ZaE,X_k,Zp,ZB,ZX,Zx,Zbk,ZZ,P_bi,Zcw,Zs,Zi,Zc,Zaw,R_or,Zr,Zu,ZD,Zz,Zt,Z_ex,Za,Zae,c_eq,c_lt,c_le,Zn,Zh,Zv,Zd,Zap,Zo,Zg,ZG,Zy,ZA,ZI,Zat,Zai,Zad,Zj,Ze,Zf,Zk,Zl,Zb,okB_,ZaF,Zq,zc4,zc5,zc6,zc7,zc8,zc9,zc10,zc16,zc17,Zag,Zak,ZT B,ZF B,H.ix,H.rl,H.sl,ZaP,ZaX,ZbW,ZH B.g1,Zmw,ZbI,Zdu,ZcL,hi]
 rw [e9]
theorem ZmF (B:Base T) (b:List UInt8) (pre suf:List UInt8) (dep:Int) (hc:(b).length < 65536):CL T (r+20) 23 [.bytes (pre++(tlv (oneB 4) (b)++suf)),.int (pre.length:Nat),.int dep] =
  .ok (.tuple [.tuple [.str sBytes,.bytes b],.int ((pre.length+(tlv (oneB 4) (b)).length:Nat):Int)]):=by
 rw [ZJ B.f23 rfl (by decide)]
 have H:=Zdg B (r:=r+9) (t:=4) (by decide) (b) pre suf hc
 have e9:(((pre.length+1+(lenB (b).length).length:Nat):Int)+((b).length:Nat))=((pre.length+(tlv (oneB 4) (b)).length:Nat):Int):=by rw [ZU,ZC];ac_rfl
 have e10:=H.lt
 generalize pre++(tlv (oneB 4) (b)++suf)=data at *
 simp (disch:=first | decide | assumption | lia) only [ZaE,X_k,Zp,ZB,ZX,Zx,Zbk,ZZ,P_bi,Zcw,Zs,Zi,Zc,Zaw,R_or,Zr,Zu,ZD,Zz,Zt,Z_ex,Za,Zae,c_eq,c_lt,c_le,Zn,Zh,Zv,Zd,Zap,Zo,Zg,Zy,ZA,ZI,Zat,Zai,Zad,Zj,Ze,Zf,Zk,Zl,Zb,okB_,ZaF,Zq,zc4,zc5,zc6,zc7,zc8,zc9,zc10,zc16,zc17,Zag,Zak,ZT B,ZF B,H.ix,H.rl,H.sl,ZaP,ZaX,ZbW,ZH B.g1,Zli,Zbm,ZcF,Zcf,Zcg,ZbG,Zch,ZcG,ZcH]
 rw [e9]
theorem ZkF (B:Base T) (b:List UInt8) (pre suf:List UInt8) (dep:Int) (hc:(b).length < 65536):CL T (r+20) 23 [.bytes (pre++(tlv (oneB 12) (b)++suf)),.int (pre.length:Nat),.int dep] =
  .ok (.tuple [.tuple [.str sUtf8,.bytes b],.int ((pre.length+(tlv (oneB 12) (b)).length:Nat):Int)]):=by
 rw [ZJ B.f23 rfl (by decide)]
 have H:=Zdg B (r:=r+9) (t:=12) (by decide) (b) pre suf hc
 have e9:(((pre.length+1+(lenB (b).length).length:Nat):Int)+((b).length:Nat))=((pre.length+(tlv (oneB 12) (b)).length:Nat):Int):=by rw [ZU,ZC];ac_rfl
 have e10:=H.lt
 generalize pre++(tlv (oneB 12) (b)++suf)=data at *
 simp (disch:=first | decide | assumption | lia) only [ZaE,X_k,Zp,ZB,ZX,Zx,Zbk,ZZ,P_bi,Zcw,Zs,Zi,Zc,Zaw,R_or,Zr,Zu,ZD,Zz,Zt,Z_ex,Za,Zae,c_eq,c_lt,c_le,Zn,Zh,Zv,Zd,Zap,Zo,Zg,Zy,ZA,ZI,Zat,Zai,Zad,Zj,Ze,Zf,Zk,Zl,Zb,okB_,ZaF,Zq,zc4,zc5,zc6,zc7,zc8,zc9,zc10,zc16,zc17,Zag,Zak,ZT B,ZF B,H.ix,H.rl,H.sl,ZaP,ZaX,ZbW,ZH B.g1,Zmy,ZbJ,Zdv,ZcM,ZcN,Zcl,ZcO,Zdw,Zdx]
 rw [e9]
theorem Zjy (B:Base T) (b:List UInt8) (pre suf:List UInt8) (dep:Int) (hc:(b).length < 65536):CL T (r+20) 23 [.bytes (pre++(tlv (oneB 19) (b)++suf)),.int (pre.length:Nat),.int dep] =
  .ok (.tuple [.tuple [.str sPrint,.bytes b],.int ((pre.length+(tlv (oneB 19) (b)).length:Nat):Int)]):=by
 rw [ZJ B.f23 rfl (by decide)]
 have H:=Zdg B (r:=r+9) (t:=19) (by decide) (b) pre suf hc
 have e9:(((pre.length+1+(lenB (b).length).length:Nat):Int)+((b).length:Nat))=((pre.length+(tlv (oneB 19) (b)).length:Nat):Int):=by rw [ZU,ZC];ac_rfl
 have e10:=H.lt
 generalize pre++(tlv (oneB 19) (b)++suf)=data at *
 simp (disch:=first | decide | assumption | lia) only [ZaE,X_k,Zp,ZB,ZX,Zx,Zbk,ZZ,P_bi,Zcw,Zs,Zi,Zc,Zaw,R_or,Zr,Zu,ZD,Zz,Zt,Z_ex,Za,Zae,c_eq,c_lt,c_le,Zn,Zh,Zv,Zd,Zap,Zo,Zg,Zy,ZA,ZI,Zat,Zai,Zad,Zj,Ze,Zf,Zk,Zl,Zb,okB_,ZaF,Zq,zc4,zc5,zc6,zc7,zc8,zc9,zc10,zc16,zc17,Zag,Zak,ZT B,ZF B,H.ix,H.rl,H.sl,ZaP,ZaX,ZbW,ZH B.g1,Zlk,Zbn,ZcP,Zcm,Zcn,ZbK,Zco,ZcQ,ZcR]
 rw [e9]
theorem ZiH (B:Base T) (b:List UInt8) (pre suf:List UInt8) (dep:Int) (hc:(b).length < 65536):CL T (r+20) 23 [.bytes (pre++(tlv (oneB 24) (b)++suf)),.int (pre.length:Nat),.int dep] =
  .ok (.tuple [.tuple [.str sTime,.bytes b],.int ((pre.length+(tlv (oneB 24) (b)).length:Nat):Int)]):=by
 rw [ZJ B.f23 rfl (by decide)]
 have H:=Zdg B (r:=r+9) (t:=24) (by decide) (b) pre suf hc
 have e9:(((pre.length+1+(lenB (b).length).length:Nat):Int)+((b).length:Nat))=((pre.length+(tlv (oneB 24) (b)).length:Nat):Int):=by rw [ZU,ZC];ac_rfl
 have e10:=H.lt
 generalize pre++(tlv (oneB 24) (b)++suf)=data at *
 simp (disch:=first | decide | assumption | lia) only [ZaE,X_k,Zp,ZB,ZX,Zx,Zbk,ZZ,P_bi,Zcw,Zs,Zi,Zc,Zaw,R_or,Zr,Zu,ZD,Zz,Zt,Z_ex,Za,Zae,c_eq,c_lt,c_le,Zn,Zh,Zv,Zd,Zap,Zo,Zg,Zy,ZA,ZI,Zat,Zai,Zad,Zj,Ze,Zf,Zk,Zl,Zb,okB_,ZaF,Zq,zc4,zc5,zc6,zc7,zc8,zc9,zc10,zc16,zc17,Zag,Zak,ZT B,ZF B,H.ix,H.rl,H.sl,ZaP,ZaX,ZbW,ZH B.g1,ZmA,ZbL,Zdy,ZcS,ZcT,Zcp,ZcU,Zdz,ZdA]
 rw [e9]
theorem ZkG (B:Base T)  (pre suf:List UInt8) (dep:Int) (hc:([]:List UInt8).length < 65536):CL T (r+20) 23 [.bytes (pre++(tlv (oneB 5) ([]:List UInt8)++suf)),.int (pre.length:Nat),.int dep] =
  .ok (.tuple [.tuple [.str sNull],.int ((pre.length+(tlv (oneB 5) ([]:List UInt8)).length:Nat):Int)]):=by
 rw [ZJ B.f23 rfl (by decide)]
 have H:=Zdg B (r:=r+9) (t:=5) (by decide) ([]:List UInt8) pre suf hc
 have e9:(((pre.length+1+(lenB ([]:List UInt8).length).length:Nat):Int)+(([]:List UInt8).length:Nat))=((pre.length+(tlv (oneB 5) ([]:List UInt8)).length:Nat):Int):=by rw [ZU,ZC];rfl
 have e10:=H.lt
 have hn0:(([]:List UInt8).length:Int)=0:=rfl
 generalize pre++(tlv (oneB 5) ([]:List UInt8)++suf)=data at *
 simp (disch:=first | decide | assumption | lia) only [ZaE,X_k,Zp,ZB,ZX,Zx,Zbk,ZZ,P_bi,Zcw,Zs,Zi,Zc,Zaw,R_or,Zr,Zu,ZD,Zz,Zt,Z_ex,Za,Zae,c_eq,c_lt,c_le,Zn,Zh,Zv,Zd,Zap,Zo,Zg,ZG,Zy,ZA,ZI,Zat,Zai,Zad,Zj,Ze,Zf,Zk,Zl,Zb,okB_,ZaF,Zq,zc4,zc5,zc6,zc7,zc8,zc9,zc10,zc16,zc17,Zag,Zak,ZT B,ZF B,H.ix,H.rl,H.sl,ZaP,ZaX,ZbW,ZH B.g1,Zmu,ZbH,Zds,ZcI,ZcJ,ZcK]
 rw [e9]
theorem Zom (B:Base T) (u:Nat) (b:List UInt8) (hu:u < 256) (pre suf:List UInt8) (dep:Int) (hc:(oneB u++b).length < 65536):CL T (r+20) 23 [.bytes (pre++(tlv (oneB 3) (oneB u++b)++suf)),.int (pre.length:Nat),.int dep] =
  .ok (.tuple [.tuple [.str sBits,.int (u:Nat),.bytes b],.int ((pre.length+(tlv (oneB 3) (oneB u++b)).length:Nat):Int)]):=by
 rw [ZJ B.f23 rfl (by decide)]
 have H:=Zdg B (r:=r+9) (t:=3) (by decide) (oneB u++b) pre suf hc
 have e9:(((pre.length+1+(lenB (oneB u++b).length).length:Nat):Int)+((oneB u++b).length:Nat))=((pre.length+(tlv (oneB 3) (oneB u++b)).length:Nat):Int):=by rw [ZU,ZC];lia
 have e10:=H.lt
 have i0:index (.bytes (oneB u++b)) (.int 0) = .ok (.int (u:Nat)):=by rw [show oneB u++b=UInt8.ofNat u::b from rfl,ZdN,Zaa hu]
 have sl1:slice (.bytes (oneB u++b)) (.int 1) .none = .ok (.bytes b):=Zoj _ b
 have hp:0 < (oneB u++b).length:=by simp [oneB]
 generalize pre++(tlv (oneB 3) (oneB u++b)++suf)=data at *
 simp (disch:=first | decide | assumption | lia) only [ZaE,X_k,Zp,ZB,ZX,Zx,Zbk,ZZ,P_bi,Zcw,Zs,Zi,Zc,Zaw,R_or,Zr,Zu,ZD,Zz,Zt,Z_ex,Za,Zae,c_eq,c_lt,c_le,c_gt,Zn,Zh,Zv,Zd,Zap,Zo,Zg,ZG,Zy,ZA,ZI,Zat,Zai,Zad,Zj,Ze,Zf,Zk,Zl,Zb,okB_,ZaF,Zq,zc4,zc5,zc6,zc7,zc8,zc9,zc10,zc16,zc17,Zag,Zak,ZT B,ZF B,H.ix,H.rl,H.sl,ZaP,ZaX,ZbW,ZH B.g1,Zmt,Zal,Zay,Zar,Zas,i0,sl1]
 rw [e9]
theorem ZpR (B:Base T) (a0:Nat) (as:List Nat) (pre suf:List UInt8) (dep:Int) (hc:(arcsB (a0::as)).length < 65536) (hb:∀a∈a0::as,a < 128 ^ 100) (hl:as.length≤900):CL T (r+20) 23 [.bytes (pre++(tlv (oneB 6) (arcsB (a0::as))++suf)),.int (pre.length:Nat),.int dep] =
  .ok (.tuple [.tuple [.str sOid,.list (.int (min (a0 / 40) 2:Nat)::.int ((a0 - 40*min (a0 / 40) 2:Nat):Int)::as.map nD)],.int ((pre.length+(tlv (oneB 6) (arcsB (a0::as))).length:Nat):Int)]):=by
 rw [ZJ B.f23 rfl (by decide)]
 have H:=Zdg B (r:=r+9) (t:=6) (by decide) (arcsB (a0::as)) pre suf hc
 have e9:(((pre.length+1+(lenB (arcsB (a0::as)).length).length:Nat):Int)+((arcsB (a0::as)).length:Nat))=((pre.length+(tlv (oneB 6) (arcsB (a0::as))).length:Nat):Int):=by rw [ZU,ZC];lia
 have e10:=H.lt
 have hi:=ZjY B (r:=r+17) a0 as hb hl
 generalize pre++(tlv (oneB 6) (arcsB (a0::as))++suf)=data at *
 simp (disch:=first | decide | assumption | lia) only [ZaE,X_k,Zp,ZB,ZX,Zx,Zbk,ZZ,P_bi,Zcw,Zs,Zi,Zc,Zaw,R_or,Zr,Zu,ZD,Zz,Zt,Z_ex,Za,Zae,c_eq,c_lt,c_le,Zn,Zh,Zv,Zd,Zap,Zo,Zg,ZG,Zy,ZA,ZI,Zat,Zai,Zad,Zj,Ze,Zf,Zk,Zl,Zb,okB_,ZaF,Zq,zc4,zc5,zc6,zc7,zc8,zc9,zc10,zc16,zc17,Zag,Zak,ZT B,ZF B,H.ix,H.rl,H.sl,ZaP,ZaX,ZbW,ZH B.g1,Zoc,Zbx,Zdd,Zci,Zdt,ZbY,Zcj,hi]
 rw [e9]
end DK.Internal.B
end
section
set_option backward.match.sparseCases false
set_option genSizeOf false
set_option genCtorIdx false
namespace DK.Internal.B
open PySem
variable {T:Text} {r:Nat}
structure Dc (T:Text) (d:D) (b:List UInt8) (k:Nat):Prop where
 dec:∀r pre suf (dep:Nat),k≤dep→CL T (r+20+2*k) 23 [.bytes (pre++(b++suf)),.int (pre.length:Nat),.int (dep:Nat)] = .ok (.tuple [d,.int ((pre.length+b.length:Nat):Int)])
 low:∀r pre suf (dep:Nat),dep < k→CL T (r+20+2*k) 23 [.bytes (pre++(b++suf)),.int (pre.length:Nat),.int (dep:Nat)] = .exc
 pos:0 < b.length
theorem Dc.up {d b k} (h:Dc T d b k) {K:Nat} (hk:k≤K) (r pre suf) (dep:Nat) (hd:k≤dep):CL T (r+20+2*K) 23 [.bytes (pre++(b++suf)),.int (pre.length:Nat),.int (dep:Nat)] = .ok (.tuple [d,.int ((pre.length+b.length:Nat):Int)]):=by
 rw [show r+20+2*K=(r+2*(K - k))+20+2*k by lia];exact h.dec _ _ _ _ hd
theorem Dc.upLow {d b k} (h:Dc T d b k) {K:Nat} (hk:k≤K) (r pre suf) (dep:Nat) (hd:dep < k):CL T (r+20+2*K) 23 [.bytes (pre++(b++suf)),.int (pre.length:Nat),.int (dep:Nat)] = .exc:=by
 rw [show r+20+2*K=(r+2*(K - k))+20+2*k by lia];exact h.low _ _ _ _ hd
structure Ni where
 d:D
 b:List UInt8
 k:Nat
noncomputable def flatB (ps:List Ni):List UInt8:=(ps.map (·.b)).flatten
theorem Zfe (p:Ni) (ps):flatB (p::ps)=p.b++flatB ps:=by simp [flatB]
theorem Zjz (B:Base T) (data suf:List UInt8) (dep K:Nat):∀(ps:List Ni) (pre:List UInt8) (acc:List D) (s4:Slot),data=pre++(flatB ps++suf) →
  (∀p∈ps,Dc T p.d p.b p.k∧p.k≤K∧p.k≤dep)→acc.length+ps.length≤1000 →
  ∃s4',W T (r+20+2*K) ZbD Zcc [.val (.bytes data),.val (.int ((dep+1:Nat):Int)),.own acc,.val (.int (pre.length:Nat)),s4] =
   W T (r+20+2*K) ZbD Zcc [.val (.bytes data),.val (.int ((dep+1:Nat):Int)),.own (acc++ps.map (·.d)),.val (.int ((pre++flatB ps).length:Nat)),s4']:=by
 intro ps
 induction ps with
 | nil=>intro pre acc s4 hd h hl;exact ⟨s4,by simp [flatB]⟩
 | cons p ps ih=>
  intro pre acc s4 hd h hl
  obtain ⟨h1,h2,h3⟩:=h p (List.mem_cons_self ..)
  obtain ⟨s4',hs⟩:=ih (pre++p.b) (acc ++ [p.d]) (.val (.tuple [p.d,.int ((pre.length+p.b.length:Nat):Int)])) (by rw [hd,Zfe];simp) (fun q hq=>h q (List.mem_cons_of_mem _ hq)) (by simp at hl ⊢;lia)
  refine ⟨s4',?_⟩
  rw [show pre++flatB (p::ps)=pre++p.b++flatB ps by rw [Zfe];simp,show acc++(p::ps).map (·.d)=acc ++ [p.d]++ps.map (·.d) by simp,←hs]
  conv=>lhs;rw [V_eq]
  have hdec:=h1.up h2 r pre (flatB ps++suf) dep h3
  rw [show pre++(p.b++(flatB ps++suf))=data by rw [hd,Zfe];simp] at hdec
  have hlt:pre.length < data.length:=by have:=h1.pos;rw [hd,Zfe];simp;lia
  have e:((dep+1:Nat):Int) - 1=(dep:Nat):=by simp
  have hal:acc.length < 1000000:=by simp at hl;lia
  have el:((pre++p.b).length:Int)=((pre.length+p.b.length:Nat):Int):=by simp
  rw [el]
  generalize W T (r+20+2*K) ZbD Zcc=w
  simp (disch:=first | decide | assumption | lia) only [ZbD,Zcc,X_k,Zp,ZB,Zx,P_bi,Zs,Zi,Zc,Zr,Zu,Zz,ZiY,ZK,Za,ZaC,c_lt,Zn,Zd,Zg,ZeH,Zdc,Zj,Ze,Zf,Zk,Zl,ZdJ,ZdK,Zb,Zq,ZQ,e,hdec,Zag,Zak]
theorem Zon (data:List UInt8) (dep:D) (acc:List D) (s4:Slot):W T r ZbD Zcc [.val (.bytes data),.val dep,.own acc,.val (.int (data.length:Nat)),s4] = .ok (.next,[.val (.bytes data),.val dep,.own acc,.val (.int (data.length:Nat)),s4]):=by
 rw [V_eq]
 simp (disch:=first | decide | assumption | lia) only [ZbD,Zp,P_bi,Zi,Zc,Zr,Za,c_lt,Zn,Zd,Zei,Zj,Ze,Zf,Zb]
theorem Zkf (B:Base T) (ps:List Ni) (dep K:Nat) (h:∀p∈ps,Dc T p.d p.b p.k∧p.k≤K∧p.k≤dep) (hl:ps.length≤900) :
  CL T (r+21+2*K) 21 [.bytes (flatB ps),.int ((dep+1:Nat):Int)] = .ok (.list (ps.map (·.d))):=by
 rw [show r+21+2*K=r+20+2*K+1 by lia,ZJ B.f21 rfl (by decide)]
 obtain ⟨s4,hs⟩:=Zjz B (r:=r) (flatB ps) [] dep K ps [] [] .un (by simp) h (by simp;exact Nat.le_trans (by assumption) (by decide))
 rw [List.nil_append,List.nil_append,Zon] at hs
 simp only [List.length_nil,show ((0:Nat):Int)=0 from rfl] at hs
 rw [show r+20+2*K=r+19+2*K+1 by lia] at hs ⊢
 simp (disch:=first | decide | assumption | lia) only [ZiT,X_k,Zp,ZX,Zac,Zs,Zi,Zc,ZD,Zz,ZhH,ZbF,ZfM,Z_ex,ZE,c_gt,Zh,Zd,Zo,Zg,Zeb,ZI,ZW,Zj,Ze,Zf,Zk,Zl,ZfS,ZfT,Zb,Zq,zc6,zc7,zc8,zc9,zc16,zc17,ZT B,hs]
theorem ZmG (B:Base T) (c:List UInt8):CL T (r+2) 21 [.bytes c,.int ((0:Nat):Int)] = .exc:=by
 rw [ZJ B.f21 rfl (by decide)]
 simp (disch:=first | decide | assumption | lia) only [ZiT,X_k,Zp,ZX,Zs,Zi,Zc,Z_ex,c_gt,Zd,Zbl,Zj,Ze,Zf,Zb,ZY,Zq,zc6,zc7,zc8,zc9,zc16,zc17,ZeT B]
theorem Zoo (B:Base T) (ps:List Ni) (xb suf:List UInt8) (dep K:Nat) (h:∀p∈ps,Dc T p.d p.b p.k∧p.k≤K∧p.k≤dep) (hl:ps.length≤900) (hx0:0 < xb.length)
  (hx:∀pre suf,CL T (r+20+2*K) 23 [.bytes (pre++(xb++suf)),.int (pre.length:Nat),.int (dep:Nat)] = .exc) :
  CL T (r+21+2*K) 21 [.bytes (flatB ps++(xb++suf)),.int ((dep+1:Nat):Int)] = .exc:=by
 rw [show r+21+2*K=r+20+2*K+1 by lia,ZJ B.f21 rfl (by decide)]
 obtain ⟨s4,hs⟩:=Zjz B (r:=r) (flatB ps++(xb++suf)) (xb++suf) dep K ps [] [] .un (by simp) h (by simp;exact Nat.le_trans (by assumption) (by decide))
 have hx1:=hx (flatB ps) suf
 have hlt:(flatB ps).length < (flatB ps++(xb++suf)).length:=by simp;lia
 have e:((dep+1:Nat):Int) - 1=(dep:Nat):=by simp
 have hend:W T (r+20+2*K) ZbD Zcc [.val (.bytes (flatB ps++(xb++suf))),.val (.int ((dep+1:Nat):Int)),.own ([]++ps.map (·.d)),.val (.int (([]++flatB ps).length:Nat)),s4] = .exc:=by
  rw [V_eq]
  rw [List.nil_append,List.nil_append]
  generalize flatB ps++(xb++suf)=data at *
  simp (disch:=first | decide | assumption | lia) only [ZbD,Zcc,X_k,Zp,ZB,P_bi,Zs,Zi,Zc,Zr,Zz,Za,ZaC,c_lt,Zn,Zd,ZbP,Zdc,Zj,Ze,Zf,Zb,ZY,Zq,e,hx1]
 rw [hend] at hs
 simp only [List.length_nil,show ((0:Nat):Int)=0 from rfl] at hs
 generalize flatB ps++(xb++suf)=data at *
 rw [show r+20+2*K=r+19+2*K+1 by lia] at hs ⊢
 simp (disch:=first | decide | assumption | lia) only [ZiT,X_k,Zp,ZX,Zac,Zs,Zi,Zc,Zz,ZhH,ZbF,Z_ex,c_gt,Zd,Zg,Zeb,ZI,ZW,Zj,Ze,Zf,Zk,Zl,Zb,ZY,Zq,zc6,zc7,zc8,zc9,zc16,zc17,ZT B,hs]
theorem Zlq (dep:Nat):∀(ps:List Ni),(∃p∈ps,dep < p.k)→∃qs x rs,ps=qs++x::rs∧(∀q∈qs,q.k≤dep)∧dep < x.k:=by
 intro ps
 induction ps with
 | nil=>intro ⟨p,hp,_⟩;cases hp
 | cons p ps ih=>
  intro ⟨q,hq,hk⟩
  by_cases h:dep < p.k
  ·exact ⟨[],p,ps,rfl,by simp,h⟩
  ·rcases List.mem_cons.mp hq with e | hq
   ·subst e;exact absurd hk h
   ·obtain ⟨qs,x,rs,e,h1,h2⟩:=ih ⟨q,hq,hk⟩
    refine ⟨p::qs,x,rs,by rw [e];rfl,?_,h2⟩
    intro y hy
    rcases List.mem_cons.mp hy with e | hy
    ·subst e;exact Nat.not_lt.mp (by assumption)
    ·exact h1 y hy
theorem ZiI (B:Base T) (ps:List Ni) (dep K:Nat) (h:∀p∈ps,Dc T p.d p.b p.k∧p.k≤K) (hl:ps.length≤900) (hx:dep=0∨∃p∈ps,dep - 1 < p.k) :
  CL T (r+21+2*K) 21 [.bytes (flatB ps),.int (dep:Nat)] = .exc:=by
 by_cases h0:dep=0
 ·subst h0
  rw [show r+21+2*K=r+19+2*K+2 by lia]
  exact ZmG B _
 ·have hx:=hx.resolve_left h0
  obtain ⟨qs,x,rs,e,h1,h2⟩:=Zlq (dep - 1) ps hx
  have hxx:=h x (by rw [e];simp)
  have:=Zoo B (r:=r) qs x.b (flatB rs) (dep - 1) K (fun q hq=>⟨(h q (by rw [e];simp [hq])).1,(h q (by rw [e];simp [hq])).2,h1 q hq⟩) (by rw [e] at hl;simp at hl;lia) hxx.1.pos
   (fun pre suf=>hxx.1.upLow hxx.2 r pre suf (dep - 1) h2)
  rw [show dep - 1+1=dep by lia] at this
  rw [e,show flatB (qs++x::rs)=flatB qs++(x.b++flatB rs) by simp [flatB]]
  exact this
end DK.Internal.B
end
section
set_option backward.match.sparseCases false
set_option genSizeOf false
set_option genCtorIdx false
namespace DK.Internal.B
open PySem
variable {T:Text} {r:Nat}
theorem ZmH (B:Base T) (ps:List Ni) (K:Nat) (h:∀p∈ps,Dc T p.d p.b p.k∧p.k≤K) (hmax:K=0∨∃p∈ps,p.k=K) (hl:ps.length≤900) (hc:(flatB ps).length < 65536) :
  Dc T (.tuple [.str sSeq,.list (ps.map (·.d))]) (tlv (oneB 48) (flatB ps)) (K+1):=by
 refine ⟨?_,?_,by rw [ZU,ZC];lia⟩
 ·intro r pre suf dep hd
  rw [show r+20+2*(K+1)=r+21+2*K+1 by lia,ZJ B.f23 rfl (by decide)]
  have H:=Zdg B (r:=r+11+2*K) (t:=48) (by decide) (flatB ps) pre suf hc
  have hk:=Zkf B (r:=r) ps (dep - 1) K (fun p hp=>⟨(h p hp).1,(h p hp).2,by have:=(h p hp).2;lia⟩) hl
  rw [show dep - 1+1=dep by lia] at hk
  have e9:(((pre.length+1+(lenB (flatB ps).length).length:Nat):Int)+((flatB ps).length:Nat))=((pre.length+(tlv (oneB 48) (flatB ps)).length:Nat):Int):=by rw [ZU,ZC];lia
  have e10:=H.lt
  have hrl:=H.rl
  rw [show r+11+2*K+10=r+20+2*K+1 by lia] at hrl
  rw [show r+21+2*K=r+20+2*K+1 by lia] at hk ⊢
  generalize pre++(tlv (oneB 48) (flatB ps)++suf)=data at *
  generalize flatB ps=F at *
  simp (disch:=first | decide | assumption | lia) only [ZaE,X_k,Zp,ZB,ZX,Zx,Zbk,ZZ,P_bi,Zcw,Zs,Zi,Zc,Zaw,R_or,Zr,Zu,ZD,Zz,Zt,Z_ex,Za,Zae,c_eq,c_lt,c_le,Zn,Zh,Zv,Zd,Zap,Zo,Zg,ZG,Zy,ZA,ZI,Zat,ZgW,Zai,Zad,Zj,Ze,Zf,Zk,Zl,Zb,okB_,ZaF,Zq,zc4,zc5,zc6,zc7,zc8,zc9,zc10,zc16,zc17,Zag,Zak,ZT B,ZF B,ZaP,ZaX,ZbW,ZH B.g1,H.ix,hrl,H.sl,Zkz,Zby,Zde,Zcq,ZdB,ZbZ,Zcr,Zca,hk]
  rw [e9]
 ·intro r pre suf dep hd
  rw [show r+20+2*(K+1)=r+21+2*K+1 by lia,ZJ B.f23 rfl (by decide)]
  have H:=Zdg B (r:=r+11+2*K) (t:=48) (by decide) (flatB ps) pre suf hc
  have hk:=ZiI B (r:=r) ps dep K h hl (by
   by_cases h0:dep=0
   ·exact .inl h0
   ·right
    rcases hmax with h1 | ⟨p,hp,h1⟩
    ·lia
    ·exact ⟨p,hp,by lia⟩)
  have e10:=H.lt
  have hrl:=H.rl
  rw [show r+11+2*K+10=r+20+2*K+1 by lia] at hrl
  rw [show r+21+2*K=r+20+2*K+1 by lia] at hk ⊢
  generalize pre++(tlv (oneB 48) (flatB ps)++suf)=data at *
  generalize flatB ps=F at *
  simp (disch:=first | decide | assumption | lia) only [ZaE,X_k,Zp,ZB,ZX,Zx,Zbk,ZZ,P_bi,Zcw,Zs,Zi,Zc,Zaw,R_or,Zr,Zu,Zz,Zt,Z_ex,Za,Zae,c_eq,c_lt,c_le,Zn,Zv,Zd,ZjP,Zkq,Zap,Zg,ZbP,ZG,Zy,ZA,ZI,Zat,ZgW,Zai,Zj,Ze,Zf,Zk,Zl,Zb,ZY,okB_,ZaF,Zq,zc4,zc5,zc6,zc7,zc8,zc9,zc10,zc16,zc17,Zag,Zak,ZT B,ZF B,ZaP,ZaX,ZbW,ZH B.g1,H.ix,hrl,H.sl,Zkz,Zby,Zde,Zcq,ZdB,ZbZ,Zcr,Zca,hk]
theorem ZpS (B:Base T) (ps:List Ni) (K:Nat) (h:∀p∈ps,Dc T p.d p.b p.k∧p.k≤K) (hmax:K=0∨∃p∈ps,p.k=K) (hl:ps.length≤900) (hc:(flatB ps).length < 65536) :
  Dc T (.tuple [.str sSet,.list (ps.map (·.d))]) (tlv (oneB 49) (flatB ps)) (K+1):=by
 refine ⟨?_,?_,by rw [ZU,ZC];lia⟩
 ·intro r pre suf dep hd
  rw [show r+20+2*(K+1)=r+21+2*K+1 by lia,ZJ B.f23 rfl (by decide)]
  have H:=Zdg B (r:=r+11+2*K) (t:=49) (by decide) (flatB ps) pre suf hc
  have hk:=Zkf B (r:=r) ps (dep - 1) K (fun p hp=>⟨(h p hp).1,(h p hp).2,by have:=(h p hp).2;lia⟩) hl
  rw [show dep - 1+1=dep by lia] at hk
  have e9:(((pre.length+1+(lenB (flatB ps).length).length:Nat):Int)+((flatB ps).length:Nat))=((pre.length+(tlv (oneB 49) (flatB ps)).length:Nat):Int):=by rw [ZU,ZC];lia
  have e10:=H.lt
  have hrl:=H.rl
  rw [show r+11+2*K+10=r+20+2*K+1 by lia] at hrl
  rw [show r+21+2*K=r+20+2*K+1 by lia] at hk ⊢
  generalize pre++(tlv (oneB 49) (flatB ps)++suf)=data at *
  generalize flatB ps=F at *
  simp (disch:=first | decide | assumption | lia) only [ZaE,X_k,Zp,ZB,ZX,Zx,Zbk,ZZ,P_bi,Zcw,Zs,Zi,Zc,Zaw,R_or,Zr,Zu,ZD,Zz,Zt,Z_ex,Za,Zae,c_eq,c_lt,c_le,Zn,Zh,Zv,Zd,Zap,Zo,Zg,ZG,Zy,ZA,ZI,Zat,Zai,Zad,Zj,Ze,Zf,Zk,Zl,Zb,okB_,ZaF,Zq,zc4,zc5,zc6,zc7,zc8,zc9,zc10,zc16,zc17,Zag,Zak,ZT B,ZF B,ZaP,ZaX,ZbW,ZH B.g1,H.ix,hrl,H.sl,ZkA,ZaU,Zcb,Zbz,Zct,Zbo,ZbA,Zbp,Zbq,hk]
  rw [e9]
 ·intro r pre suf dep hd
  rw [show r+20+2*(K+1)=r+21+2*K+1 by lia,ZJ B.f23 rfl (by decide)]
  have H:=Zdg B (r:=r+11+2*K) (t:=49) (by decide) (flatB ps) pre suf hc
  have hk:=ZiI B (r:=r) ps dep K h hl (by
   by_cases h0:dep=0
   ·exact .inl h0
   ·right
    rcases hmax with h1 | ⟨p,hp,h1⟩
    ·lia
    ·exact ⟨p,hp,by lia⟩)
  have e10:=H.lt
  have hrl:=H.rl
  rw [show r+11+2*K+10=r+20+2*K+1 by lia] at hrl
  rw [show r+21+2*K=r+20+2*K+1 by lia] at hk ⊢
  generalize pre++(tlv (oneB 49) (flatB ps)++suf)=data at *
  generalize flatB ps=F at *
  simp (disch:=first | decide | assumption | lia) only [ZaE,X_k,Zp,ZB,ZX,Zx,Zbk,ZZ,P_bi,Zcw,Zs,Zi,Zc,Zaw,R_or,Zr,Zu,Zz,Zt,Z_ex,Za,Zae,c_eq,c_lt,c_le,Zn,Zv,Zd,ZjP,Zkq,Zap,Zg,ZbP,ZG,Zy,ZA,ZI,Zat,Zai,Zj,Ze,Zf,Zk,Zl,Zb,ZY,okB_,ZaF,Zq,zc4,zc5,zc6,zc7,zc8,zc9,zc10,zc16,zc17,Zag,Zak,ZT B,ZF B,ZaP,ZaX,ZbW,ZH B.g1,H.ix,hrl,H.sl,ZkA,ZaU,Zcb,Zbz,Zct,Zbo,ZbA,Zbp,Zbq,hk]
structure Hl (T:Text) (r:Nat) (data:List UInt8) (p A L n:Nat) (g:Nat) (c:List UInt8):Prop where
 lt:p < data.length
 ix:index (.bytes data) (.int (p:Nat)) = .ok (.int ((191:Nat):Int))
 wh:∀s1 s2 s3 sl,W T (r+10) Zbb Zbc (.val (.bytes data)::s1::s2::s3::.val (.int 0)::.val (.int ((p:Nat)+1))::sl) = .ok (.next,.val (.bytes data)::s1::s2::s3::.val (.int (g:Nat))::.val (.int ((p+1+A:Nat):Int))::sl)
 st:∃u:Nat,u≠128∧index (.bytes data) (.int ((p:Nat)+1)) = .ok (.int (u:Nat))
 rl:CL T (r+10) 4 [.bytes data,.int ((p+1+A:Nat):Int)] = .ok (.tuple [.int (n:Nat),.int ((p+1+A+L:Nat):Int)])
 sl:slice (.bytes data) (.int ((p+1+A+L:Nat):Int)) (.int (((p+1+A+L:Nat):Int)+(n:Nat))) = .ok (.bytes c)
theorem ZmI (B:Base T) {g:Nat} (hg:g < 128 ^ 100) (c pre suf:List UInt8) (hc:c.length < 65536):Hl T r (pre++(tlv (191::arcB g) c++suf)) pre.length (arcB g).length (lenB c.length).length c.length g c:=by
 have e:pre++(tlv (191::arcB g) c++suf)=pre++191::(arcB g++(lenB c.length++(c++suf))):=by simp [tlv]
 have e2:pre++(tlv (191::arcB g) c++suf)=(pre ++ [191])++(arcH (g / 128)++UInt8.ofNat (g % 128)::(lenB c.length++(c++suf))):=by simp [tlv,arcB]
 have e3:pre++(tlv (191::arcB g) c++suf)=(pre++191::arcB g)++(lenB c.length++(c++suf)):=by simp [tlv]
 have e4:pre++(tlv (191::arcB g) c++suf)=(pre++191::arcB g++lenB c.length)++(c++suf):=by simp [tlv]
 have hl:=ZbT 100 (g / 128) (Nat.lt_of_le_of_lt (Nat.div_le_self _ _) hg)
 refine ⟨by rw [e];simp,?_,?_,?_,?_,?_⟩
 ·rw [e,Zan _ _ _ rfl];rfl
 ·intro s1 s2 s3 sl
  have:=Zkx B (r:=r+9) _ (lenB c.length++(c++suf)) (UInt8.ofNat (g % 128)) (by rw [Zaa (by lia)];exact Nat.mod_lt _ (by decide)) s1 s2 s3 sl (arcH (g / 128)) (pre ++ [191]) 0 0 e2 (ZgL _) (by decide) (by lia)
  rw [show arcH (g / 128) ++ [UInt8.ofNat (g % 128)]=arcB g from rfl,ZiB] at this
  have q1:(((pre ++ [(191:UInt8)]).length:Nat):Int)=((pre.length:Nat):Int)+1:=by simp
  have q2:(pre ++ [(191:UInt8)]).length+(arcH (g / 128)).length+1=pre.length+1+(arcB g).length:=by rw [ZcY];simp;exact Nat.add_assoc _ _ _
  rw [q1,q2] at this
  exact this
 ·obtain ⟨u,us,hu⟩:∃u us,arcB g=u::us:=by
   cases h:arcB g with
   | nil=>simp [arcB] at h
   | cons u us=>exact ⟨u,us,rfl⟩
  refine ⟨u.toNat,Zhk g u us hu,?_⟩
  rw [e,hu]
  exact Zlb pre _ 191 u (by rfl)
 ·rw [e3,Zee B hc (pre++191::arcB g) (c++suf) (at':=((pre.length+1+(arcB g).length:Nat):Int)) (by simp;lia)]
  congr 4
 ·rw [ZbM _ (pre.length+1+(arcB g).length+(lenB c.length).length) c.length rfl (by rfl),e4,Zhh _ _ _ _ _ (by simp;lia) rfl]
theorem dc_tag (B:Base T) (g:Nat) (hg:g < 128 ^ 100) (x:D) (b:List UInt8) (K:Nat) (h:Dc T x b K) (hc:b.length < 65536) :
  Dc T (.tuple [.str sTagged,.int (g:Nat),x]) (tlv (tagB g) b) (K+1):=by
 have hflat:flatB [⟨x,b,K⟩]=b:=by simp [flatB]
 refine ⟨?_,?_,by rw [ZU];have:=ZnV b.length;lia⟩
 ·intro r pre suf dep hd
  rw [show r+20+2*(K+1)=r+21+2*K+1 by lia,ZJ B.f23 rfl (by decide)]
  have hk:=Zkf B (r:=r) [⟨x,b,K⟩] (dep - 1) K (fun p hp=>by
   simp only [List.mem_singleton] at hp;subst hp;exact ⟨h,Nat.le_refl _,by show K≤dep - 1;lia⟩) (by simp)
  rw [show dep - 1+1=dep by lia,hflat] at hk
  rw [show r+21+2*K=r+20+2*K+1 by lia] at hk
  simp only [List.map_cons,List.map_nil] at hk
  by_cases h31:g < 31
  ·have e:tagB g=oneB (160+g):=by rw [tagB,if_pos h31]
   rw [e]
   have H:=Zdg B (r:=r+11+2*K) (t:=160+g) (by lia) b pre suf hc
   have e9:(((pre.length+1+(lenB b.length).length:Nat):Int)+(b.length:Nat))=((pre.length+(tlv (oneB (160+g)) b).length:Nat):Int):=by rw [ZU,ZC];ac_rfl
   have e10:=H.lt
   have hrl:=H.rl
   rw [show r+11+2*K+10=r+20+2*K+1 by lia] at hrl
   rw [show r+21+2*K=r+20+2*K+1 by lia]
   have e11:((160+g:Nat):Int) - 160=(g:Nat):=by lia
   generalize pre++(tlv (oneB (160+g)) b++suf)=data at *
   simp (disch:=first | decide | assumption | lia) only [ZaE,X_k,Zp,ZB,ZX,Zx,Zbk,ZZ,P_bi,Zs,Zi,Zc,Zaw,Zr,Zu,ZD,Zz,Zt,Z_ex,Za,Zae,ZaC,c_eq,c_lt,c_le,Zn,ZaV,Zh,Zv,Zd,Zap,Zo,Zg,ZG,ZP,ZA,ZI,Zcy,Zad,Zj,Ze,Zf,Zk,Zl,Zb,okB_,ZaF,Zq,zc5,zc6,zc7,zc8,zc9,zc10,zc16,zc17,Zag,Zak,ZT B,ZF B,ZaP,ZiG,H.ix,hrl,H.sl,e11,hk,List.length_cons,List.length_nil,ZcB]
   rw [e9]
  ·have e:tagB g=191::arcB g:=by rw [tagB,if_neg h31]
   rw [e]
   have H:=ZmI B (r:=r+11+2*K) hg b pre suf hc
   have e9:(((pre.length+1+(arcB g).length+(lenB b.length).length:Nat):Int)+(b.length:Nat))=((pre.length+(tlv (191::arcB g) b).length:Nat):Int):=by rw [ZU];simp;lia
   have e10:=H.lt
   have hrl:=H.rl
   have hwh:=H.wh
   obtain ⟨u,hu,hst⟩:=H.st
   rw [show r+11+2*K+10=r+20+2*K+1 by lia] at hrl hwh
   rw [show r+21+2*K=r+20+2*K+1 by lia]
   generalize pre++(tlv (191::arcB g) b++suf)=data at *
   simp (disch:=first | decide | assumption | lia) only [ZaE,X_k,Zp,ZB,Zcd,ZX,Zx,Zbk,ZZ,P_bi,Zs,Zi,Zc,Zr,Zu,ZD,Zz,Zt,ZbF,Z_ex,ZE,Za,Zae,c_eq,c_ne,c_lt,c_ge,Zn,ZaV,Zh,Zv,Zd,Zap,Zo,Zg,ZG,ZP,ZI,Zij,Zad,Zj,Ze,Zf,Zk,Zl,Zb,okB_,ZaF,Zq,zc5,zc6,zc7,zc8,zc9,zc10,zc16,zc17,Zag,Zak,ZT B,ZF B,ZaP,ZiG,H.ix,hwh,hst,hrl,H.sl,hk,List.length_cons,List.length_nil,ZcB]
   rw [e9]
 ·intro r pre suf dep hd
  rw [show r+20+2*(K+1)=r+21+2*K+1 by lia,ZJ B.f23 rfl (by decide)]
  have hk:=ZiI B (r:=r) [⟨x,b,K⟩] dep K (fun p hp=>by
   simp only [List.mem_singleton] at hp;subst hp;exact ⟨h,Nat.le_refl _⟩) (by simp) (by
   by_cases h0:dep=0
   ·exact .inl h0
   ·exact .inr ⟨⟨x,b,K⟩,by simp,by show dep - 1 < K;lia⟩)
  rw [hflat] at hk
  rw [show r+21+2*K=r+20+2*K+1 by lia] at hk
  by_cases h31:g < 31
  ·have e:tagB g=oneB (160+g):=by rw [tagB,if_pos h31]
   rw [e]
   have H:=Zdg B (r:=r+11+2*K) (t:=160+g) (by lia) b pre suf hc
   have e10:=H.lt
   have hrl:=H.rl
   rw [show r+11+2*K+10=r+20+2*K+1 by lia] at hrl
   rw [show r+21+2*K=r+20+2*K+1 by lia]
   generalize pre++(tlv (oneB (160+g)) b++suf)=data at *
   simp (disch:=first | decide | assumption | lia) only [ZaE,X_k,Zp,ZB,ZX,Zx,Zbk,P_bi,Zs,Zi,Zc,Zaw,Zr,Zu,Zz,Zt,Z_ex,Za,Zae,ZaC,c_eq,c_lt,c_le,Zn,Zv,Zd,Zap,Zg,ZbP,ZG,ZP,ZA,ZI,Zcy,Zj,Ze,Zf,Zk,Zl,Zb,ZY,okB_,ZaF,Zq,zc5,zc6,zc7,zc8,zc9,zc10,zc16,zc17,Zag,Zak,ZT B,ZF B,ZaP,ZiG,H.ix,hrl,H.sl,hk]
  ·have e:tagB g=191::arcB g:=by rw [tagB,if_neg h31]
   rw [e]
   have H:=ZmI B (r:=r+11+2*K) hg b pre suf hc
   have e10:=H.lt
   have hrl:=H.rl
   have hwh:=H.wh
   obtain ⟨u,hu,hst⟩:=H.st
   rw [show r+11+2*K+10=r+20+2*K+1 by lia] at hrl hwh
   rw [show r+21+2*K=r+20+2*K+1 by lia]
   generalize pre++(tlv (191::arcB g) b++suf)=data at *
   simp (disch:=first | decide | assumption | lia) only [ZaE,X_k,Zp,ZB,Zcd,ZX,Zx,Zbk,P_bi,Zs,Zi,Zc,Zr,Zu,Zz,Zt,ZbF,Z_ex,ZE,Za,Zae,c_eq,c_ne,c_lt,c_ge,Zn,Zv,Zd,Zap,Zg,ZbP,ZG,ZP,ZI,Zij,Zj,Ze,Zf,Zk,Zl,Zb,ZY,okB_,ZaF,Zq,zc5,zc6,zc7,zc8,zc9,zc10,zc16,zc17,Zag,Zak,ZT B,ZF B,ZaP,ZiG,H.ix,hwh,hst,hrl,H.sl,hk]
end DK.Internal.B
end
section
set_option backward.match.sparseCases false
set_option genSizeOf false
set_option genCtorIdx false
namespace DK.Internal.B
open PySem
variable {T:Text} {r:Nat}
theorem Zia (a b:List UInt8) (j:Nat):(∃i,i < a.length∧(a++b).take j=a.take i)∨(∃i,j=a.length+i∧(a++b).take j=a++b.take i):=by
 by_cases h:j < a.length
 ·exact .inl ⟨j,h,List.take_append_of_le_length (by exact Nat.le_of_lt (by assumption))⟩
 ·right
  refine ⟨j - a.length,by lia,?_⟩
  rw [List.take_append,List.take_of_length_le (by exact Nat.not_lt.mp (by assumption))]
theorem ZkH (B:Base T) (pre c:List UInt8) (hc:c.length < 65536) (j:Nat) (hj:j < (lenB c.length++c).length) :
  CL T (r+10) 4 [.bytes (pre++(lenB c.length++c).take j),.int (pre.length:Nat)] = .exc ∨
  (CL T (r+10) 4 [.bytes (pre++(lenB c.length++c).take j),.int (pre.length:Nat)] = .ok (.tuple [.int (c.length:Nat),.int ((pre.length+(lenB c.length).length:Nat):Int)]) ∧
   ∃m,m.length < c.length∧slice (.bytes (pre++(lenB c.length++c).take j)) (.int ((pre.length+(lenB c.length).length:Nat):Int)) (.int (((pre.length+(lenB c.length).length:Nat):Int)+(c.length:Nat))) = .ok (.bytes m)):=by
 rcases Zia (lenB c.length) c j with ⟨i,hi,e⟩ | ⟨i,hi,e⟩
 ·left;rw [e];exact Zhj B hi pre rfl
 ·right
  rw [e]
  have hi2:i < c.length:=by simp at hj;lia
  refine ⟨by rw [Zee B hc pre (c.take i) rfl];congr 4,c.take i,by simp;lia,?_⟩
  rw [ZbM _ (pre.length+(lenB c.length).length) c.length rfl (by rfl)]
  rw [←List.append_assoc,List.drop_left' (by simp),List.take_take]
  congr 3;lia
theorem ZiJ (B:Base T) {t:Nat} (ht:t < 256) (ht2:t≠191) (c:List UInt8) (hc:c.length < 65536) (j:Nat) (hj:j < (tlv (oneB t) c).length) (dep:Int) :
  CL T (r+20) 23 [.bytes ((tlv (oneB t) c).take j),.int 0,.int dep] = .exc:=by
 rw [ZJ B.f23 rfl (by decide)]
 cases j with
 | zero=>
  simp (disch:=first | decide | assumption | lia) only [ZaE,Zp,ZX,P_bi,Zs,Zi,Zc,Z_ex,c_lt,Zn,Zd,Zbl,Zj,Ze,Zf,Zb,ZY,Zq,zc6,zc7,zc8,zc9,zc16,zc17,List.take_zero,List.length_nil,ZeT B]
 | succ j=>
  have e:(tlv (oneB t) c).take (j+1) = [UInt8.ofNat t]++(lenB c.length++c).take j:=by simp [tlv,oneB]
  have hj2:j < (lenB c.length++c).length:=by rw [ZU,ZC] at hj;simp;lia
  have hix:index (.bytes ([UInt8.ofNat t]++(lenB c.length++c).take j)) (.int 0) = .ok (.int (t:Nat)):=by
   rw [List.singleton_append,ZdN,Zaa ht]
  have hlt:0 < ([UInt8.ofNat t]++(lenB c.length++c).take j).length:=by simp
  have hr:=ZkH B (r:=r+9) [UInt8.ofNat t] c hc j hj2
  rw [e]
  generalize [UInt8.ofNat t]++(lenB c.length++c).take j=data at *
  simp only [List.length_singleton,show ((1:Nat):Int)=1 from rfl] at hr
  have e1:(0:Int)+1=1:=rfl
  by_cases hr1:160≤t∧t < 191
  ·rcases hr with hr | ⟨hr,m,hm,hs⟩
   ·simp (disch:=first | decide | assumption | lia) only [ZaE,X_k,Zp,ZB,ZX,Zx,P_bi,Zs,Zi,Zc,Zaw,Zr,Zu,Zz,Zt,Z_ex,Za,Zae,ZaC,c_eq,c_lt,c_le,Zn,Zv,Zd,Zg,ZbP,ZP,ZA,ZI,Zcy,Zj,Ze,Zf,Zk,Zl,Zb,ZY,okB_,Zq,zc6,zc7,zc8,zc9,zc16,zc17,ZT B,hix,e1,hr]
   ·simp (disch:=first | decide | assumption | lia) only [ZaE,X_k,Zp,ZB,ZX,Zx,Zbk,P_bi,Zs,Zi,Zc,Zaw,Zr,Zu,Zz,Zt,Z_ex,Za,Zae,ZaC,c_eq,c_lt,c_le,Zn,Zv,Zd,Zap,Zg,ZP,ZA,ZI,Zbl,Zcy,Zj,Ze,Zf,Zk,Zl,Zb,ZY,okB_,Zq,zc6,zc7,zc8,zc9,zc16,zc17,Zag,Zak,ZT B,hix,e1,hr,hs,ZeT B]
  ·by_cases h160:160≤t
   ·rcases hr with hr | ⟨hr,m,hm,hs⟩
    ·simp (disch:=first | decide | assumption | lia) only [ZaE,X_k,Zp,ZB,ZX,Zx,P_bi,Zs,Zi,Zc,Zaw,Zr,Zu,Zz,Zt,Z_ex,Za,Zae,c_eq,c_lt,c_le,Zn,Zv,Zd,Zg,ZbP,ZA,ZI,Zcy,Zj,Ze,Zf,Zk,Zl,Zb,ZY,okB_,Zq,zc6,zc7,zc8,zc9,zc16,zc17,ZT B,hix,e1,hr]
    ·simp (disch:=first | decide | assumption | lia) only [ZaE,X_k,Zp,ZB,ZX,Zx,Zbk,P_bi,Zs,Zi,Zc,Zaw,Zr,Zu,Zz,Zt,Z_ex,Za,Zae,c_eq,c_lt,c_le,Zn,Zv,Zd,Zap,Zg,ZA,ZI,Zbl,Zcy,Zj,Ze,Zf,Zk,Zl,Zb,ZY,okB_,Zq,zc6,zc7,zc8,zc9,zc16,zc17,Zag,Zak,ZT B,hix,e1,hr,hs,ZeT B]
   ·rcases hr with hr | ⟨hr,m,hm,hs⟩
    ·simp (disch:=first | decide | assumption | lia) only [ZaE,X_k,Zp,ZB,ZX,Zx,P_bi,Zs,Zi,Zc,Zaw,Zr,Zu,Zz,Zt,Z_ex,Za,Zae,c_eq,c_lt,c_le,Zn,Zv,Zd,Zg,ZbP,Zy,ZA,ZI,Zat,Zj,Ze,Zf,Zk,Zl,Zb,ZY,okB_,Zq,zc6,zc7,zc8,zc9,zc16,zc17,ZT B,hix,e1,hr]
    ·simp (disch:=first | decide | assumption | lia) only [ZaE,X_k,Zp,ZB,ZX,Zx,Zbk,P_bi,Zs,Zi,Zc,Zaw,Zr,Zu,Zz,Zt,Z_ex,Za,Zae,c_eq,c_lt,c_le,Zn,Zv,Zd,Zap,Zg,Zy,ZA,ZI,Zbl,Zat,Zj,Ze,Zf,Zk,Zl,Zb,ZY,okB_,Zq,zc6,zc7,zc8,zc9,zc16,zc17,Zag,Zak,ZT B,hix,e1,hr,hs,ZeT B]
theorem ZpT (B:Base T) {g:Nat} (hg:g < 128 ^ 100) (c:List UInt8) (hc:c.length < 65536) (j:Nat) (hj:j < (tlv (tagB g) c).length) (dep:Int) :
  CL T (r+20) 23 [.bytes ((tlv (tagB g) c).take j),.int 0,.int dep] = .exc:=by
 by_cases h31:g < 31
 ·rw [tagB,if_pos h31] at hj ⊢
  exact ZiJ B (by lia) (by lia) c hc j hj dep
 ·rw [tagB,if_neg h31] at hj ⊢
  rw [ZJ B.f23 rfl (by decide)]
  cases j with
  | zero=>
   simp (disch:=first | decide | assumption | lia) only [ZaE,Zp,ZX,P_bi,Zs,Zi,Zc,Z_ex,c_lt,Zn,Zd,Zbl,Zj,Ze,Zf,Zb,ZY,Zq,zc6,zc7,zc8,zc9,zc16,zc17,List.take_zero,List.length_nil,ZeT B]
  | succ j=>
   have hl:=ZbT 100 (g / 128) (Nat.lt_of_le_of_lt (Nat.div_le_self _ _) hg)
   have e:(tlv (191::arcB g) c).take (j+1)=191::(arcB g++(lenB c.length++c)).take j:=by simp [tlv]
   have e1:(0:Int)+1=1:=rfl
   rw [e]
   have hix:index (.bytes (191::(arcB g++(lenB c.length++c)).take j)) (.int 0) = .ok (.int ((191:Nat):Int)):=by
    rw [ZdN];rfl
   have hlt:0 < (191::(arcB g++(lenB c.length++c)).take j).length:=by simp
   rcases Zia (arcB g) (lenB c.length++c) j with ⟨i,hi,e2⟩ | ⟨i,hi,e2⟩
   ·rw [e2] at hix hlt ⊢
    have e3:(arcB g).take i=(arcH (g / 128)).take i:=by
     rw [arcB,List.take_append_of_le_length (by rw [ZcY] at hi;exact Nat.le_of_lt_succ (by assumption))]
    rw [e3] at hix hlt ⊢
    have hw:=fun s1 s2 s3 sl=>ZpI B (r:=r+18) (191::(arcH (g / 128)).take i) s1 s2 s3 sl ((arcH (g / 128)).take i) [191] 0 0 rfl (fun u hu=>ZgL _ u (List.mem_of_mem_take hu)) (by decide) (by simp;lia)
    simp only [List.length_singleton,show ((1:Nat):Int)=1 from rfl,show ((0:Nat):Int)=0 from rfl] at hw
    generalize 191::(arcH (g / 128)).take i=data at *
    simp (disch:=first | decide | assumption | lia) only [ZaE,X_k,Zp,ZB,ZX,Zx,P_bi,Zs,Zi,Zc,Zr,Zz,Zt,ZbF,Z_ex,Za,Zae,c_eq,c_lt,Zn,Zv,Zd,Zg,ZP,ZI,Zj,Ze,Zf,Zk,Zl,Zb,ZY,okB_,Zq,zc6,zc7,zc8,zc9,zc16,zc17,ZT B,hix,e1,hw]
   ·rw [e2] at hix hlt ⊢
    have hi2:i < (lenB c.length++c).length:=by rw [ZU] at hj;simp at hj ⊢;lia
    have hr:=ZkH B (r:=r+9) (191::arcB g) c hc i hi2
    have hw:=fun s1 s2 s3 sl=>Zkx B (r:=r+18) (191::(arcB g++(lenB c.length++c).take i)) ((lenB c.length++c).take i) (UInt8.ofNat (g % 128)) (by rw [Zaa (by lia)];exact Nat.mod_lt _ (by decide)) s1 s2 s3 sl (arcH (g / 128)) [191] 0 0 (by simp [arcB]) (ZgL _) (by decide) (by lia)
    rw [show arcH (g / 128) ++ [UInt8.ofNat (g % 128)]=arcB g from rfl,ZiB] at hw
    have q2 : [(191:UInt8)].length+(arcH (g / 128)).length+1=(191::arcB g).length:=by simp [ZcY];exact Nat.add_comm _ _
    rw [q2] at hw
    simp only [List.length_singleton,show ((1:Nat):Int)=1 from rfl,show ((0:Nat):Int)=0 from rfl] at hw
    rw [List.cons_append] at hr
    obtain ⟨u,us,hu⟩:∃u us,arcB g=u::us:=by
     cases h:arcB g with
     | nil=>simp [arcB] at h
     | cons u us=>exact ⟨u,us,rfl⟩
    have hne:=Zhk g u us hu
    have hst:index (.bytes (191::(arcB g++(lenB c.length++c).take i))) (.int 1) = .ok (.int (u.toNat:Nat)):=by
     rw [hu];exact Zhm 191 u _
    generalize 191::(arcB g++(lenB c.length++c).take i)=data at *
    generalize (191::arcB g).length=q at *
    rcases hr with hr | ⟨hr,m,hm,hs⟩
    ·simp (disch:=first | decide | assumption | lia) only [ZaE,X_k,Zp,ZB,Zcd,ZX,Zx,P_bi,Zs,Zi,Zc,Zr,Zu,Zz,Zt,ZbF,Z_ex,ZE,Za,Zae,c_eq,c_ne,c_lt,c_ge,Zn,Zv,Zd,Zg,ZbP,ZP,ZI,Zij,Zj,Ze,Zf,Zk,Zl,Zb,ZY,okB_,ZaF,Zq,zc6,zc7,zc8,zc9,zc16,zc17,ZT B,hix,e1,hw,hst,hr]
    ·simp (disch:=first | decide | assumption | lia) only [ZaE,X_k,Zp,ZB,Zcd,ZX,Zx,Zbk,P_bi,Zs,Zi,Zc,Zr,Zu,Zz,Zt,ZbF,Z_ex,ZE,Za,Zae,c_eq,c_ne,c_lt,c_ge,Zn,Zv,Zd,Zap,Zg,ZP,ZI,Zbl,Zij,Zj,Ze,Zf,Zk,Zl,Zb,ZY,okB_,ZaF,Zq,zc6,zc7,zc8,zc9,zc16,zc17,Zag,Zak,ZT B,hix,e1,hw,hst,hr,hs,ZeT B]
noncomputable def En (T:Text) (d:D) (b:List UInt8) (k:Nat):Prop:=∀r,CL T (r+20+k) 20 [d] = .ok (.bytes b)
noncomputable def Eb (T:Text) (d:D) (k:Nat):Prop:=∀r,CL T (r+20+k) 20 [d] = .exc
theorem ZmJ (B:Base T) {d b k} (h:Dc T d b k) (h2:En T d b k) (dep:Nat) (hd:k≤dep):CL T (r+21+2*k) 24 [.bytes b,.int (dep:Nat)] = .ok d:=by
 rw [show r+21+2*k=r+19+2*k+1+1 by lia,ZJ B.f24 rfl (by decide)]
 have h1:=h.dec r [] [] dep hd
 have h3:=h2 (r+k)
 rw [show r+k+20+k=r+19+2*k+1 by lia] at h3
 rw [show r+20+2*k=r+19+2*k+1 by lia] at h1
 simp only [List.nil_append,List.append_nil,List.length_nil,Nat.zero_add,show ((0:Nat):Int)=0 from rfl] at h1
 simp (disch:=first | lia | rfl) only [Zgj,X_k,Zp,ZX,Zx,P_bi,Zs,Zi,Zc,ZD,Zz,Z_ex,c_eq,Zn,Zh,Zv,ZdM,Zd,Zo,Zg,ZI,Zj,Ze,Zf,Zk,Zl,Zb,okB_,Zq,zc6,zc7,zc8,zc9,zc10,zc16,zc17,h1,Zag,Zak,ZF B,h3]
theorem Zib (B:Base T) {b:List UInt8} {dep:Int} (h:CL T (r+1) 23 [.bytes b,.int 0,.int dep] = .exc):CL T (r+2) 24 [.bytes b,.int dep] = .exc:=by
 rw [ZJ B.f24 rfl (by decide)]
 simp (disch:=first | lia | rfl) only [Zgj,X_k,Zp,Zs,Zi,Zc,Zz,Zd,ZbP,Zj,Ze,Zf,Zb,ZY,Zq,zc6,zc7,zc8,zc9,zc16,zc17,h]
theorem Zlr (B:Base T) {d b k} (h:Dc T d b k) (dep:Nat) (hd:dep < k):CL T (r+21+2*k) 24 [.bytes b,.int (dep:Nat)] = .exc:=by
 have h1:=h.low r [] [] dep hd
 rw [show r+20+2*k=r+19+2*k+1 by lia] at h1
 rw [show r+21+2*k=r+19+2*k+2 by lia]
 simp only [List.nil_append,List.append_nil,List.length_nil,show ((0:Nat):Int)=0 from rfl] at h1
 exact Zib B h1
theorem Zls (B:Base T) {d b k} (h:Dc T d b k) (h2:Eb T d k) (dep:Nat) (hd:k≤dep):CL T (r+21+2*k) 24 [.bytes b,.int (dep:Nat)] = .exc:=by
 rw [show r+21+2*k=r+19+2*k+1+1 by lia,ZJ B.f24 rfl (by decide)]
 have h1:=h.dec r [] [] dep hd
 have h3:=h2 (r+k)
 rw [show r+k+20+k=r+19+2*k+1 by lia] at h3
 rw [show r+20+2*k=r+19+2*k+1 by lia] at h1
 simp only [List.nil_append,List.append_nil,List.length_nil,Nat.zero_add,show ((0:Nat):Int)=0 from rfl] at h1
 simp (disch:=first | lia | rfl) only [Zgj,X_k,Zp,ZX,Zx,P_bi,Zs,Zi,Zc,Zz,Z_ex,c_eq,Zn,Zv,Zd,ZjP,Zg,ZI,Zbl,Zj,Ze,Zf,Zk,Zl,Zb,ZY,okB_,Zq,zc6,zc7,zc8,zc9,zc10,zc16,zc17,h1,Zag,Zak,ZF B,h3]
theorem Zkg (B:Base T) {d b k} (h:Dc T d b k) (suf:List UInt8) (hs:0 < suf.length) (dep:Nat) (hd:k≤dep):CL T (r+21+2*k) 24 [.bytes (b++suf),.int (dep:Nat)] = .exc:=by
 rw [show r+21+2*k=r+19+2*k+1+1 by lia,ZJ B.f24 rfl (by decide)]
 have h1:=h.dec r [] suf dep hd
 rw [show r+20+2*k=r+19+2*k+1 by lia] at h1
 simp only [List.nil_append,List.length_nil,Nat.zero_add,show ((0:Nat):Int)=0 from rfl] at h1
 have hne:b.length≠(b++suf).length:=by rw [List.length_append];lia
 generalize b++suf=data at *
 simp (disch:=first | lia | rfl) only [Zgj,X_k,Zp,ZX,Zx,P_bi,Zs,Zi,Zc,Zz,Z_ex,c_eq,Zn,Zv,Zd,Zg,Zbl,Zj,Ze,Zf,Zk,Zl,Zb,ZY,okB_,Zq,zc6,zc7,zc8,zc9,zc16,zc17,h1,Zak,ZeT B]
end DK.Internal.B
end
section
set_option backward.match.sparseCases false
set_option genSizeOf false
set_option genCtorIdx false
namespace DK.Internal.B
open PySem
variable {T:Text} {r:Nat}
abbrev Nd:=List D × D
noncomputable def nodeD (path:List D) (n:Nd):D:= .tuple [.list (path++n.1),n.2]
theorem ZmK (s0:Slot) (xs:List D) (sl):copyD (s0::.own xs::sl) 1 = .ok (.list xs):=rfl
theorem backW (c:C) (a:Slot) (p o:List D) (sl:List Slot):back (.val c (.own 1 (.own 2 .nil))) [a,.own p,.own o] sl = .ok (setV (setV sl 1 (.own p)) 2 (.own o)):=rfl
theorem backW0 (c:C) (a:Slot) (p o:List D) (sl:List Slot):back (.val c (.fresh (.own 1 .nil))) [a,.own p,.own o] sl = .ok (setV sl 1 (.own o)):=rfl
noncomputable def Wk (T:Text) (d:D) (k:Nat) (ns:List Nd):Prop:=∀r (path out:List D),path.length+k≤900→out.length+ns.length≤900000 →
 CX T (r+3+k) 26 [.val d,.own path,.own out] = .ok [.val d,.own path,.own (out++ns.map (nodeD path))]
structure Wi where
 d:D
 k:Nat
 ns:List Nd
noncomputable def under (i:Nat) (n:Nd):Nd:=(nD i::n.1,n.2)
noncomputable def nodesFrom:Nat→List Wi→List Nd
 | _,[]=> []
 | i,w::ws=>w.ns.map (under i)++nodesFrom (i+1) ws
theorem Zlt (path:List D) (i:Nat) (n:Nd):nodeD (path ++ [nD i]) n=nodeD path (under i n):=by simp [nodeD,under]
theorem ZmL (B:Base T) (d0:D) (path:List D) (K:Nat) (hp:path.length+1+K≤900):∀(ws:List Wi) (i:Nat) (out:List D) (s4:Slot),(∀w∈ws,Wk T w.d w.k w.ns∧w.k≤K)→out.length+(nodesFrom i ws).length≤900000 →
  ∃s3 s4',FE T (r+3+K) (.one 4) Zfg (ws.map (·.d)) [.val d0,.own path,.own out,.val (.int (i:Nat)),s4] = .ok (.next,[.val d0,.own path,.own (out++(nodesFrom i ws).map (nodeD path)),s3,s4']):=by
 intro ws
 induction ws with
 | nil=>intro i out s4 h hl;exact ⟨.val (.int (i:Nat)),s4,by rw [List.map_nil,Zkt];simp only [nodesFrom,List.map_nil,List.append_nil]⟩
 | cons w ws ih=>
  intro i out s4 h hl
  obtain ⟨h1,h2⟩:=h w (List.mem_cons_self ..)
  simp only [nodesFrom,List.length_append,List.length_map] at hl
  obtain ⟨s3,s4',hs⟩:=ih (i+1) (out++w.ns.map (nodeD (path ++ [nD i]))) (.val w.d) (fun q hq=>h q (List.mem_cons_of_mem _ hq)) (by simp;lia)
  refine ⟨s3,s4',?_⟩
  have hw:=h1 (r+(K - w.k)) (path ++ [nD i]) out (by simp;lia) (by lia)
  rw [show r+(K - w.k)+3+w.k=r+2+K+1 by lia] at hw
  rw [show r+3+K=r+2+K+1 by lia] at hs ⊢
  rw [List.map_cons,ZkZ]
  generalize FE T (r+2+K+1) (.one 4) Zfg (ws.map (·.d))=f at hs ⊢
  have hpl:path.length < 1000000:=by lia
  simp (disch:=first | decide | assumption | lia) only [Zfg,Zp,ZiY,Zbs,ZeH,ZhV,Ze,Zf,Zk,Zl,ZdJ,ZdK,Zq]
  rw [ZgV _ _ _ _ (by decide)]
  rw [show D.int ((i:Nat):Int)=nD i from rfl]
  simp (disch:=first | decide | assumption | lia) only [X_k,Zp,Zu,Zep,Z_pop,ZK,Zja,Zjb,Zjc,Out.ok_bind,Zae,Zd,Zg,ZaT,Zpn,arK_,arO_,Ze,Zf,Zk,Zl,ZdJ,ZdK,Zb,ZQ,hw,backW,show Out.ok (nD i)=Out.ok (.int (i:Nat)) from rfl]
  refine hs.trans ?_
  rw [nodesFrom,List.map_append,List.map_map,←List.append_assoc,show nodeD path ∘ under i=nodeD (path ++ [nD i]) from funext fun n=>(Zlt path i n).symm]
noncomputable def Ch (T:Text) (d:D) (xs:List D):Prop:=∀r,CL T (r+1) 25 [d] = .ok (.list xs)
theorem wk_of (B:Base T) (d:D) (ws:List Wi) (K:Nat) (hc:Ch T d (ws.map (·.d))) (h:∀w∈ws,Wk T w.d w.k w.ns∧w.k≤K):Wk T d (K+1) (([],d)::nodesFrom 0 ws):=by
 intro r path out hp ho
 simp only [List.length_cons] at ho
 obtain ⟨s3,s4,hs⟩:=ZmL B (r:=r) d path K (by lia) ws 0 (out ++ [.tuple [.list path,d]]) .un h (by simp;lia)
 rw [show r+3+(K+1)=r+3+K+1 by rfl]
 rw [CX_eq B.f26 rfl (by decide)]
 have hc1:=hc (r+2+K)
 rw [show r+2+K+1=r+3+K by exact Nat.add_right_comm _ _ _] at hc1
 have hal:out.length < 1000000:=by lia
 simp only [show ((0:Nat):Int)=0 from rfl] at hs
 simp (disch:=first | decide | assumption | lia) only [Zko,X_k,Zp,ZZ,Zpb,Zs,Zi,Zc,ZdE,Zu,Zz,ZhI,ZiY,ZE,Zhe,Zd,Zg,Zec,ZeH,Zad,Zj,Ze,Zk,Zl,ZdJ,ZdK,Zik,Zb,Zq,ZQ,zc6,zc8,zc9,zc16,zc17,ZmK,hc1,itemsOf,hs,List.take]
 simp [nodeD]
theorem ZpU (B:Base T) (d:D) (hc:Ch T d []):Wk T d 0 [([],d)]:=by
 intro r path out hp ho
 rw [CX_eq B.f26 rfl (by decide)]
 have hc1:=hc (r+1)
 have hal:out.length < 1000000:=by simp at ho;exact Nat.lt_of_le_of_lt (by assumption) (by decide)
 simp (disch:=first | decide | assumption | lia) only [Zko,X_k,Zp,ZZ,Zpb,Zs,Zi,Zc,ZdE,Zu,Zz,ZhI,ZiY,ZE,Zkt,Zhe,Zd,Zg,Zec,ZeH,Zad,Zj,Ze,Zk,Zl,ZdJ,ZdK,Zik,Zb,Zq,ZQ,zc6,zc7,zc8,zc9,zc16,zc17,ZmK,hc1,itemsOf,List.take]
 simp [nodeD]
theorem ZpV (B:Base T) {d k ns} (h:Wk T d k ns) (hk:k≤800) (hn:ns.length≤900000):CL T (r+4+k) 27 [d] = .ok (.list (ns.map (nodeD []))):=by
 rw [show r+4+k=r+2+k+1+1 by lia,ZJ B.f27 rfl (by decide)]
 have hw:=h r [] [] (by simp;exact Nat.le_trans (by assumption) (by decide)) (by simpa using hn)
 rw [show r+3+k=r+2+k+1 by lia] at hw
 simp only [Zpj,Zac,Zi,ZhH,Zeb,ZW,Zk,Zl,Zb,Zq,zc6,zc7,zc8,zc9,zc16,zc17]
 rw [ZgV _ _ _ _ (by decide)]
 simp (disch:=first | decide | assumption | lia) only [Zp,ZD,ZfM,Zja,Zjb,Zjc,ZnG,Out.ok_bind,Zh,Zd,Zo,arK_,arO_,Ze,Zf,Zk,Zl,ZdJ,ZdK,ZfS,ZfT,Zb,zc9,hw,backW0]
theorem ZkI (B:Base T) (x:D):Ch T (.tuple [.str sBool,x]) []:=by
 intro r
 rw [ZJ B.f25 rfl (by decide)]
 simp (disch:=first | decide | assumption | lia) only [Zam,X_k,Zp,Zx,Zac,Zi,R_or,Zr,Zu,ZD,Zt,Za,c_eq,Zh,Zd,Zo,Zy,Zai,ZW,Ze,Zb,okB_,Zq,zc6,zc7,zc8,zc9,zc14,zc15,zc17,Zag,Zil,Zim,ZbQ]
theorem ZpW (B:Base T) (x:D):Ch T (.tuple [.str sInt,x]) []:=by
 intro r
 rw [ZJ B.f25 rfl (by decide)]
 simp (disch:=first | decide | assumption | lia) only [Zam,X_k,Zp,Zx,Zac,Zi,R_or,Zr,Zu,ZD,Zt,Za,c_eq,Zh,Zd,Zo,Zy,Zai,ZW,Ze,Zb,okB_,Zq,zc6,zc7,zc8,zc9,zc14,zc15,zc17,Zag,Zjd,Zje,ZdI]
theorem Zop (B:Base T) (x:D):Ch T (.tuple [.str sEnum,x]) []:=by
 intro r
 rw [ZJ B.f25 rfl (by decide)]
 simp (disch:=first | decide | assumption | lia) only [Zam,X_k,Zp,Zx,Zac,Zi,R_or,Zr,Zu,ZD,Zt,Za,c_eq,Zh,Zd,Zo,Zy,Zai,ZW,Ze,Zb,okB_,Zq,zc6,zc7,zc8,zc9,zc14,zc15,zc17,Zag,Ziv,Ziw,Zdk]
theorem ZmM (B:Base T) (x:D):Ch T (.tuple [.str sBytes,x]) []:=by
 intro r
 rw [ZJ B.f25 rfl (by decide)]
 simp (disch:=first | decide | assumption | lia) only [Zam,X_k,Zp,Zx,Zac,Zi,R_or,Zr,Zu,ZD,Zt,Za,c_eq,Zh,Zd,Zo,Zy,Zai,ZW,Ze,Zb,okB_,Zq,zc6,zc7,zc8,zc9,zc14,zc15,zc17,Zag,ZcG,ZcH,Zcz]
theorem Zoq (B:Base T) (x:D):Ch T (.tuple [.str sUtf8,x]) []:=by
 intro r
 rw [ZJ B.f25 rfl (by decide)]
 simp (disch:=first | decide | assumption | lia) only [Zam,X_k,Zp,Zx,Zac,Zi,R_or,Zr,Zu,ZD,Zt,Za,c_eq,Zh,Zd,Zo,Zy,Zai,ZW,Ze,Zb,okB_,Zq,zc6,zc7,zc8,zc9,zc14,zc15,zc17,Zag,Zdw,Zdx,Zdl]
theorem ZmN (B:Base T) (x:D):Ch T (.tuple [.str sPrint,x]) []:=by
 intro r
 rw [ZJ B.f25 rfl (by decide)]
 simp (disch:=first | decide | assumption | lia) only [Zam,X_k,Zp,Zx,Zac,Zi,R_or,Zr,Zu,ZD,Zt,Za,c_eq,Zh,Zd,Zo,Zy,Zai,ZW,Ze,Zb,okB_,Zq,zc6,zc7,zc8,zc9,zc14,zc15,zc17,Zag,ZcQ,ZcR,ZcA]
theorem Zor (B:Base T) (x:D):Ch T (.tuple [.str sTime,x]) []:=by
 intro r
 rw [ZJ B.f25 rfl (by decide)]
 simp (disch:=first | decide | assumption | lia) only [Zam,X_k,Zp,Zx,Zac,Zi,R_or,Zr,Zu,ZD,Zt,Za,c_eq,Zh,Zd,Zo,Zy,Zai,ZW,Ze,Zb,okB_,Zq,zc6,zc7,zc8,zc9,zc14,zc15,zc17,Zag,Zdz,ZdA,Zdm]
theorem ZpX (B:Base T) (x:D):Ch T (.tuple [.str sOid,x]) []:=by
 intro r
 rw [ZJ B.f25 rfl (by decide)]
 simp (disch:=first | decide | assumption | lia) only [Zam,X_k,Zp,Zx,Zac,Zi,R_or,Zr,Zu,ZD,Zt,Za,c_eq,Zh,Zd,Zo,Zy,Zai,ZW,Ze,Zb,okB_,Zq,zc6,zc7,zc8,zc9,zc14,zc15,zc17,Zag,Zjf,Zjg,Zck]
theorem Zos (B:Base T):Ch T (.tuple [.str sNull]) []:=by
 intro r
 rw [ZJ B.f25 rfl (by decide)]
 simp (disch:=first | decide | assumption | lia) only [Zam,X_k,Zp,Zx,Zac,Zi,R_or,Zr,Zu,ZD,Zt,Za,c_eq,Zh,Zd,Zo,Zy,Zai,ZW,Ze,Zb,okB_,Zq,zc6,zc7,zc8,zc9,zc14,zc15,zc17,ix1_0,ZfP,ZfQ,Zdj]
theorem Zot (B:Base T) (x y:D):Ch T (.tuple [.str sBits,x,y]) []:=by
 intro r
 rw [ZJ B.f25 rfl (by decide)]
 simp (disch:=first | decide | assumption | lia) only [Zam,X_k,Zp,Zx,Zac,Zi,R_or,Zr,Zu,ZD,Zt,Za,c_eq,Zh,Zd,Zo,Zy,Zai,ZW,Ze,Zb,okB_,Zq,zc6,zc7,zc8,zc9,zc14,zc15,zc17,Zgs,Zir,Zis,Zau]
theorem ZpY (B:Base T) (x:List D):Ch T (.tuple [.str sSeq,.list x]) x:=by
 intro r
 rw [ZJ B.f25 rfl (by decide)]
 simp (disch:=first | decide | assumption | lia) only [Zam,X_k,Zp,Zx,R_or,Zr,Zu,ZD,Zt,Za,c_eq,Zh,Zd,Zo,ZG,Zy,ZgW,Ze,Zb,okB_,Zq,zc6,zc7,zc8,zc9,zc14,zc15,zc17,Zag,Zak,Zca,Zcs]
theorem ZpZ (B:Base T) (x:List D):Ch T (.tuple [.str sSet,.list x]) x:=by
 intro r
 rw [ZJ B.f25 rfl (by decide)]
 simp (disch:=first | decide | assumption | lia) only [Zam,X_k,Zp,Zx,R_or,Zr,Zu,ZD,Zt,Za,c_eq,Zh,Zd,Zo,ZG,Zy,Zai,Ze,Zb,okB_,Zq,zc6,zc7,zc8,zc9,zc14,zc15,zc17,Zag,Zak,Zbp,Zbq,Zbr]
theorem Zlu (B:Base T) (n x:D):Ch T (.tuple [.str sTagged,n,x]) [x]:=by
 intro r
 rw [ZJ B.f25 rfl (by decide)]
 simp (disch:=first | decide | assumption | lia) only [Zam,X_k,Zp,Zx,Zac,Zi,Zc,Zr,ZD,Zt,Za,c_eq,Zh,Zd,Zo,ZG,ZW,Zj,Ze,Zb,okB_,Zq,zc6,zc7,zc8,zc9,zc14,zc15,zc17,Zgs,Zhp,Zbj]
end DK.Internal.B
end
section
set_option backward.match.sparseCases false
set_option genSizeOf false
set_option genCtorIdx false
namespace DK.Internal.B
open PySem
variable {T:Text} {r:Nat}
structure Good (T:Text) (Q:D→Prop) (d:D) (b:List UInt8) (k:Nat) (ns:List Nd):Prop where
 en:En T d b k
 dc:Dc T d b k
 ct:∀r j (dep:Int),j < b.length→CL T (r+20) 23 [.bytes (b.take j),.int 0,.int dep] = .exc
 wk:Wk T d k ns
 pe:∀n,D.peq (n+2+2*k) d d = .ok true
 nd:∀p∈ns,(∀n,D.peq (n+2+2*k) p.2 p.2 = .ok true)∧(∀n,D.peq (n+1) (.list p.1) (.list p.1) = .ok true)∧Q p.2
theorem Zic (f:D→D→Out Bool) (l:List D) (h:∀d∈l,f d d = .ok true):allEq f l l = .ok true:=by
 induction l with
 | nil=>rfl
 | cons d l ih=>show (f d d>>=fun b=>allEq f l l>>=fun c=>Out.ok (b && c))=_;rw [h d (List.mem_cons_self ..),ih (fun x hx=>h x (List.mem_cons_of_mem _ hx))];rfl
theorem ZcD (n:Nat) (s:List Nat):D.peq n (.str s) (.str s) = .ok true:=by cases n<;>exact congrArg Out.ok (beq_self_eq_true s)
theorem ZkJ (n:Nat) (s:Bool):D.peq n (.bool s) (.bool s) = .ok true:=by cases n<;>exact congrArg Out.ok (beq_self_eq_true s)
theorem Zlv (n:Nat) (s:Int):D.peq n (.int s) (.int s) = .ok true:=by cases n<;>exact congrArg Out.ok (decide_eq_true rfl)
theorem ZmO (n:Nat) (s:List UInt8):D.peq n (.bytes s) (.bytes s) = .ok true:=by cases n<;>exact congrArg Out.ok (decide_eq_true rfl)
theorem ZfW (n:Nat) (l:List D) (h:∀d∈l,D.peq n d d = .ok true):D.peq (n+1) (.tuple l) (.tuple l) = .ok true:=Zic _ l h
theorem peq_l (n:Nat) (l:List D) (h:∀d∈l,D.peq n d d = .ok true):D.peq (n+1) (.list l) (.list l) = .ok true:=Zic _ l h
theorem mem2 {P:D→Prop} {a b:D} (h1:P a) (h2:P b):∀d∈[a,b],P d:=by
 intro d hd;simp only [List.mem_cons,List.not_mem_nil,or_false] at hd;rcases hd with rfl | rfl<;>assumption
theorem mem3 {P:D→Prop} {a b c:D} (h1:P a) (h2:P b) (h3:P c):∀d∈[a,b,c],P d:=by
 intro d hd;simp only [List.mem_cons,List.not_mem_nil,or_false] at hd;rcases hd with rfl | rfl | rfl<;>assumption
theorem Zbt (B:Base T) {Q:D→Prop} {d:D} {t:Nat} {c:List UInt8} (ht:t < 256) (ht2:t≠191) (hc:c.length < 65536) (he:∀r,CL T (r+20) 20 [d] = .ok (.bytes (tlv (oneB t) c)))
  (hd:∀r pre suf (dep:Int),CL T (r+20) 23 [.bytes (pre++(tlv (oneB t) c++suf)),.int (pre.length:Nat),.int dep] = .ok (.tuple [d,.int ((pre.length+(tlv (oneB t) c).length:Nat):Int)]))
  (hch:Ch T d []) (hp:∀n,D.peq (n+2) d d = .ok true) (hq:Q d):Good T Q d (tlv (oneB t) c) 0 [([],d)]:=by
 refine ⟨he,⟨fun r pre suf dep _=>hd r pre suf dep,fun r pre suf dep h=>absurd h (by exact Nat.not_lt_zero _),by rw [ZU,ZC];lia⟩,fun r j dep hj=>ZiJ B ht ht2 c hc j hj dep,ZpU B d hch,hp,?_⟩
 intro p hp'
 simp only [List.mem_singleton] at hp'
 subst hp'
 exact ⟨hp,fun n=>rfl,hq⟩
structure Gi where
 d:D
 b:List UInt8
 k:Nat
 ns:List Nd
noncomputable def GiOk (T:Text) (Q:D→Prop) (K:Nat) (g:Gi):Prop:=Good T Q g.d g.b g.k g.ns∧g.k≤K
noncomputable def Gi.ni (g:Gi):Ni:=⟨g.d,g.b,g.k⟩
noncomputable def Gi.wi (g:Gi):Wi:=⟨g.d,g.k,g.ns⟩
noncomputable def bytesG (gs:List Gi):List UInt8:=(gs.map (·.b)).flatten
theorem ZfX (gs:List Gi):flatB (gs.map Gi.ni)=bytesG gs:=by simp [flatB,bytesG,Gi.ni,Function.comp_def]
theorem ZiK {Q:D→Prop} (K:Nat):∀(gs:List Gi) (i:Nat),(∀g∈gs,GiOk T Q K g)→∀p∈nodesFrom i (gs.map Gi.wi),(∀n,D.peq (n+2+2*(K+1)) p.2 p.2 = .ok true)∧(∀n,D.peq (n+1) (.list p.1) (.list p.1) = .ok true)∧Q p.2:=by
 intro gs
 induction gs with
 | nil=>intro i h p hp;cases hp
 | cons g gs ih=>
  intro i h p hp
  rcases List.mem_append.mp hp with hp | hp
  ·obtain ⟨q,hq,rfl⟩:=List.mem_map.mp hp
   obtain ⟨hg,hk⟩:=h g (List.mem_cons_self ..)
   obtain ⟨h1,h2,h3⟩:=hg.nd q hq
   refine ⟨fun n=> ?_,fun n=> ?_,h3⟩
   ·have:=h1 (n+2*(K+1 - g.k))
    rw [show n+2*(K+1 - g.k)+2+2*g.k=n+2+2*(K+1) by lia] at this
    exact this
   ·have:=h2 n
    simp only [under]
    show allEq (D.peq n) (nD i::q.1) (nD i::q.1) = .ok true
    simp only [allEq,nD,Zlv]
    rw [show allEq (D.peq n) q.1 q.1 = .ok true from this]
    rfl
  ·exact ih (i+1) (fun x hx=>h x (List.mem_cons_of_mem _ hx)) p hp
theorem Zqa {Q:D→Prop} (K:Nat) (gs:List Gi) (h:∀g∈gs,GiOk T Q K g) (n:Nat):∀d∈gs.map (·.d),D.peq (n+2+2*K) d d = .ok true:=by
 intro d hd
 obtain ⟨g,hg,rfl⟩:=List.mem_map.mp hd
 obtain ⟨h1,hk⟩:=h g hg
 have:=h1.pe (n+2*(K - g.k))
 rw [show n+2*(K - g.k)+2+2*g.k=n+2+2*K by lia] at this
 exact this
theorem ZmP {Q:D→Prop} (K:Nat) (gs:List Gi) (h:∀g∈gs,GiOk T Q K g) (r:Nat):∀p∈gs.map (fun g=>(g.d,g.b)),CL T (r+K+1+19) 20 [p.1] = .ok (.bytes p.2):=by
 intro p hp
 obtain ⟨g,hg,rfl⟩:=List.mem_map.mp hp
 obtain ⟨h1,hk⟩:=h g hg
 have:=h1.en (r+(K - g.k))
 rw [show r+(K - g.k)+20+g.k=r+K+1+19 by lia] at this
 exact this
theorem seqpe {k:List Nat} {Q:D→Prop} (K:Nat) (gs:List Gi) (h:∀g∈gs,GiOk T Q K g) (n:Nat):D.peq (n+2+2*(K+1)) (.tuple [.str k,.list (gs.map (·.d))]) (.tuple [.str k,.list (gs.map (·.d))]) = .ok true:=by
 rw [show n+2+2*(K+1)=(n+2+2*K)+1+1 by exact (Nat.add_assoc _ _ _).symm]
 exact ZfW _ _ (mem2 (ZcD _ _) (peq_l _ _ (Zqa K gs h n)))
theorem ZkK (B:Base T) {Q:D→Prop} (gs:List Gi) (K:Nat) (h:∀g∈gs,GiOk T Q K g) (hmax:K=0∨∃g∈gs,g.k=K) (hl:gs.length≤900) (hc:(bytesG gs).length < 65536) (hq:Q (.tuple [.str sSeq,.list (gs.map (·.d))])) :
  Good T Q (.tuple [.str sSeq,.list (gs.map (·.d))]) (tlv (oneB 48) (bytesG gs)) (K+1) (([],.tuple [.str sSeq,.list (gs.map (·.d))])::nodesFrom 0 (gs.map Gi.wi)):=by
 have hmd:(gs.map Gi.ni).map (·.d)=gs.map (·.d):=by simp [Gi.ni,Function.comp_def]
 have hmw:(gs.map Gi.wi).map (·.d)=gs.map (·.d):=by simp [Gi.wi,Function.comp_def]
 refine ⟨?_,?_,fun r j dep hj=>ZiJ B (by decide) (by decide) _ hc j hj dep,?_,seqpe K gs h,?_⟩
 ·intro r
  have:=ZpL B (r:=r+K+1) (gs.map fun g=>(g.d,g.b)) (ZmP K gs h r) (by simpa using hl) (by simpa [bytesG,Function.comp_def] using hc)
  simp only [List.map_map,Function.comp_def] at this
  rw [show r+K+1+20=r+20+(K+1) by lia] at this
  exact this
 ·have:=ZmH B (gs.map Gi.ni) K (fun p hp=>by obtain ⟨g,hg,rfl⟩:=List.mem_map.mp hp;exact ⟨(h g hg).1.dc,(h g hg).2⟩) (by
   rcases hmax with e | ⟨g,hg,e⟩
   ·exact .inl e
   ·exact .inr ⟨g.ni,List.mem_map_of_mem hg,e⟩) (by simpa using hl) (by rw [ZfX];exact hc)
  rw [hmd,ZfX] at this
  exact this
 ·apply wk_of B _ (gs.map Gi.wi) K
  ·rw [hmw];exact ZpY B _
  ·intro w hw;obtain ⟨g,hg,rfl⟩:=List.mem_map.mp hw;exact ⟨(h g hg).1.wk,(h g hg).2⟩
 ·intro p hp
  rcases List.mem_cons.mp hp with rfl | hp
  ·exact ⟨seqpe K gs h,fun n=>rfl,hq⟩
  ·exact ZiK K gs 0 h p hp
theorem Zou (B:Base T) {Q:D→Prop} (gs:List Gi) (K:Nat) (h:∀g∈gs,GiOk T Q K g) (hmax:K=0∨∃g∈gs,g.k=K) (hl:gs.length≤900) (hc:(bytesG gs).length < 65536) (hadj:adjP (gs.map (·.b))=true) (hq:Q (.tuple [.str sSet,.list (gs.map (·.d))])) :
  Good T Q (.tuple [.str sSet,.list (gs.map (·.d))]) (tlv (oneB 49) (bytesG gs)) (K+1) (([],.tuple [.str sSet,.list (gs.map (·.d))])::nodesFrom 0 (gs.map Gi.wi)):=by
 have hmd:(gs.map Gi.ni).map (·.d)=gs.map (·.d):=by simp [Gi.ni,Function.comp_def]
 have hmw:(gs.map Gi.wi).map (·.d)=gs.map (·.d):=by simp [Gi.wi,Function.comp_def]
 refine ⟨?_,?_,fun r j dep hj=>ZiJ B (by decide) (by decide) _ hc j hj dep,?_,seqpe K gs h,?_⟩
 ·intro r
  have:=ZpO B (r:=r+K+1) (gs.map fun g=>(g.d,g.b)) (ZmP K gs h r) (by simpa using hl) (by simpa [bytesG,Function.comp_def] using hc)
  simp only [List.map_map,Function.comp_def] at this
  rw [show gs.map (fun x=>x.b)=gs.map (·.b) from rfl,hadj,if_pos rfl,show r+K+1+20=r+20+(K+1) by lia] at this
  exact this
 ·have:=ZpS B (gs.map Gi.ni) K (fun p hp=>by obtain ⟨g,hg,rfl⟩:=List.mem_map.mp hp;exact ⟨(h g hg).1.dc,(h g hg).2⟩) (by
   rcases hmax with e | ⟨g,hg,e⟩
   ·exact .inl e
   ·exact .inr ⟨g.ni,List.mem_map_of_mem hg,e⟩) (by simpa using hl) (by rw [ZfX];exact hc)
  rw [hmd,ZfX] at this
  exact this
 ·apply wk_of B _ (gs.map Gi.wi) K
  ·rw [hmw];exact ZpZ B _
  ·intro w hw;obtain ⟨g,hg,rfl⟩:=List.mem_map.mp hw;exact ⟨(h g hg).1.wk,(h g hg).2⟩
 ·intro p hp
  rcases List.mem_cons.mp hp with rfl | hp
  ·exact ⟨seqpe K gs h,fun n=>rfl,hq⟩
  ·exact ZiK K gs 0 h p hp
theorem Zov (B:Base T) {Q:D→Prop} (g:Gi) (n:Nat) (hn:n < 128 ^ 100) (h:Good T Q g.d g.b g.k g.ns) (hc:g.b.length < 65536) (hq:Q (.tuple [.str sTagged,.int (n:Nat),g.d])) :
  Good T Q (.tuple [.str sTagged,.int (n:Nat),g.d]) (tlv (tagB n) g.b) (g.k+1) (([],.tuple [.str sTagged,.int (n:Nat),g.d])::nodesFrom 0 [g.wi]):=by
 have hg:∀x∈[g],GiOk T Q g.k x:=by intro x hx;simp only [List.mem_singleton] at hx;subst hx;exact ⟨h,Nat.le_refl _⟩
 have hpe:∀m,D.peq (m+2+2*(g.k+1)) (.tuple [.str sTagged,.int (n:Nat),g.d]) (.tuple [.str sTagged,.int (n:Nat),g.d]) = .ok true:=by
  intro m
  have:=h.pe (m+1)
  rw [show m+1+2+2*g.k=m+2+2*g.k+1 by lia] at this
  rw [show m+2+2*(g.k+1)=(m+2+2*g.k+1)+1 by exact (Nat.add_assoc _ _ _).symm]
  exact ZfW _ _ (mem3 (ZcD _ _) (Zlv _ _) this)
 refine ⟨?_,dc_tag B n hn g.d g.b g.k h.dc hc,fun r j dep hj=>ZpT B hn g.b hc j hj dep,?_,hpe,?_⟩
 ·intro r
  have h1:=h.en r
  rw [show r+20+g.k=r+g.k+1+19 by exact Nat.add_right_comm _ _ _] at h1
  have:=ZpP B (r:=r+g.k+1) n hn g.d g.b h1 hc
  rw [show r+g.k+1+20=r+20+(g.k+1) by lia] at this
  exact this
 ·apply wk_of B _ [g.wi] g.k
  ·exact Zlu B _ _
  ·intro w hw;simp only [List.mem_singleton] at hw;subst hw;exact ⟨h.wk,Nat.le_refl _⟩
 ·intro p hp
  rcases List.mem_cons.mp hp with rfl | hp
  ·exact ⟨hpe,fun n=>rfl,hq⟩
  ·exact ZiK g.k [g] 0 hg p hp
end DK.Internal.B
end
section
set_option backward.match.sparseCases false
set_option genSizeOf false
set_option genCtorIdx false
namespace DK.Internal.B
open PySem
set_option maxRecDepth 20000
noncomputable def ZhF:Ss:=(.cons (.ret (.k (.dict [(.str sBool),(.str sInt),(.str sBits),(.str sBytes),(.str sNull),(.str sOid),(.str sEnum),(.str sUtf8),(.str sPrint),(.str sTime)] [(.int 1),(.int 2),(.int 3),(.int 4),(.int 5),(.int 6),(.int 10),(.int 12),(.int 19),(.int 24)])))
 .nil)
noncomputable def ZfA:Fn:=⟨0,0,ZhF⟩
noncomputable def ZaK:C:=(.k (.bool true))
noncomputable def ZaL:Ss:=(.cons (.ife (.cmp .Eq (.var 0) (.k (.int 0))) (.cons .brk
 .nil) .nil)
 (.cons (.unp [1,0] (.tup (.cons (.bin .Add (.lst (.cons (.bin .Add (.k (.int 128)) (.bin .Mod (.var 0) (.k (.int 128)))) .nil)) (.var 1)) (.cons (.bin .FloorDiv (.var 0) (.k (.int 128))) .nil))))
 .nil))
noncomputable def Zii:Ss:=(.cons (.unp [1,0] (.tup (.cons (.lst (.cons (.bin .Mod (.var 0) (.k (.int 128))) .nil)) (.cons (.bin .FloorDiv (.var 0) (.k (.int 128))) .nil))))
 (.cons (.whl ZaK ZaL)
 (.cons (.ret (.bi .bytes (.cons (.var 1) .nil)))
 .nil)))
noncomputable def Zgk:Fn:=⟨1,2,Zii⟩
noncomputable def ZR:C:=(.k (.bool true))
noncomputable def ZS:Ss:=(.cons (.ife (.or (.and (.cmp .Eq (.var 0) (.k (.int 0))) (.cmp .Lt (.idx (.var 1) (.k (.int 0))) (.k (.int 128)))) (.and (.cmp .Eq (.var 0) (.neg (.k (.int 1)))) (.cmp .Gt (.idx (.var 1) (.k (.int 0))) (.k (.int 127))))) (.cons .brk
 .nil) .nil)
 (.cons (.unp [1,0] (.tup (.cons (.bin .Add (.lst (.cons (.bin .Mod (.var 0) (.k (.int 256))) .nil)) (.var 1)) (.cons (.bin .FloorDiv (.var 0) (.k (.int 256))) .nil))))
 .nil))
noncomputable def ZeD:Ss:=(.cons (.unp [1,0] (.tup (.cons (.lst (.cons (.bin .Mod (.var 0) (.k (.int 256))) .nil)) (.cons (.bin .FloorDiv (.var 0) (.k (.int 256))) .nil))))
 (.cons (.whl ZR ZS)
 (.cons (.ret (.bi .bytes (.cons (.var 1) .nil)))
 .nil)))
noncomputable def ZdT:Fn:=⟨1,2,ZeD⟩
noncomputable def Zfh:Ss:=(.cons (.asg 2 (.bi .len (.cons (.var 1) .nil)))
 (.cons (.asg 3 (.lst (.cons (.k (.int 130)) (.cons (.bin .FloorDiv (.var 2) (.k (.int 256))) (.cons (.bin .Mod (.var 2) (.k (.int 256))) .nil)))))
 (.cons (.ife (.cmp .Lt (.var 2) (.k (.int 256))) (.cons (.asg 3 (.lst (.cons (.k (.int 129)) (.cons (.var 2) .nil))))
 .nil) .nil)
 (.cons (.ife (.cmp .Lt (.var 2) (.k (.int 128))) (.cons (.asg 3 (.lst (.cons (.var 2) .nil)))
 .nil) .nil)
 (.cons (.ret (.bin .Add (.bin .Add (.var 0) (.bi .bytes (.cons (.var 3) .nil))) (.var 1)))
 .nil)))))
noncomputable def Zgl:Fn:=⟨2,4,Zfh⟩
noncomputable def Zex:Ss:=(.cons (.unp [3,4] (.idx (.glob 8) (.bin .Mod (.var 1) (.k (.int 8)))))
 (.cons (.asg 5 (.tup (.cons (.tup (.cons (.k (.str [48,49])) (.cons (.k (.int 31)) .nil))) (.cons (.tup (.cons (.k (.str [48,50])) (.cons (.var 4) .nil))) (.cons (.tup (.cons (.k (.str [48,50])) (.cons (.var 4) .nil))) (.cons (.tup (.cons (.k (.str [48,50])) (.cons (.var 4) .nil))) (.cons (.tup (.cons (.k (.str [48,51])) (.cons (.k (.int 31)) .nil))) (.cons (.tup (.cons (.k (.str [48,52])) (.cons (.k (.int 30)) .nil))) (.cons (.tup (.cons (.k (.str [48,54])) (.cons (.k (.int 30)) .nil))) (.cons (.tup (.cons (.k (.str [48,57])) (.cons (.k (.int 30)) .nil))) (.cons (.tup (.cons (.k (.str [49,49])) (.cons (.k (.int 30)) .nil))) (.cons (.tup (.cons (.k (.str [49,50])) (.cons (.k (.int 31)) .nil))) (.cons (.tup (.cons (.k (.str [48,53])) (.cons (.k (.int 31)) .nil))) (.cons (.tup (.cons (.k (.str [49,48])) (.cons (.k (.int 31)) .nil))) .nil))))))))))))))
 (.cons (.unp [6,7] (.idx (.var 5) (.bin .Mod (.var 2) (.k (.int 12)))))
 (.cons (.asg 8 (.bin .Add (.bin .Add (.var 3) (.var 6)) (.slc (.bi .str (.cons (.bin .Add (.k (.int 100)) (.var 7)) .nil)) (.k (.int 1)) (.k .none))))
 (.cons (.asg 9 (.bin .Add (.bin .Add (.var 3) (.var 6)) (.slc (.bi .str (.cons (.bin .Add (.k (.int 101)) (.var 7)) .nil)) (.k (.int 1)) (.k .none))))
 (.cons (.asg 10 (.bin .Add (.idx (.tup (.cons (.bin .Add (.bin .Add (.var 3) (.var 6)) (.k (.str [48,49]))) (.cons (.var 8) (.cons (.var 8) .nil)))) (.bin .Mod (.var 1) (.k (.int 3)))) (.idx (.glob 9) (.bin .Mod (.var 2) (.k (.int 5))))))
 (.cons (.ife (.cmp .Eq (.var 0) (.k (.int 1))) (.cons (.asg 10 (.bin .Add (.var 8) (.idx (.glob 10) (.bin .Mod (.var 1) (.k (.int 17))))))
 .nil) .nil)
 (.cons (.ife (.cmp .Eq (.var 0) (.k (.int 2))) (.cons (.asg 10 (.bin .Add (.idx (.tup (.cons (.bin .Add (.bin .Add (.var 3) (.var 6)) (.k (.str [48,48]))) (.cons (.var 9) (.cons (.var 9) (.cons (.var 9) (.cons (.bin .Add (.var 3) (.k (.str [48,48,48,49]))) (.cons (.bin .Add (.var 3) (.k (.str [49,51,48,49]))) (.cons (.k (.str [58,48,48,48,48,49,48,49])) .nil)))))))) (.bin .Mod (.var 1) (.k (.int 7)))) (.k (.str [48,48,48,48,48,48,90]))))
 .nil) .nil)
 (.cons (.ret (.bi .bytes (.cons (.comp 2 (.last (.one 12) (.seq (.var 10)) .nil (.bi .ord (.cons (.var 12) .nil)))) .nil)))
 .nil)))))))))
noncomputable def ZfB:Fn:=⟨3,11,Zex⟩
noncomputable def Zda:Ss:=(.cons (.asg 4 (.bin .Add (.var 4) (.call 29 (.cons (.var 8) .nil))))
 .nil)
noncomputable def Zao:Ss:=(.cons (.asg 3 (.idx (.glob 4) (.bin .Mod (.var 0) (.k (.int 12)))))
 (.cons (.asg 4 (.bin .Mult (.bi .bytes (.cons (.lst (.cons (.bin .Mod (.var 1) (.k (.int 256))) .nil)) .nil)) (.idx (.tup (.cons (.k (.int 0)) (.cons (.k (.int 1)) (.cons (.k (.int 2)) (.cons (.k (.int 127)) (.cons (.k (.int 128)) (.cons (.k (.int 255)) (.cons (.k (.int 256)) (.cons (.k (.int 300)) .nil))))))))) (.bin .Mod (.var 2) (.k (.int 8))))))
 (.cons (.ife (.cmp .Eq (.var 3) (.k (.str sUtf8))) (.cons (.asg 4 (.bi .bytes (.cons (.comp 2 (.last (.one 10) (.seq (.bin .Add (.idx (.glob 6) (.bin .Mod (.var 1) (.k (.int 10)))) (.idx (.glob 6) (.bin .Mod (.var 2) (.k (.int 10)))))) .nil (.bi .ord (.cons (.var 10) .nil)))) .nil)))
 .nil) .nil)
 (.cons (.ife (.cmp .Eq (.var 3) (.k (.str sPrint))) (.cons (.asg 4 (.bi .bytes (.cons (.comp 2 (.last (.one 10) (.seq (.bin .Add (.idx (.glob 5) (.bin .Mod (.var 1) (.k (.int 5)))) (.idx (.glob 5) (.bin .Mod (.var 2) (.k (.int 5)))))) .nil (.bi .ord (.cons (.var 10) .nil)))) .nil)))
 .nil) .nil)
 (.cons (.ife (.cmp .Eq (.var 3) (.k (.str sTime))) (.cons (.asg 4 (.call 32 (.cons (.k (.int 0)) (.cons (.var 1) (.cons (.var 2) .nil)))))
 .nil) .nil)
 (.cons (.asg 5 (.tup (.cons (.var 3) (.cons (.var 4) .nil))))
 (.cons (.ife (.cmp .Eq (.var 3) (.k (.str sNull))) (.cons (.unp [5,4] (.tup (.cons (.tup (.cons (.var 3) .nil)) (.cons (.k (.bytes [])) .nil))))
 .nil) .nil)
 (.cons (.ife (.cmp .Eq (.var 3) (.k (.str sBool))) (.cons (.unp [5,4] (.idx (.tup (.cons (.tup (.cons (.tup (.cons (.var 3) (.cons (.k (.bool true)) .nil))) (.cons (.k (.bytes [255])) .nil))) (.cons (.tup (.cons (.tup (.cons (.var 3) (.cons (.k (.bool false)) .nil))) (.cons (.k (.bytes [0])) .nil))) .nil))) (.bin .Mod (.var 1) (.k (.int 2)))))
 .nil) .nil)
 (.cons (.ife (.or (.cmp .Eq (.var 3) (.k (.str sInt))) (.cmp .Eq (.var 3) (.k (.str sEnum)))) (.cons (.asg 6 (.bin .Sub (.bin .Add (.bin .LShift (.k (.int 1)) (.bin .Sub (.bin .Mult (.k (.int 8)) (.idx (.tup (.cons (.k (.int 1)) (.cons (.k (.int 2)) (.cons (.k (.int 3)) (.cons (.k (.int 4)) (.cons (.k (.int 8)) (.cons (.k (.int 33)) (.cons (.k (.int 66)) .nil)))))))) (.bin .Mod (.var 2) (.k (.int 7))))) (.k (.int 1)))) (.bin .Mod (.var 1) (.k (.int 5)))) (.k (.int 2))))
 (.cons (.asg 5 (.tup (.cons (.var 3) (.cons (.idx (.tup (.cons (.bin .Mod (.var 1) (.bin .LShift (.k (.int 1)) (.k (.int 272)))) (.cons (.bin .Sub (.bin .Mod (.var 1) (.k (.int 601))) (.k (.int 300))) (.cons (.var 6) (.cons (.neg (.var 6)) .nil))))) (.bin .Mod (.var 2) (.k (.int 4)))) .nil))))
 (.cons (.asg 4 (.call 30 (.cons (.idx (.var 5) (.k (.int 1))) .nil)))
 .nil))) .nil)
 (.cons (.ife (.cmp .Eq (.var 3) (.k (.str sBits))) (.cons (.asg 5 (.tup (.cons (.var 3) (.cons (.bin .Mod (.var 1) (.k (.int 8))) (.cons (.bi .bytes (.cons (.lst (.cons (.bin .Mod (.var 2) (.k (.int 256))) (.cons (.bin .Mod (.bin .LShift (.bin .Add (.bin .Mult (.k (.int 2)) (.bin .Mod (.var 2) (.k (.int 128)))) (.k (.int 1))) (.bin .Mod (.var 1) (.k (.int 8)))) (.k (.int 256))) .nil))) .nil)) .nil)))))
 (.cons (.ife (.cmp .Eq (.bin .Mod (.var 2) (.k (.int 4))) (.k (.int 0))) (.cons (.asg 5 (.tup (.cons (.var 3) (.cons (.k (.int 0)) (.cons (.k (.bytes [])) .nil)))))
 .nil) .nil)
 (.cons (.asg 4 (.bin .Add (.bi .bytes (.cons (.lst (.cons (.idx (.var 5) (.k (.int 1))) .nil)) .nil)) (.idx (.var 5) (.k (.int 2)))))
 .nil))) .nil)
 (.cons (.ife (.cmp .Eq (.var 3) (.k (.str sOid))) (.cons (.asg 7 (.slc (.lst (.cons (.bin .Mod (.var 1) (.k (.int 3))) (.cons (.idx (.tup (.cons (.bin .Mod (.var 2) (.k (.int 40))) (.cons (.bin .Mod (.var 2) (.k (.int 40))) (.cons (.bin .Mod (.var 2) (.k (.int 100))) .nil)))) (.bin .Mod (.var 1) (.k (.int 3)))) (.cons (.bin .Mod (.var 2) (.k (.int 300))) (.cons (.bin .Sub (.bin .LShift (.k (.int 1)) (.bin .Add (.bin .Mult (.k (.int 7)) (.bin .Mod (.var 1) (.k (.int 4)))) (.k (.int 7)))) (.bin .Mod (.var 2) (.k (.int 2)))) .nil))))) (.k .none) (.bin .Add (.k (.int 2)) (.bin .Mod (.var 2) (.k (.int 3))))))
 (.cons (.unp [5,4] (.tup (.cons (.tup (.cons (.var 3) (.cons (.var 7) .nil))) (.cons (.call 29 (.cons (.bin .Add (.bin .Mult (.k (.int 40)) (.idx (.var 7) (.k (.int 0)))) (.idx (.var 7) (.k (.int 1)))) .nil)) .nil))))
 (.cons (.forr (.one 8) (.seq (.slc (.var 7) (.k (.int 2)) (.k .none))) Zda)
 .nil))) .nil)
 (.cons (.ret (.tup (.cons (.var 5) (.cons (.call 31 (.cons (.bi .bytes (.cons (.lst (.cons (.idx (.call 28 .nil) (.var 3)) .nil)) .nil)) (.cons (.var 4) .nil))) (.cons (.k (.int 0)) (.cons (.lst (.cons (.tup (.cons (.lst .nil) (.cons (.var 5) .nil))) .nil)) .nil))))))
 .nil))))))))))))
noncomputable def ZfC:Fn:=⟨3,9,Zao⟩
noncomputable def Zdb:Ss:=(.cons (.asg 11 (.bin .Add (.var 11) (.comp 3 (.last (.many [15,16]) (.seq (.idx (.idx (.var 9) (.var 12)) (.k (.int 3)))) .nil (.tup (.cons (.bin .Add (.lst (.cons (.var 12) .nil)) (.var 15)) (.cons (.var 16) .nil)))))))
 .nil)
noncomputable def Zba:Ss:=(.cons (.ife (.cmp .Eq (.bin .Mod (.var 0) (.k (.int 6))) (.k (.int 0))) (.cons (.ret (.var 2))
 .nil) .nil)
 (.cons (.asg 4 (.idx (.tup (.cons (.k (.int 0)) (.cons (.k (.int 1)) (.cons (.k (.int 30)) (.cons (.k (.int 31)) (.cons (.k (.int 127)) (.cons (.k (.int 128)) (.cons (.k (.int 16383)) (.cons (.k (.int 16384)) .nil))))))))) (.bin .Mod (.var 1) (.k (.int 8)))))
 (.cons (.asg 5 (.bin .Add (.k (.bytes [191])) (.call 29 (.cons (.var 4) .nil))))
 (.cons (.ife (.cmp .Lt (.var 4) (.k (.int 31))) (.cons (.asg 5 (.bi .bytes (.cons (.lst (.cons (.bin .Add (.k (.int 160)) (.var 4)) .nil)) .nil)))
 .nil) .nil)
 (.cons (.asg 6 (.lst (.cons (.var 2) (.cons (.var 3) .nil))))
 (.cons (.ife (.cmp .Lt (.idx (.var 3) (.k (.int 1))) (.idx (.var 2) (.k (.int 1)))) (.cons (.asg 6 (.lst (.cons (.var 3) (.cons (.var 2) .nil))))
 .nil) .nil)
 (.cons (.asg 7 (.tup (.cons (.tup (.cons (.k (.str sSeq)) (.cons (.k (.bytes [48])) (.cons (.lst (.cons (.var 2) (.cons (.var 3) .nil))) .nil)))) (.cons (.tup (.cons (.k (.str sTagged)) (.cons (.var 5) (.cons (.lst (.cons (.var 2) .nil)) .nil)))) (.cons (.tup (.cons (.k (.str sSeq)) (.cons (.k (.bytes [48])) (.cons (.lst .nil) .nil)))) (.cons (.tup (.cons (.k (.str sSet)) (.cons (.k (.bytes [49])) (.cons (.lst (.cons (.var 2) (.cons (.var 2) .nil))) .nil)))) (.cons (.tup (.cons (.k (.str sSet)) (.cons (.k (.bytes [49])) (.cons (.var 6) .nil)))) .nil)))))))
 (.cons (.unp [8,5,9] (.idx (.var 7) (.bin .Sub (.bin .Mod (.var 0) (.k (.int 6))) (.k (.int 1)))))
 (.cons (.asg 10 (.tup (.cons (.var 8) (.cons (.comp 2 (.last (.one 15) (.seq (.var 9)) .nil (.idx (.var 15) (.k (.int 0))))) .nil))))
 (.cons (.ife (.cmp .Eq (.var 8) (.k (.str sTagged))) (.cons (.asg 10 (.tup (.cons (.var 8) (.cons (.var 4) (.cons (.idx (.var 2) (.k (.int 0))) .nil)))))
 .nil) .nil)
 (.cons (.asg 11 (.lst (.cons (.tup (.cons (.lst .nil) (.cons (.var 10) .nil))) .nil)))
 (.cons (.forr (.one 12) (.rng (.k (.int 0)) (.bi .len (.cons (.var 9) .nil)) 1) Zdb)
 (.cons (.asg 13 (.bin .Add (.k (.int 1)) (.bi .max (.cons (.bin .Add (.lst (.cons (.k (.int 0)) .nil)) (.comp 2 (.last (.one 15) (.seq (.var 9)) .nil (.idx (.var 15) (.k (.int 2)))))) .nil))))
 (.cons (.ret (.tup (.cons (.var 10) (.cons (.call 31 (.cons (.var 5) (.cons (.bi .join (.cons (.comp 2 (.last (.one 15) (.seq (.var 9)) .nil (.idx (.var 15) (.k (.int 1))))) .nil)) .nil))) (.cons (.var 13) (.cons (.var 11) .nil))))))
 .nil))))))))))))))
noncomputable def ZfD:Fn:=⟨4,14,Zba⟩
noncomputable def ZfK:C:=(.tup (.cons (.tup (.cons (.k (.str sBool)) (.cons (.k (.int 1)) .nil))) (.cons (.tup (.cons (.k (.str sBool)) (.cons (.k (.int 0)) .nil))) (.cons (.tup (.cons (.k (.str sBool)) .nil)) (.cons (.tup (.cons (.k (.str sBool)) (.cons (.k .none) .nil))) (.cons (.tup (.cons (.k (.str sInt)) (.cons (.k (.bool true)) .nil))) (.cons (.tup (.cons (.k (.str sInt)) (.cons (.k .none) .nil))) (.cons (.tup (.cons (.k (.str sInt)) (.cons (.k (.int 1)) (.cons (.k (.int 2)) .nil)))) (.cons (.tup (.cons (.k (.str sEnum)) (.cons (.k (.bool false)) .nil))) (.cons (.tup (.cons (.k (.str sEnum)) (.cons (.k (.str [49])) .nil))) (.cons (.tup (.cons (.k (.str sNull)) (.cons (.k .none) .nil))) (.cons (.tup (.cons (.k (.str sBits)) (.cons (.k (.int 8)) (.cons (.k (.bytes [0])) .nil)))) (.cons (.tup (.cons (.k (.str sBits)) (.cons (.neg (.k (.int 1))) (.cons (.k (.bytes [0])) .nil)))) (.cons (.tup (.cons (.k (.str sBits)) (.cons (.k (.int 1)) (.cons (.k (.bytes [])) .nil)))) (.cons (.tup (.cons (.k (.str sBits)) (.cons (.k (.int 1)) (.cons (.k (.bytes [1])) .nil)))) (.cons (.tup (.cons (.k (.str sBits)) (.cons (.k (.int 7)) (.cons (.k (.bytes [64])) .nil)))) (.cons (.tup (.cons (.k (.str sBits)) (.cons (.k (.int 4)) (.cons (.k (.bytes [16,8])) .nil)))) (.cons (.tup (.cons (.k (.str sBits)) (.cons (.k (.bool true)) (.cons (.k (.bytes [0])) .nil)))) (.cons (.tup (.cons (.k (.str sBits)) (.cons (.k (.int 0)) (.cons (.k (.str [120])) .nil)))) (.cons (.tup (.cons (.k (.str sBits)) (.cons (.k (.int 0)) .nil))) (.cons (.tup (.cons (.k (.str sBytes)) (.cons (.k (.str [120])) .nil))) (.cons (.tup (.cons (.k (.str sUtf8)) (.cons (.lst (.cons (.k (.int 65)) .nil)) .nil))) (.cons (.tup (.cons (.k (.str sOid)) (.cons (.lst .nil) .nil))) (.cons (.tup (.cons (.k (.str sOid)) (.cons (.lst (.cons (.k (.int 1)) .nil)) .nil))) (.cons (.tup (.cons (.k (.str sOid)) (.cons (.lst (.cons (.k (.int 0)) (.cons (.k (.int 40)) .nil))) .nil))) (.cons (.tup (.cons (.k (.str sOid)) (.cons (.lst (.cons (.k (.int 1)) (.cons (.k (.int 40)) .nil))) .nil))) (.cons (.tup (.cons (.k (.str sOid)) (.cons (.lst (.cons (.k (.int 3)) (.cons (.k (.int 0)) .nil))) .nil))) (.cons (.tup (.cons (.k (.str sOid)) (.cons (.lst (.cons (.k (.int 2)) (.cons (.neg (.k (.int 1))) .nil))) .nil))) (.cons (.tup (.cons (.k (.str sOid)) (.cons (.lst (.cons (.neg (.k (.int 1))) (.cons (.k (.int 5)) .nil))) .nil))) (.cons (.tup (.cons (.k (.str sOid)) (.cons (.lst (.cons (.k (.int 1)) (.cons (.k (.int 2)) (.cons (.neg (.k (.int 1))) .nil)))) .nil))) (.cons (.tup (.cons (.k (.str sOid)) (.cons (.tup (.cons (.k (.int 1)) (.cons (.k (.int 2)) .nil))) .nil))) (.cons (.tup (.cons (.k (.str sOid)) (.cons (.lst (.cons (.k (.int 1)) (.cons (.k (.bool true)) .nil))) .nil))) (.cons (.tup (.cons (.k (.str sTagged)) (.cons (.neg (.k (.int 1))) (.cons (.tup (.cons (.k (.str sNull)) .nil)) .nil)))) (.cons (.tup (.cons (.k (.str sTagged)) (.cons (.k (.bool true)) (.cons (.tup (.cons (.k (.str sNull)) .nil)) .nil)))) (.cons (.tup (.cons (.k (.str sTagged)) (.cons (.k (.int 0)) .nil))) (.cons (.tup (.cons (.k (.str sTagged)) (.cons (.k (.int 0)) (.cons (.k .none) .nil)))) (.cons (.tup (.cons (.k (.str sSeq)) (.cons (.tup (.cons (.tup (.cons (.k (.str sNull)) .nil)) .nil)) .nil))) (.cons (.tup (.cons (.k (.str sSeq)) (.cons (.lst (.cons (.k (.int 0)) .nil)) .nil))) (.cons (.tup (.cons (.k (.str sSet)) (.cons (.k .none) .nil))) (.cons (.tup (.cons (.k (.str sSet)) (.cons (.lst (.cons (.tup (.cons (.k (.str sInt)) (.cons (.k (.int 2)) .nil))) (.cons (.tup (.cons (.k (.str sInt)) (.cons (.k (.int 1)) .nil))) .nil))) .nil))) (.cons (.tup (.cons (.k (.str sSet)) (.cons (.lst (.cons (.tup (.cons (.k (.str sInt)) (.cons (.k (.int 1)) .nil))) (.cons (.tup (.cons (.k (.str sInt)) (.cons (.k (.int 3)) .nil))) (.cons (.tup (.cons (.k (.str sInt)) (.cons (.k (.int 2)) .nil))) .nil)))) .nil))) (.cons (.tup (.cons (.k (.str [111,116,104,101,114])) (.cons (.k (.int 1)) .nil))) (.cons (.tup .nil) (.cons (.k .none) (.cons (.lst (.cons (.k (.str sNull)) .nil)) .nil)))))))))))))))))))))))))))))))))))))))))))))
noncomputable def ZeZ:C:=(.tup (.cons (.k (.bytes [1,0])) (.cons (.k (.bytes [1,1,1])) (.cons (.k (.bytes [1,2,255,255])) (.cons (.k (.bytes [2,0])) (.cons (.k (.bytes [2,2,0,127])) (.cons (.k (.bytes [2,2,255,128])) (.cons (.k (.bytes [10,2,0,0])) (.cons (.k (.bytes [10,2,255,255])) (.cons (.k (.bytes [3,0])) (.cons (.k (.bytes [3,1,1])) (.cons (.k (.bytes [3,2,8,0])) (.cons (.k (.bytes [3,2,1,1])) (.cons (.k (.bytes [3,3,4,16,8])) (.cons (.k (.bytes [5,1,0])) (.cons (.k (.bytes [6,0])) (.cons (.k (.bytes [6,1,129])) (.cons (.k (.bytes [6,2,128,1])) (.cons (.k (.bytes [6,3,42,128,1])) (.cons (.k (.bytes [7,0])) (.cons (.k (.bytes [16,0])) (.cons (.k (.bytes [31,0])) (.cons (.k (.bytes [159,2,5,0])) (.cons (.k (.bytes [192,2,5,0])) (.cons (.k (.bytes [160,0])) (.cons (.k (.bytes [160,4,5,0,5,0])) (.cons (.k (.bytes [191,30,2,5,0])) (.cons (.k (.bytes [191,128,31,2,5,0])) (.cons (.k (.bytes [49,6,2,1,2,2,1,1])) (.cons (.k (.bytes [48,1,5])) (.cons (.k (.bytes [48,1,191])) (.cons (.k (.bytes [48,3,4,2,65])) (.cons (.k (.bytes [5,129,0])) (.cons (.k (.bytes [4,129,1,65])) (.cons (.k (.bytes [4,130,0,1,65])) (.cons (.k (.bytes [4,128])) .nil))))))))))))))))))))))))))))))))))))
noncomputable def ZbE:Ss:=(.cons (.asg 3 ZfK)
 (.cons (.asg 4 ZeZ)
 (.cons (.asg 5 (.idx (.tup (.cons (.k (.str sTable)) (.cons (.k (.str sTable)) (.cons (.k (.str sTable)) (.cons (.k (.str sTable)) (.cons (.k (.str sPrint)) (.cons (.k (.str sUtf8)) (.cons (.k (.str sUtf8)) (.cons (.k (.str sUtf8)) (.cons (.k (.str sTime)) (.cons (.k (.str sTime)) (.cons (.k (.str sTime)) (.cons (.k (.str sTime)) .nil))))))))))))) (.bin .Mod (.var 0) (.k (.int 12)))))
 (.cons (.ife (.cmp .Eq (.var 5) (.k (.str sTable))) (.cons (.ret (.tup (.cons (.idx (.var 3) (.bin .Mod (.var 1) (.bi .len (.cons (.var 3) .nil)))) (.cons (.idx (.var 4) (.bin .Mod (.var 2) (.bi .len (.cons (.var 4) .nil)))) .nil))))
 .nil) .nil)
 (.cons (.asg 6 (.bin .Add (.bin .Add (.k (.bytes [90,122])) (.bi .bytes (.cons (.lst (.cons (.idx (.tup (.cons (.k (.int 64)) (.cons (.k (.int 91)) (.cons (.k (.int 96)) (.cons (.k (.int 123)) (.cons (.k (.int 42)) (.cons (.k (.int 33)) (.cons (.k (.int 38)) (.cons (.k (.int 59)) (.cons (.k (.int 60)) (.cons (.k (.int 62)) (.cons (.k (.int 31)) (.cons (.k (.int 128)) .nil))))))))))))) (.bin .Mod (.var 1) (.k (.int 12)))) .nil)) .nil))) (.k (.bytes [48,57]))))
 (.cons (.ife (.cmp .Eq (.var 5) (.k (.str sUtf8))) (.cons (.asg 6 (.bi .bytes (.cons (.comp 2 (.last (.one 8) (.seq (.bin .Add (.bin .Add (.idx (.glob 6) (.bin .Mod (.var 2) (.k (.int 10)))) (.idx (.glob 7) (.bin .Mod (.var 1) (.bi .len (.cons (.glob 7) .nil))))) (.idx (.tup (.cons (.k (.str [])) (.cons (.k (.str [65])) .nil))) (.bin .Mod (.var 2) (.k (.int 2)))))) .nil (.bi .ord (.cons (.var 8) .nil)))) .nil)))
 .nil) .nil)
 (.cons (.ife (.cmp .Eq (.var 5) (.k (.str sTime))) (.cons (.asg 6 (.call 32 (.cons (.bin .Add (.k (.int 1)) (.bin .Mod (.var 0) (.k (.int 2)))) (.cons (.var 1) (.cons (.var 2) .nil)))))
 .nil) .nil)
 (.cons (.ret (.tup (.cons (.tup (.cons (.var 5) (.cons (.var 6) .nil))) (.cons (.call 31 (.cons (.bi .bytes (.cons (.lst (.cons (.idx (.call 28 .nil) (.var 5)) .nil)) .nil)) (.cons (.var 6) .nil))) .nil))))
 .nil))))))))
noncomputable def Zgm:Fn:=⟨3,7,ZbE⟩
noncomputable def Zef:Ss:=(.cons (.tri (some 1) (.call 20 (.cons (.var 0) .nil)) 1 (.k (.str sRefused)))
 (.cons (.ret (.var 1))
 .nil))
noncomputable def Zem:Fn:=⟨1,2,Zef⟩
noncomputable def Zeg:Ss:=(.cons (.tri (some 2) (.call 24 (.cons (.var 0) (.cons (.var 1) .nil))) 2 (.k (.str sRefused)))
 (.cons (.ret (.var 2))
 .nil))
noncomputable def Zen:Fn:=⟨2,3,Zeg⟩
noncomputable def ZaO:Ss:=(.cons (.ife (.and (.cmp .Eq (.idx (.var 12) (.k (.int 0))) (.k (.str sBool))) (.not (.cmp .Is (.bi .typ (.cons (.idx (.var 12) (.k (.int 1))) .nil)) (.k (.typ .tBool))))) (.cons (.ret (.k (.bool false)))
 .nil) .nil)
 (.cons (.ife (.and (.cmp .In (.idx (.var 12) (.k (.int 0))) (.tup (.cons (.k (.str sInt)) (.cons (.k (.str sEnum)) (.cons (.k (.str sBits)) (.cons (.k (.str sTagged)) .nil)))))) (.not (.cmp .Is (.bi .typ (.cons (.idx (.var 12) (.k (.int 1))) .nil)) (.k (.typ .tInt))))) (.cons (.ret (.k (.bool false)))
 .nil) .nil)
 (.cons (.ife (.and (.cmp .Eq (.idx (.var 12) (.k (.int 0))) (.k (.str sOid))) (.not (.bi .all (.cons (.comp 2 (.last (.one 16) (.seq (.idx (.var 12) (.k (.int 1)))) .nil (.cmp .Is (.bi .typ (.cons (.var 16) .nil)) (.k (.typ .tInt))))) .nil)))) (.cons (.ret (.k (.bool false)))
 .nil) .nil)
 .nil)))
noncomputable def c_law:Ss:=(.cons (.ife (.cmp .Lt (.bi .len (.cons (.var 0) .nil)) (.k (.int 18))) (.cons (.ret (.k (.bool true)))
 .nil) .nil)
 (.cons (.asg 1 (.call 34 (.cons (.idx (.var 0) (.k (.int 9))) (.cons (.idx (.var 0) (.k (.int 10))) (.cons (.call 33 (.cons (.idx (.var 0) (.k (.int 0))) (.cons (.idx (.var 0) (.k (.int 1))) (.cons (.idx (.var 0) (.k (.int 2))) .nil)))) (.cons (.call 33 (.cons (.idx (.var 0) (.k (.int 3))) (.cons (.idx (.var 0) (.k (.int 4))) (.cons (.idx (.var 0) (.k (.int 5))) .nil)))) .nil))))))
 (.cons (.unp [2,3,4,5] (.call 34 (.cons (.idx (.var 0) (.k (.int 11))) (.cons (.idx (.var 0) (.k (.int 12))) (.cons (.var 1) (.cons (.call 33 (.cons (.idx (.var 0) (.k (.int 6))) (.cons (.idx (.var 0) (.k (.int 7))) (.cons (.idx (.var 0) (.k (.int 8))) .nil)))) .nil))))))
 (.cons (.asg 6 (.call 34 (.cons (.idx (.var 0) (.k (.int 9))) (.cons (.idx (.var 0) (.k (.int 10))) (.cons (.call 33 (.cons (.idx (.var 0) (.k (.int 0))) (.cons (.idx (.var 0) (.k (.int 1))) (.cons (.idx (.var 0) (.k (.int 2))) .nil)))) (.cons (.call 33 (.cons (.idx (.var 0) (.k (.int 3))) (.cons (.idx (.var 0) (.k (.int 4))) (.cons (.idx (.var 0) (.k (.int 5))) .nil)))) .nil))))))
 (.cons (.asg 7 (.call 34 (.cons (.idx (.var 0) (.k (.int 11))) (.cons (.idx (.var 0) (.k (.int 12))) (.cons (.var 6) (.cons (.call 33 (.cons (.idx (.var 0) (.k (.int 6))) (.cons (.idx (.var 0) (.k (.int 7))) (.cons (.idx (.var 0) (.k (.int 8))) .nil)))) .nil))))))
 (.cons (.asg 8 (.call 36 (.cons (.var 2) .nil)))
 (.cons (.ife (.or (.cmp .NotEq (.var 8) (.var 3)) (.not (.cmp .Is (.bi .typ (.cons (.var 8) .nil)) (.k (.typ .tBytes))))) (.cons (.ret (.k (.bool false)))
 .nil) .nil)
 (.cons (.ife (.cmp .NotEq (.var 2) (.idx (.var 7) (.k (.int 0)))) (.cons (.ret (.k (.bool false)))
 .nil) .nil)
 (.cons (.asg 9 (.call 37 (.cons (.var 3) (.cons (.bin .Add (.var 4) (.bin .Mod (.idx (.var 0) (.k (.int 17))) (.k (.int 3)))) .nil))))
 (.cons (.ife (.cmp .NotEq (.var 9) (.idx (.var 7) (.k (.int 0)))) (.cons (.ret (.k (.bool false)))
 .nil) .nil)
 (.cons (.asg 10 (.call 27 (.cons (.var 9) .nil)))
 (.cons (.ife (.or (.cmp .NotEq (.var 10) (.var 5)) (.cmp .NotEq (.var 9) (.idx (.var 7) (.k (.int 0))))) (.cons (.ret (.k (.bool false)))
 .nil) .nil)
 (.cons (.forr (.many [11,12]) (.seq (.var 10)) ZaO)
 (.cons (.ife (.and (.cmp .Gt (.var 4) (.k (.int 0))) (.cmp .NotEq (.call 37 (.cons (.var 3) (.cons (.bin .Sub (.var 4) (.k (.int 1))) .nil))) (.k (.str sRefused)))) (.cons (.ret (.k (.bool false)))
 .nil) .nil)
 (.cons (.ife (.cmp .NotEq (.call 37 (.cons (.slc (.var 3) (.k .none) (.bin .Mod (.idx (.var 0) (.k (.int 16))) (.bi .len (.cons (.var 3) .nil)))) (.cons (.k (.int 9)) .nil))) (.k (.str sRefused))) (.cons (.ret (.k (.bool false)))
 .nil) .nil)
 (.cons (.ife (.cmp .NotEq (.call 37 (.cons (.bin .Add (.var 3) (.bi .bytes (.cons (.lst (.cons (.bin .Mod (.idx (.var 0) (.k (.int 16))) (.k (.int 256))) .nil)) .nil))) (.cons (.k (.int 9)) .nil))) (.k (.str sRefused))) (.cons (.ret (.k (.bool false)))
 .nil) .nil)
 (.cons (.unp [13,14] (.call 35 (.cons (.idx (.var 0) (.k (.int 13))) (.cons (.idx (.var 0) (.k (.int 14))) (.cons (.idx (.var 0) (.k (.int 15))) .nil)))))
 (.cons (.ife (.cmp .NotEq (.call 36 (.cons (.tup (.cons (.k (.str sSeq)) (.cons (.lst (.cons (.tup (.cons (.k (.str sNull)) .nil)) (.cons (.var 13) (.cons (.tup (.cons (.k (.str sNull)) .nil)) .nil)))) .nil))) .nil)) (.k (.str sRefused))) (.cons (.ret (.k (.bool false)))
 .nil) .nil)
 (.cons (.ife (.cmp .NotEq (.call 37 (.cons (.call 31 (.cons (.k (.bytes [48])) (.cons (.bin .Add (.bin .Add (.k (.bytes [5,0])) (.var 14)) (.k (.bytes [5,0]))) .nil))) (.cons (.k (.int 9)) .nil))) (.k (.str sRefused))) (.cons (.ret (.k (.bool false)))
 .nil) .nil)
 (.cons (.ret (.k (.bool true)))
 .nil))))))))))))))))))))
noncomputable def ZkX:Fn:=⟨1,15,c_law⟩
noncomputable def Zqm:List (List Nat):= [sBool,sInt,sBits,sBytes,sNull,sOid,sEnum,sUtf8,sUtf8,sPrint,sTime,sTime]
noncomputable def gKinds:D:= .tuple (Zqm.map .str)
noncomputable def Zab:List (List Nat):= [[],[65,90,97,122],[48,57,32,39,40],[41,43,44,45,46],[47,58,61,63]]
noncomputable def gPrinted:D:= .tuple (Zab.map .str)
noncomputable def Zaq:List (List Nat):= [[],[127],[194,128,223,191],[224,160,128,224,191,191],[225,128,128,236,191,191],[237,128,128,237,159,191],[238,128,128,239,191,191],[240,144,128,128,240,191,191,191],[241,128,128,128,243,191,191,191],[244,128,128,128,244,143,191,191]]
noncomputable def gUtf8:D:= .tuple (Zaq.map .str)
noncomputable def Zax:List (List Nat):= [[128],[191],[192,128],[193,191],[194,127],[194,192],[223],[224,159,191],[224,192,128],[225,127,128],[225,192,128],[237,127,128],[237,160,128],[239,128,127],[239,128,192],[225,128],[240,143,191,191],[240,192,128,128],[241,127,128,128],[241,192,128,128],[244,127,128,128],[244,144,128,128],[241,128,127,128],[241,128,192,128],[241,128,128,127],[241,128,128,192],[241,128,128],[245,128,128,128],[255]]
noncomputable def gNotUtf8:D:= .tuple (Zax.map .str)
noncomputable def Zfa:List (List Nat × Int):= [([48,48,48,48],29),([49,57,48,48],28),([50,48,48,48],29),([50,48,50,51],28),([50,48,50,52],29),([50,49,48,48],28),([57,57,57,57],28),([48,52,48,48],29)]
noncomputable def yD (p:List Nat × Int):D:= .tuple [.str p.1,.int p.2]
noncomputable def gYears:D:= .tuple (Zfa.map yD)
noncomputable def Zey:List (List Nat):= [[48,48,48,48,48,48,90],[50,51,53,57,53,57,90],[50,51,53,57,53,57,46,53,90],[49,48,49,49,49,50,46,48,53,90],[48,57,49,48,53,57,46,49,50,51,52,53,54,55,56,57,90]]
noncomputable def gTails:D:= .tuple (Zey.map .str)
noncomputable def Zbh:List (List Nat):= [[50,52,48,48,48,48,90],[48,48,54,48,48,48,90],[48,48,48,48,54,48,90],[48,48,48,48,48,48,122],[48,48,48,48,48,48],[48,48,48,48,48],[48,48,48,48,48,48,46,90],[48,48,48,48,48,48,46,48,90],[48,48,48,48,48,48,46,53,48,90],[48,48,48,48,48,48,44,53,90],[48,48,48,48,48,48,46,53],[48,48,48,48,48,48,46,58,53,90],[48,48,48,48,48,48,46,47,53,90],[48,48,48,48,48,48,46,53,58,90],[48,48,48,48,48,58,90],[48,48,48,48,48,47,90],[48,48,48,48,48,48,32,90]]
noncomputable def gBadTails:D:= .tuple (Zbh.map .str)
structure Law2 (T:Text):Prop extends Base T where
 f28:T.fns[28]?=some ZfA
 f29:T.fns[29]?=some Zgk
 f30:T.fns[30]?=some ZdT
 f31:T.fns[31]?=some Zgl
 f32:T.fns[32]?=some ZfB
 f33:T.fns[33]?=some ZfC
 f34:T.fns[34]?=some ZfD
 f35:T.fns[35]?=some Zgm
 f36:T.fns[36]?=some Zem
 f37:T.fns[37]?=some Zen
 f38:T.fns[38]?=some ZkX
 g4:T.globs[4]?=some gKinds
 g5:T.globs[5]?=some gPrinted
 g6:T.globs[6]?=some gUtf8
 g7:T.globs[7]?=some gNotUtf8
 g8:T.globs[8]?=some gYears
 g9:T.globs[9]?=some gTails
 g10:T.globs[10]?=some gBadTails
noncomputable def T2L:Text:=⟨[ZeY,ZdP,Zfu,Zek,ZeC,Zfv,Zfw,Zgd,Zfx,ZgD,Zge,ZdQ,ZgE,Zif,Zgf,Zgg,ZdZ,Zgi,ZgF,Zel,ZhD,Zig,Zfy,ZjM,ZhE,Zfz,Zih,ZjN,ZfA,Zgk,ZdT,Zgl,ZfB,ZfC,ZfD,Zgm,Zem,Zen,ZkX],[Zdi,Zea,gExtra,ZdS,gKinds,gPrinted,gUtf8,gNotUtf8,gYears,gTails,gBadTails]⟩
theorem base2L:Base T2L:=⟨rfl,rfl,rfl,rfl,rfl,rfl,rfl,rfl,rfl,rfl,rfl,rfl,rfl,rfl,rfl,rfl,rfl,rfl,rfl,rfl,rfl,rfl,rfl,rfl,rfl,rfl,rfl,rfl,rfl,rfl,rfl,rfl⟩
theorem ZiL:Law2 T2L:={ base2L with f28:=rfl,f29:=rfl,f30:=rfl,f31:=rfl,f32:=rfl,f33:=rfl,f34:=rfl,f35:=rfl,f36:=rfl,f37:=rfl,f38:=rfl,g4:=rfl,g5:=rfl,g6:=rfl,g7:=rfl,g8:=rfl,g9:=rfl,g10:=rfl }
end DK.Internal.B
end
section
set_option backward.match.sparseCases false
set_option genSizeOf false
set_option genCtorIdx false
namespace DK.Internal.B
open PySem
variable {T:Text} {r:Nat}
theorem Zlw:∀(j n:Nat) (out:List UInt8),n < 128 ^ j→out.length+j≤900 →
  ∃s,W T r ZaK ZaL [.val (.int (n:Nat)),.val (.list (out.map uD))] = .ok (.next,[s,.val (.list ((arcH n++out).map uD))]):=by
 intro j
 induction j with
 | zero=>
  intro n out h h2
  have:n=0:=by simpa using h
  subst this
  refine ⟨.val (.int ((0:Nat):Int)),?_⟩
  rw [V_eq]
  generalize W T r ZaK ZaL=w
  simp (disch:=first | decide | assumption | lia) only [ZaK,ZaL,X_k,Zp,Zr,T_k,Zt,ZkY,Zeh,Za,ZN,c_eq,Zv,Zd,ZP,ZeI,Ze,Zb,okB_,Zq,zc9,Zcu]
 | succ j ih=>
  intro n out h h2
  by_cases h0:n=0
  ·subst h0
   refine ⟨.val (.int ((0:Nat):Int)),?_⟩
   rw [V_eq]
   generalize W T r ZaK ZaL=w
   simp (disch:=first | decide | assumption | lia) only [ZaK,ZaL,X_k,Zp,Zr,T_k,Zt,ZkY,Zeh,Za,ZN,c_eq,Zv,Zd,ZP,ZeI,Ze,Zb,okB_,Zq,zc9,Zcu]
  ·obtain ⟨s,hs⟩:=ih (n / 128) (UInt8.ofNat (128+n % 128)::out) (by rw [Nat.pow_succ] at h;lia) (by simp;lia)
   refine ⟨s,?_⟩
   have e1:(128:Int)+(n:Nat) % 128=((128+n % 128:Nat):Int):=by rfl
   have e2:((n:Nat):Int) / 128=((n / 128:Nat):Int):=by rfl
   have e3:binop .Add (.list [.int ((128+n % 128:Nat):Int)]) (.list (out.map uD)) = .ok (.list ((UInt8.ofNat (128+n % 128)::out).map uD)):=by
    rw [ZhX (by simp [SZ];lia)]
    simp only [List.map_cons,uD,List.singleton_append];rw [Zaa (by lia)]
   rw [V_eq]
   generalize W T r ZaK ZaL=w at hs ⊢
   generalize hL:(UInt8.ofNat (128+n % 128)::out).map uD=L at *
   generalize out.map uD=M at *
   simp (disch:=first | decide | assumption | lia) only [ZaK,ZaL,X_k,Zp,ZB,ZZ,Zac,Zi,Zc,Zr,T_k,Zu,Zeo,Zt,ZK,Za,ZN,Zae,ZaG,c_eq,Zv,Zd,ZdH,ZA,ZeI,Zad,ZW,Zj,Ze,Zf,Zk,Zl,Zb,okB_,Zq,ZQ,Zgo,e1,e2,e3]
   rw [hs,Zet h0,List.append_assoc];rfl
theorem c2arc (B:Law2 T) {n j:Nat} (h:n < 128 ^ j) (hj:j≤800):CL T (r+1) 29 [.int (n:Nat)] = .ok (.bytes (arcB n)):=by
 rw [ZJ B.f29 rfl (by decide)]
 obtain ⟨s,hs⟩:=Zlw (T:=T) (r:=r) j (n / 128) [UInt8.ofNat (n % 128)] (Nat.lt_of_le_of_lt (Nat.div_le_self _ _) h) (by simp;lia)
 have e1:((n:Nat):Int) % 128=((n % 128:Nat):Int):=by rfl
 have e2:((n:Nat):Int) / 128=((n / 128:Nat):Int):=by rfl
 have e3 : [D.int ((n % 128:Nat):Int)] = [UInt8.ofNat (n % 128)].map uD:=by simp only [List.map_cons,List.map_nil,uD];rw [Zaa (by lia)]
 have hb:=Zfc (arcH (n / 128) ++ [UInt8.ofNat (n % 128)])
 generalize (arcH (n / 128) ++ [UInt8.ofNat (n % 128)]).map uD=L at *
 generalize [UInt8.ofNat (n % 128)].map uD=M at *
 simp (disch:=first | decide | assumption | lia) only [Zii,X_k,Zp,ZB,ZZ,Zac,P_bi,Zi,Zc,ZD,Zeo,ZbF,ZE,ZaG,Zh,Zd,Zo,ZdH,Zad,ZW,Zj,Ze,Zf,Zk,Zl,Zb,Zq,zc6,zc7,zc8,zc9,zc16,zc17,Zgo,e1,e2,e3,hs,hb]
 rfl
theorem Zhu (n:Int):uD (lowB n) = .int (n % 256):=by unfold uD;rw [ZgM]
theorem Zlx:∀(p:Int) (acc:List UInt8),acc.length+(intB p).length≤1000 →
  ∃s,W T r ZR ZS [.val (.int (p / 256)),.val (.list ((lowB p::acc).map uD))] = .ok (.next,[s,.val (.list ((intB p++acc).map uD))]):=by
 refine ZjV (p:=fun p=>∀(acc:List UInt8),acc.length+(intB p).length≤1000→∃s,W T r ZR ZS [.val (.int (p / 256)),.val (.list ((lowB p::acc).map uD))] = .ok (.next,[s,.val (.list ((intB p++acc).map uD))])) ?_ ?_
 ·intro p h acc hl
  refine ⟨.val (.int (p / 256)),?_⟩
  rw [V_eq]
  generalize W T r ZR ZS=w
  have i0:index (.list ((lowB p::acc).map uD)) (.int 0) = .ok (.int (p % 256)):=by rw [List.map_cons,ZcB,Zhu]
  rw [ZdC h,List.singleton_append]
  generalize (lowB p::acc).map uD=L at *
  by_cases h0:p < 0
  ·simp (disch:=first | decide | assumption | lia) only [ZR,ZS,X_k,Zp,ZhG,Zx,Zaw,R_or,Zr,T_k,Zt,ZkY,Zeh,ZcX,Za,ZN,c_eq,c_gt,Zv,Zd,ZP,ZeI,Zcy,Zat,Zai,Ze,Zf,Zb,okB_,Zq,i0]
  ·simp (disch:=first | decide | assumption | lia) only [ZR,ZS,X_k,Zp,Zx,Zaw,R_or,Zr,T_k,Zt,ZkY,Zeh,Za,ZN,c_eq,c_lt,Zv,Zd,ZG,ZeI,Zcy,ZhW,Ze,Zf,Zb,okB_,Zq,i0]
 ·intro p h ih acc hl
  rw [Zfd h] at hl ⊢
  obtain ⟨s,hs⟩:=ih (lowB p::acc) (by simp at hl ⊢;lia)
  refine ⟨s,?_⟩
  rw [V_eq]
  generalize W T r ZR ZS=w at hs ⊢
  have i0:index (.list ((lowB p::acc).map uD)) (.int 0) = .ok (.int (p % 256)):=by rw [List.map_cons,ZcB,Zhu]
  have e3:binop .Add (.list [.int (p / 256 % 256)]) (.list ((lowB p::acc).map uD)) = .ok (.list ((lowB (p / 256)::lowB p::acc).map uD)):=by
   rw [ZhX (by simp [SZ];simp at hl;lia),List.map_cons (a:=lowB (p / 256)),Zhu];rfl
  rw [List.append_assoc,List.singleton_append]
  generalize (lowB (p / 256)::lowB p::acc).map uD=K at *
  generalize (lowB p::acc).map uD=L at *
  by_cases h0:p / 256=0
  ·simp (disch:=first | decide | assumption | lia) only [ZR,ZS,X_k,Zp,ZB,ZhG,Zx,ZZ,Zac,Zi,Zc,Zaw,R_or,Zr,T_k,Zu,Zeo,Zt,ZK,ZcX,Za,ZN,ZaG,c_eq,c_lt,Zv,Zd,ZdH,Zy,ZeI,Zcy,Zat,Zdo,Zad,ZW,Zj,Ze,Zf,Zk,Zl,Zb,okB_,Zq,ZQ,i0,Zgo,e3,hs]
  ·by_cases h1:p / 256 = -1
   ·simp (disch:=first | decide | assumption | lia) only [ZR,ZS,X_k,Zp,ZB,ZhG,Zx,ZZ,Zac,Zi,Zc,Zaw,R_or,Zr,T_k,Zu,Zeo,Zt,ZK,ZcX,Za,ZN,ZaG,c_eq,c_gt,Zv,Zd,ZdH,ZA,ZeI,Zcy,Zat,Zai,Zad,ZW,Zj,Ze,Zf,Zk,Zl,Zb,okB_,Zq,ZQ,i0,Zgo,e3,hs]
   ·simp (disch:=first | decide | assumption | lia) only [ZR,ZS,X_k,Zp,ZB,ZhG,ZZ,Zac,Zi,Zc,Zaw,R_or,Zr,T_k,Zu,Zeo,Zt,ZK,ZcX,Za,ZN,ZaG,c_eq,Zv,Zd,ZdH,Zy,ZeI,Zat,Zai,Zad,ZW,Zj,Ze,Zf,Zk,Zl,Zb,okB_,Zq,ZQ,Zgo,e3,hs]
theorem c2int (B:Law2 T) (n:Int) (hl:(intB n).length≤1000):CL T (r+1) 30 [.int n] = .ok (.bytes (intB n)):=by
 rw [ZJ B.f30 rfl (by decide)]
 obtain ⟨s,hs⟩:=Zlx (T:=T) (r:=r) n [] (by simpa using hl)
 rw [List.append_nil] at hs
 have e3 : [D.int (n % 256)] = [lowB n].map uD:=by simp only [List.map_cons,List.map_nil,Zhu]
 have hb:=Zfc (intB n)
 generalize (intB n).map uD=L at *
 generalize [lowB n].map uD=M at *
 simp (disch:=first | decide | assumption | lia) only [ZeD,X_k,Zp,ZB,ZZ,Zac,P_bi,Zi,Zc,ZD,Zeo,ZbF,ZE,ZaG,Zh,Zd,Zo,ZdH,Zad,ZW,Zj,Ze,Zf,Zk,Zl,Zb,Zq,zc6,zc7,zc8,zc9,zc16,zc17,Zgo,e3,hs,hb]
theorem ZgC {l:List Nat} (h:∀c∈l,c < 256):builtin .bytes [.list (l.map nD)] = .ok (.bytes (l.map UInt8.ofNat)):=by
 have:bytesOf (l.map nD)=some (l.map UInt8.ofNat):=by
  induction l with
  | nil=>rfl
  | cons c l ih=>
   have hc:(0:Int)≤(c:Nat)∧((c:Nat):Int) < 256:=by have:=h c (List.mem_cons_self ..);lia
   refine (ZeS hc (ih (fun x hx=>h x (List.mem_cons_of_mem _ hx)))).trans ?_
   simp
 exact Zix this
theorem ZeF (B:Law2 T) (t c:List UInt8) (ht:t.length≤1000) (hc:c.length < 65536):CL T (r+1) 31 [.bytes t,.bytes c] = .ok (.bytes (tlv t c)):=by
 rw [ZJ B.f31 rfl (by decide)]
 have h1:=catL (t:=t) (n:=c.length) ht
 have h2:=catC (t:=t) (c:=c) ht hc
 have e1:((c.length:Nat):Int) / 256=((c.length / 256:Nat):Int):=by rfl
 have e2:((c.length:Nat):Int) % 256=((c.length % 256:Nat):Int):=by rfl
 by_cases ha:c.length < 128
 ·have hb:builtin .bytes [.list [.int (c.length:Nat)]] = .ok (.bytes (lenB c.length)):=by
   rw [Zjm (by exact Nat.lt_of_lt_of_le (by assumption) (by decide)),lenB,if_pos ha]
  simp (disch:=first | decide | assumption | lia) only [Zfh,X_k,Zp,ZB,Zac,P_bi,Zi,Zc,Zr,Zu,ZD,Zz,Zt,Za,ZaG,c_lt,Zn,Zh,Zd,Zo,Zg,ZP,ZW,Zj,Ze,Zf,Zk,Zl,Zb,Zq,zc6,zc7,zc8,zc9,zc16,zc17,Zgo,hb,h1,h2]
 ·by_cases hbb:c.length < 256
  ·have hb:builtin .bytes [.list [.int 129,.int (c.length:Nat)]] = .ok (.bytes (lenB c.length)):=by
    have:=ZgC (l:= [129,c.length]) (by intro x hx;simp at hx;lia)
    rw [lenB,if_neg ha,if_pos hbb];exact this
   simp (disch:=first | decide | assumption | lia) only [Zfh,X_k,Zp,ZB,Zac,P_bi,Zi,Zc,Zr,Zu,ZD,Zz,Zt,Za,ZaG,c_lt,Zn,Zh,Zd,Zo,Zg,ZP,ZA,ZW,Zj,Ze,Zf,Zk,Zl,Zb,Zq,zc6,zc7,zc8,zc9,zc16,zc17,Zgo,hb,h1,h2]
  ·have hb:builtin .bytes [.list [.int 130,.int ((c.length / 256:Nat):Int),.int ((c.length % 256:Nat):Int)]] = .ok (.bytes (lenB c.length)):=by
    have:=ZgC (l:= [130,c.length / 256,c.length % 256]) (by intro x hx;simp at hx;lia)
    rw [lenB,if_neg ha,if_neg hbb]
    simp only [List.map_cons,List.map_nil,Zhi] at this
    exact this
   simp (disch:=first | decide | assumption | lia) only [Zfh,X_k,Zp,ZB,Zac,P_bi,Zi,Zc,Zr,Zu,ZD,Zz,Zt,Za,ZaG,c_lt,Zn,Zh,Zd,Zo,Zg,ZA,ZW,Zj,Ze,Zf,Zk,Zl,Zb,Zq,zc6,zc7,zc8,zc9,zc16,zc17,Zgo,e1,e2,hb,h1,h2]
noncomputable def sel {α:Type} [Inhabited α] (l:List α) (x:Int):α:=l.getD (x % (l.length:Int)).toNat default
theorem Zah {α:Type} [Inhabited α] (l:List α) (x:Int) (h:0 < l.length):sel l x∈l:=by
 unfold sel
 have h1:=Int.emod_nonneg x (by lia:(l.length:Int)≠0)
 have h2:=Int.emod_lt_of_pos x (by exact Int.ofNat_lt.mpr (by assumption):(0:Int) < l.length)
 rw [List.getD_eq_getElem?_getD,List.getElem?_eq_getElem (by lia)]
 exact List.getElem_mem _
theorem Zbi {α:Type} [Inhabited α] (l:List α) (f:α→D) (x n:Int) (hn:n=(l.length:Nat)) (h:0 < l.length):index (.tuple (l.map f)) (.int (x % n)) = .ok (f (sel l x)):=by
 subst hn
 have h1:=Int.emod_nonneg x (by lia:(l.length:Int)≠0)
 have h2:=Int.emod_lt_of_pos x (by exact Int.ofNat_lt.mpr (by assumption):(0:Int) < l.length)
 have hp:place (l.map f).length (x % (l.length:Nat))=some (x % (l.length:Nat)).toNat:=by
  unfold place
  rw [List.length_map]
  simp only [if_neg (by exact Int.not_lt.mpr (by assumption):¬(x % (l.length:Nat) < 0))]
  rw [if_pos ⟨h1,h2⟩]
 rw [Zpw,hp];show (match (l.map f)[(x % (l.length:Nat)).toNat]? with | some u=>Out.ok u | none=> .stuck)=_
 have hi:(x % (l.length:Nat)).toNat < l.length:=by lia
 unfold sel
 rw [List.getElem?_map,List.getElem?_eq_getElem hi,List.getD_eq_getElem?_getD,List.getElem?_eq_getElem hi]
 rfl
theorem ord_s (c:Nat):builtin .ord [.str [c]] = .ok (.int c):=rfl
theorem Zkh (i:Nat) (sl:List Slot) (hi:∀d,getV (setV sl i (.val d)) i = .ok d):∀(s:List Nat) (acc:List D),acc.length+s.length≤100000 →
  CE T r (.one i) .nil (.bi .ord (.cons (.var i) .nil)) (s.map fun c=> .str [c]) sl acc = .ok (acc++s.map nD):=by
 intro s
 induction s with
 | nil=>intro acc h;rw [List.map_nil,ZiX];simp
 | cons c s ih=>
  intro acc h
  have hs:=ih (acc ++ [nD c]) (by simp at h ⊢;lia)
  have hal:acc.length < 1000000:=by simp at h;lia
  rw [List.map_cons,ZjQ]
  rw [show acc++(c::s).map nD=acc ++ [nD c]++s.map nD by simp,←hs]
  simp (disch:=first | decide | assumption | lia) only [Zp,P_bi,Zi,Zc,ZgS,Zbs,Zd,ZgT,ZjR,Zj,Zb,hi,ord_s,ZhU]
  rfl
end DK.Internal.B
end
section
set_option backward.match.sparseCases false
set_option genSizeOf false
set_option genCtorIdx false
namespace DK.Internal.B
open PySem
variable {T:Text} {r:Nat}
noncomputable def monL (leap:Int):List (List Nat × Int):= [([48,49],31),([48,50],leap),([48,50],leap),([48,50],leap),([48,51],31),([48,52],30),([48,54],30),([48,57],30),([49,49],30),([49,50],31),([48,53],31),([49,48],31)]
noncomputable def dd (n:Int):List Nat:=(digit3 n.toNat).drop 1
noncomputable def lateT (Y M:List Nat × Int):List Nat:=(Y.1++M.1)++dd (100+M.2)
noncomputable def afterT (Y M:List Nat × Int):List Nat:=(Y.1++M.1)++dd (101+M.2)
noncomputable def goodA (Y M:List Nat × Int):List (List Nat):= [(Y.1++M.1) ++ [48,49],lateT Y M,lateT Y M]
noncomputable def badA (Y M:List Nat × Int):List (List Nat):= [(Y.1++M.1) ++ [48,48],afterT Y M,afterT Y M,afterT Y M,Y.1 ++ [48,48,48,49],Y.1 ++ [49,51,48,49],[58,48,48,48,48,49,48,49]]
noncomputable def selY (x:Int):List Nat × Int:=sel Zfa x
noncomputable def selM (x y:Int):List Nat × Int:=sel (monL (selY x).2) y
noncomputable def text0 (x y:Int):List Nat:=sel (goodA (selY x) (selM x y)) x++sel Zey y
noncomputable def text1 (x y:Int):List Nat:=lateT (selY x) (selM x y)++sel Zbh x
noncomputable def text2 (x y:Int):List Nat:=sel (badA (selY x) (selM x y)) x ++ [48,48,48,48,48,48,90]
theorem ZkL:∀Y∈Zfa,∀M∈monL Y.2,Y.1.length=4∧M.1.length=2∧28≤M.2∧M.2≤31∧(∀c∈Y.1,c < 256)∧(∀c∈M.1,c < 256):=by decide
theorem ZkM:∀t∈Zey,t.length≤20∧(∀c∈t,c < 256):=by decide
theorem ZjA:∀t∈Zbh,t.length≤20∧(∀c∈t,c < 256):=by decide
theorem ZjB (n:Int):(dd n).length=2:=rfl
theorem dd_lt {n:Int} (h:100≤n∧n < 200):∀c∈dd n,c < 256:=by
 intro c hc;simp [dd,digit3] at hc;lia
theorem str3 {i:Int} (h:100≤i∧i < 200):builtin .str [.int i] = .ok (.str (digit3 i.toNat)):=if_pos h
theorem ZmQ (i:Int):slice (.str (digit3 i.toNat)) (.int 1) .none = .ok (.str (dd i)):=by
 exact (if_pos (c:=(0:Int)≤1∧(1:Int)≤(digit3 i.toNat).length) (e:=Out.stuck) ⟨by decide,by simp [digit3]⟩).trans rfl
theorem catS {a b:List Nat} (h:a.length+b.length≤1000000):binop .Add (.str a) (.str b) = .ok (.str (a++b)):=b_catS h
theorem Zhv (x:Int):index gYears (.int (x % 8)) = .ok (.tuple [.str (selY x).1,.int (selY x).2]):=Zbi Zfa yD x 8 rfl (by decide)
theorem Zki (x y:Int):index (.tuple [.tuple [.str [48,49],.int 31],.tuple [.str [48,50],.int (selY x).2],.tuple [.str [48,50],.int (selY x).2],.tuple [.str [48,50],.int (selY x).2],.tuple [.str [48,51],.int 31],.tuple [.str [48,52],.int 30],.tuple [.str [48,54],.int 30],.tuple [.str [48,57],.int 30],.tuple [.str [49,49],.int 30],.tuple [.str [49,50],.int 31],.tuple [.str [48,53],.int 31],.tuple [.str [49,48],.int 31]]) (.int (y % 12)) = .ok (.tuple [.str (selM x y).1,.int (selM x y).2]):=Zbi (monL (selY x).2) yD y 12 rfl (by simp [monL])
theorem Zhw (y:Int):index gTails (.int (y % 5)) = .ok (.str (sel Zey y)):=Zbi Zey .str y 5 rfl (by decide)
theorem Zly (y:Int):index gBadTails (.int (y % 17)) = .ok (.str (sel Zbh y)):=Zbi Zbh .str y 17 rfl (by decide)
theorem idx_s3 (a b c:List Nat) (x:Int):index (.tuple [.str a,.str b,.str c]) (.int (x % 3)) = .ok (.str (sel [a,b,c] x)):=Zbi [a,b,c] .str x 3 rfl (by simp)
theorem idx_s7 (a b c d e f g:List Nat) (x:Int):index (.tuple [.str a,.str b,.str c,.str d,.str e,.str f,.str g]) (.int (x % 7)) = .ok (.str (sel [a,b,c,d,e,f,g] x)):=Zbi [a,b,c,d,e,f,g] .str x 7 rfl (by simp)
theorem ZfY (x:Int):selY x∈Zfa:=Zah _ _ (by decide)
theorem ZfZ (x y:Int):selM x y∈monL (selY x).2:=Zah _ _ (by simp [monL])
theorem Zhx {Y M:List Nat × Int} (h:Y.1.length=4) (h2:M.1.length=2):∀a∈goodA Y M,a.length=8:=by
 intro a ha;simp [goodA,lateT] at ha;rcases ha with rfl | rfl<;>simp [h,h2,ZjB]
theorem ZkN {Y M:List Nat × Int} (h:Y.1.length=4) (h2:M.1.length=2):∀a∈badA Y M,a.length=8:=by
 intro a ha;simp [badA,afterT] at ha;rcases ha with rfl | rfl | rfl | rfl | rfl<;>simp [h,h2,ZjB]
theorem ZkO {Y M:List Nat × Int} (h:∀c∈Y.1,c < 256) (h2:∀c∈M.1,c < 256) (l1:28≤M.2) (l2:M.2≤31):∀a∈goodA Y M,∀c∈a,c < 256:=by
 intro a ha c hc
 have hd:=dd_lt (n:=100+M.2) (by lia) c
 simp only [goodA,lateT,List.mem_cons,List.not_mem_nil,or_false] at ha
 rcases ha with rfl | rfl | rfl<;>simp only [List.mem_append,List.mem_cons,List.not_mem_nil,or_false] at hc
 ·rcases hc with (hc | hc) | hc | hc
  ·exact h c hc
  ·exact h2 c hc
  ·lia
  ·lia
 ·rcases hc with (hc | hc) | hc
  ·exact h c hc
  ·exact h2 c hc
  ·exact hd hc
 ·rcases hc with (hc | hc) | hc
  ·exact h c hc
  ·exact h2 c hc
  ·exact hd hc
theorem Zqb {Y M:List Nat × Int} (h:∀c∈Y.1,c < 256) (h2:∀c∈M.1,c < 256) (l1:28≤M.2) (l2:M.2≤31):∀a∈badA Y M,∀c∈a,c < 256:=by
 intro a ha c hc
 have hd:=dd_lt (n:=101+M.2) (by lia) c
 have hA:c∈afterT Y M→c < 256:=by
  intro hc
  simp only [afterT,List.mem_append] at hc
  rcases hc with (hc | hc) | hc
  ·exact h c hc
  ·exact h2 c hc
  ·exact hd hc
 simp only [badA,List.mem_cons,List.not_mem_nil,or_false] at ha
 rcases ha with rfl | rfl | rfl | rfl | rfl | rfl | rfl
 ·simp only [List.mem_append,List.mem_cons,List.not_mem_nil,or_false] at hc
  rcases hc with (hc | hc) | hc | hc
  ·exact h c hc
  ·exact h2 c hc
  ·lia
  ·lia
 ·exact hA hc
 ·exact hA hc
 ·exact hA hc
 ·simp only [List.mem_append,List.mem_cons,List.not_mem_nil,or_false] at hc
  rcases hc with hc | hc
  ·exact h c hc
  ·lia
 ·simp only [List.mem_append,List.mem_cons,List.not_mem_nil,or_false] at hc
  rcases hc with hc | hc
  ·exact h c hc
  ·lia
 ·simp only [List.mem_cons,List.not_mem_nil,or_false] at hc
  lia
theorem ZgP (x y:Int):((text0 x y).length≤30∧∀c∈text0 x y,c < 256)∧((text1 x y).length≤30∧∀c∈text1 x y,c < 256)∧((text2 x y).length≤30∧∀c∈text2 x y,c < 256):=by
 obtain ⟨y1,m1,l1,l2,yc,mc⟩:=ZkL _ (ZfY x) _ (ZfZ x y)
 have gm:=Zah (goodA (selY x) (selM x y)) x (by simp [goodA])
 have bm:=Zah (badA (selY x) (selM x y)) x (by simp [badA])
 have gl:=Zhx y1 m1 _ gm
 have bl:=ZkN y1 m1 _ bm
 have gc:=ZkO yc mc l1 l2 _ gm
 have bc:=Zqb yc mc l1 l2 _ bm
 have lc:=ZkO yc mc l1 l2 (lateT (selY x) (selM x y)) (by simp [goodA])
 have ll:=Zhx y1 m1 (lateT (selY x) (selM x y)) (by simp [goodA])
 obtain ⟨t1,tc⟩:=ZkM _ (Zah Zey y (by decide))
 obtain ⟨u1,uc⟩:=ZjA _ (Zah Zbh x (by decide))
 refine ⟨⟨by simp [text0];lia,?_⟩,⟨by simp [text1];lia,?_⟩,⟨by simp [text2];lia,?_⟩⟩
 ·intro c hc
  rcases List.mem_append.mp hc with hc | hc
  ·exact gc c hc
  ·exact tc c hc
 ·intro c hc
  rcases List.mem_append.mp hc with hc | hc
  ·exact lc c hc
  ·exact uc c hc
 ·intro c hc
  rcases List.mem_append.mp hc with hc | hc
  ·exact bc c hc
  ·simp only [List.mem_cons,List.not_mem_nil,or_false] at hc;lia
theorem ZmR (B:Law2 T) (x y:Int):(CL T (r+1) 32 [.int 0,.int x,.int y] = .ok (.bytes ((text0 x y).map UInt8.ofNat))) ∧
  (CL T (r+1) 32 [.int 1,.int x,.int y] = .ok (.bytes ((text1 x y).map UInt8.ofNat)))∧(CL T (r+1) 32 [.int 2,.int x,.int y] = .ok (.bytes ((text2 x y).map UInt8.ofNat))):=by
 obtain ⟨y1,m1,l1,l2,yc,mc⟩:=ZkL _ (ZfY x) _ (ZfZ x y)
 have gl:=Zhx y1 m1 _ (Zah (goodA (selY x) (selM x y)) x (by simp [goodA]))
 have bl:=ZkN y1 m1 _ (Zah (badA (selY x) (selM x y)) x (by simp [badA]))
 obtain ⟨t1,tc⟩:=ZkM _ (Zah Zey y (by decide))
 obtain ⟨u1,uc⟩:=ZjA _ (Zah Zbh x (by decide))
 have ec:binop .Add (.str (selY x).1) (.str (selM x y).1) = .ok (.str ((selY x).1++(selM x y).1)):=catS (by lia)
 have el:binop .Add (.str ((selY x).1++(selM x y).1)) (.str (dd (100+(selM x y).2))) = .ok (.str (lateT (selY x) (selM x y))):=catS (by simp [ZjB];lia)
 have ea:binop .Add (.str ((selY x).1++(selM x y).1)) (.str (dd (101+(selM x y).2))) = .ok (.str (afterT (selY x) (selM x y))):=catS (by simp [ZjB];lia)
 have e01:binop .Add (.str ((selY x).1++(selM x y).1)) (.str [48,49]) = .ok (.str ((selY x).1++(selM x y).1 ++ [48,49])):=catS (by simp;lia)
 have e00:binop .Add (.str ((selY x).1++(selM x y).1)) (.str [48,48]) = .ok (.str ((selY x).1++(selM x y).1 ++ [48,48])):=catS (by simp;lia)
 have eb1:binop .Add (.str (selY x).1) (.str [48,48,48,49]) = .ok (.str ((selY x).1 ++ [48,48,48,49])):=catS (by simp;lia)
 have eb2:binop .Add (.str (selY x).1) (.str [49,51,48,49]) = .ok (.str ((selY x).1 ++ [49,51,48,49])):=catS (by simp;lia)
 have i3:index (.tuple [.str ((selY x).1++(selM x y).1 ++ [48,49]),.str (lateT (selY x) (selM x y)),.str (lateT (selY x) (selM x y))]) (.int (x % 3)) = .ok (.str (sel (goodA (selY x) (selM x y)) x)):=idx_s3 ..
 have i7:index (.tuple [.str ((selY x).1++(selM x y).1 ++ [48,48]),.str (afterT (selY x) (selM x y)),.str (afterT (selY x) (selM x y)),.str (afterT (selY x) (selM x y)),.str ((selY x).1 ++ [48,48,48,49]),.str ((selY x).1 ++ [49,51,48,49]),.str [58,48,48,48,48,49,48,49]]) (.int (x % 7)) = .ok (.str (sel (badA (selY x) (selM x y)) x)):=idx_s7 ..
 have et0:binop .Add (.str (sel (goodA (selY x) (selM x y)) x)) (.str (sel Zey y)) = .ok (.str (text0 x y)):=catS (by lia)
 have et1:binop .Add (.str (lateT (selY x) (selM x y))) (.str (sel Zbh x)) = .ok (.str (text1 x y)):=catS (by simp [lateT,ZjB];lia)
 have et2:binop .Add (.str (sel (badA (selY x) (selM x y)) x)) (.str [48,48,48,48,48,48,90]) = .ok (.str (text2 x y)):=catS (by simp;lia)
 have ss:=fun i=>str3 (i:=i)
 obtain ⟨⟨n0,k0⟩,⟨n1,k1⟩,⟨n2,k2⟩⟩:=ZgP x y
 have cg:=fun (s:List Nat) (hs:s.length≤30) s0 s1 s2 s3 s4 s5 s6 s7 s8 s9 s10 s11 s12=>Zkh (T:=T) (r:=r) 12 [s0,s1,s2,s3,s4,s5,s6,s7,s8,s9,s10,s11,s12] (fun d=>rfl) s [] (by simp;exact Nat.le_trans (by assumption) (by decide))
 have cg0:=cg _ n0
 have cg1:=cg _ n1
 have cg2:=cg _ n2
 simp only [List.nil_append] at cg0 cg1 cg2
 refine ⟨?_,?_,?_⟩
 ·rw [ZJ B.f32 rfl (by decide)]
  simp (disch:=first | decide | assumption | lia) only [Zex,X_k,Zp,ZB,Zx,Zbk,ZZ,P_bi,ZdD,Zi,Zc,Zr,ZdE,ZdF,Zu,ZD,Zz,Zeo,Zt,Za,Zae,ZaG,c_eq,Zh,Zv,Zd,Zap,ZdG,Zo,Zg,ZdH,ZA,Zad,ZW,Zj,Ze,Zf,Zk,Zl,Zb,okB_,Zq,zc6,zc7,zc8,zc9,zc16,zc17,ZH B.g8,ZH B.g9,Zhv,Zki,Zhw,ss,ZmQ,ec,el,ea,e01,i3,et0,itemsOf,cg0,ZgC k0]
 ·rw [ZJ B.f32 rfl (by decide)]
  simp (disch:=first | decide | assumption | lia) only [Zex,X_k,Zp,ZB,Zx,Zbk,ZZ,P_bi,ZdD,Zi,Zc,Zr,ZdE,ZdF,Zu,ZD,Zz,Zeo,Zt,Za,Zae,ZaG,c_eq,Zh,Zv,Zd,Zap,ZdG,Zo,Zg,ZdH,ZG,ZA,Zad,ZW,Zj,Ze,Zf,Zk,Zl,Zb,okB_,Zq,zc6,zc7,zc8,zc9,zc10,zc16,zc17,ZH B.g8,ZH B.g9,ZH B.g10,Zhv,Zki,Zhw,Zly,ss,ZmQ,ec,el,ea,e01,i3,et0,et1,itemsOf,cg1,ZgC k1]
 ·rw [ZJ B.f32 rfl (by decide)]
  simp (disch:=first | decide | assumption | lia) only [Zex,X_k,Zp,ZB,Zx,Zbk,ZZ,P_bi,ZdD,Zi,Zc,Zr,ZdE,ZdF,Zu,ZD,Zz,Zeo,Zt,Za,Zae,ZaG,c_eq,Zh,Zv,Zd,Zap,ZdG,Zo,Zg,ZdH,ZG,ZA,Zad,ZW,Zj,Ze,Zf,Zk,Zl,Zb,okB_,Zq,zc6,zc7,zc8,zc9,zc10,zc16,zc17,ZH B.g8,ZH B.g9,Zhv,Zki,Zhw,ss,ZmQ,ec,el,ea,e01,e00,eb1,eb2,i3,i7,et0,et2,itemsOf,cg2,ZgC k2]
end DK.Internal.B
end
section
set_option backward.match.sparseCases false
set_option genSizeOf false
set_option genCtorIdx false
namespace DK.Internal.B
open PySem
noncomputable def ofS (s:List Nat):List UInt8:=s.map UInt8.ofNat
theorem ZmS:(Zfa.all fun Y=>(monL Y.2).all fun M=>(goodA Y M).all fun A=>Zey.all fun t=>timeP (ofS (A++t)))=true:=by decide +kernel
theorem ZmT:(Zfa.all fun Y=>(monL Y.2).all fun M=>Zbh.all fun t=> !timeP (ofS (lateT Y M++t)))=true:=by decide +kernel
theorem ZmU:(Zfa.all fun Y=>(monL Y.2).all fun M=>(badA Y M).all fun A=> !timeP (ofS (A ++ [48,48,48,48,48,48,90])))=true:=by decide +kernel
theorem Zow (r:Nat):(Zaq.all fun a=>Zaq.all fun b=>tx T2L r sUtf8 true (ofS (a++b)))=true:=by kernel_rfl
theorem ZmV (r:Nat):(Zaq.all fun a=>Zax.all fun b=>([[],[65]]:List (List Nat)).all fun c=>tx T2L r sUtf8 false (ofS (a++b++c)))=true:=by kernel_rfl
theorem ZmW (r:Nat):(Zab.all fun a=>Zab.all fun b=>tx T2L r sPrint true (ofS (a++b)))=true:=by kernel_rfl
theorem Zlz (r:Nat):(([64,91,96,123,42,33,38,59,60,62,31,128]:List Nat).all fun c=>tx T2L r sPrint false (([90,122]++oneB c) ++ [48,57]))=true:=by kernel_rfl
theorem ZiM:∀a∈Zaq,a.length≤20∧∀c∈a,c < 256:=by decide
theorem ZmX:∀a∈Zax,a.length≤20∧∀c∈a,c < 256:=by decide
theorem ZjC:∀a∈Zab,a.length≤20∧∀c∈a,c < 256:=by decide
theorem Zox (x y:Int):timeP (ofS (text0 x y))=true:=by
 have:=ZmS
 simp only [List.all_eq_true] at this
 exact this _ (ZfY x) _ (ZfZ x y) _ (Zah _ _ (by simp [goodA])) _ (Zah _ _ (by decide))
theorem Zoy (x y:Int):timeP (ofS (text1 x y))=false:=by
 have:=ZmT
 simp only [List.all_eq_true] at this
 have h:=this _ (ZfY x) _ (ZfZ x y) _ (Zah Zbh x (by decide))
 rw [Bool.not_eq_true'] at h;exact h
theorem Zoz (x y:Int):timeP (ofS (text2 x y))=false:=by
 have:=ZmU
 simp only [List.all_eq_true] at this
 have h:=this _ (ZfY x) _ (ZfZ x y) _ (Zah _ x (by simp [badA]))
 rw [Bool.not_eq_true'] at h;exact h
end DK.Internal.B
end
section
set_option backward.match.sparseCases false
set_option genSizeOf false
set_option genCtorIdx false
namespace DK.Internal.B
open PySem
variable {T:Text} {r:Nat}
noncomputable def Ty2 (T:Text) (v:D):Prop:=∀r s0 s1 s2 s3 s4 s5 s6 s7 s8 s9 s10 s11 s13 s14,Y T r ZaO [s0,s1,s2,s3,s4,s5,s6,s7,s8,s9,s10,s11,.val v,s13,s14] = .ok (.next,[s0,s1,s2,s3,s4,s5,s6,s7,s8,s9,s10,s11,.val v,s13,s14])
theorem ZoA:isThing (.typ .tBool) (.typ .tBool) = .ok true:=rfl
theorem Zga:isThing (.typ .tInt) (.typ .tInt) = .ok true:=rfl
theorem ZjD:isThing (.typ .tBytes) (.typ .tBytes) = .ok true:=rfl
theorem typ_b (b):builtin .typ [.bool b] = .ok (.typ .tBool):=rfl
theorem ZmY (b):builtin .typ [.int b] = .ok (.typ .tInt):=rfl
theorem typ_y (b):builtin .typ [.bytes b] = .ok (.typ .tBytes):=rfl
theorem ZmZ:cmpop .In (.str sBool) (.tuple [.str sInt,.str sEnum,.str sBits,.str sTagged]) = .ok (.bool false):=rfl
theorem ZoB:cmpop .In (.str sInt) (.tuple [.str sInt,.str sEnum,.str sBits,.str sTagged]) = .ok (.bool true):=rfl
theorem Zna:cmpop .In (.str sBits) (.tuple [.str sInt,.str sEnum,.str sBits,.str sTagged]) = .ok (.bool true):=rfl
theorem ZlA:cmpop .In (.str sBytes) (.tuple [.str sInt,.str sEnum,.str sBits,.str sTagged]) = .ok (.bool false):=rfl
theorem Znb:cmpop .In (.str sNull) (.tuple [.str sInt,.str sEnum,.str sBits,.str sTagged]) = .ok (.bool false):=rfl
theorem ZoC:cmpop .In (.str sOid) (.tuple [.str sInt,.str sEnum,.str sBits,.str sTagged]) = .ok (.bool false):=rfl
theorem Znc:cmpop .In (.str sEnum) (.tuple [.str sInt,.str sEnum,.str sBits,.str sTagged]) = .ok (.bool true):=rfl
theorem Znd:cmpop .In (.str sUtf8) (.tuple [.str sInt,.str sEnum,.str sBits,.str sTagged]) = .ok (.bool false):=rfl
theorem ZlB:cmpop .In (.str sPrint) (.tuple [.str sInt,.str sEnum,.str sBits,.str sTagged]) = .ok (.bool false):=rfl
theorem Zne:cmpop .In (.str sTime) (.tuple [.str sInt,.str sEnum,.str sBits,.str sTagged]) = .ok (.bool false):=rfl
theorem ZoD:cmpop .In (.str sSeq) (.tuple [.str sInt,.str sEnum,.str sBits,.str sTagged]) = .ok (.bool false):=rfl
theorem ZoE:cmpop .In (.str sSet) (.tuple [.str sInt,.str sEnum,.str sBits,.str sTagged]) = .ok (.bool false):=rfl
theorem Zkj:cmpop .In (.str sTagged) (.tuple [.str sInt,.str sEnum,.str sBits,.str sTagged]) = .ok (.bool true):=rfl
theorem ty_all (s0 s1 s2 s3 s4 s5 s6 s7 s8 s9 s10 s11 s12 s13 s14 s15 s16:Slot):∀(as:List Nat) (acc:List D),acc.length+as.length≤1000→acc=List.replicate acc.length (.bool true) →
  CE T r (.one 16) .nil (.cmp .Is (.bi .typ (.cons (.var 16) .nil)) (.k (.typ .tInt))) (as.map nD) [s0,s1,s2,s3,s4,s5,s6,s7,s8,s9,s10,s11,s12,s13,s14,s15,s16] acc = .ok (List.replicate (acc.length+as.length) (.bool true)):=by
 intro as
 induction as with
 | nil=>intro acc h ha;rw [List.map_nil,ZiX,List.length_nil,Nat.add_zero,←ha]
 | cons a as ih=>
  intro acc h ha
  have hs:=ih (acc ++ [.bool true]) (by simp at h ⊢;lia) (by
   rw [List.length_append,List.length_singleton,List.replicate_succ',←ha])
  have hal:acc.length < 1000000:=by simp at h;lia
  rw [List.map_cons,ZjQ]
  rw [show acc.length+(a::as).length=(acc ++ [D.bool true]).length+as.length by simp;lia,←hs]
  simp (disch:=first | decide | assumption | lia) only [X_k,Zp,ZX,P_bi,Zi,Zc,ZgS,Zbs,Zd,ZgT,ZjR,Zj,Ze,Zf,Zk,Zl,Zb,okB_,nD,c_is,ZmY,Zga,ZhU]
theorem Zqc (n:Nat):builtin .all [.list (List.replicate n (.bool true))] = .ok (.bool true):=by
 have:∀n,boolsOf (List.replicate n (.bool true))=some (List.replicate n true):=by
  intro n
  induction n with
  | zero=>rfl
  | succ n ih=>show (match boolsOf (List.replicate n (.bool true)) with | some is=>some (true::is) | none=>none)=_;rw [ih];rfl
 rw [bi_all (this n)]
 congr 2
 simp
theorem ZkP (b:Bool):Ty2 T (.tuple [.str sBool,.bool b]):=by
 intro r s0 s1 s2 s3 s4 s5 s6 s7 s8 s9 s10 s11 s13 s14
 simp (disch:=first | decide | assumption | lia) only [ZaO,X_k,Zp,Zx,ZZ,P_bi,Zi,Zc,Zfi,Zaw,Zr,Zu,Zt,Za,c_eq,Zd,Zy,Zgz,ZdV,Zad,Zj,Zdp,Ze,Zf,Zb,okB_,Zq,ZQ,zc4,Zag,Zak,Zaz,Zeq,ZmZ,c_is,typ_b,ZoA]
theorem Zqd (n:Int):Ty2 T (.tuple [.str sInt,.int n]):=by
 intro r s0 s1 s2 s3 s4 s5 s6 s7 s8 s9 s10 s11 s13 s14
 simp (disch:=first | decide | assumption | lia) only [ZaO,X_k,Zp,Zx,ZZ,P_bi,Zi,Zc,Zfi,Zaw,Zr,Zu,Zt,Za,c_eq,Zd,Zy,Zgz,ZdV,Zad,Zj,Zdp,Ze,Zf,Zb,okB_,Zq,ZQ,zc4,Zag,Zak,Zce,ZgA,ZoB,c_is,ZmY,Zga]
theorem ZoF (n:Int):Ty2 T (.tuple [.str sEnum,.int n]):=by
 intro r s0 s1 s2 s3 s4 s5 s6 s7 s8 s9 s10 s11 s13 s14
 simp (disch:=first | decide | assumption | lia) only [ZaO,X_k,Zp,Zx,ZZ,P_bi,Zi,Zc,Zfi,Zaw,Zr,Zu,Zt,Za,c_eq,Zd,Zy,Zgz,ZdV,Zad,Zj,Zdp,Ze,Zf,Zb,okB_,Zq,ZQ,zc4,Zag,Zak,ZbI,ZfR,Znc,c_is,ZmY,Zga]
theorem ZoG (n:Int) (x:D):Ty2 T (.tuple [.str sBits,.int n,x]):=by
 intro r s0 s1 s2 s3 s4 s5 s6 s7 s8 s9 s10 s11 s13 s14
 simp (disch:=first | decide | assumption | lia) only [ZaO,X_k,Zp,Zx,ZZ,P_bi,Zi,Zc,Zfi,Zaw,Zr,Zu,Zt,Za,c_eq,Zd,Zy,Zgz,ZdV,Zad,Zj,Zdp,Ze,Zf,Zb,okB_,Zq,ZQ,zc4,Zgs,Zgt,Zal,Zer,Zna,c_is,ZmY,Zga]
theorem ZlC (n:Int) (x:D):Ty2 T (.tuple [.str sTagged,.int n,x]):=by
 intro r s0 s1 s2 s3 s4 s5 s6 s7 s8 s9 s10 s11 s13 s14
 simp (disch:=first | decide | assumption | lia) only [ZaO,X_k,Zp,Zx,ZZ,P_bi,Zi,Zc,Zfi,Zaw,Zr,Zu,Zt,Za,c_eq,Zd,Zy,Zgz,ZdV,Zad,Zj,Zdp,Ze,Zf,Zb,okB_,Zq,ZQ,zc4,Zgs,Zgt,ZeA,Zhc,Zkj,c_is,ZmY,Zga]
theorem ZoH:Ty2 T (.tuple [.str sNull]):=by
 intro r s0 s1 s2 s3 s4 s5 s6 s7 s8 s9 s10 s11 s13 s14
 simp (disch:=first | decide | assumption | lia) only [ZaO,X_k,Zp,Zx,ZZ,Zi,Zc,Zaw,Zr,Zu,Zt,Za,c_eq,Zd,Zy,ZdV,Zad,Zj,Ze,Zf,Zb,okB_,Zq,ZQ,ix1_0,ZbH,Zes,Znb]
theorem Znf (x:D):Ty2 T (.tuple [.str sBytes,x]):=by
 intro r s0 s1 s2 s3 s4 s5 s6 s7 s8 s9 s10 s11 s13 s14
 simp (disch:=first | decide | assumption | lia) only [ZaO,X_k,Zp,Zx,ZZ,Zi,Zc,Zaw,Zr,Zu,Zt,Za,c_eq,Zd,Zy,ZdV,Zad,Zj,Ze,Zf,Zb,okB_,Zq,ZQ,Zag,Zbm,ZbG,ZlA]
theorem ZoI (x:D):Ty2 T (.tuple [.str sUtf8,x]):=by
 intro r s0 s1 s2 s3 s4 s5 s6 s7 s8 s9 s10 s11 s13 s14
 simp (disch:=first | decide | assumption | lia) only [ZaO,X_k,Zp,Zx,ZZ,Zi,Zc,Zaw,Zr,Zu,Zt,Za,c_eq,Zd,Zy,ZdV,Zad,Zj,Ze,Zf,Zb,okB_,Zq,ZQ,Zag,ZbJ,Zcl,Znd]
theorem Zng (x:D):Ty2 T (.tuple [.str sPrint,x]):=by
 intro r s0 s1 s2 s3 s4 s5 s6 s7 s8 s9 s10 s11 s13 s14
 simp (disch:=first | decide | assumption | lia) only [ZaO,X_k,Zp,Zx,ZZ,Zi,Zc,Zaw,Zr,Zu,Zt,Za,c_eq,Zd,Zy,ZdV,Zad,Zj,Ze,Zf,Zb,okB_,Zq,ZQ,Zag,Zbn,ZbK,ZlB]
theorem ZoJ (x:D):Ty2 T (.tuple [.str sTime,x]):=by
 intro r s0 s1 s2 s3 s4 s5 s6 s7 s8 s9 s10 s11 s13 s14
 simp (disch:=first | decide | assumption | lia) only [ZaO,X_k,Zp,Zx,ZZ,Zi,Zc,Zaw,Zr,Zu,Zt,Za,c_eq,Zd,Zy,ZdV,Zad,Zj,Ze,Zf,Zb,okB_,Zq,ZQ,Zag,ZbL,Zcp,Zne]
theorem Znh (x:D):Ty2 T (.tuple [.str sSeq,x]):=by
 intro r s0 s1 s2 s3 s4 s5 s6 s7 s8 s9 s10 s11 s13 s14
 simp (disch:=first | decide | assumption | lia) only [ZaO,X_k,Zp,Zx,ZZ,Zi,Zc,Zaw,Zr,Zu,Zt,Za,c_eq,Zd,Zy,ZdV,Zad,Zj,Ze,Zf,Zb,okB_,Zq,ZQ,Zag,Zby,ZbZ,ZoD]
theorem Zqe (x:D):Ty2 T (.tuple [.str sSet,x]):=by
 intro r s0 s1 s2 s3 s4 s5 s6 s7 s8 s9 s10 s11 s13 s14
 simp (disch:=first | decide | assumption | lia) only [ZaO,X_k,Zp,Zx,ZZ,Zi,Zc,Zaw,Zr,Zu,Zt,Za,c_eq,Zd,Zy,ZdV,Zad,Zj,Ze,Zf,Zb,okB_,Zq,ZQ,Zag,ZaU,Zbo,ZoE]
theorem Zqf (as:List Nat) (h:as.length≤900):Ty2 T (.tuple [.str sOid,.list (as.map nD)]):=by
 intro r s0 s1 s2 s3 s4 s5 s6 s7 s8 s9 s10 s11 s13 s14
 have hc:=fun s12 s15 s16=>ty_all (T:=T) (r:=r) s0 s1 s2 s3 s4 s5 s6 s7 s8 s9 s10 s11 s12 s13 s14 s15 s16 as [] (by simp;exact Nat.le_trans (by assumption) (by decide)) rfl
 generalize as.map nD=L at *
 simp (disch:=first | decide | assumption | lia) only [ZaO,X_k,Zp,Zx,ZZ,ZdD,Zi,Zc,Zfi,Zaw,Zr,R_bi,ZdE,ZdF,Zu,Zt,Za,ZN,c_eq,Zd,ZdG,Zy,Zgz,ZdV,Zad,ZW,Zj,Zdp,Ze,Zf,Zb,okB_,Zq,ZQ,zc4,zc8,zc9,zc16,zc17,Zag,Zak,Zbx,ZbY,ZoC,itemsOf,hc,Zqc]
end DK.Internal.B
end
section
set_option backward.match.sparseCases false
set_option genSizeOf false
set_option genCtorIdx false
namespace DK.Internal.B
open PySem
variable {T:Text} {r:Nat}
noncomputable def lawTags:D:= .dict [(.str sBool),(.str sInt),(.str sBits),(.str sBytes),(.str sNull),(.str sOid),(.str sEnum),(.str sUtf8),(.str sPrint),(.str sTime)] [(.int 1),(.int 2),(.int 3),(.int 4),(.int 5),(.int 6),(.int 10),(.int 12),(.int 19),(.int 24)]
theorem Zdr (B:Law2 T):CL T (r+1) 28 [] = .ok lawTags:=by
 rw [ZJ B.f28 rfl (by decide)]
 simp only [ZhF,X_k,ZD,Zh,Zo,Zb,Zq,zc7,zc9,zc15,zc17]
 rfl
theorem ZkQ:index lawTags (.str sBool) = .ok (.int ((1:Nat):Int)):=rfl
theorem Zqg:index lawTags (.str sInt) = .ok (.int ((2:Nat):Int)):=rfl
theorem ZkR:index lawTags (.str sBits) = .ok (.int ((3:Nat):Int)):=rfl
theorem Zni:index lawTags (.str sBytes) = .ok (.int ((4:Nat):Int)):=rfl
theorem ZoK:index lawTags (.str sNull) = .ok (.int ((5:Nat):Int)):=rfl
theorem Zqh:index lawTags (.str sOid) = .ok (.int ((6:Nat):Int)):=rfl
theorem ZoL:index lawTags (.str sEnum) = .ok (.int ((10:Nat):Int)):=rfl
theorem ZkS:index lawTags (.str sUtf8) = .ok (.int ((12:Nat):Int)):=rfl
theorem ZjE:index lawTags (.str sPrint) = .ok (.int ((19:Nat):Int)):=rfl
theorem ZiN:index lawTags (.str sTime) = .ok (.int ((24:Nat):Int)):=rfl
theorem lk_0:index gKinds (.int 0) = .ok (.str sBool):=rfl
theorem lk_1:index gKinds (.int 1) = .ok (.str sInt):=rfl
theorem lk_2:index gKinds (.int 2) = .ok (.str sBits):=rfl
theorem lk_3:index gKinds (.int 3) = .ok (.str sBytes):=rfl
theorem lk_4:index gKinds (.int 4) = .ok (.str sNull):=rfl
theorem lk_5:index gKinds (.int 5) = .ok (.str sOid):=rfl
theorem lk_6:index gKinds (.int 6) = .ok (.str sEnum):=rfl
noncomputable def lensL:List Int:= [0,1,2,127,128,255,256,300]
noncomputable def bodyB (x y:Int):List UInt8:=List.replicate (sel lensL y).toNat (lowB x)
theorem Znj:∀a∈lensL,0≤a∧a≤300:=by decide
theorem ZbU (y:Int):index (.tuple [.int 0,.int 1,.int 2,.int 127,.int 128,.int 255,.int 256,.int 300]) (.int (y % 8)) = .ok (.int (sel lensL y)):=Zbi lensL .int y 8 rfl (by decide)
theorem ZaI (x:Int):builtin .bytes [.list [.int (x % 256)]] = .ok (.bytes [lowB x]):=by
 rw [←Zhu];exact Zfc [lowB x]
theorem ZbV (x y:Int):binop .Mult (.bytes [lowB x]) (.int (sel lensL y)) = .ok (.bytes (bodyB x y)):=by
 obtain ⟨h1,h2⟩:=Znj _ (Zah lensL y (by decide))
 refine (if_pos ⟨h1,by exact Int.le_trans (by assumption) (by decide),by simp,by simp⟩).trans ?_
 unfold bodyB
 congr 2
 generalize (sel lensL y).toNat=n
 induction n with
 | zero=>rfl
 | succ n ih=>simp [List.replicate_succ,ih]
theorem ZoM (x y:Int):(bodyB x y).length≤300:=by
 obtain ⟨h1,h2⟩:=Znj _ (Zah lensL y (by decide))
 simp [bodyB];assumption
noncomputable def leafD (d:D) (b:List UInt8):D:= .tuple [d,.bytes b,.int 0,.list [.tuple [.list [],d]]]
theorem cgL (s:List Nat) (hs:s.length≤60) (s0 s1 s2 s3 s4 s5 s6 s7 s8 s9 s10:Slot):CE T r (.one 10) .nil (.bi .ord (.cons (.var 10) .nil)) (s.map fun c=> .str [c]) [s0,s1,s2,s3,s4,s5,s6,s7,s8,s9,s10] [] = .ok (s.map nD):=by
 rw [Zkh 10 _ (fun d=>rfl) s [] (by simp;exact Nat.le_trans (by assumption) (by decide))];rfl
noncomputable def Leaf (T:Text) (k x y:Int):Prop:=∃d b,(∀r,CL T (r+3) 33 [.int k,.int x,.int y] = .ok (leafD d b))∧Good T (Ty2 T) d b 0 [([],d)]∧b.length≤500
theorem ZlD (B:Law2 T) (k x y:Int) (hk:k % 12=3):Leaf T k x y:=by
 have hl:=ZoM x y
 refine ⟨.tuple [.str sBytes,.bytes (bodyB x y)],tlv (oneB 4) (bodyB x y),?_,?_,by rw [ZU,ZC];have:=ZaW (bodyB x y).length;lia⟩
 ·intro r
  rw [ZJ B.f33 rfl (by decide)]
  have ht:=ZeF B (r:=r+1) (oneB 4) (bodyB x y) (by rw [ZC];exact Nat.succ_pos _) (by exact Nat.lt_of_le_of_lt (by assumption) (by decide))
  simp (disch:=first | decide | assumption | lia) only [Zao,X_k,Zp,ZB,Zx,ZZ,Zac,P_bi,Zs,Zi,Zc,R_or,Zr,Zu,ZD,Zz,Zt,Za,ZaG,c_eq,Zh,Zd,Zo,Zg,Zy,Zai,Zad,ZW,Zj,Ze,Zf,Zk,Zl,Zb,okB_,Zq,zc6,zc7,zc8,zc9,zc16,zc17,hk,ZH B.g4,lk_3,ZaI,ZbU,ZbV,Zbm,ZcF,Zcf,Zcg,ZbG,Zch,ZeL,Zez,ZeM,Zdr B,Zni,Zaf,ht]
  rfl
 ·exact Zbt B.toBase (by decide) (by decide) (by exact Nat.lt_of_le_of_lt (by assumption) (by decide)) (fun r=>ZmC B.toBase _ (by exact Nat.lt_of_le_of_lt (by assumption) (by decide))) (fun r pre suf dep=>ZmF B.toBase _ pre suf dep (by exact Nat.lt_of_le_of_lt (by assumption) (by decide))) (ZmM B.toBase _) (fun n=>ZfW _ _ (mem2 (ZcD _ _) (ZmO _ _))) (Znf _)
theorem Znk (B:Law2 T) (k x y:Int) (hk:k % 12=4):Leaf T k x y:=by
 refine ⟨.tuple [.str sNull],tlv (oneB 5) [],?_,?_,by decide⟩
 ·intro r
  rw [ZJ B.f33 rfl (by decide)]
  have ht:=ZeF B (r:=r+1) (oneB 5) [] (by rw [ZC];exact Nat.succ_pos _) (by decide)
  simp (disch:=first | decide | assumption | lia) only [Zao,X_k,Zp,ZB,Zx,ZZ,Zac,P_bi,Zs,Zi,Zc,R_or,Zr,Zu,ZD,Zz,Zeo,Zt,Za,ZaG,c_eq,Zh,Zd,Zo,Zg,ZdH,ZG,Zy,Zai,Zad,ZW,Zj,Ze,Zf,Zk,Zl,Zb,okB_,Zq,zc6,zc7,zc8,zc9,zc16,zc17,hk,ZH B.g4,lk_4,ZaI,ZbU,ZbV,ZbH,Zds,ZcI,ZcJ,Zes,ZcK,ZhK,ZgX,ZhL,Zdr B,ZoK,Zaf,ht]
  rfl
 ·exact Zbt B.toBase (by decide) (by decide) (by decide) (fun r=>ZkC B.toBase) (fun r pre suf dep=>ZkG B.toBase pre suf dep (by decide)) (Zos B.toBase) (fun n=>ZfW _ _ (by intro d hd;simp only [List.mem_singleton] at hd;subst hd;exact ZcD _ _)) ZoH
theorem idx_b2 (a b:D) (x:Int) (h:x % 2=0):index (.tuple [a,b]) (.int (x % 2)) = .ok a:=by rw [h];rfl
theorem Zqi (a b:D) (x:Int) (h:x % 2=1):index (.tuple [a,b]) (.int (x % 2)) = .ok b:=by rw [h];rfl
theorem Znl (B:Law2 T) (k x y:Int) (hk:k % 12=0):Leaf T k x y:=by
 by_cases hx:x % 2=0
 ·refine ⟨.tuple [.str sBool,.bool true],tlv (oneB 1) [255],?_,?_,by decide⟩
  ·intro r
   rw [ZJ B.f33 rfl (by decide)]
   have ht:=ZeF B (r:=r+1) (oneB 1) [255] (by rw [ZC];exact Nat.succ_pos _) (by decide)
   simp (disch:=first | decide | assumption | lia) only [Zao,X_k,Zp,ZB,Zx,ZZ,Zac,P_bi,Zs,Zi,Zc,R_or,Zr,Zu,ZD,Zz,Zeo,Zt,Za,ZaG,c_eq,Zh,Zd,Zo,Zg,ZdH,ZG,Zy,Zai,Zad,ZW,Zj,Ze,Zf,Zk,Zl,Zb,okB_,Zq,zc6,zc7,zc8,zc9,zc16,zc17,hk,ZH B.g4,lk_0,ZaI,ZbU,ZbV,Zaz,ZfO,Zfj,Zfk,Zeq,Zfl,Zfm,ZeJ,Zfn,Zdr B,ZkQ,Zaf,ht,idx_b2 _ _ x hx]
   rfl
  ·exact Zbt B.toBase (by decide) (by decide) (by decide) (fun r=>ZkB B.toBase true) (fun r pre suf dep=>Zok B.toBase pre suf dep (by decide)) (ZkI B.toBase _) (fun n=>ZfW _ _ (mem2 (ZcD _ _) (ZkJ _ _))) (ZkP _)
 ·have hx:x % 2=1:=by lia
  refine ⟨.tuple [.str sBool,.bool false],tlv (oneB 1) [0],?_,?_,by decide⟩
  ·intro r
   rw [ZJ B.f33 rfl (by decide)]
   have ht:=ZeF B (r:=r+1) (oneB 1) [0] (by rw [ZC];exact Nat.succ_pos _) (by decide)
   simp (disch:=first | decide | assumption | lia) only [Zao,X_k,Zp,ZB,Zx,ZZ,Zac,P_bi,Zs,Zi,Zc,R_or,Zr,Zu,ZD,Zz,Zeo,Zt,Za,ZaG,c_eq,Zh,Zd,Zo,Zg,ZdH,ZG,Zy,Zai,Zad,ZW,Zj,Ze,Zf,Zk,Zl,Zb,okB_,Zq,zc6,zc7,zc8,zc9,zc16,zc17,hk,ZH B.g4,lk_0,ZaI,ZbU,ZbV,Zaz,ZfO,Zfj,Zfk,Zeq,Zfl,Zfm,ZeJ,Zfn,Zdr B,ZkQ,Zaf,ht,Zqi _ _ x hx]
   rfl
  ·exact Zbt B.toBase (by decide) (by decide) (by decide) (fun r=>ZkB B.toBase false) (fun r pre suf dep=>ZmE B.toBase pre suf dep (by decide)) (ZkI B.toBase _) (fun n=>ZfW _ _ (mem2 (ZcD _ _) (ZkJ _ _))) (ZkP _)
theorem ZkT (y:Int):index gUtf8 (.int (y % 10)) = .ok (.str (sel Zaq y)):=Zbi Zaq .str y 10 rfl (by decide)
theorem Znm (y:Int):index gPrinted (.int (y % 5)) = .ok (.str (sel Zab y)):=Zbi Zab .str y 5 rfl (by decide)
theorem ZjF (k x y:Int) (hk:index gKinds (.int (k % 12)) = .ok (.str sUtf8)):Leaf T2L k x y:=by
 have B:=ZiL
 have ma:=Zah Zaq x (by decide)
 have mb:=Zah Zaq y (by decide)
 obtain ⟨la,ca⟩:=ZiM _ ma
 obtain ⟨lb,cb⟩:=ZiM _ mb
 have hok:=fun r=>Zow r
 simp only [List.all_eq_true] at hok
 have hok:=fun r=>tx_ok (hok r _ ma _ mb)
 have hcat:binop .Add (.str (sel Zaq x)) (.str (sel Zaq y)) = .ok (.str (sel Zaq x++sel Zaq y)):=catS (by lia)
 have hby:=ZgC (l:=sel Zaq x++sel Zaq y) (by intro c hc;rcases List.mem_append.mp hc with h | h;exact ca c h;exact cb c h)
 rw [show (sel Zaq x++sel Zaq y).map UInt8.ofNat=ofS (sel Zaq x++sel Zaq y) from rfl] at hby
 have hl:(ofS (sel Zaq x++sel Zaq y)).length≤40:=by simp [ofS];lia
 have hl2:(sel Zaq x++sel Zaq y).length≤60:=by simp;lia
 generalize sel Zaq x++sel Zaq y=S at *
 generalize hB:ofS S=b at *
 refine ⟨.tuple [.str sUtf8,.bytes b],tlv (oneB 12) b,?_,?_,by rw [ZU,ZC];have:=ZaW b.length;lia⟩
 ·intro r
  rw [ZJ B.f33 rfl (by decide)]
  have ht:=ZeF B (r:=r+1) (oneB 12) b (by rw [ZC];exact Nat.succ_pos _) (by exact Nat.lt_of_le_of_lt (by assumption) (by decide))
  simp (disch:=first | decide | assumption | lia) only [Zao,X_k,Zp,ZB,Zx,ZZ,Zac,P_bi,ZdD,Zs,Zi,Zc,R_or,Zr,ZdE,ZdF,Zu,ZD,Zz,Zt,Za,ZaG,c_eq,Zh,Zd,ZdG,Zo,Zg,ZG,Zy,Zai,Zad,ZW,Zj,Ze,Zf,Zk,Zl,Zb,okB_,Zq,zc6,zc7,zc8,zc9,zc16,zc17,hk,ZH B.g4,ZH B.g6,ZaI,ZbU,ZbV,ZbJ,Zdv,ZcM,ZcN,Zcl,ZcO,Zfr,ZgZ,Zfs,Zdr B,ZkS,Zaf,ht,ZkT,hcat,itemsOf,cgL S hl2,hby]
  rfl
 ·exact Zbt B.toBase (by decide) (by decide) (by exact Nat.lt_of_le_of_lt (by assumption) (by decide)) (fun r=>ZkD B.toBase b (hok (r+15)) (by exact Nat.lt_of_le_of_lt (by assumption) (by decide))) (fun r pre suf dep=>ZkF B.toBase b pre suf dep (by exact Nat.lt_of_le_of_lt (by assumption) (by decide))) (Zoq B.toBase _) (fun n=>ZfW _ _ (mem2 (ZcD _ _) (ZmO _ _))) (ZoI _)
theorem ZlE (k x y:Int) (hk:index gKinds (.int (k % 12)) = .ok (.str sPrint)):Leaf T2L k x y:=by
 have B:=ZiL
 have ma:=Zah Zab x (by decide)
 have mb:=Zah Zab y (by decide)
 obtain ⟨la,ca⟩:=ZjC _ ma
 obtain ⟨lb,cb⟩:=ZjC _ mb
 have hok:=fun r=>ZmW r
 simp only [List.all_eq_true] at hok
 have hok:=fun r=>tx_ok (hok r _ ma _ mb)
 have hcat:binop .Add (.str (sel Zab x)) (.str (sel Zab y)) = .ok (.str (sel Zab x++sel Zab y)):=catS (by lia)
 have hby:=ZgC (l:=sel Zab x++sel Zab y) (by intro c hc;rcases List.mem_append.mp hc with h | h;exact ca c h;exact cb c h)
 rw [show (sel Zab x++sel Zab y).map UInt8.ofNat=ofS (sel Zab x++sel Zab y) from rfl] at hby
 have hl:(ofS (sel Zab x++sel Zab y)).length≤40:=by simp [ofS];lia
 have hl2:(sel Zab x++sel Zab y).length≤60:=by simp;lia
 generalize sel Zab x++sel Zab y=S at *
 generalize hB:ofS S=b at *
 refine ⟨.tuple [.str sPrint,.bytes b],tlv (oneB 19) b,?_,?_,by rw [ZU,ZC];have:=ZaW b.length;lia⟩
 ·intro r
  rw [ZJ B.f33 rfl (by decide)]
  have ht:=ZeF B (r:=r+1) (oneB 19) b (by rw [ZC];exact Nat.succ_pos _) (by exact Nat.lt_of_le_of_lt (by assumption) (by decide))
  simp (disch:=first | decide | assumption | lia) only [Zao,X_k,Zp,ZB,Zx,ZZ,Zac,P_bi,ZdD,Zs,Zi,Zc,R_or,Zr,ZdE,ZdF,Zu,ZD,Zz,Zt,Za,ZaG,c_eq,Zh,Zd,ZdG,Zo,Zg,ZG,Zy,Zai,Zad,ZW,Zj,Ze,Zf,Zk,Zl,Zb,okB_,Zq,zc6,zc7,zc8,zc9,zc16,zc17,hk,ZH B.g4,ZH B.g5,ZaI,ZbU,ZbV,Zbn,ZcP,Zcm,Zcn,ZbK,Zco,ZeN,ZgG,ZeO,Zdr B,ZjE,Zaf,ht,Znm,hcat,itemsOf,cgL S hl2,hby]
  rfl
 ·exact Zbt B.toBase (by decide) (by decide) (by exact Nat.lt_of_le_of_lt (by assumption) (by decide)) (fun r=>Zju B.toBase b (hok (r+15)) (by exact Nat.lt_of_le_of_lt (by assumption) (by decide))) (fun r pre suf dep=>Zjy B.toBase b pre suf dep (by exact Nat.lt_of_le_of_lt (by assumption) (by decide))) (ZmN B.toBase _) (fun n=>ZfW _ _ (mem2 (ZcD _ _) (ZmO _ _))) (Zng _)
theorem ZjG (k x y:Int) (hk:index gKinds (.int (k % 12)) = .ok (.str sTime)):Leaf T2L k x y:=by
 have B:=ZiL
 have hok:=Zox x y
 obtain ⟨⟨l0,_⟩,_⟩:=ZgP x y
 have hl:(ofS (text0 x y)).length≤40:=by simp [ofS];exact Nat.le_trans (by assumption) (by decide)
 have hT:=fun r=>(ZmR B (r:=r) x y).1
 rw [show (text0 x y).map UInt8.ofNat=ofS (text0 x y) from rfl] at hT
 generalize ofS (text0 x y)=b at *
 refine ⟨.tuple [.str sTime,.bytes b],tlv (oneB 24) b,?_,?_,by rw [ZU,ZC];have:=ZaW b.length;lia⟩
 ·intro r
  rw [ZJ B.f33 rfl (by decide)]
  have ht:=ZeF B (r:=r+1) (oneB 24) b (by rw [ZC];exact Nat.succ_pos _) (by exact Nat.lt_of_le_of_lt (by assumption) (by decide))
  simp (disch:=first | decide | assumption | lia) only [Zao,X_k,Zp,ZB,Zx,ZZ,Zac,P_bi,Zs,Zi,Zc,R_or,Zr,Zu,ZD,Zz,Zt,Za,ZaG,c_eq,Zh,Zd,Zo,Zg,ZG,Zy,Zai,Zad,ZW,Zj,Ze,Zf,Zk,Zl,Zb,okB_,Zq,zc6,zc7,zc8,zc9,zc16,zc17,hk,ZH B.g4,ZaI,ZbU,ZbV,ZbL,Zdy,ZcS,ZcT,Zcp,ZcU,ZcV,ZeP,ZcW,Zdr B,ZiN,Zaf,ht,hT]
  rfl
 ·exact Zbt B.toBase (by decide) (by decide) (by exact Nat.lt_of_le_of_lt (by assumption) (by decide)) (fun r=>(ZiE B.toBase b (ZfF B.toBase b) (by exact Nat.lt_of_le_of_lt (by assumption) (by decide))).trans (if_pos hok)) (fun r pre suf dep=>ZiH B.toBase b pre suf dep (by exact Nat.lt_of_le_of_lt (by assumption) (by decide))) (Zor B.toBase _) (fun n=>ZfW _ _ (mem2 (ZcD _ _) (ZmO _ _))) (ZoJ _)
end DK.Internal.B
end
section
set_option backward.match.sparseCases false
set_option genSizeOf false
set_option genCtorIdx false
namespace DK.Internal.B
open PySem
variable {T:Text} {r:Nat}
noncomputable def szL:List Int:= [1,2,3,4,8,33,66]
theorem sz_ok:∀a∈szL,1≤a∧a≤66:=by decide
theorem Zpf (y:Int):index (.tuple [.int 1,.int 2,.int 3,.int 4,.int 8,.int 33,.int 66]) (.int (y % 7)) = .ok (.int (sel szL y)):=Zbi szL .int y 7 rfl (by decide)
theorem Zpg (a b c d y:Int):index (.tuple [.int a,.int b,.int c,.int d]) (.int (y % 4)) = .ok (.int (sel [a,b,c,d] y)):=Zbi [a,b,c,d] .int y 4 rfl (by simp)
noncomputable def p272:Int:=1*2 ^ (272:Int).toNat
noncomputable def edgeV (x y:Int):Int:=(1*2 ^ (8*sel szL y - 1).toNat+x % 5) - 2
noncomputable def intV (x y:Int):Int:=sel [x % p272,x % 601 - 300,edgeV x y, -edgeV x y] y
theorem ZiO:0 < p272:=by unfold p272;rw [Int.one_mul];exact Int.pow_pos (by decide)
theorem Znn (a b:Nat) (h:a≤b):(2:Int) ^ a≤2 ^ b:=by
 have h2:((2 ^ a:Nat):Int)≤((2 ^ b:Nat):Int):=Int.ofNat_le.mpr (Nat.pow_le_pow_right (by decide) h)
 rw [Int.natCast_pow,Int.natCast_pow] at h2
 exact h2
theorem ZkU (x y:Int):(intB (intV x y)).length≤67:=by
 have hf:fits 66 (intV x y):=by
  have hm:=Zah [x % p272,x % 601 - 300,edgeV x y, -edgeV x y] y (by simp)
  rw [show sel [x % p272,x % 601 - 300,edgeV x y, -edgeV x y] y=intV x y from rfl] at hm
  obtain ⟨s1,s2⟩:=sz_ok _ (Zah szL y (by decide))
  have h1:p272≤2 ^ 527:=by
   unfold p272;rw [Int.one_mul,show (272:Int).toNat=272 from rfl]
   exact Znn _ _ (by decide)
  have h2:(2:Int) ^ (8*sel szL y - 1).toNat≤2 ^ 527:=Znn _ _ (by lia)
  have h3:(0:Int) < 2 ^ (8*sel szL y - 1).toNat:=Int.pow_pos (by decide)
  have h4:(1024:Int)≤2 ^ 527:=by
   rw [show (1024:Int)=2 ^ 10 from rfl];exact Znn _ _ (by decide)
  have h5:(128*256 ^ 66:Int)=256*2 ^ 527:=by
   rw [show (256:Int) ^ 66=(2 ^ 8) ^ 66 by rfl,←Int.pow_mul,show 8*66=527+1 by rfl,Int.pow_succ];lia
  have hp:=ZiO
  have h6:=Int.emod_nonneg x (by decide:p272≠0)
  have h7:=Int.emod_lt_of_pos x hp
  unfold fits
  rw [h5]
  simp only [List.mem_cons,List.not_mem_nil,or_false,edgeV] at hm
  generalize (2:Int) ^ 527=R at *
  generalize (2:Int) ^ (8*sel szL y - 1).toNat=P at *
  generalize x % p272=X at *
  generalize intV x y=v at *
  rcases hm with rfl | rfl | rfl | rfl<;>lia
 exact (ZiC 66 _).mp hf
theorem ZoN (B:Law2 T) (k x y:Int) (hk:k % 12=1):Leaf T k x y:=by
 have hl:=ZkU x y
 obtain ⟨s1,s2⟩:=sz_ok _ (Zah szL y (by decide))
 have hone:(1:Int).natAbs < BIG:=ZeB (k:=1) (by decide) (by decide)
 refine ⟨.tuple [.str sInt,.int (intV x y)],tlv (oneB 2) (intB (intV x y)),?_,?_,by rw [ZU,ZC];have:=ZaW (intB (intV x y)).length;lia⟩
 ·intro r
  rw [ZJ B.f33 rfl (by decide)]
  have ht:=ZeF B (r:=r+1) (oneB 2) (intB (intV x y)) (by rw [ZC];exact Nat.succ_pos _) (by exact Nat.lt_of_le_of_lt (by assumption) (by decide))
  have hi:=c2int B (r:=r+1) (intV x y) (by exact Nat.le_trans (by assumption) (by decide))
  have h2:binop .LShift (.int 1) (.int 272) = .ok (.int p272):=ZeE (by decide) (by decide) hone
  have h3:binop .LShift (.int 1) (.int (8*sel szL y - 1)) = .ok (.int (1*2 ^ (8*sel szL y - 1).toNat)):=ZeE (by lia) (by lia) hone
  have h4:=ZaG (a:=x) ZiO
  have h5:=Zpg (x % p272) (x % 601 - 300) (edgeV x y) (-edgeV x y) y
  rw [show sel [x % p272,x % 601 - 300,edgeV x y, -edgeV x y] y=intV x y from rfl] at h5
  have h6:(1*2 ^ (8*sel szL y - 1).toNat+x % 5) - 2=edgeV x y:=rfl
  generalize edgeV x y=E at *
  generalize intV x y=V at *
  generalize (1*2 ^ (8*sel szL y - 1).toNat:Int)=P at *
  generalize p272=PP at *
  simp (disch:=first | decide | assumption | lia) only [Zao,X_k,Zp,ZB,ZhG,Zx,ZZ,Zac,P_bi,Zs,Zi,Zc,R_or,Zr,Zu,ZD,Zz,Zt,ZcX,Za,Zae,ZaC,ZaG,c_eq,Zh,Zd,Zo,Zg,ZG,Zy,ZgW,Zad,ZW,Zj,Ze,Zf,Zk,Zl,Zb,okB_,Zq,zc6,zc7,zc8,zc9,zc16,zc17,Zak,hk,ZH B.g4,lk_1,ZaI,ZbU,ZbV,Zce,ZdW,Zin,Zio,ZgA,Zip,ZhJ,Ziq,Zdr B,Zqg,Zaf,ht,Zpf,ZeR,h2,h3,h4,h6,h5,hi]
  rfl
 ·exact Zbt B.toBase (by decide) (by decide) (by exact Nat.lt_of_le_of_lt (by assumption) (by decide)) (fun r=>ZpJ B.toBase _ (by exact Nat.le_trans (by assumption) (by decide))) (fun r pre suf dep=>ZpQ B.toBase _ pre suf dep (by exact Nat.lt_of_le_of_lt (by assumption) (by decide)) (by exact Nat.le_trans (by assumption) (by decide))) (ZpW B.toBase _) (fun n=>ZfW _ _ (mem2 (ZcD _ _) (Zlv _ _))) (Zqd _)
theorem Zno (B:Law2 T) (k x y:Int) (hk:k % 12=6):Leaf T k x y:=by
 have hl:=ZkU x y
 obtain ⟨s1,s2⟩:=sz_ok _ (Zah szL y (by decide))
 have hone:(1:Int).natAbs < BIG:=ZeB (k:=1) (by decide) (by decide)
 refine ⟨.tuple [.str sEnum,.int (intV x y)],tlv (oneB 10) (intB (intV x y)),?_,?_,by rw [ZU,ZC];have:=ZaW (intB (intV x y)).length;lia⟩
 ·intro r
  rw [ZJ B.f33 rfl (by decide)]
  have ht:=ZeF B (r:=r+1) (oneB 10) (intB (intV x y)) (by rw [ZC];exact Nat.succ_pos _) (by exact Nat.lt_of_le_of_lt (by assumption) (by decide))
  have hi:=c2int B (r:=r+1) (intV x y) (by exact Nat.le_trans (by assumption) (by decide))
  have h2:binop .LShift (.int 1) (.int 272) = .ok (.int p272):=ZeE (by decide) (by decide) hone
  have h3:binop .LShift (.int 1) (.int (8*sel szL y - 1)) = .ok (.int (1*2 ^ (8*sel szL y - 1).toNat)):=ZeE (by lia) (by lia) hone
  have h4:=ZaG (a:=x) ZiO
  have h5:=Zpg (x % p272) (x % 601 - 300) (edgeV x y) (-edgeV x y) y
  rw [show sel [x % p272,x % 601 - 300,edgeV x y, -edgeV x y] y=intV x y from rfl] at h5
  have h6:(1*2 ^ (8*sel szL y - 1).toNat+x % 5) - 2=edgeV x y:=rfl
  generalize edgeV x y=E at *
  generalize intV x y=V at *
  generalize (1*2 ^ (8*sel szL y - 1).toNat:Int)=P at *
  generalize p272=PP at *
  simp (disch:=first | decide | assumption | lia) only [Zao,X_k,Zp,ZB,ZhG,Zx,ZZ,Zac,P_bi,Zs,Zi,Zc,R_or,Zr,Zu,ZD,Zz,Zt,ZcX,Za,Zae,ZaC,ZaG,c_eq,Zh,Zd,Zo,Zg,ZG,Zy,Zai,Zad,ZW,Zj,Ze,Zf,Zk,Zl,Zb,okB_,Zq,zc6,zc7,zc8,zc9,zc16,zc17,Zak,hk,ZH B.g4,lk_6,ZaI,ZbU,ZbV,ZbI,Zdu,ZhN,ZhO,ZfR,ZcL,ZhP,ZgY,ZhQ,Zdr B,ZoL,Zaf,ht,Zpf,ZeR,h2,h3,h4,h6,h5,hi]
  rfl
 ·exact Zbt B.toBase (by decide) (by decide) (by exact Nat.lt_of_le_of_lt (by assumption) (by decide)) (fun r=>Zof B.toBase _ (by exact Nat.le_trans (by assumption) (by decide))) (fun r pre suf dep=>Zol B.toBase _ pre suf dep (by exact Nat.lt_of_le_of_lt (by assumption) (by decide)) (by exact Nat.le_trans (by assumption) (by decide))) (Zop B.toBase _) (fun n=>ZfW _ _ (mem2 (ZcD _ _) (Zlv _ _))) (ZoF _)
theorem ZoO (m u:Nat) (h:u < 8):m*2 ^ u % 256 % 2 ^ u=0:=by
 have:u=0∨u=1∨u=2∨u=3∨u=4∨u=5∨u=6∨u=7:=by lia
 rcases this with rfl | rfl | rfl | rfl | rfl | rfl | rfl | rfl<;>simp only [Nat.reducePow]<;>lia
theorem Znp (B:Law2 T) (k x y:Int) (hk:k % 12=2):Leaf T k x y:=by
 obtain ⟨u,hu⟩:∃u:Nat,x % 8=(u:Nat):=⟨(x % 8).toNat,by lia⟩
 have hu8:u < 8:=by lia
 have gen:∀(v:Nat) (b:List UInt8),v < 8→b.length≤2→bitsP v b=true→Good T (Ty2 T) (.tuple [.str sBits,.int (v:Nat),.bytes b]) (tlv (oneB 3) (oneB v++b)) 0 [([],.tuple [.str sBits,.int (v:Nat),.bytes b])]:=by
  intro v b hv hb hp
  have hl:(oneB v++b).length < 65536:=by simp [oneB];lia
  exact Zbt B.toBase (by decide) (by decide) hl (fun r=>by rw [Zog B.toBase v b (by exact Nat.lt_of_lt_of_le (by assumption) (by decide)) (by exact Nat.lt_of_le_of_lt (by assumption) (by decide)),if_pos hp]) (fun r pre suf dep=>Zom B.toBase v b (by exact Nat.lt_of_lt_of_le (by assumption) (by decide)) pre suf dep hl) (Zot B.toBase _ _) (fun n=>ZfW _ _ (mem3 (ZcD _ _) (Zlv _ _) (ZmO _ _))) (ZoG _ _)
 obtain ⟨a,ha⟩:∃a:Nat,y % 128=(a:Nat):=⟨(y % 128).toNat,by lia⟩
 have hsh:binop .LShift (.int (2*(y % 128)+1)) (.int (u:Nat)) = .ok (.int (((2*a+1)*2 ^ u:Nat):Int)):=by
  rw [ZeE (by exact Int.natCast_nonneg _) (by lia) (ZeB (k:=10) (by lia) (by decide)),ha]
  congr 2
 have hby:builtin .bytes [.list [.int (y % 256),.int (((2*a+1)*2 ^ u:Nat) % 256:Int)]] = .ok (.bytes [lowB y,lowB ((2*a+1)*2 ^ u:Nat)]):=by
  rw [←Zhu,←Zhu];exact Zfc [lowB y,lowB ((2*a+1)*2 ^ u:Nat)]
 by_cases h4:y % 4=0
 ·refine ⟨.tuple [.str sBits,.int ((0:Nat):Int),.bytes []],tlv (oneB 3) (oneB 0 ++ []),?_,gen 0 [] (by exact Nat.succ_pos _) (by simp) (by decide),by decide⟩
  intro r
  rw [ZJ B.f33 rfl (by decide)]
  have ht:=ZeF B (r:=r+1) (oneB 3) (oneB 0 ++ []) (by rw [ZC];exact Nat.succ_pos _) (by decide)
  have hc:binop .Add (.bytes (oneB 0)) (.bytes []) = .ok (.bytes (oneB 0 ++ [])):=ZdL (by decide)
  have hb0:builtin .bytes [.list [.int 0]] = .ok (.bytes (oneB 0)):=Zaf (n:=0) (by decide)
  generalize oneB 0 ++ []=C at *
  simp (disch:=first | decide | assumption | lia) only [Zao,X_k,Zp,ZB,Zx,ZZ,Zac,P_bi,Zs,Zi,Zc,R_or,Zr,Zu,ZD,Zz,Zt,Za,Zae,ZaG,c_eq,Zh,Zv,Zd,Zo,Zg,ZG,Zy,ZP,Zai,Zad,ZW,Zj,Ze,Zf,Zk,Zl,Zb,okB_,Zq,zc6,zc7,zc8,zc9,zc16,zc17,Zgt,Zhp,hk,ZH B.g4,lk_2,ZaI,ZbU,ZbV,Zal,Zay,Zar,Zfo,Zer,Zas,Zfp,ZeK,Zfq,Zdr B,ZkR,Zaf,ht,hu,ZeR,hsh,hby,hb0,hc]
  rfl
 ·refine ⟨.tuple [.str sBits,.int (u:Nat),.bytes [lowB y,lowB ((2*a+1)*2 ^ u:Nat)]],tlv (oneB 3) (oneB u ++ [lowB y,lowB ((2*a+1)*2 ^ u:Nat)]),?_,gen u _ hu8 (by simp) ?_,?_⟩
  ·intro r
   rw [ZJ B.f33 rfl (by decide)]
   have ht:=ZeF B (r:=r+1) (oneB 3) (oneB u ++ [lowB y,lowB ((2*a+1)*2 ^ u:Nat)]) (by rw [ZC];exact Nat.succ_pos _) (by simp [oneB])
   have hc:binop .Add (.bytes (oneB u)) (.bytes [lowB y,lowB ((2*a+1)*2 ^ u:Nat)]) = .ok (.bytes (oneB u ++ [lowB y,lowB ((2*a+1)*2 ^ u:Nat)])):=ZdL (by simp [oneB,SZ])
   have hb0:builtin .bytes [.list [.int (u:Nat)]] = .ok (.bytes (oneB u)):=Zaf (by exact Nat.lt_of_lt_of_le (by assumption) (by decide))
   generalize oneB u ++ [lowB y,lowB ((2*a+1)*2 ^ u:Nat)]=C at *
   generalize [lowB y,lowB ((2*a+1)*2 ^ u:Nat)]=E at *
   simp (disch:=first | decide | assumption | lia) only [Zao,X_k,Zp,ZB,Zx,ZZ,Zac,P_bi,Zs,Zi,Zc,R_or,Zr,Zu,ZD,Zz,Zt,Za,Zae,ZaG,c_eq,Zh,Zv,Zd,Zo,Zg,ZG,Zy,ZA,Zai,Zad,ZW,Zj,Ze,Zf,Zk,Zl,Zb,okB_,Zq,zc6,zc7,zc8,zc9,zc16,zc17,Zgt,Zhp,hk,ZH B.g4,lk_2,ZaI,ZbU,ZbV,Zal,Zay,Zar,Zfo,Zer,Zas,Zfp,ZeK,Zfq,Zdr B,ZkR,Zaf,ht,hu,ZeR,hsh,hby,hb0,hc]
   rfl
  ·have hz:at0 [lowB y,lowB ((2*a+1)*2 ^ u:Nat)] (2 - 1) % 2 ^ u=0:=by
    have h1:=ZgM ((2*a+1)*2 ^ u:Nat)
    have h2:(lowB ((2*a+1)*2 ^ u:Nat)).toNat=(2*a+1)*2 ^ u % 256:=by lia
    show (lowB ((2*a+1)*2 ^ u:Nat)).toNat % 2 ^ u=0
    rw [h2];exact ZoO _ _ hu8
   simp only [bitsP,List.length_cons,List.length_nil,hu8,decide_true,Bool.true_and]
   simp only [Nat.zero_add,Nat.reduceAdd,hz]
   simp
  ·rw [ZU,ZC];simp [oneB];have:=ZaW 3;exact Nat.le_add_left _ _
end DK.Internal.B
end
section
set_option backward.match.sparseCases false
set_option genSizeOf false
set_option genCtorIdx false
namespace DK.Internal.B
open PySem
variable {T:Text} {r:Nat}
theorem ZoP (B:Law2 T) (s0 s1 s2 s3 s5 s6 s7:Slot):∀(as:List Nat) (c:List UInt8) (s8:Slot),(∀a∈as,a < 128 ^ 100)→c.length+101*as.length≤100000 →
  ∃s8',FE T (r+1) (.one 8) Zda (as.map nD) [s0,s1,s2,s3,.val (.bytes c),s5,s6,s7,s8] = .ok (.next,[s0,s1,s2,s3,.val (.bytes (c++arcsB as)),s5,s6,s7,s8']):=by
 intro as
 induction as with
 | nil=>intro c s8 h hl;exact ⟨s8,by rw [List.map_nil,Zkt];simp [arcsB]⟩
 | cons a as ih=>
  intro c s8 h hl
  have ha:=h a (List.mem_cons_self ..)
  have hlen:=ZbT 100 (a / 128) (Nat.lt_of_le_of_lt (Nat.div_le_self _ _) ha)
  have hle:=ZcY a
  obtain ⟨s8',hs⟩:=ih (c++arcB a) (.val (nD a)) (fun x hx=>h x (List.mem_cons_of_mem _ hx)) (by simp at hl ⊢;lia)
  refine ⟨s8',?_⟩
  have h1:=c2arc B (r:=r) ha (by decide)
  have h2:binop .Add (.bytes c) (.bytes (arcB a)) = .ok (.bytes (c++arcB a)):=ZdL (by unfold SZ;simp at hl;lia)
  rw [List.map_cons,ZkZ]
  generalize FE T (r+1) (.one 8) Zda (as.map nD)=f at hs ⊢
  simp only [nD] at hs ⊢
  simp (disch:=first | decide | assumption | lia) only [Zda,Zp,ZB,Zs,Zi,Zc,Zu,Zz,ZK,Zbs,Zd,Zg,ZhV,Zj,Ze,Zf,Zk,Zl,Zb,Zq,ZQ,h1,h2,hs]
  simp [arcsB]
theorem ZhS (xs:List D) {m:Int} (h0:0≤m) (h:m≤xs.length):slice (.list xs) .none (.int m) = .ok (.list (xs.take m.toNat)):=by
 obtain ⟨i,rfl⟩:=Int.eq_ofNat_of_zero_le h0
 have e:clip xs.length (i:Nat)=i:=Zhf (Int.ofNat_le.mp h)
 rw [ZlV,e]
 simp [cut]
theorem Zkk (a b:D) (l):slice (.list (a::b::l)) (.int 2) .none = .ok (.list l):=by
 have e:clip (a::b::l).length 2=2:=Zhf (Nat.le_add_left 2 _)
 rw [Zjj,e]
 simp [cut]
theorem idx_i3 (a b c y:Int):index (.tuple [.int a,.int b,.int c]) (.int (y % 3)) = .ok (.int (sel [a,b,c] y)):=Zbi [a,b,c] .int y 3 rfl (by simp)
theorem ZoQ (B:Base T) {Q:D→Prop} (a b:Nat) (as:List Nat) (ha:a≤2) (hab:a=2∨b < 40) (hbb:b < 4000000000) (hb:∀x∈as,x < 128 ^ 100) (hl:as.length≤600) (hq:Q (.tuple [.str sOid,.list (nD a::nD b::as.map nD)])) :
  Good T Q (.tuple [.str sOid,.list (nD a::nD b::as.map nD)]) (tlv (oneB 6) (arcsB ((40*a+b)::as))) 0 [([],.tuple [.str sOid,.list (nD a::nD b::as.map nD)])]:=by
 have hbs:∀x∈(40*a+b)::as,x < 128 ^ 100:=by
  intro x hx
  rcases List.mem_cons.mp hx with e | hx
  ·have h2:(5000000000:Nat) < 128 ^ 100:=by decide
   rw [e];exact Nat.lt_trans (show 40*a+b < 5000000000 by lia) h2
  ·exact hb x hx
 have hlen:=Zhs _ hbs
 simp only [List.length_cons] at hlen
 have hc:(arcsB ((40*a+b)::as)).length < 65536:=by lia
 refine Zbt B (by decide) (by decide) hc (fun r=>ZpK B a b as ha hab hbs hbb hl) (fun r pre suf dep=> ?_) (ZpX B _) (fun n=>ZfW _ _ (mem2 (ZcD _ _) (peq_l _ _ ?_))) hq
 ·have:=ZpR B (r:=r) (40*a+b) as pre suf dep hc hbs (by exact Nat.le_trans (by assumption) (by decide))
  rw [show min ((40*a+b) / 40) 2=a by omega,show 40*a+b - 40*a=b by simp] at this
  exact this
 ·intro d hd
  have:∃m:Nat,d=nD m:=by
   rcases List.mem_cons.mp hd with e | hd
   ·exact ⟨a,e⟩
   ·rcases List.mem_cons.mp hd with e | hd
    ·exact ⟨b,e⟩
    ·obtain ⟨m,_,e⟩:=List.mem_map.mp hd;exact ⟨m,e.symm⟩
  obtain ⟨m,rfl⟩:=this
  exact Zlv _ _
theorem ZoR (B:Law2 T) (k x y:Int) (hk:k % 12=5):Leaf T k x y:=by
 obtain ⟨a,ha⟩:∃a:Nat,x % 3=(a:Nat):=⟨(x % 3).toNat,by lia⟩
 have hsel:sel [y % 40,y % 40,y % 100] x=if x % 3=2 then y % 100 else y % 40:=by
  have:x % 3=0∨x % 3=1∨x % 3=2:=by lia
  unfold sel
  simp only [List.length_cons,List.length_nil,Nat.zero_add,Nat.reduceAdd,show (((3:Nat)):Int)=3 from rfl]
  rcases this with h | h | h<;>rw [h]<;>rfl
 obtain ⟨b,hb⟩:∃b:Nat,sel [y % 40,y % 40,y % 100] x=(b:Nat):=⟨(sel [y % 40,y % 40,y % 100] x).toNat,by rw [hsel];split<;>lia⟩
 have hix:=idx_i3 (y % 40) (y % 40) (y % 100) x
 rw [ha,hb] at hix
 have hab:(a=2∨b < 40)∧b < 100:=by
  rw [hsel] at hb
  by_cases h2:x % 3=2
  ·rw [if_pos h2] at hb;lia
  ·rw [if_neg h2] at hb;lia
 obtain ⟨c,hc⟩:∃c:Nat,y % 300=(c:Nat):=⟨(y % 300).toNat,by lia⟩
 obtain ⟨m,hm⟩:∃m:Nat,7*(x % 4)+7=(m:Nat):=⟨(7*(x % 4)+7).toNat,by lia⟩
 have hm28:7≤m∧m≤28:=by lia
 have hp1:2 ^ 7≤2 ^ m:=Nat.pow_le_pow_right (by decide) hm28.1
 have hp2:2 ^ m≤2 ^ 28:=Nat.pow_le_pow_right (by decide) hm28.2
 have hone:(1:Int).natAbs < BIG:=ZeB (k:=1) (by decide) (by decide)
 have hsh:binop .LShift (.int 1) (.int (m:Nat)) = .ok (.int ((2 ^ m:Nat):Int)):=by
  rw [ZeE (by exact Int.natCast_nonneg _) (by lia) hone];congr 2;simp
 obtain ⟨e,he⟩:∃e:Nat,((2 ^ m:Nat):Int) - y % 2=(e:Nat):=⟨(((2 ^ m:Nat):Int) - y % 2).toNat,by lia⟩
 have hel:e≤2 ^ 28:=by lia
 obtain ⟨j,hj⟩:∃j:Nat,y % 3=(j:Nat):=⟨(y % 3).toNat,by lia⟩
 have hbs:∀z∈[c,e].take j,z < 128 ^ 100:=by
  intro z hz
  have h2:(300000000:Nat) < 128 ^ 100:=by decide
  have h3:(2:Nat) ^ 28=268435456:=by decide
  have:=List.mem_of_mem_take hz
  simp only [List.mem_cons,List.not_mem_nil,or_false] at this
  lia
 have hjl:([c,e].take j).length≤2:=by simp;lia
 have hsl:slice (.list [nD a,nD b,nD c,nD e]) .none (.int (2+(j:Nat))) = .ok (.list (nD a::nD b::([c,e].take j).map nD)):=by
  rw [ZhS _ (by exact Int.natCast_nonneg _) (by simp;lia),show (2+((j:Nat):Int)).toNat=j+1+1 by exact Nat.add_comm _ _]
  simp [List.map_take]
 have h40:40*a+b < 128 ^ 100:=by
                     have h2:(300000000:Nat) < 128 ^ 100:=by decide
                     lia
 have e40:(40:Int)*(a:Nat)+(b:Nat)=((40*a+b:Nat):Int):=by rfl
 generalize hAS : [c,e].take j=as at *
 have i0:index (.list (nD a::nD b::as.map nD)) (.int 0) = .ok (.int (a:Nat)):=ZbB (b:=nD a::nD b::as.map nD) (i:=0) (by simp)
 have i1:index (.list (nD a::nD b::as.map nD)) (.int 1) = .ok (.int (b:Nat)):=ZbB (b:=nD a::nD b::as.map nD) (i:=1) (by simp)
 have s2:=Zkk (nD a) (nD b) (as.map nD)
 have hlen:=Zhs ((40*a+b)::as) (by
  intro x hx
  rcases List.mem_cons.mp hx with e | hx
  ·lia
  ·exact hbs x hx)
 simp only [List.length_cons] at hlen
 have hcat:arcB (40*a+b)++arcsB as=arcsB ((40*a+b)::as):=by simp [arcsB]
 have hl0:(arcB (40*a+b)).length≤101:=by
  have:=ZbT 100 ((40*a+b) / 128) (Nat.lt_of_le_of_lt (Nat.div_le_self _ _) h40)
  rw [ZcY];exact Nat.lt_succ_of_le (by assumption)
 refine ⟨.tuple [.str sOid,.list (nD a::nD b::as.map nD)],tlv (oneB 6) (arcsB ((40*a+b)::as)),?_,?_,?_⟩
 ·intro r
  rw [ZJ B.f33 rfl (by decide)]
  have ht:=ZeF B (r:=r+1) (oneB 6) (arcsB ((40*a+b)::as)) (by rw [ZC];exact Nat.succ_pos _) (by lia)
  have h1:=c2arc B (r:=r+1) h40 (by decide)
  have hfe:=fun s0 s1 s2 s3 s5 s6 s7 s8=>ZoP B (r:=r+1) s0 s1 s2 s3 s5 s6 s7 as (arcB (40*a+b)) s8 hbs (by lia)
  rw [hcat] at hfe
  generalize arcsB ((40*a+b)::as)=AB at *
  generalize hL:nD a::nD b::as.map nD=L at *
  obtain ⟨s8,hf⟩:=hfe (.val (.int k)) (.val (.int x)) (.val (.int y)) (.val (.str sOid)) (.val (.tuple [.str sOid,.list L])) .un (.val (.list L)) .un
  rw [show nD a=D.int (a:Nat) from rfl,show nD b=D.int (b:Nat) from rfl,show nD c=D.int (c:Nat) from rfl,show nD e=D.int (e:Nat) from rfl] at hsl
  simp (disch:=first | decide | assumption | lia) only [Zao,X_k,Zp,ZB,Zx,Zbk,ZZ,Zac,P_bi,Zs,Zi,Zc,R_or,Zr,ZdE,Zu,ZD,Zz,Zeo,Zt,ZhI,ZE,Za,Zae,ZaC,ZaG,c_eq,Zh,Zd,Zap,Zo,Zg,ZdH,ZG,Zy,Zec,Zai,Zad,ZW,Zj,Ze,Zf,Zk,Zl,Zb,okB_,Zq,zc6,zc7,zc8,zc9,zc16,zc17,hk,ZH B.g4,lk_5,ZaI,ZbU,ZbV,Zbx,Zdd,Zci,Zdt,ZbY,Zcj,Zit,ZhM,Ziu,Zdr B,Zqh,Zaf,ht,ha,hix,hc,hm,hsh,he,hj,ZeR,hsl,i0,i1,e40,h1,s2,itemsOf,hf]
  rfl
 ·exact ZoQ B.toBase a b as (by lia) hab.1 (by lia) hbs (by exact Nat.le_trans (by assumption) (by decide)) (Zqf (a::b::as) (by simp;exact Nat.le_trans (by assumption) (by decide)))
 ·rw [ZU,ZC];have:=ZaW (arcsB ((40*a+b)::as)).length;lia
theorem Zkl (B:Law2 T2L) (k x y:Int):Leaf T2L k x y:=by
 have:k % 12=0∨k % 12=1∨k % 12=2∨k % 12=3∨k % 12=4∨k % 12=5∨k % 12=6∨k % 12=7∨k % 12=8∨k % 12=9∨k % 12=10∨k % 12=11:=by lia
 rcases this with h | h | h | h | h | h | h | h | h | h | h | h
 ·exact Znl B k x y h
 ·exact ZoN B k x y h
 ·exact Znp B k x y h
 ·exact ZlD B k x y h
 ·exact Znk B k x y h
 ·exact ZoR B k x y h
 ·exact Zno B k x y h
 ·exact ZjF k x y (by rw [h];rfl)
 ·exact ZjF k x y (by rw [h];rfl)
 ·exact ZlE k x y (by rw [h];rfl)
 ·exact ZjG k x y (by rw [h];rfl)
 ·exact ZjG k x y (by rw [h];rfl)
end DK.Internal.B
end
section
set_option backward.match.sparseCases false
set_option genSizeOf false
set_option genCtorIdx false
namespace DK.Internal.B
open PySem
variable {T:Text} {r:Nat}
noncomputable def itD (g:Gi):D:= .tuple [g.d,.bytes g.b,.int (g.k:Nat),.list (g.ns.map (nodeD []))]
theorem ZjH (a:List UInt8):lexLt a a=false:=by
 induction a with
 | nil=>rfl
 | cons u a ih=>simp [lexLt,ih]
theorem Zhy:∀(a b:List UInt8),lexLt a b=true→lexLt b a=false
 | [],[],h=>by simp [lexLt] at h
 | [],_::_,_=>rfl
 | _::_,[],h=>by simp [lexLt] at h
 | u::a,v::b,h=>by
  simp only [lexLt] at h ⊢
  by_cases h1:u.toNat < v.toNat
  ·rw [if_neg (by lia),if_neg (by exact Nat.ne_of_gt (by assumption))]
  ·rw [if_neg h1] at h
   by_cases h2:u.toNat=v.toNat
   ·rw [if_pos h2] at h
    rw [if_neg (by lia),if_pos h2.symm]
    exact Zhy a b h
   ·rw [if_neg h2] at h;simp at h
noncomputable def numNL:List Nat:= [0,1,30,31,127,128,16383,16384]
theorem ZkV:∀a∈numNL,a≤16384:=by decide
theorem Zqj (n:Int):index (.tuple [.int 0,.int 1,.int 30,.int 31,.int 127,.int 128,.int 16383,.int 16384]) (.int (n % 8)) = .ok (.int ((sel numNL n:Nat):Int)):=Zbi numNL nD n 8 rfl (by decide)
theorem rng1:rngK 1 (.int 0) (.int ((1:Nat):Int)) = .ok [.int 0]:=rfl
theorem rng2:rngK 1 (.int 0) (.int ((2:Nat):Int)) = .ok [.int 0,.int 1]:=rfl
theorem ZlF (i:Nat) (s0 s1 s2 s3 s4 s5 s6 s7 s8 s9 s10 s11 s13 s14 s15 s16:Slot):∀(ns:List Nd) (acc:List D),(∀p∈ns,p.1.length≤100)→acc.length+ns.length≤900000 →
  CE T r (.many [15,16]) .nil (.tup (.cons (.bin .Add (.lst (.cons (.var 12) .nil)) (.var 15)) (.cons (.var 16) .nil))) (ns.map (nodeD [])) [s0,s1,s2,s3,s4,s5,s6,s7,s8,s9,s10,s11,.val (.int (i:Nat)),s13,s14,s15,s16] acc = .ok (acc++(ns.map (under i)).map (nodeD [])):=by
 intro ns
 induction ns with
 | nil=>intro acc h hl;rw [List.map_nil,ZiX];simp
 | cons n ns ih=>
  intro acc h hl
  have h1:=h n (List.mem_cons_self ..)
  have hs:=ih (acc ++ [nodeD [] (under i n)]) (fun x hx=>h x (List.mem_cons_of_mem _ hx)) (by simp at hl ⊢;lia)
  have hal:acc.length < 1000000:=by simp at hl;lia
  rw [List.map_cons,ZjQ]
  have hc:binop .Add (.list [.int (i:Nat)]) (.list ([]++n.1)) = .ok (.list ([]++(under i n).1)):=ZhX (by simp [SZ];lia)
  have hb:∀d e:D,bindT [s0,s1,s2,s3,s4,s5,s6,s7,s8,s9,s10,s11,.val (.int (i:Nat)),s13,s14,s15,s16] (.many [15,16]) (.tuple [d,e]) = .ok [s0,s1,s2,s3,s4,s5,s6,s7,s8,s9,s10,s11,.val (.int (i:Nat)),s13,s14,.val d,.val e]:=fun d e=>rfl
  rw [show acc++((n::ns).map (under i)).map (nodeD [])=acc ++ [nodeD [] (under i n)]++(ns.map (under i)).map (nodeD []) by simp,←hs]
  rw [show nodeD [] n = .tuple [.list ([]++n.1),n.2] from rfl,show nodeD [] (under i n) = .tuple [.list ([]++(under i n).1),n.2] from rfl]
  generalize []++n.1=P at *
  generalize []++(under i n).1=P' at *
  simp (disch:=first | decide | assumption | lia) only [Zp,ZB,ZZ,Zac,Zi,Zc,ZgS,Zd,ZgT,ZjR,Zad,ZW,Zj,Ze,Zf,Zb,hb,hc,ZhU]
end DK.Internal.B
end
section
set_option backward.match.sparseCases false
set_option genSizeOf false
set_option genCtorIdx false
namespace DK.Internal.B
open PySem
variable {T:Text} {r:Nat}
structure WI (T:Text) (g:Gi) (L K:Nat):Prop where
 good:Good T (Ty2 T) g.d g.b g.k g.ns
 len:g.b.length≤L
 nsl:g.ns.length≤L
 kk:g.k≤K
 pth:∀p∈g.ns,p.1.length≤K
noncomputable def maxK:Nat→List Gi→Nat
 | m,[]=>m
 | m,g::gs=>maxK (max m g.k) gs
theorem Znq:∀(gs:List Gi) (m:Nat),m≤maxK m gs∧∀g∈gs,g.k≤maxK m gs
 | [],m=>⟨Nat.le_refl _,fun _ h=>nomatch h⟩
 | g::gs,m=>by
  obtain ⟨h1,h2⟩:=Znq gs (max m g.k)
  refine ⟨by rw [maxK];lia,fun x hx=> ?_⟩
  rw [maxK]
  rcases List.mem_cons.mp hx with e | hx
  ·subst e;lia
  ·exact h2 x hx
theorem Zkm:∀(gs:List Gi) (m:Nat),maxK m gs=m∨∃g∈gs,g.k=maxK m gs
 | [],m=> .inl rfl
 | g::gs,m=>by
  rw [maxK]
  rcases Zkm gs (max m g.k) with h | ⟨x,hx,h⟩
  ·by_cases hm:g.k≤m
   ·left;lia
   ·right;exact ⟨g,List.mem_cons_self ..,by lia⟩
  ·exact .inr ⟨x,List.mem_cons_of_mem _ hx,h⟩
theorem Znr:∀(gs:List Gi) (m:Nat),maxI (m:Nat) (gs.map fun g=>((g.k:Nat):Int))=(maxK m gs:Nat)
 | [],m=>rfl
 | g::gs,m=>by
  rw [List.map_cons,maxI,maxK,←Znr gs (max m g.k)]
  congr 1
  split<;>lia
theorem Zph:∀gs:List Gi,intsOf (gs.map fun g=> .int ((g.k:Nat):Int))=some (gs.map fun g=>((g.k:Nat):Int))
 | []=>rfl
 | g::gs=>by rw [List.map_cons,intsOf,Zph gs];rfl
theorem ZoS (gs:List Gi):builtin .max [.list (.int 0::gs.map fun g=> .int ((g.k:Nat):Int))] = .ok (.int (maxK 0 gs:Nat)):=by
 show optO (intsOf (.int 0::gs.map fun g=> .int ((g.k:Nat):Int))) maxL=_
 rw [intsOf,Zph]
 exact congrArg (fun i=>Out.ok (D.int i)) (Znr gs 0)
theorem Zhz:∀(gs:List Gi) (i:Nat),(nodesFrom i (gs.map Gi.wi)).length=(gs.map fun g=>g.ns.length).sum
 | [],_=>rfl
 | g::gs,i=>by
  rw [show nodesFrom i ((g::gs).map Gi.wi)=g.ns.map (under i)++nodesFrom (i+1) (gs.map Gi.wi) from rfl,List.length_append,List.length_map,Zhz gs (i+1)];rfl
theorem ZiP (m:Nat) (j:Int) (f:Gi→D) (hf:∀g,index (itD g) (.int j) = .ok (f g)) (sl:List Slot) (hm:∀d,getV (setV sl m (.val d)) m = .ok d):∀(gs:List Gi) (acc:List D),acc.length+gs.length≤100000 →
  CE T r (.one m) .nil (.idx (.var m) (.k (.int j))) (gs.map itD) sl acc = .ok (acc++gs.map f):=by
 intro gs
 induction gs with
 | nil=>intro acc h;rw [List.map_nil,ZiX];simp
 | cons g gs ih=>
  intro acc h
  have hs:=ih (acc ++ [f g]) (by simp at h ⊢;lia)
  have hal:acc.length < 1000000:=by simp at h;lia
  rw [List.map_cons,ZjQ]
  rw [show acc++(g::gs).map f=acc ++ [f g]++gs.map f by simp,←hs]
  simp (disch:=first | decide | assumption | lia) only [X_k,Zp,Zx,ZgS,Zbs,Zd,ZgT,ZjR,hm,hf,ZhU]
theorem Zqk {L K:Nat} (d:D):∀(gs:List Gi) (i:Nat),(∀g∈gs,∀p∈g.ns,p.1.length≤K)→∀p∈nodesFrom i (gs.map Gi.wi),p.1.length≤K+1:=by
 intro gs
 induction gs with
 | nil=>intro i h p hp;cases hp
 | cons g gs ih=>
  intro i h p hp
  rcases List.mem_append.mp hp with hp | hp
  ·obtain ⟨q,hq,rfl⟩:=List.mem_map.mp hp
   have:=h g (List.mem_cons_self ..) q hq
   simp [under];exact this
  ·exact ih (i+1) (fun x hx=>h x (List.mem_cons_of_mem _ hx)) p hp
theorem ZjI (B:Law2 T) (n:Int):∃N:Nat,sel numNL n=N∧N≤16384∧N < 128 ^ 100∧(∀r,CL T (r+1) 29 [.int (N:Nat)] = .ok (.bytes (arcB N)))∧binop .Add (.bytes [191]) (.bytes (arcB N)) = .ok (.bytes (191::arcB N)):=by
 refine ⟨sel numNL n,rfl,ZkV _ (Zah _ _ (by decide)),?_,?_,?_⟩
 ·have h1:=ZkV _ (Zah numNL n (by decide))
  have h2:(16384:Nat) < 128 ^ 100:=by decide
  exact Nat.lt_of_le_of_lt (by assumption) (by assumption)
 ·intro r
  have h1:=ZkV _ (Zah numNL n (by decide))
  exact c2arc B (j:=3) (by
                have:(128:Nat) ^ 3=2097152:=by decide
                exact Nat.lt_of_le_of_lt (by assumption) (by decide)) (by decide)
 ·have h1:=ZkV _ (Zah numNL n (by decide))
  have h3:=ZbT 3 (sel numNL n / 128) (by
                         have:(128:Nat) ^ 3=2097152:=by decide
                         lia)
  have h4:=ZcY (sel numNL n)
  exact ZdL (by simp [SZ];lia)
noncomputable def tailS:Nat→Ss→Ss
 | 0,s=>s
 | n+1,s=>match s with
  | .cons _ s=>tailS n s
  | .nil=> .nil
noncomputable def wrap_t:Ss:=tailS 8 Zba
noncomputable def wrap_h (ss:Ss):Ss:=(.cons (.ife (.cmp .Eq (.bin .Mod (.var 0) (.k (.int 6))) (.k (.int 0))) (.cons (.ret (.var 2))
 .nil) .nil)
 (.cons (.asg 4 (.idx (.tup (.cons (.k (.int 0)) (.cons (.k (.int 1)) (.cons (.k (.int 30)) (.cons (.k (.int 31)) (.cons (.k (.int 127)) (.cons (.k (.int 128)) (.cons (.k (.int 16383)) (.cons (.k (.int 16384)) .nil))))))))) (.bin .Mod (.var 1) (.k (.int 8)))))
 (.cons (.asg 5 (.bin .Add (.k (.bytes [191])) (.call 29 (.cons (.var 4) .nil))))
 (.cons (.ife (.cmp .Lt (.var 4) (.k (.int 31))) (.cons (.asg 5 (.bi .bytes (.cons (.lst (.cons (.bin .Add (.k (.int 160)) (.var 4)) .nil)) .nil)))
 .nil) .nil)
 (.cons (.asg 6 (.lst (.cons (.var 2) (.cons (.var 3) .nil))))
 (.cons (.ife (.cmp .Lt (.idx (.var 3) (.k (.int 1))) (.idx (.var 2) (.k (.int 1)))) (.cons (.asg 6 (.lst (.cons (.var 3) (.cons (.var 2) .nil))))
 .nil) .nil)
 (.cons (.asg 7 (.tup (.cons (.tup (.cons (.k (.str sSeq)) (.cons (.k (.bytes [48])) (.cons (.lst (.cons (.var 2) (.cons (.var 3) .nil))) .nil)))) (.cons (.tup (.cons (.k (.str sTagged)) (.cons (.var 5) (.cons (.lst (.cons (.var 2) .nil)) .nil)))) (.cons (.tup (.cons (.k (.str sSeq)) (.cons (.k (.bytes [48])) (.cons (.lst .nil) .nil)))) (.cons (.tup (.cons (.k (.str sSet)) (.cons (.k (.bytes [49])) (.cons (.lst (.cons (.var 2) (.cons (.var 2) .nil))) .nil)))) (.cons (.tup (.cons (.k (.str sSet)) (.cons (.k (.bytes [49])) (.cons (.var 6) .nil)))) .nil)))))))
 (.cons (.unp [8,5,9] (.idx (.var 7) (.bin .Sub (.bin .Mod (.var 0) (.k (.int 6))) (.k (.int 1)))))
 ss))))))))
theorem Zql:Zba=wrap_h wrap_t:=by kernel_rfl
noncomputable def pairD (p q:Gi):List D:=if lexLt q.b p.b=true then [itD q,itD p] else [itD p,itD q]
noncomputable def waysD (N:Nat) (p q:Gi):D:= .tuple [.tuple [.str sSeq,.bytes [48],.list [itD p,itD q]],.tuple [.str sTagged,.bytes (tagB N),.list [itD p]],.tuple [.str sSeq,.bytes [48],.list []],.tuple [.str sSet,.bytes [49],.list [itD p,itD p]],.tuple [.str sSet,.bytes [49],.list (pairD p q)]]
theorem Zns (B:Law2 T) {w n:Int} {p q:Gi} {N:Nat} {kind:List Nat} {tag:List UInt8} {ps:List D} (hnum:sel numNL n=N) (harc:∀r,CL T (r+1) 29 [.int (N:Nat)] = .ok (.bytes (arcB N))) (h191:binop .Add (.bytes [191]) (.bytes (arcB N)) = .ok (.bytes (191::arcB N))) (hw:w % 6≠0)
  (hidx:index (waysD N p q) (.int (w % 6 - 1)) = .ok (.tuple [.str kind,.bytes tag,.list ps])):∃s6,Y T (r+2) Zba [.val (.int w),.val (.int n),.val (itD p),.val (itD q),.un,.un,.un,.un,.un,.un,.un,.un,.un,.un] =
   YK T (r+2) wrap_t nextK [.val (.int w),.val (.int n),.val (itD p),.val (itD q),.val (.int (N:Nat)),.val (.bytes tag),s6,.val (waysD N p q),.val (.str kind),.val (.list ps),.un,.un,.un,.un]:=by
 have ip:index (itD p) (.int 1) = .ok (.bytes p.b):=rfl
 have iq:index (itD q) (.int 1) = .ok (.bytes q.b):=rfl
 have hn:=Zqj n
 rw [hnum] at hn
 rw [Zql]
 unfold waysD at hidx ⊢
 refine ⟨.val (.list (pairD p q)),?_⟩
 unfold pairD at hidx ⊢
 generalize itD p=IP at *
 generalize itD q=IQ at *
 have b160:(160:Int)+(N:Nat)=((160+N:Nat):Int):=rfl
 by_cases h31:N < 31
 ·rw [tagB,if_pos h31] at hidx ⊢
  have hb:builtin .bytes [.list [.int ((160+N:Nat):Int)]] = .ok (.bytes (oneB (160+N))):=Zaf (by lia)
  cases hlex:lexLt q.b p.b
  ·rw [hlex,if_neg Bool.false_ne_true] at hidx
   rw [if_neg Bool.false_ne_true]
   simp (disch:=first | decide | assumption | lia) only [wrap_h,X_k,Zp,ZB,Zx,ZZ,Zac,P_bi,Zs,Zi,Zc,Zr,Zu,Zz,Zeo,Zt,Za,Zae,ZaC,ZaG,c_eq,c_lt,Zv,Zd,Zg,Zkr,Zy,ZP,ZA,Zad,ZW,Zj,Ze,Zf,Zk,Zl,Zb,okB_,Zq,hn,harc,h191,b160,hb,ip,iq,c_ltB,hlex,hidx]
  ·rw [hlex,if_pos rfl] at hidx
   rw [if_pos rfl]
   simp (disch:=first | decide | assumption | lia) only [wrap_h,X_k,Zp,ZB,Zx,ZZ,Zac,P_bi,Zs,Zi,Zc,Zr,Zu,Zz,Zeo,Zt,Za,Zae,ZaC,ZaG,c_eq,c_lt,Zv,Zd,Zg,Zkr,ZG,ZP,ZA,Zad,ZW,Zj,Ze,Zf,Zk,Zl,Zb,okB_,Zq,hn,harc,h191,b160,hb,ip,iq,c_ltB,hlex,hidx]
 ·rw [tagB,if_neg h31] at hidx ⊢
  cases hlex:lexLt q.b p.b
  ·rw [hlex,if_neg Bool.false_ne_true] at hidx
   rw [if_neg Bool.false_ne_true]
   simp (disch:=first | decide | assumption | lia) only [wrap_h,X_k,Zp,ZB,Zx,ZZ,Zac,Zs,Zi,Zc,Zr,Zu,Zz,Zeo,Zt,Za,ZaC,ZaG,c_eq,c_lt,Zv,Zd,Zg,Zkr,Zy,ZA,Zad,ZW,Zj,Ze,Zf,Zk,Zl,Zb,okB_,Zq,hn,harc,h191,ip,iq,c_ltB,hlex,hidx]
  ·rw [hlex,if_pos rfl] at hidx
   rw [if_pos rfl]
   simp (disch:=first | decide | assumption | lia) only [wrap_h,X_k,Zp,ZB,Zx,ZZ,Zac,Zs,Zi,Zc,Zr,Zu,Zz,Zeo,Zt,Za,ZaC,ZaG,c_eq,c_lt,Zv,Zd,Zg,Zkr,ZG,ZA,Zad,ZW,Zj,Ze,Zf,Zk,Zl,Zb,okB_,Zq,hn,harc,h191,ip,iq,c_ltB,hlex,hidx]
theorem Znt (gs:List Gi) (s0 s1 s2 s3 s4 s5 s6 s7 s8 s10 s13:Slot):∀(hs pre:List Gi) (N:List D) (s12:Slot),gs=pre++hs→(∀g∈hs,∀p∈g.ns,p.1.length≤100)→N.length+(nodesFrom pre.length (hs.map Gi.wi)).length≤900000 →
  ∃s,FE T r (.one 12) Zdb (upFrom (pre.length:Nat) hs.length) [s0,s1,s2,s3,s4,s5,s6,s7,s8,.val (.list (gs.map itD)),s10,.val (.list N),s12,s13] = .ok (.next,[s0,s1,s2,s3,s4,s5,s6,s7,s8,.val (.list (gs.map itD)),s10,.val (.list (N++(nodesFrom pre.length (hs.map Gi.wi)).map (nodeD []))),s,s13]):=by
 intro hs
 induction hs with
 | nil=>intro pre N s12 h h2 h3;exact ⟨s12,by rw [List.length_nil,upFrom,Zkt];simp [nodesFrom]⟩
 | cons g hs ih=>
  intro pre N s12 h h2 h3
  have e1:nodesFrom pre.length ((g::hs).map Gi.wi)=g.ns.map (under pre.length)++nodesFrom (pre.length+1) (hs.map Gi.wi):=rfl
  rw [e1,List.length_append,List.length_map] at h3
  obtain ⟨s,hS⟩:=ih (pre ++ [g]) (N++(g.ns.map (under pre.length)).map (nodeD [])) (.val (.int (pre.length:Nat))) (by rw [h];simp) (fun x hx=>h2 x (List.mem_cons_of_mem _ hx)) (by simp;lia)
  refine ⟨s,?_⟩
  rw [List.length_append,List.length_singleton] at hS
  have hc:=fun s14 s15 s16=>ZlF (T:=T) (r:=r) pre.length s0 s1 s2 s3 s4 s5 s6 s7 s8 (.val (.list (gs.map itD))) s10 (.val (.list N)) s13 s14 s15 s16 g.ns [] (h2 g (List.mem_cons_self ..)) (by simp;lia)
  simp only [List.nil_append] at hc
  have hi:index (.list (gs.map itD)) (.int (pre.length:Nat)) = .ok (itD g):=by
   rw [h,List.map_append,List.map_cons];exact Zeu _ _ _ (by rw [List.length_map])
  have hi3:index (itD g) (.int 3) = .ok (.list (g.ns.map (nodeD []))):=rfl
  have hcat:binop .Add (.list N) (.list ((g.ns.map (under pre.length)).map (nodeD []))) = .ok (.list (N++(g.ns.map (under pre.length)).map (nodeD []))):=ZhX (by simp [SZ];lia)
  rw [e1,List.map_append,←List.append_assoc,List.length_cons,upFrom,ZkZ,show ((pre.length:Nat):Int)+1=((pre.length+1:Nat):Int) from rfl]
  rw [←hS]
  generalize FE T r (.one 12) Zdb (upFrom ((pre.length+1:Nat):Int) hs.length)=f at *
  generalize N++(g.ns.map (under pre.length)).map (nodeD [])=N' at *
  generalize (g.ns.map (under pre.length)).map (nodeD [])=A at *
  generalize g.ns.map (nodeD [])=NS at *
  generalize gs.map itD=GS at *
  generalize itD g=I at *
  simp (disch:=first | decide | assumption | lia) only [Zdb,X_k,Zp,ZB,Zx,ZdD,ZdE,ZdF,Zu,Zz,ZK,Zbs,Zd,ZdG,Zg,ZhV,ZW,Ze,Zf,Zk,Zl,Zb,Zq,ZQ,zc8,zc9,zc16,zc17,hi,hi3,itemsOf,hc,hcat]
theorem rng_n (n:Nat) (h:n≤1000):rngK 1 (.int 0) (.int (n:Nat)) = .ok (upFrom ((0:Nat):Int) n):=by
 have h1:(small 0=true∧small (n:Nat)=true∧(((n:Nat) - 0:Int).toNat≤SZ)∧(0 - (n:Nat):Int).toNat≤SZ):=by
  refine ⟨rfl,?_,?_,?_⟩
  ·unfold small;exact decide_eq_true (by exact Nat.lt_of_le_of_lt (by assumption) (by decide))
  ·unfold SZ;exact Nat.le_trans (by assumption) (by decide)
  ·unfold SZ;simp
 show rngI 0 (n:Nat) 1=_
 unfold rngI
 rw [if_pos h1,if_pos rfl]
 exact congrArg (fun n=>Out.ok (upFrom 0 n)) (by rfl)
noncomputable def grp2 (v:D) (tag:List UInt8) (gs:List Gi):Gi:=⟨v,tlv tag (bytesG gs),maxK 0 gs+1,([],v)::nodesFrom 0 (gs.map Gi.wi)⟩
structure Its2 (T:Text) (gs:List Gi) (L K:Nat):Prop where
 all:∀g∈gs,WI T g L K
 num:gs.length≤2
theorem Its2.byt {gs:List Gi} {L K:Nat} (h:Its2 T gs L K):(bytesG gs).length≤2*L∧(gs.map fun g=>g.ns.length).sum≤2*L:=by
 obtain ⟨h1,h2⟩:=h
 rcases gs with _ | ⟨a,_ | ⟨b,_ | ⟨c,gs⟩⟩⟩
 ·simp [bytesG]
 ·have ha:=h1 a (by simp);have l:=ha.len;have m:=ha.nsl;simp [bytesG];lia
 ·have ha:=h1 a (by simp);have l:=ha.len;have m:=ha.nsl
  have hb:=h1 b (by simp);have l2:=hb.len;have m2:=hb.nsl
  simp [bytesG];lia
 ·simp at h2
theorem Znu (B:Law2 T) {gs:List Gi} {L K:Nat} (h:Its2 T gs L K) (hL:L≤10000) (hK:K≤80) (kind:List Nat) (tag:List UInt8) (ht:tag.length≤100) (p:Gi) (N:Nat) (v:D) (tg:Bool) (hk:D.peq eqDeep (.str kind) (.str sTagged) = .ok tg)
  (hv:v=if tg=true then .tuple [.str kind,.int (N:Nat),p.d] else .tuple [.str kind,.list (gs.map (·.d))]) (s0 s1 s3 s6 s7:Slot) :
  bnd retV (YK T (r+2) wrap_t nextK [s0,s1,.val (itD p),s3,.val (.int (N:Nat)),.val (.bytes tag),s6,s7,.val (.str kind),.val (.list (gs.map itD)),.un,.un,.un,.un]) = .ok (itD (grp2 v tag gs)):=by
 obtain ⟨hb,hd⟩:=h.byt
 have hn:=h.num
 rw [←Zhz gs 0] at hd
 have f0:=fun s0 s1 s2 s3 s4 s5 s6 s7 s8 s9 s10 s11 s12 s13 s14 s15=>ZiP (T:=T) (r:=r+2) 15 0 (·.d) (fun g=>rfl) [s0,s1,s2,s3,s4,s5,s6,s7,s8,s9,s10,s11,s12,s13,s14,s15] (fun d=>rfl) gs [] (by simp;exact Nat.le_trans (by assumption) (by decide))
 have f1:=fun s0 s1 s2 s3 s4 s5 s6 s7 s8 s9 s10 s11 s12 s13 s14 s15=>ZiP (T:=T) (r:=r+2) 15 1 (fun g=> .bytes g.b) (fun g=>rfl) [s0,s1,s2,s3,s4,s5,s6,s7,s8,s9,s10,s11,s12,s13,s14,s15] (fun d=>rfl) gs [] (by simp;exact Nat.le_trans (by assumption) (by decide))
 have f2:=fun s0 s1 s2 s3 s4 s5 s6 s7 s8 s9 s10 s11 s12 s13 s14 s15=>ZiP (T:=T) (r:=r+2) 15 2 (fun g=> .int ((g.k:Nat):Int)) (fun g=>rfl) [s0,s1,s2,s3,s4,s5,s6,s7,s8,s9,s10,s11,s12,s13,s14,s15] (fun d=>rfl) gs [] (by simp;exact Nat.le_trans (by assumption) (by decide))
 simp only [List.nil_append] at f0 f1 f2
 have hm:=ZoS gs
 have hj:=ZiF (bs:=gs.map (·.b)) (by show (bytesG gs).length≤_;lia) (by simp;exact Nat.le_trans (by assumption) (by decide))
 rw [show (gs.map (·.b)).flatten=bytesG gs from rfl,List.map_map,show (D.bytes ∘ fun x=>x.b)=(fun g:Gi=>D.bytes g.b) from rfl] at hj
 have hc2:binop .Add (.list [.int 0]) (.list (gs.map fun g=> .int ((g.k:Nat):Int))) = .ok (.list (.int 0::gs.map fun g=> .int ((g.k:Nat):Int))):=ZhX (by simp [SZ];lia)
 have htl:=ZeF B (r:=r+1) tag (bytesG gs) (by exact Nat.le_trans (by assumption) (by decide)) (by lia)
 have hr:=rng_n gs.length (by exact Nat.le_trans (by assumption) (by decide))
 have hlen:builtin .len [.list (gs.map itD)] = .ok (.int (gs.length:Nat)):=by rw [ZaV,List.length_map]
 have e1:(1:Int)+((maxK 0 gs:Nat):Int)=((maxK 0 gs+1:Nat):Int):=by lia
 have ip:index (itD p) (.int 0) = .ok p.d:=rfl
 have elw:wrap_t=tailS 8 Zba:=rfl
 obtain ⟨s,hfe⟩:=Znt (T:=T) (r:=r+2) gs s0 s1 (.val (itD p)) s3 (.val (.int (N:Nat))) (.val (.bytes tag)) s6 s7 (.val (.str kind)) (.val v) .un gs [] [.tuple [.list [],v]] .un rfl (fun g hg q hq=>by have:=(h.all g hg).pth q hq;lia) (by simp only [List.length_nil,List.length_singleton];lia)
 simp only [List.length_nil] at hfe
 rw [show itD (grp2 v tag gs) = .tuple [v,.bytes (tlv tag (bytesG gs)),.int ((maxK 0 gs+1:Nat):Int),.list ([.tuple [.list [],v]]++(nodesFrom 0 (gs.map Gi.wi)).map (nodeD []))] from rfl]
 generalize [.tuple [.list [],v]]++(nodesFrom 0 (gs.map Gi.wi)).map (nodeD [])=NN at *
 generalize bytesG gs=BB at *
 generalize (gs.map fun g=>D.int ((g.k:Nat):Int))=KK at *
 generalize (gs.map fun g=>D.bytes g.b)=BS at *
 generalize gs.map (·.d)=DS at *
 generalize hGS:gs.map itD=GS at *
 generalize itD p=IP at *
 cases tg with
 | false=>
  rw [if_neg Bool.false_ne_true] at hv
  subst hv
  simp (disch:=first | decide | assumption | lia) only [elw,tailS,Zba,X_k,Zp,ZB,ZZ,Zac,P_bi,ZdD,Zs,Zi,Zc,Zr,ZdE,J_rng,ZdF,Zu,ZD,Zz,Zt,ZhI,ZE,Za,Zae,c_eq,Zh,Zd,ZdG,Zo,Zg,Zy,Zec,Zad,ZW,Zj,Ze,Zf,Zk,Zl,Zb,okB_,zc8,zc9,zc16,zc17,itemsOf,hlen,f0,f1,f2,hk,hr,hfe,hm,hj,hc2,htl,e1]
 | true=>
  rw [if_pos rfl] at hv
  subst hv
  simp (disch:=first | decide | assumption | lia) only [elw,tailS,Zba,X_k,Zp,ZB,Zx,ZZ,Zac,P_bi,ZdD,Zs,Zi,Zc,Zr,ZdE,J_rng,ZdF,Zu,ZD,Zz,Zt,ZhI,ZE,Za,Zae,c_eq,Zh,Zd,ZdG,Zo,Zg,ZG,Zec,Zad,ZW,Zj,Ze,Zf,Zk,Zl,Zb,okB_,zc8,zc9,zc16,zc17,itemsOf,hlen,f0,f1,f2,hk,hr,hfe,hm,hj,hc2,htl,e1,ip]
theorem Its2.kids {gs:List Gi} {L K:Nat} (h:Its2 T gs L K):(∀g∈gs,GiOk T (Ty2 T) (maxK 0 gs) g)∧(maxK 0 gs=0∨∃g∈gs,g.k=maxK 0 gs)∧maxK 0 gs≤K:=by
 refine ⟨fun g hg=>⟨(h.all g hg).good,(Znq gs 0).2 g hg⟩,Zkm gs 0,?_⟩
 rcases Zkm gs 0 with e | ⟨g,hg,e⟩
 ·lia
 ·rw [←e];exact (h.all g hg).kk
theorem grp_wi {gs:List Gi} {L K:Nat} (h:Its2 T gs L K) {v:D} {tag:List UInt8} (ht:tag.length≤100) (hg:Good T (Ty2 T) (grp2 v tag gs).d (grp2 v tag gs).b (grp2 v tag gs).k (grp2 v tag gs).ns):WI T (grp2 v tag gs) (2*L+1000) (K+1):=by
 obtain ⟨hb,hd⟩:=h.byt
 have hk:=h.kids.2.2
 rw [←Zhz gs 0] at hd
 refine ⟨hg,?_,?_,by show maxK 0 gs+1≤_;exact Nat.lt_succ_of_le (by assumption),fun x hx=> ?_⟩
 ·show (tlv tag (bytesG gs)).length≤_
  rw [ZU];have:=ZaW (bytesG gs).length;lia
 ·show (([],v)::nodesFrom 0 (gs.map Gi.wi)).length≤_
  simp only [List.length_cons];lia
 ·rcases List.mem_cons.mp hx with rfl | hx
  ·simp
  ·exact Zqk (L:=L) .none gs 0 (fun g hg=>(h.all g hg).pth) x hx
noncomputable def Wrap (T:Text) (w n:Int) (p q:Gi) (L K:Nat):Prop:=∃g,(∀r,CL T (r+3) 34 [.int w,.int n,itD p,itD q] = .ok (itD g))∧WI T g (2*L+1000) (K+1)
theorem Zgw (B:Law2 T) {w n:Int} {p q:Gi} {L K:Nat} (hL:L≤10000) (hK:K≤80) {gs:List Gi} (h:Its2 T gs L K) (hw:w % 6≠0) {kind:List Nat} {tag:List UInt8} {tg:Bool} {v:D} (ht:tag.length≤100) (hk:D.peq eqDeep (.str kind) (.str sTagged) = .ok tg)
  (hv:v=if tg=true then .tuple [.str kind,.int ((sel numNL n:Nat):Int),p.d] else .tuple [.str kind,.list (gs.map (·.d))])
  (hidx:index (waysD (sel numNL n) p q) (.int (w % 6 - 1)) = .ok (.tuple [.str kind,.bytes tag,.list (gs.map itD)]))
  (hg:Good T (Ty2 T) (grp2 v tag gs).d (grp2 v tag gs).b (grp2 v tag gs).k (grp2 v tag gs).ns):Wrap T w n p q L K:=by
 refine ⟨grp2 v tag gs,fun r=> ?_,grp_wi h ht hg⟩
 obtain ⟨N,hnum,hN,hN2,harc,h191⟩:=ZjI B n
 rw [hnum] at hidx hv
 rw [ZJ B.f34 rfl (by decide)]
 obtain ⟨s6,e⟩:=Zns B (r:=r) hnum harc h191 hw hidx
 show bnd retV (Y T (r+2) Zba _)=_
 exact (congrArg (bnd retV) e).trans (Znu B h hL hK kind tag ht p N v tg hk hv _ _ _ _ _)
theorem Znv (B:Law2 T) (w n:Int) (p q:Gi) (L K:Nat) (hL:L≤10000) (hK:K≤80) (hp:WI T p L K) (hq:WI T q L K):Wrap T w n p q L K:=by
 have i2:∀a b:Gi,WI T a L K→WI T b L K→Its2 T [a,b] L K:=fun a b ha hb=>⟨fun g hg=>by
  simp only [List.mem_cons,List.not_mem_nil,or_false] at hg
  rcases hg with rfl | rfl
  ·exact ha
  ·exact hb,by simp⟩
 have hset:∀a b:Gi,WI T a L K→WI T b L K→lexLt b.b a.b=false→Good T (Ty2 T) (grp2 (.tuple [.str sSet,.list ([a,b].map (·.d))]) [49] [a,b]).d (grp2 (.tuple [.str sSet,.list ([a,b].map (·.d))]) [49] [a,b]).b (grp2 (.tuple [.str sSet,.list ([a,b].map (·.d))]) [49] [a,b]).k (grp2 (.tuple [.str sSet,.list ([a,b].map (·.d))]) [49] [a,b]).ns:=fun a b ha hb hl=>by
  have h:=i2 a b ha hb
  have hbl:=h.byt.1
  exact Zou B.toBase [a,b] (maxK 0 [a,b]) h.kids.1 h.kids.2.1 (by simp) (by lia) (by simp [adjP,lexLe,hl]) (Zqe _)
 have hcase:w % 6=0∨w % 6=1∨w % 6=2∨w % 6=3∨w % 6=4∨w % 6=5:=by lia
 rcases hcase with hw | hw | hw | hw | hw | hw
 ·refine ⟨p,?_,⟨hp.good,by have:=hp.len;lia,by have:=hp.nsl;lia,by have:=hp.kk;exact Nat.le_succ_of_le (by assumption),fun x hx=>by have:=hp.pth x hx;exact Nat.le_succ_of_le (by assumption)⟩⟩
  intro r
  rw [ZJ B.f34 rfl (by decide)]
  simp (disch:=first | decide | assumption | lia) only [Zba,X_k,Zp,ZB,Zr,ZD,Zt,Za,ZaG,c_eq,Zh,Zv,Zd,Zo,ZG,Ze,Zf,Zb,okB_,Zq,zc6,zc7,zc8,zc9,zc10,zc16,zc17,hw]
 ·have h:=i2 p q hp hq
  have hbl:=h.byt.1
  exact Zgw B hL hK h (by lia) (kind:=sSeq) (tag:= [48]) (tg:=false) (by simp) rfl rfl (by rw [hw];rfl) (ZkK B.toBase [p,q] (maxK 0 [p,q]) h.kids.1 h.kids.2.1 (by simp) (by lia) (Znh _))
 ·have h:Its2 T [p] L K:=⟨fun g hg=>by simp only [List.mem_singleton] at hg;subst hg;exact hp,by simp⟩
  obtain ⟨N,hnum,hN,hN2,harc,h191⟩:=ZjI B n
  have hl:=ZbT 100 (N / 128) (Nat.lt_of_le_of_lt (Nat.div_le_self _ _) hN2)
  have hl2:=ZcY N
  have hl3:=ZbT 3 (N / 128) (by
                     have:(128:Nat) ^ 3=2097152:=by decide
                     lia)
  have hpl:=hp.len
  have hG:=Zov B.toBase p N hN2 hp.good (by lia) (ZlC _ _)
  refine Zgw B hL hK h (by lia) (kind:=sTagged) (tag:=tagB N) (tg:=true) (by unfold tagB;split<;>simp [oneB];lia) rfl rfl (by rw [hw,hnum];rfl) ?_
  rw [hnum]
  have e1:bytesG [p]=p.b:=by simp [bytesG]
  have e2:maxK 0 [p]=p.k:=by simp [maxK]
  unfold grp2
  rw [e1,e2]
  exact hG
 ·have h:Its2 T [] L K:=⟨(fun g hg=>nomatch hg),by simp⟩
  exact Zgw B hL hK h (by lia) (kind:=sSeq) (tag:= [48]) (tg:=false) (by simp) rfl rfl (by rw [hw];rfl) (ZkK B.toBase [] (maxK 0 []) h.kids.1 h.kids.2.1 (by simp) (by decide) (Znh _))
 ·exact Zgw B hL hK (i2 p p hp hp) (by lia) (kind:=sSet) (tag:= [49]) (tg:=false) (by simp) rfl rfl (by rw [hw];rfl) (hset p p hp hp (ZjH _))
 ·cases hlex:lexLt q.b p.b with
  | false=>exact Zgw B hL hK (i2 p q hp hq) (by lia) (kind:=sSet) (tag:= [49]) (tg:=false) (by simp) rfl rfl (by rw [hw];unfold waysD pairD;rw [hlex];rfl) (hset p q hp hq hlex)
  | true=>exact Zgw B hL hK (i2 q p hq hp) (by lia) (kind:=sSet) (tag:= [49]) (tg:=false) (by simp) rfl rfl (by rw [hw];unfold waysD pairD;rw [hlex];rfl) (hset q p hq hp (Zhy _ _ hlex))
end DK.Internal.B
end
section
set_option backward.match.sparseCases false
set_option genSizeOf false
set_option genCtorIdx false
namespace DK.Internal.B
open PySem
set_option maxRecDepth 20000
noncomputable def valsL:List D:= [.tuple [.str sBool,.int 1],.tuple [.str sBool,.int 0],.tuple [.str sBool],.tuple [.str sBool,.none],.tuple [.str sInt,.bool true],.tuple [.str sInt,.none],.tuple [.str sInt,.int 1,.int 2],.tuple [.str sEnum,.bool false],.tuple [.str sEnum,.str [49]],.tuple [.str sNull,.none],.tuple [.str sBits,.int 8,.bytes [0]],.tuple [.str sBits,.int (-1),.bytes [0]],.tuple [.str sBits,.int 1,.bytes []],.tuple [.str sBits,.int 1,.bytes [1]],.tuple [.str sBits,.int 7,.bytes [64]],.tuple [.str sBits,.int 4,.bytes [16,8]],.tuple [.str sBits,.bool true,.bytes [0]],.tuple [.str sBits,.int 0,.str [120]],.tuple [.str sBits,.int 0],.tuple [.str sBytes,.str [120]],.tuple [.str sUtf8,.list [.int 65]],.tuple [.str sOid,.list []],.tuple [.str sOid,.list [.int 1]],.tuple [.str sOid,.list [.int 0,.int 40]],.tuple [.str sOid,.list [.int 1,.int 40]],.tuple [.str sOid,.list [.int 3,.int 0]],.tuple [.str sOid,.list [.int 2,.int (-1)]],.tuple [.str sOid,.list [.int (-1),.int 5]],.tuple [.str sOid,.list [.int 1,.int 2,.int (-1)]],.tuple [.str sOid,.tuple [.int 1,.int 2]],.tuple [.str sOid,.list [.int 1,.bool true]],.tuple [.str sTagged,.int (-1),.tuple [.str sNull]],.tuple [.str sTagged,.bool true,.tuple [.str sNull]],.tuple [.str sTagged,.int 0],.tuple [.str sTagged,.int 0,.none],.tuple [.str sSeq,.tuple [.tuple [.str sNull]]],.tuple [.str sSeq,.list [.int 0]],.tuple [.str sSet,.none],.tuple [.str sSet,.list [.tuple [.str sInt,.int 2],.tuple [.str sInt,.int 1]]],.tuple [.str sSet,.list [.tuple [.str sInt,.int 1],.tuple [.str sInt,.int 3],.tuple [.str sInt,.int 2]]],.tuple [.str [111,116,104,101,114],.int 1],.tuple [],.none,.list [.str sNull]]
noncomputable def blobsL:List (List UInt8):= [[1,0],[1,1,1],[1,2,255,255],[2,0],[2,2,0,127],[2,2,255,128],[10,2,0,0],[10,2,255,255],[3,0],[3,1,1],[3,2,8,0],[3,2,1,1],[3,3,4,16,8],[5,1,0],[6,0],[6,1,129],[6,2,128,1],[6,3,42,128,1],[7,0],[16,0],[31,0],[159,2,5,0],[192,2,5,0],[160,0],[160,4,5,0,5,0],[191,30,2,5,0],[191,128,31,2,5,0],[49,6,2,1,2,2,1,1],[48,1,5],[48,1,191],[48,3,4,2,65],[5,129,0],[4,129,1,65],[4,130,0,1,65],[4,128]]
noncomputable def isExc:Out Reply→Bool
 | .exc=>true
 | _=>false
theorem ZoT {o:Out Reply} (h:isExc o=true):o = .exc:=by
 cases o<;>first | rfl | cases h
theorem Zpi {T:Text} {r f:Nat} {xs:List D} (h:isExc (callT fast T r f (xs.map .val))=true):CL T r f xs = .exc:=by
 rw [←fast_eq] at h
 exact congrArg (· >>= retD) (ZoT h)
theorem ZoU:(valsL.all fun v=>isExc (callT fast T2L 298 20 [.val v]))=true:=by decide +kernel
theorem Znw:(blobsL.all fun b=>isExc (callT fast T2L 299 24 [.val (.bytes (tlv [48] (([5,0]++b) ++ [5,0]))),.val (.int 9)]))=true:=by decide +kernel
end DK.Internal.B
end
section
set_option backward.match.sparseCases false
set_option genSizeOf false
set_option genCtorIdx false
namespace DK.Internal.B
open PySem
set_option maxRecDepth 20000
variable {T:Text} {r:Nat}
noncomputable def valsD:D:= .tuple valsL
noncomputable def blobsD:D:= .tuple (blobsL.map .bytes)
theorem hv (sl):X T r ZfK sl = .ok valsD:=by
 simp only [ZfK,X_k,ZhG,ZZ,Zac,Zi,Zc,ZcX,Zd,Zad,ZW,Zj,Zb]
 rfl
theorem hb (sl):X T r ZeZ sl = .ok blobsD:=by
 simp only [ZeZ,X_k,ZZ,Zi,Zc,Zd,Zad,Zj,Zb]
 rfl
theorem ZgQ:builtin .len [valsD] = .ok (.int 44):=rfl
theorem Zgb:builtin .len [blobsD] = .ok (.int 35):=rfl
theorem ZoV (x:Int):index valsD (.int (x % 44)) = .ok (sel valsL x):=by
 have:=Zbi valsL id x 44 rfl (by decide)
 rw [List.map_id] at this;exact this
theorem Zgc (x:Int):index blobsD (.int (x % 35)) = .ok (.bytes (sel blobsL x)):=Zbi blobsL .bytes x 35 rfl (by decide)
theorem lb_0:index (.tuple [.str sTable,.str sTable,.str sTable,.str sTable,.str sPrint,.str sUtf8,.str sUtf8,.str sUtf8,.str sTime,.str sTime,.str sTime,.str sTime]) (.int 0) = .ok (.str sTable):=rfl
theorem lb_1:index (.tuple [.str sTable,.str sTable,.str sTable,.str sTable,.str sPrint,.str sUtf8,.str sUtf8,.str sUtf8,.str sTime,.str sTime,.str sTime,.str sTime]) (.int 1) = .ok (.str sTable):=rfl
theorem lb_2:index (.tuple [.str sTable,.str sTable,.str sTable,.str sTable,.str sPrint,.str sUtf8,.str sUtf8,.str sUtf8,.str sTime,.str sTime,.str sTime,.str sTime]) (.int 2) = .ok (.str sTable):=rfl
theorem lb_3:index (.tuple [.str sTable,.str sTable,.str sTable,.str sTable,.str sPrint,.str sUtf8,.str sUtf8,.str sUtf8,.str sTime,.str sTime,.str sTime,.str sTime]) (.int 3) = .ok (.str sTable):=rfl
noncomputable def bcL:List Nat:= [64,91,96,123,42,33,38,59,60,62,31,128]
theorem ZkW (x:Int):index (.tuple [.int 64,.int 91,.int 96,.int 123,.int 42,.int 33,.int 38,.int 59,.int 60,.int 62,.int 31,.int 128]) (.int (x % 12)) = .ok (.int ((sel bcL x:Nat):Int)):=Zbi bcL nD x 12 rfl (by decide)
theorem bc_ok:∀c∈bcL,c < 256:=by decide
theorem hbz (x:Int):builtin .bytes [.list [.int ((sel bcL x:Nat):Int)]] = .ok (.bytes (oneB (sel bcL x))):=Zaf (bc_ok _ (Zah _ _ (by decide)))
noncomputable def zzB (c:Nat):List UInt8:= [90,122]++oneB c
noncomputable def badPB (c:Nat):List UInt8:=zzB c ++ [48,57]
theorem hcz (c:Nat):binop .Add (.bytes [90,122]) (.bytes (oneB c)) = .ok (.bytes (zzB c)):=ZdL (by simp [oneB,SZ])
theorem hcz2 (c:Nat):binop .Add (.bytes (zzB c)) (.bytes [48,57]) = .ok (.bytes (badPB c)):=ZdL (by simp [zzB,oneB,SZ])
noncomputable def Bad (way x y:Int):Prop:=∃v blob,(∀r,CL T2L (r+3) 35 [.int way,.int x,.int y] = .ok (.tuple [v,.bytes blob]))∧CL T2L 298 20 [v] = .exc∧CL T2L 299 24 [.bytes (tlv [48] (([5,0]++blob) ++ [5,0])),.int 9] = .exc∧blob.length≤1000
theorem Znx (B:Base T):Dc T (.tuple [.str sNull]) [5,0] 0:=
 ⟨fun r pre suf dep _=>ZkG B pre suf dep (by decide),fun r pre suf dep h=>absurd h (by exact Nat.not_lt_zero _),by decide⟩
theorem Zny (B:Base T):En T (.tuple [.str sNull]) [5,0] 0:=fun r=>ZkC B
theorem ZiQ (B:Base T) {v:D} {blob:List UInt8} (h1:Dc T v blob 0) (h2:Eb T v 0) (hl:blob.length≤1000):CL T 299 24 [.bytes (tlv [48] (([5,0]++blob) ++ [5,0])),.int 9] = .exc:=by
 have hd:=ZmH B [⟨.tuple [.str sNull],[5,0],0⟩,⟨v,blob,0⟩,⟨.tuple [.str sNull],[5,0],0⟩] 0 (by
  intro p hp
  simp only [List.mem_cons,List.not_mem_nil,or_false] at hp
  rcases hp with rfl | rfl | rfl
  ·exact ⟨Znx B,Nat.le_refl _⟩
  ·exact ⟨h1,Nat.le_refl _⟩
  ·exact ⟨Znx B,Nat.le_refl _⟩) (.inl rfl) (by simp) (by simp [flatB];lia)
 have he:Eb T (.tuple [.str sSeq,.list [.tuple [.str sNull],v,.tuple [.str sNull]]]) 1:=by
  intro r
  have:=Zht B (r:=r+1) [(.tuple [.str sNull],[5,0])] v [.tuple [.str sNull]] sSeq (.inl rfl) (by
   intro p hp;simp only [List.mem_singleton] at hp;subst hp;exact Zny B r) (by simp) (h2 r)
  exact this
 have:=Zls B (r:=276) hd he 9 (by exact Nat.succ_pos _)
 rw [show flatB [⟨.tuple [.str sNull],[5,0],0⟩,⟨v,blob,0⟩,⟨.tuple [.str sNull],[5,0],0⟩]=([5,0]++blob) ++ [5,0] by simp [flatB]] at this
 exact this
theorem Znz (way x y:Int) (hk:way % 12=0∨way % 12=1∨way % 12=2∨way % 12=3):Bad way x y:=by
 have B:=ZiL
 have mv:=Zah valsL x (by decide)
 have mb:=Zah blobsL y (by decide)
 have hv1:=ZoU
 have hb1:=Znw
 simp only [List.all_eq_true] at hv1 hb1
 refine ⟨sel valsL x,sel blobsL y,?_,Zpi (xs:= [sel valsL x]) (hv1 _ mv),Zpi (xs:= [_,_]) (hb1 _ mb),?_⟩
 ·intro r
  rw [ZJ B.f35 rfl (by decide)]
  generalize hV:sel valsL x=V at *
  have iv:=ZoV x
  rw [hV] at iv
  rcases hk with hk | hk | hk | hk
  ·simp (disch:=first | decide | assumption | lia) only [ZbE,X_k,Zp,ZB,Zx,ZZ,P_bi,Zi,Zc,Zr,ZD,Zz,Zt,Za,ZaG,c_eq,Zh,Zd,Zo,Zg,ZG,Zad,Zj,Ze,Zf,Zk,Zl,Zb,okB_,Zq,zc6,zc7,zc8,zc9,zc16,zc17,hv,hb,ZgQ,Zgb,Zgc,lb_0,hk,ZbR,iv]
  ·simp (disch:=first | decide | assumption | lia) only [ZbE,X_k,Zp,ZB,Zx,ZZ,P_bi,Zi,Zc,Zr,ZD,Zz,Zt,Za,ZaG,c_eq,Zh,Zd,Zo,Zg,ZG,Zad,Zj,Ze,Zf,Zk,Zl,Zb,okB_,Zq,zc6,zc7,zc8,zc9,zc16,zc17,hv,hb,ZgQ,Zgb,Zgc,lb_1,hk,ZbR,iv]
  ·simp (disch:=first | decide | assumption | lia) only [ZbE,X_k,Zp,ZB,Zx,ZZ,P_bi,Zi,Zc,Zr,ZD,Zz,Zt,Za,ZaG,c_eq,Zh,Zd,Zo,Zg,ZG,Zad,Zj,Ze,Zf,Zk,Zl,Zb,okB_,Zq,zc6,zc7,zc8,zc9,zc16,zc17,hv,hb,ZgQ,Zgb,Zgc,lb_2,hk,ZbR,iv]
  ·simp (disch:=first | decide | assumption | lia) only [ZbE,X_k,Zp,ZB,Zx,ZZ,P_bi,Zi,Zc,Zr,ZD,Zz,Zt,Za,ZaG,c_eq,Zh,Zd,Zo,Zg,ZG,Zad,Zj,Ze,Zf,Zk,Zl,Zb,okB_,Zq,zc6,zc7,zc8,zc9,zc16,zc17,hv,hb,ZgQ,Zgb,Zgc,lb_3,hk,ZbR,iv]
 ·have:∀b∈blobsL,b.length≤1000:=by decide
  exact this _ mb
theorem ZnA (way x y:Int) (hk:index (.tuple [.str sTable,.str sTable,.str sTable,.str sTable,.str sPrint,.str sUtf8,.str sUtf8,.str sUtf8,.str sTime,.str sTime,.str sTime,.str sTime]) (.int (way % 12)) = .ok (.str sPrint)):Bad way x y:=by
 have B:=ZiL
 have mv:=Zah bcL x (by decide)
 have hno:=fun r=>Zlz r
 simp only [List.all_eq_true] at hno
 have hno:=fun r=>tx_ok (hno r _ mv)
 have hl:(badPB (sel bcL x)).length=5:=by simp [badPB,zzB,oneB]
 rw [show ([90,122]++oneB (sel bcL x)) ++ [48,57]=badPB (sel bcL x) from rfl] at hno
 have hC:=hcz2 (sel bcL x)
 generalize badPB (sel bcL x)=b at *
 have hen:Eb T2L (.tuple [.str sPrint,.bytes b]) 0:=by
  intro r;exact Zju B.toBase b (hno (r+15)) (by lia)
 refine ⟨.tuple [.str sPrint,.bytes b],tlv (oneB 19) b,?_,hen 278,ZiQ B.toBase ⟨fun r pre suf dep _=>Zjy B.toBase b pre suf dep (by lia),fun r pre suf dep h=>absurd h (by exact Nat.not_lt_zero _),by rw [ZU,ZC];lia⟩ hen (by rw [ZU,ZC];have:=ZaW b.length;lia),by rw [ZU,ZC];have:=ZaW b.length;lia⟩
 intro r
 rw [ZJ B.f35 rfl (by decide)]
 have ht:=ZeF B (r:=r+1) (oneB 19) b (by rw [ZC];exact Nat.succ_pos _) (by lia)
 simp (disch:=first | decide | assumption | lia) only [ZbE,X_k,Zp,ZB,Zx,ZZ,Zac,P_bi,Zs,Zi,Zc,Zr,Zu,ZD,Zz,Zt,Za,ZaG,c_eq,Zh,Zd,Zo,Zg,Zy,Zad,ZW,Zj,Ze,Zf,Zk,Zl,Zb,okB_,Zq,zc6,zc7,zc8,zc9,zc16,zc17,hv,hb,ZkW,hbz,hcz,hk,ZeN,ZeO,ZgH,Zdr B,Zaf,hC,ZjE,ht]
theorem ZnB (y:Int):index gNotUtf8 (.int (y % 29)) = .ok (.str (sel Zax y)):=Zbi Zax .str y 29 rfl (by decide)
theorem ZnC:builtin .len [gNotUtf8] = .ok (.int 29):=rfl
noncomputable def tailL:List (List Nat):= [[],[65]]
theorem idx_s2 (y:Int):index (.tuple [.str [],.str [65]]) (.int (y % 2)) = .ok (.str (sel tailL y)):=Zbi tailL .str y 2 rfl (by decide)
theorem cgB (s:List Nat) (hs:s.length≤60) (s0 s1 s2 s3 s4 s5 s6 s7 s8:Slot):CE T r (.one 8) .nil (.bi .ord (.cons (.var 8) .nil)) (s.map fun c=> .str [c]) [s0,s1,s2,s3,s4,s5,s6,s7,s8] [] = .ok (s.map nD):=by
 rw [Zkh 8 _ (fun d=>rfl) s [] (by simp;exact Nat.le_trans (by assumption) (by decide))];rfl
theorem Zgx (way x y:Int) (hk:index (.tuple [.str sTable,.str sTable,.str sTable,.str sTable,.str sPrint,.str sUtf8,.str sUtf8,.str sUtf8,.str sTime,.str sTime,.str sTime,.str sTime]) (.int (way % 12)) = .ok (.str sUtf8)):Bad way x y:=by
 have B:=ZiL
 have ma:=Zah Zaq y (by decide)
 have mb:=Zah Zax x (by decide)
 have mc:=Zah tailL y (by decide)
 obtain ⟨la,ca⟩:=ZiM _ ma
 obtain ⟨lb,cb⟩:=ZmX _ mb
 have lc:(sel tailL y).length≤1∧∀c∈sel tailL y,c < 256:=by
  have:∀a∈tailL,a.length≤1∧∀c∈a,c < 256:=by decide
  exact this _ mc
 have hno:=fun r=>ZmV r
 simp only [List.all_eq_true] at hno
 have hno:=fun r=>tx_ok (hno r _ ma _ mb _ mc)
 have hc1:binop .Add (.str (sel Zaq y)) (.str (sel Zax x)) = .ok (.str (sel Zaq y++sel Zax x)):=catS (by lia)
 have hc2:binop .Add (.str (sel Zaq y++sel Zax x)) (.str (sel tailL y)) = .ok (.str (sel Zaq y++sel Zax x++sel tailL y)):=catS (by simp only [List.length_append];lia)
 have hby:=ZgC (l:=sel Zaq y++sel Zax x++sel tailL y) (by
  intro c hc
  rcases List.mem_append.mp hc with h | h
  ·rcases List.mem_append.mp h with h | h
   ·exact ca c h
   ·exact cb c h
  ·exact lc.2 c h)
 rw [show (sel Zaq y++sel Zax x++sel tailL y).map UInt8.ofNat=ofS (sel Zaq y++sel Zax x++sel tailL y) from rfl] at hby
 have hl2:(sel Zaq y++sel Zax x++sel tailL y).length≤60:=by simp only [List.length_append];lia
 have hl:(ofS (sel Zaq y++sel Zax x++sel tailL y)).length≤60:=by rw [ofS,List.length_map];exact hl2
 generalize sel Zaq y++sel Zax x++sel tailL y=S at *
 generalize hB:ofS S=b at *
 have hen:Eb T2L (.tuple [.str sUtf8,.bytes b]) 0:=by
  intro r;exact ZkD B.toBase b (hno (r+15)) (by exact Nat.lt_of_le_of_lt (by assumption) (by decide))
 refine ⟨.tuple [.str sUtf8,.bytes b],tlv (oneB 12) b,?_,hen 278,ZiQ B.toBase ⟨fun r pre suf dep _=>ZkF B.toBase b pre suf dep (by exact Nat.lt_of_le_of_lt (by assumption) (by decide)),fun r pre suf dep h=>absurd h (by exact Nat.not_lt_zero _),by rw [ZU,ZC];lia⟩ hen (by rw [ZU,ZC];have:=ZaW b.length;lia),by rw [ZU,ZC];have:=ZaW b.length;lia⟩
 intro r
 rw [ZJ B.f35 rfl (by decide)]
 have ht:=ZeF B (r:=r+1) (oneB 12) b (by rw [ZC];exact Nat.succ_pos _) (by exact Nat.lt_of_le_of_lt (by assumption) (by decide))
 simp (disch:=first | decide | assumption | lia) only [ZbE,X_k,Zp,ZB,Zx,ZZ,Zac,P_bi,ZdD,Zs,Zi,Zc,Zr,ZdE,ZdF,Zu,ZD,Zz,Zt,Za,ZaG,c_eq,Zh,Zd,ZdG,Zo,Zg,ZG,Zy,Zad,ZW,Zj,Ze,Zf,Zk,Zl,Zb,okB_,Zq,zc6,zc7,zc8,zc9,zc16,zc17,hv,hb,ZH B.g6,ZH B.g7,ZkW,hbz,hcz,hcz2,hk,Zfr,Zfs,Zha,Zdr B,Zaf,ZkT,ZnC,ZnB,idx_s2,hc1,hc2,itemsOf,cgB S hl2,hby,ZkS,ht]
theorem Zid (way x y:Int) (hk:index (.tuple [.str sTable,.str sTable,.str sTable,.str sTable,.str sPrint,.str sUtf8,.str sUtf8,.str sUtf8,.str sTime,.str sTime,.str sTime,.str sTime]) (.int (way % 12)) = .ok (.str sTime)) (h2:(1:Int)+way % 2=1):Bad way x y:=by
 have B:=ZiL
 have hno:=Zoy x y
 obtain ⟨⟨l0,_⟩,⟨l1,_⟩,⟨l2,_⟩⟩:=ZgP x y
 have hl:(ofS (text1 x y)).length≤40:=by simp [ofS];exact Nat.le_trans (by assumption) (by decide)
 have hT:=fun r=>(ZmR B (r:=r) x y).2.1
 rw [show (text1 x y).map UInt8.ofNat=ofS (text1 x y) from rfl] at hT
 generalize ofS (text1 x y)=b at *
 have hen:Eb T2L (.tuple [.str sTime,.bytes b]) 0:=by
  intro r;exact (ZiE B.toBase b (ZfF B.toBase b) (by exact Nat.lt_of_le_of_lt (by assumption) (by decide))).trans (if_neg (by rw [hno];decide))
 refine ⟨.tuple [.str sTime,.bytes b],tlv (oneB 24) b,?_,hen 278,ZiQ B.toBase ⟨fun r pre suf dep _=>ZiH B.toBase b pre suf dep (by exact Nat.lt_of_le_of_lt (by assumption) (by decide)),fun r pre suf dep h=>absurd h (by exact Nat.not_lt_zero _),by rw [ZU,ZC];lia⟩ hen (by rw [ZU,ZC];have:=ZaW b.length;lia),by rw [ZU,ZC];have:=ZaW b.length;lia⟩
 intro r
 rw [ZJ B.f35 rfl (by decide)]
 have ht:=ZeF B (r:=r+1) (oneB 24) b (by rw [ZC];exact Nat.succ_pos _) (by exact Nat.lt_of_le_of_lt (by assumption) (by decide))
 simp (disch:=first | decide | assumption | lia) only [ZbE,X_k,Zp,ZB,Zx,ZZ,Zac,P_bi,Zs,Zi,Zc,Zr,Zu,ZD,Zz,Zt,Za,Zae,ZaG,c_eq,Zh,Zd,Zo,Zg,ZG,Zy,Zad,ZW,Zj,Ze,Zf,Zk,Zl,Zb,okB_,Zq,zc6,zc7,zc8,zc9,zc16,zc17,hv,hb,ZkW,hbz,hcz,hcz2,hk,ZcV,ZcW,ZeQ,Zdr B,Zaf,h2,hT,ZiN,ht]
theorem Zie (way x y:Int) (hk:index (.tuple [.str sTable,.str sTable,.str sTable,.str sTable,.str sPrint,.str sUtf8,.str sUtf8,.str sUtf8,.str sTime,.str sTime,.str sTime,.str sTime]) (.int (way % 12)) = .ok (.str sTime)) (h2:(1:Int)+way % 2=2):Bad way x y:=by
 have B:=ZiL
 have hno:=Zoz x y
 obtain ⟨⟨l0,_⟩,⟨l1,_⟩,⟨l2,_⟩⟩:=ZgP x y
 have hl:(ofS (text2 x y)).length≤40:=by simp [ofS];exact Nat.le_trans (by assumption) (by decide)
 have hT:=fun r=>(ZmR B (r:=r) x y).2.2
 rw [show (text2 x y).map UInt8.ofNat=ofS (text2 x y) from rfl] at hT
 generalize ofS (text2 x y)=b at *
 have hen:Eb T2L (.tuple [.str sTime,.bytes b]) 0:=by
  intro r;exact (ZiE B.toBase b (ZfF B.toBase b) (by exact Nat.lt_of_le_of_lt (by assumption) (by decide))).trans (if_neg (by rw [hno];decide))
 refine ⟨.tuple [.str sTime,.bytes b],tlv (oneB 24) b,?_,hen 278,ZiQ B.toBase ⟨fun r pre suf dep _=>ZiH B.toBase b pre suf dep (by exact Nat.lt_of_le_of_lt (by assumption) (by decide)),fun r pre suf dep h=>absurd h (by exact Nat.not_lt_zero _),by rw [ZU,ZC];lia⟩ hen (by rw [ZU,ZC];have:=ZaW b.length;lia),by rw [ZU,ZC];have:=ZaW b.length;lia⟩
 intro r
 rw [ZJ B.f35 rfl (by decide)]
 have ht:=ZeF B (r:=r+1) (oneB 24) b (by rw [ZC];exact Nat.succ_pos _) (by exact Nat.lt_of_le_of_lt (by assumption) (by decide))
 simp (disch:=first | decide | assumption | lia) only [ZbE,X_k,Zp,ZB,Zx,ZZ,Zac,P_bi,Zs,Zi,Zc,Zr,Zu,ZD,Zz,Zt,Za,Zae,ZaG,c_eq,Zh,Zd,Zo,Zg,ZG,Zy,Zad,ZW,Zj,Ze,Zf,Zk,Zl,Zb,okB_,Zq,zc6,zc7,zc8,zc9,zc16,zc17,hv,hb,ZkW,hbz,hcz,hcz2,hk,ZcV,ZcW,ZeQ,Zdr B,Zaf,h2,hT,ZiN,ht]
theorem bad_ok (way x y:Int):Bad way x y:=by
 have:(way % 12=0∨way % 12=1∨way % 12=2∨way % 12=3)∨way % 12=4∨way % 12=5∨way % 12=6∨way % 12=7∨way % 12=8∨way % 12=9∨way % 12=10∨way % 12=11:=by lia
 rcases this with h | h | h | h | h | h | h | h | h
 ·exact Znz way x y h
 ·exact ZnA way x y (by rw [h];rfl)
 ·exact Zgx way x y (by rw [h];rfl)
 ·exact Zgx way x y (by rw [h];rfl)
 ·exact Zgx way x y (by rw [h];rfl)
 ·exact Zid way x y (by rw [h];rfl) (by lia)
 ·exact Zie way x y (by rw [h];rfl) (by lia)
 ·exact Zid way x y (by rw [h];rfl) (by lia)
 ·exact Zie way x y (by rw [h];rfl) (by lia)
end DK.Internal.B
end
section
set_option backward.match.sparseCases false
set_option genSizeOf false
set_option genCtorIdx false
namespace DK.Internal.B
open PySem
set_option maxRecDepth 20000
variable {T:Text} {r:Nat}
theorem ZoW (B:Law2 T) {d:D} {b:List UInt8} (h:CL T r 20 [d] = .ok (.bytes b)):CL T (r+1) 36 [d] = .ok (.bytes b):=by
 rw [ZJ B.f36 rfl (by decide)]
 simp only [Zef,Zp,Zs,Zi,Zc,ZD,Zh,Zd,Zo,Zj,Ze,Zf,Zk,Zl,Zb,Zq,Z_tri,ZiZ,zc6,zc7,zc8,zc9,zc16,zc17,h]
theorem ZoX (B:Law2 T) {d:D} (h:CL T r 20 [d] = .exc):CL T (r+1) 36 [d] = .ok (.str sRefused):=by
 rw [ZJ B.f36 rfl (by decide)]
 simp only [Zef,X_k,Zp,Zs,Zi,Zc,ZD,Zh,Zd,Zo,Zg,Zj,Ze,Zf,Zk,Zl,Zb,Zq,Z_tri,Zks,zc6,zc7,zc8,zc9,zc16,zc17,h]
theorem ZoY (B:Law2 T) {b d e:D} (h:CL T r 24 [b,e] = .ok d):CL T (r+1) 37 [b,e] = .ok d:=by
 rw [ZJ B.f37 rfl (by decide)]
 simp only [Zeg,Zp,Zs,Zi,Zc,ZD,Zh,Zd,Zo,Zj,Ze,Zf,Zk,Zl,Zb,Zq,Z_tri,ZiZ,zc6,zc7,zc8,zc9,zc16,zc17,h]
theorem ZgR (B:Law2 T) {b e:D} (h:CL T r 24 [b,e] = .exc):CL T (r+1) 37 [b,e] = .ok (.str sRefused):=by
 rw [ZJ B.f37 rfl (by decide)]
 simp only [Zeg,X_k,Zp,Zs,Zi,Zc,ZD,Zh,Zd,Zo,Zg,Zj,Ze,Zf,Zk,Zl,Zb,Zq,Z_tri,Zks,zc6,zc7,zc8,zc9,zc16,zc17,h]
theorem law_fe (s0 s1 s2 s3 s4 s5 s6 s7 s8 s9 s10 s13 s14:Slot):∀(ns:List Nd) (s11 s12:Slot),(∀p∈ns,Ty2 T p.2) →
  ∃a b,FE T r (.many [11,12]) ZaO (ns.map (nodeD [])) [s0,s1,s2,s3,s4,s5,s6,s7,s8,s9,s10,s11,s12,s13,s14] = .ok (.next,[s0,s1,s2,s3,s4,s5,s6,s7,s8,s9,s10,a,b,s13,s14]):=by
 intro ns
 induction ns with
 | nil=>intro s11 s12 h;exact ⟨s11,s12,rfl⟩
 | cons n ns ih=>
  intro s11 s12 h
  obtain ⟨a,b,hs⟩:=ih (.val (.list ([]++n.1))) (.val n.2) (fun x hx=>h x (List.mem_cons_of_mem _ hx))
  refine ⟨a,b,?_⟩
  have h1:=h n (List.mem_cons_self ..) r s0 s1 s2 s3 s4 s5 s6 s7 s8 s9 s10 (.val (.list ([]++n.1))) s13 s14
  rw [List.map_cons,ZkZ]
  have hb:bindT [s0,s1,s2,s3,s4,s5,s6,s7,s8,s9,s10,s11,s12,s13,s14] (.many [11,12]) (nodeD [] n) = .ok [s0,s1,s2,s3,s4,s5,s6,s7,s8,s9,s10,.val (.list ([]++n.1)),.val n.2,s13,s14]:=rfl
  rw [hb,ZhV,h1,Zb,ZK,hs]
theorem WI.mono {g:Gi} {L K L' K':Nat} (h:WI T g L K) (hL:L≤L') (hK:K≤K'):WI T g L' K':=
 ⟨h.good,by have:=h.len;exact Nat.le_trans (by assumption) (by assumption),by have:=h.nsl;exact Nat.le_trans (by assumption) (by assumption),by have:=h.kk;exact Nat.le_trans (by assumption) (by assumption),fun p hp=>by have:=h.pth p hp;exact Nat.le_trans (by assumption) (by assumption)⟩
theorem ZnD {d:D} {b:List UInt8} (h:Good T (Ty2 T) d b 0 [([],d)]) (hl:b.length≤500):WI T ⟨d,b,0,[([],d)]⟩ 500 0:=
 ⟨h,hl,by simp,Nat.le_refl _,fun p hp=>by simp only [List.mem_singleton] at hp;subst hp;simp⟩
theorem Zkn (xs:List UInt8) {m:Int} (h0:0≤m) (h:m≤xs.length):slice (.bytes xs) .none (.int m) = .ok (.bytes (xs.take m.toNat)):=by
 obtain ⟨i,rfl⟩:=Int.eq_ofNat_of_zero_le h0
 have e:clip xs.length (i:Nat)=i:=Zhf (Int.ofNat_le.mp h)
 rw [ZlU,e]
 simp [cut]
theorem ZnE {Q:D→Prop} {d:D} {b:List UInt8} {k:Nat} {ns:List Nd} (h:Good T Q d b k ns) (hk:k≤20):D.peq eqDeep (.list (ns.map (nodeD []))) (.list (ns.map (nodeD []))) = .ok true:=by
 refine peq_l 63 _ ?_
 intro x hx
 obtain ⟨n,hn,rfl⟩:=List.mem_map.mp hx
 obtain ⟨h1,h2,h3⟩:=h.nd n hn
 refine ZfW 62 _ (mem2 (h2 61) ?_)
 have:=h1 (60 - 2*k)
 rw [show 60 - 2*k+2+2*k=62 by lia] at this
 exact this
theorem law2_true (zs:List Int):∃sl,callT real T2L 301 38 [.val (.list (zs.map .int))] = .ok (.ret (.bool true),sl):=by
 have B:=ZiL
 rw [ZjT B.f38 rfl (by decide)]
 have hlen:(((zs.map D.int).length:Nat):Int)=zs.length:=by simp
 by_cases h18:zs.length < 18
 ·refine ⟨[.val (.list (zs.map .int))],?_⟩
  simp (disch:=first | decide | assumption | lia) only [c_law,X_k,Zp,P_bi,Zi,Zc,Zr,ZD,Zt,Za,c_lt,ZaV,ZgJ,Zd,Zo,ZP,Zj,Ze,Zb,Zq,zc8,zc9,zc16,zc17,hlen,List.take]
 ·obtain ⟨s,hs⟩:∃s:Nat→Int,∀i,s i=zs.getD i 0:=⟨_,fun i=>rfl⟩
  have hI:∀i:Nat,i < 18→index (.list (zs.map .int)) (.int (i:Nat)) = .ok (.int (s i)):=by
   intro i hi
   rw [ZbB (by simp;lia),hs]
   simp [List.getD,List.getElem?_eq_getElem (by lia:i < zs.length)]
  have i0:index (.list (zs.map .int)) (.int 0) = .ok (.int (s 0)):=hI 0 (by exact Nat.succ_pos _)
  have i1:index (.list (zs.map .int)) (.int 1) = .ok (.int (s 1)):=hI 1 (by exact Nat.le_add_left _ _)
  have i2:index (.list (zs.map .int)) (.int 2) = .ok (.int (s 2)):=hI 2 (by exact Nat.le_add_left _ _)
  have i3:index (.list (zs.map .int)) (.int 3) = .ok (.int (s 3)):=hI 3 (by exact Nat.le_add_left _ _)
  have i4:index (.list (zs.map .int)) (.int 4) = .ok (.int (s 4)):=hI 4 (by exact Nat.le_add_left _ _)
  have i5:index (.list (zs.map .int)) (.int 5) = .ok (.int (s 5)):=hI 5 (by exact Nat.le_add_left _ _)
  have i6:index (.list (zs.map .int)) (.int 6) = .ok (.int (s 6)):=hI 6 (by exact Nat.le_add_left _ _)
  have i7:index (.list (zs.map .int)) (.int 7) = .ok (.int (s 7)):=hI 7 (by exact Nat.le_add_left _ _)
  have i8:index (.list (zs.map .int)) (.int 8) = .ok (.int (s 8)):=hI 8 (by exact Nat.le_add_left _ _)
  have i9:index (.list (zs.map .int)) (.int 9) = .ok (.int (s 9)):=hI 9 (by exact Nat.le_add_left _ _)
  have i10:index (.list (zs.map .int)) (.int 10) = .ok (.int (s 10)):=hI 10 (by exact Nat.le_add_left _ _)
  have i11:index (.list (zs.map .int)) (.int 11) = .ok (.int (s 11)):=hI 11 (by exact Nat.le_add_left _ _)
  have i12:index (.list (zs.map .int)) (.int 12) = .ok (.int (s 12)):=hI 12 (by exact Nat.le_add_left _ _)
  have i13:index (.list (zs.map .int)) (.int 13) = .ok (.int (s 13)):=hI 13 (by exact Nat.le_add_left _ _)
  have i14:index (.list (zs.map .int)) (.int 14) = .ok (.int (s 14)):=hI 14 (by exact Nat.le_add_left _ _)
  have i15:index (.list (zs.map .int)) (.int 15) = .ok (.int (s 15)):=hI 15 (by exact Nat.le_add_left _ _)
  have i16:index (.list (zs.map .int)) (.int 16) = .ok (.int (s 16)):=hI 16 (by exact Nat.le_add_left _ _)
  have i17:index (.list (zs.map .int)) (.int 17) = .ok (.int (s 17)):=hI 17 (by exact Nat.lt_succ_self _)
  clear hI
  obtain ⟨d1,b1,e1,g1,l1⟩:=Zkl B (s 0) (s 1) (s 2)
  obtain ⟨d2,b2,e2,g2,l2⟩:=Zkl B (s 3) (s 4) (s 5)
  obtain ⟨d3,b3,e3,g3,l3⟩:=Zkl B (s 6) (s 7) (s 8)
  obtain ⟨gi,ei,wi⟩:=Znv B (s 9) (s 10) _ _ 500 0 (by exact Nat.le_add_left _ _) (by exact Nat.zero_le _) (ZnD g1 l1) (ZnD g2 l2)
  obtain ⟨g,eg,wg⟩:=Znv B (s 11) (s 12) gi _ 2000 1 (by exact Nat.le_add_left _ _) (by exact Nat.succ_pos _) wi ((ZnD g3 l3).mono (by exact Nat.le_add_left _ _) (by exact Nat.zero_le _))
  have E1:=e1 297
  have E2:=e2 297
  have E3:=e3 297
  have EI:=ei 297
  have EG:=eg 297
  rw [show itD ⟨d1,b1,0,[([],d1)]⟩=leafD d1 b1 from rfl,show itD ⟨d2,b2,0,[([],d2)]⟩=leafD d2 b2 from rfl] at EI
  rw [show itD ⟨d3,b3,0,[([],d3)]⟩=leafD d3 b3 from rfl] at EG
  have hG:=wg.good
  have hgl:=wg.len
  have hgk:=wg.kk
  have hgn:=wg.nsl
  have hen:=hG.en (279 - g.k)
  rw [show 279 - g.k+20+g.k=299 by lia] at hen
  have hen:=ZoW B hen
  have hpe:=hG.pe (62 - 2*g.k)
  rw [show 62 - 2*g.k+2+2*g.k=eqDeep by show _=64;lia] at hpe
  obtain ⟨m,hm⟩:∃m:Nat,s 17 % 3=(m:Nat):=⟨(s 17 % 3).toNat,by lia⟩
  have hdd:=ZmJ B.toBase (r:=278 - 2*g.k) hG.dc hG.en (g.k+m) (by exact Nat.le_add_right _ _)
  rw [show 278 - 2*g.k+21+2*g.k=299 by lia] at hdd
  have hdd:=ZoY B hdd
  have em:((g.k:Nat):Int)+(m:Nat)=((g.k+m:Nat):Int):=by rfl
  have hwk:=ZpV B.toBase (r:=296 - g.k) hG.wk (by exact Nat.le_trans (by assumption) (by decide)) (by exact Nat.le_trans (by assumption) (by decide))
  rw [show 296 - g.k+4+g.k=300 by lia] at hwk
  have hpn:=ZnE hG (by exact Nat.le_trans (by assumption) (by decide))
  have hty:∀p∈g.ns,Ty2 T2L p.2:=fun p hp=>(hG.nd p hp).2.2
  have hpos:0 < g.b.length:=hG.dc.pos
  have hc0:=Int.emod_nonneg (s 16) (by lia:(g.b.length:Int)≠0)
  have hc1:=Int.emod_lt_of_pos (s 16) (by exact Int.ofNat_lt.mpr (by assumption):(0:Int) < g.b.length)
  have hct:=hG.ct 278 (s 16 % (g.b.length:Nat)).toNat 9 (by lia)
  have hct:=ZgR B (Zib B.toBase (r:=297) hct)
  have hsl:=Zkn g.b hc0 (by exact Int.le_of_lt (by assumption))
  have hlg:=Zkg B.toBase (r:=278 - 2*g.k) hG.dc [lowB (s 16)] (by simp) 9 (by exact Nat.le_trans (by assumption) (by decide))
  rw [show 278 - 2*g.k+21+2*g.k=299 by lia] at hlg
  have hlg:=ZgR B hlg
  have hcat:binop .Add (.bytes g.b) (.bytes [lowB (s 16)]) = .ok (.bytes (g.b ++ [lowB (s 16)])):=ZdL (by simp [SZ];exact Nat.le_trans (by assumption) (by decide))
  obtain ⟨v,blob,eb,bv,bb,bl⟩:=bad_ok (s 13) (s 14) (s 15)
  have EB:=eb 297
  have hbe:=Zht B.toBase (r:=279) [(.tuple [.str sNull],[5,0])] v [.tuple [.str sNull]] sSeq (.inl rfl) (by
   intro p hp;simp only [List.mem_singleton] at hp;subst hp;exact Zny B.toBase 278) (by simp) bv
  have hbe:=ZoX B hbe
  simp only [List.map_cons,List.map_nil,List.singleton_append] at hbe
  have hbd:=ZgR B bb
  have ht:=ZeF B (r:=299) [48] (([5,0]++blob) ++ [5,0]) (by simp) (by simp;lia)
  have ca:binop .Add (.bytes [5,0]) (.bytes blob) = .ok (.bytes ([5,0]++blob)):=ZdL (by simp [SZ];lia)
  have cb:binop .Add (.bytes ([5,0]++blob)) (.bytes [5,0]) = .ok (.bytes (([5,0]++blob) ++ [5,0])):=ZdL (by simp [SZ];exact Nat.le_trans (by assumption) (by decide))
  generalize ([5,0]++blob) ++ [5,0]=BB at *
  generalize [5,0]++blob=BA at *
  have hlow:0 < g.k→CL T2L 300 37 [.bytes g.b,.int ((g.k:Nat) - 1:Int)] = .ok (.str sRefused):=by
   intro h
   have hlo:=Zlr B.toBase (r:=278 - 2*g.k) hG.dc (g.k - 1) (by lia)
   rw [show 278 - 2*g.k+21+2*g.k=299 by lia] at hlo
   rw [show ((g.k:Nat):Int) - 1=((g.k - 1:Nat):Int) by lia]
   exact ZgR B hlo
  simp only [itD] at EI EG
  generalize hN:g.ns.map (nodeD [])=N at *
  generalize gi.ns.map (nodeD [])=NI at *
  generalize leafD d1 b1=LA at *
  generalize leafD d2 b2=LB at *
  generalize leafD d3 b3=LC at *
  generalize hL:zs.map D.int=L at *
  obtain ⟨p,q,hfe⟩:=law_fe (T:=T2L) (r:=300) (.val (.list L)) (.val (.tuple [gi.d,.bytes gi.b,.int (gi.k:Nat),.list NI])) (.val g.d) (.val (.bytes g.b)) (.val (.int (g.k:Nat))) (.val (.list N)) (.val (.tuple [gi.d,.bytes gi.b,.int (gi.k:Nat),.list NI])) (.val (.tuple [g.d,.bytes g.b,.int (g.k:Nat),.list N])) (.val (.bytes g.b)) (.val g.d) (.val (.list N)) .un .un g.ns .un .un hty
  rw [hN] at hfe
  simp only [Nat.reduceAdd,show ((9:Nat):Int)=9 from rfl] at E1 E2 E3 EI EG hen hdd hct hlg EB hbe hbd ht
  refine ⟨[.val (.list L)],?_⟩
  by_cases hk0:0 < g.k
  ·have hlow:=hlow hk0
   simp (disch:=first | lia | rfl) only [c_law,X_k,Zp,ZB,Zx,Zbk,ZZ,Zac,P_bi,Zs,Zi,Zc,Zfi,Zaw,R_or,Zr,ZdE,Zu,ZD,Zz,Zeo,Zt,ZhI,ZE,Za,Zae,ZaC,ZaG,c_ne,c_lt,c_gt,Zn,ZaV,ZgJ,ZdM,Zd,Zap,Zo,Zg,ZdH,Zpc,Zy,ZA,Zec,Zcy,Zai,Zad,ZW,Zj,Zdp,Ze,Zf,Zk,Zl,Zb,okB_,ZaF,Zq,zc4,zc8,zc9,zc10,zc16,zc17,ix4_0,hlen,i0,i1,i2,i3,i4,i5,i6,i7,i8,i9,i10,i11,i12,i13,i14,i15,i16,i17,E1,E2,E3,EI,EG,hen,typ_y,c_is,ZjD,hpe,hm,em,hdd,hwk,hpn,itemsOf,hfe,hsl,hct,Zdq,ZaI,hcat,hlg,EB,hbe,ca,cb,ht,hbd,List.take,hlow]
  ·simp (disch:=first | lia | rfl) only [c_law,X_k,Zp,ZB,Zx,Zbk,ZZ,Zac,P_bi,Zs,Zi,Zc,Zfi,Zaw,R_or,Zr,ZdE,Zu,ZD,Zz,Zeo,Zt,ZhI,ZE,Za,Zae,ZaG,c_ne,c_lt,c_gt,Zn,ZaV,ZgJ,ZdM,Zd,Zap,Zo,Zg,ZdH,Zpc,Zy,ZA,Zec,Zat,Zai,Zad,ZW,Zj,Zdp,Ze,Zf,Zk,Zl,Zb,okB_,ZaF,Zq,zc4,zc8,zc9,zc10,zc16,zc17,ix4_0,hlen,i0,i1,i2,i3,i4,i5,i6,i7,i8,i9,i10,i11,i12,i13,i14,i15,i16,i17,E1,E2,E3,EI,EG,hen,typ_y,c_is,ZjD,hpe,hm,em,hdd,hwk,hpn,itemsOf,hfe,hsl,hct,Zdq,ZaI,hcat,hlg,EB,hbe,ca,cb,ht,hbd,List.take]
end DK.Internal.B
end
section
set_option backward.match.sparseCases false
set_option genSizeOf false
set_option genCtorIdx false
namespace DK.Internal
open PySem PyProof.Rows
set_option genSizeOf false
set_option genInjectivity false
noncomputable def Ty.name:Ty→String
 | .tBytes=> "bytes" | .tTuple=> "tuple" | .tList=> "list" | .tInt=> "int" | .tBool=> "bool" | .tStr=> "str" | .tNone=> "NoneType"
noncomputable def fas (l:List Env):List Addr:=l.filterMap (·.frame)
structure Def where
 name:Str
 ps:List Str
 names:List (Str × NameKind)
 body:List Stmt
structure Prg where
 prog:Program
 w:World
 T:Text
 defs:List Def
 fns:List (Str × Nat)
 gls:List (Str × Nat)
 io:List (Str × List Bool)
 gh:Heap
 mg:Str→Option Value
 mb:Str→Option Value
structure Cx where
 P:Prg
 r:Nat
 A:Around
 base:Heap
 l:List Env
noncomputable abbrev Cx.M (Y:Cx):Model:=model Y.P.prog Y.P.w
abbrev Zm:=Addr→Option Obj
def Sub (Z:Zm) (h:Heap):Prop:=∀b o,Z b=some o→h.get? b=some o
noncomputable abbrev lstO (vs:List Value) (n:Nat):Obj:={ cls:= .type "list",dict:=none,data:= .seq vs.toArray n,slots:=#[] }
noncomputable abbrev tupO (vs:List Value) (n:Nat):Obj:={ cls:= .type "tuple",dict:=none,data:= .seq vs.toArray n,slots:=#[] }
noncomputable def Flat (v:Value):D→Prop
 | .int i=>∃t,v = .int i t
 | .str s=>∃x t,v = .str x t∧x.cps.size≤SZ∧x.cps.toList=s
 | _=>False
noncomputable def FlatO:Option Value→Option D→Prop
 | none,none=>True
 | some v,some d=>Flat v d
 | _,_=>False
structure DictAt (P:Prg) (Z:Zm) {κ : Type} [DecidableEq κ] (kd:PySem.KeyKind P.prog P.w κ) (key : κ→D) (isK:D→Bool) (a:Addr) (ks vs:List D):Prop where
 sys:(a == sysModules)=false
 ne:ks≠[]
 len:ks.length=vs.length
 all:ks.all isK=true
 at_:∃f,(∀h,Sub Z h→h.MapOf kd a f)∧∀k,FlatO (f k) (dget (key k) ks vs)
section
variable (P:Prg) (Z:Zm)
mutual
noncomputable def Rep:D→Value→Prop
 | .none,v=>v = .none
 | .bool b,v=>v = .bool b
 | .int i,v=>∃t,v = .int i t
 | .str s,v=>∃x t,v = .str x t∧x.cps.size≤SZ∧x.cps.toList=s
 | .bytes b,v=>∃x t,v = .bytes x t∧x.size≤SZ∧x.toList=b
 | .typ t,v=>v = .type t.name
 | .tuple xs,v=>∃a vs n,v = .ref a∧Z a=some (tupO vs n)∧vs.length≤SZ∧Reps xs vs
 | .list xs,v=>∃a vs n,v = .ref a∧Z a=some (lstO vs n)∧vs.length≤SZ∧Reps xs vs
 | .dict ks vs,v=>∃a,v = .ref a∧(DictAt P Z (strKind P.prog P.w) (fun s=> .str s.cps.toList) isStr a ks vs∨DictAt P Z (intKind P.prog P.w) .int isInt a ks vs)
noncomputable def Reps:List D→List Value→Prop
 | [],vs=>vs = []
 | d::ds,vs=>∃v us,vs=v::us∧Rep d v∧Reps ds us
end
end
section
variable {P:Prg} {Z Z':Zm}
def Zle (Z Z':Zm):Prop:=∀b o,Z b=some o→Z' b=some o
theorem DictAt.mono {κ : Type} [DecidableEq κ] {kd:PySem.KeyKind P.prog P.w κ} {key isK a ks vs} (x:DictAt P Z kd key isK a ks vs) (k:Zle Z Z'):DictAt P Z' kd key isK a ks vs:=
 ⟨x.sys,x.ne,x.len,x.all,x.at_.elim fun f y=>⟨f,fun h q=>y.1 h fun b o e=>q b o (k b o e),y.2⟩⟩
mutual
theorem Rep.mono (k:Zle Z Z') (d:D):∀{v:Value},Rep P Z d v→Rep P Z' d v:=by
 cases d with
 | tuple xs=>exact fun r=>by obtain ⟨a,vs,n,e,h,z,q⟩:=r;exact ⟨a,vs,n,e,k _ _ h,z,Reps.mono k xs q⟩
 | list xs=>exact fun r=>by obtain ⟨a,vs,n,e,h,z,q⟩:=r;exact ⟨a,vs,n,e,k _ _ h,z,Reps.mono k xs q⟩
 | dict ks vs=>exact fun r=>by obtain ⟨a,e,q⟩:=r;exact ⟨a,e,q.imp (·.mono k) (·.mono k)⟩
 | _=>exact fun r=>r
theorem Reps.mono (k:Zle Z Z') (ds:List D):∀{vs:List Value},Reps P Z ds vs→Reps P Z' ds vs:=by
 cases ds with
 | nil=>exact fun r=>r
 | cons d ds=>exact fun r=>by obtain ⟨v,us,e,q,qs⟩:=r;exact ⟨v,us,e,Rep.mono k d q,Reps.mono k ds qs⟩
end
theorem Rep.up {d:D} {v:Value} (r:Rep P Z d v) (k:Zle Z Z'):Rep P Z' d v:=Rep.mono k d r
theorem Reps.up {d:List D} {v:List Value} (r:Reps P Z d v) (k:Zle Z Z'):Reps P Z' d v:=Reps.mono k d r
theorem Reps.ind {mo:List D→List Value→Prop} (h0:mo [] []) (h1:∀d v ds vs,Rep P Z d v→Reps P Z ds vs→mo ds vs→mo (d::ds) (v::vs)) (ds:List D):∀{vs:List Value},Reps P Z ds vs→mo ds vs:=by
 induction ds with
 | nil=>intro vs r;cases (show vs = [] from r);exact h0
 | cons d ds ih=>intro vs r;obtain ⟨v,us,rfl,a,q⟩:=r;exact h1 d v ds us a q (ih q)
theorem Reps.nil:Reps P Z [] []:=rfl
theorem Reps.cons {d:D} {ds:List D} {v:Value} {vs:List Value} (a:Rep P Z d v) (r:Reps P Z ds vs):Reps P Z (d::ds) (v::vs):=⟨v,vs,rfl,a,r⟩
theorem Reps.length {ds:List D} {vs:List Value} (r:Reps P Z ds vs):vs.length=ds.length:=
 r.ind (mo:=fun ds vs=>vs.length=ds.length) rfl fun _ _ _ _ _ _ e=>congrArg (· + 1) e
theorem Reps.append {ds es:List D} {vs ws:List Value} (r:Reps P Z ds vs) (q:Reps P Z es ws):Reps P Z (ds++es) (vs++ws):=
 r.ind (mo:=fun ds vs=>Reps P Z (ds++es) (vs++ws)) q fun _ _ _ _ a _ e=> .cons a e
theorem Reps.get {ds:List D} {vs:List Value} (r:Reps P Z ds vs):∀{j:Nat} {d:D},ds[j]?=some d→∃v,vs[j]?=some v∧Rep P Z d v:=
 r.ind (mo:=fun ds vs=>∀{j:Nat} {d:D},ds[j]?=some d→∃v,vs[j]?=some v∧Rep P Z d v) (fun {_ _} e=>nomatch e) fun d v ds vs a _ e {j _} h=>by
  cases j with
  | zero=>cases h;exact ⟨v,rfl,a⟩
  | succ j=>exact e h
theorem Reps.set {ds:List D} {vs:List Value} (r:Reps P Z ds vs):∀(j:Nat) {d:D} {v:Value},Rep P Z d v→Reps P Z (ds.set j d) (vs.set j v):=
 r.ind (mo:=fun ds vs=>∀(j:Nat) {d:D} {v:Value},Rep P Z d v→Reps P Z (ds.set j d) (vs.set j v)) (fun _ {_ _} _=>rfl) fun _ _ _ _ a q e j {_ _} h=>by
  cases j with
  | zero=>exact .cons h q
  | succ j=>exact .cons a (e j h)
theorem Reps.take {ds:List D} {vs:List Value} (r:Reps P Z ds vs):∀n:Nat,Reps P Z (ds.take n) (vs.take n):=
 r.ind (mo:=fun ds vs=>∀n:Nat,Reps P Z (ds.take n) (vs.take n)) (fun n=>by rw [List.take_nil,List.take_nil];rfl) fun _ _ _ _ a q e n=>by
  cases n with
  | zero=>rfl
  | succ n=>exact .cons a (e n)
theorem Reps.drop {ds:List D} {vs:List Value} (r:Reps P Z ds vs):∀n:Nat,Reps P Z (ds.drop n) (vs.drop n):=
 r.ind (mo:=fun ds vs=>∀n:Nat,Reps P Z (ds.drop n) (vs.drop n)) (fun n=>by rw [List.drop_nil,List.drop_nil];rfl) fun _ _ _ _ a q e n=>by
  cases n with
  | zero=>exact .cons a q
  | succ n=>exact e n
theorem Reps.replicate {ds:List D} {vs:List Value} (r:Reps P Z ds vs) (n:Nat):Reps P Z (List.replicate n ds).flatten (List.replicate n vs).flatten:=by
 induction n with
 | zero=>rfl
 | succ n ih=>rw [List.replicate_succ,List.replicate_succ];exact r.append ih
theorem Reps.reverse {ds:List D} {vs:List Value} (r:Reps P Z ds vs):Reps P Z ds.reverse vs.reverse:=
 r.ind (mo:=fun ds vs=>Reps P Z ds.reverse vs.reverse) rfl fun _ _ _ _ a _ e=>by rw [List.reverse_cons,List.reverse_cons];exact e.append (.cons a rfl)
end
structure KS (W:Addr→Prop) (Ls:List Addr) (h h':Heap):Prop where
 keep:∀b o,h.get? b=some o→¬W b→b∉Ls→h'.get? b=some o
 fr:∀b o,h.get? b=some o→¬W b→b∈Ls→∃sl,h'.get? b=some { o with slots:=sl }
 alive:∀b o,h.get? b=some o→W b→b∈Ls→(∀vs,o.data≠.fields vs)→∃o',h'.get? b=some o'∧∀vs,o'.data≠.fields vs
abbrev No:Addr→Prop:=fun _=>False
section
variable {W W':Addr→Prop} {Ls:List Addr} {h h' h₁ h₂ h₃:Heap}
theorem KS.stay (x:KS W Ls h h') {b o} (e:h.get? b=some o) (nw:¬W b):∃o',h'.get? b=some o'∧o'.data=o.data:=by
 by_cases m:b∈Ls
 ·obtain ⟨sl,q⟩:=x.fr b o e nw m;exact ⟨_,q,rfl⟩
 ·exact ⟨o,x.keep b o e nw m,rfl⟩
theorem KS.gone (x:KS W Ls h h') {b} (e:h'.get? b=none):W b∨h.get? b=none:=by
 by_cases w:W b
 ·exact .inl w
 ·cases q:h.get? b with
  | none=>exact .inr rfl
  | some o=>obtain ⟨o',e',_⟩:=x.stay q w;rw [e] at e';cases e'
theorem KS.trans (x:KS W Ls h₁ h₂) (y:KS W' Ls h₂ h₃) (n:∀b,W' b→W b∨h₁.get? b=none):KS W Ls h₁ h₃:=by
 have no:∀b o,h₁.get? b=some o→¬W b→¬W' b:=fun b o e nw q=>(n b q).elim nw fun z=>by rw [z] at e;cases e
 refine ⟨fun b o e nw m=>y.keep b o (x.keep b o e nw m) (no b o e nw) m,fun b o e nw m=> ?_,fun b o e q m nf=> ?_⟩
 ·obtain ⟨sl,e'⟩:=x.fr b o e nw m
  obtain ⟨sl',e''⟩:=y.fr b _ e' (no b o e nw) m
  exact ⟨sl',e''⟩
 ·obtain ⟨o',e',nf'⟩:=x.alive b o e q m nf
  by_cases q':W' b
  ·exact y.alive b o' e' q' m nf'
  ·obtain ⟨sl',e''⟩:=y.fr b _ e' q' m;exact ⟨_,e'',nf'⟩
theorem KS.of_keeps (k:∀b o,h.get? b=some o→h'.get? b=some o):KS W Ls h h':=
 ⟨fun b o e _ _=>k b o e,fun b o e _ _=>⟨o.slots,k b o e⟩,fun b o e _ _ nf=>⟨o,k b o e,nf⟩⟩
end
structure Go (W:Addr→Prop) (Y:Cx) (Z:Zm) (s:Shared) (Z':Zm) (s':Shared):Prop where
 ks:KS W (fas Y.l) s.heap s'.heap
 le:Zle Z Z'
 new:∀b,Z' b≠none→Z b≠none∨W b∨s.heap.get? b=none
 sub:Sub Z' s'.heap
 same:s'={ s with heap:=s'.heap,toks:=s'.toks }
abbrev Nx:=Go No
section
variable {Y:Cx} {Z Z' Z₁ Z₂:Zm} {s s' s₁ s₂:Shared} {W W':Addr→Prop}
theorem Go.trans (x:Go W Y Z s Z₁ s₁) (y:Go W' Y Z₁ s₁ Z₂ s₂) (n:∀b,W' b→W b∨s.heap.get? b=none):Go W Y Z s Z₂ s₂ where
 ks:=x.ks.trans y.ks n
 le b o e:=y.le b o (x.le b o e)
 new b e:=(y.new b e).elim (x.new b) fun q=> .inr (q.elim (n b) x.ks.gone)
 sub:=y.sub
 same:=y.same.trans (by rw [x.same])
theorem Go.nx (x:Go W Y Z s Z₁ s₁) (y:Nx Y Z₁ s₁ Z₂ s₂):Go W Y Z s Z₂ s₂:=x.trans y fun _ q=>q.elim
theorem Nx.go (x:Nx Y Z s Z₁ s₁) (y:Go W Y Z₁ s₁ Z₂ s₂):Go W Y Z s Z₂ s₂:=
 Go.trans (W:=W) ⟨⟨fun b o e _ m=>x.ks.keep b o e id m,fun b o e _ m=>x.ks.fr b o e id m,fun b o e _ m nf=>let ⟨sl,q⟩:=x.ks.fr b o e id m;⟨_,q,nf⟩⟩,x.le,fun b e=>(x.new b e).imp id (Or.imp False.elim id),x.sub,x.same⟩ y fun _ q=> .inl q
theorem Go.refl (h:Sub Z s.heap) (tk:Nat):Go W Y Z s Z { s with toks:=tk }:=⟨.of_keeps fun _ _ e=>e,fun _ _ e=>e,fun _ e=> .inl e,h,rfl⟩
theorem Go.self (h:Sub Z s.heap):Go W Y Z s Z s:=⟨.of_keeps fun _ _ e=>e,fun _ _ e=>e,fun _ e=> .inl e,h,rfl⟩
theorem Go.keeps (h:Sub Z s.heap) {h':Heap} (k:∀b o,s.heap.get? b=some o→h'.get? b=some o) (tk:Nat):Go W Y Z s Z { s with heap:=h',toks:=tk }:=
 ⟨.of_keeps k,fun _ _ e=>e,fun _ e=> .inl e,fun b o e=>k b o (h b o e),rfl⟩
theorem Go.zle (x:Go W Y Z s Z' s'):Zle Z Z':=x.le
noncomputable def Zput (Z:Zm) (a:Addr) (o:Obj):Zm:=fun b=>if b=a then some o else Z b
theorem ZqH {a:Addr} {o:Obj} (h:Z a=none):Zle Z (Zput Z a o):=fun b o' e=>by
 unfold Zput;rw [if_neg (fun q=>by rw [q,h] at e;cases e)];exact e
theorem Zqs {a:Addr} {o:Obj}:Zput Z a o a=some o:=if_pos rfl
theorem Sub.fresh (h:Sub Z s.heap) {a:Addr} (e:s.heap.get? a=none):Z a=none:=by
 cases q:Z a with
 | none=>rfl
 | some o=>rw [h a o q] at e;cases e
theorem Sub.put {h:Heap} {a:Addr} {o:Obj} (x:Sub Z h) (e:h.get? a=some o):Sub (Zput Z a o) h:=fun b o' q=>by
 unfold Zput at q
 split at q
 ·rename_i z;cases q;rw [z];exact e
 ·exact x b o' q
theorem Go.put (h:Sub Z s.heap) {h':Heap} {a:Addr} {o:Obj} (k:∀b o,s.heap.get? b=some o→h'.get? b=some o) (fr:s.heap.get? a=none) (e:h'.get? a=some o) (tk:Nat):Nx Y Z s (Zput Z a o) { s with heap:=h',toks:=tk } where
 ks:= .of_keeps k
 le:=ZqH (h.fresh fr)
 new b e:=by
  by_cases q:b=a
  ·exact .inr (.inr (q ▸ fr))
  ·exact .inl (by rwa [Zput,if_neg q] at e)
 sub:=Sub.put (fun b o e=>k b o (h b o e)) e
 same:=rfl
theorem Go.push (h:Sub Z s.heap) {o:Obj} (ho:o.isFreed=false) (tk:Nat):Nx Y Z s (Zput Z s.heap.objs.size o) { s with heap:=s.heap.push o,toks:=tk }:=
 .put h (fun _ _ e=>Heap.get?_push_of_some _ e) (Heap.get?_none_of_le (Nat.le_refl _)) (Heap.get?_push_size _ ho) tk
end
end DK.Internal
end
section
set_option backward.match.sparseCases false
set_option genSizeOf false
set_option genCtorIdx false
namespace DK.Internal
open PySem PyProof.Rows
abbrev VE:Value:= .type "ValueError"
def ExcNew (base:Heap) (l:List Env) (e:Addr) (a0:Value) (h:Heap):Prop:=
 base.StaysIn h∧base.get? e=none∧h.FunFrames base l∧∃oe vs,h.get? e=some oe∧oe.cls=VE∧oe.data = .fields vs∧vs[0]?=some a0∧vs[1]?=some .none
def Exc (base:Heap) (l:List Env) (e:Addr) (h:Heap):Prop:=
 ∃a0,ExcNew base l e a0 h∨Heap.FlyingW base l e VE a0 h∨∃env rest L,l=env::rest∧env.frame=some L∧Heap.HeldW base l e VE a0 L h
def HeldAt (base:Heap) (env:Env) (outer:List Env) (e:Addr) (h:Heap):Prop:=∃a0 L,env.frame=some L∧Heap.HeldW base (env::outer) e VE a0 L h
def Fly (base:Heap) (l:List Env) (e:Addr) (h:Heap):Prop:=∃a0,Heap.FlyingW base l e VE a0 h
theorem Fly.exc {base:Heap} {l:List Env} {e:Addr} {h:Heap} (x:Fly base l e h):Exc base l e h:=x.imp fun _ y=> .inr (.inl y)
theorem HeldAt.exc {base:Heap} {env:Env} {outer:List Env} {e:Addr} {h:Heap} (x:HeldAt base env outer e h):Exc base (env::outer) e h:=
 x.imp fun _ y=>y.elim fun L z=> .inr (.inr ⟨env,outer,L,rfl,z.1,z.2⟩)
theorem Exc.of_new {base:Heap} {l:List Env} {e:Addr} {h h':Heap} (hb:base.StaysIn h) (hl:h.FunFrames base l) (x:Heap.NewExc h h' e "ValueError"):Exc base l e h':=by
 obtain ⟨ob,t,he,hc,hd⟩:=x.there
 refine ⟨t,.inl ⟨fun b o q=>x.keeps b o (hb b o q),?_,hl.of_keeps fun b o q _=>⟨o,x.keeps b o q,rfl⟩,ob,_,he,hc,hd,rfl,rfl⟩⟩
 cases hq:base.get? e with
 | none=>rfl
 | some o'=>have:=hb e o' hq;rw [x.new] at this;cases this
section
variable {M:Model} {A:Around} {E:Value→Shared→Prop} {s:Shared} {base:Heap} {env:Env} {outer:List Env} {L e:Addr} {Q:Unit→Shared→Prop}
theorem ZsA (hfr:A.frames=some (env::outer)) (hf:env.frame=some L) (X:Exc base (env::outer) e s.heap)
  (hQ:∀h',HeldAt base env outer e h'→s.heap.UpToSlots h'→Q () { s with heap:=h' }):wpAny M A (noteFrame (.ref e) env) Q E s:=by
 obtain ⟨a0,X | X | ⟨env',rest,L',hl,hf',X⟩⟩:=X
 ·obtain ⟨k1,k2,k3,oe,vs,he,hc,hd,h0,h1⟩:=X
  unfold noteFrame
  simp only [hf]
  refine wpAny_bind (wpAny_field he hd h1 ?_)
  rw [if_neg (by decide)]
  refine wpAny_entryW hfr k3 hf he k1 k2 hd (Array.getElem?_eq_some_iff.mp h1).1 h0 fun h' N=> ?_
  obtain ⟨n1,n2,n3,n4⟩:=N
  exact hQ h' ⟨a0,L,hf,n1,k2,n2,hc ▸ n3⟩ n4
 ·exact wpAny_looks_onW hfr hf X fun h' H U=>hQ h' ⟨a0,L,hf,H⟩ U
 ·injection hl with e1 e2
  subst e1;subst e2
  have:L=L':=Option.some.inj (hf.symm.trans hf')
  subst this
  exact wpAny_noteFrame_againW hf X.2.2.2 (hQ _ ⟨a0,L,hf,X⟩ (.refl _))
theorem ZrT (X:HeldAt base env outer e s.heap) (hQ:∀h',Fly base (env::outer) e h'→s.heap.UpToSlots h'→Q () { s with heap:=h' }):wpAny M A (setFlight (.ref e) none) Q E s:=by
 obtain ⟨a0,L,hf,X⟩:=X
 exact wpAny_landsW X fun h' F U=>hQ h' ⟨a0,F⟩ U
theorem ZtE {l:List Env} (X:Fly base l e s.heap) (hQ:∀h',Fly base l e h'→s.heap.UpToSlots h'→Q () { s with heap:=h' }):wpAny M A (setFlight (.ref e) none) Q E s:=by
 obtain ⟨a0,X⟩:=X
 exact lands_againW X fun h' F U=>hQ h' ⟨a0,F⟩ U
theorem Ztd (hfr:A.frames=some (env::outer)) (hf:env.frame=some L) (X:Exc base (env::outer) e s.heap)
  (hQ:∀h',Fly base outer e h'→s.heap.UpToSlots h'→Q () { s with heap:=h' }):wpAny M A (leaving env (.ref e)) Q E s:=by
 unfold leaving
 refine wpAny_bind (ZsA hfr hf X fun h₁ H U=> ?_)
 refine ZrT (s:={ s with heap:=h₁ }) H fun h₂ F U'=> ?_
 obtain ⟨a0,k1,k2,⟨_,_,k3⟩,k4⟩:=F
 exact hQ h₂ ⟨a0,k1,k2,k3,k4⟩ (U.trans U')
theorem Zsk {msg:String} (X:HeldAt base env outer e s.heap) (hQ:∀h',HeldAt base env outer e h'→s.heap.UpToSlots h'→Q () { s with heap:=h' }) :
  wpAny M A (do
         if (←field (.ref e) 1) == .none then unsupported msg
         setFlight (.ref e) env.frame) Q E s:=by
 obtain ⟨a0,L,hf,k1,k2,k3,oe,vs,T,oT,ts,he,⟨hcls,h0⟩,hd,h1,hnT,hTe,hT,hdT,h3⟩:=X
 have hsz3:3 < ts.size:=(Array.getElem?_eq_some_iff.mp h3).1
 refine wpAny_bind (wpAny_field he hd h1 ?_)
 rw [if_neg (by simp)]
 have other:∀b,b≠T→(s.heap.update T (Obj.mapFields (·.setIfInBounds 3 ((some L:Option Addr).elim Value.none fun f=>rawInt f)))).get? b=s.heap.get? b:=fun b hb=>Heap.get?_update_other _ _ (Ne.symm hb)
 have noRecord:∀b o,s.heap.get? b=some o→(∀vs,o.data≠.fields vs)→b≠T:=fun b o hb hnf q=>by
  rw [q,hT] at hb;injection hb with hb;subst hb;exact hnf ts hdT
 unfold setFlight
 refine wpAny_bind (wpAny_field he hd h1 ?_)
 rw [if_pos (show (Value.ref T != Value.none)=true from by simp),hf]
 refine wpAny_setField hT hdT hsz3 (hQ _ ?_ fun b o hb hnf=>⟨o.slots,(other b (noRecord b o hb hnf)).trans hb⟩)
 refine ⟨a0,L,hf,fun b o hbo=>(other b fun q=>by rw [q,hnT] at hbo;cases hbo).trans (k1 b o hbo),k2,k3.of_keeps fun b o hb hnf=>⟨o,(other b (noRecord b o hb hnf)).trans hb,rfl⟩,?_⟩
 exact ⟨oe,vs,T,_,_,(other e (Ne.symm hTe)).trans he,⟨hcls,h0⟩,hd,h1,hnT,hTe,Heap.get?_update_self _ hT (Obj.isFreed_of_fields (Obj.data_mapFields hdT _)),Obj.data_mapFields hdT _,by simp [hsz3]⟩
end
theorem Exc.base {base B:Heap} {l:List Env} {e:Addr} {h:Heap} (k:base.StaysIn B) (X:Exc B l e h):Exc base l e h:=by
 have fresh:∀{b:Addr},B.get? b=none→base.get? b=none:=fun {b} q=>by
  cases z:base.get? b with
  | none=>rfl
  | some o=>have:=k b o z;rw [q] at this;cases this
 have ff:∀{l:List Env},h.FunFrames B l→h.FunFrames base l:=by
  intro l
  induction l with
  | nil=>intro _;trivial
  | cons env rest ih=>rintro ⟨hk,⟨L,o,hf,hn,ho,hd⟩,hr⟩;exact ⟨hk,⟨L,o,hf,fresh hn,ho,hd⟩,ih hr⟩
 obtain ⟨a0,X | X | ⟨env',rest,L',hl,hf',X⟩⟩:=X
 ·obtain ⟨k1,k2,k3,r⟩:=X
  exact ⟨a0,.inl ⟨fun b o q=>k1 b o (k b o q),fresh k2,ff k3,r⟩⟩
 ·obtain ⟨k1,k2,k3,oe,vs,T,oT,ts,a1,a2,a3,a4,a5,a6⟩:=X
  exact ⟨a0,.inr (.inl ⟨fun b o q=>k1 b o (k b o q),fresh k2,ff k3,oe,vs,T,oT,ts,a1,a2,a3,a4,fresh a5,a6⟩)⟩
 ·obtain ⟨k1,k2,k3,oe,vs,T,oT,ts,a1,a2,a3,a4,a5,a6⟩:=X
  exact ⟨a0,.inr (.inr ⟨env',rest,L',hl,hf',fun b o q=>k1 b o (k b o q),fresh k2,ff k3,oe,vs,T,oT,ts,a1,a2,a3,a4,fresh a5,a6⟩)⟩
structure Ex (W:Addr→Prop) (Y:Cx) (s:Shared) (x:Addr) (s':Shared):Prop where
 us:∀b o,s.heap.get? b=some o→¬W b→(∀vs,o.data≠.fields vs)→∃sl,s'.heap.get? b=some { o with slots:=sl }
 exc:Exc Y.base Y.l x s'.heap
 same:s'={ s with heap:=s'.heap,toks:=s'.toks }
noncomputable def K {α β:Type} (Y:Cx) (Z:Zm) (R:Zm→β→α→Prop) (o:Out β) (Q:α→Shared→Prop) (E:Value→Shared→Prop) (s:Shared):Prop:=
 match o with
 | .ok d=>∀v Z' s',Nx Y Z s Z' s'→R Z' d v→Q v s'
 | .exc=>∀x s',Ex No Y s x s'→E (.ref x) s'
 | .stuck=>False
section
variable {α α' β β':Type} {Y:Cx} {Z Z':Zm} {R:Zm→β→α→Prop} {R':Zm→β'→α'→Prop} {Q:α→Shared→Prop} {Q':α'→Shared→Prop} {E:Value→Shared→Prop} {s s':Shared} {o:Out β} {W W':Addr→Prop}
theorem Go.ex {x:Addr} (g:Go W Y Z s Z' s') {s₂:Shared} (e:Ex W' Y s' x s₂) (n:∀b,W' b→W b∨s.heap.get? b=none):Ex W Y s x s₂ where
 us b o h nw nf:=by
  have nw':¬W' b:=fun q=>(n b q).elim nw fun z=>by rw [z] at h;cases h
  by_cases m:b∈fas Y.l
  ·obtain ⟨sl,q⟩:=g.ks.fr b o h nw m
   obtain ⟨sl',q'⟩:=e.us b _ q nw' nf
   exact ⟨sl',q'⟩
  ·exact e.us b o (g.ks.keep b o h nw m) nw' nf
 exc:=e.exc
 same:=e.same.trans (by rw [g.same])
theorem K.go (k:K Y Z R o Q E s) (g:Nx Y Z s Z' s'):K Y Z' R o Q E s':=by
 cases o with
 | ok d=>exact fun v Z₂ s₂ y r=>k v Z₂ s₂ (g.nx y) r
 | exc=>exact fun x s₂ y=>k x s₂ (g.ex y fun _ q=>q.elim)
 | stuck=>exact k
theorem K.bindE {f:β→Out β'} (k:K Y Z R' (o>>=f) Q' E s) (g:∀d v Z' s',o = .ok d→Nx Y Z s Z' s'→R Z' d v→K Y Z' R' (f d) Q' E s'→Q v s'):K Y Z R o Q E s:=by
 cases o with
 | ok d=>exact fun v Z' s' x r=>g d v Z' s' rfl x r (K.go (o:=f d) k x)
 | exc=>exact k
 | stuck=>exact k
theorem K.bind {f:β→Out β'} (k:K Y Z R' (o>>=f) Q' E s) (g:∀d v Z' s',Nx Y Z s Z' s'→R Z' d v→K Y Z' R' (f d) Q' E s'→Q v s'):K Y Z R o Q E s:=
 k.bindE fun d v Z' s' _=>g d v Z' s'
theorem K.ok {d:β} {v:α} (k:K Y Z R (.ok d) Q E s) (h:Sub Z s.heap) (r:R Z d v) (tk:Nat):Q v { s with toks:=tk }:=k v Z _ (.refl h tk) r
theorem K.okS {d:β} {v:α} (k:K Y Z R (.ok d) Q E s) (h:Sub Z s.heap) (r:R Z d v):Q v s:=k v Z s (.self h) r
theorem K.need {c:Prop} [Decidable c] (k:K Y Z R (need c o) Q E s) (g:c→K Y Z R o Q E s→Q' v' s'):Q' v' s':=by
 unfold DK.Internal.need at k
 split at k
 ·exact g ‹_› k
 ·exact k.elim
end
section
variable {Y:Cx} {Z:Zm} {Q:Value→Shared→Prop} {E:Value→Shared→Prop} {s:Shared}
theorem K.newL {xs:List D} {vs:List Value} (k:K Y Z (Rep Y.P) (.ok (.list xs)) Q E s) (h:Sub Z s.heap) (r:Reps Y.P Z xs vs) (z:vs.length≤SZ) (tk:Nat):Q (.ref s.heap.objs.size) { s with heap:=s.heap.push { cls:= .type "list",data:= .seq vs.toArray },toks:=tk }:=
 have g:Nx Y Z s _ _:= .push h (o:=lstO vs 0) rfl tk
 k _ _ _ g ⟨_,vs,0,rfl,Zqs,z,r.up g.le⟩
theorem K.newT {xs:List D} {vs:List Value} (k:K Y Z (Rep Y.P) (.ok (.tuple xs)) Q E s) (h:Sub Z s.heap) (r:Reps Y.P Z xs vs) (z:vs.length≤SZ) (tk:Nat):Q (.ref s.heap.objs.size) { s with heap:=s.heap.push { cls:= .type "tuple",data:= .seq vs.toArray },toks:=tk }:=
 have g:Nx Y Z s _ _:= .push h (o:=tupO vs 0) rfl tk
 k _ _ _ g ⟨_,vs,0,rfl,Zqs,z,r.up g.le⟩
end
theorem Zqr:SZ≤sizeLine:=by unfold SZ sizeLine;decide
end DK.Internal
end
section
set_option backward.match.sparseCases false
set_option genSizeOf false
set_option genCtorIdx false
set_option maxRecDepth 100000
namespace DK.Internal
open PySem PyProof.Rows PySem.SeqAt
section
variable {P:Prg} {Z:Zm}
theorem rNone:Rep P Z .none .none:=rfl
theorem ZqV (b:Bool):Rep P Z (.bool b) (.bool b):=rfl
theorem rInt (i:Int) (t:Tok):Rep P Z (.int i) (.int i t):=⟨t,rfl⟩
theorem rStr (x:Str) (t:Tok) (z:x.cps.size≤SZ):Rep P Z (.str x.cps.toList) (.str x t):=⟨x,t,rfl,z,rfl⟩
theorem ZtZ (x:Array UInt8) (t:Tok) (z:x.size≤SZ):Rep P Z (.bytes x.toList) (.bytes x t):=⟨x,t,rfl,z,rfl⟩
theorem ZrJ {b:List UInt8} (t:Tok) (z:b.length≤SZ):Rep P Z (.bytes b) (.bytes b.toArray t):=⟨_,t,rfl,z,rfl⟩
theorem rFlat {v:Value} {d:D} (h:Flat v d):Rep P Z d v:=by
 cases d with
 | int i=>exact h
 | str s=>exact h
 | _=>exact False.elim h
end
section
variable {α β:Type} {Y:Cx} {Z:Zm} {R:Zm→β→α→Prop} {Q:α→Shared→Prop} {E:Value→Shared→Prop} {s:Shared} {o:Out β}
theorem K.ite {c G:Prop} [Decidable c] (k:K Y Z R (if c then o else .stuck) Q E s) (g:c→K Y Z R o Q E s→G):G:=by
 by_cases h:c
 ·rw [if_pos h] at k;exact g h k
 ·rw [if_neg h] at k;exact False.elim k
theorem K.keeps {d:β} {v:α} {h':Heap} (k:K Y Z R (.ok d) Q E s) (hs:Sub Z s.heap) (hk:∀b o,s.heap.get? b=some o→h'.get? b=some o) (tk:Nat) (r:R Z d v):Q v { s with heap:=h',toks:=tk }:=k v Z _ (.keeps hs hk tk) r
end
section
variable {α β:Type} {Y:Cx} {Z:Zm} {R:Zm→β→α→Prop} {Q:α→Shared→Prop} {E:Value→Shared→Prop} {s:Shared} {x:D} {v:Value} {G:Value→Prop}
@[elab_as_elim] theorem K.onInt {f:Int→Out β} (k:K Y Z R (onInt f x) Q E s) (r:Rep Y.P Z x v) (g:∀i t,K Y Z R (f i) Q E s→G (.int i t)):G v:=by
 cases x with
 | int i=>obtain ⟨t,rfl⟩:=r;exact g i t k
 | _=>exact False.elim k
@[elab_as_elim] theorem K.onBool {f:Bool→Out β} (k:K Y Z R (onBool f x) Q E s) (r:Rep Y.P Z x v) (g:∀b,K Y Z R (f b) Q E s→G (.bool b)):G v:=by
 cases x with
 | bool i=>cases r;exact g i k
 | _=>exact False.elim k
@[elab_as_elim] theorem K.onStr {f:List Nat→Out β} (k:K Y Z R (onStr f x) Q E s) (r:Rep Y.P Z x v) (g:∀(y:Str) t,y.cps.size≤SZ→K Y Z R (f y.cps.toList) Q E s→G (.str y t)):G v:=by
 cases x with
 | str i=>obtain ⟨y,t,rfl,z,rfl⟩:=r;exact g y t z k
 | _=>exact False.elim k
@[elab_as_elim] theorem K.onBytes {f:List UInt8→Out β} (k:K Y Z R (onBytes f x) Q E s) (r:Rep Y.P Z x v) (g:∀(y:Array UInt8) t,y.size≤SZ→K Y Z R (f y.toList) Q E s→G (.bytes y t)):G v:=by
 cases x with
 | bytes i=>obtain ⟨y,t,rfl,z,rfl⟩:=r;exact g y t z k
 | _=>exact False.elim k
@[elab_as_elim] theorem K.onLst {f:List D→Out β} (hs:Sub Z s.heap) (k:K Y Z R (onLst f x) Q E s) (r:Rep Y.P Z x v) (g:∀xs a vs n,s.heap.get? a=some (lstO vs n)→vs.length≤SZ→Reps Y.P Z xs vs→K Y Z R (f xs) Q E s→G (.ref a)):G v:=by
 cases x with
 | list i=>obtain ⟨a,vs,n,rfl,e,z,q⟩:=r;exact g i a vs n (hs _ _ e) z q k
 | _=>exact False.elim k
@[elab_as_elim] theorem K.onTup {f:List D→Out β} (hs:Sub Z s.heap) (k:K Y Z R (onTup f x) Q E s) (r:Rep Y.P Z x v) (g:∀xs a vs n,s.heap.get? a=some (tupO vs n)→vs.length≤SZ→Reps Y.P Z xs vs→K Y Z R (f xs) Q E s→G (.ref a)):G v:=by
 cases x with
 | tuple i=>obtain ⟨a,vs,n,rfl,e,z,q⟩:=r;exact g i a vs n (hs _ _ e) z q k
 | _=>exact False.elim k
end
variable {Y:Cx} {Z:Zm} {s:Shared} {Q:Value→Shared→Prop} {E:Value→Shared→Prop}
theorem Zsl {a b:Int} (ha:small a=true):IntMulOk a b:=by
 have h:a.natAbs < 4294967296:=of_decide_eq_true ha
 exact .of_left (intBits_le_64 (by omega) (by omega))
theorem ZtF {n:Nat} (h:n < BIG):n.log2 < 8192:=by
 rcases Nat.eq_zero_or_pos n with h0 | hp
 ·rw [h0];decide
 ·refine (Nat.log2_lt (Nat.ne_of_gt hp)).mpr ?_
  unfold BIG at h
  exact h
theorem ZsI {a n:Int} (ha:a.natAbs < BIG) (hn:n≤8192):(Builtin.Int.intBits a:Int)+n≤2 ^ 27:=by
 have:=ZtF ha
 unfold Builtin.Int.intBits
 split<;>lia
theorem ZsJ {a b:Int} (ha:0≤a) (hb:0≤b):Builtin.bitAnd a b=(a.toNat &&& b.toNat:Nat):=by
 unfold Builtin.bitAnd
 rw [decide_eq_true ha,decide_eq_true hb]
theorem Zte {a b:Int} (ha:0≤a) (hb:0≤b):Builtin.bitOr a b=(a.toNat ||| b.toNat:Nat):=by
 unfold Builtin.bitOr Builtin.bitAnd Builtin.bitNot
 rw [decide_eq_false (by lia:¬0≤-a - 1),decide_eq_false (by lia:¬0≤-b - 1)]
 show -(-(((-(-a - 1) - 1).toNat ||| (-(-b - 1) - 1).toNat:Nat):Int) - 1) - 1=_
 rw [show -(-a - 1) - 1=a by lia,show -(-b - 1) - 1=b by lia]
 lia
theorem int_op {op:Operator} {a b:Int} {t u:Tok} (hs:Sub Z s.heap) (k:K Y Z (Rep Y.P) (intOp a b op) Q E s):wpAny Y.M Y.A (binaryOp op (.int a t) (.int b u)) Q E s:=by
 cases op with
 | Add=>exact add_int (k.ok hs (rInt _ _) _)
 | Sub=>exact sub_int (k.ok hs (rInt _ _) _)
 | Mult=>exact k.ite fun hc k=>mul_int (k.ok hs (rInt _ _) _) (Zsl hc.1)
 | FloorDiv=>exact k.ite fun hc k=>floordiv_int (by lia) (by rw [Int.fdiv_eq_ediv_of_nonneg _ (Int.le_of_lt hc.1)];exact k.ok hs (rInt _ _) _) (.inl (PyProof.noPylong_small (by omega)))
 | Mod=>exact k.ite fun hc k=>mod_int (Int.ne_of_gt hc) (by rw [Int.fmod_eq_emod_of_nonneg _ (Int.le_of_lt hc)];exact k.ok hs (rInt _ _) _)
 | LShift=>exact k.ite fun hc k=>lshift_int hc.1 (ZsI hc.2.2 hc.2.1) (k.ok hs (rInt _ _) _)
 | RShift=>exact k.ite fun hc k=>rshift_int hc (by rw [Int.fdiv_eq_ediv_of_nonneg _ (Int.pow_nonneg (by decide))];exact k.ok hs (rInt _ _) _)
 | BitAnd=>exact k.ite fun hc k=>and_int (by rw [ZsJ hc.1 hc.2];exact k.ok hs (rInt _ _) _)
 | BitOr=>exact k.ite fun hc k=>or_int (by rw [Zte hc.1 hc.2];exact k.ok hs (rInt _ _) _)
 | _=>exact False.elim k
theorem foldl_append (l:List (Array Value)):∀acc:Array Value,(List.foldl (fun x1 x2=>x1++x2) acc l).toList=acc.toList++(l.map Array.toList).flatten:=by
 induction l with
 | nil=>intro acc;exact (List.append_nil _).symm
 | cons a r ih=>intro acc;rw [List.foldl_cons,ih,Array.toList_append,List.append_assoc];rfl
theorem Ztf (vs:List Value) (n:Nat):(List.foldl (fun x1 x2=>x1++x2) #[] (List.replicate (if vs.toArray.isEmpty=true then 0 else n) vs.toArray))=((List.replicate n vs).flatten).toArray:=by
 apply Array.ext'
 rw [foldl_append]
 cases vs with
 | nil=>simp
 | cons v vs=>rw [if_neg (by simp)];simp
theorem ZsB {a:Addr} {vs:List Value} {n:Nat} {x:Int} {u:Tok} (hl:s.heap.get? a=some (lstO vs n)) (h0:0≤x) (hx:x≤SZ) (hsz:vs.length*x.toNat≤SZ)
  (h:Q (.ref s.heap.objs.size) { s with heap:=s.heap.push { cls:= .type "list",data:= .seq ((List.replicate x.toNat vs).flatten).toArray } }):wpAny Y.M Y.A (binaryOp .Mult (.ref a) (.int x u)) Q E s:=by
 rw [←Ztf vs x.toNat] at h
 unfold SZ at hx hsz
 exact wpAny_binaryOp_repeat_ref (T:= "list") (U:= "int") (by decide) ⟨_,hl,rfl⟩ (fun s'=>typeIs_int s' x u) noFill_list_mul F.fills_int_mul F.slot_int_rmul repeat_list F.slot_int_index.lookup
  (call_meets F.slot_int_rmul (typeIs_int s x u) F.entry_int_rmul (F.args_int_rmul_2 _ _) (int___rmul___int_list x u a vs.toArray n)
   ⟨hl,rfl,⟨_,hl,rfl⟩,call_meets F.slot_list_mul ⟨_,hl,rfl⟩ F.entry_list_mul (F.args_list_mul_2 _ _)
    (AutoListH.list___mul___list_int_3 a vs.toArray n x u (by simp [Builtin.List.listFitsIndex];lia) (by rw [List.size_toArray];lia) (by simp [Builtin.List.listTooLong,sizeLine];exact Nat.le_trans (by assumption) (by decide)))
    ⟨hl,h⟩⟩)
theorem Ztg {vs:List Value} {n:Nat}:((List.replicate n vs).flatten).length=vs.length*n:=by simp [Nat.mul_comm]
theorem Zsm {op:Operator} {va vb:Value} {x y:D} (hs:Sub Z s.heap) (ra:Rep Y.P Z x va) (rb:Rep Y.P Z y vb) (k:K Y Z (Rep Y.P) (binop op x y) Q E s):wpAny Y.M Y.A (binaryOp op va vb) Q E s:=by
 cases x with
 | int a=>obtain ⟨t,rfl⟩:=ra;exact K.onInt k rb fun b u k=>int_op hs k
 | bytes a=>
  obtain ⟨a,t,rfl,za,rfl⟩:=ra
  cases op with
  | Add=>exact K.onBytes k rb fun b u zb k=>k.ite fun hc k=>W.bytes_add_K (b:=a.toList) (c:=b.toList) (Nat.le_trans hc (by decide)) rfl fun t' tk=>k.ok hs (ZrJ t' (by rw [List.length_append];exact hc)) _
  | Mult=>
   refine K.onInt k rb fun n u k=>k.ite fun hc k=>W.bytes_mul_any (b:=a.toList) hc.2.2.1 (by lia) (by lia) hc.2.2.2 fun t' tk=>k.ok hs (ZrJ t' ?_) _
   rw [List.length_flatten,List.map_replicate,List.sum_replicate_nat]
   exact Nat.le_trans (Nat.mul_le_mul (show n.toNat≤50000 by lia) hc.2.2.2) (by decide)
  | _=>exact False.elim k
 | str a=>
  obtain ⟨a,t,rfl,za,rfl⟩:=ra
  cases op with
  | Add=>
   refine K.onStr k rb fun b u zb k=>k.ite fun hc k=>add_str (fun t' tk=> ?_) (Nat.le_trans (by rw [Array.length_toList,Array.length_toList] at hc;exact hc) Zqr)
   have r:Rep Y.P Z _ _:=rStr (a++b) t' (by rw [←Array.length_toList,show (a++b).cps.toList=a.cps.toList++b.cps.toList from Array.toList_append,List.length_append];exact hc)
   rw [show (a++b).cps.toList=a.cps.toList++b.cps.toList from Array.toList_append] at r
   exact k.ok hs r _
  | _=>exact False.elim k
 | list a=>
  obtain ⟨a1,v1,n1,rfl,e1,z1,q1⟩:=ra
  cases op with
  | Add=>
   refine K.onLst hs k rb fun b a2 v2 n2 e2 z2 q2 k=>k.ite fun hc k=> ?_
   have hl:(v1++v2).length≤SZ:=by rw [List.length_append,q1.length,q2.length];exact hc
   refine P.add_list (hs _ _ e1) e2 ?_ (by rw [List.length_append] at hl;exact Nat.le_trans hl Zqr)
   rw [List.append_toArray]
   exact k.newL hs (q1.append q2) hl _
  | Mult=>
   refine K.onInt k rb fun n u k=>k.ite fun hc k=> ?_
   rw [←q1.length] at hc
   exact ZsB (hs _ _ e1) hc.1 hc.2.2 hc.2.1 (k.newL hs (q1.replicate _) (by rw [Ztg];exact hc.2.1) _)
  | _=>exact False.elim k
 | _=>exact False.elim k
theorem ZqY {n:Nat} {i:Int} {j:Nat} (h:place n i=some j):seqIndex? i n=some j∧j < n∧(if i < 0 then i+n else i)=(j:Int):=by
 unfold place at h
 unfold seqIndex?
 dsimp only at h ⊢
 generalize (if i < 0 then i+(n:Int) else i)=m at h ⊢
 by_cases hc:0≤m∧m < n
 ·rw [if_pos hc] at h
  have hj:=Option.some.inj h
  refine ⟨?_,by lia,by lia⟩
  rw [if_pos (by simpa using hc)]
  exact h
 ·rw [if_neg hc] at h;cases h
theorem ZsC {ks:List D} (hn:ks≠[]) (h1:ks.all isInt=true) (h2:ks.all isStr=true):False:=by
 cases ks with
 | nil=>exact hn rfl
 | cons c cs=>
  rw [List.all_cons,Bool.and_eq_true] at h1 h2
  cases c<;>first | exact absurd h1.1 Bool.false_ne_true | exact absurd h2.1 Bool.false_ne_true
def Items (Y:Cx) (va vi:Value) (Q:Value→Shared→Prop) (E:Value→Shared→Prop) (s:Shared):Prop:=
 ∃T id,s.TypeIs va T∧typeLookup (.type T) "__getitem__" = pure (some (.builtin id))∧wpAny Y.M Y.A (getItem va vi) Q E s
theorem K.atL {xs:List D} {n:Nat} {i:Int} {vs:List Value} {G:Prop} (k:K Y Z (Rep Y.P) (atL xs (place n i)) Q E s) (q:Reps Y.P Z xs vs)
  (g:∀j d v,place n i=some j→vs[j]?=some v→Rep Y.P Z d v→K Y Z (Rep Y.P) (.ok d) Q E s→G):G:=by
 cases hj:place n i with
 | none=>rw [hj] at k;exact False.elim k
 | some j=>
  rw [hj] at k
  unfold DK.Internal.atL at k
  dsimp only at k
  cases hd:xs[j]? with
  | none=>rw [hd] at k;exact False.elim k
  | some d=>
   rw [hd] at k
   obtain ⟨v,hv,rv⟩:=q.get hd
   exact g j d v hj hv rv k
theorem Zsn {va vi:Value} {x y:D} (hs:Sub Z s.heap) (ra:Rep Y.P Z x va) (ri:Rep Y.P Z y vi) (k:K Y Z (Rep Y.P) (index x y) Q E s):Items Y va vi Q E s:=by
 have hsz:SZ=1000000:=rfl
 cases x with
 | tuple xs=>
  obtain ⟨a,vs,n,rfl,e,z,q⟩:=ra
  refine K.onInt k ri fun i t k=>k.atL q fun j d v hj hv rv k=> ?_
  rw [←q.length] at hj
  obtain ⟨h1,h2,h3⟩:=ZqY hj
  exact ⟨"tuple",_,⟨_,hs _ _ e,rfl⟩,F.slot_tuple_getitem.lookup,P.getItem_tuple (hs _ _ e) (by lia) (by lia) h1 (List.getElem?_toArray.trans hv) (k.okS hs rv)⟩
 | list xs=>
  obtain ⟨a,vs,n,rfl,e,z,q⟩:=ra
  refine K.onInt k ri fun i t k=>k.atL q fun j d v hj hv rv k=> ?_
  rw [←q.length] at hj
  obtain ⟨h1,h2,h3⟩:=ZqY hj
  have hL:s.heap.IsList a vs.toArray:=⟨_,hs _ _ e,rfl,n,rfl⟩
  refine ⟨"list",_,⟨_,hs _ _ e,rfl⟩,slot_list_getitem.lookup,?_⟩
  by_cases hi:i < 0
  ·rw [if_pos hi] at h3
   exact wpAny_getItem_list_neg hL hi (by rw [List.size_toArray];lia) (by lia) (by rw [List.size_toArray,h3];exact List.getElem?_toArray.trans hv) (k.okS hs rv)
  ·rw [if_neg hi] at h3
   exact wpAny_getItem_list hL (by exact Int.not_lt.mp (by assumption)) (by lia) (by rw [h3];exact List.getElem?_toArray.trans hv) (k.okS hs rv)
 | bytes xs=>
  obtain ⟨b,tb,rfl,z,rfl⟩:=ra
  refine K.onInt k ri fun i t k=> ?_
  cases hj:place b.toList.length i with
  | none=>rw [hj] at k;exact False.elim k
  | some j=>
   rw [hj] at k
   unfold atB at k
   dsimp only at k
   cases hd:b.toList[j]? with
   | none=>rw [hd] at k;exact False.elim k
   | some d=>
    rw [hd] at k
    rw [Array.length_toList] at hj
    obtain ⟨h1,h2,h3⟩:=ZqY hj
    refine ⟨"bytes",_,rfl,W.FB.slot_bytes_getitem.lookup,?_⟩
    refine getItem_gives (m:= .int d.toNat) (W.typeIs_bytes s b tb) (by decide) W.FB.slot_bytes_getitem W.FB.entry_bytes_getitem (W.FB.args_bytes_getitem_2 _ _) (W.gives_bytes_getitem b i tb t d ?_ ?_) (k.ok hs (rInt _ _) _)
    ·rw [Builtin.Bytes.fitsIndex,Bool.and_eq_true,decide_eq_true_eq,decide_eq_true_eq];exact ⟨by lia,by lia⟩
    ·rw [h1];exact (Array.getElem?_toList ..).symm.trans hd
 | dict ks vs=>
  refine K.onStr k ri fun x t z k=>k.ite fun hall k=> ?_
  obtain ⟨a,rfl,ra | ra⟩:=ra
  ·obtain ⟨f,h1,h2⟩:=ra.at_
   have q:=h2 x
   cases hd:dget (.str x.cps.toList) ks vs with
   | none=>rw [hd] at k;exact False.elim k
   | some d=>
    rw [hd] at k q
    cases hf:f x with
    | none=>rw [hf] at q;exact False.elim q
    | some v=>
     rw [hf] at q
     exact ⟨"dict",_,(h1 _ hs).typeIs,slot_dict_getitem.lookup,wpAny_getItem_of (strKind_is _ _ x t) (h1 _ hs) hf (k.ok hs (rFlat q) _)⟩
  ·exact (ZsC ra.ne ra.all hall).elim
 | _=>exact False.elim k
theorem K.part {n dflt:Nat} {x:D} {v:Value} {f:Nat→Out D} {G:Prop} (k:K Y Z (Rep Y.P) (part dflt n x f) Q E s) (r:Rep Y.P Z x v) (g:∀p,IsPart v p→K Y Z (Rep Y.P) (f (p.elim dflt (clipAt n))) Q E s→G):G:=by
 cases x with
 | none=>cases r;exact g none .none k
 | int i=>obtain ⟨t,rfl⟩:=r;exact g (some i) (.int _ _) k
 | _=>exact False.elim k
theorem Zso {va vl vu:Value} {sa:Addr} {x lo hi:D} (h:Sub Z s.heap) (ra:Rep Y.P Z x va) (rl:Rep Y.P Z lo vl) (ru:Rep Y.P Z hi vu)
  (hs:s.heap.IsSliceOf sa vl vu .none) (k:K Y Z (Rep Y.P) (slice x lo hi) Q E s):Items Y va (.ref sa) Q E s:=by
 have hsl:=Zqr
 cases x with
 | list xs=>
  obtain ⟨a,vs,n,rfl,e,z,q⟩:=ra
  refine K.part (f:=fun lo=>part xs.length xs.length hi fun hi=> .ok (.list (cut xs lo hi))) k rl fun p hp k=>K.part k ru fun u hu k=> ?_
  refine ⟨"list",_,⟨_,h _ _ e,rfl⟩,slot_list_getitem.lookup,wpAny_getItem_list_slice ⟨_,h _ _ e,rfl,n,rfl⟩ hs hp hu .none (by simp) ?_ (by rw [List.size_toArray];exact Nat.le_trans z hsl)⟩
  rw [slicePick_plain,List.size_toArray]
  rw [←q.length] at k
  exact k.newL h ((q.drop _).take _) (Nat.le_trans (List.length_take_le' _ _) (Nat.le_trans (by rw [List.length_drop];exact Nat.sub_le _ _) z)) _
 | bytes xs=>
  obtain ⟨b,t,rfl,z,rfl⟩:=ra
  refine K.part (f:=fun lo=>part b.toList.length b.toList.length hi fun hi=> .ok (.bytes (cut b.toList lo hi))) k rl fun p hp k=>K.part k ru fun u hu k=> ?_
  refine ⟨"bytes",_,rfl,W.FB.slot_bytes_getitem.lookup,getItem_meets (W.typeIs_bytes s b t) (by decide) W.FB.slot_bytes_getitem W.FB.entry_bytes_getitem (W.FB.args_bytes_getitem_2 _ _) (W.KBc.meets_slice2 b t sa hp hu) ?_⟩
  have hle:=W.KBc.size_picked_le b p u
  refine ⟨hs,by lia,fun t' tk=> ?_⟩
  have r:Rep Y.P Z _ _:=ZtZ (W.KBy.picked b p u) t' (by exact Nat.le_trans (by assumption) (by assumption))
  rw [show (W.KBy.picked b p u).toList=cut b.toList (p.elim 0 (clipAt b.toList.length)) (u.elim b.toList.length (clipAt b.toList.length)) by rw [W.KBc.picked_eq];simp [cut]] at r
  exact k.ok h r _
 | str xs=>
  obtain ⟨x,t,rfl,z,rfl⟩:=ra
  cases hi with
  | none=>
   cases ru
   revert hs
   refine K.onInt k rl fun i ti k hs=>K.ite k fun hc k=> ?_
   have e:(Txt.slice x (some i) none).cps.toList=x.cps.toList.drop i.toNat:=by
    rw [Array.length_toList] at hc
    rw [slice_from_eq (b:=x.length) hc.1 hc.2 rfl]
    show ((x.cps.toList.drop i.toNat).take _)=_
    rw [List.take_of_length_le]
    rw [List.length_drop,Array.length_toList];show x.cps.size - i.toNat≤((x.cps.size:Int) - i).toNat;omega
   have hz:(Txt.slice x (some i) none).cps.size≤SZ:=by
    rw [←Array.length_toList,e,List.length_drop,Array.length_toList];exact Nat.le_trans (Nat.sub_le _ _) z
   refine ⟨"str",_,rfl,F.slot_str_getitem.lookup,wpAny_getItem_str_slice (l:=some (i,ti)) (u:=none) (st:=none) hs rfl (post_val_or_str ⟨Nat.le_trans hz hsl,fun t' tk=> ?_⟩)⟩
   have r:Rep Y.P Z _ _:=rStr (Txt.slice x (some i) none) t' hz
   rw [e] at r
   exact k.ok h r tk
  | _=>exact False.elim (K.onInt (G:=fun _=>False) k rl fun i ti k=>k)
 | _=>exact False.elim k
end DK.Internal
end
section
set_option backward.match.sparseCases false
set_option genSizeOf false
set_option genCtorIdx false
set_option maxRecDepth 100000
namespace DK.Internal
open PySem PyProof.Rows PySem.SeqAt
theorem EqAt.of_rc {A:Around} {s:Shared} {y x:Value} {b:Bool} (hf:∀a t,y≠.float a t) (h:RcAt A s y x b) (hb:y=x→b=true):EqAt A s y x b:=fun prog w E Q hq=>by
 unfold eqBool
 refine wpAny_holding (wpAny_ite_split (fun hab=> ?_) (fun _=> ?_))
 ·cases hb (eq_of_beq hab)
  exact wpAny_bind (wpAny_rule (wpAny_pure hq))
 ·cases y with
  | float a t=>exact absurd rfl (hf a t)
  | _=>exact wpAny_bind (h prog w E _ (wpAny_truthy_bool hq))
theorem range_all {bs:List Bool}:(List.range bs.length).all (fun j=>bs.getD j true)=bs.all id:=by
 rw [Bool.eq_iff_iff]
 simp only [List.all_eq_true,List.mem_range,id]
 constructor
 ·intro h b hb
  obtain ⟨j,hj,rfl⟩:=List.getElem_of_mem hb
  simpa [hj] using h j hj
 ·intro h j hj
  simpa [hj] using h _ (List.getElem_mem hj)
variable {Y:Cx} {P:Prg} {Z:Zm} {s:Shared} {Q:Value→Shared→Prop} {E:Value→Shared→Prop}
noncomputable def Nex {β:Type} (o:Out β) (G:β→Prop):Prop:=match o with
 | .ok b=>G b
 | .exc=>False
 | .stuck=>True
theorem Nex.andB {o p:Out Bool} {F G H:Bool→Prop} (a:Nex o F) (b:Nex p G) (h:∀x y,F x→G y→H (x && y)):Nex (andB o p) H:=by
 cases o with
 | ok x=>
  cases p with
  | ok y=>exact h x y a b
  | exc=>exact b
  | stuck=>exact trivial
 | exc=>exact a
 | stuck=>exact trivial
theorem ZtG {f:D→D→Out Bool} {C:Bool→Value→Value→Prop} (hf:∀{x y v w},Rep P Z x v→Rep P Z y w→Nex (f x y) fun c=>C c v w) {xs:List D} {vs:List Value} (r:Reps P Z xs vs):∀{ys:List D} {ws:List Value},Reps P Z ys ws →
  Nex (allEq f xs ys) fun b=>∃bs:List Bool,vs.length=bs.length∧ws.length=bs.length∧b=bs.all id∧∀(j:Nat) (v w:Value),vs[j]?=some v→ws[j]?=some w→C (bs.getD j true) v w:=by
 refine r.ind (mo:=fun xs vs=>∀{ys:List D} {ws:List Value},Reps P Z ys ws →
  Nex (allEq f xs ys) fun b=>∃bs:List Bool,vs.length=bs.length∧ws.length=bs.length∧b=bs.all id∧∀(j:Nat) (v w:Value),vs[j]?=some v→ws[j]?=some w→C (bs.getD j true) v w) ?_ ?_
 ·intro ys ws q
  cases ys with
  | nil=>cases (show ws = [] from q);exact ⟨[],rfl,rfl,rfl,fun j v w e=>nomatch e⟩
  | cons y ys=>exact trivial
 ·intro d v ds vs a r ih ys ws q
  cases ys with
  | nil=>exact trivial
  | cons y ys=>
   obtain ⟨w,us,rfl,qa,q⟩:=q
   refine Nex.andB (hf a qa) (ih q) fun c e hc he=> ?_
   obtain ⟨bs,e1,e2,e3,e4⟩:=he
   refine ⟨c::bs,congrArg (· + 1) e1,congrArg (· + 1) e2,congrArg (c && ·) e3,fun j v' w' hv hw=> ?_⟩
   cases j with
   | zero=>cases hv;cases hw;exact hc
   | succ j=>exact e4 j v' w' hv hw
theorem ZtH {tup:Bool} {v1 v2:List Value} {n1 n2:Nat} (h:(cond tup (tupO v1 n1) (lstO v1 n1))=cond tup (tupO v2 n2) (lstO v2 n2)):v1=v2:=by
 have:(cond tup (tupO v1 n1) (lstO v1 n1)).data=(cond tup (tupO v2 n2) (lstO v2 n2)).data:=by rw [h]
 have:Data.seq v1.toArray n1 = .seq v2.toArray n2:=by cases tup<;>exact this
 injection this with e
 exact congrArg Array.toList e
theorem Zsp {v:Value} {d:D} (r:Rep P Z d v):∀a t,v≠.float a t:=by
 intro a t e;subst e
 cases d with
 | int i=>exact r.elim fun _ e=>nomatch e
 | str i=>exact r.elim fun _ r=>r.elim fun _ e=>nomatch e.1
 | bytes i=>exact r.elim fun _ r=>r.elim fun _ e=>nomatch e.1
 | tuple i=>exact r.elim fun _ r=>r.elim fun _ r=>r.elim fun _ e=>nomatch e.1
 | list i=>exact r.elim fun _ r=>r.elim fun _ r=>r.elim fun _ e=>nomatch e.1
 | dict i=>exact r.elim fun _ e=>nomatch e.1
 | _=>exact nomatch r
structure Cmp (s:Shared) (n:Nat) (b:Bool) (v w:Value):Prop where
 same:v=w→b=true
 nf:∀a t,v≠.float a t
 eq:∀A:Around,A.units+n < cLine→RcAt A s v w b
 ne:∀A:Around,A.units+n < cLine→RcNeAt A s v w !b
theorem ZrB {n:Nat} {x y:D} {va vb:Value} (ra:Rep P Z x va) (rb:Rep P Z y vb):Nex (D.feq x y) fun b=>Cmp s n b va vb:=by
 have nf:=Zsp ra
 cases x with
 | none=>
  cases y with
  | none=>cases ra;cases rb;exact ⟨fun _=>rfl,nf,fun _ _=>RcAt.none_none,fun _ _=>RcNeAt.none_none⟩
  | _=>exact trivial
 | bool a=>
  cases y with
  | bool c=>cases ra;cases rb;exact ⟨fun e=>by cases e;exact beq_self_eq_true _,nf,fun _ _=>RcAt.bool_bool _ _,fun _ _=>RcNeAt.bool_bool _ _⟩
  | _=>exact trivial
 | int a=>
  cases y with
  | int c=>obtain ⟨t,rfl⟩:=ra;obtain ⟨u,rfl⟩:=rb;exact ⟨fun e=>by cases e;exact decide_eq_true rfl,nf,fun _ _=>RcAt.int_int _ _ _ _,fun _ _=>RcNeAt.int_int _ _ _ _⟩
  | _=>exact trivial
 | str a=>
  cases y with
  | str c=>
   obtain ⟨a,t,rfl,_,rfl⟩:=ra
   obtain ⟨c,u,rfl,_,rfl⟩:=rb
   show Cmp s n (a.cps.toList == c.cps.toList) _ _
   rw [str_beq]
   exact ⟨fun e=>by cases e;exact beq_self_eq_true _,nf,fun _ _=>RcAt.str_str _ _ _ _,fun _ _=>RcNeAt.str_str _ _ _ _⟩
  | _=>exact trivial
 | bytes a=>
  cases y with
  | bytes c=>
   obtain ⟨a,t,rfl,_,rfl⟩:=ra
   obtain ⟨c,u,rfl,_,rfl⟩:=rb
   show Cmp s n (decide (a.toList=c.toList)) _ _
   rw [show decide (a.toList=c.toList)=(a.toList == c.toList) by rw [Bool.eq_iff_iff];simp]
   exact ⟨fun e=>by cases e;exact beq_self_eq_true _,nf,fun _ _ prog w E Q hq=>W.eq_bytes hq,fun _ _ prog w E Q hq=>W.ne_bytes hq⟩
  | _=>exact trivial
 | _=>exact trivial
theorem Zua (hs:Sub Z s.heap) {n:Nat} (ih:∀{x y v w},Rep P Z x v→Rep P Z y w→Nex (D.peq n x y) fun b=>Cmp s n b v w) (tup:Bool) {a1 a2:Addr} {v1 v2:List Value} {n1 n2:Nat} {xs ys:List D}
  (e1:Z a1=some (cond tup (tupO v1 n1) (lstO v1 n1))) (e2:Z a2=some (cond tup (tupO v2 n2) (lstO v2 n2))) (q1:Reps P Z xs v1) (q2:Reps P Z ys v2):Nex (allEq (D.peq n) xs ys) fun b=>Cmp s (n+1) b (.ref a1) (.ref a2):=by
 have:=ZtG (C:=fun c v w=>Cmp s n c v w) ih q1 q2
 cases h:allEq (D.peq n) xs ys with
 | exc=>rw [h] at this;exact this
 | stuck=>exact trivial
 | ok b=>
  rw [h] at this
  obtain ⟨bs,l1,l2,l3,l4⟩:=this
  have at_:∀A:Around,A.units+(n+1) < cLine→∀j (h1:j < v1.toArray.size) (h2:j < v2.toArray.size),EqAt A.in1 s v1.toArray[j] v2.toArray[j] (bs.getD j true):=fun A hu j h1 h2=>
   have c:=l4 j v1.toArray[j] v2.toArray[j] (List.getElem?_toArray.symm.trans (Array.getElem?_eq_getElem h1)) (List.getElem?_toArray.symm.trans (Array.getElem?_eq_getElem h2))
   EqAt.of_rc c.nf (c.eq A.in1 (by rw [Around.in1_units];lia)) c.same
  refine ⟨fun e=> ?_,fun _ _ e=>(nomatch e),fun A hu=> ?_,fun A hu=> ?_⟩
  ·injection e with e
   rw [e,e2] at e1
   cases ZtH (Option.some.inj e1)
   rw [l3,←range_all,List.all_eq_true]
   intro j hj
   have hj:=List.mem_range.mp hj
   have hv:=List.getElem?_eq_getElem (show j < v1.length by rw [l1];exact hj)
   exact (l4 j _ _ hv hv).same rfl
  all_goals rw [l3,←range_all]
  ·cases tup with
   | true=>
    have:=RcAt.tuples (s:=s) ⟨_,hs _ _ e1,rfl,_,rfl⟩ ⟨_,hs _ _ e2,rfl,_,rfl⟩ (Nat.lt_of_le_of_lt (Nat.le_add_right _ _) hu) (at_ A hu)
    simpa only [List.size_toArray,l1,l2,Nat.min_self,beq_self_eq_true,Bool.and_true] using this
   | false=>
    have:=RcAt.lists (s:=s) ⟨_,hs _ _ e1,rfl,_,rfl⟩ ⟨_,hs _ _ e2,rfl,_,rfl⟩ (by rw [List.size_toArray,List.size_toArray,l1,l2]) (Nat.lt_of_le_of_lt (Nat.le_add_right _ _) hu) (at_ A hu)
    simpa only [List.size_toArray,l1] using this
  ·cases tup with
   | true=>
    have:=RcNeAt.tuples (s:=s) ⟨_,hs _ _ e1,rfl,_,rfl⟩ ⟨_,hs _ _ e2,rfl,_,rfl⟩ (Nat.lt_of_le_of_lt (Nat.le_add_right _ _) hu) (at_ A hu)
    simpa only [List.size_toArray,l1,l2,Nat.min_self,beq_self_eq_true,Bool.and_true] using this
   | false=>
    have:=RcNeAt.lists (s:=s) ⟨_,hs _ _ e1,rfl,_,rfl⟩ ⟨_,hs _ _ e2,rfl,_,rfl⟩ (by rw [List.size_toArray,List.size_toArray,l1,l2]) (Nat.lt_of_le_of_lt (Nat.le_add_right _ _) hu) (at_ A hu)
    simpa only [List.size_toArray,l1] using this
theorem peq_ok (hs:Sub Z s.heap) (n:Nat):∀{x y v w},Rep P Z x v→Rep P Z y w→Nex (D.peq n x y) fun b=>Cmp s n b v w:=by
 induction n with
 | zero=>exact fun {x y v w} ra rb=>ZrB ra rb
 | succ n ih=>
  intro x y va vb ra rb
  cases x with
  | tuple xs=>
   cases y with
   | tuple ys=>obtain ⟨a,v,m,rfl,e,_,q⟩:=ra;obtain ⟨a',v',m',rfl,e',_,q'⟩:=rb;exact Zua hs ih true e e' q q'
   | _=>exact trivial
  | list xs=>
   cases y with
   | list ys=>obtain ⟨a,v,m,rfl,e,_,q⟩:=ra;obtain ⟨a',v',m',rfl,e',_,q'⟩:=rb;exact Zua hs ih false e e' q q'
   | _=>exact trivial
  | none=>exact ZrB (x:= .none) ra rb
  | bool b=>exact ZrB (x:= .bool b) ra rb
  | int b=>exact ZrB (x:= .int b) ra rb
  | str b=>exact ZrB (x:= .str b) ra rb
  | bytes b=>exact ZrB (x:= .bytes b) ra rb
  | _=>exact trivial
theorem ZrK:PySem.Slot "bytes" (cmpInfo .Lt).2.1 "bytes.__lt__" :=
 .of (owner:= "bytes") (n:= "__lt__") (by rw [typeLookup_type,builtinLookup_eq_fast];kernel_rfl) (by decide +kernel) (by decide +kernel) (by decide +kernel)
  (by first | exact .inl (by decide +kernel) | exact .inr (by decide +kernel)) (by rw [isSubtype_type];kernel_rfl)
theorem Zrw:entryFor table "bytes.__lt__" = some Builtin.«bytes.__lt__»:=entryFor_of_tree (by kernel_rfl)
theorem ZrL (a b:Value):argsOk "bytes.__lt__" ⟨[a,b],[]⟩:=by
 unfold argsOk;rw [signature?_of (id:= "bytes.__lt__") (n:= ['_','_','t','l','_','_']) (o:= ['s','e','t','y','b']) (by kernel_rfl) W.FB.owner_bytes];kernel_rfl
theorem ZrM:PySem.Slot "bytes" (cmpInfo .LtE).2.1 "bytes.__le__" :=
 .of (owner:= "bytes") (n:= "__le__") (by rw [typeLookup_type,builtinLookup_eq_fast];kernel_rfl) (by decide +kernel) (by decide +kernel) (by decide +kernel)
  (by first | exact .inl (by decide +kernel) | exact .inr (by decide +kernel)) (by rw [isSubtype_type];kernel_rfl)
theorem Zrx:entryFor table "bytes.__le__" = some Builtin.«bytes.__le__»:=entryFor_of_tree (by kernel_rfl)
theorem ZrN (a b:Value):argsOk "bytes.__le__" ⟨[a,b],[]⟩:=by
 unfold argsOk;rw [signature?_of (id:= "bytes.__le__") (n:= ['_','_','e','l','_','_']) (o:= ['s','e','t','y','b']) (by kernel_rfl) W.FB.owner_bytes];kernel_rfl
theorem ZsD (a:List UInt8):∀b:List UInt8,(Builtin.Bytes.order a b == .lt)=lexLt a b∧(Builtin.Bytes.order b a == .gt)=lexLt a b:=by
 induction a with
 | nil=>intro b;cases b<;>exact ⟨rfl,rfl⟩
 | cons x a ih=>
  intro b
  cases b with
  | nil=>exact ⟨rfl,rfl⟩
  | cons y b=>
   obtain ⟨i1,i2⟩:=ih b
   show ((if x < y then Ordering.lt else if x > y then .gt else Builtin.Bytes.order a b) == .lt)=(if x.toNat < y.toNat then true else if x.toNat=y.toNat then lexLt a b else false) ∧
    ((if y < x then Ordering.lt else if y > x then .gt else Builtin.Bytes.order b a) == .gt)=(if x.toNat < y.toNat then true else if x.toNat=y.toNat then lexLt a b else false)
   by_cases h1:x.toNat < y.toNat
   ·have h2:¬y < x:=fun h:y.toNat < x.toNat=>by lia
    rw [if_pos (show x < y from h1),if_pos h1,if_neg h2,if_pos (show y > x from h1)];exact ⟨rfl,rfl⟩
   ·have h1':¬x < y:=h1
    by_cases h2:y.toNat < x.toNat
    ·rw [if_neg h1',if_pos (show x > y from h2),if_neg h1,if_neg (by exact Nat.ne_of_gt (by assumption)),if_pos (show y < x from h2)];exact ⟨rfl,rfl⟩
    ·have h2':¬y < x:=h2
     rw [if_neg h1',if_neg h2',if_neg h1,if_pos (by lia),if_neg h2',if_neg h1'];exact ⟨i1,i2⟩
theorem Zry (b c:Array UInt8) (t u:Tok):Gives (Builtin.«bytes.__lt__» ⟨[.bytes b t,.bytes c u],[]⟩) (.val (.bool (lexLt b.toList c.toList))):=by
 refine .of_wp fun M A E s Q hq=> ?_
 show wpAny M A (isInstance (.bytes c u) (.type "bytes")>>=fun r=>_) _ E s
 refine wpAny_bind (wpAny_isInstance (W.typeIs_bytes s c u) F.sub_bytes_bytes ?_)
 exact wpAny_pure ⟨_,rfl,by rw [←(ZsD _ _).1] at hq;exact hq⟩
theorem Zrz (b c:Array UInt8) (t u:Tok):Gives (Builtin.«bytes.__le__» ⟨[.bytes b t,.bytes c u],[]⟩) (.val (.bool (lexLe b.toList c.toList))):=by
 refine .of_wp fun M A E s Q hq=> ?_
 show wpAny M A (isInstance (.bytes c u) (.type "bytes")>>=fun r=>_) _ E s
 refine wpAny_bind (wpAny_isInstance (W.typeIs_bytes s c u) F.sub_bytes_bytes ?_)
 exact wpAny_pure ⟨_,rfl,by unfold lexLe at hq;rw [←(ZsD _ _).2] at hq;exact hq⟩
theorem Zth {op:CmpOp} {va vb:Value} {x y:D} (hs:Sub Z s.heap) (ra:Rep Y.P Z x va) (rb:Rep Y.P Z y vb) (k:K Y Z (Rep Y.P) (ordD ordI op x y) Q E s):wpAny Y.M Y.A (compareOp op va vb) Q E s:=by
 have e (p:Prop) [i:Decidable p]:@decide p (Classical.propDecidable p)=decide p:=by congr
 cases x with
 | int a=>
  obtain ⟨t,rfl⟩:=ra
  refine K.onInt k rb fun b u k=> ?_
  cases op with
  | Lt=>exact lt_int (by rw [←e];exact k.okS hs (ZqV _))
  | LtE=>exact le_int (by rw [←e];exact k.okS hs (ZqV _))
  | Gt=>exact gt_int (by rw [←e];exact k.okS hs (ZqV _))
  | GtE=>exact ge_int (by rw [←e];exact k.okS hs (ZqV _))
  | _=>exact False.elim k
 | bytes a=>
  obtain ⟨b,t,rfl,_,rfl⟩:=ra
  refine K.onBytes k rb fun c u _ k=> ?_
  cases op with
  | Lt=>exact compareOp_gives (op:= .Lt) (W.typeIs_bytes s b t) (W.typeIs_bytes s c u) ZrK Zrw (ZrL _ _) (Zry b c t u) (fun e=>nomatch e) (k.okS hs (ZqV _))
  | LtE=>exact compareOp_gives (op:= .LtE) (W.typeIs_bytes s b t) (W.typeIs_bytes s c u) ZrM Zrx (ZrN _ _) (Zrz b c t u) (fun e=>nomatch e) (k.okS hs (ZqV _))
  | _=>exact False.elim k
 | _=>exact False.elim k
theorem Zsq {a b:Ty}:(a.name == b.name)=decide (a=b):=by revert a b;intro a b;cases a<;>cases b<;>rfl
theorem ZqI {y:D} {va vb:Value} {b:Bool} {f:Bool→Out D} (h1:isSame va .none=pure b) (h2:∀c,isSame va (.bool c)=pure false) (rb:Rep Y.P Z y vb) (k:K Y Z (Rep Y.P) (noneOr (.ok b) y>>=f) Q E s):∃b,isSame va vb=pure b∧K Y Z (Rep Y.P) (f b) Q E s:=by
 cases y with
 | none=>cases rb;exact ⟨b,h1,k⟩
 | bool c=>cases rb;exact ⟨false,h2 c,k⟩
 | _=>exact False.elim k
theorem ZsE {x y:D} {va vb:Value} {f:Bool→Out D} (ra:Rep Y.P Z x va) (rb:Rep Y.P Z y vb) (k:K Y Z (Rep Y.P) (isThing x y>>=f) Q E s):∃b,isSame va vb=pure b∧K Y Z (Rep Y.P) (f b) Q E s:=by
 cases x with
 | none=>cases ra;exact ZqI rfl (fun _=>rfl) rb k
 | bool a=>
  cases ra
  cases y with
  | bool b=>cases rb;cases a<;>cases b<;>exact ⟨_,rfl,k⟩
  | _=>exact False.elim k
 | typ a=>
  cases ra
  cases y with
  | typ b=>cases rb;exact ⟨_,congrArg pure (by rw [Bool.eq_iff_iff,beq_iff_eq,decide_eq_true_eq];exact ⟨fun e=>of_decide_eq_true (Zsq.symm.trans (beq_iff_eq.mpr (by injection e))),fun e=>by rw [e]⟩),k⟩
  | _=>exact False.elim k
 | int a=>obtain ⟨t,rfl⟩:=ra;exact ZqI rfl (fun _=>rfl) rb k
 | str a=>obtain ⟨x,t,rfl,_⟩:=ra;exact ZqI rfl (fun _=>rfl) rb k
 | _=>exact False.elim k
noncomputable def vInt (i:Int):Value→Bool
 | .int j _=>j == i
 | _=>false
noncomputable def vStr (x:Str):Value→Bool
 | .str y _=>y == x
 | _=>false
theorem Zud {i:Int} {xs:List D} {vs:List Value} (r:Reps P Z xs vs):xs.all isInt=true→(∀y∈vs,∃i t,y = .int i t)∧vs.any (vInt i)=xs.any fun x=>keyIs x (.int i):=by
 refine r.ind (mo:=fun xs vs=>xs.all isInt=true→(∀y∈vs,∃i t,y = .int i t)∧vs.any (vInt i)=xs.any fun x=>keyIs x (.int i)) (fun _=>⟨fun y h=>(nomatch h),rfl⟩) fun d v ds vs a _ ih ha=> ?_
 rw [List.all_cons,Bool.and_eq_true] at ha
 obtain ⟨h1,h2⟩:=ih ha.2
 cases d with
 | int j=>
  obtain ⟨t,rfl⟩:=a
  exact ⟨fun y h=>(List.mem_cons.mp h).elim (fun e=>⟨j,t,e⟩) (h1 y),by rw [List.any_cons,List.any_cons,h2];rfl⟩
 | _=>cases ha.1
theorem Zue {x:Str} {xs:List D} {vs:List Value} (r:Reps P Z xs vs):xs.all isStr=true→(∀y∈vs,∃i t,y = .str i t)∧vs.any (vStr x)=xs.any fun y=>keyIs y (.str x.cps.toList):=by
 refine r.ind (mo:=fun xs vs=>xs.all isStr=true→(∀y∈vs,∃i t,y = .str i t)∧vs.any (vStr x)=xs.any fun y=>keyIs y (.str x.cps.toList)) (fun _=>⟨fun y h=>(nomatch h),rfl⟩) fun d v ds vs a _ ih ha=> ?_
 rw [List.all_cons,Bool.and_eq_true] at ha
 obtain ⟨h1,h2⟩:=ih ha.2
 cases d with
 | str j=>
  obtain ⟨y,t,rfl,_,rfl⟩:=a
  exact ⟨fun z h=>(List.mem_cons.mp h).elim (fun e=>⟨y,t,e⟩) (h1 z),by rw [List.any_cons,List.any_cons,h2,show keyIs (.str y.cps.toList) (.str x.cps.toList)=(y.cps.toList == x.cps.toList) from rfl,str_beq];rfl⟩
 | _=>cases ha.1
theorem ZtI {k:D} (ks:List D):∀{vs:List D},ks.length=vs.length→(ks.any fun x=>keyIs x k)=(dget k ks vs).isSome:=by
 induction ks with
 | nil=>intro vs _;rfl
 | cons x ks ih=>
  intro vs h
  cases vs with
  | nil=>cases h
  | cons v vs=>
   show (keyIs x k || _)=(if keyIs x k=true then some v else dget k ks vs).isSome
   rw [ih (Nat.succ.inj h)]
   cases keyIs x k<;>rfl
theorem ZsK {a:Option Value} {b:Option D} (h:FlatO a b):a.isSome=b.isSome:=by
 cases a<;>cases b<;>first | rfl | exact False.elim h
theorem ZtJ {x y:D} {va vb:Value} (hs:Sub Z s.heap) (ra:Rep Y.P Z x va) (rb:Rep Y.P Z y vb) (k:K Y Z (Rep Y.P) (inD x y) Q E s):wpAny Y.M Y.A (compareOp .In va vb) Q E s:=by
 cases y with
 | dict ks vs=>
  refine K.onStr k ra fun x t z k=>K.ite k fun hall k=> ?_
  obtain ⟨a,rfl,rb | rb⟩:=rb
  ·obtain ⟨f,h1,h2⟩:=rb.at_
   refine wpAny_in_of (strKind_is _ _ x t) rb.sys (h1 _ hs) ?_
   rw [ZsK (h2 x),←ZtI ks rb.len]
   exact k.ok hs (ZqV _) _
  ·exact (ZsC rb.ne rb.all hall).elim
 | list xs=>
  obtain ⟨a,vs,n,rfl,e,z,q⟩:=rb
  refine K.onInt k ra fun i t k=>K.ite k fun hall k=> ?_
  obtain ⟨h1,h2⟩:=Zud (i:=i) q hall
  refine SeqAt.in_listAt (vInt i) ⟨_,hs _ _ e,rfl,n,rfl⟩ (fun y hy=> ?_) ?_
  ·obtain ⟨j,t',rfl⟩:=h1 y (by simpa using hy)
   exact EqAt.int_int _ _ _ _
  ·rw [List.any_toArray,h2];exact k.okS hs (ZqV _)
 | tuple xs=>
  obtain ⟨a,vs,n,rfl,e,z,q⟩:=rb
  refine K.onStr k ra fun x t z k=>K.ite k fun hall k=> ?_
  obtain ⟨h1,h2⟩:=Zue (x:=x) q hall
  refine SeqAt.in_tupleAt (vStr x) ⟨_,hs _ _ e,rfl,n,rfl⟩ (fun y hy=> ?_) ?_
  ·obtain ⟨j,t',rfl⟩:=h1 y (by simpa using hy)
   exact EqAt.str_str _ _ _ _
  ·rw [List.any_toArray,h2];exact k.okS hs (ZqV _)
 | _=>exact False.elim k
theorem Zub {x y:D} {va vb:Value} {f:Bool→Out D} {G:Prop} (hs:Sub Z s.heap) (ra:Rep Y.P Z x va) (rb:Rep Y.P Z y vb) (k:K Y Z (Rep Y.P) (D.peq eqDeep x y>>=f) Q E s) (g:∀b,Cmp s eqDeep b va vb→K Y Z (Rep Y.P) (f b) Q E s→G):G:=by
 have h:=peq_ok hs eqDeep ra rb
 generalize D.peq eqDeep x y=o at h k
 cases o with
 | ok b=>exact g b h k
 | exc=>exact False.elim h
 | stuck=>exact False.elim k
theorem Zrp {op:CmpOp} {va vb:Value} {x y:D} (hu:Y.A.units+70 < cLine) (hs:Sub Z s.heap) (ra:Rep Y.P Z x va) (rb:Rep Y.P Z y vb) (k:K Y Z (Rep Y.P) (cmpop ordI op x y) Q E s):wpAny Y.M Y.A (compareOp op va vb) Q E s:=by
 have hd:Y.A.units+eqDeep < cLine:=Nat.lt_of_le_of_lt (Nat.add_le_add_left (by decide) _) hu
 cases op with
 | Eq=>exact Zub hs ra rb k fun b c k=>c.eq _ hd _ _ E Q (k.okS hs (ZqV _))
 | NotEq=>exact Zub hs ra rb k fun b c k=>c.ne _ hd _ _ E Q (k.okS hs (ZqV _))
 | Is=>obtain ⟨b,e,k⟩:=ZsE ra rb k;exact wpAny_bind (wpAny_of_eq e (wpAny_pure (k.okS hs (ZqV _))))
 | IsNot=>obtain ⟨b,e,k⟩:=ZsE ra rb k;exact wpAny_bind (wpAny_of_eq e (wpAny_pure (k.okS hs (ZqV _))))
 | In=>exact ZtJ hs ra rb k
 | _=>exact Zth hs ra rb k
end DK.Internal
end
section
set_option backward.match.sparseCases false
set_option genSizeOf false
set_option genCtorIdx false
set_option maxRecDepth 100000
set_option genSizeOf false
set_option genInjectivity false
namespace DK.Internal
section
open PySem PyProof.Rows PySem.SeqAt PySem.Builtin
theorem ZqJ:PySem.Slot "bytes" "join" "bytes.join" :=
 .of (owner:= "bytes") (n:= "join") (by rw [typeLookup_type,builtinLookup_eq_fast];kernel_rfl) (by decide +kernel) (by decide +kernel) (by decide +kernel)
  (by first | exact .inl (by decide +kernel) | exact .inr (by decide +kernel)) (by rw [isSubtype_type];kernel_rfl)
theorem Zrq:typeOf (.builtin "bytes.join")=pure (.type "method_descriptor"):=by show builtinType _=_;rw [builtinType_eq_fast];kernel_rfl
theorem Zrj:entryFor table "bytes.join" = some Builtin.«bytes.join»:=entryFor_of_tree (by kernel_rfl)
theorem Zrr (a b:Value):argsOk "bytes.join" ⟨[a,b],[]⟩:=by
 unfold argsOk;rw [signature?_of (id:= "bytes.join") (n:= ['n','i','o','j']) (o:= ['s','e','t','y','b']) (by kernel_rfl) W.FB.owner_bytes];kernel_rfl
theorem Zqx:typeLookup (.type "bytes") "__buffer__" = pure (some (.builtin "bytes.__buffer__")):=by rw [typeLookup_type,builtinLookup_eq_fast];kernel_rfl
theorem ZrV:typeLookup (.type "bytes") "__release_buffer__" = pure none:=by rw [typeLookup_type,builtinLookup_eq_fast];kernel_rfl
section
variable {M:Model} {A:Around} {E:Value→Shared→Prop} {s:Shared}
theorem Zrd {b:Array UInt8} {t:Tok} {Q:Bool→Shared→Prop} (h:Q true s):wpAny M A (Bytes.slotIsOwn (.bytes b t) "__buffer__") Q E s:=by
 unfold Bytes.slotIsOwn
 refine wpAny_bind (wpAny_specialOf (W.typeIs_bytes s b t) Zqx ?_)
 have e:(String.endsWith "bytes.__buffer__" ("." ++ "__buffer__"))=true:=by decide +kernel
 simp only [e,Bool.not_true,Bool.false_eq_true,if_false]
 have e2:("bytes.__buffer__".dropRight ("__buffer__".length+1)) = "bytes" :=by decide +kernel
 rw [e2]
 exact wpAny_isInstance (W.typeIs_bytes s b t) F.sub_bytes_bytes h
theorem ZrO {b:Array UInt8} {t:Tok} {Q:Bool→Shared→Prop} (h:Q false s):wpAny M A (Bytes.ownRelease (.bytes b t)) Q E s:=by
 unfold Bytes.ownRelease Bytes.slotIsOwn
 refine wpAny_bind (wpAny_bind (wpAny_specialOf (W.typeIs_bytes s b t) ZrV ?_))
 exact wpAny_pure (wpAny_pure h)
theorem Zti {id:String} {b:Array UInt8} {t:Tok} {Q:Option (Array UInt8)→Shared→Prop} (h:Q (some b) s):wpAny M A (Bytes.buffer? id (.bytes b t) false) Q E s:=by
 unfold Bytes.buffer?
 refine wpAny_bind (wpAny_specialOf (W.typeIs_bytes s b t) Zqx ?_)
 refine wpAny_bind (Zrd ?_)
 simp only [Bool.not_true,Bool.false_eq_true,if_false]
 refine wpAny_bind (wpAny_specialOf (W.typeIs_bytes s b t) Zqx ?_)
 refine wpAny_bind (ZrO ?_)
 simp only [Bool.false_eq_true,if_false]
 exact wpAny_bind (wpAny_of_eq (a:=b) rfl (wpAny_pure h))
theorem ZrP {id:String} {b:Array UInt8} {t:Tok} {Q:Option (Array UInt8 × Option Value)→Shared→Prop} (h:Q (some (b,none)) s):wpAny M A (Bytes.takeBufferQuiet? id (.bytes b t) 0) Q E s:=by
 unfold Bytes.takeBufferQuiet? Bytes.takeBuffer?
 refine wpAny_bind (wpAny_attempt ?_)
 refine wpAny_bind (wpAny_specialOf (W.typeIs_bytes s b t) Zqx ?_)
 refine wpAny_bind (Zrd ?_)
 simp only [Bool.not_true,Bool.false_eq_true,if_false]
 refine wpAny_bind (wpAny_specialOf (W.typeIs_bytes s b t) Zqx ?_)
 have e:((0:Int) == Bytes.fullReadOnly)=false:=by decide
 simp only [e]
 refine wpAny_bind (Zti ?_)
 exact wpAny_pure (wpAny_pure h)
end
inductive BytesAre:List Value→List (List UInt8)→Prop
 | nil:BytesAre [] []
 | cons (b:Array UInt8) (t:Tok) {vs:List Value} {bs:List (List UInt8)}:BytesAre vs bs→BytesAre (.bytes b t::vs) (b.toList::bs)
theorem ZrC:∀(ps:List (Array UInt8)) (k:Nat) (acc:Array UInt8),((ps.zipIdx k).foldl (fun out (p,i)=>(if i > 0 then out++(#[]:Array UInt8) else out)++p) acc).toList=acc.toList++(ps.map Array.toList).flatten
 | [],k,acc=>by simp
 | p::ps,k,acc=>by
  simp only [List.zipIdx_cons,List.foldl_cons]
  rw [ZrC ps (k+1)]
  split<;>simp [List.append_assoc]
theorem ZrW:∀(ps:List (Array UInt8)) (n:Nat),ps.foldl (fun x p=>x+p.size) n=n+((ps.map Array.toList).flatten).length
 | [],n=>by simp
 | p::ps,n=>by
  simp only [List.foldl_cons,List.map_cons,List.flatten_cons,List.length_append,Array.length_toList]
  rw [ZrW ps];exact Nat.add_assoc _ _ _
theorem Zre {M:Model} {A:Around} {E:Value→Shared→Prop} {s:Shared} {keep:List Value}:∀{tk:List (Value × Option Value)} {Q:Unit→Shared→Prop},(∀p∈tk,p.2=none)→Q () s→wpAny M A (Bytes.joinLetGo tk keep) Q E s
 | [],_,_,h=>wpAny_pure h
 | (x,u)::rest,Q,hp,h=>by
  have hu:u=none:=hp (x,u) (by simp)
  subst hu
  unfold Bytes.joinLetGo
  refine wpAny_bind (wpAny_letGo ?_)
  exact Zre (fun p q=>hp p (List.mem_cons_of_mem _ q)) h
theorem ZrQ {M:Model} {A:Around} {α:Type} {Q:α→Shared→Prop} {E:Value→Shared→Prop} {s:Shared} {c:Prop} [Decidable c] {m n:Sem α} (h:¬c) (k:wpAny M A n Q E s):wpAny M A (if c then m else n) Q E s:=by
 rw [if_neg h];exact k
theorem BytesAre.len {vs:List Value} {bs:List (List UInt8)} (h:BytesAre vs bs):vs.length=bs.length:=by
 induction h with
 | nil=>rfl
 | cons b u _ ih=>exact congrArg (· + 1) ih
theorem BytesAre.get {vs:List Value} {bs:List (List UInt8)} (h:BytesAre vs bs):∀i,i < vs.length→∃b u,vs.toArray.getD i Value.none = .bytes b u∧bs[i]?=some b.toList:=by
 induction h with
 | nil=>exact fun _ h=>absurd h (Nat.not_lt_zero _)
 | cons b u _ ih=>
  intro i hi
  cases i with
  | zero=>exact ⟨b,u,rfl,rfl⟩
  | succ i=>
   obtain ⟨b',u',q1,q2⟩:=ih i (Nat.lt_of_succ_lt_succ hi)
   exact ⟨b',u',by simpa using q1,q2⟩
abbrev JS:=Array (Array UInt8) × List (Value × Option Value)
theorem ZsL {P:Prop} (k:∀(f:Tok→Value→Sem PySem.Fin) (g:Tok→Value→Option (Array Value)→Sem PySem.Fin) (m j:Tok→Value→Array Value→Sem PySem.Fin) (h:Tok→Value→Value→Value→Sem PySem.Fin) (e:Tok→Value→Value→Sem PySem.Fin) (b:Value→Array Value→Nat→JS→Sem (ForInStep JS)) (fin:Tok→JS→Sem PySem.Fin)
  (b1:Value→Array Value→Nat→JS→Option (Array Value)→Sem (ForInStep JS)) (b2:Value→Array Value→Nat→JS→Array Value→Option (Array UInt8 × Option Value)→Sem (ForInStep JS)) (x1:Value→Array Value→Nat→JS→Array Value→Sem (ForInStep JS)) (hs:Value→Nat→JS→Array Value→List Value) (nm:String)
  (b3:Value→Array Value→Nat→JS→Array Value→Array UInt8→Option Value→Option (Array Value)→Sem (ForInStep JS)) (x2:Value→Array Value→Nat→JS→Array Value→Array UInt8→Option Value→Array Value→Sem (ForInStep JS)) (y1:JS→Array UInt8→Sem PySem.Fin) (hk:JS→Value→List Value),
  (∀t a,Builtin.«bytes.join» ⟨[.bytes #[] t,.ref a],[]⟩=(Bytes.joinItems (.ref a)>>=f t)) →
  (∀t q,f t q=(seqItems? q>>=g t q)) →
  (∀t q n,g t q (some n)=if (Bytes.Kind.bytes == Bytes.Kind.bytes)=true then m t q n else j t q n) →
  (∀t q n,j t q n=(forIn [:n.size] ((#[],[]):JS) (b q n)>>=fin t)) →
  (∀t q x,m t q #[x]=(typeOf x>>=h t q x)) →
  (∀t q,m t q #[]=j t q #[]) →
  (∀t q x y l,m t q (x::y::l).toArray=j t q (x::y::l).toArray) →
  (∀t q x y,h t q x y=if (y == .type "bytes")=true then (do rule "bytes.join.one-item";ret x) else e t q x) →
  (∀q n i c,b q n i c=(seqItems? q>>=b1 q n i c)) →
  (∀q n i c v,b1 q n i c (some v)=if (Bytes.Kind.bytes == Bytes.Kind.bytearray || c.2.any (·.1.onHeap))=true then x1 q n i c v else (holding (hs q i c v) (Bytes.takeBufferQuiet? nm (v.getD i .none) 0)>>=b2 q n i c v)) →
  (∀q n i c v p w,b2 q n i c v (some (p,w))=(seqItems? q>>=b3 q n i c v p w)) →
  (∀q n i c v p w u,b3 q n i c v p w (some u)=if (u.size != n.size)=true then x2 q n i c v p w u else pure (.yield (c.1.push p,c.2 ++ [(v.getD i .none,w)]))) →
  (∀t c,fin t c=(Bytes.payload (Value.bytes #[] t)>>=fun sep=>if Bytes.tooLong (c.1.foldl (· + ·.size) (sep.size*(c.1.size - 1)))=true then y1 c sep else do
   let r ←Bytes.Kind.bytes.new (Bytes.joined sep c.1.toList)
   holding (hk c r) point
   Bytes.joinLetGo c.2 [r]
   ret r))→P):P:=
 k _ _ _ _ _ _ _ _ _ _ _ _ _ _ _ _ _ (fun t a=>rfl) (fun t q=>rfl) (fun t q n=>rfl) (fun t q n=>rfl) (fun t q x=>rfl) (fun t q=>rfl) (fun t q x y l=>rfl) (fun t q x y=>rfl) (fun q n i c=>rfl) (fun q n i c v=>rfl) (fun q n i c v p w=>rfl) (fun q n i c v p w u=>rfl) (fun t c=>rfl)
theorem ZsM (a:Addr) (vs:List Value) (n:Nat) (bs:List (List UInt8)) (t:Tok) :
  Meets (Builtin.«bytes.join» ⟨[.bytes #[] t,.ref a],[]⟩) (fun _ R s=>s.heap.get? a=some { cls:= .type "list",dict:=none,data:= .seq vs.toArray n,slots:=#[] }∧BytesAre vs bs∧bs.flatten.length≤SZ ∧
   ∀t' k,R (.ok (.ret (.bytes bs.flatten.toArray t'))) { s with toks:=k }):=
 .of_wp fun prog w A R s h=>by
  obtain ⟨hl,hv,hz,h⟩:=h
  have hT:s.TypeIs (.ref a) "list" :=⟨_,hl,rfl⟩
  refine ZsL fun f g m j h' e b fin b1 b2 x1 hs nm b3 x2 y1 hk ea eb ec ed ee ef eg eh ei ej ek el em=> ?_
  rw [ea]
  have joinItems_list:∀{Q:Value→Shared→Prop} {E:Value→Shared→Prop},Q (.ref a) s→wpAny (model prog w) A.in1 (Bytes.joinItems (.ref a)) Q E s:=by
   intro Q E hq
   unfold Bytes.joinItems
   refine wpAny_bind (wpAny_typeOf hT ?_)
   exact wpAny_pure hq
  refine wpAny_bind (joinItems_list ?_)
  rw [eb]
  refine wpAny_bind (wpAny_seqItems hl rfl ?_)
  rw [ec,if_pos (show (Bytes.Kind.bytes == Bytes.Kind.bytes)=true from rfl)]
  have fi:∀(c:JS),c.1.toList.map Array.toList=bs→(∀p∈c.2,p.2=none)→wpAny (model prog w) A.in1 (fin t c) (fun fin s'=>∃v,fin = .done (.ret v)∧R (.ok (.ret v)) s') (fun e s'=>R (.error e) s') s:=by
   intro c hps htk
   rw [em]
   refine wpAny_bind (wpAny_of_eq (a:=(#[]:Array UInt8)) rfl ?_)
   have hfl:c.1.foldl (fun x p=>x+p.size) ((#[]:Array UInt8).size*(c.1.size - 1))=bs.flatten.length:=by
    rw [←Array.foldl_toList,ZrW,hps];simp
   have hsz:SZ≤sizeLine:=Zqr
   refine ZrQ (by rw [hfl];simp only [Bytes.tooLong,decide_eq_true_eq];lia) ?_
   have hj:Bytes.joined #[] c.1.toList=bs.flatten.toArray:=by
    apply Array.toList_inj.mp
    unfold Bytes.joined
    rw [ZrC,hps];simp
   rw [hj]
   refine wpAny_bind (m:=mkBytes _) (wpAny_mkBytes ?_ (by rw [List.size_toArray];exact Nat.le_trans (by assumption) (by assumption)))
   refine wpAny_bind (wpAny_holding (wpAny_point ?_))
   refine wpAny_bind (Zre htk ?_)
   exact wpAny_pure ⟨_,rfl,h _ _⟩
  have lp:wpAny (model prog w) A.in1 (j t (.ref a) vs.toArray) (fun fin s'=>∃v,fin = .done (.ret v)∧R (.ok (.ret v)) s') (fun e s'=>R (.error e) s') s:=by
   rw [ed,Std.Legacy.Range.forIn_eq_forIn_range']
   simp only [Std.Legacy.Range.size,Nat.sub_zero,Nat.add_sub_cancel,Nat.div_one,List.size_toArray]
   have hget:=hv.get
   have hlen:=hv.len
   refine wpAny_bind (wpAny_forIn_list _
    (fun r c s'=>s'=s∧∃i,r=List.range' i (vs.length - i)∧i≤vs.length∧c.1.toList.map Array.toList=bs.take i∧(∀p∈c.2,p.2=none)∧(∀p∈c.2,p.1.onHeap=false))
    _ ?_ ?_ _ _ ⟨rfl,0,by simp,Nat.zero_le _,by simp,by simp,by simp⟩)
   ·rintro x r c s' ⟨rfl,i,hr,hi,hp,h2,h3⟩
    have hlt:i < vs.length:=by
     rcases Nat.lt_or_ge i vs.length with h | h
     ·exact h
     ·rw [Nat.sub_eq_zero_of_le h] at hr;simp at hr
    obtain ⟨rfl,hrest⟩:x=i∧r=List.range' (i+1) (vs.length - (i+1)):=by
     have e:vs.length - i=(vs.length - (i+1))+1:=by lia
     rw [e,List.range'_succ] at hr
     injection hr with h1 h2
     exact ⟨h1,h2⟩
    obtain ⟨p,u,q1,q2⟩:=hget x hlt
    rw [ei]
    refine wpAny_bind (wpAny_seqItems hl rfl ?_)
    have e3:(Bytes.Kind.bytes == Bytes.Kind.bytearray || c.2.any fun x=>x.1.onHeap)=false:=by
     have:(Bytes.Kind.bytes == Bytes.Kind.bytearray)=false:=rfl
     rw [this,Bool.false_or,List.any_eq_false]
     intro p hp;simp [h3 p hp]
    rw [ej]
    refine ZrQ (by rw [e3];exact Bool.false_ne_true) ?_
    rw [q1]
    refine wpAny_bind (wpAny_holding (ZrP ?_))
    rw [ek]
    refine wpAny_bind (wpAny_seqItems hl rfl ?_)
    rw [el,q1]
    refine ZrQ (by simp) (wpAny_pure ?_)
    refine ⟨rfl,x+1,hrest,hlt,?_,?_,?_⟩
    ·simp only [Array.toList_push,List.map_append,hp,List.map_cons,List.map_nil]
     rw [List.take_add_one,q2];rfl
    ·intro p hp;rcases List.mem_append.mp hp with hp | hp
     ·exact h2 p hp
     ·simp at hp;rw [hp]
    ·intro p hp;rcases List.mem_append.mp hp with hp | hp
     ·exact h3 p hp
     ·simp at hp;rw [hp];rfl
   ·rintro c s' ⟨rfl,i,hr,hi,hp,h2,h3⟩
    have hin:i=vs.length:=by
     rcases Nat.lt_or_ge i vs.length with h | h
     ·have e:vs.length - i=(vs.length - (i+1))+1:=by lia
      rw [e,List.range'_succ] at hr;cases hr
     ·lia
    subst hin
    rw [hlen,List.take_length] at hp
    exact fi c hp h2
  rcases vs with _ | ⟨v1,_ | ⟨v2,rest⟩⟩
  ·exact (ef t (.ref a)).symm ▸ lp
  ·rw [ee]
   cases hv with
   | cons b u hr=>
    cases hr
    refine wpAny_bind (wpAny_typeOf (W.typeIs_bytes s b u) ?_)
    rw [eh,if_pos (show (Value.type "bytes" == Value.type "bytes")=true by decide)]
    refine wpAny_bind (wpAny_rule (wpAny_pure ⟨_,rfl,?_⟩))
    have hh:R (.ok (.ret (.bytes b u))) s:=by simpa using h u s.toks
    exact hh
  ·rw [eg]
   exact lp
end
open PySem PyProof.Rows
theorem ZrX:∀a,lexLt a a=false
 | []=>rfl
 | x::a=>by simp [lexLt,ZrX a]
section
variable {prog:Program} {w:World} {A:Around} {E:Value→Shared→Prop} {s:Shared}
end
theorem BytesAre.all:∀{vs:List Value} {ss:List (List UInt8)},BytesAre vs ss→∀v,v∈vs→∃x t,v = .bytes x t
 | _,_,.nil,v,hv=>by simp at hv
 | _,_,.cons x t h,v,hv=>by
  rcases List.mem_cons.mp hv with rfl | hv
  ·exact ⟨_,t,rfl⟩
  ·exact BytesAre.all h v hv
end DK.Internal
end
section
set_option backward.match.sparseCases false
set_option genSizeOf false
set_option genCtorIdx false
set_option maxRecDepth 100000
namespace DK.Internal
open PySem PyProof.Rows PySem.SeqAt
variable {Y:Cx} {P:Prg} {Z:Zm} {s:Shared} {Q:Value→Shared→Prop} {E:Value→Shared→Prop}
theorem Ztj {v:Value} {d:D} {t:Ty} (hs:Sub Z s.heap) (r:Rep Y.P Z d v) (k:K Y Z (fun _ (b:Bool) (v:Value)=>v = .bool b) (isInst d t) Q E s):wpAny Y.M Y.A (call (.builtin "isinstance") [v,.type t.name]) Q E s:=by
 cases t with
 | tTuple=>
  cases d with
  | none=>cases r;exact IsiPair.NoneType_tuple (k.ok hs rfl _)
  | int i=>obtain ⟨t,rfl⟩:=r;exact IsiPair.int_tuple (k.ok hs rfl _)
  | str i=>obtain ⟨x,t,rfl,_⟩:=r;exact IsiPair.str_tuple (k.ok hs rfl _)
  | tuple i=>obtain ⟨a,vs,n,rfl,e,_⟩:=r;exact IsiPair.tuple_tuple (hs _ _ e) rfl (k.okS hs rfl)
  | list i=>obtain ⟨a,vs,n,rfl,e,_⟩:=r;exact IsiPair.list_tuple (hs _ _ e) rfl (k.ok hs rfl _)
  | _=>exact False.elim k
 | tList=>
  cases d with
  | none=>cases r;exact IsiPair.NoneType_list (k.ok hs rfl _)
  | int i=>obtain ⟨t,rfl⟩:=r;exact IsiPair.int_list (k.ok hs rfl _)
  | str i=>obtain ⟨x,t,rfl,_⟩:=r;exact IsiPair.str_list (k.ok hs rfl _)
  | tuple i=>obtain ⟨a,vs,n,rfl,e,_⟩:=r;exact IsiPair.tuple_list (hs _ _ e) rfl (k.ok hs rfl _)
  | list i=>obtain ⟨a,vs,n,rfl,e,_⟩:=r;exact IsiPair.list_list (hs _ _ e) rfl (k.okS hs rfl)
  | _=>exact False.elim k
 | tInt=>
  cases d with
  | none=>cases r;exact IsiPair.NoneType_int (k.ok hs rfl _)
  | bool b=>cases r;exact IsiPair.bool_int (k.okS hs rfl)
  | int i=>obtain ⟨t,rfl⟩:=r;exact IsiPair.int_int (k.okS hs rfl)
  | str i=>obtain ⟨x,t,rfl,_⟩:=r;exact IsiPair.str_int (k.ok hs rfl _)
  | tuple i=>obtain ⟨a,vs,n,rfl,e,_⟩:=r;exact IsiPair.tuple_int (hs _ _ e) rfl (k.ok hs rfl _)
  | list i=>obtain ⟨a,vs,n,rfl,e,_⟩:=r;exact IsiPair.list_int (hs _ _ e) rfl (k.ok hs rfl _)
  | _=>exact False.elim k
 | tBytes=>
  cases d with
  | none=>cases r;exact IsiPair.NoneType_bytes (k.ok hs rfl _)
  | int i=>obtain ⟨t,rfl⟩:=r;exact IsiPair.int_bytes (k.ok hs rfl _)
  | str i=>obtain ⟨x,t,rfl,_⟩:=r;exact IsiPair.str_bytes (k.ok hs rfl _)
  | bytes b=>obtain ⟨x,t,rfl,_⟩:=r;exact call_isinstance (isinstance_true (Tx:= "bytes") F.isi_meta_bytes F.sub_bytes_bytes) ⟨rfl,k.okS hs rfl⟩
  | tuple i=>obtain ⟨a,vs,n,rfl,e,_⟩:=r;exact IsiPair.tuple_bytes (hs _ _ e) rfl (k.ok hs rfl _)
  | list i=>obtain ⟨a,vs,n,rfl,e,_⟩:=r;exact IsiPair.list_bytes (hs _ _ e) rfl (k.ok hs rfl _)
  | _=>exact False.elim k
 | _=>exact False.elim k
theorem ZsF {xs:List D} {vs:List Value} (r:Reps P Z xs vs):∀{is:List Int},intsOf xs=some is→IntsAre vs is:=by
 refine r.ind (mo:=fun xs vs=>∀{is:List Int},intsOf xs=some is→IntsAre vs is) (fun {is} h=>by cases h;exact .nil) fun d v ds vs a _ ih is h=> ?_
 cases d with
 | int i=>
  obtain ⟨t,rfl⟩:=a
  unfold intsOf at h
  cases hr:intsOf ds with
  | none=>rw [hr] at h;cases h
  | some js=>rw [hr] at h;cases h;exact .cons _ _ (ih hr)
 | _=>cases h
theorem Ztk {xs:List D} {vs:List Value} (r:Reps P Z xs vs):∀{is:List Bool},boolsOf xs=some is→LSm.BoolsAre vs is:=by
 refine r.ind (mo:=fun xs vs=>∀{is:List Bool},boolsOf xs=some is→LSm.BoolsAre vs is) (fun {is} h=>by cases h;exact .nil) fun d v ds vs a _ ih is h=> ?_
 cases d with
 | bool i=>
  cases a
  unfold boolsOf at h
  cases hr:boolsOf ds with
  | none=>rw [hr] at h;cases h
  | some js=>rw [hr] at h;cases h;exact .cons _ (ih hr)
 | _=>cases h
theorem Ztl {xs:List D} {vs:List Value} (r:Reps P Z xs vs):∀{is:List (List UInt8)},byteStrs xs=some is→BytesAre vs is:=by
 refine r.ind (mo:=fun xs vs=>∀{is:List (List UInt8)},byteStrs xs=some is→BytesAre vs is) (fun {is} h=>by cases h;exact .nil) fun d v ds vs a _ ih is h=> ?_
 cases d with
 | bytes i=>
  obtain ⟨x,t,rfl,_,rfl⟩:=a
  unfold byteStrs at h
  cases hr:byteStrs ds with
  | none=>rw [hr] at h;cases h
  | some js=>rw [hr] at h;cases h;exact .cons _ _ (ih hr)
 | _=>cases h
theorem ZsN (xs:List D):∀{b:List UInt8},bytesOf xs=some b→∃is,intsOf xs=some is∧(∀n∈is,0≤n∧n < 256)∧b=is.map fun n=>n.toNat.toUInt8:=by
 induction xs with
 | nil=>intro b h;cases h;exact ⟨[],rfl,fun n h=>(nomatch h),rfl⟩
 | cons d ds ih=>
  intro b h
  unfold bytesOf at h
  cases hb:byteOf d with
  | none=>rw [hb] at h;cases h
  | some u=>
   rw [hb] at h
   cases h2:bytesOf ds with
   | none=>rw [h2] at h;cases h
   | some bs=>
    rw [h2] at h
    cases h
    obtain ⟨is,e1,e2,e3⟩:=ih h2
    cases d with
    | int i=>
     replace hb:(if 0≤i∧i < 256 then some (UInt8.ofNat i.toNat) else none)=some u:=hb
     by_cases hc:0≤i∧i < 256
     ·rw [if_pos hc] at hb
      cases hb
      exact ⟨i::is,by unfold intsOf;rw [e1],fun n hn=>(List.mem_cons.mp hn).elim (fun e=>e ▸ hc) (e2 n),by rw [e3];rfl⟩
     ·rw [if_neg hc] at hb;cases hb
    | _=>cases hb
theorem str3:∀n:Nat,n < 100→((toString (100+n:Nat)).toList.map Char.toNat)=digit3 (100+n):=by decide +kernel
noncomputable def biVal:Bi→Value
 | .len=> .builtin "len" | .bytes=> .type "bytes" | .ord=> .builtin "ord" | .str=> .type "str" | .typ=> .type "type" | .max=> .builtin "max"
 | .sum=> .builtin "sum" | .sorted=> .builtin "sorted" | .all=> .builtin "all" | _=> .none
theorem K.optO {α:Type} {o:Option α} {f:α→Out D} {G:Prop} (k:K Y Z (Rep Y.P) (optO o f) Q E s) (g:∀a,o=some a→K Y Z (Rep Y.P) (f a) Q E s→G):G:=by
 cases o with
 | none=>exact False.elim k
 | some a=>exact g a rfl k
theorem Ztm (is:List Int):∀m:Int,(maxI m is=m∨maxI m is∈is)∧m≤maxI m is∧∀a∈is,a≤maxI m is:=by
 induction is with
 | nil=>exact fun m=>⟨.inl rfl,Int.le_refl _,fun a h=>nomatch h⟩
 | cons x xs ih=>
  intro m
  show (maxI (if x > m then x else m) xs=m∨maxI (if x > m then x else m) xs∈x::xs)∧m≤maxI (if x > m then x else m) xs∧∀a∈x::xs,a≤maxI (if x > m then x else m) xs
  by_cases hx:x > m
  ·obtain ⟨h1,h2,h3⟩:=ih x
   rw [if_pos hx]
   exact ⟨.inr (h1.elim (fun e=>by rw [e];exact List.mem_cons_self ..) (List.mem_cons_of_mem _)),Int.le_trans (Int.le_of_lt hx) h2,fun a ha=>(List.mem_cons.mp ha).elim (fun e=>by rw [e];exact h2) (h3 a)⟩
  ·obtain ⟨h1,h2,h3⟩:=ih m
   rw [if_neg hx]
   exact ⟨h1.imp id (List.mem_cons_of_mem _),h2,fun a ha=>(List.mem_cons.mp ha).elim (fun e=>by rw [e];exact Int.le_trans (Int.not_lt.mp hx) h2) (h3 a)⟩
theorem Ztn {v:Value} {d:D} (hs:Sub Z s.heap) (r:Rep Y.P Z d v) (k:K Y Z (Rep Y.P) (lenD d) Q E s):wpAny Y.M Y.A (call (.builtin "len") [v]) Q E s:=by
 have hz:SZ≤2 ^ 24:=by decide
 cases d with
 | tuple xs=>
  obtain ⟨a,vs,n,rfl,e,z,q⟩:=r
  exact P.len_tuple (hs _ _ e) (by rw [List.size_toArray];lia) (K.ok k hs (by rw [List.size_toArray,q.length];exact rInt _ _) _)
 | list xs=>
  obtain ⟨a,vs,n,rfl,e,z,q⟩:=r
  exact len_list ⟨_,hs _ _ e,rfl,_,rfl⟩ (by rw [List.size_toArray];lia) (K.ok k hs (by rw [List.size_toArray,q.length];exact rInt _ _) _)
 | bytes xs=>
  obtain ⟨b,t,rfl,z,rfl⟩:=r
  exact W.len_bytes (by exact Nat.le_trans (by assumption) (by decide)) (K.ok k hs (by rw [Array.length_toList];exact rInt _ _) _)
 | _=>exact False.elim k
theorem Zto {a:Addr} {vs:List Value} {n:Nat} {xs:List D} (hs:Sub Z s.heap) (hh:Y.A.handled=none) (e:s.heap.get? a=some (lstO vs n)) (q:Reps Y.P Z xs vs) (k:K Y Z (Rep Y.P) (optO (intsOf xs) maxL) Q E s):wpAny Y.M Y.A (call (.builtin "max") [.ref a]) Q E s:=by
 refine k.optO fun ns h k=> ?_
 cases ns with
 | nil=>exact False.elim k
 | cons m is=>
  have hi:=ZsF q h
  have hl:s.heap.IsList a vs.toArray:=⟨_,e,rfl,n,rfl⟩
  obtain ⟨ys,ey⟩:=hi.allInts.items
  have hns:(m::is)=ys.toList.map (·.1):=by rw [←hi.numsOf,←nums_intItems,←ey]
  have hlen:ys.size=is.length+1:=by rw [←Array.length_toList,←List.length_map (f:=(·.1)),←hns];rfl
  rw [ey] at hl
  refine max_intList hh hl (by lia) fun v h' tk hv hk=> ?_
  obtain ⟨t,rfl⟩:=intItems_at hv
  obtain ⟨h1,h2⟩:=argBest_gt (numAt ys) (ys.size - 1)
  obtain ⟨m1,m2,m3⟩:=Ztm is m
  have hmem:numAt ys (argBest (fun i j=>decide (numAt ys i > numAt ys j)) (ys.size - 1))∈(m::is):=by
   rw [hns,numAt_eq];exact getD_mem (by rw [List.length_map,Array.length_toList];omega)
  have hmax:maxI m is≤numAt ys (argBest (fun i j=>decide (numAt ys i > numAt ys j)) (ys.size - 1)):=by
   have:maxI m is∈(m::is):=m1.elim (fun e=>e.symm ▸ List.mem_cons_self ..) (List.mem_cons_of_mem _)
   rw [hns] at this
   obtain ⟨j,hj,ej⟩:=mem_getD this
   rw [List.length_map,Array.length_toList] at hj
   rw [←ej,←numAt_eq];exact h2 j (by lia)
  rw [Int.le_antisymm ((List.mem_cons.mp hmem).elim (fun e=>e ▸ m2) (m3 _)) hmax]
  exact k.keeps hs hk tk (rInt _ _)
theorem Ztp {a:Addr} {vs:List Value} {n:Nat} {xs:List D} (hs:Sub Z s.heap) (hh:Y.A.handled=none) (e:s.heap.get? a=some (lstO vs n)) (q:Reps Y.P Z xs vs) (k:K Y Z (Rep Y.P) (optO (boolsOf xs) fun bs=> .ok (.bool (bs.all id))) Q E s):wpAny Y.M Y.A (call (.builtin "all") [.ref a]) Q E s:=by
 refine k.optO fun bs h k=> ?_
 have hb:=Ztk q h
 have hl:s.heap.IsList a vs.toArray:=⟨_,e,rfl,n,rfl⟩
 refine call_all_walk (wpAny_pyIter_list hl ?_)
 refine ⟨s.heap.objs.size,[s.heap.objs.size,a],[s.heap.objs.size],vs.toArray.size,_,_,fun i=>(bs[i]?).getD true,rfl,Walks.list (A:=Y.A.in1) hh _ a (Nat.ne_of_lt (Heap.lt_size e)) vs.toArray,
  ⟨⟨_,Heap.get?_push_size _ rfl,rfl,rfl⟩,hl.push _⟩,fun i v s' Q' E' hP hQ=> ?_,fun h' tk hk=> ?_⟩
 ·obtain ⟨b,e,rfl⟩:=hb.get i v (by simpa using hP)
  rw [show (fun i=>(bs[i]?).getD true) i=b from congrArg (·.getD true) e] at hQ
  exact wpAny_truthy_bool hQ
 ·have e:((List.range vs.toArray.size).all fun i=>(bs[i]?).getD true)=bs.all id:=by
   rw [List.size_toArray,hb.length];exact LSm.range_all bs
  rw [e]
  exact k.keeps hs (LSm.kept_iter hk) tk (ZqV _)
theorem ZrD {a:Addr} {vs:List Value} {n:Nat} {xs:List D} (hs:Sub Z s.heap) (e:s.heap.get? a=some (lstO vs n)) (z:vs.length≤SZ) (q:Reps Y.P Z xs vs)
  (k:K Y Z (Rep Y.P) (.ok (.list xs)) Q E s):wpAny Y.M Y.A (call (.type "list") [.ref a]) Q E s:=by
 refine call_list_seq a (.inl rfl) e rfl rfl (fun h' c' hk hn=> ?_) (by rw [List.size_toArray];exact Nat.le_trans z Zqr)
 have g:Nx Y Z s (Zput Z s.heap.objs.size (lstO vs c')) { s with heap:=h',toks:=s.toks }:= .put hs hk (Heap.get?_none_of_le (Nat.le_refl _)) hn _
 exact k _ _ _ g ⟨_,vs,c',rfl,Zqs,z,q.up g.le⟩
theorem Zsr {a:Addr} {vs:List Value} {n:Nat} {xs:List D} (hs:Sub Z s.heap) (hh:Y.A.handled=none) (e:s.heap.get? a=some (lstO vs n)) (z:vs.length≤SZ) (q:Reps Y.P Z xs vs)
  (k:K Y Z (Rep Y.P) (optO (bytesOf xs) fun b=> .ok (.bytes b)) Q E s):wpAny Y.M Y.A (call (.type "bytes") [.ref a]) Q E s:=by
 refine k.optO fun b h k=> ?_
 obtain ⟨is,e1,e2,e3⟩:=ZsN xs h
 have hi:=ZsF q e1
 refine call_bytes_ints ⟨_,e,rfl,_,rfl⟩ hi e2 (Nat.le_trans z Zqr) hh fun h' t tk hk=>k.keeps hs hk tk ?_
 have r:Rep Y.P Z _ _:=ZtZ (byteArr is) t (by rw [byteArr_size,←hi.length];exact z)
 rw [show (byteArr is).toList=b by rw [e3];simp [byteArr]] at r
 exact r
theorem Ztq {i:Int} {t:Tok} (hs:Sub Z s.heap) (k:K Y Z (Rep Y.P) (if 100≤i∧i < 200 then .ok (.str (digit3 i.toNat)) else .stuck) Q E s):wpAny Y.M Y.A (call (.type "str") [.int i t]) Q E s:=by
 refine k.ite fun hc k=> ?_
 obtain ⟨n,rfl⟩:∃n:Nat,i=(100+n:Nat):=⟨(i - 100).toNat,by omega⟩
 have hn:n < 100:=by lia
 refine P.str_of_int ?_ ?_
 ·have:((100+n:Nat):Int).natAbs < 2 ^ 20:=by omega
  have:=(Nat.log2_lt (by lia:((100+n:Nat):Int).natAbs≠0)).mpr this
  exact Nat.lt_of_lt_of_le (by assumption) (by decide)
 ·have e:(Str.ofString (toString ((100+n:Nat):Int))).cps.toList=digit3 ((100+n:Nat):Int).toNat:=by
   rw [Str.ofString_eq_toList]
   exact str3 n hn
  have r:Rep Y.P Z _ _:=rStr (Str.ofString (toString ((100+n:Nat):Int))) s.toks (by rw [←Array.length_toList,e];show 3≤SZ;decide)
  rw [e] at r
  exact k.ok hs r _
theorem ZsO {x:Str} {t:Tok} (hs:Sub Z s.heap) (k:K Y Z (Rep Y.P) (ordC (.str x.cps.toList)) Q E s):wpAny Y.M Y.A (call (.builtin "ord") [.str x t]) Q E s:=by
 generalize hx:x.cps.toList=l at k
 cases l with
 | nil=>exact False.elim k
 | cons c l=>
  cases l with
  | cons _ _=>exact False.elim k
  | nil=>
   have:x=⟨#[c]⟩:=by
    cases x with
    | mk a=>exact congrArg _ (Array.toList_inj.mp hx)
   subst this
   exact P.ord_of_char (K.ok k hs (rInt _ _) _)
theorem Ztr {v:Value} {d:D} (hs:Sub Z s.heap) (r:Rep Y.P Z d v) (k:K Y Z (Rep Y.P) (typD d) Q E s):wpAny Y.M Y.A (call (.type "type") [v]) Q E s:=by
 cases d with
 | bool b=>cases r;exact call_type_of (Tx:= "bool") rfl (by decide) (K.okS k hs rfl)
 | int b=>obtain ⟨t,rfl⟩:=r;exact call_type_of (Tx:= "int") rfl (by decide) (K.okS k hs rfl)
 | bytes b=>obtain ⟨x,t,rfl,_⟩:=r;exact call_type_of (Tx:= "bytes") rfl (by decide) (K.okS k hs rfl)
 | _=>exact False.elim k
noncomputable def biFn:Bi→Bool
 | .list | .join=>false
 | _=>true
theorem Zuf {v:Value} {d:D} {b:Bi} (hb:biFn b=true) (hs:Sub Z s.heap) (hh:Y.A.handled=none) (r:Rep Y.P Z d v) (k:K Y Z (Rep Y.P) (bi1 b d) Q E s):wpAny Y.M Y.A (PySem.call (biVal b) [v]) Q E s:=by
 cases b with
 | len=>exact Ztn hs r k
 | bytes=>exact K.onLst hs k r fun xs a vs n e z q k=>Zsr hs hh e z q k
 | ord=>exact K.onStr k r fun x t z k=>ZsO hs k
 | str=>exact K.onInt k r fun i t k=>Ztq hs k
 | typ=>exact Ztr hs r k
 | max=>exact K.onLst hs k r fun xs a vs n e z q k=>Zto hs hh e q k
 | sum=>exact False.elim k
 | sorted=>exact False.elim k
 | all=>exact K.onLst hs k r fun xs a vs n e z q k=>Ztp hs hh e q k
 | _=>cases hb
theorem ZtK {v:Value} {d:D} {t:Tok} (hs:Sub Z s.heap) (r:Rep Y.P Z d v) (k:K Y Z (Rep Y.P) (bi1 .join d) Q E s) :
  s.TypeIs (.bytes #[] t) "bytes" ∧argsOk "bytes.join" ⟨[.bytes #[] t,v],[]⟩∧∃S,Meets (Builtin.«bytes.join» ⟨[.bytes #[] t,v],[]⟩) S∧S Y.A (wants Q E) s:=
 K.onLst hs k r fun xs a vs n e z q k=>k.optO fun bs h k=>k.ite fun hc k=>
  ⟨rfl,Zrr _ _,_,ZsM a vs n bs t,e,Ztl q h,hc.1,fun t' tk=>k.ok hs (ZrJ t' hc.1) tk⟩
theorem ZrY {x:Option Value} {y:Option D} (q:FlatO x y) {u:Value} {d:D} (ru:Rep P Z d u):Rep P Z (y.getD d) (x.getD u):=by
 cases x with
 | none=>cases y with
  | none=>exact ru
  | some _=>exact False.elim q
 | some v=>cases y with
  | none=>exact False.elim q
  | some _=>exact rFlat q
theorem ZrZ (d:D) (o:Option D):orElse d o = .ok (o.getD d):=by cases o<;>rfl
def GetOk (Y:Cx) (va vi vd:Value) (Q:Value→Shared→Prop) (s:Shared):Prop:=
 ∃(Kt:Type) (_:DecidableEq Kt) (knd:PySem.KeyKind Y.P.prog Y.P.w Kt) (a:Addr) (kk:Kt) (f:Kt→Option Value),va = .ref a∧(a == sysModules)=false∧knd.is kk vi=true∧s.heap.MapOf knd a f∧Q ((f kk).getD vd) { s with toks:=s.toks+1 }
theorem ZsP {va vi:Value} {ks vs:List D} {y:D} (hs:Sub Z s.heap) (ra:Rep Y.P Z (.dict ks vs) va) (ri:Rep Y.P Z y vi) (k:K Y Z (Rep Y.P) (dictGet ks vs [y]) Q E s):GetOk Y va vi .none Q s:=by
 refine K.onInt k ri fun i t k=>k.ite fun hall k=> ?_
 obtain ⟨a,rfl,ra | ra⟩:=ra
 ·exact (ZsC ra.ne hall ra.all).elim
 ·obtain ⟨f,h1,h2⟩:=ra.at_
  rw [ZrZ] at k
  exact ⟨_,_,PySem.intKind Y.P.prog Y.P.w,a,i,f,rfl,ra.sys,intKind_is _ _ i t,h1 _ hs,k.ok hs (ZrY (h2 i) rNone) _⟩
theorem ZsQ {va vi vd:Value} {ks vs:List D} {y z:D} (hs:Sub Z s.heap) (ra:Rep Y.P Z (.dict ks vs) va) (ri:Rep Y.P Z y vi) (rd:Rep Y.P Z z vd) (k:K Y Z (Rep Y.P) (dictGet ks vs [y,z]) Q E s):GetOk Y va vi vd Q s:=by
 refine K.onStr k ri fun x t _ k=>k.ite fun hall k=> ?_
 obtain ⟨a,rfl,ra | ra⟩:=ra
 ·obtain ⟨f,h1,h2⟩:=ra.at_
  rw [ZrZ] at k
  exact ⟨_,_,PySem.strKind Y.P.prog Y.P.w,a,x,f,rfl,ra.sys,strKind_is _ _ x t,h1 _ hs,k.ok hs (ZrY (h2 x) rd) _⟩
 ·exact (ZsC ra.ne ra.all hall).elim
end DK.Internal
end
section
set_option backward.match.sparseCases false
set_option genSizeOf false
set_option genCtorIdx false
set_option genSizeOf false
set_option genInjectivity false
namespace DK.Internal
open PySem PyProof.Rows
structure Rs where
 loc:List (Str × Nat)
 fns:List (Str × Nat)
 gls:List (Str × Nat)
 io:List (Str × List Bool)
 nl:Nat
 own:List Str
 names:List (Str × NameKind)
 byref:List Str
noncomputable def Rs.glob (R:Rs) (x:Str):Bool:=decide (R.loc.lookup x=none∧R.names.lookup x=some .globalImplicit∧(x == ("__debug__" : Str))=false)
noncomputable def Rs.put (R:Rs) (x:Str):Option Nat:=if x∈R.byref then none else R.loc.lookup x
noncomputable def tyTab:List (Str × Ty):= [("bytes",.tBytes),("int",.tInt),("tuple",.tTuple),("list",.tList),("bool",.tBool)]
noncomputable def tyName (x:Str):Option Ty:=tyTab.lookup x
noncomputable def biTab:List (Str × Bi):= [("len",.len),("bytes",.bytes),("ord",.ord),("str",.str),("type",.typ),("max",.max),("sum",.sum),("sorted",.sorted),("all",.all)]
noncomputable def biName (x:Str):Option Bi:=biTab.lookup x
noncomputable def refsOf:List Str→List Bool→List Str
 | x::xs,true::bs=>x::refsOf xs bs
 | _::xs,false::bs=>refsOf xs bs
 | _,_=> []
structure FnOk (P:Prg) (a:Addr) (i:Nat) (fd:FuncData) (d:Def):Prop where
 obj:∃o,P.gh.get? a=some o∧o.data = .func fd
 code:P.gh.CodeRec fd.code fd.qualname
 body:fd.body = .stmts d.body
 names:fd.scope.names=d.names
 kind:fd.scope.kind = .function
 co:fd.scope.isCoroutine=false
 gen:fd.scope.isGenerator=false
 clo:fd.closure = []
 glob:fd.globals=mainGlobals
 buil:fd.builtins=builtinsNs
 bind:∀vs:List Value,vs.length=d.ps.length→bindArgs fd ⟨vs,[]⟩=pure (d.ps.zip vs)
 fn:P.defs[i]?=some d
 pk:∀x∈d.ps,d.names.lookup x=some .local∨d.names.lookup x=some .cell
 nd:d.ps.Nodup
 nk:∀n∈d.names,d.names.lookup n.1=some n.2
structure Glo (P:Prg):Prop where
 g:P.gh.Ns mainGlobals P.mg
 b:P.gh.Ns builtinsNs P.mb
 lim:P.gh.NoLimit
 ty:∀x t,tyName x=some t→P.mg x=none∧P.mb x=some (.type t.name)
 bi:∀x b,biName x=some b→P.mg x=none∧P.mb x=some (biVal b)
 isi:P.mg "isinstance" = none∧P.mb "isinstance" = some (.builtin "isinstance")
 rng:P.mg "range" = none∧P.mb "range" = some (.type "range")
 enu:P.mg "enumerate" = none∧P.mb "enumerate" = some (.type "enumerate")
 sys:∃b o,sysModules≤b∧P.gh.get? b=some o
 ve:P.mg "ValueError" = none∧P.mb "ValueError" = some VE
 data:∀x g,P.gls.lookup x=some g→∃v d,P.mg x=some v∧P.T.globs[g]?=some d∧Rep P P.gh.get? d v
 fn:∀f i,P.fns.lookup f=some i→∃a fd d,P.mg f=some (.ref a)∧FnOk P a i fd d∧d.name=f
structure COk (Y:Cx) (Z:Zm) (h:Heap):Prop where
 glo:Glo Y.P
 below:Below Y.A Y.base Y.l h
 gb:Y.P.gh.StaysIn Y.base
 sub:Sub Z h
 gz:Zle Y.P.gh.get? Z
 frz:∀b∈fas Y.l,Z b=none
 depth:Y.A.depth+Y.r < recursionLimit
 units:Y.A.units+3*Y.r+100≤cLine
 hand:Y.A.handled=none
inductive ArgsAt (P:Prg) (Z:Zm) (h:Heap):List Value→List Slot→List (Option Addr)→Prop
 | nil:ArgsAt P Z h [] [] []
 | val {v d vs sls ads}:Rep P Z d v→ArgsAt P Z h vs sls ads→ArgsAt P Z h (v::vs) (.val d::sls) (none::ads)
 | own {a us n xs vs sls ads}:h.get? a=some (lstO us n)→us.length≤SZ→Reps P Z xs us→ArgsAt P Z h vs sls ads→ArgsAt P Z h (.ref a::vs) (.own xs::sls) (some a::ads)
inductive BackAt (P:Prg) (Z:Zm) (h:Heap):List Slot→List (Option Addr)→Prop
 | nil:BackAt P Z h [] []
 | val {o os ads}:BackAt P Z h os ads→BackAt P Z h (o::os) (none::ads)
 | own {a us n xs os ads}:h.get? a=some (lstO us n)→us.length≤SZ→Reps P Z xs us→BackAt P Z h os ads→BackAt P Z h (.own xs::os) (some a::ads)
abbrev AsIn (ads:List (Option Addr)) (b:Addr):Prop:=some b∈ads
noncomputable def KG (Y:Cx) (Z:Zm) (ads:List (Option Addr)) (o:Out Reply) (Q:Value→Shared→Prop) (E:Value→Shared→Prop) (s:Shared):Prop:=
 match o with
 | .ok x=>(match x.1 with
  | .ret d=>∀v Z' s',Go (AsIn ads) Y Z s Z' s'→(∀b,AsIn ads b→Z' b=none)→Rep Y.P Z' d v→BackAt Y.P Z' s'.heap x.2 ads→Q v s'
  | _=>False)
 | .exc=>∀x s',Ex (AsIn ads) Y s x s'→E (.ref x) s'
 | .stuck=>False
def CallG (Y:Cx):Prop:=∀{Z s f a fd d vs sls ads Q E},COk Y Z s.heap→FnOk Y.P a f fd d→ArgsAt Y.P Z s.heap vs sls ads→(∀(i j:Nat) (b:Addr),ads[i]?=some (some b)→ads[j]?=some (some b)→i=j) →
 (∀b,AsIn ads b→Z b=none∧Y.base.get? b=none∧b∉fas Y.l) →
 (d.ps.length=sls.length→∀(i:Nat) (b:Addr),ads[i]?=some (some b)→∃x,d.ps[i]?=some x∧x∈refsOf d.ps ((Y.P.io.lookup d.name).getD [])) →
 KG Y Z ads (callT real Y.P.T Y.r f sls) Q E s→wpAny Y.M Y.A (call (.ref a) vs) Q E s
noncomputable def Cx.ex (Y:Cx) (c:C) (sl:List Slot):Out D:=DK.Internal.ex real Y.P.T (callT real Y.P.T Y.r) c sl
noncomputable def Cx.exs (Y:Cx) (c:Cs) (sl:List Slot):Out (List D):=DK.Internal.exs real Y.P.T (callT real Y.P.T Y.r) c sl
noncomputable def Cx.tst (Y:Cx) (c:C) (sl:List Slot):Out Bool:=DK.Internal.tst real Y.P.T (callT real Y.P.T Y.r) c sl
noncomputable def Cx.tsts (Y:Cx) (c:Cs) (sl:List Slot):Out Bool:=DK.Internal.tsts real Y.P.T (callT real Y.P.T Y.r) c sl
noncomputable def Cx.items (Y:Cx) (c:It) (sl:List Slot):Out (List D):=DK.Internal.items real Y.P.T (callT real Y.P.T Y.r) c sl
def VarAt (h:Heap) (env:Env) (x:Str) (v:Option Value):Prop:=
 (env.kindOf x=some .local∧∃m,h.Ns env.locals m∧m x=v)∨(env.kindOf x=some .cell∧∃c,env.cells.lookup x=some c∧h.IsCell c v)
noncomputable def SlotAt (P:Prg) (Z:Zm) (oa:Nat→Option Addr) (h:Heap) (env:Env) (x:Str) (i:Nat):Option Slot→Prop
 | some (.val d)=>∃v,VarAt h env x (some v)∧Rep P Z d v
 | some (.own xs)=>∃a vs n,oa i=some a∧VarAt h env x (some (.ref a))∧h.get? a=some (lstO vs n)∧vs.length≤SZ∧Reps P Z xs vs
 | _=>True
structure Rs.WF (R:Rs):Prop where
 inj:∀x y i,R.loc.lookup x=some i→R.loc.lookup y=some i→x=y
 lt:∀x i,R.loc.lookup x=some i→i < R.nl
def Home (env:Env) (x:Str) (b:Addr):Prop:=(env.kindOf x=some .local∧b=env.locals)∨(env.kindOf x=some .cell∧env.cells.lookup x=some b)
def Loc (env:Env) (b:Addr):Prop:=b=env.locals∨∃x,env.cells.lookup x=some b
structure Stat (R:Rs) (Y:Cx) (env:Env):Prop where
 calls:∀Y':Cx,Y'.P=Y.P→Y'.r=Y.r→CallG Y'
 fns:R.fns=Y.P.fns
 gls:R.gls=Y.P.gls
 io:R.io=Y.P.io
 kind:env.scope.kind = .function
 glob:env.globals=mainGlobals
 buil:env.builtins=builtinsNs
 gk:∀x,R.names.lookup x=some .globalImplicit→env.kindOf x=some .globalImplicit
 ck:∀x,R.names.lookup x=some .cell→env.kindOf x=some .cell∧(env.cells.lookup x).isSome=true
 fr:∃fenv outer L,Y.l=fenv::outer∧fenv.frame=some L∧env.frame=some L
 wf:R.WF
 cellA:∀x y c,env.cells.lookup x=some c→env.cells.lookup y=some c→x=y
 cellL:∀x c,env.cells.lookup x=some c→c≠env.locals
def Bs (R:Rs) (Y:Cx) (env:Env):Prop:=∀x i b,R.put x=some i→Home env x b→Y.base.get? b=none
structure Ok (R:Rs) (Y:Cx) (env:Env) (Z:Zm) (oa:Nat→Option Addr) (sl:List Slot) (h:Heap):Prop where
 st:Stat R Y env
 c:COk Y Z h
 var:∀x i,R.loc.lookup x=some i→SlotAt Y.P Z oa h env x i sl[i]?
 has:∀x i,R.loc.lookup x=some i→∃v,VarAt h env x v
 len:sl.length=R.nl
 loz:∀b,Loc env b→Z b=none∧(h.get? b).isSome=true
 own:∀i a,oa i=some a→Z a=none∧True∧a∉fas Y.l∧¬Loc env a∧(h.get? a).isSome=true
 oinj:∀i j a,oa i=some a→oa j=some a→i=j
 ns:∃m,h.Ns env.locals m
section
variable {Y:Cx} {Z Z':Zm} {s s':Shared} {env:Env} {R:Rs} {oa:Nat→Option Addr} {sl:List Slot} {W:Addr→Prop} {h h':Heap}
theorem ZqA {base h:Heap} {l:List Env} (f:h.FunFrames base l):∀b∈fas l,base.get? b=none∧∃o,h.get? b=some o∧∀vs,o.data≠.fields vs:=by
 induction l with
 | nil=>intro b hb;cases hb
 | cons env rest ih=>
  obtain ⟨_,⟨L,o,hf,hn,ho,hd⟩,hr⟩:=f
  intro b hb
  rw [show fas (env::rest)=L::fas rest by unfold fas;rw [List.filterMap_cons_some hf]] at hb
  rcases List.mem_cons.mp hb with rfl | hb
  ·exact ⟨hn,o,ho,hd⟩
  ·exact ih hr b hb
theorem ZqK {base base':Heap} {l:List Env} (k:∀b∈fas l,∀o,h.get? b=some o→(∀vs,o.data≠.fields vs)→base'.get? b=none∧∃o',h'.get? b=some o'∧∀vs,o'.data≠.fields vs) (f:h.FunFrames base l):h'.FunFrames base' l:=by
 induction l with
 | nil=>trivial
 | cons env rest ih=>
  obtain ⟨hk,⟨L,o,hf,hn,ho,hd⟩,hr⟩:=f
  have hfa:fas (env::rest)=L::fas rest:=by unfold fas;rw [List.filterMap_cons_some hf]
  rw [hfa] at k
  obtain ⟨hb,o',ho',hd'⟩:=k L (List.mem_cons_self ..) o ho hd
  exact ⟨hk,⟨L,o',hf,hb,ho',hd'⟩,ih (fun b hb=>k b (List.mem_cons_of_mem _ hb)) hr⟩
theorem COk.ks (c:COk Y Z h) (x:KS W (fas Y.l) h h') (hb:∀b,W b→Y.base.get? b=none) (le:Zle Z Z') (sub:Sub Z' h') (frz:∀b∈fas Y.l,Z' b=none):COk Y Z' h':=
 {
  c with
  below:=⟨c.below.stack,fun b o e=>x.keep b o (c.below.stays b o e) (fun w=>by rw [hb b w] at e;cases e) (fun m=>by rw [(ZqA c.below.frames b m).1] at e;cases e),ZqK (fun b hb o e nf=>⟨(ZqA c.below.frames b hb).1,by
   by_cases w:W b
   ·exact x.alive b o e w hb nf
   ·obtain ⟨sl,q⟩:=x.fr b o e w hb;exact ⟨_,q,nf⟩⟩) c.below.frames⟩
  sub:=sub
  gz:=fun b o e=>le b o (c.gz b o e)
  frz:=frz }
theorem Nx.still (g:Nx Y Z s Z' s') {b:Addr} (z:Z b=none) (e:(s.heap.get? b).isSome=true):Z' b=none:=by
 cases q:Z' b with
 | none=>rfl
 | some o=>
  rcases g.new b (by rw [q];exact nofun) with n | n | n
  ·exact absurd z n
  ·exact n.elim
  ·rw [n] at e;cases e
theorem COk.nx (c:COk Y Z s.heap) (g:Nx Y Z s Z' s'):COk Y Z' s'.heap:=
 c.ks g.ks (fun _ q=>q.elim) g.le g.sub fun b hb=>g.still (c.frz b hb) (by obtain ⟨_,o,e,_⟩:=ZqA c.below.frames b hb;rw [e];rfl)
theorem ns_keep {a:Addr} {m:Str→Option Value} (n:h.Ns a m) (k:∀o,h.get? a=some o→∃o',h'.get? a=some o'∧o'.data=o.data):h'.Ns a m:=by
 obtain ⟨o,es,ep,ho,hd,q⟩:=n
 obtain ⟨o',ho',hd'⟩:=k o ho
 exact ⟨o',es,ep,ho',hd'.trans hd,q⟩
theorem VarAt.keep {x:Str} {v:Option Value} (q:VarAt h env x v) (k:∀b o,Loc env b→h.get? b=some o→∃o',h'.get? b=some o'∧o'.data=o.data):VarAt h' env x v:=by
 rcases q with ⟨kk,m,n,e⟩ | ⟨kk,c,e,o,ho,hd⟩
 ·exact .inl ⟨kk,m,ns_keep n fun o e=>k _ o (.inl rfl) e,e⟩
 ·obtain ⟨o',ho',hd'⟩:=k c o (.inr ⟨x,e⟩) ho
  exact .inr ⟨kk,c,e,o',ho',hd'.trans hd⟩
theorem SlotAt.keep {P:Prg} {x:Str} {i:Nat} {t:Option Slot} (q:SlotAt P Z oa h env x i t) (le:Zle Z Z') (k:∀{y v},VarAt h env y v→VarAt h' env y v) (ko:∀a o,oa i=some a→h.get? a=some o→h'.get? a=some o):SlotAt P Z' oa h' env x i t:=by
 cases t with
 | none=>trivial
 | some t=>
  cases t with
  | un=>trivial
  | val d=>obtain ⟨v,a,b⟩:=q;exact ⟨v,k a,b.up le⟩
  | own xs=>obtain ⟨a,vs,n,a0,a1,a2,a3,a4⟩:=q;exact ⟨a,vs,n,a0,k a1,ko a _ a0 a2,a3,a4.up le⟩
theorem Ok.nx (c:Ok R Y env Z oa sl s.heap) (g:Nx Y Z s Z' s'):Ok R Y env Z' oa sl s'.heap:=
 have kd:∀b o,s.heap.get? b=some o→∃o',s'.heap.get? b=some o'∧o'.data=o.data:=fun b o e=>g.ks.stay e id
 have sm:∀b,(s.heap.get? b).isSome=true→(s'.heap.get? b).isSome=true:=fun b e=>by
  cases q:s.heap.get? b with
  | none=>rw [q] at e;cases e
  | some o=>obtain ⟨o',e',_⟩:=kd b o q;rw [e'];rfl
 have kv:∀{y v},VarAt s.heap env y v→VarAt s'.heap env y v:=fun q=>q.keep fun b o _ e=>kd b o e
 {
  c with
  c:=c.c.nx g
  var:=fun y i e=>(c.var y i e).keep g.le kv fun a o ha e=>g.ks.keep a o e id (c.own i a ha).2.2.1
  has:=fun y i e=>(c.has y i e).imp fun _ q=>kv q
  loz:=fun b q=>⟨g.still (c.loz b q).1 (c.loz b q).2,sm b (c.loz b q).2⟩
  own:=fun i a q=>have o:=c.own i a q;⟨g.still o.1 o.2.2.2.2,o.2.1,o.2.2.1,o.2.2.2.1,sm a o.2.2.2.2⟩
  ns:=c.ns.imp fun m q=>ns_keep q fun o e=>kd _ o e }
theorem COk.gh (c:COk Y Z h):Y.P.gh.StaysIn h:=fun b o e=>c.below.stays b o (c.gb b o e)
theorem COk.ns (c:COk Y Z h) {a:Addr} {m:Str→Option Value} (n:Y.P.gh.Ns a m):h.Ns a m:=ns_keep n fun o e=>⟨o,c.gh _ _ e,rfl⟩
theorem Ok.g (c:Ok R Y env Z oa sl h):h.Ns env.globals Y.P.mg:=c.st.glob ▸ c.c.ns c.c.glo.g
theorem Ok.b (c:Ok R Y env Z oa sl h):h.Ns env.builtins Y.P.mb:=c.st.buil ▸ c.c.ns c.c.glo.b
end
def SE (R:Rs) (e:Expr) (c:C):Prop:=∀{Y:Cx} {env:Env} {Z:Zm} {oa:Nat→Option Addr} {sl:List Slot} {s:Shared} {Q:Value→Shared→Prop} {E:Value→Shared→Prop},
 Ok R Y env Z oa sl s.heap→K Y Z (Rep Y.P) (Y.ex c sl) Q E s→wpAny Y.M Y.A (eval e env) Q E s
abbrev Same {β:Type} (_:Zm) (a b:β):Prop:=b=a
def ST (R:Rs) (e:Expr) (c:C):Prop:=∀{Y:Cx} {env:Env} {Z:Zm} {oa:Nat→Option Addr} {sl:List Slot} {s:Shared} {Q:Bool→Shared→Prop} {E:Value→Shared→Prop},
 Ok R Y env Z oa sl s.heap→K Y Z Same (Y.tst c sl) Q E s→wpAny Y.M Y.A (isTrue e env (eval e env)) Q E s
def SEs (R:Rs) (es:List Expr) (c:Cs):Prop:=∀{Y:Cx} {env:Env} {Z:Zm} {oa:Nat→Option Addr} {sl:List Slot} {s:Shared} {Q:List Value→Shared→Prop} {E:Value→Shared→Prop} {pos:Pos},
 Ok R Y env Z oa sl s.heap→K Y Z (Reps Y.P) (Y.exs c sl) Q E s→wpAny Y.M Y.A (spliced (backTo pos (starEach es env))) Q E s
section
variable {R:Rs} {Y:Cx} {env:Env} {Z:Zm} {oa:Nat→Option Addr} {sl:List Slot} {s:Shared} {E:Value→Shared→Prop}
theorem SE.bad {e:Expr}:SE R e .bad:=fun _ k=>False.elim k
theorem ZqE {x:Str} {v:Value} {Q:Value→Shared→Prop} {M:Model} {A:Around} (hk:env.scope.kind = .function) (h:VarAt s.heap env x (some v)) (q:Q v s):wpAny M A (loadName env x) Q E s:=by
 rcases h with ⟨k,m,n,e⟩ | ⟨k,c,e,i⟩
 ·exact wpAny_loadName_local hk k n e q
 ·exact wpAny_loadName_cell hk k e i q
theorem K.getV {β α:Type} {R':Zm→β→α→Prop} {Q:α→Shared→Prop} {f:D→Out β} {x:Str} {i:Nat} {G:Prop} (ok:Ok R Y env Z oa sl s.heap) (hx:R.loc.lookup x=some i) (k:K Y Z R' (DK.Internal.getV sl i>>=f) Q E s) (g:∀d v,VarAt s.heap env x (some v)→Rep Y.P Z d v→K Y Z R' (f d) Q E s→G):G:=by
 have hv:=ok.var x i hx
 unfold DK.Internal.getV at k
 cases hs:sl[i]? with
 | none=>rw [hs] at k;exact False.elim k
 | some t=>
  rw [hs] at k hv
  cases t with
  | val d=>obtain ⟨v,hv,rv⟩:=hv;exact g d v hv rv k
  | _=>exact False.elim k
theorem K.pure {β α:Type} {R':Zm→β→α→Prop} {Q:α→Shared→Prop} {o:Out β} (k:K Y Z R' o Q E s):K Y Z R' (o>>=Out.ok) Q E s:=by cases o<;>exact k
theorem SE.var {x:Str} {i:Nat} {pos:Pos} (h:R.loc.lookup x=some i) (hd:(x == ("__debug__" : Str))=false):SE R (.Name x pos) (.var i):=fun ok k=>
 wpAny_Name (K.getV ok h k.pure fun d v hv rv k=>ZqE ok.st.kind hv (k.okS ok.c.sub rv)) hd
theorem Zrs {x:Str} (h:R.glob x=true):R.loc.lookup x=none∧R.names.lookup x=some .globalImplicit∧(x == ("__debug__" : Str))=false:=of_decide_eq_true h
theorem Zqo {Q:Value→Shared→Prop} {x:Str} {pos:Pos} {v:Value} (c:Ok R Y env Z oa sl s.heap) (hx:R.glob x=true) (hg:Y.P.mg x=none∧Y.P.mb x=some v) (q:Q v s):wpAny Y.M Y.A (eval (.Name x pos) env) Q E s:=
 have h:=Zrs hx
 Calls.Name_function_global c.st.kind (c.st.gk x h.2.1) (Calls.loadGlobal_builtin c.g hg.1 c.b hg.2 q) h.2.2
theorem ZqS {Q:Value→Shared→Prop} {x:Str} {pos:Pos} {v:Value} (c:Ok R Y env Z oa sl s.heap) (hx:R.glob x=true) (hg:Y.P.mg x=some v) (q:Q v s):wpAny Y.M Y.A (eval (.Name x pos) env) Q E s:=
 have h:=Zrs hx
 Calls.Name_function_global c.st.kind (c.st.gk x h.2.1) (Calls.loadGlobal_global c.g hg q) h.2.2
theorem SE.glob {x:Str} {pos:Pos} {g:Nat} (hx:R.glob x=true) (hg:R.gls.lookup x=some g):SE R (.Name x pos) (.glob g):=by
 intro Y env Z oa sl s Q E c k
 obtain ⟨v,d,h1,h2,h3⟩:=c.c.glo.data x g (c.st.gls ▸ hg)
 replace k:K Y Z (Rep Y.P) (globD Y.P.T g) Q E s:=k
 unfold globD at k
 rw [h2] at k
 exact ZqS c hx h1 (k.okS c.c.sub (h3.up c.c.gz))
theorem SE.ty {x:Str} {pos:Pos} {t:Ty} (hx:R.glob x=true) (ht:tyName x=some t):SE R (.Name x pos) (.k (.typ t)):=fun c k=>
 Zqo c hx (c.c.glo.ty x t ht) (K.okS (d:=D.typ t) k c.c.sub rfl)
theorem SE.cNone {n:Nat} {pos:Pos}:SE R (.Constant .none n pos) (.k .none):=fun c k=>wpAny_Constant_none (K.okS (d:=D.none) k c.c.sub rfl)
theorem SE.cBool {n:Nat} {pos:Pos} {b:Bool}:SE R (.Constant (.bool b) n pos) (.k (.bool b)):=fun c k=>wpAny_Constant_bool (K.okS (d:=D.bool b) k c.c.sub rfl)
theorem SE.cInt {n:Nat} {pos:Pos} {i:Int}:SE R (.Constant (.int i) n pos) (.k (.int i)):=fun c k=>wpAny_Constant_int (K.ok (d:=D.int i) k c.c.sub (rInt _ _) _)
theorem SE.cStr {n:Nat} {pos:Pos} {x:Str} (h:x.cps.size≤SZ):SE R (.Constant (.str x) n pos) (.k (.str x.cps.toList)):=fun c k=>Calls.Constant_str (K.ok (d:=D.str x.cps.toList) k c.c.sub (rStr _ _ h) _)
theorem SE.cBytes {n:Nat} {pos:Pos} {b:List UInt8} (h:b.length≤SZ):SE R (.Constant (.bytes b) n pos) (.k (.bytes b)):=fun c k=>W.Constant_bytes (K.ok (d:=D.bytes b) k c.c.sub (ZrJ _ h) _)
theorem SE.bin {a b:Expr} {ca cb:C} {op:Operator} {pos:Pos} (ha:SE R a ca) (hb:SE R b cb):SE R (.BinOp a op b pos) (.bin op ca cb):=fun c k=>
 wpAny_BinOp (ha c (K.bind k fun x v Z₁ s₁ g rv k=>hb (c.nx g) (K.bind k fun y u Z₂ s₂ g₂ ru k=>Zsm g₂.sub (rv.up g₂.le) ru k)))
theorem SE.neg {a:Expr} {ca:C} {pos:Pos} (ha:SE R a ca):SE R (.UnaryOp .USub a pos) (.neg ca):=fun c k=>
 wpAny_UnaryOp (ha c (K.bind k fun x v Z₁ s₁ g rv k=>K.onInt k rv fun i t k=>neg_int (k.ok g.sub (rInt _ _) _)))
theorem SE.cmp {a b:Expr} {ca cb:C} {op:CmpOp} {pos:Pos} (hm:behindInMarks op b=false) (ha:SE R a ca) (hb:SE R b cb):SE R (.Compare a [op] [b] pos) (.cmp op ca cb):=fun c k=>
 wpAny_Compare1 (ha c (K.bind k fun x v Z₁ s₁ g rv k=>hb (c.nx g) (K.bind k fun y u Z₂ s₂ g₂ ru k=>Zrp (by have:=c.c.units;lia) g₂.sub (rv.up g₂.le) ru k))) hm
theorem ZqB {Q:Bool→Shared→Prop} {v:Value} {x:D} (hs:Sub Z s.heap) (rv:Rep Y.P Z x v) (k:K Y Z Same (truthy x) Q E s):wpAny Y.M Y.A (PySem.truthy v) Q E s:=by
 cases x with
 | bool b=>cases rv;exact wpAny_truthy_bool (K.okS k hs rfl)
 | int i=>
  obtain ⟨t,rfl⟩:=rv
  have e:(i != 0)=decide (i≠0):=by by_cases h:i=0<;>simp [h]
  exact truthy_int (by rw [e];exact K.okS k hs rfl)
 | _=>exact False.elim k
theorem ST.cmp {a b:Expr} {ca cb:C} {op:CmpOp} {pos:Pos} (hm:behindInMarks op b=false) (ha:SE R a ca) (hb:SE R b cb):ST R (.Compare a [op] [b] pos) (.cmp op ca cb):=by
 intro Y env Z oa sl s Q E c k
 replace k:K Y Z Same ((Y.ex ca sl>>=fun x=>Y.ex cb sl>>=fun y=>cmpop ordI op x y)>>=boolD) Q E s:=k
 rw [Out.bind_assoc] at k
 refine wpAny_isTrue_Compare1 (ha c (k.bind fun x v Z₁ s₁ g rv k=> ?_)) hm
 rw [Out.bind_assoc] at k
 exact hb (c.nx g) (k.bind fun y u Z₂ s₂ g₂ ru k=>Zrp (by have:=c.c.units;lia) g₂.sub (rv.up g₂.le) ru (k.bind fun z t Z₃ s₃ g₃ rz k=>K.onBool k rz fun b k=>wpAny_truthy_bool (k.okS g₃.sub rfl)))
theorem ST.not {a:Expr} {ca:C} {pos:Pos} (ha:ST R a ca):ST R (.UnaryOp .Not a pos) (.not ca):=fun c k=>
 wpAny_isTrue_Not (ha c (K.bind k fun x v Z₁ s₁ g rv k=>K.okS k g.sub (by cases rv;rfl)))
theorem ST.no {e:Expr} {c:C} (h:∀(Y:Cx) sl,Y.tst c sl = .stuck):ST R e c:=fun {Y env Z oa sl s Q E} _ k=>False.elim (by rw [h] at k;exact k)
theorem ST.value {e:Expr} {c:C} (h:SE R e c) (hq:∀(Y:Cx) sl,Y.tst c sl=(Y.ex c sl>>=truthy)) (he:∀env whole,isTrue e env whole=(do let v ←whole;standAt e.pos;holding [v] (PySem.truthy v))):ST R e c:=by
 intro Y env Z oa sl s Q E ok k
 rw [hq] at k
 exact wpAny_isTrue_value (h ok (k.bind fun x v Z₁ s₁ g rv k=>ZqB g.sub rv k)) (he _ _)
theorem SE.not {a:Expr} {ca:C} {pos:Pos} (ha:SE R a ca):SE R (.UnaryOp .Not a pos) (.not ca):=fun c k=>
 wpAny_UnaryOp (ha c (K.bind k fun x v Z₁ s₁ g rv k=>not_value (ZqB g.sub rv (K.bind k fun b t Z₂ s₂ g₂ rb k=>K.okS k g₂.sub (by cases rb;rfl)))))
theorem SE.and1 {x y:Expr} {ys:List Expr} {cx cy:C} {pos:Pos} (hx:SE R x cx) (hy:SE R (.BoolOp .And (y::ys) pos) cy):SE R (.BoolOp .And (x::y::ys) pos) (.and cx cy):=by
 intro Y env Z oa sl s Q E c k
 refine wpAny_bind (hx c (K.bind k fun d v Z₁ s₁ g rv k=>wpAny_bind (wpAny_standAt (wpAny_bind (wpAny_holding (ZqB g.sub rv (K.bind k fun b t Z₂ s₂ g₂ rb k=> ?_)))))))
 cases rb
 cases b with
 | false=>exact wpAny_pure (K.okS (d:=d) k g₂.sub (rv.up g₂.le))
 | true=>exact hy ((c.nx g).nx g₂) k
theorem SE.or1 {x y:Expr} {ys:List Expr} {cx cy:C} {pos:Pos} (hx:SE R x cx) (hy:SE R (.BoolOp .Or (y::ys) pos) cy):SE R (.BoolOp .Or (x::y::ys) pos) (.or cx cy):=by
 intro Y env Z oa sl s Q E c k
 refine wpAny_bind (hx c (K.bind k fun d v Z₁ s₁ g rv k=>wpAny_bind (wpAny_standAt (wpAny_bind (wpAny_holding (ZqB g.sub rv (K.bind k fun b t Z₂ s₂ g₂ rb k=> ?_)))))))
 cases rb
 cases b with
 | true=>exact wpAny_pure (K.okS (d:=d) k g₂.sub (rv.up g₂.le))
 | false=>exact hy ((c.nx g).nx g₂) k
theorem SE.one {op:BoolOp} {x:Expr} {c:C} {pos:Pos} (hx:SE R x c):SE R (.BoolOp op [x] pos) c:=fun ok k=>hx ok k
theorem ST.and1 {x y:Expr} {ys:List Expr} {cx cy:C} {pos:Pos} (hx:ST R x cx) (hy:ST R (.BoolOp .And (y::ys) pos) cy):ST R (.BoolOp .And (x::y::ys) pos) (.and cx cy):=by
 intro Y env Z oa sl s Q E c k
 refine wpAny_isTrue_BoolOp (wpAny_allTrue_And_cons (hx c (K.bind k fun b t Z₁ s₁ g rb k=> ?_)))
 cases rb
 cases b with
 | false=>exact K.okS (d:=false) k g.sub rfl
 | true=>exact hy (c.nx g) k
theorem ST.or1 {x y:Expr} {ys:List Expr} {cx cy:C} {pos:Pos} (hx:ST R x cx) (hy:ST R (.BoolOp .Or (y::ys) pos) cy):ST R (.BoolOp .Or (x::y::ys) pos) (.or cx cy):=by
 intro Y env Z oa sl s Q E c k
 refine wpAny_isTrue_BoolOp (wpAny_allTrue_Or_cons (hx c (K.bind k fun b t Z₁ s₁ g rb k=> ?_)))
 cases rb
 cases b with
 | true=>exact K.okS (d:=true) k g.sub rfl
 | false=>exact hy (c.nx g) k
theorem ST.oneAnd {x:Expr} {c:C} {pos:Pos} (hx:ST R x c):ST R (.BoolOp .And [x] pos) c:=fun ok k=>
 wpAny_isTrue_BoolOp (wpAny_allTrue_And_cons (wpAny_mono (hx ok k) (fun b s₁ q=>by cases b;exact q;exact wpAny_allTrue_And_nil q) fun _ _ q=>q))
theorem ST.oneOr {x:Expr} {c:C} {pos:Pos} (hx:ST R x c):ST R (.BoolOp .Or [x] pos) c:=fun ok k=>
 wpAny_isTrue_BoolOp (wpAny_allTrue_Or_cons (wpAny_mono (hx ok k) (fun b s₁ q=>by cases b;exact wpAny_allTrue_Or_nil q;exact q) fun _ _ q=>q))
theorem ZrE {e i:Expr} {va vi:Value} {Q:Value→Shared→Prop} (h:Items Y va vi Q E s):wpAny Y.M Y.A (subscriptTail e i va vi) Q E s:=by
 obtain ⟨T,id,hT,hl,hg⟩:=h
 have hs:∃ops,subscripted i false va vi=operate ops (getItem va vi):=by
  cases i with
  | Slice lo hi st p=>cases st<;>exact ⟨_,rfl⟩
  | _=>exact ⟨_,rfl⟩
 obtain ⟨ops,hs⟩:=hs
 exact tail_any hT hl hg hs
end
end DK.Internal
end
section
set_option backward.match.sparseCases false
set_option genSizeOf false
set_option genCtorIdx false
namespace DK.Internal
open PySem PyProof.Rows
noncomputable def noStar:Expr→Bool
 | .Starred _ _=>false
 | _=>true
theorem Zqy {e:Expr} {es:List Expr} {env:Env} (h:noStar e=true):starEach (e::es) env=(false,eval e env)::starEach es env:=by
 cases e<;>first | rfl | exact absurd h Bool.false_ne_true
theorem Zsa {env:Env} {pos:Pos} {e:Expr} (hn:noStar e=true):backTo pos (starEach [e] env) = [(false,eval e env)]:=by rw [Zqy hn];rfl
theorem args2 {env:Env} {pos:Pos} {e e':Expr} (hn:noStar e=true) (hn':noStar e'=true):backTo pos (starEach [e,e'] env) = [(false,eval e env),(false,eval e' env)]:=by rw [Zqy hn,Zqy hn'];rfl
section
variable {R:Rs}
theorem SE.idx {a i:Expr} {ca ci:C} {pos:Pos} (ha:SE R a ca) (hi:SE R i ci):SE R (.Subscript a i pos) (.idx ca ci):=fun c k=>
 Subscript_ (ha c (K.bind k fun x v Z₁ s₁ g rv k=>hi (c.nx g) (K.bind k fun y u Z₂ s₂ g₂ ru k=>ZrE (Zsn g₂.sub (rv.up g₂.le) ru k))))
def SP (R:Rs) (e:Option Expr) (c:C):Prop:=∀{Y:Cx} {env:Env} {Z:Zm} {oa:Nat→Option Addr} {sl:List Slot} {s:Shared} {Q:Value→Shared→Prop} {E:Value→Shared→Prop},
 Ok R Y env Z oa sl s.heap→K Y Z (Rep Y.P) (Y.ex c sl) Q E s→wpAny Y.M Y.A (evalPart e env) Q E s
theorem SP.none:SP R Option.none (.k .none):=fun ok k=>wpAny_pure (K.okS (d:=D.none) k ok.c.sub rfl)
theorem SP.some {e:Expr} {c:C} (h:SE R e c):SP R (some e) c:=fun ok k=>h ok k
theorem SE.slc {a:Expr} {lo hi:Option Expr} {ca cl ch:C} {pos p:Pos} (ha:SE R a ca) (hl:SP R lo cl) (hh:SP R hi ch):SE R (.Subscript a (.Slice lo hi Option.none p) pos) (.slc ca cl ch):=fun c k=>
 Subscript_ (ha c (K.bind k fun x v Z₁ s₁ g rv k=>wpAny_Slice (hl (c.nx g) (K.bind k fun y u Z₂ s₂ g₂ ru k=>hh ((c.nx g).nx g₂) (K.bind k fun z t Z₃ s₃ g₃ rt k=>wpAny_pure
  (ZrE (Zso (s:={ s₃ with heap:=s₃.heap.push { cls:= .type "slice",data:= .fields #[u,t,.none] } }) (fun b o e=>Heap.get?_push_of_some _ (g₃.sub b o e)) (rv.up fun b o e=>g₃.le b o (g₂.le b o e)) (ru.up g₃.le) rt (Heap.IsSliceOf.new ..)
   (k.go (.keeps g₃.sub (fun _ _ e=>Heap.get?_push_of_some _ e) _)))))))))
theorem SEs.nil:SEs R [] .nil:=fun ok k=>Calls.spliced_nil (K.okS (d:= []) k ok.c.sub rfl)
theorem SEs.cons {e:Expr} {es:List Expr} {c:C} {cs:Cs} (h:SE R e c) (hn:noStar e=true) (hs:SEs R es cs):SEs R (e::es) (.cons c cs):=by
 intro Y env Z oa sl s Q E pos ok k
 rw [Zqy hn]
 exact Calls.spliced_cons (h ok (K.bind k fun x v Z₁ s₁ g rv k=>hs (pos:=pos) (ok.nx g) (K.bind k fun ys us Z₂ s₂ g₂ rus k=>K.okS (d:=x::ys) k g₂.sub (.cons (rv.up g₂.le) rus))))
theorem SEs.bad {es:List Expr} {cs:Cs} (h:∀(Y:Cx) sl,Y.exs cs sl = .stuck):SEs R es cs:=fun {Y env Z oa sl s Q E pos} _ k=>False.elim (by rw [h] at k;exact k)
theorem SE.lst {es:List Expr} {cs:Cs} {pos:Pos} (h:SEs R es cs) (hz:es.length≤SZ) (hl:∀(Y:Cx) sl ds,Y.exs cs sl = .ok ds→ds.length=es.length):SE R (.List es pos) (.lst cs):=fun {Y env Z oa sl s Q E} c k=>
 List_ (h c (K.bindE k fun ds vs Z₁ s₁ e g rv k=>have z:vs.length≤SZ:=by rw [rv.length,hl Y sl ds e];exact hz
  wpAny_newList (K.newL k g.sub rv z _) (Nat.le_trans z Zqr)))
theorem SE.tup {es:List Expr} {cs:Cs} {n:Nat} {pos:Pos} (h:SEs R es cs) (hz:es.length≤SZ) (hl:∀(Y:Cx) sl ds,Y.exs cs sl = .ok ds→ds.length=es.length):SE R (.Tuple es n pos) (.tup cs):=fun {Y env Z oa sl s Q E} c k=>
 Tuple_ (h c (K.bindE k fun ds vs Z₁ s₁ e g rv k=>have z:vs.length≤SZ:=by rw [rv.length,hl Y sl ds e];exact hz
  wpAny_newObj_type (K.newT k g.sub rv z _) (by show vs.toArray.size≤sizeLine;rw [List.size_toArray];exact Nat.le_trans z Zqr)))
theorem Zsb {P:Prg} {Z:Zm} {h:Heap} {xs:List D} {vs:List Value} (r:Reps P Z xs vs):ArgsAt P Z h vs (xs.map .val) (xs.map fun _=>none):=
 r.ind (mo:=fun xs vs=>ArgsAt P Z h vs (xs.map .val) (xs.map fun _=>none)) .nil fun _ _ _ _ a _ e=> .val a e
theorem CallG.plain {Y:Cx} (hG:CallG Y) {Z:Zm} {s:Shared} {f:Nat} {Q:Value→Shared→Prop} {E:Value→Shared→Prop} {a:Addr} {fd:FuncData} {d:Def} {vs:List Value} {xs:List D} (c:COk Y Z s.heap) (ho:FnOk Y.P a f fd d) (rv:Reps Y.P Z xs vs)
  (k:K Y Z (Rep Y.P) (callV (callT real Y.P.T Y.r) f xs) Q E s):wpAny Y.M Y.A (call (.ref a) vs) Q E s:=by
 have no:∀b,¬AsIn (xs.map fun _=>(none:Option Addr)) b:=fun b q=>by obtain ⟨_,_,q⟩:=List.mem_map.mp q;cases q
 have no':∀(i:Nat) b,(xs.map fun _=>(none:Option Addr))[i]?≠some (some b):=fun i b q=>no b (List.mem_of_getElem? q)
 refine hG c ho (Zsb rv) (fun i j b hi=>absurd hi (no' i b)) (fun b q=>absurd q (no b)) (fun _ i b hi=>absurd hi (no' i b)) ?_
 unfold callV at k
 generalize callT real Y.P.T Y.r f (xs.map .val)=o at k
 cases o with
 | stuck=>exact k
 | exc=>exact fun x s' q=>k x s' ⟨fun b o e _ nf=>q.us b o e (no b) nf,q.exc,q.same⟩
 | ok y=>
  obtain ⟨fl,os⟩:=y
  cases fl with
  | ret dd=>exact fun v Z' s' g _ r _=>k v Z' s' ⟨⟨fun b o e _ m=>g.ks.keep b o e (no b) m,fun b o e _ m=>g.ks.fr b o e (no b) m,fun _ _ _ q=>q.elim⟩,g.le,fun b e=>(g.new b e).imp id (Or.imp (no b) id),g.sub,g.same⟩ r
  | _=>exact k
theorem SE.call {f:Str} {i:Nat} {es:List Expr} {cs:Cs} {p pos:Pos} (hf:R.glob f=true) (hi:R.fns.lookup f=some i) (h:SEs R es cs) (hn:∀e r,es=e::r→noStar e=true) (h0:es = []→cs = .nil):SE R (.Call (.Name f p) es [] pos) (.call i cs):=by
 intro Y env Z oa sl s Q E c k
 rw [arm_eval_Call_Name']
 obtain ⟨a,fd,d,hg,ho,_⟩:=c.c.glo.fn f i (c.st.fns ▸ hi)
 obtain ⟨o,ho1,ho2⟩:=ho.obj
 refine wpAny_bind (ZqS c hf hg ?_)
 have fin:∀{Z' s'} {ds:List D} {vs:List Value},Nx Y Z s Z' s'→Reps Y.P Z' ds vs→K Y Z' (Rep Y.P) (callV (callT real Y.P.T Y.r) i ds) Q E s'→((s'.heap.get? a=some o∧o.data = .func fd)∧wpAny Y.M Y.A (PySem.call (.ref a) ([]++vs) []) Q E s'):=
  fun g rv k=>⟨⟨(c.c.nx g).gh _ _ ho1,ho2⟩,CallG.plain (c.st.calls Y rfl rfl) (c.c.nx g) ho rv k⟩
 cases es with
 | nil=>
  rw [h0 rfl] at k
  exact Calls.callWith_function (o:=o) (fd:=fd) (PySem.evalArgs_none (fin (.self c.c.sub) .nil k))
 | cons e es=>
  have hh:=@h Y env Z oa sl s
  rw [Zqy (hn e es rfl)] at hh ⊢
  exact Calls.callWith_function (o:=o) (fd:=fd) (Calls.evalArgs_plain (hh c (K.bind k fun ds vs Z₁ s₁ g rv k=>fin g rv k)))
theorem ZsR {b:Bi} (hb:biFn b=true):(∃id,biVal b = .builtin id)∨∃T,biVal b = .type T:=by
 cases b<;>first | exact .inl ⟨_,rfl⟩ | exact .inr ⟨_,rfl⟩ | cases hb
theorem SE.bi1 {f:Str} {b:Bi} {e:Expr} {c:C} {p pos:Pos} (hf:R.glob f=true) (hb:biName f=some b) (hb':biFn b=true) (hn:noStar e=true) (h:SE R e c):SE R (.Call (.Name f p) [e] [] pos) (.bi b (.cons c .nil)):=by
 intro Y env Z oa sl s Q E ok k
 replace k:K Y Z (Rep Y.P) ((Y.ex c sl>>=fun x=> .ok [x])>>=builtin b) Q E s:=k
 rw [Out.bind_assoc] at k
 rw [arm_eval_Call_Name']
 refine wpAny_bind (Zqo ok hf (ok.c.glo.bi f b hb) ?_)
 have main:wpAny Y.M Y.A (spliced [(false,eval e env)]) (fun vs s'=>wpAny Y.M Y.A (PySem.call (biVal b) ([]++vs) []) Q E s') E s:=
  Calls.spliced_cons (h ok (k.bind fun x v Z₁ s₁ g rv k=>Calls.spliced_nil (Zuf hb' g.sub ok.c.hand rv k)))
 rw [Zsa hn]
 rcases ZsR hb' with ⟨id,q⟩ | ⟨T,q⟩
 ·rw [q] at main ⊢
  exact Calls.callWith_builtin rfl (Calls.evalArgs_plain main)
 ·rw [q] at main ⊢
  exact PySem.callWith_type rfl (Calls.evalArgs_plain main)
theorem SE.isi {e:Expr} {c:C} {t:Str} {ty:Ty} {p q pos:Pos} (hf:R.glob "isinstance" = true) (hn:noStar e=true) (ht:R.glob t=true) (hty:tyName t=some ty) (h:SE R e c) :
  SE R (.Call (.Name "isinstance" p) [e,.Name t q] [] pos) (.isi c ty):=by
 intro Y env Z oa sl s Q E ok k
 rw [arm_eval_Call_Name']
 refine wpAny_bind (Zqo ok hf ok.c.glo.isi ?_)
 rw [args2 hn rfl]
 exact Calls.callWith_builtin rfl (Calls.evalArgs_plain (Calls.spliced_cons (h ok (K.bind k fun x v Z₁ s₁ g rv k=>Calls.spliced_cons (Zqo (ok.nx g) ht (ok.c.glo.ty t ty hty)
  (Calls.spliced_nil (Ztj g.sub rv (K.bind k fun b u Z₂ s₂ g₂ rb k=>K.okS k g₂.sub rb))))))))
theorem Zug {t:Ty} (o:Out D):(o>>=isiT t)=((o>>=isiK t)>>=truthy):=by
 cases o with
 | ok x=>show isInst x t=((isInst x t>>=okB)>>=truthy);cases isInst x t<;>rfl
 | exc=>rfl
 | stuck=>rfl
theorem SE.copy {y:Str} {i:Nat} {p q pos:Pos} (hf:R.glob "list" = true) (hy:R.loc.lookup y=some i) (hd:(y == ("__debug__" : Str))=false):SE R (.Call (.Name "list" p) [.Name y q] [] pos) (.copy i):=by
 intro Y env Z oa sl s Q E ok k
 replace k:K Y Z (Rep Y.P) (copyS sl[i]?) Q E s:=k
 rw [arm_eval_Call_Name']
 refine wpAny_bind (Zqo ok hf (ok.c.glo.ty "list" .tList rfl) ?_)
 rw [Zsa rfl]
 refine PySem.callWith_type rfl (Calls.evalArgs_plain (Calls.spliced_cons (wpAny_Name ?_ hd)))
 have hv:=ok.var y i hy
 cases hs:sl[i]? with
 | none=>rw [hs] at k;exact False.elim k
 | some t=>
  rw [hs] at k hv
  cases t with
  | un=>exact False.elim k
  | own xs=>
   obtain ⟨a,vs,n,_,h1,h4,h5,h6⟩:=hv
   exact ZqE ok.st.kind h1 (Calls.spliced_nil (ZrD ok.c.sub h4 h5 h6 k))
  | val d=>
   obtain ⟨v,hv,rv⟩:=hv
   cases d with
   | list xs=>
    obtain ⟨a,vs,n,rfl,h4,h5,h6⟩:=rv
    exact ZqE ok.st.kind hv (Calls.spliced_nil (ZrD ok.c.sub (ok.c.sub _ _ h4) h5 h6 k))
   | _=>exact False.elim k
theorem SE.join {e:Expr} {c:C} {n:Nat} {bp apos pos:Pos} (hl:(apos.endLine == pos.line)=true) (hn:noStar e=true) (h:SE R e c) :
  SE R (.Call (.Attribute (.Constant (.bytes []) n bp) "join" apos) [e] [] pos) (.bi .join (.cons c .nil)):=by
 intro Y env Z oa sl s Q E ok k
 replace k:K Y Z (Rep Y.P) ((Y.ex c sl>>=fun x=> .ok [x])>>=builtin .join) Q E s:=k
 rw [Out.bind_assoc] at k
 refine wpAny_Call_method1_late rfl hl (Zsa hn) (W.Constant_bytes ?_)
 refine ⟨"bytes", "bytes.join",W.FB.plainAttrs_bytes,ZqJ,Zrq,W.typeIs_bytes _ _ _,(fun a q=>nomatch q),?_⟩
 refine method1_meetsIn ZqJ Zrj (h (s:={ s with toks:=s.toks+1 }) ok ((k.go (.refl ok.c.sub _)).bind fun x v Z₁ s₁ g rv k=> ?_))
 obtain ⟨h1,h2,S,h3,h4⟩:=ZtK (t:=s.toks) g.sub rv k
 exact ⟨h1,h2,S,h3.inModel _ _,h4⟩
theorem Zsc {Y:Cx} {Z:Zm} {s:Shared} {ks vs:List D} {v:Value} (hs:Sub Z s.heap) (rv:Rep Y.P Z (.dict ks vs) v):Shared.TypeIs s v "dict" ∧∀a,v = .ref a→∃ob,s.heap.get? a=some ob∧ob.dict=none:=by
 obtain ⟨a,rfl,h | h⟩:=rv
 ·obtain ⟨f,h1,_⟩:=h.at_;exact ⟨(h1 _ hs).typeIs,fun a' q=>by cases q;exact (h1 _ hs).noDict _ rfl⟩
 ·obtain ⟨f,h1,_⟩:=h.at_;exact ⟨(h1 _ hs).typeIs,fun a' q=>by cases q;exact (h1 _ hs).noDict _ rfl⟩
theorem SE.get1 {d:Str} {cd:C} {e:Expr} {c:C} {dp apos pos:Pos} (hd:SE R (.Name d dp) cd) (hl:(apos.endLine == pos.line)=true) (hn:noStar e=true) (h:SE R e c) :
  SE R (.Call (.Attribute (.Name d dp) "get" apos) [e] [] pos) (.get cd (.cons c .nil)):=by
 intro Y env Z oa sl s Q E ok k
 refine wpAny_Call_method1_late rfl hl (Zsa hn) (hd ok (K.bind k fun x v Z₁ s₁ g rv k=> ?_))
 cases x with
 | dict ks vs=>
  obtain ⟨hT,hob⟩:=Zsc g.sub rv
  refine ⟨"dict", "dict.get",PySem.F.plainAttrs_dict,PySem.F.slot_dict_get,PySem.F.type_dict_get,hT,hob,?_⟩
  replace k:K Y Z₁ (Rep Y.P) ((Y.ex c sl>>=fun x=> .ok [x])>>=dictGet ks vs) Q E s₁:=k
  rw [Out.bind_assoc] at k
  refine method1_meetsIn PySem.F.slot_dict_get PySem.F.entry_dict_get (h (ok.nx g) (k.bind fun y u Z₂ s₂ g₂ ru k=> ?_))
  obtain ⟨Kt,_,knd,a,kk,f,e1,e2,e3,e4,e5⟩:=ZsP g₂.sub (rv.up g₂.le) ru k
  subst e1
  exact ⟨e4.typeIs,PySem.F.args_dict_get_2 _ _,_,meets_dict_get knd a e3 e2,f,e4,e5⟩
 | _=>exact False.elim k
theorem SE.get2 {d:Str} {cd:C} {e e':Expr} {c c':C} {dp apos pos:Pos} (hd:SE R (.Name d dp) cd) (hl:(apos.endLine == pos.line)=true) (hn:noStar e=true) (hn':noStar e'=true) (h:SE R e c) (h':SE R e' c') :
  SE R (.Call (.Attribute (.Name d dp) "get" apos) [e,e'] [] pos) (.get cd (.cons c (.cons c' .nil))):=by
 intro Y env Z oa sl s Q E ok k
 refine wpAny_Call_method2_late rfl hl (args2 hn hn') (hd ok (K.bind k fun x v Z₁ s₁ g rv k=> ?_))
 cases x with
 | dict ks vs=>
  obtain ⟨hT,hob⟩:=Zsc g.sub rv
  refine ⟨"dict", "dict.get",PySem.F.plainAttrs_dict,PySem.F.slot_dict_get,PySem.F.type_dict_get,hT,hob,?_⟩
  replace k:K Y Z₁ (Rep Y.P) ((Y.ex c sl>>=fun x=>(Y.ex c' sl>>=fun y=> .ok [y])>>=fun ys=> .ok (x::ys))>>=dictGet ks vs) Q E s₁:=k
  rw [Out.bind_assoc] at k
  refine method2_meetsIn PySem.F.slot_dict_get PySem.F.entry_dict_get (h (ok.nx g) (k.bind fun y u Z₂ s₂ g₂ ru k=> ?_))
  rw [Out.bind_assoc,Out.bind_assoc] at k
  refine h' ((ok.nx g).nx g₂) (k.bind fun z t Z₃ s₃ g₃ rt k=> ?_)
  obtain ⟨Kt,_,knd,a,kk,f,e1,e2,e3,e4,e5⟩:=ZsQ g₃.sub ((rv.up g₂.le).up g₃.le) (ru.up g₃.le) rt k
  subst e1
  exact ⟨e4.typeIs,PySem.F.args_dict_get_3 _ _ _,_,meets_dict_get_default knd a e3 e2 t,f,e4,e5⟩
 | _=>exact False.elim k
end
end DK.Internal
end
section
set_option backward.match.sparseCases false
set_option genSizeOf false
set_option genCtorIdx false
namespace DK.Internal
open PySem PyProof.Rows
structure Stored (env:Env) (x:Str) (v:Value) (h h':Heap):Prop where
 at_:VarAt h' env x (some v)
 other:∀y u,y≠x→VarAt h env y u→VarAt h' env y u
 but:∃b,Home env x b∧Heap.SameBut b h h'∧∃o,h'.get? b=some o∧∀vs,o.data≠.fields vs
theorem SameBut.get {a b:Addr} {h h':Heap} (x:Heap.SameBut a h h') (n:b≠a) {o:Obj} (e:h.get? b=some o):h'.get? b=some o:=(x.2 b n).trans e
theorem ns_unique {h:Heap} {a:Addr} {m m':Str→Option Value} (x:h.Ns a m) (y:h.Ns a m'):m=m':=by
 obtain ⟨o,es,ep,ho,hd,hk,hm⟩:=x
 obtain ⟨o',es',ep',ho',hd',hk',hm'⟩:=y
 rw [ho] at ho';cases ho'
 rw [hd] at hd';cases hd'
 funext z
 rw [←hm z,←hm' z]
theorem ZqO {env:Env} {x:Str} {b:Addr} (h:Home env x b):Loc env b:=h.imp (·.2) fun q=>⟨x,q.2⟩
def Homes (R:Rs) (env:Env) (b:Addr):Prop:=∃x i,R.put x=some i∧Home env x b
theorem Zqz {R:Rs} {x:Str} {i:Nat} (h:R.put x=some i):R.loc.lookup x=some i:=by
 unfold Rs.put at h;split at h
 ·cases h
 ·exact h
theorem ZqF {sl:List Slot} {i j:Nat} {t:Slot}:(setV sl i t)[j]?=if i=j∧i < sl.length then some t else sl[j]?:=by
 unfold setV
 by_cases h:i=j
 ·subst h
  by_cases hl:i < sl.length
  ·rw [if_pos ⟨rfl,hl⟩,List.getElem?_set_self hl]
  ·rw [if_neg (fun q=>hl q.2),List.set_eq_of_length_le (Nat.le_of_not_lt hl)]
 ·rw [if_neg (fun q=>h q.1),List.getElem?_set_ne h]
theorem KS.of_but {W:Addr→Prop} {Ls:List Addr} {h h':Heap} {b:Addr} (sb:Heap.SameBut b h h') (hb:W b) (hn:∃o,h'.get? b=some o∧∀vs,o.data≠.fields vs):KS W Ls h h':=by
 have nb:∀b',¬W b'→b'≠b:=fun b' nw z=>nw (z ▸ hb)
 refine ⟨fun b' o e nw m=>SameBut.get sb (nb b' nw) e,fun b' o e nw m=>⟨o.slots,SameBut.get sb (nb b' nw) e⟩,fun b' o e q _ nf=> ?_⟩
 by_cases z:b'=b
 ·subst z;exact hn
 ·exact ⟨o,SameBut.get sb z e,nf⟩
section
variable {R:Rs} {Y:Cx} {env:Env} {Z:Zm} {oa oa':Nat→Option Addr} {sl sl':List Slot} {s:Shared} {E:Value→Shared→Prop} {h h':Heap}
theorem store {x:Str} {u:Option Value} {v:Value} {Q:Unit→Shared→Prop} (st:Stat R Y env) (hv:VarAt s.heap env x u) (hQ:∀h' tk',Stored env x v s.heap h'→Q () { s with heap:=h',toks:=tk' }) {M:Model} {A:Around}:wpAny M A (storeName env x v) Q E s:=by
 rcases hv with ⟨k,m,n,e⟩ | ⟨k,c,e,i⟩
 ·refine wpAny_storeName_local k n (fun h' n' sb=>hQ h' _ ⟨.inl ⟨k,_,n',if_pos rfl⟩,fun y u ne q=> ?_,_,.inl ⟨k,rfl⟩,sb,?_⟩) (by rw [st.kind];rfl)
  ·rcases q with ⟨k',m',n₂,e'⟩ | ⟨k',c,e',o,ho,hd⟩
   ·refine .inl ⟨k',_,n',?_⟩
    rw [if_neg ne,←e']
    exact congrFun (ns_unique n n₂) y
   ·exact .inr ⟨k',c,e',o,SameBut.get sb (st.cellL y c e') ho,hd⟩
  ·obtain ⟨o,es,ep,ho,hd,_⟩:=n';exact ⟨o,ho,by rw [hd];exact nofun⟩
 ·refine wpAny_storeName_cell st.kind k e i fun h' i' sb=>hQ h' s.toks ⟨.inr ⟨k,c,e,i'⟩,fun y u ne q=> ?_,c,.inr ⟨k,e⟩,sb,?_⟩
  ·rcases q with ⟨k',m',n,e'⟩ | ⟨k',c',e',o,ho,hd⟩
   ·exact .inl ⟨k',m',ns_keep n fun o ho=>⟨o,SameBut.get sb (fun z=>st.cellL x c e z.symm) ho,rfl⟩,e'⟩
   ·exact .inr ⟨k',c',e',o,SameBut.get sb (fun z=>ne (st.cellA y x c' e' (by rw [z];exact e))) ho,hd⟩
  ·obtain ⟨o,ho,hd⟩:=i';exact ⟨o,ho,by rw [hd];exact nofun⟩
theorem Ok.putS {x:Str} {i:Nat} {v:Value} {t:Slot} (hB:Bs R Y env) (ok:Ok R Y env Z oa sl h) (hx:R.put x=some i) (st:Stored env x v h h') (ht:SlotAt Y.P Z oa' h' env x i (some t)) (hoa:∀j,j≠i→oa' j=oa j)
  (hi:∀a,oa' i=some a→Z a=none∧True∧a∉fas Y.l∧¬Loc env a∧(h'.get? a).isSome=true∧∀j,j≠i→oa j≠some a):Ok R Y env Z oa' (setV sl i t) h':=by
 obtain ⟨b,hm,sb,hn⟩:=st.but
 have hxl:=Zqz hx
 have hbL:=ZqO hm
 have hbZ:=(ok.loz b hbL).1
 have alive:∀a,(h.get? a).isSome=true→(h'.get? a).isSome=true:=fun a e=>by
  by_cases z:a=b
  ·obtain ⟨o,ho,_⟩:=hn;rw [z,ho];rfl
  ·rw [sb.2 a z];exact e
 refine { st:=ok.st,c:=ok.c.ks (W:=fun a=>a=b) (.of_but sb rfl hn) (fun a q=>q ▸ hB x i b hx hm) (fun _ _ e=>e) (fun a o e=>SameBut.get sb (fun z=>by rw [z,hbZ] at e;cases e) (ok.c.sub a o e)) ok.c.frz,var:=fun y j e=> ?_,has:=fun y j e=> ?_,len:=by unfold setV;rw [List.length_set];exact ok.len,loz:=fun a q=>⟨(ok.loz a q).1,alive a (ok.loz a q).2⟩,own:=fun j a q=> ?_,oinj:=fun j k a hj hk=> ?_,ns:= ?_ }
 ·rw [ZqF]
  by_cases z:i=j
  ·subst z
   cases ok.st.wf.inj x y i hxl e
   rw [if_pos ⟨rfl,by rw [ok.len];exact ok.st.wf.lt x i hxl⟩]
   exact ht
  ·rw [if_neg (fun q=>z q.1)]
   have ne:y≠x:=fun q=>by rw [q,hxl] at e;exact z (Option.some.inj e)
   have hj:=hoa j (fun q=>z q.symm)
   have q:=ok.var y j e
   cases hs:sl[j]? with
   | none=>trivial
   | some t=>
    rw [hs] at q
    cases t with
    | un=>trivial
    | val d'=>obtain ⟨u,a1,a2⟩:=q;exact ⟨u,st.other y _ ne a1,a2⟩
    | own xs=>
     obtain ⟨a,vs,n,a0,a1,a2,a3⟩:=q
     exact ⟨a,vs,n,hj.trans a0,st.other y _ ne a1,SameBut.get sb (fun z=>(ok.own j a a0).2.2.2.1 (by rw [z];exact hbL)) a2,a3⟩
 ·by_cases z:y=x
  ·subst z;exact ⟨_,st.at_⟩
  ·exact (ok.has y j e).imp fun u q=>st.other y u z q
 ·by_cases z:j=i
  ·have q:=hi a (z ▸ q);exact ⟨q.1,q.2.1,q.2.2.1,q.2.2.2.1,q.2.2.2.2.1⟩
  ·have q:=ok.own j a ((hoa j z).symm.trans q);exact ⟨q.1,q.2.1,q.2.2.1,q.2.2.2.1,alive a q.2.2.2.2⟩
 ·by_cases z:j=i
  ·by_cases z':k=i
   ·rw [z,z']
   ·exact absurd ((hoa k z').symm.trans hk) ((hi a (z ▸ hj)).2.2.2.2.2 k z')
  ·by_cases z':k=i
   ·exact absurd ((hoa j z).symm.trans hj) ((hi a (z' ▸ hk)).2.2.2.2.2 j z)
   ·exact ok.oinj j k a ((hoa j z).symm.trans hj) ((hoa k z').symm.trans hk)
 ·by_cases z:env.locals=b
  ·rcases st.at_ with ⟨_,m,n,_⟩ | ⟨k,c,hc,_⟩
   ·exact ⟨m,n⟩
   ·rcases hm with ⟨k',_⟩ | ⟨_,hc'⟩
    ·rw [k] at k';cases k'
    ·exact absurd z.symm (ok.st.cellL x b hc')
  ·exact ok.ns.imp fun m q=>ns_keep q fun o ho=>⟨o,SameBut.get sb z ho,rfl⟩
theorem Stored.go {x:Str} {i:Nat} {v:Value} {h':Heap} {tk':Nat} (ok:Ok R Y env Z oa sl s.heap) (hx:R.put x=some i) (st:Stored env x v s.heap h'):Go (Homes R env) Y Z s Z { s with heap:=h',toks:=tk' }:=by
 obtain ⟨b,hm,sb,hn⟩:=st.but
 exact ⟨.of_but sb ⟨x,i,hx,hm⟩ hn,fun _ _ e=>e,fun _ e=> .inl e,fun a o e=>SameBut.get sb (fun z=>by rw [z,(ok.loz b (ZqO hm)).1] at e;cases e) (ok.c.sub a o e),rfl⟩
theorem ZqW {x:Str} {i:Nat} {v:Value} {d:D} {Q:Unit→Shared→Prop} (hB:Bs R Y env) (hx:R.put x=some i) (ok:Ok R Y env Z oa sl s.heap) (rv:Rep Y.P Z d v)
  (hQ:∀s',Ok R Y env Z oa (setV sl i (.val d)) s'.heap→Go (Homes R env) Y Z s Z s'→Q () s') {A:Around}:wpAny Y.M A (storeName env x v) Q E s:=by
 obtain ⟨u,hu⟩:=ok.has x i (Zqz hx)
 refine store ok.st hu fun h' tk' st=>hQ _ (ok.putS hB hx st ⟨v,st.at_,rv⟩ (fun _ _=>rfl) fun a ha=> ?_) (st.go ok hx)
 have q:=ok.own i a ha
 refine ⟨q.1,q.2.1,q.2.2.1,q.2.2.2.1,?_,fun j hj e=>hj (ok.oinj j i a e ha)⟩
 obtain ⟨b,hm,sb,_⟩:=st.but
 rw [sb.2 a (fun z=>q.2.2.2.1 (z ▸ ZqO hm))];exact q.2.2.2.2
noncomputable def Tgt.idx:Tgt→List Nat
 | .one i=> [i]
 | .many is=>is
inductive TgtN (R:Rs):List Expr→List Nat→Prop
 | nil:TgtN R [] []
 | cons {x i p es is}:R.put x=some i→TgtN R es is→TgtN R (.Name x p::es) (i::is)
inductive Tg (R:Rs):Expr→Tgt→Prop
 | one {x i p}:R.put x=some i→Tg R (.Name x p) (.one i)
 | many {es is n p}:TgtN R es is→Tg R (.Tuple es n p) (.many is)
theorem Zsd {es:List Expr} {is:List Nat} (hB:Bs R Y env) (ht:TgtN R es is):∀{vs:List Value} {xs:List D} {sl:List Slot} {s:Shared} {Q:Unit→Shared→Prop},Ok R Y env Z oa sl s.heap →
  Reps Y.P Z xs vs→setAll sl is xs = .ok sl'→(∀s',Ok R Y env Z oa sl' s'.heap→Go (Homes R env) Y Z s Z s'→Q () s')→wpAny Y.M Y.A (assignInOrder ((assignEach es env).map (·.2)) vs) Q E s:=by
 induction ht with
 | nil=>
  intro vs xs sl s Q ok rv hs hQ
  cases xs with
  | nil=>cases hs;cases (show vs = [] from rv);exact assignInOrder_nil (hQ s ok (.self ok.c.sub))
  | cons x xs=>cases hs
 | cons hi ht ih=>
  intro vs xs sl s Q ok rv hs hQ
  cases xs with
  | nil=>cases hs
  | cons d ds=>
   obtain ⟨v,us,rfl,r1,rs⟩:=rv
   exact assignInOrder_cons (wpAny_assign_Name (ZqW hB hi ok r1 fun s' ok' g=>ih ok' rs hs fun s₂ ok₂ g₂=>hQ s₂ ok₂ (g.trans g₂ fun b q=> .inl q)))
theorem ZtL {es:List Expr} {is:List Nat} (h:TgtN R es is):(assignEach es env).length=is.length∧(assignEach es env).findIdx? (·.1)=none:=by
 induction h with
 | nil=>exact ⟨rfl,rfl⟩
 | cons hi ht ih=>
  refine ⟨congrArg (· + 1) ih.1,?_⟩
  show List.findIdx? (·.1) ((false,_)::assignEach _ env)=none
  rw [List.findIdx?_cons,ih.2];rfl
theorem Zts {es:List Expr} {is:List Nat} (h:TgtN R es is):∀j∈is,∃x,R.put x=some j:=by
 induction h with
 | nil=>intro j hj;cases hj
 | cons hi ht ih=>exact fun j hj=>(List.mem_cons.mp hj).elim (fun e=>⟨_,e ▸ hi⟩) (ih j)
theorem Zuc {t:Expr} {tg:Tgt} (h:Tg R t tg):∀j∈tg.idx,∃x,R.put x=some j:=by
 cases h with
 | one hi=>intro j hj;cases List.mem_singleton.mp hj;exact ⟨_,hi⟩
 | many hi=>exact Zts hi
theorem ZqZ {t:Expr} {tg:Tgt} {v:Value} {d:D} {Q:Unit→Shared→Prop} (hB:Bs R Y env) (ht:Tg R t tg) (ok:Ok R Y env Z oa sl s.heap) (rv:Rep Y.P Z d v) (hs:bindT sl tg d = .ok sl')
  (hQ:∀s',Ok R Y env Z oa sl' s'.heap→Go (Homes R env) Y Z s Z s'→Q () s'):wpAny Y.M Y.A (assign t env v) Q E s:=by
 cases ht with
 | one hi=>cases hs;exact wpAny_assign_Name (ZqW hB hi ok rv hQ)
 | many hi=>
  cases d with
  | tuple xs=>
   rename_i es is n p
   replace hs:((if is.length=xs.length then Out.ok xs else .stuck)>>=setAll sl is) = .ok sl':=hs
   by_cases hl:is.length=xs.length
   ·rw [if_pos hl] at hs
    obtain ⟨a,vs,n,rfl,e,z,rs⟩:=rv
    obtain ⟨h1,h2⟩:=ZtL (env:=env) hi
    refine wpAny_assign_Tuple ok.c.hand ⟨_,ok.c.sub _ _ e,rfl,_,rfl⟩ (by rw [h1,hl,List.size_toArray,rs.length]) h2 fun h' ex=> ?_
    have g:Nx Y Z s Z { s with heap:=h' }:= .keeps ok.c.sub (fun b o e=>ex b o (Nat.ne_of_lt (Heap.lt_size e)) e) s.toks
    exact Zsd (s:={ s with heap:=h' }) hB hi (ok.nx g) rs hs fun s₂ ok₂ g₂=>hQ s₂ ok₂ (g.go g₂)
   ·rw [if_neg hl] at hs;cases hs
  | _=>cases hs
theorem Zrt (sl:List Slot) (tg:Tgt) (d:D):bindT sl tg d≠.exc:=by
 cases tg with
 | one i=>exact fun e=>nomatch e
 | many is=>
  cases d with
  | tuple xs=>
   show ((if is.length=xs.length then Out.ok xs else .stuck)>>=setAll sl is)≠.exc
   split
   ·show setAll sl is xs≠.exc
    induction is generalizing sl xs with
    | nil=>cases xs<;>exact fun e=>nomatch e
    | cons i is ih=>
     cases xs with
     | nil=>exact fun e=>nomatch e
     | cons x xs=>exact ih _ xs (Nat.succ.inj ‹_›)
   ·exact fun e=>nomatch e
  | _=>exact fun e=>nomatch e
theorem Zrf {is:List Nat}:∀{xs:List D} {sl sl':List Slot},setAll sl is xs = .ok sl'→sl'.length=sl.length∧∀j,j∉is→sl'[j]?=sl[j]?:=by
 induction is with
 | nil=>
  intro xs sl sl' h
  cases xs with
  | nil=>cases h;exact ⟨rfl,fun _ _=>rfl⟩
  | cons x xs=>cases h
 | cons i is ih=>
  intro xs sl sl' h
  cases xs with
  | nil=>cases h
  | cons x xs=>
   obtain ⟨h1,h2⟩:=ih (show setAll (setV sl i (.val x)) is xs = .ok sl' from h)
   exact ⟨h1.trans (List.length_set ..),fun j hj=>by rw [h2 j (fun m=>hj (List.mem_cons_of_mem _ m)),ZqF,if_neg (fun q=>hj (by rw [q.1];exact List.mem_cons_self ..))]⟩
theorem Zru {sl sl':List Slot} {t:Tgt} {d:D} (h:bindT sl t d = .ok sl'):sl'.length=sl.length∧∀j,j∉t.idx→sl'[j]?=sl[j]?:=by
 cases t with
 | one i=>
  cases h
  exact ⟨List.length_set ..,fun j hj=>by rw [ZqF,if_neg (fun q=>hj (by rw [←q.1];exact List.mem_cons_self ..))]⟩
 | many is=>
  cases d with
  | tuple xs=>
   replace h:((if is.length=xs.length then Out.ok xs else .stuck)>>=setAll sl is) = .ok sl':=h
   split at h
   ·exact Zrf h
   ·cases h
  | _=>cases h
end
end DK.Internal
end
section
set_option backward.match.sparseCases false
set_option genSizeOf false
set_option genCtorIdx false
namespace DK.Internal
open PySem PyProof.Rows
noncomputable def isTup:Expr→Bool
 | .Tuple _ _ _=>true
 | _=>false
structure Wt (wr:List Addr) (Y:Cx) (Z:Zm) (s:Shared) (Z':Zm) (s':Shared):Prop where
 go:Go (·∈wr) Y Z s Z' s'
 nz:∀b∈wr,Z' b=none
structure Wk (Y:Cx) (tup:Bool) (I:Addr) (wr:List Addr) (ds:List D) (St:Nat→Heap→Prop) (Z₀:Zm):Prop where
 alive:∀i h,St i h→∀b∈wr,(h.get? b).isSome=true
 frame:∀i h h',St i h→Sub Z₀ h→Sub Z₀ h'→(∀b∈wr,∀o,h.get? b=some o→h'.get? b=some o)→St i h'
 item:∀{Z:Zm} {i:Nat} {d:D} {s:Shared} {G:Value→Shared→Prop} {E:Value→Shared→Prop} (tgt:Expr),(tup=true→isTup tgt=true)→ds[i]?=some d→St i s.heap→Zle Z₀ Z→Sub Z s.heap→(∀b∈wr,Z b=none∧b∉fas Y.l) →
  (∀v Z' s',St (i+1) s'.heap→Wt wr Y Z s Z' s'→Rep Y.P Z' d v→G v s') →
  wpAny Y.M Y.A (pyNext (.ref I)) (fun x s₁=>∃v,x=some v∧wpAny Y.M Y.A (letOwnedTupleGo tgt (.ref I) v) (fun _ s₂=>G v s₂) E s₁) E s
 done:∀{Z:Zm} {s:Shared} {Q:Option Value→Shared→Prop} {E:Value→Shared→Prop},St ds.length s.heap→Sub Z s.heap→(∀b∈wr,Z b=none∧b∉fas Y.l)→(∀s',Wt wr Y Z s Z s'→Q none s')→wpAny Y.M Y.A (pyNext (.ref I)) Q E s
 self:∀{i:Nat} {s:Shared} {Q:Value→Shared→Prop} {E:Value→Shared→Prop},St i s.heap→Q (.ref I) s→wpAny Y.M Y.A (pyIter (.ref I)) Q E s
section
variable {Y:Cx} {Z Z₀:Zm} {s:Shared} {E:Value→Shared→Prop}
theorem Wt.of_keep {wr:List Addr} {h':Heap} (hs:Sub Z s.heap) (hw:∀b∈wr,Z b=none∧b∉fas Y.l) (k:∀b o,b∉wr→s.heap.get? b=some o→h'.get? b=some o) (tk:Nat):Wt wr Y Z s Z { s with heap:=h',toks:=tk }:=
 ⟨⟨⟨fun b o e nw _=>k b o nw e,fun b o e nw _=>⟨o.slots,k b o nw e⟩,fun b o e w m=>absurd m (hw b w).2⟩,fun _ _ e=>e,fun _ e=> .inl e,fun b o e=>k b o (fun w=>by rw [(hw b w).1] at e;cases e) (hs b o e),rfl⟩,fun b w=>(hw b w).1⟩
def enums:List String:= ["enumerate", "zip", "dict_itemiterator", "dict_reverseitemiterator", "odict_iterator", "itertools.zip_longest", "itertools.pairwise"]
theorem Zse {I:Addr} {v:Value} {o:Obj} {T:String} {Q:Unit→Shared→Prop} {M:Model} {A:Around} (ho:s.heap.get? I=some o) (hc:o.cls = .type T) (hT:enums.contains T=false) (hQ:Q () s):wpAny M A (letOwnedTupleGo (.Tuple [] 0 default) (.ref I) v) Q E s:=by
 cases v with
 | ref a=>
  refine wpAny_bind (m:=load I) (wpAny_load ho ?_)
  obtain ⟨c,di,da,sl⟩:=o
  cases (show c = .type T from hc)
  cases da with
  | fields vs=>exact ZrQ (by rw [show (["enumerate", "zip", "dict_itemiterator", "dict_reverseitemiterator", "odict_iterator", "itertools.zip_longest", "itertools.pairwise"].contains T)=false from hT];exact Bool.false_ne_true) (wpAny_pure hQ)
  | _=>exact wpAny_pure hQ
 | _=>exact wpAny_pure hQ
theorem Zss {tgt:Expr} {I:Addr} {v:Value} {o:Obj} {T:String} {Q:Unit→Shared→Prop} {M:Model} {A:Around} (ho:s.heap.get? I=some o) (hc:o.cls = .type T) (hT:enums.contains T=false) (hQ:Q () s):wpAny M A (letOwnedTupleGo tgt (.ref I) v) Q E s:=by
 cases tgt with
 | Tuple es n p=>exact Zse ho hc hT hQ
 | List es p=>exact Zse ho hc hT hQ
 | _=>exact wpAny_pure hQ
theorem Wk.of_walks {I:Addr} {fp:List Addr} {ds:List D} {Pv:Nat→Value→Prop} {St:Nat→Heap→Prop} {T:String} (W:Walks Y.P.prog Y.P.w Y.A I fp [I] ds.length Pv St) (hT:enums.contains T=false) (hfp:∀b∈fp,b=I∨∃o,Z₀ b=some o)
  (cls:∀i h,St i h→∃o,h.get? I=some o∧o.cls = .type T) (val:∀{i:Nat} {v:Value} {d:D},ds[i]?=some d→Pv i v→Rep Y.P Z₀ d v):Wk Y false I [I] ds St Z₀ where
 alive:=fun i h st b hb=>by rw [List.mem_singleton.mp hb];obtain ⟨o,ho,_⟩:=cls i h st;rw [ho];rfl
 frame:=fun i h h' st s1 s2 k=>W.frame i h h' st fun b hb o e=>by
  rcases hfp b hb with q | ⟨o',q⟩
  ·exact k b (List.mem_singleton.mpr q) o e
  ·rw [s1 b o' q] at e;cases e;exact s2 b _ q
 item:=fun {Z i d s G E} tgt _ hd st le hs hw hG=>by
  refine W.item i s _ E (List.getElem?_eq_some_iff.mp hd).1 st fun v h' tk hv st' hk=> ?_
  obtain ⟨o,ho,hc⟩:=cls _ _ st'
  exact ⟨v,rfl,Zss (s:={ s with heap:=h',toks:=tk }) ho hc hT (hG v Z _ st' (.of_keep hs hw hk tk) ((val hd hv).up le))⟩
 done:=fun {Z s Q E} st hs hw hQ=>W.done s Q E st fun h' tk hk=>hQ _ (.of_keep hs hw hk tk)
 self:=fun {i s Q E} st hQ=>W.self i s Q E st hQ
structure It0 (Y:Cx) (tup:Bool) (I:Addr) (wr:List Addr) (ds:List D) (St:Nat→Heap→Prop) (Z:Zm) (h₀ h:Heap):Prop where
 wk:Wk Y tup I wr ds St Z
 st:St 0 h
 new:∀b∈wr,h₀.get? b=none∧Z b=none
 sz:ds.length≤SZ
noncomputable def KI (Y:Cx) (tup:Bool) (Q:Value→Shared→Prop) (E:Value→Shared→Prop) (Z:Zm) (s:Shared) (o:Out (List D)):Prop:=match o with
 | .ok ds=>∀I wr St Z' s',Nx Y Z s Z' s'→It0 Y tup I wr ds St Z' s.heap s'.heap→Q (.ref I) s'
 | .exc=>∀x s',Ex No Y s x s'→E (.ref x) s'
 | .stuck=>False
structure Post {γ:Type} (Y:Cx) (E:Value→Shared→Prop) (T:Zm→Shared→Out γ→Prop):Prop where
 step:∀{Z s Z' s' o},T Z s o→Nx Y Z s Z' s'→T Z' s' o
 exc:∀{Z s},T Z s .exc→∀x s',Ex No Y s x s'→E (.ref x) s'
 stuck:∀{Z s},T Z s .stuck→False
theorem Post.bindE {α β γ:Type} {T:Zm→Shared→Out γ→Prop} {R:Zm→β→α→Prop} {Q:α→Shared→Prop} {o:Out β} {f:β→Out γ} (p:Post Y E T) (k:T Z s (o>>=f)) (g:∀d v Z' s',o = .ok d→Nx Y Z s Z' s'→R Z' d v→T Z' s' (f d)→Q v s'):K Y Z R o Q E s:=by
 cases o with
 | ok d=>exact fun v Z' s' x r=>g d v Z' s' rfl x r (p.step (o:=f d) k x)
 | exc=>exact p.exc k
 | stuck=>exact p.stuck k
theorem Post.bind {α β γ:Type} {T:Zm→Shared→Out γ→Prop} {R:Zm→β→α→Prop} {Q:α→Shared→Prop} {o:Out β} {f:β→Out γ} (p:Post Y E T) (k:T Z s (o>>=f)) (g:∀d v Z' s',Nx Y Z s Z' s'→R Z' d v→T Z' s' (f d)→Q v s'):K Y Z R o Q E s:=
 p.bindE k fun d v Z' s' _=>g d v Z' s'
theorem KI.post {tup:Bool} {Q:Value→Shared→Prop}:Post Y E (KI Y tup Q E) where
 step:=fun {Z s Z' s' o} k g=>by
  cases o with
  | ok ds=>exact fun I wr St Z₂ s₂ g₂ i=>k I wr St Z₂ s₂ (g.nx g₂) { i with new:=fun b hb=>⟨(g.ks.gone (i.new b hb).1).resolve_left id,(i.new b hb).2⟩ }
  | exc=>exact fun x s₂ e=>k x s₂ (g.ex e fun _ q=>q.elim)
  | stuck=>exact k
 exc:=fun k=>k
 stuck:=fun k=>k
theorem KI.done {tup:Bool} {Q:Value→Shared→Prop} {ds:List D} {St:Nat→Heap→Prop} {o:Obj} {tk:Nat} (hs:Sub Z s.heap) (k:KI Y tup Q E Z s (.ok ds)) (wk:Wk Y tup s.heap.objs.size [s.heap.objs.size] ds St Z) (st:St 0 (s.heap.push o)) (z:ds.length≤SZ):Q (.ref s.heap.objs.size) { s with heap:=s.heap.push o,toks:=tk }:=
 have fr:s.heap.get? s.heap.objs.size=none:=Heap.get?_none_of_le (Nat.le_refl _)
 k _ _ _ Z _ (.keeps hs (fun _ _ e=>Heap.get?_push_of_some _ e) tk) ⟨wk,st,fun b hb=>by rw [List.mem_singleton.mp hb];exact ⟨fr,hs.fresh fr⟩,z⟩
theorem ZsS {v:Value} {d:D} {Q:Value→Shared→Prop} (hh:Y.A.handled=none) (hs:Sub Z s.heap) (rv:Rep Y.P Z d v) (k:KI Y false Q E Z s (itemsOf d)):wpAny Y.M Y.A (pyIter v) Q E s:=by
 cases d with
 | list ds=>
  obtain ⟨a,vs,n,rfl,e,z,rs⟩:=rv
  have he:=hs _ _ e
  have hne:a≠s.heap.objs.size:=Nat.ne_of_lt (Heap.lt_size he)
  have W:=Walks.list (prog:=Y.P.prog) (w:=Y.P.w) hh s.heap.objs.size a hne vs.toArray
  rw [show vs.toArray.size=ds.length from rs.length] at W
  refine wpAny_pyIter_list ⟨_,he,rfl,_,rfl⟩ (KI.done hs k (.of_walks (T:= "list_iterator") W (by decide) (fun b hb=> ?_) (fun i h st=>st.1.elim fun o q=>⟨o,q.1,q.2.1⟩) fun {i v d} hd hv=> ?_) ⟨⟨_,Heap.get?_push_size _ rfl,rfl,rfl⟩,⟨_,Heap.get?_push_of_some _ he,rfl,_,rfl⟩⟩ (rs.length ▸ z))
  ·rcases List.mem_cons.mp hb with q | q
   ·exact .inl q
   ·exact .inr ⟨_,List.mem_singleton.mp q ▸ e⟩
  ·obtain ⟨u,hu,ru⟩:=rs.get hd
   rw [List.getElem?_toArray,hu] at hv;cases hv;exact ru
 | tuple ds=>
  obtain ⟨a,vs,n,rfl,e,z,rs⟩:=rv
  have he:=hs _ _ e
  have hne:a≠s.heap.objs.size:=Nat.ne_of_lt (Heap.lt_size he)
  have W:=Walks.tuple (prog:=Y.P.prog) (w:=Y.P.w) hh s.heap.objs.size a hne vs.toArray
  rw [show vs.toArray.size=ds.length from rs.length] at W
  refine wpAny_pyIter_tuple ⟨_,he,rfl,_,rfl⟩ (KI.done hs k (.of_walks (T:= "tuple_iterator") W (by decide) (fun b hb=> ?_) (fun i h st=>st.1.elim fun o q=>⟨o,q.1,q.2.1⟩) fun {i v d} hd hv=> ?_) ⟨⟨_,Heap.get?_push_size _ rfl,rfl,rfl⟩,⟨_,Heap.get?_push_of_some _ he,rfl,_,rfl⟩⟩ (rs.length ▸ z))
  ·rcases List.mem_cons.mp hb with q | q
   ·exact .inl q
   ·exact .inr ⟨_,List.mem_singleton.mp q ▸ e⟩
  ·obtain ⟨u,hu,ru⟩:=rs.get hd
   rw [List.getElem?_toArray,hu] at hv;cases hv;exact ru
 | bytes bs=>
  obtain ⟨b,t,rfl,z,rfl⟩:=rv
  have W:=PySem.W.KBw.walks (prog:=Y.P.prog) (w:=Y.P.w) hh s.heap.objs.size b t
  rw [show b.size=(b.toList.map fun u=>D.int u.toNat).length by rw [List.length_map,Array.length_toList]] at W
  refine PySem.W.KBw.pyIter_bytes (KI.done hs k (.of_walks (T:= "bytes_iterator") W (by decide) (fun b hb=> .inl (List.mem_singleton.mp hb)) (fun i h st=>st.elim fun o q=>⟨o,q.1,q.2.1⟩) fun {i v d} hd hv=> ?_) ⟨_,Heap.get?_push_size _ rfl,rfl,rfl⟩ (by rw [List.length_map,Array.length_toList];exact z))
  obtain ⟨c,u,hc,rfl⟩:=hv
  rw [List.getElem?_map,Array.getElem?_toList,hc] at hd
  cases hd;exact rInt _ _
 | str cs=>
  obtain ⟨x,t,rfl,z,rfl⟩:=rv
  have main:∀(T:String) (o:Obj) (St:Nat→Heap→Prop),enums.contains T=false→Walks Y.P.prog Y.P.w Y.A s.heap.objs.size [s.heap.objs.size] [s.heap.objs.size] x.cps.size (SignAt x) St→(∀i h,St i h→∃o,h.get? s.heap.objs.size=some o∧o.cls = .type T)→St 0 (s.heap.push o) →
    Q (.ref s.heap.objs.size) { s with heap:=s.heap.push o }:=by
   intro T o St hT W hc st
   rw [show x.cps.size=(x.cps.toList.map fun c=>D.str [c]).length by rw [List.length_map,Array.length_toList]] at W
   refine KI.done (tk:=s.toks) hs k (.of_walks (T:=T) W hT (fun b hb=> .inl (List.mem_singleton.mp hb)) hc fun {i v d} hd hv=> ?_) st (by rw [List.length_map,Array.length_toList];exact z)
   obtain ⟨c,u,hc,rfl⟩:=hv
   rw [List.getElem?_map,Array.getElem?_toList,hc] at hd
   cases hd
   exact rStr ⟨#[c]⟩ u (show 1≤SZ by decide)
  cases ha:x.cps.all (· < 128)
  ·exact wpAny_pyIter_wide ha (main "str_iterator" _ _ (by decide) (Walks.strWide hh _ x t) (fun i h st=>st.elim fun o q=>⟨o,q.1,q.2.1⟩) ⟨_,Heap.get?_push_size _ rfl,rfl,rfl⟩)
  ·exact wpAny_pyIter_ascii ha (main "str_ascii_iterator" _ _ (by decide) (Walks.strAscii hh _ x t) (fun i h st=>st.elim fun o q=>⟨o,q.1,q.2.1⟩) ⟨_,Heap.get?_push_size _ rfl,rfl,rfl⟩)
 | _=>exact False.elim k
end
theorem Zra (n:Nat):∀{a:Int},(upFrom a n).length=n∧∀{i:Nat} {d:D},(upFrom a n)[i]?=some d→d = .int (a+i*1):=by
 induction n with
 | zero=>exact fun {a}=>⟨rfl,fun {i d} h=>nomatch h⟩
 | succ n ih=>
  intro a
  refine ⟨congrArg (· + 1) ih.1,fun {i d} h=> ?_⟩
  cases i with
  | zero=>cases h;exact congrArg _ (by simp)
  | succ i=>exact (ih.2 h).trans (congrArg _ (by lia))
theorem ZqL (n:Nat):∀{a:Int},(downFrom a n).length=n∧∀{i:Nat} {d:D},(downFrom a n)[i]?=some d→d = .int (a+i * -1):=by
 induction n with
 | zero=>exact fun {a}=>⟨rfl,fun {i d} h=>nomatch h⟩
 | succ n ih=>
  intro a
  refine ⟨congrArg (· + 1) ih.1,fun {i d} h=> ?_⟩
  cases i with
  | zero=>cases h;exact congrArg _ (by simp)
  | succ i=>exact (ih.2 h).trans (congrArg _ (by lia))
theorem ZqM (xs:List D):∀{a:Int},(enumFrom a xs).length=xs.length∧∀{i:Nat} {d:D},(enumFrom a xs)[i]?=some d→∃x,xs[i]?=some x∧d = .tuple [.int (a+i),x]:=by
 induction xs with
 | nil=>exact fun {a}=>⟨rfl,fun {i d} h=>nomatch h⟩
 | cons x xs ih=>
  intro a
  refine ⟨congrArg (· + 1) ih.1,fun {i d} h=> ?_⟩
  cases i with
  | zero=>cases h;exact ⟨x,rfl,by rw [show a+((0:Nat):Int)=a by simp]⟩
  | succ i=>
   obtain ⟨y,hy,e⟩:=ih.2 h
   exact ⟨y,hy,by rw [e,show a+1+(i:Int)=a+((i+1:Nat):Int) by lia]⟩
theorem Zrk {a:Int} (h:small a=true) : -4294967296 < a∧a < 4294967296:=by
 have h:a.natAbs < 4294967296:=of_decide_eq_true h
 omega
theorem ZqR (a b:Int):Builtin.Range.rangeSize a b (-1)=if b < a then a - b else 0:=by
 unfold Builtin.Range.rangeSize
 rw [if_neg (by decide),show (-(-1):Int)=1 by decide]
 simp only [Int.ediv_one,gt_iff_lt]
 split<;>lia
theorem ZsT {a b:Int} (ha:small a=true) (hb:small b=true):Builtin.Range.small a b (-1)=true:=by
 have:=Zrk ha
 have:=Zrk hb
 unfold Builtin.Range.small
 rw [ZqR]
 simp only [Builtin.Range.rangeFitsLong,Bool.and_eq_true,Bool.or_eq_true,decide_eq_true_eq,beq_iff_eq,show ¬((-1:Int) > 0) by decide,if_false]
 split<;>lia
section
variable {Y:Cx} {Z Z₀:Zm} {s:Shared} {E:Value→Shared→Prop} {Q:Value→Shared→Prop} {R:Rs}
theorem ZsG (hh:Y.A.handled=none) {I:Addr} (a c:Int) (ds:List D) (hd:∀{i:Nat} {d},ds[i]?=some d→d = .int (a+i*c)):Wk Y false I [I] ds (fun i h=>IsRangeIter h I (a+(i:Nat)*c) ((ds.length:Int) - (i:Nat)) c) Z₀:=
 Wk.of_walks (T:= "range_iterator") (Walks.range (prog:=Y.P.prog) (w:=Y.P.w) hh I a c ds.length) (by decide) (fun b hb=> .inl (List.mem_singleton.mp hb)) (fun i h st=>⟨_,st,rfl⟩) (fun {i v d} e hv=>by obtain ⟨t,rfl⟩:=hv;rw [hd e];exact rInt _ _)
theorem Zsf {a b:Int} {t u v:Tok} {st:Int} {rg:Addr} (hh:Y.A.handled=none) (hs:Sub Z s.heap) (hr:IsRange s.heap rg a b st t u v) (k:KI Y false Q E Z s (rngI a b st)):wpAny Y.M Y.A (pyIter (.ref rg)) Q E s:=by
 unfold rngI at k
 by_cases hc:small a=true∧small b=true∧(b - a).toNat≤SZ∧(a - b).toNat≤SZ
 ·rw [if_pos hc] at k
  obtain ⟨h1,h2,h3,h4⟩:=hc
  by_cases e1:st=1
  ·rw [if_pos e1] at k
   subst e1
   have h1:=Zrk h1
   have h2:=Zrk h2
   refine wpAny_pyIter_range hr (small_one (by lia) (by lia) (by lia) (by lia)) (KI.done hs k (ZsG hh a 1 _ (Zra _).2) ?_ (by rw [(Zra _).1];exact h3))
   rw [(Zra _).1,show a+((0:Nat):Int)*1=a by simp,show (((b - a).toNat:Nat):Int) - ((0:Nat):Int)=Builtin.Range.rangeSize a b 1 by rw [rangeSize_one];split<;>lia]
   exact Heap.get?_push_size _ rfl
  ·rw [if_neg e1] at k
   by_cases e2:st = -1
   ·rw [if_pos e2] at k
    subst e2
    refine wpAny_pyIter_range hr (ZsT h1 h2) (KI.done hs k (ZsG hh a (-1) _ (ZqL _).2) ?_ (by rw [(ZqL _).1];exact h4))
    rw [(ZqL _).1,show a+((0:Nat):Int)*(-1)=a by simp,show (((a - b).toNat:Nat):Int) - ((0:Nat):Int)=Builtin.Range.rangeSize a b (-1) by rw [ZqR];split<;>lia]
    exact Heap.get?_push_size _ rfl
   ·rw [if_neg e2] at k;exact False.elim k
 ·rw [if_neg hc] at k;exact False.elim k
theorem Zuh (hh:Y.A.handled=none) {e it ax:Addr} (hei:e≠it) (hle:ax≠e) (hli:ax≠it) {vs:List Value} {xs:List D} {n:Nat} (hz:Z₀ ax=some (lstO vs n)) (rs:Reps Y.P Z₀ xs vs) :
  Wk Y true e [e,it] (enumFrom 0 xs) (fun i h=>(∃old,IsEnum h e it i old)∧h.IsListIter it ax i∧h.IsList ax vs.toArray) Z₀:=
 have W:=WalksT.enumerate (prog:=Y.P.prog) (w:=Y.P.w) hh e it ax hei hle hli vs.toArray
 have mem:∀b,b∉[e,it]→b≠e∧b≠it:=fun b nb=>⟨fun z=>nb (z ▸ List.mem_cons_self ..),fun z=>nb (z ▸ List.mem_cons_of_mem _ (List.mem_cons_self ..))⟩
 {
  alive:=fun i h st b hb=>by
   obtain ⟨⟨old,he⟩,⟨o,ho,_⟩,_⟩:=st
   rcases List.mem_cons.mp hb with rfl | hb
   ·rw [he];rfl
   ·cases List.mem_singleton.mp hb;rw [ho];rfl
  frame:=fun i h h' st s1 s2 k=>W.frame i h h' st fun b hb o eo=>by
   by_cases m:b∈[e,it]
   ·exact k b m o eo
   ·have:b=ax:=by
     rcases List.mem_cons.mp hb with q | hb
     ·exact absurd q (mem b m).1
     ·rcases List.mem_cons.mp hb with q | hb
      ·exact absurd q (mem b m).2
      ·exact List.mem_singleton.mp hb
    subst this
    rw [s1 _ _ hz] at eo;cases eo;exact s2 _ _ hz
  done:=fun {Z s Q E} st hs hw hQ=>W.done s Q E (by rw [(ZqM _).1] at st;rw [List.size_toArray,rs.length];exact st) fun h' tk hk=>hQ _ (.of_keep hs hw hk tk)
  self:=fun {i s Q E} st hQ=>W.self i s Q E st hQ
  item:=fun {Z i d s G E} tgt htup hd st le hs hw hG=>by
   obtain ⟨x,hx,rfl⟩:=(ZqM _).2 hd
   obtain ⟨⟨old,he⟩,hit,hL⟩:=st
   obtain ⟨u,hu,ru⟩:=rs.get hx
   refine wpAny_pyNext_enum_item he hit hL (x:=u) (by rw [List.getElem?_toArray];exact hu) hei fun h' ho hit' hT hsz hk=>⟨_,rfl,?_⟩
   have hTe:s.heap.objs.size≠e:=Nat.ne_of_gt (Heap.lt_size he)
   have fr:s.heap.get? s.heap.objs.size=none:=Heap.get?_none_of_le (Nat.le_refl _)
   cases tgt with
   | Tuple elts k pos=>
    refine wpAny_letOwnedTupleGo_enum ho fun h₂ he₂ sb=> ?_
    have w:Wt [e,it] Y Z s Z { s with heap:=h₂,toks:=s.toks+1 }:= .of_keep hs hw (fun b o nb q=>(sb.2 b (mem b nb).1).trans (hk b o (mem b nb).1 (mem b nb).2 q)) _
    have hT₂:h₂.get? s.heap.objs.size=some (tupO [.int i s.toks,u] 0):=(sb.2 _ hTe).trans hT
    have wz:∀b∈[e,it],b≠s.heap.objs.size:=fun b hb z=>by
     rcases List.mem_cons.mp hb with q | hb
     ·exact hTe (z.symm.trans q)
     ·obtain ⟨o,ho,_⟩:=hit;rw [←List.mem_singleton.mp hb,z,fr] at ho;cases ho
    refine hG _ (Zput Z s.heap.objs.size (tupO [.int i s.toks,u] 0)) _ ⟨⟨u,by simpa using he₂⟩,hit'.at fun o y=>(sb.2 it hei.symm).trans y,(hL.at fun o x=>hk ax o hle hli x).at fun o y=>(sb.2 ax hle).trans y⟩
     ⟨⟨w.go.ks,ZqH (hs.fresh fr),fun b q=> ?_,Sub.put w.go.sub hT₂,rfl⟩,fun b hb=>by rw [Zput,if_neg (wz b hb)];exact (hw b hb).1⟩
     ⟨_,_,0,rfl,Zqs,(by decide:2≤SZ),.cons (by rw [Int.zero_add];exact rInt _ _) (.cons ((ru.up le).up (ZqH (hs.fresh fr))) rfl)⟩
    by_cases z:b=s.heap.objs.size
    ·exact .inr (.inr (z ▸ fr))
    ·exact .inl (by rwa [Zput,if_neg z] at q)
   | _=>exact absurd (htup rfl) Bool.false_ne_true }
noncomputable def It.isEnum:It→Bool
 | .enum _=>true
 | _=>false
def SI (R:Rs) (e:Expr) (it:It):Prop:=∀{Y:Cx} {env:Env} {Z:Zm} {oa:Nat→Option Addr} {sl:List Slot} {s:Shared} {Q:Value→Shared→Prop} {E:Value→Shared→Prop},
 Ok R Y env Z oa sl s.heap→KI Y it.isEnum Q E Z s (Y.items it sl)→wpAny Y.M Y.A (eval e env) (fun x s₁=>wpAny Y.M Y.A (pyIter x) Q E s₁) E s
theorem SI.seq {e:Expr} {c:C} (h:SE R e c):SI R e (.seq c):=fun ok k=>
 h ok (KI.post.bind k fun d v Z₁ s₁ g rv k=>ZsS ok.c.hand g.sub rv k)
@[elab_as_elim] theorem KI.onInt {tup:Bool} {x:D} {v:Value} {f:Int→Out (List D)} {G:Value→Prop} (k:KI Y tup Q E Z s (onInt f x)) (r:Rep Y.P Z x v) (g:∀i t,KI Y tup Q E Z s (f i)→G (.int i t)):G v:=by
 cases x with
 | int i=>obtain ⟨t,rfl⟩:=r;exact g i t k
 | _=>exact False.elim k
theorem ZqT {Y:Cx} {Z:Zm} {s:Shared} (hs:Sub Z s.heap) (o:Obj) (tk:Nat):Nx Y Z s Z { s with heap:=s.heap.push o,toks:=tk }:= .keeps hs (fun _ _ e=>Heap.get?_push_of_some _ e) tk
theorem SI.rng1 {e:Expr} {c:C} {p pos:Pos} (hf:R.glob "range" = true) (hn:noStar e=true) (h:SE R e c):SI R (.Call (.Name "range" p) [e] [] pos) (.rng (.k (.int 0)) c 1):=by
 intro Y env Z oa sl s Q E ok k
 rw [arm_eval_Call_Name']
 refine wpAny_bind (Zqo ok hf ok.c.glo.rng ?_)
 rw [Zsa hn]
 refine PySem.callWith_type rfl (Calls.evalArgs_plain (Calls.spliced_cons (h ok (KI.post.bind (f:=fun y=>rngK 1 (.int 0) y) k fun x v Z₁ s₁ g rv k=>Calls.spliced_nil ?_))))
 refine KI.onInt (f:=fun b=>rngI 0 b 1) k rv fun i t k=>call_range_1 ?_
 exact Zsf ok.c.hand (ZqT (Y:=Y) g.sub _ _).sub (IsRange.new ..) (KI.post.step k (ZqT g.sub _ _))
theorem SI.rng2 {e e':Expr} {c c':C} {p pos:Pos} (hf:R.glob "range" = true) (hn:noStar e=true) (hn':noStar e'=true) (h:SE R e c) (h':SE R e' c'):SI R (.Call (.Name "range" p) [e,e'] [] pos) (.rng c c' 1):=by
 intro Y env Z oa sl s Q E ok k
 rw [arm_eval_Call_Name']
 refine wpAny_bind (Zqo ok hf ok.c.glo.rng ?_)
 rw [args2 hn hn']
 refine PySem.callWith_type rfl (Calls.evalArgs_plain (Calls.spliced_cons (h ok (KI.post.bind (f:=fun x=>Y.ex c' sl>>=fun y=>rngK 1 x y) k fun x v Z₁ s₁ g rv k=>Calls.spliced_cons (h' (ok.nx g) (KI.post.bind k fun x' v' Z₂ s₂ g₂ rv' k=>Calls.spliced_nil ?_))))))
 refine KI.onInt (f:=fun a=>onInt (fun b=>rngI a b 1) x') k (rv.up g₂.le) fun i t k=>KI.onInt k rv' fun i' t' k=>call_range_2 ?_
 exact Zsf ok.c.hand (ZqT (Y:=Y) g₂.sub _ _).sub (IsRange.new ..) (KI.post.step k (ZqT g₂.sub _ _))
theorem SI.enum {e:Expr} {c:C} {p pos:Pos} (hf:R.glob "enumerate" = true) (hn:noStar e=true) (h:SE R e c):SI R (.Call (.Name "enumerate" p) [e] [] pos) (.enum c):=by
 intro Y env Z oa sl s Q E ok k
 rw [arm_eval_Call_Name']
 refine wpAny_bind (Zqo ok hf ok.c.glo.enu ?_)
 rw [Zsa hn]
 refine PySem.callWith_type rfl (Calls.evalArgs_plain (Calls.spliced_cons (h ok (KI.post.bind k fun x v Z₁ s₁ g rv k=>Calls.spliced_nil ?_))))
 cases x with
 | list xs=>
  obtain ⟨a,vs,n,rfl,e,z,rs⟩:=rv
  have he:=g.sub _ _ e
  refine call_enumerate_list ⟨_,he,rfl,_,rfl⟩ fun h2 he2 hit hsz hk=>wpAny_pyIter_enum he2 ?_
  have hlt:a < s₁.heap.objs.size:=Heap.lt_size he
  refine k _ [s₁.heap.objs.size+1,s₁.heap.objs.size] _ Z₁ _ (.keeps g.sub hk _) ⟨Zuh ok.c.hand (Nat.succ_ne_self _) (Nat.ne_of_lt (Nat.lt_succ_of_lt hlt)) (Nat.ne_of_lt hlt) e rs,⟨⟨_,he2⟩,hit,⟨_,hk _ _ he,rfl,_,rfl⟩⟩,fun b hb=> ?_,by rw [(ZqM _).1,←rs.length];exact z⟩
  have fr:s₁.heap.get? b=none:=by
   rcases List.mem_cons.mp hb with q | hb
   ·rw [q];exact Heap.get?_none_of_le (Nat.le_succ _)
   ·rw [List.mem_singleton.mp hb];exact Heap.get?_none_of_le (Nat.le_refl _)
  exact ⟨fr,g.sub.fresh fr⟩
 | _=>exact False.elim k
end
end DK.Internal
end
section
set_option backward.match.sparseCases false
set_option genSizeOf false
set_option genCtorIdx false
namespace DK.Internal
open PySem PyProof.Rows
noncomputable def notSet:Expr→Bool
 | .Set _ _ _=>false
 | _=>true
theorem Zrg {e:Expr} {env:Env} (h:notSet e=true) (x:Value):foldedSetIterable e env x=pure x:=by
 cases e<;>first | rfl | exact absurd h Bool.false_ne_true
noncomputable def numbered (n:Nat):List (Str × NameKind)→List (Str × Nat)
 | []=> []
 | (x,.local)::r=>(x,n)::numbered (n+1) r
 | _::r=>numbered n r
noncomputable def frees (loc:List (Str × Nat)):List (Str × NameKind)→List (Str × Nat)
 | []=> []
 | (x,.free)::r=>match loc.lookup x with
  | some i=>(x,i)::frees loc r
  | none=>frees loc r
 | _::r=>frees loc r
noncomputable def Rs.inner (R:Rs) (sc:Scope):Rs:={ R with loc:=numbered R.nl sc.names++frees R.loc sc.names,nl:=R.nl+(numbered R.nl sc.names).length,own:= [],names:=sc.names,byref:=(frees R.loc sc.names).map (·.1) }
noncomputable def okScope (R:Rs) (sc:Scope):Bool:=decide (sc.kind = .function∧∀n∈sc.names,n.2≠.cell∧(n.2 = .local→sc.names.lookup n.1=some .local) ∧
 (n.2 = .free→sc.names.lookup n.1=some .free∧R.names.lookup n.1=some .cell∧(R.loc.lookup n.1).isSome=true))
section
variable {env:Env}
noncomputable def closed (env:Env):List (Str × NameKind)→List (Str × Addr)→List (Str × Addr)
 | [],acc=>acc
 | (x,.free)::r,acc=>match env.cells.lookup x with
  | some c=>closed env r ((x,c)::acc)
  | none=>closed env r acc
 | _::r,acc=>closed env r acc
theorem Zrb {scope:Scope} (hf:∀n∈scope.names,n.2 = .free→(env.cells.lookup n.1).isSome=true):closureFor scope env=pure (closed env scope.names []):=by
 unfold closureFor
 generalize scope.names=ns at hf
 suffices h:∀acc,(forIn ns acc fun (x:Str × NameKind) (cs:List (Str × Addr))=>(match x with
   | (name,kind)=>if (kind == NameKind.free)=true then (do let c ←cellOf env name;pure (ForInStep.yield ((name,c)::cs))) else pure (ForInStep.yield cs):Sem (ForInStep (List (Str × Addr)))))=pure (closed env ns acc) by
  have:=h []
  simp only [bind_pure]
  exact this
 induction ns with
 | nil=>intro acc;rfl
 | cons n ns ih=>
  intro acc
  obtain ⟨x,k⟩:=n
  have ih:=ih fun n hn=>hf n (List.mem_cons_of_mem _ hn)
  rw [List.forIn_cons]
  by_cases hk:k = .free
  ·subst hk
   have hx:=hf (x,.free) (by simp) rfl
   cases hc:env.cells.lookup x with
   | none=>rw [hc] at hx;cases hx
   | some c=>
    have h1:cellOf env x=pure c:=by unfold cellOf;rw [hc]
    simp only [beq_self_eq_true,if_true,h1,pure_bind,closed,hc]
    exact ih _
  ·have hb:(k == NameKind.free)=false:=by simpa using hk
   simp only [hb,Bool.false_eq_true,if_false,pure_bind]
   rw [show closed env ((x,k)::ns) acc=closed env ns acc by cases k<;>first | rfl | exact absurd rfl hk]
   exact ih _
end
theorem ZrF {α:Type} {x:Str}:∀(a b:List (Str × α)),(a++b).lookup x=match a.lookup x with | some i=>some i | none=>b.lookup x
 | [],b=>rfl
 | (y,i)::a,b=>by
  simp only [List.cons_append,List.lookup_cons]
  cases x == y with
  | true=>rfl
  | false=>exact ZrF a b
theorem lookup_mem {α:Type} {x:Str} {k:α}:∀{l:List (Str × α)},l.lookup x=some k→(x,k)∈l
 | [],h=>by simp at h
 | (y,i)::l,h=>by
  simp only [List.lookup_cons] at h
  cases hxy:x == y with
  | true=>rw [hxy] at h;cases h;simp only [beq_iff_eq] at hxy;subst hxy;exact List.mem_cons_self ..
  | false=>rw [hxy] at h;exact List.mem_cons_of_mem _ (lookup_mem h)
theorem ZqX {n:Nat} {x:Str} {k:NameKind} {r:List (Str × NameKind)}:numbered n ((x,k)::r)=if k = .local then (x,n)::numbered (n+1) r else numbered n r:=by
 cases k<;>rfl
theorem Zqp {x:Str} {i:Nat}:∀{n:Nat} {ns:List (Str × NameKind)},(numbered n ns).lookup x=some i→n≤i∧i < n+(numbered n ns).length∧(x,.local)∈ns
 | n,[],h=>by simp [numbered] at h
 | n,(y,k)::r,h=>by
  rw [ZqX] at h ⊢
  by_cases hk:k = .local
  ·subst hk
   rw [if_pos rfl] at h ⊢
   simp only [List.lookup_cons] at h
   cases hxy:x == y with
   | true=>rw [hxy] at h;cases h;simp only [beq_iff_eq] at hxy;subst hxy;exact ⟨Nat.le_refl _,by simp,List.mem_cons_self ..⟩
   | false=>
    rw [hxy] at h
    obtain ⟨a,b,c⟩:=Zqp h
    exact ⟨by exact Nat.le_of_lt (by assumption),by simp only [List.length_cons];lia,List.mem_cons_of_mem _ c⟩
  ·rw [if_neg hk] at h ⊢
   obtain ⟨a,b,c⟩:=Zqp h
   exact ⟨a,b,List.mem_cons_of_mem _ c⟩
theorem ZqN {x y:Str} {i:Nat}:∀{n:Nat} {ns:List (Str × NameKind)},(numbered n ns).lookup x=some i→(numbered n ns).lookup y=some i→x=y
 | n,[],h,_=>by simp [numbered] at h
 | n,(z,k)::r,h,h'=>by
  rw [ZqX] at h h'
  by_cases hk:k = .local
  ·rw [if_pos hk] at h h'
   simp only [List.lookup_cons] at h h'
   cases hx:x == z with
   | true=>
    rw [hx] at h;cases h
    cases hy:y == z with
    | true=>simp only [beq_iff_eq] at hx hy;rw [hx,hy]
    | false=>rw [hy] at h';have:=(Zqp h').1;lia
   | false=>
    rw [hx] at h
    cases hy:y == z with
    | true=>rw [hy] at h';cases h';have:=(Zqp h).1;lia
    | false=>rw [hy] at h';exact ZqN h h'
  ·rw [if_neg hk] at h h';exact ZqN h h'
theorem ZsU {loc:List (Str × Nat)} {x:Str} {k:NameKind} {r:List (Str × NameKind)}:frees loc ((x,k)::r)=if k = .free then (match loc.lookup x with | some i=>(x,i)::frees loc r | none=>frees loc r) else frees loc r:=by
 cases k<;>rfl
theorem ZqC {loc:List (Str × Nat)} {x:Str} {i:Nat}:∀{ns:List (Str × NameKind)},(frees loc ns).lookup x=some i→loc.lookup x=some i∧(x,.free)∈ns
 | [],h=>by simp [frees] at h
 | (y,k)::r,h=>by
  rw [ZsU] at h
  by_cases hk:k = .free
  ·subst hk
   rw [if_pos rfl] at h
   cases hy:loc.lookup y with
   | none=>rw [hy] at h;obtain ⟨a,b⟩:=ZqC h;exact ⟨a,List.mem_cons_of_mem _ b⟩
   | some j=>
    rw [hy] at h
    simp only [List.lookup_cons] at h
    cases hxy:x == y with
    | true=>rw [hxy] at h;cases h;simp only [beq_iff_eq] at hxy;subst hxy;exact ⟨hy,List.mem_cons_self ..⟩
    | false=>rw [hxy] at h;obtain ⟨a,b⟩:=ZqC h;exact ⟨a,List.mem_cons_of_mem _ b⟩
  ·rw [if_neg hk] at h;obtain ⟨a,b⟩:=ZqC h;exact ⟨a,List.mem_cons_of_mem _ b⟩
theorem Zrv {env:Env} {x:Str} {k:NameKind} {r:List (Str × NameKind)} {acc:List (Str × Addr)}:closed env ((x,k)::r) acc=if k = .free then (match env.cells.lookup x with | some c=>closed env r ((x,c)::acc) | none=>closed env r acc) else closed env r acc:=by
 cases k<;>rfl
theorem Zqv {env:Env} {x:Str} {c:Addr}:∀{ns:List (Str × NameKind)} {acc:List (Str × Addr)},(closed env ns acc).lookup x=some c→(∀y d,acc.lookup y=some d→env.cells.lookup y=some d)→env.cells.lookup x=some c
 | [],acc,h,ha=>ha x c h
 | (y,k)::r,acc,h,ha=>by
  rw [Zrv] at h
  by_cases hk:k = .free
  ·rw [if_pos hk] at h
   cases hy:env.cells.lookup y with
   | none=>rw [hy] at h;exact Zqv h ha
   | some d=>
    rw [hy] at h
    refine Zqv h fun z e hz=> ?_
    simp only [List.lookup_cons] at hz
    cases hzy:z == y with
    | true=>rw [hzy] at hz;cases hz;simp only [beq_iff_eq] at hzy;subst hzy;exact hy
    | false=>rw [hzy] at hz;exact ha z e hz
  ·rw [if_neg hk] at h;exact Zqv h ha
theorem ZqG {env:Env} {x:Str}:∀{ns:List (Str × NameKind)} {acc:List (Str × Addr)},((x,.free)∈ns∧(env.cells.lookup x).isSome=true)∨(acc.lookup x).isSome=true→((closed env ns acc).lookup x).isSome=true
 | [],acc,h=>by rcases h with ⟨h,_⟩ | h;simp at h;exact h
 | (y,k)::r,acc,h=>by
  rw [Zrv]
  by_cases hk:k = .free
  ·subst hk
   rw [if_pos rfl]
   cases hy:env.cells.lookup y with
   | none=>
    refine ZqG ?_
    rcases h with ⟨h,h'⟩ | h
    ·rcases List.mem_cons.mp h with q | q
     ·cases q;rw [hy] at h';cases h'
     ·exact .inl ⟨q,h'⟩
    ·exact .inr h
   | some d=>
    refine ZqG ?_
    by_cases hxy:x=y
    ·subst hxy;right;simp [List.lookup_cons]
    ·have hb:(x == y)=false:=by simpa using hxy
     rcases h with ⟨h,h'⟩ | h
     ·rcases List.mem_cons.mp h with q | q
      ·exact absurd (congrArg Prod.fst q) hxy
      ·exact .inl ⟨q,h'⟩
     ·right;simp only [List.lookup_cons,hb];exact h
  ·rw [if_neg hk]
   refine ZqG ?_
   rcases h with ⟨h,h'⟩ | h
   ·rcases List.mem_cons.mp h with q | q
    ·exact absurd (congrArg Prod.snd q).symm hk
    ·exact .inl ⟨q,h'⟩
   ·exact .inr h
noncomputable def relab (env:Env) (ns:List (Str × NameKind)):List (Str × NameKind):=ns.map fun (n,k)=>if (k == NameKind.free && env.scope.kind == .function && env.kindOf n == some .cell) then (n,NameKind.cell) else (n,k)
theorem Zrh {env:Env} {x:Str} {k:NameKind} (hk:env.scope.kind = .function):∀{ns:List (Str × NameKind)},ns.lookup x=some k→(relab env ns).lookup x=some (if k = .free∧env.kindOf x=some .cell then .cell else k)
 | [],h=>by simp at h
 | (y,j)::r,h=>by
  show List.lookup x ((if (j == NameKind.free && env.scope.kind == .function && env.kindOf y == some .cell)=true then (y,NameKind.cell) else (y,j))::relab env r)=_
  simp only [List.lookup_cons] at h
  cases hxy:x == y with
  | true=>
   rw [hxy] at h;cases h
   simp only [beq_iff_eq] at hxy;subst hxy
   by_cases hc:(k == NameKind.free && env.scope.kind == .function && env.kindOf x == some .cell)=true
   ·rw [if_pos hc]
    simp only [Bool.and_eq_true,beq_iff_eq] at hc
    rw [if_pos ⟨hc.1.1,hc.2⟩];simp [List.lookup_cons]
   ·rw [if_neg hc]
    simp only [Bool.and_eq_true,beq_iff_eq] at hc
    rw [if_neg (fun q=>hc ⟨⟨q.1,hk⟩,q.2⟩)];simp [List.lookup_cons]
  | false=>
   rw [hxy] at h
   have ih:=Zrh hk h
   by_cases hc:(j == NameKind.free && env.scope.kind == .function && env.kindOf y == some .cell)=true
   ·rw [if_pos hc];simp only [List.lookup_cons,hxy];exact ih
   ·rw [if_neg hc];simp only [List.lookup_cons,hxy];exact ih
theorem ZqD {R:Rs} {sc:Scope} (h:okScope R sc=true):sc.kind = .function∧∀n∈sc.names,n.2≠.cell∧(n.2 = .local→sc.names.lookup n.1=some .local) ∧
  (n.2 = .free→sc.names.lookup n.1=some .free∧R.names.lookup n.1=some .cell∧(R.loc.lookup n.1).isSome=true):=of_decide_eq_true h
theorem Zqt {R:Rs} {sc:Scope} {x:Str} {i:Nat} (h:(R.inner sc).loc.lookup x=some i) :
  (R.nl≤i∧i < R.nl+(numbered R.nl sc.names).length∧(x,.local)∈sc.names∧(numbered R.nl sc.names).lookup x=some i)∨(R.loc.lookup x=some i∧(x,.free)∈sc.names∧(frees R.loc sc.names).lookup x=some i):=by
 have h:(numbered R.nl sc.names++frees R.loc sc.names).lookup x=some i:=h
 rw [ZrF] at h
 cases hn:(numbered R.nl sc.names).lookup x with
 | some j=>rw [hn] at h;cases h;obtain ⟨a,b,c⟩:=Zqp hn;exact .inl ⟨a,b,c,rfl⟩
 | none=>rw [hn] at h;obtain ⟨a,b⟩:=ZqC h;exact .inr ⟨a,b,h⟩
theorem ZtM {R:Rs} {sc:Scope} (wf:R.WF):(R.inner sc).WF:=by
 refine ⟨fun x y i hx hy=> ?_,fun x i hx=> ?_⟩
 ·rcases Zqt hx with ⟨a,b,c,d⟩ | ⟨a,b,d⟩
  ·rcases Zqt hy with ⟨a',b',c',d'⟩ | ⟨a',b',d'⟩
   ·exact ZqN d d'
   ·have:=wf.lt y i a';lia
  ·rcases Zqt hy with ⟨a',b',c',d'⟩ | ⟨a',b',d'⟩
   ·have:=wf.lt x i a;lia
   ·exact wf.inj x y i a a'
 ·show i < R.nl+(numbered R.nl sc.names).length
  rcases Zqt hx with ⟨a,b,c,d⟩ | ⟨a,b,d⟩
  ·exact b
  ·have:=wf.lt x i a;lia
section
variable {R:Rs} {Y:Cx} {env:Env} {Z:Zm} {oa oa':Nat→Option Addr} {sl:List Slot} {h:Heap} {sc:Scope} {C:Addr}
noncomputable abbrev cenvOf (sc:Scope) (env:Env) (C:Addr):Env:=compEnvC sc (closed env sc.names []) C env
theorem ZqP {x:Str} {k:NameKind} (hk:env.scope.kind = .function) (h:sc.names.lookup x=some k):(cenvOf sc env C).kindOf x=some (if k = .free∧env.kindOf x=some .cell then .cell else k):=Zrh hk h
theorem Zqw {x:Str} {c:Addr} (h:(cenvOf sc env C).cells.lookup x=some c):env.cells.lookup x=some c:=Zqv h (fun y d hy=>nomatch hy)
theorem ZrG (st:Stat R Y env) (hs:okScope R sc=true) {x:Str} {i:Nat} {b:Addr} (hx:(R.inner sc).put x=some i) (hm:Home (cenvOf sc env C) x b):b=C∧R.nl≤i:=by
 obtain ⟨hkind,hn⟩:=ZqD hs
 have hnr:x∉(R.inner sc).byref:=by
  unfold Rs.put at hx;split at hx
  ·cases hx
  ·assumption
 rcases Zqt (Zqz hx) with ⟨h1,_,c,_⟩ | ⟨_,_,c⟩
 ·have hk:(cenvOf sc env C).kindOf x=some .local:=by rw [ZqP st.kind ((hn _ c).2.1 rfl),if_neg (fun q=>by cases q.1)]
  rcases hm with ⟨_,e⟩ | ⟨k,_⟩
  ·exact ⟨e,h1⟩
  ·rw [hk] at k;cases k
 ·exact absurd (List.mem_map.mpr ⟨_,lookup_mem c,rfl⟩) hnr
theorem Stat.inner (st:Stat R Y env) (hs:okScope R sc=true) (hCc:∀x c,env.cells.lookup x=some c→c≠C):Stat (R.inner sc) Y (cenvOf sc env C):=by
 obtain ⟨hkind,hn⟩:=ZqD hs
 refine { calls:=st.calls,fns:=st.fns,gls:=st.gls,io:=st.io,kind:=hkind,glob:=st.glob,buil:=st.buil,gk:=fun x hx=> ?_,ck:=fun x hx=> ?_,fr:=st.fr,wf:=ZtM st.wf,cellA:=fun x y c hx hy=>st.cellA x y c (Zqw hx) (Zqw hy),cellL:=fun x c hc=>hCc x c (Zqw hc) }
 ·rw [ZqP (C:=C) st.kind (show sc.names.lookup x=some .globalImplicit from hx),if_neg (fun q=>by cases q.1)]
 ·exact absurd rfl (hn _ (lookup_mem (show sc.names.lookup x=some .cell from hx))).1
theorem Ok.inner (ok:Ok R Y env Z oa sl h) (hs:okScope R sc=true) {m:Str→Option Value} (hC:h.Ns C m) (hCz:Z C=none) (hCc:∀x c,env.cells.lookup x=some c→c≠C) (hoa:∀j,j < R.nl→oa' j=oa j)
  (own:∀i a,oa' i=some a→Z a=none∧True∧a∉fas Y.l∧¬Loc (cenvOf sc env C) a∧(h.get? a).isSome=true) (oinj:∀i j a,oa' i=some a→oa' j=some a→i=j) :
  Ok (R.inner sc) Y (cenvOf sc env C) Z oa' (sl++List.replicate (numbered R.nl sc.names).length .un) h:=by
 obtain ⟨hkind,hn⟩:=ZqD hs
 have vfree:∀{x:Str} {i:Nat} {v:Option Value},R.loc.lookup x=some i→(x,NameKind.free)∈sc.names→VarAt h env x v→VarAt h (cenvOf sc env C) x v:=by
  intro x i v hx hf q
  obtain ⟨e1,e2,e3⟩:=(hn _ hf).2.2 rfl
  obtain ⟨c1,c2⟩:=ok.st.ck x e2
  rcases q with ⟨k,_⟩ | ⟨k,c,hc,hv⟩
  ·rw [c1] at k;cases k
  ·refine .inr ⟨by rw [ZqP ok.st.kind e1,if_pos ⟨rfl,c1⟩],c,?_,hv⟩
   have:=ZqG (env:=env) (acc:= []) (.inl ⟨hf,c2⟩)
   cases hcl:(closed env sc.names []).lookup x with
   | none=>rw [hcl] at this;cases this
   | some c'=>
    have h':=Zqw (C:=C) hcl
    rw [hc] at h';cases h'
    exact hcl
 refine { st:=ok.st.inner hs hCc,c:=ok.c,var:=fun x i e=> ?_,has:=fun x i e=> ?_,len:= ?_,loz:=fun b q=> ?_,own:=own,oinj:=oinj,ns:=⟨m,hC⟩ }
 ·rcases Zqt e with ⟨a,b,_⟩ | ⟨a,b,_⟩
  ·rw [List.getElem?_append_right (by rw [ok.len];exact a),List.getElem?_replicate,if_pos (by rw [ok.len];lia)];trivial
  ·have hlt:=ok.st.wf.lt x i a
   rw [List.getElem?_append_left (by rw [ok.len];exact hlt)]
   have q:=ok.var x i a
   cases ht:sl[i]? with
   | none=>trivial
   | some t=>
    rw [ht] at q
    cases t with
    | un=>trivial
    | val d=>obtain ⟨v,a1,a2⟩:=q;exact ⟨v,vfree a b a1,a2⟩
    | own xs=>obtain ⟨aa,vs,n,a0,a1,a2⟩:=q;exact ⟨aa,vs,n,(hoa i hlt).trans a0,vfree a b a1,a2⟩
 ·rcases Zqt e with ⟨a,b,c,_⟩ | ⟨a,b,_⟩
  ·exact ⟨_,.inl ⟨by rw [ZqP ok.st.kind ((hn _ c).2.1 rfl),if_neg (fun q=>by cases q.1)],m,hC,rfl⟩⟩
  ·exact (ok.has x i a).imp fun v q=>vfree a b q
 ·rw [List.length_append,List.length_replicate,ok.len];rfl
 ·rcases q with rfl | ⟨x,q⟩
  ·obtain ⟨o,_,_,e,_⟩:=hC;exact ⟨hCz,(congrArg Option.isSome e).trans rfl⟩
  ·exact ok.loz b (.inr ⟨x,Zqw q⟩)
end
end DK.Internal
end
section
set_option backward.match.sparseCases false
set_option genSizeOf false
set_option genCtorIdx false
namespace DK.Internal
open PySem PyProof.Rows
def HeldL (base:Heap) (l:List Env) (e:Addr) (h:Heap):Prop:=∃fenv outer,l=fenv::outer∧HeldAt base fenv outer e h
section
variable {R:Rs} {Y:Cx} {env:Env} {Z Z':Zm} {oa:Nat→Option Addr} {sl:List Slot} {h h':Heap} {s s':Shared} {E:Value→Shared→Prop} {W W':Addr→Prop}
theorem Ok.chg {i:Nat} {a:Addr} {t:Slot} (ok:Ok R Y env Z oa sl h) (ha:oa i=some a) (ob:Y.base.get? a=none) (sb:Heap.SameBut a h h') (hn:∃o,h'.get? a=some o∧∀vs,o.data≠.fields vs) (ht:∀x,R.loc.lookup x=some i→(∀{v},VarAt h env x v→VarAt h' env x v)→SlotAt Y.P Z oa h' env x i (some t)):Ok R Y env Z oa (setV sl i t) h':=by
 obtain ⟨oz,_,of_,ol,oe⟩:=ok.own i a ha
 have alive:∀b,(h.get? b).isSome=true→(h'.get? b).isSome=true:=fun b e=>by
  by_cases z:b=a
  ·obtain ⟨o,ho,_⟩:=hn;rw [z,ho];rfl
  ·rw [sb.2 b z];exact e
 have kd:∀b o,Loc env b→h.get? b=some o→∃o',h'.get? b=some o'∧o'.data=o.data:=fun b o l e=>⟨o,SameBut.get sb (fun z=>ol (z ▸ l)) e,rfl⟩
 refine { st:=ok.st,c:=ok.c.ks (W:=fun b=>b=a) (.of_but sb rfl hn) (fun b q=>q ▸ ob) (fun _ _ e=>e) (fun b o e=>SameBut.get sb (fun z=>by rw [z,oz] at e;cases e) (ok.c.sub b o e)) ok.c.frz,var:=fun y j e=> ?_,has:=fun y j e=>(ok.has y j e).imp fun _ q=>q.keep kd,len:=by unfold setV;rw [List.length_set];exact ok.len,loz:=fun b q=>⟨(ok.loz b q).1,alive b (ok.loz b q).2⟩,own:=fun j b q=>have o:=ok.own j b q;⟨o.1,o.2.1,o.2.2.1,o.2.2.2.1,alive b o.2.2.2.2⟩,oinj:=ok.oinj,ns:=ok.ns.imp fun m q=>ns_keep q fun o e=>kd _ o (.inl rfl) e }
 rw [ZqF]
 by_cases z:i=j∧i < sl.length
 ·rw [if_pos z]
  obtain ⟨rfl,_⟩:=z
  exact ht y e fun q=>q.keep kd
 ·rw [if_neg z]
  have z:i≠j:=fun q=>z ⟨q,by rw [ok.len,q];exact ok.st.wf.lt y j e⟩
  exact (ok.var y j e).keep (fun _ _ e=>e) (fun q=>q.keep kd) fun b o hb e=>SameBut.get sb (fun q=>z (ok.oinj i j a ha (q ▸ hb))) e
theorem Go.of_but {a:Addr} {tk:Nat} (hs:Sub Z s.heap) (hz:Z a=none) (hw:W a) (sb:Heap.SameBut a s.heap h') (hn:∃o,h'.get? a=some o∧∀vs,o.data≠.fields vs):Go W Y Z s Z { s with heap:=h',toks:=tk }:=
 ⟨.of_but sb hw hn,fun _ _ e=>e,fun _ e=> .inl e,fun b o e=>SameBut.get sb (fun z=>by rw [z,hz] at e;cases e) (hs b o e),rfl⟩
theorem Go.mono (g:Go W' Y Z s Z' s') (n:∀b,W' b→W b∨s.heap.get? b=none):Go W Y Z s Z' s':=by
 have no:∀b o,s.heap.get? b=some o→¬W b→¬W' b:=fun b o e nw q=>(n b q).elim nw fun z=>by rw [z] at e;cases e
 exact ⟨⟨fun b o e nw m=>g.ks.keep b o e (no b o e nw) m,fun b o e nw m=>g.ks.fr b o e (no b o e nw) m,fun b o e w m nf=>by
  by_cases q:W' b
  ·exact g.ks.alive b o e q m nf
  ·obtain ⟨sl,e'⟩:=g.ks.fr b o e q m;exact ⟨_,e',nf⟩⟩,g.le,fun b q=>(g.new b q).imp id fun q=>q.elim (n b) .inr,g.sub,g.same⟩
structure IOk (Y:Cx) (env:Env) (oa:Nat→Option Addr) (tup:Bool) (I:Addr) (wr:List Addr) (ds:List D) (St:Nat→Heap→Prop) (i:Nat) (Z:Zm) (h:Heap):Prop where
 wk:∃Z₀,Wk Y tup I wr ds St Z₀∧Zle Z₀ Z
 st:St i h
 nz:∀b∈wr,Z b=none∧b∉fas Y.l∧¬Loc env b∧(∀j,oa j≠some b)∧Y.base.get? b=none
variable {tup:Bool} {I:Addr} {wr:List Addr} {ds:List D} {St:Nat→Heap→Prop} {i:Nat}
theorem IOk.alive (io:IOk Y env oa tup I wr ds St i Z h):∀b∈wr,(h.get? b).isSome=true:=io.wk.elim fun _ q=>q.1.alive i h io.st
theorem IOk.go (io:IOk Y env oa tup I wr ds St i Z s.heap) (hs:Sub Z s.heap) (g:Go W Y Z s Z' s') (hw:∀b∈wr,¬W b):IOk Y env oa tup I wr ds St i Z' s'.heap:=by
 obtain ⟨Z₀,wk,le⟩:=io.wk
 refine ⟨⟨Z₀,wk,fun b o e=>g.le b o (le b o e)⟩,wk.frame i _ _ io.st (fun b o e=>hs b o (le b o e)) (fun b o e=>g.sub b o (g.le b o (le b o e))) fun b hb o e=>g.ks.keep b o e (hw b hb) (io.nz b hb).2.1,fun b hb=>⟨?_,(io.nz b hb).2⟩⟩
 cases q:Z' b with
 | none=>rfl
 | some o=>
  rcases g.new b (by rw [q];exact nofun) with n | n | n
  ·exact absurd (io.nz b hb).1 n
  ·exact absurd n (hw b hb)
  ·have:=io.alive b hb;rw [n] at this;cases this
theorem Ok.wt (ok:Ok R Y env Z oa sl s.heap) (w:Wt wr Y Z s Z' s') (nz:∀b∈wr,b∉fas Y.l∧¬Loc env b∧(∀j,oa j≠some b)∧Y.base.get? b=none):Ok R Y env Z' oa sl s'.heap:=by
 have kd:∀b o,b∉wr→s.heap.get? b=some o→∃o',s'.heap.get? b=some o'∧o'.data=o.data:=fun b o nb e=>w.go.ks.stay e nb
 have nl:∀b,Loc env b→b∉wr:=fun b l m=>(nz b m).2.1 l
 have no:∀j a,oa j=some a→a∉wr:=fun j a h m=>(nz a m).2.2.1 j h
 have still:∀b,b∉wr→Z b=none→(s.heap.get? b).isSome=true→Z' b=none∧(s'.heap.get? b).isSome=true:=fun b nb z e=>by
  refine ⟨?_,?_⟩
  ·cases q:Z' b with
   | none=>rfl
   | some o=>
    rcases w.go.new b (by rw [q];exact nofun) with n | n | n
    ·exact absurd z n
    ·exact absurd n nb
    ·rw [n] at e;cases e
  ·cases q:s.heap.get? b with
   | none=>rw [q] at e;cases e
   | some o=>obtain ⟨o',e',_⟩:=kd b o nb q;rw [e'];rfl
 have kv:∀{y v},VarAt s.heap env y v→VarAt s'.heap env y v:=fun q=>q.keep fun b o l e=>kd b o (nl b l) e
 exact { ok with
  c:=ok.c.ks w.go.ks (fun b m=>(nz b m).2.2.2) w.go.le w.go.sub fun b hb=>(still b (fun m=>(nz b m).1 hb) (ok.c.frz b hb) (by obtain ⟨_,o,e,_⟩:=ZqA ok.c.below.frames b hb;rw [e];rfl)).1
  var:=fun y j e=>(ok.var y j e).keep w.go.le kv fun a o ha e=>w.go.ks.keep a o e (no j a ha) (ok.own j a ha).2.2.1
  has:=fun y j e=>(ok.has y j e).imp fun _ q=>kv q
  loz:=fun b q=>still b (nl b q) (ok.loz b q).1 (ok.loz b q).2
  own:=fun j a q=>have o:=ok.own j a q;have t:=still a (no j a q) o.1 o.2.2.2.2;⟨t.1,o.2.1,o.2.2.1,o.2.2.2.1,t.2⟩
  ns:=ok.ns.imp fun m q=>ns_keep q fun o e=>kd _ o (nl _ (.inl rfl)) e }
theorem ZrA {x:Value} {env env':Env} (h:env.frame=env'.frame):noteFrame x env=noteFrame x env':=by
 unfold noteFrame PySem.frameOf;rw [h]
theorem Zrc {M:Model} {e:Addr} {Q:Unit→Shared→Prop} (hfr:Y.A.frames=some Y.l) (fr:∃fenv outer L,Y.l=fenv::outer∧fenv.frame=some L∧env.frame=some L) (X:Exc Y.base Y.l e s.heap)
  (hQ:∀h',HeldL Y.base Y.l e h'→s.heap.UpToSlots h'→Q () { s with heap:=h' }):wpAny M Y.A (noteFrame (.ref e) env) Q E s:=by
 obtain ⟨fenv,outer,L,hl,hf,hf'⟩:=fr
 rw [ZrA (env':=fenv) (hf'.trans hf.symm)]
 rw [hl] at hfr X hQ
 exact ZsA hfr hf X fun h' H U=>hQ h' ⟨fenv,outer,rfl,H⟩ U
theorem Zri {msg:String} {M:Model} {e:Addr} {Q:Unit→Shared→Prop} (fr:∃fenv outer L,Y.l=fenv::outer∧fenv.frame=some L∧env.frame=some L) (X:HeldL Y.base Y.l e s.heap)
  (hQ:∀h',HeldL Y.base Y.l e h'→s.heap.UpToSlots h'→Q () { s with heap:=h' }) :
  wpAny M Y.A (do
          if (←field (.ref e) 1) == .none then unsupported msg
          setFlight (.ref e) env.frame) Q E s:=by
 obtain ⟨fenv,outer,L,hl,hf,hf'⟩:=fr
 rw [hl] at X hQ
 obtain ⟨fenv',outer',e1,H⟩:=X
 cases e1
 rw [hf'.trans hf.symm]
 exact Zsk H fun h' H U=>hQ h' ⟨fenv,outer,rfl,H⟩ U
theorem HeldL.exc {base:Heap} {l:List Env} {e:Addr} {h:Heap} (x:HeldL base l e h):Exc base l e h:=by obtain ⟨fenv,outer,rfl,H⟩:=x;exact H.exc
theorem Ex.up {x:Addr} (e:Ex W Y s x s') {h':Heap} (u:s'.heap.UpToSlots h') (X:Exc Y.base Y.l x h'):Ex W Y s x { s' with heap:=h' }:=
 ⟨fun b o q nw nf=>by obtain ⟨sl,q'⟩:=e.us b o q nw nf;obtain ⟨sl',q''⟩:=u b _ q' nf;exact ⟨sl',q''⟩,X,by rw [e.same]⟩
theorem ns_ex {a:Addr} {m:Str→Option Value} {x:Addr} (n:s.heap.Ns a m) (e:Ex W Y s x s') (nw:¬W a):s'.heap.Ns a m:=ns_keep n fun o q=>by
 obtain ⟨o₂,es,ep,ho,hd,_⟩:=n
 rw [ho] at q;cases q
 obtain ⟨sl,e'⟩:=e.us a _ ho nw (by rw [hd];exact nofun)
 exact ⟨_,e',rfl⟩
end
structure LOk (R:Rs) (Y:Cx) (env:Env) (oa:Nat→Option Addr) (Dd:Addr) (sl:List Slot) (acc:List D) (Z:Zm) (h:Heap):Prop where
 ok:Ok R Y env Z oa sl h
 oD:∃N,oa N=some Dd∧R.nl≤N
 bD:Y.base.get? Dd=none
 hB:Bs R Y env
 acc:∃vs n,h.get? Dd=some (lstO vs n)∧vs.length≤SZ∧Reps Y.P Z acc vs
noncomputable def LK (R:Rs) (Y:Cx) (env:Env) (oa:Nat→Option Addr) (Dd:Addr) (sl:List Slot) (W:Addr→Prop) (Rr:Result→Shared→Prop) (Z:Zm) (s:Shared) (o:Out (List D)):Prop:=match o with
 | .ok acc=>∀Z' s',LOk R Y env oa Dd sl acc Z' s'.heap→Go W Y Z s Z' s'→Rr (.ok .next) s'
 | .exc=>∀x s',Ex W Y s x s'→HeldL Y.base Y.l x s'.heap→(∃m,s'.heap.Ns env.locals m)→Rr (.error (.ref x)) s'
 | .stuck=>False
section
variable {R:Rs} {Y:Cx} {env:Env} {Z Z':Zm} {oa:Nat→Option Addr} {Dd:Addr} {sl sl':List Slot} {s s':Shared} {W W':Addr→Prop} {Rr:Result→Shared→Prop} {acc:List D} {h:Heap}
theorem LOk.own (lo:LOk R Y env oa Dd sl acc Z h):Z Dd=none∧True∧Dd∉fas Y.l∧¬Loc env Dd∧(h.get? Dd).isSome=true:=lo.oD.elim fun N q=>lo.ok.own N Dd q.1
theorem LOk.go (lo:LOk R Y env oa Dd sl acc Z s.heap) (g:Go W Y Z s Z' s') (hw:¬W Dd) (ok':Ok R Y env Z' oa sl' s'.heap):LOk R Y env oa Dd sl' acc Z' s'.heap:=
 ⟨ok',lo.oD,lo.bD,lo.hB,by obtain ⟨vs,n,e,z,q⟩:=lo.acc;exact ⟨vs,n,g.ks.keep _ _ e hw lo.own.2.2.1,z,q.up g.le⟩⟩
theorem LOk.nx (lo:LOk R Y env oa Dd sl acc Z s.heap) (g:Nx Y Z s Z' s'):LOk R Y env oa Dd sl acc Z' s'.heap:=lo.go g id (lo.ok.nx g)
theorem LK.go {o:Out (List D)} (k:LK R Y env oa Dd sl W Rr Z s o) (g:Go W' Y Z s Z' s') (n:∀b,W' b→W b∨s.heap.get? b=none):LK R Y env oa Dd sl W Rr Z' s' o:=by
 have g':Go W Y Z s Z' s':=g.mono n
 cases o with
 | ok acc=>exact fun Z₂ s₂ lo y=>k Z₂ s₂ lo (g'.trans y fun b q=> .inl q)
 | exc=>exact fun x s₂ e hx hn=>k x s₂ (g'.ex e fun b q=> .inl q) hx hn
 | stuck=>exact k
abbrev LE (Y:Cx) (env:Env) (Rr:Result→Shared→Prop):Value→Shared→Prop:=notedBy Y.M Y.A env fun e s'=>Rr (.error e) s'
theorem LK.post (st:Stat R Y env) (hfr:Y.A.frames=some Y.l):Post Y (LE Y env Rr) (fun Z s o=>(∃m,s.heap.Ns env.locals m)∧LK R Y env oa Dd sl W Rr Z s o) where
 step:=fun k g=>⟨k.1.imp fun m q=>ns_keep q fun o e=>g.ks.stay e id,k.2.go g fun _ q=>q.elim⟩
 exc:=fun {Z s} k x s' e=>Zrc hfr st.fr e.exc fun h' H u=>k.2 x _ (Ex.up ⟨fun b o q _ nf=>e.us b o q id nf,e.exc,e.same⟩ u H.exc) H (k.1.imp fun m q=>ns_ex q (e.up u H.exc) id)
 stuck:=fun k=>k.2
theorem Zsg {v:Value} {d:D} {Q:Value→Shared→Prop} {E:Value→Shared→Prop} (lo:LOk R Y env oa Dd sl acc Z s.heap) (rv:Rep Y.P Z d v) (hz:acc.length < SZ)
  (hQ:∀s',LOk R Y env oa Dd sl (acc ++ [d]) Z s'.heap→Go (· = Dd) Y Z s Z s'→Q .none s'):wpAny Y.M Y.A (PySem.call (.builtin "list.append") [.ref Dd,v]) Q E s:=by
 obtain ⟨vs,n,e,z,q⟩:=lo.acc
 obtain ⟨N,hN,hle⟩:=lo.oD
 refine wpAny_list_append_plain (items:=vs.toArray) (hsz:=by rw [List.size_toArray];exact Nat.le_trans z Zqr) ⟨n,e⟩ fun h' hl sb=> ?_
 obtain ⟨n',e'⟩:=hl
 rw [List.push_toArray] at e'
 have hn:∃o,h'.get? Dd=some o∧∀vs,o.data≠.fields vs:=⟨_,e',fun vs q=>nomatch q⟩
 have ok':=lo.ok.chg (t:= .un) hN lo.bD sb hn fun x hx _=>trivial
 rw [show setV sl N .un=sl from List.set_eq_of_length_le (by rw [lo.ok.len];exact hle)] at ok'
 exact hQ { s with heap:=h' } ⟨ok',lo.oD,lo.bD,lo.hB,vs ++ [v],n',e',by rw [List.length_append,q.length];exact hz,q.append (.cons rv rfl)⟩ (.of_but (tk:=s.toks) lo.ok.c.sub lo.own.1 rfl sb hn)
theorem Ok.forget (ok:Ok R Y env Z oa sl' h) (hl:sl'.length=sl.length) (hs:∀j:Nat,sl[j]?=sl'[j]?∨sl[j]?=some Slot.un∨sl[j]?=none):Ok R Y env Z oa sl h:=
 {
  ok with
  len:=hl.symm.trans ok.len
  var:=fun x i e=>by
   rcases hs i with q | q | q
   ·rw [q];exact ok.var x i e
   ·rw [q];trivial
   ·rw [q];trivial }
end
abbrev testsOf (ifs:List Expr) (env:Env):Sem Bool:=
 forIn ifs true fun c r=>if r=true then do let ok ←isTrue c env (eval c env);pure (ForInStep.yield ok) else pure (ForInStep.yield r)
def STs (R:Rs) (es:List Expr) (c:Cs):Prop:=∀{Y:Cx} {env:Env} {Z:Zm} {oa:Nat→Option Addr} {sl:List Slot} {s:Shared} {Q:Bool→Shared→Prop} {E:Value→Shared→Prop},
 Ok R Y env Z oa sl s.heap→K Y Z Same (Y.tsts c sl) Q E s→wpAny Y.M Y.A (testsOf es env) Q E s
theorem Zst {M:Model} {A:Around} {E:Value→Shared→Prop} {s:Shared} {env:Env} {Q:Bool→Shared→Prop} (h:Q false s) (es:List Expr) :
  wpAny M A (forIn es false fun c r=>if r=true then do let ok ←isTrue c env (eval c env);pure (ForInStep.yield ok) else pure (ForInStep.yield r)) Q E s:=by
 induction es with
 | nil=>exact wpAny_pure h
 | cons e es ih=>rw [List.forIn_cons];exact wpAny_bind (wpAny_pure ih)
theorem STs.nil {R:Rs}:STs R [] .nil:=fun ok k=>wpAny_pure (K.okS (d:=true) k ok.c.sub rfl)
theorem STs.cons {R:Rs} {e:Expr} {es:List Expr} {c:C} {cs:Cs} (h:ST R e c) (hs:STs R es cs):STs R (e::es) (.cons c cs):=by
 intro Y env Z oa sl s Q E ok k
 show wpAny _ Y.A (forIn (e::es) true _) Q E s
 rw [List.forIn_cons]
 refine wpAny_bind (wpAny_bind (h ok (K.bind k fun b t Z₁ s₁ g rb k=>wpAny_pure ?_)))
 cases rb
 cases b with
 | true=>exact hs (ok.nx g) k
 | false=>exact Zst (K.okS (d:=false) k g.sub rfl) es
end DK.Internal
end
section
set_option backward.match.sparseCases false
set_option genSizeOf false
set_option genCtorIdx false
namespace DK.Internal
open PySem PyProof.Rows
noncomputable def restLast (e:Expr) (k:Nat) (elt:Expr) (it acc:Value) (env:Env) (ok:Bool):Sem Fin:=
 if ok=true then (eval elt env>>=fun x=>PySem.call (.builtin "list.append") [acc,x]>>=fun _=>pure PUnit.unit)>>=fun _=>again (.compLoop e k it acc env) else again (.compLoop e k it acc env)
noncomputable def lastTail (e:Expr) (k:Nat) (t elt:Expr) (ifs:List Expr) (it acc:Value) (env:Env) (v:Value):Sem Fin:=assign t env v>>=fun _=>testsOf ifs env>>=restLast e k elt it acc env
noncomputable def turnForm (p:Pos) (t:Expr) (it:Value) (tail:Value→Sem Fin):Sem Fin:=do
 standAt p
 match ←pyNext it with
 | none=>pure (.done .next)
 | some v=>
  letOwnedTupleGo t it v
  tail v
theorem ZtN (elt t it0:Expr) (ifs:List Expr) (sc:Scope) (pos:Pos) (it acc:Value) (env:Env) :
  compTurn (.ListComp elt [⟨t,it0,ifs,0⟩] sc pos) 0 it acc env=turnForm it0.pos t it (lastTail (.ListComp elt [⟨t,it0,ifs,0⟩] sc pos) 0 t elt ifs it acc env):=by rfl
section
variable {R:Rs} {Y:Cx} {env:Env} {Z:Zm} {oa:Nat→Option Addr} {Dd:Addr} {sl:List Slot} {s:Shared} {W:Addr→Prop} {Rr:Result→Shared→Prop} {tup:Bool} {I:Addr} {wr:List Addr} {ds:List D} {St:Nat→Heap→Prop}
abbrev turnPost (Y:Cx) (Rr:Result→Shared→Prop) (fin:Fin) (s':Shared):Prop:=
 match fin with
 | .done f=>Rr (.ok f) s'
 | .again c'=>c'.quiet=true∧codeAny Y.M Y.A c' Rr s'
structure Wd (R:Rs) (env:Env) (Dd:Addr) (wr:List Addr) (W:Addr→Prop):Prop where
 d:W Dd
 w:∀b∈wr,W b
 h:∀b,Homes R env b→W b
theorem Zqu {b:Addr} (h:Homes R env b):Loc env b:=by obtain ⟨x,i,_,hm⟩:=h;exact ZqO hm
theorem Ztt {p:Pos} {t:Expr} {tg:Tgt} {ifs:List Expr} {cifs:Cs} {rest:Bool→Sem Fin} {i:Nat} {acc:List D} {d:D} {f:List Slot→Bool→Out (List D)}
  (ht:Tg R t tg) (hts:STs R ifs cifs) (htup:tup=true→isTup t=true) (wd:Wd R env Dd wr W) (lo:LOk R Y env oa Dd sl acc Z s.heap) (io:IOk Y env oa tup I wr ds St i Z s.heap) (hd:ds[i]?=some d)
  (k:LK R Y env oa Dd sl W Rr Z s (bindT sl tg d>>=fun sl'=>Y.tsts cifs sl'>>=f sl'))
  (hQ:∀sl' b Z' s',bindT sl tg d = .ok sl'→LOk R Y env oa Dd sl' acc Z' s'.heap→IOk Y env oa tup I wr ds St (i+1) Z' s'.heap→LK R Y env oa Dd sl W Rr Z' s' (f sl' b)→wpAny Y.M Y.A (rest b) (turnPost Y Rr) (LE Y env Rr) s') :
  wpAny Y.M Y.A (turnForm p t (.ref I) fun v=>assign t env v>>=fun _=>testsOf ifs env>>=rest) (turnPost Y Rr) (LE Y env Rr) s:=by
 obtain ⟨Z₀,wk,le⟩:=io.wk
 unfold turnForm
 refine wpAny_bind (wpAny_standAt (wpAny_bind (wpAny_mono (wk.item (G:=fun v s₂=>wpAny Y.M Y.A (assign t env v>>=fun _=>testsOf ifs env>>=rest) (turnPost Y Rr) (LE Y env Rr) s₂) t htup hd io.st le lo.ok.c.sub (fun b hb=>⟨(io.nz b hb).1,(io.nz b hb).2.1⟩) (fun v Z₁ s₁ st1 w rv=> ?_)) (fun x s₁ hx=> ?_) fun _ _ q=>q)))
 rotate_left
 ·obtain ⟨v,rfl,hx⟩:=hx
  exact wpAny_bind hx
 have ok1:=lo.ok.wt w fun b hb=>(io.nz b hb).2
 have lo1:LOk R Y env oa Dd sl acc Z₁ s₁.heap:=lo.go w.go (fun q=>lo.oD.elim fun N e=>(io.nz _ q).2.2.2.1 N e.1) ok1
 have io1:IOk Y env oa tup I wr ds St (i+1) Z₁ s₁.heap:=⟨⟨Z₀,wk,fun b o e=>w.go.le b o (le b o e)⟩,st1,fun b hb=>⟨w.nz b hb,(io.nz b hb).2⟩⟩
 replace k:=k.go w.go fun b q=> .inl (wd.w b q)
 cases hb:bindT sl tg d with
 | exc=>exact absurd hb (Zrt _ _ _)
 | stuck=>rw [hb] at k;exact False.elim k
 | ok sl1=>
  rw [hb] at k
  refine wpAny_bind (ZqZ lo.hB ht lo1.ok rv hb fun s₂ ok2 g2=> ?_)
  have lo2:=lo1.go g2 (fun q=>lo1.own.2.2.2.1 (Zqu q)) ok2
  have io2:=io1.go lo1.ok.c.sub g2 fun b hb q=>(io.nz b hb).2.2.1 (Zqu q)
  refine wpAny_bind (hts lo2.ok ((LK.post lo.ok.st lo.ok.c.below.stack).bind ⟨lo2.ok.ns,LK.go (o:=Y.tsts cifs sl1>>=f sl1) k g2 fun b q=> .inl (wd.h b q)⟩ fun b t Z₃ s₃ g rb k=> ?_))
  cases rb
  exact hQ sl1 b Z₃ s₃ hb (lo2.nx g) (io2.go g2.sub g fun _ _ q=>q) k.2
theorem ZtO {p:Pos} {t:Expr} {tail:Value→Sem Fin} {acc:List D} {E:Value→Shared→Prop} (wd:Wd R env Dd wr W) (lo:LOk R Y env oa Dd sl acc Z s.heap) (io:IOk Y env oa tup I wr ds St ds.length Z s.heap) (k:LK R Y env oa Dd sl W Rr Z s (.ok acc)) :
  wpAny Y.M Y.A (turnForm p t (.ref I) tail) (turnPost Y Rr) E s:=by
 obtain ⟨Z₀,wk,le⟩:=io.wk
 unfold turnForm
 refine wpAny_bind (wpAny_standAt (wpAny_bind (wk.done io.st lo.ok.c.sub (fun b hb=>⟨(io.nz b hb).1,(io.nz b hb).2.1⟩) fun s₁ w=>wpAny_pure (k Z s₁ ?_ (w.go.mono fun b q=> .inl (wd.w b q))))))
 exact lo.go w.go (fun q=>lo.oD.elim fun N e=>(io.nz _ q).2.2.2.1 N e.1) (lo.ok.wt w fun b hb=>(io.nz b hb).2)
theorem Zsh {α:Type} {l r:List α} {i:Nat} {d:α} (h:l.drop i=d::r):l[i]?=some d∧l.drop (i+1)=r∧i < l.length:=by
 have hlt:i < l.length:=by
  rcases Nat.lt_or_ge i l.length with q | q
  ·exact q
  ·rw [List.drop_eq_nil_of_le q] at h;cases h
 rw [List.drop_eq_getElem_cons hlt] at h
 cases h
 exact ⟨List.getElem?_eq_getElem hlt,rfl,hlt⟩
theorem drop_nil {α:Type} {l:List α} {i:Nat} (h:l.drop i = []) (hi:i≤l.length):i=l.length:=Nat.le_antisymm hi (List.drop_eq_nil_iff.mp h)
theorem LOk.back {tg:Tgt} {d:D} {sl':List Slot} {acc:List D} {h:Heap} (lo:LOk R Y env oa Dd sl' acc Z h) (hb:bindT sl tg d = .ok sl') (hun:∀j∈tg.idx,sl[j]?=some .un∨sl[j]?=none):LOk R Y env oa Dd sl acc Z h:=by
 obtain ⟨h1,h2⟩:=Zru hb
 refine { lo with ok:=lo.ok.forget h1 fun j=> ?_ }
 by_cases m:j∈tg.idx
 ·exact .inr (hun j m)
 ·exact .inl (h2 j m).symm
noncomputable def stepLast (Y:Cx) (cifs:Cs) (celt:C) (tg:Tgt) (sl:List Slot) (acc:List D) (d:D) (k:List D→Out (List D)):Out (List D):=bindT sl tg d>>=fun sl'=>Y.tsts cifs sl'>>=fun b=>
 ifO b (Y.ex celt sl'>>=fun y=>need (acc.length < SZ) (k (acc ++ [y]))) (k acc)
theorem Ztu {gens:List Comprehension} {sc:Scope} {epos:Pos} {kk:Nat} {p:Pos} {t elt:Expr} {ifs:List Expr} {tg:Tgt} {cifs:Cs} {celt:C}
  (hq:∀it acc env,compTurn (.ListComp elt gens sc epos) kk it acc env=turnForm p t it (lastTail (.ListComp elt gens sc epos) kk t elt ifs it acc env)) (ht:Tg R t tg) (hts:STs R ifs cifs) (hel:SE R elt celt) (htup:tup=true→isTup t=true)
  (hun:∀j∈tg.idx,sl[j]?=some .un∨sl[j]?=none) (wd:Wd R env Dd wr W) (rest:List D):∀(i:Nat) (Z:Zm) (s:Shared) (acc:List D),ds.drop i=rest→LOk R Y env oa Dd sl acc Z s.heap→IOk Y env oa tup I wr ds St i Z s.heap→i≤ds.length →
   LK R Y env oa Dd sl W Rr Z s (compE (stepLast Y cifs celt tg sl) rest acc)→codeAny Y.M Y.A (.compLoop (.ListComp elt gens sc epos) kk (.ref I) (.ref Dd) env) Rr s:=by
 have start:∀{s},wpAny Y.M Y.A (compTurn (.ListComp elt gens sc epos) kk (.ref I) (.ref Dd) env) (turnPost Y Rr) (LE Y env Rr) s→codeAny Y.M Y.A (.compLoop (.ListComp elt gens sc epos) kk (.ref I) (.ref Dd) env) Rr s:=fun h=>codeAny_of_tree (wpAny_noted h)
 induction rest with
 | nil=>
  intro i Z s acc hn lo io hi k
  cases drop_nil hn hi
  refine start ?_
  rw [hq]
  exact ZtO wd lo io k
 | cons d rest ih=>
  intro i Z s acc hn lo io hi k
  obtain ⟨hd,hr,hlt⟩:=Zsh hn
  refine start ?_
  rw [hq]
  refine Ztt (rest:=restLast _ _ _ _ _ _) ht hts htup wd lo io hd k fun sl1 b Z₁ s₁ hb lo1 io1 k=> ?_
  ·cases b with
   | false=>exact wpAny_pure ⟨rfl,ih (i+1) Z₁ s₁ acc hr (lo1.back hb hun) io1 hlt k⟩
   | true=>
    refine wpAny_bind (wpAny_bind (hel lo1.ok ((LK.post lo.ok.st lo.ok.c.below.stack).bind ⟨lo1.ok.ns,k⟩ fun y v Z₂ s₂ g rv k=> ?_)))
    by_cases hz:acc.length < SZ
    ·have k:=k.2
     rw [show need (acc.length < SZ) (compE (stepLast Y cifs celt tg sl) rest (acc ++ [y]))=_ from if_pos hz] at k
     refine wpAny_bind (Zsg (lo1.nx g) rv hz fun s₃ lo3 g3=>wpAny_pure (wpAny_pure ⟨rfl,ih (i+1) Z₂ s₃ (acc ++ [y]) hr (lo3.back hb hun) ((io1.go lo1.ok.c.sub g fun _ _ q=>q).go g.sub g3 fun b hb q=>lo.oD.elim fun N e=>(io1.nz b hb).2.2.2.1 N (q ▸ e.1)) hlt (k.go g3 fun b q=> .inl (q ▸ wd.d))⟩))
    ·have k:=k.2
     rw [show need (acc.length < SZ) (compE (stepLast Y cifs celt tg sl) rest (acc ++ [y]))=_ from if_neg hz] at k
     exact False.elim k
end
end DK.Internal
end
section
set_option backward.match.sparseCases false
set_option genSizeOf false
set_option genCtorIdx false
namespace DK.Internal
open PySem PyProof.Rows
section
variable {M:Model} {A:Around} {E:Value→Shared→Prop} {s:Shared} {env:Env}
noncomputable def compPost' (M:Model) (A:Around) (E:Value→Shared→Prop) (use:Option (Value→Sem Unit)) (Q:Value→Shared→Prop) (acc:Value) (cenv:Env) (r:Result) (s':Shared):Prop:=
 match r,use with
 | .ok _,none=>∃m,s'.heap.Ns cenv.locals m∧∀h',Heap.SameBut cenv.locals s'.heap h'→Q acc { s' with heap:=h' }
 | .ok _,some u=>wpAny M A (u acc) (fun _ s''=>∃m,s''.heap.Ns cenv.locals m∧∀h',Heap.SameBut cenv.locals s''.heap h'→Q .none { s'' with heap:=h' }) E s'
 | .error x,_=>∃m,s'.heap.Ns cenv.locals m∧∀h' m',h'.Ns cenv.locals m'→Heap.SameBut cenv.locals s'.heap h'→wpAny M A (passOn "comprehension.variables-let-go" x cenv:Sem Value) (fun _ _=>False) E { s' with heap:=h' }
theorem Ztv {e:Expr} {scope:Scope} {pos:Pos} {newAcc first:Sem Value} {g:Comprehension} {gs:List Comprehension} {cl:List (Str × Addr)} {use:Option (Value→Sem Unit)}
  {Q:Value→Shared→Prop}
  (hcl:clausesOf e=g::gs) (hs:∀x,foldedSetIterable g.iter env x=pure x) (hclos:closureFor scope env=pure cl)
  (hkind:scope.kind = .function) (hnames:∀x∈scope.names,x.2 = .local→scope.names.lookup x.1=some .local)
  (h:wpAny M A first (fun x s₁=>wpAny M A (pyIter x) (fun it s₂=>wpAny M A newAcc (fun acc s₃=>
   wpAny M A (newFunctionEnv scope env.globals cl [] env.qual none .none (some env)) (fun cenv s₄=>
    codeAny M A (.compStart e 0 it acc { cenv with scope:=relabel scope env }) (compPost' M A E use Q acc { cenv with scope:=relabel scope env }) s₄) E s₃) E s₂) E s₁) E s) :
  wpAny M A (comprehension e scope env pos newAcc false first use) Q E s:=by
 unfold comprehension
 rw [hclos,hcl]
 refine wpAny_bind (wpAny_mono h (fun x s₁ h₁=>wpAny_bind (wpAny_standAt (wpAny_bind (wpAny_of_eq (hs x) (wpAny_bind (wpAny_holding (wpAny_mono h₁ (fun it s₂ h₂=>
  wpAny_standIf (wpAny_bind (wpAny_mono h₂ (fun acc s₃ h₃=>wpAny_bind (wpAny_pure (wpAny_bind (wpAny_mono h₃ (fun cenv s₄ h₄=> ?_) fun _ _ h'=>h')))) fun _ _ h'=>h')))
   fun _ _ h'=>h'))))))) fun _ _ h'=>h')
 dsimp only
 have hv:∀x∈(scope.names.filter fun x=>(x.2 == .local || x.2 == .cell) && x.1 != (".0" : Str)).reverse,x.2 = .local →
   Env.kindOf { cenv with scope:=relabel scope env } x.1=some .local:=fun x hx hl=>lookup_relabel_local (hnames x (List.mem_filter.mp (List.mem_reverse.mp hx)).1 hl)
 have hv':∀x∈(scope.names.filter fun x=>(x.2 == .local || x.2 == .cell) && x.1 != (".0" : Str)).reverse.drop 1++(scope.names.filter fun x=>(x.2 == .local || x.2 == .cell) && x.1 != (".0" : Str)).reverse.take 1,
   x.2 = .local→Env.kindOf { cenv with scope:=relabel scope env } x.1=some .local:=fun x hx hl=>by
  rcases List.mem_append.mp hx with h1 | h1
  ·exact hv x (List.mem_of_mem_drop h1) hl
  ·exact hv x (List.mem_of_mem_take h1) hl
 refine wpAny_holding (wpAny_bind (wpAny_attempt (wpAny_holding (wpAny_run (codeAny_mono h₄ fun r s' hr=> ?_)))))
 cases r with
 | ok f=>
  cases use with
  | none=>
   obtain ⟨m,hn,hr⟩:=hr
   exact wpAny_bind (wpAny_holding (wpAny_comp_letGo (cenv:={ cenv with scope:=relabel scope env }) hkind _ s' m hv hn fun h' m' _ hs'=>wpAny_pure (hr h' hs')))
  | some u=>
   refine wpAny_bind (wpAny_rule (wpAny_bind (wpAny_holding (wpAny_mono hr (fun _ s'' hr'=> ?_) fun _ _ h'=>h'))))
   obtain ⟨m,hn,hr'⟩:=hr'
   exact wpAny_bind (wpAny_comp_letGo (cenv:={ cenv with scope:=relabel scope env }) hkind _ s'' m hv' hn fun h' m' _ hs'=>wpAny_pure (hr' h' hs'))
 | error x=>
  have hr':∃m,s'.heap.Ns cenv.locals m∧∀h' m',h'.Ns cenv.locals m'→Heap.SameBut cenv.locals s'.heap h'→wpAny M A (passOn "comprehension.variables-let-go" x { cenv with scope:=relabel scope env }:Sem Value) (fun _ _=>False) E { s' with heap:=h' }:=by cases use<;>exact hr
  obtain ⟨m,hn,hr⟩:=hr'
  exact wpAny_bind (wpAny_holding (wpAny_comp_letGo (cenv:={ cenv with scope:=relabel scope env }) hkind _ s' m hv hn fun h' m' hn' hs'=>wpAny_mono (hr h' m' hn' hs') (fun _ _ f=>f.elim) fun _ _ y=>y))
theorem ZtP {α:Type} {M:Model} {Q:α→Shared→Prop} {x:Value} (h:E x s):wpAny M A (throw x:Sem α) Q E s:=wpAny_throw h
noncomputable def flightPart (msg:String) (x:Value) (env:Env):Sem Unit:=do
 if (←field x 1) == .none then unsupported msg
 setFlight x env.frame
theorem Zui {α:Type} {M:Model} {Q:α→Shared→Prop} {x:Value} {what:String} (h:wpAny M A (flightPart (what ++ ":exception-without-traceback") x env) (fun _ s₂=>wpAny M A (throw x:Sem α) Q E s₂) E s) :
  wpAny M A (PySem.passOn what x env:Sem α) Q E s:=by
 have e:(PySem.passOn what x env:Sem α)=(flightPart (what ++ ":exception-without-traceback") x env>>=fun _=>throw x):=by
  unfold PySem.passOn flightPart
  simp only [bind_assoc]
  congr 1;funext y
  split<;>simp [bind_assoc]<;>rfl
 rw [e]
 exact wpAny_bind h
end
section
variable {R:Rs} {Y:Cx} {env:Env} {Z:Zm} {oa:Nat→Option Addr} {Dd:Addr} {sl:List Slot} {s:Shared} {W:Addr→Prop} {Rr:Result→Shared→Prop} {tup:Bool} {I:Addr} {wr:List Addr} {ds:List D} {St:Nat→Heap→Prop}
theorem Zsu {elt:Expr} {gens:List Comprehension} {sc:Scope} {pos:Pos} {kk:Nat} {acc:Value} {g:Comprehension} {i:Nat} (hg:gens[kk]?=some g) (ha:g.is_async=0) (io:IOk Y env oa tup I wr ds St i Z s.heap)
  (h0:codeAny Y.M Y.A (.compLoop (.ListComp elt gens sc pos) kk (.ref I) acc env) Rr s):codeAny Y.M Y.A (.compStart (.ListComp elt gens sc pos) kk (.ref I) acc env) Rr s:=by
 refine codeAny_of_tree ?_
 show wpAny _ _ ((compStart (.ListComp elt gens sc pos) kk (.ref I) acc env).onRaise (fun x=>do noteFrame x env;standAt theWindowsPlace)) _ _ s
 refine wpAny_notedAt ?_
 unfold compStart
 rw [show (clausesOf (.ListComp elt gens sc pos))[kk]?=some g from hg,show (Option.some g).elim false (fun x=>x.is_async != 0)=false by simp [ha],if_neg Bool.false_ne_true]
 refine wpAny_bind (wpAny_askSetting (wpAny_ite ?_))
 obtain ⟨Z₀,wk,_⟩:=io.wk
 split
 ·exact wpAny_pure (And.intro rfl h0)
 ·exact wpAny_bind (wpAny_rule (wpAny_bind (wpAny_standAt (wpAny_bind (wk.self io.st (wpAny_pure (And.intro rfl h0)))))))
theorem Post.bindI {γ:Type} {T:Zm→Shared→Out γ→Prop} {E:Value→Shared→Prop} {Q:Value→Shared→Prop} {o:Out (List D)} {f:List D→Out γ} (p:Post Y E T) (k:T Z s (o>>=f)) (g:∀ds I wr St Z' s',o = .ok ds→Nx Y Z s Z' s'→It0 Y tup I wr ds St Z' s.heap s'.heap→Q (.ref I) s'):KI Y tup Q E Z s o:=by
 cases o with
 | ok ds=>exact fun I wr St Z' s' x i=>g ds I wr St Z' s' rfl x i
 | exc=>exact p.exc k
 | stuck=>exact p.stuck k
theorem Ok.fresh (ok:Ok R Y env Z oa sl s.heap) {b:Addr} (h:s.heap.get? b=none):Z b=none∧b∉fas Y.l∧¬Loc env b∧(∀j,oa j≠some b)∧Y.base.get? b=none:=by
 have no:(s.heap.get? b).isSome=true→False:=fun e=>by rw [h] at e;cases e
 refine ⟨ok.c.sub.fresh h,fun m=> ?_,fun l=>no (ok.loz b l).2,fun j e=>no (ok.own j b e).2.2.2.2,?_⟩
 ·obtain ⟨_,o,e,_⟩:=ZqA ok.c.below.frames b m;rw [h] at e;cases e
 ·cases e:Y.base.get? b with
  | none=>rfl
  | some o=>rw [ok.c.below.stays b o e] at h;cases h
theorem It0.iok {Z':Zm} {s':Shared} (i:It0 Y tup I wr ds St Z' s.heap s'.heap) (ok:Ok R Y env Z oa sl s.heap):IOk Y env oa tup I wr ds St 0 Z' s'.heap:=
 ⟨⟨Z',i.wk,fun _ _ e=>e⟩,i.st,fun b hb=>⟨(i.new b hb).2,(ok.fresh (i.new b hb).1).2⟩⟩
end
end DK.Internal
end
section
set_option backward.match.sparseCases false
set_option genSizeOf false
set_option genCtorIdx false
namespace DK.Internal
open PySem PyProof.Rows
theorem HeldL.but {base h h':Heap} {l:List Env} {e C:Addr} {m:Str→Option Value} (x:HeldL base l e h) (n:h.Ns C m) (sb:Heap.SameBut C h h') (hb:base.get? C=none) (hl:C∉fas l):HeldL base l e h':=by
 obtain ⟨fenv,outer,rfl,a0,L,hf,k1,k2,k3,oe,vs,T,oT,ts,he,hh,hd,h1,hnT,hTe,hT,hdT,h3⟩:=x
 obtain ⟨o,es,ep,ho,hod,_⟩:=n
 have ne:∀{b:Addr} {o':Obj} {vs:Array Value},h.get? b=some o'→o'.data = .fields vs→b≠C:=fun e1 e2 q=>by rw [q,ho] at e1;cases e1;rw [hod] at e2;cases e2
 exact ⟨fenv,outer,rfl,a0,L,hf,fun b o' q=>SameBut.get sb (fun z=>by rw [z,hb] at q;cases q) (k1 b o' q),k2,ZqK (fun b hb' o' q nf=>⟨(ZqA k3 b hb').1,o',SameBut.get sb (fun z=>hl (z ▸ hb')) q,nf⟩) k3,
  oe,vs,T,oT,ts,SameBut.get sb (ne he hd) he,hh,hd,h1,hnT,hTe,SameBut.get sb (ne hT hdT) hT,hdT,h3⟩
structure CEnd (Y:Cx) (Z:Zm) (s:Shared) (xs:List D) (Dd C:Addr) (Z':Zm) (s':Shared):Prop where
 nx:Nx Y Z s Z' s'
 fD:s.heap.get? Dd=none
 fC:s.heap.get? C=none
 ne:Dd≠C
 zD:Z' Dd=none
 zC:Z' C=none
 ns:∃m,s'.heap.Ns C m
 acc:∃vs n,s'.heap.get? Dd=some (lstO vs n)∧vs.length≤SZ∧Reps Y.P Z' xs vs
noncomputable def KC (Y:Cx) (sc:Scope) (env:Env) (use:Option (Value→Sem Unit)) (Q:Value→Shared→Prop) (E:Value→Shared→Prop) (Z:Zm) (s:Shared) (o:Out (List D)):Prop:=match o with
 | .ok xs=>∀Dd C Z' s',CEnd Y Z s xs Dd C Z' s'→compPost' Y.M Y.A E use Q (.ref Dd) (cenvOf sc env C) (.ok .next) s'
 | .exc=>∀x s',Ex No Y s x s'→E (.ref x) s'
 | .stuck=>False
section
variable {R:Rs} {Y:Cx} {env:Env} {Z:Zm} {oa:Nat→Option Addr} {sl:List Slot} {s:Shared} {Q:Value→Shared→Prop} {E:Value→Shared→Prop} {sc:Scope} {use:Option (Value→Sem Unit)}
theorem KC.post:Post Y E (KC Y sc env use Q E) where
 step:=fun {Z s Z' s' o} k g=>by
  cases o with
  | ok xs=>exact fun Dd C Z₂ s₂ c=>k Dd C Z₂ s₂ { c with nx:=g.nx c.nx,fD:=(g.ks.gone c.fD).resolve_left id,fC:=(g.ks.gone c.fC).resolve_left id }
  | exc=>exact fun x s₂ e=>k x s₂ (g.ex e fun _ q=>q.elim)
  | stuck=>exact k
 exc:=fun k=>k
 stuck:=fun k=>k
theorem Zuj {elt:Expr} {g:Comprehension} {gs:List Comprehension} {epos pos:Pos} {it:It} {lp:List D→Out (List D)} (hsc:okScope R sc=true) (hset:notSet g.iter=true) (hi:SI R g.iter it) (ok:Ok R Y env Z oa sl s.heap)
  (body:∀{oa' Dd C I wr ds St Z₄ s₄ Rr},LOk (R.inner sc) Y (cenvOf sc env C) oa' Dd (sl++List.replicate (numbered R.nl sc.names).length .un) [] Z₄ s₄.heap→IOk Y (cenvOf sc env C) oa' it.isEnum I wr ds St 0 Z₄ s₄.heap→Wd (R.inner sc) (cenvOf sc env C) Dd wr (fun b=>b=Dd∨b∈wr∨b=C) →
   LK (R.inner sc) Y (cenvOf sc env C) oa' Dd (sl++List.replicate (numbered R.nl sc.names).length .un) (fun b=>b=Dd∨b∈wr∨b=C) Rr Z₄ s₄ (lp ds) →
   codeAny Y.M Y.A (.compStart (.ListComp elt (g::gs) sc epos) 0 (.ref I) (.ref Dd) (cenvOf sc env C)) Rr s₄)
  (k:KC Y sc env use Q E Z s (Y.items it sl>>=lp)):wpAny Y.M Y.A (comprehension (.ListComp elt (g::gs) sc epos) sc env pos (newList []) false (eval g.iter env) use) Q E s:=by
 obtain ⟨hkind,hn⟩:=ZqD hsc
 refine Ztv rfl (fun x=>Zrg hset x) (Zrb fun n hn' hf=>(ok.st.ck n.1 ((hn n hn').2.2 hf).2.1).2) hkind (fun x hx hl=>(hn x hx).2.1 hl) (hi ok (KC.post.bindI k fun ds I wr St Z₁ s₁ e1 g1 hit=> ?_))
 rw [e1] at k
 refine wpAny_newObj_type (wpAny_newFunctionEnv (fun x hx=>(hn x hx).1) (fun y hy=>nomatch hy) (fun h3 hns hsb=> ?_) hkind)
 have hz:(s₁.heap.push { cls:= .type "list",data:= .seq ([]:List Value).toArray }).objs.size=s₁.heap.objs.size+1:=Heap.size_push ..
 generalize hH2:s₁.heap.push { cls:= .type "list",dict:=none,data:= .seq ([]:List Value).toArray }=h2 at hns hsb hz
 have keep3:∀b o,h2.get? b=some o→h3.get? b=some o:=fun b o e=>hsb.extBut b o (Nat.ne_of_lt (Heap.lt_size e)) (Heap.get?_push_of_some _ e)
 have hD3:h3.get? s₁.heap.objs.size=some (lstO [] 0):=keep3 _ _ (hH2 ▸ Heap.get?_push_size _ rfl)
 have keep:∀b o,s₁.heap.get? b=some o→h3.get? b=some o:=fun b o e=>keep3 b o (hH2 ▸ Heap.get?_push_of_some _ e)
 have hCns:h3.Ns h2.objs.size (fun x=>([]:List (Str × Value)).reverse.lookup x):=hns
 rw [hz] at hCns ⊢
 generalize hD:s₁.heap.objs.size=Dd at hD3 hCns ⊢
 have f1D:s₁.heap.get? Dd=none:=Heap.get?_none_of_le (Nat.le_of_eq hD)
 have f1C:s₁.heap.get? (Dd+1)=none:=Heap.get?_none_of_le (by rw [hD];exact Nat.le_succ _)
 have g2:∀tk,Nx Y Z₁ s₁ Z₁ { s₁ with heap:=h3,toks:=tk }:=fun tk=> .keeps g1.sub keep tk
 have fD:=(g1.ks.gone f1D).resolve_left id
 have fC:=(g1.ks.gone f1C).resolve_left id
 have ok1:=ok.nx g1
 have freD:=ok1.fresh f1D
 have freC:=ok1.fresh f1C
 have loc:∀{b},Loc (cenvOf sc env (Dd+1)) b→b=Dd+1∨Loc env b:=fun q=>q.imp id fun ⟨x,q⟩=> .inr ⟨x,Zqw q⟩
 let oa':Nat→Option Addr:=fun j=>if j=(R.inner sc).nl then some Dd else oa j
 have hoa:∀j a,oa' j=some a→(j=(R.inner sc).nl∧a=Dd)∨(j≠(R.inner sc).nl∧oa j=some a):=fun j a q=>by
  by_cases z:j=(R.inner sc).nl
  ·exact .inl ⟨z,by rw [show oa' j=some Dd from if_pos z] at q;cases q;rfl⟩
  ·exact .inr ⟨z,by rw [show oa' j=oa j from if_neg z] at q;exact q⟩
 have okc:∀tk,Ok (R.inner sc) Y (cenvOf sc env (Dd+1)) Z₁ oa' (sl++List.replicate (numbered R.nl sc.names).length .un) ({ s₁ with heap:=h3,toks:=tk }:Shared).heap:=fun tk=>
  (ok1.nx (g2 tk)).inner hsc hCns freC.1 (fun x c hc q=>freC.2.2.1 (.inr ⟨x,q ▸ hc⟩)) (fun j hj=>if_neg (Nat.ne_of_lt (Nat.lt_of_lt_of_le hj (Nat.le_add_right _ _)))) (fun j a q=>by
   rcases hoa j a q with ⟨_,rfl⟩ | ⟨_,q⟩
   ·exact ⟨freD.1,trivial,freD.2.1,fun q=>(loc q).elim (fun q=>absurd q (Nat.ne_of_lt (Nat.lt_succ_self _))) freD.2.2.1,by show (h3.get? _).isSome=true;rw [hD3];rfl⟩
   ·have o:=(ok1.nx (g2 tk)).own j a q
    exact ⟨o.1,o.2.1,o.2.2.1,fun l=>(loc l).elim (fun z=>freC.2.2.2.1 j (z ▸ q)) o.2.2.2.1,o.2.2.2.2⟩) (fun i j a hi hj=>by
   rcases hoa i a hi with ⟨z,rfl⟩ | ⟨_,q⟩
   ·rcases hoa j _ hj with ⟨z',_⟩ | ⟨_,q'⟩
    ·rw [z,z']
    ·exact absurd q' (freD.2.2.2.1 j)
   ·rcases hoa j a hj with ⟨z',rfl⟩ | ⟨_,q'⟩
    ·exact absurd q (freD.2.2.2.1 i)
    ·exact ok.oinj i j a q q')
 have io1:=hit.iok ok
 have alive:=io1.alive
 have io2:∀tk,IOk Y (cenvOf sc env (Dd+1)) oa' it.isEnum I wr ds St 0 Z₁ ({ s₁ with heap:=h3,toks:=tk }:Shared).heap:=fun tk=>
  have i:=io1.go g1.sub (g2 tk) fun _ _ q=>q
  { i with nz:=fun b hb=>have n:=i.nz b hb;⟨n.1,n.2.1,fun l=>(loc l).elim (fun z=>by have:=alive b hb;rw [z,f1C] at this;cases this) n.2.2.1,fun j q=>by
    rcases hoa j b q with ⟨_,rfl⟩ | ⟨_,q⟩
    ·have:=alive _ hb;rw [f1D] at this;cases this
    ·exact n.2.2.2.1 j q,n.2.2.2.2⟩ }
 have wf:∀b,(b=Dd∨b∈wr∨b=Dd+1)→No b∨s.heap.get? b=none:=fun b q=> .inr (q.elim (fun q=>q ▸ fD) fun q=>q.elim (fun q=>(hit.new b q).1) fun q=>q ▸ fC)
 refine body ⟨okc _,⟨_,if_pos rfl,Nat.le_refl _⟩,freD.2.2.2.2,fun x i b hx hm=>(ZrG ok.st hsc hx hm).1 ▸ freC.2.2.2.2,[],0,hD3,Nat.zero_le _,rfl⟩ (io2 _) ⟨.inl rfl,fun b hb=> .inr (.inl hb),fun b ⟨x,i,hx,hm⟩=> .inr (.inr (ZrG ok.st hsc hx hm).1)⟩ ?_
 replace k:KC Y sc env use Q E Z s (lp ds):=k
 revert k
 generalize lp ds=oo
 intro k
 cases oo with
 | stuck=>exact k
 | ok ys=>exact fun Z₄ s₄ lo4 g4=>k Dd (Dd+1) Z₄ s₄ ⟨(Nx.go (g1.nx (g2 _)) g4).mono wf,fD,fC,Nat.ne_of_lt (Nat.lt_succ_self _),lo4.own.1,(lo4.ok.loz _ (.inl rfl)).1,lo4.ok.ns,lo4.acc⟩
 | exc=>
  intro x s₄ e4 H4 ns4
  obtain ⟨m4,n4⟩:=ns4
  refine ⟨m4,n4,fun h5 m5 n5 sb5=> ?_⟩
  replace n4:s₄.heap.Ns (Dd+1) m4:=n4
  replace sb5:Heap.SameBut (Dd+1) s₄.heap h5:=sb5
  have H5:=H4.but n4 sb5 freC.2.2.2.2 freC.2.1
  have e5:Ex No Y s x { s₄ with heap:=h5 }:=by
   have e:=((g1.nx (g2 _)).mono (W:=fun b=>b=Dd∨b∈wr∨b=Dd+1) fun _ q=>q.elim).ex e4 fun b q=> .inl q
   refine ⟨fun b o q _ nf=> ?_,H5.exc,by rw [e.same]⟩
   obtain ⟨sl',q'⟩:=e.us b o q (fun w=>by rw [(wf b w).resolve_left id] at q;cases q) nf
   exact ⟨sl',SameBut.get sb5 (fun z=>by rw [z,fC] at q;cases q) q'⟩
  exact Zui (Zri (msg:= "comprehension.variables-let-go" ++ ":exception-without-traceback") (env:=cenvOf sc env (Dd+1)) (s:={ s₄ with heap:=h5 }) (okc 0).st.fr H5 fun h6 H6 u6=>ZtP (k x _ (e5.up u6 H6.exc)))
def SC (R:Rs) (elt:Expr) (gens:List Comprehension) (sc:Scope) (epos:Pos) (n:Nat) (G:Gens):Prop:=∀{Y:Cx} {env:Env} {Z:Zm} {oa:Nat→Option Addr} {sl:List Slot} {s:Shared} {Q:Value→Shared→Prop} {E:Value→Shared→Prop} {pos:Pos} {use:Option (Value→Sem Unit)},
 Ok R Y env Z oa sl s.heap→KC Y sc env use Q E Z s (cmpr real Y.P.T (callT real Y.P.T Y.r) G sl (sl++List.replicate n .un) []) →
 wpAny Y.M Y.A (comprehension (.ListComp elt gens sc epos) sc env pos (newList []) (firstAsync gens) (firstIter gens env) use) Q E s
theorem ZtQ {t:Expr} {tg:Tgt} (hl:sl.length=R.nl) (hs:okScope R sc=true) (h:Tg (R.inner sc) t tg):∀j∈tg.idx,(sl++List.replicate (numbered R.nl sc.names).length Slot.un)[j]?=some .un∨(sl++List.replicate (numbered R.nl sc.names).length Slot.un)[j]?=none:=by
 intro j hj
 obtain ⟨x,hx⟩:=Zuc h j hj
 have hge:R.nl≤j:=by
  rcases Zqt (Zqz hx) with ⟨a,_⟩ | ⟨_,_,c⟩
  ·exact a
  ·unfold Rs.put at hx
   rw [if_pos (show x∈(R.inner sc).byref from List.mem_map.mpr ⟨_,lookup_mem c,rfl⟩)] at hx;cases hx
 rw [List.getElem?_append_right (by rw [hl];exact hge),List.getElem?_replicate]
 split
 ·exact .inl rfl
 ·exact .inr rfl
theorem SC.one {elt t i0:Expr} {ifs:List Expr} {epos:Pos} {tg:Tgt} {it:It} {cifs:Cs} {celt:C} (hsc:okScope R sc=true) (hset:notSet i0=true) (ht:Tg (R.inner sc) t tg)
  (hi:SI R i0 it) (htup:it.isEnum=true→isTup t=true) (hts:STs (R.inner sc) ifs cifs) (hel:SE (R.inner sc) elt celt):SC R elt [⟨t,i0,ifs,0⟩] sc epos (numbered R.nl sc.names).length (.last tg it cifs celt):=fun {Y env Z oa sl s Q E pos use} ok k=>
 Zuj (g:=⟨t,i0,ifs,0⟩) (lp:=fun ds=>compE (stepLast Y cifs celt tg (sl++List.replicate (numbered R.nl sc.names).length Slot.un)) ds []) hsc hset hi ok (fun lo io wd k=>Zsu rfl rfl io (Ztu (fun it acc env=>ZtN ..) ht hts hel htup (ZtQ ok.len hsc ht) wd _ 0 _ _ [] rfl lo io (Nat.zero_le _) k)) k
theorem SE.comp {elt:Expr} {gens:List Comprehension} {epos:Pos} {n:Nat} {G:Gens} (h:SC R elt gens sc epos n G):SE R (.ListComp elt gens sc epos) (.comp n G):=by
 intro Y env Z oa sl s Q E ok k
 replace k:K Y Z (Rep Y.P) (cmpr real Y.P.T (callT real Y.P.T Y.r) G sl (sl++List.replicate n .un) []>>=lstK) Q E s:=k
 rw [eval_ListComp]
 refine h ok ?_
 revert k
 generalize cmpr real Y.P.T (callT real Y.P.T Y.r) G sl (sl++List.replicate n .un) []=o
 intro k
 cases o with
 | stuck=>exact k
 | exc=>exact k
 | ok xs=>
  intro Dd C Z₁ s₁ c
  obtain ⟨m,hm⟩:=c.ns
  refine ⟨m,hm,fun h2 sb=> ?_⟩
  replace sb:Heap.SameBut C s₁.heap h2:=sb
  obtain ⟨vs,n',e,z,q⟩:=c.acc
  have eD:=SameBut.get sb c.ne e
  have nF:C∉fas Y.l:=(ok.fresh c.fC).2.1
  have g2:Go (· = C) Y Z₁ s₁ Z₁ { s₁ with heap:=h2 }:=⟨⟨fun b o e nw _=>SameBut.get sb nw e,fun b o e nw _=>⟨o.slots,SameBut.get sb nw e⟩,fun b o e q m=>absurd (q ▸ m) nF⟩,fun _ _ e=>e,fun _ e=> .inl e,fun b o e=>SameBut.get sb (fun z=>by rw [z,c.zC] at e;cases e) (c.nx.sub b o e),rfl⟩
  have g3:Nx Y Z s Z₁ { s₁ with heap:=h2 }:=(Nx.go c.nx g2).mono fun b q=> .inr (q ▸ c.fC)
  have fr:=c.fD
  refine k _ (Zput Z₁ Dd (lstO vs n')) _ ⟨g3.ks,fun b o q=>ZqH c.zD b o (g3.le b o q),fun b q=> ?_,g3.sub.put eD,g3.same⟩ ⟨Dd,vs,n',rfl,Zqs,z,q.up (ZqH c.zD)⟩
  by_cases w:b=Dd
  ·exact .inr (.inr (w ▸ c.fD))
  ·exact g3.new b (by rwa [Zput,if_neg w] at q)
end
end DK.Internal
end
section
set_option backward.match.sparseCases false
set_option genSizeOf false
set_option genCtorIdx false
set_option genSizeOf false
set_option genInjectivity false
namespace DK.Internal
open PySem PyProof.Rows
inductive DP:List (Option Expr)→List Expr→List (Str × Int)→Prop
 | nil:DP [] [] []
 | cons {x i a b c d ks vs ps}:DP ks vs ps→DP (some (.Constant (.str x) a b)::ks) (.Constant (.int i) c d::vs) ((x,i)::ps)
noncomputable def pairTrees (env:Env) (pos:Pos):List (Option Expr)→List Expr→List (Sem Value × Sem Value)
 | some k::ks,v::vs=>(eval k env,do let x ←eval v env;standAt pos;pure x)::pairTrees env pos ks vs
 | _,_=> []
theorem ZsV {env:Env} {pos:Pos} {ks:List (Option Expr)} {vs:List Expr} {ps:List (Str × Int)} (h:DP ks vs ps) :
  (evalEachOpt ks env).zip ((evalEach vs env).map fun v=>do let x ←v;standAt pos;pure x)=(pairTrees env pos ks vs).map (fun p=>(some p.1,p.2))∧(pairTrees env pos ks vs).length=ps.length:=by
 induction h with
 | nil=>exact ⟨rfl,rfl⟩
 | cons _ ih=>exact ⟨congrArg (_ :: ·) ih.1,congrArg (· + 1) ih.2⟩
noncomputable abbrev keysD (ps:List (Str × Int)):List D:=ps.map fun p=> .str p.1.cps.toList
noncomputable abbrev valsD (ps:List (Str × Int)):List D:=ps.map fun p=> .int p.2
theorem Ztw {P:Prg} {A:Around} {E:Value→Shared→Prop} {env:Env} {pos:Pos} {ks:List (Option Expr)} {vs:List Expr} {ps:List (Str × Int)} (h:DP ks vs ps):∀{s:Shared} {Q:List (Value × Value)→Shared→Prop},
  (∀us kvs tk,Carries (PySem.strKind P.prog P.w) us kvs→kvs.map (·.1)=ps.map (·.1)→(∀x:Str,FlatO (valueAt kvs x) (dget (.str x.cps.toList) (keysD ps) (valsD ps)))→Q us { s with toks:=tk }) →
  wpAny (model P.prog P.w) A (evalPairs (pairTrees env pos ks vs)) Q E s:=by
 induction h with
 | nil=>exact fun hQ=>evalPairs_nil (hQ [] [] _ trivial rfl fun x=>trivial)
 | @cons x i a b c d ks vs ps hp ih=>
  intro s Q hQ
  refine evalPairs_cons (Calls.Constant_str (wpAny_bind (wpAny_Constant_int (wpAny_bind (wpAny_standAt (wpAny_pure (ih (s:={ s with toks:=s.toks+1+1 }) fun us kvs tk hc hk hd=> ?_)))))))
  refine hQ ((.str x s.toks,.int i (s.toks+1))::us) ((x,.int i (s.toks+1))::kvs) tk ⟨by simp [PySem.strKind,Value.isStrOf],rfl,hc⟩ (congrArg (x :: ·) hk) fun y=> ?_
  show FlatO (valueAt ((x,.int i (s.toks+1))::kvs) y) (if (x.cps.toList == y.cps.toList)=true then some (.int i) else dget (.str y.cps.toList) (keysD ps) (valsD ps))
  have hd:=hd y
  unfold valueAt at hd ⊢
  rw [SeqAt.str_beq,List.find?_cons]
  by_cases hxy:x=y
  ·subst hxy
   rw [if_pos (beq_self_eq_true _),decide_eq_true rfl]
   exact ⟨_,rfl⟩
  ·rw [if_neg (by simpa using hxy),decide_eq_false hxy]
   exact hd
theorem SE.dict {R:Rs} {ks:List (Option Expr)} {vs:List Expr} {ps:List (Str × Int)} {pos:Pos} (h:DP ks vs ps) (h0:ps≠[]) (hl:ps.length≤15) (hn:(ps.map (·.1)).Nodup):SE R (.Dict ks vs pos) (.k (.dict (keysD ps) (valsD ps))):=by
 intro Y env Z oa sl s Q E ok k
 obtain ⟨a,b⟩:=ZsV (env:=env) (pos:=pos) h
 refine wpAny_Dict_pairs (knd:=PySem.strKind Y.P.prog Y.P.w) a (fun q=>h0 (by rw [q] at b;exact List.length_eq_zero_iff.mp b.symm)) (by lia) ?_
 refine Ztw (P:=Y.P) h fun us kvs tk hc hk hd=>⟨kvs,hc,Heap.DictOf.new s.heap,fun h' hm sb=> ?_⟩
 rw [show merged [] kvs=kvs by rw [merged_append_of_fresh [] kvs (by rw [List.nil_append,hk];exact hn)];rfl] at hm
 have hkeep:∀b o,s.heap.get? b=some o→h'.get? b=some o:=fun b o e=>SameBut.get sb (Nat.ne_of_lt (Heap.lt_size e)) (Heap.get?_push_of_some _ e)
 have fr:s.heap.get? s.heap.objs.size=none:=Heap.get?_none_of_le (Nat.le_refl _)
 have hmap:=hm.mapOf
 obtain ⟨o,es,ep,ho,q⟩:=hmap
 refine k _ _ _ (.put ok.c.sub hkeep fr ho _) ⟨_,rfl,.inl ⟨?_,fun q=>h0 (List.map_eq_nil_iff.mp q),by rw [List.length_map,List.length_map],?_,_,fun h₂ hs=>⟨o,es,ep,hs _ _ Zqs,q⟩,hd⟩⟩
 ·obtain ⟨b,o,hb,e⟩:=ok.c.glo.sys
  have:=Heap.lt_size (ok.c.gh _ _ e)
  rw [beq_eq_false_iff_ne]
  exact Nat.ne_of_gt (Nat.lt_of_le_of_lt hb this)
 ·rw [List.all_map];exact List.all_eq_true.mpr fun _ _=>rfl
def Wr (R:Rs) (env:Env) (oa:Nat→Option Addr) (b:Addr):Prop:=Homes R env b∨∃i,oa i=some b
structure SOk (R:Rs) (Y:Cx) (env:Env) (io:Nat→Option Addr) (Z:Zm) (oa:Nat→Option Addr) (sl:List Slot) (h:Heap):Prop where
 ok:Ok R Y env Z oa sl h
 hB:Bs R Y env
 ob:∀i a,oa i=some a→Y.base.get? a=none
 ioR:∀x i,R.put x=some i→io i=none
 io:∀i a,io i=some a→oa i=some a∧∃xs,sl[i]?=some (.own xs)
noncomputable def FlowRep (P:Prg) (Z:Zm) (f:Flow):Fl→Prop
 | .next=>f = .next
 | .brk=>f = .brk
 | .cont=>f = .cont
 | .ret d=>∃v,f = .ret v∧Rep P Z d v
structure Aft (R:Rs) (Y:Cx) (env:Env) (io oa:Nat→Option Addr) (Z:Zm) (s:Shared) (oa':Nat→Option Addr) (Z':Zm) (sl':List Slot) (s':Shared):Prop where
 so:SOk R Y env io Z' oa' sl' s'.heap
 go:Go (Wr R env oa) Y Z s Z' s'
 n:∀i a,oa' i=some a→(∃j,oa j=some a)∨s.heap.get? a=none
noncomputable def KSt (R:Rs) (Y:Cx) (env:Env) (io oa:Nat→Option Addr) (Q:Flow→Shared→Prop) (E:Value→Shared→Prop) (Z:Zm) (s:Shared) (o:Out Reply):Prop:=match o with
 | .ok x=>∀f oa' Z' s',Aft R Y env io oa Z s oa' Z' x.2 s'→FlowRep Y.P Z' f x.1→Q f s'
 | .exc=>∀x s',Ex (Wr R env oa) Y s x s'→E (.ref x) s'
 | .stuck=>False
noncomputable def Cx.st (Y:Cx) (c:S) (sl:List Slot):Out Reply:=DK.Internal.st real Y.P.T (callT real Y.P.T Y.r) c sl
noncomputable def Cx.sts (Y:Cx) (c:Ss) (sl:List Slot):Out Reply:=DK.Internal.sts real Y.P.T (callT real Y.P.T Y.r) c sl
def SS (R:Rs) (st:Stmt) (c:S):Prop:=∀{Y:Cx} {env:Env} {io:Nat→Option Addr} {Z:Zm} {oa:Nat→Option Addr} {sl:List Slot} {s:Shared} {Q:Flow→Shared→Prop} {E:Value→Shared→Prop},
 SOk R Y env io Z oa sl s.heap→KSt R Y env io oa Q E Z s (Y.st c sl)→wpAny Y.M Y.A (exec st env) Q E s
def SSs (R:Rs) (sts:List Stmt) (c:Ss):Prop:=∀{Y:Cx} {env:Env} {io:Nat→Option Addr} {Z:Zm} {oa:Nat→Option Addr} {sl:List Slot} {s:Shared} {Q:Flow→Shared→Prop} {E:Value→Shared→Prop},
 SOk R Y env io Z oa sl s.heap→KSt R Y env io oa Q E Z s (Y.sts c sl)→wpAny Y.M Y.A (execs sts env) Q E s
section
variable {R:Rs} {Y:Cx} {env:Env} {io oa oa':Nat→Option Addr} {Z Z':Zm} {sl sl':List Slot} {s s':Shared} {Q:Flow→Shared→Prop} {E:Value→Shared→Prop}
theorem SOk.nx (so:SOk R Y env io Z oa sl s.heap) (g:Nx Y Z s Z' s'):SOk R Y env io Z' oa sl s'.heap:={ so with ok:=so.ok.nx g }
theorem SOk.self (so:SOk R Y env io Z oa sl s.heap):Aft R Y env io oa Z s oa Z sl s:=⟨so,.self so.ok.c.sub,fun i a h=> .inl ⟨i,h⟩⟩
theorem wr_le (n:∀i a,oa' i=some a→(∃j,oa j=some a)∨s.heap.get? a=none):∀b,Wr R env oa' b→Wr R env oa b∨s.heap.get? b=none:=fun b q=>q.elim (fun q=> .inl (.inl q)) fun ⟨i,q⟩=>(n i b q).imp .inr id
theorem KSt.aft {o:Out Reply} (k:KSt R Y env io oa Q E Z s o) (a:Aft R Y env io oa Z s oa' Z' sl' s'):KSt R Y env io oa' Q E Z' s' o:=by
 cases o with
 | ok x=>exact fun f oa₂ Z₂ s₂ b fr=>k f oa₂ Z₂ s₂ ⟨b.so,a.go.trans b.go (wr_le a.n),fun i c h=>(b.n i c h).elim (fun ⟨j,q⟩=>a.n j c q) fun z=>(a.go.ks.gone z).elim (fun w=>w.elim (fun w=>by have:=(a.so.ok.loz c (Zqu w)).2;rw [z] at this;cases this) .inl) .inr⟩ fr
 | exc=>exact fun x s₂ e=>k x s₂ (a.go.ex e (wr_le a.n))
 | stuck=>exact k
theorem KSt.post:Post Y E (KSt R Y env io oa Q E) where
 step:=fun {Z s Z' s' o} k g=>by
  cases o with
  | ok x=>exact fun f oa₂ Z₂ s₂ b fr=>k f oa₂ Z₂ s₂ ⟨b.so,Nx.go g b.go,fun i c h=>(b.n i c h).imp id fun z=>(g.ks.gone z).resolve_left id⟩ fr
  | exc=>exact fun x s₂ e=>k x s₂ ((g.mono fun _ q=>q.elim).ex e fun _ q=> .inl q)
  | stuck=>exact k
 exc:=fun k x s' e=>k x s' ⟨fun b o q _ nf=>e.us b o q id nf,e.exc,e.same⟩
 stuck:=fun k=>k
theorem KSt.seq {o:Out Reply} {f:Reply→Out Reply} {Q':Flow→Shared→Prop} (k:KSt R Y env io oa Q E Z s (o>>=f)) (g:∀fl sl' f' oa' Z' s',Aft R Y env io oa Z s oa' Z' sl' s'→FlowRep Y.P Z' f' fl→KSt R Y env io oa' Q E Z' s' (f (fl,sl'))→Q' f' s'):KSt R Y env io oa Q' E Z s o:=by
 cases o with
 | ok x=>exact fun f' oa' Z' s' a fr=>g x.1 x.2 f' oa' Z' s' a fr (KSt.aft (o:=f x) k a)
 | exc=>exact k
 | stuck=>exact k
theorem SS.bad {st:Stmt}:SS R st .bad:=fun _ k=>False.elim k
theorem SSs.nil:SSs R [] .nil:=fun so k=>wpAny_execs_nil (k _ _ _ _ so.self rfl)
theorem SSs.cons {st:Stmt} {sts:List Stmt} {c:S} {cs:Ss} (h:SS R st c) (hs:SSs R sts cs):SSs R (st::sts) (.cons c cs):=fun so k=>
 wpAny_execs_cons (h so (KSt.seq k fun fl sl' f' oa' Z' s' a fr k=>by
  cases fl with
  | next=>cases fr;exact hs a.so k
  | brk=>cases fr;exact k _ _ _ _ a.so.self rfl
  | cont=>cases fr;exact k _ _ _ _ a.so.self rfl
  | ret d=>obtain ⟨v,rfl,rv⟩:=fr;exact k _ _ _ _ a.so.self ⟨v,rfl,rv⟩))
theorem SS.ret {e:Expr} {c:C} {pos:Pos} (h:SE R e c):SS R (.Return (some e) pos) (.ret c):=fun so k=>
 wpAny_Return_some (h so.ok (KSt.post.bind k fun d v Z₁ s₁ g rv k=>k _ _ _ _ (so.nx g).self ⟨v,rfl,rv⟩))
theorem SS.ret0 {pos:Pos}:SS R (.Return none pos) (.ret (.k .none)):=fun so k=>wpAny_Return_none (k _ _ _ _ so.self ⟨_,rfl,rfl⟩)
theorem SS.brk {pos:Pos}:SS R (.Break pos) .brk:=fun so k=>wpAny_bind (wpAny_standAt (wpAny_pure (k _ _ _ _ so.self rfl)))
theorem SS.cont {pos:Pos}:SS R (.Continue pos) .cont:=fun so k=>wpAny_bind (wpAny_standAt (wpAny_pure (k _ _ _ _ so.self rfl)))
theorem SS.ife {t:Expr} {a b:List Stmt} {ct:C} {ca cb:Ss} {pos:Pos} (ht:ST R t ct) (ha:SSs R a ca) (hb:SSs R b cb):SS R (.If t a b pos) (.ife ct ca cb):=fun so k=>
 wpAny_If (ht so.ok (KSt.post.bind k fun d v Z₁ s₁ g rv k=>by
  cases rv
  cases d with
  | true=>exact ha (so.nx g) k
  | false=>exact hb (so.nx g) k))
noncomputable def noComp:Expr→Bool
 | .ListComp _ _ _ _=>false
 | .SetComp _ _ _ _=>false
 | .DictComp _ _ _ _ _=>false
 | _=>true
theorem ZqQ {e:Expr} {t:Option Expr} {n:Nat} {env:Env} (h:noComp e=true):swapsWith e t n env=pure false:=by
 cases e<;>first | rfl | exact absurd h Bool.false_ne_true
theorem ZsH {i:Nat} {t:Slot} (hi:io i=none) (h:∀i a,io i=some a→oa i=some a∧∃xs,sl[i]?=some (.own xs)):∀j a,io j=some a→oa j=some a∧∃xs,(setV sl i t)[j]?=some (.own xs):=fun j a hj=>by
 rw [ZqF,if_neg (fun q=>by rw [←q.1,hi] at hj;cases hj)];exact h j a hj
theorem SOk.put {x:Str} {i:Nat} {v:Value} {d:D} (so:SOk R Y env io Z oa sl s.heap) (hx:R.put x=some i) (rv:Rep Y.P Z d v) {Q':Unit→Shared→Prop} (hQ:∀s',Aft R Y env io oa Z s oa Z (setV sl i (.val d)) s'→Q' () s') {A:Around}:wpAny Y.M A (storeName env x v) Q' E s:=
 ZqW so.hB hx so.ok rv fun s' ok' g=>hQ s' ⟨⟨ok',so.hB,so.ob,so.ioR,ZsH (so.ioR x i hx) so.io⟩,g.mono fun b q=> .inl (.inl q),fun i a h=> .inl ⟨i,h⟩⟩
theorem SS.asg {x:Str} {i:Nat} {e:Expr} {c:C} {p pos:Pos} (hx:R.put x=some i) (hn:noComp e=true) (h:SE R e c):SS R (.Assign [.Name x p] e pos) (.asg i c):=fun so k=>
 wpAny_Assign_Name (h so.ok (KSt.post.bind k fun d v Z₁ s₁ g rv k=>(so.nx g).put hx rv fun s₂ a=>k _ _ _ _ a rfl)) (ZqQ hn)
theorem Zqq (so:SOk R Y env io Z oa sl s.heap):interactive env=false:=by unfold interactive;rw [so.ok.st.kind];rfl
theorem SS.exp {e:Expr} {c:C} {pos:Pos} (hn:noComp e=true) (h:SE R e c):SS R (.Expr e pos) (.ex c):=fun so k=>
 wpAny_Expr_any (h so.ok (KSt.post.bind k fun d v Z₁ s₁ g rv k=>k _ _ _ _ (so.nx g).self rfl)) (Zqq so) (ZqQ hn)
noncomputable def augOk:Operator→Bool
 | .Add=>true
 | .Sub=>true
 | _=>false
theorem Zuk {a b:Int} {t u:Tok} {op:Operator} {Q:Value→Shared→Prop} (hs:Sub Z s.heap) (hop:augOk op=true) (k:K Y Z (Rep Y.P) (intOp a b op) Q E s):wpAny Y.M Y.A (inplaceOp op (.int a t) (.int b u)) Q E s:=by
 cases op with
 | Add=>exact PySem.P.iadd_int (k.ok hs (rInt _ _) _)
 | Sub=>exact PySem.P.isub_int (k.ok hs (rInt _ _) _)
 | _=>cases hop
theorem KSt.getV {f:D→Out Reply} {x:Str} {i:Nat} {G:Prop} (ok:Ok R Y env Z oa sl s.heap) (hx:R.loc.lookup x=some i) (k:KSt R Y env io oa Q E Z s (DK.Internal.getV sl i>>=f)) (g:∀d v,VarAt s.heap env x (some v)→Rep Y.P Z d v→KSt R Y env io oa Q E Z s (f d)→G):G:=by
 have hv:=ok.var x i hx
 unfold DK.Internal.getV at k
 cases hs:sl[i]? with
 | none=>rw [hs] at k;exact False.elim k
 | some t=>
  rw [hs] at k hv
  cases t with
  | val d=>obtain ⟨v,hv,rv⟩:=hv;exact g d v hv rv k
  | _=>exact False.elim k
@[elab_as_elim] theorem KSt.onInt {x:D} {v:Value} {f:Int→Out Reply} {G:Value→Prop} (k:KSt R Y env io oa Q E Z s (intD x>>=f)) (r:Rep Y.P Z x v) (g:∀i t,KSt R Y env io oa Q E Z s (f i)→G (.int i t)):G v:=by
 cases x with
 | int i=>obtain ⟨t,rfl⟩:=r;exact g i t k
 | _=>exact False.elim k
theorem SS.aug {x:Str} {i:Nat} {op:Operator} {e:Expr} {c:C} {p pos:Pos} (hx:R.put x=some i) (hop:augOk op=true) (h:SE R e c):SS R (.AugAssign (.Name x p) op e pos) (.aug i op c):=fun so k=>
 KSt.getV so.ok (Zqz hx) k fun d v hv rv k=>wpAny_AugAssign_Name (ZqE so.ok.st.kind hv (h so.ok (KSt.post.bind k fun y u Z₁ s₁ g ru k=>
  KSt.onInt k (rv.up g.le) fun a t k=>KSt.onInt k ru fun b t' k=>Zuk g.sub hop (KSt.post.bind k fun z w Z₂ s₂ g₂ rz k=>((so.nx g).nx g₂).put hx rz fun s₃ a=>k _ _ _ _ a rfl))))
theorem SS.raise {m:Str} {np mp cpos pos:Pos} {kn:Nat} (hx:R.glob "ValueError" = true):SS R (.Raise (some (.Call (.Name "ValueError" np) [.Constant (.str m) kn mp] [] cpos)) none pos) .raise:=fun {Y env io Z oa sl s Q E} so k=>by
 refine Raise_madeB PySem.F.excCall_ValueError PySem.F.excRaise_ValueError so.ok.c.hand (Zqo so.ok hx so.ok.c.glo.ve ⟨rfl,?_⟩)
 refine Calls.spliced_cons (Calls.Constant_str (k:=kn) (pos:=mp) (Calls.spliced_nil ⟨(show 1≤sizeLine by decide),fun h' e M=> ?_⟩))
 exact k e _ ⟨fun b o q _ nf=>⟨o.slots,M.keeps b o q⟩,Exc.of_new so.ok.c.below.stays so.ok.c.below.frames M.newExc,rfl⟩
end
end DK.Internal
end
section
set_option backward.match.sparseCases false
set_option genSizeOf false
set_option genCtorIdx false
namespace DK.Internal
open PySem PyProof.Rows
section
variable {R:Rs} {Y:Cx} {env:Env} {io oa oa':Nat→Option Addr} {Z Z':Zm} {sl sl':List Slot} {s s':Shared} {Q:Flow→Shared→Prop} {E:Value→Shared→Prop}
theorem KSt.ownD {f:List D→Out Reply} {x:Str} {i:Nat} {G:Prop} (ok:Ok R Y env Z oa sl s.heap) (hx:R.loc.lookup x=some i) (k:KSt R Y env io oa Q E Z s (DK.Internal.ownD sl i>>=f))
  (g:∀xs a vs n,sl[i]?=some (.own xs)→oa i=some a→VarAt s.heap env x (some (.ref a))→s.heap.get? a=some (lstO vs n)→vs.length≤SZ→Reps Y.P Z xs vs→KSt R Y env io oa Q E Z s (f xs)→G):G:=by
 have hv:=ok.var x i hx
 unfold DK.Internal.ownD at k
 cases hs:sl[i]? with
 | none=>rw [hs] at k;exact False.elim k
 | some t=>
  rw [hs] at k hv
  cases t with
  | own xs=>obtain ⟨a,vs,n,a0,a1,a2,a3,a4⟩:=hv;exact g xs a vs n hs a0 a1 a2 a3 a4 k
  | _=>exact False.elim k
theorem SOk.chg {x:Str} {i:Nat} {a:Addr} {vs:List Value} {n:Nat} {xs:List D} {h':Heap} {tk:Nat} (so:SOk R Y env io Z oa sl s.heap) (hx:R.loc.lookup x=some i) (ha:oa i=some a) (hv:VarAt s.heap env x (some (.ref a))) (sb:Heap.SameBut a s.heap h') (e:h'.get? a=some (lstO vs n)) (z:vs.length≤SZ) (q:Reps Y.P Z xs vs) :
  Aft R Y env io oa Z s oa Z (setV sl i (.own xs)) { s with heap:=h',toks:=tk }:=by
 have hn:∃o,h'.get? a=some o∧∀vs,o.data≠.fields vs:=⟨_,e,fun vs q=>nomatch q⟩
 refine ⟨⟨so.ok.chg ha (so.ob i a ha) sb hn fun y hy kv=> ?_,so.hB,so.ob,so.ioR,fun j b hj=>⟨(so.io j b hj).1,?_⟩⟩,.of_but so.ok.c.sub (so.ok.own i a ha).1 (.inr ⟨i,ha⟩) sb hn,fun i a h=> .inl ⟨i,h⟩⟩
 ·cases so.ok.st.wf.inj x y i hx hy
  exact ⟨a,vs,n,ha,kv hv,e,z,q⟩
 ·rw [ZqF]
  by_cases z:i=j∧i < sl.length
  ·rw [if_pos z];exact ⟨xs,rfl⟩
  ·rw [if_neg z];exact (so.io j b hj).2
theorem Zrl {i:Nat} {a:Addr} {o:Obj} (ok:Ok R Y env Z oa sl s.heap) (g:Nx Y Z s Z' s') (ha:oa i=some a) (e:s.heap.get? a=some o):s'.heap.get? a=some o:=g.ks.keep a o e id (ok.own i a ha).2.2.1
theorem Zrm {x:Str} {v:Option Value} (g:Nx Y Z s Z' s') (q:VarAt s.heap env x v):VarAt s'.heap env x v:=q.keep fun b o _ e=>g.ks.stay e id
theorem KSt.need {c:Prop} [Decidable c] {o:Out Reply} {G:Prop} (k:KSt R Y env io oa Q E Z s (need c o)) (g:c→KSt R Y env io oa Q E Z s o→G):G:=by
 by_cases h:c
 ·rw [show DK.Internal.need c o=o from if_pos h] at k;exact g h k
 ·rw [show DK.Internal.need c o = .stuck from if_neg h] at k;exact False.elim k
theorem Zrn {h:Heap} {a:Addr} {vs:List Value} {n:Nat} (e:h.get? a=some (lstO vs n)) (f:Array Value→Array Value) {ws:List Value} (hf:f vs.toArray=ws.toArray):∃m,(h.update a (Obj.mapSeq f)).get? a=some (lstO ws m):=by
 have:IsL h a vs.toArray n:=e
 have:=this.update f
 rw [hf] at this
 exact ⟨_,this⟩
theorem SS.app {x:Str} {i:Nat} {e:Expr} {c:C} {xp apos pos sp:Pos} (hx:R.loc.lookup x=some i) (hd:(x == ("__debug__" : Str))=false) (hl:(apos.endLine == pos.line)=true) (hn:noStar e=true) (h:SE R e c) :
  SS R (.Expr (.Call (.Attribute (.Name x xp) "append" apos) [e] [] pos) sp) (.app i c):=by
 intro Y env io Z oa sl s Q E so k
 refine KSt.ownD so.ok hx k fun xs a vs n hs ha hv hL hz rs k=> ?_
 refine wpAny_Expr_any (wpAny_Call_method1_late rfl hl (Zsa hn) (wpAny_Name (ZqE so.ok.st.kind hv ?_) hd)) (Zqq so) rfl
 refine ⟨"list", "list.append",PySem.F.plainAttrs_list,PySem.F.slot_list_append,PySem.F.type_list_append,⟨_,hL,rfl⟩,fun a' q=>by cases q;exact ⟨_,hL,rfl⟩,?_⟩
 refine PySem.P.append_list (h so.ok (KSt.post.bind k fun d v Z₁ s₁ g rv k=>k.need fun hlt k=> ?_))
 have hL':=Zrl so.ok g ha hL
 refine ⟨vs.toArray,n,by rw [List.size_toArray];exact Nat.le_trans hz Zqr,hL',?_⟩
 obtain ⟨m,e'⟩:=Zrn hL' (fun xs=>xs.push v) (List.push_toArray ..)
 exact k _ _ _ _ ((so.nx g).chg (tk:=s₁.toks) hx ha (Zrm g hv) (Heap.SameBut.update ..) e' (by rw [List.length_append,rs.length];exact hlt) ((rs.up g.le).append (.cons rv rfl))) rfl
theorem SS.ext {x:Str} {i:Nat} {e:Expr} {c:C} {xp apos pos sp:Pos} (hx:R.loc.lookup x=some i) (hd:(x == ("__debug__" : Str))=false) (hl:(apos.endLine == pos.line)=true) (hn:noStar e=true) (h:SE R e c) :
  SS R (.Expr (.Call (.Attribute (.Name x xp) "extend" apos) [e] [] pos) sp) (.ext i c):=by
 intro Y env io Z oa sl s Q E so k
 refine KSt.ownD so.ok hx k fun xs a vs n hs ha hv hL hz rs k=> ?_
 refine wpAny_Expr_any (wpAny_Call_method1_late rfl hl (Zsa hn) (wpAny_Name (ZqE so.ok.st.kind hv ?_) hd)) (Zqq so) rfl
 refine ⟨"list", "list.extend",PySem.F.plainAttrs_list,PySem.F.slot_list_extend,PySem.F.type_list_extend,⟨_,hL,rfl⟩,fun a' q=>by cases q;exact ⟨_,hL,rfl⟩,?_⟩
 refine PySem.P.extend_list (h so.ok (KSt.post.bind k fun d v Z₁ s₁ g rv k=> ?_))
 have hL':=Zrl so.ok g ha hL
 cases d with
 | list ys=>
  obtain ⟨b,ws,n2,rfl,e2,z2,q2⟩:=rv
  refine KSt.need (o:=nextK (setV sl i (.own (xs++ys)))) k fun hlt k=> ?_
  have hlen:(vs++ws).length≤SZ:=by rw [List.length_append,rs.length,q2.length];exact hlt
  refine ⟨b,vs.toArray,ws.toArray,n,n2,by rw [List.size_toArray];exact Nat.le_trans hz Zqr,by rw [List.length_append] at hlen;exact Nat.le_succ_of_le (Nat.le_trans hlen Zqr),?_,rfl,hL',g.sub _ _ e2,?_⟩
  ·rw [show Builtin.List.listTooLong (vs.toArray.size+ws.toArray.size)=false by unfold Builtin.List.listTooLong;rw [List.length_append] at hlen;have:=Zqr;simp;exact Nat.le_trans (by assumption) (by assumption),Bool.and_false];exact Bool.false_ne_true
  ·obtain ⟨m,e'⟩:=Zrn hL' (fun xs=>xs++ws.toArray) (List.append_toArray ..)
   exact k _ _ _ _ ((so.nx g).chg (tk:=s₁.toks) hx ha (Zrm g hv) (Heap.SameBut.update ..) e' hlen ((rs.up g.le).append q2)) rfl
 | _=>exact False.elim k
theorem ZsW {α:Type} (vs:List α):0 < vs.length→vs.eraseIdx (vs.length - 1)=vs.dropLast:=by
 induction vs with
 | nil=>exact fun h=>absurd h (Nat.lt_irrefl _)
 | cons a vs ih=>
  intro _
  cases vs with
  | nil=>rfl
  | cons b vs=>exact congrArg (a :: ·) (ih (Nat.succ_pos _))
theorem SS.pop {x:Str} {i:Nat} {xp apos pos sp:Pos} (hx:R.loc.lookup x=some i) (hd:(x == ("__debug__" : Str))=false) (hl:(apos.endLine == pos.line)=true) :
  SS R (.Expr (.Call (.Attribute (.Name x xp) "pop" apos) [] [] pos) sp) (.pop i):=by
 intro Y env io Z oa sl s Q E so k
 refine KSt.ownD so.ok hx k fun xs a vs n hs ha hv hL hz rs k=>k.need fun hne k=> ?_
 have hlen:0 < vs.length:=by rw [rs.length];exact List.length_pos_iff.mpr hne
 refine wpAny_Expr_any (wpAny_Call_method0_late rfl hl (wpAny_Name (ZqE so.ok.st.kind hv ?_) hd)) (Zqq so) rfl
 refine ⟨"list", "list.pop",PySem.F.plainAttrs_list,PySem.F.slot_list_pop,PySem.F.type_list_pop,⟨_,hL,rfl⟩,fun a' q=>by cases q;exact ⟨_,hL,rfl⟩,?_⟩
 refine PySem.P.pop_list hL (y:=vs[vs.length - 1]'(by omega)) (by simp) ?_ (by rw [List.size_toArray];exact Nat.le_trans hz Zqr)
 obtain ⟨m,e'⟩:=Zrn hL (fun xs=>xs.eraseIdxIfInBounds (vs.toArray.size - 1)) (ws:=vs.dropLast) (by
  apply Array.ext'
  rw [Array.toList_eraseIdxIfInBounds]
  exact ZsW vs hlen)
 exact k _ _ _ _ (so.chg (tk:=s.toks) hx ha hv (Heap.SameBut.update ..) e' (by rw [List.length_dropLast];lia) (by rw [List.dropLast_eq_take,List.dropLast_eq_take,rs.length];exact rs.take _)) rfl
theorem ZrR {a:Addr} {items:Array Value} {n:Nat} {kk:Int} {t:Tok} {v:Value} {Q:Unit→Shared→Prop} (hL:IsL s.heap a items n) (h0:0≤kk) (hfit:kk < 2 ^ 63) (hn:kk < items.size)
  (hQ:Q () { s with heap:=s.heap.update a (Obj.mapSeq (·.setIfInBounds kk.toNat v)) }):wpAny Y.M Y.A (setItem (.ref a) (.int kk t) v) Q E s:=by
 have hl:=hL.isList
 unfold setItem
 refine wpAny_holding ?_
 refine wpAny_bind (wpAny_sequenceKey hl.typeIs (by decide) ?_)
 refine wpAny_bind (wpAny_callSpecial?_slot (name:=Str.ofString "__setitem__") hl.typeIs slot_list_setitem
  (wpAny_call_entry slot_list_setitem hl.typeIs entry_list_setitem ?_ (args_list_setitem _ _ _)))
 show wpAny _ _ (Builtin.List.listSubscript? (.int kk t)>>=_) _ _ s
 refine wpAny_bind (wpAny_listSubscript_int (fitsIndex_of h0 hfit) ?_)
 obtain ⟨j,rfl⟩:=Int.eq_ofNat_of_zero_le h0
 have hx':items[j]?=some items[j]:=Array.getElem?_eq_getElem (Int.ofNat_lt.mp hn)
 show wpAny _ _ ((seqItemAt a j>>=fun r=>pure (r.map (j,·)))>>=_) _ _ s
 refine wpAny_bind (wpAny_bind (wpAny_seqItemAt hL rfl (wpAny_pure ?_)))
 rw [hx']
 show wpAny _ _ (setSeqItemAt a j v>>=_) _ _ s
 refine wpAny_bind (wpAny_setSeqItemAt hL rfl ?_)
 first
  | exact wpAny_bind (wpAny_pure (wpAny_pure ⟨.none,rfl,wpAny_pure hQ⟩))
  | exact wpAny_pure ⟨.none,rfl,wpAny_pure hQ⟩
theorem SS.sub {x:Str} {i:Nat} {j e:Expr} {cj c:C} {xp p2 pos:Pos} (hx:R.loc.lookup x=some i) (hd:(x == ("__debug__" : Str))=false) (hj:SE R j cj) (h:SE R e c):SS R (.Assign [.Subscript (.Name x xp) j p2] e pos) (.sub i cj c):=by
 intro Y env io Z oa sl s Q E so k
 refine KSt.ownD so.ok hx k fun xs a vs n hs ha hv hL hz rs k=> ?_
 refine wpAny_Assign_Subscript (h so.ok (KSt.post.bind k fun d v Z₁ s₁ g rv k=> ?_)) (by cases e<;>rfl)
 refine wpAny_Name (ZqE so.ok.st.kind (Zrm g hv) (hj (so.ok.nx g) (KSt.post.bind k fun d2 u Z₂ s₂ g₂ ru k=>KSt.onInt k ru fun m t k=>k.need fun hm k=> ?_))) hd
 have g':=g.nx g₂
 have hL2:=Zrl so.ok g' ha hL
 have hsz:SZ=1000000:=rfl
 have hvl:=rs.length
 refine ZrR hL2 hm.1 (by lia) (by rw [List.size_toArray];lia) ?_
 obtain ⟨m',e'⟩:=Zrn hL2 (·.setIfInBounds m.toNat v) (ws:=vs.set m.toNat v) (List.setIfInBounds_toArray ..)
 exact k _ _ _ _ (((so.nx g).nx g₂).chg (tk:=s₂.toks) hx ha (Zrm g' hv) (Heap.SameBut.update ..) e' (by rw [List.length_set];exact hz) ((rs.up g'.le).set _ (rv.up g₂.le))) rfl
theorem SSs.frz {sts:List Stmt} {cs:Ss} {i:Nat} {x:Str} (hx:R.put x=some i) (hs:SSs R sts cs):SSs R sts (.cons (.frz i) cs):=by
 intro Y env io Z oa sl s Q E so k
 replace k:KSt R Y env io oa Q E Z s (Y.sts cs (freezeS sl i sl[i]?)):=k
 have hi:=so.ioR x i hx
 have hv:=so.ok.var x i (Zqz hx)
 cases ht:sl[i]? with
 | none=>rw [ht] at k;exact hs so k
 | some t=>
  rw [ht] at k hv
  cases t with
  | un=>exact hs so k
  | val d=>exact hs so k
  | own xs=>
   obtain ⟨a,vs,n,a0,a1,a2,a3,a4⟩:=hv
   have o:=so.ok.own i a a0
   have zle:Zle Z (Zput Z a (lstO vs n)):=ZqH o.1
   have still:∀b,b≠a→Z b=none→Zput Z a (lstO vs n) b=none:=fun b nb z=>by rw [Zput,if_neg nb];exact z
   let oa':Nat→Option Addr:=fun j=>if j=i then none else oa j
   have hoa:∀j b,oa' j=some b→j≠i∧oa j=some b:=fun j b q=>by
    by_cases z:j=i
    ·rw [show oa' j=none from if_pos z] at q;cases q
    ·exact ⟨z,by rw [show oa' j=oa j from if_neg z] at q;exact q⟩
   have nea:∀j b,oa' j=some b→b≠a:=fun j b q z=>(hoa j b q).1 (so.ok.oinj j i a (z ▸ (hoa j b q).2) a0)
   have ok':Ok R Y env (Zput Z a (lstO vs n)) oa' (setV sl i (.val (.list xs))) s.heap:=
    {
     so.ok with
     c:=so.ok.c.ks (W:=No) (.of_keeps fun _ _ e=>e) (fun _ q=>q.elim) zle (so.ok.c.sub.put a2) fun b hb=>still b (fun z=>o.2.2.1 (z ▸ hb)) (so.ok.c.frz b hb)
     len:=by unfold setV;rw [List.length_set];exact so.ok.len
     loz:=fun b q=>⟨still b (fun z=>o.2.2.2.1 (z ▸ q)) (so.ok.loz b q).1,(so.ok.loz b q).2⟩
     own:=fun j b q=>have p:=so.ok.own j b (hoa j b q).2;⟨still b (nea j b q) p.1,p.2⟩
     oinj:=fun j k b h1 h2=>so.ok.oinj j k b (hoa j b h1).2 (hoa k b h2).2
     var:=fun y j e=>by
      rw [ZqF]
      by_cases z:i=j∧i < sl.length
      ·rw [if_pos z]
       obtain ⟨rfl,_⟩:=z
       cases so.ok.st.wf.inj x y i (Zqz hx) e
       exact ⟨.ref a,a1,a,vs,n,rfl,Zqs,a3,a4.up zle⟩
      ·rw [if_neg z]
       have z:j≠i:=fun q=>z ⟨q.symm,by rw [so.ok.len,←q];exact so.ok.st.wf.lt y j e⟩
       have q:=so.ok.var y j e
       cases ht:sl[j]? with
       | none=>trivial
       | some t=>
        rw [ht] at q
        cases t with
        | un=>trivial
        | val d=>obtain ⟨v,b1,b2⟩:=q;exact ⟨v,b1,b2.up zle⟩
        | own ys=>obtain ⟨b,us,m,b0,b1,b2,b3,b4⟩:=q;exact ⟨b,us,m,(if_neg z).trans b0,b1,b2,b3,b4.up zle⟩ }
   refine hs (oa:=oa') ⟨ok',so.hB,fun j b q=>so.ob j b (hoa j b q).2,so.ioR,fun j b hj=> ?_⟩ (k.aft (oa':=oa') (sl':=setV sl i (.val (.list xs))) ⟨⟨ok',so.hB,fun j b q=>so.ob j b (hoa j b q).2,so.ioR,fun j b hj=> ?_⟩,⟨.of_keeps fun _ _ e=>e,zle,fun b q=> ?_,so.ok.c.sub.put a2,rfl⟩,fun j b q=> .inl ⟨j,(hoa j b q).2⟩⟩)
   ·have z:j≠i:=fun q=>by rw [q,hi] at hj;cases hj
    have q:=ZsH (t:= .val (.list xs)) hi so.io j b hj
    exact ⟨(if_neg z).trans q.1,q.2⟩
   ·have z:j≠i:=fun q=>by rw [q,hi] at hj;cases hj
    have q:=ZsH (t:= .val (.list xs)) hi so.io j b hj
    exact ⟨(if_neg z).trans q.1,q.2⟩
   ·by_cases z:b=a
    ·exact .inr (.inl (.inr ⟨i,z ▸ a0⟩))
    ·exact .inl (by rwa [Zput,if_neg z] at q)
end
end DK.Internal
end
section
set_option backward.match.sparseCases false
set_option genSizeOf false
set_option genCtorIdx false
namespace DK.Internal
open PySem PyProof.Rows
section
variable {R:Rs} {Y:Cx} {env:Env} {io oa oa':Nat→Option Addr} {Z Z':Zm} {sl sl':List Slot} {s s':Shared} {Q:Flow→Shared→Prop} {E:Value→Shared→Prop}
theorem KSt.noted {o:Out Reply} (k:KSt R Y env io oa Q E Z s o) (st:Stat R Y env) (hfr:Y.A.frames=some Y.l):KSt R Y env io oa Q (notedBy Y.M Y.A env fun e s'=>cameBackBy Y.M Y.A env E e s') Z s o:=by
 cases o with
 | exc=>exact fun x s₁ e=>Zrc hfr st.fr e.exc fun h2 H2 u2=>Zri (s:={ s₁ with heap:=h2 }) st.fr H2 fun h3 H3 u3=>k x _ ((e.up u2 H2.exc).up u3 H3.exc)
 | _=>exact k
theorem SS.whl {t:Expr} {body:List Stmt} {ct:C} {cb:Ss} {pos:Pos} (ht:ST R t ct) (hb:SSs R body cb):SS R (.While t body [] pos) (.whl ct cb):=by
 intro Y env io Z oa sl s Q E so k
 replace k:KSt R Y env io oa Q E Z s (whL (Y.tst ct) (Y.sts cb) sl):=k
 obtain ⟨n,hn⟩:=whL_get (Y.tst ct) (Y.sts cb) sl
 rw [hn] at k
 refine wpAny_While (codeAny_whileLoop (fun m s=>∃sl oa Z,SOk R Y env io Z oa sl s.heap∧KSt R Y env io oa _ (notedBy Y.M Y.A env fun e s'=>cameBackBy Y.M Y.A env E e s') Z s (whN (Y.tst ct) (Y.sts cb) m sl)) ?_ n ⟨sl,oa,Z,so,k.noted so.ok.st so.ok.c.below.stack⟩)
 rintro m s ⟨sl,oa,Z,so,k⟩
 cases m with
 | zero=>exact False.elim k
 | succ m=>
  refine ht so.ok (KSt.post.bind (f:=fun c=>ifO c (Y.sts cb sl>>=loopS (whN (Y.tst ct) (Y.sts cb) m)) (nextK sl)) k fun b t Z₁ s₁ g rb k=> ?_)
  cases rb
  cases b with
  | false=>exact wpAny_execs_nil (k _ _ _ _ (so.nx g).self rfl)
  | true=>
   refine hb (so.nx g) (KSt.seq k fun fl sl' f oa' Z₂ s₂ a fr k=> ?_)
   cases fl with
   | next=>cases fr;exact ⟨m,Nat.lt_succ_self _,sl',oa',Z₂,a.so,k⟩
   | cont=>cases fr;exact ⟨m,Nat.lt_succ_self _,sl',oa',Z₂,a.so,k⟩
   | brk=>cases fr;exact k _ _ _ _ a.so.self rfl
   | ret d=>obtain ⟨v,rfl,rv⟩:=fr;exact k _ _ _ _ a.so.self ⟨v,rfl,rv⟩
structure ForI (R:Rs) (Y:Cx) (env:Env) (io:Nat→Option Addr) (tup:Bool) (I:Addr) (wr:List Addr) (ds:List D) (St:Nat→Heap→Prop) (tg:Tgt) (cb:Ss) (Rr:Result→Shared→Prop) (Z₀:Zm) (s₀:Shared) (oa₀:Nat→Option Addr) (i:Nat) (sl:List Slot) (oa:Nat→Option Addr) (Z:Zm) (s:Shared):Prop where
 hi:i≤ds.length
 so:SOk R Y env io Z oa sl s.heap
 it:IOk Y env oa tup I wr ds St i Z s.heap
 go:Go (Wr R env oa₀) Y Z₀ s₀ Z s
 n:∀j a,oa j=some a→(∃k,oa₀ k=some a)∨s₀.heap.get? a=none
 k:KSt R Y env io oa₀ (fun f s'=>Rr (.ok f) s') (LE Y env Rr) Z₀ s₀ (forE (fun sl d k=>bindT sl tg d>>=fun sl'=>Y.sts cb sl'>>=loopS k) (ds.drop i) sl)
theorem ZtR {tup:Bool} {I:Addr} {wr:List Addr} {ds:List D} {St:Nat→Heap→Prop} {t:Expr} {tg:Tgt} {body:List Stmt} {cb:Ss} {Rr:Result→Shared→Prop} {Z₀:Zm} {s₀:Shared} {oa₀:Nat→Option Addr}
  (ht:Tg R t tg) (hb:SSs R body cb) (htup:tup=true→isTup t=true) (hw0:∀b∈wr,s₀.heap.get? b=none) (fi:ForI R Y env io tup I wr ds St tg cb Rr Z₀ s₀ oa₀ 0 sl oa Z s):codeAny Y.M Y.A (.forLoop t (.ref I) body [] env) Rr s:=by
 refine codeAny_forLoop_any (fun m s=>∃i sl oa Z,m=ds.length+1 - i∧ForI R Y env io tup I wr ds St tg cb Rr Z₀ s₀ oa₀ i sl oa Z s) ?_ _ ⟨0,sl,oa,Z,rfl,fi⟩
 clear fi
 rintro m s ⟨i,sl,oa,Z,rfl,fi⟩
 obtain ⟨Zw,wk,le⟩:=fi.it.wk
 have so:=fi.so
 have nz2:∀b∈wr,Z b=none∧b∉fas Y.l:=fun b hb=>⟨(fi.it.nz b hb).1,(fi.it.nz b hb).2.1⟩
 have k:=fi.k
 cases hd:ds.drop i with
 | nil=>
  cases drop_nil hd fi.hi
  rw [hd] at k
  exact wk.done fi.it.st so.ok.c.sub nz2 fun s₁ w=>wpAny_execs_nil (k _ _ _ _ ⟨{ so with ok:=so.ok.wt w fun b hb=>(fi.it.nz b hb).2 },fi.go.trans w.go fun b q=> .inr (hw0 b q),fi.n⟩ rfl)
 | cons d rest=>
  obtain ⟨hd1,hr,hlt⟩:=Zsh hd
  rw [hd] at k
  refine wpAny_mono (wk.item (G:=fun v s₂=>wpAny Y.M Y.A (assign t env v) (fun _ s₂=>wpAny Y.M Y.A (execs body env) (fun f s₃=>match f with
      | .next | .cont=>∃m,m < ds.length+1 - i∧∃i sl oa Z,m=ds.length+1 - i∧ForI R Y env io tup I wr ds St tg cb Rr Z₀ s₀ oa₀ i sl oa Z s₃
      | .brk=>Rr (.ok .next) s₃
      | .ret v=>Rr (.ok (.ret v)) s₃) (LE Y env Rr) s₂) (LE Y env Rr) s₂) t htup hd1 fi.it.st le so.ok.c.sub nz2 fun v Z₁ s₁ st1 w rv=> ?_) (fun x s₁ hx=> ?_) fun _ _ q=>q
  rotate_left
  ·obtain ⟨v,rfl,hx⟩:=hx
   exact hx
  have ok1:=so.ok.wt w fun b hb=>(fi.it.nz b hb).2
  have it1:IOk Y env oa tup I wr ds St (i+1) Z₁ s₁.heap:=⟨⟨Zw,wk,fun b o e=>w.go.le b o (le b o e)⟩,st1,fun b hb=>⟨w.nz b hb,(fi.it.nz b hb).2⟩⟩
  have go1:=fi.go.trans w.go fun b q=> .inr (hw0 b q)
  replace k:KSt R Y env io oa₀ (fun f s'=>Rr (.ok f) s') (LE Y env Rr) Z₀ s₀ (bindT sl tg d>>=fun sl'=>Y.sts cb sl'>>=loopS (forE (fun sl d k=>bindT sl tg d>>=fun sl'=>Y.sts cb sl'>>=loopS k) rest)):=k
  cases hbd:bindT sl tg d with
  | exc=>exact absurd hbd (Zrt _ _ _)
  | stuck=>rw [hbd] at k;exact False.elim k
  | ok sl1=>
   rw [hbd] at k
   refine ZqZ so.hB ht ok1 rv hbd fun s₂ ok2 g2=> ?_
   have so2:SOk R Y env io Z₁ oa sl1 s₂.heap:=⟨ok2,so.hB,so.ob,so.ioR,fun j a hj=>by
    rw [(Zru hbd).2 j fun m=>by obtain ⟨x,hx⟩:=Zuc ht j m;rw [so.ioR x j hx] at hj;cases hj]
    exact so.io j a hj⟩
   have it2:=it1.go ok1.c.sub g2 fun b hb q=>(fi.it.nz b hb).2.2.1 (Zqu q)
   have go2:=go1.trans g2 fun b q=> .inl (.inl q)
   refine hb so2 ?_
   replace k:KSt R Y env io oa₀ (fun f s'=>Rr (.ok f) s') (LE Y env Rr) Z₀ s₀ (Y.sts cb sl1>>=loopS (forE (fun sl d k=>bindT sl tg d>>=fun sl'=>Y.sts cb sl'>>=loopS k) rest)):=k
   revert k
   generalize Y.sts cb sl1=oo
   intro k
   cases oo with
   | stuck=>exact False.elim k
   | exc=>exact fun x s₃ e=>k x s₃ (go2.ex e (wr_le fi.n))
   | ok y=>
    obtain ⟨fl,sl3⟩:=y
    intro f oa3 Z₃ s₃ a fr
    have go3:=go2.trans a.go (wr_le fi.n)
    have n3:∀j b,oa3 j=some b→(∃k,oa₀ k=some b)∨s₀.heap.get? b=none:=fun j b q=>(a.n j b q).elim (fun ⟨j',q⟩=>fi.n j' b q) fun z=>(go2.ks.gone z).elim (fun w=>w.elim (fun w=>by have:=(ok2.loz b (Zqu w)).2;rw [z] at this;cases this) .inl) .inr
    have alive:=it2.alive
    have it3:IOk Y env oa3 tup I wr ds St (i+1) Z₃ s₃.heap:=by
     have q:=it2.go ok2.c.sub a.go fun b hb q=>q.elim (fun q=>(fi.it.nz b hb).2.2.1 (Zqu q)) fun ⟨j,q⟩=>(fi.it.nz b hb).2.2.2.1 j q
     exact { q with nz:=fun b hb=>have p:=q.nz b hb;⟨p.1,p.2.1,p.2.2.1,fun j e=>(a.n j b e).elim (fun ⟨j',q⟩=>p.2.2.2.1 j' q) fun z=>(by have:=alive b hb;rw [z] at this;cases this),p.2.2.2.2⟩ }
    have again:KSt R Y env io oa₀ (fun f s'=>Rr (.ok f) s') (LE Y env Rr) Z₀ s₀ (forE (fun sl d k=>bindT sl tg d>>=fun sl'=>Y.sts cb sl'>>=loopS k) rest sl3) →
      ∃m,m < ds.length+1 - i∧∃i sl oa Z,m=ds.length+1 - i∧ForI R Y env io tup I wr ds St tg cb Rr Z₀ s₀ oa₀ i sl oa Z s₃:=fun k=>
     ⟨ds.length+1 - (i+1),by lia,i+1,sl3,oa3,Z₃,rfl,hlt,a.so,it3,go3,n3,by rw [hr];exact k⟩
    cases fl with
    | next=>cases fr;exact again k
    | cont=>cases fr;exact again k
    | brk=>cases fr;exact k _ _ _ _ ⟨a.so,go3,n3⟩ rfl
    | ret d=>obtain ⟨v,rfl,rv⟩:=fr;exact k _ _ _ _ ⟨a.so,go3,n3⟩ ⟨v,rfl,rv⟩
theorem SS.forr {t e:Expr} {tg:Tgt} {it:It} {body:List Stmt} {cb:Ss} {pos:Pos} (ht:Tg R t tg) (hi:SI R e it) (htup:it.isEnum=true→isTup t=true) (hset:notSet e=true) (hb:SSs R body cb):SS R (.For t e body [] pos) (.forr tg it cb):=by
 intro Y env io Z oa sl s Q E so k
 replace k:KSt R Y env io oa Q E Z s (Y.items it sl>>=fun xs=>forE (fun sl d k=>bindT sl tg d>>=fun sl'=>Y.sts cb sl'>>=loopS k) xs sl):=k
 refine wpAny_For (hi so.ok (KSt.post.bindI k fun ds I wr St Z₁ s₁ e1 g hit=> ?_)) (fun x=>Zrg hset x)
 rw [e1] at k
 exact ZtR ht hb htup (fun b hb=>(hit.new b hb).1) ⟨Nat.zero_le _,so.nx g,hit.iok so.ok,g.mono fun _ q=>q.elim,fun j a h=> .inl ⟨j,h⟩,k.noted so.ok.st so.ok.c.below.stack⟩
structure New (Y:Cx) (Z:Zm) (s:Shared) (xs:List D) (a:Addr) (Z':Zm) (s':Shared):Prop where
 nx:Nx Y Z s Z' s'
 fr:s.heap.get? a=none
 nz:Z' a=none
 at_:∃vs n,s'.heap.get? a=some (lstO vs n)∧vs.length≤SZ∧Reps Y.P Z' xs vs
noncomputable def KN (Y:Cx) (Q:Value→Shared→Prop) (E:Value→Shared→Prop) (Z:Zm) (s:Shared) (o:Out D):Prop:=match o with
 | .ok d=>∀xs a Z' s',d = .list xs→New Y Z s xs a Z' s'→Q (.ref a) s'
 | .exc=>∀x s',Ex No Y s x s'→E (.ref x) s'
 | .stuck=>False
theorem KN.post {Q:Value→Shared→Prop}:Post Y E (KN Y Q E) where
 step:=fun {Z s Z' s' o} k g=>by
  cases o with
  | ok d=>exact fun xs a Z₂ s₂ e n=>k xs a Z₂ s₂ e { n with nx:=g.nx n.nx,fr:=(g.ks.gone n.fr).resolve_left id }
  | exc=>exact fun x s₂ e=>k x s₂ (g.ex e fun _ q=>q.elim)
  | stuck=>exact k
 exc:=fun k=>k
 stuck:=fun k=>k
def SF (R:Rs) (e:Expr) (c:C):Prop:=∀{Y:Cx} {env:Env} {Z:Zm} {oa:Nat→Option Addr} {sl:List Slot} {s:Shared} {Q:Value→Shared→Prop} {E:Value→Shared→Prop},
 Ok R Y env Z oa sl s.heap→KN Y Q E Z s (Y.ex c sl)→wpAny Y.M Y.A (eval e env) Q E s
theorem KN.push {Q:Value→Shared→Prop} {vs:List Value} {xs:List D} {tk:Nat} (k:KN Y Q E Z s (.ok (.list xs))) (hs:Sub Z s.heap) (z:vs.length≤SZ) (q:Reps Y.P Z xs vs):Q (.ref s.heap.objs.size) { s with heap:=s.heap.push { cls:= .type "list",data:= .seq vs.toArray },toks:=tk }:=
 have fr:s.heap.get? s.heap.objs.size=none:=Heap.get?_none_of_le (Nat.le_refl _)
 k xs _ Z _ rfl ⟨ZqT hs _ tk,fr,hs.fresh fr,vs,0,Heap.get?_push_size _ rfl,z,q⟩
theorem SF.lst {es:List Expr} {cs:Cs} {pos:Pos} (h:SEs R es cs) (hz:es.length≤SZ) (hl:∀(Y:Cx) sl ds,Y.exs cs sl = .ok ds→ds.length=es.length):SF R (.List es pos) (.lst cs):=fun {Y env Z oa sl s Q E} c k=>
 List_ (h c (KN.post.bindE k fun ds vs Z₁ s₁ e g rv k=>have z:vs.length≤SZ:=by rw [rv.length,hl Y sl ds e];exact hz
  wpAny_newList (KN.push k g.sub z rv) (Nat.le_trans z Zqr)))
theorem SF.mul {a b:Expr} {ca cb:C} {pos:Pos} (ha:SE R a ca) (hb:SE R b cb) (hl:∀(Y:Cx) sl d,Y.ex ca sl = .ok d→∃xs,d = .list xs):SF R (.BinOp a .Mult b pos) (.bin .Mult ca cb):=fun {Y env Z oa sl s Q E} c k=>
 wpAny_BinOp (ha c (KN.post.bindE (f:=fun x=>Y.ex cb sl>>=fun y=>binop .Mult x y) k fun x v Z₁ s₁ e1 g rv k=>hb (c.nx g) (KN.post.bind k fun y u Z₂ s₂ g₂ ru k=>by
  obtain ⟨xs,rfl⟩:=hl Y sl x e1
  obtain ⟨a',vs,n',rfl,e,z,q⟩:=rv.up g₂.le
  cases y with
  | int n=>
   obtain ⟨t,rfl⟩:=ru
   replace k:KN Y Q E Z₂ s₂ (if 0≤n∧xs.length*n.toNat≤SZ∧n≤SZ then .ok (.list (List.replicate n.toNat xs).flatten) else .stuck):=k
   by_cases hc:0≤n∧xs.length*n.toNat≤SZ∧n≤SZ
   ·rw [if_pos hc] at k
    rw [←q.length] at hc
    exact ZsB (g₂.sub _ _ e) hc.1 hc.2.2 hc.2.1 (KN.push (tk:=s₂.toks) k g₂.sub (by rw [Ztg];exact hc.2.1) (q.replicate _))
   ·rw [if_neg hc] at k;exact False.elim k
  | _=>exact False.elim k)))
theorem SS.own {x:Str} {i:Nat} {e:Expr} {c:C} {p pos:Pos} (hx:R.put x=some i) (hn:noComp e=true) (h:SF R e c):SS R (.Assign [.Name x p] e pos) (.own i c):=by
 intro Y env io Z oa sl s Q E so k
 replace k:KSt R Y env io oa Q E Z s (Y.ex c sl>>=fun x=>listD x>>=fun xs=>nextK (setV sl i (.own xs))):=k
 refine wpAny_Assign_Name (h so.ok ?_) (ZqQ hn)
 cases ho:Y.ex c sl with
 | stuck=>rw [ho] at k;exact k
 | exc=>rw [ho] at k;exact KSt.post.exc k
 | ok d=>
  rw [ho] at k
  intro xs a Z₁ s₁ hd nw
  subst hd
  replace k:KSt R Y env io oa Q E Z s (.ok (.next,setV sl i (.own xs))):=k
  have ok1:=so.ok.nx nw.nx
  obtain ⟨vs,n,e1,z,rs⟩:=nw.at_
  have fre:=so.ok.fresh nw.fr
  obtain ⟨u,hu⟩:=ok1.has x i (Zqz hx)
  refine store ok1.st hu fun h2 tk2 st=> ?_
  have e2:h2.get? a=some (lstO vs n):=by
   obtain ⟨b,hm,sb,_⟩:=st.but
   exact SameBut.get sb (fun z=>fre.2.2.1 (by rw [z];exact ZqO hm)) e1
  let oa':Nat→Option Addr:=fun j=>if j=i then some a else oa j
  have hoi:oa' i=some a:=if_pos rfl
  have hoj:∀j,j≠i→oa' j=oa j:=fun j hj=>if_neg hj
  have hio:=so.ioR x i hx
  refine k _ oa' Z₁ _ ⟨⟨ok1.putS (oa':=oa') so.hB hx st ⟨a,vs,n,hoi,st.at_,e2,z,rs⟩ hoj fun b hb=> ?_,so.hB,fun j b hj=> ?_,so.ioR,fun j b hj=> ?_⟩,Nx.go nw.nx ((st.go ok1 hx).mono fun b q=> .inl (.inl q)),fun j b hj=> ?_⟩ rfl
  ·rw [hoi] at hb;cases hb
   exact ⟨nw.nz,trivial,fre.2.1,fre.2.2.1,by rw [e2];rfl,fun j _=>fre.2.2.2.1 j⟩
  ·by_cases z:j=i
   ·rw [z,hoi] at hj;cases hj;exact fre.2.2.2.2
   ·exact so.ob j b ((hoj j z).symm.trans hj)
  ·have q:=ZsH (t:= .own xs) hio so.io j b hj
   exact ⟨(hoj j fun z=>by rw [z,hio] at hj;cases hj).trans q.1,q.2⟩
  ·by_cases z:j=i
   ·rw [z,hoi] at hj;cases hj;exact .inr nw.fr
   ·exact .inl ⟨j,(hoj j z).symm.trans hj⟩
theorem SS.asgC {x:Str} {i:Nat} {elt:Expr} {gens:List Comprehension} {sc:Scope} {cp p pos:Pos} {n:Nat} {G:Gens} (hx:R.put x=some i) (h:SC R elt gens sc cp n G):SS R (.Assign [.Name x p] (.ListComp elt gens sc cp) pos) (.asg i (.comp n G)):=by
 intro Y env io Z oa sl s Q E so k
 rw [arm_exec_Assign]
 refine wpAny_bind (wpAny_standAt ?_)
 rw [show swapsWithSole [.Name x p] (.ListComp elt gens sc cp) pos.line env=pure (env.blockKind == .function && env.kindOf x == some .local && p.line == cp.line && !(sc.names.any fun (n,k)=>n == x && (k == .local || k == .cell))) from rfl]
 refine wpAny_bind (wpAny_pure ?_)
 cases (env.blockKind == .function && env.kindOf x == some .local && p.line == cp.line && !(sc.names.any fun (n,k)=>n == x && (k == .local || k == .cell))) with
 | false=>
  rw [if_neg Bool.false_ne_true]
  refine wpAny_bind (SE.comp h so.ok (KSt.post.bind k fun d v Z₁ s₁ g rv k=>wpAny_bind (wpAny_pure ?_)))
  show wpAny _ Y.A (assignAll v [assign (.Name x p) env]>>=fun _=>pure .next) Q E _
  exact wpAny_bind (wpAny_assign_Name ((so.nx g).put hx rv fun s₂ a=>wpAny_pure (k _ _ _ _ a rfl)))
 | true=>
  rw [if_pos rfl]
  refine wpAny_bind (wpAny_bind (h so.ok ?_))
  replace k:KSt R Y env io oa Q E Z s ((cmpr real Y.P.T (callT real Y.P.T Y.r) G sl (sl++List.replicate n .un) []>>=lstK)>>=fun x=>nextK (setV sl i (.val x))):=k
  revert k
  generalize cmpr real Y.P.T (callT real Y.P.T Y.r) G sl (sl++List.replicate n .un) []=o
  intro k
  cases o with
  | stuck=>exact k
  | exc=>exact KSt.post.exc k
  | ok xs=>
   intro Dd C Z₁ s₁ c
   obtain ⟨m,hm⟩:=c.ns
   obtain ⟨vs,n',e,z,q⟩:=c.acc
   have fre:=so.ok.fresh c.fC
   have g1:Nx Y Z s (Zput Z₁ Dd (lstO vs n')) s₁:=⟨c.nx.ks,fun b o q=>ZqH c.zD b o (c.nx.le b o q),fun b q=>by
    by_cases w:b=Dd
    ·exact .inr (.inr (w ▸ c.fD))
    ·exact c.nx.new b (by rwa [Zput,if_neg w] at q),c.nx.sub.put e,c.nx.same⟩
   have zC:Zput Z₁ Dd (lstO vs n') C=none:=by rw [Zput,if_neg (fun w=>c.ne w.symm)];exact c.zC
   refine wpAny_assign_Name ((so.nx g1).put hx (d:= .list xs) ⟨Dd,vs,n',rfl,Zqs,z,q.up (ZqH c.zD)⟩ fun s₂ a=> ?_)
   have nH:¬Wr R env oa C:=fun w=>w.elim (fun w=>fre.2.2.1 (Zqu w)) fun ⟨j,w⟩=>fre.2.2.2.1 j w
   refine ⟨m,ns_keep hm fun o ho=>⟨o,a.go.ks.keep C o ho nH fre.2.1,rfl⟩,fun h3 sb=>wpAny_pure ?_⟩
   replace sb:Heap.SameBut C s₂.heap h3:=sb
   have w:Wt [C] Y (Zput Z₁ Dd (lstO vs n')) s₂ (Zput Z₁ Dd (lstO vs n')) { s₂ with heap:=h3 }:= .of_keep (tk:=s₂.toks) a.go.sub (fun b hb=>by rw [List.mem_singleton.mp hb];exact ⟨zC,fre.2.1⟩) fun b o nb e=>SameBut.get sb (fun z=>nb (List.mem_singleton.mpr z)) e
   exact wpAny_pure (k _ oa _ _ ⟨{ a.so with ok:=a.so.ok.wt w fun b hb=>by rw [List.mem_singleton.mp hb];exact fre.2 },(Nx.go g1 a.go).trans w.go fun b q=> .inr (by rw [List.mem_singleton.mp q];exact c.fC),fun i a h=> .inl ⟨i,h⟩⟩ rfl)
end
end DK.Internal
end
section
set_option backward.match.sparseCases false
set_option genSizeOf false
set_option genCtorIdx false
namespace DK.Internal
open PySem PyProof.Rows
inductive NP (R:Rs):List Str→List Nat→Prop
 | nil:NP R [] []
 | cons {x i xs is}:R.put x=some i→NP R xs is→NP R (x::xs) (i::is)
theorem Zsv {α:Type} [BEq α] [LawfulBEq α] (n:Nat):∀l:List α,l.length≤n→l.eraseDups.length≤l.length∧(l.eraseDups.length=l.length→l.Nodup):=by
 induction n with
 | zero=>
  intro l h
  cases l with
  | nil=>exact ⟨Nat.le_refl _,fun _=> .nil⟩
  | cons a l=>exact absurd h (Nat.not_succ_le_zero _)
 | succ n ih=>
  intro l h
  cases l with
  | nil=>exact ⟨Nat.le_refl _,fun _=> .nil⟩
  | cons a as=>
   rw [List.eraseDups_cons]
   have hf:(as.filter fun b=> !b == a).length≤as.length:=List.length_filter_le _ _
   obtain ⟨h1,h2⟩:=ih (as.filter fun b=> !b == a) (Nat.le_trans hf (Nat.le_of_succ_le_succ h))
   rw [List.length_cons,List.length_cons]
   refine ⟨Nat.succ_le_succ (Nat.le_trans h1 hf),fun e=> ?_⟩
   have e:=Nat.succ.inj e
   have e1:(as.filter fun b=> !b == a).length=as.length:=Nat.le_antisymm hf (e ▸ h1)
   have e2:as.filter (fun b=> !b == a)=as:=(List.filter_sublist (l:=as) (p:=fun b=> !b == a)).eq_of_length e1
   have nd:=h2 (e.trans e1.symm)
   rw [e2] at nd
   refine List.nodup_cons.mpr ⟨fun m=> ?_,nd⟩
   have:=(List.filter_eq_self.mp e2) a m
   simp at this
section
variable {R:Rs}
theorem NP.append {xs ys:List Str} {is js:List Nat} (h:NP R xs is) (h':NP R ys js):NP R (xs++ys) (is++js):=by
 induction h with
 | nil=>exact h'
 | cons hi _ ih=>exact .cons hi ih
theorem NP.rev {xs:List Str} {is:List Nat} (h:NP R xs is):NP R xs.reverse is.reverse:=by
 induction h with
 | nil=>exact .nil
 | cons hi _ ih=>rw [List.reverse_cons,List.reverse_cons];exact ih.append (.cons hi .nil)
theorem NP.len {xs:List Str} {is:List Nat} (h:NP R xs is):xs.length=is.length:=by
 induction h with
 | nil=>rfl
 | cons _ _ ih=>exact congrArg (· + 1) ih
theorem NP.nodup (wf:R.WF) {xs:List Str} {is:List Nat} (h:NP R xs is):xs.Nodup→is.Nodup:=by
 have mem:∀{xs:List Str} {is:List Nat} {i:Nat},NP R xs is→i∈is→∃x∈xs,R.put x=some i:=fun {xs is i} h=>by
  induction h with
  | nil=>exact fun m=>nomatch m
  | cons hi _ ih=>exact fun m=>(List.mem_cons.mp m).elim (fun e=>⟨_,List.mem_cons_self ..,e ▸ hi⟩) fun m=>(ih m).imp fun x q=>⟨List.mem_cons_of_mem _ q.1,q.2⟩
 induction h with
 | nil=>exact fun _=> .nil
 | cons hi ht ih=>
  intro nd
  obtain ⟨n1,n2⟩:=List.nodup_cons.mp nd
  refine List.nodup_cons.mpr ⟨fun m=> ?_,ih n2⟩
  obtain ⟨y,hy,e⟩:=mem ht m
  exact n1 (wf.inj _ y _ (Zqz hi) (Zqz e) ▸ hy)
theorem ZsX {i:Nat} {d:D} (is:List Nat):∀{xs:List D} {sl sl':List Slot},i∉is→setAll sl is xs = .ok sl'→setAll (setV sl i (.val d)) is xs = .ok (setV sl' i (.val d)):=by
 induction is with
 | nil=>
  intro xs sl sl' _ h
  cases xs with
  | nil=>cases h;rfl
  | cons x xs=>cases h
 | cons j is ih=>
  intro xs sl sl' hi h
  cases xs with
  | nil=>cases h
  | cons x xs=>
   show setAll (setV (setV sl i (.val d)) j (.val x)) is xs=_
   rw [show setV (setV sl i (.val d)) j (.val x)=setV (setV sl j (.val x)) i (.val d) from List.set_comm _ _ fun q=>hi (q ▸ List.mem_cons_self ..)]
   exact ih (fun m=>hi (List.mem_cons_of_mem _ m)) h
theorem ZsY {i:Nat} {d:D} (is:List Nat):∀{xs:List D} {sl sl':List Slot},setAll sl is xs = .ok sl'→setAll sl (is ++ [i]) (xs ++ [d]) = .ok (setV sl' i (.val d)):=by
 induction is with
 | nil=>
  intro xs sl sl' h
  cases xs with
  | nil=>cases h;rfl
  | cons x xs=>cases h
 | cons j is ih=>
  intro xs sl sl' h
  cases xs with
  | nil=>cases h
  | cons x xs=>exact ih h
theorem Zsi (is:List Nat):∀{xs:List D} {sl:List Slot},is.length=xs.length→∃sl',setAll sl is xs = .ok sl':=by
 induction is with
 | nil=>
  intro xs sl h
  cases xs with
  | nil=>exact ⟨sl,rfl⟩
  | cons x xs=>cases h
 | cons i is ih=>
  intro xs sl h
  cases xs with
  | nil=>cases h
  | cons x xs=>exact ih (Nat.succ.inj h)
theorem ZsZ (is:List Nat):∀{xs:List D} {sl sl':List Slot},is.Nodup→is.length=xs.length→setAll sl is xs = .ok sl'→setAll sl is.reverse xs.reverse = .ok sl':=by
 induction is with
 | nil=>
  intro xs sl sl' _ hl h
  cases xs with
  | nil=>exact h
  | cons x xs=>cases hl
 | cons i is ih=>
  intro xs sl sl' nd hl h
  cases xs with
  | nil=>cases hl
  | cons x xs=>
   obtain ⟨n1,n2⟩:=List.nodup_cons.mp nd
   obtain ⟨sm,hsm⟩:=Zsi is (sl:=sl) (Nat.succ.inj hl)
   have h1:=ZsX is (i:=i) (d:=x) n1 hsm
   rw [show setAll sl (i::is) (x::xs)=setAll (setV sl i (.val x)) is xs from rfl,h1] at h;cases h
   rw [List.reverse_cons,List.reverse_cons]
   exact ZsY _ (ih n2 (Nat.succ.inj hl) hsm)
variable {Y:Cx} {env:Env} {oa:Nat→Option Addr} {Z:Zm} {sl sl':List Slot} {E:Value→Shared→Prop}
theorem Zsw {xs:List Str} {is:List Nat} (hB:Bs R Y env) (ht:NP R xs is):∀{vs:List Value} {ds:List D} {sl:List Slot} {s:Shared} {Q:Unit→Shared→Prop},Ok R Y env Z oa sl s.heap →
  Reps Y.P Z ds vs→setAll sl is ds = .ok sl'→(∀s',Ok R Y env Z oa sl' s'.heap→Go (Homes R env) Y Z s Z s'→Q () s')→wpAny Y.M Y.A (assignInOrder (xs.map fun n=>bindName env n) vs) Q E s:=by
 induction ht with
 | nil=>
  intro vs xs sl s Q ok rv hs hQ
  cases xs with
  | nil=>cases hs;cases (show vs = [] from rv);exact assignInOrder_nil (hQ s ok (.self ok.c.sub))
  | cons x xs=>cases hs
 | cons hi ht ih=>
  intro vs xs sl s Q ok rv hs hQ
  cases xs with
  | nil=>cases hs
  | cons d ds=>
   obtain ⟨v,us,rfl,r1,rs⟩:=rv
   exact assignInOrder_cons (wpAny_bindName (ZqW hB hi ok r1 fun s' ok' g=>ih ok' rs hs fun s₂ ok₂ g₂=>hQ s₂ ok₂ (g.trans g₂ fun b q=> .inl q)))
theorem ZtS (f:Expr→Option Str) (hf:∀x p,f (.Name x p)=some x∨f (.Name x p)=none) {ts:List Expr} {is:List Nat} (h:TgtN R ts is):(ts.filterMap f).length=ts.length→NP R (ts.filterMap f) is:=by
 induction h with
 | nil=>exact fun _=> .nil
 | @cons x i p es is hi ht ih=>
  intro hl
  have hle:(es.filterMap f).length≤es.length:=List.length_filterMap_le _ _
  rcases hf x p with e | e
  ·rw [List.filterMap_cons_some e] at hl ⊢
   exact .cons hi (ih (Nat.succ.inj hl))
  ·rw [List.filterMap_cons_none e] at hl
   rw [hl] at hle;exact absurd hle (Nat.not_succ_le_self _)
noncomputable def swapOk:Expr→Bool
 | .Tuple vs _ _=>vs.all (foldedForSure 8) || !(vs.all (constantsAlone 8))
 | e=>noComp e
theorem ZrS {ts:List Expr} {kn:Nat} {p:Pos} {v:Expr} {is:List Nat} (ht:TgtN R ts is) (hv:swapOk v=true) :
  swappedStores [.Tuple ts kn p] v env=pure none∨∃names,swappedStores [.Tuple ts kn p] v env=pure (some names)∧NP R names is∧names.Nodup:=by
 cases v with
 | Tuple vs k2 p2=>
  unfold swappedStores
  dsimp only
  split
  ·exact .inl rfl
  ·split
   ·exact .inl rfl
   ·split
    ·exact .inl rfl
    ·rename_i hlen
     split
     ·exact .inl rfl
     ·rename_i hfold
      split
      ·rename_i hcon
       exfalso
       replace hv:(vs.all (foldedForSure 8) || !(vs.all (constantsAlone 8)))=true:=hv
       rw [hcon,Bool.not_true,Bool.or_false] at hv
       exact hfold hv
      ·right
       simp only [Bool.or_eq_true,bne_iff_ne,ne_eq,not_or,Decidable.not_not] at hlen
       refine ⟨_,rfl,ZtS _ (fun x p=> ?_) ht hlen.1,(Zsv _ _ (Nat.le_refl _)).2 hlen.2⟩
       dsimp only
       split
       ·exact .inl rfl
       ·exact .inr rfl
 | _=>exact .inl rfl
theorem Ztx {v:Expr} (h:swapOk v=true):noComp v=true:=by cases v<;>first | rfl | exact h
theorem SS.unp {ts:List Expr} {kn:Nat} {p pos:Pos} {v:Expr} {is:List Nat} {c:C} (ht:TgtN R ts is) (hv:swapOk v=true) (h:SE R v c):SS R (.Assign [.Tuple ts kn p] v pos) (.unp is c):=by
 intro Y env io Z oa sl s Q E so k
 rw [arm_exec_Assign]
 refine wpAny_bind (wpAny_standAt ?_)
 rw [show swapsWithSole [.Tuple ts kn p] v pos.line env=pure false by unfold swapsWithSole;exact ZqQ (Ztx hv)]
 refine wpAny_bind (wpAny_pure ?_)
 rw [if_neg Bool.false_ne_true]
 refine wpAny_bind (h so.ok (KSt.post.bind k fun d u Z₁ s₁ g ru k=> ?_))
 cases d with
 | tuple xs=>
  replace k:KSt R Y env io oa Q E Z₁ s₁ ((if is.length=xs.length then Out.ok xs else .stuck)>>=fun xs=>setAll sl is xs>>=nextK):=k
  by_cases hl:is.length=xs.length
  ·rw [if_pos hl] at k
   obtain ⟨sl',hset⟩:=Zsi is (sl:=sl) hl
   replace k:KSt R Y env io oa Q E Z₁ s₁ (setAll sl is xs>>=nextK):=k
   rw [hset] at k
   have fin:∀s',Ok R Y env Z₁ oa sl' s'.heap→Go (Homes R env) Y Z₁ s₁ Z₁ s'→Q .next s':=fun s' ok' g'=>
    k _ _ _ _ ⟨⟨ok',so.hB,so.ob,so.ioR,fun j a hj=>by rw [(Zrf hset).2 j fun m=>by obtain ⟨x,hx⟩:=Zts ht j m;rw [so.ioR x j hx] at hj;cases hj];exact so.io j a hj⟩,g'.mono fun b q=> .inl (.inl q),fun i a h=> .inl ⟨i,h⟩⟩ rfl
   rcases ZrS (env:=env) (kn:=kn) (p:=p) ht hv with e | ⟨names,e,hnm,hnd⟩
   ·rw [e]
    refine wpAny_bind (wpAny_pure ?_)
    show wpAny _ Y.A (assignAll u [assign (.Tuple ts kn p) env]>>=fun _=>pure .next) Q E _
    exact wpAny_bind (ZqZ (tg:= .many is) so.hB (.many ht) (so.ok.nx g) ru (by show ((if is.length=xs.length then Out.ok xs else .stuck)>>=setAll sl is)=_;rw [if_pos hl];exact hset) fun s' ok' g'=>wpAny_pure (fin s' ok' g'))
   ·rw [e]
    refine wpAny_bind (wpAny_pure ?_)
    show wpAny _ Y.A (do
     rule "assign.swapped-stores"
     let items ←unpackItems u names.length none
     assignInOrder (names.reverse.map fun n=>bindName env n) items.reverse
     pure .next) Q E _
    refine wpAny_bind (wpAny_rule ?_)
    obtain ⟨a,vs,n,rfl,e2,z,rs⟩:=ru
    rw [show names.length=vs.toArray.size by rw [List.size_toArray,rs.length,←hl,hnm.len]]
    refine wpAny_bind (wpAny_unpackItems_tuple so.ok.c.hand ⟨_,g.sub _ _ e2,rfl,_,rfl⟩ fun h2 ex=> ?_)
    have g2:Nx Y Z₁ s₁ Z₁ { s₁ with heap:=h2 }:= .keeps g.sub (fun b o e=>ex b o (Nat.ne_of_lt (Heap.lt_size e)) e) s₁.toks
    exact wpAny_bind (Zsw so.hB hnm.rev ((so.ok.nx g).nx g2) rs.reverse (ZsZ is (hnm.nodup so.ok.st.wf hnd) hl hset) fun s' ok' g'=>wpAny_pure (fin s' ok' (Nx.go g2 g')))
  ·rw [if_neg hl] at k;exact False.elim k
 | _=>exact False.elim k
theorem Ok.hide {s:Shared} (ok:Ok R Y env Z oa sl s.heap):Ok R { Y with base:=PySem.W.hideAll s.heap (fas Y.l) } env Z oa sl s.heap:=
 {
  ok with
  st:={ ok.st with }
  c:={ ok.c with
   below:=⟨ok.c.below.stack,fun b o e=>PySem.W.of_hideAll _ e,ZqK (fun b hb o e nf=>⟨PySem.W.hideAll_none _ hb,o,e,nf⟩) ok.c.below.frames⟩
   gb:=fun b o e=>PySem.W.hideAll_get _ (ok.c.gh b o e) fun m=>by have:=ok.c.gz b o e;rw [ok.c.frz b m] at this;cases this } }
end
end DK.Internal
end
section
set_option backward.match.sparseCases false
set_option genSizeOf false
set_option genCtorIdx false
namespace DK.Internal
open PySem PyProof.Rows
section
variable {R:Rs} {Y:Cx} {env:Env} {io oa:Nat→Option Addr} {Z:Zm} {sl:List Slot} {s s':Shared} {Q:Flow→Shared→Prop} {E:Value→Shared→Prop}
structure HE (R:Rs) (he:Expr) (c:C):Prop where
 no:noComp he=true
 ev:∀{Y:Cx} {env:Env} {Z:Zm} {oa:Nat→Option Addr} {sl:List Slot} {s:Shared} {Q:Value→Shared→Prop} {E:Value→Shared→Prop} {A:Around},Ok R Y env Z oa sl s.heap→K Y Z (Rep Y.P) (Y.ex c sl) Q E s→wpAny Y.M A (eval he env) Q E s
theorem HE.str {x:Str} {n:Nat} {pos:Pos} (h:x.cps.size≤SZ):HE R (.Constant (.str x) n pos) (.k (.str x.cps.toList)):=⟨rfl,fun c k=>Calls.Constant_str (K.ok (d:=D.str x.cps.toList) k c.c.sub (rStr _ _ h) _)⟩
theorem hid_nx (ok:Ok R Y env Z oa sl s.heap) (st:(PySem.W.hideAll s.heap (fas Y.l)).StaysIn s'.heap) (us:∀b o,s.heap.get? b=some o→(∀vs,o.data≠.fields vs)→∃sl,s'.heap.get? b=some { o with slots:=sl }) (sm:s'={ s with heap:=s'.heap,toks:=s'.toks }):Nx Y Z s Z s':=
 have keep:∀b o,s.heap.get? b=some o→b∉fas Y.l→s'.heap.get? b=some o:=fun b o e nb=>st b o (PySem.W.hideAll_get _ e nb)
 have fr:∀b o,s.heap.get? b=some o→b∈fas Y.l→∃sl,s'.heap.get? b=some { o with slots:=sl }:=fun b o e hb=>by
  obtain ⟨_,o',e',nf⟩:=ZqA ok.c.below.frames b hb
  rw [e] at e';cases e'
  exact us b o e nf
 ⟨⟨fun b o e _ nb=>keep b o e nb,fun b o e _ hb=>fr b o e hb,fun _ _ _ q=>q.elim⟩,fun _ _ e=>e,fun _ e=> .inl e,fun b o e=>keep b o (ok.c.sub b o e) fun m=>(by rw [ok.c.frz b m] at e;cases e),sm⟩
theorem Zul:isSubtype (.type "ValueError") (.type "BaseException")=pure true:=by rw [isSubtype_type];kernel_rfl
theorem nt_exc:isSubtype (.type ((Manifest.find? "ValueError").elim "type" fun x=>x.metatype)) (.type "tuple")=pure false:=by rw [isSubtype_type];kernel_rfl
theorem ZtT:isSubtype (.type "ValueError") (.type "ValueError")=pure true:=by rw [isSubtype_type];kernel_rfl
theorem Zum {x y:Str} {xp yp hp hpos:Pos} {he:Expr} {hi:Nat} {ch:C} (hg:R.glob "ValueError" = true) (hy:R.put y=some hi) (hh:HE R he ch) (so:SOk R Y env io Z oa sl s.heap)
  (k:KSt R Y env io oa Q E Z s (Y.ex ch sl>>=fun x=>nextK (setV sl hi (.val x)))) (nex:Y.ex ch sl≠.exc) {a:Addr} {s₁:Shared} (e:Ex No { Y with base:=PySem.W.hideAll s.heap (fas Y.l) } s a s₁) :
  wpAny Y.M Y.A (noteFrame (.ref a) env) (fun _ s₂=>wpAny Y.M Y.A (setFlight (.ref a) none) (fun _ s₃=>wpAny Y.M Y.A (handleBy (.ref a) env [.ExceptHandler (some (.Name "ValueError" xp)) none [.Assign [.Name y yp] he hp] hpos]) Q E s₃) E s₂) E s₁:=by
 refine Zrc (Y:={ Y with base:=PySem.W.hideAll s.heap (fas Y.l) }) so.ok.c.below.stack so.ok.st.fr e.exc fun h2 H2 u2=> ?_
 have e2:=e.up u2 H2.exc
 obtain ⟨fenv,outer,hl,H2⟩:=H2
 replace hl:Y.l=fenv::outer:=hl
 refine ZrT (s:={ s₁ with heap:=h2 }) H2 fun h3 F3 u3=> ?_
 have nx:∀{h:Heap},Fly (PySem.W.hideAll s.heap (fas Y.l)) (fenv::outer) a h→(∀b o,s.heap.get? b=some o→(∀vs,o.data≠.fields vs)→∃sl,h.get? b=some { o with slots:=sl })→Nx Y Z s Z { s₁ with heap:=h }:=fun {h} f u=>by
  obtain ⟨a0,st,_⟩:=f
  exact hid_nx so.ok st u (by rw [e.same])
 have us3:∀b o,s.heap.get? b=some o→(∀vs,o.data≠.fields vs)→∃sl,h3.get? b=some { o with slots:=sl }:=fun b o q nf=>by
  obtain ⟨sl1,q1⟩:=e2.us b o q id nf
  obtain ⟨sl2,q2⟩:=u3 b _ q1 nf
  exact ⟨sl2,q2⟩
 have so3:=so.nx (nx F3 us3)
 have gs:=Zrs hg
 refine wpAny_handleBy_builtin (X:= "ValueError") (T:= "ValueError") (b:=true) Zul nt_exc ZtT (Calls.Name_function_global so.ok.st.kind (so.ok.st.gk _ gs.2.1) (Calls.loadGlobal_builtin so3.ok.g so.ok.c.glo.ve.1 so3.ok.b so.ok.c.glo.ve.2 ⟨rfl,?_,?_⟩) gs.2.2)
 ·obtain ⟨a0,_,_,_,oe,vs,T,oT,ts,he,⟨hcls,_⟩,_⟩:=F3
  exact ⟨oe,he,hcls⟩
 rw [if_pos rfl]
 refine ZtE (s:={ s₁ with heap:=h3 }) F3 fun h4 F4 u4=> ?_
 have g4:=nx F4 fun b o q nf=>by
  obtain ⟨sl1,q1⟩:=us3 b o q nf
  obtain ⟨sl2,q2⟩:=u4 b _ q1 nf
  exact ⟨sl2,q2⟩
 have so4:=so.nx g4
 have k4:=KSt.post.step k g4
 refine wpAny_execs_cons (wpAny_Assign_Name (hh.ev so4.ok ?_) (ZqQ hh.no))
 cases ho:Y.ex ch sl with
 | exc=>exact absurd ho nex
 | stuck=>rw [ho] at k4;exact False.elim k4
 | ok d=>
  rw [ho] at k4
  exact fun v Z₅ s₅ g5 rv=>(so4.nx g5).put hy rv fun s₆ a=>wpAny_execs_nil (KSt.post.step (o:= .ok (.next,setV sl hi (.val d))) k4 g5 _ _ _ _ a rfl)
theorem ZtU {ee:Expr} {c:C} {i:Option Nat} {hi:Nat} {h:List Slot→Out D} (hs:SE R ee c) (so:SOk R Y env io Z oa sl s.heap) (k:KSt R Y env io oa Q E Z s (triO i hi h sl (Y.ex c sl))) {Q':Value→Shared→Prop} {E':Value→Shared→Prop}
  (kOk:∀d v Z' s',Nx Y Z s Z' s'→Rep Y.P Z' d v→KSt R Y env io oa Q E Z' s' (nextK (putO sl i d))→Q' v s')
  (kEx:KSt R Y env io oa Q E Z s (h sl>>=fun x=>nextK (setV sl hi (.val x)))→∀a s₁,Ex No { Y with base:=PySem.W.hideAll s.heap (fas Y.l) } s a s₁→E' (.ref a) s₁):wpAny Y.M Y.A (eval ee env) Q' E' s:=by
 refine hs (Y:={ Y with base:=PySem.W.hideAll s.heap (fas Y.l) }) so.ok.hide ?_
 show K _ Z (Rep Y.P) (Y.ex c sl) Q' E' s
 revert k
 generalize Y.ex c sl=o
 intro k
 cases o with
 | stuck=>exact False.elim k
 | exc=>exact fun a s₁ e=>kEx k a s₁ e
 | ok d=>exact fun v Z' s' g rv=>kOk d v Z' s' ⟨g.ks,g.le,g.new,g.sub,g.same⟩ rv (KSt.post.step (o:=nextK (putO sl i d)) k ⟨g.ks,g.le,g.new,g.sub,g.same⟩)
theorem SS.tri {z y:Str} {zp xp yp tp hp hpos ap:Pos} {ee he:Expr} {j hi:Nat} {c ch:C} (hg:R.glob "ValueError" = true) (hz:R.put z=some j) (hn:noComp ee=true) (hs:SE R ee c) (hy:R.put y=some hi) (hh:HE R he ch) (nex:∀(Y:Cx) sl,Y.ex ch sl≠.exc) :
  SS R (.Try [.Assign [.Name z zp] ee ap] [.ExceptHandler (some (.Name "ValueError" xp)) none [.Assign [.Name y yp] he hp] hpos] [] [] tp) (.tri (some j) c hi ch):=fun {Y env io Z oa sl s Q E} so k=>
 wpAny_Try_except (wpAny_execs_cons (wpAny_Assign_Name (ZtU hs so k (fun d v Z₁ s₁ g rv k=>(so.nx g).put hz rv fun s₂ a=>wpAny_execs_nil (wpAny_execs_nil (k _ _ _ _ a rfl))) fun k a s₁ e=>Zum (x:=y) hg hy hh so k (nex Y sl) e) (ZqQ hn)))
end
end DK.Internal
end
section
set_option backward.match.sparseCases false
set_option genSizeOf false
set_option genCtorIdx false
namespace DK.Internal
open PySem PyProof.Rows
noncomputable def Cx.args (Y:Cx) (c:As) (sl:List Slot):Out (List Slot):=DK.Internal.args real Y.P.T (callT real Y.P.T Y.r) c sl
inductive AsT (R:Rs):List Bool→List Expr→As→Prop
 | nil:AsT R [] [] .nil
 | val {e c bs es as}:SE R e c→noStar e=true→AsT R bs es as→AsT R (false::bs) (e::es) (.val c as)
 | own {x i p bs es as}:R.loc.lookup x=some i→(x == ("__debug__" : Str))=false→AsT R bs es as→AsT R (true::bs) (.Name x p::es) (.own i as)
 | fresh {p bs es as}:AsT R bs es as→AsT R (true::bs) (.List [] p::es) (.fresh as)
inductive AdsOk (oa:Nat→Option Addr) (h₀:Heap):List Bool→As→List (Option Addr)→Prop
 | nil:AdsOk oa h₀ [] .nil []
 | val {c bs r ads}:AdsOk oa h₀ bs r ads→AdsOk oa h₀ (false::bs) (.val c r) (none::ads)
 | own {i a bs r ads}:oa i=some a→AdsOk oa h₀ bs r ads→AdsOk oa h₀ (true::bs) (.own i r) (some a::ads)
 | fresh {a bs r ads}:h₀.get? a=none→some a∉ads→AdsOk oa h₀ bs r ads→AdsOk oa h₀ (true::bs) (.fresh r) (some a::ads)
section
variable {oa:Nat→Option Addr} {h h₀:Heap} {bs:List Bool} {as:As} {ads:List (Option Addr)}
theorem AdsOk.mono (x:AdsOk oa h bs as ads) (k:∀b,h.get? b=none→h₀.get? b=none):AdsOk oa h₀ bs as ads:=by
 induction x with
 | nil=>exact .nil
 | val _ ih=>exact .val ih
 | own e _ ih=>exact .own e ih
 | fresh e n _ ih=>exact .fresh (k _ e) n ih
theorem AdsOk.mem (x:AdsOk oa h bs as ads) {b:Addr}:AsIn ads b→(∃i∈asOwn as,oa i=some b)∨h.get? b=none:=by
 induction x with
 | nil=>exact fun m=>nomatch m
 | val _ ih=>exact fun m=>ih ((List.mem_cons.mp m).resolve_left fun q=>nomatch q)
 | own e _ ih=>exact fun m=>(List.mem_cons.mp m).elim (fun q=> .inl ⟨_,List.mem_cons_self ..,by cases q;exact e⟩) fun m=>(ih m).imp (fun ⟨i,q,r⟩=>⟨i,List.mem_cons_of_mem _ q,r⟩) id
 | fresh e n _ ih=>exact fun m=>(List.mem_cons.mp m).elim (fun q=> .inr (by cases q;exact e)) ih
theorem AdsOk.inj (x:AdsOk oa h bs as ads) (oinj:∀i j a,oa i=some a→oa j=some a→i=j) (al:∀j a,oa j=some a→(h.get? a).isSome=true):(asOwn as).Nodup→∀(i j:Nat) (b:Addr),ads[i]?=some (some b)→ads[j]?=some (some b)→i=j:=by
 have step:∀{a:Addr} {ads:List (Option Addr)},some a∉ads→(∀(i j:Nat) (b:Addr),ads[i]?=some (some b)→ads[j]?=some (some b)→i=j)→∀(i j:Nat) (b:Addr),(some a::ads)[i]?=some (some b)→(some a::ads)[j]?=some (some b)→i=j:=by
  intro a ads n ih i j b hi hj
  cases i with
  | zero=>
   cases j with
   | zero=>rfl
   | succ j=>cases hi;exact absurd (List.mem_of_getElem? (show ads[j]?=some (some a) from hj)) n
  | succ i=>
   cases j with
   | zero=>cases hj;exact absurd (List.mem_of_getElem? (show ads[i]?=some (some a) from hi)) n
   | succ j=>exact congrArg (· + 1) (ih i j b hi hj)
 induction x with
 | nil=>exact fun _ i j b hi=>nomatch hi
 | val _ ih=>
  intro nd i j b hi hj
  cases i with
  | zero=>cases hi
  | succ i=>
   cases j with
   | zero=>cases hj
   | succ j=>exact congrArg (· + 1) (ih nd i j b hi hj)
 | @own i a bs r ads e x ih=>
  intro nd
  obtain ⟨n1,n2⟩:=List.nodup_cons.mp nd
  refine step (fun m=> ?_) (ih n2)
  rcases x.mem m with ⟨j,hj,e'⟩ | z
  ·exact n1 (oinj i j a e e' ▸ hj)
  ·have:=al i a e;rw [z] at this;cases this
 | fresh e n _ ih=>exact fun nd=>step n (ih nd)
theorem AdsOk.flags (x:AdsOk oa h bs as ads):∀{ps:List Str},ps.length=ads.length→∀(i:Nat) (b:Addr),ads[i]?=some (some b)→∃x,ps[i]?=some x∧x∈refsOf ps bs:=by
 induction x with
 | nil=>exact fun _ i b hi=>nomatch hi
 | val _ ih=>
  intro ps hl i b hi
  cases ps with
  | nil=>cases hl
  | cons p ps=>
   cases i with
   | zero=>cases hi
   | succ i=>exact ih (Nat.succ.inj hl) i b hi
 | own _ _ ih=>
  intro ps hl i b hi
  cases ps with
  | nil=>cases hl
  | cons p ps=>
   cases i with
   | zero=>exact ⟨p,rfl,List.mem_cons_self ..⟩
   | succ i=>exact (ih (Nat.succ.inj hl) i b hi).imp fun y q=>⟨q.1,List.mem_cons_of_mem _ q.2⟩
 | fresh _ _ _ ih=>
  intro ps hl i b hi
  cases ps with
  | nil=>cases hl
  | cons p ps=>
   cases i with
   | zero=>exact ⟨p,rfl,List.mem_cons_self ..⟩
   | succ i=>exact (ih (Nat.succ.inj hl) i b hi).imp fun y q=>⟨q.1,List.mem_cons_of_mem _ q.2⟩
theorem ArgsAt.len {P:Prg} {Z:Zm} {vs:List Value} {sls:List Slot} (x:ArgsAt P Z h vs sls ads):sls.length=ads.length∧vs.length=ads.length:=by
 induction x with
 | nil=>exact ⟨rfl,rfl⟩
 | val _ _ ih=>exact ⟨congrArg (· + 1) ih.1,congrArg (· + 1) ih.2⟩
 | own _ _ _ _ ih=>exact ⟨congrArg (· + 1) ih.1,congrArg (· + 1) ih.2⟩
theorem Zta {P:Prg} {Z:Zm} (ao:AdsOk oa h₀ bs as ads):∀{os sl sl':List Slot},BackAt P Z h os ads→back as os sl = .ok sl' →
  sl'.length=sl.length∧∀j,(j∉asOwn as∧sl'[j]?=sl[j]?)∨(∃a us n ys,(j∈asOwn as∧oa j=some a)∧h.get? a=some (lstO us n)∧us.length≤SZ∧Reps P Z ys us∧(j < sl.length→sl'[j]?=some (.own ys))):=by
 induction ao with
 | nil=>
  intro os sl sl' ba hb
  cases ba;cases hb;exact ⟨rfl,fun j=> .inl ⟨fun m=>(nomatch m),rfl⟩⟩
 | val _ ih=>
  intro os sl sl' ba hb
  cases ba with
  | val ba=>exact ih ba hb
 | fresh _ _ _ ih=>
  intro os sl sl' ba hb
  cases ba with
  | own _ _ _ ba=>exact ih ba hb
 | @own i a bs r ads e ao ih=>
  intro os sl sl' ba hb
  cases ba with
  | @own _ us n xs _ _ e1 e2 e3 ba=>
   obtain ⟨h1,h2⟩:=ih ba hb
   have hlen:(setV sl i (.own xs)).length=sl.length:=List.length_set ..
   refine ⟨h1.trans hlen,fun j=> ?_⟩
   rcases h2 j with ⟨q1,q2⟩ | ⟨a',us',n',ys',q1,q2,q3,q4,q5⟩
   ·by_cases z:i=j
    ·subst z
     exact .inr ⟨a,us,n,xs,⟨List.mem_cons_self ..,e⟩,e1,e2,e3,fun hlt=>by rw [q2,ZqF,if_pos ⟨rfl,hlt⟩]⟩
    ·exact .inl ⟨fun m=>(List.mem_cons.mp m).elim (fun q=>z q.symm) q1,by rw [q2,ZqF,if_neg (fun q=>z q.1)]⟩
   ·exact .inr ⟨a',us',n',ys',⟨List.mem_cons_of_mem _ q1.1,q1.2⟩,q2,q3,q4,fun hlt=>q5 (by rw [hlen];exact hlt)⟩
theorem Ztb:∀(as:As) (os sl:List Slot),back as os sl≠.exc:=by
 intro as
 induction as with
 | nil=>exact fun _ _ e=>nomatch e
 | val c r ih=>intro os sl;cases os with
  | nil=>exact fun e=>nomatch e
  | cons o os=>exact ih os sl
 | own i r ih=>intro os sl;cases os with
  | nil=>exact fun e=>nomatch e
  | cons o os=>cases o with
   | own ys=>exact ih os _
   | _=>exact fun e=>nomatch e
 | fresh r ih=>intro os sl;cases os with
  | nil=>exact fun e=>nomatch e
  | cons o os=>cases o with
   | own ys=>exact ih os _
   | _=>exact fun e=>nomatch e
end
structure AEnd (Y:Cx) (oa:Nat→Option Addr) (bs:List Bool) (as:As) (Z:Zm) (s:Shared) (sls:List Slot) (vs:List Value) (ads:List (Option Addr)) (Z':Zm) (s':Shared):Prop where
 nx:Nx Y Z s Z' s'
 at_:ArgsAt Y.P Z' s'.heap vs sls ads
 ao:AdsOk oa s.heap bs as ads
 nz:∀b,AsIn ads b→Z' b=none
noncomputable def KA (Y:Cx) (oa:Nat→Option Addr) (bs:List Bool) (as:As) (Q:List Value→Shared→Prop) (E:Value→Shared→Prop) (Z:Zm) (s:Shared) (o:Out (List Slot)):Prop:=match o with
 | .ok sls=>∀vs ads Z' s',AEnd Y oa bs as Z s sls vs ads Z' s'→Q vs s'
 | .exc=>∀x s',Ex No Y s x s'→E (.ref x) s'
 | .stuck=>False
section
variable {R:Rs} {Y:Cx} {env:Env} {io oa:Nat→Option Addr} {Z:Zm} {sl:List Slot} {s:Shared} {E:Value→Shared→Prop}
theorem KA.step {bs as Q} {Z':Zm} {s':Shared} {o:Out (List Slot)} (k:KA Y oa bs as Q E Z s o) (g:Nx Y Z s Z' s'):KA Y oa bs as Q E Z' s' o:=by
 cases o with
 | ok sls=>exact fun vs ads Z₂ s₂ a=>k vs ads Z₂ s₂ { a with nx:=g.nx a.nx,ao:=a.ao.mono fun b z=>(g.ks.gone z).resolve_left id }
 | exc=>exact fun x s₂ e=>k x s₂ (g.ex e fun _ q=>q.elim)
 | stuck=>exact k
theorem Ztc {bs:List Bool} {es:List Expr} {as:As} (h:AsT R bs es as):∀{Z:Zm} {s:Shared} {Q:List Value→Shared→Prop} {pos:Pos},Ok R Y env Z oa sl s.heap→KA Y oa bs as Q E Z s (Y.args as sl)→wpAny Y.M Y.A (spliced (backTo pos (starEach es env))) Q E s:=by
 induction h with
 | nil=>exact fun ok k=>Calls.spliced_nil (k [] [] _ _ ⟨.self ok.c.sub,.nil,.nil,fun b m=>absurd m List.not_mem_nil⟩)
 | @val e c bs es as h hn _ ih=>
  intro Z s Q pos ok k
  rw [Zqy hn]
  replace k:KA Y oa (false::bs) (.val c as) Q E Z s (Y.ex c sl>>=fun x=>Y.args as sl>>=fun xs=> .ok (.val x::xs)):=k
  refine Calls.spliced_cons (h ok ?_)
  revert k
  generalize Y.ex c sl=o
  intro k
  cases o with
  | stuck=>exact k
  | exc=>exact k
  | ok d=>
   intro v Z₁ s₁ g rv
   refine ih (pos:=pos) (ok.nx g) ?_
   replace k:=KA.step (o:=Y.args as sl>>=fun xs=> .ok (.val d::xs)) k g
   revert k
   generalize Y.args as sl=o
   intro k
   cases o with
   | stuck=>exact k
   | exc=>exact k
   | ok sls=>exact fun vs ads Z₂ s₂ a=>k (v::vs) (none::ads) Z₂ s₂ ⟨a.nx,.val (rv.up a.nx.le) a.at_,.val a.ao,fun b m=>a.nz b ((List.mem_cons.mp m).resolve_left (by intro q;cases q))⟩
 | @own x i p bs es as hx hd _ ih=>
  intro Z s Q pos ok k
  replace k:KA Y oa (true::bs) (.own i as) Q E Z s (ownD sl i>>=fun ys=>Y.args as sl>>=fun xs=> .ok (.own ys::xs)):=k
  have hv:=ok.var x i hx
  unfold ownD at k
  cases hs:sl[i]? with
  | none=>rw [hs] at k;exact False.elim k
  | some t=>
   rw [hs] at k hv
   cases t with
   | own xs=>
    obtain ⟨a,us,n,a0,a1,a2,a3,a4⟩:=hv
    replace k:KA Y oa (true::bs) (.own i as) Q E Z s (Y.args as sl>>=fun ys=> .ok (.own xs::ys)):=k
    refine Calls.spliced_cons (wpAny_Name (ZqE ok.st.kind a1 (ih (pos:=pos) ok ?_)) hd)
    revert k
    generalize Y.args as sl=o
    intro k
    have ow:=ok.own i a a0
    cases o with
    | stuck=>exact k
    | exc=>exact k
    | ok sls=>exact fun vs ads Z₂ s₂ e=>k (.ref a::vs) (some a::ads) Z₂ s₂ ⟨e.nx,.own (Zrl ok e.nx a0 a2) a3 (a4.up e.nx.le) e.at_,.own a0 e.ao,fun b m=>(List.mem_cons.mp m).elim (fun q=>(Option.some.inj q).symm ▸ e.nx.still ow.1 ow.2.2.2.2) (e.nz b)⟩
   | _=>exact False.elim k
 | @fresh p bs es as _ ih=>
  intro Z s Q pos ok k
  replace k:KA Y oa (true::bs) (.fresh as) Q E Z s (Y.args as sl>>=fun xs=> .ok (.own []::xs)):=k
  refine Calls.spliced_cons (List_ (Calls.spliced_nil (wpAny_newList (ih (pos:=pos) (ok.nx (ZqT ok.c.sub _ s.toks)) ?_) (Nat.zero_le _))))
  have fa:s.heap.get? s.heap.objs.size=none:=Heap.get?_none_of_le (Nat.le_refl _)
  have hp:(s.heap.push (lstO [] 0)).get? s.heap.objs.size=some (lstO [] 0):=Heap.get?_push_size _ rfl
  have fre:=ok.fresh fa
  revert k
  generalize Y.args as sl=o
  intro k
  have g:Nx Y Z s Z { s with heap:=s.heap.push (lstO [] 0),toks:=s.toks }:=ZqT ok.c.sub _ _
  cases o with
  | stuck=>exact k
  | exc=>exact fun x s₂ e=>k x s₂ (g.ex e fun _ q=>q.elim)
  | ok sls=>
   intro vs ads Z₂ s₂ e
   have na:some s.heap.objs.size∉ads:=fun m=>(e.ao.mem m).elim (fun ⟨j,_,q⟩=>fre.2.2.2.1 j q) fun z=>(by rw [show (s.heap.push (lstO [] 0)).get? s.heap.objs.size=none from z] at hp;cases hp)
   exact k (.ref s.heap.objs.size::vs) (some s.heap.objs.size::ads) Z₂ s₂ ⟨g.nx e.nx,.own (us:= []) (n:=0) (e.nx.ks.keep _ _ hp id fre.2.1) (Nat.zero_le _) rfl e.at_,.fresh fa na (e.ao.mono fun b z=>(g.ks.gone z).resolve_left id),
    fun b m=>(List.mem_cons.mp m).elim (fun q=>(Option.some.inj q).symm ▸ e.nx.still fre.1 ((congrArg Option.isSome hp).trans rfl)) (e.nz b)⟩
theorem AsT.star {bs:List Bool} {e:Expr} {es:List Expr} {as:As} (h:AsT R bs (e::es) as):noStar e=true:=by cases h<;>first | rfl | assumption
theorem AsT.len {bs:List Bool} {es:List Expr} {as:As} (h:AsT R bs es as):bs.length=es.length:=by
 induction h with
 | nil=>rfl
 | val _ _ _ ih=>exact congrArg (· + 1) ih
 | own _ _ _ ih=>exact congrArg (· + 1) ih
 | fresh _ ih=>exact congrArg (· + 1) ih
theorem ZtV {as:As}:∀{sls:List Slot} {j:Nat},j∈asOwn as→Y.args as sl = .ok sls→∃xs,sl[j]?=some (.own xs):=by
 induction as with
 | nil=>exact fun h=>nomatch h
 | val c r ih=>
  intro sls j h hr
  replace hr:(Y.ex c sl>>=fun x=>Y.args r sl>>=fun xs=> .ok (.val x::xs)) = .ok sls:=hr
  cases h1:Y.ex c sl with
  | ok x=>
   rw [h1] at hr
   cases h2:Y.args r sl with
   | ok xs=>exact ih h h2
   | _=>rw [show (Out.ok x>>=fun x=>Y.args r sl>>=fun xs=>Out.ok (Slot.val x::xs))=(Y.args r sl>>=fun xs=> .ok (.val x::xs)) from rfl,h2] at hr;cases hr
  | _=>rw [h1] at hr;cases hr
 | own i r ih=>
  intro sls j h hr
  replace hr:(ownS sl[i]?>>=fun ys=>Y.args r sl>>=fun xs=> .ok (.own ys::xs)) = .ok sls:=hr
  cases hs:sl[i]? with
  | none=>rw [hs] at hr;cases hr
  | some t=>
   rw [hs] at hr
   cases t with
   | own ys=>
    rcases List.mem_cons.mp h with rfl | h
    ·exact ⟨ys,hs⟩
    ·cases h2:Y.args r sl with
     | ok xs=>exact ih h h2
     | _=>rw [show (ownS (some (.own ys))>>=fun ys=>Y.args r sl>>=fun xs=>Out.ok (Slot.own ys::xs))=(Y.args r sl>>=fun xs=> .ok (.own ys::xs)) from rfl,h2] at hr;cases hr
   | _=>cases hr
 | fresh r ih=>
  intro sls j h hr
  replace hr:(Y.args r sl>>=fun xs=> .ok (.own []::xs)) = .ok sls:=hr
  cases h2:Y.args r sl with
  | ok xs=>exact ih h h2
  | _=>rw [h2] at hr;cases hr
theorem BackAt.alive {P:Prg} {Z:Zm} {h:Heap} {os:List Slot} {ads:List (Option Addr)} (x:BackAt P Z h os ads) {b:Addr}:AsIn ads b→(h.get? b).isSome=true:=by
 induction x with
 | nil=>exact fun m=>nomatch m
 | val _ ih=>exact fun m=>ih ((List.mem_cons.mp m).resolve_left fun q=>nomatch q)
 | own e _ _ _ ih=>exact fun m=>(List.mem_cons.mp m).elim (fun q=>by cases q;rw [e];rfl) ih
theorem SS.callx {f:Str} {e:Expr} {es:List Expr} {p q sp:Pos} {i:Nat} {bs:List Bool} {as:As} (hg:R.glob f=true) (hi:R.fns.lookup f=some i) (hio:R.io.lookup f=some bs) (has:AsT R bs (e::es) as):SS R (.Expr (.Call (.Name f p) (e::es) [] q) sp) (.callx i as):=by
 intro Y env io Z oa sl s Q E so k
 refine wpAny_Expr_any ?_ (Zqq so) rfl
 rw [arm_eval_Call_Name']
 obtain ⟨a,fd,d,hmg,ho,hname⟩:=so.ok.c.glo.fn f i (so.ok.st.fns ▸ hi)
 refine wpAny_bind (ZqS so.ok hg hmg ?_)
 obtain ⟨o,ho1,ho2⟩:=ho.obj
 refine KSt.need (o:=Y.args as sl>>=fun xs=>outX (callT real Y.P.T Y.r i xs)>>=fun os=>back as os sl>>=nextK) k fun hnd k=> ?_
 have main:wpAny Y.M Y.A (spliced (backTo q (starEach (e::es) env))) (fun vs s₁=>(s₁.heap.get? a=some o∧o.data = .func fd)∧wpAny Y.M Y.A (PySem.call (.ref a) ([]++vs) []) (fun _=>Q .next) E s₁) E s:=by
  refine Ztc has so.ok ?_
  cases hs:Y.args as sl with
  | stuck=>rw [hs] at k;exact k
  | exc=>rw [hs] at k;exact KSt.post.exc k
  | ok sls=>
   rw [hs] at k
   replace k:KSt R Y env io oa Q E Z s (outX (callT real Y.P.T Y.r i sls)>>=fun os=>back as os sl>>=nextK):=k
   intro vs ads Z₁ s₁ ae
   have c1:=so.ok.c.nx ae.nx
   refine ⟨⟨c1.gh _ _ ho1,ho2⟩,?_⟩
   have mem:∀b,AsIn ads b→b∉fas Y.l∧Y.base.get? b=none∧¬Loc env b:=fun b m=>(ae.ao.mem m).elim (fun ⟨j,_,q⟩=>have o:=so.ok.own j b q;⟨o.2.2.1,so.ob j b q,o.2.2.2.1⟩) fun z=>have f:=so.ok.fresh z;⟨f.2.1,f.2.2.2.2,f.2.2.1⟩
   refine so.ok.st.calls Y rfl rfl c1 ho ae.at_ (ae.ao.inj so.ok.oinj (fun j a q=>(so.ok.own j a q).2.2.2.2) hnd) (fun b m=>⟨ae.nz b m,(mem b m).2.1,(mem b m).1⟩) (fun hl=> ?_) ?_
   ·rw [show (Y.P.io.lookup d.name).getD []=bs by rw [hname,←so.ok.st.io,hio];rfl]
    exact ae.ao.flags (hl.trans ae.at_.len.1)
   revert k
   generalize callT real Y.P.T Y.r i sls=oo
   intro k
   cases oo with
   | stuck=>exact False.elim k
   | exc=>exact False.elim k
   | ok y=>
    obtain ⟨fl,os⟩:=y
    cases fl with
    | ret dd=>
     intro v Z₂ s₂ g2 nz2 rv ba
     replace k:KSt R Y env io oa Q E Z s (back as os sl>>=nextK):=k
     cases hbk:back as os sl with
     | exc=>exact absurd hbk (Ztb _ _ _)
     | stuck=>rw [hbk] at k;exact False.elim k
     | ok sl'=>
      rw [hbk] at k
      obtain ⟨hlen,hsl⟩:=Zta ae.ao ba hbk
      have ok1:=so.ok.nx ae.nx
      have nL:∀b,Loc env b→¬AsIn ads b:=fun b l m=>(mem b m).2.2 l
      have kd:∀b o,¬AsIn ads b→s₁.heap.get? b=some o→∃o',s₂.heap.get? b=some o'∧o'.data=o.data:=fun b o n e=>g2.ks.stay e n
      have still:∀b,Z₁ b=none→(s₁.heap.get? b).isSome=true→Z₂ b=none∧(s₂.heap.get? b).isSome=true:=fun b z e=>by
       by_cases m:AsIn ads b
       ·exact ⟨nz2 b m,ba.alive m⟩
       ·refine ⟨?_,?_⟩
        ·cases q:Z₂ b with
         | none=>rfl
         | some o=>
          rcases g2.new b (by rw [q];exact nofun) with n | n | n
          ·exact absurd z n
          ·exact absurd n m
          ·rw [n] at e;cases e
        ·cases q:s₁.heap.get? b with
         | none=>rw [q] at e;cases e
         | some o=>obtain ⟨o',e',_⟩:=kd b o m q;rw [e'];rfl
      have kv:∀{y v},VarAt s₁.heap env y v→VarAt s₂.heap env y v:=fun q=>q.keep fun b o l e=>kd b o (nL b l) e
      have ok2:Ok R Y env Z₂ oa sl' s₂.heap:=
       {
        ok1 with
        c:=ok1.c.ks g2.ks (fun b m=>(mem b m).2.1) g2.le g2.sub fun b hb=>(still b (ok1.c.frz b hb) (by obtain ⟨_,o,e,_⟩:=ZqA ok1.c.below.frames b hb;rw [e];rfl)).1
        var:=fun y j e=>by
         have q:=ok1.var y j e
         rcases hsl j with ⟨q1,q2⟩ | ⟨a',us',n',ys',q1,q2,q3,q4,q5⟩
         ·rw [q2]
          refine q.keep g2.le kv fun a' o ha e=>g2.ks.keep a' o e (fun m=> ?_) (ok1.own j a' ha).2.2.1
          rcases ae.ao.mem m with ⟨m',hm,e'⟩ | z
          ·exact q1 (so.ok.oinj m' j a' e' ha ▸ hm)
          ·have:=(so.ok.own j a' ha).2.2.2.2;rw [z] at this;cases this
         ·rw [q5 (by rw [so.ok.len];exact so.ok.st.wf.lt y j e)]
          obtain ⟨xs,hxs⟩:=ZtV q1.1 hs
          rw [hxs] at q
          obtain ⟨a'',vs',n'',a0,a1,_⟩:=q
          rw [q1.2] at a0;cases a0
          exact ⟨a',us',n',q1.2,kv a1,q2,q3,q4⟩
        has:=fun y j e=>(ok1.has y j e).imp fun _ q=>kv q
        len:=hlen.trans so.ok.len
        loz:=fun b q=>still b (ok1.loz b q).1 (ok1.loz b q).2
        own:=fun j a q=>have o:=ok1.own j a q;have t:=still a o.1 o.2.2.2.2;⟨t.1,o.2.1,o.2.2.1,o.2.2.2.1,t.2⟩
        ns:=ok1.ns.imp fun m q=>ns_keep q fun o e=>kd _ o (nL _ (.inl rfl)) e }
      refine k _ oa Z₂ s₂ ⟨⟨ok2,so.hB,so.ob,so.ioR,fun j b hj=>⟨(so.io j b hj).1,?_⟩⟩,(Nx.go ae.nx g2).mono fun b m=>(ae.ao.mem m).imp (fun ⟨j,_,q⟩=> .inr ⟨j,q⟩) id,fun i a h=> .inl ⟨i,h⟩⟩ rfl
      obtain ⟨xs,hxs⟩:=(so.io j b hj).2
      rcases hsl j with ⟨_,q2⟩ | ⟨_,_,_,ys',_,_,_,_,q5⟩
      ·rw [q2];exact ⟨xs,hxs⟩
      ·exact ⟨ys',q5 (List.getElem?_eq_some_iff.mp hxs).1⟩
    | _=>exact False.elim k
 rw [Zqy has.star] at main ⊢
 exact Calls.callWith_function (o:=o) (fd:=fd) (Calls.evalArgs_plain main)
end
end DK.Internal
end
section
set_option backward.match.sparseCases false
set_option genSizeOf false
set_option genCtorIdx false
namespace DK.Internal
open PySem PyProof.Rows
noncomputable def locals (ps:List Str) (names:List (Str × NameKind)):List Str:=
 ps++(names.filter fun n=>(n.2 == .local || n.2 == .cell) && !ps.contains n.1).map (·.1)
noncomputable def placed (n:Nat):List Str→List (Str × Nat)
 | []=> []
 | x::r=>(x,n)::placed (n+1) r
noncomputable def rsOf (P:Prg) (own:List Str) (d:Def):Rs:=
 {
  loc:=placed 0 (locals d.ps d.names),fns:=P.fns,gls:=P.gls,io:=P.io,nl:=(locals d.ps d.names).length,own:=own,names:=d.names,byref:=refsOf d.ps ((P.io.lookup d.name).getD []) }
def Bodies (P:Prg):Prop:=∀(i:Nat) (d:Def) (fn:Fn),P.defs[i]?=some d→P.T.fns[i]?=some fn→∃own,fn.np=d.ps.length∧fn.nl=(locals d.ps d.names).length∧SSs (rsOf P own d) d.body fn.body
theorem placed_get {x:Str} {i:Nat} (ls:List Str):∀{n:Nat},(placed n ls).lookup x=some i→n≤i∧ls[i - n]?=some x:=by
 induction ls with
 | nil=>exact fun h=>nomatch h
 | cons y ls ih=>
  intro n h
  rw [placed,List.lookup_cons] at h
  cases hxy:x == y with
  | true=>rw [hxy] at h;cases h;rw [Nat.sub_self,eq_of_beq hxy];exact ⟨Nat.le_refl _,rfl⟩
  | false=>
   rw [hxy] at h
   obtain ⟨a,b⟩:=ih h
   refine ⟨by exact Nat.le_of_lt (by assumption),?_⟩
   rw [show i - n=(i - (n+1))+1 by lia];exact b
theorem Zsx {x:Str} (ls ms:List Str):∀{i n:Nat},ls.Nodup→ls[i]?=some x→(placed n (ls++ms)).lookup x=some (n+i):=by
 induction ls with
 | nil=>exact fun _ h=>nomatch h
 | cons y ls ih=>
  intro i n nd h
  obtain ⟨n1,n2⟩:=List.nodup_cons.mp nd
  rw [List.cons_append,placed,List.lookup_cons]
  cases i with
  | zero=>cases h;rw [beq_self_eq_true];rfl
  | succ i=>
   have h:ls[i]?=some x:=h
   rw [beq_eq_false_iff_ne.mpr fun q=>n1 (by rw [←q];exact List.mem_of_getElem? h)]
   exact (ih (n:=n+1) n2 h).trans (congrArg some (by exact Nat.add_right_comm _ _ _))
theorem ZrH {x:Str} (ns:List (Str × NameKind)):∀{n:Nat} {acc:List (Str × Addr)},(x,NameKind.cell)∈ns∨(acc.lookup x).isSome=true→((cellsFrom n ns acc).lookup x).isSome=true:=by
 induction ns with
 | nil=>exact fun h=>h.elim (fun q=>nomatch q) id
 | cons p r ih=>
  obtain ⟨y,k⟩:=p
  intro n acc h
  unfold cellsFrom
  by_cases hk:k = .cell
  ·subst hk
   rw [if_pos (beq_self_eq_true _)]
   refine ih ?_
   rw [List.lookup_cons]
   by_cases hxy:x=y
   ·subst hxy;rw [beq_self_eq_true];exact .inr rfl
   ·rw [beq_eq_false_iff_ne.mpr hxy]
    exact h.imp (fun q=>(List.mem_cons.mp q).resolve_left fun q=>hxy (congrArg Prod.fst q)) id
  ·rw [if_neg (by rw [beq_iff_eq];exact hk)]
   exact ih (h.imp (fun q=>(List.mem_cons.mp q).resolve_left fun q=>hk (congrArg Prod.snd q).symm) id)
theorem ZrI {kf:Str→Option NameKind} {x:Str} (ps:List Str):∀{vs:List Value} {m:Str→Option Value},x∉ps→bindL kf (ps.zip vs) m x=m x∧bindC kf (ps.zip vs) m x=m x:=by
 induction ps with
 | nil=>exact fun _=>⟨rfl,rfl⟩
 | cons p ps ih=>
  intro vs m h
  cases vs with
  | nil=>exact ⟨rfl,rfl⟩
  | cons v vs=>
   have ne:x≠p:=fun q=>h (q ▸ List.mem_cons_self ..)
   rw [List.zip_cons_cons,bindL,bindC,(ih fun q=>h (List.mem_cons_of_mem _ q)).1,(ih fun q=>h (List.mem_cons_of_mem _ q)).2]
   refine ⟨?_,?_⟩
   ·split
    ·exact if_neg ne
    ·rfl
   ·split
    ·rfl
    ·exact if_neg ne
theorem ZtW {kf:Str→Option NameKind} {x:Str} {v:Value} (ps:List Str):∀{vs:List Value} {m:Str→Option Value} {i:Nat},ps.Nodup→ps[i]?=some x→vs[i]?=some v→(kf x=some .local→bindL kf (ps.zip vs) m x=some v)∧(kf x=some .cell→bindC kf (ps.zip vs) m x=some v):=by
 induction ps with
 | nil=>exact fun _ h=>nomatch h
 | cons p ps ih=>
  intro vs m i nd hp hv
  cases vs with
  | nil=>cases hv
  | cons u vs=>
   obtain ⟨n1,n2⟩:=List.nodup_cons.mp nd
   rw [List.zip_cons_cons,bindL,bindC]
   cases i with
   | zero=>
    cases hp;cases hv
    rw [(ZrI ps n1).1,(ZrI ps n1).2]
    exact ⟨fun hk=>by rw [if_pos hk];exact if_pos rfl,fun hk=>by rw [if_neg (by rw [hk];exact nofun)];exact if_pos rfl⟩
   | succ i=>exact ⟨(ih n2 hp hv).1,(ih n2 hp hv).2⟩
section
variable {P:Prg} {Z:Zm} {h:Heap} {ads:List (Option Addr)}
theorem ArgsAt.at {vs:List Value} {sls:List Slot} (x:ArgsAt P Z h vs sls ads):∀{i:Nat} {t:Slot},sls[i]?=some t →
  ∃v,vs[i]?=some v∧((∃d,t = .val d∧Rep P Z d v∧ads[i]?=some none)∨(∃a us n xs,t = .own xs∧v = .ref a∧ads[i]?=some (some a)∧h.get? a=some (lstO us n)∧us.length≤SZ∧Reps P Z xs us)):=by
 induction x with
 | nil=>exact fun e=>nomatch e
 | val r _ ih=>
  intro i t e
  cases i with
  | zero=>cases e;exact ⟨_,rfl,.inl ⟨_,rfl,r,rfl⟩⟩
  | succ i=>exact ih e
 | own hL z r _ ih=>
  intro i t e
  cases i with
  | zero=>cases e;exact ⟨_,rfl,.inr ⟨_,_,_,_,rfl,rfl,rfl,hL,z,r⟩⟩
  | succ i=>exact ih e
theorem Zty (ads:List (Option Addr)):∀{os:List Slot},os.length=ads.length→(∀(i:Nat) (a:Addr),ads[i]?=some (some a)→∃us n xs,os[i]?=some (.own xs)∧h.get? a=some (lstO us n)∧us.length≤SZ∧Reps P Z xs us)→BackAt P Z h os ads:=by
 induction ads with
 | nil=>intro os hl _;cases os with
  | nil=>exact .nil
  | cons o os=>cases hl
 | cons ad ads ih=>
  intro os hl hq
  cases os with
  | nil=>cases hl
  | cons o os=>
   have r:=ih (os:=os) (Nat.succ.inj hl) fun i a hi=>hq (i+1) a hi
   cases ad with
   | none=>exact .val r
   | some a=>
    obtain ⟨us,n,xs,e,q1,q2,q3⟩:=hq 0 a rfl
    cases e
    exact .own q1 q2 q3 r
theorem Zsy {j:Nat} {b:Addr} (q:(ads[j]?).join=some b):ads[j]?=some (some b):=by
 cases e:ads[j]? with
 | none=>rw [e] at q;cases q
 | some o=>rw [e] at q;exact congrArg some q
end
theorem rs_wf (P:Prg) (own:List Str) (d:Def):(rsOf P own d).WF:=by
 refine ⟨fun x y i hx hy=> ?_,fun x i hx=> ?_⟩
 ·obtain ⟨_,e1⟩:=placed_get _ hx
  obtain ⟨_,e2⟩:=placed_get _ hy
  rw [e1] at e2;exact Option.some.inj e2
 ·obtain ⟨_,e1⟩:=placed_get _ hx
  exact (List.getElem?_eq_some_iff.mp e1).1
theorem ZtX {Y:Cx} {r f:Nat} {Z:Zm} {s:Shared} {a:Addr} {fd:FuncData} {d:Def} {own:List Str} {vs:List Value} {sls:List Slot} {ads:List (Option Addr)} {env:Env} {h:Heap} (hr:Y.r=r+1) (calls:∀Y':Cx,Y'.P=Y.P→Y'.r=r→CallG Y')
  (c:COk Y Z s.heap) (ho:FnOk Y.P a f fd d) (aa:ArgsAt Y.P Z s.heap vs sls ads) (inj:∀(i j:Nat) (b:Addr),ads[i]?=some (some b)→ads[j]?=some (some b)→i=j) (hin:∀b,AsIn ads b→Z b=none∧Y.base.get? b=none∧b∉fas Y.l)
  (flags:∀(i:Nat) (b:Addr),ads[i]?=some (some b)→∃x,d.ps[i]?=some x∧x∈refsOf d.ps ((Y.P.io.lookup d.name).getD [])) (hl:sls.length=d.ps.length)
  (he:env=newEnv fd.scope s.heap.objs.size fd.globals (cellsFrom (s.heap.objs.size+1) fd.scope.names []) (fd.qualname ++ ".<locals>.") (some a) fd.code none fd.builtins)
  (hns:h.Ns env.locals (bindL env.kindOf (d.ps.zip vs) fun _=>none)) (hcell:∀n c,env.cells.lookup n=some c→h.IsCell c (bindC env.kindOf (d.ps.zip vs) (fun _=>none) n)) (apart:env.cells.Pairwise fun x y=>x.2≠y.2) (above:∀n c,(n,c)∈env.cells→env.locals < c)
  (keep:∀b o,s.heap.get? b=some o→h.get? b=some o) :
  SOk (rsOf Y.P own d) { Y with r:=r,A:=Y.A.deeper env,l:=env::Y.l } env (fun j=>(ads[j]?).join) Z (fun j=>(ads[j]?).join) (sls++List.replicate ((locals d.ps d.names).length - d.ps.length) .un) h:=by
 have eL:env.locals=s.heap.objs.size:=by rw [he];rfl
 have eK:∀x,env.kindOf x=d.names.lookup x:=fun x=>by rw [he,←ho.names];rfl
 have eF:env.frame=some env.locals:=by rw [he];rfl
 have eS:env.scope.kind = .function:=by rw [he];exact ho.kind
 have adM:∀{j:Nat} {b:Addr},(ads[j]?).join=some b→AsIn ads b:=fun q=>List.mem_of_getElem? (Zsy q)
 have fLoc:∀b,Loc env b→s.heap.get? b=none:=fun b q=>Heap.get?_none_of_le (q.elim (fun q=>by rw [q,eL];exact Nat.le_refl _) fun ⟨x,q⟩=>by have:=above x b (lookup_mem q);rw [eL] at this;exact Nat.le_of_lt this)
 have bN:∀b,s.heap.get? b=none→Y.base.get? b=none:=fun b hb=>by
  cases e:Y.base.get? b with
  | none=>rfl
  | some o=>rw [c.below.stays b o e] at hb;cases hb
 have adAt:∀{j:Nat} {b:Addr},ads[j]?=some (some b)→∃us n xs,sls[j]?=some (.own xs)∧s.heap.get? b=some (lstO us n):=fun {j b} q=>by
  have hlt:j < sls.length:=by rw [aa.len.1];exact (List.getElem?_eq_some_iff.mp q).1
  obtain ⟨v,_,q' | ⟨a',us,n,xs,q1,_,q3,q4,_⟩⟩:=aa.at (List.getElem?_eq_getElem hlt)
  ·obtain ⟨_,_,_,q'⟩:=q';rw [q] at q';cases q'
  ·rw [q] at q3;cases q3
   exact ⟨us,n,xs,(List.getElem?_eq_getElem hlt).trans (congrArg some q1),q4⟩
 have hfa:fas (env::Y.l)=env.locals::fas Y.l:=by unfold fas;rw [List.filterMap_cons_some eF]
 have cellAt:∀x,d.names.lookup x=some .cell→∃b,env.cells.lookup x=some b:=fun x hx=>by
  have:((cellsFrom (s.heap.objs.size+1) fd.scope.names []).lookup x).isSome=true:=ZrH _ (.inl (by rw [ho.names];exact lookup_mem hx))
  rw [show cellsFrom (s.heap.objs.size+1) fd.scope.names []=env.cells by rw [he];rfl] at this
  exact Option.isSome_iff_exists.mp this
 have kinds:∀{x:Str} {j:Nat},(placed 0 (locals d.ps d.names)).lookup x=some j→d.names.lookup x=some .local∨d.names.lookup x=some .cell:=fun {x j} hx=>by
  obtain ⟨_,e⟩:=placed_get _ hx
  rcases List.mem_append.mp (List.mem_of_getElem? e) with q | q
  ·exact ho.pk x q
  ·obtain ⟨n,hn,rfl⟩:=List.mem_map.mp q
   obtain ⟨h1,h2⟩:=List.mem_filter.mp hn
   rw [ho.nk n h1]
   rw [Bool.and_eq_true,Bool.or_eq_true,beq_iff_eq,beq_iff_eq] at h2
   exact h2.1.imp (congrArg some) (congrArg some)
 have pget:∀{x:Str} {j:Nat},(placed 0 (locals d.ps d.names)).lookup x=some j→j < d.ps.length→d.ps[j]?=some x:=fun {x j} hx hj=>by
  obtain ⟨_,e⟩:=placed_get _ hx
  rw [Nat.sub_zero,locals,List.getElem?_append_left hj] at e
  exact e
 have aliveL:∀b,Loc env b→(h.get? b).isSome=true:=fun b q=>by
  rcases q with rfl | ⟨x,q⟩
  ·obtain ⟨o,_,_,e,_⟩:=hns;rw [e];rfl
  ·obtain ⟨o,e,_⟩:=hcell x b q;rw [e];rfl
 have hsz:d.ps.length≤(locals d.ps d.names).length:=by unfold locals;rw [List.length_append];exact Nat.le_add_right _ _
 refine
  {
   ok:=
    {
     st:=
      {
       calls:=calls,fns:=rfl,gls:=rfl,io:=rfl,kind:=eS,glob:=by rw [he];exact ho.glob,buil:=by rw [he];exact ho.buil,gk:=fun x hx=>by rw [eK];exact hx
       ck:=fun x hx=>⟨by rw [eK];exact hx,by obtain ⟨b,hb⟩:=cellAt x hx;rw [hb];rfl⟩
       fr:=⟨env,Y.l,env.locals,rfl,eF,eF⟩,wf:=rs_wf _ _ _
       cellA:=fun x y b hx hy=>name_of_addr apart (lookup_mem hx) (lookup_mem hy)
       cellL:=fun x b hb=>Nat.ne_of_gt (above x b (lookup_mem hb)) }
     c:=
      {
       glo:=c.glo
       below:=⟨by show Y.A.frames.map (env :: ·)=_;rw [c.below.stack];rfl,fun b o e=>keep b o (c.below.stays b o e),by
        refine ⟨by rw [eS];exact nofun,⟨env.locals,?_⟩,c.below.frames.of_keeps fun b o e _=>⟨o,keep b o e,rfl⟩⟩
        obtain ⟨o,es,ep,e,hd,_⟩:=hns
        exact ⟨o,eF,bN _ (fLoc _ (.inl rfl)),e,by rw [hd];exact nofun⟩⟩
       gb:=c.gb
       sub:=fun b o e=>keep b o (c.sub b o e)
       gz:=c.gz
       frz:=fun b hb=>by
        rw [hfa] at hb
        rcases List.mem_cons.mp hb with q | q
        ·exact c.sub.fresh (fLoc b (.inl q))
        ·exact c.frz b q
       depth:=by show Y.A.depth+1+r < _;have:=c.depth;lia
       units:=by show Y.A.units+3+3*r+100≤_;have:=c.units;lia
       hand:=c.hand }
     var:=fun x j hx=> ?_
     has:=fun x j hx=> ?_
     len:= ?_
     loz:=fun b q=>⟨c.sub.fresh (fLoc b q),aliveL b q⟩
     own:=fun i b hi=> ?_
     oinj:=fun i j b hi hj=>inj i j b (Zsy hi) (Zsy hj)
     ns:=⟨_,hns⟩ }
   hB:=fun x i b _ hm=>bN b (fLoc b (ZqO hm))
   ob:=fun i b hi=>(hin b (adM hi)).2.1
   ioR:=fun x j hx=> ?_
   io:=fun i b hi=>⟨hi,?_⟩ }
 ·replace hx:(placed 0 (locals d.ps d.names)).lookup x=some j:=hx
  by_cases hj:j < d.ps.length
  ·have hlt:j < sls.length:=by rw [hl];exact hj
   rw [List.getElem?_append_left hlt]
   have e:=List.getElem?_eq_getElem hlt
   rw [e]
   obtain ⟨v,hv,q⟩:=aa.at e
   have va:VarAt h env x (some v):=by
    have bg:=ZtW (kf:=env.kindOf) (m:=fun _=>none) d.ps ho.nd (pget hx hj) hv
    rcases kinds hx with q | q
    ·exact .inl ⟨by rw [eK,q],_,hns,bg.1 (by rw [eK,q])⟩
    ·obtain ⟨b,hb⟩:=cellAt x q
     have:=hcell x b hb
     rw [bg.2 (by rw [eK,q])] at this
     exact .inr ⟨by rw [eK,q],b,hb,this⟩
   rcases q with ⟨dd,q1,q2,_⟩ | ⟨b,us,n,xs,q1,rfl,q3,q4,q5,q6⟩
   ·rw [q1];exact ⟨v,va,q2⟩
   ·rw [q1];exact ⟨b,us,n,congrArg Option.join q3,va,keep _ _ q4,q5,q6⟩
  ·rw [List.getElem?_append_right (by rw [hl];exact Nat.le_of_not_lt hj),List.getElem?_replicate]
   split<;>trivial
 ·replace hx:(placed 0 (locals d.ps d.names)).lookup x=some j:=hx
  rcases kinds hx with q | q
  ·exact ⟨_,.inl ⟨by rw [eK,q],_,hns,rfl⟩⟩
  ·obtain ⟨b,hb⟩:=cellAt x q
   exact ⟨_,.inr ⟨by rw [eK,q],b,hb,hcell x b hb⟩⟩
 ·rw [List.length_append,List.length_replicate,hl]
  exact Nat.add_sub_cancel' hsz
 ·obtain ⟨us,n,xs,_,q4⟩:=adAt (Zsy hi)
  have old:∀{b'},s.heap.get? b'=none→b≠b':=fun z q=>by rw [q,z] at q4;cases q4
  exact ⟨(hin b (adM hi)).1,trivial,fun m=>by
   rw [hfa] at m
   rcases List.mem_cons.mp m with q | q
   ·exact old (fLoc _ (.inl rfl)) q
   ·exact (hin b (adM hi)).2.2 q,fun l=>old (fLoc b l) rfl,by rw [keep _ _ q4];rfl⟩
 ·show (ads[j]?).join=none
  cases e:(ads[j]?).join with
  | none=>rfl
  | some b=>
   obtain ⟨y,hy,hm⟩:=flags j b (Zsy e)
   have:=pget (Zqz hx) (List.getElem?_eq_some_iff.mp hy).1
   rw [hy] at this
   cases this
   unfold Rs.put at hx
   rw [if_pos (show _∈(rsOf Y.P own d).byref from hm)] at hx;cases hx
 ·obtain ⟨us,n,xs,q1,_⟩:=adAt (Zsy hi)
  exact ⟨xs,by rw [List.getElem?_append_left (List.getElem?_eq_some_iff.mp q1).1];exact q1⟩
theorem Ztz {Y:Cx} {r:Nat} (hr:Y.r=r+1) (H:Bodies Y.P) (calls:∀Y':Cx,Y'.P=Y.P→Y'.r=r→CallG Y'):CallG Y:=by
 intro Z s f a fd d vs sls ads Q E c ho aa inj hin flags k
 rw [hr] at k
 replace k:KG Y Z ads (runF real Y.P.T (callT real Y.P.T r) sls Y.P.T.fns[f]?) Q E s:=k
 cases hfn:Y.P.T.fns[f]? with
 | none=>rw [hfn] at k;exact False.elim k
 | some fn=>
  rw [hfn] at k
  obtain ⟨own,hnp,hnl,hbody⟩:=H f d fn ho.fn hfn
  replace k:KG Y Z ads (need (sls.length=fn.np∧fn.np≤fn.nl) (sts real Y.P.T (callT real Y.P.T r) fn.body (fn.start sls)>>=retF fn.np)) Q E s:=k
  by_cases hl:sls.length=fn.np∧fn.np≤fn.nl
  ·rw [show need (sls.length=fn.np∧fn.np≤fn.nl) (sts real Y.P.T (callT real Y.P.T r) fn.body (fn.start sls)>>=retF fn.np)=_ from if_pos hl] at k
   rw [show fn.start sls=sls++List.replicate ((locals d.ps d.names).length - d.ps.length) .un by unfold Fn.start;rw [hnp,hnl]] at k
   rw [hnp] at k hl
   obtain ⟨o,ho1,ho2⟩:=ho.obj
   refine wpAny_call (codeAny_call_function (by have:=c.depth;lia) (c.gh _ _ ho1) ho2 ho.co ho.gen ho.body (ho.code.keeps c.gh) ?_)
   rw [ho.bind vs (by rw [aa.len.2,←aa.len.1,hl.1])]
   refine wpAny_pure ?_
   rw [ho.clo]
   refine wpAny_newFunctionEnv_cells ho.kind (fun x hx=> ?_) fun env he s' ic=> ?_
   ·exact (ho.pk x.1 (List.of_mem_zip (a:=x.1) (b:=x.2) hx).1).imp (fun q=>by rw [ho.names];exact q) fun q=>⟨by rw [ho.names];exact q,ZrH _ (.inl (by rw [ho.names];exact lookup_mem q))⟩
   ·obtain ⟨h,tk,rfl⟩:=ic.toInCall.same
    have so:=ZtX (own:=own) (h:=h) hr calls c ho aa inj hin (flags hl.1.symm) hl.1 he ic.toInCall.ns ic.cell ic.apart ic.above ic.toInCall.keep
    have keep:=ic.toInCall.keep
    refine ⟨c.glo.lim.keeps fun b o e=>keep b o (c.gh b o e),codeAny_func (hbody (Y:={ Y with r:=r,A:=Y.A.deeper env,l:=env::Y.l }) (s:={ s with heap:=h,toks:=tk }) so ?_)⟩
    have eF:env.frame=some env.locals:=by rw [he];rfl
    have hfa:fas (env::Y.l)=env.locals::fas Y.l:=by unfold fas;rw [List.filterMap_cons_some eF]
    have fLoc:∀b,Loc env b→s.heap.get? b=none:=fun b q=>Heap.get?_none_of_le (q.elim (fun q=>by rw [q,he];exact Nat.le_refl _) fun ⟨x,q⟩=>by have:=ic.above x b (lookup_mem q);rw [he] at this;exact Nat.le_of_lt this)
    have wIn:∀b,Wr (rsOf Y.P own d) env (fun j=>(ads[j]?).join) b→AsIn ads b∨s.heap.get? b=none:=fun b q=>q.elim (fun q=> .inr (fLoc b (Zqu q))) fun ⟨j,q⟩=> .inl (List.mem_of_getElem? (Zsy q))
    have notW:∀b o,s.heap.get? b=some o→¬AsIn ads b→¬Wr (rsOf Y.P own d) env (fun j=>(ads[j]?).join) b:=fun b o e nb q=>(wIn b q).elim nb fun z=>by rw [z] at e;cases e
    have hfm:∀b o,s.heap.get? b=some o→(b∈fas (env::Y.l)↔b∈fas Y.l):=fun b o e=>by
     rw [hfa]
     exact ⟨fun m=>(List.mem_cons.mp m).resolve_left fun q=>(by rw [q,fLoc _ (.inl rfl)] at e;cases e),List.mem_cons_of_mem _⟩
    replace k:KG Y Z ads (Cx.sts { Y with r:=r,A:=Y.A.deeper env,l:=env::Y.l } fn.body (sls++List.replicate ((locals d.ps d.names).length - d.ps.length) .un)>>=retF d.ps.length) Q E s:=k
    revert k
    generalize Cx.sts { Y with r:=r,A:=Y.A.deeper env,l:=env::Y.l } fn.body (sls++List.replicate ((locals d.ps d.names).length - d.ps.length) .un)=oo
    intro k
    have fin:∀{oa' Z' sl'} {s':Shared},Aft (rsOf Y.P own d) { Y with r:=r,A:=Y.A.deeper env,l:=env::Y.l } env (fun j=>(ads[j]?).join) (fun j=>(ads[j]?).join) Z { s with heap:=h,toks:=tk } oa' Z' sl' s' →
      Go (AsIn ads) Y Z s Z' s'∧(∀b,AsIn ads b→Z' b=none)∧BackAt Y.P Z' s'.heap (sl'.take d.ps.length) ads:=by
     intro oa' Z' sl' s' af
     have oM:∀b,AsIn ads b→Z' b=none:=fun b q=>by
      obtain ⟨j,hj⟩:=List.mem_iff_getElem?.mp q
      exact (af.so.ok.own j b (af.so.io j b (congrArg Option.join hj)).1).1
     refine ⟨⟨⟨fun b o e nb m=>af.go.ks.keep b o (keep b o e) (notW b o e nb) (fun q=>m ((hfm b o e).mp q)),fun b o e nb m=>af.go.ks.fr b o (keep b o e) (notW b o e nb) ((hfm b o e).mpr m),fun b o e q m _=>absurd m (hin b q).2.2⟩,af.go.le,fun b q=> ?_,af.go.sub,af.go.same.trans rfl⟩,oM,Zty ads ?_ fun i b hi=> ?_⟩
     ·rcases af.go.new b q with n | n | n
      ·exact .inl n
      ·exact .inr (wIn b n)
      ·refine .inr (.inr ?_)
       cases e:s.heap.get? b with
       | none=>rfl
       | some o=>have:=keep b o e;rw [show h.get? b=none from n] at this;cases this
     ·rw [List.length_take,af.so.ok.len,←aa.len.1,hl.1]
      exact Nat.min_eq_left (by unfold rsOf locals;rw [List.length_append];exact Nat.le_add_right _ _)
     ·obtain ⟨h1,xs,h2⟩:=af.so.io i b (congrArg Option.join hi)
      obtain ⟨x,hx,_⟩:=flags hl.1.symm i b hi
      have q:=af.so.ok.var x i (by have:=Zsx (n:=0) d.ps ((d.names.filter fun n=>(n.2 == .local || n.2 == .cell) && !d.ps.contains n.1).map (·.1)) ho.nd hx;rw [Nat.zero_add] at this;exact this)
      rw [h2] at q
      obtain ⟨a',us,n',a0,a1,a2,a3,a4⟩:=q
      rw [h1] at a0;cases a0
      exact ⟨us,n',xs,by rw [List.getElem?_take,if_pos (List.getElem?_eq_some_iff.mp hx).1];exact h2,a2,a3,a4⟩
    cases oo with
    | stuck=>exact False.elim k
    | exc=>
     intro x s₁ e1
     refine Ztd so.ok.c.below.stack eF e1.exc fun h2 F2 u2=>k x _ ⟨fun b o e nb nf=> ?_,F2.exc,by rw [e1.same]⟩
     obtain ⟨sl1,q1⟩:=e1.us b o (keep b o e) (notW b o e nb) nf
     obtain ⟨sl2,q2⟩:=u2 b _ q1 nf
     exact ⟨sl2,q2⟩
    | ok y=>
     obtain ⟨fl,sl'⟩:=y
     intro f' oa' Z₁ s₁ af fr
     obtain ⟨g,nz,ba⟩:=fin af
     cases fl with
     | next=>cases fr;exact k .none Z₁ s₁ g nz rfl ba
     | brk=>exact False.elim k
     | cont=>exact False.elim k
     | ret dd=>obtain ⟨v,rfl,rv⟩:=fr;exact k v Z₁ s₁ g nz rv ba
  ·rw [show need (sls.length=fn.np∧fn.np≤fn.nl) (sts real Y.P.T (callT real Y.P.T r) fn.body (fn.start sls)>>=retF fn.np) = .stuck from if_neg hl] at k
   exact False.elim k
theorem call_all {P:Prg} (H:Bodies P) (r:Nat):∀Y:Cx,Y.P=P→Y.r=r→CallG Y:=by
 induction r with
 | zero=>intro Y _ hr Z s f a fd d vs sls ads Q E _ _ _ _ _ _ k;rw [hr] at k;exact False.elim k
 | succ r ih=>intro Y hP hr;exact Ztz hr (hP ▸ H) fun Y' h1 h2=>ih Y' (h1.trans hP) h2
end DK.Internal
end
section
set_option backward.match.sparseCases false
set_option genSizeOf false
set_option genCtorIdx false
set_option genSizeOf false
set_option genInjectivity false
namespace DK.Internal
open PySem PyProof.Rows
section
universe u v
variable {α:Type u} {β:Type v}
noncomputable def ifS (o:Option α) (n:β) (s:∀a,o=some a→β):β:=
 Option.rec (motive:=fun o'=>(∀a,o'=some a→β)→β) (fun _=>n) (fun a s=>s a rfl) o s
noncomputable def ifT (b:Bool) (n:β) (s:b=true→β):β:=
 Bool.rec (motive:=fun b'=>(b'=true→β)→β) (fun _=>n) (fun s=>s rfl) b s
noncomputable def ifD (p:Prop) [h:Decidable p] (n:β) (s:p→β):β:=dite p s fun _=>n
end
structure TE (R:Rs) (e:Expr) where
 c:C
 se:SE R e c
 st:ST R e c
structure TEs (R:Rs) (es:List Expr) where
 cs:Cs
 ses:SEs R es cs
 len:∀(Y:Cx) sl ds,Y.exs cs sl = .ok ds→ds.length=es.length
 hd:∀e r,es=e::r→noStar e=true
 nil:es = []→cs = .nil
structure TP (R:Rs) (o:Option Expr) where
 c:C
 sp:SP R o c
structure TTs (R:Rs) (es:List Expr) where
 cs:Cs
 sts:STs R es cs
structure TC (R:Rs) (elt:Expr) (gens:List Comprehension) (sc:Scope) (p:Pos) where
 n:Nat
 g:Gens
 sc:SC R elt gens sc p n g
structure TI (R:Rs) (t e:Expr) where
 i:It
 si:SI R e i
 tp:i.isEnum=true→isTup t=true
structure TG (R:Rs) (t:Expr) where
 g:Tgt
 tg:Tg R t g
structure TN (R:Rs) (ts:List Expr) where
 is:List Nat
 tn:TgtN R ts is
structure TD (ks:List (Option Expr)) (vs:List Expr) where
 ps:List (Str × Int)
 dp:DP ks vs ps
structure TA (R:Rs) (bs:List Bool) (es:List Expr) where
 as:As
 h:AsT R bs es as
structure TS (R:Rs) (st:Stmt) where
 c:S
 f:List Nat
 ss:SS R st c
structure TSs (R:Rs) (sts:List Stmt) where
 c:Ss
 ss:SSs R sts c
section
variable {R:Rs}
theorem ZtY {Y:Cx} {c:C} {cs:Cs} {sl:List Slot} {ds:List D} {n:Nat} (h:∀ds,Y.exs cs sl = .ok ds→ds.length=n) (q:Y.exs (.cons c cs) sl = .ok ds):ds.length=n+1:=by
 replace q:ap2 consK (Y.ex c sl) (Y.exs cs sl) = .ok ds:=q
 revert q
 cases Y.ex c sl with
 | ok x=>
  cases e:Y.exs cs sl with
  | ok xs=>intro q;cases q;exact congrArg (· + 1) (h _ e)
  | exc=>intro q;cases q
  | stuck=>intro q;cases q
 | exc=>intro q;cases q
 | stuck=>intro q;cases q
noncomputable def TE.no {e:Expr} {c:C} (h:SE R e c) (q:∀(Y:Cx) sl,Y.tst c sl = .stuck):TE R e:=⟨c,h,ST.no q⟩
noncomputable def TE.val {e:Expr} {c:C} (h:SE R e c) (q:∀(Y:Cx) sl,Y.tst c sl=(Y.ex c sl>>=truthy)) (he:∀env whole,isTrue e env whole=(do let v ←whole;standAt e.pos;holding [v] (PySem.truthy v))):TE R e:=⟨c,h,ST.value h q he⟩
noncomputable def TE.bad {e:Expr}:TE R e:= .no SE.bad fun _ _=>rfl
noncomputable def trConst (n:Nat) (p:Pos):∀k:Const,TE R (.Constant k n p)
 | .none=> .val SE.cNone (fun _ _=>rfl) fun _ _=>rfl
 | .bool b=> .val SE.cBool (fun _ _=>rfl) fun _ _=>rfl
 | .int i=> .val SE.cInt (fun _ _=>rfl) fun _ _=>rfl
 | .str x=>ifD (x.cps.size≤SZ) .bad fun h=> .val (SE.cStr h) (fun _ _=>rfl) fun _ _=>rfl
 | .bytes b=>ifD (b.length≤SZ) .bad fun h=> .val (SE.cBytes h) (fun _ _=>rfl) fun _ _=>rfl
 | _=> .bad
noncomputable def nd (x:Str):Bool:= !(x == ("__debug__" : Str))
theorem ZqU {x:Str} (h:nd x=true):(x == ("__debug__" : Str))=false:=by
 unfold nd at h;cases e:x == ("__debug__" : Str) with
 | false=>rfl
 | true=>rw [e] at h;cases h
noncomputable def trName (x:Str) (p:Pos):TE R (.Name x p):=
 ifS (R.loc.lookup x) (ifT (R.glob x) .bad fun g=>ifS (R.gls.lookup x) (ifS (tyName x) .bad fun t h=> .val (SE.ty g h) (fun _ _=>rfl) fun _ _=>rfl) fun i h=> .no (SE.glob g h) fun _ _=>rfl)
  fun i h=>ifT (nd x) .bad fun d=> .val (SE.var h (ZqU d)) (fun _ _=>rfl) fun _ _=>rfl
variable (rec:∀(R:Rs) (e:Expr),TE R e)
noncomputable def trEs:∀es:List Expr,Option (TEs R es)
 | []=>some ⟨.nil,SEs.nil,fun _ _ _ q=>(by cases q;rfl),fun _ _ q=>(nomatch q),fun _=>rfl⟩
 | e::es=>ifT (noStar e) none fun hs=>ifS (trEs es) none fun t _=>some ⟨.cons (rec R e).c t.cs,SEs.cons (rec R e).se hs t.ses,fun Y sl ds q=>ZtY (t.len Y sl) q,fun _ _ q=>(by cases q;exact hs),fun q=>nomatch q⟩
noncomputable def trAnd (p:Pos):∀es:List Expr,TE R (.BoolOp .And es p)
 | []=> .bad
 | x::es=>match es with
  | []=>⟨(rec R x).c,SE.one (rec R x).se,ST.oneAnd (rec R x).st⟩
  | y::ys=>⟨.and (rec R x).c (trAnd p (y::ys)).c,SE.and1 (rec R x).se (trAnd p (y::ys)).se,ST.and1 (rec R x).st (trAnd p (y::ys)).st⟩
noncomputable def trOr (p:Pos):∀es:List Expr,TE R (.BoolOp .Or es p)
 | []=> .bad
 | x::es=>match es with
  | []=>⟨(rec R x).c,SE.one (rec R x).se,ST.oneOr (rec R x).st⟩
  | y::ys=>⟨.or (rec R x).c (trOr p (y::ys)).c,SE.or1 (rec R x).se (trOr p (y::ys)).se,ST.or1 (rec R x).st (trOr p (y::ys)).st⟩
noncomputable def trPart:∀o:Option Expr,TP R o
 | none=>⟨_,SP.none⟩
 | some e=>⟨_,SP.some (rec R e).se⟩
noncomputable def trSub (a:Expr) (p:Pos):∀i:Expr,TE R (.Subscript a i p)
 | .Slice lo hi st q=>match st with
  | none=> .no (SE.slc (rec R a).se (trPart rec lo).sp (trPart rec hi).sp) fun _ _=>rfl
  | some _=> .bad
 | i=> .val (SE.idx (rec R a).se (rec R i).se) (fun _ _=>rfl) fun _ _=>rfl
theorem SE.isi' {f:Str} {e:Expr} {c:C} {t:Str} {ty:Ty} {p q pos:Pos} (h0:f = "isinstance") (hf:R.glob f=true) (hn:noStar e=true) (ht:R.glob t=true) (hty:tyName t=some ty) (h:SE R e c):SE R (.Call (.Name f p) [e,.Name t q] [] pos) (.isi c ty):=by
 subst h0;exact SE.isi hf hn ht hty h
theorem SE.copy' {f:Str} {y:Str} {i:Nat} {p q pos:Pos} (h0:f = "list") (hf:R.glob f=true) (hy:R.loc.lookup y=some i) (hd:(y == ("__debug__" : Str))=false):SE R (.Call (.Name f p) [.Name y q] [] pos) (.copy i):=by
 subst h0;exact SE.copy hf hy hd
noncomputable def trIsi {f:Str} {p pos:Pos} (g:R.glob f=true) (e:Expr):∀y:Expr,TE R (.Call (.Name f p) [e,y] [] pos)
 | .Name t q=>ifD (f = "isinstance") .bad fun h0=>ifT (noStar e) .bad fun hn=>ifT (R.glob t) .bad fun ht=>ifS (tyName t) .bad fun ty hty=>
  .val (SE.isi' h0 g hn ht hty (rec R e).se) (fun _ _=>Zug _) fun _ _=>rfl
 | _=> .bad
noncomputable def trBi {f:Str} {p pos:Pos} (g:R.glob f=true) (e:Expr):TE R (.Call (.Name f p) [e] [] pos):=
 ifT (noStar e) .bad fun hn=>ifS (biName f) .bad fun b hb=>ifT (biFn b) .bad fun hb'=> .val (SE.bi1 g hb hb' hn (rec R e).se) (fun _ _=>rfl) fun _ _=>rfl
noncomputable def trOne {f:Str} {p pos:Pos} (g:R.glob f=true):∀e:Expr,TE R (.Call (.Name f p) [e] [] pos)
 | .Name y q=>ifD (f = "list") (trBi rec g _) fun h0=>ifS (R.loc.lookup y) .bad fun i h=>ifT (nd y) .bad fun d=> .no (SE.copy' h0 g h (ZqU d)) fun _ _=>rfl
 | e=>trBi rec g e
noncomputable def trFew {f:Str} {p pos:Pos} (g:R.glob f=true):∀es:List Expr,TE R (.Call (.Name f p) es [] pos)
 | []=> .bad
 | e::es=>match es with
  | []=>trOne rec g e
  | y::es=>match es with
   | []=>trIsi rec g e y
   | _=> .bad
noncomputable def trCallN (f:Str) (p pos:Pos) (es:List Expr):TE R (.Call (.Name f p) es [] pos):=
 ifT (R.glob f) .bad fun g=>ifS (R.fns.lookup f) (trFew rec g es) fun i hi=>ifS (trEs rec es) .bad fun t _=> .val (SE.call g hi t.ses t.hd t.nil) (fun _ _=>rfl) fun _ _=>rfl
theorem SE.join' {m:Str} {b:List UInt8} {e:Expr} {c:C} {n:Nat} {bp apos pos:Pos} (h0:m = "join" ∧b = []) (hl:(apos.endLine == pos.line)=true) (hn:noStar e=true) (h:SE R e c) :
  SE R (.Call (.Attribute (.Constant (.bytes b) n bp) m apos) [e] [] pos) (.bi .join (.cons c .nil)):=by obtain ⟨rfl,rfl⟩:=h0;exact SE.join hl hn h
theorem SE.get1' {m d:Str} {cd:C} {e:Expr} {c:C} {dp apos pos:Pos} (h0:m = "get") (hd:SE R (.Name d dp) cd) (hl:(apos.endLine == pos.line)=true) (hn:noStar e=true) (h:SE R e c) :
  SE R (.Call (.Attribute (.Name d dp) m apos) [e] [] pos) (.get cd (.cons c .nil)):=by subst h0;exact SE.get1 hd hl hn h
theorem SE.get2' {m d:Str} {cd:C} {e e':Expr} {c c':C} {dp apos pos:Pos} (h0:m = "get") (hd:SE R (.Name d dp) cd) (hl:(apos.endLine == pos.line)=true) (hn:noStar e=true) (hn':noStar e'=true) (h:SE R e c) (h':SE R e' c') :
  SE R (.Call (.Attribute (.Name d dp) m apos) [e,e'] [] pos) (.get cd (.cons c (.cons c' .nil))):=by subst h0;exact SE.get2 hd hl hn hn' h h'
noncomputable def trAttr (m:Str) (apos pos:Pos) (e:Expr):∀(v:Expr) (es:List Expr),TE R (.Call (.Attribute v m apos) (e::es) [] pos)
 | .Constant k n bp,es=>match es with
  | []=>match k with
   | .bytes b=>ifD (m = "join" ∧b = []) .bad fun h0=>ifT (apos.endLine == pos.line) .bad fun hl=>ifT (noStar e) .bad fun hn=> .val (SE.join' h0 hl hn (rec R e).se) (fun _ _=>rfl) fun _ _=>rfl
   | _=> .bad
  | _=> .bad
 | .Name d dp,es=>ifD (m = "get") .bad fun h0=>ifT (apos.endLine == pos.line) .bad fun hl=>ifT (noStar e) .bad fun hn=>match es with
  | []=> .no (SE.get1' h0 (trName d dp).se hl hn (rec R e).se) fun _ _=>rfl
  | e'::es=>match es with
   | []=>ifT (noStar e') .bad fun hn'=> .no (SE.get2' h0 (trName d dp).se hl hn hn' (rec R e).se (rec R e').se) fun _ _=>rfl
   | _=> .bad
 | _,_=> .bad
noncomputable def trCall (es:List Expr) (pos:Pos):∀(f:Expr),TE R (.Call f es [] pos)
 | .Name f p=>trCallN rec f p pos es
 | .Attribute v m apos=>match es with
  | []=> .bad
  | e::es=>trAttr rec m apos pos e v es
 | _=> .bad
noncomputable def trDict:∀(ks:List (Option Expr)) (vs:List Expr),Option (TD ks vs)
 | [],vs=>match vs with
  | []=>some ⟨_,.nil⟩
  | _=>none
 | k::ks,vs=>match vs with
  | []=>none
  | v::vs=>match k with
   | none=>none
   | some k=>match k with
    | .Constant k a b=>match k with
     | .str x=>match v with
      | .Constant v c d=>match v with
       | .int i=>ifS (trDict ks vs) none fun t _=>some ⟨_,.cons t.dp⟩
       | _=>none
      | _=>none
     | _=>none
    | _=>none
noncomputable def trNames:∀ts:List Expr,Option (TN R ts)
 | []=>some ⟨_,.nil⟩
 | t::ts=>match t with
  | .Name x p=>ifS (R.put x) none fun i h=>ifS (trNames ts) none fun t _=>some ⟨_,.cons h t.tn⟩
  | _=>none
noncomputable def trTgt:∀t:Expr,Option (TG R t)
 | .Name x p=>ifS (R.put x) none fun i h=>some ⟨_,.one h⟩
 | .Tuple es n p=>ifS (trNames es) none fun t _=>some ⟨_,.many t.tn⟩
 | _=>none
theorem SI.rng1' {f:Str} {e:Expr} {c:C} {p pos:Pos} (h0:f = "range") (hf:R.glob f=true) (hn:noStar e=true) (h:SE R e c):SI R (.Call (.Name f p) [e] [] pos) (.rng (.k (.int 0)) c 1):=by
 subst h0;exact SI.rng1 hf hn h
noncomputable def TI.seq {t e:Expr} (x:TE R e):TI R t e:=⟨.seq x.c,SI.seq x.se,fun q=>nomatch q⟩
noncomputable def trIt (t:Expr):∀e:Expr,TI R t e
 | .Call (.Name f p) [e] [] pos=>ifD (f = "range") (.seq (rec R _)) fun h0=>ifT (R.glob f) (.seq .bad) fun g=>ifT (noStar e) (.seq .bad) fun hn=>⟨_,SI.rng1' h0 g hn (rec R e).se,fun q=>nomatch q⟩
 | e=> .seq (rec R e)
noncomputable def trTests:∀es:List Expr,TTs R es
 | []=>⟨.nil,STs.nil⟩
 | e::es=>⟨_,STs.cons (rec R e).st (trTests es).sts⟩
theorem SC.one' {elt t i0:Expr} {ifs:List Expr} {sc:Scope} {epos:Pos} {tg:Tgt} {it:It} {cifs:Cs} {celt:C} {a:Int} (h0:a=0) (hsc:okScope R sc=true) (hset:notSet i0=true) (ht:Tg (R.inner sc) t tg)
  (hi:SI R i0 it) (htup:it.isEnum=true→isTup t=true) (hts:STs (R.inner sc) ifs cifs) (hel:SE (R.inner sc) elt celt):SC R elt [⟨t,i0,ifs,a⟩] sc epos (numbered R.nl sc.names).length (.last tg it cifs celt):=by
 subst h0;exact SC.one hsc hset ht hi htup hts hel
noncomputable def trComp (elt:Expr) (sc:Scope) (p:Pos):∀gens:List Comprehension,Option (TC R elt gens sc p)
 | []=>none
 | g::gs=>match gs with
  | []=>match g with
   | ⟨t,i,ifs,a⟩=>ifD (a=0) none fun h0=>ifT (okScope R sc) none fun hs=>ifT (notSet i) none fun hi=>ifS (trTgt t) none fun tg _=>some ⟨_,_,SC.one' h0 hs hi tg.tg (trIt rec t i).si (trIt rec t i).tp (trTests rec ifs).sts (rec (R.inner sc) elt).se⟩
  | _=>none
noncomputable def trE1:∀e:Expr,TE R e
 | .Constant k n p=>trConst n p k
 | .Name x p=>trName x p
 | .BoolOp op es p=>match op with
  | .And=>trAnd rec p es
  | .Or=>trOr rec p es
 | .BinOp a op b p=> .no (SE.bin (rec R a).se (rec R b).se) fun _ _=>rfl
 | .UnaryOp op a p=>match op with
  | .Not=>⟨_,SE.not (rec R a).se,ST.not (rec R a).st⟩
  | .USub=> .no (SE.neg (rec R a).se) fun _ _=>rfl
  | _=> .bad
 | .Compare a ops bs p=>match ops with
  | []=> .bad
  | op::ops=>match ops with
   | []=>match bs with
    | []=> .bad
    | b::bs=>match bs with
     | []=>ifT (!(behindInMarks op b)) .bad fun h=>⟨_,SE.cmp (by simpa using h) (rec R a).se (rec R b).se,ST.cmp (by simpa using h) (rec R a).se (rec R b).se⟩
     | _=> .bad
   | _=> .bad
 | .Call f es kws p=>match kws with
  | []=>trCall rec es p f
  | _=> .bad
 | .Subscript a i p=>trSub rec a p i
 | .Tuple es n p=>ifD (es.length≤SZ) .bad fun hz=>ifS (trEs rec es) .bad fun t _=> .no (SE.tup t.ses hz t.len) fun _ _=>rfl
 | .List es p=>ifD (es.length≤SZ) .bad fun hz=>ifS (trEs rec es) .bad fun t _=> .no (SE.lst t.ses hz t.len) fun _ _=>rfl
 | .Dict ks vs p=>ifS (trDict ks vs) .bad fun t _=>ifD (t.ps≠[]∧t.ps.length≤15∧(t.ps.map (·.1)).Nodup) .bad fun h=> .val (SE.dict t.dp h.1 h.2.1 h.2.2) (fun _ _=>rfl) fun _ _=>rfl
 | .ListComp elt gens sc p=>ifS (trComp rec elt sc p gens) .bad fun t _=> .no (SE.comp t.sc) fun _ _=>rfl
 | _=> .bad
end
noncomputable def trE:Nat→∀(R:Rs) (e:Expr),TE R e
 | 0=>fun _ _=> .bad
 | n+1=>fun _ e=>trE1 (trE n) e
end DK.Internal
end
section
set_option backward.match.sparseCases false
set_option genSizeOf false
set_option genCtorIdx false
set_option genSizeOf false
set_option genInjectivity false
namespace DK.Internal
open PySem PyProof.Rows
mutual
noncomputable def C.reads:C→List Nat
 | .var i=> [i]
 | .bin _ a b=>a.reads++b.reads
 | .neg a=>a.reads
 | .not a=>a.reads
 | .and a b=>a.reads++b.reads
 | .or a b=>a.reads++b.reads
 | .cmp _ a b=>a.reads++b.reads
 | .idx a b=>a.reads++b.reads
 | .slc a b c=>a.reads++b.reads++c.reads
 | .tup es=>es.reads
 | .lst es=>es.reads
 | .call _ es=>es.reads
 | .bi _ es=>es.reads
 | .get a es=>a.reads++es.reads
 | .isi a _=>a.reads
 | _=> []
noncomputable def Cs.reads:Cs→List Nat
 | .nil=> []
 | .cons c cs=>c.reads++cs.reads
end
noncomputable def Rs.owned (R:Rs):List Nat:=R.own.filterMap fun x=>R.put x
noncomputable def Rs.frz (R:Rs) (c:C):List Nat:=match R.own with
 | []=> []
 | _=>(c.reads.filter fun i=>decide (i∈R.owned)).eraseDups
noncomputable def frzs (R:Rs):List Nat→Ss→Ss
 | [],ss=>ss
 | i::is,ss=>ifD (i∈R.owned) (frzs R is ss) fun _=> .cons (.frz i) (frzs R is ss)
section
variable {R:Rs}
theorem SSs.frzs {sts:List Stmt} {cs:Ss} (h:SSs R sts cs) (is:List Nat):SSs R sts (DK.Internal.frzs R is cs):=by
 induction is with
 | nil=>exact h
 | cons i is ih=>
  unfold DK.Internal.frzs ifD
  by_cases q:i∈R.owned
  ·rw [dif_pos q]
   obtain ⟨x,_,hx⟩:=List.mem_filterMap.mp q
   exact SSs.frz hx ih
  ·rw [dif_neg q];exact ih
theorem lst_ok {Y:Cx} {cs:Cs} {sl:List Slot} {d:D} (h:Y.ex (.lst cs) sl = .ok d):∃xs,d = .list xs:=by
 replace h:(Y.exs cs sl>>=lstK) = .ok d:=h
 revert h
 cases Y.exs cs sl with
 | ok xs=>intro h;cases h;exact ⟨_,rfl⟩
 | exc=>intro h;cases h
 | stuck=>intro h;cases h
noncomputable def TS.bad {st:Stmt}:TS R st:=⟨.bad,[],SS.bad⟩
structure TF (R:Rs) (e:Expr) where
 c:C
 sf:SF R e c
 no:noComp e=true
variable (rec:∀(R:Rs) (e:Expr),TE R e)
noncomputable def trMul (es:List Expr) (q:Pos) (b:Expr) (p:Pos):∀op:Operator,Option (TF R (.BinOp (.List es q) op b p))
 | .Mult=>ifD (es.length≤SZ) none fun hz=>ifS (trEs rec es) none fun t _=>some ⟨_,SF.mul (SE.lst t.ses hz t.len) (rec R b).se fun _ _ _ h=>lst_ok h,rfl⟩
 | _=>none
noncomputable def trFresh:∀e:Expr,Option (TF R e)
 | .List es p=>ifD (es.length≤SZ) none fun hz=>ifS (trEs rec es) none fun t _=>some ⟨_,SF.lst t.ses hz t.len,rfl⟩
 | .BinOp a op b p=>match a with
  | .List es q=>trMul rec es q b p op
  | _=>none
 | _=>none
noncomputable def trPlain (x:Str) (p pos:Pos) {i:Nat} (h:R.put x=some i):∀e:Expr,TS R (.Assign [.Name x p] e pos)
 | .ListComp elt gens sc q=>ifS (trComp rec elt sc q gens) .bad fun t _=>⟨_,[],SS.asgC h t.sc⟩
 | e=>ifT (noComp e) .bad fun hn=>⟨_,R.frz (rec R e).c,SS.asg h hn (rec R e).se⟩
noncomputable def trAsg (v:Expr) (pos:Pos):∀t:Expr,TS R (.Assign [t] v pos)
 | .Name x p=>ifS (R.put x) .bad fun i h=>ifD (x∈R.own) (trPlain rec x p pos h v) fun _=>ifS (trFresh rec v) (trPlain rec x p pos h v) fun t _=>⟨_,R.frz t.c,SS.own h t.no t.sf⟩
 | .Tuple ts n p=>ifS (trNames ts) .bad fun t _=>ifT (swapOk v) .bad fun hs=>⟨_,R.frz (rec R v).c,SS.unp t.tn hs (rec R v).se⟩
 | .Subscript a j p=>match a with
  | .Name x q=>ifS (R.loc.lookup x) .bad fun i h=>ifT (nd x) .bad fun d=>⟨_,R.frz (.and (rec R j).c (rec R v).c),SS.sub h (ZqU d) (rec R j).se (rec R v).se⟩
  | _=> .bad
 | _=> .bad
noncomputable def trAs:∀(bs:List Bool) (es:List Expr),Option (TA R bs es)
 | [],es=>match es with
  | []=>some ⟨_,.nil⟩
  | _=>none
 | b::bs,es=>match es with
  | []=>none
  | e::es=>ifS (trAs bs es) none fun t _=>match b with
   | false=>ifT (noStar e) none fun hn=>some ⟨_,.val (rec R e).se hn t.h⟩
   | true=>match e with
    | .Name x p=>ifS (R.loc.lookup x) none fun i h=>ifT (nd x) none fun d=>some ⟨_,.own h (ZqU d) t.h⟩
    | .List ls p=>match ls with
     | []=>some ⟨_,.fresh t.h⟩
     | _=>none
    | _=>none
theorem SS.app' {m x:Str} {i:Nat} {e:Expr} {c:C} {xp apos pos sp:Pos} (h0:m = "append") (hx:R.loc.lookup x=some i) (hd:nd x=true) (hl:(apos.endLine == pos.line)=true) (hn:noStar e=true) (h:SE R e c) :
  SS R (.Expr (.Call (.Attribute (.Name x xp) m apos) [e] [] pos) sp) (.app i c):=by subst h0;exact SS.app hx (ZqU hd) hl hn h
theorem SS.ext' {m x:Str} {i:Nat} {e:Expr} {c:C} {xp apos pos sp:Pos} (h0:m = "extend") (hx:R.loc.lookup x=some i) (hd:nd x=true) (hl:(apos.endLine == pos.line)=true) (hn:noStar e=true) (h:SE R e c) :
  SS R (.Expr (.Call (.Attribute (.Name x xp) m apos) [e] [] pos) sp) (.ext i c):=by subst h0;exact SS.ext hx (ZqU hd) hl hn h
theorem SS.pop' {m x:Str} {i:Nat} {xp apos pos sp:Pos} (h0:m = "pop") (hx:R.loc.lookup x=some i) (hd:nd x=true) (hl:(apos.endLine == pos.line)=true) :
  SS R (.Expr (.Call (.Attribute (.Name x xp) m apos) [] [] pos) sp) (.pop i):=by subst h0;exact SS.pop hx (ZqU hd) hl
noncomputable def trMeth1 {x m:Str} {q apos pos p:Pos} {i:Nat} (h:R.loc.lookup x=some i) (d:nd x=true) (hl:(apos.endLine == pos.line)=true) (e:Expr):TS R (.Expr (.Call (.Attribute (.Name x q) m apos) [e] [] pos) p):=
 ifT (noStar e) .bad fun hn=>ifD (m = "append") (ifD (m = "extend") .bad fun h0=>⟨.ext i (rec R e).c,R.frz (rec R e).c,SS.ext' h0 h d hl hn (rec R e).se⟩) fun h0=>⟨.app i (rec R e).c,R.frz (rec R e).c,SS.app' h0 h d hl hn (rec R e).se⟩
noncomputable def trMeth (x m:Str) (q apos pos p:Pos) (es:List Expr):TS R (.Expr (.Call (.Attribute (.Name x q) m apos) es [] pos) p):=
 ifS (R.loc.lookup x) .bad fun i h=>ifT (nd x) .bad fun d=>ifT (apos.endLine == pos.line) .bad fun hl=>match es with
  | []=>ifD (m = "pop") .bad fun h0=>⟨.pop i,[],SS.pop' h0 h d hl⟩
  | e::es=>match es with
   | []=>trMeth1 rec h d hl e
   | _=> .bad
noncomputable def trX (f:Str) (q pos p:Pos) (es:List Expr):TS R (.Expr (.Call (.Name f q) es [] pos) p):=
 ifS (R.io.lookup f) ⟨.ex (trCallN (R:=R) rec f q pos es).c,R.frz (trCallN (R:=R) rec f q pos es).c,SS.exp rfl (trCallN rec f q pos es).se⟩ fun bs hb=>ifT (R.glob f) .bad fun hg=>ifS (R.fns.lookup f) .bad fun i hi=>match es with
  | []=> .bad
  | e::es=>ifS (trAs rec bs (e::es)) .bad fun t _=>⟨_,[],SS.callx hg hi hb t.h⟩
noncomputable def trExp (p:Pos):∀e:Expr,TS R (.Expr e p)
 | .Call f es kws pos=>match kws with
  | []=>match f with
   | .Name f q=>trX rec f q pos p es
   | .Attribute v m apos=>match v with
    | .Name x q=>trMeth rec x m q apos pos p es
    | _=> .bad
   | _=> .bad
  | _=> .bad
 | _=> .bad
theorem SS.raise' {f m:Str} {np mp cpos pos:Pos} {kn:Nat} (h0:f = "ValueError") (hx:R.glob f=true):SS R (.Raise (some (.Call (.Name f np) [.Constant (.str m) kn mp] [] cpos)) none pos) .raise:=by
 subst h0;exact SS.raise hx
noncomputable def trRaise (p:Pos):∀e c:Option Expr,TS R (.Raise e c p)
 | some (.Call (.Name f _) [.Constant (.str _) _ _] [] _),none=>ifD (f = "ValueError") .bad fun h0=>ifT (R.glob f) .bad fun h=>⟨_,[],SS.raise' h0 h⟩
 | _,_=> .bad
theorem SS.tri' {f z y x:Str} {zp xp yp tp hp hpos ap cp:Pos} {kn:Nat} {ee:Expr} {j hi:Nat} {c:C} (h0:f = "ValueError") (hg:R.glob f=true) (hz:R.put z=some j) (hn:noComp ee=true) (hs:SE R ee c) (hy:R.put y=some hi) (hx:x.cps.size≤SZ) :
  SS R (.Try [.Assign [.Name z zp] ee ap] [.ExceptHandler (some (.Name f xp)) none [.Assign [.Name y yp] (.Constant (.str x) kn cp) hp] hpos] [] [] tp) (.tri (some j) c hi (.k (.str x.cps.toList))):=by
 subst h0;exact SS.tri hg hz hn hs hy (HE.str hx) fun _ _=>nofun
noncomputable def trTry (p:Pos):∀(b:List Stmt) (hs:List ExceptHandler) (o f:List Stmt),TS R (.Try b hs o f p)
 | [.Assign [.Name z _] e _],[.ExceptHandler (some (.Name f _)) none [.Assign [.Name y _] (.Constant (.str x) _ _) _] _],[],[]=>
  ifD (f = "ValueError") .bad fun h0=>ifT (R.glob f) .bad fun hg=>ifS (R.put z) .bad fun i hi=>ifS (R.put y) .bad fun j hj=>ifT (noComp e) .bad fun hn=>ifD (x.cps.size≤SZ) .bad fun hx=>
   ⟨_,R.frz (rec R e).c,SS.tri' h0 hg hi hn (rec R e).se hj hx⟩
 | _,_,_,_=> .bad
noncomputable def It.frz (R:Rs):It→List Nat
 | .seq c=>R.frz c
 | _=> []
variable (recS:∀st:Stmt,TS R st)
noncomputable def trSs:∀sts:List Stmt,TSs R sts
 | []=>⟨.nil,SSs.nil⟩
 | s::r=>⟨frzs R (recS s).f (.cons (recS s).c (trSs r).c),SSs.frzs (SSs.cons (recS s).ss (trSs r).ss) _⟩
noncomputable def trS1:∀st:Stmt,TS R st
 | .Return v p=>match v with
  | none=>⟨_,[],SS.ret0⟩
  | some e=>⟨_,R.frz (rec R e).c,SS.ret (rec R e).se⟩
 | .Assign ts v p=>match ts with
  | []=> .bad
  | t::ts=>match ts with
   | []=>trAsg rec v p t
   | _=> .bad
 | .AugAssign t op v p=>match t with
  | .Name x q=>ifS (R.put x) .bad fun i h=>ifT (augOk op) .bad fun ho=>⟨_,R.frz (rec R v).c,SS.aug h ho (rec R v).se⟩
  | _=> .bad
 | .If t a b p=>⟨_,R.frz (rec R t).c,SS.ife (rec R t).st (trSs recS a).ss (trSs recS b).ss⟩
 | .While t b o p=>match o with
  | []=>⟨_,[],SS.whl (rec R t).st (trSs recS b).ss⟩
  | _=> .bad
 | .For t e b o p=>match o with
  | []=>ifT (notSet e) .bad fun hs=>ifS (trTgt t) .bad fun tg _=>⟨_,(trIt (R:=R) rec t e).i.frz R,SS.forr tg.tg (trIt rec t e).si (trIt rec t e).tp hs (trSs recS b).ss⟩
  | _=> .bad
 | .Raise e c p=>trRaise p e c
 | .Expr e p=>trExp rec p e
 | .Try b hs o f p=>trTry rec p b hs o f
 | .Break p=>⟨_,[],SS.brk⟩
 | .Continue p=>⟨_,[],SS.cont⟩
 | _=> .bad
end
noncomputable def trS {R:Rs}:Nat→∀st:Stmt,TS R st
 | 0=>fun _=> .bad
 | n+1=>fun st=>trS1 (trE 60) (trS n) st
end DK.Internal
end
section
set_option backward.match.sparseCases false
set_option genSizeOf false
set_option genCtorIdx false
namespace DK.Internal
open PySem PyProof.Rows
noncomputable def defsOf:List Stmt→List Def
 | []=> []
 | .FunctionDef name args body _ _ _ sc _ _ _::r=>⟨name,args.args.map (·.arg),sc.names,body⟩::defsOf r
 | _::r=>defsOf r
noncomputable def fnOf (P:Prg) (own:List (Str × List Str)) (d:Def):Fn:=⟨d.ps.length,(locals d.ps d.names).length,(trSs (R:=rsOf P ((own.lookup d.name).getD []) d) (trS 20) d.body).c⟩
theorem bodies_of {P:Prg} {own:List (Str × List Str)} (h:P.T.fns=P.defs.map (fnOf P own)):Bodies P:=fun i d fn hd hf=>by
 rw [h,List.getElem?_map,hd] at hf
 cases hf
 exact ⟨_,rfl,rfl,(trSs (trS 20) d.body).ss⟩
end DK.Internal
end
section
set_option backward.match.sparseCases false
set_option genSizeOf false
set_option genCtorIdx false
namespace DK.Internal
open PySem PyProof.Rows
noncomputable def flatV (t:Nat):D→Value
 | .int i=> .int i t
 | .str s=> .str ⟨⟨s⟩⟩ t
 | _=> .none
noncomputable def flatOk:D→Bool
 | .int _=>true
 | .str s=>decide (s.length≤SZ)
 | _=>false
theorem Zun {t:Nat} (d:D) (h:flatOk d=true):Flat (flatV t d) d:=by
 cases d with
 | int i=>exact ⟨t,rfl⟩
 | str s=>exact ⟨_,t,rfl,of_decide_eq_true h,rfl⟩
 | _=>cases h
noncomputable def ents {κ : Type} (hash : κ→Int) (kv : κ→Nat→Value):Nat→List (κ × D)→List DictEntry
 | _,[]=> []
 | t,p::r=>⟨hash p.1,kv p.1 t,flatV (t+1) p.2⟩::ents hash kv (t+2) r
noncomputable abbrev dicO (es:List DictEntry) (n:Nat):Obj:=⟨.type "dict",none,.dict es.toArray n,#[]⟩
section
variable {P:Prg} {κ : Type} [DecidableEq κ] {kd:PySem.KeyKind P.prog P.w κ} {key : κ→D} {kv : κ→Nat→Value} {isK:D→Bool}
theorem ZtA (hk:∀k t,kd.is k (kv k t)=true) (hkey:∀a b,keyIs (key a) (key b)=decide (b=a)) (k : κ) (ps:List (κ × D)):∀t,(ps.all fun p=>flatOk p.2)=true→FlatO (findBy kd.is (ents kd.hash kv t ps).toArray k) (dget (key k) (ps.map fun p=>key p.1) (ps.map (·.2))):=by
 induction ps with
 | nil=>exact fun _ _=>trivial
 | cons p ps ih=>
  intro t h
  rw [List.all_cons,Bool.and_eq_true] at h
  have:=ih (t+2) h.2
  unfold findBy at this ⊢
  rw [List.find?_toArray] at this ⊢
  rw [ents,List.map_cons,List.map_cons,dget,hkey,List.find?_cons,show kd.is k (kv p.1 t)=decide (k=p.1) from KeyKind.is_eq_decide (hk p.1 t) k]
  by_cases e:k=p.1
  ·rw [decide_eq_true e];exact Zun _ h.1
  ·rw [decide_eq_false e];exact this
theorem ZtB (hk:∀k t,kd.is k (kv k t)=true) (ps:List (κ × D)):∀t,∀e∈ents kd.hash kv t ps,∃k,kd.is k e.key=true∧e.hash=kd.hash k:=by
 induction ps with
 | nil=>exact fun _ _ h=>nomatch h
 | cons p ps ih=>
  intro t e h
  rcases List.mem_cons.mp h with q | q
  ·exact ⟨p.1,by rw [q];exact hk ..,by rw [q]⟩
  ·exact ih _ e q
theorem Zsj (hk:∀k t,kd.is k (kv k t)=true) (hkey:∀a b,keyIs (key a) (key b)=decide (b=a)) (hK:∀k,isK (key k)=true) {Z:Zm} {a:Addr} {t n:Nat} (p : κ × D) (ps:List (κ × D)) (hs:(a == sysModules)=false)
  (ho:Z a=some (dicO (ents kd.hash kv t (p::ps)) n)) (hf:((p::ps).all fun p=>flatOk p.2)=true):DictAt P Z kd key isK a ((p::ps).map fun p=>key p.1) ((p::ps).map (·.2)):=
 ⟨hs,nofun,by rw [List.length_map,List.length_map],by rw [List.all_map];exact List.all_eq_true.mpr fun x _=>hK x.1,_,
  fun h q=>⟨_,_,n,q a _ ho,⟨rfl,rfl,rfl⟩,rfl,fun e he=>ZtB hk (p::ps) t e (List.mem_toArray.mp he),fun _=>rfl⟩,fun k=>ZtA hk hkey k (p::ps) t hf⟩
end
section
variable {P:Prg} {a:Addr} {t n:Nat} {Z:Zm}
theorem rep_str (p:Str × D) (ps:List (Str × D)) (hs:(a == sysModules)=false) (ho:Z a=some (dicO (ents (hashStr P.w) (fun x t=> .str x t) t (p::ps)) n)) (hf:((p::ps).all fun p=>flatOk p.2)=true) :
  Rep P Z (.dict ((p::ps).map fun p=> .str p.1.cps.toList) ((p::ps).map (·.2))) (.ref a):=
 ⟨a,rfl,.inl (Zsj (kd:=PySem.strKind P.prog P.w) (kv:=fun x t=> .str x t) (fun k t=>by unfold PySem.strKind Value.isStrOf;exact beq_self_eq_true k) (fun x y=>by
  show (x.cps.toList == y.cps.toList)=_
  by_cases e:y=x
  ·rw [e,beq_self_eq_true,decide_eq_true rfl]
  ·rw [decide_eq_false e]
   refine beq_eq_false_iff_ne.mpr fun q=>e ?_
   obtain ⟨⟨x⟩⟩:=x
   obtain ⟨⟨y⟩⟩:=y
   exact congrArg (fun l:List Nat=>(⟨⟨l⟩⟩:Str)) (Eq.symm q)) (fun _=>rfl) p ps hs ho hf)⟩
theorem rep_int (p:Int × D) (ps:List (Int × D)) (hs:(a == sysModules)=false) (ho:Z a=some (dicO (ents hashInt (fun x t=> .int x t) t (p::ps)) n)) (hf:((p::ps).all fun p=>flatOk p.2)=true) :
  Rep P Z (.dict ((p::ps).map fun p=> .int p.1) ((p::ps).map (·.2))) (.ref a):=
 ⟨a,rfl,.inr (Zsj (kd:=PySem.intKind P.prog P.w) (kv:=fun x t=> .int x t) (fun k t=>by unfold PySem.intKind Value.isInt;exact beq_self_eq_true k) (fun x y=>by
  show decide (x=y)=_
  exact decide_eq_decide.mpr eq_comm) (fun _=>rfl) p ps hs ho hf)⟩
end
noncomputable def readAll (f:Value→Option D):List Value→Option (List D)
 | []=>some []
 | v::vs=>(f v).bind fun d=>(readAll f vs).map (d :: ·)
noncomputable def readS (o:Obj) (ds:List D):Option D:=if o.cls = .type "tuple" then some (.tuple ds) else if o.cls = .type "list" then some (.list ds) else none
noncomputable def readO (f:Value→Option D) (o:Obj):Option D:=match o.data with
 | .seq vs _=>if o.dict=none∧o.slots.size=0∧vs.size≤SZ then (readAll f vs.toList).bind (readS o) else none
 | _=>none
noncomputable def readH (h:Heap):Nat→Value→Option D
 | 0,_=>none
 | n+1,v=>match v with
  | .int i _=>some (.int i)
  | .str x _=>if x.cps.size≤SZ then some (.str x.cps.toList) else none
  | .bytes b _=>if b.size≤SZ then some (.bytes b.toList) else none
  | .ref a=>(h.get? a).bind (readO (readH h n))
  | _=>none
theorem Zro {α:Type} {c:Prop} [i:Decidable c] {x:Option α} {a:α} (h:(if c then x else none)=some a):c∧x=some a:=by
 by_cases q:c
 ·rw [if_pos q] at h;exact ⟨q,h⟩
 ·rw [if_neg q] at h;cases h
section
variable {P:Prg} {h:Heap} {f:Value→Option D}
theorem Zsz {Z:Zm} (hf:∀v d,f v=some d→Rep P Z d v) (vs:List Value):∀{ds:List D},readAll f vs=some ds→Reps P Z ds vs:=by
 induction vs with
 | nil=>intro ds e;cases e;rfl
 | cons v vs ih=>
  intro ds e
  obtain ⟨d,h1,e⟩:=Option.bind_eq_some_iff.mp e
  obtain ⟨ds',h2,e⟩:=Option.map_eq_some_iff.mp e
  cases e
  exact .cons (hf v d h1) (ih h2)
theorem ZtC {Z:Zm} {a:Addr} {c:Value} {vs:List Value} {n:Nat} {ds:List D} {d:D} (ho:Z a=some ⟨c,none,.seq ⟨vs⟩ n,#[]⟩) (q3:vs.length≤SZ) (r:Reps P Z ds vs) (e:readS ⟨c,none,.seq ⟨vs⟩ n,#[]⟩ ds=some d):Rep P Z d (.ref a):=by
 unfold readS at e
 by_cases q:c = .type "tuple"
 ·subst q;cases (show some (D.tuple ds)=some d from e);exact ⟨a,vs,n,rfl,ho,q3,r⟩
 ·obtain ⟨q,e⟩:=Zro ((if_neg q).symm.trans e)
  subst q;cases e;exact ⟨a,vs,n,rfl,ho,q3,r⟩
theorem ZtD {Z:Zm} {a:Addr} {o:Obj} {d:D} (hf:∀v d,f v=some d→Rep P Z d v) (ho:Z a=some o) (e:readO f o=some d):Rep P Z d (.ref a):=by
 obtain ⟨c,di,da,sl⟩:=o
 cases da with
 | seq vs n=>
  obtain ⟨⟨q1,q2,q3⟩,e⟩:=Zro (show (if di=none∧sl.size=0∧vs.size≤SZ then (readAll f vs.toList).bind (readS ⟨c,di,.seq vs n,sl⟩) else none)=some d from e)
  subst q1
  cases Array.size_eq_zero_iff.mp q2
  obtain ⟨vs⟩:=vs
  obtain ⟨ds,h1,e⟩:=Option.bind_eq_some_iff.mp e
  exact ZtC ho q3 (Zsz hf vs h1) e
 | _=>cases e
theorem readH_rep (st:h.StaysIn P.gh) (n:Nat):∀(v:Value) (d:D),readH h n v=some d→Rep P P.gh.get? d v:=by
 induction n with
 | zero=>intro v d e;cases e
 | succ n ih=>
  intro v d e
  cases v with
  | int i t=>cases e;exact ⟨t,rfl⟩
  | str x t=>
   replace e:(if x.cps.size≤SZ then some (D.str x.cps.toList) else none)=some d:=e
   obtain ⟨q,e⟩:=Zro e
   cases e;exact ⟨x,t,rfl,q,rfl⟩
  | bytes b t=>
   replace e:(if b.size≤SZ then some (D.bytes b.toList) else none)=some d:=e
   obtain ⟨q,e⟩:=Zro e
   cases e;exact ⟨b,t,rfl,q,rfl⟩
  | ref a=>
   obtain ⟨o,h1,e⟩:=Option.bind_eq_some_iff.mp (show (h.get? a).bind (readO (readH h n))=some d from e)
   exact ZtD ih (st a o h1) e
  | _=>cases e
end
noncomputable def readG (h:Heap) (x:Str):Option D:=(h.nsMap mainGlobals x).bind (readH h 5)
noncomputable def objV (h:Heap) (v:Value):Option Obj:=match v with
 | .ref a=>if (a == sysModules)=true then none else h.get? a
 | _=>none
noncomputable def objG (h:Heap) (x:Str):Option Obj:=(h.nsMap mainGlobals x).bind (objV h)
theorem objG_spec {h:Heap} {x:Str} {o:Obj} (e:objG h x=some o):∃a,h.nsMap mainGlobals x=some (.ref a)∧(a == sysModules)=false∧h.get? a=some o:=by
 obtain ⟨v,h1,e⟩:=Option.bind_eq_some_iff.mp e
 cases v with
 | ref a=>
  replace e:(if (a == sysModules)=true then none else h.get? a)=some o:=e
  cases q:a == sysModules with
  | false=>rw [q,if_neg Bool.false_ne_true] at e;exact ⟨a,h1,q,e⟩
  | true=>rw [q,if_pos rfl] at e;cases e
 | _=>cases e
noncomputable def defOf (d:DefRec):Def:=⟨d.name,d.params.args.map (·.arg),d.scope.names,d.body⟩
noncomputable def recOk (d:DefRec):Bool:=
 decide (d.scope.kind = .function∧d.scope.isCoroutine=false∧d.scope.isGenerator=false∧(∀x∈(defOf d).ps,d.scope.names.lookup x=some .local∨d.scope.names.lookup x=some .cell) ∧
  (defOf d).ps.Nodup∧∀n∈d.scope.names,d.scope.names.lookup n.1=some n.2)
noncomputable abbrev vals (n:Nat) (v:Nat→Value):List Value:=(List.range n).map v
theorem Zuo (vs:List Value):vals vs.length (fun i=>vs.getD i .none)=vs:=by
 refine List.ext_getElem (by rw [List.length_map,List.length_range]) fun i h1 h2=> ?_
 rw [List.getElem_map,List.getElem_range,List.getD_eq_getElem?_getD,List.getElem?_eq_getElem h2];rfl
noncomputable def fdOf (d:DefRec) (pm code doc:Value):FuncData:=Calls.docDef d.name d.params d.body d.scope pm code doc
def Binds (d:DefRec):Prop:=∀(pm code doc:Value) (v:Nat→Value),bindArgs (fdOf d pm code doc) ⟨vals d.params.args.length v,[]⟩=pure ((defOf d).ps.zip (vals d.params.args.length v))
theorem fnOk_of {P:Prg} {d:DefRec} {a:Addr} {o:Obj} {pm code doc:Value} {i:Nat} (hd:recOk d=true) (hB:Binds d) (ho:P.gh.get? a=some o) (hf:o.data = .func (fdOf d pm code doc)) (hc:P.gh.CodeRec code d.name)
  (hi:P.defs[i]?=some (defOf d)):FnOk P a i (fdOf d pm code doc) (defOf d):=
 have k:=of_decide_eq_true hd
 {
  obj:=⟨o,ho,hf⟩,code:=hc,body:=rfl,names:=rfl,kind:=k.1,co:=k.2.1,gen:=k.2.2.1,clo:=rfl,glob:=rfl,buil:=rfl
  bind:=fun vs hv=>by
   have hv:vs.length=d.params.args.length:=hv.trans (List.length_map ..)
   have:=hB pm code doc fun i=>vs.getD i .none
   rw [←hv,Zuo vs] at this
   exact this
  fn:=hi,pk:=k.2.2.2.1,nd:=k.2.2.2.2.1,nk:=k.2.2.2.2.2 }
end DK.Internal
end
section
set_option backward.match.sparseCases false
set_option genSizeOf false
set_option genCtorIdx false
set_option maxRecDepth 100000
namespace DK.Internal
open DK.Internal.B
open PySem PySem.W PyProof.Rows
noncomputable def pX:Program:=PySem.Challenge.pw_sx_r148_2
noncomputable def dsX:List Def:=defsOf PySem.Challenge.pw_sx_r148_2.main.body
noncomputable def fnsX:List (Str × Nat):=placed 0 (dsX.map fun d=>d.name)
noncomputable def glX:List Str:= ["_TAGS", "_NAMES", "_PRINTABLE_EXTRA", "_PARTS", "_law_kinds", "_law_printed", "_law_utf8", "_law_not_utf8", "_law_years", "_law_tails", "_law_bad_tails"]
noncomputable def ownX:List (Str × List Str):= [("_be_bytes_into",["tmp", "out"]),("_be_bytes",["out"]),("write_arc",["out", "result"]),("encode",["parts"]),("_kids",["out"]),("_read_oid",["arcs"]),("_walk",["path", "out"]),("walk",["out"])]
noncomputable def PX (prog:Program) (w:World) (h:Heap) (mg mb:Str→Option Value):Prg:=⟨prog,w,T2L,dsX,fnsX,placed 0 glX,[("_be_bytes_into",[false,false,true]),("_walk",[false,true,true])],h,mg,mb⟩
theorem TXfns (prog:Program) (w:World) (h:Heap) (mg mb:Str→Option Value):T2L.fns=dsX.map (fnOf (PX prog w h mg mb) ownX):=by kernel_rfl
noncomputable def isDef:Stmt→Bool
 | .FunctionDef .. =>true
 | _=>false
noncomputable def qX:Program:={ PySem.Challenge.pw_sx_r148_2 with main:={ PySem.Challenge.pw_sx_r148_2.main with body:=PySem.Challenge.pw_sx_r148_2.main.body.filter isDef } }
theorem recsX:(recsOf qX).map DK.Internal.defOf=dsX:=by kernel_rfl
theorem bindsX (pm code doc:Value) (v:Nat→Value):(recsOf qX).map (fun d=>bindArgs (fdOf d pm code doc) ⟨vals d.params.args.length v,[]⟩)=(recsOf qX).map fun d=>pure ((DK.Internal.defOf d).ps.zip (vals d.params.args.length v)):=by kernel_rfl
theorem recsX_ok:(recsOf qX).all DK.Internal.recOk=true:=by kernel_rfl
noncomputable def bnX:List Str:=tyTab.map (·.1)++biTab.map (·.1)++(["isinstance", "range", "enumerate", "ValueError"]:List Str)
noncomputable def freeOk (x:Str):Bool:=decide (x∉startupNames∧x∉looseW qX glX∧x∉(recsOf qX).map (·.name)∧x∉(litsOf qX).map (·.1)∧x∉(clssOf qX (looseW qX glX)).map (·.name)∧x≠ "__name__")
theorem bnX_free:bnX.all freeOk=true:=by kernel_rfl
theorem boot_ty:tyTab.map (fun p=>bootBuiltins p.1)=tyTab.map fun p=>some (.type p.2.name):=by kernel_rfl
theorem boot_bi:biTab.map (fun p=>bootBuiltins p.1)=biTab.map fun p=>some (biVal p.2):=by kernel_rfl
theorem boot_rest:(["isinstance", "range", "enumerate", "ValueError"]:List Str).map bootBuiltins = [some (.builtin "isinstance"),some (.type "range"),some (.type "enumerate"),some VE]:=by kernel_rfl
noncomputable def strX (s:List Nat):Str:=⟨⟨s⟩⟩
noncomputable def tagsX:List (Str × D):= [(strX sBool,.int 1),(strX sInt,.int 2),(strX sBits,.int 3),(strX sBytes,.int 4),(strX sNull,.int 5),(strX sOid,.int 6),(strX sEnum,.int 10),(strX sUtf8,.int 12),(strX sPrint,.int 19),(strX sTime,.int 24),(strX sSeq,.int 48),(strX sSet,.int 49)]
noncomputable def namesX:List (Int × D):= [(1,.str sBool),(2,.str sInt),(3,.str sBits),(4,.str sBytes),(5,.str sNull),(6,.str sOid),(10,.str sEnum),(12,.str sUtf8),(19,.str sPrint),(24,.str sTime),(48,.str sSeq),(49,.str sSet)]
noncomputable def partsX:List (Str × D):= [(strX sNull,.int 1),(strX sBits,.int 3),(strX sTagged,.int 3)]
noncomputable def rnX:List Str:= ["_PRINTABLE_EXTRA", "_law_kinds", "_law_printed", "_law_utf8", "_law_not_utf8", "_law_years", "_law_tails", "_law_bad_tails"]
noncomputable def rdX:List D:= [gExtra,gKinds,gPrinted,gUtf8,gNotUtf8,gYears,gTails,gBadTails]
def DataX (P:Prg) (m:Str→Option Value):Prop:=∀p∈glX.zip T2L.globs,∃v,m p.1=some v∧Rep P P.gh.get? p.2 v
noncomputable def obsX (s:Shared):Bool × List (Option Obj) × List (Option D):=(s.heap.isNs mainGlobals,(["_TAGS", "_NAMES", "_PARTS"]:List Str).map (objG s.heap),rnX.map (readG s.heap))
noncomputable def valX (w:World):Bool × List (Option Obj) × List (Option D):=(true,[some (dicO (ents (hashStr w) (fun x t=> .str x t) 331 tagsX) 12),some (dicO (ents hashInt (fun x t=> .int x t) 368 namesX) 12),some (dicO (ents (hashStr w) (fun x t=> .str x t) 460 partsX) 3)],rdX.map some)
def saysX (w:World) (h:Heap):Prop:=∀P:Prg,P.w=w→h.StaysIn P.gh→∀m,P.gh.Ns mainGlobals m→DataX P m
theorem says_of (w:World) (s:Shared) (e:obsX s=valX w):saysX w s.heap:=fun P hw st m hm=>by
 subst hw
 have hN:s.heap.isNs mainGlobals=true:=congrArg Prod.fst e
 cases ns_unique (ns_keep (Heap.Ns.of_isNs hN) fun o q=>⟨o,st _ _ q,rfl⟩) hm
 have rd:∀{x:Str} {d:D},readG s.heap x=some d→∃v,s.heap.nsMap mainGlobals x=some v∧Rep P P.gh.get? d v:=fun h=>by
  obtain ⟨v,h1,h2⟩:=Option.bind_eq_some_iff.mp h
  exact ⟨v,h1,readH_rep st 5 v _ h2⟩
 have e1:(["_TAGS", "_NAMES", "_PARTS"]:List Str).map (objG s.heap)=_:=congrArg (fun x=>x.2.1) e
 have e2:rnX.map (readG s.heap)=rdX.map some:=congrArg (fun x=>x.2.2) e
 obtain ⟨q1,e1⟩:=List.cons.inj e1
 obtain ⟨q2,e1⟩:=List.cons.inj e1
 obtain ⟨q3,_⟩:=List.cons.inj e1
 obtain ⟨a1,b1,c1,d1⟩:=objG_spec q1
 obtain ⟨a2,b2,c2,d2⟩:=objG_spec q2
 obtain ⟨a3,b3,c3,d3⟩:=objG_spec q3
 obtain ⟨r1,e2⟩:=List.cons.inj e2
 obtain ⟨r2,e2⟩:=List.cons.inj e2
 obtain ⟨r3,e2⟩:=List.cons.inj e2
 obtain ⟨r4,e2⟩:=List.cons.inj e2
 obtain ⟨r5,e2⟩:=List.cons.inj e2
 obtain ⟨r6,e2⟩:=List.cons.inj e2
 obtain ⟨r7,e2⟩:=List.cons.inj e2
 obtain ⟨r8,_⟩:=List.cons.inj e2
 have t1:=rep_str (P:=P) _ _ c1 (st _ _ d1) (by kernel_rfl)
 have t2:=rep_int (P:=P) _ _ c2 (st _ _ d2) (by kernel_rfl)
 have t3:=rep_str (P:=P) _ _ c3 (st _ _ d3) (by kernel_rfl)
 exact List.forall_mem_cons.mpr ⟨⟨_,b1,t1⟩,List.forall_mem_cons.mpr ⟨⟨_,b2,t2⟩,List.forall_mem_cons.mpr ⟨rd r1,List.forall_mem_cons.mpr ⟨⟨_,b3,t3⟩,
  List.forall_mem_cons.mpr ⟨rd r2,List.forall_mem_cons.mpr ⟨rd r3,List.forall_mem_cons.mpr ⟨rd r4,List.forall_mem_cons.mpr ⟨rd r5,List.forall_mem_cons.mpr ⟨rd r6,List.forall_mem_cons.mpr ⟨rd r7,List.forall_mem_cons.mpr ⟨rd r8,fun _ h=>nomatch h⟩⟩⟩⟩⟩⟩⟩⟩⟩⟩⟩
section
variable {w:World} {mean:ExcName→Option Value} {mg mb:Str→Option Value} {prog:Program} {s:Shared}
theorem gloX (T:Top qX (looseW qX glX) mean mg mb s.heap) (Y:saysX w s.heap):Glo (PX prog w s.heap mg mb):=by
 have fr:∀{x},x∈bnX→mg x=none∧mb x=bootBuiltins x:=fun {x} h=>by
  obtain ⟨h1,h2,h3,h4,h5,h6⟩:=of_decide_eq_true (List.all_eq_true.mp bnX_free x h)
  exact ⟨T.free x h1 h2 h3 h4 h5,T.builtins x h6⟩
 have nm:∀{x},x∈(["isinstance", "range", "enumerate", "ValueError"]:List Str)→x∈bnX:=fun h=>List.mem_append_right _ h
 have bt:=boot_rest
 obtain ⟨b1,bt⟩:=List.cons.inj bt
 obtain ⟨b2,bt⟩:=List.cons.inj bt
 obtain ⟨b3,bt⟩:=List.cons.inj bt
 obtain ⟨b4,_⟩:=List.cons.inj bt
 have ot:∀{x v},x∈(["isinstance", "range", "enumerate", "ValueError"]:List Str)→bootBuiltins x=some v→mg x=none∧mb x=some v:=fun h q=>⟨(fr (nm h)).1,(fr (nm h)).2.trans q⟩
 refine { g:=T.g,b:=T.b,lim:=T.nolimit,ty:=fun x t e=> ?_,bi:=fun x t e=> ?_,isi:=ot (.head _) b1,rng:=ot (.tail _ (.head _)) b2,enu:=ot (.tail _ (.tail _ (.head _))) b3,sys:= ?_,ve:=ot (.tail _ (.tail _ (.tail _ (.head _)))) b4,data:=fun x g e=> ?_,fn:=fun f i e=> ?_ }
 ·have m:=lookup_mem e
  have:=fr (List.mem_append_left _ (List.mem_append_left _ (List.mem_map_of_mem (f:=(·.1)) m)))
  exact ⟨this.1,this.2.trans (List.map_inj_left.mp boot_ty _ m)⟩
 ·have m:=lookup_mem e
  have:=fr (List.mem_append_left _ (List.mem_append_right _ (List.mem_map_of_mem (f:=(·.1)) m)))
  exact ⟨this.1,this.2.trans (List.map_inj_left.mp boot_bi _ m)⟩
 ·obtain ⟨o,es,ep,ho,_⟩:=T.g
  exact ⟨_,o,by decide,ho⟩
 ·have h1:=(placed_get glX e).2
  rw [Nat.sub_zero] at h1
  have hlt:g < T2L.globs.length:=(List.getElem?_eq_some_iff.mp h1).1
  have h2:=List.getElem?_eq_getElem hlt
  obtain ⟨v,a,b⟩:=Y (PX prog w s.heap mg mb) rfl (fun _ _ q=>q) mg T.g _ (List.mem_of_getElem? (List.getElem?_zip_eq_some (z:=(x,T2L.globs[g])).mpr ⟨h1,h2⟩))
  exact ⟨v,_,a,h2,b⟩
 ·have:=(placed_get (dsX.map fun d=>d.name) e).2
  rw [Nat.sub_zero,←recsX,List.map_map,List.getElem?_map] at this
  cases hr:(recsOf qX)[i]? with
  | none=>rw [hr] at this;cases this
  | some rec=>
   rw [hr] at this
   have hn:rec.name=f:=Option.some.inj this
   have hm:=List.mem_of_getElem? hr
   obtain ⟨a,o,pm,code,doc,h1,h2,h3,h4⟩:=T.fn rec hm
   exact ⟨a,_,DK.Internal.defOf rec,hn ▸ h1,fnOk_of (P:=PX prog w s.heap mg mb) (List.all_eq_true.mp recsX_ok _ hm) (fun pm code doc v=>List.map_inj_left.mp (bindsX pm code doc v) _ hm) h2 h3 h4 (by show dsX[i]?=_;rw [←recsX,List.getElem?_map,hr];rfl),hn⟩
theorem depthX:callerA.depth+301 < recursionLimit:=by decide +kernel
theorem unitsX:callerA.units+3*301+100≤cLine:=by decide +kernel
theorem law_ix:fnsX.lookup (Str.ofString "law")=some 38:=by kernel_rfl
theorem repsInts {P:Prg} {Z:Zm} {Ps:Params} {h:Heap} (zs:List Int):∀{vs:List Value},WellAll Ps h vs (ofPys (zs.map PyData.int))→Reps P Z (zs.map .int) vs:=by
 induction zs with
 | nil=>intro vs x;cases x;rfl
 | cons i is ih=>
  intro vs x
  cases x with
  | cons a b=>cases a;exact .cons ⟨_,rfl⟩ (ih b)
theorem lawX (T:Top qX (looseW qX glX) mean mg mb s.heap) (Y:saysX w s.heap) {fa:Addr} (hmg:mg "law" = some (.ref fa)) {v:Value} {zs:List Int} (hl:zs.length≤1000) {Ps:Params}
  (hW:Well Ps s.heap v (ofPy (.list (zs.map PyData.int)))) {Q:Value→Shared→Prop} {E:Value→Shared→Prop} (hQ:∀s':Shared,(∀b o,s.heap.get? b=some o→s'.heap.get? b=some o)→s'={ s with heap:=s'.heap,toks:=s'.toks }→Q (.bool true) s') :
  wpAny (model prog w) callerA (PySem.call (.ref fa) [v]) Q E s:=by
 obtain ⟨sl,hev⟩:=law2_true zs
 have hG:=gloX (prog:=prog) T Y
 obtain ⟨a,fd,d,ha,ok,_⟩:=hG.fn "law" 38 law_ix
 cases Option.some.inj (hmg.symm.trans ha)
 have rv:Rep (PX prog w s.heap mg mb) s.heap.get? (.list (zs.map .int)) v:=by
  cases hW with
  | list e y=>
   have r:=repsInts (P:=PX prog w s.heap mg mb) (Z:=s.heap.get?) zs y
   exact ⟨_,_,_,rfl,e,by rw [r.length,List.length_map];exact Nat.le_trans hl (by decide),r⟩
 refine CallG.plain (call_all (P:=PX prog w s.heap mg mb) (bodies_of (TXfns prog w s.heap mg mb)) 301 ⟨PX prog w s.heap mg mb,301,callerA,s.heap,[]⟩ rfl rfl) (Z:=s.heap.get?) (xs:= [.list (zs.map .int)])
  {
   glo:=hG,below:=below_caller _,gb:=fun _ _ e=>e,sub:=fun _ _ e=>e,gz:=fun _ _ e=>e,frz:=fun b hb=>(nomatch hb),depth:=depthX,units:=unitsX,hand:=rfl } ok (.cons rv .nil) ?_
 show K _ _ _ (callT real T2L 301 38 [.val (.list (zs.map .int))]>>=retD) Q E s
 rw [hev]
 intro v' Z' s' g r
 cases (show v' = .bool true from r)
 exact hQ s' (fun b o e=>g.ks.keep b o e (fun q=>q) (fun q=>nomatch q)) g.same
end
theorem lawPost (l:OpenLaw) (args:List WData):l.row.claim.post args (.bool true) args=true:=by
 refine postW_of (X:=true) ?_ ?_ rfl
 ·first | rfl | decide | simp [WShape.has,OpenLaw.row]
 ·show WTm.value _ (.eq .res (.lit (.bool true))) _=_
  first | rfl | decide | (unfold WTm.value;rfl) | (simp [WTm.value];first | rfl | decide | exact (same_iff _ _).mpr rfl | exact same_iff.mpr rfl | simp [same_iff])
end DK.Internal
end
section
set_option backward.match.sparseCases false
set_option genSizeOf false
set_option genCtorIdx false
set_option maxRecDepth 100000
set_option maxHeartbeats 8000000
namespace DK.Internal
open PySem PySem.W PyProof.Rows
noncomputable abbrev rX:OpenRow:=PySem.Challenge.rw_sx_r148_2.row
noncomputable def XtX (s:Shared):Bool:=xlAt qX [] s && W.recOk (RowW.records (OpenRow.toRowW rX)) s
theorem pair_map {α β γ:Type} {o:Option α} {f:α→β} {g:α→γ} {a:β} {b:γ} (h1:o.map f=some a) (h2:o.map g=some b):o.map (fun x=>(f x,g x))=some (a,b):=by
 cases o with
 | none=>cases h1
 | some x=>cases h1;cases h2;rfl
theorem left0 (w:World):(fencedOpening treeTable rX.prog w 3868).map (fun s₀=>(topFrom treeTable rX.prog (w.withFollow "special-get-raises" false) 3868 s₀).map fun s=>(openSeen qX glX (importedModules rX.prog.main.body) XtX true s,obsX s))=some (some (openGood qX glX,valX (w.withFollow "special-get-raises" false))):=by kernel_rfl
theorem left1 (w:World):(fencedOpening treeTable rX.prog w 3868).map (fun s₀=>(topFrom treeTable rX.prog (w.withFollow "special-get-raises" true) 3868 s₀).map fun s=>(openSeen qX glX (importedModules rX.prog.main.body) XtX true s,obsX s))=some (some (openGood qX glX,valX (w.withFollow "special-get-raises" true))):=by kernel_rfl
theorem leftX:LeftO rX.prog qX glX XtX obsX valX 3868:=LeftO.of_split "special-get-raises" fun w=>pair_map (left0 w) (left1 w)
end DK.Internal
end
section
set_option backward.match.sparseCases false
set_option genSizeOf false
set_option genCtorIdx false
set_option maxRecDepth 100000
set_option maxHeartbeats 8000000
namespace DK.Internal
open PySem PySem.W PyProof.Rows
theorem says_keeps (w:World) (h h':Heap) (y:saysX w h) (k:∀b o,h.get? b=some o→h'.get? b=some o):saysX w h':=fun P hw st m hm=>y P hw (fun b o e=>st b o (k b o e)) m hm
noncomputable def dX:DefRec:=((PySem.W.defOf qX rX.name).getD ⟨⟨"",default,[],default,default⟩,[]⟩).1
theorem nameX:dX.name=Str.ofString "law" :=by kernel_rfl
theorem hdefX:PySem.W.defOf qX rX.name=some (dX,[]):=by kernel_rfl
theorem hpX:rX.prog.theDef rX.name=some (dX.params,dX.body,dX.scope):=by kernel_rfl
theorem hkX:kwWritten? dX.params.kwonlyargs dX.params.kw_defaults=some []:=by kernel_rfl
theorem okX:(chainsOk qX && opensWell rX.prog && (PySem.W.frees rX.toRowW && rX.within.isEmpty))=true:=by kernel_rfl
theorem roadX:noRoadLSs { strict:= !(importedModules rX.prog.main.body).all cThrough.contains,foot:=none,bare:=(["vars", "dir", "locals"]:List Str).filter (readsOut rX.prog rX.prog.main.body) } rX.prog.main.body=true:=by kernel_rfl
theorem looksX:looksOpen rX.prog=true:=by
 unfold looksOpen
 rw [roadX]
 kernel_rfl
theorem partX:rX.partSaid=true:=by
 unfold OpenRow.partSaid
 rw [looksX]
 kernel_rfl
theorem rowX:rX.wellSaid=true:=by
 unfold OpenRow.wellSaid
 rw [partX]
 kernel_rfl
noncomputable abbrev lX:OpenLaw:=PySem.Challenge.rw_sx_r148_2
theorem road2X:noRoadLSs { strict:=true,foot:=some lX.bound',writes:=lX.writes,may:=lX.may } lX.footing=true:=by kernel_rfl
theorem boundX:lX.bound'.all (fun n=> !builtinNamed n || lX.about == [n] || !lX.reads n)=true:=by kernel_rfl
theorem saidX:lX.wellSaid=true:=by
 unfold OpenLaw.wellSaid
 rw [rowX,road2X,boundX]
 kernel_rfl
theorem bareX:rX.prog.bare:=⟨rfl,rfl,rfl,rfl,rfl,by decide +kernel⟩
theorem witX:rX.toRowW.promised:=⟨[.list []],by decide +kernel,by decide +kernel⟩
theorem walkX:WalkO qX glX (XL qX []) saysX rX.toRowW dX [] (fun f vs=>PySem.call f vs):=by
 intro w s₀ s₁ mg mb G Y fa o pm cd doc dV kV ho hd hcd hD hmg hg args vals as hpre hlay hrd hwl hlo
 rw [nameX] at hmg
 refine Ground.open G ?_
 intro T B D TE TW
 clear ho hd hcd hD B D TE TW G
 wrow_args hpre hlay hrd hwl hlo
 all_goals (
  refine lawX T Y hmg ?_ ‹Well _ _ _ _› ?_
  ·omega
  ·intro s' k e
   refine ⟨.inl ⟨_,.bool true,[],rfl,fun _=>rfl,.bool true,lawPost _ _,fun _=>⟨List.nodup_nil,fun a ha=>nomatch ha⟩⟩,.of_keep k,by rw [e],.of_eq (by rw [e];exact hg)⟩)
end DK.Internal
end
open PySem PySem.W PyProof.Rows DK.Internal
theorem PySem.Challenge.cw_sx_r148_2_holds : PySem.Challenge.rw_sx_r148_2.Holds :=
  holds_law saidX fun said => holds_open (q := qX) (loose := glX) (Xt := XtX) (XP := XL qX []) (Yf := obsX) (Ya := valX) (YP := saysX) (N := 3868) leftX says_of says_keeps (fun s e => xl_of s (Bool.and_eq_true_iff.mp e).1) XL.keeps hdefX hpX hkX (fun s e => recFacts_of (Bool.and_eq_true_iff.mp e).2) rfl said okX bareX witX walkX
