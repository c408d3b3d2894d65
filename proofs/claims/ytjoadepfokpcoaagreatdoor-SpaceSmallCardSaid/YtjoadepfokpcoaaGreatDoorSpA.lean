/- What SpaceSmall rests on; no condition. -/
import GoSem.Dispatch
import Derived.Laws.Sem
import Derived.Calls
import Derived.Laws.Entries
import Derived.Laws.Cells
import Derived.Laws.Rows
import Derived.Laws.StructEq
import Derived.ChangeKeysEq
import Derived.Laws.BytesString
import Derived.Laws.BytesArg
import Derived.Lib.DecodeN
import Derived.Lib.Builder
import Derived.Lib.UnsafeStr
import Derived.Orders
set_option linter.unusedSimpArgs false
set_option linter.unusedVariables false
set_option linter.constructorNameAsVariable false
set_option linter.unnecessarySimpa false
namespace Go.Ev
inductive AV where
 |bool (b:Bool)
 |int (k:IntKind) (n:Int)
 |str (l:List Nat)
 |nilp
 |ptr (b o:Nat)
 |nils
 |esl
 |sl (b o len es:Nat) (cap:Option Nat)
 |nilm
 |map (b:Nat)
 |nilf
 |func (fn:Fn) (first captured:List AV)
 |nili
 |ifc (t:TypeId) (v:AV)
 |agg (l:List AV)
 |tup (l:List AV)
 |junk
 deriving Inhabited
inductive Tr(α:Type) where
 |e
 |n (v:Option α) (l r:Tr α)
namespace Tr
variable {α β : Type}
def seq(t:Tr α)(f:Tr α->β):β:=
 match t with
 |.e=>f .e
 |.n a b c=>f (.n a b c)
def get:Tr α->Nat->Option α
 |.e,_=>none
 |.n v l r,k=>
  match k with
  |0=>v
  |k+1=>bif Nat.beq (k%2) 0 then l.get (k / 2) else r.get (k / 2)
def one(v:α):Nat->Nat->Tr α
 |0,_=>.n (some v) .e .e
 |f+1,k=>
  match k with
  |0=>.n (some v) .e .e
  |k+1=>bif Nat.beq (k%2) 0 then (one v f (k / 2)).seq fun t=>.n none t .e else (one v f (k / 2)).seq fun t=>.n none .e t
def set:Tr α->Nat->α->Tr α
 |.e,k,v=>one v k k
 |.n w l r,k,v=>
  match k with
  |0=>.n (some v) l r
  |k+1=>bif Nat.beq (k%2) 0 then (l.set (k / 2) v).seq fun t=>.n w t r else (r.set (k / 2) v).seq fun t=>.n w l t
def del:Tr α->Nat->Tr α
 |.e,_=>.e
 |.n w l r,k=>
  match k with
  |0=>.n none l r
  |k+1=>bif Nat.beq (k%2) 0 then (l.del (k / 2)).seq fun t=>.n w t r else (r.del (k / 2)).seq fun t=>.n w l t
end Tr
inductive AB where
 |cells (l:List AV) (elem:TypeId) (fz:Nat) (raw:Bool)
 |iter (rest:List Nat) (pos:Nat)
 |map (es:List (AV×AV))
abbrev H:=Tr AB
abbrev Env:=Tr AV
def tl{α:Type}:List α->List α
 |[]=>[]
 |_::l=>l
def drp{α:Type}(l:List α):Nat->List α
 |0=>l
 |n+1=>tl (drp l n)
def hd?{α:Type}:List α->Option α
 |[]=>none
 |a::_=>some a
def nth{α:Type}(l:List α)(n:Nat):Option α:=hd? (drp l n)
def app{α:Type}:List α->List α->List α
 |[],m=>m
 |a::l,m=>a::app l m
def len{α:Type}:List α->Nat
 |[]=>0
 |_::l=>Nat.succ (len l)
def tk{α:Type}:Nat->List α->List α
 |0,_=>[]
 |n+1,l=>match l with|[]=>[]|a::l=>a::tk n l
def kE{α β:Type}(f:α->Option β):List α->Option (List β)
 |[]=>some []
 |a::l=>match f a with
  |none=>none
  |some b=>match kE f l with
   |none=>none
   |some m=>some (b::m)
def setSeg{α:Type}:List α->Nat->List α->List α
 |l,0,m=>app m (drp l (len m))
 |[],_+1,_=>[]
 |a::l,n+1,m=>a::setSeg l n m
def eqL:List Nat->List Nat->Bool
 |[],[]=>true
 |a::l,b::m=>bif Nat.beq a b then eqL l m else false
 |_,_=>false
def ltL:List Nat->List Nat->Bool
 |_,[]=>false
 |[],_::_=>true
 |a::l,b::m=>bif Nat.blt a b then true else bif Nat.beq a b then ltL l m else false
def reps{α:Type}:Nat->List α->List α
 |0,_=>[]
 |n+1,z=>app z (reps n z)
def cQ(s:ByteArray):List Nat:=s.data.toList.map (·.toNat)
def ofV:Nat->Value->Option AV
 |0,_=>none
 |n+1,v=>
  match v with
  |.bool b=>some (.bool b)
  |.int k i=>some (.int k i)
  |.string s=>some (.str (cQ s))
  |.pointer none=>some .nilp
  |.slice none 0 0=>some .nils
  |.map none=>some .nilm
  |.nilFunc=>some .nilf
  |.nilIface=>some .nili
  |.agg cs=>bif cs.toList.all Value.oneCell' then (match kE (ofV n) cs.toList with|some l=>some (.agg l)|none=>none) else none
  |.tuple cs=>match kE (ofV n) cs.toList with|some l=>some (.tup l)|none=>none
  |_=>none
def AV.cells:AV->Option (List AV)
 |.agg l=>some l
 |.tup _=>none
 |.junk=>none
 |v=>some [v]
def p63:Nat:=9223372036854775808
def pw:IntKind->Nat
 |.i8|.u8=>256
 |.i16|.u16=>65536
 |.i32|.u32=>4294967296
 |.i64|.u64=>18446744073709551616
def hw:IntKind->Nat
 |.i8|.u8=>128
 |.i16|.u16=>32768
 |.i32|.u32=>2147483648
 |.i64|.u64=>9223372036854775808
def sg:IntKind->Bool
 |.i8|.i16|.i32|.i64=>true
 |_=>false
def t6(h p:Nat):Int->Int
 |.ofNat m=>bif Nat.blt m h then .ofNat m else (bif Nat.blt (m%p) h then .ofNat (m%p) else .negSucc (p-1-m%p))
 |.negSucc m=>bif Nat.blt m h then .negSucc m else (bif Nat.blt (m%p) h then .negSucc (m%p) else .ofNat (p-1-m%p))
def CA(p:Nat):Int->Int
 |.ofNat m=>.ofNat (m%p)
 |.negSucc m=>.ofNat (p-1-m%p)
def wr(k:IntKind)(n:Int):Int:=bif sg k then t6 (hw k) (pw k) n else CA (pw k) n
def toU(k:IntKind):Int->Nat
 |.ofNat m=>m%pw k
 |.negSucc m=>pw k-1-m%pw k
def ieq:Int->Int->Bool
 |.ofNat a,.ofNat b=>Nat.beq a b
 |.negSucc a,.negSucc b=>Nat.beq a b
 |_,_=>false
def ilt:Int->Int->Bool
 |.ofNat a,.ofNat b=>Nat.blt a b
 |.negSucc a,.negSucc b=>Nat.blt b a
 |.negSucc _,.ofNat _=>true
 |.ofNat _,.negSucc _=>false
def qE:Int->Int->Int
 |.ofNat a,.ofNat b=>.ofNat (a+b)
 |.ofNat a,.negSucc b=>bif Nat.blt b a then .ofNat (a-(b+1)) else .negSucc (b-a)
 |.negSucc a,.ofNat b=>bif Nat.blt a b then .ofNat (b-(a+1)) else .negSucc (a-b)
 |.negSucc a,.negSucc b=>.negSucc (a+b+1)
def wD:Int->Int
 |.ofNat a=>bif Nat.beq a 0 then .ofNat 0 else .negSucc (a-1)
 |.negSucc a=>.ofNat (a+1)
def kbits:IntKind->Nat
 |.i8|.u8=>8
 |.i16|.u16=>16
 |.i32|.u32=>32
 |.i64|.u64=>64
def keq:IntKind->IntKind->Bool
 |.i8,.i8|.i16,.i16|.i32,.i32|.i64,.i64|.u8,.u8|.u16,.u16|.u32,.u32|.u64,.u64=>true
 |_,_=>false
def r9:BinOp->IntKind->Int->Int->Option AV
 |.add=>fun k x y=>some (.int k (wr k (qE x y)))
 |.sub=>fun k x y=>some (.int k (wr k (qE x (wD y))))
 |.mul=>fun k x y=>some (.int k (wr k (x*y)))
 |.quo=>fun k x y=>bif ieq y (.ofNat 0) then none else some (.int k (wr k (x.tdiv y)))
 |.rem=>fun k x y=>bif ieq y (.ofNat 0) then none else some (.int k (x.tmod y))
 |.and=>fun k x y=>some (.int k (wr k (.ofNat (Nat.land (toU k x) (toU k y)))))
 |.or=>fun k x y=>some (.int k (wr k (.ofNat (Nat.lor (toU k x) (toU k y)))))
 |.xor=>fun k x y=>some (.int k (wr k (.ofNat (Nat.xor (toU k x) (toU k y)))))
 |.andNot=>fun k x y=>some (.int k (wr k (.ofNat (Nat.land (toU k x) (pw k-1-toU k y)))))
 |.eql=>fun _ x y=>some (.bool (ieq x y))
 |.neq=>fun _ x y=>some (.bool (!ieq x y))
 |.lss=>fun _ x y=>some (.bool (ilt x y))
 |.leq=>fun _ x y=>some (.bool (!ilt y x))
 |.gtr=>fun _ x y=>some (.bool (ilt y x))
 |.geq=>fun _ x y=>some (.bool (!ilt x y))
 |_=>fun _ _ _=>none
def shl(k:IntKind)(x:Int)(n:Nat):AV:=.int k (wr k (x*.ofNat (Nat.pow 2 (bif Nat.blt n (kbits k) then n else kbits k))))
def shr(k:IntKind)(x:Int)(n:Nat):AV:=
 match x with
 |.ofNat m=>.int k (.ofNat (m / Nat.pow 2 (bif Nat.blt n (kbits k) then n else kbits k)))
 |.negSucc m=>.int k (.negSucc (m / Nat.pow 2 (bif Nat.blt n (kbits k) then n else kbits k)))
def sA:BinOp->List Nat->List Nat->Option AV
 |.add=>fun x y=>bif Nat.blt (len x+len y) p63 then some (.str (app x y)) else none
 |.eql=>fun x y=>some (.bool (eqL x y))
 |.neq=>fun x y=>some (.bool (!eqL x y))
 |.lss=>fun x y=>some (.bool (ltL x y))
 |.leq=>fun x y=>some (.bool (ltL x y||eqL x y))
 |.gtr=>fun x y=>some (.bool (!(ltL x y||eqL x y)))
 |.geq=>fun x y=>some (.bool (!ltL x y))
 |_=>fun _ _=>none
def bG(P:Program)(t:TypeId):Option Nat:=match P.info? t with|some i=>some i.size|none=>none
def sB(P:Program)(t:TypeId):Option Nat:=match P.info? t with|some i=>some i.bytes|none=>none
def fO(P:Program)(t:TypeId):Option AV:=
 match P.info? t with
 |some i=>(match i.zero with|some v=>ofV 3 v|none=>none)
 |none=>none
def gP(P:Program)(t:TypeId):Option Bool:=
 match P.underlying t with
 |some (.struct _)=>some true
 |some (.array _ _)=>some true
 |some _=>some false
 |none=>none
def eY(P:Program)(t:TypeId)(cs:List AV)(off:Nat):Option AV:=
 match gP P t with
 |none=>none
 |some true=>(match bG P t with|none=>none|some s=>bif Nat.ble (off+s) (len cs) then some (.agg (tk s (drp cs off))) else none)
 |some false=>nth cs off
def eqFields(eq:TypeId->AV->AV->Option Bool)(P:Program)(xs ys:List AV):List Field->Option Bool
 |[]=>some true
 |f::fs=>
  if f.name ≠ "_" then
   match eY P f.type xs f.offset,eY P f.type ys f.offset with
   |some x,some y=>(match eq f.type x y with
    |some true=>eqFields eq P xs ys fs
    |some false=>some false
    |none=>none)
   |_,_=>none
  else eqFields eq P xs ys fs
def oH(eq:TypeId->AV->AV->Option Bool)(P:Program)(e:TypeId)(s:Nat)(xs ys:List AV):Nat->Nat->Option Bool
 |0,_=>some true
 |n+1,i=>
  match eY P e xs (i*s),eY P e ys (i*s) with
  |some x,some y=>(match eq e x y with
   |some true=>oH eq P e s xs ys n (i+1)
   |some false=>some false
   |none=>none)
  |_,_=>none
def eqV(P:Program):Nat->TypeId->AV->AV->Option Bool
 |0=>fun _ _ _=>none
 |d+1=>fun t x y=>
  match P.underlying t with
  |none=>none
  |some u=>
   match x,y with
   |.bool a,.bool b=>(match u with|.bool=>some (a==b)|_=>none)
   |.int k a,.int k' b=>(match u with|.int _=>bif keq k k' then some (ieq a b) else none|_=>none)
   |.str a,.str b=>(match u with|.string=>some (eqL a b)|_=>none)
   |.nilp,.nilp=>(match u with|.pointer _=>some true|_=>none)
   |.nilp,.ptr _ _=>(match u with|.pointer _=>some false|_=>none)
   |.ptr _ _,.nilp=>(match u with|.pointer _=>some false|_=>none)
   |.ptr a i,.ptr b j=>(match u with
    |.pointer e=>(match bG P e with
     |some (_+1)=>bif Nat.beq a b then some (Nat.beq i j) else none
     |_=>none)
    |_=>none)
   |.nili,.nili=>(match u with|.interface ms=>bif ms.isEmpty then some true else none|_=>none)
   |.nili,.ifc _ _=>(match u with|.interface _=>some false|_=>none)
   |.ifc _ _,.nili=>(match u with|.interface _=>some false|_=>none)
   |.nils,.nils=>(match u with|.slice _=>some true|_=>none)
   |.nils,.sl _ _ _ _ _=>(match u with|.slice _=>some false|_=>none)
   |.nils,.esl=>(match u with|.slice _=>some false|_=>none)
   |.sl _ _ _ _ _,.nils=>(match u with|.slice _=>some false|_=>none)
   |.esl,.nils=>(match u with|.slice _=>some false|_=>none)
   |.nilf,.nilf=>(match u with|.func _ _ _=>some true|_=>none)
   |.nilf,.func _ _ _=>(match u with|.func _ _ _=>some false|_=>none)
   |.func _ _ _,.nilf=>(match u with|.func _ _ _=>some false|_=>none)
   |.agg xs,.agg ys=>(match u with
    |.struct fs=>bif P.stoodInHeld t then none else eqFields (eqV P d) P xs ys fs.toList
    |.array n e=>(match bG P e with|some s=>oH (eqV P d) P e s xs ys n 0|none=>none)
    |_=>none)
   |_,_=>none
def bR:Nat:=100
inductive NX where
 |val (v:AV)
 |upd (v:AV) (h:H)
 |new (v:AV) (h:H)
 |call (f:FuncId) (args:List AV)
 |bad
def dV:AV:=.tup []
def rd(env:Env):Operand->AV
 |.tmp t=>match env.get t with|some v=>v|none=>dV
 |.const v=>match ofV 4 v with|some a=>a|none=>.junk
 |.global g=>.ptr g 0
 |.func f=>.func (.func f) [] []
def rdO(env:Env):Option Operand->Option AV
 |none=>none
 |some x=>some (rd env x)
def dS:Operand->Bool
 |.const _=>true
 |_=>false
def dL:Option AV->NX
 |some v=>.val v
 |none=>.bad
def fF(h:H)(b o n:Nat):Option (List AV):=
 match h.get b with
 |some (.cells l _ _ _)=>bif Nat.ble (o+n) (len l) then some (tk n (drp l o)) else none
 |_=>none
def ld(P:Program)(h:H)(t:TypeId):AV->Option AV
 |.ptr b o=>
  match gP P t with
  |some true=>(match bG P t with
   |some s=>(match fF h b o s with|some l=>some (.agg l)|none=>none)
   |none=>none)
  |some false=>(match h.get b with
   |some (.cells l _ _ _)=>nth l o
   |_=>none)
  |none=>none
 |_=>none
def qR(h:H)(b o:Nat)(cs:List AV):Option H:=
 match h.get b with
 |some (.cells l e fz raw)=>bif Nat.ble (o+len cs) (len l)&&Nat.ble fz o then some (h.set b (.cells (setSeg l o cs) e fz raw)) else none
 |_=>none
def st(P:Program)(h:H)(t:TypeId)(a v:AV):Option H:=
 match a,v.cells,bG P t with
 |.ptr b o,some cs,some s=>bif Nat.beq (len cs) s then qR h b o cs else none
 |_,_,_=>none
def lE(place:Nat->Option (Nat×Nat)):List AV->List (Nat×AV)->Option (List AV)
 |cells,[]=>some cells
 |cells,(i,v)::rest=>
  match place i,v.cells with
  |some (off,size),some cs=>bif Nat.beq (len cs) size&&Nat.ble (off+size) (len cells) then lE place (setSeg cells off cs) rest else none
  |_,_=>none
def BF(P:Program):List Field->Option (List (Nat×Nat)):=kE fun f=>match bG P f.type with|some s=>some (f.offset,s)|none=>none
def vL(P:Program)(t:TypeId)(parts:List (Nat×AV)):Option AV:=
 match fO P t,P.underlying t with
 |some z,some (.struct fs)=>(match z.cells,BF P fs.toList with
  |some cs,some ps=>(match lE (fun i=>nth ps i) cs parts with|some l=>some (.agg l)|none=>none)
  |_,_=>none)
 |some z,some (.array _ e)=>(match z.cells,bG P e with
  |some cs,some s=>(match lE (fun i=>some (i*s,s)) cs parts with|some l=>some (.agg l)|none=>none)
  |_,_=>none)
 |_,_=>none
def j5(P:Program)(t:TypeId)(n:Nat)(parts:List (Nat×AV))(h:H)(nid:Nat):NX:=
 match P.underlying t with
 |some (.slice e)=>
  (match bG P e,fO P e with
  |some s,some z=>(match z.cells with
   |some zc=>bif Nat.blt 0 s&&Nat.ble (n*s) 16777216&&Nat.beq (len zc) s then
     (match lE (fun i=>some (i*s,s)) (reps n zc) parts with
     |some cs=>.new (.sl nid 0 n s (some n)) (h.set nid (.cells cs e 0 false))
     |none=>.bad) else .bad
   |none=>.bad)
  |_,_=>.bad)
 |_=>.bad
def fH(P:Program)(e:TypeId)(v:AV)(h:H)(nid:Nat):NX:=
 match v.cells with
 |some cs=>.new (.ptr nid 0) (h.set nid (.cells cs e 0 false))
 |none=>.bad
def fieldAt(P:Program)(s:TypeId)(x:AV)(i:Nat):NX:=
 match P.underlying s,x with
 |some (.struct fs),.ptr b o=>
  (match fs[i]? with
  |some f=>(match bG P f.type with
   |some (_+1)=>.val (.ptr b (o+f.offset))
   |_=>.bad)
  |none=>.bad)
 |_,_=>.bad
def indexAt(P:Program)(t:TypeId)(x i:AV):NX:=
 match i with
 |.int _ (.ofNat i)=>
  (match P.underlying t with
  |some (.array n e)=>(match x,bG P e with
   |.ptr b o,some s=>bif Nat.blt i n then .val (.ptr b (o+i*s)) else .bad
   |_,_=>.bad)
  |some (.slice e)=>(match x,bG P e with
   |.sl b o n s _,some s'=>bif Nat.blt i n&&Nat.beq s s' then .val (.ptr b (o+i*s)) else .bad
   |_,_=>.bad)
  |_=>.bad)
 |_=>.bad
def sY(P:Program)(t:TypeId)(x i:AV):NX:=
 match i with
 |.int _ (.ofNat i)=>
  (match x with
  |.str l=>(match P.underlying t,nth l i with
   |some .string,some c=>.val (.int .u8 (.ofNat c))
   |_,_=>.bad)
  |.agg cs=>(match P.underlying t with
   |some (.array n e)=>(match bG P e with
    |some s=>bif Nat.blt i n then dL (eY P e cs (i*s)) else .bad
    |none=>.bad)
   |_=>.bad)
  |_=>.bad)
 |_=>.bad
def sU(P:Program)(t:TypeId)(x:AV)(i:Nat):NX:=
 match P.underlying t,x with
 |some (.struct fs),.agg cs=>(match fs[i]? with|some f=>dL (eY P f.type cs f.offset)|none=>.bad)
 |_,_=>.bad
def eqR(P:Program)(t:TypeId)(c:Bool):AV->AV->Option Bool
 |.nili,.nili=>bif c then (match P.underlying t with|some (.interface _)=>some true|_=>none) else eqV P bR t .nili .nili
 |.agg l,.agg m=>bif P.eqGuardType P.depth t then none else eqV P bR t (.agg l) (.agg m)
 |.int _ _,_=>none
 |.str _,_=>none
 |.junk,_=>none
 |_,.junk=>none
 |x,y=>eqV P bR t x y
def iU(P:Program)(op:BinOp)(t:TypeId)(cx cy:Bool)(x y:AV):Option AV:=
 match x,y with
 |.int k a,.int k' b=>
  (match op with
  |.shl=>(match b with|.ofNat n=>some (shl k a n)|_=>none)
  |.shr=>(match b with|.ofNat n=>some (shr k a n)|_=>none)
  |_=>bif keq k k' then r9 op k a b else none)
 |.str a,.str b=>sA op a b
 |x,y=>
  (match op with
  |.eql=>(match eqR P t (cx||cy) x y with|some b=>some (.bool b)|none=>none)
  |.neq=>(match eqR P t (cx||cy) x y with|some b=>some (.bool (!b))|none=>none)
  |_=>none)
def unA:UnOp->AV->Option AV
 |.neg,.int k n=>some (.int k (wr k (wD n)))
 |.xor,.int k n=>some (.int k (wr k (.ofNat (pw k-1-toU k n))))
 |.not,.bool b=>some (.bool (!b))
 |_,_=>none
def cpA:Int->Nat
 |.ofNat m=>bif Nat.blt m 55296||(Nat.ble 57344 m&&Nat.ble m 1114111) then m else 65533
 |.negSucc _=>65533
def OS(c:Nat):List Nat:=
 bif Nat.blt c 128 then [c]
 else bif Nat.blt c 2048 then [192+c / 64,128+c%64]
 else bif Nat.blt c 65536 then [224+c / 4096,128+c / 64%64,128+c%64]
 else [240+c / 262144,128+c / 4096%64,128+c / 64%64,128+c%64]
def encA(n:Int):List Nat:=OS (cpA n)
def j6:List AV->Option (List Nat)
 |[]=>some []
 |.int .u8 (.ofNat m)::l=>(match j6 l with|some r=>bif Nat.blt m 256 then some (m::r) else none|none=>none)
 |_=>none
def pD:List Nat->List AV
 |[]=>[]
 |c::l=>.int .u8 (.ofNat c)::pD l
def zS(q:TypeId->Nat->Bool)(P:Program)(o:Nat):List Field->Bool
 |[]=>false
 |f::fs=>(Nat.ble f.offset o&&(match bG P f.type with|some s=>Nat.blt o (f.offset+s)|none=>false)&&q f.type (o-f.offset))||zS q P o fs
def tB(P:Program):Nat->TypeId->Nat->TypeId->Bool
 |0=>fun _ _ _=>false
 |d+1=>fun e o u=>(Nat.beq e u&&Nat.beq o 0)||(match P.underlying e with
  |some (.struct fs)=>!P.stoodInHeld e&&zS (fun t o=>tB P d t o u) P o fs.toList
  |_=>false)
def dY(P:Program)(src dst:TypeId)(x:AV)(h:H)(nid:Nat):NX:=
 match P.underlying dst,x with
 |some (.int k),.int _ n=>(match P.underlying src with|some _=>.val (.int k (wr k n))|none=>.bad)
 |some .string,.str _=>(match P.underlying src with|some .string=>.val x|_=>.bad)
 |some .string,.int _ n=>(match P.underlying src with|some (.int _)=>.val (.str (encA n))|_=>.bad)
 |some .string,.nils=>(match P.underlying src with
  |some (.slice e)=>(match P.underlying e with|some (.int .u8)=>.val (.str [])|_=>.bad)
  |_=>.bad)
 |some .string,.esl=>(match P.underlying src with
  |some (.slice e)=>(match P.underlying e with|some (.int .u8)=>.val (.str [])|_=>.bad)
  |_=>.bad)
 |some .string,.sl b o n s _=>(match P.underlying src with
  |some (.slice e)=>(match P.underlying e,fF h b o n with
   |some (.int .u8),some l=>bif Nat.beq s 1 then (match j6 l with|some r=>.val (.str r)|none=>.bad) else .bad
   |_,_=>.bad)
  |_=>.bad)
 |some (.slice e),.str l=>(match P.underlying src,P.underlying e,bG P e with
  |some .string,some (.int .u8),some 1=>.new (.sl nid 0 (len l) 1 none) (h.set nid (.cells (pD l) e 0 true))
  |_,_,_=>.bad)
 |some .unsafePointer,.ptr b o=>(match P.underlying src,h.get b with
  |some (.pointer t),some (.cells l _ _ _)=>(match bG P t with
   |some (_+1)=>bif Nat.blt o (len l) then .val (.ptr b o) else .bad
   |_=>.bad)
  |_,_=>.bad)
 |some (.pointer u),.ptr b o=>(match P.underlying src,h.get b with
  |some .unsafePointer,some (.cells l e _ false)=>(match bG P u,bG P e with
   |some (s+1),some (k+1)=>bif (Nat.beq e u&&Nat.beq (o%(s+1)) 0&&Nat.ble (o+(s+1)) (len l))||(Nat.blt o (k+1)&&Nat.ble (k+1) (len l)&&tB P 6 e o u) then .val (.ptr b o) else .bad
   |_,_=>.bad)
  |_,_=>.bad)
 |some (.slice e),.sl b o n s c=>(match Nat.beq src dst,P.underlying e,h.get b with
  |true,some (.int .u8),some (.cells l e' 0 false)=>.upd (.sl b o n s c) (h.set b (.cells l e' 0 true))
  |_,_,_=>.bad)
 |_,_=>.bad
def lK(P:Program)(t:TypeId)(l c:AV)(h:H)(nid:Nat):NX:=
 match l,c,P.underlying t with
 |.int _ (.ofNat l),.int _ (.ofNat c),some (.slice e)=>
  (match bG P e,sB P e,fO P e with
  |some s,some by',some z=>(match z.cells with
   |some zc=>bif Nat.blt 0 s&&Nat.beq (len zc) s&&Nat.ble l c&&Nat.ble (by'*c) 140737488355328&&Nat.blt c p63 then
     .new (.sl nid 0 l s (some c)) (h.set nid (.cells (reps c zc) e 0 false)) else .bad
   |none=>.bad)
  |_,_,_=>.bad)
 |_,_,_=>.bad
def eF(h:H)(b o s:Nat):Option Nat->Option Nat
 |some c=>some c
 |none=>match h.get b with
  |some (.cells l _ _ _)=>bif Nat.blt 0 s then some ((len l-o) / s) else none
  |_=>none
def bnd(d:Nat):Option AV->Option Nat
 |none=>some d
 |some (.int _ (.ofNat n))=>some n
 |_=>none
def BV(l:List Nat)(lo hi:Option AV):NX:=
 match bnd 0 lo,bnd (len l) hi with
 |some a,some b=>bif Nat.ble b (len l)&&Nat.ble a b then .val (.str (tk (b-a) (drp l a))) else .bad
 |_,_=>.bad
def kZ(b o s l r m:Nat):AV:=bif Nat.beq m l then .sl b o 0 s (some 0) else .sl b (o+l*s) (r-l) s (some (m-l))
def sH(b o s l r cl:Nat):AV:=bif Nat.blt l cl||Nat.beq l 0 then .sl b (o+l*s) (r-l) s none else .esl
def gL(h:H)(b o n s:Nat)(cap:Option Nat)(lo hi:Option AV):NX:=
 match eF h b o s cap,bnd 0 lo,bnd n hi with
 |some cl,some l,some r=>bif Nat.ble r cl&&Nat.ble l r then .val (match cap with|some c=>kZ b o s l r c|none=>sH b o s l r cl) else .bad
 |_,_,_=>.bad
def lT(h:H)(b o n s:Nat)(cap:Option Nat)(lo:Option AV)(hi mx:AV):NX:=
 match eF h b o s cap,bnd 0 lo,bnd n (some hi),bnd 0 (some mx) with
 |some cl,some l,some r,some m=>bif Nat.ble m cl&&Nat.ble r m&&Nat.ble l r then .val (kZ b o s l r m) else .bad
 |_,_,_,_=>.bad
def eM(P:Program)(t:TypeId)(x:AV)(lo hi mx:Option AV)(h:H):NX:=
 match P.underlying t,x with
 |some .string,.str l=>(match mx with|some _=>.bad|none=>BV l lo hi)
 |some (.slice e),.nils=>
  (match mx,hi,bnd 0 lo,bnd 0 hi,bG P e with
  |none,_,some 0,some 0,some _=>.val .nils
  |some m,some _,some 0,some 0,some _=>(match bnd 0 (some m) with|some 0=>.val .nils|_=>.bad)
  |_,_,_,_,_=>.bad)
 |some (.slice e),.esl=>
  (match mx,hi,bnd 0 lo,bnd 0 hi,bG P e with
  |none,_,some 0,some 0,some _=>.val .esl
  |some m,some _,some 0,some 0,some _=>(match bnd 0 (some m) with|some 0=>.val .esl|_=>.bad)
  |_,_,_,_,_=>.bad)
 |some (.slice e),.sl b o n s cap=>
  (match bG P e with
  |some s'=>bif Nat.beq s s' then
    (match mx,hi with
    |none,hi=>gL h b o n s cap lo hi
    |some m,some hi=>lT h b o n s cap lo hi m
    |_,_=>.bad)
   else .bad
  |none=>.bad)
 |some (.array n e),.ptr b o=>
  (match bG P e,h.get b with
  |some s,some (.cells l _ _ _)=>bif Nat.blt 0 s&&Nat.ble (o+n*s) (len l) then
    (match mx with
    |none=>gL h b o n s (some n) lo hi
    |_=>.bad)
   else .bad
  |_,_=>.bad)
 |_,_=>.bad
def dU(P:Program):Nat->TypeId->AV->Bool
 |0=>fun _ _=>false
 |d+1=>fun t v=>
  match P.underlying t,v with
  |some (.int _),.int _ _=>true
  |some .string,.str _=>true
  |some .bool,.bool _=>true
  | some (.struct fs), .agg cs => fs.toList.all fun f => f.name == "_" || (match eY P f.type cs f.offset with | some p => dU P d f.type p | none => false)
  |some (.array n e),.agg cs=>(match bG P e with
   |some s=>(List.range n).all fun i=>match eY P e cs (i*s) with|some p=>dU P d e p|none=>false
   |none=>false)
  |_,_=>false
def kA(eq:AV->Option Bool):List (AV×AV)->Option (Option AV)
 |[]=>some none
 |(k,v)::l=>match eq k with
  |some true=>some (some v)
  |some false=>kA eq l
  |none=>none
def nK:AV->AV->Bool
 |.bool a,.bool b=>a==b
 |.int k a,.int k' b=>keq k k'&&ieq a b
 |.str a,.str b=>eqL a b
 |_,_=>false
def o7:List AV->List AV->Bool
 |[],[]=>true
 |a::l,b::m=>nK a b&&o7 l m
 |_,_=>false
def tO:AV->AV->Bool
 |.agg l,.agg m=>o7 l m
 |a,b=>nK a b
def oY(eq:AV->Option Bool)(k v:AV):List (AV×AV)->Option (List (AV×AV))
 |[]=>some [(k,v)]
 |(k',v')::l=>match eq k' with
  |some true=>bif tO k k' then some ((k,v)::l) else none
  |some false=>(match oY eq k v l with|some r=>some ((k',v')::r)|none=>none)
  |none=>none
def kD(P:Program)(t:TypeId)(x i:AV)(ok:Bool)(h:H):NX:=
 match P.underlying t with
 |some (.map kt et)=>
  bif dU P 10 kt i then
   (match (match x with
    |.nilm=>some []
    |.map b=>(match h.get b with|some (.map es)=>some es|_=>none)
    |_=>none:Option (List (AV×AV))),fO P et with
   |some es,some z=>(match kA (eqV P bR kt i) es with
    |some (some v)=>.val (bif ok then .tup [v,.bool true] else v)
    |some none=>.val (bif ok then .tup [z,.bool false] else z)
    |none=>.bad)
   |_,_=>.bad)
  else .bad
 |_=>.bad
def xR(P:Program)(t:TypeId)(x k v:AV)(h:H):NX:=
 match P.underlying t,x with
 |some (.map kt _),.map b=>
  bif dU P 10 kt k then
   (match h.get b with
   |some (.map es)=>(match oY (eqV P bR kt k) k v es with
    |some es=>.upd dV (h.set b (.map es))
    |none=>.bad)
   |_=>.bad)
  else .bad
 |_,_=>.bad
def OD(c:Nat):Nat×Nat:=bif Nat.ble 128 c then (c,2) else (65533,1)
def OE(c:Nat):Nat×Nat:=bif Nat.ble 2048 c&&(Nat.blt c 55296||Nat.ble 57344 c) then (c,3) else (65533,1)
def OF(c:Nat):Nat×Nat:=bif Nat.ble 65536 c&&Nat.ble c 1114111 then (c,4) else (65533,1)
def decA:List Nat->Nat×Nat
 |[]=>(0,1)
 |b0::l=>
  bif Nat.blt b0 128 then (b0,1) else
  match l with
  |[]=>(65533,1)
  |b1::l=>
   bif Nat.beq (b1 / 64) 2 then
    (bif Nat.beq (b0 / 32) 6 then OD (b0%32*64+b1%64)
    else
    match l with
    |[]=>(65533,1)
    |b2::l=>
     bif Nat.beq (b2 / 64) 2 then
      (bif Nat.beq (b0 / 16) 14 then OE (b0%16*4096+b1%64*64+b2%64)
      else
      match l with
      |[]=>(65533,1)
      |b3::_=>
       bif Nat.beq (b3 / 64) 2&&Nat.beq (b0 / 8) 30 then OF (b0%8*262144+b1%64*4096+b2%64*64+b3%64)
       else (65533,1))
     else (65533,1))
   else (65533,1)
def nH(P:Program)(t:TypeId)(x:AV)(h:H)(nid:Nat):NX:=
 match P.underlying t,x with
 |some .string,.str l=>.new (.ptr nid 0) (h.set nid (.iter l 0))
 |_,_=>.bad
def qM(x:AV)(isString:Bool)(h:H):NX:=
 match x,isString with
 |.ptr b 0,true=>(match h.get b with
  |some (.iter l p)=>(match l with
   |[]=>.val (.tup [.bool false])
   |_=>match decA l with
    |(c,w)=>.upd (.tup [.bool true,.int .i64 (.ofNat p),.int .i32 (.ofNat c)]) (h.set b (.iter (drp l w) (p+w))))
  |_=>.bad)
 |_,_=>.bad
def vJ(P:Program)(x:AV)(asserted:TypeId)(ok:Bool):NX:=
 match P.underlying asserted with
 |some (.interface _)=>.bad
 |some _=>(match x with
  |.ifc t v=>bif Nat.beq t asserted then .val (bif ok then .tup [v,.bool true] else v)
   else (bif ok then (match fO P asserted with|some z=>.val (.tup [z,.bool false])|none=>.bad) else .bad)
  |.nili=>bif ok then (match fO P asserted with|some z=>.val (.tup [z,.bool false])|none=>.bad) else .bad
  |_=>.bad)
 |none=>.bad
def iL(P:Program)(t:TypeId)(x:AV)(h:H):NX:=
 match P.underlying t with
 |some .string=>(match x with|.str l=>.val (.int .i64 (.ofNat (len l)))|_=>.bad)
 |some (.slice _)=>(match x with
  |.nils=>.val (.int .i64 (.ofNat 0))
  |.esl=>.val (.int .i64 (.ofNat 0))
  |.sl _ _ n _ _=>.val (.int .i64 (.ofNat n))
  |_=>.bad)
 |some (.array n _)=>.val (.int .i64 (.ofNat n))
 |some (.pointer a)=>(match P.underlying a with|some (.array n _)=>.val (.int .i64 (.ofNat n))|_=>.bad)
 |some (.map _ _)=>(match x with
  |.nilm=>.val (.int .i64 (.ofNat 0))
  |.map b=>(match h.get b with|some (.map es)=>.val (.int .i64 (.ofNat (len es)))|_=>.bad)
  |_=>.bad)
 |_=>.bad
def oE(P:Program)(t:TypeId)(x:AV):NX:=
 match P.underlying t with
 |some (.slice _)=>(match x with
  |.nils=>.val (.int .i64 (.ofNat 0))
  |.sl _ _ _ _ (some c)=>.val (.int .i64 (.ofNat c))
  |_=>.bad)
 |some (.array n _)=>.val (.int .i64 (.ofNat n))
 |_=>.bad
def nO(h:H)(s:Nat):AV->Option (List AV)
 |.nils=>some []
 |.esl=>some []
 |.sl b o n s' _=>bif Nat.beq s s' then fF h b o (n*s) else none
 |.str l=>bif Nat.beq s 1 then some (pD l) else none
 |_=>none
def fM:AV->Option Nat
 |.nils=>some 0
 |.esl=>some 0
 |.sl _ _ n _ _=>some n
 |.str l=>some (len l)
 |_=>none
def o6(P:Program)(e:TypeId)(need:Nat):Bool:=
 match sB P e with
 |some by'=>Nat.ble (need*by') 140737488355328&&Nat.blt need p63&&Nat.blt 0 by'
 |none=>false
def fzOff(fz o:Nat):Nat:=bif Nat.beq fz 0 then 0 else bif Nat.blt o fz then fz-o else 1
def oL(P:Program)(e:TypeId)(s n:Nat)(cells:List AV)(fz:Nat)(raw:Bool)(h:H)(nid:Nat):NX:=
 match fO P e with
 |some z=>(match z.cells with
  |some zc=>bif Nat.beq (len zc) s&&o6 P e n then .new (.sl nid 0 n s none) (h.set nid (.cells cells e fz raw)) else .bad
  |none=>.bad)
 |none=>.bad
def gQ(P:Program)(e:TypeId)(s k:Nat)(new:List AV)(d:AV)(h:H)(nid:Nat):NX:=
 match d with
 |.nils=>bif Nat.beq k 0 then .val .nils else oL P e s k new 0 false h nid
 |.esl=>bif Nat.beq k 0 then .val .esl else .bad
 |.sl b o n s' cap=>
  bif Nat.beq s s' then
   (bif Nat.beq k 0 then .val (.sl b o n s' cap) else
   match h.get b,eF h b o s cap with
   |some (.cells l e' fz raw),some c=>
    bif Nat.ble (n+k) c then
     (bif Nat.ble (o+(n+k)*s) (len l)&&Nat.ble fz (o+n*s) then
      .upd (.sl b o (n+k) s cap) (h.set b (.cells (setSeg l (o+n*s) new) e' fz raw)) else .bad)
    else
     (bif Nat.ble (o+n*s) (len l) then
      (match cap with
      |some _=>oL P e s (n+k) (app (tk (n*s) (drp l o)) new) 0 false h nid
      |none=>bif Nat.ble fz (o+n*s)&&Nat.beq e e' then (bif Nat.beq o 0 then oL P e s (n+k) (app (tk (n*s) (drp l o)) new) (fzOff fz o) raw (h.del b) nid else .bad) else .bad)
     else .bad)
   |_,_=>.bad)
  else .bad
 |_=>.bad
def lN(P:Program):List TypeId->Bool
 |[]=>true
 |u::_=>match P.underlying u with
  |some (.int _)=>false
  |some _=>true
  |none=>false
def zU(P:Program)(ts:List TypeId)(d x:AV)(h:H)(nid:Nat):NX:=
 match ts with
 |t::ts=>
  (match P.underlying t with
  |some (.slice e)=>
   (match bG P e,fM x with
   |some s,some k=>
    bif Nat.blt 0 s&&lN P ts then
     (match nO h s x with
     |none=>.bad
     |some new=>gQ P e s k new d h nid)
    else .bad
   |_,_=>.bad)
  |_=>.bad)
 |_=>.bad
def vT(P:Program)(ts:List TypeId)(d x:AV)(h:H):NX:=
 match ts,fM d,fM x with
 |t::_,some n,some k=>
  (match P.underlying t with
  |some (.slice e)=>(match bG P e with
   |some s=>bif Nat.blt 0 s then
    let m:=bif Nat.ble n k then n else k
    (match nO h s x with
    |some new=>
     (match d with
     |.sl b o _ s' _=>bif Nat.beq s s' then (match qR h b o (tk (m*s) new) with
      |some h=>.upd (.int .i64 (.ofNat m)) h
      |none=>.bad) else .bad
     |.nils=>.val (.int .i64 (.ofNat 0))
     |.esl=>.val (.int .i64 (.ofNat 0))
     |_=>.bad)
    |none=>.bad) else .bad
   |none=>.bad)
  |_=>.bad)
 |_,_,_=>.bad
def E3(P:Program)(t:TypeId)(x:AV)(h:H):NX:=
 match P.underlying t,x with
 |some (.slice _),.nils=>.val (.tup [])
 |some (.slice _),.esl=>.val (.tup [])
 |some (.slice e),.sl b o n s _=>(match fO P e with
  |some z=>(match z.cells with
   |some zc=>bif Nat.beq (len zc) s then (match qR h b o (reps n zc) with|some h=>.upd (.tup []) h|none=>.bad) else .bad
   |none=>.bad)
  |none=>.bad)
 |some (.map _ _),.map b=>(match h.get b with|some (.map _)=>.upd (.tup []) (h.set b (.map []))|_=>.bad)
 |_,_=>.bad
def wQ:AV->AV->Option AV
 |.int k x,.int _ y=>some (.int k (bif ilt x y then y else x))
 |_,_=>none
def wS:AV->AV->Option AV
 |.int k x,.int _ y=>some (.int k (bif ilt y x then y else x))
 |_,_=>none
def lI(f:AV->AV->Option AV):AV->List AV->Option AV
 |x,[]=>some x
 |x,y::l=>match f x y with|some z=>lI f z l|none=>none
def vU:AV->NX
 |.nils=>.val .nilp
 |.sl b o n _ _=>bif Nat.blt 0 n then .val (.ptr b o) else .bad
 |_=>.bad
def xI(P:Program)(ts:List TypeId)(p n:AV)(h:H):NX:=
 match ts,p,n with
 |[_,_],.nilp,.int .i64 (.ofNat 0)=>.val (.str [])
 |[t,_],.ptr b 0,.int .i64 (.ofNat (n+1))=>(match P.underlying t,h.get b with
  |some (.pointer u),some (.cells l e fz false)=>(match bG P e,j6 (tk (n+1) l) with
   |some 1,some r=>bif Nat.beq e u&&Nat.beq (len r) (n+1)&&Nat.blt (n+1) p63 then .upd (.str r) (h.set b (.cells l e (bif Nat.ble fz (n+1) then n+1 else fz) false)) else .bad
   |_,_=>.bad)
  |_,_=>.bad)
 |_,_,_=>.bad
def dR(P:Program)(b:Builtin)(ts:List TypeId)(args:List AV)(h:H)(nid:Nat):NX:=
 match b,args with
 |.len,x::_=>(match ts with|t::_=>iL P t x h|_=>.bad)
 |.cap,x::_=>(match ts with|t::_=>oE P t x|_=>.bad)
 |.append,d::x::_=>zU P ts d x h nid
 |.copy,d::x::_=>vT P ts d x h
 |.clear,x::_=>(match ts with|t::_=>E3 P t x h|_=>.bad)
 |.max,x::l=>dL (lI wQ x l)
 |.min,x::l=>dL (lI wS x l)
 |.unsafeSliceData,[x]=>vU x
 |.unsafeString,[x,n]=>xI P ts x n h
 |_,_=>.bad
def cT(P:Program)(env:Env)(c:Call)(h:H)(nid:Nat):NX:=
 match c.callee with
 |.builtin b=>dR P b c.argTypes.toList (c.args.toList.map (rd env)) h nid
 |.value f=>(match rd env f with
  |.func (.func g) first cap=>.call g (app first (app (c.args.toList.map (rd env)) cap))
  |_=>.bad)
 |.invoke _ _=>.bad
def opA(P:Program):Op->Env->H->Nat->NX
 |.move x=>fun env _ _=>.val (rd env x)
 |.assign x=>fun env _ _=>.val (rd env x)
 |.pick c a b=>fun env _ _=>(match rd env c with|.bool t=>.val (bif t then rd env a else rd env b)|_=>.bad)
 |.alloc e=>fun _ h nid=>(match fO P e with|some z=>fH P e z h nid|none=>.bad)
 |.box e x=>fun env h nid=>fH P e (rd env x) h nid
 |.build t ps=>fun env _ _=>dL (vL P t (ps.toList.map fun p=>(p.1,rd env p.2)))
 |.buildSlice t n ps=>fun env h nid=>j5 P t n (ps.toList.map fun p=>(p.1,rd env p.2)) h nid
 |.load t a=>fun env h _=>dL (ld P h t (rd env a))
 |.store t a x=>fun env h _=>(match st P h t (rd env a) (rd env x) with|some h=>.upd dV h|none=>.bad)
 |.nilCheck x=>fun env _ _=>(match rd env x with|.ptr b o=>.val (.ptr b o)|.ifc t v=>.val (.ifc t v)|.func (.func f) a b=>.val (.func (.func f) a b)|_=>.bad)
 |.binOp op t x y _=>fun env _ _=>dL (iU P op t (dS x) (dS y) (rd env x) (rd env y))
 |.unOp op _ x=>fun env _ _=>dL (unA op (rd env x))
 |.convert s d x=>fun env h nid=>dY P s d (rd env x) h nid
 |.makeInterface t x=>fun env _ _=>(match P.underlying t with|some (.interface _)=>.bad|some _=>.val (.ifc t (rd env x))|none=>.bad)
 |.makeFunc fn fs cs=>fun env _ _=>.val (.func fn (fs.toList.map (rd env)) (cs.toList.map (rd env)))
 |.makeMap _ r=>fun _ h nid=>(match r with|none=>.new (.map nid) (h.set nid (.map []))|_=>.bad)
 |.makeSlice t l c=>fun env h nid=>lK P t (rd env l) (rd env c) h nid
 |.slice t x lo hi mx=>fun env h _=>eM P t (rd env x) (rdO env lo) (rdO env hi) (rdO env mx) h
 |.fieldAddr s x f=>fun env _ _=>fieldAt P s (rd env x) f
 |.field t x f=>fun env _ _=>sU P t (rd env x) f
 |.indexAddr t x i=>fun env _ _=>indexAt P t (rd env x) (rd env i)
 |.index t x i=>fun env _ _=>sY P t (rd env x) (rd env i)
 |.lookup t x i ok=>fun env h _=>kD P t (rd env x) (rd env i) ok h
 |.mapUpdate t m k x=>fun env h _=>xR P t (rd env m) (rd env k) (rd env x) h
 |.insert t m k x=>fun env h _=>xR P t (rd env m) (rd env k) (rd env x) h
 |.range t x=>fun env h nid=>nH P t (rd env x) h nid
 |.next it s=>fun env h _=>qM (rd env it) s h
 |.typeAssert x _ a ok=>fun env _ _=>vJ P (rd env x) a ok
 |.extract t i=>fun env _ _=>(match rd env t with|.tup l=>dL (nth l i)|_=>.bad)
 |.call c=>fun env h nid=>cT P env c h nid
 |_=>fun _ _ _=>.bad
inductive RS where
 |norm (env:Env) (h:H) (nx:Nat)
 |exit (id:Nat) (env:Env) (h:H) (nx:Nat)
 |ret (env:Env) (h:H) (nx:Nat)
 |bad
inductive CR where
 |ok (v:AV) (h:H) (nx:Nat)
 |bad
abbrev dH:=FuncId->List AV->H->Nat->CR
def aW(env:Env)(d:Option Tmp)(v:AV):Env:=
 match d with
 |some d=>env.set d v
 |none=>env
def dO(all:Array Oper)(env:Env):Option (Nat×Bool)->Option Bool
 |none=>some true
 |some (j,want)=>
  match all[j]? with
  |none=>some false
  |some oj=>match oj.dst with
   |none=>some false
   |some d=>match env.get d with
    |some (.bool b)=>some (b==want)
    |some .junk=>none
    |_=>some false
def cG(P:Program)(cal:dH)(all:Array Oper):List Oper->Env->H->Nat->RS
 |[]=>fun env h nx=>.norm env h nx
 |o::os=>fun env h nx=>
  match dO all env o.guard with
  |some true=>
   (match opA P o.op env h nx with
   |.val v=>cG P cal all os (aW env o.dst v) h nx
   |.upd v h=>cG P cal all os (aW env o.dst v) h nx
   |.new v h=>cG P cal all os (aW env o.dst v) h (Nat.succ nx)
   |.call f args=>(match cal f args h nx with
    |.ok v h nx=>cG P cal all os (aW env o.dst v) h nx
    |.bad=>.bad)
   |.bad=>.bad)
  |some false=>cG P cal all os (aW env o.dst dV) h nx
  |none=>.bad
def iH:Nat->AV->AV->Bool
 |0=>fun _ _=>false
 |n+1=>fun a b=>
  let go:=fun (l m:List AV)=>bif Nat.beq (len l) (len m) then (l.zip m).all fun p=>iH n p.1 p.2 else false
  match a,b with
  |.bool a,.bool b=>a==b
  |.int k a,.int k' b=>keq k k'&&ieq a b
  |.str a,.str b=>eqL a b
  |.nilp,.nilp=>true
  |.ptr a i,.ptr b j=>Nat.beq a b&&Nat.beq i j
  |.nils,.nils=>true
  |.esl,.esl=>true
  |.sl a i n s c,.sl b j m t d=>Nat.beq a b&&Nat.beq i j&&Nat.beq n m&&Nat.beq s t&&(match c,d with|none,none=>true|some x,some y=>Nat.beq x y|_,_=>false)
  |.nilm,.nilm=>true
  |.map a,.map b=>Nat.beq a b
  |.nilf,.nilf=>true
  |.nili,.nili=>true
  |.ifc t a,.ifc u b=>Nat.beq t u&&iH n a b
  |.agg l,.agg m=>go l m
  |.tup l,.tup m=>go l m
  |_,_=>false
inductive Cls where
 |p|r|f|w
def bP:Op->Cls
 |.move _|.assign _|.pick ..|.build ..|.fieldAddr ..|.field ..|.indexAddr ..|.index ..|.binOp ..|.unOp ..
 |.makeInterface ..|.makeFunc ..|.extract ..|.typeAssert ..|.nilCheck _=>.p
 |.load ..|.slice ..|.lookup ..=>.r
 |.alloc _|.box ..|.buildSlice ..|.makeMap ..|.makeSlice ..|.range ..=>.f
 |.convert s d _=>bif Nat.beq s d then .w else .f
 |.call c=>(match c.callee with
  |.builtin .len=>.r
  |.builtin .cap=>.r
  |.builtin .max=>.r
  |.builtin .min=>.r
  |_=>.w)
 |_=>.w
structure PS where
 lo:Nat
 ab:Nat
 b:H
 nx:Nat
structure RD where
 i:Nat
 op:Op
 env:Env
 v:AV
structure bU where
 i:Nat
 env:Env
 fs:List (Nat×AB)
 pr:PS
 old:List PS
 rs:List RD
def aY(base ab:Nat)(sel:Nat->Bool)(b:H):List (Nat×AB)->H
 |[]=>b
 |(f,blk)::fs=>bif !Nat.testBit ab f&&sel f then (aY base ab sel b fs).set (base+f) blk else aY base ab sel b fs
def chk(P:Program)(op:Op)(env:Env)(v:AV)(h:H):Bool:=
 match opA P op env h 0 with
 |.val v'=>iH 10 v v'
 |_=>false
def kX(P:Program)(base m:Nat)(fs:List (Nat×AB))(op:Op)(env:Env)(v:AV)(lo:Nat):List PS->Bool
 |[]=>true
 |p::ps=>Nat.testBit m (lo-1)||(chk P op env v (aY base p.ab (Nat.testBit m) p.b fs)&&kX P base m fs op env v p.lo ps)
def nJ(P:Program)(base:Nat)(o:Oper)(m:Nat)(s:bU):Option bU:=
 match opA P o.op s.env (aY base s.pr.ab (Nat.testBit m) s.pr.b s.fs) 0 with
 |.val v=>bif kX P base m s.fs o.op s.env v s.pr.lo s.old then
   some {s with i:=s.i+1,env:=aW s.env o.dst v,rs:=⟨s.i,o.op,s.env,v⟩::s.rs} else none
 |_=>none
def jB(P:Program)(o:Oper)(m:Nat)(s:bU)(v:AV)(h:H)(nx:Nat):Option bU:=
 bif s.rs.all (fun r=>Nat.testBit m r.i||chk P r.op r.env r.v h) then
  some {i:=s.i+1,env:=aW s.env o.dst v,fs:=s.fs,pr:=⟨s.i+1,Nat.lor (Nat.lor s.pr.ab m) (Nat.pow 2 s.i),h,nx⟩,old:=s.pr::s.old,rs:=s.rs} else none
def IN(P:Program)(cal:dH)(base:Nat)(o:Oper)(m:Nat)(s:bU):Option bU:=
 bif (s.pr::s.old).all (fun p=>Nat.beq p.lo 0||Nat.testBit m (p.lo-1)) then
  (match opA P o.op s.env (aY base s.pr.ab (Nat.testBit m) s.pr.b s.fs) (base+s.i) with
  |.val v=>jB P o m s v (aY base s.pr.ab (Nat.testBit m) s.pr.b s.fs) s.pr.nx
  |.upd v h=>jB P o m s v h s.pr.nx
  |.new v h=>jB P o m s v h s.pr.nx
  |.call f args=>(match cal f args (aY base s.pr.ab (Nat.testBit m) s.pr.b s.fs) s.pr.nx with
   |.ok v h nx=>jB P o m s v h nx
   |.bad=>none)
  |.bad=>none)
 else none
def eO(P:Program)(cal:dH)(all:Array Oper)(base:Nat)(o:Oper)(m:Nat)(s:bU):Option bU:=
 match dO all s.env o.guard with
 |some true=>
  (match bP o.op with
  |.p=>(match opA P o.op s.env .e 0 with
   |.val v=>some {s with i:=s.i+1,env:=aW s.env o.dst v}
   |_=>none)
  |.r=>nJ P base o m s
  |.f=>(match opA P o.op s.env .e (base+s.i) with
   |.new v h=>(match h.get (base+s.i) with
    |some blk=>some {s with i:=s.i+1,env:=aW s.env o.dst v,fs:=(s.i,blk)::s.fs}
    |none=>none)
   |_=>nJ P base o m s)
  |.w=>IN P cal base o m s)
 |some false=>some {s with i:=s.i+1,env:=aW s.env o.dst dV}
 |none=>none
def gU(P:Program)(cal:dH)(all:Array Oper)(base:Nat):List Oper->List Nat->bU->RS
 |[],_=>fun s=>.norm s.env (aY base s.pr.ab (fun _=>true) s.pr.b s.fs) s.pr.nx
 |_::_,[]=>fun _=>.bad
 |o::os,m::ms=>fun s=>match eO P cal all base o m s with
  |some s=>gU P cal all base os ms s
  |none=>.bad
def nA(acc:List Nat):List Edge->Nat
 |[]=>0
 |e::es=>bif Region.binds .any e then Nat.lor (Nat.lor (Nat.pow 2 e.on) (match nth acc e.on with|some m=>m|none=>0)) (nA acc es) else nA acc es
def dX:List Oper->List Nat->List Nat
 |[],acc=>acc
 |o::os,acc=>dX os (app acc [nA acc o.after.toList])
def qL(ops:Array Oper)(o:Oper):List Tmp:=
 (o.op.operands.toList.filterMap fun|.tmp t=>some t|_=>none)++
 (match o.guard with
 |some (g,_)=>(match ops[g]? with|some og=>(match og.dst with|some d=>[d]|none=>[])|none=>[])
 |none=>[])
def K4(ops:Array Oper)(b:List Nat)(o:Oper)(i:Nat)(o':Oper)(i':Nat):Bool:=
 Nat.beq i i'||
 (match o.dst with
 |none=>true
 |some d=>(match o'.dst with|some d'=>!Nat.beq d d'|none=>true)&&
   ((
    qL ops o').all (fun t=>!Nat.beq t d)||
    (match nth b i,nth b i' with|some m,some m'=>bif Nat.blt i i' then Nat.testBit m' i else Nat.testBit m i'|_,_=>false)))
def iV(ops:Array Oper):Bool:=
 let b:=dX ops.toList []
 ops.toList.zipIdx.all fun (o,i)=>
  o.after.toList.all (fun e=>Nat.blt e.on i||!Region.binds .any e)&&
  ops.toList.zipIdx.all fun (o',i')=>K4 ops b o i o' i'
def evC(P:Program)(cal:dH):Nat->Code->Env->H->Nat->RS
 |0,_=>fun _ _ _=>.bad
 |f+1,c=>
  match c with
  |.skip=>fun env h nx=>.norm env h nx
  |.label _=>fun env h nx=>.norm env h nx
  |.ret=>fun env h nx=>.ret env h nx
  |.exit id=>fun env h nx=>.exit id env h nx
  |.seq a b=>fun env h nx=>
   (match evC P cal f a env h nx with
   |.norm env h nx=>evC P cal f b env h nx
   |r=>r)
  |.cond c a b=>fun env h nx=>
   (match rd env c with
   |.bool true=>evC P cal f a env h nx
   |.bool false=>evC P cal f b env h nx
   |_=>.bad)
  |.block id b=>fun env h nx=>
   (match evC P cal f b env h nx with
   |.exit id' env h nx=>bif Nat.beq id id' then .norm env h nx else .exit id' env h nx
   |r=>r)
  |.loop b=>fun env h nx=>
   (match evC P cal f b env h nx with
   |.norm env h nx=>evC P cal f (.loop b) env h nx
   |r=>r)
  |.scope b=>fun env h nx=>evC P cal f b env h nx
  |.region _ ops false=>fun env h nx=>cG P cal ops ops.toList env h nx
  |.region _ ops true=>fun env h nx=>bif iV ops&&P.follows .mixedOrders then gU P cal ops nx ops.toList (dX ops.toList []) ⟨0,env,[],⟨0,0,h,nx+ops.size⟩,[],[]⟩ else .bad
  |_=>fun _ _ _=>.bad
def lR(P:Program)(env:Env)(h:H):List ResultVar->Option (List AV)
 |[]=>some []
 |.tmp t::l=>(match lR P env h l with|some r=>some ((match env.get t with|some v=>v|none=>dV)::r)|none=>none)
 |.cell a t::l=>
  (match ld P h t (match env.get a with|some v=>v|none=>dV),lR P env h l with
  |some v,some r=>some (v::r)
  |_,_=>none)
def lS(P:Program)(fn:Func)(env:Env)(h:H)(nx:Nat):CR:=
 match lR P env h fn.results.toList with
 |some [v]=>.ok v h nx
 |some vs=>.ok (.tup vs) h nx
 |none=>.bad
def gT:List AV->Nat->Env->Env
 |[],_,env=>env
 |v::l,i,env=>gT l (Nat.succ i) (env.set i v)
def w7(g:Nat):Operand->Bool
 |.global k=>Nat.blt k g
 |_=>true
def i5(P:Program)(n:Nat)(o:Oper):Bool:=(match o.dst with|some d=>Nat.blt d n|none=>true)&&o.op.operands.toList.all (w7 P.globals.size)
def eH(P:Program)(n:Nat):Code->Bool
 |.region _ ops _=>ops.toList.all (i5 P n)
 |.seq a b=>eH P n a&&eH P n b
 |.cond c a b=>w7 P.globals.size c&&eH P n a&&eH P n b
 |.block _ b=>eH P n b
 |.loop b=>eH P n b
 |.scope b=>eH P n b
 |_=>true
abbrev Ovr:=FuncId->Option (List AV->H->Nat->CR)
def bM(P:Program)(X:Ovr):Nat->dH
 |0=>fun _ _ _ _=>.bad
 |f+1=>fun g args h nx=>
  match X g with
  |some k=>k args h nx
  |none=>
   match P.funcs[g]? with
   |none=>.bad
   |some fn=>
    match fn.body with
    |none=>.bad
    |some c=>
     bif eH P fn.ntmps c then
      match evC P (bM P X f) f c (gT args 0 .e) h nx with
      |.norm env h nx=>lS P fn env h nx
      |.ret env h nx=>lS P fn env h nx
      |_=>.bad
     else .bad
theorem bJ(a b:Nat):Nat.beq a b=decide (a=b):=by
 cases h:Nat.beq a b
 ·have:=Nat.ne_of_beq_eq_false h;simp[this]
 ·have:=Nat.eq_of_beq_eq_true h;simp[this]
namespace Tr
variable {α β : Type}
@[simp] theorem aJy(t:Tr α)(f:Tr α->β):t.seq f=f t:=by cases t<;>rfl
theorem get_e(k:Nat):(Tr.e:Tr α).get k=none:=by simp[get]
theorem RN(v:α):∀(f k:Nat),k<=f->∀j,(one v f k).get j=if j=k then some v else none
 |0,k,h,j=>by
  have:k=0:=by omega
  subst this;cases j<;>simp[one,get]
 |f+1,0,_,j=>by cases j<;>simp[one,get]
 |f+1,k+1,h,j=>by
  have ih:=RN v f (k / 2) (by omega)
  cases j with
  |zero=>simp only[one];cases Nat.beq (k%2) 0<;>simp[get]
  |succ j=>
   simp only[one];cases hb:Nat.beq (k%2) 0<;>cases hc:Nat.beq (j%2) 0<;>simp[get,hc,ih]<;>simp only[bJ,decide_eq_true_eq,decide_eq_false_iff_not] at hb hc<;>
    first
     |omega
     |(intro h;omega)
     |(congr 1;apply propext;constructor<;>intro h<;>omega)
theorem get_set(t:Tr α):∀(k j:Nat) (v:α),(t.set k v).get j=if j=k then some v else t.get j:=by
 induction t with
 |e=>intro k j v;simp[set,RN v k k (Nat.le_refl k),get]
 |n w l r ihl ihr=>
  intro k j v;cases k with
  |zero=>cases j<;>simp[set,get]
  |succ k=>
   cases j with
   |zero=>simp only[set];cases Nat.beq (k%2) 0<;>simp[get]
   |succ j=>
    simp only[set];cases hb:Nat.beq (k%2) 0<;>cases hc:Nat.beq (j%2) 0<;>simp[get,hc,ihl,ihr]<;>simp only[bJ,decide_eq_true_eq,decide_eq_false_iff_not] at hb hc<;>
     first
      |omega
      |(intro h;omega)
      |(congr 1;apply propext;constructor<;>intro h<;>omega)
theorem get_del(t:Tr α):∀(k j:Nat),(t.del k).get j=if j=k then none else t.get j:=by
 induction t with
 |e=>intro k j;simp[del,get]
 |n w l r ihl ihr=>
  intro k j;cases k with
  |zero=>cases j<;>simp[del,get]
  |succ k=>
   cases j with
   |zero=>simp only[del];cases Nat.beq (k%2) 0<;>simp[get]
   |succ j=>
    simp only[del];cases hb:Nat.beq (k%2) 0<;>cases hc:Nat.beq (j%2) 0<;>simp[get,hc,ihl,ihr]<;>simp only[bJ,decide_eq_true_eq,decide_eq_false_iff_not] at hb hc<;>
     first
      |omega
      |(intro h;omega)
      |(congr 1;apply propext;constructor<;>intro h<;>omega)
end Tr
section
variable {α β : Type}
theorem aT(l:List α):len l=l.length:=by induction l<;>simp_all[len]
theorem dE(l m:List α):app l m=l++m:=by induction l<;>simp_all[app]
theorem aJ2(l:List α):tl l=l.tail:=by cases l<;>rfl
theorem dI(l:List α)(n:Nat):drp l n=l.drop n:=by
 induction n with
 |zero=>rfl
 |succ n ih=>simp[drp,ih,aJ2]
theorem eW(l:List α)(n:Nat):nth l n=l[n]?:=by simp only[nth,dI];rw[<-List.head?_drop];cases l.drop n<;>rfl
theorem eP(n:Nat)(l:List α):tk n l=l.take n:=by
 induction n generalizing l with
 |zero=>simp[tk]
 |succ n ih=>cases l<;>simp[tk,ih]
theorem qQ(l:List α)(n:Nat)(m:List α)(h:n+m.length<=l.length):setSeg l n m=l.take n++m++l.drop (n+m.length):=by
 induction n generalizing l with
 |zero=>simp[setSeg,dE,dI,aT]
 |succ n ih=>
  cases l with
  |nil=>simp at h
  |cons a l=>simp only[List.length_cons] at h;simp[setSeg,ih l (by omega),Nat.add_right_comm n 1]
theorem SU(n:Nat)(z:List α):reps n z=(List.replicate n z).flatten:=by
 induction n with
 |zero=>rfl
 |succ n ih=>simp[reps,dE,ih,List.replicate_succ]
theorem aFZ(f:α->Option β)(l:List α)(m:List β)(h:kE f l=some m):l.length=m.length/\∀(i:Nat) (a:α),l[i]? =some a->∃b,m[i]? =some b/\f a=some b:=by
 induction l generalizing m with
 |nil=>simp[kE] at h;subst h;simp
 |cons a l ih=>
  simp only[kE] at h;cases hf:f a with
  |none=>simp[hf] at h
  |some b=>
   simp only[hf] at h;cases hm:kE f l with
   |none=>simp[hm] at h
   |some m'=>
    simp only[hm,Option.some.injEq] at h;subst h;obtain⟨h1,h2⟩:=ih m' hm;refine⟨by simp[h1],fun i c hc=>?_⟩
    cases i with
    |zero=>simp at hc;subst hc;exact⟨b,by simp,hf⟩
    |succ i=>simpa using h2 i c (by simpa using hc)
theorem iX(l m:List Nat):eqL l m=decide (l=m):=by
 induction l generalizing m with
 |nil=>cases m<;>simp[eqL]
 |cons a l ih=>
  cases m with
  |nil=>simp[eqL]
  |cons b m=>simp only[eqL,ih];cases h:Nat.beq a b<;>simp only[bJ,decide_eq_true_eq,decide_eq_false_iff_not] at h<;>simp[h]
end
structure Loc where
 b:Nat
 o:Nat
 x:Nat
abbrev Map:=Nat->Option Loc
def Map.le(σ τ:Map):Prop:=∀i l,σ i=some l->τ i=some l
theorem Map.le_refl(σ:Map):σ.le σ:=fun _ _ h=>h
theorem Map.le_trans{σ τ υ:Map}(h:σ.le τ)(h':τ.le υ):σ.le υ:=fun i l e=>h' i l (h i l e)
def Map.put(σ:Map)(i:Nat)(l:Loc):Map:=fun j=>if j=i then some l else σ j
theorem Map.put_same(σ:Map)(i:Nat)(l:Loc):σ.put i l i=some l:=by simp[Map.put]
theorem Map.put_other(σ:Map){i j:Nat}(l:Loc)(h:j≠i):σ.put i l j=σ j:=by simp[Map.put,h]
theorem Map.le_put{σ:Map}{i:Nat}{l:Loc}(h:σ i=none):σ.le (σ.put i l):=fun j m e=>by
 by_cases hj:j=i
 ·subst hj;rw[h] at e;cases e
 ·rw[Map.put_other _ _ hj];exact e
mutual
inductive RV(σ:Map):AV->Value->Prop where
 |bool (b:Bool):RV σ (.bool b) (.bool b)
 |int (k:IntKind) (n:Int):RV σ (.int k n) (.int k n)
 |str (l:List Nat) (s:ByteArray) (h:cQ s=l):RV σ (.str l) (.string s)
 |nilp:RV σ .nilp (.pointer none)
 |ptr (b o:Nat) (L:Loc) (h:σ b=some L):RV σ (.ptr b o) (.pointer (some ⟨L.b,L.o+o,none⟩))
 |nils:RV σ .nils (.slice none 0 0)
 |esl (a:Addr) (c:Nat):RV σ .esl (.slice (some a) 0 c)
 |slx (b o n s c:Nat) (L:Loc) (h:σ b=some L) (hn:n<=c) (hs:0<s) (hx:L.o+o+c*s<=L.x):RV σ (.sl b o n s (some c)) (.slice (some ⟨L.b,L.o+o,none⟩) n c)
 |slu (b o n s c:Nat) (L:Loc) (h:σ b=some L) (hn:n<=c) (hs:0<s) (hx:L.o+o+c*s=L.x):RV σ (.sl b o n s none) (.slice (some ⟨L.b,L.o+o,none⟩) n c)
 |nilm:RV σ .nilm (.map none)
 |map (b:Nat) (L:Loc) (h:σ b=some L):RV σ (.map b) (.map (some L.b))
 |nilf:RV σ .nilf .nilFunc
 |func (fn:Fn) (f c:List AV) (f' c':Array Value) (hf:RVs σ f f'.toList) (hc:RVs σ c c'.toList):RV σ (.func fn f c) (.func fn f' c')
 |nili:RV σ .nili .nilIface
 |ifc (t:TypeId) (a:AV) (v:Value) (h:RV σ a v):RV σ (.ifc t a) (.iface t v)
 |agg (l:List AV) (cs:Array Value) (h:RVs σ l cs.toList) (h1:∀v∈cs.toList,v.oneCell'=true):RV σ (.agg l) (.agg cs)
 |tup (l:List AV) (cs:Array Value) (h:RVs σ l cs.toList):RV σ (.tup l) (.tuple cs)
 |junk (v:Value):RV σ .junk v
inductive RVs(σ:Map):List AV->List Value->Prop where
 |nil:RVs σ [] []
 |cons (a:AV) (v:Value) (l:List AV) (m:List Value) (h:RV σ a v) (hl:RVs σ l m):RVs σ (a::l) (v::m)
end
mutual
theorem RV.mono{σ τ:Map}(h:σ.le τ):∀{a:AV} {v:Value},RV σ a v->RV τ a v
 |_,_,.bool b=>.bool b
 |_,_,.int k n=>.int k n
 |_,_,.str l s e=>.str l s e
 |_,_,.nilp=>.nilp
 |_,_,.ptr b o L e=>.ptr b o L (h _ _ e)
 |_,_,.nils=>.nils
 |_,_,.esl a c=>.esl a c
 |_,_,.slx b o n s c L e hn hs hx=>.slx b o n s c L (h _ _ e) hn hs hx
 |_,_,.slu b o n s c L e hn hs hx=>.slu b o n s c L (h _ _ e) hn hs hx
 |_,_,.nilm=>.nilm
 |_,_,.map b L e=>.map b L (h _ _ e)
 |_,_,.nilf=>.nilf
 |_,_,.func fn f c f' c' hf hc=>.func fn f c f' c' (hf.mono h) (hc.mono h)
 |_,_,.nili=>.nili
 |_,_,.ifc t a v e=>.ifc t a v (e.mono h)
 |_,_,.agg l cs e h1=>.agg l cs (e.mono h) h1
 |_,_,.tup l cs e=>.tup l cs (e.mono h)
 |_,_,.junk v=>.junk v
theorem RVs.mono{σ τ:Map}(h:σ.le τ):∀{l:List AV} {m:List Value},RVs σ l m->RVs τ l m
 |_,_,.nil=>.nil
 |_,_,.cons a v l m e el=>.cons a v l m (e.mono h) (el.mono h)
end
section
variable {σ : Map}
theorem RVs.length{l:List AV}{m:List Value}(h:RVs σ l m):l.length=m.length:=by
 induction l generalizing m with
 |nil=>cases h;rfl
 |cons a l ih=>cases h with|cons _ v _ m e el=>simp[ih el]
theorem RVs.get{l:List AV}{m:List Value}(h:RVs σ l m):∀{i:Nat} {a:AV},l[i]? =some a->∃v,m[i]? =some v/\RV σ a v:=by
 induction l generalizing m with
 |nil=>intro i a e;simp at e
 |cons b l ih=>
  cases h with
  |cons _ v _ m e el=>
   intro i a hi;cases i with
   |zero=>simp at hi;subst hi;exact⟨v,by simp,e⟩
   |succ i=>simpa using ih el (by simpa using hi)
theorem RVs.of_get{l:List AV}{m:List Value}(hl:l.length=m.length)(h:∀(i:Nat) (a:AV) (v:Value),l[i]? =some a->m[i]? =some v->RV σ a v):RVs σ l m:=by
 induction l generalizing m with
 |nil=>cases m with|nil=>exact .nil|cons _ _=>simp at hl
 |cons a l ih=>
  cases m with
  |nil=>simp at hl
  |cons v m=>exact .cons a v l m (h 0 a v (by simp) (by simp)) (ih (by simpa using hl) fun i b u h1 h2=>h (i+1) b u (by simpa using h1) (by simpa using h2))
theorem RVs.app{l l':List AV}{m m':List Value}(h:RVs σ l m)(h':RVs σ l' m'):RVs σ (l++l') (m++m'):=by
 induction l generalizing m with
 |nil=>cases h;simpa using h'
 |cons a l ih=>cases h with|cons _ v _ m e el=>exact .cons _ _ _ _ e (ih el)
theorem RVs.take{l:List AV}{m:List Value}(h:RVs σ l m):∀n,RVs σ (l.take n) (m.take n):=by
 induction l generalizing m with
 |nil=>intro n;cases h;simp;exact .nil
 |cons a l ih=>
  cases h with
  |cons _ v _ m e el=>intro n;cases n with|zero=>exact .nil|succ n=>exact .cons _ _ _ _ e (ih el n)
theorem RVs.drop{l:List AV}{m:List Value}(h:RVs σ l m):∀n,RVs σ (l.drop n) (m.drop n):=by
 induction l generalizing m with
 |nil=>intro n;cases h;simp;exact .nil
 |cons a l ih=>
  cases h with
  |cons _ v _ m e el=>intro n;cases n with|zero=>exact .cons _ _ _ _ e el|succ n=>exact ih el n
theorem RVs.map{γ:Type}(f:γ->AV)(g:γ->Value)(l:List γ)(h:∀x∈l,RV σ (f x) (g x)):RVs σ (l.map f) (l.map g):=by
 induction l with
 |nil=>exact .nil
 |cons a l ih=>exact .cons _ _ _ _ (h a (by simp)) (ih fun x hx=>h x (by simp[hx]))
end
def RE(σ:Map)(env:Env)(tmps:Array Value):Prop:=∀t,RV σ (match env.get t with|some v=>v|none=>dV) (tmps.getD t undef)
theorem RE.mono{σ τ:Map}(h:σ.le τ){env:Env}{tmps:Array Value}(e:RE σ env tmps):RE τ env tmps:=fun t=>(e t).mono h
theorem RV.undef{σ:Map}:RV σ dV undef:=.tup [] #[] .nil
theorem RE.put{σ:Map}{env:Env}{tmps:Array Value}{d:Option Tmp}{a:AV}{v:Value}(h:RE σ env tmps)(hd:∀t,d=some t->t<tmps.size)(hv:RV σ a v):
  RE σ (aW env d a) (match d with|some d=>tmps.setIfInBounds d v|none=>tmps):=by
 cases d with
 |none=>exact h
 |some d=>
  intro t;simp only[aW,Tr.get_set];by_cases ht:t=d
  ·subst ht;have:=hd t rfl;simp[Array.getD,this,hv]
  ·have h':=h t;simp only[ht,if_false];have:(tmps.setIfInBounds d v).getD t undef=tmps.getD t undef:=by simp[Array.getD_eq_getD_getElem?,Array.getElem?_setIfInBounds_ne (Ne.symm ht)]
   rw[this];exact h'
theorem GZ{σ:Map}:∀(n:Nat) (v:Value) (a:AV),ofV n v=some a->RV σ a v
 |0,v,a,h=>by simp[ofV] at h
 |n+1,v,a,h=>by
  have hl:∀(cs:List Value) (l:List AV),kE (ofV n) cs=some l->RVs σ l cs:=fun cs l hm=>by
   obtain⟨h1,h2⟩:=aFZ _ _ _ hm;refine RVs.of_get h1.symm fun i b u hb hu=>?_;obtain⟨c,hc,he⟩:=h2 i u hu;have e:c=b:=by rw[hc] at hb;exact Option.some.inj hb
   subst e;exact GZ n u _ he
  unfold ofV at h;split at h
  case h_1=>cases h;exact .bool _
  case h_2=>cases h;exact .int _ _
  case h_3=>cases h;exact .str _ _ rfl
  case h_4=>cases h;exact .nilp
  case h_5=>cases h;exact .nils
  case h_6=>cases h;exact .nilm
  case h_7=>cases h;exact .nilf
  case h_8=>cases h;exact .nili
  case h_9 cs=>
   cases h1:cs.toList.all Value.oneCell' with
   |false=>simp[h1] at h
   |true=>
   simp only[h1,cond_true] at h;split at h
   ·rename_i l hm;cases h;exact .agg _ _ (hl _ _ hm) (List.all_eq_true.1 h1)
   ·cases h
  case h_10 cs=>
   split at h
   ·rename_i l hm;cases h;exact .tup _ _ (hl _ _ hm)
   ·cases h
  case h_11=>cases h
inductive RM(σ:Map):List (AV×AV)->List MapEntry->Prop where
 |nil:RM σ [] []
 |cons (k v:AV) (e:MapEntry) (l:List (AV×AV)) (m:List MapEntry) (hk:RV σ k e.key) (hv:RV σ v e.val) (hl:RM σ l m):RM σ ((k,v)::l) (e::m)
theorem RM.mono{σ τ:Map}(h:σ.le τ){l:List (AV×AV)}{m:List MapEntry}(e:RM σ l m):RM τ l m:=by
 induction e with
 |nil=>exact .nil
 |cons k v e l m hk hv _ ih=>exact .cons k v e l m (hk.mono h) (hv.mono h) ih
inductive RB(σ:Map)(w:World)(L:Loc):AB->Prop where
 |cells (l:List AV) (e:TypeId) (fz:Nat) (raw:Bool) (c:Array Value) (lo hi:Nat) (hh:w.heap[L.b]? =some (.cells c e (lo,hi)))
   (hx:L.x<=c.size) (hl:L.o+l.length<=L.x)
   (hv:∀i a,l[i]? =some a->∃v,c[L.o+i]? =some v/\RV σ a v)
   (h1:∀i v,L.o<=i->i<L.x->c[i]? =some v->v.oneCell'=true)
   (hf:∀i,L.o+fz<=i->i<L.x->¬(lo<=i/\i<hi))
   (hr:raw=false->lo=hi\/(0<fz/\hi<=L.o+fz)) (ho:L.o=0\/(raw=true/\l.length<fz)):RB σ w L (.cells l e fz raw)
 |iter (rest:List Nat) (pos:Nat) (s:ByteArray) (hh:w.heap[L.b]? =some (.stringIter s pos)) (hr:(cQ s).drop pos=rest) (ho:L.o=0):RB σ w L (.iter rest pos)
 |map (es:List (AV×AV)) (m:Array MapEntry) (clock:Nat) (hh:w.heap[L.b]? =some (.map m clock)) (he:RM σ es m.toList):RB σ w L (.map es)
theorem RB.mono{σ τ:Map}{w w':World}{L:Loc}{A:AB}(h:σ.le τ)(hw:w'.heap[L.b]? =w.heap[L.b]?)(r:RB σ w L A):RB τ w' L A:=by
 cases r with
 |cells l e fz raw c lo hi hh hx hl hv h1 hf hr ho=>exact .cells l e fz raw c lo hi (hw.trans hh) hx hl (fun i a ha=>let ⟨v,h2,h3⟩:=hv i a ha;⟨v,h2,h3.mono h⟩) h1 hf hr ho
 |iter rest pos s hh hr ho=>exact .iter rest pos s (hw.trans hh) hr ho
 |map es m clock hh he=>exact .map es m clock (hw.trans hh) (he.mono h)
structure RH(σ:Map)(h:H)(w:World):Prop where
 blk:∀i A,h.get i=some A->∃L,σ i=some L/\RB σ w L A
 inj:∀i j A B L M,h.get i=some A->h.get j=some B->σ i=some L->σ j=some M->L.b=M.b->i=j
 old:∀i L,σ i=some L->L.b<w.heap.size
theorem RH.of_heap{σ:Map}{h:H}{w w':World}(r:RH σ h w)(e:w'.heap=w.heap):RH σ h w':=⟨fun i A hi=>let ⟨L,h1,h2⟩:=r.blk i A hi;⟨L,h1,h2.mono (Map.le_refl _) (by rw[e])⟩,r.inj,fun i L hi=>by rw[e];exact r.old i L hi⟩
def eE(w w':World):Prop:=w'.os=w.os/\w'.output=w.output/\w'.tape=w.tape
theorem eE.refl(w:World):eE w w:=⟨rfl,rfl,rfl⟩
theorem eE.trans{w w' w'':World}(h:eE w w')(h':eE w' w''):eE w w'':=⟨h'.1.trans h.1,h'.2.1.trans h.2.1,h'.2.2.trans h.2.2⟩
def AB.ro:AB->Bool
 |.cells l _ fz true=>Nat.blt (len l) fz
 |_=>false
theorem AB.ro_of{l:List AV}{e:TypeId}{fz:Nat}(raw:Bool)(h:fz<=l.length):(AB.cells l e fz raw).ro=false:=by
 cases raw with
 |false=>rfl
 |true=>
  show Nat.blt (len l) fz=false;cases hb:Nat.blt (len l) fz with
  |false=>rfl
  |true=>have:=Nat.le_of_ble_eq_true hb;rw[aT] at this;omega
structure Ext(N:Nat->Prop)(σ:Map)(h:H)(w:World)(σ':Map)(h':H)(w':World):Prop where
 le:σ.le σ'
 rh:RH σ' h' w'
 size:w.heap.size<=w'.heap.size
 unch:∀B,B<w.heap.size->(∀i A L,h.get i=some A->σ i=some L->L.b≠B)->w'.heap[B]? =w.heap[B]?
 loc:∀i L,σ' i=some L->σ i=some L\/(N i/\(w.heap.size<=L.b\/∃j A M,h.get j=some A/\σ j=some M/\M.b=L.b))
 live:∀i A L,h'.get i=some A->σ i=some L->∃A0,h.get i=some A0
 rest:eE w w'
 keep:∀i A L,h.get i=some A->A.ro=true->σ i=some L->w'.heap[L.b]? =w.heap[L.b]?/\h'.get i=some A
theorem Ext.refl{N:Nat->Prop}{σ:Map}{h:H}{w:World}(r:RH σ h w):Ext N σ h w σ h w:=⟨Map.le_refl _,r,Nat.le_refl _,fun _ _ _=>rfl,fun _ _ e=>.inl e,fun _ A _ e _=>⟨A,e⟩,eE.refl w,fun _ _ _ e _ _=>⟨rfl,e⟩⟩
theorem Ext.of_heap{N:Nat->Prop}{σ:Map}{h:H}{w w':World}(r:RH σ h w)(e:w'.heap=w.heap)(hr:eE w w'):Ext N σ h w σ h w':=⟨Map.le_refl _,r.of_heap e,by rw[e];exact Nat.le_refl _,fun _ _ _=>by rw[e],fun _ _ e=>.inl e,fun _ A _ e _=>⟨A,e⟩,hr,fun _ _ _ h1 _ _=>⟨by rw[e],h1⟩⟩
theorem Ext.trans{N N' M:Nat->Prop}{σ τ υ:Map}{h h' h'':H}{w w' w'':World}(a:Ext N σ h w τ h' w')(b:Ext N' τ h' w' υ h'' w'')
  (hN:∀i,N i->M i) (hN':∀i,N' i->M i):Ext M σ h w υ h'' w'' where
 le:=Map.le_trans a.le b.le
 rh:=b.rh
 size:=Nat.le_trans a.size b.size
 unch B hB hno:=by
  rw[b.unch B (Nat.lt_of_lt_of_le hB a.size) ?_,a.unch B hB hno];intro i A L hi hL e;rcases a.loc i L hL with h1|⟨_,h1|⟨j,A',M,h2,h3,h4⟩⟩
  ·obtain⟨A0,hA0⟩:=a.live i A L hi h1;exact hno i A0 L hA0 h1 e
  ·omega
  ·exact hno j A' M h2 h3 (h4.trans e)
 loc i L hL:=by
  rcases b.loc i L hL with h1|⟨n,h1⟩
  ·rcases a.loc i L h1 with h2|⟨n,h2⟩
   ·exact .inl h2
   ·exact .inr ⟨hN i n,h2⟩
  ·refine .inr ⟨hN' i n,?_⟩;rcases h1 with h1|⟨j,A',M,h2,h3,h4⟩
   ·exact .inl (Nat.le_trans a.size h1)
   ·rcases a.loc j M h3 with h5|⟨_,h5|⟨k,A'',M',h6,h7,h8⟩⟩
    ·obtain⟨A0,hA0⟩:=a.live j A' M h2 h5;exact .inr ⟨j,A0,M,hA0,h5,h4⟩
    ·exact .inl (h4▸h5)
    ·exact .inr ⟨k,A'',M',h6,h7,h8.trans h4⟩
 live i A L hi hL:=by obtain⟨A0,hA0⟩:=b.live i A L hi (a.le i L hL);exact a.live i A0 L hA0 hL
 rest:=a.rest.trans b.rest
 keep i A L hi hA hL:=by obtain⟨h1,h2⟩:=a.keep i A L hi hA hL;obtain⟨h3,h4⟩:=b.keep i A L h2 hA (a.le i L hL);exact⟨h3.trans h1,h4⟩
theorem Ext.weaken{N M:Nat->Prop}{σ τ:Map}{h h':H}{w w':World}(a:Ext N σ h w τ h' w')(hN:∀i,N i->M i):Ext M σ h w τ h' w':=a.trans (Ext.refl (N:=N) a.rh) hN hN
theorem Ext.alloc{σ:Map}{h:H}{w:World}(r:RH σ h w){nid:Nat}(hn:σ nid=none)(x:Nat)(A:AB)(o:Obj)(w':World)(hw:w'.heap=w.heap.push o)(hr:eE w w')
  (hb:RB (σ.put nid ⟨w.heap.size,0,x⟩) w' ⟨w.heap.size,0,x⟩ A):Ext (·=nid) σ h w (σ.put nid ⟨w.heap.size,0,x⟩) (h.set nid A) w':=by
 have hle:=Map.le_put (l:=⟨w.heap.size,0,x⟩) hn;have hget:∀b,b<w.heap.size->w'.heap[b]? =w.heap[b]?:=fun b hb=>by rw[hw,Array.getElem?_push];simp[Nat.ne_of_lt hb]
 have hdead:h.get nid=none:=by
  cases e:h.get nid with
  |none=>rfl
  |some A=>obtain⟨L,h1,_⟩:=r.blk nid A e;rw[hn] at h1;cases h1
 refine⟨hle,⟨fun i B hi=>?_,fun i j B C L M hi hj hL hM e=>?_,fun i L hL=>?_⟩,by rw[hw];simp,fun b hb _=>hget b hb,fun i L hL=>?_,fun i B L hi hL=>?_,hr,fun i B L hi _ hL=>⟨hget _ (r.old i L hL),by
  rw[Tr.get_set];by_cases e:i=nid
  ·subst e;rw[hn] at hL;cases hL
  ·rw[if_neg e];exact hi⟩⟩
 ·rw[Tr.get_set] at hi;by_cases e:i=nid
  ·subst e;simp at hi;subst hi;exact⟨_,Map.put_same _ _ _,hb⟩
  ·simp only[e,if_false] at hi;obtain⟨L,h1,h2⟩:=r.blk i B hi;exact⟨L,hle i L h1,h2.mono hle (hget _ (r.old i L h1))⟩
 ·rw[Tr.get_set] at hi hj;by_cases ei:i=nid<;>by_cases ej:j=nid
  ·rw[ei,ej]
  ·subst ei;simp only[ej,if_false] at hj;rw[Map.put_same] at hL;rw[Map.put_other _ _ ej] at hM;cases hL;have:=r.old j M hM;simp only at e;omega
  ·subst ej;simp only[ei,if_false] at hi;rw[Map.put_same] at hM;rw[Map.put_other _ _ ei] at hL;cases hM;have:=r.old i L hL;simp only at e;omega
  ·simp only[ei,ej,if_false] at hi hj;rw[Map.put_other _ _ ei] at hL;rw[Map.put_other _ _ ej] at hM;exact r.inj i j B C L M hi hj hL hM e
 ·rw[hw,Array.size_push];by_cases e:i=nid
  ·subst e;rw[Map.put_same] at hL;cases hL;simp
  ·rw[Map.put_other _ _ e] at hL;exact Nat.lt_succ_of_lt (r.old i L hL)
 ·by_cases e:i=nid
  ·subst e;rw[Map.put_same] at hL;cases hL;exact .inr ⟨rfl,.inl (Nat.le_refl _)⟩
  ·rw[Map.put_other _ _ e] at hL;exact .inl hL
 ·rw[Tr.get_set] at hi;by_cases e:i=nid
  ·subst e;rw[hn] at hL;cases hL
  ·simp only[e,if_false] at hi;exact⟨B,hi⟩
structure Upd(b:Nat)(w w':World):Prop where
 size:w'.heap.size=w.heap.size
 other:∀c,c≠b->w'.heap[c]? =w.heap[c]?
 rest:eE w w'
theorem Upd.refl(b:Nat)(w:World):Upd b w w:=⟨rfl,fun _ _=>rfl,eE.refl w⟩
theorem Upd.trans{b:Nat}{w w' w'':World}(h:Upd b w w')(h':Upd b w' w''):Upd b w w'':=⟨h'.size.trans h.size,fun c hc=>(h'.other c hc).trans (h.other c hc),h.rest.trans h'.rest⟩
theorem Ext.upd{N:Nat->Prop}{σ:Map}{h:H}{w w':World}(r:RH σ h w){i:Nat}{A A':AB}{L:Loc}(hi:h.get i=some A)(hL:σ i=some L)(hro:A.ro=false)(u:Upd L.b w w')
  (hb:RB σ w' L A'):Ext N σ h w σ (h.set i A') w':=by
 have kp:∀j B M,h.get j=some B->B.ro=true->σ j=some M->w'.heap[M.b]? =w.heap[M.b]?/\(h.set i A').get j=some B:=by
  intro j B M hj hB hM;have ne:j≠i:=fun e=>by subst e;rw[hi] at hj;cases hj;rw[hro] at hB;cases hB
  exact⟨u.other _ fun he=>ne (r.inj j i B A M L hj hi hM hL he),by rw[Tr.get_set,if_neg ne];exact hj⟩
 refine⟨Map.le_refl _,⟨fun j B hj=>?_,fun j k B C M M' hj hk hM hM' e=>?_,fun j M hM=>by rw[u.size];exact r.old j M hM⟩,by rw[u.size];exact Nat.le_refl _,
  fun c _ hno=>u.other c (Ne.symm (hno i A L hi hL)),fun _ _ e=>.inl e,fun j B M hj _=>?_,u.rest,kp⟩
 ·rw[Tr.get_set] at hj;by_cases e:j=i
  ·subst e;simp at hj;subst hj;exact⟨L,hL,hb⟩
  ·simp only[e,if_false] at hj;obtain⟨M,h1,h2⟩:=r.blk j B hj;exact⟨M,h1,h2.mono (Map.le_refl _) (u.other _ fun he=>e (r.inj j i B A M L hj hi h1 hL he))⟩
 ·have live:∀j B,(h.set i A').get j=some B->∃B0,h.get j=some B0:=fun j B hj=>by
   rw[Tr.get_set] at hj;by_cases e:j=i
   ·subst e;exact⟨A,hi⟩
   ·simp only[e,if_false] at hj;exact⟨B,hj⟩
  obtain⟨B0,h0⟩:=live j B hj;obtain⟨C0,h1⟩:=live k C hk;exact r.inj j k B0 C0 M M' h0 h1 hM hM' e
 ·rw[Tr.get_set] at hj;by_cases e:j=i
  ·subst e;exact⟨A,hi⟩
  ·simp only[e,if_false] at hj;exact⟨B,hj⟩
theorem Ext.move{σ:Map}{h:H}{w w':World}(r:RH σ h w){i nid:Nat}{A A':AB}{L L':Loc}(hi:h.get i=some A)(hL:σ i=some L)(hro:A.ro=false)(hn:σ nid=none)(hLb:L'.b=L.b)(u:Upd L.b w w')
  (hb:RB (σ.put nid L') w' L' A'):Ext (·=nid) σ h w (σ.put nid L') ((h.del i).set nid A') w':=by
 have hle:=Map.le_put (l:=L') hn;have hne:i≠nid:=fun e=>by subst e;rw[hn] at hL;cases hL
 have kp:∀j B M,h.get j=some B->B.ro=true->σ j=some M->w'.heap[M.b]? =w.heap[M.b]?/\((h.del i).set nid A').get j=some B:=by
  intro j B M hj hB hM;have ne:j≠i:=fun e=>by subst e;rw[hi] at hj;cases hj;rw[hro] at hB;cases hB
  have nn:j≠nid:=fun e=>by subst e;rw[hn] at hM;cases hM
  exact⟨u.other _ fun he=>ne (r.inj j i B A M L hj hi hM hL he),by rw[Tr.get_set,if_neg nn,Tr.get_del,if_neg ne];exact hj⟩
 have get:∀j B,((h.del i).set nid A').get j=some B->(j=nid/\B=A')\/(j≠nid/\j≠i/\h.get j=some B):=fun j B hj=>by
  rw[Tr.get_set,Tr.get_del] at hj;by_cases e:j=nid
  ·simp only[e,if_true,Option.some.injEq] at hj;exact .inl ⟨e,hj.symm⟩
  ·by_cases e':j=i
   ·simp[e,e'] at hj;exact absurd hj.1 hne
   ·simp only[e,e',if_false] at hj;exact .inr ⟨e,e',hj⟩
 refine⟨hle,⟨fun j B hj=>?_,fun j k B C M M' hj hk hM hM' e=>?_,fun j M hM=>?_⟩,by rw[u.size];exact Nat.le_refl _,
  fun c _ hno=>u.other c (Ne.symm (hno i A L hi hL)),fun j M hM=>?_,fun j B M hj hM=>?_,u.rest,kp⟩
 ·rcases get j B hj with⟨e,rfl⟩|⟨e,e',hj'⟩
  ·subst e;exact⟨L',Map.put_same _ _ _,hb⟩
  ·obtain⟨M,h1,h2⟩:=r.blk j B hj';exact⟨M,hle j M h1,h2.mono hle (u.other _ fun he=>e' (r.inj j i B A M L hj' hi h1 hL he))⟩
 ·rcases get j B hj with⟨ej,rfl⟩|⟨ej,ej',hj'⟩<;>rcases get k C hk with⟨ek,hkC⟩|⟨ek,ek',hk'⟩
  ·rw[ej,ek]
  ·exfalso;subst ej;rw[Map.put_same] at hM;rw[Map.put_other _ _ ek] at hM';cases hM;exact ek' (r.inj k i C A M' L hk' hi hM' hL (e.symm.trans hLb))
  ·exfalso;subst ek;rw[Map.put_same] at hM';rw[Map.put_other _ _ ej] at hM;cases hM';exact ej' (r.inj j i B A M L hj' hi hM hL (e.trans hLb))
  ·rw[Map.put_other _ _ ej] at hM;rw[Map.put_other _ _ ek] at hM';exact r.inj j k B C M M' hj' hk' hM hM' e
 ·rw[u.size];by_cases e:j=nid
  ·subst e;rw[Map.put_same] at hM;cases hM;rw[hLb];exact r.old i L hL
  ·rw[Map.put_other _ _ e] at hM;exact r.old j M hM
 ·by_cases e:j=nid
  ·subst e;rw[Map.put_same] at hM;cases hM;exact .inr ⟨rfl,.inr ⟨i,A,L,hi,hL,hLb.symm⟩⟩
  ·rw[Map.put_other _ _ e] at hM;exact .inl hM
 ·rcases get j B hj with⟨e,_⟩|⟨_,_,hj'⟩
  ·subst e;rw[hn] at hM;cases hM
  ·exact⟨B,hj'⟩
section
variable {P : Program} {w : World}
theorem pY{b off:Nat}{c:Array Value}{e:TypeId}{fr:Nat×Nat}(hh:w.heap[b]? =some (.cells c e fr)):w.cell? ⟨b,off,none⟩=c[off]?:=by simp[World.cell?,hh]
theorem jJ(b o n:Nat):Addr.add ⟨b,o,none⟩ n=⟨b,o+n,none⟩:=by
 unfold Addr.add;split
 ·rename_i h;subst h;rfl
 ·rfl
theorem aIv(w:World)(b off:Nat)(v:Value):Upd b w (w.setCell ⟨b,off,none⟩ v):=by
 refine⟨by simp[World.setCell],fun c hc=>?_,eE.refl _⟩
 simp only[World.setCell,Array.getElem?_modify];simp[Ne.symm hc]
theorem HS(P:Program)(b o:Nat)(e:TypeId)(lo hi:Nat):∀(vs:List Value) (i:Nat) (w:World) (c:Array Value),w.heap[b]? =some (.cells c e (lo,hi))->
  o+i+vs.length<=c.size->(∀v∈vs,v.oneCell'=true)->(∀j,o+i<=j->j<o+i+vs.length->¬(lo<=j/\j<hi))->
  ∃w' c',(storeCells ⟨b,o,none⟩ vs i).run P w=.ok () w'/\Upd b w w'/\w'.heap[b]? =some (.cells c' e (lo,hi))/\c'.size=c.size/\
   ∀j,c'[j]? =if o+i<=j/\j<o+i+vs.length then vs[j-(o+i)]? else c[j]?
 |[],i,w,c,hh,hs,h1,hf=>⟨w,c,by simp[storeCells],Upd.refl _ _,hh,rfl,fun j=>by simp;intro a b;omega⟩
 |v::vs,i,w,c,hh,hs,h1,hf=>by
  simp only[List.length_cons] at hs hf;have hlt:o+i<c.size:=by omega
  have hcell:w.cell? ⟨b,o+i,none⟩=some c[o+i]:=by rw[pY hh];simp[hlt]
  have hfz:w.frozen? ⟨b,o+i,none⟩=false:=by
   have:=hf (o+i) (by omega) (by omega)
   simp[World.frozen?,hh];omega
  have hset:(w.setCell ⟨b,o+i,none⟩ v).heap[b]? =some (.cells (c.setIfInBounds (o+i) v) e (lo,hi)):=by simp[World.setCell,Array.getElem?_modify,hh]
  obtain⟨w',c',h2,h3,h4,h5,h6⟩:=HS P b o e lo hi vs (i+1) (w.setCell ⟨b,o+i,none⟩ v) (c.setIfInBounds (o+i) v) hset (by simp;omega)
   (fun u hu=>h1 u (by simp[hu])) (fun j hj hj'=>hf j (by omega) (by omega))
  refine⟨w',c',?_,(aIv w b (o+i) v).trans h3,h4,by rw[h5];simp,fun j=>?_⟩
  ·simp only[storeCells,Sem.run_bind,jJ,run_store P w _ v _ (h1 v (by simp)),hcell,hfz,Bool.false_eq_true,if_false,Result.andThen_ok]
   exact h2
  ·rw[h6 j];by_cases e1:o+(i+1)<=j/\j<o+(i+1)+vs.length
   ·have:o+i<=j/\j<o+i+(v::vs).length:=by simp;omega
    rw[if_pos e1,if_pos this];have e2:j-(o+i)=(j-(o+(i+1)))+1:=by omega
    rw[e2];simp
   ·rw[if_neg e1];by_cases e2:j=o+i
    ·subst e2;have:o+i<=o+i/\o+i<o+i+(v::vs).length:=by simp
     rw[if_pos this];simp[hlt]
    ·have:¬(o+i<=j/\j<o+i+(v::vs).length):=by simp only[List.length_cons];omega
     rw[if_neg this,Array.getElem?_setIfInBounds_ne (Ne.symm e2)]
end
section
variable {P : Program} {σ : Map}
theorem xL{t:TypeId}{s:Nat}(h:bG P t=some s):∃i,P.info? t=some i/\i.size=s:=by
 unfold bG at h;split at h
 ·rename_i i hi;exact⟨i,hi,by simpa using h⟩
 ·cases h
theorem tN{t:TypeId}{i:TypeInfo}(h:P.info? t=some i)(w:World):(typeInfo t).run P w=.ok i w:=by simp[typeInfo,h]
theorem cZ{t:TypeId}{s:Nat}(h:bG P t=some s)(w:World):(sizeOf t).run P w=.ok s w:=by obtain⟨i,hi,rfl⟩:=xL h;simp[sizeOf,tN hi]
theorem YA{t:TypeId}{b:Bool}(h:gP P t=some b):∃u,P.underlying t=some u/\b=(match u with|.struct _=>true|.array _ _=>true|_=>false):=by
 unfold gP at h;split at h
 ·rename_i fs hu;exact⟨_,hu,by simpa using h.symm⟩
 ·rename_i n e hu;exact⟨_,hu,by simpa using h.symm⟩
 ·rename_i u h1 h2 hu;refine⟨u,hu,?_⟩;cases u<;>simp_all
 ·cases h
theorem BS{t:TypeId}{b:Bool}(h:gP P t=some b)(w:World):(isAgg t).run P w=.ok b w:=by obtain⟨u,hu,rfl⟩:=YA h;cases u<;>simp[isAgg,run_underlying hu]
theorem kO{t:TypeId}{z:AV}(h:fO P t=some z)(w:World):∃v,(zeroValue t).run P w=.ok v w/\RV σ z v:=by
 unfold fO at h;split at h
 ·rename_i i hi;split at h
  ·rename_i v hv;exact⟨v,by simp[zeroValue,tN hi,hv],GZ 3 v z h⟩
  ·cases h
 ·cases h
theorem mJ{a:AV}{v:Value}(h:RV σ a v){l:List AV}(hl:a.cells=some l):RVs σ l v.cells.toList/\∀u∈v.cells.toList,u.oneCell'=true:=by
 cases h<;>simp only[AV.cells,Option.some.injEq,reduceCtorEq] at hl
 case agg l' cs h h1=>subst hl;exact⟨by simpa[Value.cells] using h,by simpa[Value.cells] using h1⟩
 all_goals
  subst hl;refine⟨.cons _ _ _ _ ?_ .nil,?_⟩
  ·first
   |exact .bool _|exact .int _ _|exact .str _ _ (by assumption)|exact .nilp|exact .ptr _ _ _ (by assumption)|exact .nils|exact .esl _ _
   |exact .slx _ _ _ _ _ _ (by assumption) (by assumption) (by assumption) (by assumption)|exact .slu _ _ _ _ _ _ (by assumption) (by assumption) (by assumption) (by assumption)
   |exact .nilm|exact .map _ _ (by assumption)|exact .nilf|exact .func _ _ _ _ _ (by assumption) (by assumption)|exact .nili|exact .ifc _ _ _ (by assumption)
  ·simp[Value.cells,Value.oneCell']
theorem oV{t:TypeId}{l:List AV}{cs:Array Value}{off:Nat}{a:AV}(hp:eY P t l off=some a)(h:RVs σ l cs.toList)(h1:∀v∈cs.toList,v.oneCell'=true)(w:World):
  ∃v,(part t cs off).run P w=.ok v w/\RV σ a v:=by
 unfold eY at hp;split at hp
 ·cases hp
 ·rename_i hag;split at hp
  ·cases hp
  ·rename_i s hs;cases hle:Nat.ble (off+s) (len l) with
   |false=>simp[hle] at hp
   |true=>
    simp only[hle,cond_true,Option.some.injEq] at hp;subst hp;rw[aT,h.length,Array.length_toList] at hle;have hle:=Nat.le_of_ble_eq_true hle;refine⟨.agg (cs.extract off (off+s)),by simp[part,BS hag,cZ hs],.agg _ _ ?_ ?_⟩
    ·rw[eP,dI];have:=(h.drop off).take s;simpa[Array.toList_extract,List.extract_eq_take_drop,List.take_drop,Nat.add_comm] using this
    ·intro v hv;refine h1 v ?_;rw[Array.toList_extract,List.extract_eq_take_drop] at hv;exact List.mem_of_mem_drop (List.mem_of_mem_take hv)
 ·rename_i hag;rw[eW] at hp;obtain⟨v,hv,hr⟩:=h.get hp;refine⟨v,?_,hr⟩;rw[Array.getElem?_toList] at hv;simp[part,BS hag,hv]
theorem qG(a b:IntKind):keq a b=true↔a=b:=by cases a<;>cases b<;>simp[keq]
theorem jM(a b:Int):ieq a b=decide (a=b):=by cases a<;>cases b<;>simp[ieq,bJ];constructor<;>intro h<;>omega
theorem bO(a b:Nat):Nat.blt a b=decide (a<b):=by rw[Bool.eq_iff_iff,decide_eq_true_eq];simp only[Nat.blt,Nat.ble_eq];omega
theorem cL(a b:Nat):Nat.ble a b=decide (a<=b):=by rw[Bool.eq_iff_iff,decide_eq_true_eq,Nat.ble_eq]
theorem m6(a b:Int):ilt a b=decide (a<b):=by
 cases a with
 |ofNat a=>
  cases b with
  |ofNat b=>simp[ilt,bO]
  |negSucc b=>simp[ilt];omega
 |negSucc a=>
  cases b with
  |ofNat b=>simp[ilt];omega
  |negSucc b=>simp only[ilt,bO];congr 1;apply propext;omega
theorem GC(a b:Int):qE a b=a+b:=by
 cases a with
 |ofNat a=>
  cases b with
  |ofNat b=>simp[qE]
  |negSucc b=>simp only[qE,bO];by_cases h:b<a<;>simp only[h,decide_true,decide_false,cond_true,cond_false]<;>simp only[Int.ofNat_eq_natCast]<;>omega
 |negSucc a=>
  cases b with
  |ofNat b=>simp only[qE,bO];by_cases h:a<b<;>simp only[h,decide_true,decide_false,cond_true,cond_false]<;>simp only[Int.ofNat_eq_natCast]<;>omega
  |negSucc b=>simp only[qE];omega
theorem AX(a:Int):wD a= -a:=by
 cases a with
 |ofNat a=>
  simp only[wD,bJ];by_cases h:a=0
  ·simp[h]
  ·simp only[h,decide_false,cond_false];simp only[Int.ofNat_eq_natCast];omega
 |negSucc a=>simp only[wD];simp only[Int.ofNat_eq_natCast];omega
theorem B9(h:Nat)(hh:0<h)(n:Int):t6 h (2*h) n=(let m:=n%(2*h:Int);if m >= h then m-2*h else m):=by
 cases n with
 |ofNat m=>
  simp only[t6,bO];by_cases h1:m<h
  ·simp only[h1,decide_true,cond_true];have:(Int.ofNat m)%(2*h:Int)=m:=by rw[Int.ofNat_eq_natCast];exact Int.emod_eq_of_lt (by omega) (by omega)
   rw[this];simp only[Int.ofNat_eq_natCast];rw[if_neg (by omega)]
  ·simp only[h1,decide_false,cond_false];have:(Int.ofNat m)%(2*h:Int)=((m%(2*h):Nat):Int):=by simp
   rw[this];have hlt:=Nat.mod_lt m (show 0<2*h by omega)
   by_cases h2:m%(2*h)<h
   ·simp only[h2,decide_true,cond_true];rw[if_neg (by omega)];rfl
   ·simp only[h2,decide_false,cond_false];rw[if_pos (by omega)];omega
 |negSucc m=>
  simp only[t6,bO];have hlt:=Nat.mod_lt m (show 0<2*h by omega)
  have hm:(Int.negSucc m)%(2*h:Int)=2*h-1-((m%(2*h):Nat):Int):=by
   rw[Int.negSucc_emod m (by omega)]
   simp
  rw[hm];by_cases h1:m<h
  ·have:m%(2*h)=m:=Nat.mod_eq_of_lt (by omega)
   simp only[h1,decide_true,cond_true];rw[this,if_pos (by omega)];omega
  ·simp only[h1,decide_false,cond_false];by_cases h2:m%(2*h)<h
   ·simp only[h2,decide_true,cond_true];rw[if_pos (by omega)];omega
   ·simp only[h2,decide_false,cond_false];rw[if_neg (by omega)];simp only[Int.ofNat_eq_natCast];omega
theorem CB(p:Nat)(hp:0<p)(n:Int):CA p n=n%(p:Int):=by
 cases n with
 |ofNat m=>simp[CA]
 |negSucc m=>
  have hlt:=Nat.mod_lt m hp;rw[CA,Int.negSucc_emod m (by omega)]
  simp only[Int.ofNat_eq_natCast];omega
theorem lZ(k:IntKind)(n:Int):wr k n=k.wrap n:=by
 cases k<;>simp only[wr,sg,hw,pw,cond_true,cond_false,IntKind.wrap,IntKind.signed,IntKind.bits,Bool.true_and,Bool.false_and]
 ·have:=B9 128 (by omega) n;simpa using this
 ·have:=B9 32768 (by omega) n;simpa using this
 ·have:=B9 2147483648 (by omega) n;simpa using this
 ·have:=B9 9223372036854775808 (by omega) n;simpa using this
 ·have:=CB 256 (by omega) n;simpa using this
 ·have:=CB 65536 (by omega) n;simpa using this
 ·have:=CB 4294967296 (by omega) n;simpa using this
 ·have:=CB 18446744073709551616 (by omega) n;simpa using this
theorem HG(k:IntKind):pw k=2^k.bits:=by cases k<;>rfl
theorem kL(k:IntKind)(n:Int):toU k n=(BitVec.ofInt k.bits n).toNat:=by
 rw[BitVec.toNat_ofInt,<-HG];have h0:0<pw k:=by cases k<;>decide
 have:((toU k n:Nat):Int)=n%((pw k:Nat):Int):=by
  cases n with
  |ofNat m=>simp[toU]
  |negSucc m=>
   have hlt:=Nat.mod_lt m h0;rw[Int.negSucc_emod m (by omega)]
   simp only[toU];omega
 rw[<-this];rfl
def VG(n:Next)(u:Value):Prop:=n=.value u\/(n=.skip/\u=undef)
def cC(P:Program)(σ:Map)(h:H)(w:World)(nid:Nat)(r:NX)(res:Result Next):Prop:=
 match r with
 |.val v=>∃u,res=.ok (.value u) w/\RV σ v u
 |.upd v h'=>∃n u w',res=.ok n w'/\VG n u/\RV σ v u/\Ext (fun _=>False) σ h w σ h' w'
 |.new v h'=>∃u w' σ',res=.ok (.value u) w'/\RV σ' v u/\Ext (·=nid) σ h w σ' h' w'
 |.call f args=>∃vs:List Value,RVs σ args vs/\res=(callFunc f vs.toArray).run P w
 |.bad=>True
theorem nD{h:H}{w:World}{nid:Nat}{o:Option AV}{res:Result Next}(hx:∀v,o=some v->∃u,res=.ok (.value u) w/\RV σ v u):cC P σ h w nid (dL o) res:=by
 cases o with
 |none=>exact trivial
 |some v=>exact hx v rfl
end
section
variable {P : Program} {σ : Map}
theorem BC(s:ByteArray):cQ s=s.toList.map (·.toNat):=by rw[ByteArray.toList_eq];rfl
theorem i4(s:ByteArray):(cQ s).length=s.size:=by simp[cQ]
theorem D8(s t:ByteArray):(s==t)=decide (cQ s=cQ t):=by rw[beq_toListBytes,Bool.eq_iff_iff,decide_eq_true_eq,BC,BC,beq_iff_eq];exact (List.map_inj_right fun a b e=>UInt8.toNat_inj.1 e).symm
theorem FJ{d D:Nat}(ih:∀(t:TypeId) (a b:AV) (x y:Value) (r:Bool),eqV P d t a b=some r->RV σ a x->RV σ b y->∀w,(Op.equalIn D t x y).run P w=.ok r w)
  {l m:List AV} {xs ys:Array Value} (hx:RVs σ l xs.toList) (hy:RVs σ m ys.toList) (hx1:∀v∈xs.toList,v.oneCell'=true) (hy1:∀v∈ys.toList,v.oneCell'=true) (w:World):
  ∀(fs:List Field) (r:Bool),eqFields (eqV P d) P l m fs=some r->(Op.eqFields D xs ys fs).run P w=.ok r w
 |[],r,h=>by simp only[eqFields,Option.some.injEq] at h;subst h;simp[Op.eqFields]
 |f::fs,r,h=>by
  unfold eqFields at h;unfold Op.eqFields;split at h
  ·rename_i hn;rw[if_pos hn];split at h
   ·rename_i a b ha hb;obtain⟨x,hx2,hx3⟩:=oV ha hx hx1 w;obtain⟨y,hy2,hy3⟩:=oV hb hy hy1 w;split at h
    ·rename_i he;have:=ih f.type a b x y true he hx3 hy3 w;have ih2:=FJ ih hx hy hx1 hy1 w fs r h;simp[hx2,hy2,this,ih2]
    ·rename_i he;have:=ih f.type a b x y false he hx3 hy3 w;cases h;simp[hx2,hy2,this]
    ·cases h
   ·cases h
  ·rename_i hn;rw[if_neg hn];exact FJ ih hx hy hx1 hy1 w fs r h
theorem OW{d D:Nat}(ih:∀(t:TypeId) (a b:AV) (x y:Value) (r:Bool),eqV P d t a b=some r->RV σ a x->RV σ b y->∀w,(Op.equalIn D t x y).run P w=.ok r w)
  {l m:List AV} {xs ys:Array Value} (hx:RVs σ l xs.toList) (hy:RVs σ m ys.toList) (hx1:∀v∈xs.toList,v.oneCell'=true) (hy1:∀v∈ys.toList,v.oneCell'=true) (w:World) (e:TypeId) (s:Nat):
  ∀(n i:Nat) (r:Bool),oH (eqV P d) P e s l m n i=some r->(Op.eqItems D e s xs ys (List.range' i n)).run P w=.ok r w
 |0,i,r,h=>by simp only[oH,Option.some.injEq] at h;subst h;simp[Op.eqItems]
 |n+1,i,r,h=>by
  unfold oH at h;rw[List.range'_succ];unfold Op.eqItems;split at h
  ·rename_i a b ha hb;obtain⟨x,hx2,hx3⟩:=oV ha hx hx1 w;obtain⟨y,hy2,hy3⟩:=oV hb hy hy1 w;split at h
   ·rename_i he;have:=ih e a b x y true he hx3 hy3 w;have ih2:=OW ih hx hy hx1 hy1 w e s n (i+1) r h;simp[hx2,hy2,this,ih2]
   ·rename_i he;have:=ih e a b x y false he hx3 hy3 w;cases h;simp[hx2,hy2,this]
   ·cases h
  ·cases h
theorem sP:∀(d D:Nat) (t:TypeId) (a b:AV) (x y:Value) (r:Bool),d<=D->eqV P d t a b=some r->RV σ a x->RV σ b y->∀w,(Op.equalIn D t x y).run P w=.ok r w
 |0,D,t,a,b,x,y,r,_,h,_,_,w=>by simp[eqV] at h
 |d+1,D,t,a,b,x,y,r,hD,h,hx,hy,w=>by
  obtain⟨D,rfl⟩:∃D',D=D'+1:=⟨D-1,by omega⟩
  have ih:=fun t a b x y r=>sP d D t a b x y r (by omega)
  unfold eqV at h;split at h
  ·cases h
  ·rename_i u hu;split at h
   case h_1=>
    cases hx;cases hy;split at h
    ·cases h;simp[Op.equalIn,run_underlying hu]
    ·cases h
   case h_2=>
    rename_i k a k' b;cases hx;cases hy;split at h
    ·cases hk:keq k k' with
     |false=>simp[hk] at h
     |true=>
      simp only[hk,cond_true,Option.some.injEq] at h;have:=(qG k k').1 hk;subst this;subst h;rw[run_equalIn_int (h:=hu),jM]
      congr 1
    ·cases h
   case h_3=>
    cases hx with|str _ s hs=>
    cases hy with|str _ s' hs'=>
    split at h
    ·cases h;simp only[Op.equalIn,Sem.run_bind,run_underlying hu,Result.andThen_ok,Sem.run_pure];rw[D8,iX,hs,hs']
    ·cases h
   case h_4=>cases hx;cases hy;split at h<;>cases h;simp[Op.equalIn,run_underlying hu]
   case h_5=>cases hx;cases hy;split at h<;>cases h;simp[Op.equalIn,run_underlying hu]
   case h_6=>cases hx;cases hy;split at h<;>cases h;simp[Op.equalIn,run_underlying hu]
   case h_7=>
    rename_i a i b j;cases hx with|ptr _ _ L hL=>
    cases hy with|ptr _ _ M hM=>
    split at h
    ·rename_i e;split at h
     ·rename_i s hs;rw[bJ,bJ] at h;by_cases hab:a=b
      ·subst hab;simp only[decide_true,cond_true,Option.some.injEq] at h;rw[hL] at hM;cases hM;subst h;simp only[Op.equalIn,Sem.run_bind,run_underlying hu,Result.andThen_ok,cZ hs];rw[if_pos (by simp)]
       simp only[sameAddr,beq_self_eq_true,if_true,Sem.run_pure]
       congr 1
       rw[Bool.eq_iff_iff];simp
      ·simp[hab] at h
     ·cases h
    ·cases h
   case h_8=>
         cases hx;cases hy;split at h<;>try cases h
         rename_i ms;cases hm:ms.isEmpty<;>simp[hm] at h;subst h;simp[Op.equalIn,run_underlying hu]
   case h_9=>cases hx;cases hy;split at h<;>cases h;simp[Op.equalIn,run_underlying hu]
   case h_10=>cases hx;cases hy;split at h<;>cases h;simp[Op.equalIn,run_underlying hu]
   case h_11=>cases hx;cases hy;split at h<;>cases h;simp[Op.equalIn,run_underlying hu]
   case h_12=>cases hx;cases hy<;>split at h<;>cases h<;>simp[Op.equalIn,run_underlying hu]
   case h_13=>cases hx;cases hy;split at h<;>cases h;simp[Op.equalIn,run_underlying hu]
   case h_14=>cases hy;cases hx<;>split at h<;>cases h<;>simp[Op.equalIn,run_underlying hu]
   case h_15=>cases hx;cases hy;split at h<;>cases h;simp[Op.equalIn,run_underlying hu]
   case h_16=>cases hx;cases hy;split at h<;>cases h;simp[Op.equalIn,run_underlying hu]
   case h_17=>cases hx;cases hy;split at h<;>cases h;simp[Op.equalIn,run_underlying hu]
   case h_18=>cases hx;cases hy;split at h<;>cases h;simp[Op.equalIn,run_underlying hu]
   case h_19=>
    cases hx with|agg _ xs hx hx1=>
    cases hy with|agg _ ys hy hy1=>
    split at h
    ·rename_i fs;cases hst:P.stoodInHeld t with
     |true=>simp[hst] at h
     |false=>
      simp only[hst,cond_false] at h;have hf:P.fieldsOf t=fs:=by simp[Program.fieldsOf,hu]
      rw[run_equalIn_struct w D t xs ys (by rw[hf];exact hu) hst,hf]
      exact FJ ih hx hy hx1 hy1 w _ _ h
    ·rename_i n e;split at h
     ·rename_i s hs;obtain⟨i,hi,hsz⟩:=xL hs;have hc:P.cellsOf e=s:=by simp[Program.cellsOf,hi,hsz]
      rw[run_equalIn_array w D xs ys hu hi,hc,List.range_eq_range'];exact OW ih hx hy hx1 hy1 w e s n 0 r h
     ·cases h
    ·cases h
   case h_20=>cases h
theorem aFV(l m:List UInt8):ltL (l.map (·.toNat)) (m.map (·.toNat))=Op.bytesLess l m:=by
 induction l generalizing m with
 |nil=>cases m<;>rfl
 |cons a l ih=>
  cases m with
  |nil=>rfl
  |cons b m=>
   simp only[List.map_cons,ltL,Op.bytesLess,ih,bO,bJ];have h1:decide (a<b)=decide (a.toNat<b.toNat):=by simp[UInt8.lt_iff_toNat_lt]
   have h2:(a==b)=decide (a.toNat=b.toNat):=by rw[Bool.eq_iff_iff];simp[UInt8.toNat_inj]
   rw[h1,h2];by_cases e1:a.toNat<b.toNat<;>by_cases e2:a.toNat=b.toNat<;>simp[e1,e2]
theorem YP{op:BinOp}{s t:ByteArray}{v:AV}(h:sA op (cQ s) (cQ t)=some v)(w:World):∃u,(Op.stringOp op s t).run P w=.ok u w/\RV σ v u:=by
 have heq:eqL (cQ s) (cQ t)=(s.toList==t.toList):=by rw[iX,<-D8,beq_toListBytes]
 have hlt:ltL (cQ s) (cQ t)=Op.bytesLess s.toList t.toList:=by rw[BC,BC,aFV]
 cases op<;>simp only[sA,reduceCtorEq,Option.some.injEq] at h
 case add=>
  rw[bO,aT,aT,i4,i4] at h;by_cases hs:s.size+t.size<p63
  ·simp only[hs,decide_true,cond_true,Option.some.injEq] at h;subst h;refine⟨.string (s++t),?_,.str _ _ ?_⟩
   ·have:¬((s.size+t.size:Nat):Int)>IntKind.i64.max:=by
     have:IntKind.i64.max=9223372036854775807:=by decide
     simp only[p63] at hs;omega
    simp only[Op.stringOp];rw[if_neg this];rfl
   ·rw[dE];simp[cQ]
  ·simp[hs] at h
 all_goals
  subst h;refine⟨_,rfl,?_⟩;simp only[heq,hlt];exact .bool _
theorem YO{op:BinOp}{k:IntKind}{x y:Int}{v:AV}(h:r9 op k x y=some v)(t:TypeId)(w:World):∃u,(binOp op t (.int k x) (.int k y)).run P w=.ok u w/\RV σ v u:=by
 have hw:=lZ k;have hmin:∀z:Int,ieq y (.ofNat 0)=decide (y=0):=fun _=>by rw[jM];rfl
 cases op<;>simp only[r9,reduceCtorEq,Option.some.injEq] at h
 case add=>subst h;exact⟨.int k (k.wrap (x+y)),by simp[binOp,Op.intArith],by rw[hw,GC];exact .int _ _⟩
 case sub=>subst h;exact⟨.int k (k.wrap (x-y)),by simp[binOp,Op.intArith],by rw[hw,GC,AX,<-Int.sub_eq_add_neg];exact .int _ _⟩
 case mul=>subst h;exact⟨.int k (k.wrap (x*y)),by simp[binOp,Op.intArith],by rw[hw];exact .int _ _⟩
 case quo=>
  rw[hmin 0] at h;by_cases hy:y=0
  ·simp[hy] at h
  ·simp only[hy,decide_false,cond_false,Option.some.injEq] at h;subst h;exact⟨.int k (k.wrap (x.tdiv y)),by simp[binOp,Op.intDiv,hy],by rw[hw];exact .int _ _⟩
 case rem=>
  rw[hmin 0] at h;by_cases hy:y=0
  ·simp[hy] at h
  ·simp only[hy,decide_false,cond_false,Option.some.injEq] at h;subst h;exact⟨.int k (x.tmod y),by simp[binOp,Op.intDiv,hy],.int _ _⟩
 case and=>subst h;exact⟨.int k (k.wrap (BitVec.ofInt k.bits x&&& BitVec.ofInt k.bits y).toNat),by rw[binOp_and];rfl,by rw[hw,kL,kL,BitVec.toNat_and];exact .int _ _⟩
 case or=>subst h;exact⟨.int k (k.wrap (BitVec.ofInt k.bits x|||BitVec.ofInt k.bits y).toNat),by rw[binOp_or];rfl,by rw[hw,kL,kL,BitVec.toNat_or];exact .int _ _⟩
 case xor=>subst h;exact⟨.int k (k.wrap (BitVec.ofInt k.bits x^^^BitVec.ofInt k.bits y).toNat),by rw[binOp_xor];rfl,by rw[hw,kL,kL,BitVec.toNat_xor];exact .int _ _⟩
 case andNot=>subst h;exact⟨.int k (k.wrap (BitVec.ofInt k.bits x&&& ~~~ BitVec.ofInt k.bits y).toNat),by rw[binOp_andNot];rfl,by rw[hw,kL,kL,HG,BitVec.toNat_and,BitVec.toNat_not];exact .int _ _⟩
 case eql=>subst h;exact⟨.bool (x==y),by simp[binOp,Op.intCmp],by rw[jM,show decide (x=y)=(x==y) by rw[Bool.eq_iff_iff];simp];exact .bool _⟩
 case neq=>subst h;exact⟨.bool (x != y),by simp[binOp,Op.intCmp],by rw[jM,show (!decide (x=y))=(x != y) by rw[Bool.eq_iff_iff];simp];exact .bool _⟩
 case lss=>subst h;exact⟨.bool (x<y),by simp[binOp,Op.intCmp],by rw[m6];exact .bool _⟩
 case leq=>subst h;exact⟨.bool (x<=y),by simp[binOp,Op.intCmp],by rw[m6];rw[show (!decide (y<x))=decide (x<=y) by rw[<-decide_not];congr 1;apply propext;omega];exact .bool _⟩
 case gtr=>subst h;exact⟨.bool (x>y),by simp[binOp,Op.intCmp],by rw[m6];exact .bool _⟩
 case geq=>subst h;exact⟨.bool (x >= y),by simp[binOp,Op.intCmp],by rw[m6];rw[show (!decide (x<y))=decide (x >= y) by rw[<-decide_not];congr 1;apply propext;omega];exact .bool _⟩
end
section
variable {P : Program} {σ : Map}
theorem IC(n:Nat)(k:IntKind):(bif Nat.blt n (kbits k) then n else kbits k)=min n k.bits:=by
 have:kbits k=k.bits:=by cases k<;>rfl
 rw[this,bO];by_cases h:n<k.bits
 ·simp[h];omega
 ·simp[h];omega
theorem aJA(k yk:IntKind)(x:Int)(n:Nat)(t:TypeId)(w:World):∃u,(binOp .shl t (.int k x) (.int yk (Int.ofNat n))).run P w=.ok u w/\RV σ (shl k x n) u:=by
 refine⟨.int k (k.wrap (x*2^min n k.bits)),?_,?_⟩
 ·simp only[binOp,Op.shift];rw[if_neg (by simp)]
  simp
 ·rw[shl,lZ,IC];have:(Int.ofNat (Nat.pow 2 (min n k.bits)))=(2:Int)^min n k.bits:=by simp
  rw[this];exact .int _ _
theorem aJB(k yk:IntKind)(x:Int)(n:Nat)(t:TypeId)(w:World):∃u,(binOp .shr t (.int k x) (.int yk (Int.ofNat n))).run P w=.ok u w/\RV σ (shr k x n) u:=by
 refine⟨.int k (x.fdiv (2^min n k.bits)),?_,?_⟩
 ·simp only[binOp,Op.shift];rw[if_neg (by simp)]
  simp
 ·have hp:(2:Int)^min n k.bits=((2^min n k.bits:Nat):Int):=by simp
  have h0:0<2^min n k.bits:=Nat.pow_pos (by omega)
  cases x with
  |ofNat m=>
   have:(Int.ofNat m).fdiv (2^min n k.bits)=Int.ofNat (m / 2^min n k.bits):=by
    rw[hp,Int.fdiv_eq_ediv_of_nonneg _ (by omega)]
    exact (Int.natCast_ediv m (2^min n k.bits)).symm
   rw[this,shr,IC];exact .int _ _
  |negSucc m=>
   have:(Int.negSucc m).fdiv (2^min n k.bits)=Int.negSucc (m / 2^min n k.bits):=by
    rw[hp,Int.fdiv_eq_ediv_of_nonneg _ (by omega),Int.negSucc_ediv _ (by omega)]
    rw[Int.negSucc_eq];simp;rfl
   rw[this,shr,IC];exact .int _ _
def tE:Value->Bool
 |.int _ _|.float _ _|.complex _ _ _|.string _=>true
 |_=>false
theorem LK(t:TypeId)(x y:Value)(h:tE x=false):binOp .eql t x y=(do pure (.bool (<-Op.equal t x y))):=by cases x<;>simp[tE] at h<;>cases y<;>rfl
theorem LL(t:TypeId)(x y:Value)(h:tE x=false):binOp .neq t x y=(do pure (.bool (!(<-Op.equal t x y)))):=by cases x<;>simp[tE] at h<;>cases y<;>rfl
theorem FL{t:TypeId}{a b:AV}{x y:Value}{r:Bool}(h:eqV P bR t a b=some r)(hx:RV σ a x)(hy:RV σ b y)(hn:tE x=false)(w:World):
  (binOp .eql t x y).run P w=.ok (.bool r) w/\(binOp .neq t x y).run P w=.ok (.bool (!r)) w:=by
 have he:=sP bR Op.maxDepth t a b x y r (by decide) h hx hy w
 rw[LK t x y hn,LL t x y hn];simp[Op.equal,he]
theorem aCK(t:TypeId)(xs ys:Array Value)(op:BinOp)(ox oy:Operand)(h:P.eqGuardType P.depth t=false)(w:World):(eqGuard op t ox oy (.agg xs) (.agg ys)).run P w=.ok () w:=by cases op<;>simp[eqGuard,h]
theorem OY(t:TypeId)(op:BinOp)(ox oy:Operand)(h:(dS ox||dS oy)=true\/∃ms,P.underlying t=some (.interface ms)/\ms.isEmpty=true)(w:World):
  (eqGuard op t ox oy .nilIface .nilIface).run P w=.ok () w:=by
 rcases h with h|⟨ms,h1,h2⟩
 ·cases ox<;>cases oy<;>simp[dS] at h<;>cases op<;>simp[eqGuard]
 ·have this:(Op.eqGuardIn Op.maxDepth t .nilIface .nilIface).run P w=.ok false w:=(fun d=>by simp[Op.eqGuardIn,run_underlying h1,h2]:∀d,(Op.eqGuardIn (d+1) t .nilIface .nilIface).run P w=.ok false w) 9999
  cases ox<;>cases oy<;>cases op<;>simp[eqGuard,this]
theorem aCL(t:TypeId)(op:BinOp)(ox oy:Operand)(x y:Value)(h1:∀l m,x=.agg l->y=.agg m->False)(h2:x=.nilIface->y=.nilIface->False)(w:World):
  (eqGuard op t ox oy x y).run P w=.ok () w:=by
 cases op<;>first
  |rfl
  |(cases x<;>cases y<;>first|rfl|exact (h1 _ _ rfl rfl).elim|exact (h2 rfl rfl).elim)
theorem OZ{t:TypeId}{ox oy:Operand}{a b:AV}{x y:Value}{r:Bool}(h:eqR P t (dS ox||dS oy) a b=some r)(hx:RV σ a x)(hy:RV σ b y)(op:BinOp)(w:World):
  (eqGuard op t ox oy x y).run P w=.ok () w/\(binOp .eql t x y).run P w=.ok (.bool r) w/\(binOp .neq t x y).run P w=.ok (.bool (!r)) w:=by
 unfold eqR at h;split at h
 ·cases hx;cases hy;cases hc:(dS ox||dS oy) with
  |true=>
   simp only[hc,cond_true] at h;split at h
   ·rename_i ms hu;cases h;refine⟨OY t op ox oy (.inl hc) w,?_⟩;rw[LK t _ _ rfl,LL t _ _ rfl];have this:(Op.equal t .nilIface .nilIface).run P w=.ok true w:=(fun d=>by simp[Op.equalIn,run_underlying hu]:∀d,(Op.equalIn (d+1) t .nilIface .nilIface).run P w=.ok true w) 9999
    simp[this]
   ·cases h
  |false=>
   simp only[hc,cond_false] at h;have h':=h;rw[bR,show 100=99+1 from rfl] at h';unfold eqV at h';split at h'
   ·cases h'
   ·rename_i u hu;simp only at h';split at h'
    ·rename_i ms;cases hm:ms.isEmpty with
     |false=>simp[hm] at h'
     |true=>exact⟨OY t op ox oy (.inr ⟨ms,hu,hm⟩) w,FL (σ:=σ) h .nili .nili rfl w⟩
    ·cases h'
 ·cases hg:P.eqGuardType P.depth t with
  |true=>simp[hg] at h
  |false=>simp only[hg,cond_false] at h;have hx':=hx;have hy':=hy;cases hx;cases hy;exact⟨aCK t _ _ op ox oy hg w,FL h hx' hy' rfl w⟩
 ·cases h
 ·cases h
 ·cases h
 ·cases h
 ·rename_i hi hs hj1 hj2 hnn haa;have hnum:tE x=false:=by cases hx<;>first|rfl|exact absurd rfl (hi _ _)|exact absurd rfl (hs _)|exact absurd rfl hj1
  refine⟨aCL t op ox oy x y ?_ ?_ w,FL h hx hy hnum w⟩
  ·rintro l m rfl rfl;cases hx with
   |agg=>cases hy with
    |agg=>exact haa _ _ rfl rfl
    |junk=>exact hj2 rfl
   |junk=>exact hj1 rfl
  ·rintro rfl rfl;cases hx with
   |nili=>cases hy with
    |nili=>exact hnn rfl rfl
    |junk=>exact hj2 rfl
   |junk=>exact hj1 rfl
theorem YN{op:BinOp}{t:TypeId}{ox oy:Operand}{a b:AV}{x y:Value}{v:AV}(h:iU P op t (dS ox) (dS oy) a b=some v)(hx:RV σ a x)(hy:RV σ b y)(w:World):
  ∃u,(do eqGuard op t ox oy x y;binOp op t x y).run P w=.ok u w/\RV σ v u:=by
 unfold iU at h;split at h
 ·
  rename_i k a k' b;cases hx;cases hy;have hg:eqGuard op t ox oy (.int k a) (.int k' b)=pure ():=eqGuard_at_int ..;rw[hg];simp only[pure_bind];split at h
  ·split at h
   ·cases h;exact aJA ..
   ·cases h
  ·split at h
   ·cases h;exact aJB ..
   ·cases h
  ·cases hk:keq k k' with
   |false=>simp[hk] at h
   |true=>simp only[hk,cond_true] at h;have:=(qG k k').1 hk;subst this;exact YO h t w
 ·
  cases hx with|str _ s hs=>
  cases hy with|str _ s' hs'=>
  subst hs;subst hs';have hg:eqGuard op t ox oy (.string s) (.string s')=pure ():=eqGuard_at_string ..;rw[hg];simp only[pure_bind];obtain⟨u,h1,h2⟩:=YP h w;refine⟨u,?_,h2⟩;cases op<;>first|exact h1|(simp[sA] at h)
 ·
  split at h
  ·split at h
   ·rename_i r hr;cases h;obtain⟨k1,k2,_⟩:=OZ hr hx hy .eql w;exact⟨_,by simp[k1,k2],.bool _⟩
   ·cases h
  ·split at h
   ·rename_i r hr;cases h;obtain⟨k1,_,k2⟩:=OZ hr hx hy .neq w;exact⟨_,by simp[k1,k2],.bool _⟩
   ·cases h
  ·cases h
theorem aJb{op:UnOp}{a:AV}{x:Value}{v:AV}(h:unA op a=some v)(hx:RV σ a x)(w:World):∃u,(Op.unary op x).run P w=.ok u w/\RV σ v u:=by
 unfold unA at h;split at h
 ·rename_i k n;cases h;cases hx;exact⟨.int k (k.wrap (-n)),by simp[Op.unary,Op.intArith],by rw[lZ,AX];exact .int _ _⟩
 ·rename_i k n;cases h;cases hx;refine⟨.int k (k.wrap (BitVec.ofInt k.bits (if k.signed then -1 else k.max)^^^BitVec.ofInt k.bits n).toNat),rfl,?_⟩
  have hall:BitVec.ofInt k.bits (if k.signed then -1 else k.max)=BitVec.allOnes k.bits:=by cases k<;>decide
  rw[hall,lZ,kL,HG];rw[show BitVec.allOnes k.bits^^^BitVec.ofInt k.bits n= ~~~ BitVec.ofInt k.bits n by simp,BitVec.toNat_not]
  exact .int _ _
 ·cases h;cases hx;exact⟨.bool _,by simp[Op.unary],.bool _⟩
 ·cases h
end
section
variable {P : Program} {σ : Map} {h : H} {w : World}
theorem RH.cells(r:RH σ h w){b:Nat}{l:List AV}{e:TypeId}{fz:Nat}{raw:Bool}(hb:h.get b=some (.cells l e fz raw)){L:Loc}(hL:σ b=some L):
  ∃c lo hi,w.heap[L.b]? =some (.cells c e (lo,hi))/\L.x<=c.size/\L.o+l.length<=L.x/\(∀i a,l[i]? =some a->∃v,c[L.o+i]? =some v/\RV σ a v)/\
   (∀i v,L.o<=i->i<L.x->c[i]? =some v->v.oneCell'=true)/\(∀i,L.o+fz<=i->i<L.x->¬(lo<=i/\i<hi))/\(raw=false->lo=hi\/(0<fz/\hi<=L.o+fz)):=by
 obtain⟨M,h1,h2⟩:=r.blk b _ hb;rw[hL] at h1;cases h1;cases h2 with
 |cells l e fz raw c lo hi hh hx hl hv h1 hf hr ho=>exact⟨c,lo,hi,hh,hx,hl,hv,h1,hf,hr⟩
theorem RH.org(r:RH σ h w){b:Nat}{l:List AV}{e:TypeId}{fz:Nat}{raw:Bool}(hb:h.get b=some (.cells l e fz raw)){L:Loc}(hL:σ b=some L)(hf:raw=false\/fz<=l.length):L.o=0:=by
 obtain⟨M,h1,h2⟩:=r.blk b _ hb;rw[hL] at h1;cases h1;cases h2 with
 |cells l e fz raw c lo hi hh hx hl hv h1 _ hr ho=>
  rcases ho with ho|⟨ho1,ho2⟩
  ·exact ho
  ·exfalso;rcases hf with h|h
   ·rw[h] at ho1;cases ho1
   ·omega
theorem wL(r:RH σ h w){b o n:Nat}{l:List AV}(hl:fF h b o n=some l){L:Loc}(hL:σ b=some L):
  ∃vs:List Value,vs.length=n/\(loadCells ⟨L.b,L.o+o,none⟩ n).run P w=.ok vs.toArray w/\RVs σ l vs/\(∀v∈vs,v.oneCell'=true)/\(∀j v,vs[j]? =some v->w.cell? ⟨L.b,L.o+o+j,none⟩=some v):=by
 unfold fF at hl;split at hl
 ·rename_i l' e fz raw hb;obtain⟨c,lo,hi,hh,hx,hlen,hv,h1,_,_⟩:=r.cells hb hL;rw[cL,aT] at hl;by_cases hle:o+n<=l'.length
  ·simp only[hle,decide_true,cond_true,Option.some.injEq,eP,dI] at hl;subst hl;let vs:=(c.toList.drop (L.o+o)).take n;have hvl:vs.length=n:=by simp[vs];omega
   have hget:∀j v,vs[j]? =some v->c[L.o+o+j]? =some v/\j<n:=by
    intro j v hj;have hjn:j<n:=by
     rcases Nat.lt_or_ge j n with h|h
     ·exact h
     ·rw[List.getElem?_eq_none (by omega)] at hj;cases hj
    simp only[vs,List.getElem?_take,hjn,if_true,List.getElem?_drop] at hj;rw[Array.getElem?_toList] at hj;exact⟨hj,hjn⟩
   refine⟨vs,hvl,?_,?_,?_,?_⟩
   ·have:=run_loadCells_list (P:=P) w ⟨L.b,L.o+o,none⟩ vs (fun j v hj=>by rw[jJ,pY hh];exact (hget j v hj).1)
    rw[hvl] at this;exact this
   ·refine RVs.of_get (by simp[hvl];omega) fun j a v ha hj=>?_
    obtain⟨h2,h3⟩:=hget j v hj;simp only[List.getElem?_take,h3,if_true,List.getElem?_drop] at ha;obtain⟨u,h4,h5⟩:=hv (o+j) a ha;rw[<-Nat.add_assoc,h2] at h4;cases h4;exact h5
   ·intro v hv';obtain⟨j,hj⟩:=List.mem_iff_getElem?.1 hv';obtain⟨h2,h3⟩:=hget j v hj;exact h1 _ v (by omega) (by omega) h2
   ·intro j v hj;rw[pY hh];exact (hget j v hj).1
  ·simp[hle] at hl
 ·cases hl
theorem qK(r:RH σ h w){t:TypeId}{a:AV}{x:Value}{v:AV}(hl:ld P h t a=some v)(hx:RV σ a x):∃u,(Instr.loadAt t x).run P w=.ok u w/\RV σ v u:=by
 unfold ld at hl;split at hl
 ·rename_i b o;cases hx with|ptr _ _ L hL=>
  split at hl
  ·rename_i hag;split at hl
   ·rename_i s hs;split at hl
    ·rename_i l hl';cases hl;obtain⟨vs,h1,h2,h3,h4,_⟩:=wL (P:=P) r hl' hL;exact⟨.agg vs.toArray,by simp[Instr.loadAt,Instr.sureAddr,loadVar,BS hag,cZ hs,h2],.agg _ _ (by simpa using h3) (by simpa using h4)⟩
    ·cases hl
   ·cases hl
  ·rename_i hag;split at hl
   ·rename_i l e fz raw hb;obtain⟨c,lo,hi,hh,hx,hlen,hv,h1,_,_⟩:=r.cells hb hL;rw[eW] at hl;obtain⟨u,h2,h3⟩:=hv o v hl;exact⟨u,by simp[Instr.loadAt,Instr.sureAddr,loadVar,BS hag,pY hh,h2],h3⟩
   ·cases hl
  ·cases hl
 ·cases hl
theorem HX(r:RH σ h w){b o:Nat}{cs:List AV}{h':H}(hs:qR h b o cs=some h'){L:Loc}(hL:σ b=some L){vs:List Value}(hv:RVs σ cs vs)(h1:∀v∈vs,v.oneCell'=true)(N:Nat->Prop):
  ∃w',(storeCells ⟨L.b,L.o+o,none⟩ vs).run P w=.ok () w'/\Ext N σ h w σ h' w':=by
 unfold qR at hs;split at hs
 ·rename_i l e fz raw hb;obtain⟨c,lo,hi,hh,hx,hlen,hv',hone,hf,hraw⟩:=r.cells hb hL;rw[cL,cL,aT,aT,hv.length] at hs;by_cases hle:o+vs.length<=l.length/\fz<=o
  ·simp only[hle.1,hle.2,decide_true,Bool.and_self,cond_true,Option.some.injEq] at hs;subst hs;obtain⟨w',c',k1,k2,k3,k4,k5⟩:=HS P L.b (L.o+o) e lo hi vs 0 w c hh (by omega) h1 (fun j hj hj'=>hf j (by omega) (by omega))
   refine⟨w',k1,Ext.upd r hb hL (AB.ro_of _ (by omega)) k2 ?_⟩
   have hseg:=qQ l o cs (by rw[hv.length];exact hle.1)
   refine .cells _ e fz raw c' lo hi k3 (by omega) (by rw[hseg];simp[hv.length];omega) (fun i a hi'=>?_) (fun i v hi1 hi2 hi3=>?_) hf hraw (.inl (r.org hb hL (.inr (by omega))))
   ·rw[hseg] at hi';rw[k5];by_cases hin:o<=i/\i<o+vs.length
    ·rw[if_pos (by omega)]
     rw[List.append_assoc,List.getElem?_append_right (by simp;omega),List.getElem?_append_left (by simp[hv.length];omega)] at hi'
     have:min o l.length=o:=by omega
     simp only[List.length_take,this] at hi';obtain⟨v,q1,q2⟩:=hv.get hi';exact⟨v,by rw[show L.o+i-(L.o+o+0)=i-o by omega];exact q1,q2⟩
    ·rw[if_neg (by omega)]
     refine hv' i a ?_;by_cases hlt:i<o
     ·rw[List.append_assoc,List.getElem?_append_left (by simp;omega),List.getElem?_take] at hi'
      simpa[hlt] using hi'
     ·rw[List.getElem?_append_right (by simp[hv.length];omega),List.getElem?_drop] at hi'
      have:min o l.length=o:=by omega
      simp only[List.length_append,List.length_take,this,hv.length] at hi';rw[show o+vs.length+(i-(o+vs.length))=i by omega] at hi'
      exact hi'
   ·rw[k5] at hi3;split at hi3
    ·exact h1 v (List.mem_of_getElem? hi3)
    ·exact hone i v hi1 hi2 hi3
  ·have:(decide (o+vs.length<=l.length)&&decide (fz<=o))=false:=by simp;omega
   simp[this] at hs
 ·cases hs
theorem aJJ(r:RH σ h w){t:TypeId}{a v:AV}{x y:Value}{h':H}(hs:st P h t a v=some h')(hx:RV σ a x)(hy:RV σ v y)(N:Nat->Prop):
  ∃w',(Instr.storeAt t x y).run P w=.ok () w'/\Ext N σ h w σ h' w':=by
 unfold st at hs;split at hs
 ·rename_i b o cs s hc hsz;cases hx with|ptr _ _ L hL=>
  obtain⟨q1,q2⟩:=mJ hy hc;rw[bJ,aT] at hs;by_cases hlen:cs.length=s
  ·simp only[hlen,decide_true,cond_true] at hs;obtain⟨w',k1,k2⟩:=HX (P:=P) r hs hL q1 q2 N;refine⟨w',?_,k2⟩;have:¬(y.cells.size≠s):=by have:=q1.length;simp at this;omega
   simp only[Instr.storeAt,Instr.sureAddr,storeVar,Sem.run_bind,Sem.run_pure,Result.andThen_ok,cZ hsz];rw[if_neg this];exact k1
  ·simp[hlen] at hs
 ·cases hs
theorem GR(r:RH σ h w){nid:Nat}(hn:σ nid=none)(e:TypeId){cs:List AV}{vs:Array Value}(hv:RVs σ cs vs.toList)(h1:∀v∈vs.toList,v.oneCell'=true):
  ∃w' σ',(newRow e vs).run P w=.ok ⟨w.heap.size,0,none⟩ w'/\σ' nid=some ⟨w.heap.size,0,vs.size⟩/\Ext (·=nid) σ h w σ' (h.set nid (.cells cs e 0 false)) w':=by
 refine⟨{w with heap:=w.heap.push (.cells vs e (0,0))},σ.put nid ⟨w.heap.size,0,vs.size⟩,by simp[newRow],Map.put_same _ _ _,?_⟩
 refine Ext.alloc r hn vs.size _ (.cells vs e) _ rfl (eE.refl _) ?_;have hle:=Map.le_put (l:=⟨w.heap.size,0,vs.size⟩) hn;refine .cells cs e 0 false vs 0 0 (by simp) (Nat.le_refl _) (by have:=hv.length;simp at this;simp;omega) (fun i a hi=>?_) (fun i v _ _ hi=>?_) (fun i _ _=>by omega) (fun _=>.inl rfl) (.inl rfl)
 ·obtain⟨v,q1,q2⟩:=hv.get hi;exact⟨v,by simpa using q1,q2.mono hle⟩
 ·exact h1 v (by rw[Array.mem_toList_iff];exact Array.mem_of_getElem? hi)
theorem Q5(r:RH σ h w){nid:Nat}(hn:σ nid=none)(e:TypeId){a:AV}{x:Value}(hx:RV σ a x)(f:Addr->Value)(hf:f=fun a=>.pointer (some a)):
  cC P σ h w nid (fH P e a h nid) ((do pure (Next.value (f (<-newVar e x))):Sem Next).run P w):=by
 unfold fH;split
 ·rename_i cs hc;obtain⟨q1,q2⟩:=mJ hx hc;obtain⟨w',σ',k1,k2,k3⟩:=GR (P:=P) r hn e q1 q2;refine⟨.pointer (some ⟨w.heap.size,0,none⟩),w',σ',?_,?_,k3⟩
  ·simp[newVar,k1,hf]
  ·have:=RV.ptr (σ:=σ') nid 0 _ k2;simpa using this
 ·trivial
end
section
variable {P : Program} {σ : Map} {h : H} {w : World}
theorem PY(off:Nat):∀(vs:List Value) (k:Nat) (c:Array Value),off+k+vs.length<=c.size->
  ((vs.zipIdx k).foldl (fun cs (v,j)=>cs.setIfInBounds (off+j) v) c).toList=c.toList.take (off+k)++vs++c.toList.drop (off+k+vs.length)
 |[],k,c,_=>by simp
 |v::vs,k,c,hle=>by
  simp only[List.length_cons] at hle;rw[List.zipIdx_cons,List.foldl_cons,PY off vs (k+1) _ (by simp;omega)]
  simp only[Array.toList_setIfInBounds];have hlt:off+k<c.toList.length:=by simp;omega
  rw[show off+(k+1)=off+k+1 by omega,List.take_succ_eq_append_getElem (by simp;omega)]
  simp only[List.getElem_set_self,List.length_cons];rw[List.take_set_of_le (Nat.le_refl _),List.drop_set_of_lt (by omega)]
  rw[show off+k+1+vs.length=off+k+(vs.length+1) by omega]
  simp[List.append_assoc]
theorem AO(place:Nat->Option (Nat×Nat)):∀(parts:List (Nat×AV)) (parts':List (Nat×Value)) (cells:List AV) (cells':Array Value) (l:List AV),
  parts.length=parts'.length->(∀(i:Nat) p q,parts[i]? =some p->parts'[i]? =some q->p.1=q.1/\RV σ p.2 q.2)->RVs σ cells cells'.toList->(∀v∈cells'.toList,v.oneCell'=true)->
  lE place cells parts=some l->∃c,Instr.fill place cells' parts'=some c/\RVs σ l c.toList/\(∀v∈c.toList,v.oneCell'=true)/\c.size=cells'.size
 |[],[],cells,cells',l,_,_,hv,h1,hf=>by simp only[lE,Option.some.injEq] at hf;subst hf;exact⟨cells',rfl,hv,h1,rfl⟩
 |(i,a)::parts,(j,x)::parts',cells,cells',l,hlen,hp,hv,h1,hf=>by
  have h0:=hp 0 (i,a) (j,x) (by simp) (by simp)
  obtain⟨hij,hax⟩:=h0;simp only at hij hax;subst hij;unfold lE at hf;split at hf
  ·rename_i off size cs hpl hc;obtain⟨q1,q2⟩:=mJ hax hc;have hclen:cs.length=x.cells.size:=by simpa using q1.length
   have hcells:cells.length=cells'.size:=by simpa using hv.length
   rw[bJ,cL,aT,aT] at hf;by_cases hok:cs.length=size/\off+size<=cells.length
   ·simp only[hok.1,hok.2,decide_true,Bool.and_self,cond_true] at hf;unfold Instr.fill;simp only[hpl];rw[if_neg (by simp;omega)]
    have hfold:=PY off x.cells.toList 0 cells' (by simp;omega)
    have hzip:(x.cells.zipIdx.foldl (fun cs (c,j)=>cs.setIfInBounds (off+j) c) cells').toList=cells'.toList.take off++x.cells.toList++cells'.toList.drop (off+x.cells.size):=by rw[<-Array.foldl_toList,Array.toList_zipIdx];simpa using hfold
    have hseg:=qQ cells off cs (by omega)
    refine AO place parts parts' _ _ l (by simpa using hlen) (fun i p q e1 e2=>hp (i+1) p q (by simpa using e1) (by simpa using e2)) ?_ ?_ hf|>.imp fun c hc=>⟨hc.1,hc.2.1,hc.2.2.1,?_⟩
    ·rw[hseg,hzip,hclen];exact ((hv.take off).app q1).app (hv.drop _)
    ·intro v hv';rw[hzip] at hv';simp only[List.mem_append] at hv';rcases hv' with (e|e)|e
     ·exact h1 v (List.mem_of_mem_take e)
     ·exact q2 v e
     ·exact h1 v (List.mem_of_mem_drop e)
    ·rw[hc.2.2.2,<-Array.length_toList,hzip];simp;omega
   ·have:(decide (cs.length=size)&&decide (off+size<=cells.length))=false:=by simp;omega
    simp[this] at hf
  ·cases hf
 |[],_::_,_,_,_,hlen,_,_,_,_=>by simp at hlen
 |_::_,[],_,_,_,hlen,_,_,_,_=>by simp at hlen
theorem aCa{f g:Nat->Option (Nat×Nat)}(hfg:∀i,f i=g i)(c:Array Value)(l:List (Nat×Value)):Instr.fill f c l=Instr.fill g c l:=by have:f=g:=funext hfg;rw[this]
theorem aGe{fs:Array Field}{ps:List (Nat×Nat)}(hp:BF P fs.toList=some ps)(w:World):
  (fs.mapM fun f=>do pure (f.offset,<-sizeOf f.type):Sem (Array (Nat×Nat))).run P w=.ok ps.toArray w:=by
 rw[Array.mapM_eq_mapM_toList];generalize fs.toList=l at *;simp only[Sem.run_map]
 suffices (l.mapM fun f=>do pure (f.offset,<-sizeOf f.type):Sem (List (Nat×Nat))).run P w=.ok ps w by rw[this];rfl
 unfold BF at hp
 induction l generalizing ps with
 |nil=>simp[kE] at hp;subst hp;simp
 |cons f l ih=>
  simp only[kE] at hp;split at hp
  ·cases hp
  ·rename_i b hb;split at hp
   ·cases hp
   ·rename_i m hm;cases hp;split at hb
    ·rename_i s hs;cases hb;rw[List.mapM_cons];simp only[Sem.run_bind,cZ hs,Result.andThen_ok,Sem.run_pure,ih hm]
    ·cases hb
theorem YU{t:TypeId}{parts:List (Nat×AV)}{parts':Array (Nat×Value)}{v:AV}(hb:vL P t parts=some v)(hlen:parts.length=parts'.toList.length)
  (hp:∀(i:Nat) p q,parts[i]? =some p->parts'.toList[i]? =some q->p.1=q.1/\RV σ p.2 q.2) (w:World):∃u,(Instr.build t parts').run P w=.ok u w/\RV σ v u:=by
 unfold vL at hb;split at hb
 ·rename_i z fs hz hu;obtain⟨zv,hz1,hz2⟩:=kO (σ:=σ) hz w;split at hb
  ·rename_i cs ps hc hps;obtain⟨q1,q2⟩:=mJ hz2 hc;split at hb
   ·rename_i l hl;cases hb;obtain⟨c,k1,k2,k3,_⟩:=AO _ parts parts'.toList cs zv.cells l hlen hp q1 q2 hl;have hpl:=aGe hps w;have k1':Instr.fill (fun i=>ps.toArray[i]?) zv.cells parts'.toList=some c:=by rw[<-k1];exact aCa (fun i=>by rw[eW];simp) _ _
    refine⟨.agg c,?_,.agg _ _ k2 k3⟩;simp only[Instr.build,Sem.run_bind,hz1,Result.andThen_ok,run_underlying hu,hpl,k1'];rfl
   ·cases hb
  ·cases hb
 ·rename_i z n e hz hu;obtain⟨zv,hz1,hz2⟩:=kO (σ:=σ) hz w;split at hb
  ·rename_i cs s hc hs;obtain⟨q1,q2⟩:=mJ hz2 hc;split at hb
   ·rename_i l hl;cases hb;obtain⟨c,k1,k2,k3,_⟩:=AO _ parts parts'.toList cs zv.cells l hlen hp q1 q2 hl;refine⟨.agg c,?_,.agg _ _ k2 k3⟩;simp only[Instr.build,Sem.run_bind,hz1,Result.andThen_ok,run_underlying hu,cZ hs,k1];rfl
   ·cases hb
  ·cases hb
 ·cases hb
theorem IQ{zc:List AV}{zv:Array Value}(hz:RVs σ zc zv.toList)(h1:∀v∈zv.toList,v.oneCell'=true){s:Nat}(hs:zc.length=s)(h0:0<s)(n:Nat):
  RVs σ (reps n zc) ((Array.range (n*s)).map (zv[·%zv.size]!)).toList/\(∀v∈((Array.range (n*s)).map (zv[·%zv.size]!)).toList,v.oneCell'=true):=by
 have hzl:zv.size=s:=by have:=hz.length;simp at this;omega
 have hget:∀i,i<n*s->(reps n zc)[i]? =zc[i%s]?:=by
  intro i hi;rw[SU];clear hz h1
  induction n generalizing i with
  |zero=>simp at hi
  |succ n ih=>
   rw[List.replicate_succ,List.flatten_cons];by_cases hlt:i<s
   ·rw[List.getElem?_append_left (by omega),Nat.mod_eq_of_lt hlt]
   ·simp only[Nat.add_mul,Nat.one_mul] at hi;rw[List.getElem?_append_right (by omega),hs,ih (i-s) (by omega)]
    rw[Nat.mod_eq_sub_mod (a:=i) (by omega)]
 have hlen:(reps n zc).length=n*s:=by rw[SU];simp[hs]
 constructor
 ·refine RVs.of_get (by simp[hlen]) fun i a v ha hv=>?_
  have hi:i<n*s:=by
   rcases Nat.lt_or_ge i (n*s) with h|h
   ·exact h
   ·rw[List.getElem?_eq_none (by omega)] at ha;cases ha
  rw[hget i hi] at ha;have hm:i%s<zv.size:=by rw[hzl];exact Nat.mod_lt _ h0
  obtain⟨u,e1,e2⟩:=hz.get ha;simp[hi,hzl] at hv;rw[Array.getElem?_toList] at e1;rw[hzl] at hm;have:zv[i%s]! =u:=by rw[getElem!_def,e1]
  rw[this] at hv;subst hv;exact e2
 ·intro v hv;simp only[Array.toList_map,List.mem_map] at hv;obtain⟨i,_,rfl⟩:=hv;have hm:i%zv.size<zv.size:=Nat.mod_lt _ (by omega)
  refine h1 _ ?_;rw[getElem!_pos zv _ hm,Array.mem_toList_iff];exact Array.getElem_mem hm
theorem z0(r:RH σ h w){nid:Nat}(hn:σ nid=none){t:TypeId}{n:Nat}{parts:List (Nat×AV)}{parts':Array (Nat×Value)}(hlen:parts.length=parts'.toList.length)
  (hp:∀(i:Nat) p q,parts[i]? =some p->parts'.toList[i]? =some q->p.1=q.1/\RV σ p.2 q.2):
  cC P σ h w nid (j5 P t n parts h nid) ((do pure (Next.value (<-Instr.buildSlice t n parts')):Sem Next).run P w):=by
 unfold j5;split
 ·rename_i e hu;split
  ·rename_i s z hs hz;obtain⟨zv,hz1,hz2⟩:=kO (σ:=σ) hz w;split
   ·rename_i zc hc;obtain⟨q1,q2⟩:=mJ hz2 hc;rw[bO,cL,bJ,aT];by_cases hok:0<s/\n*s<=16777216/\zc.length=s
    ·obtain⟨o1,o2,o3⟩:=hok;simp only[o1,o2,o3,decide_true,Bool.and_self,cond_true];split
     ·rename_i cs hcs;obtain⟨p1,p2⟩:=IQ q1 q2 o3 o1 n;obtain⟨c,k1,k2,k3,k4⟩:=AO _ parts parts'.toList _ _ cs hlen hp p1 p2 hcs;obtain⟨w',σ',m1,m2,m3⟩:=GR (P:=P) r hn e k2 k3;refine⟨.slice (some ⟨w.heap.size,0,none⟩) n n,w',σ',?_,?_,m3⟩
      ·simp only[Instr.buildSlice,Sem.run_bind,run_underlying hu,Result.andThen_ok,cZ hs];rw[if_neg (show ¬n*s>2^24 by omega)]
       by_cases hns:n*s=0
       ·have he:∀f:Nat->Value,(Array.range (n*s)).map f=#[]:=fun f=>by simp[hns]
        rw[he] at k1;simp only[pure_bind,if_pos hns,he,k1,Sem.run_bind,m1,Result.andThen_ok,Sem.run_pure]
       ·simp only[pure_bind,if_neg hns,Sem.run_bind,hz1,Result.andThen_ok,k1,m1,Sem.run_pure]
      ·have hcs:c.size=n*s:=by rw[k4];simp
       have:=RV.slx (σ:=σ') nid 0 n s n _ m2 (Nat.le_refl _) o1 (by simp[hcs])
       simpa using this
     ·trivial
    ·have:(decide (0<s)&&decide (n*s<=16777216)&&decide (zc.length=s))=false:=by simp;omega
     rw[this];trivial
   ·trivial
  ·trivial
 ·trivial
theorem aC8{s:TypeId}{a:AV}{x:Value}(hx:RV σ a x)(f:Nat)(nid:Nat):cC P σ h w nid (fieldAt P s a f) ((do pure (Next.value (<-Instr.fieldAt s x f)):Sem Next).run P w):=by
 unfold fieldAt;split
 ·rename_i fs b o hu;cases hx with|ptr _ _ L hL=>
  split
  ·rename_i fd hf;split
   ·rename_i k hs;refine⟨.pointer (some ⟨L.b,L.o+(o+fd.offset),none⟩),?_,.ptr _ _ L hL⟩;simp[Instr.fieldAt,run_underlying hu,hf,Instr.sureAddr,fieldPlace,cZ hs,jJ,Nat.add_assoc]
   ·trivial
  ·trivial
 ·trivial
theorem aCv{t:TypeId}{a i:AV}{x y:Value}(hx:RV σ a x)(hy:RV σ i y)(nid:Nat):cC P σ h w nid (indexAt P t a i) ((do pure (Next.value (<-Instr.indexAt t x y)):Sem Next).run P w):=by
 unfold indexAt;split
 ·rename_i k i;cases hy;split
  ·rename_i n e hu;split
   ·rename_i b o s hs;cases hx with|ptr _ _ L hL=>
    rw[bO];by_cases hi:i<n
    ·simp only[hi,decide_true,cond_true];refine⟨.pointer (some ⟨L.b,L.o+(o+i*s),none⟩),?_,.ptr _ _ L hL⟩;simp[Instr.indexAt,asIntOf,run_underlying hu,Instr.sureAddr,cZ hs,jJ,hi,Nat.add_assoc]
    ·simp only[hi,decide_false,cond_false];trivial
   ·trivial
  ·rename_i e hu;split
   ·rename_i b o n s cap s' hs;rw[bO,bJ];by_cases hi:i<n/\s=s'
    ·obtain⟨hi,rfl⟩:=hi;simp only[hi,decide_true,Bool.and_self,cond_true];cases hx with
     |slx _ _ _ _ c L hL hn hs0 hx=>refine⟨.pointer (some ⟨L.b,L.o+(o+i*s),none⟩),?_,.ptr _ _ L hL⟩;simp[Instr.indexAt,asIntOf,run_underlying hu,cZ hs,jJ,hi,Nat.add_assoc]
     |slu _ _ _ _ c L hL hn hs0 hx=>refine⟨.pointer (some ⟨L.b,L.o+(o+i*s),none⟩),?_,.ptr _ _ L hL⟩;simp[Instr.indexAt,asIntOf,run_underlying hu,cZ hs,jJ,hi,Nat.add_assoc]
    ·have:(decide (i<n)&&decide (s=s'))=false:=by simp;omega
     rw[this];trivial
   ·trivial
  ·trivial
 ·trivial
theorem aCw{t:TypeId}{a i:AV}{x y:Value}(hx:RV σ a x)(hy:RV σ i y)(nid:Nat):cC P σ h w nid (sY P t a i) ((do pure (Next.value (<-Instr.index t x y)):Sem Next).run P w):=by
 unfold sY;split
 ·rename_i k i;cases hy;split
  ·rename_i l;cases hx with|str _ s hs=>
   split
   ·rename_i c hu hc;rw[eW,<-hs] at hc;have:∃b,s[i]? =some b/\b.toNat=c:=by simp only[cQ,List.getElem?_map,Option.map_eq_some_iff] at hc;obtain⟨b,h1,h2⟩:=hc;refine⟨b,?_,h2⟩;rw[Array.getElem?_toList] at h1;rw[<-h1];rfl
    obtain⟨b,hb,rfl⟩:=this;refine⟨.int .u8 b.toNat,?_,.int _ _⟩;simp[Instr.index,asIntOf,run_underlying hu,hb]
   ·trivial
  ·rename_i cs;cases hx with|agg _ xs hx h1=>
   split
   ·rename_i n e hu;split
    ·rename_i s hs;rw[bO];by_cases hi:i<n
     ·simp only[hi,decide_true,cond_true];refine nD fun v hv=>?_;obtain⟨u,k1,k2⟩:=oV hv hx h1 w;exact⟨u,by simp[Instr.index,asIntOf,run_underlying hu,hi,cZ hs,k1],k2⟩
     ·simp only[hi,decide_false,cond_false];trivial
    ·trivial
   ·trivial
  ·trivial
 ·trivial
theorem aC9{t:TypeId}{a:AV}{x:Value}(hx:RV σ a x)(f:Nat)(nid:Nat):cC P σ h w nid (sU P t a f) ((do pure (Next.value (<-Instr.field t x f)):Sem Next).run P w):=by
 unfold sU;split
 ·rename_i fs cs hu;cases hx with|agg _ xs hx h1=>
  split
  ·rename_i fd hf;refine nD fun v hv=>?_;obtain⟨u,k1,k2⟩:=oV hv hx h1 w;exact⟨u,by simp[Instr.field,run_underlying hu,hf,asAgg,k1],k2⟩
  ·trivial
 ·trivial
end
section
variable {P : Program} {σ : Map} {h : H} {w : World}
theorem UH{n:Int}(h0:0<=n)(h1:n<9223372036854775808):IntKind.i64.wrap n=n:=by
 obtain⟨m,rfl⟩:=Int.eq_ofNat_of_zero_le h0;have h2:m<9223372036854775808:=by omega
 rw[<-lZ];show t6 9223372036854775808 18446744073709551616 (Int.ofNat m)=_;simp only[t6,bO,h2,decide_true,cond_true];rfl
theorem YX{l:List AV}{r:List Nat}(hb:j6 l=some r){vs:List Value}(hv:RVs σ l vs):∃ns:List Int,vs=ns.map (Value.int .u8)/\ns.map (fun n=>(UInt8.ofNat n.toNat).toNat)=r:=by
 induction l generalizing r vs with
 |nil=>cases hv;simp only[j6,Option.some.injEq] at hb;subst hb;exact⟨[],rfl,rfl⟩
 |cons a l ih=>
  unfold j6 at hb;split at hb
  ·rename_i e;cases e
  ·rename_i m l' e;cases e;cases hv with|cons _ v _ m' e el=>
   cases e;split at hb
   ·rename_i r' hr;rw[bO] at hb;by_cases hm:m<256
    ·simp only[hm,decide_true,cond_true,Option.some.injEq] at hb;subst hb;obtain⟨ns,h1,h2⟩:=ih hr el;refine⟨m::ns,by rw[h1];rfl,?_⟩
     simp only[List.map_cons,h2]
     congr 1
     simp;omega
    ·simp[hm] at hb
   ·cases hb
  ·cases hb
theorem YY{l:List AV}{r:List Nat}(hb:j6 l=some r){vs:List Value}(hv:RVs σ l vs):∃bs:List UInt8,vs=bs.map (fun b=>Value.int .u8 b.toNat)/\bs.map (·.toNat)=r:=by
 induction l generalizing r vs with
 |nil=>cases hv;simp only[j6,Option.some.injEq] at hb;subst hb;exact⟨[],rfl,rfl⟩
 |cons a l ih=>
  unfold j6 at hb;split at hb
  ·rename_i e;cases e
  ·rename_i m l' e;cases e;cases hv with|cons _ v _ m' e el=>
   cases e;split at hb
   ·rename_i r' hr;rw[bO] at hb;by_cases hm:m<256
    ·simp only[hm,decide_true,cond_true,Option.some.injEq] at hb;subst hb;obtain⟨bs,h1,h2⟩:=ih hr el;have e:(UInt8.ofNat m).toNat=m:=by simp;omega
     exact⟨UInt8.ofNat m::bs,by rw[h1];simp only[List.map_cons,e];rfl,by simp only[List.map_cons,h2,e]⟩
    ·simp[hm] at hb
   ·cases hb
  ·cases hb
theorem aFI{e:TypeId}{s count off n:Nat}(hc:P.cellsOf e=s)(h0:0<s)(hr:off%s=0)(hn:off / s+n<=count):liesAt P P.depth e count off e n=true:=by
 have hd:P.depth=(2*(P.types.size+Made.depth)+1)+1:=rfl;rw[hd];simp only[liesAt,Bool.or_eq_true];left;rw[hd];have:¬s=0:=by omega
 simp[rowAt,hc,hn,hr,this,sameLayout]
theorem z8{t:TypeId}{s:Nat}(h:bG P t=some s):P.cellsOf t=s:=by obtain⟨i,h1,h2⟩:=xL h;simp[Program.cellsOf,h1,h2]
theorem K3{q:TypeId->Nat->Bool}{o:Nat}:∀{fs:List Field},zS q P o fs=true->∃f∈fs,f.offset<=o/\o<f.offset+P.cellsOf f.type/\q f.type (o-f.offset)=true
 |[],h=>by cases h
 |f::fs,h=>by
  unfold zS at h;rw[Bool.or_eq_true] at h;rcases h with h|h
  ·simp only[Bool.and_eq_true,cL,decide_eq_true_eq] at h;obtain⟨⟨h1,h2⟩,h3⟩:=h;split at h2
   ·rename_i s hs;rw[bO,decide_eq_true_eq] at h2;exact⟨f,.head _,h1,by rw[z8 hs];exact h2,h3⟩
   ·cases h2
  ·obtain⟨g,h1,h2⟩:=K3 h;exact⟨g,.tail _ h1,h2⟩
theorem S8{u:TypeId}:∀(d:Nat) (e:TypeId) (o:Nat),tB P d e o u=true->o<P.cellsOf e->∀(D count:Nat),d<=D->1<=count->rowAt P (fun t=>sameLayout P P.depth t u) D e count o 1=true
 |0,e,o,h,_,_,_,_,_=>by cases h
 |d+1,e,o,h,ho,D,count,hD,hc=>by
  obtain⟨D',rfl⟩:∃D',D=D'+1:=⟨D-1,by omega⟩
  have hs:¬P.cellsOf e=0:=by omega
  have hdiv:o / P.cellsOf e=0:=Nat.div_eq_of_lt ho;have hmod:o%P.cellsOf e=o:=Nat.mod_eq_of_lt ho;unfold tB at h;rw[Bool.or_eq_true] at h;simp only[rowAt,hs,if_false,hdiv,hmod,Bool.or_eq_true,Bool.and_eq_true];rcases h with h|h
  ·left;simp only[Bool.and_eq_true,bJ,decide_eq_true_eq] at h;obtain⟨rfl,rfl⟩:=h;have hd:P.depth=(2*(P.types.size+Made.depth)+1)+1:=rfl;refine⟨⟨rfl,by simp only[Nat.zero_add,decide_eq_true_eq];exact hc⟩,?_⟩
   rw[hd];simp[sameLayout]
  ·right;refine⟨by simpa using Nat.lt_of_lt_of_le Nat.zero_lt_one hc,?_⟩
   split at h
   ·rename_i fs hu;simp only[Bool.and_eq_true] at h;simp only[hu,Bool.and_eq_true];obtain⟨f,h1,h2,h3,h4⟩:=K3 h.2;refine⟨h.1,?_⟩;rw[Array.any_eq_true];obtain⟨i,hi,hfi⟩:=List.mem_iff_getElem.1 h1;refine⟨i,by simpa using hi,?_⟩
    have hfi':fs[i]'(by simpa using hi)=f:=by simpa using hfi
    rw[hfi'];simp only[Bool.and_eq_true,decide_eq_true_eq];exact⟨⟨h2,h3⟩,S8 d f.type (o-f.offset) h4 (by omega) D' 1 (by omega) (Nat.le_refl _)⟩
   ·cases h
theorem aFH{e u:TypeId}{o count:Nat}(h:tB P 6 e o u=true)(ho:o<P.cellsOf e)(hc:1<=count):liesAt P P.depth e count o u 1=true:=by
 have hd:P.depth=(2*(P.types.size+Made.depth)+1)+1:=rfl;have hm:6<=P.depth:=by
  rw[hd];have:2<=Made.depth:=by decide
  omega
 have:=S8 6 e o h ho P.depth count hm hc;have key:∀D,P.depth=D+1->liesAt P (D+1) e count o u 1=true:=fun D hD=>by simp only[liesAt,Bool.or_eq_true];exact .inl this
 rw[hd];exact key _ hd
theorem wW(l:List UInt8):cQ ⟨l.toArray⟩=l.map (·.toNat):=by simp[cQ]
theorem aBg(n:Int):(if Utf8.valid n=true then n.toNat else Utf8.runeError)=cpA n:=by
 cases n with
 |ofNat m=>
  simp only[cpA,bO,cL];have hv:Utf8.valid (Int.ofNat m)=(decide (m<55296)||(decide (57344<=m)&&decide (m<=1114111))):=by rw[Bool.eq_iff_iff];simp only[Utf8.valid,Int.ofNat_eq_natCast,Bool.or_eq_true,Bool.and_eq_true,decide_eq_true_eq];omega
  rw[hv];cases (decide (m<55296)||(decide (57344<=m)&&decide (m<=1114111)))
  ·rfl
  ·rfl
 |negSucc m=>
  rw[if_neg]
  ·rfl
  ·simp only[Utf8.valid,Bool.or_eq_true,Bool.and_eq_true,decide_eq_true_eq];omega
theorem aBh(n:Int):cpA n<=1114111:=by
 cases n with
 |ofNat m=>
  simp only[cpA,bO,cL];cases e:(decide (m<55296)||(decide (57344<=m)&&decide (m<=1114111)))
  ·simp only[cond_false];omega
  ·simp only[cond_true];simp only[Bool.or_eq_true,Bool.and_eq_true,decide_eq_true_eq] at e;omega
 |negSucc m=>simp only[cpA];omega
theorem aCF(n:Int):cQ (Utf8.encode n)=encA n:=by
 have hlt:=aBh n;simp only[Utf8.encode,encA,OS,aBg];generalize cpA n=c at *;have hm:∀k,k<256->(UInt8.ofNat k).toNat=k:=fun k hk=>by simp;omega
 simp only[bO];by_cases h1:c<128
 ·simp only[h1,if_true,decide_true,cond_true];rw[show (#[UInt8.ofNat c]:Array UInt8)=[UInt8.ofNat c].toArray from rfl,wW];simp only[List.map_cons,List.map_nil,hm c (by omega)]
 ·simp only[h1,if_false,decide_false,cond_false];by_cases h2:c<2048
  ·simp only[h2,if_true,decide_true,cond_true];rw[show (#[UInt8.ofNat (0xC0+c / 64),UInt8.ofNat (0x80+c%64)]:Array UInt8)=[UInt8.ofNat (0xC0+c / 64),UInt8.ofNat (0x80+c%64)].toArray from rfl,wW];simp only[List.map_cons,List.map_nil];rw[hm _ (by omega),hm _ (by omega)]
  ·simp only[h2,if_false,decide_false,cond_false];by_cases h3:c<65536
   ·simp only[h3,if_true,decide_true,cond_true];rw[show (#[UInt8.ofNat (0xE0+c / 4096),UInt8.ofNat (0x80+c / 64%64),UInt8.ofNat (0x80+c%64)]:Array UInt8)=[UInt8.ofNat (0xE0+c / 4096),UInt8.ofNat (0x80+c / 64%64),UInt8.ofNat (0x80+c%64)].toArray from rfl,wW];simp only[List.map_cons,List.map_nil];rw[hm _ (by omega),hm _ (by omega),hm _ (by omega)]
   ·simp only[h3,if_false,decide_false,cond_false];rw[show (#[UInt8.ofNat (0xF0+c / 262144),UInt8.ofNat (0x80+c / 4096%64),UInt8.ofNat (0x80+c / 64%64),UInt8.ofNat (0x80+c%64)]:Array UInt8)=[UInt8.ofNat (0xF0+c / 262144),UInt8.ofNat (0x80+c / 4096%64),UInt8.ofNat (0x80+c / 64%64),UInt8.ofNat (0x80+c%64)].toArray from rfl,wW];simp only[List.map_cons,List.map_nil];rw[hm _ (by omega),hm _ (by omega),hm _ (by omega),hm _ (by omega)]
theorem TT(s:List UInt8):RVs σ (pD (s.map (·.toNat))) (s.map fun b=>Value.int .u8 b.toNat):=by
 induction s with
 |nil=>exact .nil
 |cons a s ih=>exact .cons _ _ _ _ (.int _ _) ih
theorem IA(l:List Nat):(pD l).length=l.length:=by induction l<;>simp_all[pD]
theorem aF7{α:Type}(a:Array α)(x:α)(f:α->α):(a.push x).modify a.size f=a.push (f x):=by
 apply Array.ext_getElem?;intro j;simp only[Array.getElem?_modify,Array.getElem?_push];by_cases hj:j=a.size
 ·simp[hj]
 ·simp[hj,Ne.symm hj]
theorem aBe(r:RH σ h w){nid:Nat}(hn:σ nid=none){src dst:TypeId}{a:AV}{x:Value}(hx:RV σ a x):
  cC P σ h w nid (dY P src dst a h nid) ((do pure (Next.value (<-convert src dst x)):Sem Next).run P w):=by
 unfold dY;split
 ·
  rename_i k k' n hd;cases hx;split
  ·rename_i u hs;refine⟨.int k (k.wrap n),?_,by rw[lZ];exact .int _ _⟩
   simp[convert,run_underlying hs,run_underlying hd,Conv.intToInt]
  ·trivial
 ·rename_i l hd;split
  ·rename_i hs;have hx':=hx;cases hx with|str _ s e=>exact⟨.string s,by simp[convert,run_underlying hs,run_underlying hd],hx'⟩
  ·trivial
 ·rename_i k n hd;cases hx;split
  ·rename_i k' hs;refine⟨.string (Utf8.encode n),?_,.str _ _ (aCF n)⟩;simp[convert,run_underlying hs,run_underlying hd,Conv.intToString]
  ·trivial
 ·rename_i hd;cases hx;split
  ·rename_i e hs;split
   ·rename_i he;refine⟨.string .empty,?_,.str _ _ rfl⟩;simp[convert,run_underlying hs,run_underlying hd,run_underlying he,Conv.bytesToString]
   ·trivial
  ·trivial
 ·rename_i hd;cases hx with|esl ad c=>
  split
  ·rename_i e hs;split
   ·rename_i he;refine⟨.string .empty,?_,.str _ _ rfl⟩;simp[convert,run_underlying hs,run_underlying hd,run_underlying he,Conv.bytesToString,loadCells,loadCellsFrom]
   ·trivial
  ·trivial
 ·rename_i b o n s cap hd;split
  ·rename_i e hs;split
   ·rename_i l he hl;rw[bJ];by_cases h1:s=1
    ·subst h1;simp only[decide_true,cond_true];split
     ·rename_i bs hbs;have main:∀(L:Loc) (c:Nat),σ b=some L->cC P σ h w nid (.val (.str bs)) ((do pure (Next.value (<-convert src dst (.slice (some ⟨L.b,L.o+o,none⟩) n c))):Sem Next).run P w):=by
       intro L c hL;obtain⟨vs,k1,k2,k3,k4,_⟩:=wL (P:=P) r hl hL;obtain⟨ns,m1,m2⟩:=YX hbs k3;subst m1;refine⟨.string (ns.foldl (fun r n=>r.push (UInt8.ofNat n.toNat)) ByteArray.empty),?_,.str _ _ ?_⟩
       ·simp only[Sem.run_bind,run_convert_bytes_string w src dst e _ n c hs he hd,run_bytesToString w _ n c ns k2,Result.andThen_ok,Sem.run_pure]
       ·rw[foldl_push_bytes];simp only[cQ];rw[<-m2];simp
      cases hx with
      |slx _ _ _ _ c L hL _ _ _=>exact main L c hL
      |slu _ _ _ _ c L hL _ _ _=>exact main L c hL
     ·trivial
    ·simp only[h1,decide_false,cond_false];trivial
   ·trivial
  ·trivial
 ·rename_i e l hd;split
  ·rename_i hs he hsz;cases hx with|str _ s hl=>
   let q:Question:=.appendCap s.size 0 e;let cap:=q.cut (w.tape w.drawn q);have hcap:s.size<=cap:=by simp only[cap,q,Question.cut];omega
   let c:Array Value:=(s.data.map fun b=>Value.int .u8 b.toNat)++Array.replicate (cap-s.size) (Value.int .u8 0);have hcs:c.size=cap:=by simp[c];have:s.data.size=s.size:=rfl;omega
   let w1:World:={w with drawn:=w.drawn+1};let w':World:={w1 with heap:=w.heap.push (.cells c e (c.size,c.size+1))};have hrun:(convert src dst (.string s)).run P w=.ok (.slice (some ⟨w.heap.size,0,none⟩) s.size cap) w':=by
    have hsh:(World.mk (w.heap.push (.cells c e (0,0))) w.tape (w.drawn+1) w.os w.output).shape? w.heap.size=some (e,c.size):=by simp[World.shape?]
    have hfr:(World.mk (w.heap.push (.cells c e (0,0))) w.tape (w.drawn+1) w.os w.output).freeze ⟨w.heap.size,c.size,none⟩ 1=w':=by
     simp only[World.freeze];rw[if_neg (by omega)]
     simp only[w',w1]
     congr 1
     rw[aF7];simp
    have hst:(Conv.stringToBytes e s).run P w=.ok (.slice (some ⟨w.heap.size,0,none⟩) s.size cap) w':=by unfold Conv.stringToBytes;simp only[Sem.run_bind,run_choose,Question.forced,Bool.false_eq_true,if_false,Result.andThen_ok,newRow,run_newObj,Sem.run_pure,markStringish,run_shape];have:World.shape? (World.mk (w.heap.push (.cells (s.data.map (fun b=>Value.int .u8 b.toNat)++Array.replicate (cap-s.size) (Value.int .u8 0)) e)) w.tape (w.drawn+1) w.os w.output) w.heap.size=some (e,c.size):=hsh;simp only[cap,q] at this;rw[this];simp only[run_freeze,Result.andThen_ok];exact congrArg _ hfr
    simp only[convert,Sem.run_bind,run_underlying hs,run_underlying hd,run_underlying he,Result.andThen_ok,hst]
   refine⟨.slice (some ⟨w.heap.size,0,none⟩) s.size cap,w',σ.put nid ⟨w.heap.size,0,c.size⟩,by simp[hrun],?_,?_⟩
   ·have:=RV.slu (σ:=σ.put nid ⟨w.heap.size,0,c.size⟩) nid 0 s.size 1 cap ⟨w.heap.size,0,c.size⟩ (Map.put_same _ _ _) hcap (by omega) (by simp[hcs])
    rw[aT,<-hl,i4];simpa using this
   ·refine Ext.alloc r hn c.size _ (.cells c e (c.size,c.size+1)) w' rfl ⟨rfl,rfl,rfl⟩ ?_;have hll:l.length=s.size:=by rw[<-hl,i4]
    refine .cells _ e 0 true c c.size (c.size+1) (by simp[w']) (Nat.le_refl _) (by rw[IA];simp;omega) (fun i a hi=>?_) (fun i v _ hi1 hi2=>?_) (fun i _ hi=>by simp at hi;omega) (fun e=>by cases e) (.inl rfl)
    ·have hb:=TT (σ:=σ.put nid ⟨w.heap.size,0,c.size⟩) s.data.toList;rw[show s.data.toList.map (·.toNat)=l from hl] at hb
     obtain⟨v,e1,e2⟩:=hb.get hi;refine⟨v,?_,e2⟩;have hi':i<l.length:=by
      rcases Nat.lt_or_ge i l.length with h|h
      ·exact h
      ·rw[List.getElem?_eq_none (by rw[IA];exact h)] at hi;cases hi
     simp only[c,Nat.zero_add];rw[Array.getElem?_append_left (by simp;have:s.data.size=s.size:=rfl;omega)]
     rw[List.getElem?_map,Array.getElem?_toList] at e1;rw[Array.getElem?_map];exact e1
    ·simp only[c] at hi2;rw[Array.getElem?_append] at hi2;split at hi2
     ·rw[Array.getElem?_map] at hi2;simp only[Option.map_eq_some_iff] at hi2;obtain⟨b,_,rfl⟩:=hi2;rfl
     ·have:=Array.mem_of_getElem? hi2;rw[Array.mem_replicate] at this;rw[this.2];rfl
  ·trivial
 ·rename_i b o hd;cases hx with|ptr _ _ L hL=>
  split
  ·rename_i t l e fz raw hs hb;split
   ·rename_i s hsz;rw[bO,aT];by_cases hlt:o<l.length
    ·rw[decide_eq_true hlt,cond_true];obtain⟨c,lo,hi,hh,h1,h2,h3,h4,h5,h6⟩:=r.cells hb hL;obtain⟨j,k1,k2⟩:=xL hsz;have hsh:w.shape? (⟨L.b,L.o+o,none⟩:Addr).block=some (e,c.size):=by simp[World.shape?,hh]
     exact⟨.pointer (some ⟨L.b,L.o+o,none⟩),by simp only[Sem.run_bind,Lib.run_to_unsafe w ⟨L.b,L.o+o,none⟩ hs hd k1 (by omega) hsh (by simp only;omega),Result.andThen_ok,Sem.run_pure],.ptr b o L hL⟩
    ·simp only[hlt,decide_false,cond_false];trivial
   ·trivial
  ·trivial
 ·rename_i u b o hd;cases hx with|ptr _ _ L hL=>
  split
  ·rename_i l e fz hs hb;split
   ·rename_i s k hsz hse;obtain⟨c,lo,hi,hh,h1,h2,h3,h4,h5,h6⟩:=r.cells hb hL;have hL0:=r.org hb hL (.inl rfl);obtain⟨j,k1,k2⟩:=xL hsz;have hsh:w.shape? (⟨L.b,L.o+o,none⟩:Addr).block=some (e,c.size):=by simp[World.shape?,hh]
    cases hok:(Nat.beq e u&&Nat.beq (o%(s+1)) 0&&Nat.ble (o+(s+1)) (len l))||(Nat.blt o (k+1)&&Nat.ble (k+1) (len l)&&tB P 6 e o u) with
    |false=>trivial
    |true=>
     rw[cond_true];simp only[Bool.or_eq_true,Bool.and_eq_true,bJ,cL,bO,aT,decide_eq_true_eq] at hok;have hlies:liesAt P P.depth e (c.size / P.cellsOf e) (⟨L.b,L.o+o,none⟩:Addr).off u 1=true:=by
      simp only[hL0,Nat.zero_add];rcases hok with⟨⟨rfl,ho⟩,hle⟩|⟨⟨ho,hle⟩,hl⟩
      ·have hcs:=z8 hsz;refine aFI hcs (by omega) ho ?_
       rw[hcs];have hd:=Nat.div_add_mod o (s+1);rw[ho,Nat.add_zero] at hd;rw[Nat.le_div_iff_mul_le (by omega)]
       have he:(o / (s+1)+1)*(s+1)=(s+1)*(o / (s+1))+(s+1):=by rw[Nat.add_mul,Nat.mul_comm,Nat.one_mul]
       have hle':(o / (s+1)+1)*(s+1)<=c.size:=by rw[he,hd];omega
       exact hle'
      ·have hcs:=z8 hse;refine aFH hl (by rw[hcs];exact ho) ?_
       rw[hcs,Nat.le_div_iff_mul_le (by omega)]
       have:1*(k+1)<=c.size:=by omega
       exact this
     exact⟨.pointer (some ⟨L.b,L.o+o,none⟩),by simp only[Sem.run_bind,Lib.run_from_unsafe w ⟨L.b,L.o+o,none⟩ hs hd k1 hsh hlies,Result.andThen_ok,Sem.run_pure],.ptr b o L hL⟩
   ·trivial
  ·trivial
 ·rename_i e b o n s cp hd;split
  ·rename_i l e' heq hu hb;rw[bJ,decide_eq_true_eq] at heq;subst heq;have main:∀(L:Loc) (k:Nat),σ b=some L->RV σ (.sl b o n s cp) (.slice (some ⟨L.b,L.o+o,none⟩) n k)->
     cC P σ h w nid (.upd (.sl b o n s cp) (h.set b (.cells l e' 0 true))) ((do pure (Next.value (<-convert src src (.slice (some ⟨L.b,L.o+o,none⟩) n k))):Sem Next).run P w):=by
    intro L k hL hx;obtain⟨c,lo,hi,hh,h1,h2,h3,h4,h5,h6⟩:=r.cells hb hL;have hlh:lo=hi:=by
     rcases h6 rfl with e|⟨e,_⟩
     ·exact e
     ·omega
    subst hlh;have hsh:w.shape? L.b=some (e',c.size):=by simp[World.shape?,hh]
    have hrun:(convert src src (.slice (some ⟨L.b,L.o+o,none⟩) n k)).run P w=.ok (.slice (some ⟨L.b,L.o+o,none⟩) n k) (w.freeze ⟨L.b,c.size,none⟩ 1):=by simp[convert,run_underlying hd,run_underlying hu,markStringish,hsh]
    have hlt:L.b<w.heap.size:=r.old b L hL;have hup:Upd L.b w (w.freeze ⟨L.b,c.size,none⟩ 1):=by
     refine⟨by simp[World.freeze],fun d hd=>?_,?_⟩
     ·simp only[World.freeze,Nat.one_ne_zero,if_false,Array.getElem?_modify,Ne.symm hd]
     ·simp[World.freeze,eE]
    refine⟨.value (.slice (some ⟨L.b,L.o+o,none⟩) n k),.slice (some ⟨L.b,L.o+o,none⟩) n k,w.freeze ⟨L.b,c.size,none⟩ 1,by simp[hrun],.inl rfl,hx,?_⟩
    refine Ext.upd r hb hL rfl hup ?_;refine .cells l e' 0 true c c.size (c.size+1) ?_ h1 h2 h3 h4 (fun i _ hi=>by omega) (fun e=>by cases e) (.inl (r.org hb hL (.inl rfl)))
    simp[World.freeze,Array.getElem?_modify,hh]
   have hx':=hx;cases hx with
   |slx _ _ _ _ c L hL _ _ _=>exact main L c hL hx'
   |slu _ _ _ _ c L hL _ _ _=>exact main L c hL hx'
  ·trivial
 ·trivial
end
section
variable {P : Program} {σ : Map} {h : H} {w : World}
theorem LM{t:TypeId}{s:Nat}(h:sB P t=some s):∃i,P.info? t=some i/\i.bytes=s:=by
 unfold sB at h;split at h
 ·rename_i i hi;exact⟨i,hi,by simpa using h⟩
 ·cases h
theorem aFY(r:RH σ h w){nid:Nat}(hn:σ nid=none){t:TypeId}{a b:AV}{x y:Value}(hx:RV σ a x)(hy:RV σ b y):
  cC P σ h w nid (lK P t a b h nid) ((do pure (Next.value (<-Instr.makeSlice t x y)):Sem Next).run P w):=by
 unfold lK;split
 ·rename_i k l k' c e hu;cases hx;cases hy;split
  ·rename_i s by' z hs hby hz;obtain⟨zv,hz1,hz2⟩:=kO (σ:=σ) hz w;obtain⟨i,hi,hib⟩:=LM hby;split
   ·rename_i zc hc;obtain⟨q1,q2⟩:=mJ hz2 hc;rw[bO,bJ,cL,cL,bO,aT];by_cases hok:0<s/\zc.length=s/\l<=c/\by'*c<=140737488355328/\c<p63
    ·obtain⟨o1,o2,o3,o4,o5⟩:=hok;simp only[o1,o2,o3,o4,o5,decide_true,Bool.and_self,cond_true];simp only[p63] at o5;obtain⟨p1,p2⟩:=IQ q1 q2 o2 o1 c;obtain⟨w',σ',m1,m2,m3⟩:=GR (P:=P) r hn e p1 p2;refine⟨.slice (some ⟨w.heap.size,0,none⟩) l c,w',σ',?_,?_,m3⟩
     ·have wl:IntKind.i64.wrap (Int.ofNat l)=l:=UH (Int.natCast_nonneg _) (by show ((_:Nat):Int)<_;omega)
      have wc:IntKind.i64.wrap (Int.ofNat c)=c:=UH (Int.natCast_nonneg _) (by show ((_:Nat):Int)<_;omega)
      have hbc:((by':Int)*(c:Int))<=140737488355328:=by
       have:((by'*c:Nat):Int)<=140737488355328:=by omega
       rwa[Int.natCast_mul] at this
      have hbl:((by':Int)*(l:Int))<=140737488355328:=by
       have:=Nat.mul_le_mul_left by' o3;have:((by'*l:Nat):Int)<=140737488355328:=by omega
       rwa[Int.natCast_mul] at this
      simp only[Instr.makeSlice,Sem.run_bind,run_underlying hu,Result.andThen_ok,asInt,asIntOf,Sem.run_pure,tN hi,hib,wl,wc];have c1:((decide ((c:Int)<0)||decide ((by':Int)*(c:Int)>2^48))||decide ((l:Int)<0)||decide ((l:Int)>(c:Int)))=false:=by simp only[Bool.or_eq_false_iff,decide_eq_false_iff_not];refine⟨⟨⟨by omega,by omega⟩,by omega⟩,by omega⟩
      rw[if_neg (by rw[c1];exact Bool.false_ne_true)]
      simp only[pure_bind,Sem.run_bind,run_askRoom,Result.andThen_ok,cZ hs,Int.toNat_natCast];by_cases hns:c*s=0
      ·have he:∀f:Nat->Value,(Array.range (c*s)).map f=#[]:=fun f=>by simp[hns]
       rw[he] at m1;simp only[if_pos hns,pure_bind,Sem.run_bind,he,m1,Result.andThen_ok,Sem.run_pure]
      ·simp only[if_neg hns,Sem.run_bind,hz1,Result.andThen_ok,Sem.run_pure,m1]
     ·have:=RV.slx (σ:=σ') nid 0 l s c _ m2 o3 o1 (by simp)
      simpa using this
    ·have:(decide (0<s)&&decide (zc.length=s)&&decide (l<=c)&&decide (by'*c<=140737488355328)&&decide (c<p63))=false:=by rw[Bool.eq_false_iff];simp only[ne_eq,Bool.and_eq_true,decide_eq_true_eq];intro q;exact hok ⟨q.1.1.1.1,q.1.1.1.2,q.1.1.2,q.1.2,q.2⟩
     rw[this];trivial
   ·trivial
  ·trivial
 ·trivial
def RO(σ:Map):Option AV->Option Value->Prop
 |none,none=>True
 |some a,some x=>RV σ a x
 |_,_=>False
theorem vK{a:Option AV}{x:Option Value}{d n:Nat}(hb:bnd d a=some n)(hx:RO σ a x):
  (x=none/\n=d)\/∃k,x=some (.int k (Int.ofNat n)):=by
 unfold bnd at hb;split at hb
 ·cases hb;cases x with
  |none=>exact .inl ⟨rfl,rfl⟩
  |some x=>exact hx.elim
 ·rename_i k m;cases hb;cases x with
  |none=>exact hx.elim
  |some x=>cases hx;exact .inr ⟨_,rfl⟩
 ·cases hb
theorem nM{k:IntKind}{n y:Nat}(hle:n<=y)(code:BoundsCode)(w:World):(Instr.sliceBound (.int k (Int.ofNat n)) y code).run P w=.ok n w:=by simp[Instr.sliceBound,asIntOf,hle]
theorem zZ{lo hi:Option AV}{xl xh:Option Value}(isSlice:Bool){len cap l r:Nat}(hl:bnd 0 lo=some l)(hr:bnd len hi=some r)
  (hxl:RO σ lo xl) (hxh:RO σ hi xh)
  (h1:r<=cap) (h2:l<=r) (w:World):(Instr.sliceBounds isSlice len cap xl xh none).run P w=.ok (l,r,cap) w:=by
 rcases vK hl hxl with⟨rfl,rfl⟩|⟨k,rfl⟩<;>rcases vK hr hxh with⟨rfl,rfl⟩|⟨k',rfl⟩
 ·simp[Instr.sliceBounds]
 ·simp only[Instr.sliceBounds,pure_bind,Sem.run_bind,nM h1,Result.andThen_ok,Sem.run_pure]
 ·simp only[Instr.sliceBounds,pure_bind,Sem.run_bind,nM h2,Result.andThen_ok,Sem.run_pure]
 ·simp only[Instr.sliceBounds,pure_bind,Sem.run_bind,nM h1,nM h2,Result.andThen_ok,Sem.run_pure]
theorem D7{lo hi mx:Option AV}{xl xh xm:Option Value}(isSlice:Bool){len cap l r m:Nat}(hl:bnd 0 lo=some l)(hr:bnd len hi=some r)(hm:bnd cap mx=some m)
  (hmx:∃a,mx=some a) (hhi:∃a,hi=some a)
  (hxl:RO σ lo xl) (hxh:RO σ hi xh)
  (hxm:RO σ mx xm)
  (h0:m<=cap) (h1:r<=m) (h2:l<=r) (w:World):(Instr.sliceBounds isSlice len cap xl xh xm).run P w=.ok (l,r,m) w:=by
 obtain⟨am,rfl⟩:=hmx;obtain⟨ah,rfl⟩:=hhi;rcases vK hm hxm with⟨rfl,_⟩|⟨k'',rfl⟩
 ·exact hxm.elim
 rcases vK hr hxh with⟨rfl,_⟩|⟨k',rfl⟩
 ·exact hxh.elim
 rcases vK hl hxl with⟨rfl,rfl⟩|⟨k,rfl⟩
 ·simp only[Instr.sliceBounds,pure_bind,Sem.run_bind,nM h0,nM h1,Result.andThen_ok,Sem.run_pure]
 ·simp only[Instr.sliceBounds,pure_bind,Sem.run_bind,nM h0,nM h1,nM h2,Result.andThen_ok,Sem.run_pure]
def CK(σ:Map)(w:World)(r:Result (Option (Nat×Value))):Option AV->Prop
 |none=>r=.ok none w
 |some v=>∃j u,r=.ok (some (j,u)) w/\RV σ v u
theorem PI{kt:TypeId}{k:AV}{kv:Value}(hk:RV σ k kv):∀{es:List (AV×AV)} {m:List MapEntry} {res:Option AV} (_:RM σ es m) (_:kA (eqV P bR kt k) es=some res) (i:Nat) (w:World),
  CK σ w ((Instr.findAsking kt kv m i).run P w) res
 |[],_,res,hm,hf,i,w=>by cases hm;simp only[kA,Option.some.injEq] at hf;subst hf;simp[Instr.findAsking,CK]
 |(k',v')::es,_,res,hm,hf,i,w=>by
  cases hm with|cons _ _ e _ m hke hve hl=>
  unfold kA at hf;split at hf
  ·rename_i he;cases hf;have:=sP bR Op.maxDepth kt k k' kv e.key true (by decide) he hk hke w
   exact⟨i,e.val,by simp[Instr.findAsking,Op.equal,this],hve⟩
  ·rename_i he;have:=sP bR Op.maxDepth kt k k' kv e.key false (by decide) he hk hke w
   have ih:=PI hk hl hf (i+1) w;have hstep:(Instr.findAsking kt kv (e::m) i).run P w=(Instr.findAsking kt kv m (i+1)).run P w:=by simp[Instr.findAsking,Op.equal,this]
   rw[hstep];exact ih
  ·cases hf
theorem TC{kt:TypeId}{u:TypeDesc}(hu:P.underlying kt=some u){kv ek:Value}{b:Bool}(hb:Instr.sameNow u kv ek=some b)(w:World):(Op.equal kt kv ek).run P w=.ok b w:=by
 unfold Instr.sameNow at hb;split at hb
 ·split at hb
  ·rename_i hk;cases hb;subst hk;exact run_equalIn_int w 9999 kt _ _ _ _ hu
  ·cases hb
 ·cases hb;rw[beq_toListBytes];exact run_equalIn_string w 9999 kt _ _ hu
 ·cases hb;exact run_equalIn_bool' w 9999 kt _ _ hu
 ·cases hb
theorem FT{kt:TypeId}{u:TypeDesc}(hu:P.underlying kt=some u){kv:Value}:∀(m:List MapEntry) (i:Nat) (res:Option (Nat×Value)),Instr.findNow u kv m i=some res->∀w,(Instr.findAsking kt kv m i).run P w=.ok res w
 |[],i,res,hf,w=>by simp only[Instr.findNow,Option.some.injEq] at hf;subst hf;simp[Instr.findAsking]
 |e::m,i,res,hf,w=>by
  unfold Instr.findNow at hf;split at hf
  ·rename_i hs;cases hf;simp[Instr.findAsking,TC hu hs]
  ·rename_i hs;have ih:=FT hu m (i+1) res hf w;simp[Instr.findAsking,TC hu hs,ih]
  ·cases hf
theorem PH{kt:TypeId}{u:TypeDesc}(hu:P.underlying kt=some u){k:AV}{kv:Value}(hk:RV σ k kv){es:List (AV×AV)}{m:List MapEntry}{res:Option AV}(hm:RM σ es m)(hf:kA (eqV P bR kt k) es=some res)(w:World):
  CK σ w ((Instr.findKey kt kv m).run P w) res:=by
 have h1:=PI (P:=P) hk hm hf 0 w;have hkey:∀r,(Instr.findAsking kt kv m 0).run P w=.ok r w->(Instr.findKey kt kv m).run P w=.ok r w:=by
  intro r hr;simp only[Instr.findKey,Sem.run_bind,run_underlying hu,Result.andThen_ok];split
  ·rename_i r' hr';have:=FT hu m 0 r' hr' w;rw[hr] at this;cases this;rfl
  ·exact hr
 cases res with
 |none=>exact hkey _ h1
 |some v=>obtain⟨j,u,h2,h3⟩:=h1;exact⟨j,u,hkey _ h2,h3⟩
theorem HW:∀(d D:Nat) (t:TypeId) (k:AV) (kv:Value),d<=D->dU P d t k=true->RV σ k kv->∀(em:Bool) (w:World),(Instr.checkKey em D t kv).run P w=.ok () w
 |0,_,_,_,_,_,hs,_,_,_=>by simp[dU] at hs
 |d+1,D,t,k,kv,hD,hs,hk,em,w=>by
  obtain⟨D,rfl⟩:∃D',D=D'+1:=⟨D-1,by omega⟩
  have ih:=fun t k kv=>HW d D t k kv (by omega)
  unfold dU at hs;split at hs
  ·rename_i hu;cases hk;simp[Instr.checkKey,run_underlying hu]
  ·rename_i hu;cases hk;simp[Instr.checkKey,run_underlying hu]
  ·rename_i hu;cases hk;simp[Instr.checkKey,run_underlying hu]
  ·rename_i fs cs hu;cases hk with|agg _ xs hx hx1=>
   simp only[Instr.checkKey,Sem.run_bind,run_underlying hu,Result.andThen_ok];rw[<-Array.forIn_toList];generalize fs.toList=l at *
   induction l with
   |nil=>simp
   |cons f l ihl=>
    simp only[List.all_cons,Bool.and_eq_true] at hs;simp only[List.forIn_cons,Sem.run_bind]
    by_cases hn : f.name = "_"
    ·simp only[hn,ne_eq,not_true_eq_false,if_false,Sem.run_bind,Sem.run_pure,Result.andThen_ok];exact ihl hs.2
    ·have h2:=hs.1;simp only[hn,beq_eq_false_iff_ne,Bool.or_eq_true,beq_iff_eq,false_or] at h2;split at h2
     ·rename_i p hp;obtain⟨v,k1,k2⟩:=oV hp hx hx1 w;simp only[ne_eq,hn,not_false_eq_true,if_true,Sem.run_bind,k1,Result.andThen_ok,ih f.type p v h2 k2 em w,Sem.run_pure];exact ihl hs.2
     ·cases h2
  ·rename_i n e cs hu;cases hk with|agg _ xs hx hx1=>
   split at hs
   ·rename_i s hsz;simp only[Instr.checkKey,Sem.run_bind,run_underlying hu,Result.andThen_ok];simp only[Std.Legacy.Range.forIn_eq_forIn_range',Std.Legacy.Range.size,Nat.sub_zero,Nat.add_one_sub_one,Nat.div_one];rw[List.range_eq_range'] at hs;generalize List.range' 0 n=l at *
    induction l with
    |nil=>simp
    |cons i l ihl=>
     simp only[List.all_cons,Bool.and_eq_true] at hs;simp only[List.forIn_cons,Sem.run_bind,cZ hsz,Result.andThen_ok];have h2:=hs.1;split at h2
     ·rename_i p hp;obtain⟨v,k1,k2⟩:=oV hp hx hx1 w;simp only[k1,Result.andThen_ok,ih e p v h2 k2 em w,Sem.run_pure];exact ihl hs.2
     ·cases h2
   ·cases hs
  ·cases hs
end
section
variable {P : Program} {σ : Map} {h : H} {w : World}
theorem aC3(s:ByteArray)(a b:Nat):cQ (s.extract a b)=((cQ s).drop a).take (b-a):=by simp only[cQ,ByteArray.data_extract,Array.toList_extract,List.extract_eq_take_drop,List.map_take,List.map_drop]
def kQ(L:Loc)(o s c:Nat):Option Nat->Prop
 |some c'=>c'=c
 |none=>L.o+o+c*s=L.x
theorem o8{b o n s:Nat}{cap:Option Nat}{x:Value}(hx:RV σ (.sl b o n s cap) x):∃(L:Loc) (c:Nat),σ b=some L/\x=.slice (some ⟨L.b,L.o+o,none⟩) n c/\n<=c/\0<s/\L.o+o+c*s<=L.x/\kQ L o s c cap:=by
 cases hx with
 |slx _ _ _ _ c L hL hn hs hx=>exact⟨L,c,hL,rfl,hn,hs,hx,rfl⟩
 |slu _ _ _ _ c L hL hn hs hx=>exact⟨L,c,hL,rfl,hn,hs,Nat.le_of_eq hx,hx⟩
theorem E1(r:RH σ h w){b o s:Nat}{cap:Option Nat}{cl:Nat}(hc:eF h b o s cap=some cl){L:Loc}(hL:σ b=some L){c:Nat}(h0:0<s)
  (hcap:kQ L o s c cap):cl<=c:=by
 unfold eF at hc;cases cap with
 |some c'=>simp only[Option.some.injEq] at hc;subst hc;exact Nat.le_of_eq hcap
 |none=>
  simp only at hc;simp only[kQ] at hcap;split at hc
  ·rename_i l e fz raw hb;obtain⟨_,_,_,_,_,hlen,_⟩:=r.cells hb hL;rw[bO,aT] at hc;simp only[h0,decide_true,cond_true,Option.some.injEq] at hc;subst hc;have hle:l.length-o<=c*s:=by omega
   calc (l.length-o) / s<=(c*s) / s:=Nat.div_le_div_right hle
    _=c:=Nat.mul_div_cancel c h0
  ·cases hc
theorem OA{b o s l r m:Nat}{L:Loc}(hL:σ b=some L)(h0:0<s)(hm:L.o+o+m*s<=L.x)(hr:r<=m)(hl:l<=r):
  RV σ (kZ b o s l r m) (.slice (some (if m=l then ⟨L.b,L.o+o,none⟩ else ⟨L.b,L.o+o+l*s,none⟩)) (r-l) (m-l)):=by
 unfold kZ;rw[bJ];by_cases e:m=l
 ·subst e;have:r=m:=by omega
  subst this;simp only[decide_true,cond_true,if_true,Nat.sub_self];exact .slx b o 0 s 0 L hL (Nat.le_refl _) h0 (by omega)
 ·simp only[e,decide_false,cond_false,if_false];have:=RV.slx (σ:=σ) b (o+l*s) (r-l) s (m-l) L hL (by omega) h0 (by
   have:(m-l)*s+l*s=m*s:=by rw[<-Nat.add_mul];congr 1;omega
   omega)
  rw[<-Nat.add_assoc] at this;exact this
theorem aBj{b o s l r cl c:Nat}{L:Loc}(hL:σ b=some L)(h0:0<s)(hc:L.o+o+c*s=L.x)(hcl:cl<=c)(hr:r<=cl)(hl:l<=r):
  RV σ (sH b o s l r cl) (.slice (some (if c=l then ⟨L.b,L.o+o,none⟩ else ⟨L.b,L.o+o+l*s,none⟩)) (r-l) (c-l)):=by
 unfold sH;rw[bJ,bO];have hmul:l<=c->(c-l)*s+l*s=c*s:=fun _=>by rw[<-Nat.add_mul];congr 1;omega
 by_cases e:l<cl\/l=0
 ·have:(decide (l<cl)||decide (l=0))=true:=by simpa using e
  rw[this];simp only[cond_true];have hv:=RV.slu (σ:=σ) b (o+l*s) (r-l) s (c-l) L hL (by omega) h0 (by have:=hmul (by omega);omega)
  rw[<-Nat.add_assoc] at hv;by_cases e2:c=l
  ·have:l=0:=by omega
   subst this;subst e2;simpa using hv
  ·simpa[e2] using hv
 ·have:(decide (l<cl)||decide (l=0))=false:=by simpa using e
  rw[this];simp only[cond_false];have:r-l=0:=by omega
  rw[this];exact .esl _ _
theorem TG(r:RH σ h w){b o n s:Nat}{cap:Option Nat}{lo hi:Option AV}{xl xh:Option Value}(hxl:RO σ lo xl)(hxh:RO σ hi xh){L:Loc}(hL:σ b=some L){c:Nat}(h0:0<s)
  (hle:L.o+o+c*s<=L.x) (hcap:kQ L o s c cap) (isSlice:Bool) {res:Result Next} (nid:Nat)
  (hres:∀l q,(Instr.sliceBounds isSlice n c xl xh none).run P w=.ok (l,q,c) w->l<=q->q<=c->res=.ok (.value (.slice (some (if c=l then ⟨L.b,L.o+o,none⟩ else ⟨L.b,L.o+o+l*s,none⟩)) (q-l) (c-l))) w):
  cC P σ h w nid (gL h b o n s cap lo hi) res:=by
 unfold gL;split
 ·rename_i cl l q hc hl hq;have hclc:=E1 r hc hL h0 hcap;rw[cL,cL];by_cases hok:q<=cl/\l<=q
  ·simp only[hok.1,hok.2,decide_true,Bool.and_self,cond_true];have hb:=zZ (P:=P) isSlice hl hq hxl hxh (cap:=c) (by omega) hok.2 w
   refine⟨_,hres l q hb hok.2 (by omega),?_⟩
   cases cap with
   |some c'=>simp only[kQ] at hcap;subst hcap;exact OA hL h0 hle (by omega) hok.2
   |none=>exact aBj hL h0 hcap hclc hok.1 hok.2
  ·have:(decide (q<=cl)&&decide (l<=q))=false:=by simp;omega
   rw[this];trivial
 ·trivial
theorem aJF(r:RH σ h w){b o n s:Nat}{cap:Option Nat}{lo:Option AV}{hi mx:AV}{xl:Option Value}{xh xm:Value}(hxl:RO σ lo xl)(hxh:RV σ hi xh)(hxm:RV σ mx xm){L:Loc}(hL:σ b=some L){c:Nat}(h0:0<s)
  (hle:L.o+o+c*s<=L.x) (hcap:kQ L o s c cap) (isSlice:Bool) {res:Result Next} (nid:Nat)
  (hres:∀l q m,(Instr.sliceBounds isSlice n c xl (some xh) (some xm)).run P w=.ok (l,q,m) w->l<=q->q<=m->m<=c->res=.ok (.value (.slice (some (if m=l then ⟨L.b,L.o+o,none⟩ else ⟨L.b,L.o+o+l*s,none⟩)) (q-l) (m-l))) w):
  cC P σ h w nid (lT h b o n s cap lo hi mx) res:=by
 unfold lT;split
 ·rename_i cl l q m hc hl hq hm;have hclc:=E1 r hc hL h0 hcap;rw[cL,cL,cL];by_cases hok:m<=cl/\q<=m/\l<=q
  ·obtain⟨o1,o2,o3⟩:=hok;simp only[o1,o2,o3,decide_true,Bool.and_self,cond_true];have hm':bnd c (some mx)=some m:=by
    rw[<-hm];cases mx<;>try rfl
    rename_i k i;cases i<;>rfl
   have hb:=D7 (P:=P) isSlice hl hq hm' ⟨_,rfl⟩ ⟨_,rfl⟩ hxl (xh:=some xh) hxh (xm:=some xm) hxm (by omega) o2 o3 w
   refine⟨_,hres l q m hb o3 o2 (by omega),?_⟩
   have hms:m*s<=c*s:=Nat.mul_le_mul_right s (by omega)
   exact OA hL h0 (by omega) o2 o3
  ·have:(decide (m<=cl)&&decide (q<=m)&&decide (l<=q))=false:=by rw[Bool.eq_false_iff];simp only[ne_eq,Bool.and_eq_true,decide_eq_true_eq];intro q;exact hok ⟨q.1.1,q.1.2,q.2⟩
   rw[this];trivial
 ·trivial
theorem aJH(r:RH σ h w){t:TypeId}{a:AV}{x:Value}{lo hi mx:Option AV}{xl xh xm:Option Value}(hx:RV σ a x)(hxl:RO σ lo xl)(hxh:RO σ hi xh)(hxm:RO σ mx xm)(nid:Nat):
  cC P σ h w nid (eM P t a lo hi mx h) ((do pure (Next.value (<-Instr.sliceAt t x xl xh xm)):Sem Next).run P w):=by
 unfold eM;split
 ·
  rename_i l hu;cases hx with|str _ s hs=>
  subst hs;cases mx with
  |some m=>trivial
  |none=>
   cases xm with
   |some _=>exact hxm.elim
   |none=>
    simp only;unfold BV;split
    ·rename_i p q hp hq;rw[cL,cL,aT,i4];rw[aT,i4] at hq;by_cases hok:q<=s.size/\p<=q
     ·simp only[hok.1,hok.2,decide_true,Bool.and_self,cond_true];have hb:=zZ (P:=P) false hp hq hxl hxh (cap:=s.size) hok.1 hok.2 w;refine⟨.string (s.extract p q),?_,.str _ _ (by rw[aC3,eP,dI])⟩
      simp[Instr.sliceAt,run_underlying hu,Instr.slice,hb]
     ·have:(decide (q<=s.size)&&decide (p<=q))=false:=by simp;omega
      rw[this];trivial
    ·trivial
 ·
  rename_i e hu;cases hx;split
  ·rename_i s hl hs hr;cases xm with
   |some _=>exact hxm.elim
   |none=>have hb:=zZ (P:=P) true hl hr hxl hxh (cap:=0) (Nat.le_refl _) (Nat.le_refl _) w;refine⟨.slice none 0 0,?_,.nils⟩;simp[Instr.sliceAt,run_underlying hu,Instr.slice,hb,cZ hs]
  ·rename_i m hi' s hl hs hr;split
   ·rename_i hm;cases xm with
    |none=>exact hxm.elim
    |some xm=>
     cases xh with
     |none=>exact hxh.elim
     |some xh=>have hb:=D7 (P:=P) true hl hr hm ⟨_,rfl⟩ ⟨_,rfl⟩ hxl (xh:=some xh) hxh (xm:=some xm) hxm (Nat.le_refl _) (Nat.le_refl _) (Nat.le_refl _) w;refine⟨.slice none 0 0,?_,.nils⟩;simp[Instr.sliceAt,run_underlying hu,Instr.slice,hb,cZ hs]
   ·trivial
  ·trivial
 ·
  rename_i e hu;cases hx with|esl ad c=>
  split
  ·rename_i s hl hs hr;cases xm with
   |some _=>exact hxm.elim
   |none=>
    have hb:=zZ (P:=P) true hl hr hxl hxh (cap:=c) (Nat.zero_le _) (Nat.le_refl _) w;refine⟨.slice (some (if c=0 then ad else ad.add (0*s))) 0 c,?_,.esl _ _⟩
    simp only[Instr.sliceAt,Sem.run_bind,run_underlying hu,Result.andThen_ok,Instr.slice,hb,cZ hs,Sem.run_pure];by_cases e2:c=0<;>simp[e2]
  ·rename_i m hi' s hl hs hr;split
   ·rename_i hm;cases xm with
    |none=>exact hxm.elim
    |some xm=>
     cases xh with
     |none=>exact hxh.elim
     |some xh=>
      have hm':bnd c (some m)=some 0:=by
       rw[<-hm];cases m<;>try rfl
       rename_i k n;cases n<;>rfl
      have hb:=D7 (P:=P) (cap:=c) true hl hr hm' ⟨_,rfl⟩ ⟨_,rfl⟩ hxl (xh:=some xh) hxh (xm:=some xm) hxm (Nat.zero_le _) (Nat.le_refl _) (Nat.le_refl _) w;refine⟨.slice (some ad) 0 0,?_,.esl _ _⟩;simp only[Instr.sliceAt,Sem.run_bind,run_underlying hu,Result.andThen_ok,Instr.slice,hb,cZ hs,Sem.run_pure];simp
   ·trivial
  ·trivial
 ·
  rename_i e b o n s cap hu;split
  ·rename_i s' hs';rw[bJ];by_cases e1:s=s'
   ·subst e1;simp only[decide_true,cond_true];obtain⟨L,c,hL,rfl,hn,h0,hle,hcap⟩:=o8 hx;split
    ·rename_i hmx;cases xm with
     |some _=>exact hxm.elim
     |none=>refine TG r hxl hxh hL h0 hle hcap true nid fun l q hb _ _=>?_;simp only[Instr.sliceAt,Sem.run_bind,run_underlying hu,Result.andThen_ok,Instr.slice,hb,cZ hs',Sem.run_pure];by_cases e2:c=l<;>simp[e2,jJ]
    ·rename_i m hi';cases xm with
     |none=>exact hxm.elim
     |some xm=>
      cases xh with
      |none=>exact hxh.elim
      |some xh=>refine aJF r hxl hxh hxm hL h0 hle hcap true nid fun l q m hb _ _ _=>?_;simp only[Instr.sliceAt,Sem.run_bind,run_underlying hu,Result.andThen_ok,Instr.slice,hb,cZ hs',Sem.run_pure];by_cases e2:m=l<;>simp[e2,jJ]
    ·trivial
   ·simp only[e1,decide_false,cond_false];trivial
  ·trivial
 ·
  rename_i n e b o hu;cases hx with|ptr _ _ L hL=>
  split
  ·rename_i s l e' fz raw hs hb;rw[bO,cL,aT];by_cases hok:0<s/\o+n*s<=l.length
   ·simp only[hok.1,hok.2,decide_true,Bool.and_self,cond_true];cases mx with
    |some _=>trivial
    |none=>
     cases xm with
     |some _=>exact hxm.elim
     |none=>
      obtain⟨_,_,_,_,hx,hlen,_⟩:=r.cells hb hL;refine TG r hxl hxh hL hok.1 (c:=n) (by omega) (show kQ L o s n (some n) from rfl) false nid fun l q hb _ _=>?_
      simp only[Instr.sliceAt,Sem.run_bind,run_underlying hu,Result.andThen_ok,Instr.sureAddr,Sem.run_pure,hb,cZ hs];by_cases e2:n=l<;>simp[e2,jJ]
   ·have:(decide (0<s)&&decide (o+n*s<=l.length))=false:=by simp;omega
    rw[this];trivial
  ·trivial
 ·trivial
end
section
variable {P : Program} {σ : Map} {h : H} {w : World}
theorem RH.mapAt(r:RH σ h w){b:Nat}{es:List (AV×AV)}(hb:h.get b=some (.map es)){L:Loc}(hL:σ b=some L):∃m clock,w.heap[L.b]? =some (.map m clock)/\RM σ es m.toList:=by obtain⟨M,h1,h2⟩:=r.blk b _ hb;rw[hL] at h1;cases h1;cases h2 with|map es m clock hh he=>exact⟨m,clock,hh,he⟩
theorem aFP(r:RH σ h w){t:TypeId}{a i:AV}{x y:Value}(hx:RV σ a x)(hy:RV σ i y)(ok:Bool)(nid:Nat):
  cC P σ h w nid (kD P t a i ok h) ((do pure (Next.value (<-Instr.lookup t x y ok)):Sem Next).run P w):=by
 unfold kD;split
 ·rename_i kt et hu;cases hk:dU P 10 kt i with
  |false=>simp only[cond_false];trivial
  |true=>
   simp only[cond_true];split
   ·rename_i es z hes hz;obtain⟨zv,hz1,hz2⟩:=kO (σ:=σ) hz w;have hkt:∃u,P.underlying kt=some u:=by unfold dU at hk;split at hk<;>first|exact⟨_,by assumption⟩|cases hk
    obtain⟨u,hku⟩:=hkt;have hck:=fun em=>HW (σ:=σ) 10 10000 kt i y (by omega) hk hy em w
    have main:∀(m:Array MapEntry),RM σ es m.toList->((x=.map none/\m=#[])\/(∃r clock,x=.map (some r)/\w.heap[r]? =some (.map m clock)))->
      cC P σ h w nid (match kA (eqV P bR kt i) es with
       |some (some v)=>.val (bif ok then .tup [v,.bool true] else v)
       |some none=>.val (bif ok then .tup [z,.bool false] else z)
       |none=>.bad) ((do pure (Next.value (<-Instr.lookup t x y ok)):Sem Next).run P w):=by
     intro m hm hrun;split
     ·rename_i v hf;obtain⟨j,v',k1,k2⟩:∃j v',(Instr.findKey kt y m.toList).run P w=.ok (some (j,v')) w/\RV σ v v':=PH hku hy hm hf w;refine⟨if ok then .tuple #[v',.bool true] else v',?_,?_⟩
      ·rcases hrun with⟨rfl,rfl⟩|⟨r,clock,rfl,hh⟩
       ·simp[Instr.findKey,hku,run_underlying hku] at k1;simp[Instr.lookup,run_underlying hu,hck,Instr.findKey,run_underlying hku,k1]
       ·simp[Instr.lookup,run_underlying hu,hck,k1,getObj,Sem.run,hh]
      ·cases ok
       ·simpa using k2
       ·simp only[cond_true,if_true];exact .tup _ _ (.cons _ _ _ _ k2 (.cons _ _ _ _ (.bool _) .nil))
     ·rename_i hf;have k1:(Instr.findKey kt y m.toList).run P w=.ok none w:=PH hku hy hm hf w;refine⟨if ok then .tuple #[zv,.bool false] else zv,?_,?_⟩
      ·rcases hrun with⟨rfl,rfl⟩|⟨r,clock,rfl,hh⟩
       ·simp only[Array.toList_empty] at k1;simp[Instr.lookup,run_underlying hu,hck,k1,hz1]
       ·simp[Instr.lookup,run_underlying hu,hck,k1,hz1,getObj,Sem.run,hh]
      ·cases ok
       ·simpa using hz2
       ·simp only[cond_true,if_true];exact .tup _ _ (.cons _ _ _ _ hz2 (.cons _ _ _ _ (.bool _) .nil))
     ·trivial
    split at hes
    ·cases hx;cases hes;exact main #[] .nil (.inl ⟨rfl,rfl⟩)
    ·rename_i b;cases hx with|map _ L hL=>
     split at hes
     ·rename_i es' hb;cases hes;obtain⟨m,clock,hh,he⟩:=r.mapAt hb hL;exact main m he (.inr ⟨_,_,rfl,hh⟩)
     ·cases hes
    ·cases hes
   ·trivial
 ·trivial
theorem S9{a b:AV}{x y:Value}(hs:nK a b=true)(hx:RV σ a x)(hy:RV σ b y)(n:Nat):Instr.sameBits n y x=true:=by
 unfold nK at hs;split at hs
 ·cases hx;cases hy;simp[Instr.sameBits] at hs ⊢;exact hs.symm
 ·cases hx;cases hy;rw[jM] at hs;simp only[Bool.and_eq_true,decide_eq_true_eq] at hs;have:=(qG _ _).1 hs.1;subst this;rw[hs.2];simp[Instr.sameBits]
 ·cases hx with|str _ s e=>
  cases hy with|str _ s' e'=>
  rw[iX] at hs;simp only[decide_eq_true_eq] at hs;simp only[Instr.sameBits];rw[D8,e,e',hs];simp
 ·cases hs
theorem TA(n:Nat):∀{l m:List AV} {xs ys:List Value},o7 l m=true->RVs σ l xs->RVs σ m ys->xs.length=ys.length/\((ys.zip xs).all fun (x,y)=>Instr.sameBits n x y)=true
 |[],[],_,_,_,hx,hy=>by cases hx;cases hy;simp
 |[],_::_,_,_,hs,_,_=>by simp[o7] at hs
 |_::_,[],_,_,hs,_,_=>by simp[o7] at hs
 |a::l,b::m,_,_,hs,hx,hy=>by
  cases hx with|cons _ v _ xs h1 hl1=>
  cases hy with|cons _ u _ ys h2 hl2=>
  simp only[o7,Bool.and_eq_true] at hs;obtain⟨k1,k2⟩:=TA n hs.2 hl1 hl2;refine⟨by simp[k1],?_⟩
  simp only[List.zip_cons_cons,List.all_cons,S9 hs.1 h1 h2 n,Bool.true_and];exact k2
theorem aIt{a b:AV}{x y:Value}(hs:tO a b=true)(hx:RV σ a x)(hy:RV σ b y)(n:Nat):Instr.sameBits (n+1) y x=true:=by
 unfold tO at hs;split at hs
 ·cases hx with|agg _ xs hx _=>
  cases hy with|agg _ ys hy _=>
  obtain⟨k1,k2⟩:=TA n hs hx hy;simp only[Instr.sameBits,Bool.and_eq_true,beq_iff_eq];exact⟨by simpa using k1.symm,k2⟩
 ·exact S9 hs hx hy _
theorem SL{kt:TypeId}{k v:AV}{kv vv:Value}(hk:RV σ k kv)(hv:RV σ v vv):∀{es:List (AV×AV)} {m:List MapEntry} {es':List (AV×AV)} (_:RM σ es m) (_:oY (eqV P bR kt k) k v es=some es') (i:Nat) (w:World),
  ((Instr.findAsking kt kv m i).run P w=.ok none w/\∀e:MapEntry,e.key=kv->e.val=vv->RM σ es' (m++[e]))\/
  (∃j u,(Instr.findAsking kt kv m i).run P w=.ok (some (i+j,u)) w/\∃e,m[j]? =some e/\Instr.sameBits 10000 e.key kv=true/\RM σ es' (m.modify j fun e=>{e with key:=kv,val:=vv}))
 |[],_,es',hm,hp,i,w=>by cases hm;simp only[oY,Option.some.injEq] at hp;subst hp;exact .inl ⟨by simp[Instr.findAsking],fun e h1 h2=>.cons _ _ _ _ _ (h1▸hk) (h2▸hv) .nil⟩
 |(k',v')::es,_,es',hm,hp,i,w=>by
  cases hm with|cons _ _ e _ m hke hve hl=>
  unfold oY at hp;split at hp
  ·rename_i he;cases hs:tO k k' with
   |false=>simp[hs] at hp
   |true=>
    simp only[hs,cond_true,Option.some.injEq] at hp;subst hp;have:=sP bR Op.maxDepth kt k k' kv e.key true (by decide) he hk hke w
    refine .inr ⟨0,e.val,by simp[Instr.findAsking,Op.equal,this],e,by simp,aIt hs hk hke 9999,?_⟩
    simp only[List.modify_zero_cons];exact .cons _ _ _ _ _ hk hv hl
  ·rename_i he;have:=sP bR Op.maxDepth kt k k' kv e.key false (by decide) he hk hke w
   have hstep:(Instr.findAsking kt kv (e::m) i).run P w=(Instr.findAsking kt kv m (i+1)).run P w:=by simp[Instr.findAsking,Op.equal,this]
   split at hp
   ·rename_i r hr;cases hp;rw[hstep];rcases SL hk hv hl hr (i+1) w with⟨k1,k2⟩|⟨j,u,k1,e',k2,k3,k4⟩
    ·exact .inl ⟨k1,fun e0 h1 h2=>.cons _ _ _ _ _ hke hve (k2 e0 h1 h2)⟩
    ·refine .inr ⟨j+1,u,by rw[k1];congr 2;rw[Nat.add_assoc,Nat.add_comm 1 j],e',by simpa using k2,k3,?_⟩
     simp only[List.modify_succ_cons];exact .cons _ _ _ _ _ hke hve k4
   ·cases hp
  ·cases hp
theorem TW(r:RH σ h w){t:TypeId}{a k v:AV}{x y z:Value}(hx:RV σ a x)(hy:RV σ k y)(hz:RV σ v z)(nid:Nat):
  cC P σ h w nid (xR P t a k v h) ((do Instr.mapUpdate t x y z;pure Next.skip:Sem Next).run P w):=by
 unfold xR;split
 ·rename_i kt et b hu;cases hx with|map _ L hL=>
  cases hk:dU P 10 kt k with
  |false=>simp only[cond_false];trivial
  |true=>
   simp only[cond_true];have hkt:∃u,P.underlying kt=some u:=by unfold dU at hk;split at hk<;>first|exact⟨_,by assumption⟩|cases hk
   obtain⟨u,hku⟩:=hkt;have hck:=fun em=>HW (σ:=σ) 10 10000 kt k y (by omega) hk hy em w
   split
   ·rename_i es hb;split
    ·rename_i es' hp;obtain⟨m,clock,hh,he⟩:=r.mapAt hb hL;have hfind:∀res,(Instr.findAsking kt y m.toList 0).run P w=.ok res w->(Instr.findKey kt y m.toList).run P w=.ok res w:=by
      intro res hr;simp only[Instr.findKey,Sem.run_bind,run_underlying hku,Result.andThen_ok];split
      ·rename_i r' hr';have:=FT hku m.toList 0 r' hr' w;rw[hr] at this;cases this;rfl
      ·exact hr
     have fin:∀(m':Array MapEntry) (clock':Nat),RM σ es' m'.toList->(Instr.mapUpdate t (.map (some L.b)) y z).run P w=.ok () {w with heap:=w.heap.setIfInBounds L.b (.map m' clock')}->
       cC P σ h w nid (.upd dV (h.set b (.map es'))) ((do Instr.mapUpdate t (.map (some L.b)) y z;pure Next.skip:Sem Next).run P w):=by
      intro m' clock' hm' hrun;have hlt:L.b<w.heap.size:=r.old b L hL;refine⟨.skip,undef,{w with heap:=w.heap.setIfInBounds L.b (.map m' clock')},by simp[hrun],.inr ⟨rfl,rfl⟩,RV.undef,?_⟩
      refine Ext.upd r hb hL rfl ⟨by simp,fun c hc=>by simp[Array.getElem?_setIfInBounds_ne (Ne.symm hc)],eE.refl _⟩ ?_
      exact .map es' m' clock' (by simp[hlt]) hm'
     have hset:∀o:Obj,(setObj L.b o).run P w=.ok () {w with heap:=w.heap.setIfInBounds L.b o}:=fun o=>by simp[setObj,Sem.run,hh]
     have hget:(getObj L.b).run P w=.ok (.map m clock) w:=by simp[getObj,Sem.run,hh]
     rcases SL (P:=P) hy hz he hp 0 w with⟨k1,k2⟩|⟨j,u',k1,e',k2,k3,k4⟩
     ·refine fin (m.push {key:=y,val:=z,born:=clock}) (clock+1) (by simpa using k2 {key:=y,val:=z,born:=clock} rfl rfl) ?_
      simp only[Instr.mapUpdate,Sem.run_bind,run_underlying hu,Result.andThen_ok,hget,hck,hfind _ k1,hset]
     ·rw[Nat.zero_add] at k1;refine fin (m.modify j fun e=>{e with key:=y,val:=z}) clock (by simpa using k4) ?_
      have hkey:(Instr.keyThatStays (((m[j]?).map (·.key)).getD y) y).run P w=.ok y w:=by rw[<-Array.getElem?_toList,k2];simp[Instr.keyThatStays,k3]
      simp only[Instr.mapUpdate,Sem.run_bind,run_underlying hu,Result.andThen_ok,hget,hck,hfind _ k1,hkey,hset]
    ·trivial
   ·trivial
 ·trivial
end
section
variable {P : Program} {σ : Map} {h : H} {w : World}
theorem D3{α:Type}{b:Bool}{p:Prop}[Decidable p](h:b=true↔p)(x y:α):(bif b then x else y)=if p then x else y:=by
 by_cases hp:p
 ·rw[if_pos hp,h.2 hp];rfl
 ·rw[if_neg hp];cases b
  ·rfl
  ·exact absurd (h.1 rfl) hp
theorem aBn(c:Nat):OD c=if c >= 128 then (c,2) else (65533,1):=by refine D3 (p:=c >= 128) ?_ _ _;rw[Nat.ble_eq]
theorem aBo(c:Nat)(h:c<=1114111):OE c=if c >= 2048/\(c<55296\/(57344<=c/\c<=1114111)) then (c,3) else (65533,1):=by refine D3 (p:=c >= 2048/\(c<55296\/(57344<=c/\c<=1114111))) ?_ _ _;simp only[cL,bO,Bool.and_eq_true,Bool.or_eq_true,decide_eq_true_eq];omega
theorem aBp(c:Nat):OF c=if c >= 65536/\(c<55296\/(57344<=c/\c<=1114111)) then (c,4) else (65533,1):=by refine D3 (p:=c >= 65536/\(c<55296\/(57344<=c/\c<=1114111))) ?_ _ _;simp only[cL,Bool.and_eq_true,decide_eq_true_eq];omega
theorem aBq(l:List Nat)(b0 b1 b2 b3:Nat)(h0:l[0]? =some b0)(h1:∀x,l[1]? =some x->x=b1)(h2:∀x,l[2]? =some x->x=b2)(h3:∀x,l[3]? =some x->x=b3):
  decA l=Lib.decodeN l.length b0 b1 b2 b3:=by
 unfold Lib.decodeN;rw[<-aBn,<-aBo _ (by omega),<-aBp]
 match l with
 |[]=>simp at h0
 |[c0]=>simp at h0;subst h0;simp only[decA,bO,List.length_singleton];by_cases e:c0<128<;>simp[e]
 |[c0,c1]=>
  simp at h0;have:=h1 c1 (by simp)
  subst h0;subst this;simp only[decA,bO,bJ,List.length_cons,List.length_nil];by_cases e:c0<128
  ·simp[e]
  ·by_cases e1:c1 / 64=2
   ·by_cases e2:c0 / 32=6<;>simp[e,e1,e2]
   ·simp[e,e1]
 |[c0,c1,c2]=>
  simp at h0;have:=h1 c1 (by simp)
  have:=h2 c2 (by simp)
  subst h0;subst b1;subst b2;simp only[decA,bO,bJ,List.length_cons,List.length_nil];by_cases e:c0<128
  ·simp[e]
  ·by_cases e1:c1 / 64=2
   ·by_cases e2:c0 / 32=6
    ·simp[e,e1,e2]
    ·by_cases e3:c2 / 64=2
     ·by_cases e4:c0 / 16=14<;>simp[e,e1,e2,e3,e4]
     ·simp[e,e1,e2,e3]
   ·simp[e,e1]
 |c0::c1::c2::c3::l=>
  simp at h0;have:=h1 c1 (by simp)
  have:=h2 c2 (by simp)
  have:=h3 c3 (by simp)
  subst h0;subst b1;subst b2;subst b3;simp only[decA,bO,bJ,List.length_cons];have n1:1<l.length+1+1+1+1:=by omega
  have n2:2<l.length+1+1+1+1:=by omega
  have n3:3<l.length+1+1+1+1:=by omega
  simp only[n1,n2,n3,true_and];by_cases e:c0<128
  ·simp[e]
  ·by_cases e1:c1 / 64=2
   ·by_cases e2:c0 / 32=6
    ·simp[e,e1,e2]
    ·by_cases e3:c2 / 64=2
     ·by_cases e4:c0 / 16=14
      ·simp[e,e1,e2,e3,e4]
      ·by_cases e5:c3 / 64=2
       ·by_cases e6:c0 / 8=30<;>simp[e,e1,e2,e3,e4,e5,e6]
       ·simp[e,e1,e2,e3,e4,e5]
     ·simp[e,e1,e2,e3]
   ·simp[e,e1]
theorem AG(s:ByteArray)(i k x:Nat)(hx:((cQ s).drop i)[k]? =some x):x=(s.get! (i+k)).toNat:=by
 rw[List.getElem?_drop] at hx;simp only[cQ,List.getElem?_map,Option.map_eq_some_iff] at hx;obtain⟨b,h1,rfl⟩:=hx;rw[Array.getElem?_toList] at h1
 congr 1
 show b=s.data[i+k]!;rw[getElem!_def,h1]
theorem OG(s:ByteArray)(i:Nat)(hi:i<s.size):decA ((cQ s).drop i)=Utf8.decode s i:=by
 have hlen:((cQ s).drop i).length=s.size-i:=by rw[List.length_drop,i4]
 have h0:∃x,((cQ s).drop i)[0]? =some x:=⟨_,List.getElem?_eq_getElem (by omega)⟩
 obtain⟨x,hx⟩:=h0;have e:=AG s i 0 x hx;rw[Lib.decode_at,<-hlen];refine aBq _ _ _ _ _ ?_ (fun x hx=>AG s i 1 x hx) (fun x hx=>AG s i 2 x hx) (fun x hx=>AG s i 3 x hx);rw[hx,e];rfl
theorem aIg(r:RH σ h w){nid:Nat}(hn:σ nid=none){t:TypeId}{a:AV}{x:Value}(hx:RV σ a x):
  cC P σ h w nid (nH P t a h nid) ((do pure (Next.value (<-Instr.range t x)):Sem Next).run P w):=by
 unfold nH;split
 ·rename_i l hu;cases hx with|str _ s hs=>
  refine⟨.pointer (some ⟨w.heap.size,0,none⟩),{w with heap:=w.heap.push (.stringIter s 0)},σ.put nid ⟨w.heap.size,0,0⟩,?_,?_,?_⟩
  ·simp[Instr.range,run_underlying hu]
  ·have:=RV.ptr (σ:=σ.put nid ⟨w.heap.size,0,0⟩) nid 0 _ (Map.put_same _ _ _);simpa using this
  ·exact Ext.alloc r hn 0 _ (.stringIter s 0) _ rfl (eE.refl _) (.iter l 0 s (by simp) (by simpa using hs) rfl)
 ·trivial
theorem aFa(r:RH σ h w){a:AV}{x:Value}(hx:RV σ a x)(isString:Bool)(t:TypeId)(nid:Nat):
  cC P σ h w nid (qM a isString h) ((do pure (Next.value (<-Instr.next x isString t)):Sem Next).run P w):=by
 unfold qM;split
 ·rename_i b;cases hx with|ptr _ _ L hL=>
  split
  ·rename_i l p hb;obtain⟨M,h1,h2⟩:=r.blk b _ hb;rw[hL] at h1;cases h1;cases h2 with
   |iter rest pos s hh hr ho=>
    have hget:(getObj L.b).run P w=.ok (.stringIter s p) w:=by simp[getObj,Sem.run,hh]
    have hset:∀o:Obj,(setObj L.b o).run P w=.ok () {w with heap:=w.heap.setIfInBounds L.b o}:=fun o=>by simp[setObj,Sem.run,hh]
    have hlt:L.b<w.heap.size:=r.old b L hL;split
    ·
     have hp:¬p<s.size:=by
      intro h;have:((cQ s).drop p).length=0:=by rw[hr];rfl
      rw[List.length_drop,i4] at this;omega
     refine⟨.tuple #[.bool false],?_,.tup _ _ (.cons _ _ _ _ (.bool _) .nil)⟩;simp[Instr.next,ho,hget,hp]
    ·rename_i hne;have hp:p<s.size:=by
      rcases Nat.lt_or_ge p s.size with h|h
      ·exact h
      ·have:(cQ s).drop p=[]:=List.drop_eq_nil_of_le (by rw[i4];exact h)
       exact absurd (hr.symm.trans this) hne
     have hd:=OG s p hp;rw[hr] at hd;rw[hd];generalize Utf8.decode s p=cw at *;obtain⟨c,wd⟩:=cw;refine⟨.value (.tuple #[.bool true,goInt p,.int .i32 c]),.tuple #[.bool true,goInt p,.int .i32 c],{w with heap:=w.heap.setIfInBounds L.b (.stringIter s (p+wd))},?_,.inl rfl,?_,?_⟩
     ·have hd':Utf8.decode s p=(c,wd):=by rw[<-OG s p hp,hr];exact hd
      simp[Instr.next,ho,hget,hp,hd',hset]
     ·exact .tup _ _ (.cons _ _ _ _ (.bool _) (.cons _ _ _ _ (.int _ _) (.cons _ _ _ _ (.int _ _) .nil)))
     ·refine Ext.upd r hb hL rfl ⟨by simp,fun c hc=>by simp[Array.getElem?_setIfInBounds_ne (Ne.symm hc)],eE.refl _⟩ ?_
      refine .iter _ _ s (by simp[hlt]) ?_ ho
      rw[dI,<-hr,List.drop_drop]
  ·trivial
 ·trivial
theorem YI{a:AV}{x:Value}(hx:RV σ a x)(xt asserted:TypeId)(ok:Bool)(nid:Nat):
  cC P σ h w nid (vJ P a asserted ok) ((do pure (Next.value (<-Instr.typeAssert x xt asserted ok)):Sem Next).run P w):=by
 unfold vJ;split
 ·trivial
 ·rename_i u hni hu;split
  ·rename_i t v;cases hx with|ifc _ _ v' hv=>
   rw[bJ];by_cases e:t=asserted
   ·subst e;simp only[decide_true,cond_true];refine⟨if ok then .tuple #[v',.bool true] else v',?_,?_⟩
    ·cases u<;>first|exact (hni _ rfl).elim|(simp[Instr.typeAssert,run_underlying hu])
    ·cases ok
     ·simpa using hv
     ·simp only[cond_true,if_true];exact .tup _ _ (.cons _ _ _ _ hv (.cons _ _ _ _ (.bool _) .nil))
   ·simp only[e,decide_false,cond_false];cases ok with
    |false=>trivial
    |true=>
     simp only[cond_true];split
     ·rename_i z hz;obtain⟨zv,hz1,hz2⟩:=kO (σ:=σ) hz w;refine⟨.tuple #[zv,.bool false],?_,.tup _ _ (.cons _ _ _ _ hz2 (.cons _ _ _ _ (.bool _) .nil))⟩;cases u<;>first|exact (hni _ rfl).elim|(simp[Instr.typeAssert,run_underlying hu,e,hz1])
     ·trivial
  ·cases hx;cases ok with
   |false=>trivial
   |true=>
    simp only[cond_true];split
    ·rename_i z hz;obtain⟨zv,hz1,hz2⟩:=kO (σ:=σ) hz w;refine⟨.tuple #[zv,.bool false],?_,.tup _ _ (.cons _ _ _ _ hz2 (.cons _ _ _ _ (.bool _) .nil))⟩;cases u<;>first|exact (hni _ rfl).elim|(simp[Instr.typeAssert,run_underlying hu,hz1])
    ·trivial
  ·trivial
 ·trivial
theorem aFE(r:RH σ h w){t:TypeId}{ts:Array TypeId}{a:AV}{x:Value}{xs:Array Value}(ht:ts[0]? =some t)(hxs:xs[0]? =some x)(hx:RV σ a x)(ty:TypeId)(nid:Nat):
  cC P σ h w nid (iL P t a h) ((do pure (Next.value (<-Builtin.len_ ts ty xs)):Sem Next).run P w):=by
 unfold iL;split
 ·rename_i hu;split
  ·rename_i l;cases hx with|str _ s hs=>rw[aT,<-hs,i4];exact⟨goInt s.size,by simp[Builtin.len_,ht,hxs,run_underlying hu],.int _ _⟩
  ·trivial
 ·rename_i e hu;split
  ·cases hx;exact⟨goInt 0,by simp[Builtin.len_,ht,hxs,run_underlying hu],.int _ _⟩
  ·cases hx;exact⟨goInt 0,by simp[Builtin.len_,ht,hxs,run_underlying hu],.int _ _⟩
  ·rename_i b o n s c;obtain⟨L,c',_,rfl,_⟩:=o8 hx;exact⟨goInt n,by simp[Builtin.len_,ht,hxs,run_underlying hu],.int _ _⟩
  ·trivial
 ·rename_i n e hu;exact⟨goInt n,by simp[Builtin.len_,ht,hxs,run_underlying hu],.int _ _⟩
 ·rename_i p hu;split
  ·rename_i n e hu2;exact⟨goInt n,by simp[Builtin.len_,ht,hxs,run_underlying hu,run_underlying hu2],.int _ _⟩
  ·trivial
 ·rename_i k e hu;split
  ·cases hx;exact⟨goInt 0,by simp[Builtin.len_,ht,hxs,run_underlying hu],.int _ _⟩
  ·rename_i b;cases hx with|map _ L hL=>
   split
   ·rename_i es hb;obtain⟨m,clock,hh,he⟩:=r.mapAt hb hL;have hl:es.length=m.size:=by
     have:∀{es:List (AV×AV)} {m:List MapEntry},RM σ es m->es.length=m.length:=fun h=>by induction h<;>simp_all
     simpa using this he
    rw[aT,hl];exact⟨goInt m.size,by simp[Builtin.len_,ht,hxs,run_underlying hu,getObj,Sem.run,hh],.int _ _⟩
   ·trivial
  ·trivial
 ·trivial
theorem aB6{t:TypeId}{ts:Array TypeId}{a:AV}{x:Value}{xs:Array Value}(ht:ts[0]? =some t)(hxs:xs[0]? =some x)(hx:RV σ a x)(ty:TypeId)(nid:Nat):
  cC P σ h w nid (oE P t a) ((do pure (Next.value (<-Builtin.cap_ ts ty xs)):Sem Next).run P w):=by
 unfold oE;split
 ·rename_i e hu;split
  ·cases hx;exact⟨goInt 0,by simp[Builtin.cap_,ht,hxs,run_underlying hu],.int _ _⟩
  ·rename_i b o n s c;obtain⟨L,c',_,rfl,_,_,_,hc⟩:=o8 hx;simp only[kQ] at hc;subst hc;exact⟨goInt c,by simp[Builtin.cap_,ht,hxs,run_underlying hu],.int _ _⟩
  ·trivial
 ·rename_i n e hu;exact⟨goInt n,by simp[Builtin.cap_,ht,hxs,run_underlying hu],.int _ _⟩
 ·trivial
theorem aF2{a b v:AV}{x y:Value}(hm:wQ a b=some v)(hx:RV σ a x)(hy:RV σ b y)(w:World):∃u,(Builtin.max2 x y).run P w=.ok u w/\RV σ v u:=by
 unfold wQ at hm;split at hm
 ·rename_i k a k' b;cases hm;cases hx;cases hy;rw[m6];refine⟨.int k (if b>a then b else a),rfl,?_⟩
  by_cases e:a<b<;>simp[e]<;>exact .int _ _
 ·cases hm
theorem aF6{a b v:AV}{x y:Value}(hm:wS a b=some v)(hx:RV σ a x)(hy:RV σ b y)(w:World):∃u,(Builtin.min2 x y).run P w=.ok u w/\RV σ v u:=by
 unfold wS at hm;split at hm
 ·rename_i k a k' b;cases hm;cases hx;cases hy;rw[m6];refine⟨.int k (if b<a then b else a),rfl,?_⟩
  by_cases e:b<a<;>simp[e]<;>exact .int _ _
 ·cases hm
theorem FW{f:AV->AV->Option AV}{g:Value->Value->Sem Value}(hfg:∀{a b v:AV} {x y:Value},f a b=some v->RV σ a x->RV σ b y->∀w,∃u,(g x y).run P w=.ok u w/\RV σ v u):
  ∀{l:List AV} {m:List Value} {a v:AV} {x:Value},lI f a l=some v->RV σ a x->RVs σ l m->∀w,∃u,(m.foldlM g x).run P w=.ok u w/\RV σ v u
 |[],_,a,v,x,hf,hx,hl,w=>by cases hl;simp only[lI,Option.some.injEq] at hf;subst hf;exact⟨x,by simp,hx⟩
 |b::l,_,a,v,x,hf,hx,hl,w=>by
  cases hl with|cons _ y _ m hb hl=>
  unfold lI at hf;split at hf
  ·rename_i z hz;obtain⟨u,h1,h2⟩:=hfg hz hx hb w;obtain⟨u',h3,h4⟩:=FW hfg hf h2 hl w;exact⟨u',by simp[List.foldlM_cons,h1,h3],h4⟩
  ·cases hf
end
section
variable {P : Program} {σ : Map} {h : H} {w : World}
theorem NY{a:AV}{x:Value}{k:Nat}(hc:fM a=some k)(hx:RV σ a x)(w:World):(Builtin.lenOf x).run P w=.ok k w:=by
 unfold fM at hc;split at hc
 ·cases hc;cases hx;simp[Builtin.lenOf]
 ·cases hc;cases hx;simp[Builtin.lenOf]
 ·cases hc;obtain⟨L,c,_,rfl,_⟩:=o8 hx;simp[Builtin.lenOf]
 ·cases hc;cases hx with|str _ s hs=>rw[aT,<-hs,i4];simp[Builtin.lenOf]
 ·cases hc
theorem TH(r:RH σ h w){a:AV}{x:Value}{s k:Nat}{new:List AV}(hs:nO h s a=some new)(hc:fM a=some k)(hx:RV σ a x)(h0:0<s){m:Nat}(hm:m<=k):
  new.length=k*s/\∃vs:List Value,(Builtin.firstCells s m x).run P w=.ok vs.toArray w/\RVs σ (new.take (m*s)) vs/\vs.length=m*s/\∀v∈vs,v.oneCell'=true:=by
 unfold nO at hs;split at hs
 ·cases hs;simp only[fM,Option.some.injEq] at hc;subst hc;cases hx;have:m=0:=by omega
  subst this;exact⟨by simp,[],by simp[Builtin.firstCells],by simpa using RVs.nil,by simp,by simp⟩
 ·cases hs;simp only[fM,Option.some.injEq] at hc;subst hc;cases hx with|esl a c=>
  have:m=0:=by omega
  subst this;exact⟨by simp,[],by simp[Builtin.firstCells,loadCells,loadCellsFrom],by simpa using RVs.nil,by simp,by simp⟩
 ·rename_i b o n s' cap;rw[bJ] at hs;by_cases e:s=s'
  ·subst e;simp only[decide_true,cond_true] at hs;simp only[fM,Option.some.injEq] at hc;subst hc;obtain⟨L,c,hL,rfl,_⟩:=o8 hx;have hlen:new.length=n*s:=by obtain⟨vs,k1,_,k3,_⟩:=wL (P:=P) r hs hL;rw[k3.length,k1]
   refine⟨hlen,?_⟩;have hms:m*s<=n*s:=Nat.mul_le_mul_right s hm;have hs':fF h b o (m*s)=some (new.take (m*s)):=by
    unfold fF at hs ⊢;split at hs
    ·rename_i l e fz raw hb;rw[cL,aT] at hs;by_cases hle:o+n*s<=l.length
     ·simp only[hle,decide_true,cond_true,Option.some.injEq,eP,dI] at hs;rw[cL,aT];have:o+m*s<=l.length:=by omega
      simp only[this,decide_true,cond_true,eP,dI];rw[<-hs,List.take_take,Nat.min_eq_left hms]
     ·simp[hle] at hs
    ·cases hs
   obtain⟨vs,k1,k2,k3,k4,_⟩:=wL (P:=P) r hs' hL;exact⟨vs,by simpa[Builtin.firstCells] using k2,k3,k1,k4⟩
  ·simp[e] at hs
 ·rename_i l;rw[bJ] at hs;by_cases e:s=1
  ·subst e;simp only[decide_true,cond_true,Option.some.injEq] at hs;simp only[fM,Option.some.injEq,aT] at hc;subst hc;subst hs;cases hx with|str _ s hs=>
   subst hs;rw[i4] at hm;refine⟨by rw[IA,Nat.mul_one],(s.data.toList.take m).map fun b=>Value.int .u8 b.toNat,?_,?_,?_,?_⟩
   ·simp only[Builtin.firstCells,Sem.run_pure,ByteArray.data_extract]
    congr 1
    apply Array.ext';simp[Array.toList_extract,List.extract_eq_take_drop,List.map_take]
   ·have:=(TT (σ:=σ) s.data.toList).take (m*1);rw[Nat.mul_one] at this ⊢;rw[List.map_take];exact this
   ·have:s.data.toList.length=s.size:=by simp
    simp;omega
   ·intro v hv;simp only[List.mem_map] at hv;obtain⟨b,_,rfl⟩:=hv;rfl
  ·simp[e] at hs
 ·cases hs
theorem P6(n:Nat):∀(r c:Nat),256<=c->c<=2*n->Builtin.growBy n r c<=2*n
 |0,c,_,h=>h
 |r+1,c,hc,h=>by
  unfold Builtin.growBy;split
  ·exact h
  ·exact P6 n r _ (by omega) (by omega)
theorem aFb{n c:Nat}(h:c<n):Builtin.nextslicecap n c<=2*n:=by
 unfold Builtin.nextslicecap;split
 ·omega
 ·split
  ·omega
  ·exact P6 n 4 c (by omega) (by omega)
theorem aCg(fz o:Nat):fz<=o+fzOff fz o:=by
 unfold fzOff;rw[bJ,bO];by_cases h:fz=0
 ·omega
 ·by_cases h':o<fz
  ·simp only[h,h',decide_false,decide_true,cond_false,cond_true];omega
  ·simp only[h,h',decide_false,cond_false];omega
theorem aCh{fz o:Nat}(h:0<fz):0<fzOff fz o:=by
 unfold fzOff;rw[bJ,bO];have h0:¬fz=0:=by omega
 by_cases h':o<fz
 ·simp only[h0,h',decide_false,decide_true,cond_false,cond_true];omega
 ·simp only[h0,h',decide_false,cond_false];omega
theorem aIr{e:TypeId}{n:Nat}(hr:o6 P e n=true):∃i,P.info? e=some i/\n*i.bytes<=140737488355328/\n<p63/\0<i.bytes:=by
 unfold o6 at hr;split at hr
 ·rename_i by' hb;obtain⟨i,hi,rfl⟩:=LM hb;simp only[cL,bO,Bool.and_eq_true,decide_eq_true_eq] at hr;exact⟨i,hi,hr.1.1,hr.1.2,hr.2⟩
 ·cases hr
theorem aJu{zv:Value}(h1:∀v∈zv.cells.toList,v.oneCell'=true)(n:Nat)(h0:0<zv.cells.size):∀v∈(Builtin.zeroCells zv.cells n).toList,v.oneCell'=true:=by intro v hv;simp only[Builtin.zeroCells,Array.toList_map,List.mem_map] at hv;obtain⟨i,_,rfl⟩:=hv;have hm:i%zv.cells.size<zv.cells.size:=Nat.mod_lt _ h0;refine h1 _ ?_;rw[getElem!_pos zv.cells _ hm,Array.mem_toList_iff];exact Array.getElem_mem hm
theorem Q8{ts:Array TypeId}{t:TypeId}{l:List TypeId}(hts:ts.toList=t::l)(hn:lN P l=true):
  ts[1]? =none\/∃u d,ts[1]? =some u/\P.underlying u=some d/\(match d with|.int _=>true|_=>false)=false:=by
 have h1:ts[1]? =l[0]?:=by rw[<-Array.getElem?_toList,hts];simp
 rw[h1];cases l with
 |nil=>exact .inl (by simp)
 |cons u l=>
  simp only[lN] at hn;split at hn
  ·cases hn
  ·rename_i d hni hu;refine .inr ⟨u,d,by simp,hu,?_⟩
   cases d<;>first|rfl|exact (hni _ rfl).elim
  ·cases hn
theorem zV{e:TypeId}{s k:Nat}{nv:Array Value}{ts:Array TypeId}{t:TypeId}{l:List TypeId}{ty:TypeId}{base:Option Addr}{sLen sCap:Nat}{x:Value}{args:Array Value}
  (hts:ts.toList=t::l) (hni:lN P l=true) (hu:P.underlying t=some (.slice e)) (hs:bG P e=some s)
  (ha0:args[0]? =some (.slice base sLen sCap)) (ha1:args[1]? =some x) (hlen:(Builtin.lenOf x).run P w=.ok k w) (hfit:sLen+k<=sCap)
  (hnew:(Builtin.firstCells s k x).run P w=.ok nv w):
  (Builtin.append_ ts ty args).run P w=match base with
   |some a=>((storeCells (a.add (sLen*s)) nv.toList).run P w).andThen fun _ w'=>.ok (.slice base (sLen+k) sCap) w'
   |none=>.ok (.slice base (sLen+k) sCap) w:=by
 have ht0:ts[0]? =some t:=by rw[<-Array.getElem?_toList,hts];simp
 rcases Q8 hts hni with h1|⟨u,d,h1,h2,h3⟩
 ·unfold Builtin.append_;simp only[ht0,ha0,ha1,h1,Sem.run_bind,run_underlying hu,Result.andThen_ok,cZ hs,Sem.run_pure,Bool.false_eq_true,if_false,hlen,hfit,if_true,Bool.not_false,hnew];cases base<;>simp
 ·cases d<;>first
   |(exfalso;revert h3;simp;done)
   |(
     unfold Builtin.append_;simp only[ht0,ha0,ha1,h1,Sem.run_bind,run_underlying hu,run_underlying h2,Result.andThen_ok,cZ hs,Sem.run_pure,Bool.false_eq_true,if_false,hlen,hfit,if_true,Bool.not_false,hnew];cases base<;>simp)
theorem YH{e:TypeId}{s k:Nat}{ov nv:Array Value}{ts:Array TypeId}{t:TypeId}{l:List TypeId}{ty:TypeId}{base:Option Addr}{sLen sCap:Nat}{x:Value}{args:Array Value}{i:TypeInfo}{zv:Value}{cap:Nat}{w1:World}
  (hts:ts.toList=t::l) (hni:lN P l=true) (hu:P.underlying t=some (.slice e)) (hs:bG P e=some s) (hi:P.info? e=some i)
  (ha0:args[0]? =some (.slice base sLen sCap)) (ha1:args[1]? =some x) (hlen:(Builtin.lenOf x).run P w=.ok k w) (hgt:¬sLen+k<=sCap)
  (hmax:¬((sLen+k:Nat):Int)>IntKind.i64.max) (h48:¬Builtin.nextslicecap (sLen+k) sCap*i.bytes>2^48)
  (hch:(choose (.appendCap (sLen+k) sCap e)).run P w=.ok cap w1)
  (hold:(Builtin.firstCells s sLen (.slice base sLen sCap)).run P w1=.ok ov w1) (hnew:(Builtin.firstCells s k x).run P w1=.ok nv w1) (hz:(zeroValue e).run P w1=.ok zv w1):
  (Builtin.append_ ts ty args).run P w=((newRow e (ov++nv++Builtin.zeroCells zv.cells (cap-(sLen+k)))).run P w1).andThen fun a w'=>.ok (.slice (some a) (sLen+k) cap) w':=by
 have ht0:ts[0]? =some t:=by rw[<-Array.getElem?_toList,hts];simp
 rcases Q8 hts hni with h1|⟨u,d,h1,h2,h3⟩
 ·unfold Builtin.append_;simp only[ht0,ha0,ha1,h1,Sem.run_bind,run_underlying hu,Result.andThen_ok,cZ hs,Sem.run_pure,Bool.false_eq_true,if_false,hlen,hgt,tN hi,hmax,false_and,h48,hch,run_askRoom,hold,hnew,hz,Bool.not_false,if_true]
 ·cases d<;>first
   |(exfalso;revert h3;simp;done)
   |(
     unfold Builtin.append_;simp only[ht0,ha0,ha1,h1,Sem.run_bind,run_underlying hu,run_underlying h2,Result.andThen_ok,cZ hs,Sem.run_pure,Bool.false_eq_true,if_false,hlen,hgt,tN hi,hmax,false_and,h48,hch,run_askRoom,hold,hnew,hz,Bool.not_false,if_true])
theorem Ext.drop{N:Nat->Prop}(r:RH σ h w)(i:Nat){A:AB}(hi:h.get i=some A)(hro:A.ro=false):Ext N σ h w σ (h.del i) w:=by
 have get:∀j B,(h.del i).get j=some B->h.get j=some B:=fun j B hj=>by
  rw[Tr.get_del] at hj;by_cases e:j=i
  ·simp[e] at hj
  ·simpa[e] using hj
 exact⟨Map.le_refl _,⟨fun j B hj=>r.blk j B (get j B hj),fun j k B C L M hj hk=>r.inj j k B C L M (get j B hj) (get k C hk),r.old⟩,Nat.le_refl _,fun _ _ _=>rfl,fun _ _ e=>.inl e,
  fun j B _ hj _=>⟨B,get j B hj⟩,eE.refl w,fun j B _ hj hB _=>⟨rfl,by
   rw[Tr.get_del,if_neg]
   ·exact hj
   ·intro e;subst e;rw[hi] at hj;cases hj;rw[hro] at hB;cases hB⟩⟩
theorem GJ(d:Nat)(a:Addr):∀(n i:Nat) (acc vs:Array Value),(loadCellsFrom a i n acc).run P w=.ok vs w->(loadCellsFrom a i n acc).run P {w with drawn:=d}=.ok vs {w with drawn:=d}
 |0,i,acc,vs,hl=>by simp[loadCellsFrom] at hl ⊢;exact hl
 |n+1,i,acc,vs,hl=>by
  simp only[loadCellsFrom,Sem.run_bind,run_load] at hl ⊢;have e1:World.cell? {w with drawn:=d} (a.add i)=w.cell? (a.add i):=rfl;have e2:World.farLoad P {w with drawn:=d} (a.add i) (Mode.plain==Mode.atomic)=w.farLoad P (a.add i) (Mode.plain==Mode.atomic):=rfl;rw[e1,e2];cases hc:w.cell? (a.add i) with
  |some v=>rw[hc] at hl;simp only[Result.andThen_ok] at hl ⊢;exact GJ d a n (i+1) _ vs hl
  |none=>
   rw[hc] at hl;simp only at hl ⊢;cases hf:w.farLoad P (a.add i) (Mode.plain==Mode.atomic) with
   |ok vl=>rw[hf] at hl;simp only[Result.andThen_ok] at hl ⊢;exact GJ d a n (i+1) _ vs hl
   |error e=>rw[hf] at hl;simp at hl
theorem PM(d s m:Nat){y:Value}{vs:Array Value}(hl:(Builtin.firstCells s m y).run P w=.ok vs w):(Builtin.firstCells s m y).run P {w with drawn:=d}=.ok vs {w with drawn:=d}:=by
 unfold Builtin.firstCells at hl ⊢;split at hl
 ·exact GJ d _ _ _ _ _ hl
 ·simp at hl ⊢;exact hl
 ·simp at hl ⊢;exact hl
 ·simp at hl
theorem FY(r:RH σ h w){nid:Nat}(hn:σ nid=none){e:TypeId}{s k n:Nat}{old new:List AV}{ov nv:List Value}{ts:Array TypeId}{t:TypeId}{l:List TypeId}{ty:TypeId}{base:Option Addr}{sLen sCap:Nat}{x:Value}{args:Array Value}
  (hts:ts.toList=t::l) (hni:lN P l=true) (hu:P.underlying t=some (.slice e)) (hs:bG P e=some s) (h0:0<s)
  (ha0:args[0]? =some (.slice base sLen sCap)) (ha1:args[1]? =some x) (hlen:(Builtin.lenOf x).run P w=.ok k w) (hneed:sLen+k=n) (hgt:sCap<n)
  (hold:(Builtin.firstCells s sLen (.slice base sLen sCap)).run P w=.ok ov.toArray w) (hov:RVs σ old ov) (hol:ov.length=sLen*s) (ho1:∀v∈ov,v.oneCell'=true)
  (hnew:(Builtin.firstCells s k x).run P w=.ok nv.toArray w) (hnv:RVs σ new nv) (hnl:nv.length=k*s) (hn1:∀v∈nv,v.oneCell'=true) (fz:Nat) (raw:Bool):
  cC P σ h w nid (oL P e s n (old++new) fz raw h nid) ((do pure (Next.value (<-Builtin.append_ ts ty args)):Sem Next).run P w):=by
 unfold oL;split
 ·rename_i z hz;obtain⟨zv,hz1,hz2⟩:=kO (σ:=σ) hz w;split
  ·rename_i zc hc;obtain⟨q1,q2⟩:=mJ hz2 hc;rw[bJ,aT];by_cases hok:zc.length=s/\o6 P e n=true
   ·obtain⟨o1,o2⟩:=hok;simp only[o1,o2,decide_true,Bool.and_self,cond_true];obtain⟨i,hi,hb1,hb2,hb3⟩:=aIr o2;simp only[p63] at hb2;have hzs:zv.cells.size=s:=by have:=q1.length;simp at this;omega
    let q:Question:=.appendCap n sCap e;let cap:=q.cut (w.tape w.drawn q);have hcap:n<=cap:=by simp only[cap,q,Question.cut];omega
    let w1:World:={w with drawn:=w.drawn+1};let rest:=Builtin.zeroCells zv.cells (cap-n);have hrs:rest.size=(cap-n)*s:=by simp[rest,Builtin.zeroCells,hzs]
    let c:Array Value:=ov.toArray++nv.toArray++rest;have hcs:c.size=cap*s:=by
     simp only[c,Array.size_append,List.size_toArray,hol,hnl,hrs];rw[<-Nat.add_mul,<-Nat.add_mul]
     congr 1
     omega
    let w':World:={w1 with heap:=w.heap.push (.cells c e (0,0))};have r1:RH σ h w1:=r.of_heap rfl;have hz1':(zeroValue e).run P w1=.ok zv w1:=by
     obtain⟨zv',k1,_⟩:=kO (σ:=σ) hz w1;have:zv'=zv:=by
      simp only[zeroValue,Sem.run_bind,tN hi,Result.andThen_ok] at k1 hz1;cases hzi:i.zero with
      |none=>rw[hzi] at hz1;simp at hz1
      |some v=>rw[hzi] at hz1 k1;simp at hz1 k1;rw[<-k1,hz1]
     rw[<-this];exact k1
    refine⟨.slice (some ⟨w.heap.size,0,none⟩) n cap,w',σ.put nid ⟨w.heap.size,0,c.size⟩,?_,?_,?_⟩
    ·have h48:¬Builtin.nextslicecap n sCap*i.bytes>2^48:=by
      have:=Nat.mul_le_mul_right i.bytes (aFb hgt);have e:2*n*i.bytes=2*(n*i.bytes):=by rw[Nat.mul_assoc]
      omega
     have hmax:IntKind.i64.max=9223372036854775807:=by decide
     have hold':=PM (P:=P) (w.drawn+1) s sLen hold;have hnew':=PM (P:=P) (w.drawn+1) s k hnew;have hch:(choose q).run P w=.ok cap w1:=by simp[choose,q,Question.forced,Sem.run,cap,w1]
     subst hneed;have:=YH (ty:=ty) hts hni hu hs hi ha0 ha1 hlen (by omega) (by omega) h48 hch hold' hnew' hz1'
     simp only[Sem.run_bind,this,newRow,run_newObj,Result.andThen_ok,Sem.run_pure];rfl
    ·have:=RV.slu (σ:=σ.put nid ⟨w.heap.size,0,c.size⟩) nid 0 n s cap ⟨w.heap.size,0,c.size⟩ (Map.put_same _ _ _) hcap h0 (by simp[hcs])
     simpa using this
    ·have hle:=Map.le_put (l:=⟨w.heap.size,0,c.size⟩) hn;refine Ext.alloc r hn c.size _ (.cells c e) w' rfl ⟨rfl,rfl,rfl⟩ ?_;have hlen':(old++new).length=n*s:=by rw[List.length_append,hov.length,hnv.length,hol,hnl,<-Nat.add_mul,hneed]
     refine .cells _ e fz raw c 0 0 (by simp[w']) (Nat.le_refl _) ?_ (fun j a hj=>?_) (fun j v _ _ hj=>?_) (fun j _ _=>by omega) (fun _=>.inl rfl) (.inl rfl)
     ·rw[hlen',hcs,Nat.zero_add];exact Nat.mul_le_mul_right s hcap
     ·obtain⟨v,k1,k2⟩:=(hov.app hnv).get hj;refine⟨v,?_,k2.mono hle⟩;have hjl:j<(ov++nv).length:=by
       rcases Nat.lt_or_ge j (ov++nv).length with h|h
       ·exact h
       ·rw[List.getElem?_eq_none h] at k1;cases k1
      simp only[c,Nat.zero_add];rw[Array.getElem?_append_left (by simpa using hjl),<-Array.getElem?_toList]
      simpa using k1
     ·have hm:=Array.mem_of_getElem? hj;simp only[c,Array.mem_append,List.mem_toArray] at hm;rcases hm with (hm|hm)|hm
      ·exact ho1 v hm
      ·exact hn1 v hm
      ·exact aJu q2 (cap-n) (by omega) v (by rw[Array.mem_toList_iff];exact hm)
   ·have:(decide (zc.length=s)&&o6 P e n)=false:=by rw[Bool.eq_false_iff];simp only[ne_eq,Bool.and_eq_true,decide_eq_true_eq];exact hok
    rw[this];trivial
  ·trivial
 ·trivial
theorem YG(r:RH σ h w){nid:Nat}(hn:σ nid=none){e:TypeId}{s k:Nat}{new:List AV}{d a:AV}{x y:Value}{ts:Array TypeId}{t:TypeId}{l:List TypeId}{ty:TypeId}{args:Array Value}
  (hts:ts.toList=t::l) (hni:lN P l=true) (hu:P.underlying t=some (.slice e)) (hs:bG P e=some s) (h0:0<s)
  (ha0:args[0]? =some y) (ha1:args[1]? =some x) (hy:RV σ d y) (hx:RV σ a x) (hc:fM a=some k) (hsrc:nO h s a=some new):
  cC P σ h w nid (gQ P e s k new d h nid) ((do pure (Next.value (<-Builtin.append_ ts ty args)):Sem Next).run P w):=by
 have hlen:=NY (P:=P) hc hx w;obtain⟨hnl,nv,n1,n2,n3,n4⟩:=TH (P:=P) r hsrc hc hx h0 (Nat.le_refl k);rw[List.take_of_length_le (by omega)] at n2
 unfold gQ;split
 ·
  cases hy;rw[bJ];by_cases hk:k=0
  ·subst hk;simp only[decide_true,cond_true];refine⟨.slice none 0 0,?_,.nils⟩;simp only[Sem.run_bind,zV hts hni hu hs ha0 ha1 hlen (Nat.le_refl _) n1,Result.andThen_ok,Sem.run_pure]
  ·simp only[hk,decide_false,cond_false];have:=FY (P:=P) (ty:=ty) (old:=[]) (ov:=[]) (n:=k) r hn hts hni hu hs h0 ha0 ha1 hlen (by omega) (by omega) (by simp[Builtin.firstCells]) .nil (by simp) (by simp) n1 n2 n3 n4 0 false
   simpa using this
 ·cases hy with|esl ad c=>
  rw[bJ];by_cases hk:k=0
  ·subst hk;simp only[decide_true,cond_true];have hnv:nv=[]:=List.length_eq_zero_iff.1 (by omega)
   refine⟨.slice (some ad) 0 c,?_,.esl ad c⟩;have:=zV (ty:=ty) hts hni hu hs ha0 ha1 hlen (by omega) n1
   simp only[Sem.run_bind,this,hnv,storeCells,Sem.run_pure,Result.andThen_ok]
  ·simp only[hk,decide_false,cond_false];trivial
 ·rename_i b o n s' cap;rw[bJ];by_cases e1:s=s'
  ·subst e1;simp only[decide_true,cond_true];obtain⟨L,c,hL,rfl,hnc,_,hle,hcap⟩:=o8 hy;rw[bJ];by_cases hk:k=0
   ·subst hk;simp only[decide_true,cond_true];have hnv:nv=[]:=List.length_eq_zero_iff.1 (by omega)
    refine⟨_,?_,hy⟩;have:=zV (ty:=ty) hts hni hu hs ha0 ha1 hlen (by omega) n1
    simp only[Sem.run_bind,this,hnv,storeCells,Sem.run_pure,Result.andThen_ok];rfl
   ·simp only[hk,decide_false,cond_false];split
    ·rename_i lb e' fz raw cl hb hcl;have hclc:=E1 r hcl hL h0 hcap;obtain⟨cc,lo,hi,hh,hcx,hclen,hcv,hc1,hcf,hcr⟩:=r.cells hb hL;have hmul:(n+k)*s<=c*s\/c<n+k:=by
      rcases Nat.lt_or_ge c (n+k) with h|h
      ·exact .inr h
      ·exact .inl (Nat.mul_le_mul_right s h)
     have hadd:(n+k)*s=n*s+k*s:=Nat.add_mul n k s;have inplace:n+k<=c->fz<=o+n*s->∃w' c',(Builtin.append_ ts ty args).run P w=.ok (.slice (some ⟨L.b,L.o+o,none⟩) (n+k) c) w'/\Upd L.b w w'/\
       w'.heap[L.b]? =some (.cells c' e' (lo,hi))/\c'.size=cc.size/\∀j,c'[j]? =if L.o+(o+n*s)<=j/\j<L.o+(o+n*s)+k*s then nv[j-(L.o+(o+n*s))]? else cc[j]?:=by
      intro hfit hfz;have hms:(n+k)*s<=c*s:=Nat.mul_le_mul_right s hfit;obtain⟨w',c',k1,k2,k3,k4,k5⟩:=HS P L.b (L.o+(o+n*s)) e' lo hi nv 0 w cc hh (by omega) n4 (fun j hj hj'=>hcf j (by omega) (by omega))
      refine⟨w',c',?_,k2,k3,k4,fun j=>by rw[k5 j,n3];simp only[Nat.add_zero]⟩
      have:=zV (ty:=ty) hts hni hu hs ha0 ha1 hlen hfit n1;rw[this];simp only[jJ];rw[show L.o+o+n*s=L.o+(o+n*s) by omega,k1]
      rfl
     rw[cL];by_cases hfit:n+k<=cl
     ·simp only[hfit,decide_true,cond_true];rw[cL,cL,aT];by_cases hok:o+(n+k)*s<=lb.length/\fz<=o+n*s
      ·obtain⟨ok1,ok2⟩:=hok;simp only[ok1,ok2,decide_true,Bool.and_self,cond_true];obtain⟨w',c',k1,k2,k3,k4,k5⟩:=inplace (by omega) ok2
       refine⟨.value (.slice (some ⟨L.b,L.o+o,none⟩) (n+k) c),.slice (some ⟨L.b,L.o+o,none⟩) (n+k) c,w',by simp[k1],.inl rfl,?_,?_⟩
       ·cases cap with
        |some c'=>simp only[kQ] at hcap;subst hcap;exact .slx _ _ _ _ _ L hL (by omega) h0 hle
        |none=>exact .slu _ _ _ _ _ L hL (by omega) h0 hcap
       ·refine Ext.upd r hb hL (AB.ro_of _ (by omega)) k2 ?_
        have hseg:=qQ lb (o+n*s) new (by rw[hnl];omega)
        refine .cells _ e' fz raw c' lo hi k3 (by omega) (by rw[hseg];simp[hnl];omega) (fun i a hi'=>?_) (fun i v hi1 hi2 hi3=>?_) hcf hcr (.inl (r.org hb hL (.inr (by omega))))
        ·rw[hseg] at hi';rw[k5];by_cases hin:o+n*s<=i/\i<o+n*s+k*s
         ·rw[if_pos (by omega)]
          rw[List.append_assoc,List.getElem?_append_right (by simp;omega),List.getElem?_append_left (by simp[hnl];omega)] at hi'
          have:min (o+n*s) lb.length=o+n*s:=by omega
          simp only[List.length_take,this] at hi';obtain⟨v,q1,q2⟩:=n2.get hi';exact⟨v,by rw[show L.o+i-(L.o+(o+n*s))=i-(o+n*s) by omega];exact q1,q2⟩
         ·rw[if_neg (by omega)]
          refine hcv i a ?_;by_cases hlt:i<o+n*s
          ·rw[List.append_assoc,List.getElem?_append_left (by simp;omega),List.getElem?_take] at hi'
           simpa[hlt] using hi'
          ·rw[List.getElem?_append_right (by simp[hnl];omega),List.getElem?_drop] at hi'
           have:min (o+n*s) lb.length=o+n*s:=by omega
           simp only[List.length_append,List.length_take,this,hnl] at hi';rw[show o+n*s+k*s+(i-(o+n*s+k*s))=i by omega] at hi'
           exact hi'
        ·rw[k5] at hi3;split at hi3
         ·exact n4 v (List.mem_of_getElem? hi3)
         ·exact hc1 i v hi1 hi2 hi3
      ·have:(decide (o+(n+k)*s<=lb.length)&&decide (fz<=o+n*s))=false:=by rw[Bool.eq_false_iff];simp only[ne_eq,Bool.and_eq_true,decide_eq_true_eq];exact hok
       rw[this];trivial
     ·simp only[hfit,decide_false,cond_false];rw[cL,aT];by_cases hol:o+n*s<=lb.length
      ·simp only[hol,decide_true,cond_true];have hld:fF h b o (n*s)=some (tk (n*s) (drp lb o)):=by unfold fF;rw[hb];simp only[cL,aT,hol,decide_true,cond_true]
       obtain⟨ov,o1,o2,o3,o4,_⟩:=wL (P:=P) r hld hL;have hfirst:(Builtin.firstCells s n (.slice (some ⟨L.b,L.o+o,none⟩) n c)).run P w=.ok ov.toArray w:=by simpa[Builtin.firstCells] using o2
       rw[dE];split
       ·rename_i c';simp only[kQ] at hcap;subst hcap;have hcl':cl=c':=by simp only[eF,Option.some.injEq] at hcl;exact hcl.symm
        exact FY (P:=P) (ty:=ty) r hn hts hni hu hs h0 ha0 ha1 hlen rfl (by omega) hfirst o3 o1 o4 n1 n2 n3 n4 0 false
       ·rw[cL,bJ];by_cases hok:fz<=o+n*s/\e=e'
        ·obtain⟨ok1,rfl⟩:=hok;simp only[ok1,decide_true,Bool.and_self,cond_true];rw[bJ];by_cases ho0:o=0
         case neg=>simp only[ho0,decide_false,cond_false];trivial
         rw[decide_eq_true ho0,cond_true];rcases Nat.lt_or_ge c (n+k) with hgt|hfitc
         ·
          have r':=(Ext.drop (N:=fun _=>False) r b hb (AB.ro_of _ (by omega))).rh
          have hg:=FY (P:=P) (ty:=ty) r' hn hts hni hu hs h0 ha0 ha1 hlen rfl hgt hfirst o3 o1 o4 n1 n2 n3 n4 (fzOff fz o) raw;unfold cC at hg ⊢;split at hg
          ·exact hg
          ·obtain⟨m,u,w',k1,k2,k3,k4⟩:=hg;exact⟨m,u,w',k1,k2,k3,(Ext.drop (N:=fun _=>False) r b hb (AB.ro_of _ (by omega))).trans k4 (fun _ h=>h) (fun _ h=>h)⟩
          ·obtain⟨u,w',σ',k1,k2,k3⟩:=hg;exact⟨u,w',σ',k1,k2,(Ext.drop (N:=fun _=>False) r b hb (AB.ro_of _ (by omega))).trans k3 (fun _ h=>h.elim) (fun _ h=>h)⟩
          ·exact hg
          ·trivial
         ·
          unfold oL;split
          ·rename_i z hz;split
           ·rename_i zc hzc;rw[bJ,aT];by_cases hzok:zc.length=s/\o6 P e (n+k)=true
            ·simp only[hzok.1,hzok.2,decide_true,Bool.and_self,cond_true];obtain⟨w',c',k1,k2,k3,k4,k5⟩:=inplace hfitc ok1;have hms:(n+k)*s<=c*s:=Nat.mul_le_mul_right s hfitc;have hmm:L.o+o+c*s=L.x:=hcap;refine⟨.slice (some ⟨L.b,L.o+o,none⟩) (n+k) c,w',σ.put nid ⟨L.b,L.o+o,L.x⟩,by simp[k1],?_,?_⟩
             ·have:=RV.slu (σ:=σ.put nid ⟨L.b,L.o+o,L.x⟩) nid 0 (n+k) s c _ (Map.put_same _ _ _) hfitc h0 (by simpa using hmm)
              simpa using this
             ·have hle':=Map.le_put (l:=⟨L.b,L.o+o,L.x⟩) hn;refine Ext.move r hb hL (AB.ro_of _ (by omega)) hn rfl k2 ?_
              have hlen':(tk (n*s) (drp lb o)++new).length=(n+k)*s:=by rw[List.length_append,o3.length,o1,hnl];omega
              have hfo:=aCg fz o;refine .cells _ e (fzOff fz o) raw c' lo hi k3 (by simp only;omega) (by simp only;omega) (fun i a hi'=>?_) (fun i v hi1 hi2 hi3=>?_) (fun i hi1 hi2=>hcf i (by simp only at hi1;omega) hi2) (fun hr=>?_) (.inl (by have:=r.org hb hL (.inr (by omega));simp only;omega))
              ·simp only;rw[k5];by_cases hin:n*s<=i
               ·have hi2:i<(n+k)*s:=by
                 rcases Nat.lt_or_ge i ((n+k)*s) with h|h
                 ·exact h
                 ·rw[List.getElem?_eq_none (by omega)] at hi';cases hi'
                rw[if_pos (by omega)]
                rw[List.getElem?_append_right (by rw[o3.length,o1];exact hin),o3.length,o1] at hi'
                obtain⟨v,q1,q2⟩:=n2.get hi';exact⟨v,by rw[show L.o+o+i-(L.o+(o+n*s))=i-n*s by omega];exact q1,q2.mono hle'⟩
               ·rw[if_neg (by omega)]
                rw[List.getElem?_append_left (by rw[o3.length,o1];omega),eP,dI,List.getElem?_take,if_pos (by omega),List.getElem?_drop] at hi'
                obtain⟨v,q1,q2⟩:=hcv (o+i) a hi';exact⟨v,by rw[Nat.add_assoc];exact q1,q2.mono hle'⟩
              ·simp only at hi1 hi2;rw[k5] at hi3;split at hi3
               ·exact n4 v (List.mem_of_getElem? hi3)
               ·exact hc1 i v (by omega) hi2 hi3
              ·simp only;rcases hcr hr with e|⟨e0,e⟩
               ·exact .inl e
               ·exact .inr ⟨aCh e0,by omega⟩
            ·have:(decide (zc.length=s)&&o6 P e (n+k))=false:=by rw[Bool.eq_false_iff];simp only[ne_eq,Bool.and_eq_true,decide_eq_true_eq];exact hzok
             rw[this];trivial
           ·trivial
          ·trivial
        ·have:(decide (fz<=o+n*s)&&decide (e=e'))=false:=by rw[Bool.eq_false_iff];simp only[ne_eq,Bool.and_eq_true,decide_eq_true_eq];exact hok
         rw[this];trivial
      ·simp only[hol,decide_false,cond_false];trivial
    ·trivial
  ·simp only[e1,decide_false,cond_false];trivial
 ·trivial
theorem YF(r:RH σ h w){nid:Nat}(hn:σ nid=none){ts:Array TypeId}{d a:AV}{x y:Value}{ty:TypeId}{args:Array Value}
  (ha0:args[0]? =some y) (ha1:args[1]? =some x) (hy:RV σ d y) (hx:RV σ a x):
  cC P σ h w nid (zU P ts.toList d a h nid) ((do pure (Next.value (<-Builtin.append_ ts ty args)):Sem Next).run P w):=by
 unfold zU;split
 ·rename_i t l hts;split
  ·rename_i e hu;split
   ·rename_i s k hs hk;rw[bO];by_cases hok:0<s/\lN P l=true
    ·obtain⟨h0,hni⟩:=hok;simp only[h0,hni,decide_true,Bool.and_self,cond_true];split
     ·trivial
     ·rename_i new hsrc;exact YG r hn hts hni hu hs h0 ha0 ha1 hy hx hk hsrc
    ·have:(decide (0<s)&&lN P l)=false:=by rw[Bool.eq_false_iff];simp only[ne_eq,Bool.and_eq_true,decide_eq_true_eq];exact hok
     rw[this];trivial
   ·trivial
  ·trivial
 ·trivial
end
section
variable {P : Program} {σ : Map} {h : H} {w : World}
theorem aBf(r:RH σ h w){ts:Array TypeId}{d a:AV}{x y:Value}{ty:TypeId}{args:Array Value}(nid:Nat)
  (ha0:args[0]? =some y) (ha1:args[1]? =some x) (hy:RV σ d y) (hx:RV σ a x):
  cC P σ h w nid (vT P ts.toList d a h) ((do pure (Next.value (<-Builtin.copy_ ts ty args)):Sem Next).run P w):=by
 unfold vT;split
 ·rename_i t l n k hts hn hk;have ht0:ts[0]? =some t:=by rw[<-Array.getElem?_toList,hts];simp
  split
  ·rename_i e hu;split
   ·rename_i s hs;rw[bO];by_cases h0:0<s
    ·simp only[h0,decide_true,cond_true];have hm:(bif Nat.ble n k then n else k)=Nat.min k n:=by
      rw[cL];by_cases h:n<=k
      ·simp[h,Nat.min_def]<;>omega
      ·simp[h,Nat.min_def]<;>omega
     rw[hm];split
     ·rename_i new hsrc;have hmk:Nat.min k n<=k:=Nat.min_le_left k n;obtain⟨hnl,nv,n1,n2,n3,n4⟩:=TH (P:=P) r hsrc hk hx h0 hmk;have hlen:=NY (P:=P) hk hx w;split
      ·rename_i b o n' s' cap;simp only[fM,Option.some.injEq] at hn;subst hn;rw[bJ];by_cases e1:s=s'
       ·subst e1;simp only[decide_true,cond_true];obtain⟨L,c,hL,rfl,_⟩:=o8 hy;split
        ·rename_i h' hst;rw[eP] at hst;obtain⟨w',k1,k2⟩:=HX (P:=P) r hst hL n2 n4 (fun _=>False);refine⟨.value (goInt (Nat.min k n')),goInt (Nat.min k n'),w',?_,.inl rfl,.int _ _,k2⟩;simp only[Builtin.copy_,ht0,ha0,ha1,Sem.run_bind,run_underlying hu,Result.andThen_ok,hlen,cZ hs,n1,k1,Sem.run_pure]
        ·trivial
       ·simp only[e1,decide_false,cond_false];trivial
      ·cases hy;simp only[fM,Option.some.injEq] at hn;subst hn;refine⟨goInt 0,?_,.int _ _⟩;simp only[Nat.min_zero] at n1;have n1':(Builtin.firstCells s (Nat.min k 0) x).run P w=.ok nv.toArray w:=by simpa using n1
       simp only[Builtin.copy_,ht0,ha0,ha1,Sem.run_bind,run_underlying hu,Result.andThen_ok,hlen,cZ hs,n1',Sem.run_pure];simp
      ·cases hy with|esl ad c=>
       simp only[fM,Option.some.injEq] at hn;subst hn;have hnv:nv=[]:=List.length_eq_zero_iff.1 (by rw[n3];simp)
       refine⟨goInt 0,?_,.int _ _⟩;have n1':(Builtin.firstCells s (Nat.min k 0) x).run P w=.ok #[] w:=by rw[n1,hnv]
       simp only[Builtin.copy_,ht0,ha0,ha1,Sem.run_bind,run_underlying hu,Result.andThen_ok,hlen,cZ hs,n1',Sem.run_pure];simp[storeCells]
      ·trivial
     ·trivial
    ·simp only[h0,decide_false,cond_false];trivial
   ·trivial
  ·trivial
 ·trivial
theorem aJv{zc:List AV}{zv:Value}(hz:RVs σ zc zv.cells.toList)(h1:∀v∈zv.cells.toList,v.oneCell'=true){s:Nat}(hs:zc.length=s)(h0:0<s)(n:Nat):
  RVs σ (reps n zc) (Builtin.zeroCells zv.cells n).toList/\(∀v∈(Builtin.zeroCells zv.cells n).toList,v.oneCell'=true):=by
 have hzl:zv.cells.size=s:=by have:=hz.length;simp at this;omega
 have:=IQ hz h1 hs h0 n;unfold Builtin.zeroCells;rw[hzl] at this ⊢;exact this
theorem aB8(r:RH σ h w){t:TypeId}{ts:Array TypeId}{a:AV}{x:Value}{xs:Array Value}(ht:ts[0]? =some t)(hxs:xs[0]? =some x)(hx:RV σ a x)(ty:TypeId)(nid:Nat):
  cC P σ h w nid (E3 P t a h) ((do pure (Next.value (<-Builtin.clear_ ts ty xs)):Sem Next).run P w):=by
 unfold E3;split
 ·rename_i e hu;cases hx;refine⟨.tuple #[],?_,.tup [] #[] .nil⟩;simp[Builtin.clear_,ht,hxs,run_underlying hu]
 ·rename_i e hu;cases hx;refine⟨.tuple #[],?_,.tup [] #[] .nil⟩;simp[Builtin.clear_,ht,hxs,run_underlying hu]
 ·rename_i e b o n s cap hu;obtain⟨L,c,hL,rfl,_,h0,_⟩:=o8 hx;split
  ·rename_i z hz;obtain⟨zv,hz1,hz2⟩:=kO (σ:=σ) hz w;split
   ·rename_i zc hzc;obtain⟨q1,q2⟩:=mJ hz2 hzc;rw[bJ,aT];by_cases hzl:zc.length=s
    ·simp only[hzl,decide_true,cond_true];split
     ·rename_i h' hst;obtain⟨p1,p2⟩:=aJv q1 q2 hzl h0 n;obtain⟨w',k1,k2⟩:=HX (P:=P) r hst hL p1 p2 (fun _=>False);refine⟨.value (.tuple #[]),.tuple #[],w',?_,.inl rfl,.tup [] #[] .nil,k2⟩;cases n with
      |zero=>
       have hemp:(Builtin.zeroCells zv.cells 0).toList=[]:=by simp[Builtin.zeroCells]
       rw[hemp] at k1;simp only[storeCells,Sem.run_pure,Result.ok.injEq,true_and] at k1;subst k1;simp[Builtin.clear_,ht,hxs,run_underlying hu]
      |succ n=>simp only[Builtin.clear_,ht,hxs,Sem.run_bind,run_underlying hu,Result.andThen_ok,hz1,k1,Sem.run_pure]
     ·trivial
    ·simp only[hzl,decide_false,cond_false];trivial
   ·trivial
  ·trivial
 ·rename_i k e b hu;cases hx with|map _ L hL=>
  split
  ·rename_i es hb;obtain⟨m,clock,hh,he⟩:=r.mapAt hb hL;have hlt:L.b<w.heap.size:=r.old b L hL;refine⟨.value (.tuple #[]),.tuple #[],{w with heap:=w.heap.setIfInBounds L.b (.map #[] clock)},?_,.inl rfl,.tup [] #[] .nil,?_⟩
   ·simp[Builtin.clear_,ht,hxs,run_underlying hu,getObj,setObj,Sem.run,hh]
   ·refine Ext.upd r hb hL rfl ⟨by simp,fun c hc=>by simp[Array.getElem?_setIfInBounds_ne (Ne.symm hc)],eE.refl _⟩ ?_
    exact .map [] #[] clock (by simp[hlt]) .nil
  ·trivial
 ·trivial
theorem RVs.head{a:AV}{l:List AV}{m:List Value}(h:RVs σ (a::l) m):∃x m',m=x::m'/\RV σ a x/\RVs σ l m':=by cases h with|cons _ v _ m h hl=>exact⟨v,m,rfl,h,hl⟩
theorem aBk(nid:Nat){a:AV}{x:Value}(hx:RV σ a x)(ts:Array TypeId)(ty:TypeId):
  cC P σ h w nid (vU a) ((do pure (Next.value (<-Builtin.unsafeSliceData_ ts ty #[x])):Sem Next).run P w):=by
 unfold vU;split
 ·cases hx;exact⟨.pointer none,rfl,.nilp⟩
 ·rename_i b o n s cp;rw[bO];by_cases hn:0<n
  ·rw[decide_eq_true hn,cond_true];have main:∀(L:Loc) (c:Nat),σ b=some L->n<=c->cC P σ h w nid (.val (.ptr b o)) ((do pure (Next.value (<-Builtin.unsafeSliceData_ ts ty #[.slice (some ⟨L.b,L.o+o,none⟩) n c])):Sem Next).run P w):=by intro L c hL hc;exact⟨.pointer (some ⟨L.b,L.o+o,none⟩),by simp only[Sem.run_bind,Lib.run_unsafeSliceData_row w ts ty _ n c (by omega),Result.andThen_ok,Sem.run_pure],.ptr b o L hL⟩
   cases hx with
   |slx _ _ _ _ c L hL hc _ _=>exact main L c hL hc
   |slu _ _ _ _ c L hL hc _ _=>exact main L c hL hc
  ·simp only[hn,decide_false,cond_false];trivial
 ·trivial
theorem aJV(r:RH σ h w)(nid:Nat)(ts:Array TypeId){p n:AV}{x y:Value}(hx:RV σ p x)(hy:RV σ n y)(ty:TypeId):
  cC P σ h w nid (xI P ts.toList p n h) ((do pure (Next.value (<-Builtin.unsafeString_ ts ty #[x,y])):Sem Next).run P w):=by
 unfold xI;split
 ·rename_i t t' hts;have ets:ts=#[t,t']:=by cases ts;simp_all
  subst ets;cases hx;cases hy;exact⟨.string .empty,by rw[Sem.run_bind];erw [Lib.run_unsafeString_none w t t' ty none];rfl,.str _ _ rfl⟩
 ·rename_i t t' b m hts;have ets:ts=#[t,t']:=by cases ts;simp_all
  subst ets;cases hx with|ptr _ _ L hL=>
  cases hy;split
  ·rename_i u l e fz hu hb;split
   ·rename_i bs hsz hbs;rw[bJ,bJ,bO,aT];by_cases hok:e=u/\bs.length=m+1/\m+1<p63
    ·obtain⟨rfl,hlen,hlt⟩:=hok;simp only[hlen,hlt,decide_true,Bool.and_self,cond_true];obtain⟨c,lo,hi,hh,h1,h2,h3,h4,h5,h6⟩:=r.cells hb hL;have hL0:=r.org hb hL (.inl rfl);rw[eP] at hbs;have hcs:=z8 hsz;have hsh:w.shape? L.b=some (e,c.size):=by simp[World.shape?,hh]
     have hvs:∃vs,RVs σ (l.take (m+1)) vs/\∀(j:Nat) v,vs[j]? =some v->w.cell? ⟨L.b,j,none⟩=some v:=by
      refine⟨(List.range (l.take (m+1)).length).map (fun j=>(c[L.o+j]?).getD undef),RVs.of_get (by simp) fun i a v hi hv=>?_,fun j v hj=>?_⟩
      ·have hi2:l[i]? =some a:=by
        rw[List.getElem?_take] at hi;split at hi
        ·exact hi
        ·cases hi
       obtain⟨v',q1,q2⟩:=h3 _ a hi2;rw[List.getElem?_map] at hv;have hlt':i<(l.take (m+1)).length:=(List.getElem?_eq_some_iff.1 hi).1;rw[List.getElem?_range hlt'] at hv;simp only[Option.map_some,Option.some.injEq] at hv;rw[q1] at hv;simp only[Option.getD_some] at hv;rw[<-hv];exact q2
      ·rw[List.getElem?_map] at hj;obtain⟨i,hi,hv⟩:=Option.map_eq_some_iff.1 hj;obtain⟨hi1,hi2⟩:=List.getElem?_eq_some_iff.1 hi;simp only[List.getElem_range] at hi2;subst hi2;simp only[List.length_range] at hi1;have ha:(l.take (m+1))[j]? =some (l.take (m+1))[j]:=List.getElem?_eq_getElem hi1;rw[List.getElem?_take] at ha;split at ha
       ·obtain⟨v',q1,_⟩:=h3 _ _ ha;rw[q1] at hv;rw[hL0,Nat.zero_add] at q1;rw[pY hh,q1];simpa using hv
       ·cases ha
     obtain⟨vs,hvr,hcell⟩:=hvs;obtain⟨us,e1,e2⟩:=YY hbs hvr;have hus:us.length=m+1:=by rw[<-hlen,<-e2];simp
     have hll:m+1<=l.length:=by have:=hvr.length;rw[e1] at this;simp at this;omega
     have hlt':m+1<9223372036854775808:=hlt;have hrun:=Lib.run_unsafeString_row (P:=P) w t t' ty e hu hcs L.b c.size hsh us (by intro e;rw[e] at hus;cases hus) (by omega) (by omega) (fun j x hj=>by rw[jJ,Nat.zero_add];refine hcell j _ ?_;rw[e1,List.getElem?_map,hj];rfl)
     rw[hus] at hrun;have hup:Upd L.b w (w.freeze ⟨L.b,0,none⟩ (m+1)):=by
      refine⟨by simp[World.freeze],fun d hd=>?_,?_⟩
      ·simp only[World.freeze,Nat.add_one_ne_zero,if_false,Array.getElem?_modify,Ne.symm hd]
      ·simp[World.freeze,eE]
     have hadr:(⟨L.b,L.o+0,none⟩:Addr)=⟨L.b,0,none⟩:=by rw[hL0]
     rw[hadr];refine⟨.value (.string ⟨us.toArray⟩),.string ⟨us.toArray⟩,w.freeze ⟨L.b,0,none⟩ (m+1),?_,.inl rfl,.str _ _ (by rw[wW,e2]),?_⟩
     ·rw[Sem.run_bind]
      erw [hrun]
      rfl
     ·refine Ext.upd r hb hL rfl hup ?_;have hfz':(bif Nat.ble fz (m+1) then m+1 else fz)=max fz (m+1):=by
       rw[cL];by_cases hc:fz<=m+1
       ·rw[decide_eq_true hc,cond_true];omega
       ·simp only[hc,decide_false,cond_false];omega
      rw[hfz'];refine .cells l e _ false c (if lo=hi then 0 else min lo 0) (if lo=hi then 0+(m+1) else max hi (0+(m+1))) ?_ h1 h2 h3 h4 (fun i hi1 hi2=>?_) (fun _=>.inr ⟨by omega,?_⟩) (.inl hL0)
      ·simp only[World.freeze,Nat.add_one_ne_zero,if_false,Array.getElem?_modify,if_true,hh,Option.map_some,beq_iff_eq];split<;>rfl
      ·rcases h6 rfl with e|⟨e,e'⟩
       ·rw[if_pos e,if_pos e];omega
       ·split<;>omega
      ·rcases h6 rfl with e|⟨e,e'⟩
       ·rw[if_pos e];omega
       ·split<;>omega
    ·have:(decide (e=u)&&decide (bs.length=m+1)&&decide (m+1<p63))=false:=by rw[Bool.eq_false_iff];simp only[ne_eq,Bool.and_eq_true,decide_eq_true_eq];exact fun h=>hok ⟨h.1.1,h.1.2,h.2⟩
     rw[this];trivial
   ·trivial
  ·trivial
 ·trivial
theorem YV(r:RH σ h w){nid:Nat}(hn:σ nid=none)(b:Builtin)(ts:Array TypeId)(ty:TypeId)(consts:Array Bool){args:List AV}{vs:Array Value}(hv:RVs σ args vs.toList):
  cC P σ h w nid (dR P b ts.toList args h nid) ((builtin b ts ty consts vs).run P w):=by
 have get0:∀{x:Value} {m:List Value},vs.toList=x::m->vs[0]? =some x:=fun e=>by rw[<-Array.getElem?_toList,e];simp
 have get1:∀{x y:Value} {m:List Value},vs.toList=x::y::m->vs[1]? =some y:=fun e=>by rw[<-Array.getElem?_toList,e];simp
 have t0:∀{t:TypeId} {l:List TypeId},ts.toList=t::l->ts[0]? =some t:=fun e=>by rw[<-Array.getElem?_toList,e];simp
 unfold dR;split
 ·obtain⟨x,m,e,hx,_⟩:=hv.head;split
  ·rename_i t l hts;exact aFE r (t0 hts) (get0 e) hx ty nid
  ·trivial
 ·obtain⟨x,m,e,hx,_⟩:=hv.head;split
  ·rename_i t l hts;exact aB6 (t0 hts) (get0 e) hx ty nid
  ·trivial
 ·obtain⟨x,m,e,hx,hm⟩:=hv.head;obtain⟨y,m',e',hy,_⟩:=hm.head;subst e';exact YF r hn (get0 e) (get1 e) hx hy
 ·obtain⟨x,m,e,hx,hm⟩:=hv.head;obtain⟨y,m',e',hy,_⟩:=hm.head;subst e';exact aBf r nid (get0 e) (get1 e) hx hy
 ·obtain⟨x,m,e,hx,_⟩:=hv.head;split
  ·rename_i t l hts;exact aB8 r (t0 hts) (get0 e) hx ty nid
  ·trivial
 ·obtain⟨x,m,e,hx,hm⟩:=hv.head;refine nD fun v hf=>?_;obtain⟨u,k1,k2⟩:=FW (P:=P) (g:=Builtin.max2) (fun h1 h2 h3 w=>aF2 h1 h2 h3 w) hf hx hm w;exact⟨u,by simp[builtin,Builtin.max_,e,k1],k2⟩
 ·obtain⟨x,m,e,hx,hm⟩:=hv.head;refine nD fun v hf=>?_;obtain⟨u,k1,k2⟩:=FW (P:=P) (g:=Builtin.min2) (fun h1 h2 h3 w=>aF6 h1 h2 h3 w) hf hx hm w;exact⟨u,by simp[builtin,Builtin.min_,e,k1],k2⟩
 ·obtain⟨x,m,e,hx,hm⟩:=hv.head;cases hm;have ev:vs=#[x]:=by cases vs;simp_all
  subst ev;exact aBk nid hx ts ty
 ·obtain⟨x,m,e,hx,hm⟩:=hv.head;obtain⟨y,m',e',hy,hm'⟩:=hm.head;cases hm';subst e';have ev:vs=#[x,y]:=by cases vs;simp_all
  subst ev;exact aJV r nid ts hx hy ty
 ·trivial
theorem HL{env:Env}{ρ:Operand->Value}{l:List Operand}(h:∀x∈l,RV σ (rd env x) (ρ x)):RVs σ (l.map (rd env)) (l.map ρ):=RVs.map _ _ l h
theorem aBX(r:RH σ h w){nid:Nat}(hn:σ nid=none)(c:Call)(ty:TypeId){env:Env}{ρ:Operand->Value}(hρ:∀x∈c.operands,RV σ (rd env x) (ρ x)):
  cC P σ h w nid (cT P env c h nid) ((do let d <-resolve ρ c ty;invoke d.target d.args:Sem Next).run P w):=by
 have hargs:RVs σ (c.args.toList.map (rd env)) (c.args.map ρ).toList:=by rw[Array.toList_map];exact HL fun x hx=>hρ x (by simp only[Call.operands,Array.mem_append];exact .inr (Array.mem_toList_iff.1 hx))
 unfold cT;split
 ·rename_i b hc;simp only[resolve,hc,pure_bind,invoke];exact YV r hn b c.argTypes ty _ hargs
 ·rename_i f hc;have hf:=hρ f (by simp[Call.operands,hc])
  split
  ·rename_i g first cap hrd
   rw[hrd] at hf;generalize hff:ρ f=fv at hf;cases hf with|func _ _ _ f' c' hf' hc'=>
   refine⟨f'.toList++((c.args.map ρ).toList++c'.toList),?_,?_⟩
   ·rw[dE,dE];exact hf'.app (hargs.app hc')
   ·simp only[resolve,hc,hff,Deferred.ofValue,pure_bind,invoke]
    congr 2
    apply Array.ext';simp
  ·trivial
 ·trivial
theorem RR(r:RH σ h w){nid:Nat}(hn:σ nid=none)(o:Oper){env:Env}{ρ:Operand->Value}(hρ:∀x∈o.op.operands,RV σ (rd env x) (ρ x)):
  cC P σ h w nid (opA P o.op env h nid) ((execOp ρ o).run P w):=by
 obtain⟨dst,op,ty,pos,after,guard⟩:=o;simp only at hρ ⊢;have hro:∀{x:Option Operand},(∀y∈x,RV σ (rd env y) (ρ y))->RO σ (rdO env x) (x.map ρ):=fun {x} hx=>by
  cases x with
  |none=>trivial
  |some x=>exact hx x rfl
 have hparts:∀(ps:Array (Nat×Operand)),(∀x∈(ps.toList.map (·.2)).toArray,RV σ (rd env x) (ρ x))->
   (ps.toList.map fun p=>(p.1,rd env p.2)).length=(ps.map fun (i,x)=>(i,ρ x)).toList.length/\
   ∀(i:Nat) p q,(ps.toList.map fun p=>(p.1,rd env p.2))[i]? =some p->(ps.map fun (i,x)=>(i,ρ x)).toList[i]? =some q->p.1=q.1/\RV σ p.2 q.2:=by
  intro ps hps;refine⟨by simp,fun i p q h1 h2=>?_⟩
  simp only[List.getElem?_map,Option.map_eq_some_iff,Array.toList_map] at h1 h2;obtain⟨a,ha,rfl⟩:=h1;obtain⟨b,hb,rfl⟩:=h2;rw[ha] at hb;cases hb;refine⟨rfl,hps a.2 ?_⟩;simp only[List.mem_toArray,List.mem_map];exact⟨a,List.mem_of_getElem? ha,rfl⟩
 cases op<;>simp only[opA]
 case move x=>exact⟨ρ x,by simp[execOp],hρ x (by simp[Op.operands])⟩
 case assign x=>exact⟨ρ x,by simp[execOp],hρ x (by simp[Op.operands])⟩
 case pick c a b=>
  have hc:=hρ c (by simp[Op.operands])
  split
  ·rename_i t hrd;rw[hrd] at hc;generalize hcc:ρ c=cv at hc;cases hc;refine⟨if t then ρ a else ρ b,by simp[execOp,hcc,asBool],?_⟩
   cases t
   ·simpa using hρ b (by simp[Op.operands])
   ·simpa using hρ a (by simp[Op.operands])
  ·trivial
 case alloc e=>
  split
  ·rename_i z hz;obtain⟨zv,hz1,hz2⟩:=kO (σ:=σ) hz w;have:=Q5 (P:=P) r hn e hz2 (fun a=>.pointer (some a)) rfl;simpa[execOp,Instr.alloc,hz1] using this
  ·trivial
 case box e x=>
  have:=Q5 (P:=P) r hn e (hρ x (by simp[Op.operands])) (fun a=>.pointer (some a)) rfl
  simpa[execOp,Instr.box] using this
 case build t ps=>
  refine nD fun v hv=>?_;obtain⟨h1,h2⟩:=hparts ps (by simpa[Op.operands] using hρ)
  obtain⟨u,k1,k2⟩:=YU hv h1 h2 w;exact⟨u,by simp only[execOp,Sem.run_bind,k1,Result.andThen_ok,Sem.run_pure],k2⟩
 case buildSlice t n ps=>
  obtain⟨h1,h2⟩:=hparts ps (by simpa[Op.operands] using hρ)
  exact z0 r hn h1 h2
 case load t a=>
  refine nD fun v hv=>?_;obtain⟨u,k1,k2⟩:=qK (P:=P) r hv (hρ a (by simp[Op.operands]))
  exact⟨u,by simp only[execOp,Sem.run_bind,k1,Result.andThen_ok,Sem.run_pure],k2⟩
 case store t a x=>
  split
  ·rename_i h' hs;obtain⟨w',k1,k2⟩:=aJJ (P:=P) r hs (hρ a (by simp[Op.operands])) (hρ x (by simp[Op.operands])) (fun _=>False)
   exact⟨.skip,undef,w',by simp only[execOp,Sem.run_bind,k1,Result.andThen_ok,Sem.run_pure],.inr ⟨rfl,rfl⟩,RV.undef,k2⟩
  ·trivial
 case nilCheck x=>
  have hx:=hρ x (by simp[Op.operands])
  split
  ·rename_i b o hrd;rw[hrd] at hx;generalize hxx:ρ x=xv at hx;have hx':=hx;cases hx with|ptr _ _ L hL=>exact⟨_,by simp[execOp,hxx],hx'⟩
  ·rename_i t v hrd;rw[hrd] at hx;generalize hxx:ρ x=xv at hx;have hx':=hx;cases hx;exact⟨_,by simp[execOp,hxx],hx'⟩
  ·rename_i f a b hrd;rw[hrd] at hx;generalize hxx:ρ x=xv at hx;have hx':=hx;cases hx;exact⟨_,by simp[execOp,hxx],hx'⟩
  ·trivial
 case binOp op t x y ty'=>
  refine nD fun v hv=>?_;obtain⟨u,k1,k2⟩:=YN hv (hρ x (by simp[Op.operands])) (hρ y (by simp[Op.operands])) w
  exact⟨u,by simp only[execOp,Sem.run_bind] at k1 ⊢;rw[k1];rfl,k2⟩
 case unOp op t x=>
  refine nD fun v hv=>?_;obtain⟨u,k1,k2⟩:=aJb (P:=P) hv (hρ x (by simp[Op.operands])) w
  exact⟨u,by simp only[execOp,Sem.run_bind,k1,Result.andThen_ok,Sem.run_pure],k2⟩
 case convert s d x=>exact aBe r hn (hρ x (by simp[Op.operands]))
 case makeInterface t x=>
  split
  ·trivial
  ·rename_i u hni hu;refine⟨.iface t (ρ x),?_,.ifc _ _ _ (hρ x (by simp[Op.operands]))⟩
   cases u<;>first|exact (hni _ rfl).elim|(simp[execOp,Instr.makeInterface,run_underlying hu])
  ·trivial
 case makeFunc fn fs cs=>
  refine⟨.func fn (fs.map ρ) (cs.map ρ),by simp[execOp,Instr.makeFunc],.func _ _ _ _ _ ?_ ?_⟩
  ·rw[Array.toList_map];exact HL fun x hx=>hρ x (by simp only[Op.operands,Array.mem_append];exact .inl (Array.mem_toList_iff.1 hx))
  ·rw[Array.toList_map];exact HL fun x hx=>hρ x (by simp only[Op.operands,Array.mem_append];exact .inr (Array.mem_toList_iff.1 hx))
 case makeMap t rr=>
  cases rr with
  |some _=>trivial
  |none=>
   refine⟨.map (some w.heap.size),{w with heap:=w.heap.push (.map #[] 0)},σ.put nid ⟨w.heap.size,0,0⟩,by simp[execOp,Instr.makeMap],?_,?_⟩
   ·have:=RV.map (σ:=σ.put nid ⟨w.heap.size,0,0⟩) nid _ (Map.put_same _ _ _);simpa using this
   ·exact Ext.alloc r hn 0 _ (.map #[] 0) _ rfl (eE.refl _) (.map [] #[] 0 (by simp) .nil)
 case makeSlice t l c=>exact aFY r hn (hρ l (by simp[Op.operands])) (hρ c (by simp[Op.operands]))
 case slice t x lo hi mx=>
  refine aJH r (hρ x (by simp[Op.operands])) (hro fun y hy=>hρ y ?_) (hro fun y hy=>hρ y ?_) (hro fun y hy=>hρ y ?_) nid
  ·cases hy;simp[Op.operands]
  ·cases hy;simp[Op.operands]
  ·cases hy;simp[Op.operands]
 case fieldAddr s x f=>exact aC8 (hρ x (by simp[Op.operands])) f nid
 case field t x f=>exact aC9 (hρ x (by simp[Op.operands])) f nid
 case indexAddr t x i=>exact aCv (hρ x (by simp[Op.operands])) (hρ i (by simp[Op.operands])) nid
 case index t x i=>exact aCw (hρ x (by simp[Op.operands])) (hρ i (by simp[Op.operands])) nid
 case lookup t x i ok=>exact aFP r (hρ x (by simp[Op.operands])) (hρ i (by simp[Op.operands])) ok nid
 case mapUpdate t m k x=>exact TW r (hρ m (by simp[Op.operands])) (hρ k (by simp[Op.operands])) (hρ x (by simp[Op.operands])) nid
 case insert t m k x=>exact TW r (hρ m (by simp[Op.operands])) (hρ k (by simp[Op.operands])) (hρ x (by simp[Op.operands])) nid
 case range t x=>exact aIg r hn (hρ x (by simp[Op.operands]))
 case next it s=>exact aFa r (hρ it (by simp[Op.operands])) s ty nid
 case typeAssert x xt a ok=>exact YI (hρ x (by simp[Op.operands])) xt a ok nid
 case extract t i=>
  have ht:=hρ t (by simp[Op.operands])
  split
  ·rename_i l hrd;rw[hrd] at ht;generalize htt:ρ t=tv at ht;cases ht with|tup _ cs hcs=>refine nD fun v hv=>?_;rw[eW] at hv;obtain⟨u,k1,k2⟩:=hcs.get hv;rw[Array.getElem?_toList] at k1;exact⟨u,by simp[execOp,htt,Instr.extract,k1],k2⟩
  ·trivial
 case call c=>exact aBX r hn c ty (by simpa[Op.operands] using hρ)
 all_goals trivial
end
section
variable {P : Program}
def Bd(σ:Map)(nx:Nat):Prop:=∀i,nx<=i->σ i=none
def f0(P:Program)(σ:Map):Prop:=∀g,g<P.globals.size->∃x,σ g=some ⟨g,0,x⟩
abbrev Rg(nx nx':Nat):Nat->Prop:=fun i=>nx<=i/\i<nx'
theorem f0.mono{σ τ:Map}(h:σ.le τ)(g:f0 P σ):f0 P τ:=fun i hi=>let ⟨x,e⟩:=g i hi;⟨x,h _ _ e⟩
theorem Bd.ext{σ τ:Map}{h h':H}{w w':World}{N:Nat->Prop}{nx nx':Nat}(b:Bd σ nx)(e:Ext N σ h w τ h' w')(hle:nx<=nx')(hN:∀i,N i->i<nx'):Bd τ nx':=fun i hi=>by
 cases ht:τ i with
 |none=>rfl
 |some L=>
  rcases e.loc i L ht with h1|⟨h1,_⟩
  ·rw[b i (by omega)] at h1;cases h1
  ·have:=hN i h1;omega
structure St(P:Program)(n:Nat)(σ:Map)(env:Env)(h:H)(nx:Nat)(a:Act)(w:World):Prop where
 re:RE σ env a.tmps
 rh:RH σ h w
 bd:Bd σ nx
 gl:f0 P σ
 df:a.defers=[]
 sz:n<=a.tmps.size
def qT(P:Program)(f:FuncId)(vs:Array Value)(w:World)(R:Value->World->Prop):Prop:=((callFunc f vs).run P w=.ok (.enter f vs) w/\Calls P f vs w (fun e w'=>∃u,e=.returned u/\R u w'))\/∃u w',(callFunc f vs).run P w=.ok (.value u) w'/\R u w'
def kP(P:Program)(cal:dH):Prop:=
 ∀f args h nx v h' nx',cal f args h nx=.ok v h' nx'->∀σ w (vs:List Value),RH σ h w->Bd σ nx->f0 P σ->RVs σ args vs->
  qT P f vs.toArray w (fun u w'=>∃σ',Ext (Rg nx nx') σ h w σ' h' w'/\nx<=nx'/\RV σ' v u)
theorem qT.mono{f:FuncId}{vs:Array Value}{w:World}{R R':Value->World->Prop}(h:qT P f vs w R)(hr:∀u w',R u w'->R' u w'):qT P f vs w R':=by
 rcases h with⟨h1,h2⟩|⟨u,w',h1,h2⟩
 ·exact .inl ⟨h1,h2.mono fun e w' ⟨u,e1,e2⟩=>⟨u,e1,hr u w' e2⟩⟩
 ·exact .inr ⟨u,w',h1,hr u w' h2⟩
def iB(P:Program)(n:Nat)(σ:Map)(h:H)(nx:Nat)(w:World):RS->Exit->Act->World->Prop
 |.norm env' h' nx',e,a',w'=>e=.normal/\∃σ',Ext (Rg nx nx') σ h w σ' h' w'/\nx<=nx'/\St P n σ' env' h' nx' a' w'
 |.exit id env' h' nx',e,a',w'=>e=.exit id/\∃σ',Ext (Rg nx nx') σ h w σ' h' w'/\nx<=nx'/\St P n σ' env' h' nx' a' w'
 |.ret env' h' nx',e,a',w'=>e=.ret/\∃σ',Ext (Rg nx nx') σ h w σ' h' w'/\nx<=nx'/\St P n σ' env' h' nx' a' w'
 |.bad,_,_,_=>False
theorem iB.trans{n:Nat}{σ τ:Map}{h h1:H}{nx nx1:Nat}{w w1:World}(e:Ext (Rg nx nx1) σ h w τ h1 w1)(hle:nx<=nx1){r:RS}{x:Exit}{a':Act}{w':World}
  (hp:iB P n τ h1 nx1 w1 r x a' w'):iB P n σ h nx w r x a' w':=by
 cases r with
 |norm env' h' nx'=>obtain⟨e1,σ',e2,e3,e4⟩:=hp;exact⟨e1,σ',e.trans e2 (fun i hi=>⟨hi.1,by have:=hi.2;omega⟩) (fun i hi=>⟨by have:=hi.1;omega,hi.2⟩),by omega,e4⟩
 |exit id env' h' nx'=>obtain⟨e1,σ',e2,e3,e4⟩:=hp;exact⟨e1,σ',e.trans e2 (fun i hi=>⟨hi.1,by have:=hi.2;omega⟩) (fun i hi=>⟨by have:=hi.1;omega,hi.2⟩),by omega,e4⟩
 |ret env' h' nx'=>obtain⟨e1,σ',e2,e3,e4⟩:=hp;exact⟨e1,σ',e.trans e2 (fun i hi=>⟨hi.1,by have:=hi.2;omega⟩) (fun i hi=>⟨by have:=hi.1;omega,hi.2⟩),by omega,e4⟩
 |bad=>exact hp.elim
theorem qP{σ:Map}{env:Env}{a:Act}(hre:RE σ env a.tmps)(hg:f0 P σ){x:Operand}(hx:w7 P.globals.size x=true):RV σ (rd env x) (a.eval x):=by
 cases x with
 |tmp t=>exact hre t
 |const v=>
  simp only[rd,Act.eval];split
  ·rename_i b hb;exact GZ 4 v b hb
  ·exact .junk _
 |global g=>simp only[w7,bO,decide_eq_true_eq] at hx;obtain⟨x,hs⟩:=hg g hx;have:=RV.ptr (σ:=σ) g 0 _ hs;simpa[rd,Act.eval] using this
 |func f=>exact .func _ _ _ _ _ .nil .nil
theorem qS{σ:Map}{env:Env}{ops:Array Oper}{tmps:Array Value}(hre:RE σ env tmps){o:Oper}{b:Bool}(hw:dO ops env o.guard=some b):Region.wanted o (yielded ops tmps)=b:=by
 unfold dO at hw;unfold Region.wanted;split at hw
 ·rename_i hg;rw[hg];simpa using hw
 ·rename_i j want hg;rw[hg];simp only;split at hw
  ·rename_i hj;simp only[Option.some.injEq] at hw;subst hw;simp[yielded,hj]
  ·rename_i oj hj;split at hw
   ·rename_i hd;simp only[Option.some.injEq] at hw;subst hw;simp[yielded,hj,hd]
   ·rename_i d hd;have hd':=hre d;split at hw
    ·rename_i c hc;rw[hc] at hd';simp only at hd';simp only[Option.some.injEq] at hw;subst hw;generalize hv:tmps.getD d undef=v at hd';cases hd';have hlt:d<tmps.size:=by
      rcases Nat.lt_or_ge d tmps.size with h|h
      ·exact h
      ·simp[Array.getD,Nat.not_lt.2 h,undef] at hv
     have:tmps[d]? =some (.bool c):=by rw[Array.getElem?_eq_getElem hlt];simp[Array.getD,hlt] at hv;rw[hv]
     simp[yielded,hj,hd,this]
    ·cases hw
    ·rename_i hnb hnj;simp only[Option.some.injEq] at hw;subst hw;have:yielded ops tmps j=none:=by
      unfold yielded;simp only[hj,Option.bind_some,hd];split
      ·rename_i c hc;exfalso;have hv:tmps.getD d undef=.bool c:=by simp[Array.getD_eq_getD_getElem?,hc]
       rw[hv] at hd';cases hg:env.get d with
       |none=>rw[hg] at hd';cases hd'
       |some v=>
        rw[hg] at hd';simp only at hd';cases hd' with
        |bool=>exact hnb _ hg
        |junk=>exact hnj hg
      ·rfl
     rw[this];rfl
theorem St.put{n:Nat}{σ τ:Map}{env:Env}{h h':H}{nx nx':Nat}{a:Act}{w w':World}{N:Nat->Prop}(s:St P n σ env h nx a w)(e:Ext N σ h w τ h' w')(hle:nx<=nx')(hN:∀i,N i->i<nx')
  {o:Oper} (ho:i5 P n o=true) {v:AV} {u:Value} (hv:RV τ v u):St P n τ (aW env o.dst v) h' nx' (a.put o.dst u) w' where
 re:=by
  have hlt:∀t,o.dst=some t->t<a.tmps.size:=fun t ht=>by simp only[i5,Bool.and_eq_true] at ho;rw[ht] at ho;simp only[bO,decide_eq_true_eq] at ho;exact Nat.lt_of_lt_of_le ho.1 s.sz
  cases hd:o.dst with
  |none=>exact s.re.mono e.le
  |some d=>exact RE.put (d:=some d) (s.re.mono e.le) (fun t ht=>hlt t (by rw[hd,ht])) hv
 rh:=e.rh
 bd:=s.bd.ext e hle hN
 gl:=s.gl.mono e.le
 df:=by cases hd:o.dst<;>simp[Act.put,s.df]
 sz:=by cases hd:o.dst<;>simp[Act.put,s.sz]
theorem RY{n:Nat}{o:Oper}(ho:i5 P n o=true):∀x∈o.op.operands,w7 P.globals.size x=true:=by simp only[i5,Bool.and_eq_true,List.all_eq_true] at ho;exact fun x hx=>ho.2 x (Array.mem_toList_iff.2 hx)
theorem aG7{cal:dH}(hcal:kP P cal){n:Nat}{σ:Map}{env:Env}{h:H}{nx:Nat}{a:Act}{w:World}(s:St P n σ env h nx a w){o:Oper}(ho:i5 P n o=true){nid:Nat}(hn:σ nid=none)
  {Q:Exit->Act->World->Prop} {K:Act->World->Prop}
  (hval:∀v,opA P o.op env h nid=.val v->∀u,RV σ v u->K (a.put o.dst u) w)
  (hupd:∀v h',opA P o.op env h nid=.upd v h'->∀u w',RV σ v u->Ext (fun _=>False) σ h w σ h' w'->K (a.put o.dst u) w')
  (hnew:∀v h',opA P o.op env h nid=.new v h'->∀u w' σ',RV σ' v u->Ext (·=nid) σ h w σ' h' w'->K (a.put o.dst u) w')
  (hcl:∀f args,opA P o.op env h nid=.call f args->∃v h' nx',cal f args h nx=.ok v h' nx'/\∀u w' σ',RV σ' v u->Ext (Rg nx nx') σ h w σ' h' w'->nx<=nx'->K (a.put o.dst u) w')
  (hbad:opA P o.op env h nid≠.bad):o.wp P a w K Q:=by
 have hop:=RR (P:=P) s.rh hn o (fun x hx=>qP s.re s.gl (RY ho x hx));unfold Oper.wp;cases hr:opA P o.op env h nid with
 |val v=>rw[hr] at hop;obtain⟨u,h1,h2⟩:=hop;rw[h1];exact hval v hr u h2
 |upd v h'=>
  rw[hr] at hop;obtain⟨m,u,w',h1,h2,h3,h4⟩:=hop;rw[h1];rcases h2 with rfl|⟨rfl,rfl⟩
  ·exact hupd v h' hr u w' h3 h4
  ·exact hupd v h' hr undef w' h3 h4
 |new v h'=>rw[hr] at hop;obtain⟨u,w',σ',h1,h2,h3⟩:=hop;rw[h1];exact hnew v h' hr u w' σ' h2 h3
 |call f args=>
  rw[hr] at hop;obtain⟨vs,h1,h2⟩:=hop;obtain⟨v,h',nx',h3,h4⟩:=hcl f args hr;rw[h2];rcases hcal f args h nx v h' nx' h3 σ w vs s.rh s.bd s.gl h1 with⟨h5,h6⟩|⟨u,w',h5,σ',h6,h7,h8⟩
  ·rw[h5];refine h6.mono ?_;rintro e w' ⟨u,rfl,σ',h7,h8,h9⟩;exact h4 u w' σ' h9 h7 h8
  ·rw[h5];exact h4 u w' σ' h8 h6 h7
 |bad=>exact absurd hr hbad
theorem aJn{P:Program}{ops:Array Oper}{Q Q':Exit->Act->World->Prop}(hq:∀x a w,Q x a w->Q' x a w):∀{l:List Nat} {a:Act} {w:World},wpOps P ops Q l a w->wpOps P ops Q' l a w:=by
 intro l
 induction l with
 |nil=>intro a w h;exact hq _ _ _ h
 |cons i l ih=>
  intro a w h;rw[wpOps_cons] at h ⊢;have lets:LetsOut Q->LetsOut Q':=fun⟨a,w,h⟩=>⟨a,w,hq _ _ _ h⟩;unfold wpOp at h ⊢;split
  ·rename_i ho;rw[ho] at h;exact ih h
  ·rename_i o ho;rw[ho] at h;simp only at h;split
   ·rename_i hw;rw[if_pos hw] at h;rcases h with h|⟨h1,h2⟩
    ·refine .inl ?_;unfold Oper.wp at h ⊢;generalize (execOp a.eval o).run P w=r at *;cases r with
     |ok x w'=>
      cases x<;>simp only[Oper.upon] at h ⊢<;>
       first
        |exact ih h
        |exact Calls.mono h (fun e w'' he=>by cases e<;>first|exact ih he|exact hq _ _ _ he|exact lets he)
        |exact Rows.mono h (fun _ _ he=>ih he)
     |halt x w'=>cases x<;>simp only[Oper.upon] at h ⊢<;>exact hq _ _ _ h
    ·exact .inr ⟨h1,lets h2⟩
   ·rename_i hw;rw[if_neg hw] at h;exact ih h
theorem O9{cal:dH}(hcal:kP P cal){n:Nat}{ops:Array Oper}(hok:ops.toList.all (i5 P n)=true):∀(m k:Nat),k+m=ops.size->∀(σ:Map) (env:Env) (h:H) (nx:Nat) (a:Act) (w:World),
  St P n σ env h nx a w->cG P cal ops (ops.toList.drop k) env h nx≠.bad->
  wpOps P ops (iB P n σ h nx w (cG P cal ops (ops.toList.drop k) env h nx)) (List.range' k m) a w
 |0,k,hk,σ,env,h,nx,a,w,s,hne=>by
  have:ops.toList.drop k=[]:=List.drop_eq_nil_of_le (by simp;omega)
  rw[this];simp only[List.range'_zero,wpOps,cG];exact⟨rfl,σ,Ext.refl s.rh,Nat.le_refl _,s⟩
 |m+1,k,hk,σ,env,h,nx,a,w,s,hne=>by
  have hlt:k<ops.size:=by omega
  have hd:ops.toList.drop k=ops[k]::ops.toList.drop (k+1):=by
   rw[List.drop_eq_getElem_cons (by simpa using hlt)]
   simp
  rw[hd] at hne ⊢;have hget:ops[k]? =some ops[k]:=Array.getElem?_eq_getElem hlt;have ho:i5 P n ops[k]=true:=List.all_eq_true.1 hok _ (by simp)
  simp only[List.range'_succ,wpOps,hget];unfold cG at hne ⊢;have next:∀{τ:Map} {h':H} {nx':Nat} {w':World} {v:AV} {u:Value} {N:Nat->Prop},Ext N σ h w τ h' w'->nx<=nx'->(∀i,N i->nx<=i/\i<nx')->RV τ v u->
    cG P cal ops (ops.toList.drop (k+1)) (aW env ops[k].dst v) h' nx'≠.bad->
    wpOps P ops (iB P n σ h nx w (cG P cal ops (ops.toList.drop (k+1)) (aW env ops[k].dst v) h' nx')) (List.range' (k+1) m) (a.put ops[k].dst u) w':=by
   intro τ h' nx' w' v u N e hle hN hv hne';have:=O9 hcal hok m (k+1) (by omega) τ _ h' nx' (a.put ops[k].dst u) w' (s.put e hle (fun i hi=>(hN i hi).2) ho hv) hne'
   refine aJn (fun x a' w'' hp=>iB.trans (e.weaken hN) hle hp) this
  split at hne
  ·rename_i hw;rw[qS s.re hw];simp only[if_true,hw];refine .inl ?_;refine aG7 hcal s ho (s.bd nx (Nat.le_refl _)) ?_ ?_ ?_ ?_ ?_
   ·intro v hr u hv;rw[hr] at hne ⊢;exact next (N:=fun _=>False) (Ext.refl s.rh) (Nat.le_refl _) (fun _ h=>h.elim) hv hne
   ·intro v h' hr u w' hv e;rw[hr] at hne ⊢;exact next e (Nat.le_refl _) (fun _ h=>h.elim) hv hne
   ·intro v h' hr u w' σ' hv e;rw[hr] at hne ⊢;exact next e (Nat.le_succ _) (fun i hi=>by subst hi;exact⟨Nat.le_refl _,Nat.lt_succ_self _⟩) hv hne
   ·intro f args hr;rw[hr] at hne;simp only at hne;split at hne
    ·rename_i v h' nx' hc;refine⟨v,h',nx',hc,fun u w' σ' hv e hle=>?_⟩;rw[hr];simp only[hc];exact next e hle (fun i hi=>hi) hv hne
    ·exact absurd rfl hne
   ·intro hr;rw[hr] at hne;exact hne rfl
  ·rename_i hw;rw[qS s.re hw];simp only[Bool.false_eq_true,if_false,hw];exact next (N:=fun _=>False) (Ext.refl s.rh) (Nat.le_refl _) (fun _ h=>h.elim) RV.undef hne
  ·exact absurd rfl hne
end
end Go.Ev
