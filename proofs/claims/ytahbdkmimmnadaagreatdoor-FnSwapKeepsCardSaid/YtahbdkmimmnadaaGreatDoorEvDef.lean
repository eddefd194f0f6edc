/-
  An abstract evaluator of the loaded code. Immutable data are trees (D), memory under construction is a list of objects (O). No program is named here.
-/
import Derived.Test.YtahbdkmimmnadaaGreatDoorAl
import Derived.Calls
import Derived.Tactics
import Derived.LoopN
import Derived.Orders
import Derived.Still
import Derived.Below
import Derived.MapKept
set_option linter.unusedSimpArgs false
set_option linter.unusedVariables false
namespace Go.Proofs.YtahbdkmimmnadaaGreatDoor
namespace Ev
theorem AI{a b:Prop}(x:a)(y:b):a/\b:=And.intro x y
inductive D where
 |undef
 |int (k:IntKind) (n:Int)
 |bool (b:Bool)
 |str (s:List UInt8)
 |ivs (len:Nat) (cells:List D)
 |nils
 |iptr (cells:List D)
 |nilp
 |fn (f:FuncId) (caps:List D)
 |nilfn
 |nili
 |nilm
 |ifc (t:TypeId) (x:D)
 deriving Inhabited
inductive A where
 |d (x:D)
 |sl (id gen off len:Nat)
 |ptr (id gen off:Nat)
 |mp (id:Nat)
 |clo (f:FuncId) (caps:List A)
 |agg (cells:List A)
 |tup (vs:List A)
 |junk
 deriving Inhabited
inductive O where
 |arr (cells:List D) (esz gen:Nat)
 |box (cells:List A)
 |ice (cells:List D) (esz gen:Nat)
 |vec (cells:List A) (esz gen:Nat)
 |log (cells:List D)
 |mp (entries:List (D×D))
 |void
 deriving Inhabited
abbrev H:=List O
structure Hint where
 mode:Nat:=2
 exp:Bool:=false
 thaw:List Nat:=[]
 live:List Bool:=[]
 deriving Inhabited
def fY:Value->Option A
 |.bool b=>some (.d (.bool b))
 |.int k n=>some (.d (.int k n))
 |.string s=>some (.d (.str s.data.toList))
 |.pointer none=>some (.d .nilp)
 |.slice none 0 0=>some (.d .nils)
 |.map none=>some (.d .nilm)
 |.nilFunc=>some (.d .nilfn)
 |.nilIface=>some (.d .nili)
 |_=>none
def JF:List Value->Option (List A)
 | []=>some []
 |v::vs=>match fY v,JF vs with
  |some a,some asx=>some (a::asx)
  |_,_=>none
def OK:Value->Option A
 |.agg cs=>(JF cs.toList).map .agg
 |v=>fY v
def c8(s:List A):Operand->Option A
 |.tmp t=>some (s.getD t (.d .undef))
 |.const v=>OK v
 |.func f=>some (.clo f [])
 |.global _=>none
def bX(s:List A):List Operand->Option (List A)
 | []=>some []
 |x::xs=>match c8 s x,bX s xs with
  |some a,some asx=>some (a::asx)
  |_,_=>none
def aU:A->List A
 |.agg cs=>cs
 |a=>[a]
def tB(agg:Bool)(n:Nat)(run:List A):Option A:=
 if agg then(if n<=run.length then some (.agg (run.take n))else none)else run.head?
def c7(P:Program)(t:TypeId):Option Bool:=
 match P.underlying t with
 |some (.struct _)=>some true
 |some (.array _ _)=>some true
 |some _=>some false
 |none=>none
def cN(P:Program)(t:TypeId):Option TypeId:=
 match P.underlying t with
 |some (.slice e)=>some e
 |_=>none
def cX(P:Program)(t:TypeId):Option A:=
 match P.info? t with
 |some i=>i.zero.bind OK
 |none=>none
def eJ(f:H->A->Option (D×H)):H->List A->Option (List D×H)
 |h,[]=>some ([],h)
 |h,a::asx=>
  match f h a with
  |some (x,h1)=>
   match eJ f h1 asx with
   |some (ds,h2)=>some (x::ds,h2)
   |none=>none
  |none=>none
def frz0(h:H):A->Option (D×H)
 |.d x=>some (x,h)
 |.sl id gen off len=>
  match h[id]? with
  |some (.arr cs esz g)=>if g=gen/\off+len*esz<=cs.length then some (.ivs len ((cs.drop off).take (len*esz)),h.set id (.ice cs esz g))else none
  |some (.ice cs esz g)=>if g=gen/\off+len*esz<=cs.length then some (.ivs len ((cs.drop off).take (len*esz)),h)else none
  |some (.log cs)=>if gen=cs.length+1/\off+len<=cs.length then some (.ivs len ((cs.drop off).take len),h.set id (.ice cs 1 gen))else none
  |_=>none
 |_=>none
def frz:Nat->H->A->Option (D×H)
 |0,h,a=>frz0 h a
 |n+1,h,.ptr id gen off=>
  match h[id]? with
  |some (.box cs)=>
   if gen=0/\off<=cs.length then
    match eJ (frz n) h cs with
    |some (ds,h1)=>match h1[id]? with
     |some (.box _)=>some (.iptr (ds.drop off),h1.set id (.ice ds 1 0))
     |_=>none
    |none=>none
   else none
  |some (.ice ds _ g)=>if gen=g/\off<=ds.length then some (.iptr (ds.drop off),h)else none
  |_=>none
 |n+1,h,.sl id gen off len=>
  match h[id]? with
  |some (.vec cs esz g)=>
   if g=gen/\off+len*esz<=cs.length then
    match eJ (frz n) h cs with
    |some (ds,h1)=>match h1[id]? with
     |some (.vec cs' e' g')=>if e'=esz/\g'=g/\cs'.length=cs.length then some (.ivs len ((ds.drop off).take (len*esz)),h1.set id (.ice ds esz g))else none
     |_=>none
    |none=>none
   else none
  |_=>frz0 h (.sl id gen off len)
 |n+1,h,.clo f caps=>
  match eJ (frz n) h caps with
  |some (ds,h1)=>some (.fn f ds,h1)
  |none=>none
 |_+1,h,a=>frz0 h a
def deep:Nat:=5
def frzL(h:H)(asx:List A):Option (List D×H):=eJ (frz deep) h asx
def frzA(h:H):A->Option (A×H)
 |.agg cs=>match frzL h cs with
  |some (ds,h1)=>some (.agg (ds.map .d),h1)
  |none=>none
 |a=>match frz deep h a with
  |some (x,h1)=>some (.d x,h1)
  |none=>none
def eS:H->List A->Option (List A×H)
 |h,[]=>some ([],h)
 |h,a::asx=>match frzA h a with
  |some (x,h1)=>match eS h1 asx with
   |some (xs,h2)=>some (x::xs,h2)
   |none=>none
  |none=>none
def isD:A->Bool
 |.d _=>true
 |_=>false
def x4:A->Bool
 |.d _=>true
 |.agg cs=>cs.all isD
 |_=>false
def iA:A->Bool
 |.d (.int _ _)=>true
 |.d (.bool _)=>true
 |.d (.str _)=>true
 |.tup vs=>vs.all fun|.d (.int _ _)=>true|.d (.bool _)=>true|.d (.str _)=>true|_=>false
 |_=>false
mutual
def mapA(f:Nat->Option Nat):A->A
 |.sl id gen off len=>match f id with|some k=>.sl k gen off len|none=>.junk
 |.ptr id gen off=>match f id with|some k=>.ptr k gen off|none=>.junk
 |.mp id=>match f id with|some k=>.mp k|none=>.junk
 |.clo g caps=>.clo g (aE f caps)
 |.agg cs=>.agg (aE f cs)
 |.tup vs=>.tup (aE f vs)
 |.d x=>.d x
 |.junk=>.junk
def aE(f:Nat->Option Nat):List A->List A
 | []=>[]
 |a::asx=>mapA f a::aE f asx
end
mutual
def idsA:A->List Nat
 |.sl id _ _ _=>[id]
 |.ptr id _ _=>[id]
 |.mp id=>[id]
 |.clo _ caps=>idsL caps
 |.agg cs=>idsL cs
 |.tup vs=>idsL vs
 |.d _=>[]
 |.junk=>[]
def idsL:List A->List Nat
 | []=>[]
 |a::asx=>idsA a++idsL asx
end
def mapO(f:Nat->Option Nat):O->O
 |.box cs=>.box (aE f cs)
 |.vec cs e g=>.vec (aE f cs) e g
 |o=>o
def aD:Nat->H->List Nat->List Nat->List Nat
 |0,_,_,acc=>acc
 |_+1,_,[],acc=>acc
 |n+1,h,i::todo,acc=>
  if acc.contains i then aD n h todo acc
  else match h[i]? with
   |some (.box cs)=>aD n h (todo++idsL cs) (acc++[i])
   |some (.vec cs _ _)=>aD n h (todo++idsL cs) (acc++[i])
   |some .void=>aD n h todo acc
   |some _=>aD n h todo (acc++[i])
   |none=>aD n h todo acc
def aH:List Nat->Nat->Option Nat
 | [],_=>none
 |i::is,k=>if i=k then some 0 else(aH is k).map (·+1)
def pack(h:H)(ord:List Nat):H:=ord.map fun i=>mapO (aH ord) (h.getD i default)
def back(ord:List Nat)(base n:Nat)(k:Nat):Option Nat:=
 if k<ord.length then ord[k]? else if k<n then some (base+(k-ord.length))else none
def bE(f:Nat->Option Nat):H->List Nat->H->H
 |h,[],rest=>h++rest.map (mapO f)
 |h,i::ord,o::rest=>bE f (h.set i (mapO f o)) ord rest
 |h,_::_,[]=>h
def aF:Nat:=1099511627776
def closed(h:H)(ord ids:List Nat):Bool:=
 ids.all ord.contains&&ord.all fun i=>match h[i]? with
  |some (.box cs)=>(idsL cs).all ord.contains
  |some (.vec cs _ _)=>(idsL cs).all ord.contains
  |_=>true
def m7(h:H):A->Option (List A)
 |.ptr id gen off=>match h[id]? with
  |some (.box cs)=>some (cs.drop off)
  |some (.arr cs _ g)=>if g=gen then some ((cs.drop off).map .d)else none
  |some (.ice cs _ g)=>if g=gen then some ((cs.drop off).map .d)else none
  |some (.vec cs _ g)=>if g=gen then some (cs.drop off)else none
  |some (.log cs)=>if off+1<gen/\gen<=cs.length+1 then some (((cs.drop off).take 1).map .d)else none
  |_=>none
 |.d (.iptr cs)=>some (cs.map .d)
 |_=>none
def bD{α:Type}(cs:List α)(off:Nat)(new:List α):List α:=cs.take off++new++cs.drop (off+new.length)
def aY:H->List A->List A×H
 |h,[]=>([],h)
 |h,.d .nils::cs=>let r:=aY (h++[.arr [] 0 0]) cs;(.sl h.length 0 0 0::r.1,r.2)
 |h,c::cs=>let r:=aY h cs;(c::r.1,r.2)
def dE:A->Bool
 |.d .undef=>false
 |.junk=>false
 |.agg _=>false
 |.tup _=>false
 |_=>true
def B5(P:Program)(h:H)(t:TypeId)(a:A):Option A:=
 match m7 h a,c7 P t with
 |some run,some b=>tB b (P.cellsOf t) run
 |_,_=>none
def iW(P:Program)(h:H)(t:TypeId)(a v:A):Option H:=
 if(aU v).length=P.cellsOf t/\(P.info? t).isSome/\(aU v).all dE then
  match a with
  |.ptr id gen off=>match h[id]? with
   |some (.box cs)=>
    if off+P.cellsOf t<=cs.length then
     some ((aY h (aU v)).2.set id (.box (bD cs off (aY h (aU v)).1)))
    else none
   |some (.arr _ _ _)=>match frzL h (aU v)with
    |some (ds,h1)=>match h1[id]? with
     |some (.arr cs esz g)=>if g=gen/\off+P.cellsOf t<=cs.length then some (h1.set id (.arr (bD cs off ds) esz g))else none
     |_=>none
    |none=>none
   |some (.vec cs esz g)=>if g=gen/\off+P.cellsOf t<=cs.length then some (h.set id (.vec (bD cs off (aU v)) esz g))else none
   |_=>none
  |_=>none
 else none
def aNew(h:H)(v:A):Option (A×H):=
 if(aU v).all dE then
  some (.ptr (aY h (aU v)).2.length 0 0,(aY h (aU v)).2++[.box (aY h (aU v)).1])
 else none
def cF(P:Program)(s:TypeId)(f:Nat):Option (Nat×TypeId):=
 match P.underlying s with
 |some (.struct fields)=>match fields[f]? with
  |some x=>if P.cellsOf x.type=0 then none else some (x.offset,x.type)
  |none=>none
 |_=>none
def sK(off:Nat):A->Option A
 |.ptr id gen o=>some (.ptr id gen (o+off))
 |.d (.iptr cs)=>if off<=cs.length then some (.d (.iptr (cs.drop off)))else none
 |_=>none
def oY(P:Program)(h:H)(t:TypeId)(x:A)(i:Int):Option A:=
 match P.underlying t with
 |some (.array n e)=>if 0<P.cellsOf e/\0<=i/\i<n then sK (i.toNat*P.cellsOf e) x else none
 |some (.slice e)=>match x with
  |.d (.ivs n cs)=>if 0<P.cellsOf e/\0<=i/\i<n/\i.toNat*P.cellsOf e<cs.length then some (.d (.iptr (cs.drop (i.toNat*P.cellsOf e))))else none
  |.sl id gen off len=>match h[id]? with
   |some (.arr _ esz g)=>if g=gen/\esz=P.cellsOf e/\0<esz/\0<=i/\i<len then some (.ptr id gen (off+i.toNat*esz))else none
   |some (.ice _ esz g)=>if g=gen/\esz=P.cellsOf e/\0<esz/\0<=i/\i<len then some (.ptr id gen (off+i.toNat*esz))else none
   |some (.vec _ esz g)=>if g=gen/\esz=P.cellsOf e/\0<esz/\0<=i/\i<len then some (.ptr id gen (off+i.toNat*esz))else none
   |some (.log cs)=>if 0<gen/\gen<=cs.length+1/\P.cellsOf e=1/\0<=i/\i<len then some (.ptr id gen (off+i.toNat))else none
   |_=>none
  |_=>none
 |_=>none
def OL(P:Program)(t:TypeId)(x:A)(i:Int):Option A:=
 match P.underlying t,x with
 |some .string,.d (.str s)=>if 0<=i then(s[i.toNat]?).map fun b=>.d (.int .u8 b.toNat)else none
 |some (.array n e),.agg cs=>if 0<=i/\i<n then(c7 P e).bind fun b=>tB b (P.cellsOf e) (cs.drop (i.toNat*P.cellsOf e))else none
 |_,_=>none
def cG(h:H)(esz:Nat):A->Option (Nat×List D)
 |.d .nils=>some (0,[])
 |.d (.ivs n cs)=>if cs.length=n*esz then some (n,cs)else none
 |.d (.str s)=>if esz=1 then some (s.length,s.map fun b=>.int .u8 b.toNat)else none
 |.sl id gen off len=>match h[id]? with
  |some (.arr cs e g)=>if g=gen/\(len=0\/e=esz)/\off+len*esz<=cs.length then some (len,(cs.drop off).take (len*esz))else none
  |some (.ice cs e g)=>if g=gen/\(len=0\/e=esz)/\off+len*esz<=cs.length then some (len,(cs.drop off).take (len*esz))else none
  |_=>none
 |_=>none
def pU(h:H)(esz:Nat):A->Option (Nat×List A)
 |.sl id gen off len=>match h[id]? with
  |some (.vec cs e g)=>if g=gen/\(len=0\/e=esz)/\off+len*esz<=cs.length then some (len,(cs.drop off).take (len*esz))else none
  |_=>(cG h esz (.sl id gen off len)).map fun r=>(r.1,r.2.map .d)
 |a=>(cG h esz a).map fun r=>(r.1,r.2.map .d)
def bI:Nat:=2^32
def xI:A->Bool
 |.junk=>false
 |_=>true
def d5(P:Program)(e:TypeId):Bool:=
 match cX P e with
 |some z=>(aU z).length==P.cellsOf e&&(aU z).all dE&&decide (0<P.cellsOf e)&&decide (0<P.bytesOf e)&&decide (P.bytesOf e<=1024)
 |none=>false
def j2(P:Program)(h:H)(t:TypeId)(s x:A):Option (A×H):=
 match cN P t with
 |some e=>
  if d5 P e then
   match cG h (P.cellsOf e) x with
   |some (n,src)=>
    match s with
    |.d .nils=>if n<=bI then some (.sl h.length 0 0 n,h++[.arr src (P.cellsOf e) 0])else none
    |.sl id gen off len=>match h[id]? with
     |some (.arr cs e0 g)=>
      if g=gen/\(e0=0\/e0=P.cellsOf e)/\off=0/\len*P.cellsOf e<=cs.length/\len+n<=bI then
       some (.sl id (g+1) 0 (len+n),h.set id (.arr (cs.take (len*P.cellsOf e)++src) (P.cellsOf e) (g+1)))
      else none
     |some (.log cs)=>
      if gen=cs.length+1/\off=0/\len=cs.length/\P.cellsOf e=1/\len+n<=bI then
       some (.sl id (len+n+1) 0 (len+n),h.set id (.log (cs++src)))
      else none
     |_=>none
    |_=>none
   |none=>none
  else none
 |none=>none
def oS(P:Program)(h:H)(t:TypeId)(id gen off len:Nat)(x:A):Option (A×H):=
 match cN P t with
 |some e=>
  if d5 P e then
   match pU h (P.cellsOf e) x,h[id]? with
   |some (n,src),some (.vec cs e0 g)=>
    if g=gen/\(e0=0\/e0=P.cellsOf e)/\off=0/\len*P.cellsOf e<=cs.length/\len+n<=bI then
     some (.sl id (g+1) 0 (len+n),h.set id (.vec (cs.take (len*P.cellsOf e)++src) (P.cellsOf e) (g+1)))
    else none
   |_,_=>none
  else none
 |none=>none
def F9(h:H)(id:Nat):Bool:=match h[id]? with
 |some (.vec _ _ _)=>true
 |_=>false
def GV(h:H)(id:Nat):Option (Nat×Nat):=match h[id]? with
 |some (.arr [] e g)=>some (e,g)
 |_=>none
def XS(h:H):A->Bool
 |.sl id _ _ _=>F9 h id
 |_=>false
def pV(P:Program)(h:H)(t:TypeId)(s x:A):Option (A×H):=
 match s with
 |.sl id gen off len=>
  if F9 h id then oS P h t id gen off len x
  else if XS h x then
   match GV h id with
   |some (e,g)=>oS P (h.set id (.vec [] e g)) t id gen off len x
   |none=>j2 P h t s x
  else j2 P h t s x
 |_=>j2 P h t s x
def aLen(P:Program)(t:TypeId)(x:A):Option A:=
 match P.underlying t,x with
 |some .string,.d (.str s)=>some (.d (.int .i64 s.length))
 |some (.array n _),_=>some (.d (.int .i64 n))
 |some (.slice _),.d .nils=>some (.d (.int .i64 0))
 |some (.slice _),.d (.ivs n _)=>some (.d (.int .i64 n))
 |some (.slice _),.sl _ _ _ n=>some (.d (.int .i64 n))
 |_,_=>none
def wW(n:Nat)(lo hi:Option Int):Option (Nat×Nat):=
 if 0<=lo.getD 0/\lo.getD 0<=hi.getD n/\hi.getD n<=n then some ((lo.getD 0).toNat,(hi.getD n).toNat)else none
def jR(P:Program)(h:H)(t:TypeId)(x:A)(lo hi:Option Int):Option A:=
 match P.underlying t,x with
 |some .string,.d (.str s)=>(wW s.length lo hi).map fun r=>.d (.str ((s.drop r.1).take (r.2-r.1)))
 |some (.slice e),.d (.ivs n cs)=>
  if 0<P.cellsOf e then(wW n lo hi).map fun r=>.d (.ivs (r.2-r.1) ((cs.drop (r.1*P.cellsOf e)).take ((r.2-r.1)*P.cellsOf e)))else none
 |some (.slice e),.sl id gen off len=>
  match h[id]? with
  |some (.arr _ esz g)=>
   if g=gen/\0<P.cellsOf e/\(len=0\/esz=P.cellsOf e)then(wW len lo hi).map fun r=>.sl id gen (off+r.1*esz) (r.2-r.1)else none
  |some (.vec _ esz g)=>
   if g=gen/\0<P.cellsOf e/\(len=0\/esz=P.cellsOf e)then(wW len lo hi).map fun r=>.sl id gen (off+r.1*esz) (r.2-r.1)else none
  |some (.log cs)=>
   if 0<gen/\gen<=cs.length+1/\P.cellsOf e=1 then(wW len lo hi).map fun r=>.sl id gen (off+r.1) (r.2-r.1)else none
  |_=>none
 |_,_=>none
def qL:Sem Value->Option Value
 |.pure v=>some v
 |_=>none
def aBin(op:BinOp)(x y:A):Option A:=
 match op,x,y with
 |.shl,.d (.int k a),.d (.int yk b)=>(qL (Op.shift .shl k a yk b)).bind fY
 |.shr,.d (.int k a),.d (.int yk b)=>(qL (Op.shift .shr k a yk b)).bind fY
 |op,.d (.int k a),.d (.int k' b)=>
  if k≠k' then none else
  match op with
  |.add=>(qL (Op.intArith .add k a b)).bind fY
  |.sub=>(qL (Op.intArith .sub k a b)).bind fY
  |.mul=>(qL (Op.intArith .mul k a b)).bind fY
  |.quo=>if b=0 then none else some (.d (.int k (k.wrap (a.tdiv b))))
  |.rem=>if b=0 then none else some (.d (.int k (a.tmod b)))
  |.and=>(qL (Op.intBits .and k a b)).bind fY
  |.or=>(qL (Op.intBits .or k a b)).bind fY
  |.xor=>(qL (Op.intBits .xor k a b)).bind fY
  |.andNot=>(qL (Op.intBits .andNot k a b)).bind fY
  |.eql=>some (.d (.bool (a==b)))
  |.neq=>some (.d (.bool (a !=b)))
  |.lss=>some (.d (.bool (a<b)))
  |.leq=>some (.d (.bool (a<=b)))
  |.gtr=>some (.d (.bool (a>b)))
  |.geq=>some (.d (.bool (a≥b)))
  |_=>none
 |op,.d (.str a),.d (.str b)=>
  match op with
  |.add=>if a.length+b.length<=bI then some (.d (.str (a++b)))else none
  |.eql=>some (.d (.bool (a==b)))
  |.neq=>some (.d (.bool (!(a==b))))
  |.lss=>some (.d (.bool (Op.bytesLess a b)))
  |.leq=>some (.d (.bool (Op.bytesLess a b||a==b)))
  |.gtr=>some (.d (.bool (!(Op.bytesLess a b||a==b))))
  |.geq=>some (.d (.bool (!(Op.bytesLess a b))))
  |_=>none
 |_,_,_=>none
def eqlA(op:BinOp)(b:Bool):Option A:=
 match op with
 |.eql=>some (.d (.bool b))
 |.neq=>some (.d (.bool (!b)))
 |_=>none
def aNil(P:Program)(op:BinOp)(t:TypeId)(x y:A):Option A:=
 match P.underlying t,x,y with
 |some .bool,.d (.bool a),.d (.bool b)=>eqlA op (a==b)
 |some (.pointer _),.d .nilp,.d .nilp=>eqlA op true
 |some (.pointer _),.d .nilp,.d (.iptr _)=>eqlA op false
 |some (.pointer _),.d (.iptr _),.d .nilp=>eqlA op false
 |some (.interface _),.d (.ifc _ _),.d .nili=>eqlA op false
 |_,_,_=>none
def XP:List A->Option (List Int)
 | []=>some []
 |.d (.int .i64 n)::asx=>(XP asx).map (n::·)
 |_::_=>none
def aHl(eqs:List (TypeId×Nat))(op:BinOp)(t:TypeId)(x y:A):Option A:=
 match x,y with
 |.agg xs,.agg ys=>match XP xs,XP ys with
  |some asx,some bs=>
   if eqs.contains (t,asx.length)/\asx.length=bs.length then
    eqlA op (asx==bs)
   else none
  |_,_=>none
 |_,_=>none
def aUn(op:UnOp)(x:A):Option A:=
 match op,x with
 |.neg,.d (.int k n)=>(qL (Op.intArith .sub k 0 n)).bind fY
 |.xor,.d (.int k n)=>(qL (Op.intBits .xor k (if k.signed then -1 else k.max) n)).bind fY
 |.not,.d (.bool b)=>some (.d (.bool !b))
 |_,_=>none
def H0:List D->Option (List UInt8)
 | []=>some []
 |.int .u8 n::ds=>(H0 ds).map (UInt8.ofNat n.toNat::·)
 |_::_=>none
def gE(P:Program)(h:H)(src dst:TypeId)(x:A):Option (A×H):=
 match P.underlying src,P.underlying dst,x with
 |some (.int _),some (.int k),.d (.int _ n)=>some (.d (.int k (k.wrap n)),h)
 |some (.int _),some .string,.d (.int _ n)=>some (.d (.str (Utf8.encode n).data.toList),h)
 |some .string,some .string,.d (.str s)=>some (.d (.str s),h)
 |some .string,some (.slice e),.d (.str s)=>
  if P.underlying e matches some (.int .u8)then some (.sl h.length 0 0 s.length,h++[.arr (s.map fun b=>.int .u8 b.toNat) 1 0])else none
 |some (.slice _),some .string,.d (.str _)=>none
 |some (.slice e),some .string,x=>
  if P.underlying e matches some (.int .u8)then
   match cG h 1 x with
   |some (_,cs)=>(H0 cs).map fun bs=>(.d (.str bs),h)
   |none=>none
  else none
 |_,_,_=>none
def gD(cells:List A):List (Option (Nat×Nat)×A)->Option (List A)
 | []=>some cells
 |(none,_)::_=>none
 |(some (off,size),v)::rest=>
  if(aU v).length=size/\off+size<=cells.length/\xI v then gD (bD cells off (aU v)) rest else none
def nS(P:Program)(t:TypeId)(parts:List (Nat×A)):Option A:=
 match cX P t,P.underlying t with
 |some z,some (.struct fields)=>
  if fields.toList.all fun f=>(P.info? f.type).isSome then
   (gD (aU z) (parts.map fun(i,v)=>((fields.toList[i]?).map fun f=>(f.offset,P.cellsOf f.type),v))).map .agg
  else none
 |some z,some (.array _ e)=>
  if(P.info? e).isSome then(gD (aU z) (parts.map fun(i,v)=>(some (i*P.cellsOf e,P.cellsOf e),v))).map .agg else none
 |_,_=>none
def kP(P:Program)(h:H)(t:TypeId)(len:Nat)(parts:List (Nat×A)):Option (A×H):=
 match cN P t with
 |some e=>
  match cX P e with
  |some z=>
   if d5 P e/\len*P.cellsOf e<=2^24 then
    match gD (List.replicate len (aU z)).flatten (parts.map fun(i,v)=>(some (i*P.cellsOf e,P.cellsOf e),v))with
    |some cells=>if cells.all dE then
      match frzL h cells with
      |some (ds,h1)=>some (.sl h1.length 0 0 len,h1++[.arr ds (P.cellsOf e) 0])
      |none=>none
     else none
    |none=>none
   else none
  |none=>none
 |none=>none
def W9:Option (A×H)->Option (A×H)
 |some (.sl id gen off len,h)=>match h[id]? with
  |some (.arr cs e g)=>if gen=0/\g=0/\e=1/\off=0/\cs.length=len then some (.sl id (len+1) 0 len,h.set id (.log cs))else none
  |_=>none
 |_=>none
def vF:List A->Option (List D)
 | []=>some []
 |.d x::asx=>(vF asx).map (x::·)
 |_::_=>none
def fG(P:Program)(h:H)(t:TypeId)(l c:Int):Option (A×H):=
 match cN P t with
 |some e=>
  match cX P e with
  |some z=>match vF (aU z)with
   |some zs=>
    if d5 P e/\0<=l/\l<=c/\c<=bI then
     some (.sl h.length 0 0 l.toNat,h++[.arr (List.replicate l.toNat zs).flatten (P.cellsOf e) 0])
    else none
   |none=>none
  |none=>none
 |none=>none
def rS(P:Program)(h:H)(t:TypeId)(len:Nat)(parts:List (Nat×A)):Option (A×H):=
 match cN P t with
 |some e=>
  match cX P e with
  |some z=>
   if d5 P e/\len*P.cellsOf e<=2^24 then
    match gD (List.replicate len (aU z)).flatten (parts.map fun(i,v)=>(some (i*P.cellsOf e,P.cellsOf e),v))with
    |some cells=>if cells.all dE then some (.sl h.length 0 0 len,h++[.vec cells (P.cellsOf e) 0])else none
    |none=>none
   else none
  |none=>none
 |none=>none
def G7(P:Program)(h:H)(t:TypeId)(l c:Int):Option (A×H):=
 match cN P t with
 |some e=>
  match cX P e with
  |some z=>match vF (aU z)with
   |some zs=>
    if d5 P e/\0<=l/\l<=c/\c<=bI then
     some (.sl h.length 0 0 l.toNat,h++[.vec ((List.replicate l.toNat zs).flatten.map .d) (P.cellsOf e) 0])
    else none
   |none=>none
  |none=>none
 |none=>none
def aCb:TypeDesc->D->D->Option Bool
 |.int _,.int k a,.int k' b=>if k=k' then some (a==b)else none
 |.string,.str a,.str b=>some (a==b)
 |_,_,_=>none
def XR(kt:TypeDesc)(k:D):List (D×D)->Nat->Option (Option Nat)
 | [],_=>some none
 |e::es,i=>match aCb kt k e.1 with
  |some true=>some (some i)
  |some false=>XR kt k es (i+1)
  |none=>none
def aGY:TypeDesc->D->Bool
 |.int kk,.int k _=>decide (k=kk)
 |.string,.str _=>true
 |_,_=>false
def BZ:D->Bool
 |.int _ _=>true
 |.bool _=>true
 |.str _=>true
 |_=>false
def mapT(P:Program)(t:TypeId):Option (TypeDesc×TypeId):=
 match P.underlying t with
 |some (.map kt et)=>match P.underlying kt with
  |some (.int k)=>some (.int k,et)
  |some .string=>some (.string,et)
  |_=>none
 |_=>none
def HH(es:List (D×D))(k v:D):Option Nat->List (D×D)
 |some i=>es.set i (k,v)
 |none=>es++[(k,v)]
def F6(P:Program)(h:H)(t:TypeId)(m k v:A):Option (A×H):=
 match mapT P t,m,k,v with
 |some (kt,_),.mp id,.d k,.d v=>match h[id]? with
  |some (.mp es)=>if aGY kt k&&BZ v then
    match XR kt k es 0 with
    |some r=>some (.d .undef,h.set id (.mp (HH es k v r)))
    |none=>none
   else none
  |_=>none
 |_,_,_,_=>none
def S2(es:List (D×D))(z:D):Option Nat->D
 |some i=>(es.getD i (z,z)).2
 |none=>z
def NT(commaOk:Bool)(v:D)(ok:Bool):A:=if commaOk then .tup [.d v,.d (.bool ok)]else .d v
def XH(P:Program)(h:H)(t:TypeId)(commaOk:Bool)(m k:A):Option (A×H):=
 match mapT P t,m,k with
 |some (kt,et),.mp id,.d k=>match h[id]?,cX P et with
  |some (.mp es),some (.d z)=>if aGY kt k&&BZ z then
    match XR kt k es 0 with
    |some r=>some (NT commaOk (S2 es z r) r.isSome,h)
    |none=>none
   else none
  |_,_=>none
 |_,_,_=>none
def M7(P:Program)(h:H)(t:TypeId)(id:Nat):Option (A×H):=
 match P.underlying t,h[id]? with
 |some (.map _ _),some (.mp es)=>some (.d (.int .i64 es.length),h)
 |_,_=>none
abbrev aX:=FuncId->List A->H->Option (A×H)
def zU:D->Bool
 |.undef=>true
 |.int _ _=>true
 |.bool _=>true
 |.str _=>true
 |.ivs _ []=>true
 |.nils=>true
 |.nilp=>true
 |.nilfn=>true
 |.nili=>true
 |.nilm=>true
 |_=>false
mutual
def pE:A->Bool
 |.d x=>zU x
 |.sl _ _ _ _=>true
 |.ptr _ _ _=>true
 |.mp _=>true
 |.clo _ caps=>kT caps
 |.agg cs=>kT cs
 |.tup vs=>kT vs
 |.junk=>true
def kT:List A->Bool
 | []=>true
 |a::asx=>pE a&&kT asx
end
def nJ:O->Bool
 |.arr cs _ _=>cs.all zU
 |.box cs=>kT cs
 |.ice _ _ _=>false
 |.vec cs _ _=>kT cs
 |.log _=>false
 |.mp _=>true
 |.void=>true
def bV(call:aX)(hint:FuncId->Hint)(h:H)(f:FuncId)(args:List A):Option (A×H):=
 match(hint f).mode with
 |0=>call f args h
 |1=>
  match eS h args with
  |some (asx,_)=>match call f asx []with
   |some (r,[])=>if iA r then some (r,h)else none
   |_=>none
  |none=>none
 |3=>
  match eS h args with
  |some (asx,_)=>match call f asx []with
   |some (r,h2)=>if pE r&&h2.all nJ then some (mapA (back [] h.length h2.length) r,h++h2.map (mapO (back [] h.length h2.length)))else none
   |none=>none
  |none=>none
 |_=>
  match eS h args with
  |some (asx,h1)=>match call f asx []with
   |some (r,[])=>some (r,h1)
   |some (r,h2)=>some (mapA (back [] h1.length h2.length) r,h1++h2.map (mapO (back [] h1.length h2.length)))
   |none=>none
  |none=>none
def f5(call:aX)(hint:FuncId->Hint)(h:H)(c:A)(args:List A):Option (A×H):=
 match c with
 |.clo f caps=>bV call hint h f (args++caps)
 |.d (.fn f caps)=>bV call hint h f (args++caps.map .d)
 |_=>none
def cQ(P:Program)(h:H)(b:Builtin)(tys:List TypeId)(args:List A):Option (A×H):=
 match b,tys,args with
 |.len,t::_,[.mp id]=>M7 P h t id
 |.len,t::_,[x]=>(aLen P t x).map fun a=>(a,h)
 |.append,[t,u],[s,x]=>match P.underlying u with
  |some (.int _)=>none
  |none=>none
  |some _=>pV P h t s x
 |_,_,_=>none
structure Env where
 P:Program
 hint:FuncId->Hint
 eqs:List (TypeId×Nat)
 prim:FuncId->Option (List A->H->Option (A×H)):=fun _=>none
def opds:Op->List Operand
 |.move x|.assign x|.box _ x|.load _ x|.nilCheck x|.unOp _ _ x|.convert _ _ x|.fieldAddr _ x _|.field _ x _|.extract x _=>[x]
 |.pick c a b=>[c,a,b]
 |.build _ ps|.buildSlice _ _ ps=>ps.toList.map (·.2)
 |.store _ a v|.binOp _ _ a v _|.makeSlice _ a v|.indexAddr _ a v|.index _ a v=>[a,v]
 |.makeFunc _ first captured=>first.toList++captured.toList
 |.slice _ x l h m=>x::(l.toList++h.toList++m.toList)
 |.makeMap _ r=>r.toList
 |.lookup _ m k _=>[m,k]
 |.mapUpdate _ m k v=>[m,k,v]
 |.call c=>match c.callee with
  |.value f=>f::c.args.toList
  |.builtin _=>c.args.toList
  |_=>[]
 |.insert _ m k v=>[m,k,v]
 |_=>[]
def one(vs:List A)(k:A->Option (A×H)):Option (A×H):=
 match vs with
 | [a]=>k a
 |_=>none
def two(vs:List A)(k:A->A->Option (A×H)):Option (A×H):=
 match vs with
 | [a,b]=>k a b
 |_=>none
def aG1(vs:List A)(k:A->A->A->Option (A×H)):Option (A×H):=
 match vs with
 | [a,b,c]=>k a b c
 |_=>none
def lU(h:H)(a:A):Option (A×H):=
 match a with
 |.ptr _ _ _=>some (a,h)
 |.d (.iptr _)=>some (a,h)
 |.clo _ _=>some (a,h)
 |.d (.fn _ _)=>some (a,h)
 |_=>none
def NC(thaw:List Nat):Option Tmp->Nat
 |some d=>thaw.getD d 0
 |none=>0
def HJ(thaw:List Nat)(dst:Option Tmp)(x:Operand)(h:H)(a:A):Option (A×H):=
 match x,a with
 |.const _,.d .nils=>match NC thaw dst with
  |0=>some (a,h)
  |e+1=>if e<1000 then some (.sl h.length 0 0 0,h++[.arr [] e 0])else some (.sl h.length 0 0 0,h++[.vec [] (e-1000) 0])
 |_,_=>some (a,h)
def logs(thaw:List Nat)(dst:Option Tmp):Bool:=decide (2000<NC thaw dst)
def keeps(thaw:List Nat)(dst:Option Tmp):Bool:=decide (1000<NC thaw dst)
def cA(E:Env)(op:BinOp)(t:TypeId)(h:H)(a b:A):Option (A×H):=
 match aBin op a b with
 |some r=>some (r,h)
 |none=>match aNil E.P op t a b with
  |some r=>some (r,h)
  |none=>(aHl E.eqs op t a b).map fun r=>(r,h)
def A5(P:Program)(h:H)(t:TypeId)(lo hi:Bool)(vs:List A):Option (A×H):=
 match lo,hi,vs with
 |false,false,[a]=>(jR P h t a none none).map fun r=>(r,h)
 |true,false,[a,.d (.int _ l)]=>(jR P h t a (some l) none).map fun r=>(r,h)
 |false,true,[a,.d (.int _ u)]=>(jR P h t a none (some u)).map fun r=>(r,h)
 |true,true,[a,.d (.int _ l),.d (.int _ u)]=>(jR P h t a (some l) (some u)).map fun r=>(r,h)
 |_,_,_=>none
def M9(h:H)(vs:List A):Option (A×H):=
 match vs with
 | [.d (.bool b),x,y]=>some (if b then x else y,h)
 |_=>none
def aDC(P:Program)(h:H)(t:TypeId)(f:Nat)(a:A):Option (A×H):=
 match a,cF P t f with
 |.agg cs,some (off,ft)=>((c7 P ft).bind fun b=>tB b (P.cellsOf ft) (cs.drop off)).map fun r=>(r,h)
 |_,_=>none
def xW(h:H)(i:Nat)(a:A):Option (A×H):=
 match a with
 |.tup vs=>(vs[i]?).map fun a=>(a,h)
 |_=>none
def iH(a:A)(k:Int->Option (A×H)):Option (A×H):=
 match a with
 |.d (.int _ i)=>k i
 |_=>none
def fQ(E:Env)(call:aX)(h:H)(c:Callee)(tys:List TypeId)(vs:List A):Option (A×H):=
 match c with
 |.value _=>match vs with
  |g::args=>f5 call E.hint h g args
  | []=>none
 |.builtin b=>cQ E.P h b tys vs
 |_=>none
def NK(h:H)(fn:Fn)(first:Bool)(vs:List A):Option (A×H):=
 match fn with
 |.func f=>if first then some (.clo f vs,h)else none
 |_=>none
def evOp(E:Env)(call:aX)(thaw:List Nat)(h:H)(o:Oper)(vs:List A):Option (A×H):=
 match o.op with
 |.move _=>one vs fun a=>some (a,h)
 |.assign x=>one vs fun a=>HJ thaw o.dst x h a
 |.pick _ _ _=>M9 h vs
 |.alloc t=>(cX E.P t).bind fun z=>aNew h z
 |.box _ _=>one vs fun v=>aNew h v
 |.build t parts=>(nS E.P t ((parts.toList.map (·.1)).zip vs)).map fun a=>(a,h)
 |.buildSlice t len parts=>if logs thaw o.dst then W9 (kP E.P h t len ((parts.toList.map (·.1)).zip vs))else if keeps thaw o.dst then rS E.P h t len ((parts.toList.map (·.1)).zip vs)else kP E.P h t len ((parts.toList.map (·.1)).zip vs)
 |.load t _=>one vs fun a=>(B5 E.P h t a).map fun v=>(v,h)
 |.store t _ _=>two vs fun a b=>(iW E.P h t a b).map fun h'=>(.d .undef,h')
 |.nilCheck _=>one vs fun a=>lU h a
 |.binOp op t _ _ _=>two vs fun a b=>cA E op t h a b
 |.unOp op _ _=>one vs fun a=>(aUn op a).map fun r=>(r,h)
 |.convert src dst _=>one vs fun a=>gE E.P h src dst a
 |.makeFunc fn first _=>NK h fn (first.size==0) vs
 |.makeSlice t _ _=>two vs fun a b=>iH a fun l=>iH b fun c=>if keeps thaw o.dst then G7 E.P h t l c else fG E.P h t l c
 |.slice t _ lo hi mx=>if mx.isNone then A5 E.P h t lo.isSome hi.isSome vs else none
 |.fieldAddr t _ f=>one vs fun a=>(cF E.P t f).bind fun r=>(sK r.1 a).map fun r=>(r,h)
 |.field t _ f=>one vs fun a=>aDC E.P h t f a
 |.indexAddr t _ _=>two vs fun a b=>iH b fun i=>(oY E.P h t a i).map fun r=>(r,h)
 |.index t _ _=>two vs fun a b=>iH b fun i=>(OL E.P t a i).map fun r=>(r,h)
 |.extract _ i=>one vs fun a=>xW h i a
 |.makeMap _ r=>if r.isNone then some (.mp h.length,h++[.mp []])else none
 |.lookup t _ _ ok=>two vs fun m k=>XH E.P h t ok m k
 |.mapUpdate t _ _ _=>aG1 vs fun m k v=>F6 E.P h t m k v
 |.insert t _ _ _=>aG1 vs fun m k v=>F6 E.P h t m k v
 |.call c=>fQ E call h c.callee c.argTypes.toList vs
 |_=>none
def jK(E:Env)(call:aX)(thaw:List Nat)(h:H)(o:Oper)(vs:List A):Option (A×H×List Nat×Nat):=
 let ord:=aD aF h (idsL vs) []
 match evOp E call thaw (pack h ord) o (aE (aH ord) vs)with
 |some (a,h1)=>
  if ord.length<=h1.length/\closed h ord (idsL vs)then
   let f:=back ord h.length h1.length
   some (mapA f a,bE f h ord h1,ord,h1.length-ord.length)
  else none
 |none=>none
def uO:Op->Bool
 |.call c=>match c.callee with
  |.value _=>true
  |_=>false
 |_=>false
def rL:Op->Bool
 |.move _|.pick ..|.nilCheck _|.binOp ..|.unOp ..|.makeFunc ..|.fieldAddr ..|.field ..|.index ..|.extract ..|.build ..=>true
 |_=>false
def ids0:List A->List Nat
 |a::_=>idsA a
 | []=>[]
def tF:Op->Bool
 |.load _ _=>true
 |.slice ..=>true
 |.indexAddr ..=>true
 |.lookup ..=>true
 |.call ⟨.builtin .len,_,_⟩=>true
 |_=>false
def iU(E:Env)(o:Op)(vs:List A):Bool:=
 match o with
 |.load _ _=>true
 |.slice _ _ _ _ _=>true
 |.indexAddr _ _ _=>true
 |.convert _ dst _=>(cN E.P dst).isNone
 |.call c=>match c.callee,vs with
  |.builtin .len,_=>true
  |.value _,.clo f _::_=>(E.hint f).mode==1
  |.value _,.d (.fn f _)::_=>(E.hint f).mode==1
  |_,_=>false
 |_=>false
def qM(ops:List Oper)(s:List A)(o:Oper):Option Bool:=
 match o.guard with
 |none=>some true
 |some (j,want)=>match(ops[j]?).bind (·.dst)with
  |none=>none
  |some d=>match s[d]? with
   |some (.d (.bool b))=>some (b==want)
   |some (.d .undef)=>some false
   |_=>none
def aPut(s:List A)(dst:Option Tmp)(a:A):List A:=
 match dst with
 |some d=>s.set d a
 |none=>s
def DG(E:Env)(call:aX)(thaw:List Nat)(ops:List Oper)(o:Oper)(s:List A)(h:H):Option (List A×H):=
 match qM ops s o with
 |some true=>match bX s (opds o.op)with
  |some vs=>
   if uO o.op then
    match jK E call thaw h o vs with
    |some (a,h',_)=>some (aPut s o.dst a,h')
    |none=>none
   else match evOp E call thaw h o vs with
    |some (a,h')=>some (aPut s o.dst a,h')
    |none=>none
  |none=>none
 |some false=>some (aPut s o.dst (.d .undef),h)
 |none=>none
def xY(E:Env)(call:aX)(thaw:List Nat)(ops:List Oper):List Oper->List A->H->Option (List A×H)
 | [],s,h=>some (s,h)
 |o::rest,s,h=>match DG E call thaw ops o s h with
  |some (s1,h1)=>xY E call thaw ops rest s1 h1
  |none=>none
structure Foot where
 ids:List Nat:=[]
 ro:Bool:=true
 wr:List Nat:=ids
 deriving Inhabited
def wrOf(E:Env)(op:Op)(vs:List A)(ord:List Nat):List Nat:=
 match op,vs with
 |.alloc _,_=>[]
 |.box _ _,_=>[]
 |.assign _,_=>[]
 |.makeSlice _ _ _,_=>[]
 |.makeMap _ _,_=>[]
 |.call ⟨.builtin .append,_,_⟩,a::_=>idsA a
 |.call ⟨.value _,_,_⟩,.clo f _::_=>if(E.hint f).mode==3 then []else ord
 |.call ⟨.value _,_,_⟩,.d (.fn f _)::_=>if(E.hint f).mode==3 then []else ord
 |_,_=>ord
def wZ(E:Env)(call:aX)(thaw:List Nat)(ops:List Oper)(o:Oper)(s:List A)(h:H):Option (List A×H×Foot):=
 match qM ops s o with
 |some true=>match bX s (opds o.op)with
  |some vs=>
   if rL o.op then
    match evOp E call thaw h o vs with
    |some (a,_)=>some (aPut s o.dst a,h,{})
    |none=>none
   else if tF o.op then
    match evOp E call thaw h o vs with
    |some (a,_)=>some (aPut s o.dst a,h,{ ids:=ids0 vs,ro:=true})
    |none=>none
   else match jK E call thaw h o vs with
    |some (a,h',ord,k)=>if iU E o.op vs&&k==0 then some (aPut s o.dst a,h,{ ids:=ord,ro:=true})else some (aPut s o.dst a,h',{ ids:=ord++List.range' h.length k,ro:=false,wr:=wrOf E o.op vs ord++List.range' h.length k})
    |none=>none
  |none=>none
 |some false=>some (aPut s o.dst (.d .undef),h,{})
 |none=>none
def lD(E:Env)(call:aX)(thaw:List Nat)(ops:List Oper):List Oper->List A->H->Option (List A×H×List Foot)
 | [],s,h=>some (s,h,[])
 |o::rest,s,h=>match wZ E call thaw ops o s h with
  |some (s1,h1,c)=>match lD E call thaw ops rest s1 h1 with
   |some (s2,h2,cs)=>some (s2,h2,c::cs)
   |none=>none
  |none=>none
def lQ(a b:Foot):Bool:=(!a.ro&&a.wr.any b.ids.contains)||(!b.ro&&b.wr.any a.ids.contains)
def aSP(acc:List Nat)(o:Oper):Nat:=o.after.toList.foldl (fun s e=>if Region.binds .any e then s|||2^e.on|||acc.getD e.on 0 else s) 0
def LQ:List Oper->List Nat->List Nat
 | [],acc=>acc
 |o::os,acc=>LQ os (acc++[aSP acc o])
def n4(ops:List Oper)(cs:List Foot):Bool:=
 let b:=LQ ops []
 (List.range cs.length).all fun j=>(List.range j).all fun i=>(b.getD j 0).testBit i|| !lQ (cs.getD i {}) (cs.getD j {})
def mL(E:Env)(call:aX)(thaw:List Nat)(ops:Array Oper)(draw:Bool)(s:List A)(h:H):Option (List A×H):=
 if draw then
  match lD E call thaw ops.toList ops.toList s h with
  |some (s',h',cs)=>if Region.lexB .any ops&&n4 ops.toList cs then some (s',h')else none
  |none=>none
 else xY E call thaw ops.toList ops.toList s h
def fH:A->Bool
 |.d .undef=>true
 |.junk=>true
 |_=>false
def qQ:List Bool->List A->List Bool
 |true::l,a::s=>fH a::qQ l s
 |false::l,_::s=>true::qQ l s
 | [],s=>s.map fH
 |_,[]=>[]
def tidy:List Bool->List A->List A
 |true::m,_::s=>.junk::tidy m s
 |false::m,a::s=>a::tidy m s
 |_,s=>s
def f9:H->List Nat
 | []=>[]
 |.box cs::h=>idsL cs++f9 h
 |.vec cs _ _::h=>idsL cs++f9 h
 |_::h=>f9 h
def dI(nf:Nat)(h:H)(ids:List Nat):List Nat:=aD aF h (f9 (h.take nf)++ids) (List.range nf)
def a6(h:H)(id:Nat):Option Nat:=match h[id]? with
 |some (.arr _ _ g)=>some g
 |some (.vec _ _ g)=>some g
 |some (.ice _ _ g)=>some g
 |_=>none
def gS(nf:Nat)(h:H)(id gen off len:Nat):A:=
 if id<nf then .sl id gen off len else match a6 h id with
  |some g=>if gen=g then .sl id 0 off len else .junk
  |none=>.sl id gen off len
def IE(nf:Nat)(h:H)(id gen off:Nat):A:=
 if id<nf then .ptr id gen off else match a6 h id with
  |some g=>if gen=g then .ptr id 0 off else .junk
  |none=>.ptr id gen off
mutual
def bJ(nf:Nat)(h:H):A->A
 |.sl id gen off len=>gS nf h id gen off len
 |.ptr id gen off=>IE nf h id gen off
 |.mp id=>.mp id
 |.clo g caps=>.clo g (aQ nf h caps)
 |.agg cs=>.agg (aQ nf h cs)
 |.tup cs=>.tup (aQ nf h cs)
 |.d x=>.d x
 |.junk=>.junk
def aQ(nf:Nat)(h:H):List A->List A
 | []=>[]
 |a::asx=>bJ nf h a::aQ nf h asx
end
def cB(nf:Nat)(h:H)(i:Nat):O->O
 |.arr cs e g=>.arr cs e (if i<nf then g else 0)
 |.box cs=>.box (aQ nf h cs)
 |.ice cs e g=>.ice cs e (if i<nf then g else 0)
 |.vec cs e g=>.vec (aQ nf h cs) e (if i<nf then g else 0)
 |.log cs=>.log cs
 |.mp es=>.mp es
 |.void=>.void
def dV(nf:Nat)(h:H):Nat->H->H
 |_,[]=>[]
 |i,o::os=>cB nf h i o::dV nf h (i+1) os
def cM(nf:Nat)(h:H):H:=dV nf h 0 h
def trim(nf:Nat)(h:H)(ord:List Nat)(s:List A):List A×H:=
 (aQ nf (pack h ord) (aE (aH ord) s),cM nf (pack h ord))
def gc(nf:Nat)(m:List Bool)(s:List A)(h:H):List A×H:=trim nf h (dI nf h (idsL (tidy m s))) (tidy m s)
def r9(body:List A->H->Option (Exit×List A×H))(nf:Nat)(m:List Bool):Nat->List A->H->Option (Exit×List A×H)
 |0,_,_=>none
 |n+1,s,h=>match body s h with
  |some (.normal,s1,h1)=>
   let r:=gc nf m s1 h1
   r9 body nf m n r.1 r.2
  |some (e,s1,h1)=>
   let r:=gc nf m s1 h1
   some (e,r.1,r.2)
  |none=>none
def bW(E:Env)(call:aX)(L nf:Nat)(thaw:List Nat)(live:List Bool):Code->List A->H->Option (Exit×List A×H)
 |.skip,s,h=>some (.normal,s,h)
 |.region _ ops draw,s,h=>match mL E call thaw ops draw s h with
  |some (s',h')=>some (.normal,s',h')
  |none=>none
 |.seq a b,s,h=>match bW E call L nf thaw live a s h with
  |some (.normal,s1,h1)=>bW E call L nf thaw live b s1 h1
  |r=>r
 |.cond c x y,s,h=>match c8 s c with
  |some (.d (.bool b))=>if b then bW E call L nf thaw live x s h else bW E call L nf thaw live y s h
  |_=>none
 |.block id c,s,h=>match bW E call L nf thaw live c s h with
  |some (.exit k,s1,h1)=>if k=id then some (.normal,s1,h1)else some (.exit k,s1,h1)
  |r=>r
 |.loop c,s,h=>
  let m:=qQ live s
  let r:=gc nf m s h
  r9 (bW E call L nf thaw live c) nf m L r.1 r.2
 |.exit id,s,h=>some (.exit id,s,h)
 |.ret,s,h=>some (.ret,s,h)
 |_,_,_=>none
def GJ(P:Program)(s:List A)(h:H):ResultVar->Option A
 |.tmp t=>some (s.getD t (.d .undef))
 |.cell a t=>B5 P h t (s.getD a (.d .undef))
def kU(P:Program)(s:List A)(h:H):List ResultVar->Option (List A)
 | []=>some []
 |r::rs=>match GJ P s h r,kU P s h rs with
  |some a,some asx=>some (a::asx)
  |_,_=>none
def outS(nf:Nat)(exp:Bool)(h:H)(a:A):Option (A×H):=
 match a with
 |.d .nils=>some (.d (.ivs 0 []),h)
 |.d x=>some (.d x,h)
 |.sl id gen off len=>if id<nf||exp then some (.sl id gen off len,h)else(frz deep h a).map fun r=>(.d r.1,r.2)
 |.ptr id gen off=>if id<nf||exp then some (.ptr id gen off,h)else(frz deep h a).map fun r=>(.d r.1,r.2)
 |.mp id=>if id<nf||exp then some (.mp id,h)else none
 |.clo f caps=>if exp then some (.clo f caps,h)else(frz deep h (.clo f caps)).map fun r=>(.d r.1,r.2)
 |a=>(frz deep h a).map fun r=>(.d r.1,r.2)
def B8(nf:Nat)(exp:Bool):H->List A->Option (List A×H)
 |h,[]=>some ([],h)
 |h,a::asx=>match outS nf exp h a with
  |some (x,h1)=>match B8 nf exp h1 asx with
   |some (xs,h2)=>some (x::xs,h2)
   |none=>none
  |none=>none
def outA(nf:Nat)(exp:Bool)(h:H):A->Option (A×H)
 |.agg cs=>(B8 nf exp h cs).map fun r=>(.agg r.1,r.2)
 |a=>outS nf exp h a
def qN(nf:Nat)(exp:Bool):H->List A->Option (List A×H)
 |h,[]=>some ([],h)
 |h,a::asx=>match outA nf exp h a with
  |some (x,h1)=>match qN nf exp h1 asx with
   |some (xs,h2)=>some (x::xs,h2)
   |none=>none
  |none=>none
def tupA:List A->A
 | [a]=>a
 |asx=>.tup asx
def lV:Exit->Bool
 |.normal=>true
 |.ret=>true
 |_=>false
def HU(E:Env)(call:aX)(L:Nat)(f:FuncId)(fn:Func)(c:Code)(args:List A)(h:H):Option (A×H):=
 match bW E call L h.length (E.hint f).thaw (E.hint f).live c (args++List.replicate (fn.ntmps-args.length) (.d .undef)) h with
 |some (e,s,h1)=>
  if lV e then
   match kU E.P s h1 fn.results.toList with
   |some rs=>match qN h.length (E.hint f).exp h1 rs with
    |some (xs,h2)=>
     let r:=trim h.length h2 (dI h.length h2 (idsL xs)) xs
     some (tupA r.1,r.2)
    |none=>none
   |none=>none
  else none
 |none=>none
def aA(E:Env)(L:Nat):Nat->aX
 |0,_,_,_=>none
 |n+1,f,args,h=>match E.prim f with
  |some g=>g args h
  |none=>match E.P.funcs[f]? with
  |some fn=>match fn.body with
   | some c => if fn.name == "runtime.NumGoroutine" then none else HU E (aA E L n) L f fn c args h
   |none=>none
  |none=>none
theorem cs1(i:Nat):((i+1:Nat):Int)=(i:Int)+1:=rfl
abbrev W1(l:List Nat):List Nat:=0::l
abbrev W2(l:List Nat):List Nat:=0::0::l
abbrev W4(l:List Nat):List Nat:=W2 (W2 l)
abbrev W8(l:List Nat):List Nat:=W4 (W4 l)
abbrev W16(l:List Nat):List Nat:=W8 (W8 l)
abbrev W32(l:List Nat):List Nat:=W16 (W16 l)
abbrev nI(x:Int):A:=.d (.int .i64 x)
theorem kr.{u}{α:Sort u}{a b:α}(h:a=b:=by kernel_rfl):a=b:=h
end Ev
end Go.Proofs.YtahbdkmimmnadaaGreatDoor
