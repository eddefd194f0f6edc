/-
  An abstract evaluator of the loaded code. Immutable data are trees (D), memory under construction is a list of objects (O). No program is named here.
-/
import Derived.Test.YtahbdkmimmnadaaGreatDoorAl
import Derived.Calls
import Derived.Tactics
import Derived.LoopN
import Derived.Orders
import Derived.Still
import Derived.Below
import Derived.MapKept
set_option linter.unusedSimpArgs false
set_option linter.unusedVariables false
namespace Go.Proofs.YtahbdkmimmnadaaGreatDoor
namespace Ev
theorem AI{a b:Prop}(x:a)(y:b):a/\b:=And.intro x y
inductive D where
 |undef
 |int (k:IntKind) (n:Int)
 |bool (b:Bool)
 |str (s:List UInt8)
 |ivs (len:Nat) (cells:List D)
 |nils
 |iptr (cells:List D)
 |nilp
 |fn (f:FuncId) (caps:List D)
 |nilfn
 |nili
 |nilm
 |ifc (t:TypeId) (x:D)
 deriving Inhabited
inductive A where
 |d (x:D)
 |sl (id gen off len:Nat)
 |ptr (id gen off:Nat)
 |mp (id:Nat)
 |clo (f:FuncId) (caps:List A)
 |agg (cells:List A)
 |tup (vs:List A)
 |junk
 deriving Inhabited
inductive O where
 |arr (cells:List D) (esz gen:Nat)
 |box (cells:List A)
 |ice (cells:List D) (esz gen:Nat)
 |vec (cells:List A) (esz gen:Nat)
 |log (cells:List D)
 |mp (entries:List (D×D))
 |void
 deriving Inhabited
abbrev H:=List O
structure Hint where
 mode:Nat:=2
 exp:Bool:=false
 thaw:List Nat:=[]
 live:List Bool:=[]
 deriving Inhabited
def f8:Value->Option A
 |.bool b=>some (.d (.bool b))
 |.int k n=>some (.d (.int k n))
 |.string s=>some (.d (.str s.data.toList))
 |.pointer none=>some (.d .nilp)
 |.slice none 0 0=>some (.d .nils)
 |.map none=>some (.d .nilm)
 |.nilFunc=>some (.d .nilfn)
 |.nilIface=>some (.d .nili)
 |_=>none
def GN:List Value->Option (List A)
 | []=>some []
 |v::vs=>match f8 v,GN vs with
  |some a,some asx=>some (a::asx)
  |_,_=>none
def K5:Value->Option A
 |.agg cs=>(GN cs.toList).map .agg
 |v=>f8 v
def dB(s:List A):Operand->Option A
 |.tmp t=>some (s.getD t (.d .undef))
 |.const v=>K5 v
 |.func f=>some (.clo f [])
 |.global _=>none
def bP(s:List A):List Operand->Option (List A)
 | []=>some []
 |x::xs=>match dB s x,bP s xs with
  |some a,some asx=>some (a::asx)
  |_,_=>none
def aT:A->List A
 |.agg cs=>cs
 |a=>[a]
def r5(agg:Bool)(n:Nat)(run:List A):Option A:=
 if agg then(if n<=run.length then some (.agg (run.take n))else none)else run.head?
def cY(P:Program)(t:TypeId):Option Bool:=
 match P.underlying t with
 |some (.struct _)=>some true
 |some (.array _ _)=>some true
 |some _=>some false
 |none=>none
def cR(P:Program)(t:TypeId):Option TypeId:=
 match P.underlying t with
 |some (.slice e)=>some e
 |_=>none
def dA(P:Program)(t:TypeId):Option A:=
 match P.info? t with
 |some i=>i.zero.bind K5
 |none=>none
def eS(f:H->A->Option (D×H)):H->List A->Option (List D×H)
 |h,[]=>some ([],h)
 |h,a::asx=>
  match f h a with
  |some (x,h1)=>
   match eS f h1 asx with
   |some (ds,h2)=>some (x::ds,h2)
   |none=>none
  |none=>none
def frz0(h:H):A->Option (D×H)
 |.d x=>some (x,h)
 |.sl id gen off len=>
  match h[id]? with
  |some (.arr cs esz g)=>if g=gen/\off+len*esz<=cs.length then some (.ivs len ((cs.drop off).take (len*esz)),h.set id (.ice cs esz g))else none
  |some (.ice cs esz g)=>if g=gen/\off+len*esz<=cs.length then some (.ivs len ((cs.drop off).take (len*esz)),h)else none
  |some (.log cs)=>if gen=cs.length+1/\off+len<=cs.length then some (.ivs len ((cs.drop off).take len),h.set id (.ice cs 1 gen))else none
  |_=>none
 |_=>none
def frz:Nat->H->A->Option (D×H)
 |0,h,a=>frz0 h a
 |n+1,h,.ptr id gen off=>
  match h[id]? with
  |some (.box cs)=>
   if gen=0/\off<=cs.length then
    match eS (frz n) h cs with
    |some (ds,h1)=>match h1[id]? with
     |some (.box _)=>some (.iptr (ds.drop off),h1.set id (.ice ds 1 0))
     |_=>none
    |none=>none
   else none
  |some (.ice ds _ g)=>if gen=g/\off<=ds.length then some (.iptr (ds.drop off),h)else none
  |_=>none
 |n+1,h,.sl id gen off len=>
  match h[id]? with
  |some (.vec cs esz g)=>
   if g=gen/\off+len*esz<=cs.length then
    match eS (frz n) h cs with
    |some (ds,h1)=>match h1[id]? with
     |some (.vec cs' e' g')=>if e'=esz/\g'=g/\cs'.length=cs.length then some (.ivs len ((ds.drop off).take (len*esz)),h1.set id (.ice ds esz g))else none
     |_=>none
    |none=>none
   else none
  |_=>frz0 h (.sl id gen off len)
 |n+1,h,.clo f caps=>
  match eS (frz n) h caps with
  |some (ds,h1)=>some (.fn f ds,h1)
  |none=>none
 |_+1,h,a=>frz0 h a
def deep:Nat:=5
def frzL(h:H)(asx:List A):Option (List D×H):=eS (frz deep) h asx
def frzA(h:H):A->Option (A×H)
 |.agg cs=>match frzL h cs with
  |some (ds,h1)=>some (.agg (ds.map .d),h1)
  |none=>none
 |a=>match frz deep h a with
  |some (x,h1)=>some (.d x,h1)
  |none=>none
def fA:H->List A->Option (List A×H)
 |h,[]=>some ([],h)
 |h,a::asx=>match frzA h a with
  |some (x,h1)=>match fA h1 asx with
   |some (xs,h2)=>some (x::xs,h2)
   |none=>none
  |none=>none
def isD:A->Bool
 |.d _=>true
 |_=>false
def wO:A->Bool
 |.d _=>true
 |.agg cs=>cs.all isD
 |_=>false
def iC:A->Bool
 |.d (.int _ _)=>true
 |.d (.bool _)=>true
 |.d (.str _)=>true
 |.tup vs=>vs.all fun|.d (.int _ _)=>true|.d (.bool _)=>true|.d (.str _)=>true|_=>false
 |_=>false
mutual
def mapA(f:Nat->Option Nat):A->A
 |.sl id gen off len=>match f id with|some k=>.sl k gen off len|none=>.junk
 |.ptr id gen off=>match f id with|some k=>.ptr k gen off|none=>.junk
 |.mp id=>match f id with|some k=>.mp k|none=>.junk
 |.clo g caps=>.clo g (aE f caps)
 |.agg cs=>.agg (aE f cs)
 |.tup vs=>.tup (aE f vs)
 |.d x=>.d x
 |.junk=>.junk
def aE(f:Nat->Option Nat):List A->List A
 | []=>[]
 |a::asx=>mapA f a::aE f asx
end
mutual
def idsA:A->List Nat
 |.sl id _ _ _=>[id]
 |.ptr id _ _=>[id]
 |.mp id=>[id]
 |.clo _ caps=>idsL caps
 |.agg cs=>idsL cs
 |.tup vs=>idsL vs
 |.d _=>[]
 |.junk=>[]
def idsL:List A->List Nat
 | []=>[]
 |a::asx=>idsA a++idsL asx
end
def mapO(f:Nat->Option Nat):O->O
 |.box cs=>.box (aE f cs)
 |.vec cs e g=>.vec (aE f cs) e g
 |o=>o
def aC:Nat->H->List Nat->List Nat->List Nat
 |0,_,_,acc=>acc
 |_+1,_,[],acc=>acc
 |n+1,h,i::todo,acc=>
  if acc.contains i then aC n h todo acc
  else match h[i]? with
   |some (.box cs)=>aC n h (todo++idsL cs) (acc++[i])
   |some (.vec cs _ _)=>aC n h (todo++idsL cs) (acc++[i])
   |some .void=>aC n h todo acc
   |some _=>aC n h todo (acc++[i])
   |none=>aC n h todo acc
def aH:List Nat->Nat->Option Nat
 | [],_=>none
 |i::is,k=>if i=k then some 0 else(aH is k).map (·+1)
def pack(h:H)(ord:List Nat):H:=ord.map fun i=>mapO (aH ord) (h.getD i default)
def back(ord:List Nat)(base n:Nat)(k:Nat):Option Nat:=
 if k<ord.length then ord[k]? else if k<n then some (base+(k-ord.length))else none
def bA(f:Nat->Option Nat):H->List Nat->H->H
 |h,[],rest=>h++rest.map (mapO f)
 |h,i::ord,o::rest=>bA f (h.set i (mapO f o)) ord rest
 |h,_::_,[]=>h
def aD:Nat:=1099511627776
def closed(h:H)(ord ids:List Nat):Bool:=
 ids.all ord.contains&&ord.all fun i=>match h[i]? with
  |some (.box cs)=>(idsL cs).all ord.contains
  |some (.vec cs _ _)=>(idsL cs).all ord.contains
  |_=>true
def mV(h:H):A->Option (List A)
 |.ptr id gen off=>match h[id]? with
  |some (.box cs)=>some (cs.drop off)
  |some (.arr cs _ g)=>if g=gen then some ((cs.drop off).map .d)else none
  |some (.ice cs _ g)=>if g=gen then some ((cs.drop off).map .d)else none
  |some (.vec cs _ g)=>if g=gen then some (cs.drop off)else none
  |some (.log cs)=>if off+1<gen/\gen<=cs.length+1 then some (((cs.drop off).take 1).map .d)else none
  |_=>none
 |.d (.iptr cs)=>some (cs.map .d)
 |_=>none
def a6{α:Type}(cs:List α)(off:Nat)(new:List α):List α:=cs.take off++new++cs.drop (off+new.length)
def aY:H->List A->List A×H
 |h,[]=>([],h)
 |h,.d .nils::cs=>let r:=aY (h++[.arr [] 0 0]) cs;(.sl h.length 0 0 0::r.1,r.2)
 |h,c::cs=>let r:=aY h cs;(c::r.1,r.2)
def dH:A->Bool
 |.d .undef=>false
 |.junk=>false
 |.agg _=>false
 |.tup _=>false
 |_=>true
def AF(P:Program)(h:H)(t:TypeId)(a:A):Option A:=
 match mV h a,cY P t with
 |some run,some b=>r5 b (P.cellsOf t) run
 |_,_=>none
def iW(P:Program)(h:H)(t:TypeId)(a v:A):Option H:=
 if(aT v).length=P.cellsOf t/\(P.info? t).isSome/\(aT v).all dH then
  match a with
  |.ptr id gen off=>match h[id]? with
   |some (.box cs)=>
    if off+P.cellsOf t<=cs.length then
     some ((aY h (aT v)).2.set id (.box (a6 cs off (aY h (aT v)).1)))
    else none
   |some (.arr _ _ _)=>match frzL h (aT v)with
    |some (ds,h1)=>match h1[id]? with
     |some (.arr cs esz g)=>if g=gen/\off+P.cellsOf t<=cs.length then some (h1.set id (.arr (a6 cs off ds) esz g))else none
     |_=>none
    |none=>none
   |some (.vec cs esz g)=>if g=gen/\off+P.cellsOf t<=cs.length then some (h.set id (.vec (a6 cs off (aT v)) esz g))else none
   |_=>none
  |_=>none
 else none
def aNew(h:H)(v:A):Option (A×H):=
 if(aT v).all dH then
  some (.ptr (aY h (aT v)).2.length 0 0,(aY h (aT v)).2++[.box (aY h (aT v)).1])
 else none
def cE(P:Program)(s:TypeId)(f:Nat):Option (Nat×TypeId):=
 match P.underlying s with
 |some (.struct fields)=>match fields[f]? with
  |some x=>if P.cellsOf x.type=0 then none else some (x.offset,x.type)
  |none=>none
 |_=>none
def rT(off:Nat):A->Option A
 |.ptr id gen o=>some (.ptr id gen (o+off))
 |.d (.iptr cs)=>if off<=cs.length then some (.d (.iptr (cs.drop off)))else none
 |_=>none
def nW(P:Program)(h:H)(t:TypeId)(x:A)(i:Int):Option A:=
 match P.underlying t with
 |some (.array n e)=>if 0<P.cellsOf e/\0<=i/\i<n then rT (i.toNat*P.cellsOf e) x else none
 |some (.slice e)=>match x with
  |.d (.ivs n cs)=>if 0<P.cellsOf e/\0<=i/\i<n/\i.toNat*P.cellsOf e<cs.length then some (.d (.iptr (cs.drop (i.toNat*P.cellsOf e))))else none
  |.sl id gen off len=>match h[id]? with
   |some (.arr _ esz g)=>if g=gen/\esz=P.cellsOf e/\0<esz/\0<=i/\i<len then some (.ptr id gen (off+i.toNat*esz))else none
   |some (.ice _ esz g)=>if g=gen/\esz=P.cellsOf e/\0<esz/\0<=i/\i<len then some (.ptr id gen (off+i.toNat*esz))else none
   |some (.vec _ esz g)=>if g=gen/\esz=P.cellsOf e/\0<esz/\0<=i/\i<len then some (.ptr id gen (off+i.toNat*esz))else none
   |some (.log cs)=>if 0<gen/\gen<=cs.length+1/\P.cellsOf e=1/\0<=i/\i<len then some (.ptr id gen (off+i.toNat))else none
   |_=>none
  |_=>none
 |_=>none
def aE5(P:Program)(t:TypeId)(x:A)(i:Int):Option A:=
 match P.underlying t,x with
 |some .string,.d (.str s)=>if 0<=i then(s[i.toNat]?).map fun b=>.d (.int .u8 b.toNat)else none
 |some (.array n e),.agg cs=>if 0<=i/\i<n then(cY P e).bind fun b=>r5 b (P.cellsOf e) (cs.drop (i.toNat*P.cellsOf e))else none
 |_,_=>none
def bT(h:H)(esz:Nat):A->Option (Nat×List D)
 |.d .nils=>some (0,[])
 |.d (.ivs n cs)=>if cs.length=n*esz then some (n,cs)else none
 |.d (.str s)=>if esz=1 then some (s.length,s.map fun b=>.int .u8 b.toNat)else none
 |.sl id gen off len=>match h[id]? with
  |some (.arr cs e g)=>if g=gen/\(len=0\/e=esz)/\off+len*esz<=cs.length then some (len,(cs.drop off).take (len*esz))else none
  |some (.ice cs e g)=>if g=gen/\(len=0\/e=esz)/\off+len*esz<=cs.length then some (len,(cs.drop off).take (len*esz))else none
  |_=>none
 |_=>none
def pC(h:H)(esz:Nat):A->Option (Nat×List A)
 |.sl id gen off len=>match h[id]? with
  |some (.vec cs e g)=>if g=gen/\(len=0\/e=esz)/\off+len*esz<=cs.length then some (len,(cs.drop off).take (len*esz))else none
  |_=>(bT h esz (.sl id gen off len)).map fun r=>(r.1,r.2.map .d)
 |a=>(bT h esz a).map fun r=>(r.1,r.2.map .d)
def bF:Nat:=2^32
def wF:A->Bool
 |.junk=>false
 |_=>true
def eG(P:Program)(e:TypeId):Bool:=
 match dA P e with
 |some z=>(aT z).length==P.cellsOf e&&(aT z).all dH&&decide (0<P.cellsOf e)&&decide (0<P.bytesOf e)&&decide (P.bytesOf e<=1024)
 |none=>false
def iE(P:Program)(h:H)(t:TypeId)(s x:A):Option (A×H):=
 match cR P t with
 |some e=>
  if eG P e then
   match bT h (P.cellsOf e) x with
   |some (n,src)=>
    match s with
    |.d .nils=>if n<=bF then some (.sl h.length 0 0 n,h++[.arr src (P.cellsOf e) 0])else none
    |.sl id gen off len=>match h[id]? with
     |some (.arr cs e0 g)=>
      if g=gen/\(e0=0\/e0=P.cellsOf e)/\off=0/\len*P.cellsOf e<=cs.length/\len+n<=bF then
       some (.sl id (g+1) 0 (len+n),h.set id (.arr (cs.take (len*P.cellsOf e)++src) (P.cellsOf e) (g+1)))
      else none
     |some (.log cs)=>
      if gen=cs.length+1/\off=0/\len=cs.length/\P.cellsOf e=1/\len+n<=bF then
       some (.sl id (len+n+1) 0 (len+n),h.set id (.log (cs++src)))
      else none
     |_=>none
    |_=>none
   |none=>none
  else none
 |none=>none
def oE(P:Program)(h:H)(t:TypeId)(id gen off len:Nat)(x:A):Option (A×H):=
 match cR P t with
 |some e=>
  if eG P e then
   match pC h (P.cellsOf e) x,h[id]? with
   |some (n,src),some (.vec cs e0 g)=>
    if g=gen/\(e0=0\/e0=P.cellsOf e)/\off=0/\len*P.cellsOf e<=cs.length/\len+n<=bF then
     some (.sl id (g+1) 0 (len+n),h.set id (.vec (cs.take (len*P.cellsOf e)++src) (P.cellsOf e) (g+1)))
    else none
   |_,_=>none
  else none
 |none=>none
def DQ(h:H)(id:Nat):Bool:=match h[id]? with
 |some (.vec _ _ _)=>true
 |_=>false
def FM(h:H)(id:Nat):Option (Nat×Nat):=match h[id]? with
 |some (.arr [] e g)=>some (e,g)
 |_=>none
def TO(h:H):A->Bool
 |.sl id _ _ _=>DQ h id
 |_=>false
def pB(P:Program)(h:H)(t:TypeId)(s x:A):Option (A×H):=
 match s with
 |.sl id gen off len=>
  if DQ h id then oE P h t id gen off len x
  else if TO h x then
   match FM h id with
   |some (e,g)=>oE P (h.set id (.vec [] e g)) t id gen off len x
   |none=>iE P h t s x
  else iE P h t s x
 |_=>iE P h t s x
def aLen(P:Program)(t:TypeId)(x:A):Option A:=
 match P.underlying t,x with
 |some .string,.d (.str s)=>some (.d (.int .i64 s.length))
 |some (.array n _),_=>some (.d (.int .i64 n))
 |some (.slice _),.d .nils=>some (.d (.int .i64 0))
 |some (.slice _),.d (.ivs n _)=>some (.d (.int .i64 n))
 |some (.slice _),.sl _ _ _ n=>some (.d (.int .i64 n))
 |_,_=>none
def lJ(n:Nat)(lo hi:Option Int):Option (Nat×Nat):=
 if 0<=lo.getD 0/\lo.getD 0<=hi.getD n/\hi.getD n<=n then some ((lo.getD 0).toNat,(hi.getD n).toNat)else none
def gE(P:Program)(h:H)(t:TypeId)(x:A)(lo hi:Option Int):Option A:=
 match P.underlying t,x with
 |some .string,.d (.str s)=>(lJ s.length lo hi).map fun r=>.d (.str ((s.drop r.1).take (r.2-r.1)))
 |some (.slice e),.d (.ivs n cs)=>
  if 0<P.cellsOf e then(lJ n lo hi).map fun r=>.d (.ivs (r.2-r.1) ((cs.drop (r.1*P.cellsOf e)).take ((r.2-r.1)*P.cellsOf e)))else none
 |some (.slice e),.sl id gen off len=>
  match h[id]? with
  |some (.arr _ esz g)=>
   if g=gen/\0<P.cellsOf e/\(len=0\/esz=P.cellsOf e)then(lJ len lo hi).map fun r=>.sl id gen (off+r.1*esz) (r.2-r.1)else none
  |some (.vec _ esz g)=>
   if g=gen/\0<P.cellsOf e/\(len=0\/esz=P.cellsOf e)then(lJ len lo hi).map fun r=>.sl id gen (off+r.1*esz) (r.2-r.1)else none
  |some (.log cs)=>
   if 0<gen/\gen<=cs.length+1/\P.cellsOf e=1 then(lJ len lo hi).map fun r=>.sl id gen (off+r.1) (r.2-r.1)else none
  |_=>none
 |_,_=>none
def pZ:Sem Value->Option Value
 |.pure v=>some v
 |_=>none
def aBin(op:BinOp)(x y:A):Option A:=
 match op,x,y with
 |.shl,.d (.int k a),.d (.int yk b)=>(pZ (Op.shift .shl k a yk b)).bind f8
 |.shr,.d (.int k a),.d (.int yk b)=>(pZ (Op.shift .shr k a yk b)).bind f8
 |op,.d (.int k a),.d (.int k' b)=>
  if k≠k' then none else
  match op with
  |.add=>(pZ (Op.intArith .add k a b)).bind f8
  |.sub=>(pZ (Op.intArith .sub k a b)).bind f8
  |.mul=>(pZ (Op.intArith .mul k a b)).bind f8
  |.quo=>if b=0 then none else some (.d (.int k (k.wrap (a.tdiv b))))
  |.rem=>if b=0 then none else some (.d (.int k (a.tmod b)))
  |.and=>(pZ (Op.intBits .and k a b)).bind f8
  |.or=>(pZ (Op.intBits .or k a b)).bind f8
  |.xor=>(pZ (Op.intBits .xor k a b)).bind f8
  |.andNot=>(pZ (Op.intBits .andNot k a b)).bind f8
  |.eql=>some (.d (.bool (a==b)))
  |.neq=>some (.d (.bool (a !=b)))
  |.lss=>some (.d (.bool (a<b)))
  |.leq=>some (.d (.bool (a<=b)))
  |.gtr=>some (.d (.bool (a>b)))
  |.geq=>some (.d (.bool (a≥b)))
  |_=>none
 |op,.d (.str a),.d (.str b)=>
  match op with
  |.add=>if a.length+b.length<=bF then some (.d (.str (a++b)))else none
  |.eql=>some (.d (.bool (a==b)))
  |.neq=>some (.d (.bool (!(a==b))))
  |.lss=>some (.d (.bool (Op.bytesLess a b)))
  |.leq=>some (.d (.bool (Op.bytesLess a b||a==b)))
  |.gtr=>some (.d (.bool (!(Op.bytesLess a b||a==b))))
  |.geq=>some (.d (.bool (!(Op.bytesLess a b))))
  |_=>none
 |_,_,_=>none
def eqlA(op:BinOp)(b:Bool):Option A:=
 match op with
 |.eql=>some (.d (.bool b))
 |.neq=>some (.d (.bool (!b)))
 |_=>none
def aNil(P:Program)(op:BinOp)(t:TypeId)(x y:A):Option A:=
 match P.underlying t,x,y with
 |some .bool,.d (.bool a),.d (.bool b)=>eqlA op (a==b)
 |some (.pointer _),.d .nilp,.d .nilp=>eqlA op true
 |some (.pointer _),.d .nilp,.d (.iptr _)=>eqlA op false
 |some (.pointer _),.d (.iptr _),.d .nilp=>eqlA op false
 |some (.interface _),.d (.ifc _ _),.d .nili=>eqlA op false
 |_,_,_=>none
def I6:List A->Option (List Int)
 | []=>some []
 |.d (.int .i64 n)::asx=>(I6 asx).map (n::·)
 |_::_=>none
def SS(eqs:List (TypeId×Nat))(op:BinOp)(t:TypeId)(x y:A):Option A:=
 match x,y with
 |.agg xs,.agg ys=>match I6 xs,I6 ys with
  |some asx,some bs=>
   if eqs.contains (t,asx.length)/\asx.length=bs.length then
    eqlA op (asx==bs)
   else none
  |_,_=>none
 |_,_=>none
def aUn(op:UnOp)(x:A):Option A:=
 match op,x with
 |.neg,.d (.int k n)=>(pZ (Op.intArith .sub k 0 n)).bind f8
 |.xor,.d (.int k n)=>(pZ (Op.intBits .xor k (if k.signed then -1 else k.max) n)).bind f8
 |.not,.d (.bool b)=>some (.d (.bool !b))
 |_,_=>none
def E7:List D->Option (List UInt8)
 | []=>some []
 |.int .u8 n::ds=>(E7 ds).map (UInt8.ofNat n.toNat::·)
 |_::_=>none
def gM(P:Program)(h:H)(src dst:TypeId)(x:A):Option (A×H):=
 match P.underlying src,P.underlying dst,x with
 |some (.int _),some (.int k),.d (.int _ n)=>some (.d (.int k (k.wrap n)),h)
 |some (.int _),some .string,.d (.int _ n)=>some (.d (.str (Utf8.encode n).data.toList),h)
 |some .string,some .string,.d (.str s)=>some (.d (.str s),h)
 |some .string,some (.slice e),.d (.str s)=>
  if P.underlying e matches some (.int .u8)then some (.sl h.length 0 0 s.length,h++[.arr (s.map fun b=>.int .u8 b.toNat) 1 0])else none
 |some (.slice _),some .string,.d (.str _)=>none
 |some (.slice e),some .string,x=>
  if P.underlying e matches some (.int .u8)then
   match bT h 1 x with
   |some (_,cs)=>(E7 cs).map fun bs=>(.d (.str bs),h)
   |none=>none
  else none
 |_,_,_=>none
def gI(cells:List A):List (Option (Nat×Nat)×A)->Option (List A)
 | []=>some cells
 |(none,_)::_=>none
 |(some (off,size),v)::rest=>
  if(aT v).length=size/\off+size<=cells.length/\wF v then gI (a6 cells off (aT v)) rest else none
def m4(P:Program)(t:TypeId)(parts:List (Nat×A)):Option A:=
 match dA P t,P.underlying t with
 |some z,some (.struct fields)=>
  if fields.toList.all fun f=>(P.info? f.type).isSome then
   (gI (aT z) (parts.map fun(i,v)=>((fields.toList[i]?).map fun f=>(f.offset,P.cellsOf f.type),v))).map .agg
  else none
 |some z,some (.array _ e)=>
  if(P.info? e).isSome then(gI (aT z) (parts.map fun(i,v)=>(some (i*P.cellsOf e,P.cellsOf e),v))).map .agg else none
 |_,_=>none
def kG(P:Program)(h:H)(t:TypeId)(len:Nat)(parts:List (Nat×A)):Option (A×H):=
 match cR P t with
 |some e=>
  match dA P e with
  |some z=>
   if eG P e/\len*P.cellsOf e<=2^24 then
    match gI (List.replicate len (aT z)).flatten (parts.map fun(i,v)=>(some (i*P.cellsOf e,P.cellsOf e),v))with
    |some cells=>if cells.all dH then
      match frzL h cells with
      |some (ds,h1)=>some (.sl h1.length 0 0 len,h1++[.arr ds (P.cellsOf e) 0])
      |none=>none
     else none
    |none=>none
   else none
  |none=>none
 |none=>none
def TZ:Option (A×H)->Option (A×H)
 |some (.sl id gen off len,h)=>match h[id]? with
  |some (.arr cs e g)=>if gen=0/\g=0/\e=1/\off=0/\cs.length=len then some (.sl id (len+1) 0 len,h.set id (.log cs))else none
  |_=>none
 |_=>none
def wW:List A->Option (List D)
 | []=>some []
 |.d x::asx=>(wW asx).map (x::·)
 |_::_=>none
def iD(P:Program)(h:H)(t:TypeId)(l c:Int):Option (A×H):=
 match cR P t with
 |some e=>
  match dA P e with
  |some z=>match wW (aT z)with
   |some zs=>
    if eG P e/\0<=l/\l<=c/\c<=bF then
     some (.sl h.length 0 0 l.toNat,h++[.arr (List.replicate l.toNat zs).flatten (P.cellsOf e) 0])
    else none
   |none=>none
  |none=>none
 |none=>none
def rI(P:Program)(h:H)(t:TypeId)(len:Nat)(parts:List (Nat×A)):Option (A×H):=
 match cR P t with
 |some e=>
  match dA P e with
  |some z=>
   if eG P e/\len*P.cellsOf e<=2^24 then
    match gI (List.replicate len (aT z)).flatten (parts.map fun(i,v)=>(some (i*P.cellsOf e,P.cellsOf e),v))with
    |some cells=>if cells.all dH then some (.sl h.length 0 0 len,h++[.vec cells (P.cellsOf e) 0])else none
    |none=>none
   else none
  |none=>none
 |none=>none
def ER(P:Program)(h:H)(t:TypeId)(l c:Int):Option (A×H):=
 match cR P t with
 |some e=>
  match dA P e with
  |some z=>match wW (aT z)with
   |some zs=>
    if eG P e/\0<=l/\l<=c/\c<=bF then
     some (.sl h.length 0 0 l.toNat,h++[.vec ((List.replicate l.toNat zs).flatten.map .d) (P.cellsOf e) 0])
    else none
   |none=>none
  |none=>none
 |none=>none
def aBp:TypeDesc->D->D->Option Bool
 |.int _,.int k a,.int k' b=>if k=k' then some (a==b)else none
 |.string,.str a,.str b=>some (a==b)
 |_,_,_=>none
def TI(kt:TypeDesc)(k:D):List (D×D)->Nat->Option (Option Nat)
 | [],_=>some none
 |e::es,i=>match aBp kt k e.1 with
  |some true=>some (some i)
  |some false=>TI kt k es (i+1)
  |none=>none
def aEE:TypeDesc->D->Bool
 |.int kk,.int k _=>decide (k=kk)
 |.string,.str _=>true
 |_,_=>false
def AE:D->Bool
 |.int _ _=>true
 |.bool _=>true
 |.str _=>true
 |_=>false
def mapT(P:Program)(t:TypeId):Option (TypeDesc×TypeId):=
 match P.underlying t with
 |some (.map kt et)=>match P.underlying kt with
  |some (.int k)=>some (.int k,et)
  |some .string=>some (.string,et)
  |_=>none
 |_=>none
def G0(es:List (D×D))(k v:D):Option Nat->List (D×D)
 |some i=>es.set i (k,v)
 |none=>es++[(k,v)]
def D3(P:Program)(h:H)(t:TypeId)(m k v:A):Option (A×H):=
 match mapT P t,m,k,v with
 |some (kt,_),.mp id,.d k,.d v=>match h[id]? with
  |some (.mp es)=>if aEE kt k&&AE v then
    match TI kt k es 0 with
    |some r=>some (.d .undef,h.set id (.mp (G0 es k v r)))
    |none=>none
   else none
  |_=>none
 |_,_,_,_=>none
def SB(es:List (D×D))(z:D):Option Nat->D
 |some i=>(es.getD i (z,z)).2
 |none=>z
def L9(commaOk:Bool)(v:D)(ok:Bool):A:=if commaOk then .tup [.d v,.d (.bool ok)]else .d v
def TH(P:Program)(h:H)(t:TypeId)(commaOk:Bool)(m k:A):Option (A×H):=
 match mapT P t,m,k with
 |some (kt,et),.mp id,.d k=>match h[id]?,dA P et with
  |some (.mp es),some (.d z)=>if aEE kt k&&AE z then
    match TI kt k es 0 with
    |some r=>some (L9 commaOk (SB es z r) r.isSome,h)
    |none=>none
   else none
  |_,_=>none
 |_,_,_=>none
def LM(P:Program)(h:H)(t:TypeId)(id:Nat):Option (A×H):=
 match P.underlying t,h[id]? with
 |some (.map _ _),some (.mp es)=>some (.d (.int .i64 es.length),h)
 |_,_=>none
abbrev aW:=FuncId->List A->H->Option (A×H)
def wK:D->Bool
 |.undef=>true
 |.int _ _=>true
 |.bool _=>true
 |.str _=>true
 |.ivs _ []=>true
 |.nils=>true
 |.nilp=>true
 |.nilfn=>true
 |.nili=>true
 |.nilm=>true
 |_=>false
mutual
def oR:A->Bool
 |.d x=>wK x
 |.sl _ _ _ _=>true
 |.ptr _ _ _=>true
 |.mp _=>true
 |.clo _ caps=>kL caps
 |.agg cs=>kL cs
 |.tup vs=>kL vs
 |.junk=>true
def kL:List A->Bool
 | []=>true
 |a::asx=>oR a&&kL asx
end
def m8:O->Bool
 |.arr cs _ _=>cs.all wK
 |.box cs=>kL cs
 |.ice _ _ _=>false
 |.vec cs _ _=>kL cs
 |.log _=>false
 |.mp _=>true
 |.void=>true
def bJ(call:aW)(hint:FuncId->Hint)(h:H)(f:FuncId)(args:List A):Option (A×H):=
 match(hint f).mode with
 |0=>call f args h
 |1=>
  match fA h args with
  |some (asx,_)=>match call f asx []with
   |some (r,[])=>if iC r then some (r,h)else none
   |_=>none
  |none=>none
 |3=>
  match fA h args with
  |some (asx,_)=>match call f asx []with
   |some (r,h2)=>if oR r&&h2.all m8 then some (mapA (back [] h.length h2.length) r,h++h2.map (mapO (back [] h.length h2.length)))else none
   |none=>none
  |none=>none
 |_=>
  match fA h args with
  |some (asx,h1)=>match call f asx []with
   |some (r,[])=>some (r,h1)
   |some (r,h2)=>some (mapA (back [] h1.length h2.length) r,h1++h2.map (mapO (back [] h1.length h2.length)))
   |none=>none
  |none=>none
def fS(call:aW)(hint:FuncId->Hint)(h:H)(c:A)(args:List A):Option (A×H):=
 match c with
 |.clo f caps=>bJ call hint h f (args++caps)
 |.d (.fn f caps)=>bJ call hint h f (args++caps.map .d)
 |_=>none
def cU(P:Program)(h:H)(b:Builtin)(tys:List TypeId)(args:List A):Option (A×H):=
 match b,tys,args with
 |.len,t::_,[.mp id]=>LM P h t id
 |.len,t::_,[x]=>(aLen P t x).map fun a=>(a,h)
 |.append,[t,u],[s,x]=>match P.underlying u with
  |some (.int _)=>none
  |none=>none
  |some _=>pB P h t s x
 |_,_,_=>none
structure Env where
 P:Program
 hint:FuncId->Hint
 eqs:List (TypeId×Nat)
 prim:FuncId->Option (List A->H->Option (A×H)):=fun _=>none
def opds:Op->List Operand
 |.move x|.assign x|.box _ x|.load _ x|.nilCheck x|.unOp _ _ x|.convert _ _ x|.fieldAddr _ x _|.field _ x _|.extract x _=>[x]
 |.pick c a b=>[c,a,b]
 |.build _ ps|.buildSlice _ _ ps=>ps.toList.map (·.2)
 |.store _ a v|.binOp _ _ a v _|.makeSlice _ a v|.indexAddr _ a v|.index _ a v=>[a,v]
 |.makeFunc _ first captured=>first.toList++captured.toList
 |.slice _ x l h m=>x::(l.toList++h.toList++m.toList)
 |.makeMap _ r=>r.toList
 |.lookup _ m k _=>[m,k]
 |.mapUpdate _ m k v=>[m,k,v]
 |.call c=>match c.callee with
  |.value f=>f::c.args.toList
  |.builtin _=>c.args.toList
  |_=>[]
 |.insert _ m k v=>[m,k,v]
 |_=>[]
def one(vs:List A)(k:A->Option (A×H)):Option (A×H):=
 match vs with
 | [a]=>k a
 |_=>none
def two(vs:List A)(k:A->A->Option (A×H)):Option (A×H):=
 match vs with
 | [a,b]=>k a b
 |_=>none
def aEF(vs:List A)(k:A->A->A->Option (A×H)):Option (A×H):=
 match vs with
 | [a,b,c]=>k a b c
 |_=>none
def lL(h:H)(a:A):Option (A×H):=
 match a with
 |.ptr _ _ _=>some (a,h)
 |.d (.iptr _)=>some (a,h)
 |.clo _ _=>some (a,h)
 |.d (.fn _ _)=>some (a,h)
 |_=>none
def LX(thaw:List Nat):Option Tmp->Nat
 |some d=>thaw.getD d 0
 |none=>0
def EX(thaw:List Nat)(dst:Option Tmp)(x:Operand)(h:H)(a:A):Option (A×H):=
 match x,a with
 |.const _,.d .nils=>match LX thaw dst with
  |0=>some (a,h)
  |e+1=>if e<1000 then some (.sl h.length 0 0 0,h++[.arr [] e 0])else some (.sl h.length 0 0 0,h++[.vec [] (e-1000) 0])
 |_,_=>some (a,h)
def logs(thaw:List Nat)(dst:Option Tmp):Bool:=decide (2000<LX thaw dst)
def keeps(thaw:List Nat)(dst:Option Tmp):Bool:=decide (1000<LX thaw dst)
def cH(E:Env)(op:BinOp)(t:TypeId)(h:H)(a b:A):Option (A×H):=
 match aBin op a b with
 |some r=>some (r,h)
 |none=>match aNil E.P op t a b with
  |some r=>some (r,h)
  |none=>(SS E.eqs op t a b).map fun r=>(r,h)
def pG(P:Program)(h:H)(t:TypeId)(lo hi:Bool)(vs:List A):Option (A×H):=
 match lo,hi,vs with
 |false,false,[a]=>(gE P h t a none none).map fun r=>(r,h)
 |true,false,[a,.d (.int _ l)]=>(gE P h t a (some l) none).map fun r=>(r,h)
 |false,true,[a,.d (.int _ u)]=>(gE P h t a none (some u)).map fun r=>(r,h)
 |true,true,[a,.d (.int _ l),.d (.int _ u)]=>(gE P h t a (some l) (some u)).map fun r=>(r,h)
 |_,_,_=>none
def L0(h:H)(vs:List A):Option (A×H):=
 match vs with
 | [.d (.bool b),x,y]=>some (if b then x else y,h)
 |_=>none
def aBw(P:Program)(h:H)(t:TypeId)(f:Nat)(a:A):Option (A×H):=
 match a,cE P t f with
 |.agg cs,some (off,ft)=>((cY P ft).bind fun b=>r5 b (P.cellsOf ft) (cs.drop off)).map fun r=>(r,h)
 |_,_=>none
def vY(h:H)(i:Nat)(a:A):Option (A×H):=
 match a with
 |.tup vs=>(vs[i]?).map fun a=>(a,h)
 |_=>none
def iZ(a:A)(k:Int->Option (A×H)):Option (A×H):=
 match a with
 |.d (.int _ i)=>k i
 |_=>none
def fE(E:Env)(call:aW)(h:H)(c:Callee)(tys:List TypeId)(vs:List A):Option (A×H):=
 match c with
 |.value _=>match vs with
  |g::args=>fS call E.hint h g args
  | []=>none
 |.builtin b=>cU E.P h b tys vs
 |_=>none
def KD(h:H)(fn:Fn)(first:Bool)(vs:List A):Option (A×H):=
 match fn with
 |.func f=>if first then some (.clo f vs,h)else none
 |_=>none
def evOp(E:Env)(call:aW)(thaw:List Nat)(h:H)(o:Oper)(vs:List A):Option (A×H):=
 match o.op with
 |.move _=>one vs fun a=>some (a,h)
 |.assign x=>one vs fun a=>EX thaw o.dst x h a
 |.pick _ _ _=>L0 h vs
 |.alloc t=>(dA E.P t).bind fun z=>aNew h z
 |.box _ _=>one vs fun v=>aNew h v
 |.build t parts=>(m4 E.P t ((parts.toList.map (·.1)).zip vs)).map fun a=>(a,h)
 |.buildSlice t len parts=>if logs thaw o.dst then TZ (kG E.P h t len ((parts.toList.map (·.1)).zip vs))else if keeps thaw o.dst then rI E.P h t len ((parts.toList.map (·.1)).zip vs)else kG E.P h t len ((parts.toList.map (·.1)).zip vs)
 |.load t _=>one vs fun a=>(AF E.P h t a).map fun v=>(v,h)
 |.store t _ _=>two vs fun a b=>(iW E.P h t a b).map fun h'=>(.d .undef,h')
 |.nilCheck _=>one vs fun a=>lL h a
 |.binOp op t _ _ _=>two vs fun a b=>cH E op t h a b
 |.unOp op _ _=>one vs fun a=>(aUn op a).map fun r=>(r,h)
 |.convert src dst _=>one vs fun a=>gM E.P h src dst a
 |.makeFunc fn first _=>KD h fn (first.size==0) vs
 |.makeSlice t _ _=>two vs fun a b=>iZ a fun l=>iZ b fun c=>if keeps thaw o.dst then ER E.P h t l c else iD E.P h t l c
 |.slice t _ lo hi mx=>if mx.isNone then pG E.P h t lo.isSome hi.isSome vs else none
 |.fieldAddr t _ f=>one vs fun a=>(cE E.P t f).bind fun r=>(rT r.1 a).map fun r=>(r,h)
 |.field t _ f=>one vs fun a=>aBw E.P h t f a
 |.indexAddr t _ _=>two vs fun a b=>iZ b fun i=>(nW E.P h t a i).map fun r=>(r,h)
 |.index t _ _=>two vs fun a b=>iZ b fun i=>(aE5 E.P t a i).map fun r=>(r,h)
 |.extract _ i=>one vs fun a=>vY h i a
 |.makeMap _ r=>if r.isNone then some (.mp h.length,h++[.mp []])else none
 |.lookup t _ _ ok=>two vs fun m k=>TH E.P h t ok m k
 |.mapUpdate t _ _ _=>aEF vs fun m k v=>D3 E.P h t m k v
 |.insert t _ _ _=>aEF vs fun m k v=>D3 E.P h t m k v
 |.call c=>fE E call h c.callee c.argTypes.toList vs
 |_=>none
def iP(E:Env)(call:aW)(thaw:List Nat)(h:H)(o:Oper)(vs:List A):Option (A×H×List Nat×Nat):=
 let ord:=aC aD h (idsL vs) []
 match evOp E call thaw (pack h ord) o (aE (aH ord) vs)with
 |some (a,h1)=>
  if ord.length<=h1.length/\closed h ord (idsL vs)then
   let f:=back ord h.length h1.length
   some (mapA f a,bA f h ord h1,ord,h1.length-ord.length)
  else none
 |none=>none
def tQ:Op->Bool
 |.call c=>match c.callee with
  |.value _=>true
  |_=>false
 |_=>false
def oU:Op->Bool
 |.move _|.pick ..|.nilCheck _|.binOp ..|.unOp ..|.makeFunc ..|.fieldAddr ..|.field ..|.index ..|.extract ..|.build ..=>true
 |_=>false
def ids0:List A->List Nat
 |a::_=>idsA a
 | []=>[]
def pK:Op->Bool
 |.load _ _=>true
 |.slice ..=>true
 |.indexAddr ..=>true
 |.lookup ..=>true
 |.call ⟨.builtin .len,_,_⟩=>true
 |_=>false
def hZ(E:Env)(o:Op)(vs:List A):Bool:=
 match o with
 |.load _ _=>true
 |.slice _ _ _ _ _=>true
 |.indexAddr _ _ _=>true
 |.convert _ dst _=>(cR E.P dst).isNone
 |.call c=>match c.callee,vs with
  |.builtin .len,_=>true
  |.value _,.clo f _::_=>(E.hint f).mode==1
  |.value _,.d (.fn f _)::_=>(E.hint f).mode==1
  |_,_=>false
 |_=>false
def qH(ops:List Oper)(s:List A)(o:Oper):Option Bool:=
 match o.guard with
 |none=>some true
 |some (j,want)=>match(ops[j]?).bind (·.dst)with
  |none=>none
  |some d=>match s[d]? with
   |some (.d (.bool b))=>some (b==want)
   |some (.d .undef)=>some false
   |_=>none
def aPut(s:List A)(dst:Option Tmp)(a:A):List A:=
 match dst with
 |some d=>s.set d a
 |none=>s
def AY(E:Env)(call:aW)(thaw:List Nat)(ops:List Oper)(o:Oper)(s:List A)(h:H):Option (List A×H):=
 match qH ops s o with
 |some true=>match bP s (opds o.op)with
  |some vs=>
   if tQ o.op then
    match iP E call thaw h o vs with
    |some (a,h',_)=>some (aPut s o.dst a,h')
    |none=>none
   else match evOp E call thaw h o vs with
    |some (a,h')=>some (aPut s o.dst a,h')
    |none=>none
  |none=>none
 |some false=>some (aPut s o.dst (.d .undef),h)
 |none=>none
def x6(E:Env)(call:aW)(thaw:List Nat)(ops:List Oper):List Oper->List A->H->Option (List A×H)
 | [],s,h=>some (s,h)
 |o::rest,s,h=>match AY E call thaw ops o s h with
  |some (s1,h1)=>x6 E call thaw ops rest s1 h1
  |none=>none
structure Foot where
 ids:List Nat:=[]
 ro:Bool:=true
 wr:List Nat:=ids
 deriving Inhabited
def wrOf(E:Env)(op:Op)(vs:List A)(ord:List Nat):List Nat:=
 match op,vs with
 |.alloc _,_=>[]
 |.box _ _,_=>[]
 |.assign _,_=>[]
 |.makeSlice _ _ _,_=>[]
 |.makeMap _ _,_=>[]
 |.call ⟨.builtin .append,_,_⟩,a::_=>idsA a
 |.call ⟨.value _,_,_⟩,.clo f _::_=>if(E.hint f).mode==3 then []else ord
 |.call ⟨.value _,_,_⟩,.d (.fn f _)::_=>if(E.hint f).mode==3 then []else ord
 |_,_=>ord
def vT(E:Env)(call:aW)(thaw:List Nat)(ops:List Oper)(o:Oper)(s:List A)(h:H):Option (List A×H×Foot):=
 match qH ops s o with
 |some true=>match bP s (opds o.op)with
  |some vs=>
   if oU o.op then
    match evOp E call thaw h o vs with
    |some (a,_)=>some (aPut s o.dst a,h,{})
    |none=>none
   else if pK o.op then
    match evOp E call thaw h o vs with
    |some (a,_)=>some (aPut s o.dst a,h,{ ids:=ids0 vs,ro:=true})
    |none=>none
   else match iP E call thaw h o vs with
    |some (a,h',ord,k)=>if hZ E o.op vs&&k==0 then some (aPut s o.dst a,h,{ ids:=ord,ro:=true})else some (aPut s o.dst a,h',{ ids:=ord++List.range' h.length k,ro:=false,wr:=wrOf E o.op vs ord++List.range' h.length k})
    |none=>none
  |none=>none
 |some false=>some (aPut s o.dst (.d .undef),h,{})
 |none=>none
def kP(E:Env)(call:aW)(thaw:List Nat)(ops:List Oper):List Oper->List A->H->Option (List A×H×List Foot)
 | [],s,h=>some (s,h,[])
 |o::rest,s,h=>match vT E call thaw ops o s h with
  |some (s1,h1,c)=>match kP E call thaw ops rest s1 h1 with
   |some (s2,h2,cs)=>some (s2,h2,c::cs)
   |none=>none
  |none=>none
def kB(a b:Foot):Bool:=(!a.ro&&a.wr.any b.ids.contains)||(!b.ro&&b.wr.any a.ids.contains)
def aPn(acc:List Nat)(o:Oper):Nat:=o.after.toList.foldl (fun s e=>if Region.binds .any e then s|||2^e.on|||acc.getD e.on 0 else s) 0
def HL:List Oper->List Nat->List Nat
 | [],acc=>acc
 |o::os,acc=>HL os (acc++[aPn acc o])
def nK(ops:List Oper)(cs:List Foot):Bool:=
 let b:=HL ops []
 (List.range cs.length).all fun j=>(List.range j).all fun i=>(b.getD j 0).testBit i|| !kB (cs.getD i {}) (cs.getD j {})
def mD(E:Env)(call:aW)(thaw:List Nat)(ops:Array Oper)(draw:Bool)(s:List A)(h:H):Option (List A×H):=
 if draw then
  match kP E call thaw ops.toList ops.toList s h with
  |some (s',h',cs)=>if Region.lexB .any ops&&nK ops.toList cs then some (s',h')else none
  |none=>none
 else x6 E call thaw ops.toList ops.toList s h
def fP:A->Bool
 |.d .undef=>true
 |.junk=>true
 |_=>false
def pX:List Bool->List A->List Bool
 |true::l,a::s=>fP a::pX l s
 |false::l,_::s=>true::pX l s
 | [],s=>s.map fP
 |_,[]=>[]
def tidy:List Bool->List A->List A
 |true::m,_::s=>.junk::tidy m s
 |false::m,a::s=>a::tidy m s
 |_,s=>s
def fU:H->List Nat
 | []=>[]
 |.box cs::h=>idsL cs++fU h
 |.vec cs _ _::h=>idsL cs++fU h
 |_::h=>fU h
def dK(nf:Nat)(h:H)(ids:List Nat):List Nat:=aC aD h (fU (h.take nf)++ids) (List.range nf)
def aZ(h:H)(id:Nat):Option Nat:=match h[id]? with
 |some (.arr _ _ g)=>some g
 |some (.vec _ _ g)=>some g
 |some (.ice _ _ g)=>some g
 |_=>none
def hR(nf:Nat)(h:H)(id gen off len:Nat):A:=
 if id<nf then .sl id gen off len else match aZ h id with
  |some g=>if gen=g then .sl id 0 off len else .junk
  |none=>.sl id gen off len
def ES(nf:Nat)(h:H)(id gen off:Nat):A:=
 if id<nf then .ptr id gen off else match aZ h id with
  |some g=>if gen=g then .ptr id 0 off else .junk
  |none=>.ptr id gen off
mutual
def bI(nf:Nat)(h:H):A->A
 |.sl id gen off len=>hR nf h id gen off len
 |.ptr id gen off=>ES nf h id gen off
 |.mp id=>.mp id
 |.clo g caps=>.clo g (aP nf h caps)
 |.agg cs=>.agg (aP nf h cs)
 |.tup cs=>.tup (aP nf h cs)
 |.d x=>.d x
 |.junk=>.junk
def aP(nf:Nat)(h:H):List A->List A
 | []=>[]
 |a::asx=>bI nf h a::aP nf h asx
end
def cB(nf:Nat)(h:H)(i:Nat):O->O
 |.arr cs e g=>.arr cs e (if i<nf then g else 0)
 |.box cs=>.box (aP nf h cs)
 |.ice cs e g=>.ice cs e (if i<nf then g else 0)
 |.vec cs e g=>.vec (aP nf h cs) e (if i<nf then g else 0)
 |.log cs=>.log cs
 |.mp es=>.mp es
 |.void=>.void
def eB(nf:Nat)(h:H):Nat->H->H
 |_,[]=>[]
 |i,o::os=>cB nf h i o::eB nf h (i+1) os
def cK(nf:Nat)(h:H):H:=eB nf h 0 h
def trim(nf:Nat)(h:H)(ord:List Nat)(s:List A):List A×H:=
 (aP nf (pack h ord) (aE (aH ord) s),cK nf (pack h ord))
def gc(nf:Nat)(m:List Bool)(s:List A)(h:H):List A×H:=trim nf h (dK nf h (idsL (tidy m s))) (tidy m s)
def qL(body:List A->H->Option (Exit×List A×H))(nf:Nat)(m:List Bool):Nat->List A->H->Option (Exit×List A×H)
 |0,_,_=>none
 |n+1,s,h=>match body s h with
  |some (.normal,s1,h1)=>
   let r:=gc nf m s1 h1
   qL body nf m n r.1 r.2
  |some (e,s1,h1)=>
   let r:=gc nf m s1 h1
   some (e,r.1,r.2)
  |none=>none
def bS(E:Env)(call:aW)(L nf:Nat)(thaw:List Nat)(live:List Bool):Code->List A->H->Option (Exit×List A×H)
 |.skip,s,h=>some (.normal,s,h)
 |.region _ ops draw,s,h=>match mD E call thaw ops draw s h with
  |some (s',h')=>some (.normal,s',h')
  |none=>none
 |.seq a b,s,h=>match bS E call L nf thaw live a s h with
  |some (.normal,s1,h1)=>bS E call L nf thaw live b s1 h1
  |r=>r
 |.cond c x y,s,h=>match dB s c with
  |some (.d (.bool b))=>if b then bS E call L nf thaw live x s h else bS E call L nf thaw live y s h
  |_=>none
 |.block id c,s,h=>match bS E call L nf thaw live c s h with
  |some (.exit k,s1,h1)=>if k=id then some (.normal,s1,h1)else some (.exit k,s1,h1)
  |r=>r
 |.loop c,s,h=>
  let m:=pX live s
  let r:=gc nf m s h
  qL (bS E call L nf thaw live c) nf m L r.1 r.2
 |.exit id,s,h=>some (.exit id,s,h)
 |.ret,s,h=>some (.ret,s,h)
 |_,_,_=>none
def EK(P:Program)(s:List A)(h:H):ResultVar->Option A
 |.tmp t=>some (s.getD t (.d .undef))
 |.cell a t=>AF P h t (s.getD a (.d .undef))
def kR(P:Program)(s:List A)(h:H):List ResultVar->Option (List A)
 | []=>some []
 |r::rs=>match EK P s h r,kR P s h rs with
  |some a,some asx=>some (a::asx)
  |_,_=>none
def outS(nf:Nat)(exp:Bool)(h:H)(a:A):Option (A×H):=
 match a with
 |.d .nils=>some (.d (.ivs 0 []),h)
 |.d x=>some (.d x,h)
 |.sl id gen off len=>if id<nf||exp then some (.sl id gen off len,h)else(frz deep h a).map fun r=>(.d r.1,r.2)
 |.ptr id gen off=>if id<nf||exp then some (.ptr id gen off,h)else(frz deep h a).map fun r=>(.d r.1,r.2)
 |.mp id=>if id<nf||exp then some (.mp id,h)else none
 |.clo f caps=>if exp then some (.clo f caps,h)else(frz deep h (.clo f caps)).map fun r=>(.d r.1,r.2)
 |a=>(frz deep h a).map fun r=>(.d r.1,r.2)
def AH(nf:Nat)(exp:Bool):H->List A->Option (List A×H)
 |h,[]=>some ([],h)
 |h,a::asx=>match outS nf exp h a with
  |some (x,h1)=>match AH nf exp h1 asx with
   |some (xs,h2)=>some (x::xs,h2)
   |none=>none
  |none=>none
def outA(nf:Nat)(exp:Bool)(h:H):A->Option (A×H)
 |.agg cs=>(AH nf exp h cs).map fun r=>(.agg r.1,r.2)
 |a=>outS nf exp h a
def nU(nf:Nat)(exp:Bool):H->List A->Option (List A×H)
 |h,[]=>some ([],h)
 |h,a::asx=>match outA nf exp h a with
  |some (x,h1)=>match nU nf exp h1 asx with
   |some (xs,h2)=>some (x::xs,h2)
   |none=>none
  |none=>none
def tupA:List A->A
 | [a]=>a
 |asx=>.tup asx
def lM:Exit->Bool
 |.normal=>true
 |.ret=>true
 |_=>false
def FT(E:Env)(call:aW)(L:Nat)(f:FuncId)(fn:Func)(c:Code)(args:List A)(h:H):Option (A×H):=
 match bS E call L h.length (E.hint f).thaw (E.hint f).live c (args++List.replicate (fn.ntmps-args.length) (.d .undef)) h with
 |some (e,s,h1)=>
  if lM e then
   match kR E.P s h1 fn.results.toList with
   |some rs=>match nU h.length (E.hint f).exp h1 rs with
    |some (xs,h2)=>
     let r:=trim h.length h2 (dK h.length h2 (idsL xs)) xs
     some (tupA r.1,r.2)
    |none=>none
   |none=>none
  else none
 |none=>none
def aA(E:Env)(L:Nat):Nat->aW
 |0,_,_,_=>none
 |n+1,f,args,h=>match E.prim f with
  |some g=>g args h
  |none=>match E.P.funcs[f]? with
  |some fn=>match fn.body with
   | some c => if fn.name == "runtime.NumGoroutine" then none else FT E (aA E L n) L f fn c args h
   |none=>none
  |none=>none
theorem cs1(i:Nat):((i+1:Nat):Int)=(i:Int)+1:=rfl
abbrev W1(l:List Nat):List Nat:=0::l
abbrev W2(l:List Nat):List Nat:=0::0::l
abbrev W4(l:List Nat):List Nat:=W2 (W2 l)
abbrev W8(l:List Nat):List Nat:=W4 (W4 l)
abbrev W16(l:List Nat):List Nat:=W8 (W8 l)
abbrev W32(l:List Nat):List Nat:=W16 (W16 l)
abbrev nI(x:Int):A:=.d (.int .i64 x)
theorem kr.{u}{α:Sort u}{a b:α}(h:a=b:=by kernel_rfl):a=b:=h
end Ev
end Go.Proofs.YtahbdkmimmnadaaGreatDoor
