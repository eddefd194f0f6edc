/-
  How each operation goes, in the form in which the evaluator is walked.
-/
import Derived.Test.YtppffbehejpglaaGreatDoorEvPrim
set_option linter.unusedSimpArgs false
set_option linter.unusedVariables false
set_option linter.unusedSectionVars false
namespace Go.Proofs.YtppffbehejpglaaGreatDoor
namespace Ev
section
variable{R:Type}{E:Env}{call:a6}{thaw:List Nat}{dst:Option Tmp}{s:List A}{h:H}{k:A->H->Option R}
structure Now(p:Prop):Prop where
 it:p
structure Shut(p:Prop):Prop where
 it:p
inductive Box(α:Type) where
 |mk (a:α)
 |no
def box{α:Type}(a:α):Box α:=.mk a
theorem aR4{α:Type}{a:α}:box a=.mk a:=rfl
theorem aSL{t:Nat}{q:A->Option R}:kv s (.tmp t) q=match box (s.getD t (.d .undef))with|.no=>none|.mk a=>q a:=rfl
theorem aS0{K:IntKind}{n:Int}{q:A->Option R}:kv s (.const (.int K n)) q=q (.d (.int K n)):=rfl
theorem aPd{b:Bool}{q:A->Option R}:kv s (.const (.bool b)) q=q (.d (.bool b)):=rfl
theorem aR5{b:ByteArray}{q:A->Option R}:kv s (.const (.string b)) q=match box b.data.toList with|.no=>none|.mk l=>q (.d (.str l)):=rfl
theorem aOY{q:A->Option R}:kv s (.const (.pointer none)) q=q (.d .nilp):=rfl
theorem aOx{q:A->Option R}:kv s (.const (.slice none 0 0)) q=q (.d .nils):=rfl
theorem aOF{f:FuncId}{q:A->Option R}:kv s (.func f) q=q (.clo f []):=rfl
theorem aPm{q:List A->Option R}:kvs s [] q=q []:=rfl
theorem aKO{x:Operand}{xs:List Operand}{q:List A->Option R}:kvs s (x::xs) q=kv s x fun a=>kvs s xs fun asx=>q (a::asx):=by
 unfold kvs kv;simp only[bS]
 cases cE s x with
 |none=>rfl
 |some a=>grind
theorem aBW{yes no:List A->Option R}:xL none s yes no=yes s:=rfl
theorem aCZ{t:Nat}{w:Bool}{yes no:List A->Option R}:xL (some (some t,w)) s yes no=match s.getD t .junk with
  |.d (.bool b)=>if b=w then(match box (s.set t (.d (.bool w)))with|.no=>none|.mk s=>yes s)else(match box (s.set t (.d (.bool (!w))))with|.no=>none|.mk s=>no s)
  |.d .undef=>no s
  |_=>none:=by
 simp only[xL,Aa]
 cases s[t]? with
 |none=>rfl
 |some a=>
  cases a with
  |d x=>cases x<;>rfl
  |_=>rfl
theorem aKP{x:Operand}:kOp E call thaw dst (.move x) s h k=kv s x fun a=>k a h:=by
 unfold kOp kvs kv;simp only[opds,bS]
 cases cE s x<;>rfl
def kAsg(thaw:List Nat)(dst:Option Tmp)(h:H)(k:A->H->Option R)(a:A):Option R:=
 match a with
 |.d .nils=>match QT thaw dst with
  |0=>k (.d .nils) h
  |e+1=>if e<1000 then k (.sl h.length 0 0 0) (h++[.arr [] e 0])else k (.sl h.length 0 0 0) (h++[.vec [] (e-1000) 0])
 |a=>k a h
theorem QJ{t:Nat}:kOp E call thaw dst (.assign (.tmp t)) s h k=match box (s.getD t (.d .undef))with|.no=>none|.mk a=>k a h:=by
 unfold kOp kvs;rfl
theorem KH{v:Value}:kOp E call thaw dst (.assign (.const v)) s h k=kv s (.const v) (kAsg thaw dst h k):=by
 unfold kOp kvs kv kAsg;simp only[opds,bS]
 cases cE s (.const v)with
 |none=>rfl
 |some a=>
  simp only[xD,Am,if_false,evOp,one,LX,dR]
  cases a with
  |d x=>grind
  |_=>rfl
def kRet(r:Option (A×H))(k:A->H->Option R):Option R:=
 match r with
 |some (a,h')=>k a h'
 |none=>none
theorem aPo{op:BinOp}{t:TypeId}{x y:Operand}{t2:TypeId}:kOp E call thaw dst (.binOp op t x y t2) s h k=kv s x fun a=>kv s y fun b=>kRet (b6 E op t h a b) k:=by
 unfold kOp kvs kv kRet;simp only[opds,bS]
 cases cE s x with
 |none=>rfl
 |some a=>cases cE s y<;>rfl
theorem aSg{op:UnOp}{t:TypeId}{x:Operand}:kOp E call thaw dst (.unOp op t x) s h k=kv s x fun a=>kRet ((aUn op a).map fun r=>(r,h)) k:=by
 unfold kOp kvs kv kRet;simp only[opds,bS]
 cases cE s x<;>rfl
theorem aLM{c x y:Operand}:kOp E call thaw dst (.pick c x y) s h k=kv s c fun b=>kv s x fun a=>kv s y fun a'=>kRet (QO h [b,a,a']) k:=by
 unfold kOp kvs kv kRet;simp only[opds,bS]
 cases cE s c with
 |none=>rfl
 |some b=>cases cE s x with
  |none=>rfl
  |some a=>cases cE s y<;>rfl
theorem XV{x:Operand}:kOp E call thaw dst (.nilCheck x) s h k=kv s x fun a=>kRet (u7 h a) k:=by
 unfold kOp kvs kv kRet;simp only[opds,bS]
 cases cE s x<;>rfl
theorem aMI{t u:TypeId}{x:Operand}:kOp E call thaw dst (.convert t u x) s h k=kv s x fun a=>kRet (eQ E.P h t u a) k:=by
 unfold kOp kvs kv kRet;simp only[opds,bS]
 cases cE s x<;>rfl
theorem aMT{t:TypeId}{x:Operand}:kOp E call thaw dst (.load t x) s h k=kv s x fun a=>kRet ((EB E.P h t a).map fun v=>(v,h)) k:=by
 unfold kOp kvs kv kRet;simp only[opds,bS]
 cases cE s x<;>rfl
theorem aII{t:TypeId}{x y:Operand}:kOp E call thaw dst (.store t x y) s h k=kv s x fun a=>kv s y fun b=>kRet ((iM E.P h t a b).map fun h'=>(.d .undef,h')) k:=by
 unfold kOp kvs kv kRet;simp only[opds,bS]
 cases cE s x with
 |none=>rfl
 |some a=>cases cE s y<;>rfl
theorem aJk{t:TypeId}:kOp E call thaw dst (.alloc t) s h k=match box (dD E.P t)with
  |.no=>none
  |.mk none=>none
  |.mk (some z)=>kRet (aNew h z) k:=by
 unfold kOp kvs kRet;simp only[opds,bS,xD,Am,if_false,evOp,dR,box]
 cases dD E.P t<;>rfl
theorem aO1{t:TypeId}{x:Operand}:kOp E call thaw dst (.box t x) s h k=kv s x fun a=>kRet (aNew h a) k:=by
 unfold kOp kvs kv kRet;simp only[opds,bS]
 cases cE s x<;>rfl
theorem aIE{t:TypeId}{ps:List (Nat×Operand)}:kOp E call thaw dst (.build t ps.toArray) s h k=match box (ps.map (·.2))with
  |.no=>none
  |.mk xs=>kvs s xs fun vs=>kRet ((wX E.P t ((ps.map (·.1)).zip vs)).map fun a=>(a,h)) k:=by
 rfl
theorem RS{t:TypeId}{n:Nat}{ps:List (Nat×Operand)}:kOp E call thaw dst (.buildSlice t n ps.toArray) s h k=match box (ps.map (·.2))with
  |.no=>none
  |.mk xs=>kvs s xs fun vs=>kRet (if logs thaw dst=true then N5 (lF E.P h t n ((ps.map (·.1)).zip vs))else if keeps thaw dst=true then tZ E.P h t n ((ps.map (·.1)).zip vs)else lF E.P h t n ((ps.map (·.1)).zip vs)) k:=by
 rfl
theorem ZJ{fn:Fn}{cap:List Operand}:kOp E call thaw dst (.makeFunc fn #[] cap.toArray) s h k=kvs s cap fun vs=>kRet (RJ h fn true vs) k:=by
 rfl
theorem WI{t:TypeId}{x y:Operand}:kOp E call thaw dst (.makeSlice t x y) s h k=kv s x fun a=>kv s y fun b=>kRet (iO a fun l=>iO b fun c=>if keeps thaw dst=true then KK E.P h t l c else iH E.P h t l c) k:=by
 unfold kOp kvs kv kRet;simp only[opds,bS]
 cases cE s x with
 |none=>rfl
 |some a=>cases cE s y<;>rfl
theorem aB1{t:TypeId}{x hi:Operand}:kOp E call thaw dst (.slice t x none (some hi) none) s h k=kvs s [x,hi] fun vs=>kRet (rF E.P h t false true vs) k:=rfl
theorem aB5{t:TypeId}{x lo hi:Operand}:kOp E call thaw dst (.slice t x (some lo) (some hi) none) s h k=kvs s [x,lo,hi] fun vs=>kRet (rF E.P h t true true vs) k:=rfl
theorem VJ{t:TypeId}{x:Operand}{f:Nat}:kOp E call thaw dst (.fieldAddr t x f) s h k=kv s x fun a=>kRet ((cY E.P t f).bind fun r=>(vD r.1 a).map fun r=>(r,h)) k:=by
 unfold kOp kvs kv kRet;simp only[opds,bS]
 cases cE s x<;>rfl
theorem V0{t:TypeId}{x y:Operand}:kOp E call thaw dst (.indexAddr t x y) s h k=kv s x fun a=>kv s y fun b=>kRet (iO b fun i=>(pN E.P h t a i).map fun r=>(r,h)) k:=by
 unfold kOp kvs kv kRet;simp only[opds,bS]
 cases cE s x with
 |none=>rfl
 |some a=>cases cE s y<;>rfl
theorem aIP{t:TypeId}{x y:Operand}:kOp E call thaw dst (.index t x y) s h k=kv s x fun a=>kv s y fun b=>kRet (iO b fun i=>(SP E.P t a i).map fun r=>(r,h)) k:=by
 unfold kOp kvs kv kRet;simp only[opds,bS]
 cases cE s x with
 |none=>rfl
 |some a=>cases cE s y<;>rfl
theorem aBS{t:TypeId}:kOp E call thaw dst (.makeMap t none) s h k=k (.mp h.length) (h++[.mp []]):=rfl
theorem aGE{t:TypeId}{x y:Operand}{ok:Bool}:kOp E call thaw dst (.lookup t x y ok) s h k=kv s x fun a=>kv s y fun b=>kRet (n9 E.P h t ok a b) k:=by
 unfold kOp kvs kv kRet;simp only[opds,bS]
 cases cE s x with
 |none=>rfl
 |some a=>cases cE s y<;>rfl
theorem WR{t:TypeId}{x y z:Operand}:kOp E call thaw dst (.mapUpdate t x y z) s h k=kv s x fun a=>kv s y fun b=>kv s z fun c=>kRet (d9 E.P h t a b c) k:=by
 unfold kOp kvs kv kRet;simp only[opds,bS]
 cases cE s x with
 |none=>rfl
 |some a=>cases cE s y with
  |none=>rfl
  |some b=>cases cE s z<;>rfl
theorem aNR{t:TypeId}{x y z:Operand}:kOp E call thaw dst (.insert t x y z) s h k=kv s x fun a=>kv s y fun b=>kv s z fun c=>kRet (d9 E.P h t a b c) k:=by
 unfold kOp kvs kv kRet;simp only[opds,bS]
 cases cE s x with
 |none=>rfl
 |some a=>cases cE s y with
  |none=>rfl
  |some b=>cases cE s z<;>rfl
theorem aB4{x:Operand}{i:Nat}:kOp E call thaw dst (.extract x i) s h k=kv s x fun a=>kRet (zK h i a) k:=by
 unfold kOp kvs kv kRet;simp only[opds,bS]
 cases cE s x<;>rfl
theorem aCb{b:Builtin}{args:List Operand}{tys:List TypeId}:kOp E call thaw dst (.call ⟨.builtin b,args.toArray,tys.toArray⟩) s h k=kvs s args fun vs=>kRet (cH E.P h b tys vs) k:=by
 rfl
theorem dM{op:Op}{q:A->H->Foot->Option R}(hp:Now (qQ op=true/\xD op=false)):kOpD E call thaw dst op s h q=kOp E call thaw dst op s h fun a _=>q a h {}:=by
 obtain⟨hp,hc⟩:=hp.it;unfold kOpD kOp kvs;rw[hp,hc]
 cases bS s (opds op)with
 |none=>rfl
 |some vs=>grind
def memD(E:Env)(call:a6)(thaw:List Nat)(dst:Option Tmp)(op:Op)(h:H)(vs:List A):Option (A×H×Foot):=match box (aF aI h (idsL vs) [])with
 |.no=>none
 |.mk ord=>match box (evOp E call thaw (pack h ord) (dR dst op) (aG (aJ ord) vs))with
  |.mk (some (a,h1))=>if ord.length<=h1.length/\closed h ord (idsL vs)=true then
    (if(jW E op vs&&h1.length-ord.length==0)=true then some (mapA (back ord h.length h1.length) a,h,{ ids:=ord,ro:=true})
    else some (mapA (back ord h.length h1.length) a,bJ (back ord h.length h1.length) h ord h1,{ ids:=ord++List.range' h.length (h1.length-ord.length),ro:=false,wr:=wrOf E op vs ord++List.range' h.length (h1.length-ord.length)}))
   else none
  |_=>none
theorem kI{op:Op}{q:A->H->Foot->Option R}(hp:Now (qQ op=false/\rP op=false)):kOpD E call thaw dst op s h q=match box (opds op)with|.no=>none|.mk xs=>kvs s xs fun vs=>match box (memD E call thaw dst op h vs)with
  |.mk (some (a,h',c))=>q a h' c
  |_=>none:=by
 simp only[box];unfold kOpD kvs;rw[hp.it.1,hp.it.2]
 cases bS s (opds op)with
 |none=>rfl
 |some vs=>
  simp only[Am,if_false,jD,memD,box]
  cases evOp E call thaw (pack h (aF aI h (idsL vs) [])) (dR dst op) (aG (aJ (aF aI h (idsL vs) [])) vs)with
  |none=>rfl
  |some r=>grind
theorem aAT{op:Op}{q:A->H->Foot->Option R}(hp:Now (qQ op=false/\rP op=true/\xD op=false)):kOpD E call thaw dst op s h q=kvs s (opds op) fun vs=>kOp E call thaw dst op s h fun a _=>q a h { ids:=ids0 vs,ro:=true}:=by
 unfold kOpD kOp kvs;rw[hp.it.1,hp.it.2.1,hp.it.2.2]
 cases bS s (opds op)with
 |none=>rfl
 |some vs=>grind
theorem aC7{x:Operand}{xs:List Operand}{op:Op}{q:A->H->Foot->Option R}(hx:opds op=x::xs):(kvs s (opds op) fun vs=>kOp E call thaw dst op s h fun a _=>q a h { ids:=ids0 vs,ro:=true})=kv s x fun b=>kOp E call thaw dst op s h fun a _=>q a h { ids:=idsA b,ro:=true}:=by
 unfold kOp kv;rw[hx];unfold kvs;simp only[bS]
 cases cE s x with
 |none=>rfl
 |some b=>
  cases bS s xs with
  |none=>rfl
  |some bs=>rfl
theorem aIN{t:TypeId}{x:Operand}{q:A->H->Foot->Option R}:kOpD E call thaw dst (.load t x) s h q=kv s x fun b=>kOp E call thaw dst (.load t x) s h fun a _=>q a h { ids:=idsA b,ro:=true}:=(aAT ⟨rfl,rfl,rfl⟩).trans (aC7 rfl)
theorem aFD{t:TypeId}{x y:Operand}{q:A->H->Foot->Option R}:type_of% (kI (E:=E) (call:=call) (thaw:=thaw) (dst:=dst) (s:=s) (h:=h) (op:=.store t x y) (q:=q) ⟨rfl,rfl⟩):=kI ⟨rfl,rfl⟩
theorem aB0{x:Operand}{q:A->H->Foot->Option R}:type_of% (kI (E:=E) (call:=call) (thaw:=thaw) (dst:=dst) (s:=s) (h:=h) (op:=.assign x) (q:=q) ⟨rfl,rfl⟩):=kI ⟨rfl,rfl⟩
theorem aGw{t:TypeId}{q:A->H->Foot->Option R}:type_of% (kI (E:=E) (call:=call) (thaw:=thaw) (dst:=dst) (s:=s) (h:=h) (op:=.alloc t) (q:=q) ⟨rfl,rfl⟩):=kI ⟨rfl,rfl⟩
theorem OV{t:TypeId}{n:Nat}{ps:List (Nat×Operand)}{q:A->H->Foot->Option R}:type_of% (kI (E:=E) (call:=call) (thaw:=thaw) (dst:=dst) (s:=s) (h:=h) (op:=.buildSlice t n ps.toArray) (q:=q) ⟨rfl,rfl⟩):=kI ⟨rfl,rfl⟩
theorem aIH{t u:TypeId}{x:Operand}{q:A->H->Foot->Option R}:type_of% (kI (E:=E) (call:=call) (thaw:=thaw) (dst:=dst) (s:=s) (h:=h) (op:=.convert t u x) (q:=q) ⟨rfl,rfl⟩):=kI ⟨rfl,rfl⟩
theorem RV{t:TypeId}{x y:Operand}{q:A->H->Foot->Option R}:kOpD E call thaw dst (.indexAddr t x y) s h q=kv s x fun b=>kOp E call thaw dst (.indexAddr t x y) s h fun a _=>q a h { ids:=idsA b,ro:=true}:=(aAT ⟨rfl,rfl,rfl⟩).trans (aC7 rfl)
theorem aCY{args tys:Array _}{q:A->H->Foot->Option R}:type_of% (kI (E:=E) (call:=call) (thaw:=thaw) (dst:=dst) (s:=s) (h:=h) (op:=.call ⟨.builtin .append,args,tys⟩) (q:=q) ⟨rfl,rfl⟩):=kI ⟨rfl,rfl⟩
theorem aNl{x:Operand}{xs:List Operand}{tys:Array _}{q:A->H->Foot->Option R}:kOpD E call thaw dst (.call ⟨.builtin .len,(x::xs).toArray,tys⟩) s h q=kv s x fun b=>kOp E call thaw dst (.call ⟨.builtin .len,(x::xs).toArray,tys⟩) s h fun a _=>q a h { ids:=idsA b,ro:=true}:=(aAT ⟨rfl,rfl,rfl⟩).trans (aC7 rfl)
theorem aJg{x:Operand}{q:A->H->Foot->Option R}:type_of% (dM (E:=E) (call:=call) (thaw:=thaw) (dst:=dst) (s:=s) (h:=h) (op:=.move x) (q:=q) ⟨rfl,rfl⟩):=dM ⟨rfl,rfl⟩
theorem aJI{c x y:Operand}{q:A->H->Foot->Option R}:type_of% (dM (E:=E) (call:=call) (thaw:=thaw) (dst:=dst) (s:=s) (h:=h) (op:=.pick c x y) (q:=q) ⟨rfl,rfl⟩):=dM ⟨rfl,rfl⟩
theorem V9{x:Operand}{q:A->H->Foot->Option R}:type_of% (dM (E:=E) (call:=call) (thaw:=thaw) (dst:=dst) (s:=s) (h:=h) (op:=.nilCheck x) (q:=q) ⟨rfl,rfl⟩):=dM ⟨rfl,rfl⟩
theorem aLE{op:BinOp}{t:TypeId}{x y:Operand}{t2:TypeId}{q:A->H->Foot->Option R}:type_of% (dM (E:=E) (call:=call) (thaw:=thaw) (dst:=dst) (s:=s) (h:=h) (op:=.binOp op t x y t2) (q:=q) ⟨rfl,rfl⟩):=dM ⟨rfl,rfl⟩
theorem aOE{op:UnOp}{t:TypeId}{x:Operand}{q:A->H->Foot->Option R}:type_of% (dM (E:=E) (call:=call) (thaw:=thaw) (dst:=dst) (s:=s) (h:=h) (op:=.unOp op t x) (q:=q) ⟨rfl,rfl⟩):=dM ⟨rfl,rfl⟩
theorem V4{fn:Fn}{first cap:Array Operand}{q:A->H->Foot->Option R}:type_of% (dM (E:=E) (call:=call) (thaw:=thaw) (dst:=dst) (s:=s) (h:=h) (op:=.makeFunc fn first cap) (q:=q) ⟨rfl,rfl⟩):=dM ⟨rfl,rfl⟩
theorem R8{t:TypeId}{x:Operand}{f:Nat}{q:A->H->Foot->Option R}:type_of% (dM (E:=E) (call:=call) (thaw:=thaw) (dst:=dst) (s:=s) (h:=h) (op:=.fieldAddr t x f) (q:=q) ⟨rfl,rfl⟩):=dM ⟨rfl,rfl⟩
theorem X6{x:Operand}{i:Nat}{q:A->H->Foot->Option R}:type_of% (dM (E:=E) (call:=call) (thaw:=thaw) (dst:=dst) (s:=s) (h:=h) (op:=.extract x i) (q:=q) ⟨rfl,rfl⟩):=dM ⟨rfl,rfl⟩
theorem aEM{t:TypeId}{ps:Array (Nat×Operand)}{q:A->H->Foot->Option R}:type_of% (dM (E:=E) (call:=call) (thaw:=thaw) (dst:=dst) (s:=s) (h:=h) (op:=.build t ps) (q:=q) ⟨rfl,rfl⟩):=dM ⟨rfl,rfl⟩
def aLa(a b:Foot):Bool:=(!a.ro&&(!b.ids.isEmpty&&a.wr.any b.ids.contains))||(!b.ro&&(!a.ids.isEmpty&&b.wr.any a.ids.contains))
theorem aUG{l:List Nat}:l.any (([]:List Nat)).contains=false:=by grind
theorem aIV(a b:Foot):aLa a b=kR a b:=by
 obtain⟨ia,ra,wa⟩:=a;obtain⟨ib,rb,wb⟩:=b;unfold aLa kR
 cases ia<;>cases ib<;>simp
def eJ(ops:List Oper)(cs:List Foot):Bool:=
 let b:=NW ops []
 (List.range cs.length).all fun j=>(List.range j).all fun i=>(b.getD j 0).testBit i|| !aLa (cs.getD i {}) (cs.getD j {})
theorem aRg{src:List Oper}{cs:List Foot}(h:pJ src cs=true):eJ src cs=true:=by
 unfold eJ;simp only[aIV];exact h
theorem aF5{src:List Oper}{cs:List Foot}{x:Option R}(hc:Shut (eJ src cs=true)):(if pJ src cs=true then x else none)=x:=if_pos (by
 have:=hc.it;unfold eJ at this;simp only[aIV]at this;exact this)
theorem aL9{q:List A->H->Option R}:kOps E call thaw [] s h q=q s h:=rfl
theorem aJs{op:Op}{g:Option (Option Tmp×Bool)}{os:List SO}{q:List A->H->Option R}:kOps E call thaw (⟨dst,op,g⟩::os) s h q=xL g s
  (fun s=>kOp E call thaw dst op s h fun a h'=>match box (aPut s dst a)with|.no=>none|.mk s'=>kOps E call thaw os s' h' q)
  (fun s=>match box (aPut s dst (.d .undef))with|.no=>none|.mk s'=>kOps E call thaw os s' h q):=rfl
theorem aJE{cs:List Foot}{q:List A->H->List Foot->Option R}:xP E call thaw [] s h cs q=q s h cs:=rfl
theorem aFN{op:Op}{g:Option (Option Tmp×Bool)}{os:List SO}{cs:List Foot}{q:List A->H->List Foot->Option R}:xP E call thaw (⟨dst,op,g⟩::os) s h cs q=xL g s
  (fun s=>kOpD E call thaw dst op s h fun a h' c=>match box (aPut s dst a)with|.no=>none|.mk s'=>xP E call thaw os s' h' (cs++[c]) q)
  (fun s=>match box (aPut s dst (.d .undef))with|.no=>none|.mk s'=>xP E call thaw os s' h (cs++[{}]) q):=rfl
section
variable{L nf:Nat}{live:List Bool}{lp:Nat->Code}{q:Exit->List A->H->Option R}
theorem aGQ:cV E call L nf thaw live lp .skip s h q=q .normal s h:=rfl
theorem aIn{l:List SO}:cV E call L nf thaw live lp (.ops l) s h q=kOps E call thaw l s h fun s h=>q .normal s h:=rfl
theorem aCf{l:List SO}{src:Array Oper}:cV E call L nf thaw live lp (.drawn l src) s h q=xP E call thaw l s h [] fun s h cs=>if pJ src.toList cs=true then q .normal s h else none:=rfl
theorem aIU{a b:SC}:cV E call L nf thaw live lp (.seq a b) s h q=cV E call L nf thaw live lp a s h fun e s h=>match e with
  |.normal=>cV E call L nf thaw live lp b s h q
  |e=>q e s h:=rfl
theorem aE6{c:Operand}{x y:SC}:cV E call L nf thaw live lp (.cond c x y) s h q=kv s c fun a=>match a with
  |.d (.bool b)=>if b=true then cV E call L nf thaw live lp x s h q else cV E call L nf thaw live lp y s h q
  |_=>none:=rfl
theorem aCc{id:Nat}{c:SC}:cV E call L nf thaw live lp (.block id c) s h q=cV E call L nf thaw live lp c s h fun e s h=>match e with
  |.exit i=>if i=id then q .normal s h else q (.exit i) s h
  |e=>q e s h:=rfl
theorem aEF{i:Nat}:cV E call L nf thaw live lp (.loop i) s h q=match box (sU live s)with
  |.no=>none
  |.mk m=>match box (gc nf m s h)with
   |.mk (s',h')=>aT E call L nf thaw live (lp i) m L s' h' q
   |.no=>none:=rfl
theorem aGO{id:Nat}:cV E call L nf thaw live lp (.exit id) s h q=q (.exit id) s h:=rfl
theorem aIT:cV E call L nf thaw live lp .ret s h q=q .ret s h:=rfl
theorem XQ{c:Code}{m:List Bool}{n:Nat}:aBd E call L nf thaw live c m n q .normal s h=match box (gc nf m s h)with
  |.mk (s',h')=>aT E call L nf thaw live c m n s' h' q
  |.no=>none:=rfl
theorem aGt{c:Code}{m:List Bool}{n i:Nat}:aBd E call L nf thaw live c m n q (.exit i) s h=match box (gc nf m s h)with
  |.mk (s',h')=>q (.exit i) s' h'
  |.no=>none:=rfl
theorem aIk{c:Code}{m:List Bool}{n:Nat}:aBd E call L nf thaw live c m n q .ret s h=match box (gc nf m s h)with
  |.mk (s',h')=>q .ret s' h'
  |.no=>none:=rfl
end
def aX(E:Env)(call:a6)(h:H)(f:FuncId)(args:List A)(k:A->H->Option R):Option R:=
 match bY call E.hint (pack h (aF aI h (idsL args) [])) f (aG (aJ (aF aI h (idsL args) [])) args)with
 |some (a,h1)=>
  if(aF aI h (idsL args) []).length<=h1.length/\closed h (aF aI h (idsL args) []) (idsL args)=true then
   k (mapA (back (aF aI h (idsL args) []) h.length h1.length) a) (bJ (back (aF aI h (idsL args) []) h.length h1.length) h (aF aI h (idsL args) []) h1)
  else none
 |none=>none
theorem aUH{f:FuncId}{args:List Operand}{tys:Array TypeId}:kOp E call thaw dst (.call ⟨.value (.func f),args.toArray,tys⟩) s h k=kvs s args fun vs=>aX E call h f vs k:=by
 unfold kOp kvs aX;simp only[opds,bS,cE]
 cases bS s args with
 |none=>rfl
 |some vs=>
  simp only[xD,if_true,jD,idsL,idsA,Aq,aG,mapA,evOp,eT,fC,dR,Ai]
  cases bY call E.hint (pack h (aF aI h (idsL vs) [])) f (aG (aJ (aF aI h (idsL vs) [])) vs)with
  |none=>rfl
  |some r=>grind
theorem aIK{f:FuncId}{args:List Operand}{tys:Array TypeId}:kOp E call thaw dst (.call ⟨.value (.func f),args.toArray,tys⟩) s h k=kvs s args fun vs=>aX E call h f vs fun a h'=>match box h' with|.no=>none|.mk h''=>k a h'':=by
 rw[aUH];rfl
def JO(E:Env)(call:a6)(h:H)(f:FuncId)(caps args:List A)(k:A->H->Option R):Option R:=
 match bY call E.hint (pack h (aF aI h (idsL caps++idsL args) [])) f (aG (aJ (aF aI h (idsL caps++idsL args) [])) args++aG (aJ (aF aI h (idsL caps++idsL args) [])) caps)with
 |some (a,h1)=>
  if(aF aI h (idsL caps++idsL args) []).length<=h1.length/\closed h (aF aI h (idsL caps++idsL args) []) (idsL caps++idsL args)=true then
   k (mapA (back (aF aI h (idsL caps++idsL args) []) h.length h1.length) a) (bJ (back (aF aI h (idsL caps++idsL args) []) h.length h1.length) h (aF aI h (idsL caps++idsL args) []) h1)
  else none
 |none=>none
def o9(E:Env)(call:a6)(h:H)(g:A)(args:List A)(k:A->H->Option R):Option R:=
 match g with
 |.d (.fn f caps)=>aX E call h f (args++caps.map .d) k
 |.clo f caps=>JO E call h f caps args k
 |_=>none
theorem bN:∀(asx bs:List A),idsL (asx++bs)=idsL asx++idsL bs
 | [],bs=>by simp[idsL]
 |a::asx,bs=>by simp[idsL,bN asx bs]
theorem aME:∀(ds:List D),idsL (ds.map .d)=[]
 | []=>by simp[idsL]
 |d::ds=>by simp[idsL,idsA,aME ds]
theorem cT{f:Nat->Option Nat}:∀(asx bs:List A),aG f (asx++bs)=aG f asx++aG f bs
 | [],bs=>by simp[aG]
 |a::asx,bs=>by simp[aG,cT asx bs]
theorem aG9{f:Nat->Option Nat}:∀(ds:List D),aG f (ds.map .d)=ds.map .d
 | []=>by simp[aG]
 |d::ds=>by simp[aG,mapA,aG9 ds]
theorem aSD{g:A}{vs:List A}{tys:Array TypeId}{x:Operand}{args:Array Operand}:(match jD E call thaw h (dR dst (.call ⟨.value x,args,tys⟩)) (g::vs)with
   |some (a,h',_)=>k a h'
   |none=>none)=o9 E call h g vs k:=by
 unfold jD;simp only[evOp,eT,dR,aG]
 cases g with
 |d y=>
  cases y with
  |fn f caps=>
   simp only[o9,aX,mapA,fC,idsL,idsA,Aq,bN,aME,Ai,cT,aG9]
   cases bY call E.hint (pack h (aF aI h (idsL vs) [])) f (aG (aJ (aF aI h (idsL vs) [])) vs++caps.map .d)with
   |none=>rfl
   |some r=>grind
  |_=>simp only[o9,mapA,fC]
 |clo f caps=>
  simp only[o9,JO,mapA,fC,idsL,idsA]
  cases bY call E.hint (pack h (aF aI h (idsL caps++idsL vs) [])) f (aG (aJ (aF aI h (idsL caps++idsL vs) [])) vs++aG (aJ (aF aI h (idsL caps++idsL vs) [])) caps)with
  |none=>rfl
  |some r=>grind
 |sl id gen off len=>
  simp only[o9,mapA]
  cases aJ (aF aI h (idsL (A.sl id gen off len::vs)) []) id<;>rfl
 |ptr id gen off=>
  simp only[o9,mapA]
  cases aJ (aF aI h (idsL (A.ptr id gen off::vs)) []) id<;>rfl
 |mp id=>
  simp only[o9,mapA]
  cases aJ (aF aI h (idsL (A.mp id::vs)) []) id<;>rfl
 |agg cs=>simp only[o9,mapA,fC]
 |tup cs=>simp only[o9,mapA,fC]
 |junk=>simp only[o9,mapA,fC]
theorem aJY{t:Nat}{args:List Operand}{tys:Array TypeId}:kOp E call thaw dst (.call ⟨.value (.tmp t),args.toArray,tys⟩) s h k=match box (s.getD t (.d .undef))with
  |.no=>none
  |.mk g=>kvs s args fun vs=>o9 E call h g vs k:=by
 unfold kOp kvs;simp only[opds,bS,cE,box]
 cases bS s args with
 |none=>rfl
 |some vs=>simp only[xD,if_true];exact aSD
theorem aI7{f:FuncId}{caps:List D}{vs:List A}:o9 E call h (.d (.fn f caps)) vs k=match box (vs++caps.map .d)with|.no=>none|.mk as'=>aX E call h f as' k:=rfl
theorem aGz{f:FuncId}{caps vs:List A}:o9 E call h (.clo f caps) vs k=JO E call h f caps vs k:=rfl
theorem aDZ{h:H}{ids:List Nat}{h1:H}{ord:List Nat}:∀(ord:List Nat) (h h1:H) (f:Nat->Option Nat),ord.length<=h1.length->(bJ f h ord h1).length=h.length+(h1.length-ord.length)
 | [],h,h1,f,_=>by simp[bJ]
 |i::ord,h,[],f,hl=>by simp at hl
 |i::ord,h,o::h1,f,hl=>by
  simp only[bJ,aDZ (h:=h) (ids:=ids) (h1:=h1) (ord:=ord) ord _ h1 f (by simpa using hl),Br,Ae];omega
def wrC(E:Env)(f:FuncId)(ord:List Nat):List Nat:=if(E.hint f).mode==3 then []else ord
def NF(E:Env)(f:FuncId)(h h':H)(ord:List Nat):Option (H×Foot):=if((E.hint f).mode==1&&h'.length-h.length==0)=true then some (h,{ ids:=ord,ro:=true})else some (h',{ ids:=ord++List.range' h.length (h'.length-h.length),ro:=false,wr:=wrC E f ord++List.range' h.length (h'.length-h.length)})
theorem aQz{f:FuncId}{args:List Operand}{tys:Array TypeId}{q:A->H->Foot->Option R}:kOpD E call thaw dst (.call ⟨.value (.func f),args.toArray,tys⟩) s h q=kvs s args fun vs=>match box (aF aI h (idsL vs) [])with
  |.no=>none
  |.mk ord=>aX E call h f vs fun a h'=>if((E.hint f).mode==1&&h'.length-h.length==0)=true then q a h { ids:=ord,ro:=true}else q a h' { ids:=ord++List.range' h.length (h'.length-h.length),ro:=false,wr:=wrC E f ord++List.range' h.length (h'.length-h.length)}:=by
 unfold kOpD kvs aX;simp only[opds,bS,cE,box]
 cases bS s args with
 |none=>rfl
 |some vs=>
  simp only[qQ,rP,Am,if_false,jD,idsL,idsA,Aq,aG,mapA,evOp,eT,fC,dR,Ai,jW]
  cases bY call E.hint (pack h (aF aI h (idsL vs) [])) f (aG (aJ (aF aI h (idsL vs) [])) vs)with
  |none=>rfl
  |some r=>
   obtain⟨a,h1⟩:=r
   by_cases c1:(aF aI h (idsL vs) []).length<=h1.length
   ·by_cases c2:closed h (aF aI h (idsL vs) []) (idsL vs)=true
    ·have e:=aDZ (h:=h) (ids:=idsL vs) (h1:=h1) (ord:=[]) (aF aI h (idsL vs) []) h h1 (back (aF aI h (idsL vs) []) h.length h1.length) c1;have e2:(bJ (back (aF aI h (idsL vs) []) h.length h1.length) h (aF aI h (idsL vs) []) h1).length-h.length=h1.length-(aF aI h (idsL vs) []).length:=om;simp only[c1,c2,and_self,if_true,e2]
     first|done|rfl|(by_cases c3:((E.hint f).mode==1&&h1.length-(aF aI h (idsL vs) []).length==0)=true<;>simp[c3])
    ·grind
   ·grind
theorem YD{f:FuncId}{args:List Operand}{tys:Array TypeId}{q:A->H->Foot->Option R}:kOpD E call thaw dst (.call ⟨.value (.func f),args.toArray,tys⟩) s h q=kvs s args fun vs=>match box (aF aI h (idsL vs) [])with
  |.no=>none
  |.mk ord=>aX E call h f vs fun a h'=>match box (NF E f h h' ord)with|.mk (some (h'',c))=>q a h'' c|_=>none:=by
 rw[aQz]
 congr 1
 funext vs
 simp only[box]
 congr 1
 funext a h'
 unfold NF
 by_cases hc:((E.hint f).mode==1&&h'.length-h.length==0)=true
 ·grind
 ·grind
theorem aNM{t:Nat}{args:List Operand}{tys:Array TypeId}{q:A->H->Foot->Option R}{f:FuncId}{caps:List D}(hg:Now (s.getD t (.d .undef)=.d (.fn f caps))):kOpD E call thaw dst (.call ⟨.value (.tmp t),args.toArray,tys⟩) s h q=kvs s args fun vs=>match box (aF aI h (idsL vs) [])with
  |.no=>none
  |.mk ord=>aX E call h f (vs++caps.map .d) fun a h'=>if((E.hint f).mode==1&&h'.length-h.length==0)=true then q a h { ids:=ord,ro:=true}else q a h' { ids:=ord++List.range' h.length (h'.length-h.length),ro:=false,wr:=wrC E f ord++List.range' h.length (h'.length-h.length)}:=by
 have hg:=hg.it;unfold kOpD kvs aX;simp only[opds,bS,cE,box,hg]
 cases bS s args with
 |none=>rfl
 |some vs=>
  simp only[qQ,rP,Am,if_false,jD,idsL,idsA,Aq,aG,mapA,evOp,eT,fC,dR,Ai,jW,bN,aME,cT,aG9]
  cases bY call E.hint (pack h (aF aI h (idsL vs) [])) f (aG (aJ (aF aI h (idsL vs) [])) vs++caps.map .d)with
  |none=>rfl
  |some r=>
   obtain⟨a,h1⟩:=r
   by_cases c1:(aF aI h (idsL vs) []).length<=h1.length
   ·by_cases c2:closed h (aF aI h (idsL vs) []) (idsL vs)=true
    ·have e:=aDZ (h:=h) (ids:=idsL vs) (h1:=h1) (ord:=[]) (aF aI h (idsL vs) []) h h1 (back (aF aI h (idsL vs) []) h.length h1.length) c1;have e2:(bJ (back (aF aI h (idsL vs) []) h.length h1.length) h (aF aI h (idsL vs) []) h1).length-h.length=h1.length-(aF aI h (idsL vs) []).length:=om;simp only[c1,c2,and_self,if_true,e2]
     first|done|rfl|(by_cases c3:((E.hint f).mode==1&&h1.length-(aF aI h (idsL vs) []).length==0)=true<;>simp[c3])
    ·grind
   ·grind
def aW3(E:Env)(call:a6)(thaw:List Nat)(dst:Option Tmp)(op:Op)(s:List A)(h:H)(q:A->H->Foot->Option R):Option R:=kOpD E call thaw dst op s h q
theorem aEL{t:Nat}{args:List Operand}{tys:Array TypeId}{q:A->H->Foot->Option R}:kOpD E call thaw dst (.call ⟨.value (.tmp t),args.toArray,tys⟩) s h q=match box (s.getD t (.d .undef))with
  |.mk (.d (.fn f caps))=>kvs s args fun vs=>match box (aF aI h (idsL vs) [])with
   |.no=>none
   |.mk ord=>match box (vs++caps.map .d)with|.no=>none|.mk as'=>aX E call h f as' fun a h'=>match box (NF E f h h' ord)with|.mk (some (h'',c))=>q a h'' c|_=>none
  |.mk (.clo f [])=>kvs s args fun vs=>match box (aF aI h (idsL vs) [])with
   |.no=>none
   |.mk ord=>aX E call h f vs fun a h'=>match box (NF E f h h' ord)with|.mk (some (h'',c))=>q a h'' c|_=>none
  |_=>aW3 E call thaw dst (.call ⟨.value (.tmp t),args.toArray,tys⟩) s h q:=by
 have key:=fun(f:FuncId) (caps:List D) hg=>aNM (E:=E) (call:=call) (thaw:=thaw) (dst:=dst) (s:=s) (h:=h) (t:=t) (args:=args) (tys:=tys) (q:=q) (f:=f) (caps:=caps) hg
 have k2:∀f,s.getD t (.d .undef)=.clo f []->kOpD E call thaw dst (.call ⟨.value (.tmp t),args.toArray,tys⟩) s h q=kOpD E call thaw dst (.call ⟨.value (.func f),args.toArray,tys⟩) s h q:=by
  intro f hg;unfold kOpD kvs;simp only[opds,bS,cE,hg]
  cases bS s args<;>rfl
 have fold:∀(f:FuncId) (h h':H) (ord:List Nat) (a:A),(if((E.hint f).mode==1&&h'.length-h.length==0)=true then q a h { ids:=ord,ro:=true}else q a h' { ids:=ord++List.range' h.length (h'.length-h.length),ro:=false,wr:=wrC E f ord++List.range' h.length (h'.length-h.length)})=match box (NF E f h h' ord)with|.mk (some (h'',c))=>q a h'' c|_=>none:=by
  intro f h h' ord a;unfold NF
  by_cases hc:((E.hint f).mode==1&&h'.length-h.length==0)=true
  ·simp only[if_pos hc,box]
  ·simp only[if_neg hc,box]
 generalize hs:s.getD t (.d .undef)=a
 cases a with
 |d x=>
  cases x with
  |fn f caps=>
   rw[key f caps ⟨hs⟩];simp only[fold]<;>rfl
  |_=>rfl
 |clo f caps=>
  cases caps with
  |nil=>rw[k2 f hs];exact YD
  |cons c caps=>rfl
 |_=>rfl
theorem AH(n:Nat)(h:H):aF n h [] []=[]:=by cases n<;>rfl
mutual
theorem tN{f:Nat->Option Nat}:∀a:A,idsA a=[]->mapA f a=a
 |.d x,_=>by simp only[mapA]
 |.sl id gen off len,h=>by simp[idsA]at h
 |.ptr id gen off,h=>by simp[idsA]at h
 |.mp id,h=>by simp[idsA]at h
 |.clo g caps,h=>by simp only[idsA]at h;simp only[mapA];rw[fX caps h]
 |.agg cs,h=>by simp only[idsA]at h;simp only[mapA];rw[fX cs h]
 |.tup cs,h=>by simp only[idsA]at h;simp only[mapA];rw[fX cs h]
 |.junk,_=>by simp only[mapA]
theorem fX{f:Nat->Option Nat}:∀asx:List A,idsL asx=[]->aG f asx=asx
 | [],_=>by simp only[aG]
 |a::asx,h=>by
  simp only[idsL,List.append_eq_nil_iff]at h;simp only[aG];rw[tN a h.1,fX asx h.2]
end
theorem aRG{a:A}(h:sI a=true):idsA a=[]:=by
 cases a with
 |d x=>rfl
 |agg cs=>
  simp only[sI]at h;simp only[idsA]
  induction cs with
  |nil=>rfl
  |cons c cs ih=>
   simp only[Bx,Ar]at h;simp only[idsL,ih h.2,Ai]
   cases c<;>first|rfl|simp[isD]at h
 |_=>simp[sI]at h
theorem A7:∀ {asx:List A},asx.all sI=true->idsL asx=[]
 | [],_=>rfl
 |a::asx,h=>by
  simp only[Bx,Ar]at h;simp only[idsL,aRG h.1,A7 h.2,Ai]
theorem aFK{h:H}:∀ {cs:List A},cs.all isD=true->∃ds,frzL h cs=some (ds,h)/\ds.map .d=cs
 | [],_=>⟨[],rfl,rfl⟩
 |c::cs,hs=>by
  simp only[Bx,Ar]at hs;obtain⟨ds,h1,h2⟩:=aFK (h:=h) hs.2
  cases c with
  |d x=>
   refine⟨x::ds,?_,by simp[h2]⟩;unfold frzL at h1|-;simp only[eD];have:frz deep h (.d x)=some (x,h):=rfl;rw[this];simp only[h1]
  |_=>simp[isD]at hs
theorem wU{h:H}:∀ {asx:List A},asx.all sI=true->d8 h asx=some (asx,h)
 | [],_=>rfl
 |a::asx,hs=>by
  simp only[Bx,Ar]at hs
  have ha:frzA h a=some (a,h):=by
   cases a with
   |d x=>rfl
   |agg cs=>
    obtain⟨ds,h1,h2⟩:=aFK (h:=h) (cs:=cs) (by simpa only[sI]using hs.1);simp only[frzA,h1,h2]
   |_=>simp[sI]at hs
  simp only[d8,ha,wU hs.2]
theorem aOf{r:A}(h:gW r=true):lQ r=true/\mapA (fun k=>back [] 0 0 k) r=r:=by
 cases r with
 |d x=>cases x<;>first|exact⟨rfl,rfl⟩|simp[gW]at h
 |tup vs=>
  simp only[gW]at h
  have key:j8 vs=true/\aG (fun k=>back [] 0 0 k) vs=vs:=by
   induction vs with
   |nil=>exact⟨rfl,by simp only[aG]⟩
   |cons v vs ih=>
    simp only[Bx,Ar]at h;obtain⟨i1,i2⟩:=ih h.2
    cases v with
    |d x=>cases x<;>first|(exfalso;simp at h;done)|(refine⟨by simp only[j8,lQ,xA,i1,Bp],by simp only[aG,mapA,i2]⟩)
    |_=>grind
  exact⟨by simp only[lQ];exact key.1,by simp only[mapA,key.2]⟩
 |_=>simp[gW]at h
theorem aN9{f:FuncId}{args:List A}{r:A}(hs:args.all sI=true)(hc:call f args []=some (r,[]))(hp:gW r=true\/((E.hint f).mode==1||(E.hint f).mode==3)=false):bY call E.hint [] f args=some (r,[]):=by
 unfold bY
 split
 ·exact hc
 ·rename_i hm
  rw[wU hs];simp only[hc]
  rcases hp with hp|hp
  ·rw[hp];rfl
  ·grind
 ·rename_i hm
  rw[wU hs];simp only[hc]
  rcases hp with hp|hp
  ·obtain⟨h1,h2⟩:=aOf hp;rw[h1];exact congrArg (fun x=>some (x,([]:H))) h2
  ·grind
 ·rw[wU hs];simp only[hc]
theorem bV{f:FuncId}{args:List A}{r:A}(hs:args.all sI=true)(hc:call f args []=some (r,[]))(hr:idsA r=[])(hp:gW r=true\/((E.hint f).mode==1||(E.hint f).mode==3)=false):aX E call h f args k=k r h:=by
 unfold aX;rw[A7 hs,AH,fX _ (A7 hs)];have:pack h []=[]:=rfl;rw[this,aN9 hs hc hp];simp only[Ac,Ab,true_and,closed,Cd,Bp,if_true,tN r hr,bJ,As,Ai]
def xT(call:a6)(f:FuncId)(args:List A)(k:A->Option R):Option R:=
 match call f args []with
 |some (r,[])=>if gW r=true then k r else none
 |_=>none
theorem nB{f:FuncId}{args:List A}{r:A}{k:A->Option R}(hc:call f args []=some (r,[]))(hp:gW r=true):xT call f args k=k r:=by
 unfold xT;rw[hc];simp only[hp,if_true]
theorem aR2{r:A}(h:gW r=true):idsA r=[]:=by
 cases r with
 |d x=>rfl
 |tup vs=>
  simp only[gW]at h;simp only[idsA]
  induction vs with
  |nil=>rfl
  |cons v vs ih=>
   simp only[Bx,Ar]at h;simp only[idsL,ih h.2,Ai]
   cases v with
   |d x=>rfl
   |_=>grind
 |_=>simp[gW]at h
theorem aIL(ord:List Nat)(n:Nat):back ord n ord.length=fun k=>ord[k]?:=by
 funext k
 unfold back
 split
 ·rfl
 ·grind
theorem aL1{h:H}{ord ids:List Nat}(hc:closed h ord ids=true)(hn:ord.Nodup)(hl:∀i∈ord,i<h.length):bJ (fun(k:Nat)=>ord[k]?) h ord (pack h ord)=h:=by
 apply Cr;intro id;rw[EJ _ ord h _ id hn hl (by simp[pack])]
 cases hp:aJ ord id with
 |none=>
  simp only[]
  split
  ·rfl
  ·rename_i hge
   rw[Cq (by simp[pack]),Cq om];rfl
 |some k=>
  simp only[];have hm:=NX hp;obtain⟨o,ho⟩:∃o,h[id]? =some o:=⟨h[id]'(hl id hm),Ad _⟩
  rw[iS (bH hp) ho,ho,Bb,aAR hc hm ho]
theorem aOn{f:FuncId}{args:List A}(hm:(E.hint f).mode=1):aX E call h f args k=match box (aF aI h (idsL args) [])with
  |.no=>none
  |.mk ord=>match box (d8 (pack h ord) (aG (aJ ord) args))with
   |.mk (some (fs,_))=>if closed h ord (idsL args)=true then xT call f fs fun r=>k r h else none
   |_=>none:=by
 unfold aX bY;rw[hm];simp only[box]
 cases hf:d8 (pack h (aF aI h (idsL args) [])) (aG (aJ (aF aI h (idsL args) [])) args)with
 |none=>rfl
 |some r=>
  obtain⟨fs,h1⟩:=r;simp only[xT]
  cases hc:call f fs []with
  |none=>simp
  |some r=>
   obtain⟨a,h2⟩:=r
   cases h2 with
   |cons o h2=>simp
   |nil=>
    by_cases hp:gW a=true
    ·simp only[hp,if_true];have hlen:(pack h (aF aI h (idsL args) [])).length=(aF aI h (idsL args) []).length:=by simp[pack]
     simp only[hlen,Ab,true_and]
     by_cases hcl:closed h (aF aI h (idsL args) []) (idsL args)=true
     ·simp only[hcl,if_true,aIL,tN a (aR2 hp)];rw[aL1 hcl (bW aI h (idsL args) [] sm) (kE aI h (idsL args) [] sm)]
     ·grind
    ·grind
def aA7(h:H)(args:List A):Option (List A):=match box (aF aI h (idsL args) [])with
 |.no=>none
 |.mk ord=>match box (d8 (pack h ord) (aG (aJ ord) args))with
  |.mk (some (fs,_))=>if closed h ord (idsL args)=true then some fs else none
  |_=>none
theorem eE{f:FuncId}{args:List A}(hm:(E.hint f).mode=1):aX E call h f args k=match box (aA7 h args)with
  |.mk (some fs)=>xT call f fs fun r=>k r h
  |_=>none:=by
 rw[aOn hm];unfold aA7;simp only[box]
 cases d8 (pack h (aF aI h (idsL args) [])) (aG (aJ (aF aI h (idsL args) [])) args)with
 |none=>rfl
 |some r=>grind
theorem aPr{nf:Nat}{h:H}{ord:List Nat}{s:List A}:trim nf h ord s=match box (pack h ord)with
  |.mk p=>(aV nf p (aG (aJ ord) s),cJ nf p)
  |.no=>([],[]):=rfl
theorem aVc{nf:Nat}{m:List Bool}{s:List A}{h:H}:gc nf m s h=match box (tidy m s)with
  |.mk s1=>match box (dE nf h (idsL s1))with
   |.mk ord=>trim nf h ord s1
   |.no=>([],[])
  |.no=>([],[]):=rfl
theorem aO7{P:Program}{nf:Nat}{exp:Bool}{rs:List ResultVar}{e:Exit}{s:List A}{h:H}:kFin P nf exp rs e s h=
  if mM e then(match lO P s h rs with
   |some rs=>match qG nf exp h rs with
    |some (xs,h2)=>match box (dE nf h2 (idsL xs))with
     |.mk ord=>match box (trim nf h2 ord xs)with
      |.mk r=>some (tupA r.1,r.2)
      |.no=>none
     |.no=>none
    |none=>none
   |none=>none)else none:=rfl
theorem vB(nf:Nat)(h:H)(ids:List Nat):dE nf h ids=aF 1099511627776 h (eL (h.take nf)++ids) (List.range nf):=rfl
theorem rng0:List.range 0=[]:=rfl
theorem rng1:List.range 1=[0]:=rfl
theorem rng2:List.range 2=[0,1]:=rfl
theorem aAJ(h:H)(ids:List Nat):dE 0 h ids=aF 1099511627776 h ids []:=by
 unfold dE;rfl
theorem zP(n:Nat)(h:H)(acc:List Nat):aF n h [] acc=acc:=by cases n<;>rfl
theorem pY(n:Nat)(h:H)(i:Nat)(todo acc:List Nat):aF (n+1) h (i::todo) acc=if acc.contains i=true then aF n h todo acc
  else match h.getD i .void with
   |.box cs=>aF n h (todo++idsL cs) (acc++[i])
   |.vec cs _ _=>aF n h (todo++idsL cs) (acc++[i])
   |.void=>aF n h todo acc
   |_=>aF n h todo (acc++[i]):=by
 simp only[aF,Aa]
 split
 ·rfl
 ·grind
theorem aK1{α:Type}{c:Prop}[Decidable c]{a:α}(hc:c):(if c then some a else none)=some a:=if_pos hc
def iAnd(k:IntKind)(a b:Int):Int:=k.wrap (BitVec.ofInt k.bits a&&&BitVec.ofInt k.bits b).toNat
def iOr(k:IntKind)(a b:Int):Int:=k.wrap (BitVec.ofInt k.bits a|||BitVec.ofInt k.bits b).toNat
def iXor(k:IntKind)(a b:Int):Int:=k.wrap (BitVec.ofInt k.bits a^^^BitVec.ofInt k.bits b).toNat
section
variable{t:TypeId}{K:IntKind}{a b:Int}
theorem aJd:b6 E .add t h (.d (.int K a)) (.d (.int K b))=some (.d (.int K (K.wrap (a+b))),h):=by simp[b6,aBin];rfl
theorem aI0:b6 E .sub t h (.d (.int K a)) (.d (.int K b))=some (.d (.int K (K.wrap (a-b))),h):=by simp[b6,aBin];rfl
theorem aIC:b6 E .mul t h (.d (.int K a)) (.d (.int K b))=some (.d (.int K (K.wrap (a*b))),h):=by simp[b6,aBin];rfl
theorem aI4:b6 E .and t h (.d (.int K a)) (.d (.int K b))=some (.d (.int K (iAnd K a b)),h):=by simp[b6,aBin];rfl
theorem aLP:b6 E .or t h (.d (.int K a)) (.d (.int K b))=some (.d (.int K (iOr K a b)),h):=by simp[b6,aBin];rfl
theorem aJM:b6 E .xor t h (.d (.int K a)) (.d (.int K b))=some (.d (.int K (iXor K a b)),h):=by simp[b6,aBin];rfl
theorem aIR:b6 E .lss t h (.d (.int K a)) (.d (.int K b))=some (.d (.bool (decide (a<b))),h):=by simp[b6,aBin]
theorem aIA:b6 E .leq t h (.d (.int K a)) (.d (.int K b))=some (.d (.bool (decide (a<=b))),h):=by simp[b6,aBin]
theorem aIG:b6 E .gtr t h (.d (.int K a)) (.d (.int K b))=some (.d (.bool (decide (b<a))),h):=by simp[b6,aBin]
theorem aIw:b6 E .geq t h (.d (.int K a)) (.d (.int K b))=some (.d (.bool (decide (b<=a))),h):=by simp[b6,aBin]
theorem aJt:b6 E .eql t h (.d (.int K a)) (.d (.int K b))=some (.d (.bool (decide (a=b))),h):=by simp[b6,aBin];rfl
theorem aI1:b6 E .neq t h (.d (.int K a)) (.d (.int K b))=some (.d (.bool (!decide (a=b))),h):=by simp[b6,aBin];rfl
theorem aJw(hb:b≠0):b6 E .quo t h (.d (.int K a)) (.d (.int K b))=some (.d (.int K (K.wrap (a.tdiv b))),h):=by simp[b6,aBin,hb]
theorem aIa(hb:b≠0):b6 E .rem t h (.d (.int K a)) (.d (.int K b))=some (.d (.int K (a.tmod b)),h):=by simp[b6,aBin,hb]
theorem aJn{K2:IntKind}(hb:0<=b):b6 E .shl t h (.d (.int K a)) (.d (.int K2 b))=some (.d (.int K (K.wrap (a*2^(min b.toNat K.bits)))),h):=by
 have:¬b<0:=om;simp[b6,aBin,Op.shift,this];rfl
theorem aI5{K2:IntKind}(hb:0<=b):b6 E .shr t h (.d (.int K a)) (.d (.int K2 b))=some (.d (.int K (a.fdiv (2^(min b.toNat K.bits)))),h):=by
 have:¬b<0:=om;simp[b6,aBin,Op.shift,this];rfl
theorem aOH{b:Bool}:aUn .not (.d (.bool b))=some (.d (.bool (!b))):=rfl
end
end
theorem WD:type_of% (AI @aGQ (AI @aIn (AI @aCf (AI @aIU (AI @aE6 (AI @aCc (AI @aEF (AI @aGO (AI @aIT (AI @aL9 (AI @aJs (AI @aJE (AI @aFN (AI @aBW (AI @aCZ (AI @aSL (AI @aS0 (AI @aPd (AI @aR5 (AI @aOx (AI @aOY (AI @aOF (AI @aPm (AI @aKO (AI @aKP (AI @QJ (AI @KH (AI @aPo (AI @aSg (AI @aLM (AI @XV (AI @aMI (AI @aMT (AI @aII (AI @aJk (AI @aO1 (AI @aIE (AI @RS (AI @ZJ (AI @WI (AI @aB1 (AI @aB5 (AI @VJ (AI @V0 (AI @aIP (AI @aB4 (AI @aCb (AI @aIK (AI @aO7 (AI @XQ (AI @aGt (AI @aIk (AI @aBS (AI @aGE @WR)))))))))))))))))))))))))))))))))))))))))))))))))))))):=
 ⟨@aGQ,@aIn,@aCf,@aIU,@aE6,@aCc,@aEF,@aGO,@aIT,@aL9,@aJs,@aJE,@aFN,@aBW,@aCZ,@aSL,@aS0,@aPd,@aR5,@aOx,@aOY,@aOF,@aPm,@aKO,@aKP,@QJ,@KH,@aPo,@aSg,@aLM,@XV,@aMI,@aMT,@aII,@aJk,@aO1,@aIE,@RS,@ZJ,@WI,@aB1,@aB5,@VJ,@V0,@aIP,@aB4,@aCb,@aIK,@aO7,@XQ,@aGt,@aIk,@aBS,@aGE,@WR⟩
theorem WDD:type_of% (AI @aIN (AI @aFD (AI @aB0 (AI @aGw (AI @OV (AI @aIH (AI @RV (AI @aCY (AI @aNl (AI @aJg (AI @aJI (AI @V9 (AI @aLE (AI @aOE (AI @V4 (AI @R8 (AI @X6 (AI @aEM (AI @YD (AI @aJY (AI @aI7 @aGz))))))))))))))))))))):=
 ⟨@aIN,@aFD,@aB0,@aGw,@OV,@aIH,@RV,@aCY,@aNl,@aJg,@aJI,@V9,@aLE,@aOE,@V4,@R8,@X6,@aEM,@YD,@aJY,@aI7,@aGz⟩
theorem WK0:type_of% (AI @aR4 (AI @aOH (AI @aJd (AI @aI0 (AI @aIC (AI @aI4 (AI @aLP (AI @aJM (AI @aJw (AI @aIa (AI @aJn (AI @aI5 (AI @aIR (AI @aIA (AI @aIG (AI @aIw (AI @aJt (AI @aI1 (AI @List.getD_nil.{0} (AI @Cj.{0} (AI @Bs.{0} (AI @aVc @aPr)))))))))))))))))))))):=
 ⟨@aR4,@aOH,@aJd,@aI0,@aIC,@aI4,@aLP,@aJM,@aJw,@aIa,@aJn,@aI5,@aIR,@aIA,@aIG,@aIw,@aJt,@aI1,@List.getD_nil.{0},@Cj.{0},@Bs.{0},@aVc,@aPr⟩
theorem WK1:type_of% (AI @Bool.not_true (AI @Bool.not_false (AI @Bool.true_eq_false (AI @decide_eq_true_eq (AI @decide_eq_false_iff_not (AI @Bb.{0,0} (AI @decide_true (AI @decide_false (AI @aK1 (AI @Ch (AI @Nat.one_mul (AI @Ba.{0} (AI @Bx.{0} (AI @Cd.{0} (AI @Bp (AI @Bool.and_true @Bool.true_and)))))))))))))))):=
 ⟨@Bool.not_true,@Bool.not_false,@Bool.true_eq_false,@decide_eq_true_eq,@decide_eq_false_iff_not,@Bb.{0,0},@decide_true,@decide_false,@aK1,@Ch,@Nat.one_mul,@Ba.{0},@Bx.{0},@Cd.{0},@Bp,@Bool.and_true,@Bool.true_and⟩
theorem WK2:type_of% (AI @Co (AI @Dr (AI @List.zip_cons_cons.{0,0} (AI @List.zip_nil_left.{0,0} (AI @List.flatten_cons.{0} (AI @List.flatten_nil.{0} (AI @List.take_zero.{0} (AI @List.take_nil.{0} (AI @List.drop_nil.{0} (AI @Bool.or_self (AI @Bool.or_false (AI @Ca (AI @and_self (AI @and_true (AI @true_and (AI @Bool.or_true (AI @Bool.true_or (AI @Ds.{0} (AI @List.take_succ_cons.{0} (AI @Nat.lt_irrefl (AI @List.head?_cons.{0} (AI @List.contains_cons.{0} (AI @List.contains_nil.{0} @vB))))))))))))))))))))))):=
 ⟨@Co,@Dr,@List.zip_cons_cons.{0,0},@List.zip_nil_left.{0,0},@List.flatten_cons.{0},@List.flatten_nil.{0},@List.take_zero.{0},@List.take_nil.{0},@List.drop_nil.{0},@Bool.or_self,@Bool.or_false,@Ca,@and_self,@and_true,@true_and,@Bool.or_true,@Bool.true_or,@Ds.{0},@List.take_succ_cons.{0},@Nat.lt_irrefl,@List.head?_cons.{0},@List.contains_cons.{0},@List.contains_nil.{0},@vB⟩
theorem WK3:type_of% (AI @rng0 (AI @rng1 (AI @rng2 (AI @Option.isNone_none.{0} (AI @Option.isNone_some.{0} (AI @Cn.{0} (AI @Cv.{0} (AI @zP (AI @pY (AI @beq_self_eq_true.{0} (AI @Nat.succ_ne_self (AI @Nat.zero_ne_one (AI @Af.{0} (AI @or_false @or_true)))))))))))))):=
 ⟨@rng0,@rng1,@rng2,@Option.isNone_none.{0},@Option.isNone_some.{0},@Cn.{0},@Cv.{0},@zP,@pY,@beq_self_eq_true.{0},@Nat.succ_ne_self,@Nat.zero_ne_one,@Af.{0},@or_false,@or_true⟩
theorem WK:type_of% (AI @WK0 (AI @WK1 (AI @WK2 @WK3))):=
 ⟨@WK0,@WK1,@WK2,@WK3⟩
section
variable{E:Env}{vs:List A}{t u:TypeId}{x y:Operand}
theorem aB6:jW E (.convert t u x) vs=(c8 E.P u).isNone:=rfl
theorem VU{a:Array Operand}{b:Array TypeId}:jW E (.call ⟨.builtin .append,a,b⟩) vs=false:=rfl
theorem aAt:jW E (.alloc t) vs=false:=rfl
theorem VQ:jW E (.assign x) vs=false:=rfl
theorem XP:jW E (.store t x y) vs=false:=rfl
theorem aIf{n:Nat}{ps:Array (Nat×Operand)}:jW E (.buildSlice t n ps) vs=false:=rfl
theorem aGc:opds (.alloc t)=[]:=rfl
end
theorem UNx5:type_of% (fun v0 v1 v2 v3=> @outA.eq_2 v0 v1 v2 (A.d v3) nfn):=by intros;rfl
theorem UNx6:type_of% (fun v0 v1 v2 v3 v4 v5 v6=> @outA.eq_2 v0 v1 v2 (A.sl v3 v4 v5 v6) nfn):=by intros;rfl
theorem UNx7:type_of% (fun v0 v1 v2 v3 v4 v5=> @outA.eq_2 v0 v1 v2 (A.ptr v3 v4 v5) nfn):=by intros;rfl
theorem UNx9:type_of% (fun v0 v1 v2 v3 v4=> @outA.eq_2 v0 v1 v2 (A.clo v3 v4) nfn):=by intros;rfl
theorem aVa:type_of% (fun v0 v1 v2 v3 v4=> @outS.eq_2 v0 v1 v2 (D.int v3 v4) nfn):=by intros;rfl
theorem aU7:type_of% (fun v0 v1 v2 v3=> @outS.eq_2 v0 v1 v2 (D.bool v3) nfn):=by intros;rfl
theorem aUX:type_of% (fun v0 v1 v2 v3=> @outS.eq_2 v0 v1 v2 (D.str v3) nfn):=by intros;rfl
theorem aUR:type_of% (fun v0 v1 v2 v3 v4=> @outS.eq_2 v0 v1 v2 (D.ivs v3 v4) nfn):=by intros;rfl
theorem aVb:type_of% (fun v0 v1=> @gM.eq_3 (A.d (D.int v0 v1)) nfn nfn):=by intros;rfl
theorem aUQ:type_of% (fun v0=> @gM.eq_3 (A.d (D.bool v0)) nfn nfn):=by intros;rfl
theorem aVg:type_of% (fun v0=> @gM.eq_3 (A.d (D.str v0)) nfn nfn):=by intros;rfl
theorem aUS:type_of% (fun v0 v1=> @gM.eq_3 (A.d (D.ivs v0 v1)) nfn nfn):=by intros;rfl
theorem aU6:type_of% (@gM.eq_3 (A.d D.nils) nfn nfn):=(@gM.eq_3 (A.d D.nils) nfn nfn)
theorem aVd:type_of% (fun v0 v1=> @gM.eq_3 (A.d (D.fn v0 v1)) nfn nfn):=by intros;rfl
theorem aUP:type_of% (fun v0 v1 v2 v3=> @gM.eq_3 (A.sl v0 v1 v2 v3) nfn nfn):=by intros;rfl
theorem aUO:type_of% (fun v0 v1 v2=> @gM.eq_3 (A.ptr v0 v1 v2) nfn nfn):=by intros;rfl
theorem aU0:type_of% (fun v0=> @gM.eq_3 (A.mp v0) nfn nfn):=by intros;rfl
theorem aUV:type_of% (fun v0 v1=> @gM.eq_3 (A.clo v0 v1) nfn nfn):=by intros;rfl
theorem aUN:type_of% (fun v0=> @tidy.eq_3 List.nil v0 nfn nfn):=by intros;rfl
theorem aU9:type_of% (fun v0 v1 v2 v3 v4=> @cH.eq_2 v0 v1 v2 v3 (A.d v4) nfn):=by intros;rfl
theorem aUW:type_of% (fun v0 v1 v2 v3 v4 v5 v6 v7=> @cH.eq_2 v0 v1 v2 v3 (A.sl v4 v5 v6 v7) nfn):=by intros;rfl
theorem aU1:type_of% (fun v0 v1=> @aBg.eq_2 v0 (A.d v1) nfn):=by intros;rfl
theorem aU2:type_of% (fun v0 v1 v2=> @frz.eq_5 v0 (A.d v2) v1 nfn nfn nfn):=by intros;rfl
theorem aVf:type_of% (fun v0=> @a7.eq_2 (A.d v0) nfn):=by intros;rfl
theorem aVe:type_of% (fun v0 v1 v2 v3=> @a7.eq_2 (A.sl v0 v1 v2 v3) nfn):=by intros;rfl
theorem aUZ:type_of% (fun v0=> @a7.eq_2 (A.mp v0) nfn):=by intros;rfl
theorem aRp:type_of% (fun v0 v1=> @dT.eq_5 (A.d (D.int v0 v1)) nfn nfn nfn nfn):=by intros;rfl
theorem aSa:type_of% (fun v0=> @dT.eq_5 (A.d (D.bool v0)) nfn nfn nfn nfn):=by intros;rfl
theorem aRE:type_of% (fun v0=> @dT.eq_5 (A.d (D.str v0)) nfn nfn nfn nfn):=by intros;rfl
theorem aRa:type_of% (fun v0 v1=> @dT.eq_5 (A.d (D.ivs v0 v1)) nfn nfn nfn nfn):=by intros;rfl
theorem aSy:type_of% (@dT.eq_5 (A.d D.nils) nfn nfn nfn nfn):=(@dT.eq_5 (A.d D.nils) nfn nfn nfn nfn)
theorem aRm:type_of% (fun v0 v1=> @dT.eq_5 (A.d (D.fn v0 v1)) nfn nfn nfn nfn):=by intros;rfl
theorem aRK:type_of% (fun v0 v1 v2 v3=> @dT.eq_5 (A.sl v0 v1 v2 v3) nfn nfn nfn nfn):=by intros;rfl
theorem aSb:type_of% (fun v0=> @dT.eq_5 (A.mp v0) nfn nfn nfn nfn):=by intros;rfl
theorem aQY:type_of% (fun v0=> @zL.eq_2 (A.d v0) nfn):=by intros;rfl
theorem aRk:type_of% (fun v0 v1 v2 v3=> @zL.eq_2 (A.sl v0 v1 v2 v3) nfn):=by intros;rfl
theorem aRD:type_of% (fun v0=> @zL.eq_2 (A.agg v0) nfn):=by intros;rfl
theorem aRF:type_of% (fun v0 v1 v2 v3=> @eL.eq_4 (O.arr v1 v2 v3) v0 nfn nfn):=by intros;rfl
theorem aRv:type_of% (fun v0 v1=> @eL.eq_4 (O.mp v1) v0 nfn nfn):=by intros;rfl
theorem aSB:type_of% (@tupA.eq_2 List.nil nfn):=(@tupA.eq_2 List.nil nfn)
theorem aQ8:type_of% (fun v0 v1 v2=> @tupA.eq_2 (List.cons v0 (List.cons v1 v2)) nfn):=by intros;rfl
theorem aSA:type_of% (fun v0 v1 v2 v3 v4=> @LX.eq_2 v0 v1 (Go.Operand.tmp v4) v2 v3 nfn):=by intros;rfl
theorem aQ4:type_of% (fun v0 v1 v2 v3=> @bE.eq_3 v0 (A.d (D.int v2 v3)) v1 nfn):=by intros;rfl
theorem aSK:type_of% (fun v0 v1 v2 v3=> @bE.eq_3 v0 (A.d (D.ivs v2 v3)) v1 nfn):=by intros;rfl
theorem aRO:type_of% (fun v0 v1 v2 v3=> @bE.eq_3 v0 (A.d (D.fn v2 v3)) v1 nfn):=by intros;rfl
theorem aSn:type_of% (fun v0 v1 v2 v3 v4 v5=> @bE.eq_3 v0 (A.sl v2 v3 v4 v5) v1 nfn):=by intros;rfl
theorem aRd:type_of% (fun v0 v1 v2=> @bE.eq_3 v0 (A.mp v2) v1 nfn):=by intros;rfl
theorem aSW:type_of% (fun v0 v1 v2 v3=> @mapO.eq_3 v0 (O.arr v1 v2 v3) nfn nfn):=by intros;rfl
theorem aRX:type_of% (fun v0 v1 v2 v3=> @mapO.eq_3 v0 (O.ice v1 v2 v3) nfn nfn):=by intros;rfl
theorem aRr:type_of% (fun v0 v1=> @mapO.eq_3 v0 (O.log v1) nfn nfn):=by intros;rfl
theorem aSI:type_of% (fun v0 v1=> @mapO.eq_3 v0 (O.mp v1) nfn nfn):=by intros;rfl
theorem aR3:type_of% (fun v0 v1=> @frzA.eq_2 v0 (A.d v1) nfn):=by intros;rfl
theorem aSF:type_of% (fun v0 v1 v2 v3 v4=> @frzA.eq_2 v0 (A.sl v1 v2 v3 v4) nfn):=by intros;rfl
theorem aQX:type_of% (fun v0 v1 v2=> @frzA.eq_2 v0 (A.clo v1 v2) nfn):=by intros;rfl
theorem UN0:type_of% (AI @aGc (AI @aLen.eq_def (AI @VU (AI @aB6 (AI @aAt (AI @VQ (AI @XP (AI @aIf (AI @List.range'.eq_1 (AI @List.range'.eq_2 (AI @QT.eq_1 @QO.eq_1))))))))))):=
 ⟨@aGc,@aLen.eq_def,@VU,@aB6,@aAt,@VQ,@XP,@aIf,@List.range'.eq_1,@List.range'.eq_2,@QT.eq_1,@QO.eq_1⟩
theorem UN1:type_of% (AI @aPut.eq_1 (AI @aPut.eq_2 (AI @mM.eq_1 (AI @mM.eq_2 (AI @outA.eq_1 (AI @UNx5 (AI @UNx6 (AI @UNx7 (AI @UNx9 (AI @outS.eq_1 (AI @aVa (AI @aU7 (AI @aUX (AI @aUR (AI @outS.eq_3 (AI @outS.eq_4 (AI @outS.eq_6 (AI @EC.eq_1 (AI @EC.eq_2 (AI @idsA.eq_1 @idsA.eq_2)))))))))))))))))))):=
 ⟨@aPut.eq_1,@aPut.eq_2,@mM.eq_1,@mM.eq_2,@outA.eq_1,@UNx5,@UNx6,@UNx7,@UNx9,@outS.eq_1,@aVa,@aU7,@aUX,@aUR,@outS.eq_3,@outS.eq_4,@outS.eq_6,@EC.eq_1,@EC.eq_2,@idsA.eq_1,@idsA.eq_2⟩
theorem UN2:type_of% (AI @idsA.eq_3 (AI @idsA.eq_4 (AI @idsA.eq_5 (AI @idsA.eq_7 (AI @idsA.eq_8 (AI @idsL.eq_1 (AI @idsL.eq_2 (AI @mapA.eq_1 (AI @mapA.eq_2 (AI @mapA.eq_3 (AI @mapA.eq_4 (AI @mapA.eq_5 (AI @mapA.eq_7 (AI @mapA.eq_8 (AI @aV.eq_1 (AI @aV.eq_2 (AI @bP.eq_1 (AI @bP.eq_2 (AI @bP.eq_3 (AI @bP.eq_4 (AI @bP.eq_5 (AI @bP.eq_7 (AI @bP.eq_8 (AI @iA.eq_1 (AI @K8.eq_1 (AI @bC.eq_1 (AI @cJ.eq_1 (AI @dU.eq_1 (AI @dU.eq_2 (AI @b5.eq_1 (AI @b5.eq_2 (AI @b5.eq_3 (AI @b5.eq_4 (AI @b5.eq_5 (AI @b5.eq_6 @aG.eq_1))))))))))))))))))))))))))))))))))):=
 ⟨@idsA.eq_3,@idsA.eq_4,@idsA.eq_5,@idsA.eq_7,@idsA.eq_8,@idsL.eq_1,@idsL.eq_2,@mapA.eq_1,@mapA.eq_2,@mapA.eq_3,@mapA.eq_4,@mapA.eq_5,@mapA.eq_7,@mapA.eq_8,@aV.eq_1,@aV.eq_2,@bP.eq_1,@bP.eq_2,@bP.eq_3,@bP.eq_4,@bP.eq_5,@bP.eq_7,@bP.eq_8,@iA.eq_1,@K8.eq_1,@bC.eq_1,@cJ.eq_1,@dU.eq_1,@dU.eq_2,@b5.eq_1,@b5.eq_2,@b5.eq_3,@b5.eq_4,@b5.eq_5,@b5.eq_6,@aG.eq_1⟩
theorem UN3:type_of% (AI @aG.eq_2 (AI @sU.eq_1 (AI @sU.eq_2 (AI @sU.eq_3 (AI @gM.eq_1 (AI @gM.eq_2 (AI @aVb (AI @aUQ (AI @aVg (AI @aUS (AI @aU6 (AI @aVd (AI @aUP (AI @aUO (AI @aU0 (AI @aUV (AI @tidy.eq_1 (AI @tidy.eq_2 (AI @aUN (AI @cH.eq_1 (AI @aU9 (AI @aUW (AI @cH.eq_3 @rI.eq_1))))))))))))))))))))))):=
 ⟨@aG.eq_2,@sU.eq_1,@sU.eq_2,@sU.eq_3,@gM.eq_1,@gM.eq_2,@aVb,@aUQ,@aVg,@aUS,@aU6,@aVd,@aUP,@aUO,@aU0,@aUV,@tidy.eq_1,@tidy.eq_2,@aUN,@cH.eq_1,@aU9,@aUW,@cH.eq_3,@rI.eq_1⟩
theorem UN4:type_of% (AI @nD.eq_1 (AI @pZ.eq_1 (AI @H4.eq_1 (AI @aBg.eq_1 (AI @aU1 (AI @JP.eq_1 (AI @rM.eq_1 (AI @keeps.eq_1 (AI @logs.eq_1 (AI @N5.eq_1 @tZ.eq_1)))))))))):=
 ⟨@nD.eq_1,@pZ.eq_1,@H4.eq_1,@aBg.eq_1,@aU1,@JP.eq_1,@rM.eq_1,@keeps.eq_1,@logs.eq_1,@N5.eq_1,@tZ.eq_1⟩
theorem UN5:type_of% (AI @c9.eq_2 (AI @c9.eq_4 (AI @lF.eq_1 (AI @pN.eq_1 (AI @EB.eq_1 (AI @nR.eq_1 (AI @nR.eq_2 (AI @uQ.eq_1 (AI @iO.eq_1 (AI @jC.eq_1 (AI @jC.eq_3 (AI @frzL.eq_1 (AI @eD.eq_1 (AI @eD.eq_2 (AI @frz.eq_2 (AI @frz.eq_3 (AI @frz.eq_4 (AI @aU2 (AI @frz0.eq_1 (AI @frz0.eq_2 (AI @deep.eq_1 (AI @a7.eq_1 (AI @aVf (AI @aVe @aUZ)))))))))))))))))))))))):=
 ⟨@c9.eq_2,@c9.eq_4,@lF.eq_1,@pN.eq_1,@EB.eq_1,@nR.eq_1,@nR.eq_2,@uQ.eq_1,@iO.eq_1,@jC.eq_1,@jC.eq_3,@frzL.eq_1,@eD.eq_1,@eD.eq_2,@frz.eq_2,@frz.eq_3,@frz.eq_4,@aU2,@frz0.eq_1,@frz0.eq_2,@deep.eq_1,@a7.eq_1,@aVf,@aVe,@aUZ⟩
theorem UN6:type_of% (AI @bK.eq_1 (AI @aRp (AI @aSa (AI @aRE (AI @aRa (AI @aSy (AI @aRm (AI @aRK (AI @aSb (AI @aQY (AI @aRk (AI @aRD (AI @eL.eq_1 (AI @eL.eq_2 (AI @aRF (AI @aRv @lO.eq_1)))))))))))))))):=
 ⟨@bK.eq_1,@aRp,@aSa,@aRE,@aRa,@aSy,@aRm,@aRK,@aSb,@aQY,@aRk,@aRD,@eL.eq_1,@eL.eq_2,@aRF,@aRv,@lO.eq_1⟩
theorem UN7:type_of% (AI @lO.eq_2 (AI @JA.eq_1 (AI @JA.eq_2 (AI @qG.eq_1 (AI @qG.eq_2 (AI @tupA.eq_1 (AI @aSB (AI @aQ8 (AI @u7.eq_1 (AI @vD.eq_1 (AI @vD.eq_2 (AI @opds.eq_2 (AI @opds.eq_7 (AI @opds.eq_13 (AI @opds.eq_14 @opds.eq_24))))))))))))))):=
 ⟨@lO.eq_2,@JA.eq_1,@JA.eq_2,@qG.eq_1,@qG.eq_2,@tupA.eq_1,@aSB,@aQ8,@u7.eq_1,@vD.eq_1,@vD.eq_2,@opds.eq_2,@opds.eq_7,@opds.eq_13,@opds.eq_14,@opds.eq_24⟩
theorem UN8:type_of% (AI @evOp.eq_1 (AI @dR.eq_1 (AI @one.eq_1 (AI @two.eq_1 (AI @DZ.eq_1 @aSA))))):=
 ⟨@evOp.eq_1,@dR.eq_1,@one.eq_1,@two.eq_1,@DZ.eq_1,@aSA⟩
theorem UN9:type_of% (AI @aNew.eq_1 (AI @rF.eq_3 (AI @rF.eq_4 (AI @zK.eq_1 @RJ.eq_1)))):=
 ⟨@aNew.eq_1,@rF.eq_3,@rF.eq_4,@zK.eq_1,@RJ.eq_1⟩
theorem UN10:type_of% (AI @back.eq_1 (AI @bJ.eq_1 (AI @bJ.eq_2 (AI @aI.eq_1 (AI @closed.eq_1 (AI @iM.eq_1 @bE.eq_1)))))):=
 ⟨@back.eq_1,@bJ.eq_1,@bJ.eq_2,@aI.eq_1,@closed.eq_1,@iM.eq_1,@bE.eq_1⟩
theorem UN11:type_of% (AI @bE.eq_2 (AI @aQ4 (AI @aSK (AI @aRO (AI @aSn (AI @aRd (AI @aJ.eq_2 (AI @pack.eq_1 (AI @mapO.eq_1 (AI @mapO.eq_2 (AI @aSW (AI @aRX (AI @aRr (AI @aSI (AI @bI.eq_1 (AI @frzA.eq_1 (AI @aR3 (AI @aSF (AI @aQX @d8.eq_1))))))))))))))))))):=
 ⟨@bE.eq_2,@aQ4,@aSK,@aRO,@aSn,@aRd,@aJ.eq_2,@pack.eq_1,@mapO.eq_1,@mapO.eq_2,@aSW,@aRX,@aRr,@aSI,@bI.eq_1,@frzA.eq_1,@aR3,@aSF,@aQX,@d8.eq_1⟩
theorem UN12:type_of% (AI @d8.eq_2 (AI @memD.eq_1 (AI @aA7.eq_1 (AI @NF.eq_1 @eT.eq_3)))):=
 ⟨@d8.eq_2,@memD.eq_1,@aA7.eq_1,@NF.eq_1,@eT.eq_3⟩
theorem UN:type_of% (AI @UN0 (AI @UN1 (AI @UN2 (AI @UN3 (AI @UN4 (AI @UN5 (AI @UN6 (AI @UN7 (AI @UN8 (AI @UN9 (AI @UN10 (AI @UN11 @UN12)))))))))))):=
 ⟨@UN0,@UN1,@UN2,@UN3,@UN4,@UN5,@UN6,@UN7,@UN8,@UN9,@UN10,@UN11,@UN12⟩
theorem aUU:type_of% (@bU.eq_5 Go.Code.skip nfn nfn nfn nfn):=(@bU.eq_5 Go.Code.skip nfn nfn nfn nfn)
theorem aUT:type_of% (fun v0 v1 v2=> @bU.eq_5 (Go.Code.region v0 v1 v2) nfn nfn nfn nfn):=(fun v0 v1 v2=> @bU.eq_5 (Go.Code.region v0 v1 v2) nfn nfn nfn nfn)
theorem aUY:type_of% (fun v0=> @bU.eq_5 (Go.Code.exit v0) nfn nfn nfn nfn):=(fun v0=> @bU.eq_5 (Go.Code.exit v0) nfn nfn nfn nfn)
theorem aRI:type_of% (@bU.eq_5 Go.Code.ret nfn nfn nfn nfn):=(@bU.eq_5 Go.Code.ret nfn nfn nfn nfn)
theorem SLM0:type_of% (AI @Bg.{0} (AI @Ac.{0} (AI @By (AI @Ag (AI @Aj.{0,0} (AI @As.{0,0} (AI @Cs.{0} (AI @Ay.{0} (AI @Dl.{0,0} (AI @Am (AI @Ae.{0} (AI @List.replicate.eq_1.{0} (AI @List.replicate.eq_2.{0} (AI @Ax.{0} (AI @Aq.{0} (AI @Ai.{0} (AI @List.getD_cons_zero.{0} (AI @Ep.{0} (AI @aS.eq_1 (AI @aY.eq_1 (AI @lpOf.eq_1 (AI @aP.eq_1 (AI @slim.eq_1 (AI @slim.eq_2 (AI @slim.eq_3 (AI @slim.eq_4 (AI @slim.eq_5 (AI @slim.eq_6 (AI @slim.eq_7 (AI @slim.eq_8 (AI @bU.eq_1 (AI @bU.eq_2 @bU.eq_3)))))))))))))))))))))))))))))))):=
 ⟨@Bg.{0},@Ac.{0},@By,@Ag,@Aj.{0,0},@As.{0,0},@Cs.{0},@Ay.{0},@Dl.{0,0},@Am,@Ae.{0},@List.replicate.eq_1.{0},@List.replicate.eq_2.{0},@Ax.{0},@Aq.{0},@Ai.{0},@List.getD_cons_zero.{0},@Ep.{0},@aS.eq_1,@aY.eq_1,@lpOf.eq_1,@aP.eq_1,@slim.eq_1,@slim.eq_2,@slim.eq_3,@slim.eq_4,@slim.eq_5,@slim.eq_6,@slim.eq_7,@slim.eq_8,@bU.eq_1,@bU.eq_2,@bU.eq_3⟩
theorem SLM1:type_of% (AI @bU.eq_4 (AI @aUU (AI @aUT (AI @aUY (AI @aRI (AI @IB.eq_1 (AI @M1.eq_1 @M1.eq_2))))))):=
 ⟨@bU.eq_4,@aUU,@aUT,@aUY,@aRI,@IB.eq_1,@M1.eq_1,@M1.eq_2⟩
theorem SLM:type_of% (AI @SLM0 @SLM1):=
 ⟨@SLM0,@SLM1⟩
theorem LN:type_of% (AI @Af.{0} (AI @Ae.{0} (AI @Ac.{0} (AI @Br.{0} (AI @List.length_replicate.{0} (AI @Al.{0,0} (AI @Bi.{0} @Cg.{0}))))))):=
 ⟨@Af.{0},@Ae.{0},@Ac.{0},@Br.{0},@List.length_replicate.{0},@Al.{0,0},@Bi.{0},@Cg.{0}⟩
theorem GT:type_of% (AI @Cs.{0} @Ay.{0}):=
 ⟨@Cs.{0},@Ay.{0}⟩
end Ev
end Go.Proofs.YtppffbehejpglaaGreatDoor
