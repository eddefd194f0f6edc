/-
  How each operation goes, in the form in which the evaluator is walked.
-/
import Derived.Test.YthlkcebdfbjdoaaGreatDoorEvPrim
set_option linter.unusedSimpArgs false
set_option linter.unusedVariables false
set_option linter.unusedSectionVars false
namespace Go.Proofs.YthlkcebdfbjdoaaGreatDoor
namespace Ev
section
variable{R:Type}{E:Env}{call:a6}{thaw:List Nat}{dst:Option Tmp}{s:List A}{h:H}{k:A->H->Option R}
structure Now(p:Prop):Prop where
 it:p
structure Shut(p:Prop):Prop where
 it:p
inductive Box(α:Type) where
 |mk (a:α)
 |no
def box{α:Type}(a:α):Box α:=.mk a
theorem aRS{α:Type}{a:α}:box a=.mk a:=rfl
theorem aSk{t:Nat}{q:A->Option R}:kv s (.tmp t) q=match box (s.getD t (.d .undef))with|.no=>none|.mk a=>q a:=rfl
theorem aRq{K:IntKind}{n:Int}{q:A->Option R}:kv s (.const (.int K n)) q=q (.d (.int K n)):=rfl
theorem aOE{b:Bool}{q:A->Option R}:kv s (.const (.bool b)) q=q (.d (.bool b)):=rfl
theorem aRH{b:ByteArray}{q:A->Option R}:kv s (.const (.string b)) q=match box b.data.toList with|.no=>none|.mk l=>q (.d (.str l)):=rfl
theorem aOt{q:A->Option R}:kv s (.const (.pointer none)) q=q (.d .nilp):=rfl
theorem aOm{q:A->Option R}:kv s (.const (.slice none 0 0)) q=q (.d .nils):=rfl
theorem aOF{f:FuncId}{q:A->Option R}:kv s (.func f) q=q (.clo f []):=rfl
theorem aOy{q:List A->Option R}:kvs s [] q=q []:=rfl
theorem aMq{x:Operand}{xs:List Operand}{q:List A->Option R}:kvs s (x::xs) q=kv s x fun a=>kvs s xs fun asx=>q (a::asx):=by
 unfold kvs kv;simp only[bR]
 cases cA s x with
 |none=>rfl
 |some a=>grind
theorem aCN{yes no:List A->Option R}:xA none s yes no=yes s:=rfl
theorem aBN{t:Nat}{w:Bool}{yes no:List A->Option R}:xA (some (some t,w)) s yes no=match s.getD t .junk with
  |.d (.bool b)=>if b=w then(match box (s.set t (.d (.bool w)))with|.no=>none|.mk s=>yes s)else(match box (s.set t (.d (.bool (!w))))with|.no=>none|.mk s=>no s)
  |.d .undef=>no s
  |_=>none:=by
 simp only[xA,Aa]
 cases s[t]? with
 |none=>rfl
 |some a=>
  cases a with
  |d x=>cases x<;>rfl
  |_=>rfl
theorem aLw{x:Operand}:kOp E call thaw dst (.move x) s h k=kv s x fun a=>k a h:=by
 unfold kOp kvs kv;simp only[opds,bR]
 cases cA s x<;>rfl
def kAsg(thaw:List Nat)(dst:Option Tmp)(h:H)(k:A->H->Option R)(a:A):Option R:=
 match a with
 |.d .nils=>match RX thaw dst with
  |0=>k (.d .nils) h
  |e+1=>if e<1000 then k (.sl h.length 0 0 0) (h++[.arr [] e 0])else k (.sl h.length 0 0 0) (h++[.vec [] (e-1000) 0])
 |a=>k a h
theorem QV{t:Nat}:kOp E call thaw dst (.assign (.tmp t)) s h k=match box (s.getD t (.d .undef))with|.no=>none|.mk a=>k a h:=by
 unfold kOp kvs;rfl
theorem LQ{v:Value}:kOp E call thaw dst (.assign (.const v)) s h k=kv s (.const v) (kAsg thaw dst h k):=by
 unfold kOp kvs kv kAsg;simp only[opds,bR]
 cases cA s (.const v)with
 |none=>rfl
 |some a=>
  simp only[wW,Ak,if_false,evOp,one,LO,dR]
  cases a with
  |d x=>grind
  |_=>rfl
def kRet(r:Option (A×H))(k:A->H->Option R):Option R:=
 match r with
 |some (a,h')=>k a h'
 |none=>none
theorem aOh{op:BinOp}{t:TypeId}{x y:Operand}{t2:TypeId}:kOp E call thaw dst (.binOp op t x y t2) s h k=kv s x fun a=>kv s y fun b=>kRet (bZ E op t h a b) k:=by
 unfold kOp kvs kv kRet;simp only[opds,bR]
 cases cA s x with
 |none=>rfl
 |some a=>cases cA s y<;>rfl
theorem aQ8{op:UnOp}{t:TypeId}{x:Operand}:kOp E call thaw dst (.unOp op t x) s h k=kv s x fun a=>kRet ((aUn op a).map fun r=>(r,h)) k:=by
 unfold kOp kvs kv kRet;simp only[opds,bR]
 cases cA s x<;>rfl
theorem aMN{c x y:Operand}:kOp E call thaw dst (.pick c x y) s h k=kv s c fun b=>kv s x fun a=>kv s y fun a'=>kRet (SH h [b,a,a']) k:=by
 unfold kOp kvs kv kRet;simp only[opds,bR]
 cases cA s c with
 |none=>rfl
 |some b=>cases cA s x with
  |none=>rfl
  |some a=>cases cA s y<;>rfl
theorem YO{x:Operand}:kOp E call thaw dst (.nilCheck x) s h k=kv s x fun a=>kRet (uV h a) k:=by
 unfold kOp kvs kv kRet;simp only[opds,bR]
 cases cA s x<;>rfl
theorem aLB{t u:TypeId}{x:Operand}:kOp E call thaw dst (.convert t u x) s h k=kv s x fun a=>kRet (eK E.P h t u a) k:=by
 unfold kOp kvs kv kRet;simp only[opds,bR]
 cases cA s x<;>rfl
theorem aM1{t:TypeId}{x:Operand}:kOp E call thaw dst (.load t x) s h k=kv s x fun a=>kRet ((D1 E.P h t a).map fun v=>(v,h)) k:=by
 unfold kOp kvs kv kRet;simp only[opds,bR]
 cases cA s x<;>rfl
theorem aIy{t:TypeId}{x y:Operand}:kOp E call thaw dst (.store t x y) s h k=kv s x fun a=>kv s y fun b=>kRet ((gZ E.P h t a b).map fun h'=>(.d .undef,h')) k:=by
 unfold kOp kvs kv kRet;simp only[opds,bR]
 cases cA s x with
 |none=>rfl
 |some a=>cases cA s y<;>rfl
theorem aI7{t:TypeId}:kOp E call thaw dst (.alloc t) s h k=match box (cZ E.P t)with
  |.no=>none
  |.mk none=>none
  |.mk (some z)=>kRet (aNew h z) k:=by
 unfold kOp kvs kRet;simp only[opds,bR,wW,Ak,if_false,evOp,dR,box]
 cases cZ E.P t<;>rfl
theorem aOu{t:TypeId}{x:Operand}:kOp E call thaw dst (.box t x) s h k=kv s x fun a=>kRet (aNew h a) k:=by
 unfold kOp kvs kv kRet;simp only[opds,bR]
 cases cA s x<;>rfl
theorem aJD{t:TypeId}{ps:List (Nat×Operand)}:kOp E call thaw dst (.build t ps.toArray) s h k=match box (ps.map (·.2))with
  |.no=>none
  |.mk xs=>kvs s xs fun vs=>kRet ((uD E.P t ((ps.map (·.1)).zip vs)).map fun a=>(a,h)) k:=by
 rfl
theorem Q8{t:TypeId}{n:Nat}{ps:List (Nat×Operand)}:kOp E call thaw dst (.buildSlice t n ps.toArray) s h k=match box (ps.map (·.2))with
  |.no=>none
  |.mk xs=>kvs s xs fun vs=>kRet (if logs thaw dst=true then OZ (lD E.P h t n ((ps.map (·.1)).zip vs))else if keeps thaw dst=true then tA E.P h t n ((ps.map (·.1)).zip vs)else lD E.P h t n ((ps.map (·.1)).zip vs)) k:=by
 rfl
theorem Y9{fn:Fn}{cap:List Operand}:kOp E call thaw dst (.makeFunc fn #[] cap.toArray) s h k=kvs s cap fun vs=>kRet (R5 h fn true vs) k:=by
 rfl
theorem VA{t:TypeId}{x y:Operand}:kOp E call thaw dst (.makeSlice t x y) s h k=kv s x fun a=>kv s y fun b=>kRet (iM a fun l=>iM b fun c=>if keeps thaw dst=true then JE E.P h t l c else iI E.P h t l c) k:=by
 unfold kOp kvs kv kRet;simp only[opds,bR]
 cases cA s x with
 |none=>rfl
 |some a=>cases cA s y<;>rfl
theorem aCS{t:TypeId}{x hi:Operand}:kOp E call thaw dst (.slice t x none (some hi) none) s h k=kvs s [x,hi] fun vs=>kRet (rK E.P h t false true vs) k:=rfl
theorem aBU{t:TypeId}{x lo hi:Operand}:kOp E call thaw dst (.slice t x (some lo) (some hi) none) s h k=kvs s [x,lo,hi] fun vs=>kRet (rK E.P h t true true vs) k:=rfl
theorem WM{t:TypeId}{x:Operand}{f:Nat}:kOp E call thaw dst (.fieldAddr t x f) s h k=kv s x fun a=>kRet ((cQ E.P t f).bind fun r=>(uZ r.1 a).map fun r=>(r,h)) k:=by
 unfold kOp kvs kv kRet;simp only[opds,bR]
 cases cA s x<;>rfl
theorem WS{t:TypeId}{x y:Operand}:kOp E call thaw dst (.indexAddr t x y) s h k=kv s x fun a=>kv s y fun b=>kRet (iM b fun i=>(qL E.P h t a i).map fun r=>(r,h)) k:=by
 unfold kOp kvs kv kRet;simp only[opds,bR]
 cases cA s x with
 |none=>rfl
 |some a=>cases cA s y<;>rfl
theorem aH5{t:TypeId}{x y:Operand}:kOp E call thaw dst (.index t x y) s h k=kv s x fun a=>kv s y fun b=>kRet (iM b fun i=>(RN E.P t a i).map fun r=>(r,h)) k:=by
 unfold kOp kvs kv kRet;simp only[opds,bR]
 cases cA s x with
 |none=>rfl
 |some a=>cases cA s y<;>rfl
theorem aCh{t:TypeId}:kOp E call thaw dst (.makeMap t none) s h k=k (.mp h.length) (h++[.mp []]):=rfl
theorem aF4{t:TypeId}{x y:Operand}{ok:Bool}:kOp E call thaw dst (.lookup t x y ok) s h k=kv s x fun a=>kv s y fun b=>kRet (n5 E.P h t ok a b) k:=by
 unfold kOp kvs kv kRet;simp only[opds,bR]
 cases cA s x with
 |none=>rfl
 |some a=>cases cA s y<;>rfl
theorem WH{t:TypeId}{x y z:Operand}:kOp E call thaw dst (.mapUpdate t x y z) s h k=kv s x fun a=>kv s y fun b=>kv s z fun c=>kRet (d5 E.P h t a b c) k:=by
 unfold kOp kvs kv kRet;simp only[opds,bR]
 cases cA s x with
 |none=>rfl
 |some a=>cases cA s y with
  |none=>rfl
  |some b=>cases cA s z<;>rfl
theorem aNQ{t:TypeId}{x y z:Operand}:kOp E call thaw dst (.insert t x y z) s h k=kv s x fun a=>kv s y fun b=>kv s z fun c=>kRet (d5 E.P h t a b c) k:=by
 unfold kOp kvs kv kRet;simp only[opds,bR]
 cases cA s x with
 |none=>rfl
 |some a=>cases cA s y with
  |none=>rfl
  |some b=>cases cA s z<;>rfl
theorem aB3{x:Operand}{i:Nat}:kOp E call thaw dst (.extract x i) s h k=kv s x fun a=>kRet (yV h i a) k:=by
 unfold kOp kvs kv kRet;simp only[opds,bR]
 cases cA s x<;>rfl
theorem aBS{b:Builtin}{args:List Operand}{tys:List TypeId}:kOp E call thaw dst (.call ⟨.builtin b,args.toArray,tys.toArray⟩) s h k=kvs s args fun vs=>kRet (cF E.P h b tys vs) k:=by
 rfl
theorem dL{op:Op}{q:A->H->Foot->Option R}(hp:Now (qV op=true/\wW op=false)):kOpD E call thaw dst op s h q=kOp E call thaw dst op s h fun a _=>q a h {}:=by
 obtain⟨hp,hc⟩:=hp.it;unfold kOpD kOp kvs;rw[hp,hc]
 cases bR s (opds op)with
 |none=>rfl
 |some vs=>grind
def memD(E:Env)(call:a6)(thaw:List Nat)(dst:Option Tmp)(op:Op)(h:H)(vs:List A):Option (A×H×Foot):=match box (aF aI h (idsL vs) [])with
 |.no=>none
 |.mk ord=>match box (evOp E call thaw (pack h ord) (dR dst op) (aG (aJ ord) vs))with
  |.mk (some (a,h1))=>if ord.length<=h1.length/\closed h ord (idsL vs)=true then
    (if(jU E op vs&&h1.length-ord.length==0)=true then some (mapA (back ord h.length h1.length) a,h,{ ids:=ord,ro:=true})
    else some (mapA (back ord h.length h1.length) a,bJ (back ord h.length h1.length) h ord h1,{ ids:=ord++List.range' h.length (h1.length-ord.length),ro:=false,wr:=wrOf E op vs ord++List.range' h.length (h1.length-ord.length)}))
   else none
  |_=>none
theorem kD{op:Op}{q:A->H->Foot->Option R}(hp:Now (qV op=false/\rJ op=false)):kOpD E call thaw dst op s h q=match box (opds op)with|.no=>none|.mk xs=>kvs s xs fun vs=>match box (memD E call thaw dst op h vs)with
  |.mk (some (a,h',c))=>q a h' c
  |_=>none:=by
 simp only[box];unfold kOpD kvs;rw[hp.it.1,hp.it.2]
 cases bR s (opds op)with
 |none=>rfl
 |some vs=>
  simp only[Ak,if_false,iW,memD,box]
  cases evOp E call thaw (pack h (aF aI h (idsL vs) [])) (dR dst op) (aG (aJ (aF aI h (idsL vs) [])) vs)with
  |none=>rfl
  |some r=>grind
theorem aAH{op:Op}{q:A->H->Foot->Option R}(hp:Now (qV op=false/\rJ op=true/\wW op=false)):kOpD E call thaw dst op s h q=kvs s (opds op) fun vs=>kOp E call thaw dst op s h fun a _=>q a h { ids:=ids0 vs,ro:=true}:=by
 unfold kOpD kOp kvs;rw[hp.it.1,hp.it.2.1,hp.it.2.2]
 cases bR s (opds op)with
 |none=>rfl
 |some vs=>grind
theorem aCX{x:Operand}{xs:List Operand}{op:Op}{q:A->H->Foot->Option R}(hx:opds op=x::xs):(kvs s (opds op) fun vs=>kOp E call thaw dst op s h fun a _=>q a h { ids:=ids0 vs,ro:=true})=kv s x fun b=>kOp E call thaw dst op s h fun a _=>q a h { ids:=idsA b,ro:=true}:=by
 unfold kOp kv;rw[hx];unfold kvs;simp only[bR]
 cases cA s x with
 |none=>rfl
 |some b=>
  cases bR s xs with
  |none=>rfl
  |some bs=>rfl
theorem aI2{t:TypeId}{x:Operand}{q:A->H->Foot->Option R}:kOpD E call thaw dst (.load t x) s h q=kv s x fun b=>kOp E call thaw dst (.load t x) s h fun a _=>q a h { ids:=idsA b,ro:=true}:=(aAH ⟨rfl,rfl,rfl⟩).trans (aCX rfl)
theorem aF5{t:TypeId}{x y:Operand}{q:A->H->Foot->Option R}:type_of% (kD (E:=E) (call:=call) (thaw:=thaw) (dst:=dst) (s:=s) (h:=h) (op:=.store t x y) (q:=q) ⟨rfl,rfl⟩):=kD ⟨rfl,rfl⟩
theorem aCe{x:Operand}{q:A->H->Foot->Option R}:type_of% (kD (E:=E) (call:=call) (thaw:=thaw) (dst:=dst) (s:=s) (h:=h) (op:=.assign x) (q:=q) ⟨rfl,rfl⟩):=kD ⟨rfl,rfl⟩
theorem aF7{t:TypeId}{q:A->H->Foot->Option R}:type_of% (kD (E:=E) (call:=call) (thaw:=thaw) (dst:=dst) (s:=s) (h:=h) (op:=.alloc t) (q:=q) ⟨rfl,rfl⟩):=kD ⟨rfl,rfl⟩
theorem M4{t:TypeId}{n:Nat}{ps:List (Nat×Operand)}{q:A->H->Foot->Option R}:type_of% (kD (E:=E) (call:=call) (thaw:=thaw) (dst:=dst) (s:=s) (h:=h) (op:=.buildSlice t n ps.toArray) (q:=q) ⟨rfl,rfl⟩):=kD ⟨rfl,rfl⟩
theorem aH6{t u:TypeId}{x:Operand}{q:A->H->Foot->Option R}:type_of% (kD (E:=E) (call:=call) (thaw:=thaw) (dst:=dst) (s:=s) (h:=h) (op:=.convert t u x) (q:=q) ⟨rfl,rfl⟩):=kD ⟨rfl,rfl⟩
theorem QT{t:TypeId}{x y:Operand}{q:A->H->Foot->Option R}:kOpD E call thaw dst (.indexAddr t x y) s h q=kv s x fun b=>kOp E call thaw dst (.indexAddr t x y) s h fun a _=>q a h { ids:=idsA b,ro:=true}:=(aAH ⟨rfl,rfl,rfl⟩).trans (aCX rfl)
theorem aCF{args tys:Array _}{q:A->H->Foot->Option R}:type_of% (kD (E:=E) (call:=call) (thaw:=thaw) (dst:=dst) (s:=s) (h:=h) (op:=.call ⟨.builtin .append,args,tys⟩) (q:=q) ⟨rfl,rfl⟩):=kD ⟨rfl,rfl⟩
theorem aLk{x:Operand}{xs:List Operand}{tys:Array _}{q:A->H->Foot->Option R}:kOpD E call thaw dst (.call ⟨.builtin .len,(x::xs).toArray,tys⟩) s h q=kv s x fun b=>kOp E call thaw dst (.call ⟨.builtin .len,(x::xs).toArray,tys⟩) s h fun a _=>q a h { ids:=idsA b,ro:=true}:=(aAH ⟨rfl,rfl,rfl⟩).trans (aCX rfl)
theorem aJn{x:Operand}{q:A->H->Foot->Option R}:type_of% (dL (E:=E) (call:=call) (thaw:=thaw) (dst:=dst) (s:=s) (h:=h) (op:=.move x) (q:=q) ⟨rfl,rfl⟩):=dL ⟨rfl,rfl⟩
theorem aH8{c x y:Operand}{q:A->H->Foot->Option R}:type_of% (dL (E:=E) (call:=call) (thaw:=thaw) (dst:=dst) (s:=s) (h:=h) (op:=.pick c x y) (q:=q) ⟨rfl,rfl⟩):=dL ⟨rfl,rfl⟩
theorem WG{x:Operand}{q:A->H->Foot->Option R}:type_of% (dL (E:=E) (call:=call) (thaw:=thaw) (dst:=dst) (s:=s) (h:=h) (op:=.nilCheck x) (q:=q) ⟨rfl,rfl⟩):=dL ⟨rfl,rfl⟩
theorem aLi{op:BinOp}{t:TypeId}{x y:Operand}{t2:TypeId}{q:A->H->Foot->Option R}:type_of% (dL (E:=E) (call:=call) (thaw:=thaw) (dst:=dst) (s:=s) (h:=h) (op:=.binOp op t x y t2) (q:=q) ⟨rfl,rfl⟩):=dL ⟨rfl,rfl⟩
theorem aOb{op:UnOp}{t:TypeId}{x:Operand}{q:A->H->Foot->Option R}:type_of% (dL (E:=E) (call:=call) (thaw:=thaw) (dst:=dst) (s:=s) (h:=h) (op:=.unOp op t x) (q:=q) ⟨rfl,rfl⟩):=dL ⟨rfl,rfl⟩
theorem VK{fn:Fn}{first cap:Array Operand}{q:A->H->Foot->Option R}:type_of% (dL (E:=E) (call:=call) (thaw:=thaw) (dst:=dst) (s:=s) (h:=h) (op:=.makeFunc fn first cap) (q:=q) ⟨rfl,rfl⟩):=dL ⟨rfl,rfl⟩
theorem QX{t:TypeId}{x:Operand}{f:Nat}{q:A->H->Foot->Option R}:type_of% (dL (E:=E) (call:=call) (thaw:=thaw) (dst:=dst) (s:=s) (h:=h) (op:=.fieldAddr t x f) (q:=q) ⟨rfl,rfl⟩):=dL ⟨rfl,rfl⟩
theorem XR{x:Operand}{i:Nat}{q:A->H->Foot->Option R}:type_of% (dL (E:=E) (call:=call) (thaw:=thaw) (dst:=dst) (s:=s) (h:=h) (op:=.extract x i) (q:=q) ⟨rfl,rfl⟩):=dL ⟨rfl,rfl⟩
theorem aGd{t:TypeId}{ps:Array (Nat×Operand)}{q:A->H->Foot->Option R}:type_of% (dL (E:=E) (call:=call) (thaw:=thaw) (dst:=dst) (s:=s) (h:=h) (op:=.build t ps) (q:=q) ⟨rfl,rfl⟩):=dL ⟨rfl,rfl⟩
def aLd(a b:Foot):Bool:=(!a.ro&&(!b.ids.isEmpty&&a.wr.any b.ids.contains))||(!b.ro&&(!a.ids.isEmpty&&b.wr.any a.ids.contains))
theorem aTr{l:List Nat}:l.any (([]:List Nat)).contains=false:=by grind
theorem aIR(a b:Foot):aLd a b=kO a b:=by
 obtain⟨ia,ra,wa⟩:=a;obtain⟨ib,rb,wb⟩:=b;unfold aLd kO
 cases ia<;>cases ib<;>simp
def eE(ops:List Oper)(cs:List Foot):Bool:=
 let b:=N8 ops []
 (List.range cs.length).all fun j=>(List.range j).all fun i=>(b.getD j 0).testBit i|| !aLd (cs.getD i {}) (cs.getD j {})
theorem aR3{src:List Oper}{cs:List Foot}(h:pH src cs=true):eE src cs=true:=by
 unfold eE;simp only[aIR];exact h
theorem aE6{src:List Oper}{cs:List Foot}{x:Option R}(hc:Shut (eE src cs=true)):(if pH src cs=true then x else none)=x:=if_pos (by
 have:=hc.it;unfold eE at this;simp only[aIR]at this;exact this)
theorem aMy{q:List A->H->Option R}:kOps E call thaw [] s h q=q s h:=rfl
theorem aIe{op:Op}{g:Option (Option Tmp×Bool)}{os:List SO}{q:List A->H->Option R}:kOps E call thaw (⟨dst,op,g⟩::os) s h q=xA g s
  (fun s=>kOp E call thaw dst op s h fun a h'=>match box (aPut s dst a)with|.no=>none|.mk s'=>kOps E call thaw os s' h' q)
  (fun s=>match box (aPut s dst (.d .undef))with|.no=>none|.mk s'=>kOps E call thaw os s' h q):=rfl
theorem aJw{cs:List Foot}{q:List A->H->List Foot->Option R}:xP E call thaw [] s h cs q=q s h cs:=rfl
theorem aEq{op:Op}{g:Option (Option Tmp×Bool)}{os:List SO}{cs:List Foot}{q:List A->H->List Foot->Option R}:xP E call thaw (⟨dst,op,g⟩::os) s h cs q=xA g s
  (fun s=>kOpD E call thaw dst op s h fun a h' c=>match box (aPut s dst a)with|.no=>none|.mk s'=>xP E call thaw os s' h' (cs++[c]) q)
  (fun s=>match box (aPut s dst (.d .undef))with|.no=>none|.mk s'=>xP E call thaw os s' h (cs++[{}]) q):=rfl
section
variable{L nf:Nat}{live:List Bool}{lp:Nat->Code}{q:Exit->List A->H->Option R}
theorem aGS:cU E call L nf thaw live lp .skip s h q=q .normal s h:=rfl
theorem aIi{l:List SO}:cU E call L nf thaw live lp (.ops l) s h q=kOps E call thaw l s h fun s h=>q .normal s h:=rfl
theorem aCw{l:List SO}{src:Array Oper}:cU E call L nf thaw live lp (.drawn l src) s h q=xP E call thaw l s h [] fun s h cs=>if pH src.toList cs=true then q .normal s h else none:=rfl
theorem aIS{a b:SC}:cU E call L nf thaw live lp (.seq a b) s h q=cU E call L nf thaw live lp a s h fun e s h=>match e with
  |.normal=>cU E call L nf thaw live lp b s h q
  |e=>q e s h:=rfl
theorem aFK{c:Operand}{x y:SC}:cU E call L nf thaw live lp (.cond c x y) s h q=kv s c fun a=>match a with
  |.d (.bool b)=>if b=true then cU E call L nf thaw live lp x s h q else cU E call L nf thaw live lp y s h q
  |_=>none:=rfl
theorem aCj{id:Nat}{c:SC}:cU E call L nf thaw live lp (.block id c) s h q=cU E call L nf thaw live lp c s h fun e s h=>match e with
  |.exit i=>if i=id then q .normal s h else q (.exit i) s h
  |e=>q e s h:=rfl
theorem aGr{i:Nat}:cU E call L nf thaw live lp (.loop i) s h q=match box (rY live s)with
  |.no=>none
  |.mk m=>match box (gc nf m s h)with
   |.mk (s',h')=>aT E call L nf thaw live (lp i) m L s' h' q
   |.no=>none:=rfl
theorem aEG{id:Nat}:cU E call L nf thaw live lp (.exit id) s h q=q (.exit id) s h:=rfl
theorem aIo:cU E call L nf thaw live lp .ret s h q=q .ret s h:=rfl
theorem YB{c:Code}{m:List Bool}{n:Nat}:aA8 E call L nf thaw live c m n q .normal s h=match box (gc nf m s h)with
  |.mk (s',h')=>aT E call L nf thaw live c m n s' h' q
  |.no=>none:=rfl
theorem aEL{c:Code}{m:List Bool}{n i:Nat}:aA8 E call L nf thaw live c m n q (.exit i) s h=match box (gc nf m s h)with
  |.mk (s',h')=>q (.exit i) s' h'
  |.no=>none:=rfl
theorem aJc{c:Code}{m:List Bool}{n:Nat}:aA8 E call L nf thaw live c m n q .ret s h=match box (gc nf m s h)with
  |.mk (s',h')=>q .ret s' h'
  |.no=>none:=rfl
end
def aX(E:Env)(call:a6)(h:H)(f:FuncId)(args:List A)(k:A->H->Option R):Option R:=
 match bW call E.hint (pack h (aF aI h (idsL args) [])) f (aG (aJ (aF aI h (idsL args) [])) args)with
 |some (a,h1)=>
  if(aF aI h (idsL args) []).length<=h1.length/\closed h (aF aI h (idsL args) []) (idsL args)=true then
   k (mapA (back (aF aI h (idsL args) []) h.length h1.length) a) (bJ (back (aF aI h (idsL args) []) h.length h1.length) h (aF aI h (idsL args) []) h1)
  else none
 |none=>none
theorem aTH{f:FuncId}{args:List Operand}{tys:Array TypeId}:kOp E call thaw dst (.call ⟨.value (.func f),args.toArray,tys⟩) s h k=kvs s args fun vs=>aX E call h f vs k:=by
 unfold kOp kvs aX;simp only[opds,bR,cA]
 cases bR s args with
 |none=>rfl
 |some vs=>
  simp only[wW,if_true,iW,idsL,idsA,Aq,aG,mapA,evOp,eM,eW,dR,Aj]
  cases bW call E.hint (pack h (aF aI h (idsL vs) [])) f (aG (aJ (aF aI h (idsL vs) [])) vs)with
  |none=>rfl
  |some r=>grind
theorem aH7{f:FuncId}{args:List Operand}{tys:Array TypeId}:kOp E call thaw dst (.call ⟨.value (.func f),args.toArray,tys⟩) s h k=kvs s args fun vs=>aX E call h f vs fun a h'=>match box h' with|.no=>none|.mk h''=>k a h'':=by
 rw[aTH];rfl
def JV(E:Env)(call:a6)(h:H)(f:FuncId)(caps args:List A)(k:A->H->Option R):Option R:=
 match bW call E.hint (pack h (aF aI h (idsL caps++idsL args) [])) f (aG (aJ (aF aI h (idsL caps++idsL args) [])) args++aG (aJ (aF aI h (idsL caps++idsL args) [])) caps)with
 |some (a,h1)=>
  if(aF aI h (idsL caps++idsL args) []).length<=h1.length/\closed h (aF aI h (idsL caps++idsL args) []) (idsL caps++idsL args)=true then
   k (mapA (back (aF aI h (idsL caps++idsL args) []) h.length h1.length) a) (bJ (back (aF aI h (idsL caps++idsL args) []) h.length h1.length) h (aF aI h (idsL caps++idsL args) []) h1)
  else none
 |none=>none
def nY(E:Env)(call:a6)(h:H)(g:A)(args:List A)(k:A->H->Option R):Option R:=
 match g with
 |.d (.fn f caps)=>aX E call h f (args++caps.map .d) k
 |.clo f caps=>JV E call h f caps args k
 |_=>none
theorem bN:∀(asx bs:List A),idsL (asx++bs)=idsL asx++idsL bs
 | [],bs=>by simp[idsL]
 |a::asx,bs=>by simp[idsL,bN asx bs]
theorem aMe:∀(ds:List D),idsL (ds.map .d)=[]
 | []=>by simp[idsL]
 |d::ds=>by simp[idsL,idsA,aMe ds]
theorem cT{f:Nat->Option Nat}:∀(asx bs:List A),aG f (asx++bs)=aG f asx++aG f bs
 | [],bs=>by simp[aG]
 |a::asx,bs=>by simp[aG,cT asx bs]
theorem aG4{f:Nat->Option Nat}:∀(ds:List D),aG f (ds.map .d)=ds.map .d
 | []=>by simp[aG]
 |d::ds=>by simp[aG,mapA,aG4 ds]
theorem aRW{g:A}{vs:List A}{tys:Array TypeId}{x:Operand}{args:Array Operand}:(match iW E call thaw h (dR dst (.call ⟨.value x,args,tys⟩)) (g::vs)with
   |some (a,h',_)=>k a h'
   |none=>none)=nY E call h g vs k:=by
 unfold iW;simp only[evOp,eM,dR,aG]
 cases g with
 |d y=>
  cases y with
  |fn f caps=>
   simp only[nY,aX,mapA,eW,idsL,idsA,Aq,bN,aMe,Aj,cT,aG4]
   cases bW call E.hint (pack h (aF aI h (idsL vs) [])) f (aG (aJ (aF aI h (idsL vs) [])) vs++caps.map .d)with
   |none=>rfl
   |some r=>grind
  |_=>simp only[nY,mapA,eW]
 |clo f caps=>
  simp only[nY,JV,mapA,eW,idsL,idsA]
  cases bW call E.hint (pack h (aF aI h (idsL caps++idsL vs) [])) f (aG (aJ (aF aI h (idsL caps++idsL vs) [])) vs++aG (aJ (aF aI h (idsL caps++idsL vs) [])) caps)with
  |none=>rfl
  |some r=>grind
 |sl id gen off len=>
  simp only[nY,mapA]
  cases aJ (aF aI h (idsL (A.sl id gen off len::vs)) []) id<;>rfl
 |ptr id gen off=>
  simp only[nY,mapA]
  cases aJ (aF aI h (idsL (A.ptr id gen off::vs)) []) id<;>rfl
 |mp id=>
  simp only[nY,mapA]
  cases aJ (aF aI h (idsL (A.mp id::vs)) []) id<;>rfl
 |agg cs=>simp only[nY,mapA,eW]
 |tup cs=>simp only[nY,mapA,eW]
 |junk=>simp only[nY,mapA,eW]
theorem aJH{t:Nat}{args:List Operand}{tys:Array TypeId}:kOp E call thaw dst (.call ⟨.value (.tmp t),args.toArray,tys⟩) s h k=match box (s.getD t (.d .undef))with
  |.no=>none
  |.mk g=>kvs s args fun vs=>nY E call h g vs k:=by
 unfold kOp kvs;simp only[opds,bR,cA,box]
 cases bR s args with
 |none=>rfl
 |some vs=>simp only[wW,if_true];exact aRW
theorem aIT{f:FuncId}{caps:List D}{vs:List A}:nY E call h (.d (.fn f caps)) vs k=match box (vs++caps.map .d)with|.no=>none|.mk as'=>aX E call h f as' k:=rfl
theorem aE2{f:FuncId}{caps vs:List A}:nY E call h (.clo f caps) vs k=JV E call h f caps vs k:=rfl
theorem aDo{h:H}{ids:List Nat}{h1:H}{ord:List Nat}:∀(ord:List Nat) (h h1:H) (f:Nat->Option Nat),ord.length<=h1.length->(bJ f h ord h1).length=h.length+(h1.length-ord.length)
 | [],h,h1,f,_=>by simp[bJ]
 |i::ord,h,[],f,hl=>by simp at hl
 |i::ord,h,o::h1,f,hl=>by
  simp only[bJ,aDo (h:=h) (ids:=ids) (h1:=h1) (ord:=ord) ord _ h1 f (by simpa using hl),Br,Ae];omega
def wrC(E:Env)(f:FuncId)(ord:List Nat):List Nat:=if(E.hint f).mode==3 then []else ord
def MW(E:Env)(f:FuncId)(h h':H)(ord:List Nat):Option (H×Foot):=if((E.hint f).mode==1&&h'.length-h.length==0)=true then some (h,{ ids:=ord,ro:=true})else some (h',{ ids:=ord++List.range' h.length (h'.length-h.length),ro:=false,wr:=wrC E f ord++List.range' h.length (h'.length-h.length)})
theorem aQh{f:FuncId}{args:List Operand}{tys:Array TypeId}{q:A->H->Foot->Option R}:kOpD E call thaw dst (.call ⟨.value (.func f),args.toArray,tys⟩) s h q=kvs s args fun vs=>match box (aF aI h (idsL vs) [])with
  |.no=>none
  |.mk ord=>aX E call h f vs fun a h'=>if((E.hint f).mode==1&&h'.length-h.length==0)=true then q a h { ids:=ord,ro:=true}else q a h' { ids:=ord++List.range' h.length (h'.length-h.length),ro:=false,wr:=wrC E f ord++List.range' h.length (h'.length-h.length)}:=by
 unfold kOpD kvs aX;simp only[opds,bR,cA,box]
 cases bR s args with
 |none=>rfl
 |some vs=>
  simp only[qV,rJ,Ak,if_false,iW,idsL,idsA,Aq,aG,mapA,evOp,eM,eW,dR,Aj,jU]
  cases bW call E.hint (pack h (aF aI h (idsL vs) [])) f (aG (aJ (aF aI h (idsL vs) [])) vs)with
  |none=>rfl
  |some r=>
   obtain⟨a,h1⟩:=r
   by_cases c1:(aF aI h (idsL vs) []).length<=h1.length
   ·by_cases c2:closed h (aF aI h (idsL vs) []) (idsL vs)=true
    ·have e:=aDo (h:=h) (ids:=idsL vs) (h1:=h1) (ord:=[]) (aF aI h (idsL vs) []) h h1 (back (aF aI h (idsL vs) []) h.length h1.length) c1;have e2:(bJ (back (aF aI h (idsL vs) []) h.length h1.length) h (aF aI h (idsL vs) []) h1).length-h.length=h1.length-(aF aI h (idsL vs) []).length:=om;simp only[c1,c2,and_self,if_true,e2]
     first|done|rfl|(by_cases c3:((E.hint f).mode==1&&h1.length-(aF aI h (idsL vs) []).length==0)=true<;>simp[c3])
    ·grind
   ·grind
theorem aAq{f:FuncId}{args:List Operand}{tys:Array TypeId}{q:A->H->Foot->Option R}:kOpD E call thaw dst (.call ⟨.value (.func f),args.toArray,tys⟩) s h q=kvs s args fun vs=>match box (aF aI h (idsL vs) [])with
  |.no=>none
  |.mk ord=>aX E call h f vs fun a h'=>match box (MW E f h h' ord)with|.mk (some (h'',c))=>q a h'' c|_=>none:=by
 rw[aQh]
 congr 1
 funext vs
 simp only[box]
 congr 1
 funext a h'
 unfold MW
 by_cases hc:((E.hint f).mode==1&&h'.length-h.length==0)=true
 ·grind
 ·grind
theorem aNf{t:Nat}{args:List Operand}{tys:Array TypeId}{q:A->H->Foot->Option R}{f:FuncId}{caps:List D}(hg:Now (s.getD t (.d .undef)=.d (.fn f caps))):kOpD E call thaw dst (.call ⟨.value (.tmp t),args.toArray,tys⟩) s h q=kvs s args fun vs=>match box (aF aI h (idsL vs) [])with
  |.no=>none
  |.mk ord=>aX E call h f (vs++caps.map .d) fun a h'=>if((E.hint f).mode==1&&h'.length-h.length==0)=true then q a h { ids:=ord,ro:=true}else q a h' { ids:=ord++List.range' h.length (h'.length-h.length),ro:=false,wr:=wrC E f ord++List.range' h.length (h'.length-h.length)}:=by
 have hg:=hg.it;unfold kOpD kvs aX;simp only[opds,bR,cA,box,hg]
 cases bR s args with
 |none=>rfl
 |some vs=>
  simp only[qV,rJ,Ak,if_false,iW,idsL,idsA,Aq,aG,mapA,evOp,eM,eW,dR,Aj,jU,bN,aMe,cT,aG4]
  cases bW call E.hint (pack h (aF aI h (idsL vs) [])) f (aG (aJ (aF aI h (idsL vs) [])) vs++caps.map .d)with
  |none=>rfl
  |some r=>
   obtain⟨a,h1⟩:=r
   by_cases c1:(aF aI h (idsL vs) []).length<=h1.length
   ·by_cases c2:closed h (aF aI h (idsL vs) []) (idsL vs)=true
    ·have e:=aDo (h:=h) (ids:=idsL vs) (h1:=h1) (ord:=[]) (aF aI h (idsL vs) []) h h1 (back (aF aI h (idsL vs) []) h.length h1.length) c1;have e2:(bJ (back (aF aI h (idsL vs) []) h.length h1.length) h (aF aI h (idsL vs) []) h1).length-h.length=h1.length-(aF aI h (idsL vs) []).length:=om;simp only[c1,c2,and_self,if_true,e2]
     first|done|rfl|(by_cases c3:((E.hint f).mode==1&&h1.length-(aF aI h (idsL vs) []).length==0)=true<;>simp[c3])
    ·grind
   ·grind
def aWL(E:Env)(call:a6)(thaw:List Nat)(dst:Option Tmp)(op:Op)(s:List A)(h:H)(q:A->H->Foot->Option R):Option R:=kOpD E call thaw dst op s h q
theorem aE0{t:Nat}{args:List Operand}{tys:Array TypeId}{q:A->H->Foot->Option R}:kOpD E call thaw dst (.call ⟨.value (.tmp t),args.toArray,tys⟩) s h q=match box (s.getD t (.d .undef))with
  |.mk (.d (.fn f caps))=>kvs s args fun vs=>match box (aF aI h (idsL vs) [])with
   |.no=>none
   |.mk ord=>match box (vs++caps.map .d)with|.no=>none|.mk as'=>aX E call h f as' fun a h'=>match box (MW E f h h' ord)with|.mk (some (h'',c))=>q a h'' c|_=>none
  |.mk (.clo f [])=>kvs s args fun vs=>match box (aF aI h (idsL vs) [])with
   |.no=>none
   |.mk ord=>aX E call h f vs fun a h'=>match box (MW E f h h' ord)with|.mk (some (h'',c))=>q a h'' c|_=>none
  |_=>aWL E call thaw dst (.call ⟨.value (.tmp t),args.toArray,tys⟩) s h q:=by
 have key:=fun(f:FuncId) (caps:List D) hg=>aNf (E:=E) (call:=call) (thaw:=thaw) (dst:=dst) (s:=s) (h:=h) (t:=t) (args:=args) (tys:=tys) (q:=q) (f:=f) (caps:=caps) hg
 have k2:∀f,s.getD t (.d .undef)=.clo f []->kOpD E call thaw dst (.call ⟨.value (.tmp t),args.toArray,tys⟩) s h q=kOpD E call thaw dst (.call ⟨.value (.func f),args.toArray,tys⟩) s h q:=by
  intro f hg;unfold kOpD kvs;simp only[opds,bR,cA,hg]
  cases bR s args<;>rfl
 have fold:∀(f:FuncId) (h h':H) (ord:List Nat) (a:A),(if((E.hint f).mode==1&&h'.length-h.length==0)=true then q a h { ids:=ord,ro:=true}else q a h' { ids:=ord++List.range' h.length (h'.length-h.length),ro:=false,wr:=wrC E f ord++List.range' h.length (h'.length-h.length)})=match box (MW E f h h' ord)with|.mk (some (h'',c))=>q a h'' c|_=>none:=by
  intro f h h' ord a;unfold MW
  by_cases hc:((E.hint f).mode==1&&h'.length-h.length==0)=true
  ·simp only[if_pos hc,box]
  ·simp only[if_neg hc,box]
 generalize hs:s.getD t (.d .undef)=a
 cases a with
 |d x=>
  cases x with
  |fn f caps=>
   rw[key f caps ⟨hs⟩];simp only[fold]<;>rfl
  |_=>rfl
 |clo f caps=>
  cases caps with
  |nil=>rw[k2 f hs];exact aAq
  |cons c caps=>rfl
 |_=>rfl
theorem AS(n:Nat)(h:H):aF n h [] []=[]:=by cases n<;>rfl
mutual
theorem tX{f:Nat->Option Nat}:∀a:A,idsA a=[]->mapA f a=a
 |.d x,_=>by simp only[mapA]
 |.sl id gen off len,h=>by simp[idsA]at h
 |.ptr id gen off,h=>by simp[idsA]at h
 |.mp id,h=>by simp[idsA]at h
 |.clo g caps,h=>by simp only[idsA]at h;simp only[mapA];rw[fS caps h]
 |.agg cs,h=>by simp only[idsA]at h;simp only[mapA];rw[fS cs h]
 |.tup cs,h=>by simp only[idsA]at h;simp only[mapA];rw[fS cs h]
 |.junk,_=>by simp only[mapA]
theorem fS{f:Nat->Option Nat}:∀asx:List A,idsL asx=[]->aG f asx=asx
 | [],_=>by simp only[aG]
 |a::asx,h=>by
  simp only[idsL,List.append_eq_nil_iff]at h;simp only[aG];rw[tX a h.1,fS asx h.2]
end
theorem aRo{a:A}(h:sA a=true):idsA a=[]:=by
 cases a with
 |d x=>rfl
 |agg cs=>
  simp only[sA]at h;simp only[idsA]
  induction cs with
  |nil=>rfl
  |cons c cs ih=>
   simp only[Bw,As]at h;simp only[idsL,ih h.2,Aj]
   cases c<;>first|rfl|simp[isD]at h
 |_=>simp[sA]at h
theorem AF:∀ {asx:List A},asx.all sA=true->idsL asx=[]
 | [],_=>rfl
 |a::asx,h=>by
  simp only[Bw,As]at h;simp only[idsL,aRo h.1,AF h.2,Aj]
theorem aEV{h:H}:∀ {cs:List A},cs.all isD=true->∃ds,frzL h cs=some (ds,h)/\ds.map .d=cs
 | [],_=>⟨[],rfl,rfl⟩
 |c::cs,hs=>by
  simp only[Bw,As]at hs;obtain⟨ds,h1,h2⟩:=aEV (h:=h) hs.2
  cases c with
  |d x=>
   refine⟨x::ds,?_,by simp[h2]⟩;unfold frzL at h1|-;simp only[eC];have:frz deep h (.d x)=some (x,h):=rfl;rw[this];simp only[h1]
  |_=>simp[isD]at hs
theorem xD{h:H}:∀ {asx:List A},asx.all sA=true->d6 h asx=some (asx,h)
 | [],_=>rfl
 |a::asx,hs=>by
  simp only[Bw,As]at hs
  have ha:frzA h a=some (a,h):=by
   cases a with
   |d x=>rfl
   |agg cs=>
    obtain⟨ds,h1,h2⟩:=aEV (h:=h) (cs:=cs) (by simpa only[sA]using hs.1);simp only[frzA,h1,h2]
   |_=>simp[sA]at hs
  simp only[d6,ha,xD hs.2]
theorem aNp{r:A}(h:hM r=true):lV r=true/\mapA (fun k=>back [] 0 0 k) r=r:=by
 cases r with
 |d x=>cases x<;>first|exact⟨rfl,rfl⟩|simp[hM]at h
 |tup vs=>
  simp only[hM]at h
  have key:j7 vs=true/\aG (fun k=>back [] 0 0 k) vs=vs:=by
   induction vs with
   |nil=>exact⟨rfl,by simp only[aG]⟩
   |cons v vs ih=>
    simp only[Bw,As]at h;obtain⟨i1,i2⟩:=ih h.2
    cases v with
    |d x=>cases x<;>first|(exfalso;simp at h;done)|(refine⟨by simp only[j7,lV,xF,i1,Bo],by simp only[aG,mapA,i2]⟩)
    |_=>grind
  exact⟨by simp only[lV];exact key.1,by simp only[mapA,key.2]⟩
 |_=>simp[hM]at h
theorem aND{f:FuncId}{args:List A}{r:A}(hs:args.all sA=true)(hc:call f args []=some (r,[]))(hp:hM r=true\/((E.hint f).mode==1||(E.hint f).mode==3)=false):bW call E.hint [] f args=some (r,[]):=by
 unfold bW
 split
 ·exact hc
 ·rename_i hm
  rw[xD hs];simp only[hc]
  rcases hp with hp|hp
  ·rw[hp];rfl
  ·grind
 ·rename_i hm
  rw[xD hs];simp only[hc]
  rcases hp with hp|hp
  ·obtain⟨h1,h2⟩:=aNp hp;rw[h1];exact congrArg (fun x=>some (x,([]:H))) h2
  ·grind
 ·rw[xD hs];simp only[hc]
theorem bS{f:FuncId}{args:List A}{r:A}(hs:args.all sA=true)(hc:call f args []=some (r,[]))(hr:idsA r=[])(hp:hM r=true\/((E.hint f).mode==1||(E.hint f).mode==3)=false):aX E call h f args k=k r h:=by
 unfold aX;rw[AF hs,AS,fS _ (AF hs)];have:pack h []=[]:=rfl;rw[this,aND hs hc hp];simp only[Ac,Ab,true_and,closed,Cd,Bo,if_true,tX r hr,bJ,Ar,Aj]
def xJ(call:a6)(f:FuncId)(args:List A)(k:A->Option R):Option R:=
 match call f args []with
 |some (r,[])=>if hM r=true then k r else none
 |_=>none
theorem lT{f:FuncId}{args:List A}{r:A}{k:A->Option R}(hc:call f args []=some (r,[]))(hp:hM r=true):xJ call f args k=k r:=by
 unfold xJ;rw[hc];simp only[hp,if_true]
theorem aR6{r:A}(h:hM r=true):idsA r=[]:=by
 cases r with
 |d x=>rfl
 |tup vs=>
  simp only[hM]at h;simp only[idsA]
  induction vs with
  |nil=>rfl
  |cons v vs ih=>
   simp only[Bw,As]at h;simp only[idsL,ih h.2,Aj]
   cases v with
   |d x=>rfl
   |_=>grind
 |_=>simp[hM]at h
theorem aJd(ord:List Nat)(n:Nat):back ord n ord.length=fun k=>ord[k]?:=by
 funext k
 unfold back
 split
 ·rfl
 ·grind
theorem aLo{h:H}{ord ids:List Nat}(hc:closed h ord ids=true)(hn:ord.Nodup)(hl:∀i∈ord,i<h.length):bJ (fun(k:Nat)=>ord[k]?) h ord (pack h ord)=h:=by
 apply Cq;intro id;rw[D2 _ ord h _ id hn hl (by simp[pack])]
 cases hp:aJ ord id with
 |none=>
  simp only[]
  split
  ·rfl
  ·rename_i hge
   rw[Cp (by simp[pack]),Cp om];rfl
 |some k=>
  simp only[];have hm:=OE hp;obtain⟨o,ho⟩:∃o,h[id]? =some o:=⟨h[id]'(hl id hm),Ad _⟩
  rw[iP (bH hp) ho,ho,Az,YC hc hm ho]
theorem aNd{f:FuncId}{args:List A}(hm:(E.hint f).mode=1):aX E call h f args k=match box (aF aI h (idsL args) [])with
  |.no=>none
  |.mk ord=>match box (d6 (pack h ord) (aG (aJ ord) args))with
   |.mk (some (fs,_))=>if closed h ord (idsL args)=true then xJ call f fs fun r=>k r h else none
   |_=>none:=by
 unfold aX bW;rw[hm];simp only[box]
 cases hf:d6 (pack h (aF aI h (idsL args) [])) (aG (aJ (aF aI h (idsL args) [])) args)with
 |none=>rfl
 |some r=>
  obtain⟨fs,h1⟩:=r;simp only[xJ]
  cases hc:call f fs []with
  |none=>simp
  |some r=>
   obtain⟨a,h2⟩:=r
   cases h2 with
   |cons o h2=>simp
   |nil=>
    by_cases hp:hM a=true
    ·simp only[hp,if_true];have hlen:(pack h (aF aI h (idsL args) [])).length=(aF aI h (idsL args) []).length:=by simp[pack]
     simp only[hlen,Ab,true_and]
     by_cases hcl:closed h (aF aI h (idsL args) []) (idsL args)=true
     ·simp only[hcl,if_true,aJd,tX a (aR6 hp)];rw[aLo hcl (bV aI h (idsL args) [] smp) (j8 aI h (idsL args) [] smp)]
     ·grind
    ·grind
def aAV(h:H)(args:List A):Option (List A):=match box (aF aI h (idsL args) [])with
 |.no=>none
 |.mk ord=>match box (d6 (pack h ord) (aG (aJ ord) args))with
  |.mk (some (fs,_))=>if closed h ord (idsL args)=true then some fs else none
  |_=>none
theorem dZ{f:FuncId}{args:List A}(hm:(E.hint f).mode=1):aX E call h f args k=match box (aAV h args)with
  |.mk (some fs)=>xJ call f fs fun r=>k r h
  |_=>none:=by
 rw[aNd hm];unfold aAV;simp only[box]
 cases d6 (pack h (aF aI h (idsL args) [])) (aG (aJ (aF aI h (idsL args) [])) args)with
 |none=>rfl
 |some r=>grind
theorem aOs{nf:Nat}{h:H}{ord:List Nat}{s:List A}:trim nf h ord s=match box (pack h ord)with
  |.mk p=>(aV nf p (aG (aJ ord) s),cH nf p)
  |.no=>([],[]):=rfl
theorem aUf{nf:Nat}{m:List Bool}{s:List A}{h:H}:gc nf m s h=match box (tidy m s)with
  |.mk s1=>match box (dD nf h (idsL s1))with
   |.mk ord=>trim nf h ord s1
   |.no=>([],[])
  |.no=>([],[]):=rfl
theorem aOO{P:Program}{nf:Nat}{exp:Bool}{rs:List ResultVar}{e:Exit}{s:List A}{h:H}:kFin P nf exp rs e s h=
  if mL e then(match lL P s h rs with
   |some rs=>match pT nf exp h rs with
    |some (xs,h2)=>match box (dD nf h2 (idsL xs))with
     |.mk ord=>match box (trim nf h2 ord xs)with
      |.mk r=>some (tupA r.1,r.2)
      |.no=>none
     |.no=>none
    |none=>none
   |none=>none)else none:=rfl
theorem uR(nf:Nat)(h:H)(ids:List Nat):dD nf h ids=aF 1099511627776 h (eO (h.take nf)++ids) (List.range nf):=rfl
theorem rng0:List.range 0=[]:=rfl
theorem rng1:List.range 1=[0]:=rfl
theorem rng2:List.range 2=[0,1]:=rfl
theorem YE(h:H)(ids:List Nat):dD 0 h ids=aF 1099511627776 h ids []:=by
 unfold dD;rfl
theorem yR(n:Nat)(h:H)(acc:List Nat):aF n h [] acc=acc:=by cases n<;>rfl
theorem qD(n:Nat)(h:H)(i:Nat)(todo acc:List Nat):aF (n+1) h (i::todo) acc=if acc.contains i=true then aF n h todo acc
  else match h.getD i .void with
   |.box cs=>aF n h (todo++idsL cs) (acc++[i])
   |.vec cs _ _=>aF n h (todo++idsL cs) (acc++[i])
   |.void=>aF n h todo acc
   |_=>aF n h todo (acc++[i]):=by
 simp only[aF,Aa]
 split
 ·rfl
 ·grind
theorem aKL{α:Type}{c:Prop}[Decidable c]{a:α}(hc:c):(if c then some a else none)=some a:=if_pos hc
def iAnd(k:IntKind)(a b:Int):Int:=k.wrap (BitVec.ofInt k.bits a&&&BitVec.ofInt k.bits b).toNat
def iOr(k:IntKind)(a b:Int):Int:=k.wrap (BitVec.ofInt k.bits a|||BitVec.ofInt k.bits b).toNat
def iXor(k:IntKind)(a b:Int):Int:=k.wrap (BitVec.ofInt k.bits a^^^BitVec.ofInt k.bits b).toNat
section
variable{t:TypeId}{K:IntKind}{a b:Int}
theorem aJu:bZ E .add t h (.d (.int K a)) (.d (.int K b))=some (.d (.int K (K.wrap (a+b))),h):=by simp[bZ,aBin];rfl
theorem aIs:bZ E .sub t h (.d (.int K a)) (.d (.int K b))=some (.d (.int K (K.wrap (a-b))),h):=by simp[bZ,aBin];rfl
theorem aJl:bZ E .mul t h (.d (.int K a)) (.d (.int K b))=some (.d (.int K (K.wrap (a*b))),h):=by simp[bZ,aBin];rfl
theorem aIN:bZ E .and t h (.d (.int K a)) (.d (.int K b))=some (.d (.int K (iAnd K a b)),h):=by simp[bZ,aBin];rfl
theorem aKH:bZ E .or t h (.d (.int K a)) (.d (.int K b))=some (.d (.int K (iOr K a b)),h):=by simp[bZ,aBin];rfl
theorem aJm:bZ E .xor t h (.d (.int K a)) (.d (.int K b))=some (.d (.int K (iXor K a b)),h):=by simp[bZ,aBin];rfl
theorem aIW:bZ E .lss t h (.d (.int K a)) (.d (.int K b))=some (.d (.bool (decide (a<b))),h):=by simp[bZ,aBin]
theorem aJz:bZ E .leq t h (.d (.int K a)) (.d (.int K b))=some (.d (.bool (decide (a<=b))),h):=by simp[bZ,aBin]
theorem aJC:bZ E .gtr t h (.d (.int K a)) (.d (.int K b))=some (.d (.bool (decide (b<a))),h):=by simp[bZ,aBin]
theorem aIx:bZ E .geq t h (.d (.int K a)) (.d (.int K b))=some (.d (.bool (decide (b<=a))),h):=by simp[bZ,aBin]
theorem aIk:bZ E .eql t h (.d (.int K a)) (.d (.int K b))=some (.d (.bool (decide (a=b))),h):=by simp[bZ,aBin];rfl
theorem aIB:bZ E .neq t h (.d (.int K a)) (.d (.int K b))=some (.d (.bool (!decide (a=b))),h):=by simp[bZ,aBin];rfl
theorem aI3(hb:b≠0):bZ E .quo t h (.d (.int K a)) (.d (.int K b))=some (.d (.int K (K.wrap (a.tdiv b))),h):=by simp[bZ,aBin,hb]
theorem aJF(hb:b≠0):bZ E .rem t h (.d (.int K a)) (.d (.int K b))=some (.d (.int K (a.tmod b)),h):=by simp[bZ,aBin,hb]
theorem aHZ{K2:IntKind}(hb:0<=b):bZ E .shl t h (.d (.int K a)) (.d (.int K2 b))=some (.d (.int K (K.wrap (a*2^(min b.toNat K.bits)))),h):=by
 have:¬b<0:=om;simp[bZ,aBin,Op.shift,this];rfl
theorem aIY{K2:IntKind}(hb:0<=b):bZ E .shr t h (.d (.int K a)) (.d (.int K2 b))=some (.d (.int K (a.fdiv (2^(min b.toNat K.bits)))),h):=by
 have:¬b<0:=om;simp[bZ,aBin,Op.shift,this];rfl
theorem aN4{b:Bool}:aUn .not (.d (.bool b))=some (.d (.bool (!b))):=rfl
end
end
theorem WD:type_of% (AI @aGS (AI @aIi (AI @aCw (AI @aIS (AI @aFK (AI @aCj (AI @aGr (AI @aEG (AI @aIo (AI @aMy (AI @aIe (AI @aJw (AI @aEq (AI @aCN (AI @aBN (AI @aSk (AI @aRq (AI @aOE (AI @aRH (AI @aOm (AI @aOt (AI @aOF (AI @aOy (AI @aMq (AI @aLw (AI @QV (AI @LQ (AI @aOh (AI @aQ8 (AI @aMN (AI @YO (AI @aLB (AI @aM1 (AI @aIy (AI @aI7 (AI @aOu (AI @aJD (AI @Q8 (AI @Y9 (AI @VA (AI @aCS (AI @aBU (AI @WM (AI @WS (AI @aH5 (AI @aB3 (AI @aBS (AI @aH7 (AI @aOO (AI @YB (AI @aEL (AI @aJc (AI @aCh (AI @aF4 @WH)))))))))))))))))))))))))))))))))))))))))))))))))))))):=
 ⟨@aGS,@aIi,@aCw,@aIS,@aFK,@aCj,@aGr,@aEG,@aIo,@aMy,@aIe,@aJw,@aEq,@aCN,@aBN,@aSk,@aRq,@aOE,@aRH,@aOm,@aOt,@aOF,@aOy,@aMq,@aLw,@QV,@LQ,@aOh,@aQ8,@aMN,@YO,@aLB,@aM1,@aIy,@aI7,@aOu,@aJD,@Q8,@Y9,@VA,@aCS,@aBU,@WM,@WS,@aH5,@aB3,@aBS,@aH7,@aOO,@YB,@aEL,@aJc,@aCh,@aF4,@WH⟩
theorem WDD:type_of% (AI @aI2 (AI @aF5 (AI @aCe (AI @aF7 (AI @M4 (AI @aH6 (AI @QT (AI @aCF (AI @aLk (AI @aJn (AI @aH8 (AI @WG (AI @aLi (AI @aOb (AI @VK (AI @QX (AI @XR (AI @aGd (AI @aAq (AI @aJH (AI @aIT @aE2))))))))))))))))))))):=
 ⟨@aI2,@aF5,@aCe,@aF7,@M4,@aH6,@QT,@aCF,@aLk,@aJn,@aH8,@WG,@aLi,@aOb,@VK,@QX,@XR,@aGd,@aAq,@aJH,@aIT,@aE2⟩
theorem WK0:type_of% (AI @aRS (AI @aN4 (AI @aJu (AI @aIs (AI @aJl (AI @aIN (AI @aKH (AI @aJm (AI @aI3 (AI @aJF (AI @aHZ (AI @aIY (AI @aIW (AI @aJz (AI @aJC (AI @aIx (AI @aIk (AI @aIB (AI @List.getD_nil.{0} (AI @Ci.{0} (AI @Bs.{0} (AI @aUf @aOs)))))))))))))))))))))):=
 ⟨@aRS,@aN4,@aJu,@aIs,@aJl,@aIN,@aKH,@aJm,@aI3,@aJF,@aHZ,@aIY,@aIW,@aJz,@aJC,@aIx,@aIk,@aIB,@List.getD_nil.{0},@Ci.{0},@Bs.{0},@aUf,@aOs⟩
theorem WK1:type_of% (AI @Bool.not_true (AI @Bool.not_false (AI @Bool.true_eq_false (AI @decide_eq_true_eq (AI @decide_eq_false_iff_not (AI @Az.{0,0} (AI @decide_true (AI @decide_false (AI @aKL (AI @Ch (AI @Nat.one_mul (AI @Ay.{0} (AI @Bw.{0} (AI @Cd.{0} (AI @Bo (AI @Bool.and_true @Bool.true_and)))))))))))))))):=
 ⟨@Bool.not_true,@Bool.not_false,@Bool.true_eq_false,@decide_eq_true_eq,@decide_eq_false_iff_not,@Az.{0,0},@decide_true,@decide_false,@aKL,@Ch,@Nat.one_mul,@Ay.{0},@Bw.{0},@Cd.{0},@Bo,@Bool.and_true,@Bool.true_and⟩
theorem WK2:type_of% (AI @Cm (AI @Do (AI @List.zip_cons_cons.{0,0} (AI @List.zip_nil_left.{0,0} (AI @List.flatten_cons.{0} (AI @List.flatten_nil.{0} (AI @List.take_zero.{0} (AI @List.take_nil.{0} (AI @List.drop_nil.{0} (AI @Bool.or_self (AI @Bool.or_false (AI @Cb (AI @and_self (AI @and_true (AI @true_and (AI @Bool.or_true (AI @Bool.true_or (AI @Dp.{0} (AI @List.take_succ_cons.{0} (AI @Nat.lt_irrefl (AI @List.head?_cons.{0} (AI @List.contains_cons.{0} (AI @List.contains_nil.{0} @uR))))))))))))))))))))))):=
 ⟨@Cm,@Do,@List.zip_cons_cons.{0,0},@List.zip_nil_left.{0,0},@List.flatten_cons.{0},@List.flatten_nil.{0},@List.take_zero.{0},@List.take_nil.{0},@List.drop_nil.{0},@Bool.or_self,@Bool.or_false,@Cb,@and_self,@and_true,@true_and,@Bool.or_true,@Bool.true_or,@Dp.{0},@List.take_succ_cons.{0},@Nat.lt_irrefl,@List.head?_cons.{0},@List.contains_cons.{0},@List.contains_nil.{0},@uR⟩
theorem WK3:type_of% (AI @rng0 (AI @rng1 (AI @rng2 (AI @Option.isNone_none.{0} (AI @Option.isNone_some.{0} (AI @Ck.{0} (AI @Cu.{0} (AI @yR (AI @qD (AI @beq_self_eq_true.{0} (AI @Nat.succ_ne_self (AI @Nat.zero_ne_one (AI @Af.{0} (AI @or_false @or_true)))))))))))))):=
 ⟨@rng0,@rng1,@rng2,@Option.isNone_none.{0},@Option.isNone_some.{0},@Ck.{0},@Cu.{0},@yR,@qD,@beq_self_eq_true.{0},@Nat.succ_ne_self,@Nat.zero_ne_one,@Af.{0},@or_false,@or_true⟩
theorem WK:type_of% (AI @WK0 (AI @WK1 (AI @WK2 @WK3))):=
 ⟨@WK0,@WK1,@WK2,@WK3⟩
section
variable{E:Env}{vs:List A}{t u:TypeId}{x y:Operand}
theorem aCE:jU E (.convert t u x) vs=(c7 E.P u).isNone:=rfl
theorem VJ{a:Array Operand}{b:Array TypeId}:jU E (.call ⟨.builtin .append,a,b⟩) vs=false:=rfl
theorem Z0:jU E (.alloc t) vs=false:=rfl
theorem WC:jU E (.assign x) vs=false:=rfl
theorem XW:jU E (.store t x y) vs=false:=rfl
theorem aJx{n:Nat}{ps:Array (Nat×Operand)}:jU E (.buildSlice t n ps) vs=false:=rfl
theorem aFJ:opds (.alloc t)=[]:=rfl
end
theorem UNx5:type_of% (fun v0 v1 v2 v3=> @outA.eq_2 v0 v1 v2 (A.d v3) nfn):=by intros;rfl
theorem UNx6:type_of% (fun v0 v1 v2 v3 v4 v5 v6=> @outA.eq_2 v0 v1 v2 (A.sl v3 v4 v5 v6) nfn):=by intros;rfl
theorem UNx7:type_of% (fun v0 v1 v2 v3 v4 v5=> @outA.eq_2 v0 v1 v2 (A.ptr v3 v4 v5) nfn):=by intros;rfl
theorem UNx9:type_of% (fun v0 v1 v2 v3 v4=> @outA.eq_2 v0 v1 v2 (A.clo v3 v4) nfn):=by intros;rfl
theorem aUi:type_of% (fun v0 v1 v2 v3 v4=> @outS.eq_2 v0 v1 v2 (D.int v3 v4) nfn):=by intros;rfl
theorem aUt:type_of% (fun v0 v1 v2 v3=> @outS.eq_2 v0 v1 v2 (D.bool v3) nfn):=by intros;rfl
theorem aUu:type_of% (fun v0 v1 v2 v3=> @outS.eq_2 v0 v1 v2 (D.str v3) nfn):=by intros;rfl
theorem aUE:type_of% (fun v0 v1 v2 v3 v4=> @outS.eq_2 v0 v1 v2 (D.ivs v3 v4) nfn):=by intros;rfl
theorem aUH:type_of% (fun v0 v1=> @f5.eq_3 (A.d (D.int v0 v1)) nfn nfn):=by intros;rfl
theorem aUo:type_of% (fun v0=> @f5.eq_3 (A.d (D.bool v0)) nfn nfn):=by intros;rfl
theorem aUs:type_of% (fun v0=> @f5.eq_3 (A.d (D.str v0)) nfn nfn):=by intros;rfl
theorem aUD:type_of% (fun v0 v1=> @f5.eq_3 (A.d (D.ivs v0 v1)) nfn nfn):=by intros;rfl
theorem aUk:type_of% (@f5.eq_3 (A.d D.nils) nfn nfn):=(@f5.eq_3 (A.d D.nils) nfn nfn)
theorem aUI:type_of% (fun v0 v1=> @f5.eq_3 (A.d (D.fn v0 v1)) nfn nfn):=by intros;rfl
theorem aUz:type_of% (fun v0 v1 v2 v3=> @f5.eq_3 (A.sl v0 v1 v2 v3) nfn nfn):=by intros;rfl
theorem aUq:type_of% (fun v0 v1 v2=> @f5.eq_3 (A.ptr v0 v1 v2) nfn nfn):=by intros;rfl
theorem aUJ:type_of% (fun v0=> @f5.eq_3 (A.mp v0) nfn nfn):=by intros;rfl
theorem aUG:type_of% (fun v0 v1=> @f5.eq_3 (A.clo v0 v1) nfn nfn):=by intros;rfl
theorem aUx:type_of% (fun v0=> @tidy.eq_3 List.nil v0 nfn nfn):=by intros;rfl
theorem aUA:type_of% (fun v0 v1 v2 v3 v4=> @cF.eq_2 v0 v1 v2 v3 (A.d v4) nfn):=by intros;rfl
theorem aUy:type_of% (fun v0 v1 v2 v3 v4 v5 v6 v7=> @cF.eq_2 v0 v1 v2 v3 (A.sl v4 v5 v6 v7) nfn):=by intros;rfl
theorem aUp:type_of% (fun v0 v1=> @aAU.eq_2 v0 (A.d v1) nfn):=by intros;rfl
theorem aUF:type_of% (fun v0 v1 v2=> @frz.eq_5 v0 (A.d v2) v1 nfn nfn nfn):=by intros;rfl
theorem aUj:type_of% (fun v0=> @aZ.eq_2 (A.d v0) nfn):=by intros;rfl
theorem aUh:type_of% (fun v0 v1 v2 v3=> @aZ.eq_2 (A.sl v0 v1 v2 v3) nfn):=by intros;rfl
theorem aUv:type_of% (fun v0=> @aZ.eq_2 (A.mp v0) nfn):=by intros;rfl
theorem aRK:type_of% (fun v0 v1=> @dO.eq_5 (A.d (D.int v0 v1)) nfn nfn nfn nfn):=by intros;rfl
theorem aQr:type_of% (fun v0=> @dO.eq_5 (A.d (D.bool v0)) nfn nfn nfn nfn):=by intros;rfl
theorem aRB:type_of% (fun v0=> @dO.eq_5 (A.d (D.str v0)) nfn nfn nfn nfn):=by intros;rfl
theorem aRg:type_of% (fun v0 v1=> @dO.eq_5 (A.d (D.ivs v0 v1)) nfn nfn nfn nfn):=by intros;rfl
theorem aQ7:type_of% (@dO.eq_5 (A.d D.nils) nfn nfn nfn nfn):=(@dO.eq_5 (A.d D.nils) nfn nfn nfn nfn)
theorem aSf:type_of% (fun v0 v1=> @dO.eq_5 (A.d (D.fn v0 v1)) nfn nfn nfn nfn):=by intros;rfl
theorem aSr:type_of% (fun v0 v1 v2 v3=> @dO.eq_5 (A.sl v0 v1 v2 v3) nfn nfn nfn nfn):=by intros;rfl
theorem aQV:type_of% (fun v0=> @dO.eq_5 (A.mp v0) nfn nfn nfn nfn):=by intros;rfl
theorem aSt:type_of% (fun v0=> @y3.eq_2 (A.d v0) nfn):=by intros;rfl
theorem aRd:type_of% (fun v0 v1 v2 v3=> @y3.eq_2 (A.sl v0 v1 v2 v3) nfn):=by intros;rfl
theorem aR9:type_of% (fun v0=> @y3.eq_2 (A.agg v0) nfn):=by intros;rfl
theorem aQK:type_of% (fun v0 v1 v2 v3=> @eO.eq_4 (O.arr v1 v2 v3) v0 nfn nfn):=by intros;rfl
theorem aSi:type_of% (fun v0 v1=> @eO.eq_4 (O.mp v1) v0 nfn nfn):=by intros;rfl
theorem aRR:type_of% (@tupA.eq_2 List.nil nfn):=(@tupA.eq_2 List.nil nfn)
theorem aQJ:type_of% (fun v0 v1 v2=> @tupA.eq_2 (List.cons v0 (List.cons v1 v2)) nfn):=by intros;rfl
theorem aR7:type_of% (fun v0 v1 v2 v3 v4=> @LO.eq_2 v0 v1 (Go.Operand.tmp v4) v2 v3 nfn):=by intros;rfl
theorem aQI:type_of% (fun v0 v1 v2 v3=> @bE.eq_3 v0 (A.d (D.int v2 v3)) v1 nfn):=by intros;rfl
theorem aR0:type_of% (fun v0 v1 v2 v3=> @bE.eq_3 v0 (A.d (D.ivs v2 v3)) v1 nfn):=by intros;rfl
theorem aSn:type_of% (fun v0 v1 v2 v3=> @bE.eq_3 v0 (A.d (D.fn v2 v3)) v1 nfn):=by intros;rfl
theorem aQ4:type_of% (fun v0 v1 v2 v3 v4 v5=> @bE.eq_3 v0 (A.sl v2 v3 v4 v5) v1 nfn):=by intros;rfl
theorem aRv:type_of% (fun v0 v1 v2=> @bE.eq_3 v0 (A.mp v2) v1 nfn):=by intros;rfl
theorem aQQ:type_of% (fun v0 v1 v2 v3=> @mapO.eq_3 v0 (O.arr v1 v2 v3) nfn nfn):=by intros;rfl
theorem aSa:type_of% (fun v0 v1 v2 v3=> @mapO.eq_3 v0 (O.ice v1 v2 v3) nfn nfn):=by intros;rfl
theorem aQF:type_of% (fun v0 v1=> @mapO.eq_3 v0 (O.log v1) nfn nfn):=by intros;rfl
theorem aQB:type_of% (fun v0 v1=> @mapO.eq_3 v0 (O.mp v1) nfn nfn):=by intros;rfl
theorem aRO:type_of% (fun v0 v1=> @frzA.eq_2 v0 (A.d v1) nfn):=by intros;rfl
theorem aSb:type_of% (fun v0 v1 v2 v3 v4=> @frzA.eq_2 v0 (A.sl v1 v2 v3 v4) nfn):=by intros;rfl
theorem aRU:type_of% (fun v0 v1 v2=> @frzA.eq_2 v0 (A.clo v1 v2) nfn):=by intros;rfl
theorem UN0:type_of% (AI @aFJ (AI @aLen.eq_def (AI @VJ (AI @aCE (AI @Z0 (AI @WC (AI @XW (AI @aJx (AI @List.range'.eq_1 (AI @List.range'.eq_2 (AI @RX.eq_1 @SH.eq_1))))))))))):=
 ⟨@aFJ,@aLen.eq_def,@VJ,@aCE,@Z0,@WC,@XW,@aJx,@List.range'.eq_1,@List.range'.eq_2,@RX.eq_1,@SH.eq_1⟩
theorem UN1:type_of% (AI @aPut.eq_1 (AI @aPut.eq_2 (AI @mL.eq_1 (AI @mL.eq_2 (AI @outA.eq_1 (AI @UNx5 (AI @UNx6 (AI @UNx7 (AI @UNx9 (AI @outS.eq_1 (AI @aUi (AI @aUt (AI @aUu (AI @aUE (AI @outS.eq_3 (AI @outS.eq_4 (AI @outS.eq_6 (AI @EC.eq_1 (AI @EC.eq_2 (AI @idsA.eq_1 @idsA.eq_2)))))))))))))))))))):=
 ⟨@aPut.eq_1,@aPut.eq_2,@mL.eq_1,@mL.eq_2,@outA.eq_1,@UNx5,@UNx6,@UNx7,@UNx9,@outS.eq_1,@aUi,@aUt,@aUu,@aUE,@outS.eq_3,@outS.eq_4,@outS.eq_6,@EC.eq_1,@EC.eq_2,@idsA.eq_1,@idsA.eq_2⟩
theorem UN2:type_of% (AI @idsA.eq_3 (AI @idsA.eq_4 (AI @idsA.eq_5 (AI @idsA.eq_7 (AI @idsA.eq_8 (AI @idsL.eq_1 (AI @idsL.eq_2 (AI @mapA.eq_1 (AI @mapA.eq_2 (AI @mapA.eq_3 (AI @mapA.eq_4 (AI @mapA.eq_5 (AI @mapA.eq_7 (AI @mapA.eq_8 (AI @aV.eq_1 (AI @aV.eq_2 (AI @bP.eq_1 (AI @bP.eq_2 (AI @bP.eq_3 (AI @bP.eq_4 (AI @bP.eq_5 (AI @bP.eq_7 (AI @bP.eq_8 (AI @hY.eq_1 (AI @LW.eq_1 (AI @bC.eq_1 (AI @cH.eq_1 (AI @dP.eq_1 (AI @dP.eq_2 (AI @bY.eq_1 (AI @bY.eq_2 (AI @bY.eq_3 (AI @bY.eq_4 (AI @bY.eq_5 (AI @bY.eq_6 @aG.eq_1))))))))))))))))))))))))))))))))))):=
 ⟨@idsA.eq_3,@idsA.eq_4,@idsA.eq_5,@idsA.eq_7,@idsA.eq_8,@idsL.eq_1,@idsL.eq_2,@mapA.eq_1,@mapA.eq_2,@mapA.eq_3,@mapA.eq_4,@mapA.eq_5,@mapA.eq_7,@mapA.eq_8,@aV.eq_1,@aV.eq_2,@bP.eq_1,@bP.eq_2,@bP.eq_3,@bP.eq_4,@bP.eq_5,@bP.eq_7,@bP.eq_8,@hY.eq_1,@LW.eq_1,@bC.eq_1,@cH.eq_1,@dP.eq_1,@dP.eq_2,@bY.eq_1,@bY.eq_2,@bY.eq_3,@bY.eq_4,@bY.eq_5,@bY.eq_6,@aG.eq_1⟩
theorem UN3:type_of% (AI @aG.eq_2 (AI @rY.eq_1 (AI @rY.eq_2 (AI @rY.eq_3 (AI @f5.eq_1 (AI @f5.eq_2 (AI @aUH (AI @aUo (AI @aUs (AI @aUD (AI @aUk (AI @aUI (AI @aUz (AI @aUq (AI @aUJ (AI @aUG (AI @tidy.eq_1 (AI @tidy.eq_2 (AI @aUx (AI @cF.eq_1 (AI @aUA (AI @aUy (AI @cF.eq_3 @rI.eq_1))))))))))))))))))))))):=
 ⟨@aG.eq_2,@rY.eq_1,@rY.eq_2,@rY.eq_3,@f5.eq_1,@f5.eq_2,@aUH,@aUo,@aUs,@aUD,@aUk,@aUI,@aUz,@aUq,@aUJ,@aUG,@tidy.eq_1,@tidy.eq_2,@aUx,@cF.eq_1,@aUA,@aUy,@cF.eq_3,@rI.eq_1⟩
theorem UN4:type_of% (AI @m9.eq_1 (AI @pN.eq_1 (AI @IG.eq_1 (AI @aAU.eq_1 (AI @aUp (AI @JX.eq_1 (AI @rC.eq_1 (AI @keeps.eq_1 (AI @logs.eq_1 (AI @OZ.eq_1 @tA.eq_1)))))))))):=
 ⟨@m9.eq_1,@pN.eq_1,@IG.eq_1,@aAU.eq_1,@aUp,@JX.eq_1,@rC.eq_1,@keeps.eq_1,@logs.eq_1,@OZ.eq_1,@tA.eq_1⟩
theorem UN5:type_of% (AI @c8.eq_2 (AI @c8.eq_4 (AI @lD.eq_1 (AI @qL.eq_1 (AI @D1.eq_1 (AI @nM.eq_1 (AI @nM.eq_2 (AI @uM.eq_1 (AI @iM.eq_1 (AI @gU.eq_1 (AI @gU.eq_3 (AI @frzL.eq_1 (AI @eC.eq_1 (AI @eC.eq_2 (AI @frz.eq_2 (AI @frz.eq_3 (AI @frz.eq_4 (AI @aUF (AI @frz0.eq_1 (AI @frz0.eq_2 (AI @deep.eq_1 (AI @aZ.eq_1 (AI @aUj (AI @aUh @aUv)))))))))))))))))))))))):=
 ⟨@c8.eq_2,@c8.eq_4,@lD.eq_1,@qL.eq_1,@D1.eq_1,@nM.eq_1,@nM.eq_2,@uM.eq_1,@iM.eq_1,@gU.eq_1,@gU.eq_3,@frzL.eq_1,@eC.eq_1,@eC.eq_2,@frz.eq_2,@frz.eq_3,@frz.eq_4,@aUF,@frz0.eq_1,@frz0.eq_2,@deep.eq_1,@aZ.eq_1,@aUj,@aUh,@aUv⟩
theorem UN6:type_of% (AI @bK.eq_1 (AI @aRK (AI @aQr (AI @aRB (AI @aRg (AI @aQ7 (AI @aSf (AI @aSr (AI @aQV (AI @aSt (AI @aRd (AI @aR9 (AI @eO.eq_1 (AI @eO.eq_2 (AI @aQK (AI @aSi @lL.eq_1)))))))))))))))):=
 ⟨@bK.eq_1,@aRK,@aQr,@aRB,@aRg,@aQ7,@aSf,@aSr,@aQV,@aSt,@aRd,@aR9,@eO.eq_1,@eO.eq_2,@aQK,@aSi,@lL.eq_1⟩
theorem UN7:type_of% (AI @lL.eq_2 (AI @IR.eq_1 (AI @IR.eq_2 (AI @pT.eq_1 (AI @pT.eq_2 (AI @tupA.eq_1 (AI @aRR (AI @aQJ (AI @uV.eq_1 (AI @uZ.eq_1 (AI @uZ.eq_2 (AI @opds.eq_2 (AI @opds.eq_7 (AI @opds.eq_13 (AI @opds.eq_14 @opds.eq_24))))))))))))))):=
 ⟨@lL.eq_2,@IR.eq_1,@IR.eq_2,@pT.eq_1,@pT.eq_2,@tupA.eq_1,@aRR,@aQJ,@uV.eq_1,@uZ.eq_1,@uZ.eq_2,@opds.eq_2,@opds.eq_7,@opds.eq_13,@opds.eq_14,@opds.eq_24⟩
theorem UN8:type_of% (AI @evOp.eq_1 (AI @dR.eq_1 (AI @one.eq_1 (AI @two.eq_1 (AI @C5.eq_1 @aR7))))):=
 ⟨@evOp.eq_1,@dR.eq_1,@one.eq_1,@two.eq_1,@C5.eq_1,@aR7⟩
theorem UN9:type_of% (AI @aNew.eq_1 (AI @rK.eq_3 (AI @rK.eq_4 (AI @yV.eq_1 @R5.eq_1)))):=
 ⟨@aNew.eq_1,@rK.eq_3,@rK.eq_4,@yV.eq_1,@R5.eq_1⟩
theorem UN10:type_of% (AI @back.eq_1 (AI @bJ.eq_1 (AI @bJ.eq_2 (AI @aI.eq_1 (AI @closed.eq_1 (AI @gZ.eq_1 @bE.eq_1)))))):=
 ⟨@back.eq_1,@bJ.eq_1,@bJ.eq_2,@aI.eq_1,@closed.eq_1,@gZ.eq_1,@bE.eq_1⟩
theorem UN11:type_of% (AI @bE.eq_2 (AI @aQI (AI @aR0 (AI @aSn (AI @aQ4 (AI @aRv (AI @aJ.eq_2 (AI @pack.eq_1 (AI @mapO.eq_1 (AI @mapO.eq_2 (AI @aQQ (AI @aSa (AI @aQF (AI @aQB (AI @bI.eq_1 (AI @frzA.eq_1 (AI @aRO (AI @aSb (AI @aRU @d6.eq_1))))))))))))))))))):=
 ⟨@bE.eq_2,@aQI,@aR0,@aSn,@aQ4,@aRv,@aJ.eq_2,@pack.eq_1,@mapO.eq_1,@mapO.eq_2,@aQQ,@aSa,@aQF,@aQB,@bI.eq_1,@frzA.eq_1,@aRO,@aSb,@aRU,@d6.eq_1⟩
theorem UN12:type_of% (AI @d6.eq_2 (AI @memD.eq_1 (AI @aAV.eq_1 (AI @MW.eq_1 @eM.eq_3)))):=
 ⟨@d6.eq_2,@memD.eq_1,@aAV.eq_1,@MW.eq_1,@eM.eq_3⟩
theorem UN:type_of% (AI @UN0 (AI @UN1 (AI @UN2 (AI @UN3 (AI @UN4 (AI @UN5 (AI @UN6 (AI @UN7 (AI @UN8 (AI @UN9 (AI @UN10 (AI @UN11 @UN12)))))))))))):=
 ⟨@UN0,@UN1,@UN2,@UN3,@UN4,@UN5,@UN6,@UN7,@UN8,@UN9,@UN10,@UN11,@UN12⟩
theorem aUr:type_of% (@bT.eq_5 Go.Code.skip nfn nfn nfn nfn):=(@bT.eq_5 Go.Code.skip nfn nfn nfn nfn)
theorem aUl:type_of% (fun v0 v1 v2=> @bT.eq_5 (Go.Code.region v0 v1 v2) nfn nfn nfn nfn):=(fun v0 v1 v2=> @bT.eq_5 (Go.Code.region v0 v1 v2) nfn nfn nfn nfn)
theorem aUg:type_of% (fun v0=> @bT.eq_5 (Go.Code.exit v0) nfn nfn nfn nfn):=(fun v0=> @bT.eq_5 (Go.Code.exit v0) nfn nfn nfn nfn)
theorem aR2:type_of% (@bT.eq_5 Go.Code.ret nfn nfn nfn nfn):=(@bT.eq_5 Go.Code.ret nfn nfn nfn nfn)
theorem SLM0:type_of% (AI @Be.{0} (AI @Ac.{0} (AI @Bx (AI @Ag (AI @Ai.{0,0} (AI @Ar.{0,0} (AI @Cr.{0} (AI @Aw.{0} (AI @Dg.{0,0} (AI @Ak (AI @Ae.{0} (AI @List.replicate.eq_1.{0} (AI @List.replicate.eq_2.{0} (AI @Ax.{0} (AI @Aq.{0} (AI @Aj.{0} (AI @List.getD_cons_zero.{0} (AI @Eo.{0} (AI @aS.eq_1 (AI @aY.eq_1 (AI @lpOf.eq_1 (AI @aO.eq_1 (AI @slim.eq_1 (AI @slim.eq_2 (AI @slim.eq_3 (AI @slim.eq_4 (AI @slim.eq_5 (AI @slim.eq_6 (AI @slim.eq_7 (AI @slim.eq_8 (AI @bT.eq_1 (AI @bT.eq_2 @bT.eq_3)))))))))))))))))))))))))))))))):=
 ⟨@Be.{0},@Ac.{0},@Bx,@Ag,@Ai.{0,0},@Ar.{0,0},@Cr.{0},@Aw.{0},@Dg.{0,0},@Ak,@Ae.{0},@List.replicate.eq_1.{0},@List.replicate.eq_2.{0},@Ax.{0},@Aq.{0},@Aj.{0},@List.getD_cons_zero.{0},@Eo.{0},@aS.eq_1,@aY.eq_1,@lpOf.eq_1,@aO.eq_1,@slim.eq_1,@slim.eq_2,@slim.eq_3,@slim.eq_4,@slim.eq_5,@slim.eq_6,@slim.eq_7,@slim.eq_8,@bT.eq_1,@bT.eq_2,@bT.eq_3⟩
theorem SLM1:type_of% (AI @bT.eq_4 (AI @aUr (AI @aUl (AI @aUg (AI @aR2 (AI @H7.eq_1 (AI @N3.eq_1 @N3.eq_2))))))):=
 ⟨@bT.eq_4,@aUr,@aUl,@aUg,@aR2,@H7.eq_1,@N3.eq_1,@N3.eq_2⟩
theorem SLM:type_of% (AI @SLM0 @SLM1):=
 ⟨@SLM0,@SLM1⟩
theorem LN:type_of% (AI @Af.{0} (AI @Ae.{0} (AI @Ac.{0} (AI @Br.{0} (AI @List.length_replicate.{0} (AI @Am.{0,0} (AI @Bi.{0} @Cg.{0}))))))):=
 ⟨@Af.{0},@Ae.{0},@Ac.{0},@Br.{0},@List.length_replicate.{0},@Am.{0,0},@Bi.{0},@Cg.{0}⟩
theorem GT:type_of% (AI @Cr.{0} @Aw.{0}):=
 ⟨@Cr.{0},@Aw.{0}⟩
end Ev
end Go.Proofs.YthlkcebdfbjdoaaGreatDoor
