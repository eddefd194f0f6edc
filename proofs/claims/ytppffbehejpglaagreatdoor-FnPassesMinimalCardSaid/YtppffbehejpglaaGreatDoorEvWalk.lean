/-
  How each operation goes, in the form in which the evaluator is walked.
-/
import Derived.Test.YtppffbehejpglaaGreatDoorEvPrim
set_option linter.unusedSimpArgs false
set_option linter.unusedVariables false
set_option linter.unusedSectionVars false
namespace Go.Proofs.YtppffbehejpglaaGreatDoor
namespace Ev
section
variable{R:Type}{E:Env}{call:aZ}{thaw:List Nat}{dst:Option Tmp}{s:List A}{h:H}{k:A->H->Option R}
structure Now(p:Prop):Prop where
 it:p
structure Shut(p:Prop):Prop where
 it:p
inductive Box(α:Type) where
 |mk (a:α)
 |no
def box{α:Type}(a:α):Box α:=.mk a
theorem aRy{α:Type}{a:α}:box a=.mk a:=rfl
theorem aRV{t:Nat}{q:A->Option R}:kv s (.tmp t) q=match box (s.getD t (.d .undef))with|.no=>none|.mk a=>q a:=rfl
theorem aRW{K:IntKind}{n:Int}{q:A->Option R}:kv s (.const (.int K n)) q=q (.d (.int K n)):=rfl
theorem aPF{b:Bool}{q:A->Option R}:kv s (.const (.bool b)) q=q (.d (.bool b)):=rfl
theorem aRr{b:ByteArray}{q:A->Option R}:kv s (.const (.string b)) q=match box b.data.toList with|.no=>none|.mk l=>q (.d (.str l)):=rfl
theorem aO7{q:A->Option R}:kv s (.const (.pointer none)) q=q (.d .nilp):=rfl
theorem aO5{q:A->Option R}:kv s (.const (.slice none 0 0)) q=q (.d .nils):=rfl
theorem aOM{f:FuncId}{q:A->Option R}:kv s (.func f) q=q (.clo f []):=rfl
theorem aPk{q:List A->Option R}:kvs s [] q=q []:=rfl
theorem aMb{x:Operand}{xs:List Operand}{q:List A->Option R}:kvs s (x::xs) q=kv s x fun a=>kvs s xs fun asx=>q (a::asx):=by
 unfold kvs kv;simp only[bT]
 cases cE s x with
 |none=>rfl
 |some a=>grind
theorem aCG{yes no:List A->Option R}:wO none s yes no=yes s:=rfl
theorem aCk{t:Nat}{w:Bool}{yes no:List A->Option R}:wO (some (some t,w)) s yes no=match s.getD t .junk with
  |.d (.bool b)=>if b=w then(match box (s.set t (.d (.bool w)))with|.no=>none|.mk s=>yes s)else(match box (s.set t (.d (.bool (!w))))with|.no=>none|.mk s=>no s)
  |.d .undef=>no s
  |_=>none:=by
 simp only[wO,Aa]
 cases s[t]? with
 |none=>rfl
 |some a=>
  cases a with
  |d x=>cases x<;>rfl
  |_=>rfl
theorem aNa{x:Operand}:kOp E call thaw dst (.move x) s h k=kv s x fun a=>k a h:=by
 unfold kOp kvs kv;simp only[opds,bT]
 cases cE s x<;>rfl
def kAsg(thaw:List Nat)(dst:Option Tmp)(h:H)(k:A->H->Option R)(a:A):Option R:=
 match a with
 |.d .nils=>match SH thaw dst with
  |0=>k (.d .nils) h
  |e+1=>if e<1000 then k (.sl h.length 0 0 0) (h++[.arr [] e 0])else k (.sl h.length 0 0 0) (h++[.vec [] (e-1000) 0])
 |a=>k a h
theorem R7{t:Nat}:kOp E call thaw dst (.assign (.tmp t)) s h k=match box (s.getD t (.d .undef))with|.no=>none|.mk a=>k a h:=by
 unfold kOp kvs;rfl
theorem L7{v:Value}:kOp E call thaw dst (.assign (.const v)) s h k=kv s (.const v) (kAsg thaw dst h k):=by
 unfold kOp kvs kv kAsg;simp only[opds,bT]
 cases cE s (.const v)with
 |none=>rfl
 |some a=>
  simp only[wZ,Al,if_false,evOp,one,MR,dO]
  cases a with
  |d x=>grind
  |_=>rfl
def kRet(r:Option (A×H))(k:A->H->Option R):Option R:=
 match r with
 |some (a,h')=>k a h'
 |none=>none
theorem aPz{op:BinOp}{t:TypeId}{x y:Operand}{t2:TypeId}:kOp E call thaw dst (.binOp op t x y t2) s h k=kv s x fun a=>kv s y fun b=>kRet (b6 E op t h a b) k:=by
 unfold kOp kvs kv kRet;simp only[opds,bT]
 cases cE s x with
 |none=>rfl
 |some a=>cases cE s y<;>rfl
theorem aSn{op:UnOp}{t:TypeId}{x:Operand}:kOp E call thaw dst (.unOp op t x) s h k=kv s x fun a=>kRet ((aUn op a).map fun r=>(r,h)) k:=by
 unfold kOp kvs kv kRet;simp only[opds,bT]
 cases cE s x<;>rfl
theorem aMw{c x y:Operand}:kOp E call thaw dst (.pick c x y) s h k=kv s c fun b=>kv s x fun a=>kv s y fun a'=>kRet (RB h [b,a,a']) k:=by
 unfold kOp kvs kv kRet;simp only[opds,bT]
 cases cE s c with
 |none=>rfl
 |some b=>cases cE s x with
  |none=>rfl
  |some a=>cases cE s y<;>rfl
theorem aAI{x:Operand}:kOp E call thaw dst (.nilCheck x) s h k=kv s x fun a=>kRet (vF h a) k:=by
 unfold kOp kvs kv kRet;simp only[opds,bT]
 cases cE s x<;>rfl
theorem aMD{t u:TypeId}{x:Operand}:kOp E call thaw dst (.convert t u x) s h k=kv s x fun a=>kRet (eP E.P h t u a) k:=by
 unfold kOp kvs kv kRet;simp only[opds,bT]
 cases cE s x<;>rfl
theorem aLL{t:TypeId}{x:Operand}:kOp E call thaw dst (.load t x) s h k=kv s x fun a=>kRet ((EC E.P h t a).map fun v=>(v,h)) k:=by
 unfold kOp kvs kv kRet;simp only[opds,bT]
 cases cE s x<;>rfl
theorem aIm{t:TypeId}{x y:Operand}:kOp E call thaw dst (.store t x y) s h k=kv s x fun a=>kv s y fun b=>kRet ((gY E.P h t a b).map fun h'=>(.d .undef,h')) k:=by
 unfold kOp kvs kv kRet;simp only[opds,bT]
 cases cE s x with
 |none=>rfl
 |some a=>cases cE s y<;>rfl
theorem aIt{t:TypeId}:kOp E call thaw dst (.alloc t) s h k=match box (dA E.P t)with
  |.no=>none
  |.mk none=>none
  |.mk (some z)=>kRet (aNew h z) k:=by
 unfold kOp kvs kRet;simp only[opds,bT,wZ,Al,if_false,evOp,dO,box]
 cases dA E.P t<;>rfl
theorem aPv{t:TypeId}{x:Operand}:kOp E call thaw dst (.box t x) s h k=kv s x fun a=>kRet (aNew h a) k:=by
 unfold kOp kvs kv kRet;simp only[opds,bT]
 cases cE s x<;>rfl
theorem aJ0{t:TypeId}{ps:List (Nat×Operand)}:kOp E call thaw dst (.build t ps.toArray) s h k=match box (ps.map (·.2))with
  |.no=>none
  |.mk xs=>kvs s xs fun vs=>kRet ((wM E.P t ((ps.map (·.1)).zip vs)).map fun a=>(a,h)) k:=by
 rfl
theorem RL{t:TypeId}{n:Nat}{ps:List (Nat×Operand)}:kOp E call thaw dst (.buildSlice t n ps.toArray) s h k=match box (ps.map (·.2))with
  |.no=>none
  |.mk xs=>kvs s xs fun vs=>kRet (if logs thaw dst=true then O7 (lA E.P h t n ((ps.map (·.1)).zip vs))else if keeps thaw dst=true then t8 E.P h t n ((ps.map (·.1)).zip vs)else lA E.P h t n ((ps.map (·.1)).zip vs)) k:=by
 rfl
theorem ZX{fn:Fn}{cap:List Operand}:kOp E call thaw dst (.makeFunc fn #[] cap.toArray) s h k=kvs s cap fun vs=>kRet (Q8 h fn true vs) k:=by
 rfl
theorem WO{t:TypeId}{x y:Operand}:kOp E call thaw dst (.makeSlice t x y) s h k=kv s x fun a=>kv s y fun b=>kRet (iK a fun l=>iK b fun c=>if keeps thaw dst=true then MY E.P h t l c else iA E.P h t l c) k:=by
 unfold kOp kvs kv kRet;simp only[opds,bT]
 cases cE s x with
 |none=>rfl
 |some a=>cases cE s y<;>rfl
theorem aCo{t:TypeId}{x hi:Operand}:kOp E call thaw dst (.slice t x none (some hi) none) s h k=kvs s [x,hi] fun vs=>kRet (rF E.P h t false true vs) k:=rfl
theorem aCb{t:TypeId}{x lo hi:Operand}:kOp E call thaw dst (.slice t x (some lo) (some hi) none) s h k=kvs s [x,lo,hi] fun vs=>kRet (rF E.P h t true true vs) k:=rfl
theorem VS{t:TypeId}{x:Operand}{f:Nat}:kOp E call thaw dst (.fieldAddr t x f) s h k=kv s x fun a=>kRet ((cW E.P t f).bind fun r=>(vC r.1 a).map fun r=>(r,h)) k:=by
 unfold kOp kvs kv kRet;simp only[opds,bT]
 cases cE s x<;>rfl
theorem V4{t:TypeId}{x y:Operand}:kOp E call thaw dst (.indexAddr t x y) s h k=kv s x fun a=>kv s y fun b=>kRet (iK b fun i=>(pO E.P h t a i).map fun r=>(r,h)) k:=by
 unfold kOp kvs kv kRet;simp only[opds,bT]
 cases cE s x with
 |none=>rfl
 |some a=>cases cE s y<;>rfl
theorem aI4{t:TypeId}{x y:Operand}:kOp E call thaw dst (.index t x y) s h k=kv s x fun a=>kv s y fun b=>kRet (iK b fun i=>(Q3 E.P t a i).map fun r=>(r,h)) k:=by
 unfold kOp kvs kv kRet;simp only[opds,bT]
 cases cE s x with
 |none=>rfl
 |some a=>cases cE s y<;>rfl
theorem aC2{t:TypeId}:kOp E call thaw dst (.makeMap t none) s h k=k (.mp h.length) (h++[.mp []]):=rfl
theorem aGc{t:TypeId}{x y:Operand}{ok:Bool}:kOp E call thaw dst (.lookup t x y ok) s h k=kv s x fun a=>kv s y fun b=>kRet (oI E.P h t ok a b) k:=by
 unfold kOp kvs kv kRet;simp only[opds,bT]
 cases cE s x with
 |none=>rfl
 |some a=>cases cE s y<;>rfl
theorem V1{t:TypeId}{x y z:Operand}:kOp E call thaw dst (.mapUpdate t x y z) s h k=kv s x fun a=>kv s y fun b=>kv s z fun c=>kRet (d6 E.P h t a b c) k:=by
 unfold kOp kvs kv kRet;simp only[opds,bT]
 cases cE s x with
 |none=>rfl
 |some a=>cases cE s y with
  |none=>rfl
  |some b=>cases cE s z<;>rfl
theorem aOe{t:TypeId}{x y z:Operand}:kOp E call thaw dst (.insert t x y z) s h k=kv s x fun a=>kv s y fun b=>kv s z fun c=>kRet (d6 E.P h t a b c) k:=by
 unfold kOp kvs kv kRet;simp only[opds,bT]
 cases cE s x with
 |none=>rfl
 |some a=>cases cE s y with
  |none=>rfl
  |some b=>cases cE s z<;>rfl
theorem aDd{x:Operand}{i:Nat}:kOp E call thaw dst (.extract x i) s h k=kv s x fun a=>kRet (zC h i a) k:=by
 unfold kOp kvs kv kRet;simp only[opds,bT]
 cases cE s x<;>rfl
theorem aDb{b:Builtin}{args:List Operand}{tys:List TypeId}:kOp E call thaw dst (.call ⟨.builtin b,args.toArray,tys.toArray⟩) s h k=kvs s args fun vs=>kRet (cH E.P h b tys vs) k:=by
 rfl
theorem dK{op:Op}{q:A->H->Foot->Option R}(hp:Now (qW op=true/\wZ op=false)):kOpD E call thaw dst op s h q=kOp E call thaw dst op s h fun a _=>q a h {}:=by
 obtain⟨hp,hc⟩:=hp.it;unfold kOpD kOp kvs;rw[hp,hc]
 cases bT s (opds op)with
 |none=>rfl
 |some vs=>grind
def memD(E:Env)(call:aZ)(thaw:List Nat)(dst:Option Tmp)(op:Op)(h:H)(vs:List A):Option (A×H×Foot):=match box (aF aI h (idsL vs) [])with
 |.no=>none
 |.mk ord=>match box (evOp E call thaw (pack h ord) (dO dst op) (aG (aJ ord) vs))with
  |.mk (some (a,h1))=>if ord.length<=h1.length/\closed h ord (idsL vs)=true then
    (if(jV E op vs&&h1.length-ord.length==0)=true then some (mapA (back ord h.length h1.length) a,h,{ ids:=ord,ro:=true})
    else some (mapA (back ord h.length h1.length) a,bJ (back ord h.length h1.length) h ord h1,{ ids:=ord++List.range' h.length (h1.length-ord.length),ro:=false,wr:=wrOf E op vs ord++List.range' h.length (h1.length-ord.length)}))
   else none
  |_=>none
theorem kB{op:Op}{q:A->H->Foot->Option R}(hp:Now (qW op=false/\rI op=false)):kOpD E call thaw dst op s h q=match box (opds op)with|.no=>none|.mk xs=>kvs s xs fun vs=>match box (memD E call thaw dst op h vs)with
  |.mk (some (a,h',c))=>q a h' c
  |_=>none:=by
 simp only[box];unfold kOpD kvs;rw[hp.it.1,hp.it.2]
 cases bT s (opds op)with
 |none=>rfl
 |some vs=>
  simp only[Al,if_false,i7,memD,box]
  cases evOp E call thaw (pack h (aF aI h (idsL vs) [])) (dO dst op) (aG (aJ (aF aI h (idsL vs) [])) vs)with
  |none=>rfl
  |some r=>grind
theorem ZK{op:Op}{q:A->H->Foot->Option R}(hp:Now (qW op=false/\rI op=true/\wZ op=false)):kOpD E call thaw dst op s h q=kvs s (opds op) fun vs=>kOp E call thaw dst op s h fun a _=>q a h { ids:=ids0 vs,ro:=true}:=by
 unfold kOpD kOp kvs;rw[hp.it.1,hp.it.2.1,hp.it.2.2]
 cases bT s (opds op)with
 |none=>rfl
 |some vs=>grind
theorem aD3{x:Operand}{xs:List Operand}{op:Op}{q:A->H->Foot->Option R}(hx:opds op=x::xs):(kvs s (opds op) fun vs=>kOp E call thaw dst op s h fun a _=>q a h { ids:=ids0 vs,ro:=true})=kv s x fun b=>kOp E call thaw dst op s h fun a _=>q a h { ids:=idsA b,ro:=true}:=by
 unfold kOp kv;rw[hx];unfold kvs;simp only[bT]
 cases cE s x with
 |none=>rfl
 |some b=>
  cases bT s xs with
  |none=>rfl
  |some bs=>rfl
theorem aIk{t:TypeId}{x:Operand}{q:A->H->Foot->Option R}:kOpD E call thaw dst (.load t x) s h q=kv s x fun b=>kOp E call thaw dst (.load t x) s h fun a _=>q a h { ids:=idsA b,ro:=true}:=(ZK ⟨rfl,rfl,rfl⟩).trans (aD3 rfl)
theorem aFH{t:TypeId}{x y:Operand}{q:A->H->Foot->Option R}:type_of% (kB (E:=E) (call:=call) (thaw:=thaw) (dst:=dst) (s:=s) (h:=h) (op:=.store t x y) (q:=q) ⟨rfl,rfl⟩):=kB ⟨rfl,rfl⟩
theorem aCU{x:Operand}{q:A->H->Foot->Option R}:type_of% (kB (E:=E) (call:=call) (thaw:=thaw) (dst:=dst) (s:=s) (h:=h) (op:=.assign x) (q:=q) ⟨rfl,rfl⟩):=kB ⟨rfl,rfl⟩
theorem aFZ{t:TypeId}{q:A->H->Foot->Option R}:type_of% (kB (E:=E) (call:=call) (thaw:=thaw) (dst:=dst) (s:=s) (h:=h) (op:=.alloc t) (q:=q) ⟨rfl,rfl⟩):=kB ⟨rfl,rfl⟩
theorem OA{t:TypeId}{n:Nat}{ps:List (Nat×Operand)}{q:A->H->Foot->Option R}:type_of% (kB (E:=E) (call:=call) (thaw:=thaw) (dst:=dst) (s:=s) (h:=h) (op:=.buildSlice t n ps.toArray) (q:=q) ⟨rfl,rfl⟩):=kB ⟨rfl,rfl⟩
theorem aIU{t u:TypeId}{x:Operand}{q:A->H->Foot->Option R}:type_of% (kB (E:=E) (call:=call) (thaw:=thaw) (dst:=dst) (s:=s) (h:=h) (op:=.convert t u x) (q:=q) ⟨rfl,rfl⟩):=kB ⟨rfl,rfl⟩
theorem QS{t:TypeId}{x y:Operand}{q:A->H->Foot->Option R}:kOpD E call thaw dst (.indexAddr t x y) s h q=kv s x fun b=>kOp E call thaw dst (.indexAddr t x y) s h fun a _=>q a h { ids:=idsA b,ro:=true}:=(ZK ⟨rfl,rfl,rfl⟩).trans (aD3 rfl)
theorem aCx{args tys:Array _}{q:A->H->Foot->Option R}:type_of% (kB (E:=E) (call:=call) (thaw:=thaw) (dst:=dst) (s:=s) (h:=h) (op:=.call ⟨.builtin .append,args,tys⟩) (q:=q) ⟨rfl,rfl⟩):=kB ⟨rfl,rfl⟩
theorem aNp{x:Operand}{xs:List Operand}{tys:Array _}{q:A->H->Foot->Option R}:kOpD E call thaw dst (.call ⟨.builtin .len,(x::xs).toArray,tys⟩) s h q=kv s x fun b=>kOp E call thaw dst (.call ⟨.builtin .len,(x::xs).toArray,tys⟩) s h fun a _=>q a h { ids:=idsA b,ro:=true}:=(ZK ⟨rfl,rfl,rfl⟩).trans (aD3 rfl)
theorem aJn{x:Operand}{q:A->H->Foot->Option R}:type_of% (dK (E:=E) (call:=call) (thaw:=thaw) (dst:=dst) (s:=s) (h:=h) (op:=.move x) (q:=q) ⟨rfl,rfl⟩):=dK ⟨rfl,rfl⟩
theorem aIz{c x y:Operand}{q:A->H->Foot->Option R}:type_of% (dK (E:=E) (call:=call) (thaw:=thaw) (dst:=dst) (s:=s) (h:=h) (op:=.pick c x y) (q:=q) ⟨rfl,rfl⟩):=dK ⟨rfl,rfl⟩
theorem VP{x:Operand}{q:A->H->Foot->Option R}:type_of% (dK (E:=E) (call:=call) (thaw:=thaw) (dst:=dst) (s:=s) (h:=h) (op:=.nilCheck x) (q:=q) ⟨rfl,rfl⟩):=dK ⟨rfl,rfl⟩
theorem aLV{op:BinOp}{t:TypeId}{x y:Operand}{t2:TypeId}{q:A->H->Foot->Option R}:type_of% (dK (E:=E) (call:=call) (thaw:=thaw) (dst:=dst) (s:=s) (h:=h) (op:=.binOp op t x y t2) (q:=q) ⟨rfl,rfl⟩):=dK ⟨rfl,rfl⟩
theorem aO0{op:UnOp}{t:TypeId}{x:Operand}{q:A->H->Foot->Option R}:type_of% (dK (E:=E) (call:=call) (thaw:=thaw) (dst:=dst) (s:=s) (h:=h) (op:=.unOp op t x) (q:=q) ⟨rfl,rfl⟩):=dK ⟨rfl,rfl⟩
theorem WW{fn:Fn}{first cap:Array Operand}{q:A->H->Foot->Option R}:type_of% (dK (E:=E) (call:=call) (thaw:=thaw) (dst:=dst) (s:=s) (h:=h) (op:=.makeFunc fn first cap) (q:=q) ⟨rfl,rfl⟩):=dK ⟨rfl,rfl⟩
theorem SU{t:TypeId}{x:Operand}{f:Nat}{q:A->H->Foot->Option R}:type_of% (dK (E:=E) (call:=call) (thaw:=thaw) (dst:=dst) (s:=s) (h:=h) (op:=.fieldAddr t x f) (q:=q) ⟨rfl,rfl⟩):=dK ⟨rfl,rfl⟩
theorem aAb{x:Operand}{i:Nat}{q:A->H->Foot->Option R}:type_of% (dK (E:=E) (call:=call) (thaw:=thaw) (dst:=dst) (s:=s) (h:=h) (op:=.extract x i) (q:=q) ⟨rfl,rfl⟩):=dK ⟨rfl,rfl⟩
theorem aGi{t:TypeId}{ps:Array (Nat×Operand)}{q:A->H->Foot->Option R}:type_of% (dK (E:=E) (call:=call) (thaw:=thaw) (dst:=dst) (s:=s) (h:=h) (op:=.build t ps) (q:=q) ⟨rfl,rfl⟩):=dK ⟨rfl,rfl⟩
def aL6(a b:Foot):Bool:=(!a.ro&&(!b.ids.isEmpty&&a.wr.any b.ids.contains))||(!b.ro&&(!a.ids.isEmpty&&b.wr.any a.ids.contains))
theorem aUe{l:List Nat}:l.any (([]:List Nat)).contains=false:=by grind
theorem aJw(a b:Foot):aL6 a b=kU a b:=by
 obtain⟨ia,ra,wa⟩:=a;obtain⟨ib,rb,wb⟩:=b;unfold aL6 kU
 cases ia<;>cases ib<;>simp
def eE(ops:List Oper)(cs:List Foot):Bool:=
 let b:=PD ops []
 (List.range cs.length).all fun j=>(List.range j).all fun i=>(b.getD j 0).testBit i|| !aL6 (cs.getD i {}) (cs.getD j {})
theorem aS4{src:List Oper}{cs:List Foot}(h:pK src cs=true):eE src cs=true:=by
 unfold eE;simp only[aJw];exact h
theorem aGt{src:List Oper}{cs:List Foot}{x:Option R}(hc:Shut (eE src cs=true)):(if pK src cs=true then x else none)=x:=if_pos (by
 have:=hc.it;unfold eE at this;simp only[aJw]at this;exact this)
theorem aLQ{q:List A->H->Option R}:kOps E call thaw [] s h q=q s h:=rfl
theorem aIJ{op:Op}{g:Option (Option Tmp×Bool)}{os:List SO}{q:List A->H->Option R}:kOps E call thaw (⟨dst,op,g⟩::os) s h q=wO g s
  (fun s=>kOp E call thaw dst op s h fun a h'=>match box (aPut s dst a)with|.no=>none|.mk s'=>kOps E call thaw os s' h' q)
  (fun s=>match box (aPut s dst (.d .undef))with|.no=>none|.mk s'=>kOps E call thaw os s' h q):=rfl
theorem aIO{cs:List Foot}{q:List A->H->List Foot->Option R}:xN E call thaw [] s h cs q=q s h cs:=rfl
theorem aE9{op:Op}{g:Option (Option Tmp×Bool)}{os:List SO}{cs:List Foot}{q:List A->H->List Foot->Option R}:xN E call thaw (⟨dst,op,g⟩::os) s h cs q=wO g s
  (fun s=>kOpD E call thaw dst op s h fun a h' c=>match box (aPut s dst a)with|.no=>none|.mk s'=>xN E call thaw os s' h' (cs++[c]) q)
  (fun s=>match box (aPut s dst (.d .undef))with|.no=>none|.mk s'=>xN E call thaw os s' h (cs++[{}]) q):=rfl
section
variable{L nf:Nat}{live:List Bool}{lp:Nat->Code}{q:Exit->List A->H->Option R}
theorem aEZ:cT E call L nf thaw live lp .skip s h q=q .normal s h:=rfl
theorem aIC{l:List SO}:cT E call L nf thaw live lp (.ops l) s h q=kOps E call thaw l s h fun s h=>q .normal s h:=rfl
theorem aB6{l:List SO}{src:Array Oper}:cT E call L nf thaw live lp (.drawn l src) s h q=xN E call thaw l s h [] fun s h cs=>if pK src.toList cs=true then q .normal s h else none:=rfl
theorem aJu{a b:SC}:cT E call L nf thaw live lp (.seq a b) s h q=cT E call L nf thaw live lp a s h fun e s h=>match e with
  |.normal=>cT E call L nf thaw live lp b s h q
  |e=>q e s h:=rfl
theorem aG5{c:Operand}{x y:SC}:cT E call L nf thaw live lp (.cond c x y) s h q=kv s c fun a=>match a with
  |.d (.bool b)=>if b=true then cT E call L nf thaw live lp x s h q else cT E call L nf thaw live lp y s h q
  |_=>none:=rfl
theorem aCH{id:Nat}{c:SC}:cT E call L nf thaw live lp (.block id c) s h q=cT E call L nf thaw live lp c s h fun e s h=>match e with
  |.exit i=>if i=id then q .normal s h else q (.exit i) s h
  |e=>q e s h:=rfl
theorem aGl{i:Nat}:cT E call L nf thaw live lp (.loop i) s h q=match box (r6 live s)with
  |.no=>none
  |.mk m=>match box (gc nf m s h)with
   |.mk (s',h')=>aT E call L nf thaw live (lp i) m L s' h' q
   |.no=>none:=rfl
theorem aES{id:Nat}:cT E call L nf thaw live lp (.exit id) s h q=q (.exit id) s h:=rfl
theorem aID:cT E call L nf thaw live lp .ret s h q=q .ret s h:=rfl
theorem aAQ{c:Code}{m:List Bool}{n:Nat}:aBx E call L nf thaw live c m n q .normal s h=match box (gc nf m s h)with
  |.mk (s',h')=>aT E call L nf thaw live c m n s' h' q
  |.no=>none:=rfl
theorem aFm{c:Code}{m:List Bool}{n i:Nat}:aBx E call L nf thaw live c m n q (.exit i) s h=match box (gc nf m s h)with
  |.mk (s',h')=>q (.exit i) s' h'
  |.no=>none:=rfl
theorem aIG{c:Code}{m:List Bool}{n:Nat}:aBx E call L nf thaw live c m n q .ret s h=match box (gc nf m s h)with
  |.mk (s',h')=>q .ret s' h'
  |.no=>none:=rfl
end
def aX(E:Env)(call:aZ)(h:H)(f:FuncId)(args:List A)(k:A->H->Option R):Option R:=
 match bY call E.hint (pack h (aF aI h (idsL args) [])) f (aG (aJ (aF aI h (idsL args) [])) args)with
 |some (a,h1)=>
  if(aF aI h (idsL args) []).length<=h1.length/\closed h (aF aI h (idsL args) []) (idsL args)=true then
   k (mapA (back (aF aI h (idsL args) []) h.length h1.length) a) (bJ (back (aF aI h (idsL args) []) h.length h1.length) h (aF aI h (idsL args) []) h1)
  else none
 |none=>none
theorem aT6{f:FuncId}{args:List Operand}{tys:Array TypeId}:kOp E call thaw dst (.call ⟨.value (.func f),args.toArray,tys⟩) s h k=kvs s args fun vs=>aX E call h f vs k:=by
 unfold kOp kvs aX;simp only[opds,bT,cE]
 cases bT s args with
 |none=>rfl
 |some vs=>
  simp only[wZ,if_true,i7,idsL,idsA,Aq,aG,mapA,evOp,eK,eZ,dO,Ai]
  cases bY call E.hint (pack h (aF aI h (idsL vs) [])) f (aG (aJ (aF aI h (idsL vs) [])) vs)with
  |none=>rfl
  |some r=>grind
theorem aKf{f:FuncId}{args:List Operand}{tys:Array TypeId}:kOp E call thaw dst (.call ⟨.value (.func f),args.toArray,tys⟩) s h k=kvs s args fun vs=>aX E call h f vs fun a h'=>match box h' with|.no=>none|.mk h''=>k a h'':=by
 rw[aT6];rfl
def L0(E:Env)(call:aZ)(h:H)(f:FuncId)(caps args:List A)(k:A->H->Option R):Option R:=
 match bY call E.hint (pack h (aF aI h (idsL caps++idsL args) [])) f (aG (aJ (aF aI h (idsL caps++idsL args) [])) args++aG (aJ (aF aI h (idsL caps++idsL args) [])) caps)with
 |some (a,h1)=>
  if(aF aI h (idsL caps++idsL args) []).length<=h1.length/\closed h (aF aI h (idsL caps++idsL args) []) (idsL caps++idsL args)=true then
   k (mapA (back (aF aI h (idsL caps++idsL args) []) h.length h1.length) a) (bJ (back (aF aI h (idsL caps++idsL args) []) h.length h1.length) h (aF aI h (idsL caps++idsL args) []) h1)
  else none
 |none=>none
def oS(E:Env)(call:aZ)(h:H)(g:A)(args:List A)(k:A->H->Option R):Option R:=
 match g with
 |.d (.fn f caps)=>aX E call h f (args++caps.map .d) k
 |.clo f caps=>L0 E call h f caps args k
 |_=>none
theorem bN:∀(asx bs:List A),idsL (asx++bs)=idsL asx++idsL bs
 | [],bs=>by simp[idsL]
 |a::asx,bs=>by simp[idsL,bN asx bs]
theorem aLy:∀(ds:List D),idsL (ds.map .d)=[]
 | []=>by simp[idsL]
 |d::ds=>by simp[idsL,idsA,aLy ds]
theorem cR{f:Nat->Option Nat}:∀(asx bs:List A),aG f (asx++bs)=aG f asx++aG f bs
 | [],bs=>by simp[aG]
 |a::asx,bs=>by simp[aG,cR asx bs]
theorem aH6{f:Nat->Option Nat}:∀(ds:List D),aG f (ds.map .d)=ds.map .d
 | []=>by simp[aG]
 |d::ds=>by simp[aG,mapA,aH6 ds]
theorem aRL{g:A}{vs:List A}{tys:Array TypeId}{x:Operand}{args:Array Operand}:(match i7 E call thaw h (dO dst (.call ⟨.value x,args,tys⟩)) (g::vs)with
   |some (a,h',_)=>k a h'
   |none=>none)=oS E call h g vs k:=by
 unfold i7;simp only[evOp,eK,dO,aG]
 cases g with
 |d y=>
  cases y with
  |fn f caps=>
   simp only[oS,aX,mapA,eZ,idsL,idsA,Aq,bN,aLy,Ai,cR,aH6]
   cases bY call E.hint (pack h (aF aI h (idsL vs) [])) f (aG (aJ (aF aI h (idsL vs) [])) vs++caps.map .d)with
   |none=>rfl
   |some r=>grind
  |_=>simp only[oS,mapA,eZ]
 |clo f caps=>
  simp only[oS,L0,mapA,eZ,idsL,idsA]
  cases bY call E.hint (pack h (aF aI h (idsL caps++idsL vs) [])) f (aG (aJ (aF aI h (idsL caps++idsL vs) [])) vs++aG (aJ (aF aI h (idsL caps++idsL vs) [])) caps)with
  |none=>rfl
  |some r=>grind
 |sl id gen off len=>
  simp only[oS,mapA]
  cases aJ (aF aI h (idsL (A.sl id gen off len::vs)) []) id<;>rfl
 |ptr id gen off=>
  simp only[oS,mapA]
  cases aJ (aF aI h (idsL (A.ptr id gen off::vs)) []) id<;>rfl
 |mp id=>
  simp only[oS,mapA]
  cases aJ (aF aI h (idsL (A.mp id::vs)) []) id<;>rfl
 |agg cs=>simp only[oS,mapA,eZ]
 |tup cs=>simp only[oS,mapA,eZ]
 |junk=>simp only[oS,mapA,eZ]
theorem aIZ{t:Nat}{args:List Operand}{tys:Array TypeId}:kOp E call thaw dst (.call ⟨.value (.tmp t),args.toArray,tys⟩) s h k=match box (s.getD t (.d .undef))with
  |.no=>none
  |.mk g=>kvs s args fun vs=>oS E call h g vs k:=by
 unfold kOp kvs;simp only[opds,bT,cE,box]
 cases bT s args with
 |none=>rfl
 |some vs=>simp only[wZ,if_true];exact aRL
theorem aJE{f:FuncId}{caps:List D}{vs:List A}:oS E call h (.d (.fn f caps)) vs k=match box (vs++caps.map .d)with|.no=>none|.mk as'=>aX E call h f as' k:=rfl
theorem aGy{f:FuncId}{caps vs:List A}:oS E call h (.clo f caps) vs k=L0 E call h f caps vs k:=rfl
theorem aEr{h:H}{ids:List Nat}{h1:H}{ord:List Nat}:∀(ord:List Nat) (h h1:H) (f:Nat->Option Nat),ord.length<=h1.length->(bJ f h ord h1).length=h.length+(h1.length-ord.length)
 | [],h,h1,f,_=>by simp[bJ]
 |i::ord,h,[],f,hl=>by simp at hl
 |i::ord,h,o::h1,f,hl=>by
  simp only[bJ,aEr (h:=h) (ids:=ids) (h1:=h1) (ord:=ord) ord _ h1 f (by simpa using hl),Bs,Ae];omega
def wrC(E:Env)(f:FuncId)(ord:List Nat):List Nat:=if(E.hint f).mode==3 then []else ord
def NO(E:Env)(f:FuncId)(h h':H)(ord:List Nat):Option (H×Foot):=if((E.hint f).mode==1&&h'.length-h.length==0)=true then some (h,{ ids:=ord,ro:=true})else some (h',{ ids:=ord++List.range' h.length (h'.length-h.length),ro:=false,wr:=wrC E f ord++List.range' h.length (h'.length-h.length)})
theorem aQU{f:FuncId}{args:List Operand}{tys:Array TypeId}{q:A->H->Foot->Option R}:kOpD E call thaw dst (.call ⟨.value (.func f),args.toArray,tys⟩) s h q=kvs s args fun vs=>match box (aF aI h (idsL vs) [])with
  |.no=>none
  |.mk ord=>aX E call h f vs fun a h'=>if((E.hint f).mode==1&&h'.length-h.length==0)=true then q a h { ids:=ord,ro:=true}else q a h' { ids:=ord++List.range' h.length (h'.length-h.length),ro:=false,wr:=wrC E f ord++List.range' h.length (h'.length-h.length)}:=by
 unfold kOpD kvs aX;simp only[opds,bT,cE,box]
 cases bT s args with
 |none=>rfl
 |some vs=>
  simp only[qW,rI,Al,if_false,i7,idsL,idsA,Aq,aG,mapA,evOp,eK,eZ,dO,Ai,jV]
  cases bY call E.hint (pack h (aF aI h (idsL vs) [])) f (aG (aJ (aF aI h (idsL vs) [])) vs)with
  |none=>rfl
  |some r=>
   obtain⟨a,h1⟩:=r
   by_cases c1:(aF aI h (idsL vs) []).length<=h1.length
   ·by_cases c2:closed h (aF aI h (idsL vs) []) (idsL vs)=true
    ·have e:=aEr (h:=h) (ids:=idsL vs) (h1:=h1) (ord:=[]) (aF aI h (idsL vs) []) h h1 (back (aF aI h (idsL vs) []) h.length h1.length) c1;have e2:(bJ (back (aF aI h (idsL vs) []) h.length h1.length) h (aF aI h (idsL vs) []) h1).length-h.length=h1.length-(aF aI h (idsL vs) []).length:=om;simp only[c1,c2,and_self,if_true,e2]
     first|done|rfl|(by_cases c3:((E.hint f).mode==1&&h1.length-(aF aI h (idsL vs) []).length==0)=true<;>simp[c3])
    ·grind
   ·grind
theorem YO{f:FuncId}{args:List Operand}{tys:Array TypeId}{q:A->H->Foot->Option R}:kOpD E call thaw dst (.call ⟨.value (.func f),args.toArray,tys⟩) s h q=kvs s args fun vs=>match box (aF aI h (idsL vs) [])with
  |.no=>none
  |.mk ord=>aX E call h f vs fun a h'=>match box (NO E f h h' ord)with|.mk (some (h'',c))=>q a h'' c|_=>none:=by
 rw[aQU]
 congr 1
 funext vs
 simp only[box]
 congr 1
 funext a h'
 unfold NO
 by_cases hc:((E.hint f).mode==1&&h'.length-h.length==0)=true
 ·grind
 ·grind
theorem aOy{t:Nat}{args:List Operand}{tys:Array TypeId}{q:A->H->Foot->Option R}{f:FuncId}{caps:List D}(hg:Now (s.getD t (.d .undef)=.d (.fn f caps))):kOpD E call thaw dst (.call ⟨.value (.tmp t),args.toArray,tys⟩) s h q=kvs s args fun vs=>match box (aF aI h (idsL vs) [])with
  |.no=>none
  |.mk ord=>aX E call h f (vs++caps.map .d) fun a h'=>if((E.hint f).mode==1&&h'.length-h.length==0)=true then q a h { ids:=ord,ro:=true}else q a h' { ids:=ord++List.range' h.length (h'.length-h.length),ro:=false,wr:=wrC E f ord++List.range' h.length (h'.length-h.length)}:=by
 have hg:=hg.it;unfold kOpD kvs aX;simp only[opds,bT,cE,box,hg]
 cases bT s args with
 |none=>rfl
 |some vs=>
  simp only[qW,rI,Al,if_false,i7,idsL,idsA,Aq,aG,mapA,evOp,eK,eZ,dO,Ai,jV,bN,aLy,cR,aH6]
  cases bY call E.hint (pack h (aF aI h (idsL vs) [])) f (aG (aJ (aF aI h (idsL vs) [])) vs++caps.map .d)with
  |none=>rfl
  |some r=>
   obtain⟨a,h1⟩:=r
   by_cases c1:(aF aI h (idsL vs) []).length<=h1.length
   ·by_cases c2:closed h (aF aI h (idsL vs) []) (idsL vs)=true
    ·have e:=aEr (h:=h) (ids:=idsL vs) (h1:=h1) (ord:=[]) (aF aI h (idsL vs) []) h h1 (back (aF aI h (idsL vs) []) h.length h1.length) c1;have e2:(bJ (back (aF aI h (idsL vs) []) h.length h1.length) h (aF aI h (idsL vs) []) h1).length-h.length=h1.length-(aF aI h (idsL vs) []).length:=om;simp only[c1,c2,and_self,if_true,e2]
     first|done|rfl|(by_cases c3:((E.hint f).mode==1&&h1.length-(aF aI h (idsL vs) []).length==0)=true<;>simp[c3])
    ·grind
   ·grind
def aXt(E:Env)(call:aZ)(thaw:List Nat)(dst:Option Tmp)(op:Op)(s:List A)(h:H)(q:A->H->Foot->Option R):Option R:=kOpD E call thaw dst op s h q
theorem aGb{t:Nat}{args:List Operand}{tys:Array TypeId}{q:A->H->Foot->Option R}:kOpD E call thaw dst (.call ⟨.value (.tmp t),args.toArray,tys⟩) s h q=match box (s.getD t (.d .undef))with
  |.mk (.d (.fn f caps))=>kvs s args fun vs=>match box (aF aI h (idsL vs) [])with
   |.no=>none
   |.mk ord=>match box (vs++caps.map .d)with|.no=>none|.mk as'=>aX E call h f as' fun a h'=>match box (NO E f h h' ord)with|.mk (some (h'',c))=>q a h'' c|_=>none
  |.mk (.clo f [])=>kvs s args fun vs=>match box (aF aI h (idsL vs) [])with
   |.no=>none
   |.mk ord=>aX E call h f vs fun a h'=>match box (NO E f h h' ord)with|.mk (some (h'',c))=>q a h'' c|_=>none
  |_=>aXt E call thaw dst (.call ⟨.value (.tmp t),args.toArray,tys⟩) s h q:=by
 have key:=fun(f:FuncId) (caps:List D) hg=>aOy (E:=E) (call:=call) (thaw:=thaw) (dst:=dst) (s:=s) (h:=h) (t:=t) (args:=args) (tys:=tys) (q:=q) (f:=f) (caps:=caps) hg
 have k2:∀f,s.getD t (.d .undef)=.clo f []->kOpD E call thaw dst (.call ⟨.value (.tmp t),args.toArray,tys⟩) s h q=kOpD E call thaw dst (.call ⟨.value (.func f),args.toArray,tys⟩) s h q:=by
  intro f hg;unfold kOpD kvs;simp only[opds,bT,cE,hg]
  cases bT s args<;>rfl
 have fold:∀(f:FuncId) (h h':H) (ord:List Nat) (a:A),(if((E.hint f).mode==1&&h'.length-h.length==0)=true then q a h { ids:=ord,ro:=true}else q a h' { ids:=ord++List.range' h.length (h'.length-h.length),ro:=false,wr:=wrC E f ord++List.range' h.length (h'.length-h.length)})=match box (NO E f h h' ord)with|.mk (some (h'',c))=>q a h'' c|_=>none:=by
  intro f h h' ord a;unfold NO
  by_cases hc:((E.hint f).mode==1&&h'.length-h.length==0)=true
  ·simp only[if_pos hc,box]
  ·simp only[if_neg hc,box]
 generalize hs:s.getD t (.d .undef)=a
 cases a with
 |d x=>
  cases x with
  |fn f caps=>
   rw[key f caps ⟨hs⟩];simp only[fold]<;>rfl
  |_=>rfl
 |clo f caps=>
  cases caps with
  |nil=>rw[k2 f hs];exact YO
  |cons c caps=>rfl
 |_=>rfl
theorem AB(n:Nat)(h:H):aF n h [] []=[]:=by cases n<;>rfl
mutual
theorem tA{f:Nat->Option Nat}:∀a:A,idsA a=[]->mapA f a=a
 |.d x,_=>by simp only[mapA]
 |.sl id gen off len,h=>by simp[idsA]at h
 |.ptr id gen off,h=>by simp[idsA]at h
 |.mp id,h=>by simp[idsA]at h
 |.clo g caps,h=>by simp only[idsA]at h;simp only[mapA];rw[fU caps h]
 |.agg cs,h=>by simp only[idsA]at h;simp only[mapA];rw[fU cs h]
 |.tup cs,h=>by simp only[idsA]at h;simp only[mapA];rw[fU cs h]
 |.junk,_=>by simp only[mapA]
theorem fU{f:Nat->Option Nat}:∀asx:List A,idsL asx=[]->aG f asx=asx
 | [],_=>by simp only[aG]
 |a::asx,h=>by
  simp only[idsL,List.append_eq_nil_iff]at h;simp only[aG];rw[tA a h.1,fU asx h.2]
end
theorem aSW{a:A}(h:sN a=true):idsA a=[]:=by
 cases a with
 |d x=>rfl
 |agg cs=>
  simp only[sN]at h;simp only[idsA]
  induction cs with
  |nil=>rfl
  |cons c cs ih=>
   simp only[Bx,Ar]at h;simp only[idsL,ih h.2,Ai]
   cases c<;>first|rfl|simp[isD]at h
 |_=>simp[sN]at h
theorem AX:∀ {asx:List A},asx.all sN=true->idsL asx=[]
 | [],_=>rfl
 |a::asx,h=>by
  simp only[Bx,Ar]at h;simp only[idsL,aSW h.1,AX h.2,Ai]
theorem aHe{h:H}:∀ {cs:List A},cs.all isD=true->∃ds,frzL h cs=some (ds,h)/\ds.map .d=cs
 | [],_=>⟨[],rfl,rfl⟩
 |c::cs,hs=>by
  simp only[Bx,Ar]at hs;obtain⟨ds,h1,h2⟩:=aHe (h:=h) hs.2
  cases c with
  |d x=>
   refine⟨x::ds,?_,by simp[h2]⟩;unfold frzL at h1|-;simp only[eD];have:frz deep h (.d x)=some (x,h):=rfl;rw[this];simp only[h1]
  |_=>simp[isD]at hs
theorem xC{h:H}:∀ {asx:List A},asx.all sN=true->d8 h asx=some (asx,h)
 | [],_=>rfl
 |a::asx,hs=>by
  simp only[Bx,Ar]at hs
  have ha:frzA h a=some (a,h):=by
   cases a with
   |d x=>rfl
   |agg cs=>
    obtain⟨ds,h1,h2⟩:=aHe (h:=h) (cs:=cs) (by simpa only[sN]using hs.1);simp only[frzA,h1,h2]
   |_=>simp[sN]at hs
  simp only[d8,ha,xC hs.2]
theorem aOl{r:A}(h:hJ r=true):lW r=true/\mapA (fun k=>back [] 0 0 k) r=r:=by
 cases r with
 |d x=>cases x<;>first|exact⟨rfl,rfl⟩|simp[hJ]at h
 |tup vs=>
  simp only[hJ]at h
  have key:j6 vs=true/\aG (fun k=>back [] 0 0 k) vs=vs:=by
   induction vs with
   |nil=>exact⟨rfl,by simp only[aG]⟩
   |cons v vs ih=>
    simp only[Bx,Ar]at h;obtain⟨i1,i2⟩:=ih h.2
    cases v with
    |d x=>cases x<;>first|(exfalso;simp at h;done)|(refine⟨by simp only[j6,lW,wN,i1,Bq],by simp only[aG,mapA,i2]⟩)
    |_=>grind
  exact⟨by simp only[lW];exact key.1,by simp only[mapA,key.2]⟩
 |_=>simp[hJ]at h
theorem aOh{f:FuncId}{args:List A}{r:A}(hs:args.all sN=true)(hc:call f args []=some (r,[]))(hp:hJ r=true\/((E.hint f).mode==1||(E.hint f).mode==3)=false):bY call E.hint [] f args=some (r,[]):=by
 unfold bY
 split
 ·exact hc
 ·rename_i hm
  rw[xC hs];simp only[hc]
  rcases hp with hp|hp
  ·rw[hp];rfl
  ·grind
 ·rename_i hm
  rw[xC hs];simp only[hc]
  rcases hp with hp|hp
  ·obtain⟨h1,h2⟩:=aOl hp;rw[h1];exact congrArg (fun x=>some (x,([]:H))) h2
  ·grind
 ·rw[xC hs];simp only[hc]
theorem bS{f:FuncId}{args:List A}{r:A}(hs:args.all sN=true)(hc:call f args []=some (r,[]))(hr:idsA r=[])(hp:hJ r=true\/((E.hint f).mode==1||(E.hint f).mode==3)=false):aX E call h f args k=k r h:=by
 unfold aX;rw[AX hs,AB,fU _ (AX hs)];have:pack h []=[]:=rfl;rw[this,aOh hs hc hp];simp only[Ac,Ab,true_and,closed,Cd,Bq,if_true,tA r hr,bJ,As,Ai]
def xW(call:aZ)(f:FuncId)(args:List A)(k:A->Option R):Option R:=
 match call f args []with
 |some (r,[])=>if hJ r=true then k r else none
 |_=>none
theorem lT{f:FuncId}{args:List A}{r:A}{k:A->Option R}(hc:call f args []=some (r,[]))(hp:hJ r=true):xW call f args k=k r:=by
 unfold xW;rw[hc];simp only[hp,if_true]
theorem aRb{r:A}(h:hJ r=true):idsA r=[]:=by
 cases r with
 |d x=>rfl
 |tup vs=>
  simp only[hJ]at h;simp only[idsA]
  induction vs with
  |nil=>rfl
  |cons v vs ih=>
   simp only[Bx,Ar]at h;simp only[idsL,ih h.2,Ai]
   cases v with
   |d x=>rfl
   |_=>grind
 |_=>simp[hJ]at h
theorem aI5(ord:List Nat)(n:Nat):back ord n ord.length=fun k=>ord[k]?:=by
 funext k
 unfold back
 split
 ·rfl
 ·grind
theorem aNl{h:H}{ord ids:List Nat}(hc:closed h ord ids=true)(hn:ord.Nodup)(hl:∀i∈ord,i<h.length):bJ (fun(k:Nat)=>ord[k]?) h ord (pack h ord)=h:=by
 apply Cr;intro id;rw[D6 _ ord h _ id hn hl (by simp[pack])]
 cases hp:aJ ord id with
 |none=>
  simp only[]
  split
  ·rfl
  ·rename_i hge
   rw[Cq (by simp[pack]),Cq om];rfl
 |some k=>
  simp only[];have hm:=NF hp;obtain⟨o,ho⟩:∃o,h[id]? =some o:=⟨h[id]'(hl id hm),Ad _⟩
  rw[iN (bH hp) ho,ho,Bb,aA4 hc hm ho]
theorem aN0{f:FuncId}{args:List A}(hm:(E.hint f).mode=1):aX E call h f args k=match box (aF aI h (idsL args) [])with
  |.no=>none
  |.mk ord=>match box (d8 (pack h ord) (aG (aJ ord) args))with
   |.mk (some (fs,_))=>if closed h ord (idsL args)=true then xW call f fs fun r=>k r h else none
   |_=>none:=by
 unfold aX bY;rw[hm];simp only[box]
 cases hf:d8 (pack h (aF aI h (idsL args) [])) (aG (aJ (aF aI h (idsL args) [])) args)with
 |none=>rfl
 |some r=>
  obtain⟨fs,h1⟩:=r;simp only[xW]
  cases hc:call f fs []with
  |none=>simp
  |some r=>
   obtain⟨a,h2⟩:=r
   cases h2 with
   |cons o h2=>simp
   |nil=>
    by_cases hp:hJ a=true
    ·simp only[hp,if_true];have hlen:(pack h (aF aI h (idsL args) [])).length=(aF aI h (idsL args) []).length:=by simp[pack]
     simp only[hlen,Ab,true_and]
     by_cases hcl:closed h (aF aI h (idsL args) []) (idsL args)=true
     ·simp only[hcl,if_true,aI5,tA a (aRb hp)];rw[aNl hcl (bW aI h (idsL args) [] smp) (kD aI h (idsL args) [] smp)]
     ·grind
    ·grind
def aBc(h:H)(args:List A):Option (List A):=match box (aF aI h (idsL args) [])with
 |.no=>none
 |.mk ord=>match box (d8 (pack h ord) (aG (aJ ord) args))with
  |.mk (some (fs,_))=>if closed h ord (idsL args)=true then some fs else none
  |_=>none
theorem d7{f:FuncId}{args:List A}(hm:(E.hint f).mode=1):aX E call h f args k=match box (aBc h args)with
  |.mk (some fs)=>xW call f fs fun r=>k r h
  |_=>none:=by
 rw[aN0 hm];unfold aBc;simp only[box]
 cases d8 (pack h (aF aI h (idsL args) [])) (aG (aJ (aF aI h (idsL args) [])) args)with
 |none=>rfl
 |some r=>grind
theorem aO3{nf:Nat}{h:H}{ord:List Nat}{s:List A}:trim nf h ord s=match box (pack h ord)with
  |.mk p=>(aV nf p (aG (aJ ord) s),cJ nf p)
  |.no=>([],[]):=rfl
theorem aVb{nf:Nat}{m:List Bool}{s:List A}{h:H}:gc nf m s h=match box (tidy m s)with
  |.mk s1=>match box (dD nf h (idsL s1))with
   |.mk ord=>trim nf h ord s1
   |.no=>([],[])
  |.no=>([],[]):=rfl
theorem aPK{P:Program}{nf:Nat}{exp:Bool}{rs:List ResultVar}{e:Exit}{s:List A}{h:H}:kFin P nf exp rs e s h=
  if mT e then(match lY P s h rs with
   |some rs=>match p9 nf exp h rs with
    |some (xs,h2)=>match box (dD nf h2 (idsL xs))with
     |.mk ord=>match box (trim nf h2 ord xs)with
      |.mk r=>some (tupA r.1,r.2)
      |.no=>none
     |.no=>none
    |none=>none
   |none=>none)else none:=rfl
theorem vA(nf:Nat)(h:H)(ids:List Nat):dD nf h ids=aF 1099511627776 h (eM (h.take nf)++ids) (List.range nf):=rfl
theorem rng0:List.range 0=[]:=rfl
theorem rng1:List.range 1=[0]:=rfl
theorem rng2:List.range 2=[0,1]:=rfl
theorem YN(h:H)(ids:List Nat):dD 0 h ids=aF 1099511627776 h ids []:=by
 unfold dD;rfl
theorem yT(n:Nat)(h:H)(acc:List Nat):aF n h [] acc=acc:=by cases n<;>rfl
theorem qH(n:Nat)(h:H)(i:Nat)(todo acc:List Nat):aF (n+1) h (i::todo) acc=if acc.contains i=true then aF n h todo acc
  else match h.getD i .void with
   |.box cs=>aF n h (todo++idsL cs) (acc++[i])
   |.vec cs _ _=>aF n h (todo++idsL cs) (acc++[i])
   |.void=>aF n h todo acc
   |_=>aF n h todo (acc++[i]):=by
 simp only[aF,Aa]
 split
 ·rfl
 ·grind
theorem aMM{α:Type}{c:Prop}[Decidable c]{a:α}(hc:c):(if c then some a else none)=some a:=if_pos hc
def iAnd(k:IntKind)(a b:Int):Int:=k.wrap (BitVec.ofInt k.bits a&&&BitVec.ofInt k.bits b).toNat
def iOr(k:IntKind)(a b:Int):Int:=k.wrap (BitVec.ofInt k.bits a|||BitVec.ofInt k.bits b).toNat
def iXor(k:IntKind)(a b:Int):Int:=k.wrap (BitVec.ofInt k.bits a^^^BitVec.ofInt k.bits b).toNat
section
variable{t:TypeId}{K:IntKind}{a b:Int}
theorem aJD:b6 E .add t h (.d (.int K a)) (.d (.int K b))=some (.d (.int K (K.wrap (a+b))),h):=by simp[b6,aBin];rfl
theorem aJW:b6 E .sub t h (.d (.int K a)) (.d (.int K b))=some (.d (.int K (K.wrap (a-b))),h):=by simp[b6,aBin];rfl
theorem aJz:b6 E .mul t h (.d (.int K a)) (.d (.int K b))=some (.d (.int K (K.wrap (a*b))),h):=by simp[b6,aBin];rfl
theorem aJX:b6 E .and t h (.d (.int K a)) (.d (.int K b))=some (.d (.int K (iAnd K a b)),h):=by simp[b6,aBin];rfl
theorem aMC:b6 E .or t h (.d (.int K a)) (.d (.int K b))=some (.d (.int K (iOr K a b)),h):=by simp[b6,aBin];rfl
theorem aJS:b6 E .xor t h (.d (.int K a)) (.d (.int K b))=some (.d (.int K (iXor K a b)),h):=by simp[b6,aBin];rfl
theorem aJ6:b6 E .lss t h (.d (.int K a)) (.d (.int K b))=some (.d (.bool (decide (a<b))),h):=by simp[b6,aBin]
theorem aJY:b6 E .leq t h (.d (.int K a)) (.d (.int K b))=some (.d (.bool (decide (a<=b))),h):=by simp[b6,aBin]
theorem aIN:b6 E .gtr t h (.d (.int K a)) (.d (.int K b))=some (.d (.bool (decide (b<a))),h):=by simp[b6,aBin]
theorem aJC:b6 E .geq t h (.d (.int K a)) (.d (.int K b))=some (.d (.bool (decide (b<=a))),h):=by simp[b6,aBin]
theorem aIL:b6 E .eql t h (.d (.int K a)) (.d (.int K b))=some (.d (.bool (decide (a=b))),h):=by simp[b6,aBin];rfl
theorem aIp:b6 E .neq t h (.d (.int K a)) (.d (.int K b))=some (.d (.bool (!decide (a=b))),h):=by simp[b6,aBin];rfl
theorem aJo(hb:b≠0):b6 E .quo t h (.d (.int K a)) (.d (.int K b))=some (.d (.int K (K.wrap (a.tdiv b))),h):=by simp[b6,aBin,hb]
theorem aKa(hb:b≠0):b6 E .rem t h (.d (.int K a)) (.d (.int K b))=some (.d (.int K (a.tmod b)),h):=by simp[b6,aBin,hb]
theorem aJM{K2:IntKind}(hb:0<=b):b6 E .shl t h (.d (.int K a)) (.d (.int K2 b))=some (.d (.int K (K.wrap (a*2^(min b.toNat K.bits)))),h):=by
 have:¬b<0:=om;simp[b6,aBin,Op.shift,this];rfl
theorem aIy{K2:IntKind}(hb:0<=b):b6 E .shr t h (.d (.int K a)) (.d (.int K2 b))=some (.d (.int K (a.fdiv (2^(min b.toNat K.bits)))),h):=by
 have:¬b<0:=om;simp[b6,aBin,Op.shift,this];rfl
theorem aO1{b:Bool}:aUn .not (.d (.bool b))=some (.d (.bool (!b))):=rfl
end
end
theorem WD:type_of% (AI @aEZ (AI @aIC (AI @aB6 (AI @aJu (AI @aG5 (AI @aCH (AI @aGl (AI @aES (AI @aID (AI @aLQ (AI @aIJ (AI @aIO (AI @aE9 (AI @aCG (AI @aCk (AI @aRV (AI @aRW (AI @aPF (AI @aRr (AI @aO5 (AI @aO7 (AI @aOM (AI @aPk (AI @aMb (AI @aNa (AI @R7 (AI @L7 (AI @aPz (AI @aSn (AI @aMw (AI @aAI (AI @aMD (AI @aLL (AI @aIm (AI @aIt (AI @aPv (AI @aJ0 (AI @RL (AI @ZX (AI @WO (AI @aCo (AI @aCb (AI @VS (AI @V4 (AI @aI4 (AI @aDd (AI @aDb (AI @aKf (AI @aPK (AI @aAQ (AI @aFm (AI @aIG (AI @aC2 (AI @aGc @V1)))))))))))))))))))))))))))))))))))))))))))))))))))))):=
 ⟨@aEZ,@aIC,@aB6,@aJu,@aG5,@aCH,@aGl,@aES,@aID,@aLQ,@aIJ,@aIO,@aE9,@aCG,@aCk,@aRV,@aRW,@aPF,@aRr,@aO5,@aO7,@aOM,@aPk,@aMb,@aNa,@R7,@L7,@aPz,@aSn,@aMw,@aAI,@aMD,@aLL,@aIm,@aIt,@aPv,@aJ0,@RL,@ZX,@WO,@aCo,@aCb,@VS,@V4,@aI4,@aDd,@aDb,@aKf,@aPK,@aAQ,@aFm,@aIG,@aC2,@aGc,@V1⟩
theorem WDD:type_of% (AI @aIk (AI @aFH (AI @aCU (AI @aFZ (AI @OA (AI @aIU (AI @QS (AI @aCx (AI @aNp (AI @aJn (AI @aIz (AI @VP (AI @aLV (AI @aO0 (AI @WW (AI @SU (AI @aAb (AI @aGi (AI @YO (AI @aIZ (AI @aJE @aGy))))))))))))))))))))):=
 ⟨@aIk,@aFH,@aCU,@aFZ,@OA,@aIU,@QS,@aCx,@aNp,@aJn,@aIz,@VP,@aLV,@aO0,@WW,@SU,@aAb,@aGi,@YO,@aIZ,@aJE,@aGy⟩
theorem WK0:type_of% (AI @aRy (AI @aO1 (AI @aJD (AI @aJW (AI @aJz (AI @aJX (AI @aMC (AI @aJS (AI @aJo (AI @aKa (AI @aJM (AI @aIy (AI @aJ6 (AI @aJY (AI @aIN (AI @aJC (AI @aIL (AI @aIp (AI @List.getD_nil.{0} (AI @Cj.{0} (AI @Bt.{0} (AI @aVb @aO3)))))))))))))))))))))):=
 ⟨@aRy,@aO1,@aJD,@aJW,@aJz,@aJX,@aMC,@aJS,@aJo,@aKa,@aJM,@aIy,@aJ6,@aJY,@aIN,@aJC,@aIL,@aIp,@List.getD_nil.{0},@Cj.{0},@Bt.{0},@aVb,@aO3⟩
theorem WK1:type_of% (AI @Bool.not_true (AI @Bool.not_false (AI @Bool.true_eq_false (AI @decide_eq_true_eq (AI @decide_eq_false_iff_not (AI @Bb.{0,0} (AI @decide_true (AI @decide_false (AI @aMM (AI @Ch (AI @Nat.one_mul (AI @Ba.{0} (AI @Bx.{0} (AI @Cd.{0} (AI @Bq (AI @Bool.and_true @Bool.true_and)))))))))))))))):=
 ⟨@Bool.not_true,@Bool.not_false,@Bool.true_eq_false,@decide_eq_true_eq,@decide_eq_false_iff_not,@Bb.{0,0},@decide_true,@decide_false,@aMM,@Ch,@Nat.one_mul,@Ba.{0},@Bx.{0},@Cd.{0},@Bq,@Bool.and_true,@Bool.true_and⟩
theorem WK2:type_of% (AI @Co (AI @Dr (AI @List.zip_cons_cons.{0,0} (AI @List.zip_nil_left.{0,0} (AI @List.flatten_cons.{0} (AI @List.flatten_nil.{0} (AI @List.take_zero.{0} (AI @List.take_nil.{0} (AI @List.drop_nil.{0} (AI @Bool.or_self (AI @Bool.or_false (AI @Cb (AI @and_self (AI @and_true (AI @true_and (AI @Bool.or_true (AI @Bool.true_or (AI @Ds.{0} (AI @List.take_succ_cons.{0} (AI @Nat.lt_irrefl (AI @List.head?_cons.{0} (AI @List.contains_cons.{0} (AI @List.contains_nil.{0} @vA))))))))))))))))))))))):=
 ⟨@Co,@Dr,@List.zip_cons_cons.{0,0},@List.zip_nil_left.{0,0},@List.flatten_cons.{0},@List.flatten_nil.{0},@List.take_zero.{0},@List.take_nil.{0},@List.drop_nil.{0},@Bool.or_self,@Bool.or_false,@Cb,@and_self,@and_true,@true_and,@Bool.or_true,@Bool.true_or,@Ds.{0},@List.take_succ_cons.{0},@Nat.lt_irrefl,@List.head?_cons.{0},@List.contains_cons.{0},@List.contains_nil.{0},@vA⟩
theorem WK3:type_of% (AI @rng0 (AI @rng1 (AI @rng2 (AI @Option.isNone_none.{0} (AI @Option.isNone_some.{0} (AI @Cn.{0} (AI @Cv.{0} (AI @yT (AI @qH (AI @beq_self_eq_true.{0} (AI @Nat.succ_ne_self (AI @Nat.zero_ne_one (AI @Af.{0} (AI @or_false @or_true)))))))))))))):=
 ⟨@rng0,@rng1,@rng2,@Option.isNone_none.{0},@Option.isNone_some.{0},@Cn.{0},@Cv.{0},@yT,@qH,@beq_self_eq_true.{0},@Nat.succ_ne_self,@Nat.zero_ne_one,@Af.{0},@or_false,@or_true⟩
theorem WK:type_of% (AI @WK0 (AI @WK1 (AI @WK2 @WK3))):=
 ⟨@WK0,@WK1,@WK2,@WK3⟩
section
variable{E:Env}{vs:List A}{t u:TypeId}{x y:Operand}
theorem aCF:jV E (.convert t u x) vs=(cY E.P u).isNone:=rfl
theorem W0{a:Array Operand}{b:Array TypeId}:jV E (.call ⟨.builtin .append,a,b⟩) vs=false:=rfl
theorem aAy:jV E (.alloc t) vs=false:=rfl
theorem W6:jV E (.assign x) vs=false:=rfl
theorem aAB:jV E (.store t x y) vs=false:=rfl
theorem aIv{n:Nat}{ps:Array (Nat×Operand)}:jV E (.buildSlice t n ps) vs=false:=rfl
theorem aFK:opds (.alloc t)=[]:=rfl
end
theorem UNx5:type_of% (fun v0 v1 v2 v3=> @outA.eq_2 v0 v1 v2 (A.d v3) nfn):=by intros;rfl
theorem UNx6:type_of% (fun v0 v1 v2 v3 v4 v5 v6=> @outA.eq_2 v0 v1 v2 (A.sl v3 v4 v5 v6) nfn):=by intros;rfl
theorem UNx7:type_of% (fun v0 v1 v2 v3 v4 v5=> @outA.eq_2 v0 v1 v2 (A.ptr v3 v4 v5) nfn):=by intros;rfl
theorem UNx9:type_of% (fun v0 v1 v2 v3 v4=> @outA.eq_2 v0 v1 v2 (A.clo v3 v4) nfn):=by intros;rfl
theorem aU4:type_of% (fun v0 v1 v2 v3 v4=> @outS.eq_2 v0 v1 v2 (D.int v3 v4) nfn):=by intros;rfl
theorem aVh:type_of% (fun v0 v1 v2 v3=> @outS.eq_2 v0 v1 v2 (D.bool v3) nfn):=by intros;rfl
theorem aVp:type_of% (fun v0 v1 v2 v3=> @outS.eq_2 v0 v1 v2 (D.str v3) nfn):=by intros;rfl
theorem aVi:type_of% (fun v0 v1 v2 v3 v4=> @outS.eq_2 v0 v1 v2 (D.ivs v3 v4) nfn):=by intros;rfl
theorem aVe:type_of% (fun v0 v1=> @gF.eq_3 (A.d (D.int v0 v1)) nfn nfn):=by intros;rfl
theorem aU7:type_of% (fun v0=> @gF.eq_3 (A.d (D.bool v0)) nfn nfn):=by intros;rfl
theorem aVa:type_of% (fun v0=> @gF.eq_3 (A.d (D.str v0)) nfn nfn):=by intros;rfl
theorem aVj:type_of% (fun v0 v1=> @gF.eq_3 (A.d (D.ivs v0 v1)) nfn nfn):=by intros;rfl
theorem aVf:type_of% (@gF.eq_3 (A.d D.nils) nfn nfn):=(@gF.eq_3 (A.d D.nils) nfn nfn)
theorem aVm:type_of% (fun v0 v1=> @gF.eq_3 (A.d (D.fn v0 v1)) nfn nfn):=by intros;rfl
theorem aVt:type_of% (fun v0 v1 v2 v3=> @gF.eq_3 (A.sl v0 v1 v2 v3) nfn nfn):=by intros;rfl
theorem aVd:type_of% (fun v0 v1 v2=> @gF.eq_3 (A.ptr v0 v1 v2) nfn nfn):=by intros;rfl
theorem aVs:type_of% (fun v0=> @gF.eq_3 (A.mp v0) nfn nfn):=by intros;rfl
theorem aVg:type_of% (fun v0 v1=> @gF.eq_3 (A.clo v0 v1) nfn nfn):=by intros;rfl
theorem aVl:type_of% (fun v0=> @tidy.eq_3 List.nil v0 nfn nfn):=by intros;rfl
theorem aU2:type_of% (fun v0 v1 v2 v3 v4=> @cH.eq_2 v0 v1 v2 v3 (A.d v4) nfn):=by intros;rfl
theorem aVr:type_of% (fun v0 v1 v2 v3 v4 v5 v6 v7=> @cH.eq_2 v0 v1 v2 v3 (A.sl v4 v5 v6 v7) nfn):=by intros;rfl
theorem aU9:type_of% (fun v0 v1=> @aBa.eq_2 v0 (A.d v1) nfn):=by intros;rfl
theorem aVu:type_of% (fun v0 v1 v2=> @frz.eq_5 v0 (A.d v2) v1 nfn nfn nfn):=by intros;rfl
theorem aU5:type_of% (fun v0=> @a6.eq_2 (A.d v0) nfn):=by intros;rfl
theorem aVn:type_of% (fun v0 v1 v2 v3=> @a6.eq_2 (A.sl v0 v1 v2 v3) nfn):=by intros;rfl
theorem aVq:type_of% (fun v0=> @a6.eq_2 (A.mp v0) nfn):=by intros;rfl
theorem aSL:type_of% (fun v0 v1=> @dT.eq_5 (A.d (D.int v0 v1)) nfn nfn nfn nfn):=by intros;rfl
theorem aSZ:type_of% (fun v0=> @dT.eq_5 (A.d (D.bool v0)) nfn nfn nfn nfn):=by intros;rfl
theorem aRd:type_of% (fun v0=> @dT.eq_5 (A.d (D.str v0)) nfn nfn nfn nfn):=by intros;rfl
theorem aRw:type_of% (fun v0 v1=> @dT.eq_5 (A.d (D.ivs v0 v1)) nfn nfn nfn nfn):=by intros;rfl
theorem aSG:type_of% (@dT.eq_5 (A.d D.nils) nfn nfn nfn nfn):=(@dT.eq_5 (A.d D.nils) nfn nfn nfn nfn)
theorem aRI:type_of% (fun v0 v1=> @dT.eq_5 (A.d (D.fn v0 v1)) nfn nfn nfn nfn):=by intros;rfl
theorem aRl:type_of% (fun v0 v1 v2 v3=> @dT.eq_5 (A.sl v0 v1 v2 v3) nfn nfn nfn nfn):=by intros;rfl
theorem aRp:type_of% (fun v0=> @dT.eq_5 (A.mp v0) nfn nfn nfn nfn):=by intros;rfl
theorem aRZ:type_of% (fun v0=> @y3.eq_2 (A.d v0) nfn):=by intros;rfl
theorem aS1:type_of% (fun v0 v1 v2 v3=> @y3.eq_2 (A.sl v0 v1 v2 v3) nfn):=by intros;rfl
theorem aR2:type_of% (fun v0=> @y3.eq_2 (A.agg v0) nfn):=by intros;rfl
theorem aRK:type_of% (fun v0 v1 v2 v3=> @eM.eq_4 (O.arr v1 v2 v3) v0 nfn nfn):=by intros;rfl
theorem aSc:type_of% (fun v0 v1=> @eM.eq_4 (O.mp v1) v0 nfn nfn):=by intros;rfl
theorem aSm:type_of% (@tupA.eq_2 List.nil nfn):=(@tupA.eq_2 List.nil nfn)
theorem aS7:type_of% (fun v0 v1 v2=> @tupA.eq_2 (List.cons v0 (List.cons v1 v2)) nfn):=by intros;rfl
theorem aSR:type_of% (fun v0 v1 v2 v3 v4=> @MR.eq_2 v0 v1 (Go.Operand.tmp v4) v2 v3 nfn):=by intros;rfl
theorem aRB:type_of% (fun v0 v1 v2 v3=> @bE.eq_3 v0 (A.d (D.int v2 v3)) v1 nfn):=by intros;rfl
theorem aRC:type_of% (fun v0 v1 v2 v3=> @bE.eq_3 v0 (A.d (D.ivs v2 v3)) v1 nfn):=by intros;rfl
theorem aTb:type_of% (fun v0 v1 v2 v3=> @bE.eq_3 v0 (A.d (D.fn v2 v3)) v1 nfn):=by intros;rfl
theorem aS5:type_of% (fun v0 v1 v2 v3 v4 v5=> @bE.eq_3 v0 (A.sl v2 v3 v4 v5) v1 nfn):=by intros;rfl
theorem aSa:type_of% (fun v0 v1 v2=> @bE.eq_3 v0 (A.mp v2) v1 nfn):=by intros;rfl
theorem aSs:type_of% (fun v0 v1 v2 v3=> @mapO.eq_3 v0 (O.arr v1 v2 v3) nfn nfn):=by intros;rfl
theorem aTc:type_of% (fun v0 v1 v2 v3=> @mapO.eq_3 v0 (O.ice v1 v2 v3) nfn nfn):=by intros;rfl
theorem aS0:type_of% (fun v0 v1=> @mapO.eq_3 v0 (O.log v1) nfn nfn):=by intros;rfl
theorem aSV:type_of% (fun v0 v1=> @mapO.eq_3 v0 (O.mp v1) nfn nfn):=by intros;rfl
theorem aSD:type_of% (fun v0 v1=> @frzA.eq_2 v0 (A.d v1) nfn):=by intros;rfl
theorem aSj:type_of% (fun v0 v1 v2 v3 v4=> @frzA.eq_2 v0 (A.sl v1 v2 v3 v4) nfn):=by intros;rfl
theorem aRm:type_of% (fun v0 v1 v2=> @frzA.eq_2 v0 (A.clo v1 v2) nfn):=by intros;rfl
theorem UN0:type_of% (AI @aFK (AI @aLen.eq_def (AI @W0 (AI @aCF (AI @aAy (AI @W6 (AI @aAB (AI @aIv (AI @List.range'.eq_1 (AI @List.range'.eq_2 (AI @SH.eq_1 @RB.eq_1))))))))))):=
 ⟨@aFK,@aLen.eq_def,@W0,@aCF,@aAy,@W6,@aAB,@aIv,@List.range'.eq_1,@List.range'.eq_2,@SH.eq_1,@RB.eq_1⟩
theorem UN1:type_of% (AI @aPut.eq_1 (AI @aPut.eq_2 (AI @mT.eq_1 (AI @mT.eq_2 (AI @outA.eq_1 (AI @UNx5 (AI @UNx6 (AI @UNx7 (AI @UNx9 (AI @outS.eq_1 (AI @aU4 (AI @aVh (AI @aVp (AI @aVi (AI @outS.eq_3 (AI @outS.eq_4 (AI @outS.eq_6 (AI @EB.eq_1 (AI @EB.eq_2 (AI @idsA.eq_1 @idsA.eq_2)))))))))))))))))))):=
 ⟨@aPut.eq_1,@aPut.eq_2,@mT.eq_1,@mT.eq_2,@outA.eq_1,@UNx5,@UNx6,@UNx7,@UNx9,@outS.eq_1,@aU4,@aVh,@aVp,@aVi,@outS.eq_3,@outS.eq_4,@outS.eq_6,@EB.eq_1,@EB.eq_2,@idsA.eq_1,@idsA.eq_2⟩
theorem UN2:type_of% (AI @idsA.eq_3 (AI @idsA.eq_4 (AI @idsA.eq_5 (AI @idsA.eq_7 (AI @idsA.eq_8 (AI @idsL.eq_1 (AI @idsL.eq_2 (AI @mapA.eq_1 (AI @mapA.eq_2 (AI @mapA.eq_3 (AI @mapA.eq_4 (AI @mapA.eq_5 (AI @mapA.eq_7 (AI @mapA.eq_8 (AI @aV.eq_1 (AI @aV.eq_2 (AI @bP.eq_1 (AI @bP.eq_2 (AI @bP.eq_3 (AI @bP.eq_4 (AI @bP.eq_5 (AI @bP.eq_7 (AI @bP.eq_8 (AI @iG.eq_1 (AI @MS.eq_1 (AI @bC.eq_1 (AI @cJ.eq_1 (AI @dS.eq_1 (AI @dS.eq_2 (AI @b5.eq_1 (AI @b5.eq_2 (AI @b5.eq_3 (AI @b5.eq_4 (AI @b5.eq_5 (AI @b5.eq_6 @aG.eq_1))))))))))))))))))))))))))))))))))):=
 ⟨@idsA.eq_3,@idsA.eq_4,@idsA.eq_5,@idsA.eq_7,@idsA.eq_8,@idsL.eq_1,@idsL.eq_2,@mapA.eq_1,@mapA.eq_2,@mapA.eq_3,@mapA.eq_4,@mapA.eq_5,@mapA.eq_7,@mapA.eq_8,@aV.eq_1,@aV.eq_2,@bP.eq_1,@bP.eq_2,@bP.eq_3,@bP.eq_4,@bP.eq_5,@bP.eq_7,@bP.eq_8,@iG.eq_1,@MS.eq_1,@bC.eq_1,@cJ.eq_1,@dS.eq_1,@dS.eq_2,@b5.eq_1,@b5.eq_2,@b5.eq_3,@b5.eq_4,@b5.eq_5,@b5.eq_6,@aG.eq_1⟩
theorem UN3:type_of% (AI @aG.eq_2 (AI @r6.eq_1 (AI @r6.eq_2 (AI @r6.eq_3 (AI @gF.eq_1 (AI @gF.eq_2 (AI @aVe (AI @aU7 (AI @aVa (AI @aVj (AI @aVf (AI @aVm (AI @aVt (AI @aVd (AI @aVs (AI @aVg (AI @tidy.eq_1 (AI @tidy.eq_2 (AI @aVl (AI @cH.eq_1 (AI @aU2 (AI @aVr (AI @cH.eq_3 @rJ.eq_1))))))))))))))))))))))):=
 ⟨@aG.eq_2,@r6.eq_1,@r6.eq_2,@r6.eq_3,@gF.eq_1,@gF.eq_2,@aVe,@aU7,@aVa,@aVj,@aVf,@aVm,@aVt,@aVd,@aVs,@aVg,@tidy.eq_1,@tidy.eq_2,@aVl,@cH.eq_1,@aU2,@aVr,@cH.eq_3,@rJ.eq_1⟩
theorem UN4:type_of% (AI @m9.eq_1 (AI @qA.eq_1 (AI @H5.eq_1 (AI @aBa.eq_1 (AI @aU9 (AI @LI.eq_1 (AI @rG.eq_1 (AI @keeps.eq_1 (AI @logs.eq_1 (AI @O7.eq_1 @t8.eq_1)))))))))):=
 ⟨@m9.eq_1,@qA.eq_1,@H5.eq_1,@aBa.eq_1,@aU9,@LI.eq_1,@rG.eq_1,@keeps.eq_1,@logs.eq_1,@O7.eq_1,@t8.eq_1⟩
theorem UN5:type_of% (AI @c7.eq_2 (AI @c7.eq_4 (AI @lA.eq_1 (AI @pO.eq_1 (AI @EC.eq_1 (AI @nT.eq_1 (AI @nT.eq_2 (AI @uV.eq_1 (AI @iK.eq_1 (AI @iY.eq_1 (AI @iY.eq_3 (AI @frzL.eq_1 (AI @eD.eq_1 (AI @eD.eq_2 (AI @frz.eq_2 (AI @frz.eq_3 (AI @frz.eq_4 (AI @aVu (AI @frz0.eq_1 (AI @frz0.eq_2 (AI @deep.eq_1 (AI @a6.eq_1 (AI @aU5 (AI @aVn @aVq)))))))))))))))))))))))):=
 ⟨@c7.eq_2,@c7.eq_4,@lA.eq_1,@pO.eq_1,@EC.eq_1,@nT.eq_1,@nT.eq_2,@uV.eq_1,@iK.eq_1,@iY.eq_1,@iY.eq_3,@frzL.eq_1,@eD.eq_1,@eD.eq_2,@frz.eq_2,@frz.eq_3,@frz.eq_4,@aVu,@frz0.eq_1,@frz0.eq_2,@deep.eq_1,@a6.eq_1,@aU5,@aVn,@aVq⟩
theorem UN6:type_of% (AI @bK.eq_1 (AI @aSL (AI @aSZ (AI @aRd (AI @aRw (AI @aSG (AI @aRI (AI @aRl (AI @aRp (AI @aRZ (AI @aS1 (AI @aR2 (AI @eM.eq_1 (AI @eM.eq_2 (AI @aRK (AI @aSc @lY.eq_1)))))))))))))))):=
 ⟨@bK.eq_1,@aSL,@aSZ,@aRd,@aRw,@aSG,@aRI,@aRl,@aRp,@aRZ,@aS1,@aR2,@eM.eq_1,@eM.eq_2,@aRK,@aSc,@lY.eq_1⟩
theorem UN7:type_of% (AI @lY.eq_2 (AI @IZ.eq_1 (AI @IZ.eq_2 (AI @p9.eq_1 (AI @p9.eq_2 (AI @tupA.eq_1 (AI @aSm (AI @aS7 (AI @vF.eq_1 (AI @vC.eq_1 (AI @vC.eq_2 (AI @opds.eq_2 (AI @opds.eq_7 (AI @opds.eq_13 (AI @opds.eq_14 @opds.eq_24))))))))))))))):=
 ⟨@lY.eq_2,@IZ.eq_1,@IZ.eq_2,@p9.eq_1,@p9.eq_2,@tupA.eq_1,@aSm,@aS7,@vF.eq_1,@vC.eq_1,@vC.eq_2,@opds.eq_2,@opds.eq_7,@opds.eq_13,@opds.eq_14,@opds.eq_24⟩
theorem UN8:type_of% (AI @evOp.eq_1 (AI @dO.eq_1 (AI @one.eq_1 (AI @two.eq_1 (AI @DM.eq_1 @aSR))))):=
 ⟨@evOp.eq_1,@dO.eq_1,@one.eq_1,@two.eq_1,@DM.eq_1,@aSR⟩
theorem UN9:type_of% (AI @aNew.eq_1 (AI @rF.eq_3 (AI @rF.eq_4 (AI @zC.eq_1 @Q8.eq_1)))):=
 ⟨@aNew.eq_1,@rF.eq_3,@rF.eq_4,@zC.eq_1,@Q8.eq_1⟩
theorem UN10:type_of% (AI @back.eq_1 (AI @bJ.eq_1 (AI @bJ.eq_2 (AI @aI.eq_1 (AI @closed.eq_1 (AI @gY.eq_1 @bE.eq_1)))))):=
 ⟨@back.eq_1,@bJ.eq_1,@bJ.eq_2,@aI.eq_1,@closed.eq_1,@gY.eq_1,@bE.eq_1⟩
theorem UN11:type_of% (AI @bE.eq_2 (AI @aRB (AI @aRC (AI @aTb (AI @aS5 (AI @aSa (AI @aJ.eq_2 (AI @pack.eq_1 (AI @mapO.eq_1 (AI @mapO.eq_2 (AI @aSs (AI @aTc (AI @aS0 (AI @aSV (AI @bI.eq_1 (AI @frzA.eq_1 (AI @aSD (AI @aSj (AI @aRm @d8.eq_1))))))))))))))))))):=
 ⟨@bE.eq_2,@aRB,@aRC,@aTb,@aS5,@aSa,@aJ.eq_2,@pack.eq_1,@mapO.eq_1,@mapO.eq_2,@aSs,@aTc,@aS0,@aSV,@bI.eq_1,@frzA.eq_1,@aSD,@aSj,@aRm,@d8.eq_1⟩
theorem UN12:type_of% (AI @d8.eq_2 (AI @memD.eq_1 (AI @aBc.eq_1 (AI @NO.eq_1 @eK.eq_3)))):=
 ⟨@d8.eq_2,@memD.eq_1,@aBc.eq_1,@NO.eq_1,@eK.eq_3⟩
theorem UN:type_of% (AI @UN0 (AI @UN1 (AI @UN2 (AI @UN3 (AI @UN4 (AI @UN5 (AI @UN6 (AI @UN7 (AI @UN8 (AI @UN9 (AI @UN10 (AI @UN11 @UN12)))))))))))):=
 ⟨@UN0,@UN1,@UN2,@UN3,@UN4,@UN5,@UN6,@UN7,@UN8,@UN9,@UN10,@UN11,@UN12⟩
theorem aVo:type_of% (@bV.eq_5 Go.Code.skip nfn nfn nfn nfn):=(@bV.eq_5 Go.Code.skip nfn nfn nfn nfn)
theorem aVk:type_of% (fun v0 v1 v2=> @bV.eq_5 (Go.Code.region v0 v1 v2) nfn nfn nfn nfn):=(fun v0 v1 v2=> @bV.eq_5 (Go.Code.region v0 v1 v2) nfn nfn nfn nfn)
theorem aU6:type_of% (fun v0=> @bV.eq_5 (Go.Code.exit v0) nfn nfn nfn nfn):=(fun v0=> @bV.eq_5 (Go.Code.exit v0) nfn nfn nfn nfn)
theorem aSA:type_of% (@bV.eq_5 Go.Code.ret nfn nfn nfn nfn):=(@bV.eq_5 Go.Code.ret nfn nfn nfn nfn)
theorem SLM0:type_of% (AI @Bg.{0} (AI @Ac.{0} (AI @By (AI @Ag (AI @Aj.{0,0} (AI @As.{0,0} (AI @Cs.{0} (AI @Ay.{0} (AI @Dl.{0,0} (AI @Al (AI @Ae.{0} (AI @List.replicate.eq_1.{0} (AI @List.replicate.eq_2.{0} (AI @Ax.{0} (AI @Aq.{0} (AI @Ai.{0} (AI @List.getD_cons_zero.{0} (AI @Er.{0} (AI @aS.eq_1 (AI @aY.eq_1 (AI @lpOf.eq_1 (AI @aP.eq_1 (AI @slim.eq_1 (AI @slim.eq_2 (AI @slim.eq_3 (AI @slim.eq_4 (AI @slim.eq_5 (AI @slim.eq_6 (AI @slim.eq_7 (AI @slim.eq_8 (AI @bV.eq_1 (AI @bV.eq_2 @bV.eq_3)))))))))))))))))))))))))))))))):=
 ⟨@Bg.{0},@Ac.{0},@By,@Ag,@Aj.{0,0},@As.{0,0},@Cs.{0},@Ay.{0},@Dl.{0,0},@Al,@Ae.{0},@List.replicate.eq_1.{0},@List.replicate.eq_2.{0},@Ax.{0},@Aq.{0},@Ai.{0},@List.getD_cons_zero.{0},@Er.{0},@aS.eq_1,@aY.eq_1,@lpOf.eq_1,@aP.eq_1,@slim.eq_1,@slim.eq_2,@slim.eq_3,@slim.eq_4,@slim.eq_5,@slim.eq_6,@slim.eq_7,@slim.eq_8,@bV.eq_1,@bV.eq_2,@bV.eq_3⟩
theorem SLM1:type_of% (AI @bV.eq_4 (AI @aVo (AI @aVk (AI @aU6 (AI @aSA (AI @IL.eq_1 (AI @NY.eq_1 @NY.eq_2))))))):=
 ⟨@bV.eq_4,@aVo,@aVk,@aU6,@aSA,@IL.eq_1,@NY.eq_1,@NY.eq_2⟩
theorem SLM:type_of% (AI @SLM0 @SLM1):=
 ⟨@SLM0,@SLM1⟩
theorem LN:type_of% (AI @Af.{0} (AI @Ae.{0} (AI @Ac.{0} (AI @Bs.{0} (AI @List.length_replicate.{0} (AI @Am.{0,0} (AI @Bi.{0} @Cg.{0}))))))):=
 ⟨@Af.{0},@Ae.{0},@Ac.{0},@Bs.{0},@List.length_replicate.{0},@Am.{0,0},@Bi.{0},@Cg.{0}⟩
theorem GT:type_of% (AI @Cs.{0} @Ay.{0}):=
 ⟨@Cs.{0},@Ay.{0}⟩
end Ev
end Go.Proofs.YtppffbehejpglaaGreatDoor
