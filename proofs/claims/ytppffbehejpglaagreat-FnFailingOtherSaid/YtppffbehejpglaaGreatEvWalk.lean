/-
  How each operation goes, in the form in which the evaluator is walked.
-/
import Derived.Test.YtppffbehejpglaaGreatEvPrim
set_option linter.unusedSimpArgs false
set_option linter.unusedVariables false
set_option linter.unusedSectionVars false
namespace Go.Proofs.YtppffbehejpglaaGreat
namespace Ev
section
variable{R:Type}{E:Env}{call:aX}{thaw:List Nat}{dst:Option Tmp}{s:List A}{h:H}{k:A->H->Option R}
structure Now(p:Prop):Prop where
 it:p
structure Shut(p:Prop):Prop where
 it:p
inductive Box(α:Type) where
 |mk (a:α)
 |no
def box{α:Type}(a:α):Box α:=.mk a
theorem aPz{α:Type}{a:α}:box a=.mk a:=rfl
theorem aOS{t:Nat}{q:A->Option R}:kv s (.tmp t) q=match box (s.getD t (.d .undef))with|.no=>none|.mk a=>q a:=rfl
theorem aPx{K:IntKind}{n:Int}{q:A->Option R}:kv s (.const (.int K n)) q=q (.d (.int K n)):=rfl
theorem aLV{b:Bool}{q:A->Option R}:kv s (.const (.bool b)) q=q (.d (.bool b)):=rfl
theorem aPG{b:ByteArray}{q:A->Option R}:kv s (.const (.string b)) q=match box b.data.toList with|.no=>none|.mk l=>q (.d (.str l)):=rfl
theorem aMg{q:A->Option R}:kv s (.const (.pointer none)) q=q (.d .nilp):=rfl
theorem aLY{q:A->Option R}:kv s (.const (.slice none 0 0)) q=q (.d .nils):=rfl
theorem aMc{f:FuncId}{q:A->Option R}:kv s (.func f) q=q (.clo f []):=rfl
theorem aLE{q:List A->Option R}:kvs s [] q=q []:=rfl
theorem aI4{x:Operand}{xs:List Operand}{q:List A->Option R}:kvs s (x::xs) q=kv s x fun a=>kvs s xs fun asx=>q (a::asx):=by
 unfold kvs kv;simp only[bT]
 cases cJ s x with
 |none=>rfl
 |some a=>grind
theorem Z7{yes no:List A->Option R}:vK none s yes no=yes s:=rfl
theorem aAn{t:Nat}{w:Bool}{yes no:List A->Option R}:vK (some (some t,w)) s yes no=match s.getD t .junk with
  |.d (.bool b)=>if b=w then(match box (s.set t (.d (.bool w)))with|.no=>none|.mk s=>yes s)else(match box (s.set t (.d (.bool (!w))))with|.no=>none|.mk s=>no s)
  |.d .undef=>no s
  |_=>none:=by
 simp only[vK,Aa]
 cases s[t]? with
 |none=>rfl
 |some a=>
  cases a with
  |d x=>cases x<;>rfl
  |_=>rfl
theorem aKA{x:Operand}:kOp E call thaw dst (.move x) s h k=kv s x fun a=>k a h:=by
 unfold kOp kvs kv;simp only[opds,bT]
 cases cJ s x<;>rfl
def kAsg(thaw:List Nat)(dst:Option Tmp)(h:H)(k:A->H->Option R)(a:A):Option R:=
 match a with
 |.d .nils=>match OD thaw dst with
  |0=>k (.d .nils) h
  |e+1=>if e<1000 then k (.sl h.length 0 0 0) (h++[.arr [] e 0])else k (.sl h.length 0 0 0) (h++[.vec [] (e-1000) 0])
 |a=>k a h
theorem OW{t:Nat}:kOp E call thaw dst (.assign (.tmp t)) s h k=match box (s.getD t (.d .undef))with|.no=>none|.mk a=>k a h:=by
 unfold kOp kvs;rfl
theorem H5{v:Value}:kOp E call thaw dst (.assign (.const v)) s h k=kv s (.const v) (kAsg thaw dst h k):=by
 unfold kOp kvs kv kAsg;simp only[opds,bT]
 cases cJ s (.const v)with
 |none=>rfl
 |some a=>
  simp only[vQ,Ak,if_false,evOp,one,J1,dP]
  cases a with
  |d x=>grind
  |_=>rfl
def kRet(r:Option (A×H))(k:A->H->Option R):Option R:=
 match r with
 |some (a,h')=>k a h'
 |none=>none
theorem aLQ{op:BinOp}{t:TypeId}{x y:Operand}{t2:TypeId}:kOp E call thaw dst (.binOp op t x y t2) s h k=kv s x fun a=>kv s y fun b=>kRet (bW E op t h a b) k:=by
 unfold kOp kvs kv kRet;simp only[opds,bT]
 cases cJ s x with
 |none=>rfl
 |some a=>cases cJ s y<;>rfl
theorem aOa{op:UnOp}{t:TypeId}{x:Operand}:kOp E call thaw dst (.unOp op t x) s h k=kv s x fun a=>kRet ((aUn op a).map fun r=>(r,h)) k:=by
 unfold kOp kvs kv kRet;simp only[opds,bT]
 cases cJ s x<;>rfl
theorem aIi{c x y:Operand}:kOp E call thaw dst (.pick c x y) s h k=kv s c fun b=>kv s x fun a=>kv s y fun a'=>kRet (OP h [b,a,a']) k:=by
 unfold kOp kvs kv kRet;simp only[opds,bT]
 cases cJ s c with
 |none=>rfl
 |some b=>cases cJ s x with
  |none=>rfl
  |some a=>cases cJ s y<;>rfl
theorem VR{x:Operand}:kOp E call thaw dst (.nilCheck x) s h k=kv s x fun a=>kRet (tJ h a) k:=by
 unfold kOp kvs kv kRet;simp only[opds,bT]
 cases cJ s x<;>rfl
theorem aIt{t u:TypeId}{x:Operand}:kOp E call thaw dst (.convert t u x) s h k=kv s x fun a=>kRet (eQ E.P h t u a) k:=by
 unfold kOp kvs kv kRet;simp only[opds,bT]
 cases cJ s x<;>rfl
theorem aJm{t:TypeId}{x:Operand}:kOp E call thaw dst (.load t x) s h k=kv s x fun a=>kRet ((B5 E.P h t a).map fun v=>(v,h)) k:=by
 unfold kOp kvs kv kRet;simp only[opds,bT]
 cases cJ s x<;>rfl
theorem aG1{t:TypeId}{x y:Operand}:kOp E call thaw dst (.store t x y) s h k=kv s x fun a=>kv s y fun b=>kRet ((jK E.P h t a b).map fun h'=>(.d .undef,h')) k:=by
 unfold kOp kvs kv kRet;simp only[opds,bT]
 cases cJ s x with
 |none=>rfl
 |some a=>cases cJ s y<;>rfl
theorem aGh{t:TypeId}:kOp E call thaw dst (.alloc t) s h k=match box (dG E.P t)with
  |.no=>none
  |.mk none=>none
  |.mk (some z)=>kRet (aNew h z) k:=by
 unfold kOp kvs kRet;simp only[opds,bT,vQ,Ak,if_false,evOp,dP,box]
 cases dG E.P t<;>rfl
theorem aL2{t:TypeId}{x:Operand}:kOp E call thaw dst (.box t x) s h k=kv s x fun a=>kRet (aNew h a) k:=by
 unfold kOp kvs kv kRet;simp only[opds,bT]
 cases cJ s x<;>rfl
theorem aHd{t:TypeId}{ps:List (Nat×Operand)}:kOp E call thaw dst (.build t ps.toArray) s h k=match box (ps.map (·.2))with
  |.no=>none
  |.mk xs=>kvs s xs fun vs=>kRet ((vG E.P t ((ps.map (·.1)).zip vs)).map fun a=>(a,h)) k:=by
 rfl
theorem OT{t:TypeId}{n:Nat}{ps:List (Nat×Operand)}:kOp E call thaw dst (.buildSlice t n ps.toArray) s h k=match box (ps.map (·.2))with
  |.no=>none
  |.mk xs=>kvs s xs fun vs=>kRet (if logs thaw dst=true then J5 (kI E.P h t n ((ps.map (·.1)).zip vs))else if keeps thaw dst=true then sL E.P h t n ((ps.map (·.1)).zip vs)else kI E.P h t n ((ps.map (·.1)).zip vs)) k:=by
 rfl
theorem XU{fn:Fn}{cap:List Operand}:kOp E call thaw dst (.makeFunc fn #[] cap.toArray) s h k=kvs s cap fun vs=>kRet (OX h fn true vs) k:=by
 rfl
theorem SH{t:TypeId}{x y:Operand}:kOp E call thaw dst (.makeSlice t x y) s h k=kv s x fun a=>kv s y fun b=>kRet (iA a fun l=>iA b fun c=>if keeps thaw dst=true then IR E.P h t l c else gR E.P h t l c) k:=by
 unfold kOp kvs kv kRet;simp only[opds,bT]
 cases cJ s x with
 |none=>rfl
 |some a=>cases cJ s y<;>rfl
theorem Z3{t:TypeId}{x hi:Operand}:kOp E call thaw dst (.slice t x none (some hi) none) s h k=kvs s [x,hi] fun vs=>kRet (qG E.P h t false true vs) k:=rfl
theorem aAW{t:TypeId}{x lo hi:Operand}:kOp E call thaw dst (.slice t x (some lo) (some hi) none) s h k=kvs s [x,lo,hi] fun vs=>kRet (qG E.P h t true true vs) k:=rfl
theorem SJ{t:TypeId}{x:Operand}{f:Nat}:kOp E call thaw dst (.fieldAddr t x f) s h k=kv s x fun a=>kRet ((cZ E.P t f).bind fun r=>(tP r.1 a).map fun r=>(r,h)) k:=by
 unfold kOp kvs kv kRet;simp only[opds,bT]
 cases cJ s x<;>rfl
theorem RW{t:TypeId}{x y:Operand}:kOp E call thaw dst (.indexAddr t x y) s h k=kv s x fun a=>kv s y fun b=>kRet (iA b fun i=>(o8 E.P h t a i).map fun r=>(r,h)) k:=by
 unfold kOp kvs kv kRet;simp only[opds,bT]
 cases cJ s x with
 |none=>rfl
 |some a=>cases cJ s y<;>rfl
theorem aFX{t:TypeId}{x y:Operand}:kOp E call thaw dst (.index t x y) s h k=kv s x fun a=>kv s y fun b=>kRet (iA b fun i=>(OK E.P t a i).map fun r=>(r,h)) k:=by
 unfold kOp kvs kv kRet;simp only[opds,bT]
 cases cJ s x with
 |none=>rfl
 |some a=>cases cJ s y<;>rfl
theorem aAd{t:TypeId}:kOp E call thaw dst (.makeMap t none) s h k=k (.mp h.length) (h++[.mp []]):=rfl
theorem RX{t:TypeId}{x y z:Operand}:kOp E call thaw dst (.mapUpdate t x y z) s h k=kv s x fun a=>kv s y fun b=>kv s z fun c=>kRet (oT E.P h t a b c) k:=by
 unfold kOp kvs kv kRet;simp only[opds,bT]
 cases cJ s x with
 |none=>rfl
 |some a=>cases cJ s y with
  |none=>rfl
  |some b=>cases cJ s z<;>rfl
theorem aAK{x:Operand}{i:Nat}:kOp E call thaw dst (.extract x i) s h k=kv s x fun a=>kRet (xM h i a) k:=by
 unfold kOp kvs kv kRet;simp only[opds,bT]
 cases cJ s x<;>rfl
theorem aAc{b:Builtin}{args:List Operand}{tys:List TypeId}:kOp E call thaw dst (.call ⟨.builtin b,args.toArray,tys.toArray⟩) s h k=kvs s args fun vs=>kRet (cE E.P h b tys vs) k:=by
 rfl
theorem dI{op:Op}{q:A->H->Foot->Option R}(hp:Now (pQ op=true/\vQ op=false)):kOpD E call thaw dst op s h q=kOp E call thaw dst op s h fun a _=>q a h {}:=by
 obtain⟨hp,hc⟩:=hp.it;unfold kOpD kOp kvs;rw[hp,hc]
 cases bT s (opds op)with
 |none=>rfl
 |some vs=>grind
def memD(E:Env)(call:aX)(thaw:List Nat)(dst:Option Tmp)(op:Op)(h:H)(vs:List A):Option (A×H×Foot):=match box (aE aI h (idsL vs) [])with
 |.no=>none
 |.mk ord=>match box (evOp E call thaw (pack h ord) (dP dst op) (aF (aJ ord) vs))with
  |.mk (some (a,h1))=>if ord.length<=h1.length/\closed h ord (idsL vs)=true then
    (if(jI E op vs&&h1.length-ord.length==0)=true then some (mapA (back ord h.length h1.length) a,h,{ ids:=ord,ro:=true})
    else some (mapA (back ord h.length h1.length) a,bG (back ord h.length h1.length) h ord h1,{ ids:=ord++List.range' h.length (h1.length-ord.length),ro:=false,wr:=wrOf E op vs ord++List.range' h.length (h1.length-ord.length)}))
   else none
  |_=>none
theorem jV{op:Op}{q:A->H->Foot->Option R}(hp:Now (pQ op=false/\qD op=false)):kOpD E call thaw dst op s h q=match box (opds op)with|.no=>none|.mk xs=>kvs s xs fun vs=>match box (memD E call thaw dst op h vs)with
  |.mk (some (a,h',c))=>q a h' c
  |_=>none:=by
 simp only[box];unfold kOpD kvs;rw[hp.it.1,hp.it.2]
 cases bT s (opds op)with
 |none=>rfl
 |some vs=>
  simp only[Ak,if_false,iM,memD,box]
  cases evOp E call thaw (pack h (aE aI h (idsL vs) [])) (dP dst op) (aF (aJ (aE aI h (idsL vs) [])) vs)with
  |none=>rfl
  |some r=>grind
theorem U3{op:Op}{q:A->H->Foot->Option R}(hp:Now (pQ op=false/\qD op=true/\vQ op=false)):kOpD E call thaw dst op s h q=kvs s (opds op) fun vs=>kOp E call thaw dst op s h fun a _=>q a h { ids:=ids0 vs,ro:=true}:=by
 unfold kOpD kOp kvs;rw[hp.it.1,hp.it.2.1,hp.it.2.2]
 cases bT s (opds op)with
 |none=>rfl
 |some vs=>grind
theorem aBU{x:Operand}{xs:List Operand}{op:Op}{q:A->H->Foot->Option R}(hx:opds op=x::xs):(kvs s (opds op) fun vs=>kOp E call thaw dst op s h fun a _=>q a h { ids:=ids0 vs,ro:=true})=kv s x fun b=>kOp E call thaw dst op s h fun a _=>q a h { ids:=idsA b,ro:=true}:=by
 unfold kOp kv;rw[hx];unfold kvs;simp only[bT]
 cases cJ s x with
 |none=>rfl
 |some b=>
  cases bT s xs with
  |none=>rfl
  |some bs=>rfl
theorem aGs{t:TypeId}{x:Operand}{q:A->H->Foot->Option R}:kOpD E call thaw dst (.load t x) s h q=kv s x fun b=>kOp E call thaw dst (.load t x) s h fun a _=>q a h { ids:=idsA b,ro:=true}:=(U3 ⟨rfl,rfl,rfl⟩).trans (aBU rfl)
theorem aEM{t:TypeId}{x y:Operand}{q:A->H->Foot->Option R}:type_of% (jV (E:=E) (call:=call) (thaw:=thaw) (dst:=dst) (s:=s) (h:=h) (op:=.store t x y) (q:=q) ⟨rfl,rfl⟩):=jV ⟨rfl,rfl⟩
theorem aA2{x:Operand}{q:A->H->Foot->Option R}:type_of% (jV (E:=E) (call:=call) (thaw:=thaw) (dst:=dst) (s:=s) (h:=h) (op:=.assign x) (q:=q) ⟨rfl,rfl⟩):=jV ⟨rfl,rfl⟩
theorem aEG{t:TypeId}{q:A->H->Foot->Option R}:type_of% (jV (E:=E) (call:=call) (thaw:=thaw) (dst:=dst) (s:=s) (h:=h) (op:=.alloc t) (q:=q) ⟨rfl,rfl⟩):=jV ⟨rfl,rfl⟩
theorem MC{t:TypeId}{n:Nat}{ps:List (Nat×Operand)}{q:A->H->Foot->Option R}:type_of% (jV (E:=E) (call:=call) (thaw:=thaw) (dst:=dst) (s:=s) (h:=h) (op:=.buildSlice t n ps.toArray) (q:=q) ⟨rfl,rfl⟩):=jV ⟨rfl,rfl⟩
theorem aG9{t u:TypeId}{x:Operand}{q:A->H->Foot->Option R}:type_of% (jV (E:=E) (call:=call) (thaw:=thaw) (dst:=dst) (s:=s) (h:=h) (op:=.convert t u x) (q:=q) ⟨rfl,rfl⟩):=jV ⟨rfl,rfl⟩
theorem NV{t:TypeId}{x y:Operand}{q:A->H->Foot->Option R}:kOpD E call thaw dst (.indexAddr t x y) s h q=kv s x fun b=>kOp E call thaw dst (.indexAddr t x y) s h fun a _=>q a h { ids:=idsA b,ro:=true}:=(U3 ⟨rfl,rfl,rfl⟩).trans (aBU rfl)
theorem aAM{args tys:Array _}{q:A->H->Foot->Option R}:type_of% (jV (E:=E) (call:=call) (thaw:=thaw) (dst:=dst) (s:=s) (h:=h) (op:=.call ⟨.builtin .append,args,tys⟩) (q:=q) ⟨rfl,rfl⟩):=jV ⟨rfl,rfl⟩
theorem aIO{x:Operand}{xs:List Operand}{tys:Array _}{q:A->H->Foot->Option R}:kOpD E call thaw dst (.call ⟨.builtin .len,(x::xs).toArray,tys⟩) s h q=kv s x fun b=>kOp E call thaw dst (.call ⟨.builtin .len,(x::xs).toArray,tys⟩) s h fun a _=>q a h { ids:=idsA b,ro:=true}:=(U3 ⟨rfl,rfl,rfl⟩).trans (aBU rfl)
theorem aGl{x:Operand}{q:A->H->Foot->Option R}:type_of% (dI (E:=E) (call:=call) (thaw:=thaw) (dst:=dst) (s:=s) (h:=h) (op:=.move x) (q:=q) ⟨rfl,rfl⟩):=dI ⟨rfl,rfl⟩
theorem aG6{c x y:Operand}{q:A->H->Foot->Option R}:type_of% (dI (E:=E) (call:=call) (thaw:=thaw) (dst:=dst) (s:=s) (h:=h) (op:=.pick c x y) (q:=q) ⟨rfl,rfl⟩):=dI ⟨rfl,rfl⟩
theorem R4{x:Operand}{q:A->H->Foot->Option R}:type_of% (dI (E:=E) (call:=call) (thaw:=thaw) (dst:=dst) (s:=s) (h:=h) (op:=.nilCheck x) (q:=q) ⟨rfl,rfl⟩):=dI ⟨rfl,rfl⟩
theorem aKe{op:BinOp}{t:TypeId}{x y:Operand}{t2:TypeId}{q:A->H->Foot->Option R}:type_of% (dI (E:=E) (call:=call) (thaw:=thaw) (dst:=dst) (s:=s) (h:=h) (op:=.binOp op t x y t2) (q:=q) ⟨rfl,rfl⟩):=dI ⟨rfl,rfl⟩
theorem aLX{op:UnOp}{t:TypeId}{x:Operand}{q:A->H->Foot->Option R}:type_of% (dI (E:=E) (call:=call) (thaw:=thaw) (dst:=dst) (s:=s) (h:=h) (op:=.unOp op t x) (q:=q) ⟨rfl,rfl⟩):=dI ⟨rfl,rfl⟩
theorem SK{fn:Fn}{first cap:Array Operand}{q:A->H->Foot->Option R}:type_of% (dI (E:=E) (call:=call) (thaw:=thaw) (dst:=dst) (s:=s) (h:=h) (op:=.makeFunc fn first cap) (q:=q) ⟨rfl,rfl⟩):=dI ⟨rfl,rfl⟩
theorem N7{t:TypeId}{x:Operand}{f:Nat}{q:A->H->Foot->Option R}:type_of% (dI (E:=E) (call:=call) (thaw:=thaw) (dst:=dst) (s:=s) (h:=h) (op:=.fieldAddr t x f) (q:=q) ⟨rfl,rfl⟩):=dI ⟨rfl,rfl⟩
theorem WQ{x:Operand}{i:Nat}{q:A->H->Foot->Option R}:type_of% (dI (E:=E) (call:=call) (thaw:=thaw) (dst:=dst) (s:=s) (h:=h) (op:=.extract x i) (q:=q) ⟨rfl,rfl⟩):=dI ⟨rfl,rfl⟩
theorem aEf{t:TypeId}{ps:Array (Nat×Operand)}{q:A->H->Foot->Option R}:type_of% (dI (E:=E) (call:=call) (thaw:=thaw) (dst:=dst) (s:=s) (h:=h) (op:=.build t ps) (q:=q) ⟨rfl,rfl⟩):=dI ⟨rfl,rfl⟩
def aIy(a b:Foot):Bool:=(!a.ro&&(!b.ids.isEmpty&&a.wr.any b.ids.contains))||(!b.ro&&(!a.ids.isEmpty&&b.wr.any a.ids.contains))
theorem aPX{l:List Nat}:l.any (([]:List Nat)).contains=false:=by grind
theorem aFV(a b:Foot):aIy a b=j8 a b:=by
 obtain⟨ia,ra,wa⟩:=a;obtain⟨ib,rb,wb⟩:=b;unfold aIy j8
 cases ia<;>cases ib<;>simp
def eG(ops:List Oper)(cs:List Foot):Bool:=
 let b:=MJ ops []
 (List.range cs.length).all fun j=>(List.range j).all fun i=>(b.getD j 0).testBit i|| !aIy (cs.getD i {}) (cs.getD j {})
theorem aOX{src:List Oper}{cs:List Foot}(h:oE src cs=true):eG src cs=true:=by
 unfold eG;simp only[aFV];exact h
theorem aEd{src:List Oper}{cs:List Foot}{x:Option R}(hc:Shut (eG src cs=true)):(if oE src cs=true then x else none)=x:=if_pos (by
 have:=hc.it;unfold eG at this;simp only[aFV]at this;exact this)
theorem aKF{q:List A->H->Option R}:kOps E call thaw [] s h q=q s h:=rfl
theorem aGL{op:Op}{g:Option (Option Tmp×Bool)}{os:List SO}{q:List A->H->Option R}:kOps E call thaw (⟨dst,op,g⟩::os) s h q=vK g s
  (fun s=>kOp E call thaw dst op s h fun a h'=>match box (aPut s dst a)with|.no=>none|.mk s'=>kOps E call thaw os s' h' q)
  (fun s=>match box (aPut s dst (.d .undef))with|.no=>none|.mk s'=>kOps E call thaw os s' h q):=rfl
theorem aGU{cs:List Foot}{q:List A->H->List Foot->Option R}:v8 E call thaw [] s h cs q=q s h cs:=rfl
theorem aCs{op:Op}{g:Option (Option Tmp×Bool)}{os:List SO}{cs:List Foot}{q:List A->H->List Foot->Option R}:v8 E call thaw (⟨dst,op,g⟩::os) s h cs q=vK g s
  (fun s=>kOpD E call thaw dst op s h fun a h' c=>match box (aPut s dst a)with|.no=>none|.mk s'=>v8 E call thaw os s' h' (cs++[c]) q)
  (fun s=>match box (aPut s dst (.d .undef))with|.no=>none|.mk s'=>v8 E call thaw os s' h (cs++[{}]) q):=rfl
section
variable{L nf:Nat}{live:List Bool}{lp:Nat->Code}{q:Exit->List A->H->Option R}
theorem aEK:cX E call L nf thaw live lp .skip s h q=q .normal s h:=rfl
theorem aF1{l:List SO}:cX E call L nf thaw live lp (.ops l) s h q=kOps E call thaw l s h fun s h=>q .normal s h:=rfl
theorem Z0{l:List SO}{src:Array Oper}:cX E call L nf thaw live lp (.drawn l src) s h q=v8 E call thaw l s h [] fun s h cs=>if oE src.toList cs=true then q .normal s h else none:=rfl
theorem aHi{a b:SC}:cX E call L nf thaw live lp (.seq a b) s h q=cX E call L nf thaw live lp a s h fun e s h=>match e with
  |.normal=>cX E call L nf thaw live lp b s h q
  |e=>q e s h:=rfl
theorem aDO{c:Operand}{x y:SC}:cX E call L nf thaw live lp (.cond c x y) s h q=kv s c fun a=>match a with
  |.d (.bool b)=>if b=true then cX E call L nf thaw live lp x s h q else cX E call L nf thaw live lp y s h q
  |_=>none:=rfl
theorem aA9{id:Nat}{c:SC}:cX E call L nf thaw live lp (.block id c) s h q=cX E call L nf thaw live lp c s h fun e s h=>match e with
  |.exit i=>if i=id then q .normal s h else q (.exit i) s h
  |e=>q e s h:=rfl
theorem aDT{i:Nat}:cX E call L nf thaw live lp (.loop i) s h q=match box (rD live s)with
  |.no=>none
  |.mk m=>match box (gc nf m s h)with
   |.mk (s',h')=>aR E call L nf thaw live (lp i) m L s' h' q
   |.no=>none:=rfl
theorem aDN{id:Nat}:cX E call L nf thaw live lp (.exit id) s h q=q (.exit id) s h:=rfl
theorem aGg:cX E call L nf thaw live lp .ret s h q=q .ret s h:=rfl
theorem WR{c:Code}{m:List Bool}{n:Nat}:YP E call L nf thaw live c m n q .normal s h=match box (gc nf m s h)with
  |.mk (s',h')=>aR E call L nf thaw live c m n s' h' q
  |.no=>none:=rfl
theorem aCQ{c:Code}{m:List Bool}{n i:Nat}:YP E call L nf thaw live c m n q (.exit i) s h=match box (gc nf m s h)with
  |.mk (s',h')=>q (.exit i) s' h'
  |.no=>none:=rfl
theorem aGe{c:Code}{m:List Bool}{n:Nat}:YP E call L nf thaw live c m n q .ret s h=match box (gc nf m s h)with
  |.mk (s',h')=>q .ret s' h'
  |.no=>none:=rfl
end
def aW(E:Env)(call:aX)(h:H)(f:FuncId)(args:List A)(k:A->H->Option R):Option R:=
 match bS call E.hint (pack h (aE aI h (idsL args) [])) f (aF (aJ (aE aI h (idsL args) [])) args)with
 |some (a,h1)=>
  if(aE aI h (idsL args) []).length<=h1.length/\closed h (aE aI h (idsL args) []) (idsL args)=true then
   k (mapA (back (aE aI h (idsL args) []) h.length h1.length) a) (bG (back (aE aI h (idsL args) []) h.length h1.length) h (aE aI h (idsL args) []) h1)
  else none
 |none=>none
theorem aRa{f:FuncId}{args:List Operand}{tys:Array TypeId}:kOp E call thaw dst (.call ⟨.value (.func f),args.toArray,tys⟩) s h k=kvs s args fun vs=>aW E call h f vs k:=by
 unfold kOp kvs aW;simp only[opds,bT,cJ]
 cases bT s args with
 |none=>rfl
 |some vs=>
  simp only[vQ,if_true,iM,idsL,idsA,Ap,aF,mapA,evOp,eJ,eU,dP,Aj]
  cases bS call E.hint (pack h (aE aI h (idsL vs) [])) f (aF (aJ (aE aI h (idsL vs) [])) vs)with
  |none=>rfl
  |some r=>grind
theorem aGE{f:FuncId}{args:List Operand}{tys:Array TypeId}:kOp E call thaw dst (.call ⟨.value (.func f),args.toArray,tys⟩) s h k=kvs s args fun vs=>aW E call h f vs fun a h'=>match box h' with|.no=>none|.mk h''=>k a h'':=by
 rw[aRa];rfl
def H7(E:Env)(call:aX)(h:H)(f:FuncId)(caps args:List A)(k:A->H->Option R):Option R:=
 match bS call E.hint (pack h (aE aI h (idsL caps++idsL args) [])) f (aF (aJ (aE aI h (idsL caps++idsL args) [])) args++aF (aJ (aE aI h (idsL caps++idsL args) [])) caps)with
 |some (a,h1)=>
  if(aE aI h (idsL caps++idsL args) []).length<=h1.length/\closed h (aE aI h (idsL caps++idsL args) []) (idsL caps++idsL args)=true then
   k (mapA (back (aE aI h (idsL caps++idsL args) []) h.length h1.length) a) (bG (back (aE aI h (idsL caps++idsL args) []) h.length h1.length) h (aE aI h (idsL caps++idsL args) []) h1)
  else none
 |none=>none
def nE(E:Env)(call:aX)(h:H)(g:A)(args:List A)(k:A->H->Option R):Option R:=
 match g with
 |.d (.fn f caps)=>aW E call h f (args++caps.map .d) k
 |.clo f caps=>H7 E call h f caps args k
 |_=>none
theorem bL:∀(asx bs:List A),idsL (asx++bs)=idsL asx++idsL bs
 | [],bs=>by simp[idsL]
 |a::asx,bs=>by simp[idsL,bL asx bs]
theorem aJS:∀(ds:List D),idsL (ds.map .d)=[]
 | []=>by simp[idsL]
 |d::ds=>by simp[idsL,idsA,aJS ds]
theorem cU{f:Nat->Option Nat}:∀(asx bs:List A),aF f (asx++bs)=aF f asx++aF f bs
 | [],bs=>by simp[aF]
 |a::asx,bs=>by simp[aF,cU asx bs]
theorem aFx{f:Nat->Option Nat}:∀(ds:List D),aF f (ds.map .d)=ds.map .d
 | []=>by simp[aF]
 |d::ds=>by simp[aF,mapA,aFx ds]
theorem aPP{g:A}{vs:List A}{tys:Array TypeId}{x:Operand}{args:Array Operand}:(match iM E call thaw h (dP dst (.call ⟨.value x,args,tys⟩)) (g::vs)with
   |some (a,h',_)=>k a h'
   |none=>none)=nE E call h g vs k:=by
 unfold iM;simp only[evOp,eJ,dP,aF]
 cases g with
 |d y=>
  cases y with
  |fn f caps=>
   simp only[nE,aW,mapA,eU,idsL,idsA,Ap,bL,aJS,Aj,cU,aFx]
   cases bS call E.hint (pack h (aE aI h (idsL vs) [])) f (aF (aJ (aE aI h (idsL vs) [])) vs++caps.map .d)with
   |none=>rfl
   |some r=>grind
  |_=>simp only[nE,mapA,eU]
 |clo f caps=>
  simp only[nE,H7,mapA,eU,idsL,idsA]
  cases bS call E.hint (pack h (aE aI h (idsL caps++idsL vs) [])) f (aF (aJ (aE aI h (idsL caps++idsL vs) [])) vs++aF (aJ (aE aI h (idsL caps++idsL vs) [])) caps)with
  |none=>rfl
  |some r=>grind
 |sl id gen off len=>
  simp only[nE,mapA]
  cases aJ (aE aI h (idsL (A.sl id gen off len::vs)) []) id<;>rfl
 |ptr id gen off=>
  simp only[nE,mapA]
  cases aJ (aE aI h (idsL (A.ptr id gen off::vs)) []) id<;>rfl
 |mp id=>
  simp only[nE,mapA]
  cases aJ (aE aI h (idsL (A.mp id::vs)) []) id<;>rfl
 |agg cs=>simp only[nE,mapA,eU]
 |tup cs=>simp only[nE,mapA,eU]
 |junk=>simp only[nE,mapA,eU]
theorem aGd{t:Nat}{args:List Operand}{tys:Array TypeId}:kOp E call thaw dst (.call ⟨.value (.tmp t),args.toArray,tys⟩) s h k=match box (s.getD t (.d .undef))with
  |.no=>none
  |.mk g=>kvs s args fun vs=>nE E call h g vs k:=by
 unfold kOp kvs;simp only[opds,bT,cJ,box]
 cases bT s args with
 |none=>rfl
 |some vs=>simp only[vQ,if_true];exact aPP
theorem aGy{f:FuncId}{caps:List D}{vs:List A}:nE E call h (.d (.fn f caps)) vs k=match box (vs++caps.map .d)with|.no=>none|.mk as'=>aW E call h f as' k:=rfl
theorem aC5{f:FuncId}{caps vs:List A}:nE E call h (.clo f caps) vs k=H7 E call h f caps vs k:=rfl
theorem aB5{h:H}{ids:List Nat}{h1:H}{ord:List Nat}:∀(ord:List Nat) (h h1:H) (f:Nat->Option Nat),ord.length<=h1.length->(bG f h ord h1).length=h.length+(h1.length-ord.length)
 | [],h,h1,f,_=>by simp[bG]
 |i::ord,h,[],f,hl=>by simp at hl
 |i::ord,h,o::h1,f,hl=>by
  simp only[bG,aB5 (h:=h) (ids:=ids) (h1:=h1) (ord:=ord) ord _ h1 f (by simpa using hl),Bj,Ae];omega
def wrC(E:Env)(f:FuncId)(ord:List Nat):List Nat:=if(E.hint f).mode==3 then []else ord
def K5(E:Env)(f:FuncId)(h h':H)(ord:List Nat):Option (H×Foot):=if((E.hint f).mode==1&&h'.length-h.length==0)=true then some (h,{ ids:=ord,ro:=true})else some (h',{ ids:=ord++List.range' h.length (h'.length-h.length),ro:=false,wr:=wrC E f ord++List.range' h.length (h'.length-h.length)})
theorem aMX{f:FuncId}{args:List Operand}{tys:Array TypeId}{q:A->H->Foot->Option R}:kOpD E call thaw dst (.call ⟨.value (.func f),args.toArray,tys⟩) s h q=kvs s args fun vs=>match box (aE aI h (idsL vs) [])with
  |.no=>none
  |.mk ord=>aW E call h f vs fun a h'=>if((E.hint f).mode==1&&h'.length-h.length==0)=true then q a h { ids:=ord,ro:=true}else q a h' { ids:=ord++List.range' h.length (h'.length-h.length),ro:=false,wr:=wrC E f ord++List.range' h.length (h'.length-h.length)}:=by
 unfold kOpD kvs aW;simp only[opds,bT,cJ,box]
 cases bT s args with
 |none=>rfl
 |some vs=>
  simp only[pQ,qD,Ak,if_false,iM,idsL,idsA,Ap,aF,mapA,evOp,eJ,eU,dP,Aj,jI]
  cases bS call E.hint (pack h (aE aI h (idsL vs) [])) f (aF (aJ (aE aI h (idsL vs) [])) vs)with
  |none=>rfl
  |some r=>
   obtain⟨a,h1⟩:=r
   by_cases c1:(aE aI h (idsL vs) []).length<=h1.length
   ·by_cases c2:closed h (aE aI h (idsL vs) []) (idsL vs)=true
    ·have e:=aB5 (h:=h) (ids:=idsL vs) (h1:=h1) (ord:=[]) (aE aI h (idsL vs) []) h h1 (back (aE aI h (idsL vs) []) h.length h1.length) c1;have e2:(bG (back (aE aI h (idsL vs) []) h.length h1.length) h (aE aI h (idsL vs) []) h1).length-h.length=h1.length-(aE aI h (idsL vs) []).length:=om;simp only[c1,c2,and_self,if_true,e2]
     first|done|rfl|(by_cases c3:((E.hint f).mode==1&&h1.length-(aE aI h (idsL vs) []).length==0)=true<;>simp[c3])
    ·grind
   ·grind
theorem VY{f:FuncId}{args:List Operand}{tys:Array TypeId}{q:A->H->Foot->Option R}:kOpD E call thaw dst (.call ⟨.value (.func f),args.toArray,tys⟩) s h q=kvs s args fun vs=>match box (aE aI h (idsL vs) [])with
  |.no=>none
  |.mk ord=>aW E call h f vs fun a h'=>match box (K5 E f h h' ord)with|.mk (some (h'',c))=>q a h'' c|_=>none:=by
 rw[aMX]
 congr 1
 funext vs
 simp only[box]
 congr 1
 funext a h'
 unfold K5
 by_cases hc:((E.hint f).mode==1&&h'.length-h.length==0)=true
 ·grind
 ·grind
theorem aKH{t:Nat}{args:List Operand}{tys:Array TypeId}{q:A->H->Foot->Option R}{f:FuncId}{caps:List D}(hg:Now (s.getD t (.d .undef)=.d (.fn f caps))):kOpD E call thaw dst (.call ⟨.value (.tmp t),args.toArray,tys⟩) s h q=kvs s args fun vs=>match box (aE aI h (idsL vs) [])with
  |.no=>none
  |.mk ord=>aW E call h f (vs++caps.map .d) fun a h'=>if((E.hint f).mode==1&&h'.length-h.length==0)=true then q a h { ids:=ord,ro:=true}else q a h' { ids:=ord++List.range' h.length (h'.length-h.length),ro:=false,wr:=wrC E f ord++List.range' h.length (h'.length-h.length)}:=by
 have hg:=hg.it;unfold kOpD kvs aW;simp only[opds,bT,cJ,box,hg]
 cases bT s args with
 |none=>rfl
 |some vs=>
  simp only[pQ,qD,Ak,if_false,iM,idsL,idsA,Ap,aF,mapA,evOp,eJ,eU,dP,Aj,jI,bL,aJS,cU,aFx]
  cases bS call E.hint (pack h (aE aI h (idsL vs) [])) f (aF (aJ (aE aI h (idsL vs) [])) vs++caps.map .d)with
  |none=>rfl
  |some r=>
   obtain⟨a,h1⟩:=r
   by_cases c1:(aE aI h (idsL vs) []).length<=h1.length
   ·by_cases c2:closed h (aE aI h (idsL vs) []) (idsL vs)=true
    ·have e:=aB5 (h:=h) (ids:=idsL vs) (h1:=h1) (ord:=[]) (aE aI h (idsL vs) []) h h1 (back (aE aI h (idsL vs) []) h.length h1.length) c1;have e2:(bG (back (aE aI h (idsL vs) []) h.length h1.length) h (aE aI h (idsL vs) []) h1).length-h.length=h1.length-(aE aI h (idsL vs) []).length:=om;simp only[c1,c2,and_self,if_true,e2]
     first|done|rfl|(by_cases c3:((E.hint f).mode==1&&h1.length-(aE aI h (idsL vs) []).length==0)=true<;>simp[c3])
    ·grind
   ·grind
def aTw(E:Env)(call:aX)(thaw:List Nat)(dst:Option Tmp)(op:Op)(s:List A)(h:H)(q:A->H->Foot->Option R):Option R:=kOpD E call thaw dst op s h q
theorem aDb{t:Nat}{args:List Operand}{tys:Array TypeId}{q:A->H->Foot->Option R}:kOpD E call thaw dst (.call ⟨.value (.tmp t),args.toArray,tys⟩) s h q=match box (s.getD t (.d .undef))with
  |.mk (.d (.fn f caps))=>kvs s args fun vs=>match box (aE aI h (idsL vs) [])with
   |.no=>none
   |.mk ord=>match box (vs++caps.map .d)with|.no=>none|.mk as'=>aW E call h f as' fun a h'=>match box (K5 E f h h' ord)with|.mk (some (h'',c))=>q a h'' c|_=>none
  |.mk (.clo f [])=>kvs s args fun vs=>match box (aE aI h (idsL vs) [])with
   |.no=>none
   |.mk ord=>aW E call h f vs fun a h'=>match box (K5 E f h h' ord)with|.mk (some (h'',c))=>q a h'' c|_=>none
  |_=>aTw E call thaw dst (.call ⟨.value (.tmp t),args.toArray,tys⟩) s h q:=by
 have key:=fun(f:FuncId) (caps:List D) hg=>aKH (E:=E) (call:=call) (thaw:=thaw) (dst:=dst) (s:=s) (h:=h) (t:=t) (args:=args) (tys:=tys) (q:=q) (f:=f) (caps:=caps) hg
 have k2:∀f,s.getD t (.d .undef)=.clo f []->kOpD E call thaw dst (.call ⟨.value (.tmp t),args.toArray,tys⟩) s h q=kOpD E call thaw dst (.call ⟨.value (.func f),args.toArray,tys⟩) s h q:=by
  intro f hg;unfold kOpD kvs;simp only[opds,bT,cJ,hg]
  cases bT s args<;>rfl
 have fold:∀(f:FuncId) (h h':H) (ord:List Nat) (a:A),(if((E.hint f).mode==1&&h'.length-h.length==0)=true then q a h { ids:=ord,ro:=true}else q a h' { ids:=ord++List.range' h.length (h'.length-h.length),ro:=false,wr:=wrC E f ord++List.range' h.length (h'.length-h.length)})=match box (K5 E f h h' ord)with|.mk (some (h'',c))=>q a h'' c|_=>none:=by
  intro f h h' ord a;unfold K5
  by_cases hc:((E.hint f).mode==1&&h'.length-h.length==0)=true
  ·simp only[if_pos hc,box]
  ·simp only[if_neg hc,box]
 generalize hs:s.getD t (.d .undef)=a
 cases a with
 |d x=>
  cases x with
  |fn f caps=>
   rw[key f caps ⟨hs⟩];simp only[fold]<;>rfl
  |_=>rfl
 |clo f caps=>
  cases caps with
  |nil=>rw[k2 f hs];exact VY
  |cons c caps=>rfl
 |_=>rfl
theorem oM(n:Nat)(h:H):aE n h [] []=[]:=by cases n<;>rfl
mutual
theorem sQ{f:Nat->Option Nat}:∀a:A,idsA a=[]->mapA f a=a
 |.d x,_=>by simp only[mapA]
 |.sl id gen off len,h=>by simp[idsA]at h
 |.ptr id gen off,h=>by simp[idsA]at h
 |.mp id,h=>by simp[idsA]at h
 |.clo g caps,h=>by simp only[idsA]at h;simp only[mapA];rw[eD caps h]
 |.agg cs,h=>by simp only[idsA]at h;simp only[mapA];rw[eD cs h]
 |.tup cs,h=>by simp only[idsA]at h;simp only[mapA];rw[eD cs h]
 |.junk,_=>by simp only[mapA]
theorem eD{f:Nat->Option Nat}:∀asx:List A,idsL asx=[]->aF f asx=asx
 | [],_=>by simp only[aF]
 |a::asx,h=>by
  simp only[idsL,List.append_eq_nil_iff]at h;simp only[aF];rw[sQ a h.1,eD asx h.2]
end
theorem aOF{a:A}(h:pD a=true):idsA a=[]:=by
 cases a with
 |d x=>rfl
 |agg cs=>
  simp only[pD]at h;simp only[idsA]
  induction cs with
  |nil=>rfl
  |cons c cs ih=>
   simp only[Bu,As]at h;simp only[idsL,ih h.2,Aj]
   cases c<;>first|rfl|simp[isD]at h
 |_=>simp[pD]at h
theorem sY:∀ {asx:List A},asx.all pD=true->idsL asx=[]
 | [],_=>rfl
 |a::asx,h=>by
  simp only[Bu,As]at h;simp only[idsL,aOF h.1,sY h.2,Aj]
theorem aCT{h:H}:∀ {cs:List A},cs.all isD=true->∃ds,frzL h cs=some (ds,h)/\ds.map .d=cs
 | [],_=>⟨[],rfl,rfl⟩
 |c::cs,hs=>by
  simp only[Bu,As]at hs;obtain⟨ds,h1,h2⟩:=aCT (h:=h) hs.2
  cases c with
  |d x=>
   refine⟨x::ds,?_,by simp[h2]⟩;unfold frzL at h1|-;simp only[eK];have:frz deep h (.d x)=some (x,h):=rfl;rw[this];simp only[h1]
  |_=>simp[isD]at hs
theorem vS{h:H}:∀ {asx:List A},asx.all pD=true->dX h asx=some (asx,h)
 | [],_=>rfl
 |a::asx,hs=>by
  simp only[Bu,As]at hs
  have ha:frzA h a=some (a,h):=by
   cases a with
   |d x=>rfl
   |agg cs=>
    obtain⟨ds,h1,h2⟩:=aCT (h:=h) (cs:=cs) (by simpa only[pD]using hs.1);simp only[frzA,h1,h2]
   |_=>simp[pD]at hs
  simp only[dX,ha,vS hs.2]
theorem aKR{r:A}(h:gP r=true):lC r=true/\mapA (fun k=>back [] 0 0 k) r=r:=by
 cases r with
 |d x=>cases x<;>first|exact⟨rfl,rfl⟩|simp[gP]at h
 |tup vs=>
  simp only[gP]at h
  have key:jR vs=true/\aF (fun k=>back [] 0 0 k) vs=vs:=by
   induction vs with
   |nil=>exact⟨rfl,by simp only[aF]⟩
   |cons v vs ih=>
    simp only[Bu,As]at h;obtain⟨i1,i2⟩:=ih h.2
    cases v with
    |d x=>cases x<;>first|(exfalso;simp at h;done)|(refine⟨by simp only[jR,lC,u6,i1,Bt],by simp only[aF,mapA,i2]⟩)
    |_=>grind
  exact⟨by simp only[lC];exact key.1,by simp only[mapA,key.2]⟩
 |_=>simp[gP]at h
theorem aLg{f:FuncId}{args:List A}{r:A}(hs:args.all pD=true)(hc:call f args []=some (r,[]))(hp:gP r=true\/((E.hint f).mode==1||(E.hint f).mode==3)=false):bS call E.hint [] f args=some (r,[]):=by
 unfold bS
 split
 ·exact hc
 ·rename_i hm
  rw[vS hs];simp only[hc]
  rcases hp with hp|hp
  ·rw[hp];rfl
  ·grind
 ·rename_i hm
  rw[vS hs];simp only[hc]
  rcases hp with hp|hp
  ·obtain⟨h1,h2⟩:=aKR hp;rw[h1];exact congrArg (fun x=>some (x,([]:H))) h2
  ·grind
 ·rw[vS hs];simp only[hc]
theorem b6{f:FuncId}{args:List A}{r:A}(hs:args.all pD=true)(hc:call f args []=some (r,[]))(hr:idsA r=[])(hp:gP r=true\/((E.hint f).mode==1||(E.hint f).mode==3)=false):aW E call h f args k=k r h:=by
 unfold aW;rw[sY hs,oM,eD _ (sY hs)];have:pack h []=[]:=rfl;rw[this,aLg hs hc hp];simp only[Ac,Ab,true_and,closed,Bz,Bt,if_true,sQ r hr,bG,Ar,Aj]
def vX(call:aX)(f:FuncId)(args:List A)(k:A->Option R):Option R:=
 match call f args []with
 |some (r,[])=>if gP r=true then k r else none
 |_=>none
theorem mJ{f:FuncId}{args:List A}{r:A}{k:A->Option R}(hc:call f args []=some (r,[]))(hp:gP r=true):vX call f args k=k r:=by
 unfold vX;rw[hc];simp only[hp,if_true]
theorem aOA{r:A}(h:gP r=true):idsA r=[]:=by
 cases r with
 |d x=>rfl
 |tup vs=>
  simp only[gP]at h;simp only[idsA]
  induction vs with
  |nil=>rfl
  |cons v vs ih=>
   simp only[Bu,As]at h;simp only[idsL,ih h.2,Aj]
   cases v with
   |d x=>rfl
   |_=>grind
 |_=>simp[gP]at h
theorem aF5(ord:List Nat)(n:Nat):back ord n ord.length=fun k=>ord[k]?:=by
 funext k
 unfold back
 split
 ·rfl
 ·grind
theorem aIP{h:H}{ord ids:List Nat}(hc:closed h ord ids=true)(hn:ord.Nodup)(hl:∀i∈ord,i<h.length):bG (fun(k:Nat)=>ord[k]?) h ord (pack h ord)=h:=by
 apply Cm;intro id;rw[B9 _ ord h _ id hn hl (by simp[pack])]
 cases hp:aJ ord id with
 |none=>
  simp only[]
  split
  ·rfl
  ·rename_i hge
   rw[Cl (by simp[pack]),Cl om];rfl
 |some k=>
  simp only[];have hm:=KI hp;obtain⟨o,ho⟩:∃o,h[id]? =some o:=⟨h[id]'(hl id hm),Ad _⟩
  rw[iB (bF hp) ho,ho,Az,U5 hc hm ho]
theorem aKI{f:FuncId}{args:List A}(hm:(E.hint f).mode=1):aW E call h f args k=match box (aE aI h (idsL args) [])with
  |.no=>none
  |.mk ord=>match box (dX (pack h ord) (aF (aJ ord) args))with
   |.mk (some (fs,_))=>if closed h ord (idsL args)=true then vX call f fs fun r=>k r h else none
   |_=>none:=by
 unfold aW bS;rw[hm];simp only[box]
 cases hf:dX (pack h (aE aI h (idsL args) [])) (aF (aJ (aE aI h (idsL args) [])) args)with
 |none=>rfl
 |some r=>
  obtain⟨fs,h1⟩:=r;simp only[vX]
  cases hc:call f fs []with
  |none=>simp
  |some r=>
   obtain⟨a,h2⟩:=r
   cases h2 with
   |cons o h2=>simp
   |nil=>
    by_cases hp:gP a=true
    ·simp only[hp,if_true];have hlen:(pack h (aE aI h (idsL args) [])).length=(aE aI h (idsL args) []).length:=by simp[pack]
     simp only[hlen,Ab,true_and]
     by_cases hcl:closed h (aE aI h (idsL args) []) (idsL args)=true
     ·simp only[hcl,if_true,aF5,sQ a (aOA hp)];rw[aIP hcl (bU aI h (idsL args) [] sm) (jY aI h (idsL args) [] sm)]
     ·grind
    ·grind
def YC(h:H)(args:List A):Option (List A):=match box (aE aI h (idsL args) [])with
 |.no=>none
 |.mk ord=>match box (dX (pack h ord) (aF (aJ ord) args))with
  |.mk (some (fs,_))=>if closed h ord (idsL args)=true then some fs else none
  |_=>none
theorem eA{f:FuncId}{args:List A}(hm:(E.hint f).mode=1):aW E call h f args k=match box (YC h args)with
  |.mk (some fs)=>vX call f fs fun r=>k r h
  |_=>none:=by
 rw[aKI hm];unfold YC;simp only[box]
 cases dX (pack h (aE aI h (idsL args) [])) (aF (aJ (aE aI h (idsL args) [])) args)with
 |none=>rfl
 |some r=>grind
theorem aLJ{nf:Nat}{h:H}{ord:List Nat}{s:List A}:trim nf h ord s=match box (pack h ord)with
  |.mk p=>(aS nf p (aF (aJ ord) s),cG nf p)
  |.no=>([],[]):=rfl
theorem aRq{nf:Nat}{m:List Bool}{s:List A}{h:H}:gc nf m s h=match box (tidy m s)with
  |.mk s1=>match box (dC nf h (idsL s1))with
   |.mk ord=>trim nf h ord s1
   |.no=>([],[])
  |.no=>([],[]):=rfl
theorem aMp{P:Program}{nf:Nat}{exp:Bool}{rs:List ResultVar}{e:Exit}{s:List A}{h:H}:kFin P nf exp rs e s h=
  if mB e then(match kV P s h rs with
   |some rs=>match oN nf exp h rs with
    |some (xs,h2)=>match box (dC nf h2 (idsL xs))with
     |.mk ord=>match box (trim nf h2 ord xs)with
      |.mk r=>some (tupA r.1,r.2)
      |.no=>none
     |.no=>none
    |none=>none
   |none=>none)else none:=rfl
theorem t6(nf:Nat)(h:H)(ids:List Nat):dC nf h ids=aE 1099511627776 h (eP (h.take nf)++ids) (List.range nf):=rfl
theorem rng0:List.range 0=[]:=rfl
theorem rng1:List.range 1=[0]:=rfl
theorem rng2:List.range 2=[0,1]:=rfl
theorem VL(h:H)(ids:List Nat):dC 0 h ids=aE 1099511627776 h ids []:=by
 unfold dC;rfl
theorem xN(n:Nat)(h:H)(acc:List Nat):aE n h [] acc=acc:=by cases n<;>rfl
theorem oU(n:Nat)(h:H)(i:Nat)(todo acc:List Nat):aE (n+1) h (i::todo) acc=if acc.contains i=true then aE n h todo acc
  else match h.getD i .void with
   |.box cs=>aE n h (todo++idsL cs) (acc++[i])
   |.vec cs _ _=>aE n h (todo++idsL cs) (acc++[i])
   |.void=>aE n h todo acc
   |_=>aE n h todo (acc++[i]):=by
 simp only[aE,Aa]
 split
 ·rfl
 ·grind
theorem aKC{α:Type}{c:Prop}[Decidable c]{a:α}(hc:c):(if c then some a else none)=some a:=if_pos hc
def iAnd(k:IntKind)(a b:Int):Int:=k.wrap (BitVec.ofInt k.bits a&&&BitVec.ofInt k.bits b).toNat
def iOr(k:IntKind)(a b:Int):Int:=k.wrap (BitVec.ofInt k.bits a|||BitVec.ofInt k.bits b).toNat
def iXor(k:IntKind)(a b:Int):Int:=k.wrap (BitVec.ofInt k.bits a^^^BitVec.ofInt k.bits b).toNat
section
variable{t:TypeId}{K:IntKind}{a b:Int}
theorem aGM:bW E .add t h (.d (.int K a)) (.d (.int K b))=some (.d (.int K (K.wrap (a+b))),h):=by simp[bW,aBin];rfl
theorem aHq:bW E .sub t h (.d (.int K a)) (.d (.int K b))=some (.d (.int K (K.wrap (a-b))),h):=by simp[bW,aBin];rfl
theorem aFT:bW E .mul t h (.d (.int K a)) (.d (.int K b))=some (.d (.int K (K.wrap (a*b))),h):=by simp[bW,aBin];rfl
theorem aHc:bW E .and t h (.d (.int K a)) (.d (.int K b))=some (.d (.int K (iAnd K a b)),h):=by simp[bW,aBin];rfl
theorem aKj:bW E .or t h (.d (.int K a)) (.d (.int K b))=some (.d (.int K (iOr K a b)),h):=by simp[bW,aBin];rfl
theorem aG0:bW E .xor t h (.d (.int K a)) (.d (.int K b))=some (.d (.int K (iXor K a b)),h):=by simp[bW,aBin];rfl
theorem aGT:bW E .lss t h (.d (.int K a)) (.d (.int K b))=some (.d (.bool (decide (a<b))),h):=by simp[bW,aBin]
theorem aGi:bW E .leq t h (.d (.int K a)) (.d (.int K b))=some (.d (.bool (decide (a<=b))),h):=by simp[bW,aBin]
theorem aGK:bW E .gtr t h (.d (.int K a)) (.d (.int K b))=some (.d (.bool (decide (b<a))),h):=by simp[bW,aBin]
theorem aGQ:bW E .geq t h (.d (.int K a)) (.d (.int K b))=some (.d (.bool (decide (b<=a))),h):=by simp[bW,aBin]
theorem aF2:bW E .eql t h (.d (.int K a)) (.d (.int K b))=some (.d (.bool (decide (a=b))),h):=by simp[bW,aBin];rfl
theorem aHt:bW E .neq t h (.d (.int K a)) (.d (.int K b))=some (.d (.bool (!decide (a=b))),h):=by simp[bW,aBin];rfl
theorem aFS(hb:b≠0):bW E .quo t h (.d (.int K a)) (.d (.int K b))=some (.d (.int K (K.wrap (a.tdiv b))),h):=by simp[bW,aBin,hb]
theorem aHr(hb:b≠0):bW E .rem t h (.d (.int K a)) (.d (.int K b))=some (.d (.int K (a.tmod b)),h):=by simp[bW,aBin,hb]
theorem aGm{K2:IntKind}(hb:0<=b):bW E .shl t h (.d (.int K a)) (.d (.int K2 b))=some (.d (.int K (K.wrap (a*2^(min b.toNat K.bits)))),h):=by
 have:¬b<0:=om;simp[bW,aBin,Op.shift,this];rfl
theorem aGY{K2:IntKind}(hb:0<=b):bW E .shr t h (.d (.int K a)) (.d (.int K2 b))=some (.d (.int K (a.fdiv (2^(min b.toNat K.bits)))),h):=by
 have:¬b<0:=om;simp[bW,aBin,Op.shift,this];rfl
theorem aLR{b:Bool}:aUn .not (.d (.bool b))=some (.d (.bool (!b))):=rfl
end
end
theorem WD:type_of% (AI @aEK (AI @aF1 (AI @Z0 (AI @aHi (AI @aDO (AI @aA9 (AI @aDT (AI @aDN (AI @aGg (AI @aKF (AI @aGL (AI @aGU (AI @aCs (AI @Z7 (AI @aAn (AI @aOS (AI @aPx (AI @aLV (AI @aPG (AI @aLY (AI @aMg (AI @aMc (AI @aLE (AI @aI4 (AI @aKA (AI @OW (AI @H5 (AI @aLQ (AI @aOa (AI @aIi (AI @VR (AI @aIt (AI @aJm (AI @aG1 (AI @aGh (AI @aL2 (AI @aHd (AI @OT (AI @XU (AI @SH (AI @Z3 (AI @aAW (AI @SJ (AI @RW (AI @aFX (AI @aAK (AI @aAc (AI @aGE (AI @aMp (AI @WR (AI @aCQ (AI @aGe (AI @aAd @RX))))))))))))))))))))))))))))))))))))))))))))))))))))):=
 ⟨@aEK,@aF1,@Z0,@aHi,@aDO,@aA9,@aDT,@aDN,@aGg,@aKF,@aGL,@aGU,@aCs,@Z7,@aAn,@aOS,@aPx,@aLV,@aPG,@aLY,@aMg,@aMc,@aLE,@aI4,@aKA,@OW,@H5,@aLQ,@aOa,@aIi,@VR,@aIt,@aJm,@aG1,@aGh,@aL2,@aHd,@OT,@XU,@SH,@Z3,@aAW,@SJ,@RW,@aFX,@aAK,@aAc,@aGE,@aMp,@WR,@aCQ,@aGe,@aAd,@RX⟩
theorem WDD:type_of% (AI @aGs (AI @aEM (AI @aA2 (AI @aEG (AI @MC (AI @aG9 (AI @NV (AI @aAM (AI @aIO (AI @aGl (AI @aG6 (AI @R4 (AI @aKe (AI @aLX (AI @SK (AI @N7 (AI @WQ (AI @aEf (AI @VY (AI @aGd (AI @aGy @aC5))))))))))))))))))))):=
 ⟨@aGs,@aEM,@aA2,@aEG,@MC,@aG9,@NV,@aAM,@aIO,@aGl,@aG6,@R4,@aKe,@aLX,@SK,@N7,@WQ,@aEf,@VY,@aGd,@aGy,@aC5⟩
theorem WK0:type_of% (AI @aPz (AI @aLR (AI @aGM (AI @aHq (AI @aFT (AI @aHc (AI @aKj (AI @aG0 (AI @aFS (AI @aHr (AI @aGm (AI @aGY (AI @aGT (AI @aGi (AI @aGK (AI @aGQ (AI @aF2 (AI @aHt (AI @List.getD_nil.{0} (AI @Ci.{0} (AI @Bq.{0} (AI @aRq @aLJ)))))))))))))))))))))):=
 ⟨@aPz,@aLR,@aGM,@aHq,@aFT,@aHc,@aKj,@aG0,@aFS,@aHr,@aGm,@aGY,@aGT,@aGi,@aGK,@aGQ,@aF2,@aHt,@List.getD_nil.{0},@Ci.{0},@Bq.{0},@aRq,@aLJ⟩
theorem WK1:type_of% (AI @Bool.not_true (AI @Bool.not_false (AI @Bool.true_eq_false (AI @decide_eq_true_eq (AI @decide_eq_false_iff_not (AI @Az.{0,0} (AI @decide_true (AI @decide_false (AI @aKC (AI @Cc (AI @Nat.one_mul (AI @Ba.{0} (AI @Bu.{0} (AI @Bz.{0} (AI @Bt (AI @Bool.and_true @Bool.true_and)))))))))))))))):=
 ⟨@Bool.not_true,@Bool.not_false,@Bool.true_eq_false,@decide_eq_true_eq,@decide_eq_false_iff_not,@Az.{0,0},@decide_true,@decide_false,@aKC,@Cc,@Nat.one_mul,@Ba.{0},@Bu.{0},@Bz.{0},@Bt,@Bool.and_true,@Bool.true_and⟩
theorem WK2:type_of% (AI @Cx (AI @Dm (AI @List.zip_cons_cons.{0,0} (AI @List.zip_nil_left.{0,0} (AI @List.flatten_cons.{0} (AI @List.flatten_nil.{0} (AI @List.take_zero.{0} (AI @List.take_nil.{0} (AI @List.drop_nil.{0} (AI @Bool.or_self (AI @Bool.or_false (AI @Ca (AI @and_self (AI @and_true (AI @true_and (AI @Bool.or_true (AI @Bool.true_or (AI @Dn.{0} (AI @List.take_succ_cons.{0} (AI @Nat.lt_irrefl (AI @List.head?_cons.{0} (AI @List.contains_cons.{0} (AI @List.contains_nil.{0} @t6))))))))))))))))))))))):=
 ⟨@Cx,@Dm,@List.zip_cons_cons.{0,0},@List.zip_nil_left.{0,0},@List.flatten_cons.{0},@List.flatten_nil.{0},@List.take_zero.{0},@List.take_nil.{0},@List.drop_nil.{0},@Bool.or_self,@Bool.or_false,@Ca,@and_self,@and_true,@true_and,@Bool.or_true,@Bool.true_or,@Dn.{0},@List.take_succ_cons.{0},@Nat.lt_irrefl,@List.head?_cons.{0},@List.contains_cons.{0},@List.contains_nil.{0},@t6⟩
theorem WK3:type_of% (AI @rng0 (AI @rng1 (AI @rng2 (AI @Option.isNone_none.{0} (AI @Option.isNone_some.{0} (AI @Cs.{0} (AI @Dj.{0} (AI @xN (AI @oU (AI @beq_self_eq_true.{0} (AI @Nat.succ_ne_self (AI @Nat.zero_ne_one (AI @Af.{0} (AI @or_false @or_true)))))))))))))):=
 ⟨@rng0,@rng1,@rng2,@Option.isNone_none.{0},@Option.isNone_some.{0},@Cs.{0},@Dj.{0},@xN,@oU,@beq_self_eq_true.{0},@Nat.succ_ne_self,@Nat.zero_ne_one,@Af.{0},@or_false,@or_true⟩
theorem WK:type_of% (AI @WK0 (AI @WK1 (AI @WK2 @WK3))):=
 ⟨@WK0,@WK1,@WK2,@WK3⟩
section
variable{E:Env}{vs:List A}{t u:TypeId}{x y:Operand}
theorem aAl:jI E (.convert t u x) vs=(cR E.P u).isNone:=rfl
theorem R2{a:Array Operand}{b:Array TypeId}:jI E (.call ⟨.builtin .append,a,b⟩) vs=false:=rfl
theorem WZ:jI E (.alloc t) vs=false:=rfl
theorem SW:jI E (.assign x) vs=false:=rfl
theorem V7:jI E (.store t x y) vs=false:=rfl
theorem aHb{n:Nat}{ps:Array (Nat×Operand)}:jI E (.buildSlice t n ps) vs=false:=rfl
theorem aDF:opds (.alloc t)=[]:=rfl
end
theorem UNx5:type_of% (fun v0 v1 v2 v3=> @outA.eq_2 v0 v1 v2 (A.d v3) nfn):=by intros;rfl
theorem UNx6:type_of% (fun v0 v1 v2 v3 v4 v5 v6=> @outA.eq_2 v0 v1 v2 (A.sl v3 v4 v5 v6) nfn):=by intros;rfl
theorem UNx7:type_of% (fun v0 v1 v2 v3 v4 v5=> @outA.eq_2 v0 v1 v2 (A.ptr v3 v4 v5) nfn):=by intros;rfl
theorem UNx9:type_of% (fun v0 v1 v2 v3 v4=> @outA.eq_2 v0 v1 v2 (A.clo v3 v4) nfn):=by intros;rfl
theorem aRK:type_of% (fun v0 v1 v2 v3 v4=> @outS.eq_2 v0 v1 v2 (D.int v3 v4) nfn):=by intros;rfl
theorem aRM:type_of% (fun v0 v1 v2 v3=> @outS.eq_2 v0 v1 v2 (D.bool v3) nfn):=by intros;rfl
theorem aRt:type_of% (fun v0 v1 v2 v3=> @outS.eq_2 v0 v1 v2 (D.str v3) nfn):=by intros;rfl
theorem aRp:type_of% (fun v0 v1 v2 v3 v4=> @outS.eq_2 v0 v1 v2 (D.ivs v3 v4) nfn):=by intros;rfl
theorem aRw:type_of% (fun v0 v1=> @fY.eq_3 (A.d (D.int v0 v1)) nfn nfn):=by intros;rfl
theorem aRl:type_of% (fun v0=> @fY.eq_3 (A.d (D.bool v0)) nfn nfn):=by intros;rfl
theorem aRA:type_of% (fun v0=> @fY.eq_3 (A.d (D.str v0)) nfn nfn):=by intros;rfl
theorem aRN:type_of% (fun v0 v1=> @fY.eq_3 (A.d (D.ivs v0 v1)) nfn nfn):=by intros;rfl
theorem aRs:type_of% (@fY.eq_3 (A.d D.nils) nfn nfn):=(@fY.eq_3 (A.d D.nils) nfn nfn)
theorem aRJ:type_of% (fun v0 v1=> @fY.eq_3 (A.d (D.fn v0 v1)) nfn nfn):=by intros;rfl
theorem aRB:type_of% (fun v0 v1 v2 v3=> @fY.eq_3 (A.sl v0 v1 v2 v3) nfn nfn):=by intros;rfl
theorem aRo:type_of% (fun v0 v1 v2=> @fY.eq_3 (A.ptr v0 v1 v2) nfn nfn):=by intros;rfl
theorem aRC:type_of% (fun v0=> @fY.eq_3 (A.mp v0) nfn nfn):=by intros;rfl
theorem aRm:type_of% (fun v0 v1=> @fY.eq_3 (A.clo v0 v1) nfn nfn):=by intros;rfl
theorem aRF:type_of% (fun v0=> @tidy.eq_3 List.nil v0 nfn nfn):=by intros;rfl
theorem aRr:type_of% (fun v0 v1 v2 v3 v4=> @cE.eq_2 v0 v1 v2 v3 (A.d v4) nfn):=by intros;rfl
theorem aRL:type_of% (fun v0 v1 v2 v3 v4 v5 v6 v7=> @cE.eq_2 v0 v1 v2 v3 (A.sl v4 v5 v6 v7) nfn):=by intros;rfl
theorem aRD:type_of% (fun v0 v1=> @YG.eq_2 v0 (A.d v1) nfn):=by intros;rfl
theorem aRx:type_of% (fun v0 v1 v2=> @frz.eq_5 v0 (A.d v2) v1 nfn nfn nfn):=by intros;rfl
theorem aRG:type_of% (fun v0=> @aZ.eq_2 (A.d v0) nfn):=by intros;rfl
theorem aRz:type_of% (fun v0 v1 v2 v3=> @aZ.eq_2 (A.sl v0 v1 v2 v3) nfn):=by intros;rfl
theorem aRI:type_of% (fun v0=> @aZ.eq_2 (A.mp v0) nfn):=by intros;rfl
theorem aO5:type_of% (fun v0 v1=> @dO.eq_5 (A.d (D.int v0 v1)) nfn nfn nfn nfn):=by intros;rfl
theorem aOG:type_of% (fun v0=> @dO.eq_5 (A.d (D.bool v0)) nfn nfn nfn nfn):=by intros;rfl
theorem aOI:type_of% (fun v0=> @dO.eq_5 (A.d (D.str v0)) nfn nfn nfn nfn):=by intros;rfl
theorem aPe:type_of% (fun v0 v1=> @dO.eq_5 (A.d (D.ivs v0 v1)) nfn nfn nfn nfn):=by intros;rfl
theorem aPL:type_of% (@dO.eq_5 (A.d D.nils) nfn nfn nfn nfn):=(@dO.eq_5 (A.d D.nils) nfn nfn nfn nfn)
theorem aOr:type_of% (fun v0 v1=> @dO.eq_5 (A.d (D.fn v0 v1)) nfn nfn nfn nfn):=by intros;rfl
theorem aN6:type_of% (fun v0 v1 v2 v3=> @dO.eq_5 (A.sl v0 v1 v2 v3) nfn nfn nfn nfn):=by intros;rfl
theorem aOK:type_of% (fun v0=> @dO.eq_5 (A.mp v0) nfn nfn nfn nfn):=by intros;rfl
theorem aPi:type_of% (fun v0=> @x2.eq_2 (A.d v0) nfn):=by intros;rfl
theorem aPT:type_of% (fun v0 v1 v2 v3=> @x2.eq_2 (A.sl v0 v1 v2 v3) nfn):=by intros;rfl
theorem aPI:type_of% (fun v0=> @x2.eq_2 (A.agg v0) nfn):=by intros;rfl
theorem aOq:type_of% (fun v0 v1 v2 v3=> @eP.eq_4 (O.arr v1 v2 v3) v0 nfn nfn):=by intros;rfl
theorem aO3:type_of% (fun v0 v1=> @eP.eq_4 (O.mp v1) v0 nfn nfn):=by intros;rfl
theorem aPa:type_of% (@tupA.eq_2 List.nil nfn):=(@tupA.eq_2 List.nil nfn)
theorem aOE:type_of% (fun v0 v1 v2=> @tupA.eq_2 (List.cons v0 (List.cons v1 v2)) nfn):=by intros;rfl
theorem aPm:type_of% (fun v0 v1 v2 v3 v4=> @J1.eq_2 v0 v1 (Go.Operand.tmp v4) v2 v3 nfn):=by intros;rfl
theorem aN3:type_of% (fun v0 v1 v2 v3=> @bD.eq_3 v0 (A.d (D.int v2 v3)) v1 nfn):=by intros;rfl
theorem aOo:type_of% (fun v0 v1 v2 v3=> @bD.eq_3 v0 (A.d (D.ivs v2 v3)) v1 nfn):=by intros;rfl
theorem aPh:type_of% (fun v0 v1 v2 v3=> @bD.eq_3 v0 (A.d (D.fn v2 v3)) v1 nfn):=by intros;rfl
theorem aOV:type_of% (fun v0 v1 v2 v3 v4 v5=> @bD.eq_3 v0 (A.sl v2 v3 v4 v5) v1 nfn):=by intros;rfl
theorem aO0:type_of% (fun v0 v1 v2=> @bD.eq_3 v0 (A.mp v2) v1 nfn):=by intros;rfl
theorem aN4:type_of% (fun v0 v1 v2 v3=> @mapO.eq_3 v0 (O.arr v1 v2 v3) nfn nfn):=by intros;rfl
theorem aPV:type_of% (fun v0 v1 v2 v3=> @mapO.eq_3 v0 (O.ice v1 v2 v3) nfn nfn):=by intros;rfl
theorem aPr:type_of% (fun v0 v1=> @mapO.eq_3 v0 (O.log v1) nfn nfn):=by intros;rfl
theorem aOw:type_of% (fun v0 v1=> @mapO.eq_3 v0 (O.mp v1) nfn nfn):=by intros;rfl
theorem aPF:type_of% (fun v0 v1=> @frzA.eq_2 v0 (A.d v1) nfn):=by intros;rfl
theorem aOH:type_of% (fun v0 v1 v2 v3 v4=> @frzA.eq_2 v0 (A.sl v1 v2 v3 v4) nfn):=by intros;rfl
theorem aOT:type_of% (fun v0 v1 v2=> @frzA.eq_2 v0 (A.clo v1 v2) nfn):=by intros;rfl
theorem UN0:type_of% (AI @aDF (AI @aLen.eq_def (AI @R2 (AI @aAl (AI @WZ (AI @SW (AI @V7 (AI @aHb (AI @List.range'.eq_1 (AI @List.range'.eq_2 (AI @OD.eq_1 @OP.eq_1))))))))))):=
 ⟨@aDF,@aLen.eq_def,@R2,@aAl,@WZ,@SW,@V7,@aHb,@List.range'.eq_1,@List.range'.eq_2,@OD.eq_1,@OP.eq_1⟩
theorem UN1:type_of% (AI @aPut.eq_1 (AI @aPut.eq_2 (AI @mB.eq_1 (AI @mB.eq_2 (AI @outA.eq_1 (AI @UNx5 (AI @UNx6 (AI @UNx7 (AI @UNx9 (AI @outS.eq_1 (AI @aRK (AI @aRM (AI @aRt (AI @aRp (AI @outS.eq_3 (AI @outS.eq_4 (AI @outS.eq_6 (AI @CC.eq_1 (AI @CC.eq_2 (AI @idsA.eq_1 @idsA.eq_2)))))))))))))))))))):=
 ⟨@aPut.eq_1,@aPut.eq_2,@mB.eq_1,@mB.eq_2,@outA.eq_1,@UNx5,@UNx6,@UNx7,@UNx9,@outS.eq_1,@aRK,@aRM,@aRt,@aRp,@outS.eq_3,@outS.eq_4,@outS.eq_6,@CC.eq_1,@CC.eq_2,@idsA.eq_1,@idsA.eq_2⟩
theorem UN2:type_of% (AI @idsA.eq_3 (AI @idsA.eq_4 (AI @idsA.eq_5 (AI @idsA.eq_7 (AI @idsA.eq_8 (AI @idsL.eq_1 (AI @idsL.eq_2 (AI @mapA.eq_1 (AI @mapA.eq_2 (AI @mapA.eq_3 (AI @mapA.eq_4 (AI @mapA.eq_5 (AI @mapA.eq_7 (AI @mapA.eq_8 (AI @aS.eq_1 (AI @aS.eq_2 (AI @bM.eq_1 (AI @bM.eq_2 (AI @bM.eq_3 (AI @bM.eq_4 (AI @bM.eq_5 (AI @bM.eq_7 (AI @bM.eq_8 (AI @hU.eq_1 (AI @H2.eq_1 (AI @bB.eq_1 (AI @cG.eq_1 (AI @dM.eq_1 (AI @dM.eq_2 (AI @bY.eq_1 (AI @bY.eq_2 (AI @bY.eq_3 (AI @bY.eq_4 (AI @bY.eq_5 (AI @bY.eq_6 @aF.eq_1))))))))))))))))))))))))))))))))))):=
 ⟨@idsA.eq_3,@idsA.eq_4,@idsA.eq_5,@idsA.eq_7,@idsA.eq_8,@idsL.eq_1,@idsL.eq_2,@mapA.eq_1,@mapA.eq_2,@mapA.eq_3,@mapA.eq_4,@mapA.eq_5,@mapA.eq_7,@mapA.eq_8,@aS.eq_1,@aS.eq_2,@bM.eq_1,@bM.eq_2,@bM.eq_3,@bM.eq_4,@bM.eq_5,@bM.eq_7,@bM.eq_8,@hU.eq_1,@H2.eq_1,@bB.eq_1,@cG.eq_1,@dM.eq_1,@dM.eq_2,@bY.eq_1,@bY.eq_2,@bY.eq_3,@bY.eq_4,@bY.eq_5,@bY.eq_6,@aF.eq_1⟩
theorem UN3:type_of% (AI @aF.eq_2 (AI @rD.eq_1 (AI @rD.eq_2 (AI @rD.eq_3 (AI @fY.eq_1 (AI @fY.eq_2 (AI @aRw (AI @aRl (AI @aRA (AI @aRN (AI @aRs (AI @aRJ (AI @aRB (AI @aRo (AI @aRC (AI @aRm (AI @tidy.eq_1 (AI @tidy.eq_2 (AI @aRF (AI @cE.eq_1 (AI @aRr (AI @aRL (AI @cE.eq_3 @qK.eq_1))))))))))))))))))))))):=
 ⟨@aF.eq_2,@rD.eq_1,@rD.eq_2,@rD.eq_3,@fY.eq_1,@fY.eq_2,@aRw,@aRl,@aRA,@aRN,@aRs,@aRJ,@aRB,@aRo,@aRC,@aRm,@tidy.eq_1,@tidy.eq_2,@aRF,@cE.eq_1,@aRr,@aRL,@cE.eq_3,@qK.eq_1⟩
theorem UN4:type_of% (AI @gZ.eq_1 (AI @oP.eq_1 (AI @F7.eq_1 (AI @YG.eq_1 (AI @aRD (AI @HT.eq_1 (AI @qE.eq_1 (AI @keeps.eq_1 (AI @logs.eq_1 (AI @J5.eq_1 @sL.eq_1)))))))))):=
 ⟨@gZ.eq_1,@oP.eq_1,@F7.eq_1,@YG.eq_1,@aRD,@HT.eq_1,@qE.eq_1,@keeps.eq_1,@logs.eq_1,@J5.eq_1,@sL.eq_1⟩
theorem UN5:type_of% (AI @b8.eq_2 (AI @b8.eq_4 (AI @kI.eq_1 (AI @o8.eq_1 (AI @B5.eq_1 (AI @m3.eq_1 (AI @m3.eq_2 (AI @s8.eq_1 (AI @iA.eq_1 (AI @iL.eq_1 (AI @iL.eq_3 (AI @frzL.eq_1 (AI @eK.eq_1 (AI @eK.eq_2 (AI @frz.eq_2 (AI @frz.eq_3 (AI @frz.eq_4 (AI @aRx (AI @frz0.eq_1 (AI @frz0.eq_2 (AI @deep.eq_1 (AI @aZ.eq_1 (AI @aRG (AI @aRz @aRI)))))))))))))))))))))))):=
 ⟨@b8.eq_2,@b8.eq_4,@kI.eq_1,@o8.eq_1,@B5.eq_1,@m3.eq_1,@m3.eq_2,@s8.eq_1,@iA.eq_1,@iL.eq_1,@iL.eq_3,@frzL.eq_1,@eK.eq_1,@eK.eq_2,@frz.eq_2,@frz.eq_3,@frz.eq_4,@aRx,@frz0.eq_1,@frz0.eq_2,@deep.eq_1,@aZ.eq_1,@aRG,@aRz,@aRI⟩
theorem UN6:type_of% (AI @bI.eq_1 (AI @aO5 (AI @aOG (AI @aOI (AI @aPe (AI @aPL (AI @aOr (AI @aN6 (AI @aOK (AI @aPi (AI @aPT (AI @aPI (AI @eP.eq_1 (AI @eP.eq_2 (AI @aOq (AI @aO3 @kV.eq_1)))))))))))))))):=
 ⟨@bI.eq_1,@aO5,@aOG,@aOI,@aPe,@aPL,@aOr,@aN6,@aOK,@aPi,@aPT,@aPI,@eP.eq_1,@eP.eq_2,@aOq,@aO3,@kV.eq_1⟩
theorem UN7:type_of% (AI @kV.eq_2 (AI @GS.eq_1 (AI @GS.eq_2 (AI @oN.eq_1 (AI @oN.eq_2 (AI @tupA.eq_1 (AI @aPa (AI @aOE (AI @tJ.eq_1 (AI @tP.eq_1 (AI @tP.eq_2 (AI @opds.eq_2 (AI @opds.eq_7 (AI @opds.eq_13 (AI @opds.eq_14 @opds.eq_24))))))))))))))):=
 ⟨@kV.eq_2,@GS.eq_1,@GS.eq_2,@oN.eq_1,@oN.eq_2,@tupA.eq_1,@aPa,@aOE,@tJ.eq_1,@tP.eq_1,@tP.eq_2,@opds.eq_2,@opds.eq_7,@opds.eq_13,@opds.eq_14,@opds.eq_24⟩
theorem UN8:type_of% (AI @evOp.eq_1 (AI @dP.eq_1 (AI @one.eq_1 (AI @two.eq_1 (AI @BJ.eq_1 @aPm))))):=
 ⟨@evOp.eq_1,@dP.eq_1,@one.eq_1,@two.eq_1,@BJ.eq_1,@aPm⟩
theorem UN9:type_of% (AI @aNew.eq_1 (AI @qG.eq_3 (AI @qG.eq_4 (AI @xM.eq_1 @OX.eq_1)))):=
 ⟨@aNew.eq_1,@qG.eq_3,@qG.eq_4,@xM.eq_1,@OX.eq_1⟩
theorem UN10:type_of% (AI @back.eq_1 (AI @bG.eq_1 (AI @bG.eq_2 (AI @aI.eq_1 (AI @closed.eq_1 (AI @jK.eq_1 @bD.eq_1)))))):=
 ⟨@back.eq_1,@bG.eq_1,@bG.eq_2,@aI.eq_1,@closed.eq_1,@jK.eq_1,@bD.eq_1⟩
theorem UN11:type_of% (AI @bD.eq_2 (AI @aN3 (AI @aOo (AI @aPh (AI @aOV (AI @aO0 (AI @aJ.eq_2 (AI @pack.eq_1 (AI @mapO.eq_1 (AI @mapO.eq_2 (AI @aN4 (AI @aPV (AI @aPr (AI @aOw (AI @bH.eq_1 (AI @frzA.eq_1 (AI @aPF (AI @aOH (AI @aOT @dX.eq_1))))))))))))))))))):=
 ⟨@bD.eq_2,@aN3,@aOo,@aPh,@aOV,@aO0,@aJ.eq_2,@pack.eq_1,@mapO.eq_1,@mapO.eq_2,@aN4,@aPV,@aPr,@aOw,@bH.eq_1,@frzA.eq_1,@aPF,@aOH,@aOT,@dX.eq_1⟩
theorem UN12:type_of% (AI @dX.eq_2 (AI @memD.eq_1 (AI @YC.eq_1 (AI @K5.eq_1 @eJ.eq_3)))):=
 ⟨@dX.eq_2,@memD.eq_1,@YC.eq_1,@K5.eq_1,@eJ.eq_3⟩
theorem UN:type_of% (AI @UN0 (AI @UN1 (AI @UN2 (AI @UN3 (AI @UN4 (AI @UN5 (AI @UN6 (AI @UN7 (AI @UN8 (AI @UN9 (AI @UN10 (AI @UN11 @UN12)))))))))))):=
 ⟨@UN0,@UN1,@UN2,@UN3,@UN4,@UN5,@UN6,@UN7,@UN8,@UN9,@UN10,@UN11,@UN12⟩
theorem aRk:type_of% (@bR.eq_5 Go.Code.skip nfn nfn nfn nfn):=(@bR.eq_5 Go.Code.skip nfn nfn nfn nfn)
theorem aRy:type_of% (fun v0 v1 v2=> @bR.eq_5 (Go.Code.region v0 v1 v2) nfn nfn nfn nfn):=(fun v0 v1 v2=> @bR.eq_5 (Go.Code.region v0 v1 v2) nfn nfn nfn nfn)
theorem aRv:type_of% (fun v0=> @bR.eq_5 (Go.Code.exit v0) nfn nfn nfn nfn):=(fun v0=> @bR.eq_5 (Go.Code.exit v0) nfn nfn nfn nfn)
theorem aO2:type_of% (@bR.eq_5 Go.Code.ret nfn nfn nfn nfn):=(@bR.eq_5 Go.Code.ret nfn nfn nfn nfn)
theorem SLM0:type_of% (AI @Bb.{0} (AI @Ac.{0} (AI @Bv (AI @Ag (AI @Ai.{0,0} (AI @Ar.{0,0} (AI @Cp.{0} (AI @Aw.{0} (AI @Dc.{0,0} (AI @Ak (AI @Ae.{0} (AI @List.replicate.eq_1.{0} (AI @List.replicate.eq_2.{0} (AI @Ax.{0} (AI @Ap.{0} (AI @Aj.{0} (AI @List.getD_cons_zero.{0} (AI @List.getD_cons_succ.{0} (AI @aT.eq_1 (AI @a6.eq_1 (AI @lpOf.eq_1 (AI @aO.eq_1 (AI @slim.eq_1 (AI @slim.eq_2 (AI @slim.eq_3 (AI @slim.eq_4 (AI @slim.eq_5 (AI @slim.eq_6 (AI @slim.eq_7 (AI @slim.eq_8 (AI @bR.eq_1 (AI @bR.eq_2 @bR.eq_3)))))))))))))))))))))))))))))))):=
 ⟨@Bb.{0},@Ac.{0},@Bv,@Ag,@Ai.{0,0},@Ar.{0,0},@Cp.{0},@Aw.{0},@Dc.{0,0},@Ak,@Ae.{0},@List.replicate.eq_1.{0},@List.replicate.eq_2.{0},@Ax.{0},@Ap.{0},@Aj.{0},@List.getD_cons_zero.{0},@List.getD_cons_succ.{0},@aT.eq_1,@a6.eq_1,@lpOf.eq_1,@aO.eq_1,@slim.eq_1,@slim.eq_2,@slim.eq_3,@slim.eq_4,@slim.eq_5,@slim.eq_6,@slim.eq_7,@slim.eq_8,@bR.eq_1,@bR.eq_2,@bR.eq_3⟩
theorem SLM1:type_of% (AI @bR.eq_4 (AI @aRk (AI @aRy (AI @aRv (AI @aO2 (AI @F1.eq_1 (AI @MF.eq_1 @MF.eq_2))))))):=
 ⟨@bR.eq_4,@aRk,@aRy,@aRv,@aO2,@F1.eq_1,@MF.eq_1,@MF.eq_2⟩
theorem SLM:type_of% (AI @SLM0 @SLM1):=
 ⟨@SLM0,@SLM1⟩
theorem LN:type_of% (AI @Af.{0} (AI @Ae.{0} (AI @Ac.{0} (AI @Bj.{0} (AI @List.length_replicate.{0} (AI @Ao.{0,0} (AI @Bk.{0} @Cf.{0}))))))):=
 ⟨@Af.{0},@Ae.{0},@Ac.{0},@Bj.{0},@List.length_replicate.{0},@Ao.{0,0},@Bk.{0},@Cf.{0}⟩
theorem GT:type_of% (AI @Cp.{0} @Aw.{0}):=
 ⟨@Cp.{0},@Aw.{0}⟩
end Ev
end Go.Proofs.YtppffbehejpglaaGreat
