/-
  How each operation goes, in the form in which the evaluator is walked.
-/
import Derived.Test.YtahbdkmimmnadaaGreatDoorEvPrim
set_option linter.unusedSimpArgs false
set_option linter.unusedVariables false
set_option linter.unusedSectionVars false
namespace Go.Proofs.YtahbdkmimmnadaaGreatDoor
namespace Ev
section
variable{R:Type}{E:Env}{call:aX}{thaw:List Nat}{dst:Option Tmp}{s:List A}{h:H}{k:A->H->Option R}
structure Now(p:Prop):Prop where
 it:p
structure Shut(p:Prop):Prop where
 it:p
inductive Box(α:Type) where
 |mk (a:α)
 |no
def box{α:Type}(a:α):Box α:=.mk a
theorem aNq{α:Type}{a:α}:box a=.mk a:=rfl
theorem aMP{t:Nat}{q:A->Option R}:kv s (.tmp t) q=match box (s.getD t (.d .undef))with|.no=>none|.mk a=>q a:=rfl
theorem aOu{K:IntKind}{n:Int}{q:A->Option R}:kv s (.const (.int K n)) q=q (.d (.int K n)):=rfl
theorem aKA{b:Bool}{q:A->Option R}:kv s (.const (.bool b)) q=q (.d (.bool b)):=rfl
theorem aOq{b:ByteArray}{q:A->Option R}:kv s (.const (.string b)) q=match box b.data.toList with|.no=>none|.mk l=>q (.d (.str l)):=rfl
theorem aLk{q:A->Option R}:kv s (.const (.pointer none)) q=q (.d .nilp):=rfl
theorem aK1{q:A->Option R}:kv s (.const (.slice none 0 0)) q=q (.d .nils):=rfl
theorem aKx{f:FuncId}{q:A->Option R}:kv s (.func f) q=q (.clo f []):=rfl
theorem aKB{q:List A->Option R}:kvs s [] q=q []:=rfl
theorem aIw{x:Operand}{xs:List Operand}{q:List A->Option R}:kvs s (x::xs) q=kv s x fun a=>kvs s xs fun asx=>q (a::asx):=by
 unfold kvs kv;simp only[bX]
 cases c8 s x with
 |none=>rfl
 |some a=>grind
theorem aAf{yes no:List A->Option R}:uQ none s yes no=yes s:=rfl
theorem YJ{t:Nat}{w:Bool}{yes no:List A->Option R}:uQ (some (some t,w)) s yes no=match s.getD t .junk with
  |.d (.bool b)=>if b=w then(match box (s.set t (.d (.bool w)))with|.no=>none|.mk s=>yes s)else(match box (s.set t (.d (.bool (!w))))with|.no=>none|.mk s=>no s)
  |.d .undef=>no s
  |_=>none:=by
 simp only[uQ,Aa]
 cases s[t]? with
 |none=>rfl
 |some a=>
  cases a with
  |d x=>cases x<;>rfl
  |_=>rfl
theorem aIV{x:Operand}:kOp E call thaw dst (.move x) s h k=kv s x fun a=>k a h:=by
 unfold kOp kvs kv;simp only[opds,bX]
 cases c8 s x<;>rfl
def kAsg(thaw:List Nat)(dst:Option Tmp)(h:H)(k:A->H->Option R)(a:A):Option R:=
 match a with
 |.d .nils=>match NC thaw dst with
  |0=>k (.d .nils) h
  |e+1=>if e<1000 then k (.sl h.length 0 0 0) (h++[.arr [] e 0])else k (.sl h.length 0 0 0) (h++[.vec [] (e-1000) 0])
 |a=>k a h
theorem NQ{t:Nat}:kOp E call thaw dst (.assign (.tmp t)) s h k=match box (s.getD t (.d .undef))with|.no=>none|.mk a=>k a h:=by
 unfold kOp kvs;rfl
theorem HP{v:Value}:kOp E call thaw dst (.assign (.const v)) s h k=kv s (.const v) (kAsg thaw dst h k):=by
 unfold kOp kvs kv kAsg;simp only[opds,bX]
 cases c8 s (.const v)with
 |none=>rfl
 |some a=>
  simp only[uO,Ap,if_false,evOp,one,HJ,dW]
  cases a with
  |d x=>grind
  |_=>rfl
def kRet(r:Option (A×H))(k:A->H->Option R):Option R:=
 match r with
 |some (a,h')=>k a h'
 |none=>none
theorem aKI{op:BinOp}{t:TypeId}{x y:Operand}{t2:TypeId}:kOp E call thaw dst (.binOp op t x y t2) s h k=kv s x fun a=>kv s y fun b=>kRet (cA E op t h a b) k:=by
 unfold kOp kvs kv kRet;simp only[opds,bX]
 cases c8 s x with
 |none=>rfl
 |some a=>cases c8 s y<;>rfl
theorem aMN{op:UnOp}{t:TypeId}{x:Operand}:kOp E call thaw dst (.unOp op t x) s h k=kv s x fun a=>kRet ((aUn op a).map fun r=>(r,h)) k:=by
 unfold kOp kvs kv kRet;simp only[opds,bX]
 cases c8 s x<;>rfl
theorem aJp{c x y:Operand}:kOp E call thaw dst (.pick c x y) s h k=kv s c fun b=>kv s x fun a=>kv s y fun a'=>kRet (M9 h [b,a,a']) k:=by
 unfold kOp kvs kv kRet;simp only[opds,bX]
 cases c8 s c with
 |none=>rfl
 |some b=>cases c8 s x with
  |none=>rfl
  |some a=>cases c8 s y<;>rfl
theorem WU{x:Operand}:kOp E call thaw dst (.nilCheck x) s h k=kv s x fun a=>kRet (lU h a) k:=by
 unfold kOp kvs kv kRet;simp only[opds,bX]
 cases c8 s x<;>rfl
theorem aHQ{t u:TypeId}{x:Operand}:kOp E call thaw dst (.convert t u x) s h k=kv s x fun a=>kRet (gE E.P h t u a) k:=by
 unfold kOp kvs kv kRet;simp only[opds,bX]
 cases c8 s x<;>rfl
theorem aJa{t:TypeId}{x:Operand}:kOp E call thaw dst (.load t x) s h k=kv s x fun a=>kRet ((B5 E.P h t a).map fun v=>(v,h)) k:=by
 unfold kOp kvs kv kRet;simp only[opds,bX]
 cases c8 s x<;>rfl
theorem aF1{t:TypeId}{x y:Operand}:kOp E call thaw dst (.store t x y) s h k=kv s x fun a=>kv s y fun b=>kRet ((iW E.P h t a b).map fun h'=>(.d .undef,h')) k:=by
 unfold kOp kvs kv kRet;simp only[opds,bX]
 cases c8 s x with
 |none=>rfl
 |some a=>cases c8 s y<;>rfl
theorem aEy{t:TypeId}:kOp E call thaw dst (.alloc t) s h k=match box (cX E.P t)with
  |.no=>none
  |.mk none=>none
  |.mk (some z)=>kRet (aNew h z) k:=by
 unfold kOp kvs kRet;simp only[opds,bX,uO,Ap,if_false,evOp,dW,box]
 cases cX E.P t<;>rfl
theorem aK7{t:TypeId}{x:Operand}:kOp E call thaw dst (.box t x) s h k=kv s x fun a=>kRet (aNew h a) k:=by
 unfold kOp kvs kv kRet;simp only[opds,bX]
 cases c8 s x<;>rfl
theorem aEt{t:TypeId}{ps:List (Nat×Operand)}:kOp E call thaw dst (.build t ps.toArray) s h k=match box (ps.map (·.2))with
  |.no=>none
  |.mk xs=>kvs s xs fun vs=>kRet ((nS E.P t ((ps.map (·.1)).zip vs)).map fun a=>(a,h)) k:=by
 rfl
theorem OX{t:TypeId}{n:Nat}{ps:List (Nat×Operand)}:kOp E call thaw dst (.buildSlice t n ps.toArray) s h k=match box (ps.map (·.2))with
  |.no=>none
  |.mk xs=>kvs s xs fun vs=>kRet (if logs thaw dst=true then W9 (kP E.P h t n ((ps.map (·.1)).zip vs))else if keeps thaw dst=true then rS E.P h t n ((ps.map (·.1)).zip vs)else kP E.P h t n ((ps.map (·.1)).zip vs)) k:=by
 rfl
theorem VH{fn:Fn}{cap:List Operand}:kOp E call thaw dst (.makeFunc fn #[] cap.toArray) s h k=kvs s cap fun vs=>kRet (NK h fn true vs) k:=by
 rfl
theorem QU{t:TypeId}{x y:Operand}:kOp E call thaw dst (.makeSlice t x y) s h k=kv s x fun a=>kv s y fun b=>kRet (iH a fun l=>iH b fun c=>if keeps thaw dst=true then G7 E.P h t l c else fG E.P h t l c) k:=by
 unfold kOp kvs kv kRet;simp only[opds,bX]
 cases c8 s x with
 |none=>rfl
 |some a=>cases c8 s y<;>rfl
theorem YL{t:TypeId}{x hi:Operand}:kOp E call thaw dst (.slice t x none (some hi) none) s h k=kvs s [x,hi] fun vs=>kRet (A5 E.P h t false true vs) k:=rfl
theorem RL{t:TypeId}{x:Operand}{f:Nat}:kOp E call thaw dst (.fieldAddr t x f) s h k=kv s x fun a=>kRet ((cF E.P t f).bind fun r=>(sK r.1 a).map fun r=>(r,h)) k:=by
 unfold kOp kvs kv kRet;simp only[opds,bX]
 cases c8 s x<;>rfl
theorem Q2{t:TypeId}{x y:Operand}:kOp E call thaw dst (.indexAddr t x y) s h k=kv s x fun a=>kv s y fun b=>kRet (iH b fun i=>(oY E.P h t a i).map fun r=>(r,h)) k:=by
 unfold kOp kvs kv kRet;simp only[opds,bX]
 cases c8 s x with
 |none=>rfl
 |some a=>cases c8 s y<;>rfl
theorem aER{t:TypeId}{x y:Operand}:kOp E call thaw dst (.index t x y) s h k=kv s x fun a=>kv s y fun b=>kRet (iH b fun i=>(OL E.P t a i).map fun r=>(r,h)) k:=by
 unfold kOp kvs kv kRet;simp only[opds,bX]
 cases c8 s x with
 |none=>rfl
 |some a=>cases c8 s y<;>rfl
theorem ZS{x:Operand}{i:Nat}:kOp E call thaw dst (.extract x i) s h k=kv s x fun a=>kRet (xW h i a) k:=by
 unfold kOp kvs kv kRet;simp only[opds,bX]
 cases c8 s x<;>rfl
theorem ZJ{b:Builtin}{args:List Operand}{tys:List TypeId}:kOp E call thaw dst (.call ⟨.builtin b,args.toArray,tys.toArray⟩) s h k=kvs s args fun vs=>kRet (cQ E.P h b tys vs) k:=by
 rfl
theorem eF{op:Op}{q:A->H->Foot->Option R}(hp:Now (rL op=true/\uO op=false)):kOpD E call thaw dst op s h q=kOp E call thaw dst op s h fun a _=>q a h {}:=by
 obtain⟨hp,hc⟩:=hp.it;unfold kOpD kOp kvs;rw[hp,hc]
 cases bX s (opds op)with
 |none=>rfl
 |some vs=>grind
def memD(E:Env)(call:aX)(thaw:List Nat)(dst:Option Tmp)(op:Op)(h:H)(vs:List A):Option (A×H×Foot):=match box (aD aF h (idsL vs) [])with
 |.no=>none
 |.mk ord=>match box (evOp E call thaw (pack h ord) (dW dst op) (aE (aH ord) vs))with
  |.mk (some (a,h1))=>if ord.length<=h1.length/\closed h ord (idsL vs)=true then
    (if(iU E op vs&&h1.length-ord.length==0)=true then some (mapA (back ord h.length h1.length) a,h,{ ids:=ord,ro:=true})
    else some (mapA (back ord h.length h1.length) a,bE (back ord h.length h1.length) h ord h1,{ ids:=ord++List.range' h.length (h1.length-ord.length),ro:=false,wr:=wrOf E op vs ord++List.range' h.length (h1.length-ord.length)}))
   else none
  |_=>none
theorem hY{op:Op}{q:A->H->Foot->Option R}(hp:Now (rL op=false/\tF op=false)):kOpD E call thaw dst op s h q=match box (opds op)with|.no=>none|.mk xs=>kvs s xs fun vs=>match box (memD E call thaw dst op h vs)with
  |.mk (some (a,h',c))=>q a h' c
  |_=>none:=by
 simp only[box];unfold kOpD kvs;rw[hp.it.1,hp.it.2]
 cases bX s (opds op)with
 |none=>rfl
 |some vs=>
  simp only[Ap,if_false,jK,memD,box]
  cases evOp E call thaw (pack h (aD aF h (idsL vs) [])) (dW dst op) (aE (aH (aD aF h (idsL vs) [])) vs)with
  |none=>rfl
  |some r=>grind
theorem WF{op:Op}{q:A->H->Foot->Option R}(hp:Now (rL op=false/\tF op=true/\uO op=false)):kOpD E call thaw dst op s h q=kvs s (opds op) fun vs=>kOp E call thaw dst op s h fun a _=>q a h { ids:=ids0 vs,ro:=true}:=by
 unfold kOpD kOp kvs;rw[hp.it.1,hp.it.2.1,hp.it.2.2]
 cases bX s (opds op)with
 |none=>rfl
 |some vs=>grind
theorem aAV{x:Operand}{xs:List Operand}{op:Op}{q:A->H->Foot->Option R}(hx:opds op=x::xs):(kvs s (opds op) fun vs=>kOp E call thaw dst op s h fun a _=>q a h { ids:=ids0 vs,ro:=true})=kv s x fun b=>kOp E call thaw dst op s h fun a _=>q a h { ids:=idsA b,ro:=true}:=by
 unfold kOp kv;rw[hx];unfold kvs;simp only[bX]
 cases c8 s x with
 |none=>rfl
 |some b=>
  cases bX s xs with
  |none=>rfl
  |some bs=>rfl
theorem aFv{t:TypeId}{x:Operand}{q:A->H->Foot->Option R}:kOpD E call thaw dst (.load t x) s h q=kv s x fun b=>kOp E call thaw dst (.load t x) s h fun a _=>q a h { ids:=idsA b,ro:=true}:=(WF ⟨rfl,rfl,rfl⟩).trans (aAV rfl)
theorem aBG{t:TypeId}{x y:Operand}{q:A->H->Foot->Option R}:type_of% (hY (E:=E) (call:=call) (thaw:=thaw) (dst:=dst) (s:=s) (h:=h) (op:=.store t x y) (q:=q) ⟨rfl,rfl⟩):=hY ⟨rfl,rfl⟩
theorem YY{x:Operand}{q:A->H->Foot->Option R}:type_of% (hY (E:=E) (call:=call) (thaw:=thaw) (dst:=dst) (s:=s) (h:=h) (op:=.assign x) (q:=q) ⟨rfl,rfl⟩):=hY ⟨rfl,rfl⟩
theorem aBX{t:TypeId}{q:A->H->Foot->Option R}:type_of% (hY (E:=E) (call:=call) (thaw:=thaw) (dst:=dst) (s:=s) (h:=h) (op:=.alloc t) (q:=q) ⟨rfl,rfl⟩):=hY ⟨rfl,rfl⟩
theorem J5{t:TypeId}{n:Nat}{ps:List (Nat×Operand)}{q:A->H->Foot->Option R}:type_of% (hY (E:=E) (call:=call) (thaw:=thaw) (dst:=dst) (s:=s) (h:=h) (op:=.buildSlice t n ps.toArray) (q:=q) ⟨rfl,rfl⟩):=hY ⟨rfl,rfl⟩
theorem aEN{t u:TypeId}{x:Operand}{q:A->H->Foot->Option R}:type_of% (hY (E:=E) (call:=call) (thaw:=thaw) (dst:=dst) (s:=s) (h:=h) (op:=.convert t u x) (q:=q) ⟨rfl,rfl⟩):=hY ⟨rfl,rfl⟩
theorem NP{t:TypeId}{x y:Operand}{q:A->H->Foot->Option R}:type_of% (hY (E:=E) (call:=call) (thaw:=thaw) (dst:=dst) (s:=s) (h:=h) (op:=.makeSlice t x y) (q:=q) ⟨rfl,rfl⟩):=hY ⟨rfl,rfl⟩
theorem NV{t:TypeId}{x y:Operand}{q:A->H->Foot->Option R}:kOpD E call thaw dst (.indexAddr t x y) s h q=kv s x fun b=>kOp E call thaw dst (.indexAddr t x y) s h fun a _=>q a h { ids:=idsA b,ro:=true}:=(WF ⟨rfl,rfl,rfl⟩).trans (aAV rfl)
theorem YZ{args tys:Array _}{q:A->H->Foot->Option R}:type_of% (hY (E:=E) (call:=call) (thaw:=thaw) (dst:=dst) (s:=s) (h:=h) (op:=.call ⟨.builtin .append,args,tys⟩) (q:=q) ⟨rfl,rfl⟩):=hY ⟨rfl,rfl⟩
theorem aHg{x:Operand}{xs:List Operand}{tys:Array _}{q:A->H->Foot->Option R}:kOpD E call thaw dst (.call ⟨.builtin .len,(x::xs).toArray,tys⟩) s h q=kv s x fun b=>kOp E call thaw dst (.call ⟨.builtin .len,(x::xs).toArray,tys⟩) s h fun a _=>q a h { ids:=idsA b,ro:=true}:=(WF ⟨rfl,rfl,rfl⟩).trans (aAV rfl)
theorem aFp{x:Operand}{q:A->H->Foot->Option R}:type_of% (eF (E:=E) (call:=call) (thaw:=thaw) (dst:=dst) (s:=s) (h:=h) (op:=.move x) (q:=q) ⟨rfl,rfl⟩):=eF ⟨rfl,rfl⟩
theorem aFd{c x y:Operand}{q:A->H->Foot->Option R}:type_of% (eF (E:=E) (call:=call) (thaw:=thaw) (dst:=dst) (s:=s) (h:=h) (op:=.pick c x y) (q:=q) ⟨rfl,rfl⟩):=eF ⟨rfl,rfl⟩
theorem RH{x:Operand}{q:A->H->Foot->Option R}:type_of% (eF (E:=E) (call:=call) (thaw:=thaw) (dst:=dst) (s:=s) (h:=h) (op:=.nilCheck x) (q:=q) ⟨rfl,rfl⟩):=eF ⟨rfl,rfl⟩
theorem aG8{op:BinOp}{t:TypeId}{x y:Operand}{t2:TypeId}{q:A->H->Foot->Option R}:type_of% (eF (E:=E) (call:=call) (thaw:=thaw) (dst:=dst) (s:=s) (h:=h) (op:=.binOp op t x y t2) (q:=q) ⟨rfl,rfl⟩):=eF ⟨rfl,rfl⟩
theorem aKX{op:UnOp}{t:TypeId}{x:Operand}{q:A->H->Foot->Option R}:type_of% (eF (E:=E) (call:=call) (thaw:=thaw) (dst:=dst) (s:=s) (h:=h) (op:=.unOp op t x) (q:=q) ⟨rfl,rfl⟩):=eF ⟨rfl,rfl⟩
theorem M1{t:TypeId}{x:Operand}{f:Nat}{q:A->H->Foot->Option R}:type_of% (eF (E:=E) (call:=call) (thaw:=thaw) (dst:=dst) (s:=s) (h:=h) (op:=.fieldAddr t x f) (q:=q) ⟨rfl,rfl⟩):=eF ⟨rfl,rfl⟩
theorem UF{x:Operand}{i:Nat}{q:A->H->Foot->Option R}:type_of% (eF (E:=E) (call:=call) (thaw:=thaw) (dst:=dst) (s:=s) (h:=h) (op:=.extract x i) (q:=q) ⟨rfl,rfl⟩):=eF ⟨rfl,rfl⟩
theorem aDo{t:TypeId}{ps:Array (Nat×Operand)}{q:A->H->Foot->Option R}:type_of% (eF (E:=E) (call:=call) (thaw:=thaw) (dst:=dst) (s:=s) (h:=h) (op:=.build t ps) (q:=q) ⟨rfl,rfl⟩):=eF ⟨rfl,rfl⟩
def aIb(a b:Foot):Bool:=(!a.ro&&(!b.ids.isEmpty&&a.wr.any b.ids.contains))||(!b.ro&&(!a.ids.isEmpty&&b.wr.any a.ids.contains))
theorem aPG{l:List Nat}:l.any (([]:List Nat)).contains=false:=by grind
theorem aFW(a b:Foot):aIb a b=lQ a b:=by
 obtain⟨ia,ra,wa⟩:=a;obtain⟨ib,rb,wb⟩:=b;unfold aIb lQ
 cases ia<;>cases ib<;>simp
def jI(ops:List Oper)(cs:List Foot):Bool:=
 let b:=LQ ops []
 (List.range cs.length).all fun j=>(List.range j).all fun i=>(b.getD j 0).testBit i|| !aIb (cs.getD i {}) (cs.getD j {})
theorem aM4{src:List Oper}{cs:List Foot}(h:n4 src cs=true):jI src cs=true:=by
 unfold jI;simp only[aFW];exact h
theorem aBp{src:List Oper}{cs:List Foot}{x:Option R}(hc:Shut (jI src cs=true)):(if n4 src cs=true then x else none)=x:=if_pos (by
 have:=hc.it;unfold jI at this;simp only[aFW]at this;exact this)
theorem aHn{q:List A->H->Option R}:kOps E call thaw [] s h q=q s h:=rfl
theorem aFU{op:Op}{g:Option (Option Tmp×Bool)}{os:List SO}{q:List A->H->Option R}:kOps E call thaw (⟨dst,op,g⟩::os) s h q=uQ g s
  (fun s=>kOp E call thaw dst op s h fun a h'=>match box (aPut s dst a)with|.no=>none|.mk s'=>kOps E call thaw os s' h' q)
  (fun s=>match box (aPut s dst (.d .undef))with|.no=>none|.mk s'=>kOps E call thaw os s' h q):=rfl
theorem aF4{cs:List Foot}{q:List A->H->List Foot->Option R}:vK E call thaw [] s h cs q=q s h cs:=rfl
theorem aCB{op:Op}{g:Option (Option Tmp×Bool)}{os:List SO}{cs:List Foot}{q:List A->H->List Foot->Option R}:vK E call thaw (⟨dst,op,g⟩::os) s h cs q=uQ g s
  (fun s=>kOpD E call thaw dst op s h fun a h' c=>match box (aPut s dst a)with|.no=>none|.mk s'=>vK E call thaw os s' h' (cs++[c]) q)
  (fun s=>match box (aPut s dst (.d .undef))with|.no=>none|.mk s'=>vK E call thaw os s' h (cs++[{}]) q):=rfl
section
variable{L nf:Nat}{live:List Bool}{lp:Nat->Code}{q:Exit->List A->H->Option R}
theorem aCZ:dG E call L nf thaw live lp .skip s h q=q .normal s h:=rfl
theorem aFV{l:List SO}:dG E call L nf thaw live lp (.ops l) s h q=kOps E call thaw l s h fun s h=>q .normal s h:=rfl
theorem ZT{l:List SO}{src:Array Oper}:dG E call L nf thaw live lp (.drawn l src) s h q=vK E call thaw l s h [] fun s h cs=>if n4 src.toList cs=true then q .normal s h else none:=rfl
theorem aEA{a b:SC}:dG E call L nf thaw live lp (.seq a b) s h q=dG E call L nf thaw live lp a s h fun e s h=>match e with
  |.normal=>dG E call L nf thaw live lp b s h q
  |e=>q e s h:=rfl
theorem aCX{c:Operand}{x y:SC}:dG E call L nf thaw live lp (.cond c x y) s h q=kv s c fun a=>match a with
  |.d (.bool b)=>if b=true then dG E call L nf thaw live lp x s h q else dG E call L nf thaw live lp y s h q
  |_=>none:=rfl
theorem aAe{id:Nat}{c:SC}:dG E call L nf thaw live lp (.block id c) s h q=dG E call L nf thaw live lp c s h fun e s h=>match e with
  |.exit i=>if i=id then q .normal s h else q (.exit i) s h
  |e=>q e s h:=rfl
theorem aBu{i:Nat}:dG E call L nf thaw live lp (.loop i) s h q=match box (qQ live s)with
  |.no=>none
  |.mk m=>match box (gc nf m s h)with
   |.mk (s',h')=>aS E call L nf thaw live (lp i) m L s' h' q
   |.no=>none:=rfl
theorem aC6{id:Nat}:dG E call L nf thaw live lp (.exit id) s h q=q (.exit id) s h:=rfl
theorem aFF:dG E call L nf thaw live lp .ret s h q=q .ret s h:=rfl
theorem V8{c:Code}{m:List Bool}{n:Nat}:XA E call L nf thaw live c m n q .normal s h=match box (gc nf m s h)with
  |.mk (s',h')=>aS E call L nf thaw live c m n s' h' q
  |.no=>none:=rfl
theorem aBQ{c:Code}{m:List Bool}{n i:Nat}:XA E call L nf thaw live c m n q (.exit i) s h=match box (gc nf m s h)with
  |.mk (s',h')=>q (.exit i) s' h'
  |.no=>none:=rfl
theorem aFR{c:Code}{m:List Bool}{n:Nat}:XA E call L nf thaw live c m n q .ret s h=match box (gc nf m s h)with
  |.mk (s',h')=>q .ret s' h'
  |.no=>none:=rfl
end
def aW(E:Env)(call:aX)(h:H)(f:FuncId)(args:List A)(k:A->H->Option R):Option R:=
 match bV call E.hint (pack h (aD aF h (idsL args) [])) f (aE (aH (aD aF h (idsL args) [])) args)with
 |some (a,h1)=>
  if(aD aF h (idsL args) []).length<=h1.length/\closed h (aD aF h (idsL args) []) (idsL args)=true then
   k (mapA (back (aD aF h (idsL args) []) h.length h1.length) a) (bE (back (aD aF h (idsL args) []) h.length h1.length) h (aD aF h (idsL args) []) h1)
  else none
 |none=>none
theorem aOZ{f:FuncId}{args:List Operand}{tys:Array TypeId}:kOp E call thaw dst (.call ⟨.value (.func f),args.toArray,tys⟩) s h k=kvs s args fun vs=>aW E call h f vs k:=by
 unfold kOp kvs aW;simp only[opds,bX,c8]
 cases bX s args with
 |none=>rfl
 |some vs=>
  simp only[uO,if_true,jK,idsL,idsA,Am,aE,mapA,evOp,fQ,f5,dW,Ah]
  cases bV call E.hint (pack h (aD aF h (idsL vs) [])) f (aE (aH (aD aF h (idsL vs) [])) vs)with
  |none=>rfl
  |some r=>grind
theorem aF0{f:FuncId}{args:List Operand}{tys:Array TypeId}:kOp E call thaw dst (.call ⟨.value (.func f),args.toArray,tys⟩) s h k=kvs s args fun vs=>aW E call h f vs fun a h'=>match box h' with|.no=>none|.mk h''=>k a h'':=by
 rw[aOZ];rfl
def I9(E:Env)(call:aX)(h:H)(f:FuncId)(caps args:List A)(k:A->H->Option R):Option R:=
 match bV call E.hint (pack h (aD aF h (idsL caps++idsL args) [])) f (aE (aH (aD aF h (idsL caps++idsL args) [])) args++aE (aH (aD aF h (idsL caps++idsL args) [])) caps)with
 |some (a,h1)=>
  if(aD aF h (idsL caps++idsL args) []).length<=h1.length/\closed h (aD aF h (idsL caps++idsL args) []) (idsL caps++idsL args)=true then
   k (mapA (back (aD aF h (idsL caps++idsL args) []) h.length h1.length) a) (bE (back (aD aF h (idsL caps++idsL args) []) h.length h1.length) h (aD aF h (idsL caps++idsL args) []) h1)
  else none
 |none=>none
def nP(E:Env)(call:aX)(h:H)(g:A)(args:List A)(k:A->H->Option R):Option R:=
 match g with
 |.d (.fn f caps)=>aW E call h f (args++caps.map .d) k
 |.clo f caps=>I9 E call h f caps args k
 |_=>none
theorem bM:∀(asx bs:List A),idsL (asx++bs)=idsL asx++idsL bs
 | [],bs=>by simp[idsL]
 |a::asx,bs=>by simp[idsL,bM asx bs]
theorem aMW:∀(ds:List D),idsL (ds.map .d)=[]
 | []=>by simp[idsL]
 |d::ds=>by simp[idsL,idsA,aMW ds]
theorem dB{f:Nat->Option Nat}:∀(asx bs:List A),aE f (asx++bs)=aE f asx++aE f bs
 | [],bs=>by simp[aE]
 |a::asx,bs=>by simp[aE,dB asx bs]
theorem aKH{f:Nat->Option Nat}:∀(ds:List D),aE f (ds.map .d)=ds.map .d
 | []=>by simp[aE]
 |d::ds=>by simp[aE,mapA,aKH ds]
theorem aN9{g:A}{vs:List A}{tys:Array TypeId}{x:Operand}{args:Array Operand}:(match jK E call thaw h (dW dst (.call ⟨.value x,args,tys⟩)) (g::vs)with
   |some (a,h',_)=>k a h'
   |none=>none)=nP E call h g vs k:=by
 unfold jK;simp only[evOp,fQ,dW,aE]
 cases g with
 |d y=>
  cases y with
  |fn f caps=>
   simp only[nP,aW,mapA,f5,idsL,idsA,Am,bM,aMW,Ah,dB,aKH]
   cases bV call E.hint (pack h (aD aF h (idsL vs) [])) f (aE (aH (aD aF h (idsL vs) [])) vs++caps.map .d)with
   |none=>rfl
   |some r=>grind
  |_=>simp only[nP,mapA,f5]
 |clo f caps=>
  simp only[nP,I9,mapA,f5,idsL,idsA]
  cases bV call E.hint (pack h (aD aF h (idsL caps++idsL vs) [])) f (aE (aH (aD aF h (idsL caps++idsL vs) [])) vs++aE (aH (aD aF h (idsL caps++idsL vs) [])) caps)with
  |none=>rfl
  |some r=>grind
 |sl id gen off len=>
  simp only[nP,mapA]
  cases aH (aD aF h (idsL (A.sl id gen off len::vs)) []) id<;>rfl
 |ptr id gen off=>
  simp only[nP,mapA]
  cases aH (aD aF h (idsL (A.ptr id gen off::vs)) []) id<;>rfl
 |mp id=>
  simp only[nP,mapA]
  cases aH (aD aF h (idsL (A.mp id::vs)) []) id<;>rfl
 |agg cs=>simp only[nP,mapA,f5]
 |tup cs=>simp only[nP,mapA,f5]
 |junk=>simp only[nP,mapA,f5]
theorem aFm{t:Nat}{args:List Operand}{tys:Array TypeId}:kOp E call thaw dst (.call ⟨.value (.tmp t),args.toArray,tys⟩) s h k=match box (s.getD t (.d .undef))with
  |.no=>none
  |.mk g=>kvs s args fun vs=>nP E call h g vs k:=by
 unfold kOp kvs;simp only[opds,bX,c8,box]
 cases bX s args with
 |none=>rfl
 |some vs=>simp only[uO,if_true];exact aN9
theorem aE5{f:FuncId}{caps:List D}{vs:List A}:nP E call h (.d (.fn f caps)) vs k=match box (vs++caps.map .d)with|.no=>none|.mk as'=>aW E call h f as' k:=rfl
theorem aDg{f:FuncId}{caps vs:List A}:nP E call h (.clo f caps) vs k=I9 E call h f caps vs k:=rfl
theorem aJk{h:H}{ids:List Nat}{h1:H}{ord:List Nat}:∀(ord:List Nat) (h h1:H) (f:Nat->Option Nat),ord.length<=h1.length->(bE f h ord h1).length=h.length+(h1.length-ord.length)
 | [],h,h1,f,_=>by simp[bE]
 |i::ord,h,[],f,hl=>by simp at hl
 |i::ord,h,o::h1,f,hl=>by
  simp only[bE,aJk (h:=h) (ids:=ids) (h1:=h1) (ord:=ord) ord _ h1 f (by simpa using hl),Bt,Ac];omega
def wrC(E:Env)(f:FuncId)(ord:List Nat):List Nat:=if(E.hint f).mode==3 then []else ord
def aG3(E:Env)(f:FuncId)(h h':H)(ord:List Nat):Option (H×Foot):=if((E.hint f).mode==1&&h'.length-h.length==0)=true then some (h,{ ids:=ord,ro:=true})else some (h',{ ids:=ord++List.range' h.length (h'.length-h.length),ro:=false,wr:=wrC E f ord++List.range' h.length (h'.length-h.length)})
theorem aLS{f:FuncId}{args:List Operand}{tys:Array TypeId}{q:A->H->Foot->Option R}:kOpD E call thaw dst (.call ⟨.value (.func f),args.toArray,tys⟩) s h q=kvs s args fun vs=>match box (aD aF h (idsL vs) [])with
  |.no=>none
  |.mk ord=>aW E call h f vs fun a h'=>if((E.hint f).mode==1&&h'.length-h.length==0)=true then q a h { ids:=ord,ro:=true}else q a h' { ids:=ord++List.range' h.length (h'.length-h.length),ro:=false,wr:=wrC E f ord++List.range' h.length (h'.length-h.length)}:=by
 unfold kOpD kvs aW;simp only[opds,bX,c8,box]
 cases bX s args with
 |none=>rfl
 |some vs=>
  simp only[rL,tF,Ap,if_false,jK,idsL,idsA,Am,aE,mapA,evOp,fQ,f5,dW,Ah,iU]
  cases bV call E.hint (pack h (aD aF h (idsL vs) [])) f (aE (aH (aD aF h (idsL vs) [])) vs)with
  |none=>rfl
  |some r=>
   obtain⟨a,h1⟩:=r
   by_cases c1:(aD aF h (idsL vs) []).length<=h1.length
   ·by_cases c2:closed h (aD aF h (idsL vs) []) (idsL vs)=true
    ·have e:=aJk (h:=h) (ids:=idsL vs) (h1:=h1) (ord:=[]) (aD aF h (idsL vs) []) h h1 (back (aD aF h (idsL vs) []) h.length h1.length) c1;have e2:(bE (back (aD aF h (idsL vs) []) h.length h1.length) h (aD aF h (idsL vs) []) h1).length-h.length=h1.length-(aD aF h (idsL vs) []).length:=om;simp only[c1,c2,and_self,if_true,e2]
     first|done|rfl|(by_cases c3:((E.hint f).mode==1&&h1.length-(aD aF h (idsL vs) []).length==0)=true<;>simp[c3])
    ·grind
   ·grind
theorem aGa{f:FuncId}{args:List Operand}{tys:Array TypeId}{q:A->H->Foot->Option R}:kOpD E call thaw dst (.call ⟨.value (.func f),args.toArray,tys⟩) s h q=kvs s args fun vs=>match box (aD aF h (idsL vs) [])with
  |.no=>none
  |.mk ord=>aW E call h f vs fun a h'=>match box (aG3 E f h h' ord)with|.mk (some (h'',c))=>q a h'' c|_=>none:=by
 rw[aLS]
 congr 1
 funext vs
 simp only[box]
 congr 1
 funext a h'
 unfold aG3
 by_cases hc:((E.hint f).mode==1&&h'.length-h.length==0)=true
 ·grind
 ·grind
theorem GD(n:Nat)(h:H):aD n h [] []=[]:=by cases n<;>rfl
mutual
theorem nV{f:Nat->Option Nat}:∀a:A,idsA a=[]->mapA f a=a
 |.d x,_=>by simp only[mapA]
 |.sl id gen off len,h=>by simp[idsA]at h
 |.ptr id gen off,h=>by simp[idsA]at h
 |.mp id,h=>by simp[idsA]at h
 |.clo g caps,h=>by simp only[idsA]at h;simp only[mapA];rw[gB caps h]
 |.agg cs,h=>by simp only[idsA]at h;simp only[mapA];rw[gB cs h]
 |.tup cs,h=>by simp only[idsA]at h;simp only[mapA];rw[gB cs h]
 |.junk,_=>by simp only[mapA]
theorem gB{f:Nat->Option Nat}:∀asx:List A,idsL asx=[]->aE f asx=asx
 | [],_=>by simp only[aE]
 |a::asx,h=>by
  simp only[idsL,List.append_eq_nil_iff]at h;simp only[aE];rw[nV a h.1,gB asx h.2]
end
theorem aOf{a:A}(h:x4 a=true):idsA a=[]:=by
 cases a with
 |d x=>rfl
 |agg cs=>
  simp only[x4]at h;simp only[idsA]
  induction cs with
  |nil=>rfl
  |cons c cs ih=>
   simp only[Bp,Aj]at h;simp only[idsL,ih h.2,Ah]
   cases c<;>first|rfl|simp[isD]at h
 |_=>simp[x4]at h
theorem F3:∀ {asx:List A},asx.all x4=true->idsL asx=[]
 | [],_=>rfl
 |a::asx,h=>by
  simp only[Bp,Aj]at h;simp only[idsL,aOf h.1,F3 h.2,Ah]
theorem aCW{h:H}:∀ {cs:List A},cs.all isD=true->∃ds,frzL h cs=some (ds,h)/\ds.map .d=cs
 | [],_=>⟨[],rfl,rfl⟩
 |c::cs,hs=>by
  simp only[Bp,Aj]at hs;obtain⟨ds,h1,h2⟩:=aCW (h:=h) hs.2
  cases c with
  |d x=>
   refine⟨x::ds,?_,by simp[h2]⟩;unfold frzL at h1|-;simp only[eJ];have:frz deep h (.d x)=some (x,h):=rfl;rw[this];simp only[h1]
  |_=>simp[isD]at hs
theorem BW{h:H}:∀ {asx:List A},asx.all x4=true->eS h asx=some (asx,h)
 | [],_=>rfl
 |a::asx,hs=>by
  simp only[Bp,Aj]at hs
  have ha:frzA h a=some (a,h):=by
   cases a with
   |d x=>rfl
   |agg cs=>
    obtain⟨ds,h1,h2⟩:=aCW (h:=h) (cs:=cs) (by simpa only[x4]using hs.1);simp only[frzA,h1,h2]
   |_=>simp[x4]at hs
  simp only[eS,ha,BW hs.2]
theorem aKh{r:A}(h:iA r=true):pE r=true/\mapA (fun k=>back [] 0 0 k) r=r:=by
 cases r with
 |d x=>cases x<;>first|exact⟨rfl,rfl⟩|simp[iA]at h
 |tup vs=>
  simp only[iA]at h
  have key:kT vs=true/\aE (fun k=>back [] 0 0 k) vs=vs:=by
   induction vs with
   |nil=>exact⟨rfl,by simp only[aE]⟩
   |cons v vs ih=>
    simp only[Bp,Aj]at h;obtain⟨i1,i2⟩:=ih h.2
    cases v with
    |d x=>cases x<;>first|(exfalso;simp at h;done)|(refine⟨by simp only[kT,pE,zU,i1,Bx],by simp only[aE,mapA,i2]⟩)
    |_=>grind
  exact⟨by simp only[pE];exact key.1,by simp only[mapA,key.2]⟩
 |_=>simp[iA]at h
theorem aJZ{f:FuncId}{args:List A}{r:A}(hs:args.all x4=true)(hc:call f args []=some (r,[]))(hp:iA r=true\/((E.hint f).mode==1||(E.hint f).mode==3)=false):bV call E.hint [] f args=some (r,[]):=by
 unfold bV
 split
 ·exact hc
 ·rename_i hm
  rw[BW hs];simp only[hc]
  rcases hp with hp|hp
  ·rw[hp];rfl
  ·grind
 ·rename_i hm
  rw[BW hs];simp only[hc]
  rcases hp with hp|hp
  ·obtain⟨h1,h2⟩:=aKh hp;rw[h1];exact congrArg (fun x=>some (x,([]:H))) h2
  ·grind
 ·rw[BW hs];simp only[hc]
theorem cS{f:FuncId}{args:List A}{r:A}(hs:args.all x4=true)(hc:call f args []=some (r,[]))(hr:idsA r=[])(hp:iA r=true\/((E.hint f).mode==1||(E.hint f).mode==3)=false):aW E call h f args k=k r h:=by
 unfold aW;rw[F3 hs,GD,gB _ (F3 hs)];have:pack h []=[]:=rfl;rw[this,aJZ hs hc hp];simp only[Ab,Ad,true_and,closed,Cc,Bx,if_true,nV r hr,bE,Al,Ah]
def mU(call:aX)(f:FuncId)(args:List A)(k:A->Option R):Option R:=
 match call f args []with
 |some (r,[])=>if iA r=true then k r else none
 |_=>none
theorem oQ{f:FuncId}{args:List A}{r:A}{k:A->Option R}(hc:call f args []=some (r,[]))(hp:iA r=true):mU call f args k=k r:=by
 unfold mU;rw[hc];simp only[hp,if_true]
theorem aOz{r:A}(h:iA r=true):idsA r=[]:=by
 cases r with
 |d x=>rfl
 |tup vs=>
  simp only[iA]at h;simp only[idsA]
  induction vs with
  |nil=>rfl
  |cons v vs ih=>
   simp only[Bp,Aj]at h;simp only[idsL,ih h.2,Ah]
   cases v with
   |d x=>rfl
   |_=>grind
 |_=>simp[iA]at h
theorem aE0(ord:List Nat)(n:Nat):back ord n ord.length=fun k=>ord[k]?:=by
 funext k
 unfold back
 split
 ·rfl
 ·grind
theorem aIO{h:H}{ord ids:List Nat}(hc:closed h ord ids=true)(hn:ord.Nodup)(hl:∀i∈ord,i<h.length):bE (fun(k:Nat)=>ord[k]?) h ord (pack h ord)=h:=by
 apply Cj;intro id;rw[B4 _ ord h _ id hn hl (by simp[pack])]
 cases hp:aH ord id with
 |none=>
  simp only[]
  split
  ·rfl
  ·rename_i hge
   rw[Cg (by simp[pack]),Cg om];rfl
 |some k=>
  simp only[];have hm:=LW hp;obtain⟨o,ho⟩:∃o,h[id]? =some o:=⟨h[id]'(hl id hm),Ae _⟩
  rw[iI (bC hp) ho,ho,Ay,WV hc hm ho]
theorem aKo{f:FuncId}{args:List A}(hm:(E.hint f).mode=1):aW E call h f args k=match box (aD aF h (idsL args) [])with
  |.no=>none
  |.mk ord=>match box (eS (pack h ord) (aE (aH ord) args))with
   |.mk (some (fs,_))=>if closed h ord (idsL args)=true then mU call f fs fun r=>k r h else none
   |_=>none:=by
 unfold aW bV;rw[hm];simp only[box]
 cases hf:eS (pack h (aD aF h (idsL args) [])) (aE (aH (aD aF h (idsL args) [])) args)with
 |none=>rfl
 |some r=>
  obtain⟨fs,h1⟩:=r;simp only[mU]
  cases hc:call f fs []with
  |none=>simp
  |some r=>
   obtain⟨a,h2⟩:=r
   cases h2 with
   |cons o h2=>simp
   |nil=>
    by_cases hp:iA a=true
    ·simp only[hp,if_true];have hlen:(pack h (aD aF h (idsL args) [])).length=(aD aF h (idsL args) []).length:=by simp[pack]
     simp only[hlen,Ad,true_and]
     by_cases hcl:closed h (aD aF h (idsL args) []) (idsL args)=true
     ·simp only[hcl,if_true,aE0,nV a (aOz hp)];rw[aIO hcl (bT aF h (idsL args) [] sm) (j5 aF h (idsL args) [] sm)]
     ·grind
    ·grind
def W7(h:H)(args:List A):Option (List A):=match box (aD aF h (idsL args) [])with
 |.no=>none
 |.mk ord=>match box (eS (pack h ord) (aE (aH ord) args))with
  |.mk (some (fs,_))=>if closed h ord (idsL args)=true then some fs else none
  |_=>none
theorem fI{f:FuncId}{args:List A}(hm:(E.hint f).mode=1):aW E call h f args k=match box (W7 h args)with
  |.mk (some fs)=>mU call f fs fun r=>k r h
  |_=>none:=by
 rw[aKo hm];unfold W7;simp only[box]
 cases eS (pack h (aD aF h (idsL args) [])) (aE (aH (aD aF h (idsL args) [])) args)with
 |none=>rfl
 |some r=>grind
theorem aKW{nf:Nat}{h:H}{ord:List Nat}{s:List A}:trim nf h ord s=match box (pack h ord)with
  |.mk p=>(aQ nf p (aE (aH ord) s),cM nf p)
  |.no=>([],[]):=rfl
theorem aQz{nf:Nat}{m:List Bool}{s:List A}{h:H}:gc nf m s h=match box (tidy m s)with
  |.mk s1=>match box (dI nf h (idsL s1))with
   |.mk ord=>trim nf h ord s1
   |.no=>([],[])
  |.no=>([],[]):=rfl
theorem aKK{P:Program}{nf:Nat}{exp:Bool}{rs:List ResultVar}{e:Exit}{s:List A}{h:H}:kFin P nf exp rs e s h=
  if lV e then(match kU P s h rs with
   |some rs=>match qN nf exp h rs with
    |some (xs,h2)=>match box (dI nf h2 (idsL xs))with
     |.mk ord=>match box (trim nf h2 ord xs)with
      |.mk r=>some (tupA r.1,r.2)
      |.no=>none
     |.no=>none
    |none=>none
   |none=>none)else none:=rfl
theorem sO(nf:Nat)(h:H)(ids:List Nat):dI nf h ids=aD 1099511627776 h (f9 (h.take nf)++ids) (List.range nf):=rfl
theorem rng0:List.range 0=[]:=rfl
theorem rng1:List.range 1=[0]:=rfl
theorem rng2:List.range 2=[0,1]:=rfl
theorem WS(h:H)(ids:List Nat):dI 0 h ids=aD 1099511627776 h ids []:=by
 unfold dI;rfl
theorem xT(n:Nat)(h:H)(acc:List Nat):aD n h [] acc=acc:=by cases n<;>rfl
theorem o8(n:Nat)(h:H)(i:Nat)(todo acc:List Nat):aD (n+1) h (i::todo) acc=if acc.contains i=true then aD n h todo acc
  else match h.getD i .void with
   |.box cs=>aD n h (todo++idsL cs) (acc++[i])
   |.vec cs _ _=>aD n h (todo++idsL cs) (acc++[i])
   |.void=>aD n h todo acc
   |_=>aD n h todo (acc++[i]):=by
 simp only[aD,Aa]
 split
 ·rfl
 ·grind
theorem aH4{α:Type}{c:Prop}[Decidable c]{a:α}(hc:c):(if c then some a else none)=some a:=if_pos hc
def iAnd(k:IntKind)(a b:Int):Int:=k.wrap (BitVec.ofInt k.bits a&&&BitVec.ofInt k.bits b).toNat
def iOr(k:IntKind)(a b:Int):Int:=k.wrap (BitVec.ofInt k.bits a|||BitVec.ofInt k.bits b).toNat
def iXor(k:IntKind)(a b:Int):Int:=k.wrap (BitVec.ofInt k.bits a^^^BitVec.ofInt k.bits b).toNat
section
variable{t:TypeId}{K:IntKind}{a b:Int}
theorem aE2:cA E .add t h (.d (.int K a)) (.d (.int K b))=some (.d (.int K (K.wrap (a+b))),h):=by simp[cA,aBin];rfl
theorem aFM:cA E .sub t h (.d (.int K a)) (.d (.int K b))=some (.d (.int K (K.wrap (a-b))),h):=by simp[cA,aBin];rfl
theorem aEX:cA E .mul t h (.d (.int K a)) (.d (.int K b))=some (.d (.int K (K.wrap (a*b))),h):=by simp[cA,aBin];rfl
theorem aF3:cA E .and t h (.d (.int K a)) (.d (.int K b))=some (.d (.int K (iAnd K a b)),h):=by simp[cA,aBin];rfl
theorem aHK:cA E .or t h (.d (.int K a)) (.d (.int K b))=some (.d (.int K (iOr K a b)),h):=by simp[cA,aBin];rfl
theorem aEL:cA E .xor t h (.d (.int K a)) (.d (.int K b))=some (.d (.int K (iXor K a b)),h):=by simp[cA,aBin];rfl
theorem aFs:cA E .lss t h (.d (.int K a)) (.d (.int K b))=some (.d (.bool (decide (a<b))),h):=by simp[cA,aBin]
theorem aEK:cA E .leq t h (.d (.int K a)) (.d (.int K b))=some (.d (.bool (decide (a<=b))),h):=by simp[cA,aBin]
theorem aGc:cA E .gtr t h (.d (.int K a)) (.d (.int K b))=some (.d (.bool (decide (b<a))),h):=by simp[cA,aBin]
theorem aEu:cA E .geq t h (.d (.int K a)) (.d (.int K b))=some (.d (.bool (decide (b<=a))),h):=by simp[cA,aBin]
theorem aFx:cA E .eql t h (.d (.int K a)) (.d (.int K b))=some (.d (.bool (decide (a=b))),h):=by simp[cA,aBin];rfl
theorem aEY:cA E .neq t h (.d (.int K a)) (.d (.int K b))=some (.d (.bool (!decide (a=b))),h):=by simp[cA,aBin];rfl
theorem aFS(hb:b≠0):cA E .quo t h (.d (.int K a)) (.d (.int K b))=some (.d (.int K (K.wrap (a.tdiv b))),h):=by simp[cA,aBin,hb]
theorem aEI(hb:b≠0):cA E .rem t h (.d (.int K a)) (.d (.int K b))=some (.d (.int K (a.tmod b)),h):=by simp[cA,aBin,hb]
theorem aFJ{K2:IntKind}(hb:0<=b):cA E .shl t h (.d (.int K a)) (.d (.int K2 b))=some (.d (.int K (K.wrap (a*2^(min b.toNat K.bits)))),h):=by
 have:¬b<0:=om;simp[cA,aBin,Op.shift,this];rfl
theorem aEW{K2:IntKind}(hb:0<=b):cA E .shr t h (.d (.int K a)) (.d (.int K2 b))=some (.d (.int K (a.fdiv (2^(min b.toNat K.bits)))),h):=by
 have:¬b<0:=om;simp[cA,aBin,Op.shift,this];rfl
theorem aK8{b:Bool}:aUn .not (.d (.bool b))=some (.d (.bool (!b))):=rfl
end
end
theorem WD:type_of% (AI @aCZ (AI @aFV (AI @ZT (AI @aEA (AI @aCX (AI @aAe (AI @aBu (AI @aC6 (AI @aFF (AI @aHn (AI @aFU (AI @aF4 (AI @aCB (AI @aAf (AI @YJ (AI @aMP (AI @aOu (AI @aKA (AI @aOq (AI @aK1 (AI @aLk (AI @aKx (AI @aKB (AI @aIw (AI @aIV (AI @NQ (AI @HP (AI @aKI (AI @aMN (AI @aJp (AI @WU (AI @aHQ (AI @aJa (AI @aF1 (AI @aEy (AI @aK7 (AI @aEt (AI @OX (AI @VH (AI @QU (AI @YL (AI @RL (AI @Q2 (AI @aER (AI @ZS (AI @ZJ (AI @aF0 (AI @aKK (AI @V8 (AI @aBQ @aFR)))))))))))))))))))))))))))))))))))))))))))))))))):=
 ⟨@aCZ,@aFV,@ZT,@aEA,@aCX,@aAe,@aBu,@aC6,@aFF,@aHn,@aFU,@aF4,@aCB,@aAf,@YJ,@aMP,@aOu,@aKA,@aOq,@aK1,@aLk,@aKx,@aKB,@aIw,@aIV,@NQ,@HP,@aKI,@aMN,@aJp,@WU,@aHQ,@aJa,@aF1,@aEy,@aK7,@aEt,@OX,@VH,@QU,@YL,@RL,@Q2,@aER,@ZS,@ZJ,@aF0,@aKK,@V8,@aBQ,@aFR⟩
theorem WDD:type_of% (AI @aFv (AI @aBG (AI @YY (AI @aBX (AI @J5 (AI @aEN (AI @NP (AI @NV (AI @YZ (AI @aHg (AI @aFp (AI @aFd (AI @RH (AI @aG8 (AI @aKX (AI @M1 (AI @UF (AI @aDo (AI @aGa (AI @aFm (AI @aE5 @aDg))))))))))))))))))))):=
 ⟨@aFv,@aBG,@YY,@aBX,@J5,@aEN,@NP,@NV,@YZ,@aHg,@aFp,@aFd,@RH,@aG8,@aKX,@M1,@UF,@aDo,@aGa,@aFm,@aE5,@aDg⟩
theorem WK0:type_of% (AI @aNq (AI @aK8 (AI @aE2 (AI @aFM (AI @aEX (AI @aF3 (AI @aHK (AI @aEL (AI @aFS (AI @aEI (AI @aFJ (AI @aEW (AI @aFs (AI @aEK (AI @aGc (AI @aEu (AI @aFx (AI @aEY (AI @List.getD_nil.{0} (AI @Ce.{0} (AI @By.{0} (AI @aQz @aKW)))))))))))))))))))))):=
 ⟨@aNq,@aK8,@aE2,@aFM,@aEX,@aF3,@aHK,@aEL,@aFS,@aEI,@aFJ,@aEW,@aFs,@aEK,@aGc,@aEu,@aFx,@aEY,@List.getD_nil.{0},@Ce.{0},@By.{0},@aQz,@aKW⟩
theorem WK1:type_of% (AI @Bool.not_true (AI @Bool.not_false (AI @Bool.true_eq_false (AI @decide_eq_true_eq (AI @decide_eq_false_iff_not (AI @Ay.{0,0} (AI @decide_true (AI @decide_false (AI @aH4 (AI @Bu (AI @Nat.one_mul (AI @Ax.{0} (AI @Bp.{0} (AI @Cc.{0} (AI @Bx (AI @Bool.and_true @Bool.true_and)))))))))))))))):=
 ⟨@Bool.not_true,@Bool.not_false,@Bool.true_eq_false,@decide_eq_true_eq,@decide_eq_false_iff_not,@Ay.{0,0},@decide_true,@decide_false,@aH4,@Bu,@Nat.one_mul,@Ax.{0},@Bp.{0},@Cc.{0},@Bx,@Bool.and_true,@Bool.true_and⟩
theorem WK2:type_of% (AI @Dm (AI @Bool.and_false (AI @List.zip_cons_cons.{0,0} (AI @List.zip_nil_left.{0,0} (AI @List.flatten_cons.{0} (AI @List.flatten_nil.{0} (AI @List.take_zero.{0} (AI @List.take_nil.{0} (AI @List.drop_nil.{0} (AI @Bool.or_self (AI @Bool.or_false (AI @Bz (AI @and_self (AI @and_true (AI @true_and (AI @Bool.or_true (AI @Bool.true_or (AI @Dg.{0} (AI @Ds.{0} (AI @Nat.lt_irrefl (AI @List.head?_cons.{0} (AI @List.contains_cons.{0} (AI @List.contains_nil.{0} @sO))))))))))))))))))))))):=
 ⟨@Dm,@Bool.and_false,@List.zip_cons_cons.{0,0},@List.zip_nil_left.{0,0},@List.flatten_cons.{0},@List.flatten_nil.{0},@List.take_zero.{0},@List.take_nil.{0},@List.drop_nil.{0},@Bool.or_self,@Bool.or_false,@Bz,@and_self,@and_true,@true_and,@Bool.or_true,@Bool.true_or,@Dg.{0},@Ds.{0},@Nat.lt_irrefl,@List.head?_cons.{0},@List.contains_cons.{0},@List.contains_nil.{0},@sO⟩
theorem WK3:type_of% (AI @rng0 (AI @rng1 (AI @rng2 (AI @Option.isNone_none.{0} (AI @Option.isNone_some.{0} (AI @Option.isSome_none.{0} (AI @Option.isSome_some.{0} (AI @xT (AI @o8 (AI @beq_self_eq_true.{0} (AI @Nat.succ_ne_self (AI @Nat.zero_ne_one (AI @Ai.{0} (AI @or_false (AI @or_true @Cs.{0}))))))))))))))):=
 ⟨@rng0,@rng1,@rng2,@Option.isNone_none.{0},@Option.isNone_some.{0},@Option.isSome_none.{0},@Option.isSome_some.{0},@xT,@o8,@beq_self_eq_true.{0},@Nat.succ_ne_self,@Nat.zero_ne_one,@Ai.{0},@or_false,@or_true,@Cs.{0}⟩
theorem WK:type_of% (AI @WK0 (AI @WK1 (AI @WK2 @WK3))):=
 ⟨@WK0,@WK1,@WK2,@WK3⟩
section
variable{E:Env}{vs:List A}{t u:TypeId}{x y:Operand}
theorem ZR:iU E (.convert t u x) vs=(cN E.P u).isNone:=rfl
theorem RT{a:Array Operand}{b:Array TypeId}:iU E (.call ⟨.builtin .append,a,b⟩) vs=false:=rfl
theorem TV:iU E (.alloc t) vs=false:=rfl
theorem RE:iU E (.assign x) vs=false:=rfl
theorem V3:iU E (.store t x y) vs=false:=rfl
theorem aFj{n:Nat}{ps:Array (Nat×Operand)}:iU E (.buildSlice t n ps) vs=false:=rfl
theorem aEU:iU E (.makeSlice t x y) vs=false:=rfl
theorem aDl:opds (.alloc t)=[]:=rfl
end
theorem UNx5:type_of% (fun v0 v1 v2 v3=> @outA.eq_2 v0 v1 v2 (A.d v3) nfn):=by intros;rfl
theorem UNx6:type_of% (fun v0 v1 v2 v3 v4 v5 v6=> @outA.eq_2 v0 v1 v2 (A.sl v3 v4 v5 v6) nfn):=by intros;rfl
theorem UNx7:type_of% (fun v0 v1 v2 v3 v4 v5=> @outA.eq_2 v0 v1 v2 (A.ptr v3 v4 v5) nfn):=by intros;rfl
theorem aQQ:type_of% (fun v0 v1 v2 v3 v4=> @outS.eq_2 v0 v1 v2 (D.int v3 v4) nfn):=by intros;rfl
theorem aQK:type_of% (fun v0 v1 v2 v3=> @outS.eq_2 v0 v1 v2 (D.bool v3) nfn):=by intros;rfl
theorem aQL:type_of% (fun v0 v1 v2 v3=> @outS.eq_2 v0 v1 v2 (D.str v3) nfn):=by intros;rfl
theorem aQJ:type_of% (fun v0 v1 v2 v3 v4=> @outS.eq_2 v0 v1 v2 (D.ivs v3 v4) nfn):=by intros;rfl
theorem aQt:type_of% (fun v0 v1=> @fH.eq_3 (A.d (D.int v0 v1)) nfn nfn):=by intros;rfl
theorem aQo:type_of% (fun v0=> @fH.eq_3 (A.d (D.bool v0)) nfn nfn):=by intros;rfl
theorem aQu:type_of% (fun v0=> @fH.eq_3 (A.d (D.str v0)) nfn nfn):=by intros;rfl
theorem aQw:type_of% (fun v0 v1=> @fH.eq_3 (A.d (D.ivs v0 v1)) nfn nfn):=by intros;rfl
theorem aQO:type_of% (@fH.eq_3 (A.d D.nils) nfn nfn):=(@fH.eq_3 (A.d D.nils) nfn nfn)
theorem aQD:type_of% (fun v0=> @fH.eq_3 (A.d (D.iptr v0)) nfn nfn):=by intros;rfl
theorem aQN:type_of% (@fH.eq_3 (A.d D.nilp) nfn nfn):=(@fH.eq_3 (A.d D.nilp) nfn nfn)
theorem aQn:type_of% (fun v0 v1=> @fH.eq_3 (A.d (D.fn v0 v1)) nfn nfn):=by intros;rfl
theorem aQy:type_of% (fun v0 v1 v2 v3=> @fH.eq_3 (A.sl v0 v1 v2 v3) nfn nfn):=by intros;rfl
theorem aQp:type_of% (fun v0 v1 v2=> @fH.eq_3 (A.ptr v0 v1 v2) nfn nfn):=by intros;rfl
theorem aQF:type_of% (fun v0 v1=> @fH.eq_3 (A.clo v0 v1) nfn nfn):=by intros;rfl
theorem aQs:type_of% (fun v0=> @tidy.eq_3 List.nil v0 nfn nfn):=by intros;rfl
theorem aQx:type_of% (fun v0 v1 v2 v3 v4=> @cQ.eq_2 v0 v1 v2 v3 (A.d v4) nfn):=by intros;rfl
theorem aQj:type_of% (fun v0 v1 v2 v3 v4 v5 v6 v7=> @cQ.eq_2 v0 v1 v2 v3 (A.sl v4 v5 v6 v7) nfn):=by intros;rfl
theorem aQM:type_of% (fun v0 v1=> @XS.eq_2 v0 (A.d v1) nfn):=by intros;rfl
theorem aQm:type_of% (fun v0 v1 v2=> @frz.eq_5 v0 (A.d v2) v1 nfn nfn nfn):=by intros;rfl
theorem aQk:type_of% (fun v0=> @aU.eq_2 (A.d v0) nfn):=by intros;rfl
theorem aQC:type_of% (fun v0 v1 v2 v3=> @aU.eq_2 (A.sl v0 v1 v2 v3) nfn):=by intros;rfl
theorem aQq:type_of% (fun v0 v1 v2=> @aU.eq_2 (A.ptr v0 v1 v2) nfn):=by intros;rfl
theorem aOr:type_of% (fun v0 v1=> @dE.eq_5 (A.d (D.int v0 v1)) nfn nfn nfn nfn):=by intros;rfl
theorem aN5:type_of% (fun v0=> @dE.eq_5 (A.d (D.bool v0)) nfn nfn nfn nfn):=by intros;rfl
theorem aMA:type_of% (fun v0 v1=> @dE.eq_5 (A.d (D.ivs v0 v1)) nfn nfn nfn nfn):=by intros;rfl
theorem aNK:type_of% (@dE.eq_5 (A.d D.nils) nfn nfn nfn nfn):=(@dE.eq_5 (A.d D.nils) nfn nfn nfn nfn)
theorem aNW:type_of% (fun v0=> @dE.eq_5 (A.d (D.iptr v0)) nfn nfn nfn nfn):=by intros;rfl
theorem aMO:type_of% (@dE.eq_5 (A.d D.nilp) nfn nfn nfn nfn):=(@dE.eq_5 (A.d D.nilp) nfn nfn nfn nfn)
theorem aNr:type_of% (fun v0 v1=> @dE.eq_5 (A.d (D.fn v0 v1)) nfn nfn nfn nfn):=by intros;rfl
theorem aOc:type_of% (fun v0 v1 v2 v3=> @dE.eq_5 (A.sl v0 v1 v2 v3) nfn nfn nfn nfn):=by intros;rfl
theorem aMv:type_of% (fun v0 v1 v2=> @dE.eq_5 (A.ptr v0 v1 v2) nfn nfn nfn nfn):=by intros;rfl
theorem aMx:type_of% (fun v0=> @xI.eq_2 (A.d v0) nfn):=by intros;rfl
theorem aOt:type_of% (fun v0 v1 v2 v3=> @xI.eq_2 (A.sl v0 v1 v2 v3) nfn):=by intros;rfl
theorem aM0:type_of% (fun v0=> @xI.eq_2 (A.agg v0) nfn):=by intros;rfl
theorem aMQ:type_of% (fun v0 v1 v2 v3=> @f9.eq_4 (O.arr v1 v2 v3) v0 nfn nfn):=by intros;rfl
theorem aOh:type_of% (@tupA.eq_2 List.nil nfn):=(@tupA.eq_2 List.nil nfn)
theorem aNF:type_of% (fun v0 v1 v2=> @tupA.eq_2 (List.cons v0 (List.cons v1 v2)) nfn):=by intros;rfl
theorem aNG:type_of% (fun v0 v1 v2 v3 v4=> @HJ.eq_2 v0 v1 (Go.Operand.tmp v4) v2 v3 nfn):=by intros;rfl
theorem aNw:type_of% (fun v0 v1 v2 v3=> @aY.eq_3 v0 (A.d (D.int v2 v3)) v1 nfn):=by intros;rfl
theorem aNQ:type_of% (fun v0 v1 v2 v3=> @aY.eq_3 v0 (A.d (D.ivs v2 v3)) v1 nfn):=by intros;rfl
theorem aMU:type_of% (fun v0 v1=> @aY.eq_3 v0 (A.d D.nilp) v1 nfn):=by intros;rfl
theorem aMR:type_of% (fun v0 v1 v2 v3=> @aY.eq_3 v0 (A.d (D.fn v2 v3)) v1 nfn):=by intros;rfl
theorem aNC:type_of% (fun v0 v1 v2 v3 v4 v5=> @aY.eq_3 v0 (A.sl v2 v3 v4 v5) v1 nfn):=by intros;rfl
theorem aMC:type_of% (fun v0 v1 v2 v3 v4=> @aY.eq_3 v0 (A.ptr v2 v3 v4) v1 nfn):=by intros;rfl
theorem aMH:type_of% (fun v0 v1 v2 v3=> @mapO.eq_3 v0 (O.arr v1 v2 v3) nfn nfn):=by intros;rfl
theorem aOd:type_of% (fun v0 v1 v2 v3=> @mapO.eq_3 v0 (O.ice v1 v2 v3) nfn nfn):=by intros;rfl
theorem aNu:type_of% (fun v0 v1=> @frzA.eq_2 v0 (A.d v1) nfn):=by intros;rfl
theorem aMJ:type_of% (fun v0 v1 v2 v3 v4=> @frzA.eq_2 v0 (A.sl v1 v2 v3 v4) nfn):=by intros;rfl
theorem aNb:type_of% (fun v0 v1 v2=> @frzA.eq_2 v0 (A.clo v1 v2) nfn):=by intros;rfl
theorem UN0:type_of% (AI @aDl (AI @aLen.eq_def (AI @RT (AI @ZR (AI @TV (AI @RE (AI @V3 (AI @aFj (AI @aEU (AI @List.range'.eq_1 (AI @List.range'.eq_2 (AI @NC.eq_1 @M9.eq_1)))))))))))):=
 ⟨@aDl,@aLen.eq_def,@RT,@ZR,@TV,@RE,@V3,@aFj,@aEU,@List.range'.eq_1,@List.range'.eq_2,@NC.eq_1,@M9.eq_1⟩
theorem UN1:type_of% (AI @aPut.eq_1 (AI @aPut.eq_2 (AI @lV.eq_1 (AI @lV.eq_2 (AI @outA.eq_1 (AI @UNx5 (AI @UNx6 (AI @UNx7 (AI @aQQ (AI @aQK (AI @aQL (AI @aQJ (AI @outS.eq_3 (AI @outS.eq_4 (AI @B8.eq_1 (AI @B8.eq_2 (AI @idsA.eq_1 @idsA.eq_2))))))))))))))))):=
 ⟨@aPut.eq_1,@aPut.eq_2,@lV.eq_1,@lV.eq_2,@outA.eq_1,@UNx5,@UNx6,@UNx7,@aQQ,@aQK,@aQL,@aQJ,@outS.eq_3,@outS.eq_4,@B8.eq_1,@B8.eq_2,@idsA.eq_1,@idsA.eq_2⟩
theorem UN2:type_of% (AI @idsA.eq_4 (AI @idsA.eq_5 (AI @idsA.eq_7 (AI @idsA.eq_8 (AI @idsL.eq_1 (AI @idsL.eq_2 (AI @mapA.eq_1 (AI @mapA.eq_2 (AI @mapA.eq_4 (AI @mapA.eq_5 (AI @mapA.eq_7 (AI @mapA.eq_8 (AI @aQ.eq_1 (AI @aQ.eq_2 (AI @bJ.eq_1 (AI @bJ.eq_2 (AI @bJ.eq_4 (AI @bJ.eq_5 (AI @bJ.eq_7 (AI @bJ.eq_8 (AI @gS.eq_1 (AI @IE.eq_1 (AI @a6.eq_1 (AI @cM.eq_1 (AI @dV.eq_1 (AI @dV.eq_2 (AI @cB.eq_1 (AI @cB.eq_2 (AI @cB.eq_3 (AI @cB.eq_4 @aE.eq_1)))))))))))))))))))))))))))))):=
 ⟨@idsA.eq_4,@idsA.eq_5,@idsA.eq_7,@idsA.eq_8,@idsL.eq_1,@idsL.eq_2,@mapA.eq_1,@mapA.eq_2,@mapA.eq_4,@mapA.eq_5,@mapA.eq_7,@mapA.eq_8,@aQ.eq_1,@aQ.eq_2,@bJ.eq_1,@bJ.eq_2,@bJ.eq_4,@bJ.eq_5,@bJ.eq_7,@bJ.eq_8,@gS.eq_1,@IE.eq_1,@a6.eq_1,@cM.eq_1,@dV.eq_1,@dV.eq_2,@cB.eq_1,@cB.eq_2,@cB.eq_3,@cB.eq_4,@aE.eq_1⟩
theorem UN3:type_of% (AI @aE.eq_2 (AI @qQ.eq_1 (AI @qQ.eq_2 (AI @qQ.eq_3 (AI @fH.eq_1 (AI @fH.eq_2 (AI @aQt (AI @aQo (AI @aQu (AI @aQw (AI @aQO (AI @aQD (AI @aQN (AI @aQn (AI @aQy (AI @aQp (AI @aQF (AI @tidy.eq_1 (AI @tidy.eq_2 (AI @aQs (AI @aQx (AI @aQj (AI @cQ.eq_3 @pV.eq_1))))))))))))))))))))))):=
 ⟨@aE.eq_2,@qQ.eq_1,@qQ.eq_2,@qQ.eq_3,@fH.eq_1,@fH.eq_2,@aQt,@aQo,@aQu,@aQw,@aQO,@aQD,@aQN,@aQn,@aQy,@aQp,@aQF,@tidy.eq_1,@tidy.eq_2,@aQs,@aQx,@aQj,@cQ.eq_3,@pV.eq_1⟩
theorem UN4:type_of% (AI @j2.eq_1 (AI @oS.eq_1 (AI @F9.eq_1 (AI @XS.eq_1 (AI @aQM (AI @GV.eq_1 (AI @pU.eq_1 (AI @keeps.eq_1 (AI @logs.eq_1 @rS.eq_1))))))))):=
 ⟨@j2.eq_1,@oS.eq_1,@F9.eq_1,@XS.eq_1,@aQM,@GV.eq_1,@pU.eq_1,@keeps.eq_1,@logs.eq_1,@rS.eq_1⟩
theorem UN5:type_of% (AI @cG.eq_2 (AI @cG.eq_4 (AI @kP.eq_1 (AI @oY.eq_1 (AI @B5.eq_1 (AI @m7.eq_1 (AI @m7.eq_2 (AI @tB.eq_1 (AI @iH.eq_1 (AI @gD.eq_1 (AI @gD.eq_3 (AI @frzL.eq_1 (AI @eJ.eq_1 (AI @eJ.eq_2 (AI @frz.eq_2 (AI @frz.eq_3 (AI @frz.eq_4 (AI @aQm (AI @frz0.eq_1 (AI @frz0.eq_2 (AI @deep.eq_1 (AI @aU.eq_1 (AI @aQk (AI @aQC @aQq)))))))))))))))))))))))):=
 ⟨@cG.eq_2,@cG.eq_4,@kP.eq_1,@oY.eq_1,@B5.eq_1,@m7.eq_1,@m7.eq_2,@tB.eq_1,@iH.eq_1,@gD.eq_1,@gD.eq_3,@frzL.eq_1,@eJ.eq_1,@eJ.eq_2,@frz.eq_2,@frz.eq_3,@frz.eq_4,@aQm,@frz0.eq_1,@frz0.eq_2,@deep.eq_1,@aU.eq_1,@aQk,@aQC,@aQq⟩
theorem UN6:type_of% (AI @bD.eq_1 (AI @aOr (AI @aN5 (AI @aMA (AI @aNK (AI @aNW (AI @aMO (AI @aNr (AI @aOc (AI @aMv (AI @aMx (AI @aOt (AI @aM0 (AI @f9.eq_1 (AI @f9.eq_2 (AI @aMQ @kU.eq_1)))))))))))))))):=
 ⟨@bD.eq_1,@aOr,@aN5,@aMA,@aNK,@aNW,@aMO,@aNr,@aOc,@aMv,@aMx,@aOt,@aM0,@f9.eq_1,@f9.eq_2,@aMQ,@kU.eq_1⟩
theorem UN7:type_of% (AI @kU.eq_2 (AI @GJ.eq_1 (AI @GJ.eq_2 (AI @qN.eq_1 (AI @qN.eq_2 (AI @tupA.eq_1 (AI @aOh (AI @aNF (AI @lU.eq_1 (AI @lU.eq_2 (AI @sK.eq_1 (AI @sK.eq_2 (AI @opds.eq_2 (AI @opds.eq_7 (AI @opds.eq_13 (AI @opds.eq_14 (AI @opds.eq_16 @opds.eq_24))))))))))))))))):=
 ⟨@kU.eq_2,@GJ.eq_1,@GJ.eq_2,@qN.eq_1,@qN.eq_2,@tupA.eq_1,@aOh,@aNF,@lU.eq_1,@lU.eq_2,@sK.eq_1,@sK.eq_2,@opds.eq_2,@opds.eq_7,@opds.eq_13,@opds.eq_14,@opds.eq_16,@opds.eq_24⟩
theorem UN8:type_of% (AI @evOp.eq_1 (AI @dW.eq_1 (AI @one.eq_1 (AI @two.eq_1 @aNG)))):=
 ⟨@evOp.eq_1,@dW.eq_1,@one.eq_1,@two.eq_1,@aNG⟩
theorem UN9:type_of% (AI @aNew.eq_1 (AI @A5.eq_3 (AI @xW.eq_1 @NK.eq_1))):=
 ⟨@aNew.eq_1,@A5.eq_3,@xW.eq_1,@NK.eq_1⟩
theorem UN10:type_of% (AI @back.eq_1 (AI @bE.eq_1 (AI @bE.eq_2 (AI @aF.eq_1 (AI @closed.eq_1 (AI @iW.eq_1 @aY.eq_1)))))):=
 ⟨@back.eq_1,@bE.eq_1,@bE.eq_2,@aF.eq_1,@closed.eq_1,@iW.eq_1,@aY.eq_1⟩
theorem UN11:type_of% (AI @aY.eq_2 (AI @aNw (AI @aNQ (AI @aMU (AI @aMR (AI @aNC (AI @aMC (AI @aH.eq_2 (AI @pack.eq_1 (AI @mapO.eq_1 (AI @mapO.eq_2 (AI @aMH (AI @aOd (AI @bI.eq_1 (AI @frzA.eq_1 (AI @aNu (AI @aMJ (AI @aNb @eS.eq_1)))))))))))))))))):=
 ⟨@aY.eq_2,@aNw,@aNQ,@aMU,@aMR,@aNC,@aMC,@aH.eq_2,@pack.eq_1,@mapO.eq_1,@mapO.eq_2,@aMH,@aOd,@bI.eq_1,@frzA.eq_1,@aNu,@aMJ,@aNb,@eS.eq_1⟩
theorem UN12:type_of% (AI @eS.eq_2 (AI @memD.eq_1 (AI @W7.eq_1 (AI @aG3.eq_1 @fQ.eq_3)))):=
 ⟨@eS.eq_2,@memD.eq_1,@W7.eq_1,@aG3.eq_1,@fQ.eq_3⟩
theorem UN:type_of% (AI @UN0 (AI @UN1 (AI @UN2 (AI @UN3 (AI @UN4 (AI @UN5 (AI @UN6 (AI @UN7 (AI @UN8 (AI @UN9 (AI @UN10 (AI @UN11 @UN12)))))))))))):=
 ⟨@UN0,@UN1,@UN2,@UN3,@UN4,@UN5,@UN6,@UN7,@UN8,@UN9,@UN10,@UN11,@UN12⟩
theorem aQl:type_of% (@bS.eq_5 Go.Code.skip nfn nfn nfn nfn):=(@bS.eq_5 Go.Code.skip nfn nfn nfn nfn)
theorem aQv:type_of% (fun v0 v1 v2=> @bS.eq_5 (Go.Code.region v0 v1 v2) nfn nfn nfn nfn):=(fun v0 v1 v2=> @bS.eq_5 (Go.Code.region v0 v1 v2) nfn nfn nfn nfn)
theorem aQE:type_of% (fun v0=> @bS.eq_5 (Go.Code.exit v0) nfn nfn nfn nfn):=(fun v0=> @bS.eq_5 (Go.Code.exit v0) nfn nfn nfn nfn)
theorem aNs:type_of% (@bS.eq_5 Go.Code.ret nfn nfn nfn nfn):=(@bS.eq_5 Go.Code.ret nfn nfn nfn nfn)
theorem SLM0:type_of% (AI @Bd.{0} (AI @Ab.{0} (AI @Bm (AI @Ag (AI @Af.{0,0} (AI @Al.{0,0} (AI @Ch.{0} (AI @Av.{0} (AI @Df.{0,0} (AI @Ap (AI @Ac.{0} (AI @List.replicate.eq_1.{0} (AI @List.replicate.eq_2.{0} (AI @As.{0} (AI @Am.{0} (AI @Ah.{0} (AI @List.getD_cons_zero.{0} (AI @List.getD_cons_succ.{0} (AI @aV.eq_1 (AI @bB.eq_1 (AI @lpOf.eq_1 (AI @aN.eq_1 (AI @slim.eq_1 (AI @slim.eq_2 (AI @slim.eq_3 (AI @slim.eq_4 (AI @slim.eq_5 (AI @slim.eq_6 (AI @slim.eq_7 (AI @slim.eq_8 (AI @bS.eq_1 (AI @bS.eq_2 @bS.eq_3)))))))))))))))))))))))))))))))):=
 ⟨@Bd.{0},@Ab.{0},@Bm,@Ag,@Af.{0,0},@Al.{0,0},@Ch.{0},@Av.{0},@Df.{0,0},@Ap,@Ac.{0},@List.replicate.eq_1.{0},@List.replicate.eq_2.{0},@As.{0},@Am.{0},@Ah.{0},@List.getD_cons_zero.{0},@List.getD_cons_succ.{0},@aV.eq_1,@bB.eq_1,@lpOf.eq_1,@aN.eq_1,@slim.eq_1,@slim.eq_2,@slim.eq_3,@slim.eq_4,@slim.eq_5,@slim.eq_6,@slim.eq_7,@slim.eq_8,@bS.eq_1,@bS.eq_2,@bS.eq_3⟩
theorem SLM1:type_of% (AI @bS.eq_4 (AI @aQl (AI @aQv (AI @aQE (AI @aNs (AI @GB.eq_1 (AI @LJ.eq_1 @LJ.eq_2))))))):=
 ⟨@bS.eq_4,@aQl,@aQv,@aQE,@aNs,@GB.eq_1,@LJ.eq_1,@LJ.eq_2⟩
theorem SLM:type_of% (AI @SLM0 @SLM1):=
 ⟨@SLM0,@SLM1⟩
theorem LN:type_of% (AI @Ai.{0} (AI @Ac.{0} (AI @Ab.{0} (AI @Bt.{0} (AI @List.length_replicate.{0} (AI @Ar.{0,0} (AI @Cv.{0} @Bj.{0}))))))):=
 ⟨@Ai.{0},@Ac.{0},@Ab.{0},@Bt.{0},@List.length_replicate.{0},@Ar.{0,0},@Cv.{0},@Bj.{0}⟩
theorem GT:type_of% (AI @Ch.{0} @Av.{0}):=
 ⟨@Ch.{0},@Av.{0}⟩
end Ev
end Go.Proofs.YtahbdkmimmnadaaGreatDoor
