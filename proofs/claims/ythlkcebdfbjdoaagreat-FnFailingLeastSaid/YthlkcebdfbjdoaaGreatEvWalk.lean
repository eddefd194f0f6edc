/-
  How each operation goes, in the form in which the evaluator is walked.
-/
import Derived.Test.YthlkcebdfbjdoaaGreatEvPrim
set_option linter.unusedSimpArgs false
set_option linter.unusedVariables false
set_option linter.unusedSectionVars false
namespace Go.Proofs.YthlkcebdfbjdoaaGreat
namespace Ev
section
variable{R:Type}{E:Env}{call:aX}{thaw:List Nat}{dst:Option Tmp}{s:List A}{h:H}{k:A->H->Option R}
structure Now(p:Prop):Prop where
 it:p
structure Shut(p:Prop):Prop where
 it:p
inductive Box(α:Type) where
 |mk (a:α)
 |no
def box{α:Type}(a:α):Box α:=.mk a
theorem aO9{α:Type}{a:α}:box a=.mk a:=rfl
theorem aN7{t:Nat}{q:A->Option R}:kv s (.tmp t) q=match box (s.getD t (.d .undef))with|.no=>none|.mk a=>q a:=rfl
theorem aOH{K:IntKind}{n:Int}{q:A->Option R}:kv s (.const (.int K n)) q=q (.d (.int K n)):=rfl
theorem aLi{b:Bool}{q:A->Option R}:kv s (.const (.bool b)) q=q (.d (.bool b)):=rfl
theorem aOm{b:ByteArray}{q:A->Option R}:kv s (.const (.string b)) q=match box b.data.toList with|.no=>none|.mk l=>q (.d (.str l)):=rfl
theorem aLF{q:A->Option R}:kv s (.const (.pointer none)) q=q (.d .nilp):=rfl
theorem aLh{q:A->Option R}:kv s (.const (.slice none 0 0)) q=q (.d .nils):=rfl
theorem aLg{f:FuncId}{q:A->Option R}:kv s (.func f) q=q (.clo f []):=rfl
theorem aLD{q:List A->Option R}:kvs s [] q=q []:=rfl
theorem aI7{x:Operand}{xs:List Operand}{q:List A->Option R}:kvs s (x::xs) q=kv s x fun a=>kvs s xs fun asx=>q (a::asx):=by
 unfold kvs kv;simp only[bR]
 cases cH s x with
 |none=>rfl
 |some a=>grind
theorem aAB{yes no:List A->Option R}:uN none s yes no=yes s:=rfl
theorem aAr{t:Nat}{w:Bool}{yes no:List A->Option R}:uN (some (some t,w)) s yes no=match s.getD t .junk with
  |.d (.bool b)=>if b=w then(match box (s.set t (.d (.bool w)))with|.no=>none|.mk s=>yes s)else(match box (s.set t (.d (.bool (!w))))with|.no=>none|.mk s=>no s)
  |.d .undef=>no s
  |_=>none:=by
 simp only[uN,Aa]
 cases s[t]? with
 |none=>rfl
 |some a=>
  cases a with
  |d x=>cases x<;>rfl
  |_=>rfl
theorem aIb{x:Operand}:kOp E call thaw dst (.move x) s h k=kv s x fun a=>k a h:=by
 unfold kOp kvs kv;simp only[opds,bR]
 cases cH s x<;>rfl
def kAsg(thaw:List Nat)(dst:Option Tmp)(h:H)(k:A->H->Option R)(a:A):Option R:=
 match a with
 |.d .nils=>match NU thaw dst with
  |0=>k (.d .nils) h
  |e+1=>if e<1000 then k (.sl h.length 0 0 0) (h++[.arr [] e 0])else k (.sl h.length 0 0 0) (h++[.vec [] (e-1000) 0])
 |a=>k a h
theorem NY{t:Nat}:kOp E call thaw dst (.assign (.tmp t)) s h k=match box (s.getD t (.d .undef))with|.no=>none|.mk a=>k a h:=by
 unfold kOp kvs;rfl
theorem I5{v:Value}:kOp E call thaw dst (.assign (.const v)) s h k=kv s (.const v) (kAsg thaw dst h k):=by
 unfold kOp kvs kv kAsg;simp only[opds,bR]
 cases cH s (.const v)with
 |none=>rfl
 |some a=>
  simp only[uL,Ak,if_false,evOp,one,HL,dQ]
  cases a with
  |d x=>grind
  |_=>rfl
def kRet(r:Option (A×H))(k:A->H->Option R):Option R:=
 match r with
 |some (a,h')=>k a h'
 |none=>none
theorem aLM{op:BinOp}{t:TypeId}{x y:Operand}{t2:TypeId}:kOp E call thaw dst (.binOp op t x y t2) s h k=kv s x fun a=>kv s y fun b=>kRet (bV E op t h a b) k:=by
 unfold kOp kvs kv kRet;simp only[opds,bR]
 cases cH s x with
 |none=>rfl
 |some a=>cases cH s y<;>rfl
theorem aPe{op:UnOp}{t:TypeId}{x:Operand}:kOp E call thaw dst (.unOp op t x) s h k=kv s x fun a=>kRet ((aUn op a).map fun r=>(r,h)) k:=by
 unfold kOp kvs kv kRet;simp only[opds,bR]
 cases cH s x<;>rfl
theorem aHN{c x y:Operand}:kOp E call thaw dst (.pick c x y) s h k=kv s c fun b=>kv s x fun a=>kv s y fun a'=>kRet (OC h [b,a,a']) k:=by
 unfold kOp kvs kv kRet;simp only[opds,bR]
 cases cH s c with
 |none=>rfl
 |some b=>cases cH s x with
  |none=>rfl
  |some a=>cases cH s y<;>rfl
theorem TM{x:Operand}:kOp E call thaw dst (.nilCheck x) s h k=kv s x fun a=>kRet (tI h a) k:=by
 unfold kOp kvs kv kRet;simp only[opds,bR]
 cases cH s x<;>rfl
theorem aI1{t u:TypeId}{x:Operand}:kOp E call thaw dst (.convert t u x) s h k=kv s x fun a=>kRet (eE E.P h t u a) k:=by
 unfold kOp kvs kv kRet;simp only[opds,bR]
 cases cH s x<;>rfl
theorem aHR{t:TypeId}{x:Operand}:kOp E call thaw dst (.load t x) s h k=kv s x fun a=>kRet ((BX E.P h t a).map fun v=>(v,h)) k:=by
 unfold kOp kvs kv kRet;simp only[opds,bR]
 cases cH s x<;>rfl
theorem aF6{t:TypeId}{x y:Operand}:kOp E call thaw dst (.store t x y) s h k=kv s x fun a=>kv s y fun b=>kRet ((jD E.P h t a b).map fun h'=>(.d .undef,h')) k:=by
 unfold kOp kvs kv kRet;simp only[opds,bR]
 cases cH s x with
 |none=>rfl
 |some a=>cases cH s y<;>rfl
theorem aGD{t:TypeId}:kOp E call thaw dst (.alloc t) s h k=match box (dE E.P t)with
  |.no=>none
  |.mk none=>none
  |.mk (some z)=>kRet (aNew h z) k:=by
 unfold kOp kvs kRet;simp only[opds,bR,uL,Ak,if_false,evOp,dQ,box]
 cases dE E.P t<;>rfl
theorem aLA{t:TypeId}{x:Operand}:kOp E call thaw dst (.box t x) s h k=kv s x fun a=>kRet (aNew h a) k:=by
 unfold kOp kvs kv kRet;simp only[opds,bR]
 cases cH s x<;>rfl
theorem aFZ{t:TypeId}{ps:List (Nat×Operand)}:kOp E call thaw dst (.build t ps.toArray) s h k=match box (ps.map (·.2))with
  |.no=>none
  |.mk xs=>kvs s xs fun vs=>kRet ((uO E.P t ((ps.map (·.1)).zip vs)).map fun a=>(a,h)) k:=by
 rfl
theorem OJ{t:TypeId}{n:Nat}{ps:List (Nat×Operand)}:kOp E call thaw dst (.buildSlice t n ps.toArray) s h k=match box (ps.map (·.2))with
  |.no=>none
  |.mk xs=>kvs s xs fun vs=>kRet (if logs thaw dst=true then LR (kK E.P h t n ((ps.map (·.1)).zip vs))else if keeps thaw dst=true then sI E.P h t n ((ps.map (·.1)).zip vs)else kK E.P h t n ((ps.map (·.1)).zip vs)) k:=by
 rfl
theorem VL{fn:Fn}{cap:List Operand}:kOp E call thaw dst (.makeFunc fn #[] cap.toArray) s h k=kvs s cap fun vs=>kRet (NL h fn true vs) k:=by
 rfl
theorem RS{t:TypeId}{x y:Operand}:kOp E call thaw dst (.makeSlice t x y) s h k=kv s x fun a=>kv s y fun b=>kRet (hU a fun l=>hU b fun c=>if keeps thaw dst=true then HB E.P h t l c else gE E.P h t l c) k:=by
 unfold kOp kvs kv kRet;simp only[opds,bR]
 cases cH s x with
 |none=>rfl
 |some a=>cases cH s y<;>rfl
theorem ZM{t:TypeId}{x hi:Operand}:kOp E call thaw dst (.slice t x none (some hi) none) s h k=kvs s [x,hi] fun vs=>kRet (pV E.P h t false true vs) k:=rfl
theorem ZD{t:TypeId}{x lo hi:Operand}:kOp E call thaw dst (.slice t x (some lo) (some hi) none) s h k=kvs s [x,lo,hi] fun vs=>kRet (pV E.P h t true true vs) k:=rfl
theorem SJ{t:TypeId}{x:Operand}{f:Nat}:kOp E call thaw dst (.fieldAddr t x f) s h k=kv s x fun a=>kRet ((cV E.P t f).bind fun r=>(sO r.1 a).map fun r=>(r,h)) k:=by
 unfold kOp kvs kv kRet;simp only[opds,bR]
 cases cH s x<;>rfl
theorem RM{t:TypeId}{x y:Operand}:kOp E call thaw dst (.indexAddr t x y) s h k=kv s x fun a=>kv s y fun b=>kRet (hU b fun i=>(pC E.P h t a i).map fun r=>(r,h)) k:=by
 unfold kOp kvs kv kRet;simp only[opds,bR]
 cases cH s x with
 |none=>rfl
 |some a=>cases cH s y<;>rfl
theorem aF1{t:TypeId}{x y:Operand}:kOp E call thaw dst (.index t x y) s h k=kv s x fun a=>kv s y fun b=>kRet (hU b fun i=>(OU E.P t a i).map fun r=>(r,h)) k:=by
 unfold kOp kvs kv kRet;simp only[opds,bR]
 cases cH s x with
 |none=>rfl
 |some a=>cases cH s y<;>rfl
theorem ZJ{t:TypeId}:kOp E call thaw dst (.makeMap t none) s h k=k (.mp h.length) (h++[.mp []]):=rfl
theorem RT{t:TypeId}{x y z:Operand}:kOp E call thaw dst (.mapUpdate t x y z) s h k=kv s x fun a=>kv s y fun b=>kv s z fun c=>kRet (oU E.P h t a b c) k:=by
 unfold kOp kvs kv kRet;simp only[opds,bR]
 cases cH s x with
 |none=>rfl
 |some a=>cases cH s y with
  |none=>rfl
  |some b=>cases cH s z<;>rfl
theorem aAD{x:Operand}{i:Nat}:kOp E call thaw dst (.extract x i) s h k=kv s x fun a=>kRet (wQ h i a) k:=by
 unfold kOp kvs kv kRet;simp only[opds,bR]
 cases cH s x<;>rfl
theorem ZG{b:Builtin}{args:List Operand}{tys:List TypeId}:kOp E call thaw dst (.call ⟨.builtin b,args.toArray,tys.toArray⟩) s h k=kvs s args fun vs=>kRet (cD E.P h b tys vs) k:=by
 rfl
theorem dH{op:Op}{q:A->H->Foot->Option R}(hp:Now (pE op=true/\uL op=false)):kOpD E call thaw dst op s h q=kOp E call thaw dst op s h fun a _=>q a h {}:=by
 obtain⟨hp,hc⟩:=hp.it;unfold kOpD kOp kvs;rw[hp,hc]
 cases bR s (opds op)with
 |none=>rfl
 |some vs=>grind
def memD(E:Env)(call:aX)(thaw:List Nat)(dst:Option Tmp)(op:Op)(h:H)(vs:List A):Option (A×H×Foot):=match box (aE aH h (idsL vs) [])with
 |.no=>none
 |.mk ord=>match box (evOp E call thaw (pack h ord) (dQ dst op) (aF (aJ ord) vs))with
  |.mk (some (a,h1))=>if ord.length<=h1.length/\closed h ord (idsL vs)=true then
    (if(jK E op vs&&h1.length-ord.length==0)=true then some (mapA (back ord h.length h1.length) a,h,{ ids:=ord,ro:=true})
    else some (mapA (back ord h.length h1.length) a,bI (back ord h.length h1.length) h ord h1,{ ids:=ord++List.range' h.length (h1.length-ord.length),ro:=false,wr:=wrOf E op vs ord++List.range' h.length (h1.length-ord.length)}))
   else none
  |_=>none
theorem jX{op:Op}{q:A->H->Foot->Option R}(hp:Now (pE op=false/\p8 op=false)):kOpD E call thaw dst op s h q=match box (opds op)with|.no=>none|.mk xs=>kvs s xs fun vs=>match box (memD E call thaw dst op h vs)with
  |.mk (some (a,h',c))=>q a h' c
  |_=>none:=by
 simp only[box];unfold kOpD kvs;rw[hp.it.1,hp.it.2]
 cases bR s (opds op)with
 |none=>rfl
 |some vs=>
  simp only[Ak,if_false,iJ,memD,box]
  cases evOp E call thaw (pack h (aE aH h (idsL vs) [])) (dQ dst op) (aF (aJ (aE aH h (idsL vs) [])) vs)with
  |none=>rfl
  |some r=>grind
theorem UG{op:Op}{q:A->H->Foot->Option R}(hp:Now (pE op=false/\p8 op=true/\uL op=false)):kOpD E call thaw dst op s h q=kvs s (opds op) fun vs=>kOp E call thaw dst op s h fun a _=>q a h { ids:=ids0 vs,ro:=true}:=by
 unfold kOpD kOp kvs;rw[hp.it.1,hp.it.2.1,hp.it.2.2]
 cases bR s (opds op)with
 |none=>rfl
 |some vs=>grind
theorem aBg{x:Operand}{xs:List Operand}{op:Op}{q:A->H->Foot->Option R}(hx:opds op=x::xs):(kvs s (opds op) fun vs=>kOp E call thaw dst op s h fun a _=>q a h { ids:=ids0 vs,ro:=true})=kv s x fun b=>kOp E call thaw dst op s h fun a _=>q a h { ids:=idsA b,ro:=true}:=by
 unfold kOp kv;rw[hx];unfold kvs;simp only[bR]
 cases cH s x with
 |none=>rfl
 |some b=>
  cases bR s xs with
  |none=>rfl
  |some bs=>rfl
theorem aFM{t:TypeId}{x:Operand}{q:A->H->Foot->Option R}:kOpD E call thaw dst (.load t x) s h q=kv s x fun b=>kOp E call thaw dst (.load t x) s h fun a _=>q a h { ids:=idsA b,ro:=true}:=(UG ⟨rfl,rfl,rfl⟩).trans (aBg rfl)
theorem aDF{t:TypeId}{x y:Operand}{q:A->H->Foot->Option R}:type_of% (jX (E:=E) (call:=call) (thaw:=thaw) (dst:=dst) (s:=s) (h:=h) (op:=.store t x y) (q:=q) ⟨rfl,rfl⟩):=jX ⟨rfl,rfl⟩
theorem ZH{x:Operand}{q:A->H->Foot->Option R}:type_of% (jX (E:=E) (call:=call) (thaw:=thaw) (dst:=dst) (s:=s) (h:=h) (op:=.assign x) (q:=q) ⟨rfl,rfl⟩):=jX ⟨rfl,rfl⟩
theorem aC4{t:TypeId}{q:A->H->Foot->Option R}:type_of% (jX (E:=E) (call:=call) (thaw:=thaw) (dst:=dst) (s:=s) (h:=h) (op:=.alloc t) (q:=q) ⟨rfl,rfl⟩):=jX ⟨rfl,rfl⟩
theorem LZ{t:TypeId}{n:Nat}{ps:List (Nat×Operand)}{q:A->H->Foot->Option R}:type_of% (jX (E:=E) (call:=call) (thaw:=thaw) (dst:=dst) (s:=s) (h:=h) (op:=.buildSlice t n ps.toArray) (q:=q) ⟨rfl,rfl⟩):=jX ⟨rfl,rfl⟩
theorem aFk{t u:TypeId}{x:Operand}{q:A->H->Foot->Option R}:type_of% (jX (E:=E) (call:=call) (thaw:=thaw) (dst:=dst) (s:=s) (h:=h) (op:=.convert t u x) (q:=q) ⟨rfl,rfl⟩):=jX ⟨rfl,rfl⟩
theorem NB{t:TypeId}{x y:Operand}{q:A->H->Foot->Option R}:kOpD E call thaw dst (.indexAddr t x y) s h q=kv s x fun b=>kOp E call thaw dst (.indexAddr t x y) s h fun a _=>q a h { ids:=idsA b,ro:=true}:=(UG ⟨rfl,rfl,rfl⟩).trans (aBg rfl)
theorem aAk{args tys:Array _}{q:A->H->Foot->Option R}:type_of% (jX (E:=E) (call:=call) (thaw:=thaw) (dst:=dst) (s:=s) (h:=h) (op:=.call ⟨.builtin .append,args,tys⟩) (q:=q) ⟨rfl,rfl⟩):=jX ⟨rfl,rfl⟩
theorem aJd{x:Operand}{xs:List Operand}{tys:Array _}{q:A->H->Foot->Option R}:kOpD E call thaw dst (.call ⟨.builtin .len,(x::xs).toArray,tys⟩) s h q=kv s x fun b=>kOp E call thaw dst (.call ⟨.builtin .len,(x::xs).toArray,tys⟩) s h fun a _=>q a h { ids:=idsA b,ro:=true}:=(UG ⟨rfl,rfl,rfl⟩).trans (aBg rfl)
theorem aFp{x:Operand}{q:A->H->Foot->Option R}:type_of% (dH (E:=E) (call:=call) (thaw:=thaw) (dst:=dst) (s:=s) (h:=h) (op:=.move x) (q:=q) ⟨rfl,rfl⟩):=dH ⟨rfl,rfl⟩
theorem aGk{c x y:Operand}{q:A->H->Foot->Option R}:type_of% (dH (E:=E) (call:=call) (thaw:=thaw) (dst:=dst) (s:=s) (h:=h) (op:=.pick c x y) (q:=q) ⟨rfl,rfl⟩):=dH ⟨rfl,rfl⟩
theorem R7{x:Operand}{q:A->H->Foot->Option R}:type_of% (dH (E:=E) (call:=call) (thaw:=thaw) (dst:=dst) (s:=s) (h:=h) (op:=.nilCheck x) (q:=q) ⟨rfl,rfl⟩):=dH ⟨rfl,rfl⟩
theorem aIi{op:BinOp}{t:TypeId}{x y:Operand}{t2:TypeId}{q:A->H->Foot->Option R}:type_of% (dH (E:=E) (call:=call) (thaw:=thaw) (dst:=dst) (s:=s) (h:=h) (op:=.binOp op t x y t2) (q:=q) ⟨rfl,rfl⟩):=dH ⟨rfl,rfl⟩
theorem aLG{op:UnOp}{t:TypeId}{x:Operand}{q:A->H->Foot->Option R}:type_of% (dH (E:=E) (call:=call) (thaw:=thaw) (dst:=dst) (s:=s) (h:=h) (op:=.unOp op t x) (q:=q) ⟨rfl,rfl⟩):=dH ⟨rfl,rfl⟩
theorem R8{fn:Fn}{first cap:Array Operand}{q:A->H->Foot->Option R}:type_of% (dH (E:=E) (call:=call) (thaw:=thaw) (dst:=dst) (s:=s) (h:=h) (op:=.makeFunc fn first cap) (q:=q) ⟨rfl,rfl⟩):=dH ⟨rfl,rfl⟩
theorem NH{t:TypeId}{x:Operand}{f:Nat}{q:A->H->Foot->Option R}:type_of% (dH (E:=E) (call:=call) (thaw:=thaw) (dst:=dst) (s:=s) (h:=h) (op:=.fieldAddr t x f) (q:=q) ⟨rfl,rfl⟩):=dH ⟨rfl,rfl⟩
theorem US{x:Operand}{i:Nat}{q:A->H->Foot->Option R}:type_of% (dH (E:=E) (call:=call) (thaw:=thaw) (dst:=dst) (s:=s) (h:=h) (op:=.extract x i) (q:=q) ⟨rfl,rfl⟩):=dH ⟨rfl,rfl⟩
theorem aB3{t:TypeId}{ps:Array (Nat×Operand)}{q:A->H->Foot->Option R}:type_of% (dH (E:=E) (call:=call) (thaw:=thaw) (dst:=dst) (s:=s) (h:=h) (op:=.build t ps) (q:=q) ⟨rfl,rfl⟩):=dH ⟨rfl,rfl⟩
def aJX(a b:Foot):Bool:=(!a.ro&&(!b.ids.isEmpty&&a.wr.any b.ids.contains))||(!b.ro&&(!a.ids.isEmpty&&b.wr.any a.ids.contains))
theorem aQI{l:List Nat}:l.any (([]:List Nat)).contains=false:=by grind
theorem aF3(a b:Foot):aJX a b=kD a b:=by
 obtain⟨ia,ra,wa⟩:=a;obtain⟨ib,rb,wb⟩:=b;unfold aJX kD
 cases ia<;>cases ib<;>simp
def eA(ops:List Oper)(cs:List Foot):Bool:=
 let b:=KL ops []
 (List.range cs.length).all fun j=>(List.range j).all fun i=>(b.getD j 0).testBit i|| !aJX (cs.getD i {}) (cs.getD j {})
theorem aNP{src:List Oper}{cs:List Foot}(h:n9 src cs=true):eA src cs=true:=by
 unfold eA;simp only[aF3];exact h
theorem aCq{src:List Oper}{cs:List Foot}{x:Option R}(hc:Shut (eA src cs=true)):(if n9 src cs=true then x else none)=x:=if_pos (by
 have:=hc.it;unfold eA at this;simp only[aF3]at this;exact this)
theorem aIQ{q:List A->H->Option R}:kOps E call thaw [] s h q=q s h:=rfl
theorem aFn{op:Op}{g:Option (Option Tmp×Bool)}{os:List SO}{q:List A->H->Option R}:kOps E call thaw (⟨dst,op,g⟩::os) s h q=uN g s
  (fun s=>kOp E call thaw dst op s h fun a h'=>match box (aPut s dst a)with|.no=>none|.mk s'=>kOps E call thaw os s' h' q)
  (fun s=>match box (aPut s dst (.d .undef))with|.no=>none|.mk s'=>kOps E call thaw os s' h q):=rfl
theorem aGr{cs:List Foot}{q:List A->H->List Foot->Option R}:vF E call thaw [] s h cs q=q s h cs:=rfl
theorem aDn{op:Op}{g:Option (Option Tmp×Bool)}{os:List SO}{cs:List Foot}{q:List A->H->List Foot->Option R}:vF E call thaw (⟨dst,op,g⟩::os) s h cs q=uN g s
  (fun s=>kOpD E call thaw dst op s h fun a h' c=>match box (aPut s dst a)with|.no=>none|.mk s'=>vF E call thaw os s' h' (cs++[c]) q)
  (fun s=>match box (aPut s dst (.d .undef))with|.no=>none|.mk s'=>vF E call thaw os s' h (cs++[{}]) q):=rfl
section
variable{L nf:Nat}{live:List Bool}{lp:Nat->Code}{q:Exit->List A->H->Option R}
theorem aDC:cT E call L nf thaw live lp .skip s h q=q .normal s h:=rfl
theorem aFC{l:List SO}:cT E call L nf thaw live lp (.ops l) s h q=kOps E call thaw l s h fun s h=>q .normal s h:=rfl
theorem aAx{l:List SO}{src:Array Oper}:cT E call L nf thaw live lp (.drawn l src) s h q=vF E call thaw l s h [] fun s h cs=>if n9 src.toList cs=true then q .normal s h else none:=rfl
theorem aGA{a b:SC}:cT E call L nf thaw live lp (.seq a b) s h q=cT E call L nf thaw live lp a s h fun e s h=>match e with
  |.normal=>cT E call L nf thaw live lp b s h q
  |e=>q e s h:=rfl
theorem aCN{c:Operand}{x y:SC}:cT E call L nf thaw live lp (.cond c x y) s h q=kv s c fun a=>match a with
  |.d (.bool b)=>if b=true then cT E call L nf thaw live lp x s h q else cT E call L nf thaw live lp y s h q
  |_=>none:=rfl
theorem aAh{id:Nat}{c:SC}:cT E call L nf thaw live lp (.block id c) s h q=cT E call L nf thaw live lp c s h fun e s h=>match e with
  |.exit i=>if i=id then q .normal s h else q (.exit i) s h
  |e=>q e s h:=rfl
theorem aC8{i:Nat}:cT E call L nf thaw live lp (.loop i) s h q=match box (qP live s)with
  |.no=>none
  |.mk m=>match box (gc nf m s h)with
   |.mk (s',h')=>aS E call L nf thaw live (lp i) m L s' h' q
   |.no=>none:=rfl
theorem aDY{id:Nat}:cT E call L nf thaw live lp (.exit id) s h q=q (.exit id) s h:=rfl
theorem aFG:cT E call L nf thaw live lp .ret s h q=q .ret s h:=rfl
theorem TI{c:Code}{m:List Bool}{n:Nat}:X4 E call L nf thaw live c m n q .normal s h=match box (gc nf m s h)with
  |.mk (s',h')=>aS E call L nf thaw live c m n s' h' q
  |.no=>none:=rfl
theorem aCe{c:Code}{m:List Bool}{n i:Nat}:X4 E call L nf thaw live c m n q (.exit i) s h=match box (gc nf m s h)with
  |.mk (s',h')=>q (.exit i) s' h'
  |.no=>none:=rfl
theorem aGU{c:Code}{m:List Bool}{n:Nat}:X4 E call L nf thaw live c m n q .ret s h=match box (gc nf m s h)with
  |.mk (s',h')=>q .ret s' h'
  |.no=>none:=rfl
end
def aZ(E:Env)(call:aX)(h:H)(f:FuncId)(args:List A)(k:A->H->Option R):Option R:=
 match bT call E.hint (pack h (aE aH h (idsL args) [])) f (aF (aJ (aE aH h (idsL args) [])) args)with
 |some (a,h1)=>
  if(aE aH h (idsL args) []).length<=h1.length/\closed h (aE aH h (idsL args) []) (idsL args)=true then
   k (mapA (back (aE aH h (idsL args) []) h.length h1.length) a) (bI (back (aE aH h (idsL args) []) h.length h1.length) h (aE aH h (idsL args) []) h1)
  else none
 |none=>none
theorem aQt{f:FuncId}{args:List Operand}{tys:Array TypeId}:kOp E call thaw dst (.call ⟨.value (.func f),args.toArray,tys⟩) s h k=kvs s args fun vs=>aZ E call h f vs k:=by
 unfold kOp kvs aZ;simp only[opds,bR,cH]
 cases bR s args with
 |none=>rfl
 |some vs=>
  simp only[uL,if_true,iJ,idsL,idsA,Ao,aF,mapA,evOp,eH,eS,dQ,Aj]
  cases bT call E.hint (pack h (aE aH h (idsL vs) [])) f (aF (aJ (aE aH h (idsL vs) [])) vs)with
  |none=>rfl
  |some r=>grind
theorem aGl{f:FuncId}{args:List Operand}{tys:Array TypeId}:kOp E call thaw dst (.call ⟨.value (.func f),args.toArray,tys⟩) s h k=kvs s args fun vs=>aZ E call h f vs fun a h'=>match box h' with|.no=>none|.mk h''=>k a h'':=by
 rw[aQt];rfl
def GK(E:Env)(call:aX)(h:H)(f:FuncId)(caps args:List A)(k:A->H->Option R):Option R:=
 match bT call E.hint (pack h (aE aH h (idsL caps++idsL args) [])) f (aF (aJ (aE aH h (idsL caps++idsL args) [])) args++aF (aJ (aE aH h (idsL caps++idsL args) [])) caps)with
 |some (a,h1)=>
  if(aE aH h (idsL caps++idsL args) []).length<=h1.length/\closed h (aE aH h (idsL caps++idsL args) []) (idsL caps++idsL args)=true then
   k (mapA (back (aE aH h (idsL caps++idsL args) []) h.length h1.length) a) (bI (back (aE aH h (idsL caps++idsL args) []) h.length h1.length) h (aE aH h (idsL caps++idsL args) []) h1)
  else none
 |none=>none
def nQ(E:Env)(call:aX)(h:H)(g:A)(args:List A)(k:A->H->Option R):Option R:=
 match g with
 |.d (.fn f caps)=>aZ E call h f (args++caps.map .d) k
 |.clo f caps=>GK E call h f caps args k
 |_=>none
theorem bL:∀(asx bs:List A),idsL (asx++bs)=idsL asx++idsL bs
 | [],bs=>by simp[idsL]
 |a::asx,bs=>by simp[idsL,bL asx bs]
theorem aJl:∀(ds:List D),idsL (ds.map .d)=[]
 | []=>by simp[idsL]
 |d::ds=>by simp[idsL,idsA,aJl ds]
theorem cR{f:Nat->Option Nat}:∀(asx bs:List A),aF f (asx++bs)=aF f asx++aF f bs
 | [],bs=>by simp[aF]
 |a::asx,bs=>by simp[aF,cR asx bs]
theorem aEJ{f:Nat->Option Nat}:∀(ds:List D),aF f (ds.map .d)=ds.map .d
 | []=>by simp[aF]
 |d::ds=>by simp[aF,mapA,aEJ ds]
theorem aNY{g:A}{vs:List A}{tys:Array TypeId}{x:Operand}{args:Array Operand}:(match iJ E call thaw h (dQ dst (.call ⟨.value x,args,tys⟩)) (g::vs)with
   |some (a,h',_)=>k a h'
   |none=>none)=nQ E call h g vs k:=by
 unfold iJ;simp only[evOp,eH,dQ,aF]
 cases g with
 |d y=>
  cases y with
  |fn f caps=>
   simp only[nQ,aZ,mapA,eS,idsL,idsA,Ao,bL,aJl,Aj,cR,aEJ]
   cases bT call E.hint (pack h (aE aH h (idsL vs) [])) f (aF (aJ (aE aH h (idsL vs) [])) vs++caps.map .d)with
   |none=>rfl
   |some r=>grind
  |_=>simp only[nQ,mapA,eS]
 |clo f caps=>
  simp only[nQ,GK,mapA,eS,idsL,idsA]
  cases bT call E.hint (pack h (aE aH h (idsL caps++idsL vs) [])) f (aF (aJ (aE aH h (idsL caps++idsL vs) [])) vs++aF (aJ (aE aH h (idsL caps++idsL vs) [])) caps)with
  |none=>rfl
  |some r=>grind
 |sl id gen off len=>
  simp only[nQ,mapA]
  cases aJ (aE aH h (idsL (A.sl id gen off len::vs)) []) id<;>rfl
 |ptr id gen off=>
  simp only[nQ,mapA]
  cases aJ (aE aH h (idsL (A.ptr id gen off::vs)) []) id<;>rfl
 |mp id=>
  simp only[nQ,mapA]
  cases aJ (aE aH h (idsL (A.mp id::vs)) []) id<;>rfl
 |agg cs=>simp only[nQ,mapA,eS]
 |tup cs=>simp only[nQ,mapA,eS]
 |junk=>simp only[nQ,mapA,eS]
theorem aFv{t:Nat}{args:List Operand}{tys:Array TypeId}:kOp E call thaw dst (.call ⟨.value (.tmp t),args.toArray,tys⟩) s h k=match box (s.getD t (.d .undef))with
  |.no=>none
  |.mk g=>kvs s args fun vs=>nQ E call h g vs k:=by
 unfold kOp kvs;simp only[opds,bR,cH,box]
 cases bR s args with
 |none=>rfl
 |some vs=>simp only[uL,if_true];exact aNY
theorem aFz{f:FuncId}{caps:List D}{vs:List A}:nQ E call h (.d (.fn f caps)) vs k=match box (vs++caps.map .d)with|.no=>none|.mk as'=>aZ E call h f as' k:=rfl
theorem aCc{f:FuncId}{caps vs:List A}:nQ E call h (.clo f caps) vs k=GK E call h f caps vs k:=rfl
theorem aBa{h:H}{ids:List Nat}{h1:H}{ord:List Nat}:∀(ord:List Nat) (h h1:H) (f:Nat->Option Nat),ord.length<=h1.length->(bI f h ord h1).length=h.length+(h1.length-ord.length)
 | [],h,h1,f,_=>by simp[bI]
 |i::ord,h,[],f,hl=>by simp at hl
 |i::ord,h,o::h1,f,hl=>by
  simp only[bI,aBa (h:=h) (ids:=ids) (h1:=h1) (ord:=ord) ord _ h1 f (by simpa using hl),Bn,Ad];omega
def wrC(E:Env)(f:FuncId)(ord:List Nat):List Nat:=if(E.hint f).mode==3 then []else ord
def K9(E:Env)(f:FuncId)(h h':H)(ord:List Nat):Option (H×Foot):=if((E.hint f).mode==1&&h'.length-h.length==0)=true then some (h,{ ids:=ord,ro:=true})else some (h',{ ids:=ord++List.range' h.length (h'.length-h.length),ro:=false,wr:=wrC E f ord++List.range' h.length (h'.length-h.length)})
theorem aL5{f:FuncId}{args:List Operand}{tys:Array TypeId}{q:A->H->Foot->Option R}:kOpD E call thaw dst (.call ⟨.value (.func f),args.toArray,tys⟩) s h q=kvs s args fun vs=>match box (aE aH h (idsL vs) [])with
  |.no=>none
  |.mk ord=>aZ E call h f vs fun a h'=>if((E.hint f).mode==1&&h'.length-h.length==0)=true then q a h { ids:=ord,ro:=true}else q a h' { ids:=ord++List.range' h.length (h'.length-h.length),ro:=false,wr:=wrC E f ord++List.range' h.length (h'.length-h.length)}:=by
 unfold kOpD kvs aZ;simp only[opds,bR,cH,box]
 cases bR s args with
 |none=>rfl
 |some vs=>
  simp only[pE,p8,Ak,if_false,iJ,idsL,idsA,Ao,aF,mapA,evOp,eH,eS,dQ,Aj,jK]
  cases bT call E.hint (pack h (aE aH h (idsL vs) [])) f (aF (aJ (aE aH h (idsL vs) [])) vs)with
  |none=>rfl
  |some r=>
   obtain⟨a,h1⟩:=r
   by_cases c1:(aE aH h (idsL vs) []).length<=h1.length
   ·by_cases c2:closed h (aE aH h (idsL vs) []) (idsL vs)=true
    ·have e:=aBa (h:=h) (ids:=idsL vs) (h1:=h1) (ord:=[]) (aE aH h (idsL vs) []) h h1 (back (aE aH h (idsL vs) []) h.length h1.length) c1;have e2:(bI (back (aE aH h (idsL vs) []) h.length h1.length) h (aE aH h (idsL vs) []) h1).length-h.length=h1.length-(aE aH h (idsL vs) []).length:=om;simp only[c1,c2,and_self,if_true,e2]
     first|done|rfl|(by_cases c3:((E.hint f).mode==1&&h1.length-(aE aH h (idsL vs) []).length==0)=true<;>simp[c3])
    ·grind
   ·grind
theorem WT{f:FuncId}{args:List Operand}{tys:Array TypeId}{q:A->H->Foot->Option R}:kOpD E call thaw dst (.call ⟨.value (.func f),args.toArray,tys⟩) s h q=kvs s args fun vs=>match box (aE aH h (idsL vs) [])with
  |.no=>none
  |.mk ord=>aZ E call h f vs fun a h'=>match box (K9 E f h h' ord)with|.mk (some (h'',c))=>q a h'' c|_=>none:=by
 rw[aL5]
 congr 1
 funext vs
 simp only[box]
 congr 1
 funext a h'
 unfold K9
 by_cases hc:((E.hint f).mode==1&&h'.length-h.length==0)=true
 ·grind
 ·grind
theorem aKM{t:Nat}{args:List Operand}{tys:Array TypeId}{q:A->H->Foot->Option R}{f:FuncId}{caps:List D}(hg:Now (s.getD t (.d .undef)=.d (.fn f caps))):kOpD E call thaw dst (.call ⟨.value (.tmp t),args.toArray,tys⟩) s h q=kvs s args fun vs=>match box (aE aH h (idsL vs) [])with
  |.no=>none
  |.mk ord=>aZ E call h f (vs++caps.map .d) fun a h'=>if((E.hint f).mode==1&&h'.length-h.length==0)=true then q a h { ids:=ord,ro:=true}else q a h' { ids:=ord++List.range' h.length (h'.length-h.length),ro:=false,wr:=wrC E f ord++List.range' h.length (h'.length-h.length)}:=by
 have hg:=hg.it;unfold kOpD kvs aZ;simp only[opds,bR,cH,box,hg]
 cases bR s args with
 |none=>rfl
 |some vs=>
  simp only[pE,p8,Ak,if_false,iJ,idsL,idsA,Ao,aF,mapA,evOp,eH,eS,dQ,Aj,jK,bL,aJl,cR,aEJ]
  cases bT call E.hint (pack h (aE aH h (idsL vs) [])) f (aF (aJ (aE aH h (idsL vs) [])) vs++caps.map .d)with
  |none=>rfl
  |some r=>
   obtain⟨a,h1⟩:=r
   by_cases c1:(aE aH h (idsL vs) []).length<=h1.length
   ·by_cases c2:closed h (aE aH h (idsL vs) []) (idsL vs)=true
    ·have e:=aBa (h:=h) (ids:=idsL vs) (h1:=h1) (ord:=[]) (aE aH h (idsL vs) []) h h1 (back (aE aH h (idsL vs) []) h.length h1.length) c1;have e2:(bI (back (aE aH h (idsL vs) []) h.length h1.length) h (aE aH h (idsL vs) []) h1).length-h.length=h1.length-(aE aH h (idsL vs) []).length:=om;simp only[c1,c2,and_self,if_true,e2]
     first|done|rfl|(by_cases c3:((E.hint f).mode==1&&h1.length-(aE aH h (idsL vs) []).length==0)=true<;>simp[c3])
    ·grind
   ·grind
def aSD(E:Env)(call:aX)(thaw:List Nat)(dst:Option Tmp)(op:Op)(s:List A)(h:H)(q:A->H->Foot->Option R):Option R:=kOpD E call thaw dst op s h q
theorem aC5{t:Nat}{args:List Operand}{tys:Array TypeId}{q:A->H->Foot->Option R}:kOpD E call thaw dst (.call ⟨.value (.tmp t),args.toArray,tys⟩) s h q=match box (s.getD t (.d .undef))with
  |.mk (.d (.fn f caps))=>kvs s args fun vs=>match box (aE aH h (idsL vs) [])with
   |.no=>none
   |.mk ord=>match box (vs++caps.map .d)with|.no=>none|.mk as'=>aZ E call h f as' fun a h'=>match box (K9 E f h h' ord)with|.mk (some (h'',c))=>q a h'' c|_=>none
  |.mk (.clo f [])=>kvs s args fun vs=>match box (aE aH h (idsL vs) [])with
   |.no=>none
   |.mk ord=>aZ E call h f vs fun a h'=>match box (K9 E f h h' ord)with|.mk (some (h'',c))=>q a h'' c|_=>none
  |_=>aSD E call thaw dst (.call ⟨.value (.tmp t),args.toArray,tys⟩) s h q:=by
 have key:=fun(f:FuncId) (caps:List D) hg=>aKM (E:=E) (call:=call) (thaw:=thaw) (dst:=dst) (s:=s) (h:=h) (t:=t) (args:=args) (tys:=tys) (q:=q) (f:=f) (caps:=caps) hg
 have k2:∀f,s.getD t (.d .undef)=.clo f []->kOpD E call thaw dst (.call ⟨.value (.tmp t),args.toArray,tys⟩) s h q=kOpD E call thaw dst (.call ⟨.value (.func f),args.toArray,tys⟩) s h q:=by
  intro f hg;unfold kOpD kvs;simp only[opds,bR,cH,hg]
  cases bR s args<;>rfl
 have fold:∀(f:FuncId) (h h':H) (ord:List Nat) (a:A),(if((E.hint f).mode==1&&h'.length-h.length==0)=true then q a h { ids:=ord,ro:=true}else q a h' { ids:=ord++List.range' h.length (h'.length-h.length),ro:=false,wr:=wrC E f ord++List.range' h.length (h'.length-h.length)})=match box (K9 E f h h' ord)with|.mk (some (h'',c))=>q a h'' c|_=>none:=by
  intro f h h' ord a;unfold K9
  by_cases hc:((E.hint f).mode==1&&h'.length-h.length==0)=true
  ·simp only[if_pos hc,box]
  ·simp only[if_neg hc,box]
 generalize hs:s.getD t (.d .undef)=a
 cases a with
 |d x=>
  cases x with
  |fn f caps=>
   rw[key f caps ⟨hs⟩];simp only[fold]<;>rfl
  |_=>rfl
 |clo f caps=>
  cases caps with
  |nil=>rw[k2 f hs];exact WT
  |cons c caps=>rfl
 |_=>rfl
theorem y7(n:Nat)(h:H):aE n h [] []=[]:=by cases n<;>rfl
mutual
theorem sF{f:Nat->Option Nat}:∀a:A,idsA a=[]->mapA f a=a
 |.d x,_=>by simp only[mapA]
 |.sl id gen off len,h=>by simp[idsA]at h
 |.ptr id gen off,h=>by simp[idsA]at h
 |.mp id,h=>by simp[idsA]at h
 |.clo g caps,h=>by simp only[idsA]at h;simp only[mapA];rw[fL caps h]
 |.agg cs,h=>by simp only[idsA]at h;simp only[mapA];rw[fL cs h]
 |.tup cs,h=>by simp only[idsA]at h;simp only[mapA];rw[fL cs h]
 |.junk,_=>by simp only[mapA]
theorem fL{f:Nat->Option Nat}:∀asx:List A,idsL asx=[]->aF f asx=asx
 | [],_=>by simp only[aF]
 |a::asx,h=>by
  simp only[idsL,List.append_eq_nil_iff]at h;simp only[aF];rw[sF a h.1,fL asx h.2]
end
theorem aNu{a:A}(h:qX a=true):idsA a=[]:=by
 cases a with
 |d x=>rfl
 |agg cs=>
  simp only[qX]at h;simp only[idsA]
  induction cs with
  |nil=>rfl
  |cons c cs ih=>
   simp only[Bt,Ar]at h;simp only[idsL,ih h.2,Aj]
   cases c<;>first|rfl|simp[isD]at h
 |_=>simp[qX]at h
theorem zB:∀ {asx:List A},asx.all qX=true->idsL asx=[]
 | [],_=>rfl
 |a::asx,h=>by
  simp only[Bt,Ar]at h;simp only[idsL,aNu h.1,zB h.2,Aj]
theorem aCW{h:H}:∀ {cs:List A},cs.all isD=true->∃ds,frzL h cs=some (ds,h)/\ds.map .d=cs
 | [],_=>⟨[],rfl,rfl⟩
 |c::cs,hs=>by
  simp only[Bt,Ar]at hs;obtain⟨ds,h1,h2⟩:=aCW (h:=h) hs.2
  cases c with
  |d x=>
   refine⟨x::ds,?_,by simp[h2]⟩;unfold frzL at h1|-;simp only[eI];have:frz deep h (.d x)=some (x,h):=rfl;rw[this];simp only[h1]
  |_=>simp[isD]at hs
theorem uR{h:H}:∀ {asx:List A},asx.all qX=true->d5 h asx=some (asx,h)
 | [],_=>rfl
 |a::asx,hs=>by
  simp only[Bt,Ar]at hs
  have ha:frzA h a=some (a,h):=by
   cases a with
   |d x=>rfl
   |agg cs=>
    obtain⟨ds,h1,h2⟩:=aCW (h:=h) (cs:=cs) (by simpa only[qX]using hs.1);simp only[frzA,h1,h2]
   |_=>simp[qX]at hs
  simp only[d5,ha,uR hs.2]
theorem aKR{r:A}(h:hJ r=true):kU r=true/\mapA (fun k=>back [] 0 0 k) r=r:=by
 cases r with
 |d x=>cases x<;>first|exact⟨rfl,rfl⟩|simp[hJ]at h
 |tup vs=>
  simp only[hJ]at h
  have key:jS vs=true/\aF (fun k=>back [] 0 0 k) vs=vs:=by
   induction vs with
   |nil=>exact⟨rfl,by simp only[aF]⟩
   |cons v vs ih=>
    simp only[Bt,Ar]at h;obtain⟨i1,i2⟩:=ih h.2
    cases v with
    |d x=>cases x<;>first|(exfalso;simp at h;done)|(refine⟨by simp only[jS,kU,u6,i1,Bv],by simp only[aF,mapA,i2]⟩)
    |_=>grind
  exact⟨by simp only[kU];exact key.1,by simp only[mapA,key.2]⟩
 |_=>simp[hJ]at h
theorem aKl{f:FuncId}{args:List A}{r:A}(hs:args.all qX=true)(hc:call f args []=some (r,[]))(hp:hJ r=true\/((E.hint f).mode==1||(E.hint f).mode==3)=false):bT call E.hint [] f args=some (r,[]):=by
 unfold bT
 split
 ·exact hc
 ·rename_i hm
  rw[uR hs];simp only[hc]
  rcases hp with hp|hp
  ·rw[hp];rfl
  ·grind
 ·rename_i hm
  rw[uR hs];simp only[hc]
  rcases hp with hp|hp
  ·obtain⟨h1,h2⟩:=aKR hp;rw[h1];exact congrArg (fun x=>some (x,([]:H))) h2
  ·grind
 ·rw[uR hs];simp only[hc]
theorem bZ{f:FuncId}{args:List A}{r:A}(hs:args.all qX=true)(hc:call f args []=some (r,[]))(hr:idsA r=[])(hp:hJ r=true\/((E.hint f).mode==1||(E.hint f).mode==3)=false):aZ E call h f args k=k r h:=by
 unfold aZ;rw[zB hs,y7,fL _ (zB hs)];have:pack h []=[]:=rfl;rw[this,aKl hs hc hp];simp only[Ac,Ab,true_and,closed,Cc,Bv,if_true,sF r hr,bI,Aq,Aj]
def vM(call:aX)(f:FuncId)(args:List A)(k:A->Option R):Option R:=
 match call f args []with
 |some (r,[])=>if hJ r=true then k r else none
 |_=>none
theorem mH{f:FuncId}{args:List A}{r:A}{k:A->Option R}(hc:call f args []=some (r,[]))(hp:hJ r=true):vM call f args k=k r:=by
 unfold vM;rw[hc];simp only[hp,if_true]
theorem aOz{r:A}(h:hJ r=true):idsA r=[]:=by
 cases r with
 |d x=>rfl
 |tup vs=>
  simp only[hJ]at h;simp only[idsA]
  induction vs with
  |nil=>rfl
  |cons v vs ih=>
   simp only[Bt,Ar]at h;simp only[idsL,ih h.2,Aj]
   cases v with
   |d x=>rfl
   |_=>grind
 |_=>simp[hJ]at h
theorem aGQ(ord:List Nat)(n:Nat):back ord n ord.length=fun k=>ord[k]?:=by
 funext k
 unfold back
 split
 ·rfl
 ·grind
theorem aIL{h:H}{ord ids:List Nat}(hc:closed h ord ids=true)(hn:ord.Nodup)(hl:∀i∈ord,i<h.length):bI (fun(k:Nat)=>ord[k]?) h ord (pack h ord)=h:=by
 apply Cm;intro id;rw[BT _ ord h _ id hn hl (by simp[pack])]
 cases hp:aJ ord id with
 |none=>
  simp only[]
  split
  ·rfl
  ·rename_i hge
   rw[Cl (by simp[pack]),Cl om];rfl
 |some k=>
  simp only[];have hm:=JT hp;obtain⟨o,ho⟩:∃o,h[id]? =some o:=⟨h[id]'(hl id hm),Ae _⟩
  rw[iA (bF hp) ho,ho,Az,VW hc hm ho]
theorem aKK{f:FuncId}{args:List A}(hm:(E.hint f).mode=1):aZ E call h f args k=match box (aE aH h (idsL args) [])with
  |.no=>none
  |.mk ord=>match box (d5 (pack h ord) (aF (aJ ord) args))with
   |.mk (some (fs,_))=>if closed h ord (idsL args)=true then vM call f fs fun r=>k r h else none
   |_=>none:=by
 unfold aZ bT;rw[hm];simp only[box]
 cases hf:d5 (pack h (aE aH h (idsL args) [])) (aF (aJ (aE aH h (idsL args) [])) args)with
 |none=>rfl
 |some r=>
  obtain⟨fs,h1⟩:=r;simp only[vM]
  cases hc:call f fs []with
  |none=>simp
  |some r=>
   obtain⟨a,h2⟩:=r
   cases h2 with
   |cons o h2=>simp
   |nil=>
    by_cases hp:hJ a=true
    ·simp only[hp,if_true];have hlen:(pack h (aE aH h (idsL args) [])).length=(aE aH h (idsL args) []).length:=by simp[pack]
     simp only[hlen,Ab,true_and]
     by_cases hcl:closed h (aE aH h (idsL args) []) (idsL args)=true
     ·simp only[hcl,if_true,aGQ,sF a (aOz hp)];rw[aIL hcl (bS aH h (idsL args) [] sm) (jV aH h (idsL args) [] sm)]
     ·grind
    ·grind
def XQ(h:H)(args:List A):Option (List A):=match box (aE aH h (idsL args) [])with
 |.no=>none
 |.mk ord=>match box (d5 (pack h ord) (aF (aJ ord) args))with
  |.mk (some (fs,_))=>if closed h ord (idsL args)=true then some fs else none
  |_=>none
theorem eB{f:FuncId}{args:List A}(hm:(E.hint f).mode=1):aZ E call h f args k=match box (XQ h args)with
  |.mk (some fs)=>vM call f fs fun r=>k r h
  |_=>none:=by
 rw[aKK hm];unfold XQ;simp only[box]
 cases d5 (pack h (aE aH h (idsL args) [])) (aF (aJ (aE aH h (idsL args) [])) args)with
 |none=>rfl
 |some r=>grind
theorem aLU{nf:Nat}{h:H}{ord:List Nat}{s:List A}:trim nf h ord s=match box (pack h ord)with
  |.mk p=>(aR nf p (aF (aJ ord) s),cF nf p)
  |.no=>([],[]):=rfl
theorem aQY{nf:Nat}{m:List Bool}{s:List A}{h:H}:gc nf m s h=match box (tidy m s)with
  |.mk s1=>match box (dA nf h (idsL s1))with
   |.mk ord=>trim nf h ord s1
   |.no=>([],[])
  |.no=>([],[]):=rfl
theorem aLv{P:Program}{nf:Nat}{exp:Bool}{rs:List ResultVar}{e:Exit}{s:List A}{h:H}:kFin P nf exp rs e s h=
  if lS e then(match kX P s h rs with
   |some rs=>match oV nf exp h rs with
    |some (xs,h2)=>match box (dA nf h2 (idsL xs))with
     |.mk ord=>match box (trim nf h2 ord xs)with
      |.mk r=>some (tupA r.1,r.2)
      |.no=>none
     |.no=>none
    |none=>none
   |none=>none)else none:=rfl
theorem tF(nf:Nat)(h:H)(ids:List Nat):dA nf h ids=aE 1099511627776 h (eK (h.take nf)++ids) (List.range nf):=rfl
theorem rng0:List.range 0=[]:=rfl
theorem rng1:List.range 1=[0]:=rfl
theorem rng2:List.range 2=[0,1]:=rfl
theorem VS(h:H)(ids:List Nat):dA 0 h ids=aE 1099511627776 h ids []:=by
 unfold dA;rfl
theorem wS(n:Nat)(h:H)(acc:List Nat):aE n h [] acc=acc:=by cases n<;>rfl
theorem oR(n:Nat)(h:H)(i:Nat)(todo acc:List Nat):aE (n+1) h (i::todo) acc=if acc.contains i=true then aE n h todo acc
  else match h.getD i .void with
   |.box cs=>aE n h (todo++idsL cs) (acc++[i])
   |.vec cs _ _=>aE n h (todo++idsL cs) (acc++[i])
   |.void=>aE n h todo acc
   |_=>aE n h todo (acc++[i]):=by
 simp only[aE,Aa]
 split
 ·rfl
 ·grind
theorem aIY{α:Type}{c:Prop}[Decidable c]{a:α}(hc:c):(if c then some a else none)=some a:=if_pos hc
def iAnd(k:IntKind)(a b:Int):Int:=k.wrap (BitVec.ofInt k.bits a&&&BitVec.ofInt k.bits b).toNat
def iOr(k:IntKind)(a b:Int):Int:=k.wrap (BitVec.ofInt k.bits a|||BitVec.ofInt k.bits b).toNat
def iXor(k:IntKind)(a b:Int):Int:=k.wrap (BitVec.ofInt k.bits a^^^BitVec.ofInt k.bits b).toNat
section
variable{t:TypeId}{K:IntKind}{a b:Int}
theorem aGB:bV E .add t h (.d (.int K a)) (.d (.int K b))=some (.d (.int K (K.wrap (a+b))),h):=by simp[bV,aBin];rfl
theorem aFs:bV E .sub t h (.d (.int K a)) (.d (.int K b))=some (.d (.int K (K.wrap (a-b))),h):=by simp[bV,aBin];rfl
theorem aGe:bV E .mul t h (.d (.int K a)) (.d (.int K b))=some (.d (.int K (K.wrap (a*b))),h):=by simp[bV,aBin];rfl
theorem aGg:bV E .and t h (.d (.int K a)) (.d (.int K b))=some (.d (.int K (iAnd K a b)),h):=by simp[bV,aBin];rfl
theorem aI5:bV E .or t h (.d (.int K a)) (.d (.int K b))=some (.d (.int K (iOr K a b)),h):=by simp[bV,aBin];rfl
theorem aFm:bV E .xor t h (.d (.int K a)) (.d (.int K b))=some (.d (.int K (iXor K a b)),h):=by simp[bV,aBin];rfl
theorem aGc:bV E .lss t h (.d (.int K a)) (.d (.int K b))=some (.d (.bool (decide (a<b))),h):=by simp[bV,aBin]
theorem aGq:bV E .leq t h (.d (.int K a)) (.d (.int K b))=some (.d (.bool (decide (a<=b))),h):=by simp[bV,aBin]
theorem aGv:bV E .gtr t h (.d (.int K a)) (.d (.int K b))=some (.d (.bool (decide (b<a))),h):=by simp[bV,aBin]
theorem aGS:bV E .geq t h (.d (.int K a)) (.d (.int K b))=some (.d (.bool (decide (b<=a))),h):=by simp[bV,aBin]
theorem aGt:bV E .eql t h (.d (.int K a)) (.d (.int K b))=some (.d (.bool (decide (a=b))),h):=by simp[bV,aBin];rfl
theorem aFI:bV E .neq t h (.d (.int K a)) (.d (.int K b))=some (.d (.bool (!decide (a=b))),h):=by simp[bV,aBin];rfl
theorem aGJ(hb:b≠0):bV E .quo t h (.d (.int K a)) (.d (.int K b))=some (.d (.int K (K.wrap (a.tdiv b))),h):=by simp[bV,aBin,hb]
theorem aGM(hb:b≠0):bV E .rem t h (.d (.int K a)) (.d (.int K b))=some (.d (.int K (a.tmod b)),h):=by simp[bV,aBin,hb]
theorem aFP{K2:IntKind}(hb:0<=b):bV E .shl t h (.d (.int K a)) (.d (.int K2 b))=some (.d (.int K (K.wrap (a*2^(min b.toNat K.bits)))),h):=by
 have:¬b<0:=om;simp[bV,aBin,Op.shift,this];rfl
theorem aFK{K2:IntKind}(hb:0<=b):bV E .shr t h (.d (.int K a)) (.d (.int K2 b))=some (.d (.int K (a.fdiv (2^(min b.toNat K.bits)))),h):=by
 have:¬b<0:=om;simp[bV,aBin,Op.shift,this];rfl
theorem aLw{b:Bool}:aUn .not (.d (.bool b))=some (.d (.bool (!b))):=rfl
end
end
theorem WD:type_of% (AI @aDC (AI @aFC (AI @aAx (AI @aGA (AI @aCN (AI @aAh (AI @aC8 (AI @aDY (AI @aFG (AI @aIQ (AI @aFn (AI @aGr (AI @aDn (AI @aAB (AI @aAr (AI @aN7 (AI @aOH (AI @aLi (AI @aOm (AI @aLh (AI @aLF (AI @aLg (AI @aLD (AI @aI7 (AI @aIb (AI @NY (AI @I5 (AI @aLM (AI @aPe (AI @aHN (AI @TM (AI @aI1 (AI @aHR (AI @aF6 (AI @aGD (AI @aLA (AI @aFZ (AI @OJ (AI @VL (AI @RS (AI @ZM (AI @ZD (AI @SJ (AI @RM (AI @aF1 (AI @aAD (AI @ZG (AI @aGl (AI @aLv (AI @TI (AI @aCe (AI @aGU (AI @ZJ @RT))))))))))))))))))))))))))))))))))))))))))))))))))))):=
 ⟨@aDC,@aFC,@aAx,@aGA,@aCN,@aAh,@aC8,@aDY,@aFG,@aIQ,@aFn,@aGr,@aDn,@aAB,@aAr,@aN7,@aOH,@aLi,@aOm,@aLh,@aLF,@aLg,@aLD,@aI7,@aIb,@NY,@I5,@aLM,@aPe,@aHN,@TM,@aI1,@aHR,@aF6,@aGD,@aLA,@aFZ,@OJ,@VL,@RS,@ZM,@ZD,@SJ,@RM,@aF1,@aAD,@ZG,@aGl,@aLv,@TI,@aCe,@aGU,@ZJ,@RT⟩
theorem WDD:type_of% (AI @aFM (AI @aDF (AI @ZH (AI @aC4 (AI @LZ (AI @aFk (AI @NB (AI @aAk (AI @aJd (AI @aFp (AI @aGk (AI @R7 (AI @aIi (AI @aLG (AI @R8 (AI @NH (AI @US (AI @aB3 (AI @WT (AI @aFv (AI @aFz @aCc))))))))))))))))))))):=
 ⟨@aFM,@aDF,@ZH,@aC4,@LZ,@aFk,@NB,@aAk,@aJd,@aFp,@aGk,@R7,@aIi,@aLG,@R8,@NH,@US,@aB3,@WT,@aFv,@aFz,@aCc⟩
theorem WK0:type_of% (AI @aO9 (AI @aLw (AI @aGB (AI @aFs (AI @aGe (AI @aGg (AI @aI5 (AI @aFm (AI @aGJ (AI @aGM (AI @aFP (AI @aFK (AI @aGc (AI @aGq (AI @aGv (AI @aGS (AI @aGt (AI @aFI (AI @List.getD_nil.{0} (AI @Ci.{0} (AI @Bo.{0} (AI @aQY @aLU)))))))))))))))))))))):=
 ⟨@aO9,@aLw,@aGB,@aFs,@aGe,@aGg,@aI5,@aFm,@aGJ,@aGM,@aFP,@aFK,@aGc,@aGq,@aGv,@aGS,@aGt,@aFI,@List.getD_nil.{0},@Ci.{0},@Bo.{0},@aQY,@aLU⟩
theorem WK1:type_of% (AI @Bool.not_true (AI @Bool.not_false (AI @Bool.true_eq_false (AI @decide_eq_true_eq (AI @decide_eq_false_iff_not (AI @Az.{0,0} (AI @decide_true (AI @decide_false (AI @aIY (AI @Ce (AI @Nat.one_mul (AI @Ba.{0} (AI @Bt.{0} (AI @Cc.{0} (AI @Bv (AI @Bool.and_true @Bool.true_and)))))))))))))))):=
 ⟨@Bool.not_true,@Bool.not_false,@Bool.true_eq_false,@decide_eq_true_eq,@decide_eq_false_iff_not,@Az.{0,0},@decide_true,@decide_false,@aIY,@Ce,@Nat.one_mul,@Ba.{0},@Bt.{0},@Cc.{0},@Bv,@Bool.and_true,@Bool.true_and⟩
theorem WK2:type_of% (AI @Cu (AI @Di (AI @List.zip_cons_cons.{0,0} (AI @List.zip_nil_left.{0,0} (AI @List.flatten_cons.{0} (AI @List.flatten_nil.{0} (AI @List.take_zero.{0} (AI @List.take_nil.{0} (AI @List.drop_nil.{0} (AI @Bool.or_self (AI @Bool.or_false (AI @Bz (AI @and_self (AI @and_true (AI @true_and (AI @Bool.or_true (AI @Bool.true_or (AI @Dj.{0} (AI @List.take_succ_cons.{0} (AI @Nat.lt_irrefl (AI @List.head?_cons.{0} (AI @List.contains_cons.{0} (AI @List.contains_nil.{0} @tF))))))))))))))))))))))):=
 ⟨@Cu,@Di,@List.zip_cons_cons.{0,0},@List.zip_nil_left.{0,0},@List.flatten_cons.{0},@List.flatten_nil.{0},@List.take_zero.{0},@List.take_nil.{0},@List.drop_nil.{0},@Bool.or_self,@Bool.or_false,@Bz,@and_self,@and_true,@true_and,@Bool.or_true,@Bool.true_or,@Dj.{0},@List.take_succ_cons.{0},@Nat.lt_irrefl,@List.head?_cons.{0},@List.contains_cons.{0},@List.contains_nil.{0},@tF⟩
theorem WK3:type_of% (AI @rng0 (AI @rng1 (AI @rng2 (AI @Option.isNone_none.{0} (AI @Option.isNone_some.{0} (AI @Cq.{0} (AI @Df.{0} (AI @wS (AI @oR (AI @beq_self_eq_true.{0} (AI @Nat.succ_ne_self (AI @Nat.zero_ne_one (AI @Af.{0} (AI @or_false @or_true)))))))))))))):=
 ⟨@rng0,@rng1,@rng2,@Option.isNone_none.{0},@Option.isNone_some.{0},@Cq.{0},@Df.{0},@wS,@oR,@beq_self_eq_true.{0},@Nat.succ_ne_self,@Nat.zero_ne_one,@Af.{0},@or_false,@or_true⟩
theorem WK:type_of% (AI @WK0 (AI @WK1 (AI @WK2 @WK3))):=
 ⟨@WK0,@WK1,@WK2,@WK3⟩
section
variable{E:Env}{vs:List A}{t u:TypeId}{x y:Operand}
theorem Y9:jK E (.convert t u x) vs=(cX E.P u).isNone:=rfl
theorem RZ{a:Array Operand}{b:Array TypeId}:jK E (.call ⟨.builtin .append,a,b⟩) vs=false:=rfl
theorem VZ:jK E (.alloc t) vs=false:=rfl
theorem SD:jK E (.assign x) vs=false:=rfl
theorem U7:jK E (.store t x y) vs=false:=rfl
theorem aFR{n:Nat}{ps:Array (Nat×Operand)}:jK E (.buildSlice t n ps) vs=false:=rfl
theorem aDM:opds (.alloc t)=[]:=rfl
end
theorem UNx5:type_of% (fun v0 v1 v2 v3=> @outA.eq_2 v0 v1 v2 (A.d v3) nfn):=by intros;rfl
theorem UNx6:type_of% (fun v0 v1 v2 v3 v4 v5 v6=> @outA.eq_2 v0 v1 v2 (A.sl v3 v4 v5 v6) nfn):=by intros;rfl
theorem UNx7:type_of% (fun v0 v1 v2 v3 v4 v5=> @outA.eq_2 v0 v1 v2 (A.ptr v3 v4 v5) nfn):=by intros;rfl
theorem UNx9:type_of% (fun v0 v1 v2 v3 v4=> @outA.eq_2 v0 v1 v2 (A.clo v3 v4) nfn):=by intros;rfl
theorem aQ4:type_of% (fun v0 v1 v2 v3 v4=> @outS.eq_2 v0 v1 v2 (D.int v3 v4) nfn):=by intros;rfl
theorem aQ6:type_of% (fun v0 v1 v2 v3=> @outS.eq_2 v0 v1 v2 (D.bool v3) nfn):=by intros;rfl
theorem aRa:type_of% (fun v0 v1 v2 v3=> @outS.eq_2 v0 v1 v2 (D.str v3) nfn):=by intros;rfl
theorem aQ9:type_of% (fun v0 v1 v2 v3 v4=> @outS.eq_2 v0 v1 v2 (D.ivs v3 v4) nfn):=by intros;rfl
theorem aQL:type_of% (fun v0 v1=> @fX.eq_3 (A.d (D.int v0 v1)) nfn nfn):=by intros;rfl
theorem aQ3:type_of% (fun v0=> @fX.eq_3 (A.d (D.bool v0)) nfn nfn):=by intros;rfl
theorem aQ7:type_of% (fun v0=> @fX.eq_3 (A.d (D.str v0)) nfn nfn):=by intros;rfl
theorem aQT:type_of% (fun v0 v1=> @fX.eq_3 (A.d (D.ivs v0 v1)) nfn nfn):=by intros;rfl
theorem aQK:type_of% (@fX.eq_3 (A.d D.nils) nfn nfn):=(@fX.eq_3 (A.d D.nils) nfn nfn)
theorem aQ8:type_of% (fun v0 v1=> @fX.eq_3 (A.d (D.fn v0 v1)) nfn nfn):=by intros;rfl
theorem aQU:type_of% (fun v0 v1 v2 v3=> @fX.eq_3 (A.sl v0 v1 v2 v3) nfn nfn):=by intros;rfl
theorem aQ2:type_of% (fun v0 v1 v2=> @fX.eq_3 (A.ptr v0 v1 v2) nfn nfn):=by intros;rfl
theorem aQQ:type_of% (fun v0=> @fX.eq_3 (A.mp v0) nfn nfn):=by intros;rfl
theorem aQV:type_of% (fun v0 v1=> @fX.eq_3 (A.clo v0 v1) nfn nfn):=by intros;rfl
theorem aQM:type_of% (fun v0=> @tidy.eq_3 List.nil v0 nfn nfn):=by intros;rfl
theorem aQO:type_of% (fun v0 v1 v2 v3 v4=> @cD.eq_2 v0 v1 v2 v3 (A.d v4) nfn):=by intros;rfl
theorem aQZ:type_of% (fun v0 v1 v2 v3 v4 v5 v6 v7=> @cD.eq_2 v0 v1 v2 v3 (A.sl v4 v5 v6 v7) nfn):=by intros;rfl
theorem aRd:type_of% (fun v0 v1=> @XK.eq_2 v0 (A.d v1) nfn):=by intros;rfl
theorem aQJ:type_of% (fun v0 v1 v2=> @frz.eq_5 v0 (A.d v2) v1 nfn nfn nfn):=by intros;rfl
theorem aRb:type_of% (fun v0=> @aY.eq_2 (A.d v0) nfn):=by intros;rfl
theorem aQ5:type_of% (fun v0 v1 v2 v3=> @aY.eq_2 (A.sl v0 v1 v2 v3) nfn):=by intros;rfl
theorem aQR:type_of% (fun v0=> @aY.eq_2 (A.mp v0) nfn):=by intros;rfl
theorem aOb:type_of% (fun v0 v1=> @dN.eq_5 (A.d (D.int v0 v1)) nfn nfn nfn nfn):=by intros;rfl
theorem aNT:type_of% (fun v0=> @dN.eq_5 (A.d (D.bool v0)) nfn nfn nfn nfn):=by intros;rfl
theorem aN4:type_of% (fun v0=> @dN.eq_5 (A.d (D.str v0)) nfn nfn nfn nfn):=by intros;rfl
theorem aOW:type_of% (fun v0 v1=> @dN.eq_5 (A.d (D.ivs v0 v1)) nfn nfn nfn nfn):=by intros;rfl
theorem aOs:type_of% (@dN.eq_5 (A.d D.nils) nfn nfn nfn nfn):=(@dN.eq_5 (A.d D.nils) nfn nfn nfn nfn)
theorem aOZ:type_of% (fun v0 v1=> @dN.eq_5 (A.d (D.fn v0 v1)) nfn nfn nfn nfn):=by intros;rfl
theorem aOo:type_of% (fun v0 v1 v2 v3=> @dN.eq_5 (A.sl v0 v1 v2 v3) nfn nfn nfn nfn):=by intros;rfl
theorem aOe:type_of% (fun v0=> @dN.eq_5 (A.mp v0) nfn nfn nfn nfn):=by intros;rfl
theorem aOd:type_of% (fun v0=> @xG.eq_2 (A.d v0) nfn):=by intros;rfl
theorem aOT:type_of% (fun v0 v1 v2 v3=> @xG.eq_2 (A.sl v0 v1 v2 v3) nfn):=by intros;rfl
theorem aNq:type_of% (fun v0=> @xG.eq_2 (A.agg v0) nfn):=by intros;rfl
theorem aNp:type_of% (fun v0 v1 v2 v3=> @eK.eq_4 (O.arr v1 v2 v3) v0 nfn nfn):=by intros;rfl
theorem aNM:type_of% (fun v0 v1=> @eK.eq_4 (O.mp v1) v0 nfn nfn):=by intros;rfl
theorem aNN:type_of% (@tupA.eq_2 List.nil nfn):=(@tupA.eq_2 List.nil nfn)
theorem aPg:type_of% (fun v0 v1 v2=> @tupA.eq_2 (List.cons v0 (List.cons v1 v2)) nfn):=by intros;rfl
theorem aON:type_of% (fun v0 v1 v2 v3 v4=> @HL.eq_2 v0 v1 (Go.Operand.tmp v4) v2 v3 nfn):=by intros;rfl
theorem aPj:type_of% (fun v0 v1 v2 v3=> @bC.eq_3 v0 (A.d (D.int v2 v3)) v1 nfn):=by intros;rfl
theorem aNs:type_of% (fun v0 v1 v2 v3=> @bC.eq_3 v0 (A.d (D.ivs v2 v3)) v1 nfn):=by intros;rfl
theorem aNk:type_of% (fun v0 v1 v2 v3=> @bC.eq_3 v0 (A.d (D.fn v2 v3)) v1 nfn):=by intros;rfl
theorem aPd:type_of% (fun v0 v1 v2 v3 v4 v5=> @bC.eq_3 v0 (A.sl v2 v3 v4 v5) v1 nfn):=by intros;rfl
theorem aOg:type_of% (fun v0 v1 v2=> @bC.eq_3 v0 (A.mp v2) v1 nfn):=by intros;rfl
theorem aPa:type_of% (fun v0 v1 v2 v3=> @mapO.eq_3 v0 (O.arr v1 v2 v3) nfn nfn):=by intros;rfl
theorem aOi:type_of% (fun v0 v1 v2 v3=> @mapO.eq_3 v0 (O.ice v1 v2 v3) nfn nfn):=by intros;rfl
theorem aNR:type_of% (fun v0 v1=> @mapO.eq_3 v0 (O.log v1) nfn nfn):=by intros;rfl
theorem aOf:type_of% (fun v0 v1=> @mapO.eq_3 v0 (O.mp v1) nfn nfn):=by intros;rfl
theorem aOL:type_of% (fun v0 v1=> @frzA.eq_2 v0 (A.d v1) nfn):=by intros;rfl
theorem aPf:type_of% (fun v0 v1 v2 v3 v4=> @frzA.eq_2 v0 (A.sl v1 v2 v3 v4) nfn):=by intros;rfl
theorem aO7:type_of% (fun v0 v1 v2=> @frzA.eq_2 v0 (A.clo v1 v2) nfn):=by intros;rfl
theorem UN0:type_of% (AI @aDM (AI @aLen.eq_def (AI @RZ (AI @Y9 (AI @VZ (AI @SD (AI @U7 (AI @aFR (AI @List.range'.eq_1 (AI @List.range'.eq_2 (AI @NU.eq_1 @OC.eq_1))))))))))):=
 ⟨@aDM,@aLen.eq_def,@RZ,@Y9,@VZ,@SD,@U7,@aFR,@List.range'.eq_1,@List.range'.eq_2,@NU.eq_1,@OC.eq_1⟩
theorem UN1:type_of% (AI @aPut.eq_1 (AI @aPut.eq_2 (AI @lS.eq_1 (AI @lS.eq_2 (AI @outA.eq_1 (AI @UNx5 (AI @UNx6 (AI @UNx7 (AI @UNx9 (AI @outS.eq_1 (AI @aQ4 (AI @aQ6 (AI @aRa (AI @aQ9 (AI @outS.eq_3 (AI @outS.eq_4 (AI @outS.eq_6 (AI @BS.eq_1 (AI @BS.eq_2 (AI @idsA.eq_1 @idsA.eq_2)))))))))))))))))))):=
 ⟨@aPut.eq_1,@aPut.eq_2,@lS.eq_1,@lS.eq_2,@outA.eq_1,@UNx5,@UNx6,@UNx7,@UNx9,@outS.eq_1,@aQ4,@aQ6,@aRa,@aQ9,@outS.eq_3,@outS.eq_4,@outS.eq_6,@BS.eq_1,@BS.eq_2,@idsA.eq_1,@idsA.eq_2⟩
theorem UN2:type_of% (AI @idsA.eq_3 (AI @idsA.eq_4 (AI @idsA.eq_5 (AI @idsA.eq_7 (AI @idsA.eq_8 (AI @idsL.eq_1 (AI @idsL.eq_2 (AI @mapA.eq_1 (AI @mapA.eq_2 (AI @mapA.eq_3 (AI @mapA.eq_4 (AI @mapA.eq_5 (AI @mapA.eq_7 (AI @mapA.eq_8 (AI @aR.eq_1 (AI @aR.eq_2 (AI @bM.eq_1 (AI @bM.eq_2 (AI @bM.eq_3 (AI @bM.eq_4 (AI @bM.eq_5 (AI @bM.eq_7 (AI @bM.eq_8 (AI @gP.eq_1 (AI @I8.eq_1 (AI @bA.eq_1 (AI @cF.eq_1 (AI @dP.eq_1 (AI @dP.eq_2 (AI @bW.eq_1 (AI @bW.eq_2 (AI @bW.eq_3 (AI @bW.eq_4 (AI @bW.eq_5 (AI @bW.eq_6 @aF.eq_1))))))))))))))))))))))))))))))))))):=
 ⟨@idsA.eq_3,@idsA.eq_4,@idsA.eq_5,@idsA.eq_7,@idsA.eq_8,@idsL.eq_1,@idsL.eq_2,@mapA.eq_1,@mapA.eq_2,@mapA.eq_3,@mapA.eq_4,@mapA.eq_5,@mapA.eq_7,@mapA.eq_8,@aR.eq_1,@aR.eq_2,@bM.eq_1,@bM.eq_2,@bM.eq_3,@bM.eq_4,@bM.eq_5,@bM.eq_7,@bM.eq_8,@gP.eq_1,@I8.eq_1,@bA.eq_1,@cF.eq_1,@dP.eq_1,@dP.eq_2,@bW.eq_1,@bW.eq_2,@bW.eq_3,@bW.eq_4,@bW.eq_5,@bW.eq_6,@aF.eq_1⟩
theorem UN3:type_of% (AI @aF.eq_2 (AI @qP.eq_1 (AI @qP.eq_2 (AI @qP.eq_3 (AI @fX.eq_1 (AI @fX.eq_2 (AI @aQL (AI @aQ3 (AI @aQ7 (AI @aQT (AI @aQK (AI @aQ8 (AI @aQU (AI @aQ2 (AI @aQQ (AI @aQV (AI @tidy.eq_1 (AI @tidy.eq_2 (AI @aQM (AI @cD.eq_1 (AI @aQO (AI @aQZ (AI @cD.eq_3 @pY.eq_1))))))))))))))))))))))):=
 ⟨@aF.eq_2,@qP.eq_1,@qP.eq_2,@qP.eq_3,@fX.eq_1,@fX.eq_2,@aQL,@aQ3,@aQ7,@aQT,@aQK,@aQ8,@aQU,@aQ2,@aQQ,@aQV,@tidy.eq_1,@tidy.eq_2,@aQM,@cD.eq_1,@aQO,@aQZ,@cD.eq_3,@pY.eq_1⟩
theorem UN4:type_of% (AI @mM.eq_1 (AI @oW.eq_1 (AI @FI.eq_1 (AI @XK.eq_1 (AI @aRd (AI @H9.eq_1 (AI @pT.eq_1 (AI @keeps.eq_1 (AI @logs.eq_1 (AI @LR.eq_1 @sI.eq_1)))))))))):=
 ⟨@mM.eq_1,@oW.eq_1,@FI.eq_1,@XK.eq_1,@aRd,@H9.eq_1,@pT.eq_1,@keeps.eq_1,@logs.eq_1,@LR.eq_1,@sI.eq_1⟩
theorem UN5:type_of% (AI @cY.eq_2 (AI @cY.eq_4 (AI @kK.eq_1 (AI @pC.eq_1 (AI @BX.eq_1 (AI @mT.eq_1 (AI @mT.eq_2 (AI @sZ.eq_1 (AI @hU.eq_1 (AI @iK.eq_1 (AI @iK.eq_3 (AI @frzL.eq_1 (AI @eI.eq_1 (AI @eI.eq_2 (AI @frz.eq_2 (AI @frz.eq_3 (AI @frz.eq_4 (AI @aQJ (AI @frz0.eq_1 (AI @frz0.eq_2 (AI @deep.eq_1 (AI @aY.eq_1 (AI @aRb (AI @aQ5 @aQR)))))))))))))))))))))))):=
 ⟨@cY.eq_2,@cY.eq_4,@kK.eq_1,@pC.eq_1,@BX.eq_1,@mT.eq_1,@mT.eq_2,@sZ.eq_1,@hU.eq_1,@iK.eq_1,@iK.eq_3,@frzL.eq_1,@eI.eq_1,@eI.eq_2,@frz.eq_2,@frz.eq_3,@frz.eq_4,@aQJ,@frz0.eq_1,@frz0.eq_2,@deep.eq_1,@aY.eq_1,@aRb,@aQ5,@aQR⟩
theorem UN6:type_of% (AI @bG.eq_1 (AI @aOb (AI @aNT (AI @aN4 (AI @aOW (AI @aOs (AI @aOZ (AI @aOo (AI @aOe (AI @aOd (AI @aOT (AI @aNq (AI @eK.eq_1 (AI @eK.eq_2 (AI @aNp (AI @aNM @kX.eq_1)))))))))))))))):=
 ⟨@bG.eq_1,@aOb,@aNT,@aN4,@aOW,@aOs,@aOZ,@aOo,@aOe,@aOd,@aOT,@aNq,@eK.eq_1,@eK.eq_2,@aNp,@aNM,@kX.eq_1⟩
theorem UN7:type_of% (AI @kX.eq_2 (AI @FY.eq_1 (AI @FY.eq_2 (AI @oV.eq_1 (AI @oV.eq_2 (AI @tupA.eq_1 (AI @aNN (AI @aPg (AI @tI.eq_1 (AI @sO.eq_1 (AI @sO.eq_2 (AI @opds.eq_2 (AI @opds.eq_7 (AI @opds.eq_13 (AI @opds.eq_14 @opds.eq_24))))))))))))))):=
 ⟨@kX.eq_2,@FY.eq_1,@FY.eq_2,@oV.eq_1,@oV.eq_2,@tupA.eq_1,@aNN,@aPg,@tI.eq_1,@sO.eq_1,@sO.eq_2,@opds.eq_2,@opds.eq_7,@opds.eq_13,@opds.eq_14,@opds.eq_24⟩
theorem UN8:type_of% (AI @evOp.eq_1 (AI @dQ.eq_1 (AI @one.eq_1 (AI @two.eq_1 (AI @AS.eq_1 @aON))))):=
 ⟨@evOp.eq_1,@dQ.eq_1,@one.eq_1,@two.eq_1,@AS.eq_1,@aON⟩
theorem UN9:type_of% (AI @aNew.eq_1 (AI @pV.eq_3 (AI @pV.eq_4 (AI @wQ.eq_1 @NL.eq_1)))):=
 ⟨@aNew.eq_1,@pV.eq_3,@pV.eq_4,@wQ.eq_1,@NL.eq_1⟩
theorem UN10:type_of% (AI @back.eq_1 (AI @bI.eq_1 (AI @bI.eq_2 (AI @aH.eq_1 (AI @closed.eq_1 (AI @jD.eq_1 @bC.eq_1)))))):=
 ⟨@back.eq_1,@bI.eq_1,@bI.eq_2,@aH.eq_1,@closed.eq_1,@jD.eq_1,@bC.eq_1⟩
theorem UN11:type_of% (AI @bC.eq_2 (AI @aPj (AI @aNs (AI @aNk (AI @aPd (AI @aOg (AI @aJ.eq_2 (AI @pack.eq_1 (AI @mapO.eq_1 (AI @mapO.eq_2 (AI @aPa (AI @aOi (AI @aNR (AI @aOf (AI @bK.eq_1 (AI @frzA.eq_1 (AI @aOL (AI @aPf (AI @aO7 @d5.eq_1))))))))))))))))))):=
 ⟨@bC.eq_2,@aPj,@aNs,@aNk,@aPd,@aOg,@aJ.eq_2,@pack.eq_1,@mapO.eq_1,@mapO.eq_2,@aPa,@aOi,@aNR,@aOf,@bK.eq_1,@frzA.eq_1,@aOL,@aPf,@aO7,@d5.eq_1⟩
theorem UN12:type_of% (AI @d5.eq_2 (AI @memD.eq_1 (AI @XQ.eq_1 (AI @K9.eq_1 @eH.eq_3)))):=
 ⟨@d5.eq_2,@memD.eq_1,@XQ.eq_1,@K9.eq_1,@eH.eq_3⟩
theorem UN:type_of% (AI @UN0 (AI @UN1 (AI @UN2 (AI @UN3 (AI @UN4 (AI @UN5 (AI @UN6 (AI @UN7 (AI @UN8 (AI @UN9 (AI @UN10 (AI @UN11 @UN12)))))))))))):=
 ⟨@UN0,@UN1,@UN2,@UN3,@UN4,@UN5,@UN6,@UN7,@UN8,@UN9,@UN10,@UN11,@UN12⟩
theorem aQW:type_of% (@bQ.eq_5 Go.Code.skip nfn nfn nfn nfn):=(@bQ.eq_5 Go.Code.skip nfn nfn nfn nfn)
theorem aQX:type_of% (fun v0 v1 v2=> @bQ.eq_5 (Go.Code.region v0 v1 v2) nfn nfn nfn nfn):=(fun v0 v1 v2=> @bQ.eq_5 (Go.Code.region v0 v1 v2) nfn nfn nfn nfn)
theorem aQS:type_of% (fun v0=> @bQ.eq_5 (Go.Code.exit v0) nfn nfn nfn nfn):=(fun v0=> @bQ.eq_5 (Go.Code.exit v0) nfn nfn nfn nfn)
theorem aNm:type_of% (@bQ.eq_5 Go.Code.ret nfn nfn nfn nfn):=(@bQ.eq_5 Go.Code.ret nfn nfn nfn nfn)
theorem SLM0:type_of% (AI @Bb.{0} (AI @Ac.{0} (AI @Bu (AI @Ag (AI @Ai.{0,0} (AI @Aq.{0,0} (AI @Co.{0} (AI @Aw.{0} (AI @Db.{0,0} (AI @Ak (AI @Ad.{0} (AI @List.replicate.eq_1.{0} (AI @List.replicate.eq_2.{0} (AI @Ax.{0} (AI @Ao.{0} (AI @Aj.{0} (AI @List.getD_cons_zero.{0} (AI @List.getD_cons_succ.{0} (AI @aT.eq_1 (AI @a7.eq_1 (AI @lpOf.eq_1 (AI @aO.eq_1 (AI @slim.eq_1 (AI @slim.eq_2 (AI @slim.eq_3 (AI @slim.eq_4 (AI @slim.eq_5 (AI @slim.eq_6 (AI @slim.eq_7 (AI @slim.eq_8 (AI @bQ.eq_1 (AI @bQ.eq_2 @bQ.eq_3)))))))))))))))))))))))))))))))):=
 ⟨@Bb.{0},@Ac.{0},@Bu,@Ag,@Ai.{0,0},@Aq.{0,0},@Co.{0},@Aw.{0},@Db.{0,0},@Ak,@Ad.{0},@List.replicate.eq_1.{0},@List.replicate.eq_2.{0},@Ax.{0},@Ao.{0},@Aj.{0},@List.getD_cons_zero.{0},@List.getD_cons_succ.{0},@aT.eq_1,@a7.eq_1,@lpOf.eq_1,@aO.eq_1,@slim.eq_1,@slim.eq_2,@slim.eq_3,@slim.eq_4,@slim.eq_5,@slim.eq_6,@slim.eq_7,@slim.eq_8,@bQ.eq_1,@bQ.eq_2,@bQ.eq_3⟩
theorem SLM1:type_of% (AI @bQ.eq_4 (AI @aQW (AI @aQX (AI @aQS (AI @aNm (AI @E9.eq_1 (AI @JY.eq_1 @JY.eq_2))))))):=
 ⟨@bQ.eq_4,@aQW,@aQX,@aQS,@aNm,@E9.eq_1,@JY.eq_1,@JY.eq_2⟩
theorem SLM:type_of% (AI @SLM0 @SLM1):=
 ⟨@SLM0,@SLM1⟩
theorem LN:type_of% (AI @Af.{0} (AI @Ad.{0} (AI @Ac.{0} (AI @Bn.{0} (AI @List.length_replicate.{0} (AI @As.{0,0} (AI @Bs.{0} @Cf.{0}))))))):=
 ⟨@Af.{0},@Ad.{0},@Ac.{0},@Bn.{0},@List.length_replicate.{0},@As.{0,0},@Bs.{0},@Cf.{0}⟩
theorem GT:type_of% (AI @Co.{0} @Aw.{0}):=
 ⟨@Co.{0},@Aw.{0}⟩
end Ev
end Go.Proofs.YthlkcebdfbjdoaaGreat
