/-
  How each operation goes, in the form in which the evaluator is walked.
-/
import Derived.Test.YthlkcebdfbjdoaaGreatEvPrim
set_option linter.unusedSimpArgs false
set_option linter.unusedVariables false
namespace Go.Proofs.YthlkcebdfbjdoaaGreat
namespace Ev
section
variable{R:Type}{E:Env}{call:aU}{thaw:List Nat}{dst:Option Tmp}{s:List A}{h:H}{k:A->H->Option R}
structure Now(p:Prop):Prop where
 it:p
structure Shut(p:Prop):Prop where
 it:p
inductive Box(α:Type) where
 |mk (a:α)
 |no
def box{α:Type}(a:α):Box α:=.mk a
theorem aLD{α:Type}{a:α}:box a=.mk a:=rfl
theorem aLp{t:Nat}{q:A->Option R}:kv s (.tmp t) q=match box (s.getD t (.d .undef))with|.no=>none|.mk a=>q a:=rfl
theorem aMA{K:IntKind}{n:Int}{q:A->Option R}:kv s (.const (.int K n)) q=q (.d (.int K n)):=rfl
theorem aJT{b:Bool}{q:A->Option R}:kv s (.const (.bool b)) q=q (.d (.bool b)):=rfl
theorem aLf{b:ByteArray}{q:A->Option R}:kv s (.const (.string b)) q=match box b.data.toList with|.no=>none|.mk l=>q (.d (.str l)):=rfl
theorem aJP{q:A->Option R}:kv s (.const (.pointer none)) q=q (.d .nilp):=rfl
theorem aJo{q:A->Option R}:kv s (.const (.slice none 0 0)) q=q (.d .nils):=rfl
theorem aJD{f:FuncId}{q:A->Option R}:kv s (.func f) q=q (.clo f []):=rfl
theorem aJK{q:List A->Option R}:kvs s [] q=q []:=rfl
theorem aGm{x:Operand}{xs:List Operand}{q:List A->Option R}:kvs s (x::xs) q=kv s x fun a=>kvs s xs fun asx=>q (a::asx):=by
 unfold kvs kv;simp only[bO]
 cases cE s x with
 |none=>rfl
 |some a=>grind
theorem XG{yes no:List A->Option R}:tG none s yes no=yes s:=rfl
theorem X5{t:Nat}{w:Bool}{yes no:List A->Option R}:tG (some (some t,w)) s yes no=match s.getD t .junk with
  |.d (.bool b)=>if b=w then(match box (s.set t (.d (.bool w)))with|.no=>none|.mk s=>yes s)else(match box (s.set t (.d (.bool (!w))))with|.no=>none|.mk s=>no s)
  |.d .undef=>no s
  |_=>none:=by
 simp only[tG,Aa]
 cases s[t]? with
 |none=>rfl
 |some a=>
  cases a with
  |d x=>cases x<;>rfl
  |_=>rfl
theorem aGM{x:Operand}:kOp E call thaw dst (.move x) s h k=kv s x fun a=>k a h:=by
 unfold kOp kvs kv;simp only[opds,bO]
 cases cE s x<;>rfl
def kAsg(thaw:List Nat)(dst:Option Tmp)(h:H)(k:A->H->Option R)(a:A):Option R:=
 match a with
 |.d .nils=>match LT thaw dst with
  |0=>k (.d .nils) h
  |e+1=>if e<1000 then k (.sl h.length 0 0 0) (h++[.arr [] e 0])else k (.sl h.length 0 0 0) (h++[.vec [] (e-1000) 0])
 |a=>k a h
theorem MA{t:Nat}:kOp E call thaw dst (.assign (.tmp t)) s h k=match box (s.getD t (.d .undef))with|.no=>none|.mk a=>k a h:=by
 unfold kOp kvs;rfl
theorem GV{v:Value}:kOp E call thaw dst (.assign (.const v)) s h k=kv s (.const v) (kAsg thaw dst h k):=by
 unfold kOp kvs kv kAsg;simp only[opds,bO]
 cases cE s (.const v)with
 |none=>rfl
 |some a=>
  simp only[tV,Ak,if_false,evOp,one,FT,dN]
  cases a with
  |d x=>grind
  |_=>rfl
def kRet(r:Option (A×H))(k:A->H->Option R):Option R:=
 match r with
 |some (a,h')=>k a h'
 |none=>none
theorem aJg{op:BinOp}{t:TypeId}{x y:Operand}{t2:TypeId}:kOp E call thaw dst (.binOp op t x y t2) s h k=kv s x fun a=>kv s y fun b=>kRet (bY E op t h a b) k:=by
 unfold kOp kvs kv kRet;simp only[opds,bO]
 cases cE s x with
 |none=>rfl
 |some a=>cases cE s y<;>rfl
theorem aMY{op:UnOp}{t:TypeId}{x:Operand}:kOp E call thaw dst (.unOp op t x) s h k=kv s x fun a=>kRet ((aUn op a).map fun r=>(r,h)) k:=by
 unfold kOp kvs kv kRet;simp only[opds,bO]
 cases cE s x<;>rfl
theorem aH0{c x y:Operand}:kOp E call thaw dst (.pick c x y) s h k=kv s c fun b=>kv s x fun a=>kv s y fun a'=>kRet (L4 h [b,a,a']) k:=by
 unfold kOp kvs kv kRet;simp only[opds,bO]
 cases cE s c with
 |none=>rfl
 |some b=>cases cE s x with
  |none=>rfl
  |some a=>cases cE s y<;>rfl
theorem TB{x:Operand}:kOp E call thaw dst (.nilCheck x) s h k=kv s x fun a=>kRet (sH h a) k:=by
 unfold kOp kvs kv kRet;simp only[opds,bO]
 cases cE s x<;>rfl
theorem aGV{t u:TypeId}{x:Operand}:kOp E call thaw dst (.convert t u x) s h k=kv s x fun a=>kRet (eF E.P h t u a) k:=by
 unfold kOp kvs kv kRet;simp only[opds,bO]
 cases cE s x<;>rfl
theorem aGz{t:TypeId}{x:Operand}:kOp E call thaw dst (.load t x) s h k=kv s x fun a=>kRet ((AJ E.P h t a).map fun v=>(v,h)) k:=by
 unfold kOp kvs kv kRet;simp only[opds,bO]
 cases cE s x<;>rfl
theorem aD4{t:TypeId}{x y:Operand}:kOp E call thaw dst (.store t x y) s h k=kv s x fun a=>kv s y fun b=>kRet ((jE E.P h t a b).map fun h'=>(.d .undef,h')) k:=by
 unfold kOp kvs kv kRet;simp only[opds,bO]
 cases cE s x with
 |none=>rfl
 |some a=>cases cE s y<;>rfl
theorem aEx{t:TypeId}:kOp E call thaw dst (.alloc t) s h k=match box (dF E.P t)with
  |.no=>none
  |.mk none=>none
  |.mk (some z)=>kRet (aNew h z) k:=by
 unfold kOp kvs kRet;simp only[opds,bO,tV,Ak,if_false,evOp,dN,box]
 cases dF E.P t<;>rfl
theorem aJt{t:TypeId}{x:Operand}:kOp E call thaw dst (.box t x) s h k=kv s x fun a=>kRet (aNew h a) k:=by
 unfold kOp kvs kv kRet;simp only[opds,bO]
 cases cE s x<;>rfl
theorem aD6{t:TypeId}{ps:List (Nat×Operand)}:kOp E call thaw dst (.build t ps.toArray) s h k=match box (ps.map (·.2))with
  |.no=>none
  |.mk xs=>kvs s xs fun vs=>kRet ((tL E.P t ((ps.map (·.1)).zip vs)).map fun a=>(a,h)) k:=by
 rfl
theorem LM{t:TypeId}{n:Nat}{ps:List (Nat×Operand)}:kOp E call thaw dst (.buildSlice t n ps.toArray) s h k=match box (ps.map (·.2))with
  |.no=>none
  |.mk xs=>kvs s xs fun vs=>kRet (if logs thaw dst=true then IL (j7 E.P h t n ((ps.map (·.1)).zip vs))else if keeps thaw dst=true then qV E.P h t n ((ps.map (·.1)).zip vs)else j7 E.P h t n ((ps.map (·.1)).zip vs)) k:=by
 rfl
theorem S1{fn:Fn}{cap:List Operand}:kOp E call thaw dst (.makeFunc fn #[] cap.toArray) s h k=kvs s cap fun vs=>kRet (ME h fn true vs) k:=by
 rfl
theorem P9{t:TypeId}{x y:Operand}:kOp E call thaw dst (.makeSlice t x y) s h k=kv s x fun a=>kv s y fun b=>kRet (gY a fun l=>gY b fun c=>if keeps thaw dst=true then FA E.P h t l c else gO E.P h t l c) k:=by
 unfold kOp kvs kv kRet;simp only[opds,bO]
 cases cE s x with
 |none=>rfl
 |some a=>cases cE s y<;>rfl
theorem XE{t:TypeId}{x hi:Operand}:kOp E call thaw dst (.slice t x none (some hi) none) s h k=kvs s [x,hi] fun vs=>kRet (oQ E.P h t false true vs) k:=rfl
theorem X8{t:TypeId}{x lo hi:Operand}:kOp E call thaw dst (.slice t x (some lo) (some hi) none) s h k=kvs s [x,lo,hi] fun vs=>kRet (oQ E.P h t true true vs) k:=rfl
theorem OW{t:TypeId}{x:Operand}{f:Nat}:kOp E call thaw dst (.fieldAddr t x f) s h k=kv s x fun a=>kRet ((cQ E.P t f).bind fun r=>(rT r.1 a).map fun r=>(r,h)) k:=by
 unfold kOp kvs kv kRet;simp only[opds,bO]
 cases cE s x<;>rfl
theorem O1{t:TypeId}{x y:Operand}:kOp E call thaw dst (.indexAddr t x y) s h k=kv s x fun a=>kv s y fun b=>kRet (gY b fun i=>(nS E.P h t a i).map fun r=>(r,h)) k:=by
 unfold kOp kvs kv kRet;simp only[opds,bO]
 cases cE s x with
 |none=>rfl
 |some a=>cases cE s y<;>rfl
theorem aDQ{t:TypeId}{x y:Operand}:kOp E call thaw dst (.index t x y) s h k=kv s x fun a=>kv s y fun b=>kRet (gY b fun i=>(LP E.P t a i).map fun r=>(r,h)) k:=by
 unfold kOp kvs kv kRet;simp only[opds,bO]
 cases cE s x with
 |none=>rfl
 |some a=>cases cE s y<;>rfl
theorem XU{t:TypeId}:kOp E call thaw dst (.makeMap t none) s h k=k (.mp h.length) (h++[.mp []]):=rfl
theorem PT{t:TypeId}{x y z:Operand}:kOp E call thaw dst (.mapUpdate t x y z) s h k=kv s x fun a=>kv s y fun b=>kv s z fun c=>kRet (nG E.P h t a b c) k:=by
 unfold kOp kvs kv kRet;simp only[opds,bO]
 cases cE s x with
 |none=>rfl
 |some a=>cases cE s y with
  |none=>rfl
  |some b=>cases cE s z<;>rfl
theorem WV{x:Operand}{i:Nat}:kOp E call thaw dst (.extract x i) s h k=kv s x fun a=>kRet (v8 h i a) k:=by
 unfold kOp kvs kv kRet;simp only[opds,bO]
 cases cE s x<;>rfl
theorem XA{b:Builtin}{args:List Operand}{tys:List TypeId}:kOp E call thaw dst (.call ⟨.builtin b,args.toArray,tys.toArray⟩) s h k=kvs s args fun vs=>kRet (cA E.P h b tys vs) k:=by
 rfl
theorem dH{op:Op}{q:A->H->Foot->Option R}(hp:Now (oL op=true/\tV op=false)):kOpD E call thaw dst op s h q=kOp E call thaw dst op s h fun a _=>q a h {}:=by
 obtain⟨hp,hc⟩:=hp.it;unfold kOpD kOp kvs;rw[hp,hc]
 cases bO s (opds op)with
 |none=>rfl
 |some vs=>grind
def memD(E:Env)(call:aU)(thaw:List Nat)(dst:Option Tmp)(op:Op)(h:H)(vs:List A):Option (A×H×Foot):=match box (aD aG h (idsL vs) [])with
 |.no=>none
 |.mk ord=>match box (evOp E call thaw (pack h ord) (dN dst op) (aE (aI ord) vs))with
  |.mk (some (a,h1))=>if ord.length<=h1.length/\closed h ord (idsL vs)=true then
    (if(i7 E op vs&&h1.length-ord.length==0)=true then some (mapA (back ord h.length h1.length) a,h,{ ids:=ord,ro:=true})
    else some (mapA (back ord h.length h1.length) a,bF (back ord h.length h1.length) h ord h1,{ ids:=ord++List.range' h.length (h1.length-ord.length),ro:=false,wr:=wrOf E op vs ord++List.range' h.length (h1.length-ord.length)}))
   else none
  |_=>none
theorem jM{op:Op}{q:A->H->Foot->Option R}(hp:Now (oL op=false/\oW op=false)):kOpD E call thaw dst op s h q=match box (opds op)with|.no=>none|.mk xs=>kvs s xs fun vs=>match box (memD E call thaw dst op h vs)with
  |.mk (some (a,h',c))=>q a h' c
  |_=>none:=by
 simp only[box];unfold kOpD kvs;rw[hp.it.1,hp.it.2]
 cases bO s (opds op)with
 |none=>rfl
 |some vs=>
  simp only[Ak,if_false,iF,memD,box]
  cases evOp E call thaw (pack h (aD aG h (idsL vs) [])) (dN dst op) (aE (aI (aD aG h (idsL vs) [])) vs)with
  |none=>rfl
  |some r=>grind
theorem SN{op:Op}{q:A->H->Foot->Option R}(hp:Now (oL op=false/\oW op=true/\tV op=false)):kOpD E call thaw dst op s h q=kvs s (opds op) fun vs=>kOp E call thaw dst op s h fun a _=>q a h { ids:=ids0 vs,ro:=true}:=by
 unfold kOpD kOp kvs;rw[hp.it.1,hp.it.2.1,hp.it.2.2]
 cases bO s (opds op)with
 |none=>rfl
 |some vs=>grind
theorem YY{x:Operand}{xs:List Operand}{op:Op}{q:A->H->Foot->Option R}(hx:opds op=x::xs):(kvs s (opds op) fun vs=>kOp E call thaw dst op s h fun a _=>q a h { ids:=ids0 vs,ro:=true})=kv s x fun b=>kOp E call thaw dst op s h fun a _=>q a h { ids:=idsA b,ro:=true}:=by
 unfold kOp kv;rw[hx];unfold kvs;simp only[bO]
 cases cE s x with
 |none=>rfl
 |some b=>
  cases bO s xs with
  |none=>rfl
  |some bs=>rfl
theorem aDt{t:TypeId}{x:Operand}{q:A->H->Foot->Option R}:kOpD E call thaw dst (.load t x) s h q=kv s x fun b=>kOp E call thaw dst (.load t x) s h fun a _=>q a h { ids:=idsA b,ro:=true}:=(SN ⟨rfl,rfl,rfl⟩).trans (YY rfl)
theorem aCh{t:TypeId}{x y:Operand}{q:A->H->Foot->Option R}:type_of% (jM (E:=E) (call:=call) (thaw:=thaw) (dst:=dst) (s:=s) (h:=h) (op:=.store t x y) (q:=q) ⟨rfl,rfl⟩):=jM ⟨rfl,rfl⟩
theorem YB{x:Operand}{q:A->H->Foot->Option R}:type_of% (jM (E:=E) (call:=call) (thaw:=thaw) (dst:=dst) (s:=s) (h:=h) (op:=.assign x) (q:=q) ⟨rfl,rfl⟩):=jM ⟨rfl,rfl⟩
theorem aBA{t:TypeId}{q:A->H->Foot->Option R}:type_of% (jM (E:=E) (call:=call) (thaw:=thaw) (dst:=dst) (s:=s) (h:=h) (op:=.alloc t) (q:=q) ⟨rfl,rfl⟩):=jM ⟨rfl,rfl⟩
theorem IV{t:TypeId}{n:Nat}{ps:List (Nat×Operand)}{q:A->H->Foot->Option R}:type_of% (jM (E:=E) (call:=call) (thaw:=thaw) (dst:=dst) (s:=s) (h:=h) (op:=.buildSlice t n ps.toArray) (q:=q) ⟨rfl,rfl⟩):=jM ⟨rfl,rfl⟩
theorem aDR{t u:TypeId}{x:Operand}{q:A->H->Foot->Option R}:type_of% (jM (E:=E) (call:=call) (thaw:=thaw) (dst:=dst) (s:=s) (h:=h) (op:=.convert t u x) (q:=q) ⟨rfl,rfl⟩):=jM ⟨rfl,rfl⟩
theorem MW{t:TypeId}{x y:Operand}{q:A->H->Foot->Option R}:kOpD E call thaw dst (.indexAddr t x y) s h q=kv s x fun b=>kOp E call thaw dst (.indexAddr t x y) s h fun a _=>q a h { ids:=idsA b,ro:=true}:=(SN ⟨rfl,rfl,rfl⟩).trans (YY rfl)
theorem WT{args tys:Array _}{q:A->H->Foot->Option R}:type_of% (jM (E:=E) (call:=call) (thaw:=thaw) (dst:=dst) (s:=s) (h:=h) (op:=.call ⟨.builtin .append,args,tys⟩) (q:=q) ⟨rfl,rfl⟩):=jM ⟨rfl,rfl⟩
theorem aGG{x:Operand}{xs:List Operand}{tys:Array _}{q:A->H->Foot->Option R}:kOpD E call thaw dst (.call ⟨.builtin .len,(x::xs).toArray,tys⟩) s h q=kv s x fun b=>kOp E call thaw dst (.call ⟨.builtin .len,(x::xs).toArray,tys⟩) s h fun a _=>q a h { ids:=idsA b,ro:=true}:=(SN ⟨rfl,rfl,rfl⟩).trans (YY rfl)
theorem aDS{x:Operand}{q:A->H->Foot->Option R}:type_of% (dH (E:=E) (call:=call) (thaw:=thaw) (dst:=dst) (s:=s) (h:=h) (op:=.move x) (q:=q) ⟨rfl,rfl⟩):=dH ⟨rfl,rfl⟩
theorem aEI{c x y:Operand}{q:A->H->Foot->Option R}:type_of% (dH (E:=E) (call:=call) (thaw:=thaw) (dst:=dst) (s:=s) (h:=h) (op:=.pick c x y) (q:=q) ⟨rfl,rfl⟩):=dH ⟨rfl,rfl⟩
theorem PY{x:Operand}{q:A->H->Foot->Option R}:type_of% (dH (E:=E) (call:=call) (thaw:=thaw) (dst:=dst) (s:=s) (h:=h) (op:=.nilCheck x) (q:=q) ⟨rfl,rfl⟩):=dH ⟨rfl,rfl⟩
theorem aGD{op:BinOp}{t:TypeId}{x y:Operand}{t2:TypeId}{q:A->H->Foot->Option R}:type_of% (dH (E:=E) (call:=call) (thaw:=thaw) (dst:=dst) (s:=s) (h:=h) (op:=.binOp op t x y t2) (q:=q) ⟨rfl,rfl⟩):=dH ⟨rfl,rfl⟩
theorem aJl{op:UnOp}{t:TypeId}{x:Operand}{q:A->H->Foot->Option R}:type_of% (dH (E:=E) (call:=call) (thaw:=thaw) (dst:=dst) (s:=s) (h:=h) (op:=.unOp op t x) (q:=q) ⟨rfl,rfl⟩):=dH ⟨rfl,rfl⟩
theorem PU{fn:Fn}{first cap:Array Operand}{q:A->H->Foot->Option R}:type_of% (dH (E:=E) (call:=call) (thaw:=thaw) (dst:=dst) (s:=s) (h:=h) (op:=.makeFunc fn first cap) (q:=q) ⟨rfl,rfl⟩):=dH ⟨rfl,rfl⟩
theorem L5{t:TypeId}{x:Operand}{f:Nat}{q:A->H->Foot->Option R}:type_of% (dH (E:=E) (call:=call) (thaw:=thaw) (dst:=dst) (s:=s) (h:=h) (op:=.fieldAddr t x f) (q:=q) ⟨rfl,rfl⟩):=dH ⟨rfl,rfl⟩
theorem TU{x:Operand}{i:Nat}{q:A->H->Foot->Option R}:type_of% (dH (E:=E) (call:=call) (thaw:=thaw) (dst:=dst) (s:=s) (h:=h) (op:=.extract x i) (q:=q) ⟨rfl,rfl⟩):=dH ⟨rfl,rfl⟩
theorem aBS{t:TypeId}{ps:Array (Nat×Operand)}{q:A->H->Foot->Option R}:type_of% (dH (E:=E) (call:=call) (thaw:=thaw) (dst:=dst) (s:=s) (h:=h) (op:=.build t ps) (q:=q) ⟨rfl,rfl⟩):=dH ⟨rfl,rfl⟩
def aGn(a b:Foot):Bool:=(!a.ro&&(!b.ids.isEmpty&&a.wr.any b.ids.contains))||(!b.ro&&(!a.ids.isEmpty&&b.wr.any a.ids.contains))
theorem aOb{l:List Nat}:l.any (([]:List Nat)).contains=false:=by grind
theorem aDX(a b:Foot):aGn a b=jY a b:=by
 obtain⟨ia,ra,wa⟩:=a;obtain⟨ib,rb,wb⟩:=b;unfold aGn jY
 cases ia<;>cases ib<;>simp
def d5(ops:List Oper)(cs:List Foot):Bool:=
 let b:=JT ops []
 (List.range cs.length).all fun j=>(List.range j).all fun i=>(b.getD j 0).testBit i|| !aGn (cs.getD i {}) (cs.getD j {})
theorem aLb{src:List Oper}{cs:List Foot}(h:nD src cs=true):d5 src cs=true:=by
 unfold d5;simp only[aDX];exact h
theorem aAl{src:List Oper}{cs:List Foot}{x:Option R}(hc:Shut (d5 src cs=true)):(if nD src cs=true then x else none)=x:=if_pos (by
 have:=hc.it;unfold d5 at this;simp only[aDX]at this;exact this)
theorem aF8{q:List A->H->Option R}:kOps E call thaw [] s h q=q s h:=rfl
theorem aEw{op:Op}{g:Option (Option Tmp×Bool)}{os:List SO}{q:List A->H->Option R}:kOps E call thaw (⟨dst,op,g⟩::os) s h q=tG g s
  (fun s=>kOp E call thaw dst op s h fun a h'=>match box (aPut s dst a)with|.no=>none|.mk s'=>kOps E call thaw os s' h' q)
  (fun s=>match box (aPut s dst (.d .undef))with|.no=>none|.mk s'=>kOps E call thaw os s' h q):=rfl
theorem aE1{cs:List Foot}{q:List A->H->List Foot->Option R}:uG E call thaw [] s h cs q=q s h cs:=rfl
theorem aAL{op:Op}{g:Option (Option Tmp×Bool)}{os:List SO}{cs:List Foot}{q:List A->H->List Foot->Option R}:uG E call thaw (⟨dst,op,g⟩::os) s h cs q=tG g s
  (fun s=>kOpD E call thaw dst op s h fun a h' c=>match box (aPut s dst a)with|.no=>none|.mk s'=>uG E call thaw os s' h' (cs++[c]) q)
  (fun s=>match box (aPut s dst (.d .undef))with|.no=>none|.mk s'=>uG E call thaw os s' h (cs++[{}]) q):=rfl
section
variable{L nf:Nat}{live:List Bool}{lp:Nat->Code}{q:Exit->List A->H->Option R}
theorem aB1:cO E call L nf thaw live lp .skip s h q=q .normal s h:=rfl
theorem aDw{l:List SO}:cO E call L nf thaw live lp (.ops l) s h q=kOps E call thaw l s h fun s h=>q .normal s h:=rfl
theorem XH{l:List SO}{src:Array Oper}:cO E call L nf thaw live lp (.drawn l src) s h q=uG E call thaw l s h [] fun s h cs=>if nD src.toList cs=true then q .normal s h else none:=rfl
theorem aDC{a b:SC}:cO E call L nf thaw live lp (.seq a b) s h q=cO E call L nf thaw live lp a s h fun e s h=>match e with
  |.normal=>cO E call L nf thaw live lp b s h q
  |e=>q e s h:=rfl
theorem aBK{c:Operand}{x y:SC}:cO E call L nf thaw live lp (.cond c x y) s h q=kv s c fun a=>match a with
  |.d (.bool b)=>if b=true then cO E call L nf thaw live lp x s h q else cO E call L nf thaw live lp y s h q
  |_=>none:=rfl
theorem WJ{id:Nat}{c:SC}:cO E call L nf thaw live lp (.block id c) s h q=cO E call L nf thaw live lp c s h fun e s h=>match e with
  |.exit i=>if i=id then q .normal s h else q (.exit i) s h
  |e=>q e s h:=rfl
theorem aBe{i:Nat}:cO E call L nf thaw live lp (.loop i) s h q=match box (qB live s)with
  |.no=>none
  |.mk m=>match box (gc nf m s h)with
   |.mk (s',h')=>aS E call L nf thaw live (lp i) m L s' h' q
   |.no=>none:=rfl
theorem aCk{id:Nat}:cO E call L nf thaw live lp (.exit id) s h q=q (.exit id) s h:=rfl
theorem aD3:cO E call L nf thaw live lp .ret s h q=q .ret s h:=rfl
theorem UD{c:Code}{m:List Bool}{n:Nat}:U6 E call L nf thaw live c m n q .normal s h=match box (gc nf m s h)with
  |.mk (s',h')=>aS E call L nf thaw live c m n s' h' q
  |.no=>none:=rfl
theorem aAY{c:Code}{m:List Bool}{n i:Nat}:U6 E call L nf thaw live c m n q (.exit i) s h=match box (gc nf m s h)with
  |.mk (s',h')=>q (.exit i) s' h'
  |.no=>none:=rfl
theorem aDx{c:Code}{m:List Bool}{n:Nat}:U6 E call L nf thaw live c m n q .ret s h=match box (gc nf m s h)with
  |.mk (s',h')=>q .ret s' h'
  |.no=>none:=rfl
end
def aW(E:Env)(call:aU)(h:H)(f:FuncId)(args:List A)(k:A->H->Option R):Option R:=
 match bS call E.hint (pack h (aD aG h (idsL args) [])) f (aE (aI (aD aG h (idsL args) [])) args)with
 |some (a,h1)=>
  if(aD aG h (idsL args) []).length<=h1.length/\closed h (aD aG h (idsL args) []) (idsL args)=true then
   k (mapA (back (aD aG h (idsL args) []) h.length h1.length) a) (bF (back (aD aG h (idsL args) []) h.length h1.length) h (aD aG h (idsL args) []) h1)
  else none
 |none=>none
theorem aNd{f:FuncId}{args:List Operand}{tys:Array TypeId}:kOp E call thaw dst (.call ⟨.value (.func f),args.toArray,tys⟩) s h k=kvs s args fun vs=>aW E call h f vs k:=by
 unfold kOp kvs aW;simp only[opds,bO,cE]
 cases bO s args with
 |none=>rfl
 |some vs=>
  simp only[tV,if_true,iF,idsL,idsA,Ao,aE,mapA,evOp,eG,eH,dN,Ai]
  cases bS call E.hint (pack h (aD aG h (idsL vs) [])) f (aE (aI (aD aG h (idsL vs) [])) vs)with
  |none=>rfl
  |some r=>grind
theorem aDM{f:FuncId}{args:List Operand}{tys:Array TypeId}:kOp E call thaw dst (.call ⟨.value (.func f),args.toArray,tys⟩) s h k=kvs s args fun vs=>aW E call h f vs fun a h'=>match box h' with|.no=>none|.mk h''=>k a h'':=by
 rw[aNd];rfl
def FE(E:Env)(call:aU)(h:H)(f:FuncId)(caps args:List A)(k:A->H->Option R):Option R:=
 match bS call E.hint (pack h (aD aG h (idsL caps++idsL args) [])) f (aE (aI (aD aG h (idsL caps++idsL args) [])) args++aE (aI (aD aG h (idsL caps++idsL args) [])) caps)with
 |some (a,h1)=>
  if(aD aG h (idsL caps++idsL args) []).length<=h1.length/\closed h (aD aG h (idsL caps++idsL args) []) (idsL caps++idsL args)=true then
   k (mapA (back (aD aG h (idsL caps++idsL args) []) h.length h1.length) a) (bF (back (aD aG h (idsL caps++idsL args) []) h.length h1.length) h (aD aG h (idsL caps++idsL args) []) h1)
  else none
 |none=>none
def m8(E:Env)(call:aU)(h:H)(g:A)(args:List A)(k:A->H->Option R):Option R:=
 match g with
 |.d (.fn f caps)=>aW E call h f (args++caps.map .d) k
 |.clo f caps=>FE E call h f caps args k
 |_=>none
theorem bH:∀(asx bs:List A),idsL (asx++bs)=idsL asx++idsL bs
 | [],bs=>by simp[idsL]
 |a::asx,bs=>by simp[idsL,bH asx bs]
theorem aHX:∀(ds:List D),idsL (ds.map .d)=[]
 | []=>by simp[idsL]
 |d::ds=>by simp[idsL,idsA,aHX ds]
theorem cM{f:Nat->Option Nat}:∀(asx bs:List A),aE f (asx++bs)=aE f asx++aE f bs
 | [],bs=>by simp[aE]
 |a::asx,bs=>by simp[aE,cM asx bs]
theorem aCL{f:Nat->Option Nat}:∀(ds:List D),aE f (ds.map .d)=ds.map .d
 | []=>by simp[aE]
 |d::ds=>by simp[aE,mapA,aCL ds]
theorem aL7{g:A}{vs:List A}{tys:Array TypeId}{x:Operand}{args:Array Operand}:(match iF E call thaw h (dN dst (.call ⟨.value x,args,tys⟩)) (g::vs)with
   |some (a,h',_)=>k a h'
   |none=>none)=m8 E call h g vs k:=by
 unfold iF;simp only[evOp,eG,dN,aE]
 cases g with
 |d y=>
  cases y with
  |fn f caps=>
   simp only[m8,aW,mapA,eH,idsL,idsA,Ao,bH,aHX,Ai,cM,aCL]
   cases bS call E.hint (pack h (aD aG h (idsL vs) [])) f (aE (aI (aD aG h (idsL vs) [])) vs++caps.map .d)with
   |none=>rfl
   |some r=>grind
  |_=>simp only[m8,mapA,eH]
 |clo f caps=>
  simp only[m8,FE,mapA,eH,idsL,idsA]
  cases bS call E.hint (pack h (aD aG h (idsL caps++idsL vs) [])) f (aE (aI (aD aG h (idsL caps++idsL vs) [])) vs++aE (aI (aD aG h (idsL caps++idsL vs) [])) caps)with
  |none=>rfl
  |some r=>grind
 |sl id gen off len=>
  simp only[m8,mapA]
  cases aI (aD aG h (idsL (A.sl id gen off len::vs)) []) id<;>rfl
 |ptr id gen off=>
  simp only[m8,mapA]
  cases aI (aD aG h (idsL (A.ptr id gen off::vs)) []) id<;>rfl
 |mp id=>
  simp only[m8,mapA]
  cases aI (aD aG h (idsL (A.mp id::vs)) []) id<;>rfl
 |agg cs=>simp only[m8,mapA,eH]
 |tup cs=>simp only[m8,mapA,eH]
 |junk=>simp only[m8,mapA,eH]
theorem aDT{t:Nat}{args:List Operand}{tys:Array TypeId}:kOp E call thaw dst (.call ⟨.value (.tmp t),args.toArray,tys⟩) s h k=match box (s.getD t (.d .undef))with
  |.no=>none
  |.mk g=>kvs s args fun vs=>m8 E call h g vs k:=by
 unfold kOp kvs;simp only[opds,bO,cE,box]
 cases bO s args with
 |none=>rfl
 |some vs=>simp only[tV,if_true];exact aL7
theorem aD8{f:FuncId}{caps:List D}{vs:List A}:m8 E call h (.d (.fn f caps)) vs k=match box (vs++caps.map .d)with|.no=>none|.mk as'=>aW E call h f as' k:=rfl
theorem aBq{f:FuncId}{caps vs:List A}:m8 E call h (.clo f caps) vs k=FE E call h f caps vs k:=rfl
theorem YF{h:H}{ids:List Nat}{h1:H}{ord:List Nat}:∀(ord:List Nat) (h h1:H) (f:Nat->Option Nat),ord.length<=h1.length->(bF f h ord h1).length=h.length+(h1.length-ord.length)
 | [],h,h1,f,_=>by simp[bF]
 |i::ord,h,[],f,hl=>by simp at hl
 |i::ord,h,o::h1,f,hl=>by
  simp only[bF,YF (h:=h) (ids:=ids) (h1:=h1) (ord:=ord) ord _ h1 f (by simpa using hl),Bl,Ad];omega
def wrC(E:Env)(f:FuncId)(ord:List Nat):List Nat:=if(E.hint f).mode==3 then []else ord
def ID(E:Env)(f:FuncId)(h h':H)(ord:List Nat):Option (H×Foot):=if((E.hint f).mode==1&&h'.length-h.length==0)=true then some (h,{ ids:=ord,ro:=true})else some (h',{ ids:=ord++List.range' h.length (h'.length-h.length),ro:=false,wr:=wrC E f ord++List.range' h.length (h'.length-h.length)})
theorem aJZ{f:FuncId}{args:List Operand}{tys:Array TypeId}{q:A->H->Foot->Option R}:kOpD E call thaw dst (.call ⟨.value (.func f),args.toArray,tys⟩) s h q=kvs s args fun vs=>match box (aD aG h (idsL vs) [])with
  |.no=>none
  |.mk ord=>aW E call h f vs fun a h'=>if((E.hint f).mode==1&&h'.length-h.length==0)=true then q a h { ids:=ord,ro:=true}else q a h' { ids:=ord++List.range' h.length (h'.length-h.length),ro:=false,wr:=wrC E f ord++List.range' h.length (h'.length-h.length)}:=by
 unfold kOpD kvs aW;simp only[opds,bO,cE,box]
 cases bO s args with
 |none=>rfl
 |some vs=>
  simp only[oL,oW,Ak,if_false,iF,idsL,idsA,Ao,aE,mapA,evOp,eG,eH,dN,Ai,i7]
  cases bS call E.hint (pack h (aD aG h (idsL vs) [])) f (aE (aI (aD aG h (idsL vs) [])) vs)with
  |none=>rfl
  |some r=>
   obtain⟨a,h1⟩:=r
   by_cases c1:(aD aG h (idsL vs) []).length<=h1.length
   ·by_cases c2:closed h (aD aG h (idsL vs) []) (idsL vs)=true
    ·have e:=YF (h:=h) (ids:=idsL vs) (h1:=h1) (ord:=[]) (aD aG h (idsL vs) []) h h1 (back (aD aG h (idsL vs) []) h.length h1.length) c1;have e2:(bF (back (aD aG h (idsL vs) []) h.length h1.length) h (aD aG h (idsL vs) []) h1).length-h.length=h1.length-(aD aG h (idsL vs) []).length:=om;simp only[c1,c2,and_self,if_true,e2]
     first|done|rfl|(by_cases c3:((E.hint f).mode==1&&h1.length-(aD aG h (idsL vs) []).length==0)=true<;>simp[c3])
    ·grind
   ·grind
theorem RM{f:FuncId}{args:List Operand}{tys:Array TypeId}{q:A->H->Foot->Option R}:kOpD E call thaw dst (.call ⟨.value (.func f),args.toArray,tys⟩) s h q=kvs s args fun vs=>match box (aD aG h (idsL vs) [])with
  |.no=>none
  |.mk ord=>aW E call h f vs fun a h'=>match box (ID E f h h' ord)with|.mk (some (h'',c))=>q a h'' c|_=>none:=by
 rw[aJZ]
 congr 1
 funext vs
 simp only[box]
 congr 1
 funext a h'
 unfold ID
 by_cases hc:((E.hint f).mode==1&&h'.length-h.length==0)=true
 ·grind
 ·grind
theorem aIY{t:Nat}{args:List Operand}{tys:Array TypeId}{q:A->H->Foot->Option R}{f:FuncId}{caps:List D}(hg:Now (s.getD t (.d .undef)=.d (.fn f caps))):kOpD E call thaw dst (.call ⟨.value (.tmp t),args.toArray,tys⟩) s h q=kvs s args fun vs=>match box (aD aG h (idsL vs) [])with
  |.no=>none
  |.mk ord=>aW E call h f (vs++caps.map .d) fun a h'=>if((E.hint f).mode==1&&h'.length-h.length==0)=true then q a h { ids:=ord,ro:=true}else q a h' { ids:=ord++List.range' h.length (h'.length-h.length),ro:=false,wr:=wrC E f ord++List.range' h.length (h'.length-h.length)}:=by
 have hg:=hg.it;unfold kOpD kvs aW;simp only[opds,bO,cE,box,hg]
 cases bO s args with
 |none=>rfl
 |some vs=>
  simp only[oL,oW,Ak,if_false,iF,idsL,idsA,Ao,aE,mapA,evOp,eG,eH,dN,Ai,i7,bH,aHX,cM,aCL]
  cases bS call E.hint (pack h (aD aG h (idsL vs) [])) f (aE (aI (aD aG h (idsL vs) [])) vs++caps.map .d)with
  |none=>rfl
  |some r=>
   obtain⟨a,h1⟩:=r
   by_cases c1:(aD aG h (idsL vs) []).length<=h1.length
   ·by_cases c2:closed h (aD aG h (idsL vs) []) (idsL vs)=true
    ·have e:=YF (h:=h) (ids:=idsL vs) (h1:=h1) (ord:=[]) (aD aG h (idsL vs) []) h h1 (back (aD aG h (idsL vs) []) h.length h1.length) c1;have e2:(bF (back (aD aG h (idsL vs) []) h.length h1.length) h (aD aG h (idsL vs) []) h1).length-h.length=h1.length-(aD aG h (idsL vs) []).length:=om;simp only[c1,c2,and_self,if_true,e2]
     first|done|rfl|(by_cases c3:((E.hint f).mode==1&&h1.length-(aD aG h (idsL vs) []).length==0)=true<;>simp[c3])
    ·grind
   ·grind
def aP9(E:Env)(call:aU)(thaw:List Nat)(dst:Option Tmp)(op:Op)(s:List A)(h:H)(q:A->H->Foot->Option R):Option R:=kOpD E call thaw dst op s h q
theorem aBW{t:Nat}{args:List Operand}{tys:Array TypeId}{q:A->H->Foot->Option R}:kOpD E call thaw dst (.call ⟨.value (.tmp t),args.toArray,tys⟩) s h q=match box (s.getD t (.d .undef))with
  |.mk (.d (.fn f caps))=>kvs s args fun vs=>match box (aD aG h (idsL vs) [])with
   |.no=>none
   |.mk ord=>match box (vs++caps.map .d)with|.no=>none|.mk as'=>aW E call h f as' fun a h'=>match box (ID E f h h' ord)with|.mk (some (h'',c))=>q a h'' c|_=>none
  |.mk (.clo f [])=>kvs s args fun vs=>match box (aD aG h (idsL vs) [])with
   |.no=>none
   |.mk ord=>aW E call h f vs fun a h'=>match box (ID E f h h' ord)with|.mk (some (h'',c))=>q a h'' c|_=>none
  |_=>aP9 E call thaw dst (.call ⟨.value (.tmp t),args.toArray,tys⟩) s h q:=by
 have key:=fun(f:FuncId) (caps:List D) hg=>aIY (E:=E) (call:=call) (thaw:=thaw) (dst:=dst) (s:=s) (h:=h) (t:=t) (args:=args) (tys:=tys) (q:=q) (f:=f) (caps:=caps) hg
 have k2:∀f,s.getD t (.d .undef)=.clo f []->kOpD E call thaw dst (.call ⟨.value (.tmp t),args.toArray,tys⟩) s h q=kOpD E call thaw dst (.call ⟨.value (.func f),args.toArray,tys⟩) s h q:=by
  intro f hg;unfold kOpD kvs;simp only[opds,bO,cE,hg]
  cases bO s args<;>rfl
 have fold:∀(f:FuncId) (h h':H) (ord:List Nat) (a:A),(if((E.hint f).mode==1&&h'.length-h.length==0)=true then q a h { ids:=ord,ro:=true}else q a h' { ids:=ord++List.range' h.length (h'.length-h.length),ro:=false,wr:=wrC E f ord++List.range' h.length (h'.length-h.length)})=match box (ID E f h h' ord)with|.mk (some (h'',c))=>q a h'' c|_=>none:=by
  intro f h h' ord a;unfold ID
  by_cases hc:((E.hint f).mode==1&&h'.length-h.length==0)=true
  ·simp only[if_pos hc,box]
  ·simp only[if_neg hc,box]
 generalize hs:s.getD t (.d .undef)=a
 cases a with
 |d x=>
  cases x with
  |fn f caps=>
   rw[key f caps ⟨hs⟩];simp only[fold]<;>rfl
  |_=>rfl
 |clo f caps=>
  cases caps with
  |nil=>rw[k2 f hs];exact RM
  |cons c caps=>rfl
 |_=>rfl
theorem EA(n:Nat)(h:H):aD n h [] []=[]:=by cases n<;>rfl
mutual
theorem qH{f:Nat->Option Nat}:∀a:A,idsA a=[]->mapA f a=a
 |.d x,_=>by simp only[mapA]
 |.sl id gen off len,h=>by simp[idsA]at h
 |.ptr id gen off,h=>by simp[idsA]at h
 |.mp id,h=>by simp[idsA]at h
 |.clo g caps,h=>by simp only[idsA]at h;simp only[mapA];rw[gN caps h]
 |.agg cs,h=>by simp only[idsA]at h;simp only[mapA];rw[gN cs h]
 |.tup cs,h=>by simp only[idsA]at h;simp only[mapA];rw[gN cs h]
 |.junk,_=>by simp only[mapA]
theorem gN{f:Nat->Option Nat}:∀asx:List A,idsL asx=[]->aE f asx=asx
 | [],_=>by simp only[aE]
 |a::asx,h=>by
  simp only[idsL,List.append_eq_nil_iff]at h;simp only[aE];rw[qH a h.1,gN asx h.2]
end
theorem aLk{a:A}(h:p8 a=true):idsA a=[]:=by
 cases a with
 |d x=>rfl
 |agg cs=>
  simp only[p8]at h;simp only[idsA]
  induction cs with
  |nil=>rfl
  |cons c cs ih=>
   simp only[Br,Ar]at h;simp only[idsL,ih h.2,Ai]
   cases c<;>first|rfl|simp[isD]at h
 |_=>simp[p8]at h
theorem x6:∀ {asx:List A},asx.all p8=true->idsL asx=[]
 | [],_=>rfl
 |a::asx,h=>by
  simp only[Br,Ar]at h;simp only[idsL,aLk h.1,x6 h.2,Ai]
theorem aBP{h:H}:∀ {cs:List A},cs.all isD=true->∃ds,frzL h cs=some (ds,h)/\ds.map .d=cs
 | [],_=>⟨[],rfl,rfl⟩
 |c::cs,hs=>by
  simp only[Br,Ar]at hs;obtain⟨ds,h1,h2⟩:=aBP (h:=h) hs.2
  cases c with
  |d x=>
   refine⟨x::ds,?_,by simp[h2]⟩;unfold frzL at h1|-;simp only[eS];have:frz deep h (.d x)=some (x,h):=rfl;rw[this];simp only[h1]
  |_=>simp[isD]at hs
theorem tF{h:H}:∀ {asx:List A},asx.all p8=true->eA h asx=some (asx,h)
 | [],_=>rfl
 |a::asx,hs=>by
  simp only[Br,Ar]at hs
  have ha:frzA h a=some (a,h):=by
   cases a with
   |d x=>rfl
   |agg cs=>
    obtain⟨ds,h1,h2⟩:=aBP (h:=h) (cs:=cs) (by simpa only[p8]using hs.1);simp only[frzA,h1,h2]
   |_=>simp[p8]at hs
  simp only[eA,ha,tF hs.2]
theorem aIN{r:A}(h:gJ r=true):kL r=true/\mapA (fun k=>back [] 0 0 k) r=r:=by
 cases r with
 |d x=>cases x<;>first|exact⟨rfl,rfl⟩|simp[gJ]at h
 |tup vs=>
  simp only[gJ]at h
  have key:jK vs=true/\aE (fun k=>back [] 0 0 k) vs=vs:=by
   induction vs with
   |nil=>exact⟨rfl,by simp only[aE]⟩
   |cons v vs ih=>
    simp only[Br,Ar]at h;obtain⟨i1,i2⟩:=ih h.2
    cases v with
    |d x=>cases x<;>first|(exfalso;simp at h;done)|(refine⟨by simp only[jK,kL,tS,i1,Bu],by simp only[aE,mapA,i2]⟩)
    |_=>grind
  exact⟨by simp only[kL];exact key.1,by simp only[mapA,key.2]⟩
 |_=>simp[gJ]at h
theorem aIK{f:FuncId}{args:List A}{r:A}(hs:args.all p8=true)(hc:call f args []=some (r,[]))(hp:gJ r=true\/((E.hint f).mode==1||(E.hint f).mode==3)=false):bS call E.hint [] f args=some (r,[]):=by
 unfold bS
 split
 ·exact hc
 ·rename_i hm
  rw[tF hs];simp only[hc]
  rcases hp with hp|hp
  ·rw[hp];rfl
  ·grind
 ·rename_i hm
  rw[tF hs];simp only[hc]
  rcases hp with hp|hp
  ·obtain⟨h1,h2⟩:=aIN hp;rw[h1];exact congrArg (fun x=>some (x,([]:H))) h2
  ·grind
 ·rw[tF hs];simp only[hc]
theorem cK{f:FuncId}{args:List A}{r:A}(hs:args.all p8=true)(hc:call f args []=some (r,[]))(hr:idsA r=[])(hp:gJ r=true\/((E.hint f).mode==1||(E.hint f).mode==3)=false):aW E call h f args k=k r h:=by
 unfold aW;rw[x6 hs,EA,gN _ (x6 hs)];have:pack h []=[]:=rfl;rw[this,aIK hs hc hp];simp only[Ac,Ab,true_and,closed,Ca,Bu,if_true,qH r hr,bF,Ap,Ai]
def pJ(call:aU)(f:FuncId)(args:List A)(k:A->Option R):Option R:=
 match call f args []with
 |some (r,[])=>if gJ r=true then k r else none
 |_=>none
theorem kQ{f:FuncId}{args:List A}{r:A}{k:A->Option R}(hc:call f args []=some (r,[]))(hp:gJ r=true):pJ call f args k=k r:=by
 unfold pJ;rw[hc];simp only[hp,if_true]
theorem aM4{r:A}(h:gJ r=true):idsA r=[]:=by
 cases r with
 |d x=>rfl
 |tup vs=>
  simp only[gJ]at h;simp only[idsA]
  induction vs with
  |nil=>rfl
  |cons v vs ih=>
   simp only[Br,Ar]at h;simp only[idsL,ih h.2,Ai]
   cases v with
   |d x=>rfl
   |_=>grind
 |_=>simp[gJ]at h
theorem aEu(ord:List Nat)(n:Nat):back ord n ord.length=fun k=>ord[k]?:=by
 funext k
 unfold back
 split
 ·rfl
 ·grind
theorem aF0{h:H}{ord ids:List Nat}(hc:closed h ord ids=true)(hn:ord.Nodup)(hl:∀i∈ord,i<h.length):bF (fun(k:Nat)=>ord[k]?) h ord (pack h ord)=h:=by
 apply Cl;intro id;rw[AN _ ord h _ id hn hl (by simp[pack])]
 cases hp:aI ord id with
 |none=>
  simp only[]
  split
  ·rfl
  ·rename_i hge
   rw[Cj (by simp[pack]),Cj om];rfl
 |some k=>
  simp only[];have hm:=IF hp;obtain⟨o,ho⟩:∃o,h[id]? =some o:=⟨h[id]'(hl id hm),Ae _⟩
  rw[gU (bA hp) ho,ho,Ax,SW hc hm ho]
theorem aIy{f:FuncId}{args:List A}(hm:(E.hint f).mode=1):aW E call h f args k=match box (aD aG h (idsL args) [])with
  |.no=>none
  |.mk ord=>match box (eA (pack h ord) (aE (aI ord) args))with
   |.mk (some (fs,_))=>if closed h ord (idsL args)=true then pJ call f fs fun r=>k r h else none
   |_=>none:=by
 unfold aW bS;rw[hm];simp only[box]
 cases hf:eA (pack h (aD aG h (idsL args) [])) (aE (aI (aD aG h (idsL args) [])) args)with
 |none=>rfl
 |some r=>
  obtain⟨fs,h1⟩:=r;simp only[pJ]
  cases hc:call f fs []with
  |none=>simp
  |some r=>
   obtain⟨a,h2⟩:=r
   cases h2 with
   |cons o h2=>simp
   |nil=>
    by_cases hp:gJ a=true
    ·simp only[hp,if_true];have hlen:(pack h (aD aG h (idsL args) [])).length=(aD aG h (idsL args) []).length:=by simp[pack]
     simp only[hlen,Ab,true_and]
     by_cases hcl:closed h (aD aG h (idsL args) []) (idsL args)=true
     ·simp only[hcl,if_true,aEu,qH a (aM4 hp)];rw[aF0 hcl (bP aG h (idsL args) [] sm) (jQ aG h (idsL args) [] sm)]
     ·grind
    ·grind
def VK(h:H)(args:List A):Option (List A):=match box (aD aG h (idsL args) [])with
 |.no=>none
 |.mk ord=>match box (eA (pack h ord) (aE (aI ord) args))with
  |.mk (some (fs,_))=>if closed h ord (idsL args)=true then some fs else none
  |_=>none
theorem dA{f:FuncId}{args:List A}(hm:(E.hint f).mode=1):aW E call h f args k=match box (VK h args)with
  |.mk (some fs)=>pJ call f fs fun r=>k r h
  |_=>none:=by
 rw[aIy hm];unfold VK;simp only[box]
 cases eA (pack h (aD aG h (idsL args) [])) (aE (aI (aD aG h (idsL args) [])) args)with
 |none=>rfl
 |some r=>grind
theorem aJO{nf:Nat}{h:H}{ord:List Nat}{s:List A}:trim nf h ord s=match box (pack h ord)with
  |.mk p=>(aR nf p (aE (aI ord) s),cC nf p)
  |.no=>([],[]):=rfl
theorem aOx{nf:Nat}{m:List Bool}{s:List A}{h:H}:gc nf m s h=match box (tidy m s)with
  |.mk s1=>match box (c7 nf h (idsL s1))with
   |.mk ord=>trim nf h ord s1
   |.no=>([],[])
  |.no=>([],[]):=rfl
theorem aJa{P:Program}{nf:Nat}{exp:Bool}{rs:List ResultVar}{e:Exit}{s:List A}{h:H}:kFin P nf exp rs e s h=
  if lC e then(match kN P s h rs with
   |some rs=>match nM nf exp h rs with
    |some (xs,h2)=>match box (c7 nf h2 (idsL xs))with
     |.mk ord=>match box (trim nf h2 ord xs)with
      |.mk r=>some (tupA r.1,r.2)
      |.no=>none
     |.no=>none
    |none=>none
   |none=>none)else none:=rfl
theorem rO(nf:Nat)(h:H)(ids:List Nat):c7 nf h ids=aD 1099511627776 h (eE (h.take nf)++ids) (List.range nf):=rfl
theorem rng0:List.range 0=[]:=rfl
theorem rng1:List.range 1=[0]:=rfl
theorem rng2:List.range 2=[0,1]:=rfl
theorem SG(h:H)(ids:List Nat):c7 0 h ids=aD 1099511627776 h ids []:=by
 unfold c7;rfl
theorem vQ(n:Nat)(h:H)(acc:List Nat):aD n h [] acc=acc:=by cases n<;>rfl
theorem nH(n:Nat)(h:H)(i:Nat)(todo acc:List Nat):aD (n+1) h (i::todo) acc=if acc.contains i=true then aD n h todo acc
  else match h.getD i .void with
   |.box cs=>aD n h (todo++idsL cs) (acc++[i])
   |.vec cs _ _=>aD n h (todo++idsL cs) (acc++[i])
   |.void=>aD n h todo acc
   |_=>aD n h todo (acc++[i]):=by
 simp only[aD,Aa]
 split
 ·rfl
 ·grind
theorem aGe{α:Type}{c:Prop}[Decidable c]{a:α}(hc:c):(if c then some a else none)=some a:=if_pos hc
def iAnd(k:IntKind)(a b:Int):Int:=k.wrap (BitVec.ofInt k.bits a&&&BitVec.ofInt k.bits b).toNat
def iXor(k:IntKind)(a b:Int):Int:=k.wrap (BitVec.ofInt k.bits a^^^BitVec.ofInt k.bits b).toNat
section
variable{t:TypeId}{K:IntKind}{a b:Int}
theorem aDs:bY E .add t h (.d (.int K a)) (.d (.int K b))=some (.d (.int K (K.wrap (a+b))),h):=by simp[bY,aBin];rfl
theorem aDy:bY E .sub t h (.d (.int K a)) (.d (.int K b))=some (.d (.int K (K.wrap (a-b))),h):=by simp[bY,aBin];rfl
theorem aDF:bY E .mul t h (.d (.int K a)) (.d (.int K b))=some (.d (.int K (K.wrap (a*b))),h):=by simp[bY,aBin];rfl
theorem aDA:bY E .and t h (.d (.int K a)) (.d (.int K b))=some (.d (.int K (iAnd K a b)),h):=by simp[bY,aBin];rfl
theorem aDr:bY E .xor t h (.d (.int K a)) (.d (.int K b))=some (.d (.int K (iXor K a b)),h):=by simp[bY,aBin];rfl
theorem aEF:bY E .lss t h (.d (.int K a)) (.d (.int K b))=some (.d (.bool (decide (a<b))),h):=by simp[bY,aBin]
theorem aEk:bY E .leq t h (.d (.int K a)) (.d (.int K b))=some (.d (.bool (decide (a<=b))),h):=by simp[bY,aBin]
theorem aDO:bY E .gtr t h (.d (.int K a)) (.d (.int K b))=some (.d (.bool (decide (b<a))),h):=by simp[bY,aBin]
theorem aD0:bY E .geq t h (.d (.int K a)) (.d (.int K b))=some (.d (.bool (decide (b<=a))),h):=by simp[bY,aBin]
theorem aDD:bY E .eql t h (.d (.int K a)) (.d (.int K b))=some (.d (.bool (decide (a=b))),h):=by simp[bY,aBin];rfl
theorem aEr:bY E .neq t h (.d (.int K a)) (.d (.int K b))=some (.d (.bool (!decide (a=b))),h):=by simp[bY,aBin];rfl
theorem aDJ(hb:b≠0):bY E .quo t h (.d (.int K a)) (.d (.int K b))=some (.d (.int K (K.wrap (a.tdiv b))),h):=by simp[bY,aBin,hb]
theorem aEi(hb:b≠0):bY E .rem t h (.d (.int K a)) (.d (.int K b))=some (.d (.int K (a.tmod b)),h):=by simp[bY,aBin,hb]
theorem aEo{K2:IntKind}(hb:0<=b):bY E .shr t h (.d (.int K a)) (.d (.int K2 b))=some (.d (.int K (a.fdiv (2^(min b.toNat K.bits)))),h):=by
 have:¬b<0:=om;simp[bY,aBin,Op.shift,this];rfl
theorem aJH{b:Bool}:aUn .not (.d (.bool b))=some (.d (.bool (!b))):=rfl
end
end
theorem WD:type_of% (AI @aB1 (AI @aDw (AI @XH (AI @aDC (AI @aBK (AI @WJ (AI @aBe (AI @aCk (AI @aD3 (AI @aF8 (AI @aEw (AI @aE1 (AI @aAL (AI @XG (AI @X5 (AI @aLp (AI @aMA (AI @aJT (AI @aLf (AI @aJo (AI @aJP (AI @aJD (AI @aJK (AI @aGm (AI @aGM (AI @MA (AI @GV (AI @aJg (AI @aMY (AI @aH0 (AI @TB (AI @aGV (AI @aGz (AI @aD4 (AI @aEx (AI @aJt (AI @aD6 (AI @LM (AI @S1 (AI @P9 (AI @XE (AI @X8 (AI @OW (AI @O1 (AI @aDQ (AI @WV (AI @XA (AI @aDM (AI @aJa (AI @UD (AI @aAY (AI @aDx (AI @XU @PT))))))))))))))))))))))))))))))))))))))))))))))))))))):=
 ⟨@aB1,@aDw,@XH,@aDC,@aBK,@WJ,@aBe,@aCk,@aD3,@aF8,@aEw,@aE1,@aAL,@XG,@X5,@aLp,@aMA,@aJT,@aLf,@aJo,@aJP,@aJD,@aJK,@aGm,@aGM,@MA,@GV,@aJg,@aMY,@aH0,@TB,@aGV,@aGz,@aD4,@aEx,@aJt,@aD6,@LM,@S1,@P9,@XE,@X8,@OW,@O1,@aDQ,@WV,@XA,@aDM,@aJa,@UD,@aAY,@aDx,@XU,@PT⟩
theorem WDD:type_of% (AI @aDt (AI @aCh (AI @YB (AI @aBA (AI @IV (AI @aDR (AI @MW (AI @WT (AI @aGG (AI @aDS (AI @aEI (AI @PY (AI @aGD (AI @aJl (AI @PU (AI @L5 (AI @TU (AI @aBS (AI @RM (AI @aDT (AI @aD8 @aBq))))))))))))))))))))):=
 ⟨@aDt,@aCh,@YB,@aBA,@IV,@aDR,@MW,@WT,@aGG,@aDS,@aEI,@PY,@aGD,@aJl,@PU,@L5,@TU,@aBS,@RM,@aDT,@aD8,@aBq⟩
theorem WK0:type_of% (AI @aLD (AI @aJH (AI @aDs (AI @aDy (AI @aDF (AI @aDA (AI @aDr (AI @aDJ (AI @aEi (AI @aEo (AI @aEF (AI @aEk (AI @aDO (AI @aD0 (AI @aDD (AI @aEr (AI @List.getD_nil.{0} (AI @Cd.{0} (AI @Bn.{0} (AI @aOx @aJO)))))))))))))))))))):=
 ⟨@aLD,@aJH,@aDs,@aDy,@aDF,@aDA,@aDr,@aDJ,@aEi,@aEo,@aEF,@aEk,@aDO,@aD0,@aDD,@aEr,@List.getD_nil.{0},@Cd.{0},@Bn.{0},@aOx,@aJO⟩
theorem WK1:type_of% (AI @Bool.not_true (AI @Bool.not_false (AI @Bool.true_eq_false (AI @decide_eq_true_eq (AI @decide_eq_false_iff_not (AI @Ax.{0,0} (AI @decide_true (AI @decide_false (AI @aGe (AI @Cb (AI @Nat.one_mul (AI @Bc.{0} (AI @Br.{0} (AI @Ca.{0} (AI @Bu (AI @Bool.and_true @Bool.true_and)))))))))))))))):=
 ⟨@Bool.not_true,@Bool.not_false,@Bool.true_eq_false,@decide_eq_true_eq,@decide_eq_false_iff_not,@Ax.{0,0},@decide_true,@decide_false,@aGe,@Cb,@Nat.one_mul,@Bc.{0},@Br.{0},@Ca.{0},@Bu,@Bool.and_true,@Bool.true_and⟩
theorem WK2:type_of% (AI @Cu (AI @Dg (AI @List.zip_cons_cons.{0,0} (AI @List.zip_nil_left.{0,0} (AI @List.flatten_cons.{0} (AI @List.flatten_nil.{0} (AI @List.take_zero.{0} (AI @List.take_nil.{0} (AI @List.drop_nil.{0} (AI @Bool.or_self (AI @Bool.or_false (AI @Bw (AI @and_self (AI @and_true (AI @true_and (AI @Bool.or_true (AI @Bool.true_or (AI @Dh.{0} (AI @List.take_succ_cons.{0} (AI @Nat.lt_irrefl (AI @List.head?_cons.{0} (AI @List.contains_cons.{0} (AI @List.contains_nil.{0} @rO))))))))))))))))))))))):=
 ⟨@Cu,@Dg,@List.zip_cons_cons.{0,0},@List.zip_nil_left.{0,0},@List.flatten_cons.{0},@List.flatten_nil.{0},@List.take_zero.{0},@List.take_nil.{0},@List.drop_nil.{0},@Bool.or_self,@Bool.or_false,@Bw,@and_self,@and_true,@true_and,@Bool.or_true,@Bool.true_or,@Dh.{0},@List.take_succ_cons.{0},@Nat.lt_irrefl,@List.head?_cons.{0},@List.contains_cons.{0},@List.contains_nil.{0},@rO⟩
theorem WK3:type_of% (AI @rng0 (AI @rng1 (AI @rng2 (AI @Option.isNone_none.{0} (AI @Option.isNone_some.{0} (AI @Cm.{0} (AI @Cz.{0} (AI @vQ (AI @nH (AI @beq_self_eq_true.{0} (AI @Nat.succ_ne_self (AI @Nat.zero_ne_one (AI @Af.{0} (AI @or_false @or_true)))))))))))))):=
 ⟨@rng0,@rng1,@rng2,@Option.isNone_none.{0},@Option.isNone_some.{0},@Cm.{0},@Cz.{0},@vQ,@nH,@beq_self_eq_true.{0},@Nat.succ_ne_self,@Nat.zero_ne_one,@Af.{0},@or_false,@or_true⟩
theorem WK:type_of% (AI @WK0 (AI @WK1 (AI @WK2 @WK3))):=
 ⟨@WK0,@WK1,@WK2,@WK3⟩
section
variable{E:Env}{vs:List A}{t u:TypeId}{x y:Operand}
theorem WZ:i7 E (.convert t u x) vs=(cR E.P u).isNone:=rfl
theorem P0{a:Array Operand}{b:Array TypeId}:i7 E (.call ⟨.builtin .append,a,b⟩) vs=false:=rfl
theorem TJ:i7 E (.alloc t) vs=false:=rfl
theorem O9:i7 E (.assign x) vs=false:=rfl
theorem R1:i7 E (.store t x y) vs=false:=rfl
theorem aDL{n:Nat}{ps:Array (Nat×Operand)}:i7 E (.buildSlice t n ps) vs=false:=rfl
theorem aAk:opds (.alloc t)=[]:=rfl
end
theorem UNx5:type_of% (fun v0 v1 v2 v3=> @outA.eq_2 v0 v1 v2 (A.d v3) nfn):=by intros;rfl
theorem UNx6:type_of% (fun v0 v1 v2 v3 v4 v5 v6=> @outA.eq_2 v0 v1 v2 (A.sl v3 v4 v5 v6) nfn):=by intros;rfl
theorem UNx7:type_of% (fun v0 v1 v2 v3 v4 v5=> @outA.eq_2 v0 v1 v2 (A.ptr v3 v4 v5) nfn):=by intros;rfl
theorem UNx9:type_of% (fun v0 v1 v2 v3 v4=> @outA.eq_2 v0 v1 v2 (A.clo v3 v4) nfn):=by intros;rfl
theorem aOA:type_of% (fun v0 v1 v2 v3 v4=> @outS.eq_2 v0 v1 v2 (D.int v3 v4) nfn):=by intros;rfl
theorem aOr:type_of% (fun v0 v1 v2 v3=> @outS.eq_2 v0 v1 v2 (D.bool v3) nfn):=by intros;rfl
theorem aOs:type_of% (fun v0 v1 v2 v3=> @outS.eq_2 v0 v1 v2 (D.str v3) nfn):=by intros;rfl
theorem aOH:type_of% (fun v0 v1 v2 v3 v4=> @outS.eq_2 v0 v1 v2 (D.ivs v3 v4) nfn):=by intros;rfl
theorem aOz:type_of% (fun v0 v1=> @fL.eq_3 (A.d (D.int v0 v1)) nfn nfn):=by intros;rfl
theorem aOt:type_of% (fun v0=> @fL.eq_3 (A.d (D.bool v0)) nfn nfn):=by intros;rfl
theorem aOp:type_of% (fun v0=> @fL.eq_3 (A.d (D.str v0)) nfn nfn):=by intros;rfl
theorem aOB:type_of% (fun v0 v1=> @fL.eq_3 (A.d (D.ivs v0 v1)) nfn nfn):=by intros;rfl
theorem aOo:type_of% (@fL.eq_3 (A.d D.nils) nfn nfn):=(@fL.eq_3 (A.d D.nils) nfn nfn)
theorem aOw:type_of% (fun v0 v1=> @fL.eq_3 (A.d (D.fn v0 v1)) nfn nfn):=by intros;rfl
theorem aOE:type_of% (fun v0 v1 v2 v3=> @fL.eq_3 (A.sl v0 v1 v2 v3) nfn nfn):=by intros;rfl
theorem aOv:type_of% (fun v0 v1 v2=> @fL.eq_3 (A.ptr v0 v1 v2) nfn nfn):=by intros;rfl
theorem aOK:type_of% (fun v0=> @fL.eq_3 (A.mp v0) nfn nfn):=by intros;rfl
theorem aOM:type_of% (fun v0 v1=> @fL.eq_3 (A.clo v0 v1) nfn nfn):=by intros;rfl
theorem aOq:type_of% (fun v0=> @tidy.eq_3 List.nil v0 nfn nfn):=by intros;rfl
theorem aOQ:type_of% (fun v0 v1 v2 v3 v4=> @cA.eq_2 v0 v1 v2 v3 (A.d v4) nfn):=by intros;rfl
theorem aOG:type_of% (fun v0 v1 v2 v3 v4 v5 v6 v7=> @cA.eq_2 v0 v1 v2 v3 (A.sl v4 v5 v6 v7) nfn):=by intros;rfl
theorem aOL:type_of% (fun v0 v1=> @VH.eq_2 v0 (A.d v1) nfn):=by intros;rfl
theorem aON:type_of% (fun v0 v1 v2=> @frz.eq_5 v0 (A.d v2) v1 nfn nfn nfn):=by intros;rfl
theorem aOS:type_of% (fun v0=> @aV.eq_2 (A.d v0) nfn):=by intros;rfl
theorem aOy:type_of% (fun v0 v1 v2 v3=> @aV.eq_2 (A.sl v0 v1 v2 v3) nfn):=by intros;rfl
theorem aOC:type_of% (fun v0=> @aV.eq_2 (A.mp v0) nfn):=by intros;rfl
theorem aMf:type_of% (fun v0 v1=> @dL.eq_5 (A.d (D.int v0 v1)) nfn nfn nfn nfn):=by intros;rfl
theorem aLI:type_of% (fun v0=> @dL.eq_5 (A.d (D.bool v0)) nfn nfn nfn nfn):=by intros;rfl
theorem aMc:type_of% (fun v0=> @dL.eq_5 (A.d (D.str v0)) nfn nfn nfn nfn):=by intros;rfl
theorem aMZ:type_of% (fun v0 v1=> @dL.eq_5 (A.d (D.ivs v0 v1)) nfn nfn nfn nfn):=by intros;rfl
theorem aL2:type_of% (@dL.eq_5 (A.d D.nils) nfn nfn nfn nfn):=(@dL.eq_5 (A.d D.nils) nfn nfn nfn nfn)
theorem aM2:type_of% (fun v0 v1=> @dL.eq_5 (A.d (D.fn v0 v1)) nfn nfn nfn nfn):=by intros;rfl
theorem aMG:type_of% (fun v0 v1 v2 v3=> @dL.eq_5 (A.sl v0 v1 v2 v3) nfn nfn nfn nfn):=by intros;rfl
theorem aLo:type_of% (fun v0=> @dL.eq_5 (A.mp v0) nfn nfn nfn nfn):=by intros;rfl
theorem aLe:type_of% (fun v0=> @vW.eq_2 (A.d v0) nfn):=by intros;rfl
theorem aLR:type_of% (fun v0 v1 v2 v3=> @vW.eq_2 (A.sl v0 v1 v2 v3) nfn):=by intros;rfl
theorem aLi:type_of% (fun v0=> @vW.eq_2 (A.agg v0) nfn):=by intros;rfl
theorem aLh:type_of% (fun v0 v1 v2 v3=> @eE.eq_4 (O.arr v1 v2 v3) v0 nfn nfn):=by intros;rfl
theorem aLz:type_of% (fun v0 v1=> @eE.eq_4 (O.mp v1) v0 nfn nfn):=by intros;rfl
theorem aLd:type_of% (@tupA.eq_2 List.nil nfn):=(@tupA.eq_2 List.nil nfn)
theorem aMo:type_of% (fun v0 v1 v2=> @tupA.eq_2 (List.cons v0 (List.cons v1 v2)) nfn):=by intros;rfl
theorem aMM:type_of% (fun v0 v1 v2 v3 v4=> @FT.eq_2 v0 v1 (Go.Operand.tmp v4) v2 v3 nfn):=by intros;rfl
theorem aMi:type_of% (fun v0 v1 v2 v3=> @aZ.eq_3 v0 (A.d (D.int v2 v3)) v1 nfn):=by intros;rfl
theorem aLr:type_of% (fun v0 v1 v2 v3=> @aZ.eq_3 v0 (A.d (D.ivs v2 v3)) v1 nfn):=by intros;rfl
theorem aLU:type_of% (fun v0 v1 v2 v3=> @aZ.eq_3 v0 (A.d (D.fn v2 v3)) v1 nfn):=by intros;rfl
theorem aMT:type_of% (fun v0 v1 v2 v3 v4 v5=> @aZ.eq_3 v0 (A.sl v2 v3 v4 v5) v1 nfn):=by intros;rfl
theorem aK8:type_of% (fun v0 v1 v2=> @aZ.eq_3 v0 (A.mp v2) v1 nfn):=by intros;rfl
theorem aLY:type_of% (fun v0 v1 v2 v3=> @mapO.eq_3 v0 (O.arr v1 v2 v3) nfn nfn):=by intros;rfl
theorem aLM:type_of% (fun v0 v1 v2 v3=> @mapO.eq_3 v0 (O.ice v1 v2 v3) nfn nfn):=by intros;rfl
theorem aLW:type_of% (fun v0 v1=> @mapO.eq_3 v0 (O.log v1) nfn nfn):=by intros;rfl
theorem aMz:type_of% (fun v0 v1=> @mapO.eq_3 v0 (O.mp v1) nfn nfn):=by intros;rfl
theorem aL6:type_of% (fun v0 v1=> @frzA.eq_2 v0 (A.d v1) nfn):=by intros;rfl
theorem aLN:type_of% (fun v0 v1 v2 v3 v4=> @frzA.eq_2 v0 (A.sl v1 v2 v3 v4) nfn):=by intros;rfl
theorem aMq:type_of% (fun v0 v1 v2=> @frzA.eq_2 v0 (A.clo v1 v2) nfn):=by intros;rfl
theorem UN0:type_of% (AI @aAk (AI @aLen.eq_def (AI @P0 (AI @WZ (AI @TJ (AI @O9 (AI @R1 (AI @aDL (AI @List.range'.eq_1 (AI @List.range'.eq_2 (AI @LT.eq_1 @L4.eq_1))))))))))):=
 ⟨@aAk,@aLen.eq_def,@P0,@WZ,@TJ,@O9,@R1,@aDL,@List.range'.eq_1,@List.range'.eq_2,@LT.eq_1,@L4.eq_1⟩
theorem UN1:type_of% (AI @aPut.eq_1 (AI @aPut.eq_2 (AI @lC.eq_1 (AI @lC.eq_2 (AI @outA.eq_1 (AI @UNx5 (AI @UNx6 (AI @UNx7 (AI @UNx9 (AI @outS.eq_1 (AI @aOA (AI @aOr (AI @aOs (AI @aOH (AI @outS.eq_3 (AI @outS.eq_4 (AI @outS.eq_6 (AI @AP.eq_1 (AI @AP.eq_2 (AI @idsA.eq_1 @idsA.eq_2)))))))))))))))))))):=
 ⟨@aPut.eq_1,@aPut.eq_2,@lC.eq_1,@lC.eq_2,@outA.eq_1,@UNx5,@UNx6,@UNx7,@UNx9,@outS.eq_1,@aOA,@aOr,@aOs,@aOH,@outS.eq_3,@outS.eq_4,@outS.eq_6,@AP.eq_1,@AP.eq_2,@idsA.eq_1,@idsA.eq_2⟩
theorem UN2:type_of% (AI @idsA.eq_3 (AI @idsA.eq_4 (AI @idsA.eq_5 (AI @idsA.eq_7 (AI @idsA.eq_8 (AI @idsL.eq_1 (AI @idsL.eq_2 (AI @mapA.eq_1 (AI @mapA.eq_2 (AI @mapA.eq_3 (AI @mapA.eq_4 (AI @mapA.eq_5 (AI @mapA.eq_7 (AI @mapA.eq_8 (AI @aR.eq_1 (AI @aR.eq_2 (AI @bI.eq_1 (AI @bI.eq_2 (AI @bI.eq_3 (AI @bI.eq_4 (AI @bI.eq_5 (AI @bI.eq_7 (AI @bI.eq_8 (AI @gI.eq_1 (AI @HP.eq_1 (AI @aX.eq_1 (AI @cC.eq_1 (AI @dK.eq_1 (AI @dK.eq_2 (AI @bT.eq_1 (AI @bT.eq_2 (AI @bT.eq_3 (AI @bT.eq_4 (AI @bT.eq_5 (AI @bT.eq_6 @aE.eq_1))))))))))))))))))))))))))))))))))):=
 ⟨@idsA.eq_3,@idsA.eq_4,@idsA.eq_5,@idsA.eq_7,@idsA.eq_8,@idsL.eq_1,@idsL.eq_2,@mapA.eq_1,@mapA.eq_2,@mapA.eq_3,@mapA.eq_4,@mapA.eq_5,@mapA.eq_7,@mapA.eq_8,@aR.eq_1,@aR.eq_2,@bI.eq_1,@bI.eq_2,@bI.eq_3,@bI.eq_4,@bI.eq_5,@bI.eq_7,@bI.eq_8,@gI.eq_1,@HP.eq_1,@aX.eq_1,@cC.eq_1,@dK.eq_1,@dK.eq_2,@bT.eq_1,@bT.eq_2,@bT.eq_3,@bT.eq_4,@bT.eq_5,@bT.eq_6,@aE.eq_1⟩
theorem UN3:type_of% (AI @aE.eq_2 (AI @qB.eq_1 (AI @qB.eq_2 (AI @qB.eq_3 (AI @fL.eq_1 (AI @fL.eq_2 (AI @aOz (AI @aOt (AI @aOp (AI @aOB (AI @aOo (AI @aOw (AI @aOE (AI @aOv (AI @aOK (AI @aOM (AI @tidy.eq_1 (AI @tidy.eq_2 (AI @aOq (AI @cA.eq_1 (AI @aOQ (AI @aOG (AI @cA.eq_3 @oP.eq_1))))))))))))))))))))))):=
 ⟨@aE.eq_2,@qB.eq_1,@qB.eq_2,@qB.eq_3,@fL.eq_1,@fL.eq_2,@aOz,@aOt,@aOp,@aOB,@aOo,@aOw,@aOE,@aOv,@aOK,@aOM,@tidy.eq_1,@tidy.eq_2,@aOq,@cA.eq_1,@aOQ,@aOG,@cA.eq_3,@oP.eq_1⟩
theorem UN4:type_of% (AI @lR.eq_1 (AI @nT.eq_1 (AI @D9.eq_1 (AI @VH.eq_1 (AI @aOL (AI @GB.eq_1 (AI @oR.eq_1 (AI @keeps.eq_1 (AI @logs.eq_1 (AI @IL.eq_1 @qV.eq_1)))))))))):=
 ⟨@lR.eq_1,@nT.eq_1,@D9.eq_1,@VH.eq_1,@aOL,@GB.eq_1,@oR.eq_1,@keeps.eq_1,@logs.eq_1,@IL.eq_1,@qV.eq_1⟩
theorem UN5:type_of% (AI @cV.eq_2 (AI @cV.eq_4 (AI @j7.eq_1 (AI @nS.eq_1 (AI @AJ.eq_1 (AI @mH.eq_1 (AI @mH.eq_2 (AI @rQ.eq_1 (AI @gY.eq_1 (AI @iH.eq_1 (AI @iH.eq_3 (AI @frzL.eq_1 (AI @eS.eq_1 (AI @eS.eq_2 (AI @frz.eq_2 (AI @frz.eq_3 (AI @frz.eq_4 (AI @aON (AI @frz0.eq_1 (AI @frz0.eq_2 (AI @deep.eq_1 (AI @aV.eq_1 (AI @aOS (AI @aOy @aOC)))))))))))))))))))))))):=
 ⟨@cV.eq_2,@cV.eq_4,@j7.eq_1,@nS.eq_1,@AJ.eq_1,@mH.eq_1,@mH.eq_2,@rQ.eq_1,@gY.eq_1,@iH.eq_1,@iH.eq_3,@frzL.eq_1,@eS.eq_1,@eS.eq_2,@frz.eq_2,@frz.eq_3,@frz.eq_4,@aON,@frz0.eq_1,@frz0.eq_2,@deep.eq_1,@aV.eq_1,@aOS,@aOy,@aOC⟩
theorem UN6:type_of% (AI @bC.eq_1 (AI @aMf (AI @aLI (AI @aMc (AI @aMZ (AI @aL2 (AI @aM2 (AI @aMG (AI @aLo (AI @aLe (AI @aLR (AI @aLi (AI @eE.eq_1 (AI @eE.eq_2 (AI @aLh (AI @aLz @kN.eq_1)))))))))))))))):=
 ⟨@bC.eq_1,@aMf,@aLI,@aMc,@aMZ,@aL2,@aM2,@aMG,@aLo,@aLe,@aLR,@aLi,@eE.eq_1,@eE.eq_2,@aLh,@aLz,@kN.eq_1⟩
theorem UN7:type_of% (AI @kN.eq_2 (AI @EK.eq_1 (AI @EK.eq_2 (AI @nM.eq_1 (AI @nM.eq_2 (AI @tupA.eq_1 (AI @aLd (AI @aMo (AI @sH.eq_1 (AI @rT.eq_1 (AI @rT.eq_2 (AI @opds.eq_2 (AI @opds.eq_7 (AI @opds.eq_13 (AI @opds.eq_14 @opds.eq_24))))))))))))))):=
 ⟨@kN.eq_2,@EK.eq_1,@EK.eq_2,@nM.eq_1,@nM.eq_2,@tupA.eq_1,@aLd,@aMo,@sH.eq_1,@rT.eq_1,@rT.eq_2,@opds.eq_2,@opds.eq_7,@opds.eq_13,@opds.eq_14,@opds.eq_24⟩
theorem UN8:type_of% (AI @evOp.eq_1 (AI @dN.eq_1 (AI @one.eq_1 (AI @two.eq_1 (AI @AG.eq_1 @aMM))))):=
 ⟨@evOp.eq_1,@dN.eq_1,@one.eq_1,@two.eq_1,@AG.eq_1,@aMM⟩
theorem UN9:type_of% (AI @aNew.eq_1 (AI @oQ.eq_3 (AI @oQ.eq_4 (AI @v8.eq_1 @ME.eq_1)))):=
 ⟨@aNew.eq_1,@oQ.eq_3,@oQ.eq_4,@v8.eq_1,@ME.eq_1⟩
theorem UN10:type_of% (AI @back.eq_1 (AI @bF.eq_1 (AI @bF.eq_2 (AI @aG.eq_1 (AI @closed.eq_1 (AI @jE.eq_1 @aZ.eq_1)))))):=
 ⟨@back.eq_1,@bF.eq_1,@bF.eq_2,@aG.eq_1,@closed.eq_1,@jE.eq_1,@aZ.eq_1⟩
theorem UN11:type_of% (AI @aZ.eq_2 (AI @aMi (AI @aLr (AI @aLU (AI @aMT (AI @aK8 (AI @aI.eq_2 (AI @pack.eq_1 (AI @mapO.eq_1 (AI @mapO.eq_2 (AI @aLY (AI @aLM (AI @aLW (AI @aMz (AI @bG.eq_1 (AI @frzA.eq_1 (AI @aL6 (AI @aLN (AI @aMq @eA.eq_1))))))))))))))))))):=
 ⟨@aZ.eq_2,@aMi,@aLr,@aLU,@aMT,@aK8,@aI.eq_2,@pack.eq_1,@mapO.eq_1,@mapO.eq_2,@aLY,@aLM,@aLW,@aMz,@bG.eq_1,@frzA.eq_1,@aL6,@aLN,@aMq,@eA.eq_1⟩
theorem UN12:type_of% (AI @eA.eq_2 (AI @memD.eq_1 (AI @VK.eq_1 (AI @ID.eq_1 @eG.eq_3)))):=
 ⟨@eA.eq_2,@memD.eq_1,@VK.eq_1,@ID.eq_1,@eG.eq_3⟩
theorem UN:type_of% (AI @UN0 (AI @UN1 (AI @UN2 (AI @UN3 (AI @UN4 (AI @UN5 (AI @UN6 (AI @UN7 (AI @UN8 (AI @UN9 (AI @UN10 (AI @UN11 @UN12)))))))))))):=
 ⟨@UN0,@UN1,@UN2,@UN3,@UN4,@UN5,@UN6,@UN7,@UN8,@UN9,@UN10,@UN11,@UN12⟩
theorem aOI:type_of% (@bN.eq_5 Go.Code.skip nfn nfn nfn nfn):=(@bN.eq_5 Go.Code.skip nfn nfn nfn nfn)
theorem aOT:type_of% (fun v0 v1 v2=> @bN.eq_5 (Go.Code.region v0 v1 v2) nfn nfn nfn nfn):=(fun v0 v1 v2=> @bN.eq_5 (Go.Code.region v0 v1 v2) nfn nfn nfn nfn)
theorem aOO:type_of% (fun v0=> @bN.eq_5 (Go.Code.exit v0) nfn nfn nfn nfn):=(fun v0=> @bN.eq_5 (Go.Code.exit v0) nfn nfn nfn nfn)
theorem aMN:type_of% (@bN.eq_5 Go.Code.ret nfn nfn nfn nfn):=(@bN.eq_5 Go.Code.ret nfn nfn nfn nfn)
theorem SLM0:type_of% (AI @Bb.{0} (AI @Ac.{0} (AI @Bs (AI @Ag (AI @Ah.{0,0} (AI @Ap.{0,0} (AI @Cn.{0} (AI @Au.{0} (AI @Da.{0,0} (AI @Ak (AI @Ad.{0} (AI @List.replicate.eq_1.{0} (AI @List.replicate.eq_2.{0} (AI @Av.{0} (AI @Ao.{0} (AI @Ai.{0} (AI @List.getD_cons_zero.{0} (AI @List.getD_cons_succ.{0} (AI @aT.eq_1 (AI @a7.eq_1 (AI @lpOf.eq_1 (AI @aO.eq_1 (AI @slim.eq_1 (AI @slim.eq_2 (AI @slim.eq_3 (AI @slim.eq_4 (AI @slim.eq_5 (AI @slim.eq_6 (AI @slim.eq_7 (AI @slim.eq_8 (AI @bN.eq_1 (AI @bN.eq_2 @bN.eq_3)))))))))))))))))))))))))))))))):=
 ⟨@Bb.{0},@Ac.{0},@Bs,@Ag,@Ah.{0,0},@Ap.{0,0},@Cn.{0},@Au.{0},@Da.{0,0},@Ak,@Ad.{0},@List.replicate.eq_1.{0},@List.replicate.eq_2.{0},@Av.{0},@Ao.{0},@Ai.{0},@List.getD_cons_zero.{0},@List.getD_cons_succ.{0},@aT.eq_1,@a7.eq_1,@lpOf.eq_1,@aO.eq_1,@slim.eq_1,@slim.eq_2,@slim.eq_3,@slim.eq_4,@slim.eq_5,@slim.eq_6,@slim.eq_7,@slim.eq_8,@bN.eq_1,@bN.eq_2,@bN.eq_3⟩
theorem SLM1:type_of% (AI @bN.eq_4 (AI @aOI (AI @aOT (AI @aOO (AI @aMN (AI @D7.eq_1 (AI @IE.eq_1 @IE.eq_2))))))):=
 ⟨@bN.eq_4,@aOI,@aOT,@aOO,@aMN,@D7.eq_1,@IE.eq_1,@IE.eq_2⟩
theorem SLM:type_of% (AI @SLM0 @SLM1):=
 ⟨@SLM0,@SLM1⟩
theorem LN:type_of% (AI @Af.{0} (AI @Ad.{0} (AI @Ac.{0} (AI @Bl.{0} (AI @List.length_replicate.{0} (AI @Ay.{0,0} (AI @Bt.{0} @Ce.{0}))))))):=
 ⟨@Af.{0},@Ad.{0},@Ac.{0},@Bl.{0},@List.length_replicate.{0},@Ay.{0,0},@Bt.{0},@Ce.{0}⟩
theorem GT:type_of% (AI @Cn.{0} @Au.{0}):=
 ⟨@Cn.{0},@Au.{0}⟩
end Ev
end Go.Proofs.YthlkcebdfbjdoaaGreat
