/-
  How each operation goes, in the form in which the evaluator is walked.
-/
import Derived.Test.YthlkcebdfbjdoaaGreatEvPrim
set_option linter.unusedSimpArgs false
set_option linter.unusedVariables false
namespace Go.Proofs.YthlkcebdfbjdoaaGreat
namespace Ev
section
variable{R:Type}{E:Env}{call:aX}{thaw:List Nat}{dst:Option Tmp}{s:List A}{h:H}{k:A->H->Option R}
structure Now(p:Prop):Prop where
 it:p
structure Shut(p:Prop):Prop where
 it:p
inductive Box(α:Type) where
 |mk (a:α)
 |no
def box{α:Type}(a:α):Box α:=.mk a
theorem aQh{α:Type}{a:α}:box a=.mk a:=rfl
theorem aOV{t:Nat}{q:A->Option R}:kv s (.tmp t) q=match box (s.getD t (.d .undef))with|.no=>none|.mk a=>q a:=rfl
theorem aQo{K:IntKind}{n:Int}{q:A->Option R}:kv s (.const (.int K n)) q=q (.d (.int K n)):=rfl
theorem aMi{b:Bool}{q:A->Option R}:kv s (.const (.bool b)) q=q (.d (.bool b)):=rfl
theorem aQp{b:ByteArray}{q:A->Option R}:kv s (.const (.string b)) q=match box b.data.toList with|.no=>none|.mk l=>q (.d (.str l)):=rfl
theorem aMG{q:A->Option R}:kv s (.const (.pointer none)) q=q (.d .nilp):=rfl
theorem aML{q:A->Option R}:kv s (.const (.slice none 0 0)) q=q (.d .nils):=rfl
theorem aMn{f:FuncId}{q:A->Option R}:kv s (.func f) q=q (.clo f []):=rfl
theorem aMT{q:List A->Option R}:kvs s [] q=q []:=rfl
theorem aLb{x:Operand}{xs:List Operand}{q:List A->Option R}:kvs s (x::xs) q=kv s x fun a=>kvs s xs fun asx=>q (a::asx):=by
 unfold kvs kv;simp only[bS]
 cases cI s x with
 |none=>rfl
 |some a=>grind
theorem aBt{yes no:List A->Option R}:u7 none s yes no=yes s:=rfl
theorem aAT{t:Nat}{w:Bool}{yes no:List A->Option R}:u7 (some (some t,w)) s yes no=match s.getD t .junk with
  |.d (.bool b)=>if b=w then(match box (s.set t (.d (.bool w)))with|.no=>none|.mk s=>yes s)else(match box (s.set t (.d (.bool (!w))))with|.no=>none|.mk s=>no s)
  |.d .undef=>no s
  |_=>none:=by
 simp only[u7,Aa]
 cases s[t]? with
 |none=>rfl
 |some a=>
  cases a with
  |d x=>cases x<;>rfl
  |_=>rfl
theorem aJk{x:Operand}:kOp E call thaw dst (.move x) s h k=kv s x fun a=>k a h:=by
 unfold kOp kvs kv;simp only[opds,bS]
 cases cI s x<;>rfl
def kAsg(thaw:List Nat)(dst:Option Tmp)(h:H)(k:A->H->Option R)(a:A):Option R:=
 match a with
 |.d .nils=>match OQ thaw dst with
  |0=>k (.d .nils) h
  |e+1=>if e<1000 then k (.sl h.length 0 0 0) (h++[.arr [] e 0])else k (.sl h.length 0 0 0) (h++[.vec [] (e-1000) 0])
 |a=>k a h
theorem PC{t:Nat}:kOp E call thaw dst (.assign (.tmp t)) s h k=match box (s.getD t (.d .undef))with|.no=>none|.mk a=>k a h:=by
 unfold kOp kvs;rfl
theorem HL{v:Value}:kOp E call thaw dst (.assign (.const v)) s h k=kv s (.const v) (kAsg thaw dst h k):=by
 unfold kOp kvs kv kAsg;simp only[opds,bS]
 cases cI s (.const v)with
 |none=>rfl
 |some a=>
  simp only[vB,Ak,if_false,evOp,one,JW,dS]
  cases a with
  |d x=>grind
  |_=>rfl
def kRet(r:Option (A×H))(k:A->H->Option R):Option R:=
 match r with
 |some (a,h')=>k a h'
 |none=>none
theorem aMI{op:BinOp}{t:TypeId}{x y:Operand}{t2:TypeId}:kOp E call thaw dst (.binOp op t x y t2) s h k=kv s x fun a=>kv s y fun b=>kRet (bW E op t h a b) k:=by
 unfold kOp kvs kv kRet;simp only[opds,bS]
 cases cI s x with
 |none=>rfl
 |some a=>cases cI s y<;>rfl
theorem aQc{op:UnOp}{t:TypeId}{x:Operand}:kOp E call thaw dst (.unOp op t x) s h k=kv s x fun a=>kRet ((aUn op a).map fun r=>(r,h)) k:=by
 unfold kOp kvs kv kRet;simp only[opds,bS]
 cases cI s x<;>rfl
theorem aJb{c x y:Operand}:kOp E call thaw dst (.pick c x y) s h k=kv s c fun b=>kv s x fun a=>kv s y fun a'=>kRet (OG h [b,a,a']) k:=by
 unfold kOp kvs kv kRet;simp only[opds,bS]
 cases cI s c with
 |none=>rfl
 |some b=>cases cI s x with
  |none=>rfl
  |some a=>cases cI s y<;>rfl
theorem W5{x:Operand}:kOp E call thaw dst (.nilCheck x) s h k=kv s x fun a=>kRet (tD h a) k:=by
 unfold kOp kvs kv kRet;simp only[opds,bS]
 cases cI s x<;>rfl
theorem aKB{t u:TypeId}{x:Operand}:kOp E call thaw dst (.convert t u x) s h k=kv s x fun a=>kRet (eI E.P h t u a) k:=by
 unfold kOp kvs kv kRet;simp only[opds,bS]
 cases cI s x<;>rfl
theorem aJM{t:TypeId}{x:Operand}:kOp E call thaw dst (.load t x) s h k=kv s x fun a=>kRet ((CM E.P h t a).map fun v=>(v,h)) k:=by
 unfold kOp kvs kv kRet;simp only[opds,bS]
 cases cI s x<;>rfl
theorem aGF{t:TypeId}{x y:Operand}:kOp E call thaw dst (.store t x y) s h k=kv s x fun a=>kv s y fun b=>kRet ((jM E.P h t a b).map fun h'=>(.d .undef,h')) k:=by
 unfold kOp kvs kv kRet;simp only[opds,bS]
 cases cI s x with
 |none=>rfl
 |some a=>cases cI s y<;>rfl
theorem aHK{t:TypeId}:kOp E call thaw dst (.alloc t) s h k=match box (dJ E.P t)with
  |.no=>none
  |.mk none=>none
  |.mk (some z)=>kRet (aNew h z) k:=by
 unfold kOp kvs kRet;simp only[opds,bS,vB,Ak,if_false,evOp,dS,box]
 cases dJ E.P t<;>rfl
theorem aMs{t:TypeId}{x:Operand}:kOp E call thaw dst (.box t x) s h k=kv s x fun a=>kRet (aNew h a) k:=by
 unfold kOp kvs kv kRet;simp only[opds,bS]
 cases cI s x<;>rfl
theorem aGy{t:TypeId}{ps:List (Nat×Operand)}:kOp E call thaw dst (.build t ps.toArray) s h k=match box (ps.map (·.2))with
  |.no=>none
  |.mk xs=>kvs s xs fun vs=>kRet ((vA E.P t ((ps.map (·.1)).zip vs)).map fun a=>(a,h)) k:=by
 rfl
theorem O3{t:TypeId}{n:Nat}{ps:List (Nat×Operand)}:kOp E call thaw dst (.buildSlice t n ps.toArray) s h k=match box (ps.map (·.2))with
  |.no=>none
  |.mk xs=>kvs s xs fun vs=>kRet (if logs thaw dst=true then LK (kI E.P h t n ((ps.map (·.1)).zip vs))else if keeps thaw dst=true then rR E.P h t n ((ps.map (·.1)).zip vs)else kI E.P h t n ((ps.map (·.1)).zip vs)) k:=by
 rfl
theorem XY{fn:Fn}{cap:List Operand}:kOp E call thaw dst (.makeFunc fn #[] cap.toArray) s h k=kvs s cap fun vs=>kRet (PL h fn true vs) k:=by
 rfl
theorem SZ{t:TypeId}{x y:Operand}:kOp E call thaw dst (.makeSlice t x y) s h k=kv s x fun a=>kv s y fun b=>kRet (iC a fun l=>iC b fun c=>if keeps thaw dst=true then HY E.P h t l c else gW E.P h t l c) k:=by
 unfold kOp kvs kv kRet;simp only[opds,bS]
 cases cI s x with
 |none=>rfl
 |some a=>cases cI s y<;>rfl
theorem aAW{t:TypeId}{x hi:Operand}:kOp E call thaw dst (.slice t x none (some hi) none) s h k=kvs s [x,hi] fun vs=>kRet (pY E.P h t false true vs) k:=rfl
theorem aBj{t:TypeId}{x lo hi:Operand}:kOp E call thaw dst (.slice t x (some lo) (some hi) none) s h k=kvs s [x,lo,hi] fun vs=>kRet (pY E.P h t true true vs) k:=rfl
theorem S0{t:TypeId}{x:Operand}{f:Nat}:kOp E call thaw dst (.fieldAddr t x f) s h k=kv s x fun a=>kRet ((cW E.P t f).bind fun r=>(tA r.1 a).map fun r=>(r,h)) k:=by
 unfold kOp kvs kv kRet;simp only[opds,bS]
 cases cI s x<;>rfl
theorem TA{t:TypeId}{x y:Operand}:kOp E call thaw dst (.indexAddr t x y) s h k=kv s x fun a=>kv s y fun b=>kRet (iC b fun i=>(pC E.P h t a i).map fun r=>(r,h)) k:=by
 unfold kOp kvs kv kRet;simp only[opds,bS]
 cases cI s x with
 |none=>rfl
 |some a=>cases cI s y<;>rfl
theorem aGL{t:TypeId}{x y:Operand}:kOp E call thaw dst (.index t x y) s h k=kv s x fun a=>kv s y fun b=>kRet (iC b fun i=>(ON E.P t a i).map fun r=>(r,h)) k:=by
 unfold kOp kvs kv kRet;simp only[opds,bS]
 cases cI s x with
 |none=>rfl
 |some a=>cases cI s y<;>rfl
theorem aAw{t:TypeId}:kOp E call thaw dst (.makeMap t none) s h k=k (.mp h.length) (h++[.mp []]):=rfl
theorem UC{t:TypeId}{x y z:Operand}:kOp E call thaw dst (.mapUpdate t x y z) s h k=kv s x fun a=>kv s y fun b=>kv s z fun c=>kRet (oJ E.P h t a b c) k:=by
 unfold kOp kvs kv kRet;simp only[opds,bS]
 cases cI s x with
 |none=>rfl
 |some a=>cases cI s y with
  |none=>rfl
  |some b=>cases cI s z<;>rfl
theorem aBf{x:Operand}{i:Nat}:kOp E call thaw dst (.extract x i) s h k=kv s x fun a=>kRet (xN h i a) k:=by
 unfold kOp kvs kv kRet;simp only[opds,bS]
 cases cI s x<;>rfl
theorem aA3{b:Builtin}{args:List Operand}{tys:List TypeId}:kOp E call thaw dst (.call ⟨.builtin b,args.toArray,tys.toArray⟩) s h k=kvs s args fun vs=>kRet (cE E.P h b tys vs) k:=by
 rfl
theorem dM{op:Op}{q:A->H->Foot->Option R}(hp:Now (pM op=true/\vB op=false)):kOpD E call thaw dst op s h q=kOp E call thaw dst op s h fun a _=>q a h {}:=by
 obtain⟨hp,hc⟩:=hp.it;unfold kOpD kOp kvs;rw[hp,hc]
 cases bS s (opds op)with
 |none=>rfl
 |some vs=>grind
def memD(E:Env)(call:aX)(thaw:List Nat)(dst:Option Tmp)(op:Op)(h:H)(vs:List A):Option (A×H×Foot):=match box (aE aH h (idsL vs) [])with
 |.no=>none
 |.mk ord=>match box (evOp E call thaw (pack h ord) (dS dst op) (aF (aK ord) vs))with
  |.mk (some (a,h1))=>if ord.length<=h1.length/\closed h ord (idsL vs)=true then
    (if(jR E op vs&&h1.length-ord.length==0)=true then some (mapA (back ord h.length h1.length) a,h,{ ids:=ord,ro:=true})
    else some (mapA (back ord h.length h1.length) a,bI (back ord h.length h1.length) h ord h1,{ ids:=ord++List.range' h.length (h1.length-ord.length),ro:=false,wr:=wrOf E op vs ord++List.range' h.length (h1.length-ord.length)}))
   else none
  |_=>none
theorem jY{op:Op}{q:A->H->Foot->Option R}(hp:Now (pM op=false/\pV op=false)):kOpD E call thaw dst op s h q=match box (opds op)with|.no=>none|.mk xs=>kvs s xs fun vs=>match box (memD E call thaw dst op h vs)with
  |.mk (some (a,h',c))=>q a h' c
  |_=>none:=by
 simp only[box];unfold kOpD kvs;rw[hp.it.1,hp.it.2]
 cases bS s (opds op)with
 |none=>rfl
 |some vs=>
  simp only[Ak,if_false,iT,memD,box]
  cases evOp E call thaw (pack h (aE aH h (idsL vs) [])) (dS dst op) (aF (aK (aE aH h (idsL vs) [])) vs)with
  |none=>rfl
  |some r=>grind
theorem YN{op:Op}{q:A->H->Foot->Option R}(hp:Now (pM op=false/\pV op=true/\vB op=false)):kOpD E call thaw dst op s h q=kvs s (opds op) fun vs=>kOp E call thaw dst op s h fun a _=>q a h { ids:=ids0 vs,ro:=true}:=by
 unfold kOpD kOp kvs;rw[hp.it.1,hp.it.2.1,hp.it.2.2]
 cases bS s (opds op)with
 |none=>rfl
 |some vs=>grind
theorem aCg{x:Operand}{xs:List Operand}{op:Op}{q:A->H->Foot->Option R}(hx:opds op=x::xs):(kvs s (opds op) fun vs=>kOp E call thaw dst op s h fun a _=>q a h { ids:=ids0 vs,ro:=true})=kv s x fun b=>kOp E call thaw dst op s h fun a _=>q a h { ids:=idsA b,ro:=true}:=by
 unfold kOp kv;rw[hx];unfold kvs;simp only[bS]
 cases cI s x with
 |none=>rfl
 |some b=>
  cases bS s xs with
  |none=>rfl
  |some bs=>rfl
theorem aHW{t:TypeId}{x:Operand}{q:A->H->Foot->Option R}:kOpD E call thaw dst (.load t x) s h q=kv s x fun b=>kOp E call thaw dst (.load t x) s h fun a _=>q a h { ids:=idsA b,ro:=true}:=(YN ⟨rfl,rfl,rfl⟩).trans (aCg rfl)
theorem aCZ{t:TypeId}{x y:Operand}{q:A->H->Foot->Option R}:type_of% (jY (E:=E) (call:=call) (thaw:=thaw) (dst:=dst) (s:=s) (h:=h) (op:=.store t x y) (q:=q) ⟨rfl,rfl⟩):=jY ⟨rfl,rfl⟩
theorem aBh{x:Operand}{q:A->H->Foot->Option R}:type_of% (jY (E:=E) (call:=call) (thaw:=thaw) (dst:=dst) (s:=s) (h:=h) (op:=.assign x) (q:=q) ⟨rfl,rfl⟩):=jY ⟨rfl,rfl⟩
theorem aDa{t:TypeId}{q:A->H->Foot->Option R}:type_of% (jY (E:=E) (call:=call) (thaw:=thaw) (dst:=dst) (s:=s) (h:=h) (op:=.alloc t) (q:=q) ⟨rfl,rfl⟩):=jY ⟨rfl,rfl⟩
theorem LL{t:TypeId}{n:Nat}{ps:List (Nat×Operand)}{q:A->H->Foot->Option R}:type_of% (jY (E:=E) (call:=call) (thaw:=thaw) (dst:=dst) (s:=s) (h:=h) (op:=.buildSlice t n ps.toArray) (q:=q) ⟨rfl,rfl⟩):=jY ⟨rfl,rfl⟩
theorem aGW{t u:TypeId}{x:Operand}{q:A->H->Foot->Option R}:type_of% (jY (E:=E) (call:=call) (thaw:=thaw) (dst:=dst) (s:=s) (h:=h) (op:=.convert t u x) (q:=q) ⟨rfl,rfl⟩):=jY ⟨rfl,rfl⟩
theorem OM{t:TypeId}{x y:Operand}{q:A->H->Foot->Option R}:kOpD E call thaw dst (.indexAddr t x y) s h q=kv s x fun b=>kOp E call thaw dst (.indexAddr t x y) s h fun a _=>q a h { ids:=idsA b,ro:=true}:=(YN ⟨rfl,rfl,rfl⟩).trans (aCg rfl)
theorem aA9{args tys:Array _}{q:A->H->Foot->Option R}:type_of% (jY (E:=E) (call:=call) (thaw:=thaw) (dst:=dst) (s:=s) (h:=h) (op:=.call ⟨.builtin .append,args,tys⟩) (q:=q) ⟨rfl,rfl⟩):=jY ⟨rfl,rfl⟩
theorem aKg{x:Operand}{xs:List Operand}{tys:Array _}{q:A->H->Foot->Option R}:kOpD E call thaw dst (.call ⟨.builtin .len,(x::xs).toArray,tys⟩) s h q=kv s x fun b=>kOp E call thaw dst (.call ⟨.builtin .len,(x::xs).toArray,tys⟩) s h fun a _=>q a h { ids:=idsA b,ro:=true}:=(YN ⟨rfl,rfl,rfl⟩).trans (aCg rfl)
theorem aHU{x:Operand}{q:A->H->Foot->Option R}:type_of% (dM (E:=E) (call:=call) (thaw:=thaw) (dst:=dst) (s:=s) (h:=h) (op:=.move x) (q:=q) ⟨rfl,rfl⟩):=dM ⟨rfl,rfl⟩
theorem aHO{c x y:Operand}{q:A->H->Foot->Option R}:type_of% (dM (E:=E) (call:=call) (thaw:=thaw) (dst:=dst) (s:=s) (h:=h) (op:=.pick c x y) (q:=q) ⟨rfl,rfl⟩):=dM ⟨rfl,rfl⟩
theorem SH{x:Operand}{q:A->H->Foot->Option R}:type_of% (dM (E:=E) (call:=call) (thaw:=thaw) (dst:=dst) (s:=s) (h:=h) (op:=.nilCheck x) (q:=q) ⟨rfl,rfl⟩):=dM ⟨rfl,rfl⟩
theorem aKK{op:BinOp}{t:TypeId}{x y:Operand}{t2:TypeId}{q:A->H->Foot->Option R}:type_of% (dM (E:=E) (call:=call) (thaw:=thaw) (dst:=dst) (s:=s) (h:=h) (op:=.binOp op t x y t2) (q:=q) ⟨rfl,rfl⟩):=dM ⟨rfl,rfl⟩
theorem aM3{op:UnOp}{t:TypeId}{x:Operand}{q:A->H->Foot->Option R}:type_of% (dM (E:=E) (call:=call) (thaw:=thaw) (dst:=dst) (s:=s) (h:=h) (op:=.unOp op t x) (q:=q) ⟨rfl,rfl⟩):=dM ⟨rfl,rfl⟩
theorem TN{fn:Fn}{first cap:Array Operand}{q:A->H->Foot->Option R}:type_of% (dM (E:=E) (call:=call) (thaw:=thaw) (dst:=dst) (s:=s) (h:=h) (op:=.makeFunc fn first cap) (q:=q) ⟨rfl,rfl⟩):=dM ⟨rfl,rfl⟩
theorem PX{t:TypeId}{x:Operand}{f:Nat}{q:A->H->Foot->Option R}:type_of% (dM (E:=E) (call:=call) (thaw:=thaw) (dst:=dst) (s:=s) (h:=h) (op:=.fieldAddr t x f) (q:=q) ⟨rfl,rfl⟩):=dM ⟨rfl,rfl⟩
theorem YW{x:Operand}{i:Nat}{q:A->H->Foot->Option R}:type_of% (dM (E:=E) (call:=call) (thaw:=thaw) (dst:=dst) (s:=s) (h:=h) (op:=.extract x i) (q:=q) ⟨rfl,rfl⟩):=dM ⟨rfl,rfl⟩
theorem aEG{t:TypeId}{ps:Array (Nat×Operand)}{q:A->H->Foot->Option R}:type_of% (dM (E:=E) (call:=call) (thaw:=thaw) (dst:=dst) (s:=s) (h:=h) (op:=.build t ps) (q:=q) ⟨rfl,rfl⟩):=dM ⟨rfl,rfl⟩
def aJE(a b:Foot):Bool:=(!a.ro&&(!b.ids.isEmpty&&a.wr.any b.ids.contains))||(!b.ro&&(!a.ids.isEmpty&&b.wr.any a.ids.contains))
theorem aRF{l:List Nat}:l.any (([]:List Nat)).contains=false:=by grind
theorem aHs(a b:Foot):aJE a b=kE a b:=by
 obtain⟨ia,ra,wa⟩:=a;obtain⟨ib,rb,wb⟩:=b;unfold aJE kE
 cases ia<;>cases ib<;>simp
def eD(ops:List Oper)(cs:List Foot):Bool:=
 let b:=K0 ops []
 (List.range cs.length).all fun j=>(List.range j).all fun i=>(b.getD j 0).testBit i|| !aJE (cs.getD i {}) (cs.getD j {})
theorem aPM{src:List Oper}{cs:List Foot}(h:oC src cs=true):eD src cs=true:=by
 unfold eD;simp only[aHs];exact h
theorem aEs{src:List Oper}{cs:List Foot}{x:Option R}(hc:Shut (eD src cs=true)):(if oC src cs=true then x else none)=x:=if_pos (by
 have:=hc.it;unfold eD at this;simp only[aHs]at this;exact this)
theorem aI7{q:List A->H->Option R}:kOps E call thaw [] s h q=q s h:=rfl
theorem aG2{op:Op}{g:Option (Option Tmp×Bool)}{os:List SO}{q:List A->H->Option R}:kOps E call thaw (⟨dst,op,g⟩::os) s h q=u7 g s
  (fun s=>kOp E call thaw dst op s h fun a h'=>match box (aPut s dst a)with|.no=>none|.mk s'=>kOps E call thaw os s' h' q)
  (fun s=>match box (aPut s dst (.d .undef))with|.no=>none|.mk s'=>kOps E call thaw os s' h q):=rfl
theorem aG8{cs:List Foot}{q:List A->H->List Foot->Option R}:vN E call thaw [] s h cs q=q s h cs:=rfl
theorem aFd{op:Op}{g:Option (Option Tmp×Bool)}{os:List SO}{cs:List Foot}{q:List A->H->List Foot->Option R}:vN E call thaw (⟨dst,op,g⟩::os) s h cs q=u7 g s
  (fun s=>kOpD E call thaw dst op s h fun a h' c=>match box (aPut s dst a)with|.no=>none|.mk s'=>vN E call thaw os s' h' (cs++[c]) q)
  (fun s=>match box (aPut s dst (.d .undef))with|.no=>none|.mk s'=>vN E call thaw os s' h (cs++[{}]) q):=rfl
section
variable{L nf:Nat}{live:List Bool}{lp:Nat->Code}{q:Exit->List A->H->Option R}
theorem aDB:cU E call L nf thaw live lp .skip s h q=q .normal s h:=rfl
theorem aGG{l:List SO}:cU E call L nf thaw live lp (.ops l) s h q=kOps E call thaw l s h fun s h=>q .normal s h:=rfl
theorem aA8{l:List SO}{src:Array Oper}:cU E call L nf thaw live lp (.drawn l src) s h q=vN E call thaw l s h [] fun s h cs=>if oC src.toList cs=true then q .normal s h else none:=rfl
theorem aGw{a b:SC}:cU E call L nf thaw live lp (.seq a b) s h q=cU E call L nf thaw live lp a s h fun e s h=>match e with
  |.normal=>cU E call L nf thaw live lp b s h q
  |e=>q e s h:=rfl
theorem aDz{c:Operand}{x y:SC}:cU E call L nf thaw live lp (.cond c x y) s h q=kv s c fun a=>match a with
  |.d (.bool b)=>if b=true then cU E call L nf thaw live lp x s h q else cU E call L nf thaw live lp y s h q
  |_=>none:=rfl
theorem aAy{id:Nat}{c:SC}:cU E call L nf thaw live lp (.block id c) s h q=cU E call L nf thaw live lp c s h fun e s h=>match e with
  |.exit i=>if i=id then q .normal s h else q (.exit i) s h
  |e=>q e s h:=rfl
theorem aE6{i:Nat}:cU E call L nf thaw live lp (.loop i) s h q=match box (rM live s)with
  |.no=>none
  |.mk m=>match box (gc nf m s h)with
   |.mk (s',h')=>aT E call L nf thaw live (lp i) m L s' h' q
   |.no=>none:=rfl
theorem aC1{id:Nat}:cU E call L nf thaw live lp (.exit id) s h q=q (.exit id) s h:=rfl
theorem aHQ:cU E call L nf thaw live lp .ret s h q=q .ret s h:=rfl
theorem VJ{c:Code}{m:List Bool}{n:Nat}:ZS E call L nf thaw live c m n q .normal s h=match box (gc nf m s h)with
  |.mk (s',h')=>aT E call L nf thaw live c m n s' h' q
  |.no=>none:=rfl
theorem aDI{c:Code}{m:List Bool}{n i:Nat}:ZS E call L nf thaw live c m n q (.exit i) s h=match box (gc nf m s h)with
  |.mk (s',h')=>q (.exit i) s' h'
  |.no=>none:=rfl
theorem aHS{c:Code}{m:List Bool}{n:Nat}:ZS E call L nf thaw live c m n q .ret s h=match box (gc nf m s h)with
  |.mk (s',h')=>q .ret s' h'
  |.no=>none:=rfl
end
def aY(E:Env)(call:aX)(h:H)(f:FuncId)(args:List A)(k:A->H->Option R):Option R:=
 match bU call E.hint (pack h (aE aH h (idsL args) [])) f (aF (aK (aE aH h (idsL args) [])) args)with
 |some (a,h1)=>
  if(aE aH h (idsL args) []).length<=h1.length/\closed h (aE aH h (idsL args) []) (idsL args)=true then
   k (mapA (back (aE aH h (idsL args) []) h.length h1.length) a) (bI (back (aE aH h (idsL args) []) h.length h1.length) h (aE aH h (idsL args) []) h1)
  else none
 |none=>none
theorem aRj{f:FuncId}{args:List Operand}{tys:Array TypeId}:kOp E call thaw dst (.call ⟨.value (.func f),args.toArray,tys⟩) s h k=kvs s args fun vs=>aY E call h f vs k:=by
 unfold kOp kvs aY;simp only[opds,bS,cI]
 cases bS s args with
 |none=>rfl
 |some vs=>
  simp only[vB,if_true,iT,idsL,idsA,Ao,aF,mapA,evOp,eM,eW,dS,Aj]
  cases bU call E.hint (pack h (aE aH h (idsL vs) [])) f (aF (aK (aE aH h (idsL vs) [])) vs)with
  |none=>rfl
  |some r=>grind
theorem aGE{f:FuncId}{args:List Operand}{tys:Array TypeId}:kOp E call thaw dst (.call ⟨.value (.func f),args.toArray,tys⟩) s h k=kvs s args fun vs=>aY E call h f vs fun a h'=>match box h' with|.no=>none|.mk h''=>k a h'':=by
 rw[aRj];rfl
def HM(E:Env)(call:aX)(h:H)(f:FuncId)(caps args:List A)(k:A->H->Option R):Option R:=
 match bU call E.hint (pack h (aE aH h (idsL caps++idsL args) [])) f (aF (aK (aE aH h (idsL caps++idsL args) [])) args++aF (aK (aE aH h (idsL caps++idsL args) [])) caps)with
 |some (a,h1)=>
  if(aE aH h (idsL caps++idsL args) []).length<=h1.length/\closed h (aE aH h (idsL caps++idsL args) []) (idsL caps++idsL args)=true then
   k (mapA (back (aE aH h (idsL caps++idsL args) []) h.length h1.length) a) (bI (back (aE aH h (idsL caps++idsL args) []) h.length h1.length) h (aE aH h (idsL caps++idsL args) []) h1)
  else none
 |none=>none
def nS(E:Env)(call:aX)(h:H)(g:A)(args:List A)(k:A->H->Option R):Option R:=
 match g with
 |.d (.fn f caps)=>aY E call h f (args++caps.map .d) k
 |.clo f caps=>HM E call h f caps args k
 |_=>none
theorem bL:∀(asx bs:List A),idsL (asx++bs)=idsL asx++idsL bs
 | [],bs=>by simp[idsL]
 |a::asx,bs=>by simp[idsL,bL asx bs]
theorem aJ6:∀(ds:List D),idsL (ds.map .d)=[]
 | []=>by simp[idsL]
 |d::ds=>by simp[idsL,idsA,aJ6 ds]
theorem cT{f:Nat->Option Nat}:∀(asx bs:List A),aF f (asx++bs)=aF f asx++aF f bs
 | [],bs=>by simp[aF]
 |a::asx,bs=>by simp[aF,cT asx bs]
theorem aFs{f:Nat->Option Nat}:∀(ds:List D),aF f (ds.map .d)=ds.map .d
 | []=>by simp[aF]
 |d::ds=>by simp[aF,mapA,aFs ds]
theorem aQs{g:A}{vs:List A}{tys:Array TypeId}{x:Operand}{args:Array Operand}:(match iT E call thaw h (dS dst (.call ⟨.value x,args,tys⟩)) (g::vs)with
   |some (a,h',_)=>k a h'
   |none=>none)=nS E call h g vs k:=by
 unfold iT;simp only[evOp,eM,dS,aF]
 cases g with
 |d y=>
  cases y with
  |fn f caps=>
   simp only[nS,aY,mapA,eW,idsL,idsA,Ao,bL,aJ6,Aj,cT,aFs]
   cases bU call E.hint (pack h (aE aH h (idsL vs) [])) f (aF (aK (aE aH h (idsL vs) [])) vs++caps.map .d)with
   |none=>rfl
   |some r=>grind
  |_=>simp only[nS,mapA,eW]
 |clo f caps=>
  simp only[nS,HM,mapA,eW,idsL,idsA]
  cases bU call E.hint (pack h (aE aH h (idsL caps++idsL vs) [])) f (aF (aK (aE aH h (idsL caps++idsL vs) [])) vs++aF (aK (aE aH h (idsL caps++idsL vs) [])) caps)with
  |none=>rfl
  |some r=>grind
 |sl id gen off len=>
  simp only[nS,mapA]
  cases aK (aE aH h (idsL (A.sl id gen off len::vs)) []) id<;>rfl
 |ptr id gen off=>
  simp only[nS,mapA]
  cases aK (aE aH h (idsL (A.ptr id gen off::vs)) []) id<;>rfl
 |mp id=>
  simp only[nS,mapA]
  cases aK (aE aH h (idsL (A.mp id::vs)) []) id<;>rfl
 |agg cs=>simp only[nS,mapA,eW]
 |tup cs=>simp only[nS,mapA,eW]
 |junk=>simp only[nS,mapA,eW]
theorem aHt{t:Nat}{args:List Operand}{tys:Array TypeId}:kOp E call thaw dst (.call ⟨.value (.tmp t),args.toArray,tys⟩) s h k=match box (s.getD t (.d .undef))with
  |.no=>none
  |.mk g=>kvs s args fun vs=>nS E call h g vs k:=by
 unfold kOp kvs;simp only[opds,bS,cI,box]
 cases bS s args with
 |none=>rfl
 |some vs=>simp only[vB,if_true];exact aQs
theorem aGq{f:FuncId}{caps:List D}{vs:List A}:nS E call h (.d (.fn f caps)) vs k=match box (vs++caps.map .d)with|.no=>none|.mk as'=>aY E call h f as' k:=rfl
theorem aEw{f:FuncId}{caps vs:List A}:nS E call h (.clo f caps) vs k=HM E call h f caps vs k:=rfl
theorem aBL{h:H}{ids:List Nat}{h1:H}{ord:List Nat}:∀(ord:List Nat) (h h1:H) (f:Nat->Option Nat),ord.length<=h1.length->(bI f h ord h1).length=h.length+(h1.length-ord.length)
 | [],h,h1,f,_=>by simp[bI]
 |i::ord,h,[],f,hl=>by simp at hl
 |i::ord,h,o::h1,f,hl=>by
  simp only[bI,aBL (h:=h) (ids:=ids) (h1:=h1) (ord:=ord) ord _ h1 f (by simpa using hl),Bo,Ad];omega
def wrC(E:Env)(f:FuncId)(ord:List Nat):List Nat:=if(E.hint f).mode==3 then []else ord
def MQ(E:Env)(f:FuncId)(h h':H)(ord:List Nat):Option (H×Foot):=if((E.hint f).mode==1&&h'.length-h.length==0)=true then some (h,{ ids:=ord,ro:=true})else some (h',{ ids:=ord++List.range' h.length (h'.length-h.length),ro:=false,wr:=wrC E f ord++List.range' h.length (h'.length-h.length)})
theorem aOe{f:FuncId}{args:List Operand}{tys:Array TypeId}{q:A->H->Foot->Option R}:kOpD E call thaw dst (.call ⟨.value (.func f),args.toArray,tys⟩) s h q=kvs s args fun vs=>match box (aE aH h (idsL vs) [])with
  |.no=>none
  |.mk ord=>aY E call h f vs fun a h'=>if((E.hint f).mode==1&&h'.length-h.length==0)=true then q a h { ids:=ord,ro:=true}else q a h' { ids:=ord++List.range' h.length (h'.length-h.length),ro:=false,wr:=wrC E f ord++List.range' h.length (h'.length-h.length)}:=by
 unfold kOpD kvs aY;simp only[opds,bS,cI,box]
 cases bS s args with
 |none=>rfl
 |some vs=>
  simp only[pM,pV,Ak,if_false,iT,idsL,idsA,Ao,aF,mapA,evOp,eM,eW,dS,Aj,jR]
  cases bU call E.hint (pack h (aE aH h (idsL vs) [])) f (aF (aK (aE aH h (idsL vs) [])) vs)with
  |none=>rfl
  |some r=>
   obtain⟨a,h1⟩:=r
   by_cases c1:(aE aH h (idsL vs) []).length<=h1.length
   ·by_cases c2:closed h (aE aH h (idsL vs) []) (idsL vs)=true
    ·have e:=aBL (h:=h) (ids:=idsL vs) (h1:=h1) (ord:=[]) (aE aH h (idsL vs) []) h h1 (back (aE aH h (idsL vs) []) h.length h1.length) c1;have e2:(bI (back (aE aH h (idsL vs) []) h.length h1.length) h (aE aH h (idsL vs) []) h1).length-h.length=h1.length-(aE aH h (idsL vs) []).length:=om;simp only[c1,c2,and_self,if_true,e2]
     first|done|rfl|(by_cases c3:((E.hint f).mode==1&&h1.length-(aE aH h (idsL vs) []).length==0)=true<;>simp[c3])
    ·grind
   ·grind
theorem YU{f:FuncId}{args:List Operand}{tys:Array TypeId}{q:A->H->Foot->Option R}:kOpD E call thaw dst (.call ⟨.value (.func f),args.toArray,tys⟩) s h q=kvs s args fun vs=>match box (aE aH h (idsL vs) [])with
  |.no=>none
  |.mk ord=>aY E call h f vs fun a h'=>match box (MQ E f h h' ord)with|.mk (some (h'',c))=>q a h'' c|_=>none:=by
 rw[aOe]
 congr 1
 funext vs
 simp only[box]
 congr 1
 funext a h'
 unfold MQ
 by_cases hc:((E.hint f).mode==1&&h'.length-h.length==0)=true
 ·grind
 ·grind
theorem aLj{t:Nat}{args:List Operand}{tys:Array TypeId}{q:A->H->Foot->Option R}{f:FuncId}{caps:List D}(hg:Now (s.getD t (.d .undef)=.d (.fn f caps))):kOpD E call thaw dst (.call ⟨.value (.tmp t),args.toArray,tys⟩) s h q=kvs s args fun vs=>match box (aE aH h (idsL vs) [])with
  |.no=>none
  |.mk ord=>aY E call h f (vs++caps.map .d) fun a h'=>if((E.hint f).mode==1&&h'.length-h.length==0)=true then q a h { ids:=ord,ro:=true}else q a h' { ids:=ord++List.range' h.length (h'.length-h.length),ro:=false,wr:=wrC E f ord++List.range' h.length (h'.length-h.length)}:=by
 have hg:=hg.it;unfold kOpD kvs aY;simp only[opds,bS,cI,box,hg]
 cases bS s args with
 |none=>rfl
 |some vs=>
  simp only[pM,pV,Ak,if_false,iT,idsL,idsA,Ao,aF,mapA,evOp,eM,eW,dS,Aj,jR,bL,aJ6,cT,aFs]
  cases bU call E.hint (pack h (aE aH h (idsL vs) [])) f (aF (aK (aE aH h (idsL vs) [])) vs++caps.map .d)with
  |none=>rfl
  |some r=>
   obtain⟨a,h1⟩:=r
   by_cases c1:(aE aH h (idsL vs) []).length<=h1.length
   ·by_cases c2:closed h (aE aH h (idsL vs) []) (idsL vs)=true
    ·have e:=aBL (h:=h) (ids:=idsL vs) (h1:=h1) (ord:=[]) (aE aH h (idsL vs) []) h h1 (back (aE aH h (idsL vs) []) h.length h1.length) c1;have e2:(bI (back (aE aH h (idsL vs) []) h.length h1.length) h (aE aH h (idsL vs) []) h1).length-h.length=h1.length-(aE aH h (idsL vs) []).length:=om;simp only[c1,c2,and_self,if_true,e2]
     first|done|rfl|(by_cases c3:((E.hint f).mode==1&&h1.length-(aE aH h (idsL vs) []).length==0)=true<;>simp[c3])
    ·grind
   ·grind
def aTP(E:Env)(call:aX)(thaw:List Nat)(dst:Option Tmp)(op:Op)(s:List A)(h:H)(q:A->H->Foot->Option R):Option R:=kOpD E call thaw dst op s h q
theorem aE8{t:Nat}{args:List Operand}{tys:Array TypeId}{q:A->H->Foot->Option R}:kOpD E call thaw dst (.call ⟨.value (.tmp t),args.toArray,tys⟩) s h q=match box (s.getD t (.d .undef))with
  |.mk (.d (.fn f caps))=>kvs s args fun vs=>match box (aE aH h (idsL vs) [])with
   |.no=>none
   |.mk ord=>match box (vs++caps.map .d)with|.no=>none|.mk as'=>aY E call h f as' fun a h'=>match box (MQ E f h h' ord)with|.mk (some (h'',c))=>q a h'' c|_=>none
  |.mk (.clo f [])=>kvs s args fun vs=>match box (aE aH h (idsL vs) [])with
   |.no=>none
   |.mk ord=>aY E call h f vs fun a h'=>match box (MQ E f h h' ord)with|.mk (some (h'',c))=>q a h'' c|_=>none
  |_=>aTP E call thaw dst (.call ⟨.value (.tmp t),args.toArray,tys⟩) s h q:=by
 have key:=fun(f:FuncId) (caps:List D) hg=>aLj (E:=E) (call:=call) (thaw:=thaw) (dst:=dst) (s:=s) (h:=h) (t:=t) (args:=args) (tys:=tys) (q:=q) (f:=f) (caps:=caps) hg
 have k2:∀f,s.getD t (.d .undef)=.clo f []->kOpD E call thaw dst (.call ⟨.value (.tmp t),args.toArray,tys⟩) s h q=kOpD E call thaw dst (.call ⟨.value (.func f),args.toArray,tys⟩) s h q:=by
  intro f hg;unfold kOpD kvs;simp only[opds,bS,cI,hg]
  cases bS s args<;>rfl
 have fold:∀(f:FuncId) (h h':H) (ord:List Nat) (a:A),(if((E.hint f).mode==1&&h'.length-h.length==0)=true then q a h { ids:=ord,ro:=true}else q a h' { ids:=ord++List.range' h.length (h'.length-h.length),ro:=false,wr:=wrC E f ord++List.range' h.length (h'.length-h.length)})=match box (MQ E f h h' ord)with|.mk (some (h'',c))=>q a h'' c|_=>none:=by
  intro f h h' ord a;unfold MQ
  by_cases hc:((E.hint f).mode==1&&h'.length-h.length==0)=true
  ·simp only[if_pos hc,box]
  ·simp only[if_neg hc,box]
 generalize hs:s.getD t (.d .undef)=a
 cases a with
 |d x=>
  cases x with
  |fn f caps=>
   rw[key f caps ⟨hs⟩];simp only[fold]<;>rfl
  |_=>rfl
 |clo f caps=>
  cases caps with
  |nil=>rw[k2 f hs];exact YU
  |cons c caps=>rfl
 |_=>rfl
theorem AH(n:Nat)(h:H):aE n h [] []=[]:=by cases n<;>rfl
mutual
theorem sV{f:Nat->Option Nat}:∀a:A,idsA a=[]->mapA f a=a
 |.d x,_=>by simp only[mapA]
 |.sl id gen off len,h=>by simp[idsA]at h
 |.ptr id gen off,h=>by simp[idsA]at h
 |.mp id,h=>by simp[idsA]at h
 |.clo g caps,h=>by simp only[idsA]at h;simp only[mapA];rw[fS caps h]
 |.agg cs,h=>by simp only[idsA]at h;simp only[mapA];rw[fS cs h]
 |.tup cs,h=>by simp only[idsA]at h;simp only[mapA];rw[fS cs h]
 |.junk,_=>by simp only[mapA]
theorem fS{f:Nat->Option Nat}:∀asx:List A,idsL asx=[]->aF f asx=asx
 | [],_=>by simp only[aF]
 |a::asx,h=>by
  simp only[idsL,List.append_eq_nil_iff]at h;simp only[aF];rw[sV a h.1,fS asx h.2]
end
theorem aPd{a:A}(h:qX a=true):idsA a=[]:=by
 cases a with
 |d x=>rfl
 |agg cs=>
  simp only[qX]at h;simp only[idsA]
  induction cs with
  |nil=>rfl
  |cons c cs ih=>
   simp only[Bu,Aq]at h;simp only[idsL,ih h.2,Aj]
   cases c<;>first|rfl|simp[isD]at h
 |_=>simp[qX]at h
theorem zJ:∀ {asx:List A},asx.all qX=true->idsL asx=[]
 | [],_=>rfl
 |a::asx,h=>by
  simp only[Bu,Aq]at h;simp only[idsL,aPd h.1,zJ h.2,Aj]
theorem aEP{h:H}:∀ {cs:List A},cs.all isD=true->∃ds,frzL h cs=some (ds,h)/\ds.map .d=cs
 | [],_=>⟨[],rfl,rfl⟩
 |c::cs,hs=>by
  simp only[Bu,Aq]at hs;obtain⟨ds,h1,h2⟩:=aEP (h:=h) hs.2
  cases c with
  |d x=>
   refine⟨x::ds,?_,by simp[h2]⟩;unfold frzL at h1|-;simp only[eN];have:frz deep h (.d x)=some (x,h):=rfl;rw[this];simp only[h1]
  |_=>simp[isD]at hs
theorem u5{h:H}:∀ {asx:List A},asx.all qX=true->d8 h asx=some (asx,h)
 | [],_=>rfl
 |a::asx,hs=>by
  simp only[Bu,Aq]at hs
  have ha:frzA h a=some (a,h):=by
   cases a with
   |d x=>rfl
   |agg cs=>
    obtain⟨ds,h1,h2⟩:=aEP (h:=h) (cs:=cs) (by simpa only[qX]using hs.1);simp only[frzA,h1,h2]
   |_=>simp[qX]at hs
  simp only[d8,ha,u5 hs.2]
theorem aLk{r:A}(h:gX r=true):lD r=true/\mapA (fun k=>back [] 0 0 k) r=r:=by
 cases r with
 |d x=>cases x<;>first|exact⟨rfl,rfl⟩|simp[gX]at h
 |tup vs=>
  simp only[gX]at h
  have key:jV vs=true/\aF (fun k=>back [] 0 0 k) vs=vs:=by
   induction vs with
   |nil=>exact⟨rfl,by simp only[aF]⟩
   |cons v vs ih=>
    simp only[Bu,Aq]at h;obtain⟨i1,i2⟩:=ih h.2
    cases v with
    |d x=>cases x<;>first|(exfalso;simp at h;done)|(refine⟨by simp only[jV,lD,uT,i1,Bw],by simp only[aF,mapA,i2]⟩)
    |_=>grind
  exact⟨by simp only[lD];exact key.1,by simp only[mapA,key.2]⟩
 |_=>simp[gX]at h
theorem aLS{f:FuncId}{args:List A}{r:A}(hs:args.all qX=true)(hc:call f args []=some (r,[]))(hp:gX r=true\/((E.hint f).mode==1||(E.hint f).mode==3)=false):bU call E.hint [] f args=some (r,[]):=by
 unfold bU
 split
 ·exact hc
 ·rename_i hm
  rw[u5 hs];simp only[hc]
  rcases hp with hp|hp
  ·rw[hp];rfl
  ·grind
 ·rename_i hm
  rw[u5 hs];simp only[hc]
  rcases hp with hp|hp
  ·obtain⟨h1,h2⟩:=aLk hp;rw[h1];exact congrArg (fun x=>some (x,([]:H))) h2
  ·grind
 ·rw[u5 hs];simp only[hc]
theorem bX{f:FuncId}{args:List A}{r:A}(hs:args.all qX=true)(hc:call f args []=some (r,[]))(hr:idsA r=[])(hp:gX r=true\/((E.hint f).mode==1||(E.hint f).mode==3)=false):aY E call h f args k=k r h:=by
 unfold aY;rw[zJ hs,AH,fS _ (zJ hs)];have:pack h []=[]:=rfl;rw[this,aLS hs hc hp];simp only[Ac,Ab,true_and,closed,Cc,Bw,if_true,sV r hr,bI,Ar,Aj]
def rD(call:aX)(f:FuncId)(args:List A)(k:A->Option R):Option R:=
 match call f args []with
 |some (r,[])=>if gX r=true then k r else none
 |_=>none
theorem jX{f:FuncId}{args:List A}{r:A}{k:A->Option R}(hc:call f args []=some (r,[]))(hp:gX r=true):rD call f args k=k r:=by
 unfold rD;rw[hc];simp only[hp,if_true]
theorem aPQ{r:A}(h:gX r=true):idsA r=[]:=by
 cases r with
 |d x=>rfl
 |tup vs=>
  simp only[gX]at h;simp only[idsA]
  induction vs with
  |nil=>rfl
  |cons v vs ih=>
   simp only[Bu,Aq]at h;simp only[idsL,ih h.2,Aj]
   cases v with
   |d x=>rfl
   |_=>grind
 |_=>simp[gX]at h
theorem aHh(ord:List Nat)(n:Nat):back ord n ord.length=fun k=>ord[k]?:=by
 funext k
 unfold back
 split
 ·rfl
 ·grind
theorem aJ4{h:H}{ord ids:List Nat}(hc:closed h ord ids=true)(hn:ord.Nodup)(hl:∀i∈ord,i<h.length):bI (fun(k:Nat)=>ord[k]?) h ord (pack h ord)=h:=by
 apply Cn;intro id;rw[CL _ ord h _ id hn hl (by simp[pack])]
 cases hp:aK ord id with
 |none=>
  simp only[]
  split
  ·rfl
  ·rename_i hge
   rw[Cm (by simp[pack]),Cm om];rfl
 |some k=>
  simp only[];have hm:=MN hp;obtain⟨o,ho⟩:∃o,h[id]? =some o:=⟨h[id]'(hl id hm),Ae _⟩
  rw[iF (bF hp) ho,ho,Az,WU hc hm ho]
theorem aLy{f:FuncId}{args:List A}(hm:(E.hint f).mode=1):aY E call h f args k=match box (aE aH h (idsL args) [])with
  |.no=>none
  |.mk ord=>match box (d8 (pack h ord) (aF (aK ord) args))with
   |.mk (some (fs,_))=>if closed h ord (idsL args)=true then rD call f fs fun r=>k r h else none
   |_=>none:=by
 unfold aY bU;rw[hm];simp only[box]
 cases hf:d8 (pack h (aE aH h (idsL args) [])) (aF (aK (aE aH h (idsL args) [])) args)with
 |none=>rfl
 |some r=>
  obtain⟨fs,h1⟩:=r;simp only[rD]
  cases hc:call f fs []with
  |none=>simp
  |some r=>
   obtain⟨a,h2⟩:=r
   cases h2 with
   |cons o h2=>simp
   |nil=>
    by_cases hp:gX a=true
    ·simp only[hp,if_true];have hlen:(pack h (aE aH h (idsL args) [])).length=(aE aH h (idsL args) []).length:=by simp[pack]
     simp only[hlen,Ab,true_and]
     by_cases hcl:closed h (aE aH h (idsL args) []) (idsL args)=true
     ·simp only[hcl,if_true,aHh,sV a (aPQ hp)];rw[aJ4 hcl (bT aH h (idsL args) [] sm) (jZ aH h (idsL args) [] sm)]
     ·grind
    ·grind
def ZA(h:H)(args:List A):Option (List A):=match box (aE aH h (idsL args) [])with
 |.no=>none
 |.mk ord=>match box (d8 (pack h ord) (aF (aK ord) args))with
  |.mk (some (fs,_))=>if closed h ord (idsL args)=true then some fs else none
  |_=>none
theorem dD{f:FuncId}{args:List A}(hm:(E.hint f).mode=1):aY E call h f args k=match box (ZA h args)with
  |.mk (some fs)=>rD call f fs fun r=>k r h
  |_=>none:=by
 rw[aLy hm];unfold ZA;simp only[box]
 cases d8 (pack h (aE aH h (idsL args) [])) (aF (aK (aE aH h (idsL args) [])) args)with
 |none=>rfl
 |some r=>grind
theorem aMx{nf:Nat}{h:H}{ord:List Nat}{s:List A}:trim nf h ord s=match box (pack h ord)with
  |.mk p=>(aS nf p (aF (aK ord) s),cG nf p)
  |.no=>([],[]):=rfl
theorem aR2{nf:Nat}{m:List Bool}{s:List A}{h:H}:gc nf m s h=match box (tidy m s)with
  |.mk s1=>match box (dC nf h (idsL s1))with
   |.mk ord=>trim nf h ord s1
   |.no=>([],[])
  |.no=>([],[]):=rfl
theorem aMH{P:Program}{nf:Nat}{exp:Bool}{rs:List ResultVar}{e:Exit}{s:List A}{h:H}:kFin P nf exp rs e s h=
  if lR e then(match kX P s h rs with
   |some rs=>match oI nf exp h rs with
    |some (xs,h2)=>match box (dC nf h2 (idsL xs))with
     |.mk ord=>match box (trim nf h2 ord xs)with
      |.mk r=>some (tupA r.1,r.2)
      |.no=>none
     |.no=>none
    |none=>none
   |none=>none)else none:=rfl
theorem sZ(nf:Nat)(h:H)(ids:List Nat):dC nf h ids=aE 1099511627776 h (eK (h.take nf)++ids) (List.range nf):=rfl
theorem rng0:List.range 0=[]:=rfl
theorem rng1:List.range 1=[0]:=rfl
theorem rng2:List.range 2=[0,1]:=rfl
theorem XQ(h:H)(ids:List Nat):dC 0 h ids=aE 1099511627776 h ids []:=by
 unfold dC;rfl
theorem x4(n:Nat)(h:H)(acc:List Nat):aE n h [] acc=acc:=by cases n<;>rfl
theorem o6(n:Nat)(h:H)(i:Nat)(todo acc:List Nat):aE (n+1) h (i::todo) acc=if acc.contains i=true then aE n h todo acc
  else match h.getD i .void with
   |.box cs=>aE n h (todo++idsL cs) (acc++[i])
   |.vec cs _ _=>aE n h (todo++idsL cs) (acc++[i])
   |.void=>aE n h todo acc
   |_=>aE n h todo (acc++[i]):=by
 simp only[aE,Aa]
 split
 ·rfl
 ·grind
theorem aI9{α:Type}{c:Prop}[Decidable c]{a:α}(hc:c):(if c then some a else none)=some a:=if_pos hc
def iAnd(k:IntKind)(a b:Int):Int:=k.wrap (BitVec.ofInt k.bits a&&&BitVec.ofInt k.bits b).toNat
def iOr(k:IntKind)(a b:Int):Int:=k.wrap (BitVec.ofInt k.bits a|||BitVec.ofInt k.bits b).toNat
def iXor(k:IntKind)(a b:Int):Int:=k.wrap (BitVec.ofInt k.bits a^^^BitVec.ofInt k.bits b).toNat
section
variable{t:TypeId}{K:IntKind}{a b:Int}
theorem aHM:bW E .add t h (.d (.int K a)) (.d (.int K b))=some (.d (.int K (K.wrap (a+b))),h):=by simp[bW,aBin];rfl
theorem aHG:bW E .sub t h (.d (.int K a)) (.d (.int K b))=some (.d (.int K (K.wrap (a-b))),h):=by simp[bW,aBin];rfl
theorem aGk:bW E .mul t h (.d (.int K a)) (.d (.int K b))=some (.d (.int K (K.wrap (a*b))),h):=by simp[bW,aBin];rfl
theorem aGm:bW E .and t h (.d (.int K a)) (.d (.int K b))=some (.d (.int K (iAnd K a b)),h):=by simp[bW,aBin];rfl
theorem aJv:bW E .or t h (.d (.int K a)) (.d (.int K b))=some (.d (.int K (iOr K a b)),h):=by simp[bW,aBin];rfl
theorem aHc:bW E .xor t h (.d (.int K a)) (.d (.int K b))=some (.d (.int K (iXor K a b)),h):=by simp[bW,aBin];rfl
theorem aHA:bW E .lss t h (.d (.int K a)) (.d (.int K b))=some (.d (.bool (decide (a<b))),h):=by simp[bW,aBin]
theorem aHN:bW E .leq t h (.d (.int K a)) (.d (.int K b))=some (.d (.bool (decide (a<=b))),h):=by simp[bW,aBin]
theorem aGN:bW E .gtr t h (.d (.int K a)) (.d (.int K b))=some (.d (.bool (decide (b<a))),h):=by simp[bW,aBin]
theorem aGA:bW E .geq t h (.d (.int K a)) (.d (.int K b))=some (.d (.bool (decide (b<=a))),h):=by simp[bW,aBin]
theorem aHX:bW E .eql t h (.d (.int K a)) (.d (.int K b))=some (.d (.bool (decide (a=b))),h):=by simp[bW,aBin];rfl
theorem aHL:bW E .neq t h (.d (.int K a)) (.d (.int K b))=some (.d (.bool (!decide (a=b))),h):=by simp[bW,aBin];rfl
theorem aHa(hb:b≠0):bW E .quo t h (.d (.int K a)) (.d (.int K b))=some (.d (.int K (K.wrap (a.tdiv b))),h):=by simp[bW,aBin,hb]
theorem aHl(hb:b≠0):bW E .rem t h (.d (.int K a)) (.d (.int K b))=some (.d (.int K (a.tmod b)),h):=by simp[bW,aBin,hb]
theorem aHw{K2:IntKind}(hb:0<=b):bW E .shl t h (.d (.int K a)) (.d (.int K2 b))=some (.d (.int K (K.wrap (a*2^(min b.toNat K.bits)))),h):=by
 have:¬b<0:=om;simp[bW,aBin,Op.shift,this];rfl
theorem aGO{K2:IntKind}(hb:0<=b):bW E .shr t h (.d (.int K a)) (.d (.int K2 b))=some (.d (.int K (a.fdiv (2^(min b.toNat K.bits)))),h):=by
 have:¬b<0:=om;simp[bW,aBin,Op.shift,this];rfl
theorem aMw{b:Bool}:aUn .not (.d (.bool b))=some (.d (.bool (!b))):=rfl
end
end
theorem WD:type_of% (AI @aDB (AI @aGG (AI @aA8 (AI @aGw (AI @aDz (AI @aAy (AI @aE6 (AI @aC1 (AI @aHQ (AI @aI7 (AI @aG2 (AI @aG8 (AI @aFd (AI @aBt (AI @aAT (AI @aOV (AI @aQo (AI @aMi (AI @aQp (AI @aML (AI @aMG (AI @aMn (AI @aMT (AI @aLb (AI @aJk (AI @PC (AI @HL (AI @aMI (AI @aQc (AI @aJb (AI @W5 (AI @aKB (AI @aJM (AI @aGF (AI @aHK (AI @aMs (AI @aGy (AI @O3 (AI @XY (AI @SZ (AI @aAW (AI @aBj (AI @S0 (AI @TA (AI @aGL (AI @aBf (AI @aA3 (AI @aGE (AI @aMH (AI @VJ (AI @aDI (AI @aHS (AI @aAw @UC))))))))))))))))))))))))))))))))))))))))))))))))))))):=
 ⟨@aDB,@aGG,@aA8,@aGw,@aDz,@aAy,@aE6,@aC1,@aHQ,@aI7,@aG2,@aG8,@aFd,@aBt,@aAT,@aOV,@aQo,@aMi,@aQp,@aML,@aMG,@aMn,@aMT,@aLb,@aJk,@PC,@HL,@aMI,@aQc,@aJb,@W5,@aKB,@aJM,@aGF,@aHK,@aMs,@aGy,@O3,@XY,@SZ,@aAW,@aBj,@S0,@TA,@aGL,@aBf,@aA3,@aGE,@aMH,@VJ,@aDI,@aHS,@aAw,@UC⟩
theorem WDD:type_of% (AI @aHW (AI @aCZ (AI @aBh (AI @aDa (AI @LL (AI @aGW (AI @OM (AI @aA9 (AI @aKg (AI @aHU (AI @aHO (AI @SH (AI @aKK (AI @aM3 (AI @TN (AI @PX (AI @YW (AI @aEG (AI @YU (AI @aHt (AI @aGq @aEw))))))))))))))))))))):=
 ⟨@aHW,@aCZ,@aBh,@aDa,@LL,@aGW,@OM,@aA9,@aKg,@aHU,@aHO,@SH,@aKK,@aM3,@TN,@PX,@YW,@aEG,@YU,@aHt,@aGq,@aEw⟩
theorem WK0:type_of% (AI @aQh (AI @aMw (AI @aHM (AI @aHG (AI @aGk (AI @aGm (AI @aJv (AI @aHc (AI @aHa (AI @aHl (AI @aHw (AI @aGO (AI @aHA (AI @aHN (AI @aGN (AI @aGA (AI @aHX (AI @aHL (AI @List.getD_nil.{0} (AI @Ci.{0} (AI @Bp.{0} (AI @aR2 @aMx)))))))))))))))))))))):=
 ⟨@aQh,@aMw,@aHM,@aHG,@aGk,@aGm,@aJv,@aHc,@aHa,@aHl,@aHw,@aGO,@aHA,@aHN,@aGN,@aGA,@aHX,@aHL,@List.getD_nil.{0},@Ci.{0},@Bp.{0},@aR2,@aMx⟩
theorem WK1:type_of% (AI @Bool.not_true (AI @Bool.not_false (AI @Bool.true_eq_false (AI @decide_eq_true_eq (AI @decide_eq_false_iff_not (AI @Az.{0,0} (AI @decide_true (AI @decide_false (AI @aI9 (AI @Cf (AI @Nat.one_mul (AI @Ba.{0} (AI @Bu.{0} (AI @Cc.{0} (AI @Bw (AI @Bool.and_true @Bool.true_and)))))))))))))))):=
 ⟨@Bool.not_true,@Bool.not_false,@Bool.true_eq_false,@decide_eq_true_eq,@decide_eq_false_iff_not,@Az.{0,0},@decide_true,@decide_false,@aI9,@Cf,@Nat.one_mul,@Ba.{0},@Bu.{0},@Cc.{0},@Bw,@Bool.and_true,@Bool.true_and⟩
theorem WK2:type_of% (AI @Cq (AI @De (AI @List.zip_cons_cons.{0,0} (AI @List.zip_nil_left.{0,0} (AI @List.flatten_cons.{0} (AI @List.flatten_nil.{0} (AI @List.take_zero.{0} (AI @List.take_nil.{0} (AI @List.drop_nil.{0} (AI @Bool.or_self (AI @Bool.or_false (AI @Bz (AI @and_self (AI @and_true (AI @true_and (AI @Bool.or_true (AI @Bool.true_or (AI @Dj.{0} (AI @List.take_succ_cons.{0} (AI @Nat.lt_irrefl (AI @List.head?_cons.{0} (AI @List.contains_cons.{0} (AI @List.contains_nil.{0} @sZ))))))))))))))))))))))):=
 ⟨@Cq,@De,@List.zip_cons_cons.{0,0},@List.zip_nil_left.{0,0},@List.flatten_cons.{0},@List.flatten_nil.{0},@List.take_zero.{0},@List.take_nil.{0},@List.drop_nil.{0},@Bool.or_self,@Bool.or_false,@Bz,@and_self,@and_true,@true_and,@Bool.or_true,@Bool.true_or,@Dj.{0},@List.take_succ_cons.{0},@Nat.lt_irrefl,@List.head?_cons.{0},@List.contains_cons.{0},@List.contains_nil.{0},@sZ⟩
theorem WK3:type_of% (AI @rng0 (AI @rng1 (AI @rng2 (AI @Option.isNone_none.{0} (AI @Option.isNone_some.{0} (AI @Ck.{0} (AI @Cw.{0} (AI @x4 (AI @o6 (AI @beq_self_eq_true.{0} (AI @Nat.succ_ne_self (AI @Nat.zero_ne_one (AI @Af.{0} (AI @or_false @or_true)))))))))))))):=
 ⟨@rng0,@rng1,@rng2,@Option.isNone_none.{0},@Option.isNone_some.{0},@Ck.{0},@Cw.{0},@x4,@o6,@beq_self_eq_true.{0},@Nat.succ_ne_self,@Nat.zero_ne_one,@Af.{0},@or_false,@or_true⟩
theorem WK:type_of% (AI @WK0 (AI @WK1 (AI @WK2 @WK3))):=
 ⟨@WK0,@WK1,@WK2,@WK3⟩
section
variable{E:Env}{vs:List A}{t u:TypeId}{x y:Operand}
theorem aAX:jR E (.convert t u x) vs=(cX E.P u).isNone:=rfl
theorem TK{a:Array Operand}{b:Array TypeId}:jR E (.call ⟨.builtin .append,a,b⟩) vs=false:=rfl
theorem WV:jR E (.alloc t) vs=false:=rfl
theorem TB:jR E (.assign x) vs=false:=rfl
theorem XX:jR E (.store t x y) vs=false:=rfl
theorem aGK{n:Nat}{ps:Array (Nat×Operand)}:jR E (.buildSlice t n ps) vs=false:=rfl
theorem aEu:opds (.alloc t)=[]:=rfl
end
theorem UNx5:type_of% (fun v0 v1 v2 v3=> @outA.eq_2 v0 v1 v2 (A.d v3) nfn):=by intros;rfl
theorem UNx6:type_of% (fun v0 v1 v2 v3 v4 v5 v6=> @outA.eq_2 v0 v1 v2 (A.sl v3 v4 v5 v6) nfn):=by intros;rfl
theorem UNx7:type_of% (fun v0 v1 v2 v3 v4 v5=> @outA.eq_2 v0 v1 v2 (A.ptr v3 v4 v5) nfn):=by intros;rfl
theorem UNx9:type_of% (fun v0 v1 v2 v3 v4=> @outA.eq_2 v0 v1 v2 (A.clo v3 v4) nfn):=by intros;rfl
theorem aSe:type_of% (fun v0 v1 v2 v3 v4=> @outS.eq_2 v0 v1 v2 (D.int v3 v4) nfn):=by intros;rfl
theorem aRW:type_of% (fun v0 v1 v2 v3=> @outS.eq_2 v0 v1 v2 (D.bool v3) nfn):=by intros;rfl
theorem aR7:type_of% (fun v0 v1 v2 v3=> @outS.eq_2 v0 v1 v2 (D.str v3) nfn):=by intros;rfl
theorem aR4:type_of% (fun v0 v1 v2 v3 v4=> @outS.eq_2 v0 v1 v2 (D.ivs v3 v4) nfn):=by intros;rfl
theorem aSk:type_of% (fun v0 v1=> @gA.eq_3 (A.d (D.int v0 v1)) nfn nfn):=by intros;rfl
theorem aSl:type_of% (fun v0=> @gA.eq_3 (A.d (D.bool v0)) nfn nfn):=by intros;rfl
theorem aRR:type_of% (fun v0=> @gA.eq_3 (A.d (D.str v0)) nfn nfn):=by intros;rfl
theorem aR6:type_of% (fun v0 v1=> @gA.eq_3 (A.d (D.ivs v0 v1)) nfn nfn):=by intros;rfl
theorem aR8:type_of% (@gA.eq_3 (A.d D.nils) nfn nfn):=(@gA.eq_3 (A.d D.nils) nfn nfn)
theorem aSg:type_of% (fun v0 v1=> @gA.eq_3 (A.d (D.fn v0 v1)) nfn nfn):=by intros;rfl
theorem aRS:type_of% (fun v0 v1 v2 v3=> @gA.eq_3 (A.sl v0 v1 v2 v3) nfn nfn):=by intros;rfl
theorem aR0:type_of% (fun v0 v1 v2=> @gA.eq_3 (A.ptr v0 v1 v2) nfn nfn):=by intros;rfl
theorem aSb:type_of% (fun v0=> @gA.eq_3 (A.mp v0) nfn nfn):=by intros;rfl
theorem aSh:type_of% (fun v0 v1=> @gA.eq_3 (A.clo v0 v1) nfn nfn):=by intros;rfl
theorem aR1:type_of% (fun v0=> @tidy.eq_3 List.nil v0 nfn nfn):=by intros;rfl
theorem aRV:type_of% (fun v0 v1 v2 v3 v4=> @cE.eq_2 v0 v1 v2 v3 (A.d v4) nfn):=by intros;rfl
theorem aRZ:type_of% (fun v0 v1 v2 v3 v4 v5 v6 v7=> @cE.eq_2 v0 v1 v2 v3 (A.sl v4 v5 v6 v7) nfn):=by intros;rfl
theorem aR3:type_of% (fun v0 v1=> @ZQ.eq_2 v0 (A.d v1) nfn):=by intros;rfl
theorem aRU:type_of% (fun v0 v1 v2=> @frz.eq_5 v0 (A.d v2) v1 nfn nfn nfn):=by intros;rfl
theorem aSj:type_of% (fun v0=> @aZ.eq_2 (A.d v0) nfn):=by intros;rfl
theorem aRX:type_of% (fun v0 v1 v2 v3=> @aZ.eq_2 (A.sl v0 v1 v2 v3) nfn):=by intros;rfl
theorem aRQ:type_of% (fun v0=> @aZ.eq_2 (A.mp v0) nfn):=by intros;rfl
theorem aPE:type_of% (fun v0 v1=> @dU.eq_5 (A.d (D.int v0 v1)) nfn nfn nfn nfn):=by intros;rfl
theorem aQa:type_of% (fun v0=> @dU.eq_5 (A.d (D.bool v0)) nfn nfn nfn nfn):=by intros;rfl
theorem aPc:type_of% (fun v0=> @dU.eq_5 (A.d (D.str v0)) nfn nfn nfn nfn):=by intros;rfl
theorem aOG:type_of% (fun v0 v1=> @dU.eq_5 (A.d (D.ivs v0 v1)) nfn nfn nfn nfn):=by intros;rfl
theorem aPz:type_of% (@dU.eq_5 (A.d D.nils) nfn nfn nfn nfn):=(@dU.eq_5 (A.d D.nils) nfn nfn nfn nfn)
theorem aPu:type_of% (fun v0 v1=> @dU.eq_5 (A.d (D.fn v0 v1)) nfn nfn nfn nfn):=by intros;rfl
theorem aPT:type_of% (fun v0 v1 v2 v3=> @dU.eq_5 (A.sl v0 v1 v2 v3) nfn nfn nfn nfn):=by intros;rfl
theorem aO6:type_of% (fun v0=> @dU.eq_5 (A.mp v0) nfn nfn nfn nfn):=by intros;rfl
theorem aO3:type_of% (fun v0=> @xG.eq_2 (A.d v0) nfn):=by intros;rfl
theorem aPA:type_of% (fun v0 v1 v2 v3=> @xG.eq_2 (A.sl v0 v1 v2 v3) nfn):=by intros;rfl
theorem aPn:type_of% (fun v0=> @xG.eq_2 (A.agg v0) nfn):=by intros;rfl
theorem aP9:type_of% (fun v0 v1 v2 v3=> @eK.eq_4 (O.arr v1 v2 v3) v0 nfn nfn):=by intros;rfl
theorem aOX:type_of% (fun v0 v1=> @eK.eq_4 (O.mp v1) v0 nfn nfn):=by intros;rfl
theorem aOE:type_of% (@tupA.eq_2 List.nil nfn):=(@tupA.eq_2 List.nil nfn)
theorem aQn:type_of% (fun v0 v1 v2=> @tupA.eq_2 (List.cons v0 (List.cons v1 v2)) nfn):=by intros;rfl
theorem aP1:type_of% (fun v0 v1 v2 v3 v4=> @JW.eq_2 v0 v1 (Go.Operand.tmp v4) v2 v3 nfn):=by intros;rfl
theorem aPk:type_of% (fun v0 v1 v2 v3=> @bB.eq_3 v0 (A.d (D.int v2 v3)) v1 nfn):=by intros;rfl
theorem aPh:type_of% (fun v0 v1 v2 v3=> @bB.eq_3 v0 (A.d (D.ivs v2 v3)) v1 nfn):=by intros;rfl
theorem aP0:type_of% (fun v0 v1 v2 v3=> @bB.eq_3 v0 (A.d (D.fn v2 v3)) v1 nfn):=by intros;rfl
theorem aPq:type_of% (fun v0 v1 v2 v3 v4 v5=> @bB.eq_3 v0 (A.sl v2 v3 v4 v5) v1 nfn):=by intros;rfl
theorem aOS:type_of% (fun v0 v1 v2=> @bB.eq_3 v0 (A.mp v2) v1 nfn):=by intros;rfl
theorem aPt:type_of% (fun v0 v1 v2 v3=> @mapO.eq_3 v0 (O.arr v1 v2 v3) nfn nfn):=by intros;rfl
theorem aOu:type_of% (fun v0 v1 v2 v3=> @mapO.eq_3 v0 (O.ice v1 v2 v3) nfn nfn):=by intros;rfl
theorem aPp:type_of% (fun v0 v1=> @mapO.eq_3 v0 (O.log v1) nfn nfn):=by intros;rfl
theorem aOP:type_of% (fun v0 v1=> @mapO.eq_3 v0 (O.mp v1) nfn nfn):=by intros;rfl
theorem aOT:type_of% (fun v0 v1=> @frzA.eq_2 v0 (A.d v1) nfn):=by intros;rfl
theorem aOH:type_of% (fun v0 v1 v2 v3 v4=> @frzA.eq_2 v0 (A.sl v1 v2 v3 v4) nfn):=by intros;rfl
theorem aQg:type_of% (fun v0 v1 v2=> @frzA.eq_2 v0 (A.clo v1 v2) nfn):=by intros;rfl
theorem UN0:type_of% (AI @aEu (AI @aLen.eq_def (AI @TK (AI @aAX (AI @WV (AI @TB (AI @XX (AI @aGK (AI @List.range'.eq_1 (AI @List.range'.eq_2 (AI @OQ.eq_1 @OG.eq_1))))))))))):=
 ⟨@aEu,@aLen.eq_def,@TK,@aAX,@WV,@TB,@XX,@aGK,@List.range'.eq_1,@List.range'.eq_2,@OQ.eq_1,@OG.eq_1⟩
theorem UN1:type_of% (AI @aPut.eq_1 (AI @aPut.eq_2 (AI @lR.eq_1 (AI @lR.eq_2 (AI @outA.eq_1 (AI @UNx5 (AI @UNx6 (AI @UNx7 (AI @UNx9 (AI @outS.eq_1 (AI @aSe (AI @aRW (AI @aR7 (AI @aR4 (AI @outS.eq_3 (AI @outS.eq_4 (AI @outS.eq_6 (AI @CW.eq_1 (AI @CW.eq_2 (AI @idsA.eq_1 @idsA.eq_2)))))))))))))))))))):=
 ⟨@aPut.eq_1,@aPut.eq_2,@lR.eq_1,@lR.eq_2,@outA.eq_1,@UNx5,@UNx6,@UNx7,@UNx9,@outS.eq_1,@aSe,@aRW,@aR7,@aR4,@outS.eq_3,@outS.eq_4,@outS.eq_6,@CW.eq_1,@CW.eq_2,@idsA.eq_1,@idsA.eq_2⟩
theorem UN2:type_of% (AI @idsA.eq_3 (AI @idsA.eq_4 (AI @idsA.eq_5 (AI @idsA.eq_7 (AI @idsA.eq_8 (AI @idsL.eq_1 (AI @idsL.eq_2 (AI @mapA.eq_1 (AI @mapA.eq_2 (AI @mapA.eq_3 (AI @mapA.eq_4 (AI @mapA.eq_5 (AI @mapA.eq_7 (AI @mapA.eq_8 (AI @aS.eq_1 (AI @aS.eq_2 (AI @bM.eq_1 (AI @bM.eq_2 (AI @bM.eq_3 (AI @bM.eq_4 (AI @bM.eq_5 (AI @bM.eq_7 (AI @bM.eq_8 (AI @hU.eq_1 (AI @IX.eq_1 (AI @a8.eq_1 (AI @cG.eq_1 (AI @dP.eq_1 (AI @dP.eq_2 (AI @bY.eq_1 (AI @bY.eq_2 (AI @bY.eq_3 (AI @bY.eq_4 (AI @bY.eq_5 (AI @bY.eq_6 @aF.eq_1))))))))))))))))))))))))))))))))))):=
 ⟨@idsA.eq_3,@idsA.eq_4,@idsA.eq_5,@idsA.eq_7,@idsA.eq_8,@idsL.eq_1,@idsL.eq_2,@mapA.eq_1,@mapA.eq_2,@mapA.eq_3,@mapA.eq_4,@mapA.eq_5,@mapA.eq_7,@mapA.eq_8,@aS.eq_1,@aS.eq_2,@bM.eq_1,@bM.eq_2,@bM.eq_3,@bM.eq_4,@bM.eq_5,@bM.eq_7,@bM.eq_8,@hU.eq_1,@IX.eq_1,@a8.eq_1,@cG.eq_1,@dP.eq_1,@dP.eq_2,@bY.eq_1,@bY.eq_2,@bY.eq_3,@bY.eq_4,@bY.eq_5,@bY.eq_6,@aF.eq_1⟩
theorem UN3:type_of% (AI @aF.eq_2 (AI @rM.eq_1 (AI @rM.eq_2 (AI @rM.eq_3 (AI @gA.eq_1 (AI @gA.eq_2 (AI @aSk (AI @aSl (AI @aRR (AI @aR6 (AI @aR8 (AI @aSg (AI @aRS (AI @aR0 (AI @aSb (AI @aSh (AI @tidy.eq_1 (AI @tidy.eq_2 (AI @aR1 (AI @cE.eq_1 (AI @aRV (AI @aRZ (AI @cE.eq_3 @qB.eq_1))))))))))))))))))))))):=
 ⟨@aF.eq_2,@rM.eq_1,@rM.eq_2,@rM.eq_3,@gA.eq_1,@gA.eq_2,@aSk,@aSl,@aRR,@aR6,@aR8,@aSg,@aRS,@aR0,@aSb,@aSh,@tidy.eq_1,@tidy.eq_2,@aR1,@cE.eq_1,@aRV,@aRZ,@cE.eq_3,@qB.eq_1⟩
theorem UN4:type_of% (AI @mG.eq_1 (AI @pE.eq_1 (AI @GR.eq_1 (AI @ZQ.eq_1 (AI @aR3 (AI @IR.eq_1 (AI @pX.eq_1 (AI @keeps.eq_1 (AI @logs.eq_1 (AI @LK.eq_1 @rR.eq_1)))))))))):=
 ⟨@mG.eq_1,@pE.eq_1,@GR.eq_1,@ZQ.eq_1,@aR3,@IR.eq_1,@pX.eq_1,@keeps.eq_1,@logs.eq_1,@LK.eq_1,@rR.eq_1⟩
theorem UN5:type_of% (AI @cY.eq_2 (AI @cY.eq_4 (AI @kI.eq_1 (AI @pC.eq_1 (AI @CM.eq_1 (AI @m5.eq_1 (AI @m5.eq_2 (AI @tH.eq_1 (AI @iC.eq_1 (AI @iS.eq_1 (AI @iS.eq_3 (AI @frzL.eq_1 (AI @eN.eq_1 (AI @eN.eq_2 (AI @frz.eq_2 (AI @frz.eq_3 (AI @frz.eq_4 (AI @aRU (AI @frz0.eq_1 (AI @frz0.eq_2 (AI @deep.eq_1 (AI @aZ.eq_1 (AI @aSj (AI @aRX @aRQ)))))))))))))))))))))))):=
 ⟨@cY.eq_2,@cY.eq_4,@kI.eq_1,@pC.eq_1,@CM.eq_1,@m5.eq_1,@m5.eq_2,@tH.eq_1,@iC.eq_1,@iS.eq_1,@iS.eq_3,@frzL.eq_1,@eN.eq_1,@eN.eq_2,@frz.eq_2,@frz.eq_3,@frz.eq_4,@aRU,@frz0.eq_1,@frz0.eq_2,@deep.eq_1,@aZ.eq_1,@aSj,@aRX,@aRQ⟩
theorem UN6:type_of% (AI @bG.eq_1 (AI @aPE (AI @aQa (AI @aPc (AI @aOG (AI @aPz (AI @aPu (AI @aPT (AI @aO6 (AI @aO3 (AI @aPA (AI @aPn (AI @eK.eq_1 (AI @eK.eq_2 (AI @aP9 (AI @aOX @kX.eq_1)))))))))))))))):=
 ⟨@bG.eq_1,@aPE,@aQa,@aPc,@aOG,@aPz,@aPu,@aPT,@aO6,@aO3,@aPA,@aPn,@eK.eq_1,@eK.eq_2,@aP9,@aOX,@kX.eq_1⟩
theorem UN7:type_of% (AI @kX.eq_2 (AI @HB.eq_1 (AI @HB.eq_2 (AI @oI.eq_1 (AI @oI.eq_2 (AI @tupA.eq_1 (AI @aOE (AI @aQn (AI @tD.eq_1 (AI @tA.eq_1 (AI @tA.eq_2 (AI @opds.eq_2 (AI @opds.eq_7 (AI @opds.eq_13 (AI @opds.eq_14 @opds.eq_24))))))))))))))):=
 ⟨@kX.eq_2,@HB.eq_1,@HB.eq_2,@oI.eq_1,@oI.eq_2,@tupA.eq_1,@aOE,@aQn,@tD.eq_1,@tA.eq_1,@tA.eq_2,@opds.eq_2,@opds.eq_7,@opds.eq_13,@opds.eq_14,@opds.eq_24⟩
theorem UN8:type_of% (AI @evOp.eq_1 (AI @dS.eq_1 (AI @one.eq_1 (AI @two.eq_1 (AI @BK.eq_1 @aP1))))):=
 ⟨@evOp.eq_1,@dS.eq_1,@one.eq_1,@two.eq_1,@BK.eq_1,@aP1⟩
theorem UN9:type_of% (AI @aNew.eq_1 (AI @pY.eq_3 (AI @pY.eq_4 (AI @xN.eq_1 @PL.eq_1)))):=
 ⟨@aNew.eq_1,@pY.eq_3,@pY.eq_4,@xN.eq_1,@PL.eq_1⟩
theorem UN10:type_of% (AI @back.eq_1 (AI @bI.eq_1 (AI @bI.eq_2 (AI @aH.eq_1 (AI @closed.eq_1 (AI @jM.eq_1 @bB.eq_1)))))):=
 ⟨@back.eq_1,@bI.eq_1,@bI.eq_2,@aH.eq_1,@closed.eq_1,@jM.eq_1,@bB.eq_1⟩
theorem UN11:type_of% (AI @bB.eq_2 (AI @aPk (AI @aPh (AI @aP0 (AI @aPq (AI @aOS (AI @aK.eq_2 (AI @pack.eq_1 (AI @mapO.eq_1 (AI @mapO.eq_2 (AI @aPt (AI @aOu (AI @aPp (AI @aOP (AI @bK.eq_1 (AI @frzA.eq_1 (AI @aOT (AI @aOH (AI @aQg @d8.eq_1))))))))))))))))))):=
 ⟨@bB.eq_2,@aPk,@aPh,@aP0,@aPq,@aOS,@aK.eq_2,@pack.eq_1,@mapO.eq_1,@mapO.eq_2,@aPt,@aOu,@aPp,@aOP,@bK.eq_1,@frzA.eq_1,@aOT,@aOH,@aQg,@d8.eq_1⟩
theorem UN12:type_of% (AI @d8.eq_2 (AI @memD.eq_1 (AI @ZA.eq_1 (AI @MQ.eq_1 @eM.eq_3)))):=
 ⟨@d8.eq_2,@memD.eq_1,@ZA.eq_1,@MQ.eq_1,@eM.eq_3⟩
theorem UN:type_of% (AI @UN0 (AI @UN1 (AI @UN2 (AI @UN3 (AI @UN4 (AI @UN5 (AI @UN6 (AI @UN7 (AI @UN8 (AI @UN9 (AI @UN10 (AI @UN11 @UN12)))))))))))):=
 ⟨@UN0,@UN1,@UN2,@UN3,@UN4,@UN5,@UN6,@UN7,@UN8,@UN9,@UN10,@UN11,@UN12⟩
theorem aSi:type_of% (@bR.eq_5 Go.Code.skip nfn nfn nfn nfn):=(@bR.eq_5 Go.Code.skip nfn nfn nfn nfn)
theorem aSd:type_of% (fun v0 v1 v2=> @bR.eq_5 (Go.Code.region v0 v1 v2) nfn nfn nfn nfn):=(fun v0 v1 v2=> @bR.eq_5 (Go.Code.region v0 v1 v2) nfn nfn nfn nfn)
theorem aR9:type_of% (fun v0=> @bR.eq_5 (Go.Code.exit v0) nfn nfn nfn nfn):=(fun v0=> @bR.eq_5 (Go.Code.exit v0) nfn nfn nfn nfn)
theorem aO8:type_of% (@bR.eq_5 Go.Code.ret nfn nfn nfn nfn):=(@bR.eq_5 Go.Code.ret nfn nfn nfn nfn)
theorem SLM0:type_of% (AI @Bb.{0} (AI @Ac.{0} (AI @Bv (AI @Ag (AI @Ai.{0,0} (AI @Ar.{0,0} (AI @Cp.{0} (AI @Aw.{0} (AI @Dc.{0,0} (AI @Ak (AI @Ad.{0} (AI @List.replicate.eq_1.{0} (AI @List.replicate.eq_2.{0} (AI @Ax.{0} (AI @Ao.{0} (AI @Aj.{0} (AI @List.getD_cons_zero.{0} (AI @List.getD_cons_succ.{0} (AI @aQ.eq_1 (AI @a6.eq_1 (AI @lpOf.eq_1 (AI @aO.eq_1 (AI @slim.eq_1 (AI @slim.eq_2 (AI @slim.eq_3 (AI @slim.eq_4 (AI @slim.eq_5 (AI @slim.eq_6 (AI @slim.eq_7 (AI @slim.eq_8 (AI @bR.eq_1 (AI @bR.eq_2 @bR.eq_3)))))))))))))))))))))))))))))))):=
 ⟨@Bb.{0},@Ac.{0},@Bv,@Ag,@Ai.{0,0},@Ar.{0,0},@Cp.{0},@Aw.{0},@Dc.{0,0},@Ak,@Ad.{0},@List.replicate.eq_1.{0},@List.replicate.eq_2.{0},@Ax.{0},@Ao.{0},@Aj.{0},@List.getD_cons_zero.{0},@List.getD_cons_succ.{0},@aQ.eq_1,@a6.eq_1,@lpOf.eq_1,@aO.eq_1,@slim.eq_1,@slim.eq_2,@slim.eq_3,@slim.eq_4,@slim.eq_5,@slim.eq_6,@slim.eq_7,@slim.eq_8,@bR.eq_1,@bR.eq_2,@bR.eq_3⟩
theorem SLM1:type_of% (AI @bR.eq_4 (AI @aSi (AI @aSd (AI @aR9 (AI @aO8 (AI @GO.eq_1 (AI @LP.eq_1 @LP.eq_2))))))):=
 ⟨@bR.eq_4,@aSi,@aSd,@aR9,@aO8,@GO.eq_1,@LP.eq_1,@LP.eq_2⟩
theorem SLM:type_of% (AI @SLM0 @SLM1):=
 ⟨@SLM0,@SLM1⟩
theorem LN:type_of% (AI @Af.{0} (AI @Ad.{0} (AI @Ac.{0} (AI @Bo.{0} (AI @List.length_replicate.{0} (AI @As.{0,0} (AI @Bs.{0} @Cg.{0}))))))):=
 ⟨@Af.{0},@Ad.{0},@Ac.{0},@Bo.{0},@List.length_replicate.{0},@As.{0,0},@Bs.{0},@Cg.{0}⟩
theorem GT:type_of% (AI @Cp.{0} @Aw.{0}):=
 ⟨@Cp.{0},@Aw.{0}⟩
end Ev
end Go.Proofs.YthlkcebdfbjdoaaGreat
