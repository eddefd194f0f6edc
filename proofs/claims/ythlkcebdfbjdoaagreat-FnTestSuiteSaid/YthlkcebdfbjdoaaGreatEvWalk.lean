/-
  How each operation goes, in the form in which the evaluator is walked.
-/
import Derived.Test.YthlkcebdfbjdoaaGreatEvPrim
set_option linter.unusedSimpArgs false
set_option linter.unusedVariables false
namespace Go.Proofs.YthlkcebdfbjdoaaGreat
namespace Ev
section
variable{R:Type}{E:Env}{call:aZ}{thaw:List Nat}{dst:Option Tmp}{s:List A}{h:H}{k:A->H->Option R}
structure Now(p:Prop):Prop where
 it:p
structure Shut(p:Prop):Prop where
 it:p
inductive Box(α:Type) where
 |mk (a:α)
 |no
def box{α:Type}(a:α):Box α:=.mk a
theorem aNA{α:Type}{a:α}:box a=.mk a:=rfl
theorem aO4{t:Nat}{q:A->Option R}:kv s (.tmp t) q=match box (s.getD t (.d .undef))with|.no=>none|.mk a=>q a:=rfl
theorem aMK{K:IntKind}{n:Int}{q:A->Option R}:kv s (.const (.int K n)) q=q (.d (.int K n)):=rfl
theorem aKI{b:Bool}{q:A->Option R}:kv s (.const (.bool b)) q=q (.d (.bool b)):=rfl
theorem aPG{b:ByteArray}{q:A->Option R}:kv s (.const (.string b)) q=match box b.data.toList with|.no=>none|.mk l=>q (.d (.str l)):=rfl
theorem aKS{q:A->Option R}:kv s (.const (.pointer none)) q=q (.d .nilp):=rfl
theorem aKu{q:A->Option R}:kv s (.const (.slice none 0 0)) q=q (.d .nils):=rfl
theorem aKG{f:FuncId}{q:A->Option R}:kv s (.func f) q=q (.clo f []):=rfl
theorem aNb{cs:Array Value}{q:A->Option R}:kv s (.const (.agg cs)) q=match wB cs.toList with
  |some as=>q (.agg as)
  |none=>none:=by
 unfold kv;simp only[cL,HF]
 cases wB cs.toList<;>rfl
theorem aKl{q:List A->Option R}:kvs s [] q=q []:=rfl
theorem aIz{x:Operand}{xs:List Operand}{q:List A->Option R}:kvs s (x::xs) q=kv s x fun a=>kvs s xs fun as=>q (a::as):=by
 unfold kvs kv;simp only[bS]
 cases cL s x with
 |none=>rfl
 |some a=>grind
theorem YN{yes no:List A->Option R}:uJ none s yes no=yes s:=rfl
theorem YK{t:Nat}{w:Bool}{yes no:List A->Option R}:uJ (some (some t,w)) s yes no=match s.getD t .junk with
  |.d (.bool b)=>if b=w then(match box (s.set t (.d (.bool w)))with|.no=>none|.mk s=>yes s)else(match box (s.set t (.d (.bool (!w))))with|.no=>none|.mk s=>no s)
  |.d .undef=>no s
  |_=>none:=by
 simp only[uJ,Aa]
 cases s[t]? with
 |none=>rfl
 |some a=>
  cases a with
  |d x=>cases x<;>rfl
  |_=>rfl
theorem aGN{x:Operand}:kOp E call thaw dst (.move x) s h k=kv s x fun a=>k a h:=by
 unfold kOp kvs kv;simp only[opds,bS]
 cases cL s x<;>rfl
def kAsg(thaw:List Nat)(dst:Option Tmp)(h:H)(k:A->H->Option R)(a:A):Option R:=
 match a with
 |.d .nils=>match CF thaw dst with
  |0=>k (.d .nils) h
  |e+1=>if e<1000 then k (.sl h.length 0 0 0) (h++[.arr [] e 0])else k (.sl h.length 0 0 0) (h++[.vec [] (e-1000) 0])
 |a=>k a h
theorem M0{t:Nat}:kOp E call thaw dst (.assign (.tmp t)) s h k=match box (s.getD t (.d .undef))with|.no=>none|.mk a=>k a h:=by
 unfold kOp kvs;rfl
theorem G0{v:Value}:kOp E call thaw dst (.assign (.const v)) s h k=kv s (.const v) (kAsg thaw dst h k):=by
 unfold kOp kvs kv kAsg;simp only[opds,bS]
 cases cL s (.const v)with
 |none=>rfl
 |some a=>
  simp only[bP,Ak,if_false,evOp,one,cM,eD]
  cases a with
  |d x=>grind
  |_=>rfl
theorem KU{f:FuncId}:kOp E call thaw dst (.assign (.func f)) s h k=k (.clo f []) h:=by
 rfl
def kRet(r:Option (A×H))(k:A->H->Option R):Option R:=
 match r with
 |some (a,h')=>k a h'
 |none=>none
theorem aKh{op:BinOp}{t:TypeId}{x y:Operand}{t2:TypeId}:kOp E call thaw dst (.binOp op t x y t2) s h k=kv s x fun a=>kv s y fun b=>kRet (bX E op t h a b) k:=by
 unfold kOp kvs kv kRet;simp only[opds,bS]
 cases cL s x with
 |none=>rfl
 |some a=>cases cL s y<;>rfl
theorem aMr{op:UnOp}{t:TypeId}{x:Operand}:kOp E call thaw dst (.unOp op t x) s h k=kv s x fun a=>kRet ((aUn op a).map fun r=>(r,h)) k:=by
 unfold kOp kvs kv kRet;simp only[opds,bS]
 cases cL s x<;>rfl
theorem aHU{c x y:Operand}:kOp E call thaw dst (.pick c x y) s h k=kv s c fun b=>kv s x fun a=>kv s y fun a'=>kRet (MS h [b,a,a']) k:=by
 unfold kOp kvs kv kRet;simp only[opds,bS]
 cases cL s c with
 |none=>rfl
 |some b=>cases cL s x with
  |none=>rfl
  |some a=>cases cL s y<;>rfl
theorem U7{x:Operand}:kOp E call thaw dst (.nilCheck x) s h k=kv s x fun a=>kRet (gG h a) k:=by
 unfold kOp kvs kv kRet;simp only[opds,bS]
 cases cL s x<;>rfl
theorem aIf{t u:TypeId}{x:Operand}:kOp E call thaw dst (.convert t u x) s h k=kv s x fun a=>kRet (fC E.P h t u a) k:=by
 unfold kOp kvs kv kRet;simp only[opds,bS]
 cases cL s x<;>rfl
theorem aIe{t:TypeId}{x:Operand}:kOp E call thaw dst (.load t x) s h k=kv s x fun a=>kRet ((BX E.P h t a).map fun v=>(v,h)) k:=by
 unfold kOp kvs kv kRet;simp only[opds,bS]
 cases cL s x<;>rfl
theorem aFc{t:TypeId}{x y:Operand}:kOp E call thaw dst (.store t x y) s h k=kv s x fun a=>kv s y fun b=>kRet ((j5 E.P h t a b).map fun h'=>(.d .undef,h')) k:=by
 unfold kOp kvs kv kRet;simp only[opds,bS]
 cases cL s x with
 |none=>rfl
 |some a=>cases cL s y<;>rfl
theorem aEm{t:TypeId}:kOp E call thaw dst (.alloc t) s h k=match box (dX E.P t)with
  |.no=>none
  |.mk none=>none
  |.mk (some z)=>kRet (aNew h z) k:=by
 unfold kOp kvs kRet;simp only[opds,bS,bP,Ak,if_false,evOp,eD,box]
 cases dX E.P t<;>rfl
theorem aK1{t:TypeId}{x:Operand}:kOp E call thaw dst (.box t x) s h k=kv s x fun a=>kRet (aNew h a) k:=by
 unfold kOp kvs kv kRet;simp only[opds,bS]
 cases cL s x<;>rfl
theorem aE9{t:TypeId}{ps:List (Nat×Operand)}:kOp E call thaw dst (.build t ps.toArray) s h k=match box (ps.map (·.2))with
  |.no=>none
  |.mk xs=>kvs s xs fun vs=>kRet ((uP E.P t ((ps.map (·.1)).zip vs)).map fun a=>(a,h)) k:=by
 rfl
theorem ML{t:TypeId}{n:Nat}{ps:List (Nat×Operand)}:kOp E call thaw dst (.buildSlice t n ps.toArray) s h k=match box (ps.map (·.2))with
  |.no=>none
  |.mk xs=>kvs s xs fun vs=>kRet (if logs thaw dst=true then mE (kY E.P h t n ((ps.map (·.1)).zip vs))else if keeps thaw dst=true then rU E.P h t n ((ps.map (·.1)).zip vs)else kY E.P h t n ((ps.map (·.1)).zip vs)) k:=by
 rfl
theorem TX{fn:Fn}{cap:List Operand}:kOp E call thaw dst (.makeFunc fn #[] cap.toArray) s h k=kvs s cap fun vs=>kRet (N2 h fn true vs) k:=by
 rfl
theorem PZ{t:TypeId}{x y:Operand}:kOp E call thaw dst (.makeSlice t x y) s h k=kv s x fun a=>kv s y fun b=>kRet (i7 a fun l=>i7 b fun c=>if keeps thaw dst=true then GO E.P h t l c else iG E.P h t l c) k:=by
 unfold kOp kvs kv kRet;simp only[opds,bS]
 cases cL s x with
 |none=>rfl
 |some a=>cases cL s y<;>rfl
theorem YW{t:TypeId}{x:Operand}:kOp E call thaw dst (.slice t x none none none) s h k=kvs s [x] fun vs=>kRet (iY E.P h t false false vs) k:=rfl
theorem Y9{t:TypeId}{x lo:Operand}:kOp E call thaw dst (.slice t x (some lo) none none) s h k=kvs s [x,lo] fun vs=>kRet (iY E.P h t true false vs) k:=rfl
theorem XR{t:TypeId}{x hi:Operand}:kOp E call thaw dst (.slice t x none (some hi) none) s h k=kvs s [x,hi] fun vs=>kRet (iY E.P h t false true vs) k:=rfl
theorem YM{t:TypeId}{x lo hi:Operand}:kOp E call thaw dst (.slice t x (some lo) (some hi) none) s h k=kvs s [x,lo,hi] fun vs=>kRet (iY E.P h t true true vs) k:=rfl
theorem Q1{t:TypeId}{x:Operand}{f:Nat}:kOp E call thaw dst (.fieldAddr t x f) s h k=kv s x fun a=>kRet ((dH E.P t f).bind fun r=>(sO r.1 a).map fun r=>(r,h)) k:=by
 unfold kOp kvs kv kRet;simp only[opds,bS]
 cases cL s x<;>rfl
theorem aEq{t:TypeId}{x:Operand}{f:Nat}:kOp E call thaw dst (.field t x f) s h k=kv s x fun a=>kRet (FW E.P h t f a) k:=by
 unfold kOp kvs kv kRet;simp only[opds,bS]
 cases cL s x<;>rfl
theorem QL{t:TypeId}{x y:Operand}:kOp E call thaw dst (.indexAddr t x y) s h k=kv s x fun a=>kv s y fun b=>kRet (i7 b fun i=>(o6 E.P h t a i).map fun r=>(r,h)) k:=by
 unfold kOp kvs kv kRet;simp only[opds,bS]
 cases cL s x with
 |none=>rfl
 |some a=>cases cL s y<;>rfl
theorem aEo{t:TypeId}{x y:Operand}:kOp E call thaw dst (.index t x y) s h k=kv s x fun a=>kv s y fun b=>kRet (i7 b fun i=>(N1 E.P t a i).map fun r=>(r,h)) k:=by
 unfold kOp kvs kv kRet;simp only[opds,bS]
 cases cL s x with
 |none=>rfl
 |some a=>cases cL s y<;>rfl
theorem ZA{t:TypeId}:kOp E call thaw dst (.makeMap t none) s h k=k (.mp h.length) (h++[.mp []]):=rfl
theorem aB1{t:TypeId}{x y:Operand}{ok:Bool}:kOp E call thaw dst (.lookup t x y ok) s h k=kv s x fun a=>kv s y fun b=>kRet (MM E.P h t ok a b) k:=by
 unfold kOp kvs kv kRet;simp only[opds,bS]
 cases cL s x with
 |none=>rfl
 |some a=>cases cL s y<;>rfl
theorem PX{t:TypeId}{x y z:Operand}:kOp E call thaw dst (.mapUpdate t x y z) s h k=kv s x fun a=>kv s y fun b=>kv s z fun c=>kRet (pC E.P h t a b c) k:=by
 unfold kOp kvs kv kRet;simp only[opds,bS]
 cases cL s x with
 |none=>rfl
 |some a=>cases cL s y with
  |none=>rfl
  |some b=>cases cL s z<;>rfl
theorem YD{x:Operand}{i:Nat}:kOp E call thaw dst (.extract x i) s h k=kv s x fun a=>kRet (xD h i a) k:=by
 unfold kOp kvs kv kRet;simp only[opds,bS]
 cases cL s x<;>rfl
theorem XL{b:Builtin}{args:List Operand}{tys:List TypeId}:kOp E call thaw dst (.call ⟨.builtin b,args.toArray,tys.toArray⟩) s h k=kvs s args fun vs=>kRet (b6 E.P h b tys vs) k:=by
 rfl
theorem cW{op:Op}{q:A->H->Foot->Option R}(hp:Now (bU op=true/\bP op=false)):kOpD E call thaw dst op s h q=kOp E call thaw dst op s h fun a _=>q a h {}:=by
 obtain⟨hp,hc⟩:=hp.it;unfold kOpD kOp kvs;rw[hp,hc]
 cases bS s (opds op)with
 |none=>rfl
 |some vs=>grind
def memD(E:Env)(call:aZ)(thaw:List Nat)(dst:Option Tmp)(op:Op)(h:H)(vs:List A):Option (A×H×Foot):=match box (aD aG h (idsL vs) [])with
 |.no=>none
 |.mk ord=>match box (evOp E call thaw (pack h ord) (eD dst op) (aE (aH ord) vs))with
  |.mk (some (a,h1))=>if ord.length<=h1.length/\closed h ord (idsL vs)=true then
    (if(eE E op vs&&h1.length-ord.length==0)=true then some (mapA (back ord h.length h1.length) a,h,{ ids:=ord,ro:=true})
    else some (mapA (back ord h.length h1.length) a,bG (back ord h.length h1.length) h ord h1,{ ids:=ord++List.range' h.length (h1.length-ord.length),ro:=false,wr:=wrOf E op vs ord++List.range' h.length (h1.length-ord.length)}))
   else none
  |_=>none
theorem eA{op:Op}{q:A->H->Foot->Option R}(hp:Now (bU op=false/\pT op=false)):kOpD E call thaw dst op s h q=match box (opds op)with|.no=>none|.mk xs=>kvs s xs fun vs=>match box (memD E call thaw dst op h vs)with
  |.mk (some (a,h',c))=>q a h' c
  |_=>none:=by
 simp only[box];unfold kOpD kvs;rw[hp.it.1,hp.it.2]
 cases bS s (opds op)with
 |none=>rfl
 |some vs=>
  simp only[Ak,if_false,jG,memD,box]
  cases evOp E call thaw (pack h (aD aG h (idsL vs) [])) (eD dst op) (aE (aH (aD aG h (idsL vs) [])) vs)with
  |none=>rfl
  |some r=>grind
theorem B6{op:Op}{q:A->H->Foot->Option R}(hp:Now (bU op=false/\pT op=true/\bP op=false)):kOpD E call thaw dst op s h q=kvs s (opds op) fun vs=>kOp E call thaw dst op s h fun a _=>q a h { ids:=ids0 vs,ro:=true}:=by
 unfold kOpD kOp kvs;rw[hp.it.1,hp.it.2.1,hp.it.2.2]
 cases bS s (opds op)with
 |none=>rfl
 |some vs=>grind
theorem GD{x:Operand}{xs:List Operand}{op:Op}{q:A->H->Foot->Option R}(hx:opds op=x::xs):(kvs s (opds op) fun vs=>kOp E call thaw dst op s h fun a _=>q a h { ids:=ids0 vs,ro:=true})=kv s x fun b=>kOp E call thaw dst op s h fun a _=>q a h { ids:=idsA b,ro:=true}:=by
 unfold kOp kv;rw[hx];unfold kvs;simp only[bS]
 cases cL s x with
 |none=>rfl
 |some b=>
  cases bS s xs with
  |none=>rfl
  |some bs=>rfl
theorem aE6{t:TypeId}{x:Operand}{q:A->H->Foot->Option R}:kOpD E call thaw dst (.load t x) s h q=kv s x fun b=>kOp E call thaw dst (.load t x) s h fun a _=>q a h { ids:=idsA b,ro:=true}:=(B6 ⟨rfl,rfl,rfl⟩).trans (GD rfl)
theorem ZL{t:TypeId}{x y:Operand}{ok:Bool}{q:A->H->Foot->Option R}:kOpD E call thaw dst (.lookup t x y ok) s h q=kv s x fun b=>kOp E call thaw dst (.lookup t x y ok) s h fun a _=>q a h { ids:=idsA b,ro:=true}:=(B6 ⟨rfl,rfl,rfl⟩).trans (GD rfl)
theorem TV{t:TypeId}{q:A->H->Foot->Option R}:type_of% (eA (E:=E) (call:=call) (thaw:=thaw) (dst:=dst) (s:=s) (h:=h) (op:=.makeMap t none) (q:=q) ⟨rfl,rfl⟩):=eA ⟨rfl,rfl⟩
theorem MK{t:TypeId}{x y z:Operand}{q:A->H->Foot->Option R}:type_of% (eA (E:=E) (call:=call) (thaw:=thaw) (dst:=dst) (s:=s) (h:=h) (op:=.mapUpdate t x y z) (q:=q) ⟨rfl,rfl⟩):=eA ⟨rfl,rfl⟩
theorem aC5{t:TypeId}{x y:Operand}{q:A->H->Foot->Option R}:type_of% (eA (E:=E) (call:=call) (thaw:=thaw) (dst:=dst) (s:=s) (h:=h) (op:=.store t x y) (q:=q) ⟨rfl,rfl⟩):=eA ⟨rfl,rfl⟩
theorem XU{x:Operand}{q:A->H->Foot->Option R}:type_of% (eA (E:=E) (call:=call) (thaw:=thaw) (dst:=dst) (s:=s) (h:=h) (op:=.assign x) (q:=q) ⟨rfl,rfl⟩):=eA ⟨rfl,rfl⟩
theorem aBL{t:TypeId}{q:A->H->Foot->Option R}:type_of% (eA (E:=E) (call:=call) (thaw:=thaw) (dst:=dst) (s:=s) (h:=h) (op:=.alloc t) (q:=q) ⟨rfl,rfl⟩):=eA ⟨rfl,rfl⟩
theorem aHs{t:TypeId}{x:Operand}{q:A->H->Foot->Option R}:type_of% (eA (E:=E) (call:=call) (thaw:=thaw) (dst:=dst) (s:=s) (h:=h) (op:=.box t x) (q:=q) ⟨rfl,rfl⟩):=eA ⟨rfl,rfl⟩
theorem JB{t:TypeId}{n:Nat}{ps:List (Nat×Operand)}{q:A->H->Foot->Option R}:type_of% (eA (E:=E) (call:=call) (thaw:=thaw) (dst:=dst) (s:=s) (h:=h) (op:=.buildSlice t n ps.toArray) (q:=q) ⟨rfl,rfl⟩):=eA ⟨rfl,rfl⟩
theorem aFA{t u:TypeId}{x:Operand}{q:A->H->Foot->Option R}:type_of% (eA (E:=E) (call:=call) (thaw:=thaw) (dst:=dst) (s:=s) (h:=h) (op:=.convert t u x) (q:=q) ⟨rfl,rfl⟩):=eA ⟨rfl,rfl⟩
theorem MT{t:TypeId}{x y:Operand}{q:A->H->Foot->Option R}:type_of% (eA (E:=E) (call:=call) (thaw:=thaw) (dst:=dst) (s:=s) (h:=h) (op:=.makeSlice t x y) (q:=q) ⟨rfl,rfl⟩):=eA ⟨rfl,rfl⟩
theorem aCt{t:TypeId}{x:Operand}{lo hi mx:Option Operand}{q:A->H->Foot->Option R}:kOpD E call thaw dst (.slice t x lo hi mx) s h q=kv s x fun b=>kOp E call thaw dst (.slice t x lo hi mx) s h fun a _=>q a h { ids:=idsA b,ro:=true}:=(B6 ⟨rfl,rfl,rfl⟩).trans (GD rfl)
theorem NO{t:TypeId}{x y:Operand}{q:A->H->Foot->Option R}:kOpD E call thaw dst (.indexAddr t x y) s h q=kv s x fun b=>kOp E call thaw dst (.indexAddr t x y) s h fun a _=>q a h { ids:=idsA b,ro:=true}:=(B6 ⟨rfl,rfl,rfl⟩).trans (GD rfl)
theorem YX{args tys:Array _}{q:A->H->Foot->Option R}:type_of% (eA (E:=E) (call:=call) (thaw:=thaw) (dst:=dst) (s:=s) (h:=h) (op:=.call ⟨.builtin .append,args,tys⟩) (q:=q) ⟨rfl,rfl⟩):=eA ⟨rfl,rfl⟩
theorem aHv{x:Operand}{xs:List Operand}{tys:Array _}{q:A->H->Foot->Option R}:kOpD E call thaw dst (.call ⟨.builtin .len,(x::xs).toArray,tys⟩) s h q=kv s x fun b=>kOp E call thaw dst (.call ⟨.builtin .len,(x::xs).toArray,tys⟩) s h fun a _=>q a h { ids:=idsA b,ro:=true}:=(B6 ⟨rfl,rfl,rfl⟩).trans (GD rfl)
theorem aFN{x:Operand}{q:A->H->Foot->Option R}:type_of% (cW (E:=E) (call:=call) (thaw:=thaw) (dst:=dst) (s:=s) (h:=h) (op:=.move x) (q:=q) ⟨rfl,rfl⟩):=cW ⟨rfl,rfl⟩
theorem aEM{c x y:Operand}{q:A->H->Foot->Option R}:type_of% (cW (E:=E) (call:=call) (thaw:=thaw) (dst:=dst) (s:=s) (h:=h) (op:=.pick c x y) (q:=q) ⟨rfl,rfl⟩):=cW ⟨rfl,rfl⟩
theorem QT{x:Operand}{q:A->H->Foot->Option R}:type_of% (cW (E:=E) (call:=call) (thaw:=thaw) (dst:=dst) (s:=s) (h:=h) (op:=.nilCheck x) (q:=q) ⟨rfl,rfl⟩):=cW ⟨rfl,rfl⟩
theorem aIW{op:BinOp}{t:TypeId}{x y:Operand}{t2:TypeId}{q:A->H->Foot->Option R}:type_of% (cW (E:=E) (call:=call) (thaw:=thaw) (dst:=dst) (s:=s) (h:=h) (op:=.binOp op t x y t2) (q:=q) ⟨rfl,rfl⟩):=cW ⟨rfl,rfl⟩
theorem aKZ{op:UnOp}{t:TypeId}{x:Operand}{q:A->H->Foot->Option R}:type_of% (cW (E:=E) (call:=call) (thaw:=thaw) (dst:=dst) (s:=s) (h:=h) (op:=.unOp op t x) (q:=q) ⟨rfl,rfl⟩):=cW ⟨rfl,rfl⟩
theorem Q5{fn:Fn}{first cap:Array Operand}{q:A->H->Foot->Option R}:type_of% (cW (E:=E) (call:=call) (thaw:=thaw) (dst:=dst) (s:=s) (h:=h) (op:=.makeFunc fn first cap) (q:=q) ⟨rfl,rfl⟩):=cW ⟨rfl,rfl⟩
theorem M5{t:TypeId}{x:Operand}{f:Nat}{q:A->H->Foot->Option R}:type_of% (cW (E:=E) (call:=call) (thaw:=thaw) (dst:=dst) (s:=s) (h:=h) (op:=.fieldAddr t x f) (q:=q) ⟨rfl,rfl⟩):=cW ⟨rfl,rfl⟩
theorem aC3{t:TypeId}{x:Operand}{f:Nat}{q:A->H->Foot->Option R}:type_of% (cW (E:=E) (call:=call) (thaw:=thaw) (dst:=dst) (s:=s) (h:=h) (op:=.field t x f) (q:=q) ⟨rfl,rfl⟩):=cW ⟨rfl,rfl⟩
theorem aAW{t:TypeId}{x y:Operand}{q:A->H->Foot->Option R}:type_of% (cW (E:=E) (call:=call) (thaw:=thaw) (dst:=dst) (s:=s) (h:=h) (op:=.index t x y) (q:=q) ⟨rfl,rfl⟩):=cW ⟨rfl,rfl⟩
theorem RY{x:Operand}{i:Nat}{q:A->H->Foot->Option R}:type_of% (cW (E:=E) (call:=call) (thaw:=thaw) (dst:=dst) (s:=s) (h:=h) (op:=.extract x i) (q:=q) ⟨rfl,rfl⟩):=cW ⟨rfl,rfl⟩
theorem aBE{t:TypeId}{ps:Array (Nat×Operand)}{q:A->H->Foot->Option R}:type_of% (cW (E:=E) (call:=call) (thaw:=thaw) (dst:=dst) (s:=s) (h:=h) (op:=.build t ps) (q:=q) ⟨rfl,rfl⟩):=cW ⟨rfl,rfl⟩
def aHM(a b:Foot):Bool:=(!a.ro&&(!b.ids.isEmpty&&a.wr.any b.ids.contains))||(!b.ro&&(!a.ids.isEmpty&&b.wr.any a.ids.contains))
theorem aQF{l:List Nat}:l.any (([]:List Nat)).contains=false:=by grind
theorem aEi(a b:Foot):aHM a b=kS a b:=by
 obtain⟨ia,ra,wa⟩:=a;obtain⟨ib,rb,wb⟩:=b;unfold aHM kS
 cases ia<;>cases ib<;>simp
def eV(ops:List Oper)(cs:List Foot):Bool:=
 let b:=K0 ops []
 (List.range cs.length).all fun j=>(List.range j).all fun i=>(b.getD j 0).testBit i|| !aHM (cs.getD i {}) (cs.getD j {})
theorem aO3{src:List Oper}{cs:List Foot}(h:oE src cs=true):eV src cs=true:=by
 unfold eV;simp only[aEi];exact h
theorem aCr{src:List Oper}{cs:List Foot}{x:Option R}(hc:Shut (eV src cs=true)):(if oE src cs=true then x else none)=x:=if_pos (by
 have:=hc.it;unfold eV at this;simp only[aEi]at this;exact this)
theorem aG5{q:List A->H->Option R}:kOps E call thaw [] s h q=q s h:=rfl
theorem aFg{op:Op}{g:Option (Option Tmp×Bool)}{os:List SO}{q:List A->H->Option R}:kOps E call thaw (⟨dst,op,g⟩::os) s h q=uJ g s
  (fun s=>kOp E call thaw dst op s h fun a h'=>match box (aPut s dst a)with|.no=>none|.mk s'=>kOps E call thaw os s' h' q)
  (fun s=>match box (aPut s dst (.d .undef))with|.no=>none|.mk s'=>kOps E call thaw os s' h q):=rfl
theorem aEj{cs:List Foot}{q:List A->H->List Foot->Option R}:uY E call thaw [] s h cs q=q s h cs:=rfl
theorem aBP{op:Op}{g:Option (Option Tmp×Bool)}{os:List SO}{cs:List Foot}{q:List A->H->List Foot->Option R}:uY E call thaw (⟨dst,op,g⟩::os) s h cs q=uJ g s
  (fun s=>kOpD E call thaw dst op s h fun a h' c=>match box (aPut s dst a)with|.no=>none|.mk s'=>uY E call thaw os s' h' (cs++[c]) q)
  (fun s=>match box (aPut s dst (.d .undef))with|.no=>none|.mk s'=>uY E call thaw os s' h (cs++[{}]) q):=rfl
section
variable{L nf:Nat}{live:List Bool}{lp:Nat->Code}{q:Exit->List A->H->Option R}
theorem aBa:aK E call L nf thaw live lp .skip s h q=q .normal s h:=rfl
theorem aEV{l:List SO}:aK E call L nf thaw live lp (.ops l) s h q=kOps E call thaw l s h fun s h=>q .normal s h:=rfl
theorem YS{l:List SO}{src:Array Oper}:aK E call L nf thaw live lp (.drawn l src) s h q=uY E call thaw l s h [] fun s h cs=>if oE src.toList cs=true then q .normal s h else none:=rfl
theorem aF0{a b:SC}:aK E call L nf thaw live lp (.seq a b) s h q=aK E call L nf thaw live lp a s h fun e s h=>match e with
  |.normal=>aK E call L nf thaw live lp b s h q
  |e=>q e s h:=rfl
theorem aBY{c:Operand}{x y:SC}:aK E call L nf thaw live lp (.cond c x y) s h q=kv s c fun a=>match a with
  |.d (.bool b)=>if b=true then aK E call L nf thaw live lp x s h q else aK E call L nf thaw live lp y s h q
  |_=>none:=rfl
theorem ZF{id:Nat}{c:SC}:aK E call L nf thaw live lp (.block id c) s h q=aK E call L nf thaw live lp c s h fun e s h=>match e with
  |.exit i=>if i=id then q .normal s h else q (.exit i) s h
  |e=>q e s h:=rfl
theorem aC1{i:Nat}:aK E call L nf thaw live lp (.loop i) s h q=match box (m8 live s)with
  |.no=>none
  |.mk m=>match box (gc nf m s h)with
   |.mk (s',h')=>aM E call L nf thaw live (lp i) m L s' h' q
   |.no=>none:=rfl
theorem aBI{id:Nat}:aK E call L nf thaw live lp (.exit id) s h q=q (.exit id) s h:=rfl
theorem aEC:aK E call L nf thaw live lp .ret s h q=q .ret s h:=rfl
theorem S8{c:Code}{m:List Bool}{n:Nat}:bC E call L nf thaw live c m n q .normal s h=match box (gc nf m s h)with
  |.mk (s',h')=>aM E call L nf thaw live c m n s' h' q
  |.no=>none:=rfl
theorem aBJ{c:Code}{m:List Bool}{n i:Nat}:bC E call L nf thaw live c m n q (.exit i) s h=match box (gc nf m s h)with
  |.mk (s',h')=>q (.exit i) s' h'
  |.no=>none:=rfl
theorem aER{c:Code}{m:List Bool}{n:Nat}:bC E call L nf thaw live c m n q .ret s h=match box (gc nf m s h)with
  |.mk (s',h')=>q .ret s' h'
  |.no=>none:=rfl
end
def a6(E:Env)(call:aZ)(h:H)(f:FuncId)(args:List A)(k:A->H->Option R):Option R:=
 match b8 call E.hint (pack h (aD aG h (idsL args) [])) f (aE (aH (aD aG h (idsL args) [])) args)with
 |some (a,h1)=>
  if(aD aG h (idsL args) []).length<=h1.length/\closed h (aD aG h (idsL args) []) (idsL args)=true then
   k (mapA (back (aD aG h (idsL args) []) h.length h1.length) a) (bG (back (aD aG h (idsL args) []) h.length h1.length) h (aD aG h (idsL args) []) h1)
  else none
 |none=>none
theorem aRk{f:FuncId}{args:List Operand}{tys:Array TypeId}:kOp E call thaw dst (.call ⟨.value (.func f),args.toArray,tys⟩) s h k=kvs s args fun vs=>a6 E call h f vs k:=by
 unfold kOp kvs a6;simp only[opds,bS,cL]
 cases bS s args with
 |none=>rfl
 |some vs=>
  simp only[bP,if_true,jG,idsL,idsA,Am,aE,mapA,evOp,dQ,fH,eD,Ah]
  cases b8 call E.hint (pack h (aD aG h (idsL vs) [])) f (aE (aH (aD aG h (idsL vs) [])) vs)with
  |none=>rfl
  |some r=>grind
theorem aED{f:FuncId}{args:List Operand}{tys:Array TypeId}:kOp E call thaw dst (.call ⟨.value (.func f),args.toArray,tys⟩) s h k=kvs s args fun vs=>a6 E call h f vs fun a h'=>match box h' with|.no=>none|.mk h''=>k a h'':=by
 rw[aRk];rfl
def xH(E:Env)(call:aZ)(h:H)(f:FuncId)(caps args:List A)(k:A->H->Option R):Option R:=
 match b8 call E.hint (pack h (aD aG h (idsL caps++idsL args) [])) f (aE (aH (aD aG h (idsL caps++idsL args) [])) args++aE (aH (aD aG h (idsL caps++idsL args) [])) caps)with
 |some (a,h1)=>
  if(aD aG h (idsL caps++idsL args) []).length<=h1.length/\closed h (aD aG h (idsL caps++idsL args) []) (idsL caps++idsL args)=true then
   k (mapA (back (aD aG h (idsL caps++idsL args) []) h.length h1.length) a) (bG (back (aD aG h (idsL caps++idsL args) []) h.length h1.length) h (aD aG h (idsL caps++idsL args) []) h1)
  else none
 |none=>none
def n5(E:Env)(call:aZ)(h:H)(g:A)(args:List A)(k:A->H->Option R):Option R:=
 match g with
 |.d (.fn f caps)=>a6 E call h f (args++caps.map .d) k
 |.clo f caps=>xH E call h f caps args k
 |_=>none
theorem bM:∀(as bs:List A),idsL (as++bs)=idsL as++idsL bs
 | [],bs=>by simp[idsL]
 |a::as,bs=>by simp[idsL,bM as bs]
theorem aHS:∀(ds:List D),idsL (ds.map .d)=[]
 | []=>by simp[idsL]
 |d::ds=>by simp[idsL,idsA,aHS ds]
theorem c9{f:Nat->Option Nat}:∀(as bs:List A),aE f (as++bs)=aE f as++aE f bs
 | [],bs=>by simp[aE]
 |a::as,bs=>by simp[aE,c9 as bs]
theorem aEf{f:Nat->Option Nat}:∀(ds:List D),aE f (ds.map .d)=ds.map .d
 | []=>by simp[aE]
 |d::ds=>by simp[aE,mapA,aEf ds]
theorem aNP{g:A}{vs:List A}{tys:Array TypeId}{x:Operand}{args:Array Operand}:(match jG E call thaw h (eD dst (.call ⟨.value x,args,tys⟩)) (g::vs)with
   |some (a,h',_)=>k a h'
   |none=>none)=n5 E call h g vs k:=by
 unfold jG;simp only[evOp,dQ,eD,aE]
 cases g with
 |d y=>
  cases y with
  |fn f caps=>
   simp only[n5,a6,mapA,fH,idsL,idsA,Am,bM,aHS,Ah,c9,aEf]
   cases b8 call E.hint (pack h (aD aG h (idsL vs) [])) f (aE (aH (aD aG h (idsL vs) [])) vs++caps.map .d)with
   |none=>rfl
   |some r=>grind
  |_=>simp only[n5,mapA,fH]
 |clo f caps=>
  simp only[n5,xH,mapA,fH,idsL,idsA]
  cases b8 call E.hint (pack h (aD aG h (idsL caps++idsL vs) [])) f (aE (aH (aD aG h (idsL caps++idsL vs) [])) vs++aE (aH (aD aG h (idsL caps++idsL vs) [])) caps)with
  |none=>rfl
  |some r=>grind
 |sl id gen off len=>
  simp only[n5,mapA]
  cases aH (aD aG h (idsL (A.sl id gen off len::vs)) []) id<;>rfl
 |ptr id gen off=>
  simp only[n5,mapA]
  cases aH (aD aG h (idsL (A.ptr id gen off::vs)) []) id<;>rfl
 |mp id=>
  simp only[n5,mapA]
  cases aH (aD aG h (idsL (A.mp id::vs)) []) id<;>rfl
 |agg cs=>simp only[n5,mapA,fH]
 |tup cs=>simp only[n5,mapA,fH]
 |junk=>simp only[n5,mapA,fH]
theorem aFz{t:Nat}{args:List Operand}{tys:Array TypeId}:kOp E call thaw dst (.call ⟨.value (.tmp t),args.toArray,tys⟩) s h k=match box (s.getD t (.d .undef))with
  |.no=>none
  |.mk g=>kvs s args fun vs=>n5 E call h g vs k:=by
 unfold kOp kvs;simp only[opds,bS,cL,box]
 cases bS s args with
 |none=>rfl
 |some vs=>simp only[bP,if_true];exact aNP
theorem aEB{f:FuncId}{caps:List D}{vs:List A}:n5 E call h (.d (.fn f caps)) vs k=match box (vs++caps.map .d)with|.no=>none|.mk as'=>a6 E call h f as' k:=rfl
theorem aC7{f:FuncId}{caps vs:List A}:n5 E call h (.clo f caps) vs k=xH E call h f caps vs k:=rfl
theorem aB0{f:FuncId}{vs:List A}:xH E call h f [] vs k=a6 E call h f vs k:=by
 unfold xH a6;simp only[idsL,Am,aE,Ah];rfl
theorem ZU{h:H}{ids:List Nat}{h1:H}{ord:List Nat}:∀(ord:List Nat) (h h1:H) (f:Nat->Option Nat),ord.length<=h1.length->(bG f h ord h1).length=h.length+(h1.length-ord.length)
 | [],h,h1,f,_=>by simp[bG]
 |i::ord,h,[],f,hl=>by simp at hl
 |i::ord,h,o::h1,f,hl=>by
  simp only[bG,ZU (h:=h) (ids:=ids) (h1:=h1) (ord:=ord) ord _ h1 f (by simpa using hl),Bl,Ad];omega
def wrC(E:Env)(f:FuncId)(ord:List Nat):List Nat:=if(E.hint f).mode==3 then []else ord
def LH(E:Env)(f:FuncId)(h h':H)(ord:List Nat):Option (H×Foot):=if((E.hint f).mode==1&&h'.length-h.length==0)=true then some (h,{ ids:=ord,ro:=true})else some (h',{ ids:=ord++List.range' h.length (h'.length-h.length),ro:=false,wr:=wrC E f ord++List.range' h.length (h'.length-h.length)})
theorem aLg{f:FuncId}{args:List Operand}{tys:Array TypeId}{q:A->H->Foot->Option R}:kOpD E call thaw dst (.call ⟨.value (.func f),args.toArray,tys⟩) s h q=kvs s args fun vs=>match box (aD aG h (idsL vs) [])with
  |.no=>none
  |.mk ord=>a6 E call h f vs fun a h'=>if((E.hint f).mode==1&&h'.length-h.length==0)=true then q a h { ids:=ord,ro:=true}else q a h' { ids:=ord++List.range' h.length (h'.length-h.length),ro:=false,wr:=wrC E f ord++List.range' h.length (h'.length-h.length)}:=by
 unfold kOpD kvs a6;simp only[opds,bS,cL,box]
 cases bS s args with
 |none=>rfl
 |some vs=>
  simp only[bU,pT,Ak,if_false,jG,idsL,idsA,Am,aE,mapA,evOp,dQ,fH,eD,Ah,eE]
  cases b8 call E.hint (pack h (aD aG h (idsL vs) [])) f (aE (aH (aD aG h (idsL vs) [])) vs)with
  |none=>rfl
  |some r=>
   obtain⟨a,h1⟩:=r
   by_cases c1:(aD aG h (idsL vs) []).length<=h1.length
   ·by_cases c2:closed h (aD aG h (idsL vs) []) (idsL vs)=true
    ·have e:=ZU (h:=h) (ids:=idsL vs) (h1:=h1) (ord:=[]) (aD aG h (idsL vs) []) h h1 (back (aD aG h (idsL vs) []) h.length h1.length) c1;have e2:(bG (back (aD aG h (idsL vs) []) h.length h1.length) h (aD aG h (idsL vs) []) h1).length-h.length=h1.length-(aD aG h (idsL vs) []).length:=by omega
     simp only[c1,c2,and_self,if_true,e2]
     first|done|rfl|(by_cases c3:((E.hint f).mode==1&&h1.length-(aD aG h (idsL vs) []).length==0)=true<;>simp[c3])
    ·grind
   ·grind
theorem VM{f:FuncId}{args:List Operand}{tys:Array TypeId}{q:A->H->Foot->Option R}:kOpD E call thaw dst (.call ⟨.value (.func f),args.toArray,tys⟩) s h q=kvs s args fun vs=>match box (aD aG h (idsL vs) [])with
  |.no=>none
  |.mk ord=>a6 E call h f vs fun a h'=>match box (LH E f h h' ord)with|.mk (some (h'',c))=>q a h'' c|_=>none:=by
 rw[aLg]
 congr 1
 funext vs
 simp only[box]
 congr 1
 funext a h'
 unfold LH
 by_cases hc:((E.hint f).mode==1&&h'.length-h.length==0)=true
 ·grind
 ·grind
theorem aJt{t:Nat}{args:List Operand}{tys:Array TypeId}{q:A->H->Foot->Option R}{f:FuncId}{caps:List D}(hg:Now (s.getD t (.d .undef)=.d (.fn f caps))):kOpD E call thaw dst (.call ⟨.value (.tmp t),args.toArray,tys⟩) s h q=kvs s args fun vs=>match box (aD aG h (idsL vs) [])with
  |.no=>none
  |.mk ord=>a6 E call h f (vs++caps.map .d) fun a h'=>if((E.hint f).mode==1&&h'.length-h.length==0)=true then q a h { ids:=ord,ro:=true}else q a h' { ids:=ord++List.range' h.length (h'.length-h.length),ro:=false,wr:=wrC E f ord++List.range' h.length (h'.length-h.length)}:=by
 have hg:=hg.it;unfold kOpD kvs a6;simp only[opds,bS,cL,box,hg]
 cases bS s args with
 |none=>rfl
 |some vs=>
  simp only[bU,pT,Ak,if_false,jG,idsL,idsA,Am,aE,mapA,evOp,dQ,fH,eD,Ah,eE,bM,aHS,c9,aEf]
  cases b8 call E.hint (pack h (aD aG h (idsL vs) [])) f (aE (aH (aD aG h (idsL vs) [])) vs++caps.map .d)with
  |none=>rfl
  |some r=>
   obtain⟨a,h1⟩:=r
   by_cases c1:(aD aG h (idsL vs) []).length<=h1.length
   ·by_cases c2:closed h (aD aG h (idsL vs) []) (idsL vs)=true
    ·have e:=ZU (h:=h) (ids:=idsL vs) (h1:=h1) (ord:=[]) (aD aG h (idsL vs) []) h h1 (back (aD aG h (idsL vs) []) h.length h1.length) c1;have e2:(bG (back (aD aG h (idsL vs) []) h.length h1.length) h (aD aG h (idsL vs) []) h1).length-h.length=h1.length-(aD aG h (idsL vs) []).length:=by omega
     simp only[c1,c2,and_self,if_true,e2]
     first|done|rfl|(by_cases c3:((E.hint f).mode==1&&h1.length-(aD aG h (idsL vs) []).length==0)=true<;>simp[c3])
    ·grind
   ·grind
def aUW(E:Env)(call:aZ)(thaw:List Nat)(dst:Option Tmp)(op:Op)(s:List A)(h:H)(q:A->H->Foot->Option R):Option R:=kOpD E call thaw dst op s h q
theorem aCZ{t:Nat}{args:List Operand}{tys:Array TypeId}{q:A->H->Foot->Option R}:kOpD E call thaw dst (.call ⟨.value (.tmp t),args.toArray,tys⟩) s h q=match box (s.getD t (.d .undef))with
  |.mk (.d (.fn f caps))=>kvs s args fun vs=>match box (aD aG h (idsL vs) [])with
   |.no=>none
   |.mk ord=>match box (vs++caps.map .d)with|.no=>none|.mk as'=>a6 E call h f as' fun a h'=>match box (LH E f h h' ord)with|.mk (some (h'',c))=>q a h'' c|_=>none
  |.mk (.clo f [])=>kvs s args fun vs=>match box (aD aG h (idsL vs) [])with
   |.no=>none
   |.mk ord=>a6 E call h f vs fun a h'=>match box (LH E f h h' ord)with|.mk (some (h'',c))=>q a h'' c|_=>none
  |_=>aUW E call thaw dst (.call ⟨.value (.tmp t),args.toArray,tys⟩) s h q:=by
 have key:=fun(f:FuncId) (caps:List D) hg=>aJt (E:=E) (call:=call) (thaw:=thaw) (dst:=dst) (s:=s) (h:=h) (t:=t) (args:=args) (tys:=tys) (q:=q) (f:=f) (caps:=caps) hg
 have k2:∀f,s.getD t (.d .undef)=.clo f []->kOpD E call thaw dst (.call ⟨.value (.tmp t),args.toArray,tys⟩) s h q=kOpD E call thaw dst (.call ⟨.value (.func f),args.toArray,tys⟩) s h q:=by
  intro f hg;unfold kOpD kvs;simp only[opds,bS,cL,hg]
  cases bS s args<;>rfl
 have fold:∀(f:FuncId) (h h':H) (ord:List Nat) (a:A),(if((E.hint f).mode==1&&h'.length-h.length==0)=true then q a h { ids:=ord,ro:=true}else q a h' { ids:=ord++List.range' h.length (h'.length-h.length),ro:=false,wr:=wrC E f ord++List.range' h.length (h'.length-h.length)})=match box (LH E f h h' ord)with|.mk (some (h'',c))=>q a h'' c|_=>none:=by
  intro f h h' ord a;unfold LH
  by_cases hc:((E.hint f).mode==1&&h'.length-h.length==0)=true
  ·simp only[if_pos hc,box]
  ·simp only[if_neg hc,box]
 generalize hs:s.getD t (.d .undef)=a
 cases a with
 |d x=>
  cases x with
  |fn f caps=>
   rw[key f caps ⟨hs⟩];simp only[fold];rfl
  |_=>rfl
 |clo f caps=>
  cases caps with
  |nil=>rw[k2 f hs];exact VM
  |cons c caps=>rfl
 |_=>rfl
theorem FN(n:Nat)(h:H):aD n h [] []=[]:=by cases n<;>rfl
mutual
theorem rZ{f:Nat->Option Nat}:∀a:A,idsA a=[]->mapA f a=a
 |.d x,_=>by simp only[mapA]
 |.sl id gen off len,h=>by simp[idsA]at h
 |.ptr id gen off,h=>by simp[idsA]at h
 |.mp id,h=>by simp[idsA]at h
 |.clo g caps,h=>by simp only[idsA]at h;simp only[mapA];rw[iT caps h]
 |.agg cs,h=>by simp only[idsA]at h;simp only[mapA];rw[iT cs h]
 |.tup cs,h=>by simp only[idsA]at h;simp only[mapA];rw[iT cs h]
 |.junk,_=>by simp only[mapA]
theorem iT{f:Nat->Option Nat}:∀as:List A,idsL as=[]->aE f as=as
 | [],_=>by simp only[aE]
 |a::as,h=>by
  simp only[idsL,List.append_eq_nil_iff]at h;simp only[aE];rw[rZ a h.1,iT as h.2]
end
theorem aN5{a:A}(h:qH a=true):idsA a=[]:=by
 cases a with
 |d x=>rfl
 |agg cs=>
  simp only[qH]at h;simp only[idsA]
  induction cs with
  |nil=>rfl
  |cons c cs ih=>
   simp only[Bs,Ar]at h;simp only[idsL,ih h.2,Ah]
   cases c<;>first|rfl|simp[isD]at h
 |_=>simp[qH]at h
theorem xY:∀ {as:List A},as.all qH=true->idsL as=[]
 | [],_=>rfl
 |a::as,h=>by
  simp only[Bs,Ar]at h;simp only[idsL,aN5 h.1,xY h.2,Ah]
theorem aCT{h:H}:∀ {cs:List A},cs.all isD=true->∃ds,frzL h cs=some (ds,h)/\ds.map .d=cs
 | [],_=>⟨[],rfl,rfl⟩
 |c::cs,hs=>by
  simp only[Bs,Ar]at hs;obtain⟨ds,h1,h2⟩:=aCT (h:=h) hs.2
  cases c with
  |d x=>
   refine⟨x::ds,?_,by simp[h2]⟩;unfold frzL at h1|-;simp only[fR];have:frz deep h (.d x)=some (x,h):=rfl;rw[this];simp only[h1]
  |_=>simp[isD]at hs
theorem uE{h:H}:∀ {as:List A},as.all qH=true->fB h as=some (as,h)
 | [],_=>rfl
 |a::as,hs=>by
  simp only[Bs,Ar]at hs
  have ha:frzA h a=some (a,h):=by
   cases a with
   |d x=>rfl
   |agg cs=>
    obtain⟨ds,h1,h2⟩:=aCT (h:=h) (cs:=cs) (by simpa only[qH]using hs.1);simp only[frzA,h1,h2]
   |_=>simp[qH]at hs
  simp only[fB,ha,uE hs.2]
theorem aJ7{r:A}(h:iV r=true):lP r=true/\mapA (fun k=>back [] 0 0 k) r=r:=by
 cases r with
 |d x=>cases x<;>first|exact⟨rfl,rfl⟩|simp[iV]at h
 |tup vs=>
  simp only[iV]at h
  have key:kB vs=true/\aE (fun k=>back [] 0 0 k) vs=vs:=by
   induction vs with
   |nil=>exact⟨rfl,by simp only[aE]⟩
   |cons v vs ih=>
    simp only[Bs,Ar]at h;obtain⟨i1,i2⟩:=ih h.2
    cases v with
    |d x=>cases x<;>first|(exfalso;simp at h;done)|(refine⟨by simp only[kB,lP,uK,i1,Bu],by simp only[aE,mapA,i2]⟩)
    |_=>grind
  exact⟨by simp only[lP];exact key.1,by simp only[mapA,key.2]⟩
 |_=>simp[iV]at h
theorem aJd{f:FuncId}{args:List A}{r:A}(hs:args.all qH=true)(hc:call f args []=some (r,[]))(hp:iV r=true\/((E.hint f).mode==1||(E.hint f).mode==3)=false):b8 call E.hint [] f args=some (r,[]):=by
 unfold b8
 split
 ·exact hc
 ·rename_i hm
  rw[uE hs];simp only[hc]
  rcases hp with hp|hp
  ·rw[hp];rfl
  ·grind
 ·rename_i hm
  rw[uE hs];simp only[hc]
  rcases hp with hp|hp
  ·obtain⟨h1,h2⟩:=aJ7 hp;rw[h1];exact congrArg (fun x=>some (x,([]:H))) h2
  ·grind
 ·rw[uE hs];simp only[hc]
theorem c8{f:FuncId}{args:List A}{r:A}(hs:args.all qH=true)(hc:call f args []=some (r,[]))(hr:idsA r=[])(hp:iV r=true\/((E.hint f).mode==1||(E.hint f).mode==3)=false):a6 E call h f args k=k r h:=by
 unfold a6;rw[xY hs,FN,iT _ (xY hs)];have:pack h []=[]:=rfl;rw[this,aJd hs hc hp];simp only[Ac,Ab,true_and,closed,Cb,Bu,if_true,rZ r hr,bG,Ap,Ah]
def qK(call:aZ)(f:FuncId)(args:List A)(k:A->Option R):Option R:=
 match call f args []with
 |some (r,[])=>if iV r=true then k r else none
 |_=>none
theorem lI{f:FuncId}{args:List A}{r:A}{k:A->Option R}(hc:call f args []=some (r,[]))(hp:iV r=true):qK call f args k=k r:=by
 unfold qK;rw[hc];simp only[hp,if_true]
theorem aM4{r:A}(h:iV r=true):idsA r=[]:=by
 cases r with
 |d x=>rfl
 |tup vs=>
  simp only[iV]at h;simp only[idsA]
  induction vs with
  |nil=>rfl
  |cons v vs ih=>
   simp only[Bs,Ar]at h;simp only[idsL,ih h.2,Ah]
   cases v with
   |d x=>rfl
   |_=>grind
 |_=>simp[iV]at h
theorem aFH(ord:List Nat)(n:Nat):back ord n ord.length=fun k=>ord[k]?:=by
 funext k
 unfold back
 split
 ·rfl
 ·grind
theorem aH9{h:H}{ord ids:List Nat}(hc:closed h ord ids=true)(hn:ord.Nodup)(hl:∀i∈ord,i<h.length):bG (fun(k:Nat)=>ord[k]?) h ord (pack h ord)=h:=by
 apply Cm;intro id;rw[BU _ ord h _ id hn hl (by simp[pack])]
 cases hp:aH ord id with
 |none=>
  simp only[]
  split
  ·rfl
  ·rename_i hge
   rw[Ck (by simp[pack]),Ck (by omega)];rfl
 |some k=>
  simp only[];have hm:=JY hp;obtain⟨o,ho⟩:∃o,h[id]? =some o:=⟨h[id]'(hl id hm),Ae _⟩
  rw[iZ (bE hp) ho,ho,Ax,VZ hc hm ho]
theorem aJz{f:FuncId}{args:List A}(hm:(E.hint f).mode=1):a6 E call h f args k=match box (aD aG h (idsL args) [])with
  |.no=>none
  |.mk ord=>match box (fB (pack h ord) (aE (aH ord) args))with
   |.mk (some (fs,_))=>if closed h ord (idsL args)=true then qK call f fs fun r=>k r h else none
   |_=>none:=by
 unfold a6 b8;rw[hm];simp only[box]
 cases hf:fB (pack h (aD aG h (idsL args) [])) (aE (aH (aD aG h (idsL args) [])) args)with
 |none=>rfl
 |some r=>
  obtain⟨fs,h1⟩:=r;simp only[qK]
  cases hc:call f fs []with
  |none=>simp
  |some r=>
   obtain⟨a,h2⟩:=r
   cases h2 with
   |cons o h2=>simp
   |nil=>
    by_cases hp:iV a=true
    ·simp only[hp,if_true];have hlen:(pack h (aD aG h (idsL args) [])).length=(aD aG h (idsL args) []).length:=by simp[pack]
     simp only[hlen,Ab,true_and]
     by_cases hcl:closed h (aD aG h (idsL args) []) (idsL args)=true
     ·simp only[hcl,if_true,aFH,rZ a (aM4 hp)];rw[aH9 hcl (bW aG h (idsL args) [] (by simp)) (kG aG h (idsL args) [] (by simp))]
     ·grind
    ·grind
def WN(h:H)(args:List A):Option (List A):=match box (aD aG h (idsL args) [])with
 |.no=>none
 |.mk ord=>match box (fB (pack h ord) (aE (aH ord) args))with
  |.mk (some (fs,_))=>if closed h ord (idsL args)=true then some fs else none
  |_=>none
theorem dU{f:FuncId}{args:List A}(hm:(E.hint f).mode=1):a6 E call h f args k=match box (WN h args)with
  |.mk (some fs)=>qK call f fs fun r=>k r h
  |_=>none:=by
 rw[aJz hm];unfold WN;simp only[box]
 cases fB (pack h (aD aG h (idsL args) [])) (aE (aH (aD aG h (idsL args) [])) args)with
 |none=>rfl
 |some r=>grind
theorem aKK{nf:Nat}{h:H}{ord:List Nat}{s:List A}:trim nf h ord s=match box (pack h ord)with
  |.mk p=>(aV nf p (aE (aH ord) s),cO nf p)
  |.no=>([],[]):=rfl
theorem aSu{nf:Nat}{m:List Bool}{s:List A}{h:H}:gc nf m s h=match box (tidy m s)with
  |.mk s1=>match box (dR nf h (idsL s1))with
   |.mk ord=>trim nf h ord s1
   |.no=>([],[])
  |.no=>([],[]):=rfl
theorem aKJ{P:Program}{nf:Nat}{exp:Bool}{rs:List ResultVar}{e:Exit}{s:List A}{h:H}:kFin P nf exp rs e s h=
  if fI e then(match lL P s h rs with
   |some rs=>match oT nf exp h rs with
    |some (xs,h2)=>match box (dR nf h2 (idsL xs))with
     |.mk ord=>match box (trim nf h2 ord xs)with
      |.mk r=>some (tupA r.1,r.2)
      |.no=>none
     |.no=>none
    |none=>none
   |none=>none)else none:=rfl
theorem tF(nf:Nat)(h:H)(ids:List Nat):dR nf h ids=aD 1099511627776 h (d6 (h.take nf)++ids) (List.range nf):=rfl
theorem rng0:List.range 0=[]:=rfl
theorem rng1:List.range 1=[0]:=rfl
theorem rng2:List.range 2=[0,1]:=rfl
theorem rng3:List.range 3=[0,1,2]:=rfl
theorem zG(h:H)(ids:List Nat):dR 0 h ids=aD 1099511627776 h ids []:=by
 unfold dR;rfl
theorem wI(n:Nat)(h:H)(acc:List Nat):aD n h [] acc=acc:=by cases n<;>rfl
theorem o9(n:Nat)(h:H)(i:Nat)(todo acc:List Nat):aD (n+1) h (i::todo) acc=if acc.contains i=true then aD n h todo acc
  else match h.getD i .void with
   |.box cs=>aD n h (todo++idsL cs) (acc++[i])
   |.vec cs _ _=>aD n h (todo++idsL cs) (acc++[i])
   |.void=>aD n h todo acc
   |_=>aD n h todo (acc++[i]):=by
 simp only[aD,Aa]
 split
 ·rfl
 ·grind
theorem aHQ{α:Type}{c:Prop}[Decidable c]{a:α}(hc:c):(if c then some a else none)=some a:=if_pos hc
def iAnd(k:IntKind)(a b:Int):Int:=k.wrap (BitVec.ofInt k.bits a&&&BitVec.ofInt k.bits b).toNat
def iOr(k:IntKind)(a b:Int):Int:=k.wrap (BitVec.ofInt k.bits a|||BitVec.ofInt k.bits b).toNat
def iXor(k:IntKind)(a b:Int):Int:=k.wrap (BitVec.ofInt k.bits a^^^BitVec.ofInt k.bits b).toNat
def aTx(k:IntKind)(a b:Int):Int:=k.wrap (BitVec.ofInt k.bits a&&& ~~~BitVec.ofInt k.bits b).toNat
section
variable{t:TypeId}{K:IntKind}{a b:Int}
theorem aFf:bX E .add t h (.d (.int K a)) (.d (.int K b))=some (.d (.int K (K.wrap (a+b))),h):=by simp[bX,aBin];rfl
theorem aEL:bX E .sub t h (.d (.int K a)) (.d (.int K b))=some (.d (.int K (K.wrap (a-b))),h):=by simp[bX,aBin];rfl
theorem aFx:bX E .mul t h (.d (.int K a)) (.d (.int K b))=some (.d (.int K (K.wrap (a*b))),h):=by simp[bX,aBin];rfl
theorem aEQ:bX E .and t h (.d (.int K a)) (.d (.int K b))=some (.d (.int K (iAnd K a b)),h):=by simp[bX,aBin];rfl
theorem aG6:bX E .or t h (.d (.int K a)) (.d (.int K b))=some (.d (.int K (iOr K a b)),h):=by simp[bX,aBin];rfl
theorem aEX:bX E .xor t h (.d (.int K a)) (.d (.int K b))=some (.d (.int K (iXor K a b)),h):=by simp[bX,aBin];rfl
theorem TA:bX E .andNot t h (.d (.int K a)) (.d (.int K b))=some (.d (.int K (aTx K a b)),h):=by simp[bX,aBin];rfl
theorem aFO:bX E .lss t h (.d (.int K a)) (.d (.int K b))=some (.d (.bool (decide (a<b))),h):=by simp[bX,aBin]
theorem aEp:bX E .leq t h (.d (.int K a)) (.d (.int K b))=some (.d (.bool (decide (a<=b))),h):=by simp[bX,aBin]
theorem aFQ:bX E .gtr t h (.d (.int K a)) (.d (.int K b))=some (.d (.bool (decide (b<a))),h):=by simp[bX,aBin]
theorem aEE:bX E .geq t h (.d (.int K a)) (.d (.int K b))=some (.d (.bool (decide (b<=a))),h):=by simp[bX,aBin]
theorem aEx:bX E .eql t h (.d (.int K a)) (.d (.int K b))=some (.d (.bool (decide (a=b))),h):=by simp[bX,aBin];rfl
theorem aF4:bX E .neq t h (.d (.int K a)) (.d (.int K b))=some (.d (.bool (!decide (a=b))),h):=by simp[bX,aBin];rfl
theorem aFT(hb:b≠0):bX E .quo t h (.d (.int K a)) (.d (.int K b))=some (.d (.int K (K.wrap (a.tdiv b))),h):=by simp[bX,aBin,hb]
theorem aFd(hb:b≠0):bX E .rem t h (.d (.int K a)) (.d (.int K b))=some (.d (.int K (a.tmod b)),h):=by simp[bX,aBin,hb]
theorem aFR{K2:IntKind}(hb:0<=b):bX E .shl t h (.d (.int K a)) (.d (.int K2 b))=some (.d (.int K (K.wrap (a*2^(min b.toNat K.bits)))),h):=by
 have:¬b<0:=by omega
 simp[bX,aBin,Op.shift,this];rfl
theorem aFK{K2:IntKind}(hb:0<=b):bX E .shr t h (.d (.int K a)) (.d (.int K2 b))=some (.d (.int K (a.fdiv (2^(min b.toNat K.bits)))),h):=by
 have:¬b<0:=by omega
 simp[bX,aBin,Op.shift,this];rfl
theorem aKP{b:Bool}:aUn .not (.d (.bool b))=some (.d (.bool (!b))):=rfl
end
end
theorem WD:type_of% (AI @aBa (AI @aEV (AI @YS (AI @aF0 (AI @aBY (AI @ZF (AI @aC1 (AI @aBI (AI @aEC (AI @aG5 (AI @aFg (AI @aEj (AI @aBP (AI @YN (AI @YK (AI @aO4 (AI @aMK (AI @aKI (AI @aPG (AI @aKu (AI @aKS (AI @aKG (AI @aNb (AI @aKl (AI @aIz (AI @aGN (AI @M0 (AI @G0 (AI @KU (AI @aKh (AI @aMr (AI @aHU (AI @U7 (AI @aIf (AI @aIe (AI @aFc (AI @aEm (AI @aK1 (AI @aE9 (AI @ML (AI @TX (AI @PZ (AI @YW (AI @Y9 (AI @XR (AI @YM (AI @Q1 (AI @aEq (AI @QL (AI @aEo (AI @YD (AI @XL (AI @aED (AI @aKJ (AI @S8 (AI @aBJ (AI @aER (AI @ZA (AI @aB1 @PX))))))))))))))))))))))))))))))))))))))))))))))))))))))))))):=
 ⟨@aBa,@aEV,@YS,@aF0,@aBY,@ZF,@aC1,@aBI,@aEC,@aG5,@aFg,@aEj,@aBP,@YN,@YK,@aO4,@aMK,@aKI,@aPG,@aKu,@aKS,@aKG,@aNb,@aKl,@aIz,@aGN,@M0,@G0,@KU,@aKh,@aMr,@aHU,@U7,@aIf,@aIe,@aFc,@aEm,@aK1,@aE9,@ML,@TX,@PZ,@YW,@Y9,@XR,@YM,@Q1,@aEq,@QL,@aEo,@YD,@XL,@aED,@aKJ,@S8,@aBJ,@aER,@ZA,@aB1,@PX⟩
theorem WDD:type_of% (AI @aE6 (AI @aC5 (AI @XU (AI @aBL (AI @aHs (AI @JB (AI @aFA (AI @MT (AI @aCt (AI @NO (AI @YX (AI @aHv (AI @aFN (AI @aEM (AI @QT (AI @aIW (AI @aKZ (AI @Q5 (AI @M5 (AI @aC3 (AI @aAW (AI @RY (AI @aBE (AI @VM (AI @aFz (AI @aEB (AI @aC7 (AI @aB0 (AI @ZL (AI @TV @MK)))))))))))))))))))))))))))))):=
 ⟨@aE6,@aC5,@XU,@aBL,@aHs,@JB,@aFA,@MT,@aCt,@NO,@YX,@aHv,@aFN,@aEM,@QT,@aIW,@aKZ,@Q5,@M5,@aC3,@aAW,@RY,@aBE,@VM,@aFz,@aEB,@aC7,@aB0,@ZL,@TV,@MK⟩
theorem WK0:type_of% (AI @aNA (AI @aKP (AI @aFf (AI @aEL (AI @aFx (AI @aEQ (AI @aG6 (AI @aEX (AI @TA (AI @aFT (AI @aFd (AI @aFR (AI @aFK (AI @aFO (AI @aEp (AI @aFQ (AI @aEE (AI @aEx (AI @aF4 (AI @ne_eq.{0} (AI @not_true_eq_false (AI @if_false.{0} (AI @if_true.{0} (AI @List.getD_nil.{0} (AI @List.getD_cons_zero.{0} (AI @Ed.{0} (AI @Cf.{0} (AI @Bn.{0} (AI @aSu @aKK))))))))))))))))))))))))))))):=
 ⟨@aNA,@aKP,@aFf,@aEL,@aFx,@aEQ,@aG6,@aEX,@TA,@aFT,@aFd,@aFR,@aFK,@aFO,@aEp,@aFQ,@aEE,@aEx,@aF4,@ne_eq.{0},@not_true_eq_false,@if_false.{0},@if_true.{0},@List.getD_nil.{0},@List.getD_cons_zero.{0},@Ed.{0},@Cf.{0},@Bn.{0},@aSu,@aKK⟩
theorem WK1:type_of% (AI @Bool.not_true (AI @Bool.not_false (AI @Bool.true_eq_false (AI @Ak (AI @decide_eq_true_eq (AI @decide_eq_false_iff_not (AI @Ax.{0,0} (AI @Ct.{0,0} (AI @Ah.{0} (AI @Am.{0} (AI @Ap.{0,0} (AI @decide_true (AI @decide_false (AI @Bool.not_eq_false' (AI @Cx (AI @aHQ (AI @Cc (AI @Nat.one_mul (AI @Ag (AI @Bp (AI @Ce.{0} (AI @At.{0} (AI @Ad.{0} (AI @Ac.{0} (AI @Bc.{0} (AI @Bs.{0} (AI @Cb.{0} (AI @Bu (AI @Bool.and_true @Bool.true_and))))))))))))))))))))))))))))):=
 ⟨@Bool.not_true,@Bool.not_false,@Bool.true_eq_false,@Ak,@decide_eq_true_eq,@decide_eq_false_iff_not,@Ax.{0,0},@Ct.{0,0},@Ah.{0},@Am.{0},@Ap.{0,0},@decide_true,@decide_false,@Bool.not_eq_false',@Cx,@aHQ,@Cc,@Nat.one_mul,@Ag,@Bp,@Ce.{0},@At.{0},@Ad.{0},@Ac.{0},@Bc.{0},@Bs.{0},@Cb.{0},@Bu,@Bool.and_true,@Bool.true_and⟩
theorem WK2:type_of% (AI @Cy (AI @Dg (AI @Ai.{0,0} (AI @List.zip_cons_cons.{0,0} (AI @List.zip_nil_left.{0,0} (AI @List.flatten_cons.{0} (AI @List.flatten_nil.{0} (AI @List.take_zero.{0} (AI @List.take_nil.{0} (AI @List.drop_nil.{0} (AI @Av.{0} (AI @Bool.or_self (AI @Bool.or_false (AI @Bool.false_or (AI @Bw (AI @and_self (AI @and_true (AI @true_and (AI @Bool.or_true (AI @Bool.true_or (AI @Cp.{0,0} (AI @Dh.{0} (AI @List.take_succ_cons.{0} (AI @Nat.lt_irrefl (AI @List.head?_cons.{0} (AI @Option.any_some.{0} (AI @List.contains_cons.{0} (AI @List.contains_nil.{0} (AI @zG @tF))))))))))))))))))))))))))))):=
 ⟨@Cy,@Dg,@Ai.{0,0},@List.zip_cons_cons.{0,0},@List.zip_nil_left.{0,0},@List.flatten_cons.{0},@List.flatten_nil.{0},@List.take_zero.{0},@List.take_nil.{0},@List.drop_nil.{0},@Av.{0},@Bool.or_self,@Bool.or_false,@Bool.false_or,@Bw,@and_self,@and_true,@true_and,@Bool.or_true,@Bool.true_or,@Cp.{0,0},@Dh.{0},@List.take_succ_cons.{0},@Nat.lt_irrefl,@List.head?_cons.{0},@Option.any_some.{0},@List.contains_cons.{0},@List.contains_nil.{0},@zG,@tF⟩
theorem WK3:type_of% (AI @rng0 (AI @rng1 (AI @rng2 (AI @rng3 (AI @Dj.{0} (AI @Option.isNone_none.{0} (AI @Option.isNone_some.{0} (AI @Cn.{0} (AI @Db.{0} (AI @wI (AI @o9 (AI @beq_self_eq_true.{0} (AI @Nat.succ_ne_self (AI @Nat.zero_ne_one (AI @Nat.one_ne_zero (AI @Af.{0} (AI @false_or (AI @or_false (AI @or_true (AI @true_or (AI @Cr.{0} (AI @Option.toList_none.{0} @Option.toList_some.{0})))))))))))))))))))))):=
 ⟨@rng0,@rng1,@rng2,@rng3,@Dj.{0},@Option.isNone_none.{0},@Option.isNone_some.{0},@Cn.{0},@Db.{0},@wI,@o9,@beq_self_eq_true.{0},@Nat.succ_ne_self,@Nat.zero_ne_one,@Nat.one_ne_zero,@Af.{0},@false_or,@or_false,@or_true,@true_or,@Cr.{0},@Option.toList_none.{0},@Option.toList_some.{0}⟩
theorem WK:type_of% (AI @WK0 (AI @WK1 (AI @WK2 @WK3))):=
 ⟨@WK0,@WK1,@WK2,@WK3⟩
section
variable{E:Env}{vs:List A}{t u:TypeId}{x y:Operand}
theorem YU:eE E (.load t x) vs=true:=rfl
theorem VE{a b c:Option Operand}:eE E (.slice t x a b c) vs=true:=rfl
theorem aEt:eE E (.indexAddr t x y) vs=true:=rfl
theorem XM:eE E (.convert t u x) vs=(cY E.P u).isNone:=rfl
theorem QZ{a:Array Operand}{b:Array TypeId}:eE E (.call ⟨.builtin .append,a,b⟩) vs=false:=rfl
theorem aA2{a:Array Operand}{b:Array TypeId}:eE E (.call ⟨.builtin .len,a,b⟩) vs=true:=rfl
theorem aAX{a:Array Operand}{b:Array TypeId}{f:FuncId}{c:List A}:eE E (.call ⟨.value x,a,b⟩) (.clo f c::vs)=((E.hint f).mode==1):=rfl
theorem aEN{a:Array Operand}{b:Array TypeId}{f:FuncId}{c:List D}:eE E (.call ⟨.value x,a,b⟩) (.d (.fn f c)::vs)=((E.hint f).mode==1):=rfl
theorem aCQ:eE E (.box t x) vs=false:=rfl
theorem TJ:eE E (.alloc t) vs=false:=rfl
theorem QU:eE E (.assign x) vs=false:=rfl
theorem SQ:eE E (.store t x y) vs=false:=rfl
theorem aFu{n:Nat}{ps:Array (Nat×Operand)}:eE E (.buildSlice t n ps) vs=false:=rfl
theorem aEG:eE E (.makeSlice t x y) vs=false:=rfl
theorem aEZ:eE E (.makeMap t none) vs=false:=rfl
theorem aFS{z:Operand}:eE E (.mapUpdate t x y z) vs=false:=rfl
theorem aKB{b:Bool}:bU (.lookup t x y b)=false:=rfl
theorem aKF:bU (.makeMap t none)=false:=rfl
theorem aKN{z:Operand}:bU (.mapUpdate t x y z)=false:=rfl
theorem aA7:opds (.alloc t)=[]:=rfl
theorem aFt:bU (.load t x)=false:=rfl
theorem aBm:bU (.store t x y)=false:=rfl
theorem ZH:bU (.assign x)=false:=rfl
theorem aC8:bU (.alloc t)=false:=rfl
theorem aIn:bU (.box t x)=false:=rfl
theorem aKq{n:Nat}{ps:Array (Nat×Operand)}:bU (.buildSlice t n ps)=false:=rfl
theorem aEk:bU (.convert t u x)=false:=rfl
theorem aKx:bU (.makeSlice t x y)=false:=rfl
theorem aCR{a b c:Option Operand}:bU (.slice t x a b c)=false:=rfl
theorem aKf:bU (.indexAddr t x y)=false:=rfl
theorem aF1{c:Call}:bU (.call c)=false:=rfl
end
theorem UNx1:type_of% (fun v0=> @fI.eq_3 (Go.Exit.exit v0) (by nofun) (by nofun)):=by intros;rfl
theorem UNx2:type_of% (fun v0=> @fI.eq_3 (Go.Exit.goto v0) (by nofun) (by nofun)):=by intros;rfl
theorem UNx3:type_of% (fun v0=> @fI.eq_3 (Go.Exit.panic v0) (by nofun) (by nofun)):=by intros;rfl
theorem UNx4:type_of% (@fI.eq_3 Go.Exit.outgrown (by nofun) (by nofun)):=(@fI.eq_3 Go.Exit.outgrown (by nofun) (by nofun))
theorem UNx5:type_of% (fun v0 v1 v2 v3=> @outA.eq_2 v0 v1 v2 (A.d v3) (by nofun)):=by intros;rfl
theorem UNx6:type_of% (fun v0 v1 v2 v3 v4 v5 v6=> @outA.eq_2 v0 v1 v2 (A.sl v3 v4 v5 v6) (by nofun)):=by intros;rfl
theorem UNx7:type_of% (fun v0 v1 v2 v3 v4 v5=> @outA.eq_2 v0 v1 v2 (A.ptr v3 v4 v5) (by nofun)):=by intros;rfl
theorem UNx8:type_of% (fun v0 v1 v2 v3=> @outA.eq_2 v0 v1 v2 (A.mp v3) (by nofun)):=by intros;rfl
theorem UNx9:type_of% (fun v0 v1 v2 v3 v4=> @outA.eq_2 v0 v1 v2 (A.clo v3 v4) (by nofun)):=by intros;rfl
theorem aSa:type_of% (fun v0 v1 v2 v3=> @outA.eq_2 v0 v1 v2 (A.tup v3) (by nofun)):=by intros;rfl
theorem aR5:type_of% (fun v0 v1 v2=> @outA.eq_2 v0 v1 v2 A.junk (by nofun)):=by intros;rfl
theorem aRO:type_of% (fun v0 v1 v2=> @outS.eq_2 v0 v1 v2 D.undef (by nofun)):=by intros;rfl
theorem aSj:type_of% (fun v0 v1 v2 v3 v4=> @outS.eq_2 v0 v1 v2 (D.int v3 v4) (by nofun)):=by intros;rfl
theorem aSN:type_of% (fun v0 v1 v2 v3=> @outS.eq_2 v0 v1 v2 (D.bool v3) (by nofun)):=by intros;rfl
theorem aSK:type_of% (fun v0 v1 v2 v3=> @outS.eq_2 v0 v1 v2 (D.str v3) (by nofun)):=by intros;rfl
theorem aSz:type_of% (fun v0 v1 v2 v3 v4=> @outS.eq_2 v0 v1 v2 (D.ivs v3 v4) (by nofun)):=by intros;rfl
theorem aSL:type_of% (fun v0 v1 v2 v3=> @outS.eq_2 v0 v1 v2 (D.iptr v3) (by nofun)):=by intros;rfl
theorem aTa:type_of% (fun v0 v1 v2=> @outS.eq_2 v0 v1 v2 D.nilp (by nofun)):=by intros;rfl
theorem aSR:type_of% (fun v0 v1 v2 v3 v4=> @outS.eq_2 v0 v1 v2 (D.fn v3 v4) (by nofun)):=by intros;rfl
theorem aTk:type_of% (fun v0 v1 v2=> @outS.eq_2 v0 v1 v2 D.nilfn (by nofun)):=by intros;rfl
theorem aSW:type_of% (fun v0 v1 v2=> @outS.eq_2 v0 v1 v2 D.nili (by nofun)):=by intros;rfl
theorem aTl:type_of% (fun v0 v1 v2=> @outS.eq_2 v0 v1 v2 D.nilm (by nofun)):=by intros;rfl
theorem aRW:type_of% (fun v0 v1 v2 v3 v4=> @outS.eq_2 v0 v1 v2 (D.ifc v3 v4) (by nofun)):=by intros;rfl
theorem aSy:type_of% (fun v0 v1 v2 v3=> @outS.eq_7 v0 v1 v2 (A.agg v3) (by nofun) (by nofun) (by nofun) (by nofun) (by nofun) (by nofun)):=by intros;rfl
theorem aR8:type_of% (fun v0 v1 v2 v3=> @outS.eq_7 v0 v1 v2 (A.tup v3) (by nofun) (by nofun) (by nofun) (by nofun) (by nofun) (by nofun)):=by intros;rfl
theorem aR4:type_of% (fun v0 v1 v2=> @outS.eq_7 v0 v1 v2 A.junk (by nofun) (by nofun) (by nofun) (by nofun) (by nofun) (by nofun)):=by intros;rfl
theorem aS4:type_of% (fun v0 v1=> @m8.eq_4 (List.cons v0 v1) (by nofun)):=(fun v0 v1=> @m8.eq_4 (List.cons v0 v1) (by nofun))
theorem aRT:type_of% (fun v0 v1=> @cT.eq_3 (A.d (D.int v0 v1)) (by nofun) (by nofun)):=by intros;rfl
theorem aSe:type_of% (fun v0=> @cT.eq_3 (A.d (D.bool v0)) (by nofun) (by nofun)):=by intros;rfl
theorem aRY:type_of% (fun v0=> @cT.eq_3 (A.d (D.str v0)) (by nofun) (by nofun)):=by intros;rfl
theorem aS8:type_of% (fun v0 v1=> @cT.eq_3 (A.d (D.ivs v0 v1)) (by nofun) (by nofun)):=by intros;rfl
theorem aSi:type_of% (@cT.eq_3 (A.d D.nils) (by nofun) (by nofun)):=(@cT.eq_3 (A.d D.nils) (by nofun) (by nofun))
theorem aTb:type_of% (fun v0=> @cT.eq_3 (A.d (D.iptr v0)) (by nofun) (by nofun)):=by intros;rfl
theorem aSc:type_of% (@cT.eq_3 (A.d D.nilp) (by nofun) (by nofun)):=(@cT.eq_3 (A.d D.nilp) (by nofun) (by nofun))
theorem aTc:type_of% (fun v0 v1=> @cT.eq_3 (A.d (D.fn v0 v1)) (by nofun) (by nofun)):=by intros;rfl
theorem aSs:type_of% (@cT.eq_3 (A.d D.nilfn) (by nofun) (by nofun)):=(@cT.eq_3 (A.d D.nilfn) (by nofun) (by nofun))
theorem aSl:type_of% (@cT.eq_3 (A.d D.nili) (by nofun) (by nofun)):=(@cT.eq_3 (A.d D.nili) (by nofun) (by nofun))
theorem aSC:type_of% (@cT.eq_3 (A.d D.nilm) (by nofun) (by nofun)):=(@cT.eq_3 (A.d D.nilm) (by nofun) (by nofun))
theorem aSM:type_of% (fun v0 v1=> @cT.eq_3 (A.d (D.ifc v0 v1)) (by nofun) (by nofun)):=by intros;rfl
theorem aRJ:type_of% (fun v0 v1 v2 v3=> @cT.eq_3 (A.sl v0 v1 v2 v3) (by nofun) (by nofun)):=by intros;rfl
theorem aSg:type_of% (fun v0 v1 v2=> @cT.eq_3 (A.ptr v0 v1 v2) (by nofun) (by nofun)):=by intros;rfl
theorem aTf:type_of% (fun v0=> @cT.eq_3 (A.mp v0) (by nofun) (by nofun)):=by intros;rfl
theorem aR9:type_of% (fun v0 v1=> @cT.eq_3 (A.clo v0 v1) (by nofun) (by nofun)):=by intros;rfl
theorem aSq:type_of% (fun v0=> @cT.eq_3 (A.agg v0) (by nofun) (by nofun)):=by intros;rfl
theorem aSF:type_of% (fun v0=> @cT.eq_3 (A.tup v0) (by nofun) (by nofun)):=by intros;rfl
theorem aTh:type_of% (fun v0=> @tidy.eq_3 List.nil v0 (by nofun) (by nofun)):=by intros;rfl
theorem aRP:type_of% (fun v0=> @tidy.eq_3 (List.cons Bool.false v0) List.nil (by nofun) (by nofun)):=by intros;rfl
theorem aSw:type_of% (fun v0=> @tidy.eq_3 (List.cons Bool.true v0) List.nil (by nofun) (by nofun)):=by intros;rfl
theorem aTm:type_of% (fun v0 v1 v2 v3 v4=> @b6.eq_2 v0 v1 v2 v3 (A.d v4) (by nofun)):=by intros;rfl
theorem aSr:type_of% (fun v0 v1 v2 v3 v4 v5 v6 v7=> @b6.eq_2 v0 v1 v2 v3 (A.sl v4 v5 v6 v7) (by nofun)):=by intros;rfl
theorem aS6:type_of% (fun v0 v1 v2 v3 v4 v5 v6=> @b6.eq_2 v0 v1 v2 v3 (A.ptr v4 v5 v6) (by nofun)):=by intros;rfl
theorem aRI:type_of% (fun v0 v1 v2 v3 v4 v5=> @b6.eq_2 v0 v1 v2 v3 (A.clo v4 v5) (by nofun)):=by intros;rfl
theorem aSD:type_of% (fun v0 v1 v2 v3 v4=> @b6.eq_2 v0 v1 v2 v3 (A.agg v4) (by nofun)):=by intros;rfl
theorem aS5:type_of% (fun v0 v1 v2 v3 v4=> @b6.eq_2 v0 v1 v2 v3 (A.tup v4) (by nofun)):=by intros;rfl
theorem aSG:type_of% (fun v0 v1 v2 v3=> @b6.eq_2 v0 v1 v2 v3 A.junk (by nofun)):=by intros;rfl
theorem aSQ:type_of% (fun v0 v1 v2 v3 v4=> @gQ.eq_2 v0 v1 v2 (A.d v4) v3 (by nofun)):=by intros;rfl
theorem aS1:type_of% (fun v0 v1 v2 v3 v4 v5 v6=> @gQ.eq_2 v0 v1 v2 (A.ptr v4 v5 v6) v3 (by nofun)):=by intros;rfl
theorem aSh:type_of% (fun v0 v1 v2 v3 v4=> @gQ.eq_2 v0 v1 v2 (A.mp v4) v3 (by nofun)):=by intros;rfl
theorem aSx:type_of% (fun v0 v1 v2 v3 v4 v5=> @gQ.eq_2 v0 v1 v2 (A.clo v4 v5) v3 (by nofun)):=by intros;rfl
theorem aR6:type_of% (fun v0 v1 v2 v3 v4=> @gQ.eq_2 v0 v1 v2 (A.agg v4) v3 (by nofun)):=by intros;rfl
theorem aR2:type_of% (fun v0 v1 v2 v3 v4=> @gQ.eq_2 v0 v1 v2 (A.tup v4) v3 (by nofun)):=by intros;rfl
theorem aTj:type_of% (fun v0 v1 v2 v3=> @gQ.eq_2 v0 v1 v2 A.junk v3 (by nofun)):=by intros;rfl
theorem aS3:type_of% (fun v0 v1=> @u5.eq_2 v0 (A.d v1) (by nofun)):=by intros;rfl
theorem aRS:type_of% (fun v0 v1 v2 v3=> @u5.eq_2 v0 (A.ptr v1 v2 v3) (by nofun)):=by intros;rfl
theorem aSA:type_of% (fun v0 v1=> @u5.eq_2 v0 (A.mp v1) (by nofun)):=by intros;rfl
theorem aRV:type_of% (fun v0 v1 v2=> @u5.eq_2 v0 (A.clo v1 v2) (by nofun)):=by intros;rfl
theorem aSV:type_of% (fun v0 v1=> @u5.eq_2 v0 (A.agg v1) (by nofun)):=by intros;rfl
theorem aTi:type_of% (fun v0 v1=> @u5.eq_2 v0 (A.tup v1) (by nofun)):=by intros;rfl
theorem aSI:type_of% (fun v0=> @u5.eq_2 v0 A.junk (by nofun)):=by intros;rfl
theorem aS9:type_of% (fun v0 v1 v2=> @gU.eq_2 v0 v1 (A.d v2) (by nofun)):=by intros;rfl
theorem aSB:type_of% (fun v0 v1 v2 v3 v4=> @gU.eq_2 v0 v1 (A.ptr v2 v3 v4) (by nofun)):=by intros;rfl
theorem aSk:type_of% (fun v0 v1 v2=> @gU.eq_2 v0 v1 (A.mp v2) (by nofun)):=by intros;rfl
theorem aR7:type_of% (fun v0 v1 v2 v3=> @gU.eq_2 v0 v1 (A.clo v2 v3) (by nofun)):=by intros;rfl
theorem aRX:type_of% (fun v0 v1 v2=> @gU.eq_2 v0 v1 (A.agg v2) (by nofun)):=by intros;rfl
theorem aRL:type_of% (fun v0 v1 v2=> @gU.eq_2 v0 v1 (A.tup v2) (by nofun)):=by intros;rfl
theorem aRN:type_of% (fun v0 v1=> @gU.eq_2 v0 v1 A.junk (by nofun)):=by intros;rfl
theorem aSZ:type_of% (@mE.eq_2 Option.none (by nofun)):=(@mE.eq_2 Option.none (by nofun))
theorem aSv:type_of% (fun v0 v1=> @mE.eq_2 (Option.some (Prod.mk (A.d v1) v0)) (by nofun)):=by intros;rfl
theorem aSS:type_of% (fun v0 v1 v2 v3=> @mE.eq_2 (Option.some (Prod.mk (A.ptr v1 v2 v3) v0)) (by nofun)):=by intros;rfl
theorem aR1:type_of% (fun v0 v1=> @mE.eq_2 (Option.some (Prod.mk (A.mp v1) v0)) (by nofun)):=by intros;rfl
theorem aSf:type_of% (fun v0 v1 v2=> @mE.eq_2 (Option.some (Prod.mk (A.clo v1 v2) v0)) (by nofun)):=by intros;rfl
theorem aSO:type_of% (fun v0 v1=> @mE.eq_2 (Option.some (Prod.mk (A.agg v1) v0)) (by nofun)):=by intros;rfl
theorem aRU:type_of% (fun v0 v1=> @mE.eq_2 (Option.some (Prod.mk (A.tup v1) v0)) (by nofun)):=by intros;rfl
theorem aSn:type_of% (fun v0=> @mE.eq_2 (Option.some (Prod.mk A.junk v0)) (by nofun)):=by intros;rfl
theorem aTd:type_of% (fun v0 v1 v2=> @frz.eq_5 v0 (A.d v2) v1 (by nofun) (by nofun) (by nofun)):=by intros;rfl
theorem aRQ:type_of% (fun v0 v1 v2=> @frz.eq_5 v0 (A.mp v2) v1 (by nofun) (by nofun) (by nofun)):=by intros;rfl
theorem aSY:type_of% (fun v0 v1 v2=> @frz.eq_5 v0 (A.agg v2) v1 (by nofun) (by nofun) (by nofun)):=by intros;rfl
theorem aSH:type_of% (fun v0 v1 v2=> @frz.eq_5 v0 (A.tup v2) v1 (by nofun) (by nofun) (by nofun)):=by intros;rfl
theorem aR0:type_of% (fun v0 v1=> @frz.eq_5 v0 A.junk v1 (by nofun) (by nofun) (by nofun)):=by intros;rfl
theorem aTe:type_of% (fun v0 v1 v2 v3=> @frz0.eq_3 v0 (A.ptr v1 v2 v3) (by nofun) (by nofun)):=by intros;rfl
theorem aS0:type_of% (fun v0 v1=> @frz0.eq_3 v0 (A.mp v1) (by nofun) (by nofun)):=by intros;rfl
theorem aSb:type_of% (fun v0 v1 v2=> @frz0.eq_3 v0 (A.clo v1 v2) (by nofun) (by nofun)):=by intros;rfl
theorem aSt:type_of% (fun v0 v1=> @frz0.eq_3 v0 (A.agg v1) (by nofun) (by nofun)):=by intros;rfl
theorem aRR:type_of% (fun v0 v1=> @frz0.eq_3 v0 (A.tup v1) (by nofun) (by nofun)):=by intros;rfl
theorem aSU:type_of% (fun v0=> @frz0.eq_3 v0 A.junk (by nofun) (by nofun)):=by intros;rfl
theorem aSo:type_of% (fun v0=> @aX.eq_2 (A.d v0) (by nofun)):=by intros;rfl
theorem aSm:type_of% (fun v0 v1 v2 v3=> @aX.eq_2 (A.sl v0 v1 v2 v3) (by nofun)):=by intros;rfl
theorem aTg:type_of% (fun v0 v1 v2=> @aX.eq_2 (A.ptr v0 v1 v2) (by nofun)):=by intros;rfl
theorem aR3:type_of% (fun v0=> @aX.eq_2 (A.mp v0) (by nofun)):=by intros;rfl
theorem aMO:type_of% (fun v0 v1=> @aX.eq_2 (A.clo v0 v1) (by nofun)):=by intros;rfl
theorem aOP:type_of% (fun v0=> @aX.eq_2 (A.tup v0) (by nofun)):=by intros;rfl
theorem aOn:type_of% (@aX.eq_2 A.junk (by nofun)):=(@aX.eq_2 A.junk (by nofun))
theorem aOv:type_of% (fun v0 v1=> @bV.eq_5 (A.d (D.int v0 v1)) (by nofun) (by nofun) (by nofun) (by nofun)):=by intros;rfl
theorem aMS:type_of% (fun v0=> @bV.eq_5 (A.d (D.bool v0)) (by nofun) (by nofun) (by nofun) (by nofun)):=by intros;rfl
theorem aP9:type_of% (fun v0=> @bV.eq_5 (A.d (D.str v0)) (by nofun) (by nofun) (by nofun) (by nofun)):=by intros;rfl
theorem aQa:type_of% (fun v0 v1=> @bV.eq_5 (A.d (D.ivs v0 v1)) (by nofun) (by nofun) (by nofun) (by nofun)):=by intros;rfl
theorem aOW:type_of% (@bV.eq_5 (A.d D.nils) (by nofun) (by nofun) (by nofun) (by nofun)):=(@bV.eq_5 (A.d D.nils) (by nofun) (by nofun) (by nofun) (by nofun))
theorem aN2:type_of% (fun v0=> @bV.eq_5 (A.d (D.iptr v0)) (by nofun) (by nofun) (by nofun) (by nofun)):=by intros;rfl
theorem aO1:type_of% (@bV.eq_5 (A.d D.nilp) (by nofun) (by nofun) (by nofun) (by nofun)):=(@bV.eq_5 (A.d D.nilp) (by nofun) (by nofun) (by nofun) (by nofun))
theorem aPb:type_of% (fun v0 v1=> @bV.eq_5 (A.d (D.fn v0 v1)) (by nofun) (by nofun) (by nofun) (by nofun)):=by intros;rfl
theorem aMs:type_of% (@bV.eq_5 (A.d D.nilfn) (by nofun) (by nofun) (by nofun) (by nofun)):=(@bV.eq_5 (A.d D.nilfn) (by nofun) (by nofun) (by nofun) (by nofun))
theorem aOl:type_of% (@bV.eq_5 (A.d D.nili) (by nofun) (by nofun) (by nofun) (by nofun)):=(@bV.eq_5 (A.d D.nili) (by nofun) (by nofun) (by nofun) (by nofun))
theorem aNJ:type_of% (@bV.eq_5 (A.d D.nilm) (by nofun) (by nofun) (by nofun) (by nofun)):=(@bV.eq_5 (A.d D.nilm) (by nofun) (by nofun) (by nofun) (by nofun))
theorem aPK:type_of% (fun v0 v1=> @bV.eq_5 (A.d (D.ifc v0 v1)) (by nofun) (by nofun) (by nofun) (by nofun)):=by intros;rfl
theorem aPd:type_of% (fun v0 v1 v2 v3=> @bV.eq_5 (A.sl v0 v1 v2 v3) (by nofun) (by nofun) (by nofun) (by nofun)):=by intros;rfl
theorem aPo:type_of% (fun v0 v1 v2=> @bV.eq_5 (A.ptr v0 v1 v2) (by nofun) (by nofun) (by nofun) (by nofun)):=by intros;rfl
theorem aNt:type_of% (fun v0=> @bV.eq_5 (A.mp v0) (by nofun) (by nofun) (by nofun) (by nofun)):=by intros;rfl
theorem aON:type_of% (fun v0 v1=> @bV.eq_5 (A.clo v0 v1) (by nofun) (by nofun) (by nofun) (by nofun)):=by intros;rfl
theorem aOJ:type_of% (fun v0=> @j8.eq_2 (A.d v0) (by nofun)):=by intros;rfl
theorem aPS:type_of% (fun v0 v1 v2 v3=> @j8.eq_2 (A.sl v0 v1 v2 v3) (by nofun)):=by intros;rfl
theorem aOX:type_of% (fun v0 v1 v2=> @j8.eq_2 (A.ptr v0 v1 v2) (by nofun)):=by intros;rfl
theorem aPm:type_of% (fun v0=> @j8.eq_2 (A.mp v0) (by nofun)):=by intros;rfl
theorem aMj:type_of% (fun v0 v1=> @j8.eq_2 (A.clo v0 v1) (by nofun)):=by intros;rfl
theorem aPh:type_of% (fun v0=> @j8.eq_2 (A.agg v0) (by nofun)):=by intros;rfl
theorem aMl:type_of% (fun v0=> @j8.eq_2 (A.tup v0) (by nofun)):=by intros;rfl
theorem aM6:type_of% (fun v0 v1 v2 v3=> @d6.eq_4 (O.arr v1 v2 v3) v0 (by nofun) (by nofun)):=by intros;rfl
theorem aOR:type_of% (fun v0 v1 v2 v3=> @d6.eq_4 (O.ice v1 v2 v3) v0 (by nofun) (by nofun)):=by intros;rfl
theorem aMY:type_of% (fun v0 v1=> @d6.eq_4 (O.log v1) v0 (by nofun) (by nofun)):=by intros;rfl
theorem aPP:type_of% (fun v0 v1=> @d6.eq_4 (O.mp v1) v0 (by nofun) (by nofun)):=by intros;rfl
theorem aOV:type_of% (fun v0=> @d6.eq_4 O.void v0 (by nofun) (by nofun)):=by intros;rfl
theorem aNw:type_of% (@tupA.eq_2 List.nil (by nofun)):=(@tupA.eq_2 List.nil (by nofun))
theorem aMC:type_of% (fun v0 v1 v2=> @tupA.eq_2 (List.cons v0 (List.cons v1 v2)) (by nofun)):=by intros;rfl
theorem aPv:type_of% (fun v0=> @opds.eq_26 (Go.Op.alloc v0) (by nofun) (by nofun) (by nofun) (by nofun) (by nofun) (by nofun) (by nofun) (by nofun) (by nofun) (by nofun) (by nofun) (by nofun) (by nofun) (by nofun) (by nofun) (by nofun) (by nofun) (by nofun) (by nofun) (by nofun) (by nofun) (by nofun) (by nofun) (by nofun) (by nofun)):=by intros;rfl
theorem aPC:type_of% (fun v0=> @opds.eq_26 (Go.Op.ready v0) (by nofun) (by nofun) (by nofun) (by nofun) (by nofun) (by nofun) (by nofun) (by nofun) (by nofun) (by nofun) (by nofun) (by nofun) (by nofun) (by nofun) (by nofun) (by nofun) (by nofun) (by nofun) (by nofun) (by nofun) (by nofun) (by nofun) (by nofun) (by nofun) (by nofun)):=by intros;rfl
theorem aOQ:type_of% (fun v0=> @opds.eq_26 (Go.Op.waits v0) (by nofun) (by nofun) (by nofun) (by nofun) (by nofun) (by nofun) (by nofun) (by nofun) (by nofun) (by nofun) (by nofun) (by nofun) (by nofun) (by nofun) (by nofun) (by nofun) (by nofun) (by nofun) (by nofun) (by nofun) (by nofun) (by nofun) (by nofun) (by nofun) (by nofun)):=by intros;rfl
theorem aN9:type_of% (fun v0 v1=> @opds.eq_26 (Go.Op.sliceToArrayPointer v0 v1) (by nofun) (by nofun) (by nofun) (by nofun) (by nofun) (by nofun) (by nofun) (by nofun) (by nofun) (by nofun) (by nofun) (by nofun) (by nofun) (by nofun) (by nofun) (by nofun) (by nofun) (by nofun) (by nofun) (by nofun) (by nofun) (by nofun) (by nofun) (by nofun) (by nofun)):=by intros;rfl
theorem aNd:type_of% (fun v0 v1=> @opds.eq_26 (Go.Op.makeInterface v0 v1) (by nofun) (by nofun) (by nofun) (by nofun) (by nofun) (by nofun) (by nofun) (by nofun) (by nofun) (by nofun) (by nofun) (by nofun) (by nofun) (by nofun) (by nofun) (by nofun) (by nofun) (by nofun) (by nofun) (by nofun) (by nofun) (by nofun) (by nofun) (by nofun) (by nofun)):=by intros;rfl
theorem aNQ:type_of% (fun v0 v1=> @opds.eq_26 (Go.Op.makeChan v0 v1) (by nofun) (by nofun) (by nofun) (by nofun) (by nofun) (by nofun) (by nofun) (by nofun) (by nofun) (by nofun) (by nofun) (by nofun) (by nofun) (by nofun) (by nofun) (by nofun) (by nofun) (by nofun) (by nofun) (by nofun) (by nofun) (by nofun) (by nofun) (by nofun) (by nofun)):=by intros;rfl
theorem aOL:type_of% (fun v0 v1 v2=> @opds.eq_26 (Go.Op.mapEntry v0 v1 v2) (by nofun) (by nofun) (by nofun) (by nofun) (by nofun) (by nofun) (by nofun) (by nofun) (by nofun) (by nofun) (by nofun) (by nofun) (by nofun) (by nofun) (by nofun) (by nofun) (by nofun) (by nofun) (by nofun) (by nofun) (by nofun) (by nofun) (by nofun) (by nofun) (by nofun)):=by intros;rfl
theorem aNT:type_of% (fun v0 v1 v2 v3=> @opds.eq_26 (Go.Op.entryStore v0 v1 v2 v3) (by nofun) (by nofun) (by nofun) (by nofun) (by nofun) (by nofun) (by nofun) (by nofun) (by nofun) (by nofun) (by nofun) (by nofun) (by nofun) (by nofun) (by nofun) (by nofun) (by nofun) (by nofun) (by nofun) (by nofun) (by nofun) (by nofun) (by nofun) (by nofun) (by nofun)):=by intros;rfl
theorem aPN:type_of% (fun v0 v1=> @opds.eq_26 (Go.Op.range v0 v1) (by nofun) (by nofun) (by nofun) (by nofun) (by nofun) (by nofun) (by nofun) (by nofun) (by nofun) (by nofun) (by nofun) (by nofun) (by nofun) (by nofun) (by nofun) (by nofun) (by nofun) (by nofun) (by nofun) (by nofun) (by nofun) (by nofun) (by nofun) (by nofun) (by nofun)):=by intros;rfl
theorem aM0:type_of% (fun v0 v1=> @opds.eq_26 (Go.Op.next v0 v1) (by nofun) (by nofun) (by nofun) (by nofun) (by nofun) (by nofun) (by nofun) (by nofun) (by nofun) (by nofun) (by nofun) (by nofun) (by nofun) (by nofun) (by nofun) (by nofun) (by nofun) (by nofun) (by nofun) (by nofun) (by nofun) (by nofun) (by nofun) (by nofun) (by nofun)):=by intros;rfl
theorem aNU:type_of% (fun v0=> @opds.eq_26 (Go.Op.entry v0) (by nofun) (by nofun) (by nofun) (by nofun) (by nofun) (by nofun) (by nofun) (by nofun) (by nofun) (by nofun) (by nofun) (by nofun) (by nofun) (by nofun) (by nofun) (by nofun) (by nofun) (by nofun) (by nofun) (by nofun) (by nofun) (by nofun) (by nofun) (by nofun) (by nofun)):=by intros;rfl
theorem aN1:type_of% (fun v0 v1 v2 v3=> @opds.eq_26 (Go.Op.typeAssert v0 v1 v2 v3) (by nofun) (by nofun) (by nofun) (by nofun) (by nofun) (by nofun) (by nofun) (by nofun) (by nofun) (by nofun) (by nofun) (by nofun) (by nofun) (by nofun) (by nofun) (by nofun) (by nofun) (by nofun) (by nofun) (by nofun) (by nofun) (by nofun) (by nofun) (by nofun) (by nofun)):=by intros;rfl
theorem aPi:type_of% (fun v0=> @opds.eq_26 (Go.Op.go v0) (by nofun) (by nofun) (by nofun) (by nofun) (by nofun) (by nofun) (by nofun) (by nofun) (by nofun) (by nofun) (by nofun) (by nofun) (by nofun) (by nofun) (by nofun) (by nofun) (by nofun) (by nofun) (by nofun) (by nofun) (by nofun) (by nofun) (by nofun) (by nofun) (by nofun)):=by intros;rfl
theorem aOd:type_of% (fun v0=> @opds.eq_26 (Go.Op.defer v0) (by nofun) (by nofun) (by nofun) (by nofun) (by nofun) (by nofun) (by nofun) (by nofun) (by nofun) (by nofun) (by nofun) (by nofun) (by nofun) (by nofun) (by nofun) (by nofun) (by nofun) (by nofun) (by nofun) (by nofun) (by nofun) (by nofun) (by nofun) (by nofun) (by nofun)):=by intros;rfl
theorem aPj:type_of% (fun v0=> @opds.eq_26 (Go.Op.panic v0) (by nofun) (by nofun) (by nofun) (by nofun) (by nofun) (by nofun) (by nofun) (by nofun) (by nofun) (by nofun) (by nofun) (by nofun) (by nofun) (by nofun) (by nofun) (by nofun) (by nofun) (by nofun) (by nofun) (by nofun) (by nofun) (by nofun) (by nofun) (by nofun) (by nofun)):=by intros;rfl
theorem aOu:type_of% (fun v0 v1=> @opds.eq_26 (Go.Op.send v0 v1) (by nofun) (by nofun) (by nofun) (by nofun) (by nofun) (by nofun) (by nofun) (by nofun) (by nofun) (by nofun) (by nofun) (by nofun) (by nofun) (by nofun) (by nofun) (by nofun) (by nofun) (by nofun) (by nofun) (by nofun) (by nofun) (by nofun) (by nofun) (by nofun) (by nofun)):=by intros;rfl
theorem aQd:type_of% (fun v0 v1 v2=> @opds.eq_26 (Go.Op.recv v0 v1 v2) (by nofun) (by nofun) (by nofun) (by nofun) (by nofun) (by nofun) (by nofun) (by nofun) (by nofun) (by nofun) (by nofun) (by nofun) (by nofun) (by nofun) (by nofun) (by nofun) (by nofun) (by nofun) (by nofun) (by nofun) (by nofun) (by nofun) (by nofun) (by nofun) (by nofun)):=by intros;rfl
theorem aOa:type_of% (fun v0 v1=> @opds.eq_26 (Go.Op.select v0 v1) (by nofun) (by nofun) (by nofun) (by nofun) (by nofun) (by nofun) (by nofun) (by nofun) (by nofun) (by nofun) (by nofun) (by nofun) (by nofun) (by nofun) (by nofun) (by nofun) (by nofun) (by nofun) (by nofun) (by nofun) (by nofun) (by nofun) (by nofun) (by nofun) (by nofun)):=by intros;rfl
theorem aOi:type_of% (fun v0=> @three.eq_2 List.nil v0 (by nofun)):=by intros;rfl
theorem aNr:type_of% (fun v0 v1=> @three.eq_2 (List.cons v1 List.nil) v0 (by nofun)):=by intros;rfl
theorem aQf:type_of% (fun v0 v1 v2=> @three.eq_2 (List.cons v1 (List.cons v2 List.nil)) v0 (by nofun)):=by intros;rfl
theorem aQe:type_of% (fun v0 v1 v2 v3 v4 v5=> @three.eq_2 (List.cons v1 (List.cons v2 (List.cons v3 (List.cons v4 v5)))) v0 (by nofun)):=by intros;rfl
theorem aO9:type_of% (fun v0 v1 v2 v3 v4=> @cM.eq_2 v0 v1 (Go.Operand.tmp v4) v2 v3 (by nofun)):=by intros;rfl
theorem aNF:type_of% (fun v0 v1 v2 v3=> @cM.eq_2 v0 v1 (Go.Operand.const v3) v2 (A.d D.undef) (by nofun)):=by intros;rfl
theorem aP7:type_of% (fun v0 v1 v2 v3 v4 v5=> @cM.eq_2 v0 v1 (Go.Operand.const v3) v2 (A.d (D.int v4 v5)) (by nofun)):=by intros;rfl
theorem aM1:type_of% (fun v0 v1 v2 v3 v4=> @cM.eq_2 v0 v1 (Go.Operand.const v3) v2 (A.d (D.bool v4)) (by nofun)):=by intros;rfl
theorem aO2:type_of% (fun v0 v1 v2 v3 v4=> @cM.eq_2 v0 v1 (Go.Operand.const v3) v2 (A.d (D.str v4)) (by nofun)):=by intros;rfl
theorem aNB:type_of% (fun v0 v1 v2 v3 v4 v5=> @cM.eq_2 v0 v1 (Go.Operand.const v3) v2 (A.d (D.ivs v4 v5)) (by nofun)):=by intros;rfl
theorem aPs:type_of% (fun v0 v1 v2 v3 v4=> @cM.eq_2 v0 v1 (Go.Operand.const v3) v2 (A.d (D.iptr v4)) (by nofun)):=by intros;rfl
theorem aOM:type_of% (fun v0 v1 v2 v3=> @cM.eq_2 v0 v1 (Go.Operand.const v3) v2 (A.d D.nilp) (by nofun)):=by intros;rfl
theorem aNa:type_of% (fun v0 v1 v2 v3 v4 v5=> @cM.eq_2 v0 v1 (Go.Operand.const v3) v2 (A.d (D.fn v4 v5)) (by nofun)):=by intros;rfl
theorem aOb:type_of% (fun v0 v1 v2 v3=> @cM.eq_2 v0 v1 (Go.Operand.const v3) v2 (A.d D.nilfn) (by nofun)):=by intros;rfl
theorem aPX:type_of% (fun v0 v1 v2 v3=> @cM.eq_2 v0 v1 (Go.Operand.const v3) v2 (A.d D.nili) (by nofun)):=by intros;rfl
theorem aPf:type_of% (fun v0 v1 v2 v3=> @cM.eq_2 v0 v1 (Go.Operand.const v3) v2 (A.d D.nilm) (by nofun)):=by intros;rfl
theorem aMN:type_of% (fun v0 v1 v2 v3 v4 v5=> @cM.eq_2 v0 v1 (Go.Operand.const v3) v2 (A.d (D.ifc v4 v5)) (by nofun)):=by intros;rfl
theorem aOw:type_of% (fun v0 v1 v2 v3 v4 v5 v6 v7=> @cM.eq_2 v0 v1 (Go.Operand.const v3) v2 (A.sl v4 v5 v6 v7) (by nofun)):=by intros;rfl
theorem aPQ:type_of% (fun v0 v1 v2 v3 v4 v5 v6=> @cM.eq_2 v0 v1 (Go.Operand.const v3) v2 (A.ptr v4 v5 v6) (by nofun)):=by intros;rfl
theorem aPT:type_of% (fun v0 v1 v2 v3 v4=> @cM.eq_2 v0 v1 (Go.Operand.const v3) v2 (A.mp v4) (by nofun)):=by intros;rfl
theorem aOf:type_of% (fun v0 v1 v2 v3 v4 v5=> @cM.eq_2 v0 v1 (Go.Operand.const v3) v2 (A.clo v4 v5) (by nofun)):=by intros;rfl
theorem aOo:type_of% (fun v0 v1 v2 v3 v4=> @cM.eq_2 v0 v1 (Go.Operand.const v3) v2 (A.agg v4) (by nofun)):=by intros;rfl
theorem aOp:type_of% (fun v0 v1 v2 v3 v4=> @cM.eq_2 v0 v1 (Go.Operand.const v3) v2 (A.tup v4) (by nofun)):=by intros;rfl
theorem aPg:type_of% (fun v0 v1 v2 v3=> @cM.eq_2 v0 v1 (Go.Operand.const v3) v2 A.junk (by nofun)):=by intros;rfl
theorem aOY:type_of% (fun v0 v1 v2 v3 v4=> @cM.eq_2 v0 v1 (Go.Operand.global v4) v2 v3 (by nofun)):=by intros;rfl
theorem aPc:type_of% (fun v0 v1 v2 v3 v4=> @cM.eq_2 v0 v1 (Go.Operand.func v4) v2 v3 (by nofun)):=by intros;rfl
theorem aNu:type_of% (fun v0=> @bP.eq_2 (Go.Op.move v0) (by nofun)):=by intros;rfl
theorem aMZ:type_of% (fun v0=> @bP.eq_2 (Go.Op.assign v0) (by nofun)):=by intros;rfl
theorem aPB:type_of% (fun v0 v1 v2=> @bP.eq_2 (Go.Op.pick v0 v1 v2) (by nofun)):=by intros;rfl
theorem aMz:type_of% (fun v0=> @bP.eq_2 (Go.Op.alloc v0) (by nofun)):=by intros;rfl
theorem aP2:type_of% (fun v0 v1=> @bP.eq_2 (Go.Op.box v0 v1) (by nofun)):=by intros;rfl
theorem aQg:type_of% (fun v0 v1=> @bP.eq_2 (Go.Op.build v0 v1) (by nofun)):=by intros;rfl
theorem aPM:type_of% (fun v0 v1 v2=> @bP.eq_2 (Go.Op.buildSlice v0 v1 v2) (by nofun)):=by intros;rfl
theorem aQb:type_of% (fun v0 v1 v2 v3=> @bP.eq_2 (Go.Op.insert v0 v1 v2 v3) (by nofun)):=by intros;rfl
theorem aPy:type_of% (fun v0 v1=> @bP.eq_2 (Go.Op.load v0 v1) (by nofun)):=by intros;rfl
theorem aPW:type_of% (fun v0 v1 v2=> @bP.eq_2 (Go.Op.store v0 v1 v2) (by nofun)):=by intros;rfl
theorem aPl:type_of% (fun v0=> @bP.eq_2 (Go.Op.ready v0) (by nofun)):=by intros;rfl
theorem aPt:type_of% (fun v0=> @bP.eq_2 (Go.Op.waits v0) (by nofun)):=by intros;rfl
theorem aOF:type_of% (fun v0=> @bP.eq_2 (Go.Op.nilCheck v0) (by nofun)):=by intros;rfl
theorem aP6:type_of% (fun v0 v1 v2 v3 v4=> @bP.eq_2 (Go.Op.binOp v0 v1 v2 v3 v4) (by nofun)):=by intros;rfl
theorem aN0:type_of% (fun v0 v1 v2=> @bP.eq_2 (Go.Op.unOp v0 v1 v2) (by nofun)):=by intros;rfl
theorem aNL:type_of% (fun v0 v1 v2=> @bP.eq_2 (Go.Op.convert v0 v1 v2) (by nofun)):=by intros;rfl
theorem aPw:type_of% (fun v0 v1=> @bP.eq_2 (Go.Op.sliceToArrayPointer v0 v1) (by nofun)):=by intros;rfl
theorem aPF:type_of% (fun v0 v1=> @bP.eq_2 (Go.Op.makeInterface v0 v1) (by nofun)):=by intros;rfl
theorem aMW:type_of% (fun v0 v1 v2=> @bP.eq_2 (Go.Op.makeFunc v0 v1 v2) (by nofun)):=by intros;rfl
theorem aMk:type_of% (fun v0 v1=> @bP.eq_2 (Go.Op.makeMap v0 v1) (by nofun)):=by intros;rfl
theorem aO8:type_of% (fun v0 v1=> @bP.eq_2 (Go.Op.makeChan v0 v1) (by nofun)):=by intros;rfl
theorem aO0:type_of% (fun v0 v1 v2=> @bP.eq_2 (Go.Op.makeSlice v0 v1 v2) (by nofun)):=by intros;rfl
theorem aQk:type_of% (fun v0 v1 v2 v3 v4=> @bP.eq_2 (Go.Op.slice v0 v1 v2 v3 v4) (by nofun)):=by intros;rfl
theorem aPu:type_of% (fun v0 v1 v2=> @bP.eq_2 (Go.Op.fieldAddr v0 v1 v2) (by nofun)):=by intros;rfl
theorem aMq:type_of% (fun v0 v1 v2=> @bP.eq_2 (Go.Op.field v0 v1 v2) (by nofun)):=by intros;rfl
theorem aNk:type_of% (fun v0 v1 v2=> @bP.eq_2 (Go.Op.indexAddr v0 v1 v2) (by nofun)):=by intros;rfl
theorem aM9:type_of% (fun v0 v1 v2=> @bP.eq_2 (Go.Op.index v0 v1 v2) (by nofun)):=by intros;rfl
theorem aNn:type_of% (fun v0 v1 v2 v3=> @bP.eq_2 (Go.Op.lookup v0 v1 v2 v3) (by nofun)):=by intros;rfl
theorem aOK:type_of% (fun v0 v1 v2 v3=> @bP.eq_2 (Go.Op.mapUpdate v0 v1 v2 v3) (by nofun)):=by intros;rfl
theorem aOz:type_of% (fun v0 v1 v2=> @bP.eq_2 (Go.Op.mapEntry v0 v1 v2) (by nofun)):=by intros;rfl
theorem aMy:type_of% (fun v0 v1 v2 v3=> @bP.eq_2 (Go.Op.entryStore v0 v1 v2 v3) (by nofun)):=by intros;rfl
theorem aPL:type_of% (fun v0 v1=> @bP.eq_2 (Go.Op.range v0 v1) (by nofun)):=by intros;rfl
theorem aPJ:type_of% (fun v0 v1=> @bP.eq_2 (Go.Op.next v0 v1) (by nofun)):=by intros;rfl
theorem aMt:type_of% (fun v0=> @bP.eq_2 (Go.Op.entry v0) (by nofun)):=by intros;rfl
theorem aOB:type_of% (fun v0 v1 v2 v3=> @bP.eq_2 (Go.Op.typeAssert v0 v1 v2 v3) (by nofun)):=by intros;rfl
theorem aML:type_of% (fun v0 v1=> @bP.eq_2 (Go.Op.extract v0 v1) (by nofun)):=by intros;rfl
theorem aNE:type_of% (fun v0=> @bP.eq_2 (Go.Op.go v0) (by nofun)):=by intros;rfl
theorem aP3:type_of% (fun v0=> @bP.eq_2 (Go.Op.defer v0) (by nofun)):=by intros;rfl
theorem aMA:type_of% (fun v0=> @bP.eq_2 (Go.Op.panic v0) (by nofun)):=by intros;rfl
theorem aOE:type_of% (fun v0 v1=> @bP.eq_2 (Go.Op.send v0 v1) (by nofun)):=by intros;rfl
theorem aNC:type_of% (fun v0 v1 v2=> @bP.eq_2 (Go.Op.recv v0 v1 v2) (by nofun)):=by intros;rfl
theorem aMV:type_of% (fun v0 v1=> @bP.eq_2 (Go.Op.select v0 v1) (by nofun)):=by intros;rfl
theorem aOO:type_of% (fun v0 v1=> @aW.eq_3 v0 (A.d D.undef) v1 (by nofun)):=by intros;rfl
theorem aMD:type_of% (fun v0 v1 v2 v3=> @aW.eq_3 v0 (A.d (D.int v2 v3)) v1 (by nofun)):=by intros;rfl
theorem aNM:type_of% (fun v0 v1 v2=> @aW.eq_3 v0 (A.d (D.bool v2)) v1 (by nofun)):=by intros;rfl
theorem aP8:type_of% (fun v0 v1 v2=> @aW.eq_3 v0 (A.d (D.str v2)) v1 (by nofun)):=by intros;rfl
theorem aMX:type_of% (fun v0 v1 v2 v3=> @aW.eq_3 v0 (A.d (D.ivs v2 v3)) v1 (by nofun)):=by intros;rfl
theorem aMG:type_of% (fun v0 v1 v2=> @aW.eq_3 v0 (A.d (D.iptr v2)) v1 (by nofun)):=by intros;rfl
theorem aMH:type_of% (fun v0 v1=> @aW.eq_3 v0 (A.d D.nilp) v1 (by nofun)):=by intros;rfl
theorem aMF:type_of% (fun v0 v1 v2 v3=> @aW.eq_3 v0 (A.d (D.fn v2 v3)) v1 (by nofun)):=by intros;rfl
theorem aPI:type_of% (fun v0 v1=> @aW.eq_3 v0 (A.d D.nilfn) v1 (by nofun)):=by intros;rfl
theorem aQi:type_of% (fun v0 v1=> @aW.eq_3 v0 (A.d D.nili) v1 (by nofun)):=by intros;rfl
theorem aNh:type_of% (fun v0 v1=> @aW.eq_3 v0 (A.d D.nilm) v1 (by nofun)):=by intros;rfl
theorem aNK:type_of% (fun v0 v1 v2 v3=> @aW.eq_3 v0 (A.d (D.ifc v2 v3)) v1 (by nofun)):=by intros;rfl
theorem aMB:type_of% (fun v0 v1 v2 v3 v4 v5=> @aW.eq_3 v0 (A.sl v2 v3 v4 v5) v1 (by nofun)):=by intros;rfl
theorem aOy:type_of% (fun v0 v1 v2 v3 v4=> @aW.eq_3 v0 (A.ptr v2 v3 v4) v1 (by nofun)):=by intros;rfl
theorem aPn:type_of% (fun v0 v1 v2=> @aW.eq_3 v0 (A.mp v2) v1 (by nofun)):=by intros;rfl
theorem aO5:type_of% (fun v0 v1 v2 v3=> @aW.eq_3 v0 (A.clo v2 v3) v1 (by nofun)):=by intros;rfl
theorem aMP:type_of% (fun v0 v1 v2=> @aW.eq_3 v0 (A.agg v2) v1 (by nofun)):=by intros;rfl
theorem aOH:type_of% (fun v0 v1 v2=> @aW.eq_3 v0 (A.tup v2) v1 (by nofun)):=by intros;rfl
theorem aNS:type_of% (fun v0 v1=> @aW.eq_3 v0 A.junk v1 (by nofun)):=by intros;rfl
theorem aOC:type_of% (fun v0 v1 v2 v3=> @mapO.eq_3 v0 (O.arr v1 v2 v3) (by nofun) (by nofun)):=by intros;rfl
theorem aOU:type_of% (fun v0 v1 v2 v3=> @mapO.eq_3 v0 (O.ice v1 v2 v3) (by nofun) (by nofun)):=by intros;rfl
theorem aOh:type_of% (fun v0 v1=> @mapO.eq_3 v0 (O.log v1) (by nofun) (by nofun)):=by intros;rfl
theorem aNX:type_of% (fun v0 v1=> @mapO.eq_3 v0 (O.mp v1) (by nofun) (by nofun)):=by intros;rfl
theorem aMJ:type_of% (fun v0=> @mapO.eq_3 v0 O.void (by nofun) (by nofun)):=by intros;rfl
theorem aOr:type_of% (fun v0 v1=> @frzA.eq_2 v0 (A.d v1) (by nofun)):=by intros;rfl
theorem aMi:type_of% (fun v0 v1 v2 v3 v4=> @frzA.eq_2 v0 (A.sl v1 v2 v3 v4) (by nofun)):=by intros;rfl
theorem aNW:type_of% (fun v0 v1 v2 v3=> @frzA.eq_2 v0 (A.ptr v1 v2 v3) (by nofun)):=by intros;rfl
theorem aOt:type_of% (fun v0 v1=> @frzA.eq_2 v0 (A.mp v1) (by nofun)):=by intros;rfl
theorem aMQ:type_of% (fun v0 v1 v2=> @frzA.eq_2 v0 (A.clo v1 v2) (by nofun)):=by intros;rfl
theorem aOq:type_of% (fun v0 v1=> @frzA.eq_2 v0 (A.tup v1) (by nofun)):=by intros;rfl
theorem aPx:type_of% (fun v0=> @frzA.eq_2 v0 A.junk (by nofun)):=by intros;rfl
theorem aMo:type_of% (fun v0 v1 v2 v3 v4 v5 v6=> @dQ.eq_4 v0 v1 v2 (Go.Callee.invoke v5 v6) v3 v4 (by nofun) (by nofun)):=by intros;rfl
theorem UN0:type_of% (AI @aA7 (AI @aFt (AI @aBm (AI @ZH (AI @aC8 (AI @aIn (AI @aKq (AI @aEk (AI @aKx (AI @aCR (AI @aKf (AI @aF1 (AI @aLen.eq_def (AI @QZ (AI @aA2 (AI @aAX (AI @aEN (AI @YU (AI @VE (AI @aEt (AI @XM (AI @aCQ (AI @TJ (AI @QU (AI @SQ (AI @aFu (AI @aEG (AI @aEZ (AI @aFS (AI @aKB (AI @aKF (AI @aKN (AI @List.replicate.eq_1.{0} (AI @List.replicate.eq_2.{0} (AI @List.range'.eq_1 (AI @List.range'.eq_2 (AI True.intro (AI @CF.eq_1 (AI @CF.eq_2 @MS.eq_1))))))))))))))))))))))))))))))))))))))):=
 ⟨@aA7,@aFt,@aBm,@ZH,@aC8,@aIn,@aKq,@aEk,@aKx,@aCR,@aKf,@aF1,@aLen.eq_def,@QZ,@aA2,@aAX,@aEN,@YU,@VE,@aEt,@XM,@aCQ,@TJ,@QU,@SQ,@aFu,@aEG,@aEZ,@aFS,@aKB,@aKF,@aKN,@List.replicate.eq_1.{0},@List.replicate.eq_2.{0},@List.range'.eq_1,@List.range'.eq_2,True.intro,@CF.eq_1,@CF.eq_2,@MS.eq_1⟩
theorem UN1:type_of% (AI @aPut.eq_1 (AI @aPut.eq_2 (AI @fI.eq_1 (AI @fI.eq_2 (AI @UNx1 (AI @UNx2 (AI @UNx3 (AI @UNx4 (AI @outA.eq_1 (AI @UNx5 (AI @UNx6 (AI @UNx7 (AI @UNx8 (AI @UNx9 (AI @aSa (AI @aR5 (AI @outS.eq_1 (AI @aRO (AI @aSj (AI @aSN (AI @aSK (AI @aSz (AI @aSL (AI @aTa (AI @aSR (AI @aTk (AI @aSW (AI @aTl (AI @aRW (AI @outS.eq_3 (AI @outS.eq_4 (AI @outS.eq_5 (AI @outS.eq_6 (AI @aSy (AI @aR8 (AI @aR4 (AI @BJ.eq_1 (AI @BJ.eq_2 (AI @idsA.eq_1 @idsA.eq_2))))))))))))))))))))))))))))))))))))))):=
 ⟨@aPut.eq_1,@aPut.eq_2,@fI.eq_1,@fI.eq_2,@UNx1,@UNx2,@UNx3,@UNx4,@outA.eq_1,@UNx5,@UNx6,@UNx7,@UNx8,@UNx9,@aSa,@aR5,@outS.eq_1,@aRO,@aSj,@aSN,@aSK,@aSz,@aSL,@aTa,@aSR,@aTk,@aSW,@aTl,@aRW,@outS.eq_3,@outS.eq_4,@outS.eq_5,@outS.eq_6,@aSy,@aR8,@aR4,@BJ.eq_1,@BJ.eq_2,@idsA.eq_1,@idsA.eq_2⟩
theorem UN2:type_of% (AI @idsA.eq_3 (AI @idsA.eq_4 (AI @idsA.eq_5 (AI @idsA.eq_6 (AI @idsA.eq_7 (AI @idsA.eq_8 (AI @idsL.eq_1 (AI @idsL.eq_2 (AI @mapA.eq_1 (AI @mapA.eq_2 (AI @mapA.eq_3 (AI @mapA.eq_4 (AI @mapA.eq_5 (AI @mapA.eq_6 (AI @mapA.eq_7 (AI @mapA.eq_8 (AI @aV.eq_1 (AI @aV.eq_2 (AI @bL.eq_1 (AI @bL.eq_2 (AI @bL.eq_3 (AI @bL.eq_4 (AI @bL.eq_5 (AI @bL.eq_6 (AI @bL.eq_7 (AI @bL.eq_8 (AI @hY.eq_1 (AI @H9.eq_1 (AI @a8.eq_1 (AI @cO.eq_1 (AI @eG.eq_1 (AI @eG.eq_2 (AI @bZ.eq_1 (AI @bZ.eq_2 (AI @bZ.eq_3 (AI @bZ.eq_4 (AI @bZ.eq_5 (AI @bZ.eq_6 (AI @bZ.eq_7 @aE.eq_1))))))))))))))))))))))))))))))))))))))):=
 ⟨@idsA.eq_3,@idsA.eq_4,@idsA.eq_5,@idsA.eq_6,@idsA.eq_7,@idsA.eq_8,@idsL.eq_1,@idsL.eq_2,@mapA.eq_1,@mapA.eq_2,@mapA.eq_3,@mapA.eq_4,@mapA.eq_5,@mapA.eq_6,@mapA.eq_7,@mapA.eq_8,@aV.eq_1,@aV.eq_2,@bL.eq_1,@bL.eq_2,@bL.eq_3,@bL.eq_4,@bL.eq_5,@bL.eq_6,@bL.eq_7,@bL.eq_8,@hY.eq_1,@H9.eq_1,@a8.eq_1,@cO.eq_1,@eG.eq_1,@eG.eq_2,@bZ.eq_1,@bZ.eq_2,@bZ.eq_3,@bZ.eq_4,@bZ.eq_5,@bZ.eq_6,@bZ.eq_7,@aE.eq_1⟩
theorem UN3:type_of% (AI @aE.eq_2 (AI @m8.eq_1 (AI @m8.eq_2 (AI @m8.eq_3 (AI @aS4 (AI @cT.eq_1 (AI @cT.eq_2 (AI @aRT (AI @aSe (AI @aRY (AI @aS8 (AI @aSi (AI @aTb (AI @aSc (AI @aTc (AI @aSs (AI @aSl (AI @aSC (AI @aSM (AI @aRJ (AI @aSg (AI @aTf (AI @aR9 (AI @aSq (AI @aSF (AI @tidy.eq_1 (AI @tidy.eq_2 (AI @aTh (AI @aRP (AI @aSw (AI @b6.eq_1 (AI @aTm (AI @aSr (AI @aS6 (AI @aRI (AI @aSD (AI @aS5 (AI @aSG (AI @b6.eq_3 @gQ.eq_1))))))))))))))))))))))))))))))))))))))):=
 ⟨@aE.eq_2,@m8.eq_1,@m8.eq_2,@m8.eq_3,@aS4,@cT.eq_1,@cT.eq_2,@aRT,@aSe,@aRY,@aS8,@aSi,@aTb,@aSc,@aTc,@aSs,@aSl,@aSC,@aSM,@aRJ,@aSg,@aTf,@aR9,@aSq,@aSF,@tidy.eq_1,@tidy.eq_2,@aTh,@aRP,@aSw,@b6.eq_1,@aTm,@aSr,@aS6,@aRI,@aSD,@aS5,@aSG,@b6.eq_3,@gQ.eq_1⟩
theorem UN4:type_of% (AI @aSQ (AI @aS1 (AI @aSh (AI @aSx (AI @aR6 (AI @aR2 (AI @aTj (AI @iI.eq_1 (AI @oJ.eq_1 (AI @FE.eq_1 (AI @u5.eq_1 (AI @aS3 (AI @aRS (AI @aSA (AI @aRV (AI @aSV (AI @aTi (AI @aSI (AI @H7.eq_1 (AI @gU.eq_1 (AI @aS9 (AI @aSB (AI @aSk (AI @aR7 (AI @aRX (AI @aRL (AI @aRN (AI @keeps.eq_1 (AI @logs.eq_1 (AI @mE.eq_1 (AI @aSZ (AI @aSv (AI @aSS (AI @aR1 (AI @aSf (AI @aSO (AI @aRU (AI @aSn (AI @rU.eq_1 @cB.eq_1))))))))))))))))))))))))))))))))))))))):=
 ⟨@aSQ,@aS1,@aSh,@aSx,@aR6,@aR2,@aTj,@iI.eq_1,@oJ.eq_1,@FE.eq_1,@u5.eq_1,@aS3,@aRS,@aSA,@aRV,@aSV,@aTi,@aSI,@H7.eq_1,@gU.eq_1,@aS9,@aSB,@aSk,@aR7,@aRX,@aRL,@aRN,@keeps.eq_1,@logs.eq_1,@mE.eq_1,@aSZ,@aSv,@aSS,@aR1,@aSf,@aSO,@aRU,@aSn,@rU.eq_1,@cB.eq_1⟩
theorem UN5:type_of% (AI @cB.eq_2 (AI @cB.eq_3 (AI @cB.eq_4 (AI @kY.eq_1 (AI @o6.eq_1 (AI @BX.eq_1 (AI @m6.eq_1 (AI @m6.eq_2 (AI @tD.eq_1 (AI @i7.eq_1 (AI @gW.eq_1 (AI @gW.eq_2 (AI @gW.eq_3 (AI @frzL.eq_1 (AI @fR.eq_1 (AI @fR.eq_2 (AI @frz.eq_1 (AI @frz.eq_2 (AI @frz.eq_3 (AI @frz.eq_4 (AI @aTd (AI @aRQ (AI @aSY (AI @aSH (AI @aR0 (AI @frz0.eq_1 (AI @frz0.eq_2 (AI @aTe (AI @aS0 (AI @aSb (AI @aSt (AI @aRR (AI @aSU (AI @deep.eq_1 (AI @aX.eq_1 (AI @aSo (AI @aSm (AI @aTg (AI @aR3 @aMO))))))))))))))))))))))))))))))))))))))):=
 ⟨@cB.eq_2,@cB.eq_3,@cB.eq_4,@kY.eq_1,@o6.eq_1,@BX.eq_1,@m6.eq_1,@m6.eq_2,@tD.eq_1,@i7.eq_1,@gW.eq_1,@gW.eq_2,@gW.eq_3,@frzL.eq_1,@fR.eq_1,@fR.eq_2,@frz.eq_1,@frz.eq_2,@frz.eq_3,@frz.eq_4,@aTd,@aRQ,@aSY,@aSH,@aR0,@frz0.eq_1,@frz0.eq_2,@aTe,@aS0,@aSb,@aSt,@aRR,@aSU,@deep.eq_1,@aX.eq_1,@aSo,@aSm,@aTg,@aR3,@aMO⟩
theorem UN6:type_of% (AI @aOP (AI @aOn (AI @bH.eq_1 (AI @bV.eq_1 (AI @bV.eq_2 (AI @bV.eq_3 (AI @bV.eq_4 (AI @aOv (AI @aMS (AI @aP9 (AI @aQa (AI @aOW (AI @aN2 (AI @aO1 (AI @aPb (AI @aMs (AI @aOl (AI @aNJ (AI @aPK (AI @aPd (AI @aPo (AI @aNt (AI @aON (AI @j8.eq_1 (AI @aOJ (AI @aPS (AI @aOX (AI @aPm (AI @aMj (AI @aPh (AI @aMl (AI @d6.eq_1 (AI @d6.eq_2 (AI @d6.eq_3 (AI @aM6 (AI @aOR (AI @aMY (AI @aPP (AI @aOV @lL.eq_1))))))))))))))))))))))))))))))))))))))):=
 ⟨@aOP,@aOn,@bH.eq_1,@bV.eq_1,@bV.eq_2,@bV.eq_3,@bV.eq_4,@aOv,@aMS,@aP9,@aQa,@aOW,@aN2,@aO1,@aPb,@aMs,@aOl,@aNJ,@aPK,@aPd,@aPo,@aNt,@aON,@j8.eq_1,@aOJ,@aPS,@aOX,@aPm,@aMj,@aPh,@aMl,@d6.eq_1,@d6.eq_2,@d6.eq_3,@aM6,@aOR,@aMY,@aPP,@aOV,@lL.eq_1⟩
theorem UN7:type_of% (AI @lL.eq_2 (AI @F4.eq_1 (AI @F4.eq_2 (AI @oT.eq_1 (AI @oT.eq_2 (AI @tupA.eq_1 (AI @aNw (AI @aMC (AI @gG.eq_1 (AI @gG.eq_2 (AI @gG.eq_3 (AI @gG.eq_4 (AI @sO.eq_1 (AI @sO.eq_2 (AI @opds.eq_1 (AI @opds.eq_2 (AI @opds.eq_3 (AI @opds.eq_4 (AI @opds.eq_5 (AI @opds.eq_6 (AI @opds.eq_7 (AI @opds.eq_8 (AI @opds.eq_9 (AI @opds.eq_10 (AI @opds.eq_11 (AI @opds.eq_12 (AI @opds.eq_13 (AI @opds.eq_14 (AI @opds.eq_15 (AI @opds.eq_16 (AI @opds.eq_17 (AI @opds.eq_18 (AI @opds.eq_19 (AI @opds.eq_20 (AI @opds.eq_21 (AI @opds.eq_22 (AI @opds.eq_23 (AI @opds.eq_24 (AI @aPv @aPC))))))))))))))))))))))))))))))))))))))):=
 ⟨@lL.eq_2,@F4.eq_1,@F4.eq_2,@oT.eq_1,@oT.eq_2,@tupA.eq_1,@aNw,@aMC,@gG.eq_1,@gG.eq_2,@gG.eq_3,@gG.eq_4,@sO.eq_1,@sO.eq_2,@opds.eq_1,@opds.eq_2,@opds.eq_3,@opds.eq_4,@opds.eq_5,@opds.eq_6,@opds.eq_7,@opds.eq_8,@opds.eq_9,@opds.eq_10,@opds.eq_11,@opds.eq_12,@opds.eq_13,@opds.eq_14,@opds.eq_15,@opds.eq_16,@opds.eq_17,@opds.eq_18,@opds.eq_19,@opds.eq_20,@opds.eq_21,@opds.eq_22,@opds.eq_23,@opds.eq_24,@aPv,@aPC⟩
theorem UN8:type_of% (AI @aOQ (AI @aN9 (AI @aNd (AI @aNQ (AI @aOL (AI @aNT (AI @aPN (AI @aM0 (AI @aNU (AI @aN1 (AI @aPi (AI @aOd (AI @aPj (AI @aOu (AI @aQd (AI @aOa (AI @evOp.eq_1 (AI @eD.eq_1 (AI @one.eq_1 (AI @two.eq_1 (AI @three.eq_1 (AI @aOi (AI @aNr (AI @aQf (AI @aQe (AI @A6.eq_1 (AI @A8.eq_1 (AI @cM.eq_1 (AI @aO9 (AI @aNF (AI @aP7 (AI @aM1 (AI @aO2 (AI @aNB (AI @aPs (AI @aOM (AI @aNa (AI @aOb (AI @aPX @aPf))))))))))))))))))))))))))))))))))))))):=
 ⟨@aOQ,@aN9,@aNd,@aNQ,@aOL,@aNT,@aPN,@aM0,@aNU,@aN1,@aPi,@aOd,@aPj,@aOu,@aQd,@aOa,@evOp.eq_1,@eD.eq_1,@one.eq_1,@two.eq_1,@three.eq_1,@aOi,@aNr,@aQf,@aQe,@A6.eq_1,@A8.eq_1,@cM.eq_1,@aO9,@aNF,@aP7,@aM1,@aO2,@aNB,@aPs,@aOM,@aNa,@aOb,@aPX,@aPf⟩
theorem UN9:type_of% (AI @aMN (AI @aOw (AI @aPQ (AI @aPT (AI @aOf (AI @aOo (AI @aOp (AI @aPg (AI @aOY (AI @aPc (AI @aNew.eq_1 (AI @iY.eq_1 (AI @iY.eq_2 (AI @iY.eq_3 (AI @iY.eq_4 (AI @FW.eq_1 (AI @xD.eq_1 (AI @N2.eq_1 (AI @bU.eq_1 (AI @bU.eq_2 (AI @bU.eq_3 (AI @bU.eq_4 (AI @bU.eq_5 (AI @bU.eq_6 (AI @bU.eq_7 (AI @bU.eq_8 (AI @bU.eq_9 (AI @bU.eq_10 (AI @bU.eq_11 (AI @bP.eq_1 (AI @aNu (AI @aMZ (AI @aPB (AI @aMz (AI @aP2 (AI @aQg (AI @aPM (AI @aQb (AI @aPy @aPW))))))))))))))))))))))))))))))))))))))):=
 ⟨@aMN,@aOw,@aPQ,@aPT,@aOf,@aOo,@aOp,@aPg,@aOY,@aPc,@aNew.eq_1,@iY.eq_1,@iY.eq_2,@iY.eq_3,@iY.eq_4,@FW.eq_1,@xD.eq_1,@N2.eq_1,@bU.eq_1,@bU.eq_2,@bU.eq_3,@bU.eq_4,@bU.eq_5,@bU.eq_6,@bU.eq_7,@bU.eq_8,@bU.eq_9,@bU.eq_10,@bU.eq_11,@bP.eq_1,@aNu,@aMZ,@aPB,@aMz,@aP2,@aQg,@aPM,@aQb,@aPy,@aPW⟩
theorem UN10:type_of% (AI @aPl (AI @aPt (AI @aOF (AI @aP6 (AI @aN0 (AI @aNL (AI @aPw (AI @aPF (AI @aMW (AI @aMk (AI @aO8 (AI @aO0 (AI @aQk (AI @aPu (AI @aMq (AI @aNk (AI @aM9 (AI @aNn (AI @aOK (AI @aOz (AI @aMy (AI @aPL (AI @aPJ (AI @aMt (AI @aOB (AI @aML (AI @aNE (AI @aP3 (AI @aMA (AI @aOE (AI @aNC (AI @aMV (AI @back.eq_1 (AI @bG.eq_1 (AI @bG.eq_2 (AI @bG.eq_3 (AI @aG.eq_1 (AI @closed.eq_1 (AI @j5.eq_1 @aW.eq_1))))))))))))))))))))))))))))))))))))))):=
 ⟨@aPl,@aPt,@aOF,@aP6,@aN0,@aNL,@aPw,@aPF,@aMW,@aMk,@aO8,@aO0,@aQk,@aPu,@aMq,@aNk,@aM9,@aNn,@aOK,@aOz,@aMy,@aPL,@aPJ,@aMt,@aOB,@aML,@aNE,@aP3,@aMA,@aOE,@aNC,@aMV,@back.eq_1,@bG.eq_1,@bG.eq_2,@bG.eq_3,@aG.eq_1,@closed.eq_1,@j5.eq_1,@aW.eq_1⟩
theorem UN11:type_of% (AI @aW.eq_2 (AI @aOO (AI @aMD (AI @aNM (AI @aP8 (AI @aMX (AI @aMG (AI @aMH (AI @aMF (AI @aPI (AI @aQi (AI @aNh (AI @aNK (AI @aMB (AI @aOy (AI @aPn (AI @aO5 (AI @aMP (AI @aOH (AI @aNS (AI @aH.eq_1 (AI @aH.eq_2 (AI @pack.eq_1 (AI @mapO.eq_1 (AI @mapO.eq_2 (AI @aOC (AI @aOU (AI @aOh (AI @aNX (AI @aMJ (AI @bK.eq_1 (AI @frzA.eq_1 (AI @aOr (AI @aMi (AI @aNW (AI @aOt (AI @aMQ (AI @aOq (AI @aPx @fB.eq_1))))))))))))))))))))))))))))))))))))))):=
 ⟨@aW.eq_2,@aOO,@aMD,@aNM,@aP8,@aMX,@aMG,@aMH,@aMF,@aPI,@aQi,@aNh,@aNK,@aMB,@aOy,@aPn,@aO5,@aMP,@aOH,@aNS,@aH.eq_1,@aH.eq_2,@pack.eq_1,@mapO.eq_1,@mapO.eq_2,@aOC,@aOU,@aOh,@aNX,@aMJ,@bK.eq_1,@frzA.eq_1,@aOr,@aMi,@aNW,@aOt,@aMQ,@aOq,@aPx,@fB.eq_1⟩
theorem UN12:type_of% (AI @fB.eq_2 (AI @memD.eq_1 (AI @WN.eq_1 (AI @LH.eq_1 (AI @dQ.eq_1 (AI @dQ.eq_2 (AI @dQ.eq_3 @aMo))))))):=
 ⟨@fB.eq_2,@memD.eq_1,@WN.eq_1,@LH.eq_1,@dQ.eq_1,@dQ.eq_2,@dQ.eq_3,@aMo⟩
theorem UN:type_of% (AI @UN0 (AI @UN1 (AI @UN2 (AI @UN3 (AI @UN4 (AI @UN5 (AI @UN6 (AI @UN7 (AI @UN8 (AI @UN9 (AI @UN10 (AI @UN11 @UN12)))))))))))):=
 ⟨@UN0,@UN1,@UN2,@UN3,@UN4,@UN5,@UN6,@UN7,@UN8,@UN9,@UN10,@UN11,@UN12⟩
theorem aRF:type_of% (fun v0 v1 v2 v3 v4=> @slim.eq_9 v0 (Go.Code.rangeFunc v1 v2 v3 v4) (by nofun) (by nofun) (by nofun) (by nofun) (by nofun) (by nofun) (by nofun) (by nofun)):=(fun v0 v1 v2 v3 v4=> @slim.eq_9 v0 (Go.Code.rangeFunc v1 v2 v3 v4) (by nofun) (by nofun) (by nofun) (by nofun) (by nofun) (by nofun) (by nofun) (by nofun))
theorem aRK:type_of% (fun v0 v1=> @slim.eq_9 v0 (Go.Code.scope v1) (by nofun) (by nofun) (by nofun) (by nofun) (by nofun) (by nofun) (by nofun) (by nofun)):=(fun v0 v1=> @slim.eq_9 v0 (Go.Code.scope v1) (by nofun) (by nofun) (by nofun) (by nofun) (by nofun) (by nofun) (by nofun) (by nofun))
theorem aSE:type_of% (fun v0 v1=> @slim.eq_9 v0 (Go.Code.label v1) (by nofun) (by nofun) (by nofun) (by nofun) (by nofun) (by nofun) (by nofun) (by nofun)):=(fun v0 v1=> @slim.eq_9 v0 (Go.Code.label v1) (by nofun) (by nofun) (by nofun) (by nofun) (by nofun) (by nofun) (by nofun) (by nofun))
theorem aS2:type_of% (fun v0 v1=> @slim.eq_9 v0 (Go.Code.goto v1) (by nofun) (by nofun) (by nofun) (by nofun) (by nofun) (by nofun) (by nofun) (by nofun)):=(fun v0 v1=> @slim.eq_9 v0 (Go.Code.goto v1) (by nofun) (by nofun) (by nofun) (by nofun) (by nofun) (by nofun) (by nofun) (by nofun))
theorem aS7:type_of% (fun v0 v1=> @slim.eq_9 v0 (Go.Code.refuse v1) (by nofun) (by nofun) (by nofun) (by nofun) (by nofun) (by nofun) (by nofun) (by nofun)):=(fun v0 v1=> @slim.eq_9 v0 (Go.Code.refuse v1) (by nofun) (by nofun) (by nofun) (by nofun) (by nofun) (by nofun) (by nofun) (by nofun))
theorem aRZ:type_of% (@bN.eq_5 Go.Code.skip (by nofun) (by nofun) (by nofun) (by nofun)):=(@bN.eq_5 Go.Code.skip (by nofun) (by nofun) (by nofun) (by nofun))
theorem aST:type_of% (fun v0 v1 v2=> @bN.eq_5 (Go.Code.region v0 v1 v2) (by nofun) (by nofun) (by nofun) (by nofun)):=(fun v0 v1 v2=> @bN.eq_5 (Go.Code.region v0 v1 v2) (by nofun) (by nofun) (by nofun) (by nofun))
theorem aSp:type_of% (fun v0 v1 v2 v3=> @bN.eq_5 (Go.Code.rangeFunc v0 v1 v2 v3) (by nofun) (by nofun) (by nofun) (by nofun)):=(fun v0 v1 v2 v3=> @bN.eq_5 (Go.Code.rangeFunc v0 v1 v2 v3) (by nofun) (by nofun) (by nofun) (by nofun))
theorem aSJ:type_of% (fun v0=> @bN.eq_5 (Go.Code.exit v0) (by nofun) (by nofun) (by nofun) (by nofun)):=(fun v0=> @bN.eq_5 (Go.Code.exit v0) (by nofun) (by nofun) (by nofun) (by nofun))
theorem aMp:type_of% (fun v0=> @bN.eq_5 (Go.Code.scope v0) (by nofun) (by nofun) (by nofun) (by nofun)):=(fun v0=> @bN.eq_5 (Go.Code.scope v0) (by nofun) (by nofun) (by nofun) (by nofun))
theorem aOk:type_of% (fun v0=> @bN.eq_5 (Go.Code.label v0) (by nofun) (by nofun) (by nofun) (by nofun)):=(fun v0=> @bN.eq_5 (Go.Code.label v0) (by nofun) (by nofun) (by nofun) (by nofun))
theorem aOx:type_of% (fun v0=> @bN.eq_5 (Go.Code.goto v0) (by nofun) (by nofun) (by nofun) (by nofun)):=(fun v0=> @bN.eq_5 (Go.Code.goto v0) (by nofun) (by nofun) (by nofun) (by nofun))
theorem aNy:type_of% (@bN.eq_5 Go.Code.ret (by nofun) (by nofun) (by nofun) (by nofun)):=(@bN.eq_5 Go.Code.ret (by nofun) (by nofun) (by nofun) (by nofun))
theorem aM7:type_of% (fun v0=> @bN.eq_5 (Go.Code.refuse v0) (by nofun) (by nofun) (by nofun) (by nofun)):=(fun v0=> @bN.eq_5 (Go.Code.refuse v0) (by nofun) (by nofun) (by nofun) (by nofun))
theorem SLM0:type_of% (AI @Bb.{0} (AI @Ac.{0} (AI @Bp (AI @Ag (AI @Ai.{0,0} (AI @Ap.{0,0} (AI @Ce.{0} (AI @At.{0} (AI @Ct.{0,0} (AI @Ak (AI @if_false.{0} (AI @if_true.{0} (AI @Ad.{0} (AI @List.replicate.eq_1.{0} (AI @List.replicate.eq_2.{0} (AI @Av.{0} (AI @Am.{0} (AI @Ah.{0} (AI @List.getD_cons_zero.{0} (AI @Ed.{0} (AI @aY.eq_1 (AI @bD.eq_1 (AI @lpOf.eq_1 (AI @aS.eq_1 (AI @slim.eq_1 (AI @slim.eq_2 (AI @slim.eq_3 (AI @slim.eq_4 (AI @slim.eq_5 (AI @slim.eq_6 (AI @slim.eq_7 (AI @slim.eq_8 (AI @aRF (AI @aRK (AI @aSE (AI @aS2 (AI @aS7 (AI @bN.eq_1 (AI @bN.eq_2 @bN.eq_3))))))))))))))))))))))))))))))))))))))):=
 ⟨@Bb.{0},@Ac.{0},@Bp,@Ag,@Ai.{0,0},@Ap.{0,0},@Ce.{0},@At.{0},@Ct.{0,0},@Ak,@if_false.{0},@if_true.{0},@Ad.{0},@List.replicate.eq_1.{0},@List.replicate.eq_2.{0},@Av.{0},@Am.{0},@Ah.{0},@List.getD_cons_zero.{0},@Ed.{0},@aY.eq_1,@bD.eq_1,@lpOf.eq_1,@aS.eq_1,@slim.eq_1,@slim.eq_2,@slim.eq_3,@slim.eq_4,@slim.eq_5,@slim.eq_6,@slim.eq_7,@slim.eq_8,@aRF,@aRK,@aSE,@aS2,@aS7,@bN.eq_1,@bN.eq_2,@bN.eq_3⟩
theorem SLM1:type_of% (AI @bN.eq_4 (AI @aRZ (AI @aST (AI @aSp (AI @aSJ (AI @aMp (AI @aOk (AI @aOx (AI @aNy (AI @aM7 (AI @FQ.eq_1 (AI @KB.eq_1 @KB.eq_2)))))))))))):=
 ⟨@bN.eq_4,@aRZ,@aST,@aSp,@aSJ,@aMp,@aOk,@aOx,@aNy,@aM7,@FQ.eq_1,@KB.eq_1,@KB.eq_2⟩
theorem SLM:type_of% (AI @SLM0 @SLM1):=
 ⟨@SLM0,@SLM1⟩
theorem LN:type_of% (AI @Af.{0} (AI @Ad.{0} (AI @Ac.{0} (AI @Bl.{0} (AI @List.length_replicate.{0} (AI @Ay.{0,0} (AI @Bt.{0} @Cg.{0}))))))):=
 ⟨@Af.{0},@Ad.{0},@Ac.{0},@Bl.{0},@List.length_replicate.{0},@Ay.{0,0},@Bt.{0},@Cg.{0}⟩
theorem GT:type_of% (AI @Ce.{0} @At.{0}):=
 ⟨@Ce.{0},@At.{0}⟩
end Ev
end Go.Proofs.YthlkcebdfbjdoaaGreat
