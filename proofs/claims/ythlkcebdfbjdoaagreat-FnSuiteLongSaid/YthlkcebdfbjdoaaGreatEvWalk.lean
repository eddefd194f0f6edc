/-
  How each operation goes, in the form in which the evaluator is walked.
-/
import Derived.Test.YthlkcebdfbjdoaaGreatEvPrim
set_option linter.unusedSimpArgs false
set_option linter.unusedVariables false
namespace Go.Proofs.YthlkcebdfbjdoaaGreat
namespace Ev
section
variable{R:Type}{E:Env}{call:aX}{thaw:List Nat}{dst:Option Tmp}{s:List A}{h:H}{k:A->H->Option R}
structure Now(p:Prop):Prop where
 it:p
structure Shut(p:Prop):Prop where
 it:p
inductive Box(α:Type) where
 |mk (a:α)
 |no
def box{α:Type}(a:α):Box α:=.mk a
theorem aJ9{α:Type}{a:α}:box a=.mk a:=rfl
theorem aJX{t:Nat}{q:A->Option R}:kv s (.tmp t) q=match box (s.getD t (.d .undef))with|.no=>none|.mk a=>q a:=rfl
theorem aJo{K:IntKind}{n:Int}{q:A->Option R}:kv s (.const (.int K n)) q=q (.d (.int K n)):=rfl
theorem aG5{b:Bool}{q:A->Option R}:kv s (.const (.bool b)) q=q (.d (.bool b)):=rfl
theorem aJK{b:ByteArray}{q:A->Option R}:kv s (.const (.string b)) q=match box b.data.toList with|.no=>none|.mk l=>q (.d (.str l)):=rfl
theorem aG8{q:A->Option R}:kv s (.const (.pointer none)) q=q (.d .nilp):=rfl
theorem aGY{q:A->Option R}:kv s (.const (.slice none 0 0)) q=q (.d .nils):=rfl
theorem aGL{f:FuncId}{q:A->Option R}:kv s (.func f) q=q (.clo f []):=rfl
theorem aHa{q:List A->Option R}:kvs s [] q=q []:=rfl
theorem aD7{x:Operand}{xs:List Operand}{q:List A->Option R}:kvs s (x::xs) q=kv s x fun a=>kvs s xs fun as=>q (a::as):=by
 unfold kvs kv;simp only[bR]
 cases cH s x with
 |none=>rfl
 |some a=>grind
theorem S6{yes no:List A->Option R}:sU none s yes no=yes s:=rfl
theorem R6{t:Nat}{w:Bool}{yes no:List A->Option R}:sU (some (some t,w)) s yes no=match s.getD t .junk with
  |.d (.bool b)=>if b=w then(match box (s.set t (.d (.bool w)))with|.no=>none|.mk s=>yes s)else(match box (s.set t (.d (.bool (!w))))with|.no=>none|.mk s=>no s)
  |.d .undef=>no s
  |_=>none:=by
 simp only[sU,Aa]
 cases s[t]? with
 |none=>rfl
 |some a=>
  cases a with
  |d x=>cases x<;>rfl
  |_=>rfl
theorem aFp{x:Operand}:kOp E call thaw dst (.move x) s h k=kv s x fun a=>k a h:=by
 unfold kOp kvs kv;simp only[opds,bR]
 cases cH s x<;>rfl
def kAsg(thaw:List Nat)(dst:Option Tmp)(h:H)(k:A->H->Option R)(a:A):Option R:=
 match a with
 |.d .nils=>match IH thaw dst with
  |0=>k (.d .nils) h
  |e+1=>if e<1000 then k (.sl h.length 0 0 0) (h++[.arr [] e 0])else k (.sl h.length 0 0 0) (h++[.vec [] (e-1000) 0])
 |a=>k a h
theorem HT{t:Nat}:kOp E call thaw dst (.assign (.tmp t)) s h k=match box (s.getD t (.d .undef))with|.no=>none|.mk a=>k a h:=by
 unfold kOp kvs;rfl
theorem D1{v:Value}:kOp E call thaw dst (.assign (.const v)) s h k=kv s (.const v) (kAsg thaw dst h k):=by
 unfold kOp kvs kv kAsg;simp only[opds,bR]
 cases cH s (.const v)with
 |none=>rfl
 |some a=>
  simp only[sH,Ak,if_false,evOp,one,DO,dX]
  cases a with
  |d x=>grind
  |_=>rfl
def kRet(r:Option (A×H))(k:A->H->Option R):Option R:=
 match r with
 |some (a,h')=>k a h'
 |none=>none
theorem aHo{op:BinOp}{t:TypeId}{x y:Operand}{t2:TypeId}:kOp E call thaw dst (.binOp op t x y t2) s h k=kv s x fun a=>kv s y fun b=>kRet (b6 E op t h a b) k:=by
 unfold kOp kvs kv kRet;simp only[opds,bR]
 cases cH s x with
 |none=>rfl
 |some a=>cases cH s y<;>rfl
theorem aKF{op:UnOp}{t:TypeId}{x:Operand}:kOp E call thaw dst (.unOp op t x) s h k=kv s x fun a=>kRet ((aUn op a).map fun r=>(r,h)) k:=by
 unfold kOp kvs kv kRet;simp only[opds,bR]
 cases cH s x<;>rfl
theorem aDq{c x y:Operand}:kOp E call thaw dst (.pick c x y) s h k=kv s c fun b=>kv s x fun a=>kv s y fun a'=>kRet (HQ h [b,a,a']) k:=by
 unfold kOp kvs kv kRet;simp only[opds,bR]
 cases cH s c with
 |none=>rfl
 |some b=>cases cH s x with
  |none=>rfl
  |some a=>cases cH s y<;>rfl
theorem OQ{x:Operand}:kOp E call thaw dst (.nilCheck x) s h k=kv s x fun a=>kRet (qM h a) k:=by
 unfold kOp kvs kv kRet;simp only[opds,bR]
 cases cH s x<;>rfl
theorem aDD{t u:TypeId}{x:Operand}:kOp E call thaw dst (.convert t u x) s h k=kv s x fun a=>kRet (eM E.P h t u a) k:=by
 unfold kOp kvs kv kRet;simp only[opds,bR]
 cases cH s x<;>rfl
theorem aEC{t:TypeId}{x:Operand}:kOp E call thaw dst (.load t x) s h k=kv s x fun a=>kRet ((yA E.P h t a).map fun v=>(v,h)) k:=by
 unfold kOp kvs kv kRet;simp only[opds,bR]
 cases cH s x<;>rfl
theorem aBI{t:TypeId}{x y:Operand}:kOp E call thaw dst (.store t x y) s h k=kv s x fun a=>kv s y fun b=>kRet ((iR E.P h t a b).map fun h'=>(.d .undef,h')) k:=by
 unfold kOp kvs kv kRet;simp only[opds,bR]
 cases cH s x with
 |none=>rfl
 |some a=>cases cH s y<;>rfl
theorem aCk{t:TypeId}:kOp E call thaw dst (.alloc t) s h k=match box (dL E.P t)with
  |.no=>none
  |.mk none=>none
  |.mk (some z)=>kRet (aNew h z) k:=by
 unfold kOp kvs kRet;simp only[opds,bR,sH,Ak,if_false,evOp,dX,box]
 cases dL E.P t<;>rfl
theorem aGM{t:TypeId}{x:Operand}:kOp E call thaw dst (.box t x) s h k=kv s x fun a=>kRet (aNew h a) k:=by
 unfold kOp kvs kv kRet;simp only[opds,bR]
 cases cH s x<;>rfl
theorem aA8{t:TypeId}{ps:List (Nat×Operand)}:kOp E call thaw dst (.build t ps.toArray) s h k=match box (ps.map (·.2))with
  |.no=>none
  |.mk xs=>kvs s xs fun vs=>kRet ((sN E.P t ((ps.map (·.1)).zip vs)).map fun a=>(a,h)) k:=by
 rfl
theorem IP{t:TypeId}{n:Nat}{ps:List (Nat×Operand)}:kOp E call thaw dst (.buildSlice t n ps.toArray) s h k=match box (ps.map (·.2))with
  |.no=>none
  |.mk xs=>kvs s xs fun vs=>kRet (if logs thaw dst=true then F5 (jX E.P h t n ((ps.map (·.1)).zip vs))else if keeps thaw dst=true then qA E.P h t n ((ps.map (·.1)).zip vs)else jX E.P h t n ((ps.map (·.1)).zip vs)) k:=by
 rfl
theorem PT{fn:Fn}{cap:List Operand}:kOp E call thaw dst (.makeFunc fn #[] cap.toArray) s h k=kvs s cap fun vs=>kRet (ID h fn true vs) k:=by
 rfl
theorem LJ{t:TypeId}{x y:Operand}:kOp E call thaw dst (.makeSlice t x y) s h k=kv s x fun a=>kv s y fun b=>kRet (gW a fun l=>gW b fun c=>if keeps thaw dst=true then CS E.P h t l c else gD E.P h t l c) k:=by
 unfold kOp kvs kv kRet;simp only[opds,bR]
 cases cH s x with
 |none=>rfl
 |some a=>cases cH s y<;>rfl
theorem RX{t:TypeId}{x hi:Operand}:kOp E call thaw dst (.slice t x none (some hi) none) s h k=kvs s [x,hi] fun vs=>kRet (oA E.P h t false true vs) k:=rfl
theorem RY{t:TypeId}{x lo hi:Operand}:kOp E call thaw dst (.slice t x (some lo) (some hi) none) s h k=kvs s [x,lo,hi] fun vs=>kRet (oA E.P h t true true vs) k:=rfl
theorem L7{t:TypeId}{x:Operand}{f:Nat}:kOp E call thaw dst (.fieldAddr t x f) s h k=kv s x fun a=>kRet ((cX E.P t f).bind fun r=>(rN r.1 a).map fun r=>(r,h)) k:=by
 unfold kOp kvs kv kRet;simp only[opds,bR]
 cases cH s x<;>rfl
theorem LZ{t:TypeId}{x y:Operand}:kOp E call thaw dst (.indexAddr t x y) s h k=kv s x fun a=>kv s y fun b=>kRet (gW b fun i=>(m7 E.P h t a i).map fun r=>(r,h)) k:=by
 unfold kOp kvs kv kRet;simp only[opds,bR]
 cases cH s x with
 |none=>rfl
 |some a=>cases cH s y<;>rfl
theorem aBl{t:TypeId}{x y:Operand}:kOp E call thaw dst (.index t x y) s h k=kv s x fun a=>kv s y fun b=>kRet (gW b fun i=>(H2 E.P t a i).map fun r=>(r,h)) k:=by
 unfold kOp kvs kv kRet;simp only[opds,bR]
 cases cH s x with
 |none=>rfl
 |some a=>cases cH s y<;>rfl
theorem SN{t:TypeId}:kOp E call thaw dst (.makeMap t none) s h k=k (.mp h.length) (h++[.mp []]):=rfl
theorem LL{t:TypeId}{x y z:Operand}:kOp E call thaw dst (.mapUpdate t x y z) s h k=kv s x fun a=>kv s y fun b=>kv s z fun c=>kRet (nE E.P h t a b c) k:=by
 unfold kOp kvs kv kRet;simp only[opds,bR]
 cases cH s x with
 |none=>rfl
 |some a=>cases cH s y with
  |none=>rfl
  |some b=>cases cH s z<;>rfl
theorem TF{x:Operand}{i:Nat}:kOp E call thaw dst (.extract x i) s h k=kv s x fun a=>kRet (uI h i a) k:=by
 unfold kOp kvs kv kRet;simp only[opds,bR]
 cases cH s x<;>rfl
theorem S0{b:Builtin}{args:List Operand}{tys:List TypeId}:kOp E call thaw dst (.call ⟨.builtin b,args.toArray,tys.toArray⟩) s h k=kvs s args fun vs=>kRet (cC E.P h b tys vs) k:=by
 rfl
theorem dO{op:Op}{q:A->H->Foot->Option R}(hp:Now (nV op=true/\sH op=false)):kOpD E call thaw dst op s h q=kOp E call thaw dst op s h fun a _=>q a h {}:=by
 obtain⟨hp,hc⟩:=hp.it;unfold kOpD kOp kvs;rw[hp,hc]
 cases bR s (opds op)with
 |none=>rfl
 |some vs=>grind
def memD(E:Env)(call:aX)(thaw:List Nat)(dst:Option Tmp)(op:Op)(h:H)(vs:List A):Option (A×H×Foot):=match box (aD aG h (idsL vs) [])with
 |.no=>none
 |.mk ord=>match box (evOp E call thaw (pack h ord) (dX dst op) (aE (aI ord) vs))with
  |.mk (some (a,h1))=>if ord.length<=h1.length/\closed h ord (idsL vs)=true then
    (if(iS E op vs&&h1.length-ord.length==0)=true then some (mapA (back ord h.length h1.length) a,h,{ ids:=ord,ro:=true})
    else some (mapA (back ord h.length h1.length) a,bJ (back ord h.length h1.length) h ord h1,{ ids:=ord++List.range' h.length (h1.length-ord.length),ro:=false,wr:=wrOf E op vs ord++List.range' h.length (h1.length-ord.length)}))
   else none
  |_=>none
theorem jE{op:Op}{q:A->H->Foot->Option R}(hp:Now (nV op=false/\oB op=false)):kOpD E call thaw dst op s h q=match box (opds op)with|.no=>none|.mk xs=>kvs s xs fun vs=>match box (memD E call thaw dst op h vs)with
  |.mk (some (a,h',c))=>q a h' c
  |_=>none:=by
 simp only[box];unfold kOpD kvs;rw[hp.it.1,hp.it.2]
 cases bR s (opds op)with
 |none=>rfl
 |some vs=>
  simp only[Ak,if_false,iA,memD,box]
  cases evOp E call thaw (pack h (aD aG h (idsL vs) [])) (dX dst op) (aE (aI (aD aG h (idsL vs) [])) vs)with
  |none=>rfl
  |some r=>grind
theorem QC{op:Op}{q:A->H->Foot->Option R}(hp:Now (nV op=false/\oB op=true/\sH op=false)):kOpD E call thaw dst op s h q=kvs s (opds op) fun vs=>kOp E call thaw dst op s h fun a _=>q a h { ids:=ids0 vs,ro:=true}:=by
 unfold kOpD kOp kvs;rw[hp.it.1,hp.it.2.1,hp.it.2.2]
 cases bR s (opds op)with
 |none=>rfl
 |some vs=>grind
theorem UJ{x:Operand}{xs:List Operand}{op:Op}{q:A->H->Foot->Option R}(hx:opds op=x::xs):(kvs s (opds op) fun vs=>kOp E call thaw dst op s h fun a _=>q a h { ids:=ids0 vs,ro:=true})=kv s x fun b=>kOp E call thaw dst op s h fun a _=>q a h { ids:=idsA b,ro:=true}:=by
 unfold kOp kv;rw[hx];unfold kvs;simp only[bR]
 cases cH s x with
 |none=>rfl
 |some b=>
  cases bR s xs with
  |none=>rfl
  |some bs=>rfl
theorem aBj{t:TypeId}{x:Operand}{q:A->H->Foot->Option R}:kOpD E call thaw dst (.load t x) s h q=kv s x fun b=>kOp E call thaw dst (.load t x) s h fun a _=>q a h { ids:=idsA b,ro:=true}:=(QC ⟨rfl,rfl,rfl⟩).trans (UJ rfl)
theorem YL{t:TypeId}{x y:Operand}{q:A->H->Foot->Option R}:type_of% (jE (E:=E) (call:=call) (thaw:=thaw) (dst:=dst) (s:=s) (h:=h) (op:=.store t x y) (q:=q) ⟨rfl,rfl⟩):=jE ⟨rfl,rfl⟩
theorem R2{x:Operand}{q:A->H->Foot->Option R}:type_of% (jE (E:=E) (call:=call) (thaw:=thaw) (dst:=dst) (s:=s) (h:=h) (op:=.assign x) (q:=q) ⟨rfl,rfl⟩):=jE ⟨rfl,rfl⟩
theorem W5{t:TypeId}{q:A->H->Foot->Option R}:type_of% (jE (E:=E) (call:=call) (thaw:=thaw) (dst:=dst) (s:=s) (h:=h) (op:=.alloc t) (q:=q) ⟨rfl,rfl⟩):=jE ⟨rfl,rfl⟩
theorem EV{t:TypeId}{n:Nat}{ps:List (Nat×Operand)}{q:A->H->Foot->Option R}:type_of% (jE (E:=E) (call:=call) (thaw:=thaw) (dst:=dst) (s:=s) (h:=h) (op:=.buildSlice t n ps.toArray) (q:=q) ⟨rfl,rfl⟩):=jE ⟨rfl,rfl⟩
theorem aB6{t u:TypeId}{x:Operand}{q:A->H->Foot->Option R}:type_of% (jE (E:=E) (call:=call) (thaw:=thaw) (dst:=dst) (s:=s) (h:=h) (op:=.convert t u x) (q:=q) ⟨rfl,rfl⟩):=jE ⟨rfl,rfl⟩
theorem IE{t:TypeId}{x y:Operand}{q:A->H->Foot->Option R}:kOpD E call thaw dst (.indexAddr t x y) s h q=kv s x fun b=>kOp E call thaw dst (.indexAddr t x y) s h fun a _=>q a h { ids:=idsA b,ro:=true}:=(QC ⟨rfl,rfl,rfl⟩).trans (UJ rfl)
theorem R1{args tys:Array _}{q:A->H->Foot->Option R}:type_of% (jE (E:=E) (call:=call) (thaw:=thaw) (dst:=dst) (s:=s) (h:=h) (op:=.call ⟨.builtin .append,args,tys⟩) (q:=q) ⟨rfl,rfl⟩):=jE ⟨rfl,rfl⟩
theorem aEG{x:Operand}{xs:List Operand}{tys:Array _}{q:A->H->Foot->Option R}:kOpD E call thaw dst (.call ⟨.builtin .len,(x::xs).toArray,tys⟩) s h q=kv s x fun b=>kOp E call thaw dst (.call ⟨.builtin .len,(x::xs).toArray,tys⟩) s h fun a _=>q a h { ids:=idsA b,ro:=true}:=(QC ⟨rfl,rfl,rfl⟩).trans (UJ rfl)
theorem aBd{x:Operand}{q:A->H->Foot->Option R}:type_of% (dO (E:=E) (call:=call) (thaw:=thaw) (dst:=dst) (s:=s) (h:=h) (op:=.move x) (q:=q) ⟨rfl,rfl⟩):=dO ⟨rfl,rfl⟩
theorem aCe{c x y:Operand}{q:A->H->Foot->Option R}:type_of% (dO (E:=E) (call:=call) (thaw:=thaw) (dst:=dst) (s:=s) (h:=h) (op:=.pick c x y) (q:=q) ⟨rfl,rfl⟩):=dO ⟨rfl,rfl⟩
theorem L4{x:Operand}{q:A->H->Foot->Option R}:type_of% (dO (E:=E) (call:=call) (thaw:=thaw) (dst:=dst) (s:=s) (h:=h) (op:=.nilCheck x) (q:=q) ⟨rfl,rfl⟩):=dO ⟨rfl,rfl⟩
theorem aEY{op:BinOp}{t:TypeId}{x y:Operand}{t2:TypeId}{q:A->H->Foot->Option R}:type_of% (dO (E:=E) (call:=call) (thaw:=thaw) (dst:=dst) (s:=s) (h:=h) (op:=.binOp op t x y t2) (q:=q) ⟨rfl,rfl⟩):=dO ⟨rfl,rfl⟩
theorem aHn{op:UnOp}{t:TypeId}{x:Operand}{q:A->H->Foot->Option R}:type_of% (dO (E:=E) (call:=call) (thaw:=thaw) (dst:=dst) (s:=s) (h:=h) (op:=.unOp op t x) (q:=q) ⟨rfl,rfl⟩):=dO ⟨rfl,rfl⟩
theorem LF{fn:Fn}{first cap:Array Operand}{q:A->H->Foot->Option R}:type_of% (dO (E:=E) (call:=call) (thaw:=thaw) (dst:=dst) (s:=s) (h:=h) (op:=.makeFunc fn first cap) (q:=q) ⟨rfl,rfl⟩):=dO ⟨rfl,rfl⟩
theorem H7{t:TypeId}{x:Operand}{f:Nat}{q:A->H->Foot->Option R}:type_of% (dO (E:=E) (call:=call) (thaw:=thaw) (dst:=dst) (s:=s) (h:=h) (op:=.fieldAddr t x f) (q:=q) ⟨rfl,rfl⟩):=dO ⟨rfl,rfl⟩
theorem P6{x:Operand}{i:Nat}{q:A->H->Foot->Option R}:type_of% (dO (E:=E) (call:=call) (thaw:=thaw) (dst:=dst) (s:=s) (h:=h) (op:=.extract x i) (q:=q) ⟨rfl,rfl⟩):=dO ⟨rfl,rfl⟩
theorem WO{t:TypeId}{ps:Array (Nat×Operand)}{q:A->H->Foot->Option R}:type_of% (dO (E:=E) (call:=call) (thaw:=thaw) (dst:=dst) (s:=s) (h:=h) (op:=.build t ps) (q:=q) ⟨rfl,rfl⟩):=dO ⟨rfl,rfl⟩
def aEV(a b:Foot):Bool:=(!a.ro&&(!b.ids.isEmpty&&a.wr.any b.ids.contains))||(!b.ro&&(!a.ids.isEmpty&&b.wr.any a.ids.contains))
theorem aLI{l:List Nat}:l.any (([]:List Nat)).contains=false:=by grind
theorem aBa(a b:Foot):aEV a b=jM a b:=by
 obtain⟨ia,ra,wa⟩:=a;obtain⟨ib,rb,wb⟩:=b;unfold aEV jM
 cases ia<;>cases ib<;>simp
def eF(ops:List Oper)(cs:List Foot):Bool:=
 let b:=GF ops []
 (List.range cs.length).all fun j=>(List.range j).all fun i=>(b.getD j 0).testBit i|| !aEV (cs.getD i {}) (cs.getD j {})
theorem aKg{src:List Oper}{cs:List Foot}(h:mQ src cs=true):eF src cs=true:=by
 unfold eF;simp only[aBa];exact h
theorem XW{src:List Oper}{cs:List Foot}{x:Option R}(hc:Shut (eF src cs=true)):(if mQ src cs=true then x else none)=x:=if_pos (by
 have:=hc.it;unfold eF at this;simp only[aBa]at this;exact this)
theorem aEj{q:List A->H->Option R}:kOps E call thaw [] s h q=q s h:=rfl
theorem aCE{op:Op}{g:Option (Option Tmp×Bool)}{os:List SO}{q:List A->H->Option R}:kOps E call thaw (⟨dst,op,g⟩::os) s h q=sU g s
  (fun s=>kOp E call thaw dst op s h fun a h'=>match box (aPut s dst a)with|.no=>none|.mk s'=>kOps E call thaw os s' h' q)
  (fun s=>match box (aPut s dst (.d .undef))with|.no=>none|.mk s'=>kOps E call thaw os s' h q):=rfl
theorem aBZ{cs:List Foot}{q:List A->H->List Foot->Option R}:sZ E call thaw [] s h cs q=q s h cs:=rfl
theorem YB{op:Op}{g:Option (Option Tmp×Bool)}{os:List SO}{cs:List Foot}{q:List A->H->List Foot->Option R}:sZ E call thaw (⟨dst,op,g⟩::os) s h cs q=sU g s
  (fun s=>kOpD E call thaw dst op s h fun a h' c=>match box (aPut s dst a)with|.no=>none|.mk s'=>sZ E call thaw os s' h' (cs++[c]) q)
  (fun s=>match box (aPut s dst (.d .undef))with|.no=>none|.mk s'=>sZ E call thaw os s' h (cs++[{}]) q):=rfl
section
variable{L nf:Nat}{live:List Bool}{lp:Nat->Code}{q:Exit->List A->H->Option R}
theorem YK:aK E call L nf thaw live lp .skip s h q=q .normal s h:=rfl
theorem aCv{l:List SO}:aK E call L nf thaw live lp (.ops l) s h q=kOps E call thaw l s h fun s h=>q .normal s h:=rfl
theorem SB{l:List SO}{src:Array Oper}:aK E call L nf thaw live lp (.drawn l src) s h q=sZ E call thaw l s h [] fun s h cs=>if mQ src.toList cs=true then q .normal s h else none:=rfl
theorem aBt{a b:SC}:aK E call L nf thaw live lp (.seq a b) s h q=aK E call L nf thaw live lp a s h fun e s h=>match e with
  |.normal=>aK E call L nf thaw live lp b s h q
  |e=>q e s h:=rfl
theorem W0{c:Operand}{x y:SC}:aK E call L nf thaw live lp (.cond c x y) s h q=kv s c fun a=>match a with
  |.d (.bool b)=>if b=true then aK E call L nf thaw live lp x s h q else aK E call L nf thaw live lp y s h q
  |_=>none:=rfl
theorem S9{id:Nat}{c:SC}:aK E call L nf thaw live lp (.block id c) s h q=aK E call L nf thaw live lp c s h fun e s h=>match e with
  |.exit i=>if i=id then q .normal s h else q (.exit i) s h
  |e=>q e s h:=rfl
theorem YQ{i:Nat}:aK E call L nf thaw live lp (.loop i) s h q=match box (oU live s)with
  |.no=>none
  |.mk m=>match box (gc nf m s h)with
   |.mk (s',h')=>aM E call L nf thaw live (lp i) m L s' h' q
   |.no=>none:=rfl
theorem YN{id:Nat}:aK E call L nf thaw live lp (.exit id) s h q=q (.exit id) s h:=rfl
theorem aBQ:aK E call L nf thaw live lp .ret s h q=q .ret s h:=rfl
theorem QH{c:Code}{m:List Bool}{n:Nat}:bE E call L nf thaw live c m n q .normal s h=match box (gc nf m s h)with
  |.mk (s',h')=>aM E call L nf thaw live c m n s' h' q
  |.no=>none:=rfl
theorem WF{c:Code}{m:List Bool}{n i:Nat}:bE E call L nf thaw live c m n q (.exit i) s h=match box (gc nf m s h)with
  |.mk (s',h')=>q (.exit i) s' h'
  |.no=>none:=rfl
theorem aBU{c:Code}{m:List Bool}{n:Nat}:bE E call L nf thaw live c m n q .ret s h=match box (gc nf m s h)with
  |.mk (s',h')=>q .ret s' h'
  |.no=>none:=rfl
end
def aZ(E:Env)(call:aX)(h:H)(f:FuncId)(args:List A)(k:A->H->Option R):Option R:=
 match bV call E.hint (pack h (aD aG h (idsL args) [])) f (aE (aI (aD aG h (idsL args) [])) args)with
 |some (a,h1)=>
  if(aD aG h (idsL args) []).length<=h1.length/\closed h (aD aG h (idsL args) []) (idsL args)=true then
   k (mapA (back (aD aG h (idsL args) []) h.length h1.length) a) (bJ (back (aD aG h (idsL args) []) h.length h1.length) h (aD aG h (idsL args) []) h1)
  else none
 |none=>none
theorem aKS{f:FuncId}{args:List Operand}{tys:Array TypeId}:kOp E call thaw dst (.call ⟨.value (.func f),args.toArray,tys⟩) s h k=kvs s args fun vs=>aZ E call h f vs k:=by
 unfold kOp kvs aZ;simp only[opds,bR,cH]
 cases bR s args with
 |none=>rfl
 |some vs=>
  simp only[sH,if_true,iA,idsL,idsA,Ao,aE,mapA,evOp,eQ,eS,dX,Ai]
  cases bV call E.hint (pack h (aD aG h (idsL vs) [])) f (aE (aI (aD aG h (idsL vs) [])) vs)with
  |none=>rfl
  |some r=>grind
theorem aBV{f:FuncId}{args:List Operand}{tys:Array TypeId}:kOp E call thaw dst (.call ⟨.value (.func f),args.toArray,tys⟩) s h k=kvs s args fun vs=>aZ E call h f vs fun a h'=>match box h' with|.no=>none|.mk h''=>k a h'':=by
 rw[aKS];rfl
def CU(E:Env)(call:aX)(h:H)(f:FuncId)(caps args:List A)(k:A->H->Option R):Option R:=
 match bV call E.hint (pack h (aD aG h (idsL caps++idsL args) [])) f (aE (aI (aD aG h (idsL caps++idsL args) [])) args++aE (aI (aD aG h (idsL caps++idsL args) [])) caps)with
 |some (a,h1)=>
  if(aD aG h (idsL caps++idsL args) []).length<=h1.length/\closed h (aD aG h (idsL caps++idsL args) []) (idsL caps++idsL args)=true then
   k (mapA (back (aD aG h (idsL caps++idsL args) []) h.length h1.length) a) (bJ (back (aD aG h (idsL caps++idsL args) []) h.length h1.length) h (aD aG h (idsL caps++idsL args) []) h1)
  else none
 |none=>none
def mG(E:Env)(call:aX)(h:H)(g:A)(args:List A)(k:A->H->Option R):Option R:=
 match g with
 |.d (.fn f caps)=>aZ E call h f (args++caps.map .d) k
 |.clo f caps=>CU E call h f caps args k
 |_=>none
theorem bL:∀(as bs:List A),idsL (as++bs)=idsL as++idsL bs
 | [],bs=>by simp[idsL]
 |a::as,bs=>by simp[idsL,bL as bs]
theorem aE9:∀(ds:List D),idsL (ds.map .d)=[]
 | []=>by simp[idsL]
 |d::ds=>by simp[idsL,idsA,aE9 ds]
theorem cQ{f:Nat->Option Nat}:∀(as bs:List A),aE f (as++bs)=aE f as++aE f bs
 | [],bs=>by simp[aE]
 |a::as,bs=>by simp[aE,cQ as bs]
theorem aAQ{f:Nat->Option Nat}:∀(ds:List D),aE f (ds.map .d)=ds.map .d
 | []=>by simp[aE]
 |d::ds=>by simp[aE,mapA,aAQ ds]
theorem aKp{g:A}{vs:List A}{tys:Array TypeId}{x:Operand}{args:Array Operand}:(match iA E call thaw h (dX dst (.call ⟨.value x,args,tys⟩)) (g::vs)with
   |some (a,h',_)=>k a h'
   |none=>none)=mG E call h g vs k:=by
 unfold iA;simp only[evOp,eQ,dX,aE]
 cases g with
 |d y=>
  cases y with
  |fn f caps=>
   simp only[mG,aZ,mapA,eS,idsL,idsA,Ao,bL,aE9,Ai,cQ,aAQ]
   cases bV call E.hint (pack h (aD aG h (idsL vs) [])) f (aE (aI (aD aG h (idsL vs) [])) vs++caps.map .d)with
   |none=>rfl
   |some r=>grind
  |_=>simp only[mG,mapA,eS]
 |clo f caps=>
  simp only[mG,CU,mapA,eS,idsL,idsA]
  cases bV call E.hint (pack h (aD aG h (idsL caps++idsL vs) [])) f (aE (aI (aD aG h (idsL caps++idsL vs) [])) vs++aE (aI (aD aG h (idsL caps++idsL vs) [])) caps)with
  |none=>rfl
  |some r=>grind
 |sl id gen off len=>
  simp only[mG,mapA]
  cases aI (aD aG h (idsL (A.sl id gen off len::vs)) []) id<;>rfl
 |ptr id gen off=>
  simp only[mG,mapA]
  cases aI (aD aG h (idsL (A.ptr id gen off::vs)) []) id<;>rfl
 |mp id=>
  simp only[mG,mapA]
  cases aI (aD aG h (idsL (A.mp id::vs)) []) id<;>rfl
 |agg cs=>simp only[mG,mapA,eS]
 |tup cs=>simp only[mG,mapA,eS]
 |junk=>simp only[mG,mapA,eS]
theorem aB0{t:Nat}{args:List Operand}{tys:Array TypeId}:kOp E call thaw dst (.call ⟨.value (.tmp t),args.toArray,tys⟩) s h k=match box (s.getD t (.d .undef))with
  |.no=>none
  |.mk g=>kvs s args fun vs=>mG E call h g vs k:=by
 unfold kOp kvs;simp only[opds,bR,cH,box]
 cases bR s args with
 |none=>rfl
 |some vs=>simp only[sH,if_true];exact aKp
theorem aBp{f:FuncId}{caps:List D}{vs:List A}:mG E call h (.d (.fn f caps)) vs k=match box (vs++caps.map .d)with|.no=>none|.mk as'=>aZ E call h f as' k:=rfl
theorem XS{f:FuncId}{caps vs:List A}:mG E call h (.clo f caps) vs k=CU E call h f caps vs k:=rfl
theorem TZ{h:H}{ids:List Nat}{h1:H}{ord:List Nat}:∀(ord:List Nat) (h h1:H) (f:Nat->Option Nat),ord.length<=h1.length->(bJ f h ord h1).length=h.length+(h1.length-ord.length)
 | [],h,h1,f,_=>by simp[bJ]
 |i::ord,h,[],f,hl=>by simp at hl
 |i::ord,h,o::h1,f,hl=>by
  simp only[bJ,TZ (h:=h) (ids:=ids) (h1:=h1) (ord:=ord) ord _ h1 f (by simpa using hl),Bk,Ad];omega
def wrC(E:Env)(f:FuncId)(ord:List Nat):List Nat:=if(E.hint f).mode==3 then []else ord
def GJ(E:Env)(f:FuncId)(h h':H)(ord:List Nat):Option (H×Foot):=if((E.hint f).mode==1&&h'.length-h.length==0)=true then some (h,{ ids:=ord,ro:=true})else some (h',{ ids:=ord++List.range' h.length (h'.length-h.length),ro:=false,wr:=wrC E f ord++List.range' h.length (h'.length-h.length)})
theorem aHz{f:FuncId}{args:List Operand}{tys:Array TypeId}{q:A->H->Foot->Option R}:kOpD E call thaw dst (.call ⟨.value (.func f),args.toArray,tys⟩) s h q=kvs s args fun vs=>match box (aD aG h (idsL vs) [])with
  |.no=>none
  |.mk ord=>aZ E call h f vs fun a h'=>if((E.hint f).mode==1&&h'.length-h.length==0)=true then q a h { ids:=ord,ro:=true}else q a h' { ids:=ord++List.range' h.length (h'.length-h.length),ro:=false,wr:=wrC E f ord++List.range' h.length (h'.length-h.length)}:=by
 unfold kOpD kvs aZ;simp only[opds,bR,cH,box]
 cases bR s args with
 |none=>rfl
 |some vs=>
  simp only[nV,oB,Ak,if_false,iA,idsL,idsA,Ao,aE,mapA,evOp,eQ,eS,dX,Ai,iS]
  cases bV call E.hint (pack h (aD aG h (idsL vs) [])) f (aE (aI (aD aG h (idsL vs) [])) vs)with
  |none=>rfl
  |some r=>
   obtain⟨a,h1⟩:=r
   by_cases c1:(aD aG h (idsL vs) []).length<=h1.length
   ·by_cases c2:closed h (aD aG h (idsL vs) []) (idsL vs)=true
    ·have e:=TZ (h:=h) (ids:=idsL vs) (h1:=h1) (ord:=[]) (aD aG h (idsL vs) []) h h1 (back (aD aG h (idsL vs) []) h.length h1.length) c1;have e2:(bJ (back (aD aG h (idsL vs) []) h.length h1.length) h (aD aG h (idsL vs) []) h1).length-h.length=h1.length-(aD aG h (idsL vs) []).length:=by omega
     simp only[c1,c2,and_self,if_true,e2]
     first|done|rfl|(by_cases c3:((E.hint f).mode==1&&h1.length-(aD aG h (idsL vs) []).length==0)=true<;>simp[c3])
    ·grind
   ·grind
theorem P8{f:FuncId}{args:List Operand}{tys:Array TypeId}{q:A->H->Foot->Option R}:kOpD E call thaw dst (.call ⟨.value (.func f),args.toArray,tys⟩) s h q=kvs s args fun vs=>match box (aD aG h (idsL vs) [])with
  |.no=>none
  |.mk ord=>aZ E call h f vs fun a h'=>match box (GJ E f h h' ord)with|.mk (some (h'',c))=>q a h'' c|_=>none:=by
 rw[aHz]
 congr 1
 funext vs
 simp only[box]
 congr 1
 funext a h'
 unfold GJ
 by_cases hc:((E.hint f).mode==1&&h'.length-h.length==0)=true
 ·grind
 ·grind
theorem aFO{t:Nat}{args:List Operand}{tys:Array TypeId}{q:A->H->Foot->Option R}{f:FuncId}{caps:List D}(hg:Now (s.getD t (.d .undef)=.d (.fn f caps))):kOpD E call thaw dst (.call ⟨.value (.tmp t),args.toArray,tys⟩) s h q=kvs s args fun vs=>match box (aD aG h (idsL vs) [])with
  |.no=>none
  |.mk ord=>aZ E call h f (vs++caps.map .d) fun a h'=>if((E.hint f).mode==1&&h'.length-h.length==0)=true then q a h { ids:=ord,ro:=true}else q a h' { ids:=ord++List.range' h.length (h'.length-h.length),ro:=false,wr:=wrC E f ord++List.range' h.length (h'.length-h.length)}:=by
 have hg:=hg.it;unfold kOpD kvs aZ;simp only[opds,bR,cH,box,hg]
 cases bR s args with
 |none=>rfl
 |some vs=>
  simp only[nV,oB,Ak,if_false,iA,idsL,idsA,Ao,aE,mapA,evOp,eQ,eS,dX,Ai,iS,bL,aE9,cQ,aAQ]
  cases bV call E.hint (pack h (aD aG h (idsL vs) [])) f (aE (aI (aD aG h (idsL vs) [])) vs++caps.map .d)with
  |none=>rfl
  |some r=>
   obtain⟨a,h1⟩:=r
   by_cases c1:(aD aG h (idsL vs) []).length<=h1.length
   ·by_cases c2:closed h (aD aG h (idsL vs) []) (idsL vs)=true
    ·have e:=TZ (h:=h) (ids:=idsL vs) (h1:=h1) (ord:=[]) (aD aG h (idsL vs) []) h h1 (back (aD aG h (idsL vs) []) h.length h1.length) c1;have e2:(bJ (back (aD aG h (idsL vs) []) h.length h1.length) h (aD aG h (idsL vs) []) h1).length-h.length=h1.length-(aD aG h (idsL vs) []).length:=by omega
     simp only[c1,c2,and_self,if_true,e2]
     first|done|rfl|(by_cases c3:((E.hint f).mode==1&&h1.length-(aD aG h (idsL vs) []).length==0)=true<;>simp[c3])
    ·grind
   ·grind
def aNT(E:Env)(call:aX)(thaw:List Nat)(dst:Option Tmp)(op:Op)(s:List A)(h:H)(q:A->H->Foot->Option R):Option R:=kOpD E call thaw dst op s h q
theorem XX{t:Nat}{args:List Operand}{tys:Array TypeId}{q:A->H->Foot->Option R}:kOpD E call thaw dst (.call ⟨.value (.tmp t),args.toArray,tys⟩) s h q=match box (s.getD t (.d .undef))with
  |.mk (.d (.fn f caps))=>kvs s args fun vs=>match box (aD aG h (idsL vs) [])with
   |.no=>none
   |.mk ord=>match box (vs++caps.map .d)with|.no=>none|.mk as'=>aZ E call h f as' fun a h'=>match box (GJ E f h h' ord)with|.mk (some (h'',c))=>q a h'' c|_=>none
  |.mk (.clo f [])=>kvs s args fun vs=>match box (aD aG h (idsL vs) [])with
   |.no=>none
   |.mk ord=>aZ E call h f vs fun a h'=>match box (GJ E f h h' ord)with|.mk (some (h'',c))=>q a h'' c|_=>none
  |_=>aNT E call thaw dst (.call ⟨.value (.tmp t),args.toArray,tys⟩) s h q:=by
 have key:=fun(f:FuncId) (caps:List D) hg=>aFO (E:=E) (call:=call) (thaw:=thaw) (dst:=dst) (s:=s) (h:=h) (t:=t) (args:=args) (tys:=tys) (q:=q) (f:=f) (caps:=caps) hg
 have k2:∀f,s.getD t (.d .undef)=.clo f []->kOpD E call thaw dst (.call ⟨.value (.tmp t),args.toArray,tys⟩) s h q=kOpD E call thaw dst (.call ⟨.value (.func f),args.toArray,tys⟩) s h q:=by
  intro f hg;unfold kOpD kvs;simp only[opds,bR,cH,hg]
  cases bR s args<;>rfl
 have fold:∀(f:FuncId) (h h':H) (ord:List Nat) (a:A),(if((E.hint f).mode==1&&h'.length-h.length==0)=true then q a h { ids:=ord,ro:=true}else q a h' { ids:=ord++List.range' h.length (h'.length-h.length),ro:=false,wr:=wrC E f ord++List.range' h.length (h'.length-h.length)})=match box (GJ E f h h' ord)with|.mk (some (h'',c))=>q a h'' c|_=>none:=by
  intro f h h' ord a;unfold GJ
  by_cases hc:((E.hint f).mode==1&&h'.length-h.length==0)=true
  ·simp only[if_pos hc,box]
  ·simp only[if_neg hc,box]
 generalize hs:s.getD t (.d .undef)=a
 cases a with
 |d x=>
  cases x with
  |fn f caps=>
   rw[key f caps ⟨hs⟩];simp only[fold];rfl
  |_=>rfl
 |clo f caps=>
  cases caps with
  |nil=>rw[k2 f hs];exact P8
  |cons c caps=>rfl
 |_=>rfl
theorem BB(n:Nat)(h:H):aD n h [] []=[]:=by cases n<;>rfl
mutual
theorem qI{f:Nat->Option Nat}:∀a:A,idsA a=[]->mapA f a=a
 |.d x,_=>by simp only[mapA]
 |.sl id gen off len,h=>by simp[idsA]at h
 |.ptr id gen off,h=>by simp[idsA]at h
 |.mp id,h=>by simp[idsA]at h
 |.clo g caps,h=>by simp only[idsA]at h;simp only[mapA];rw[gL caps h]
 |.agg cs,h=>by simp only[idsA]at h;simp only[mapA];rw[gL cs h]
 |.tup cs,h=>by simp only[idsA]at h;simp only[mapA];rw[gL cs h]
 |.junk,_=>by simp only[mapA]
theorem gL{f:Nat->Option Nat}:∀as:List A,idsL as=[]->aE f as=as
 | [],_=>by simp only[aE]
 |a::as,h=>by
  simp only[idsL,List.append_eq_nil_iff]at h;simp only[aE];rw[qI a h.1,gL as h.2]
end
theorem aI5{a:A}(h:oP a=true):idsA a=[]:=by
 cases a with
 |d x=>rfl
 |agg cs=>
  simp only[oP]at h;simp only[idsA]
  induction cs with
  |nil=>rfl
  |cons c cs ih=>
   simp only[Bp,Aq]at h;simp only[idsL,ih h.2,Ai]
   cases c<;>first|rfl|simp[isD]at h
 |_=>simp[oP]at h
theorem u4:∀ {as:List A},as.all oP=true->idsL as=[]
 | [],_=>rfl
 |a::as,h=>by
  simp only[Bp,Aq]at h;simp only[idsL,aI5 h.1,u4 h.2,Ai]
theorem WE{h:H}:∀ {cs:List A},cs.all isD=true->∃ds,frzL h cs=some (ds,h)/\ds.map .d=cs
 | [],_=>⟨[],rfl,rfl⟩
 |c::cs,hs=>by
  simp only[Bp,Aq]at hs;obtain⟨ds,h1,h2⟩:=WE (h:=h) hs.2
  cases c with
  |d x=>
   refine⟨x::ds,?_,by simp[h2]⟩;unfold frzL at h1|-;simp only[eY];have:frz deep h (.d x)=some (x,h):=rfl;rw[this];simp only[h1]
  |_=>simp[isD]at hs
theorem sQ{h:H}:∀ {as:List A},as.all oP=true->eL h as=some (as,h)
 | [],_=>rfl
 |a::as,hs=>by
  simp only[Bp,Aq]at hs
  have ha:frzA h a=some (a,h):=by
   cases a with
   |d x=>rfl
   |agg cs=>
    obtain⟨ds,h1,h2⟩:=WE (h:=h) (cs:=cs) (by simpa only[oP]using hs.1);simp only[frzA,h1,h2]
   |_=>simp[oP]at hs
  simp only[eL,ha,sQ hs.2]
theorem aGr{r:A}(h:gK r=true):j5 r=true/\mapA (fun k=>back [] 0 0 k) r=r:=by
 cases r with
 |d x=>cases x<;>first|exact⟨rfl,rfl⟩|simp[gK]at h
 |tup vs=>
  simp only[gK]at h
  have key:jA vs=true/\aE (fun k=>back [] 0 0 k) vs=vs:=by
   induction vs with
   |nil=>exact⟨rfl,by simp only[aE]⟩
   |cons v vs ih=>
    simp only[Bp,Aq]at h;obtain⟨i1,i2⟩:=ih h.2
    cases v with
    |d x=>cases x<;>first|(exfalso;simp at h;done)|(refine⟨by simp only[jA,j5,sG,i1,Bu],by simp only[aE,mapA,i2]⟩)
    |_=>grind
  exact⟨by simp only[j5];exact key.1,by simp only[mapA,key.2]⟩
 |_=>simp[gK]at h
theorem aFM{f:FuncId}{args:List A}{r:A}(hs:args.all oP=true)(hc:call f args []=some (r,[]))(hp:gK r=true\/((E.hint f).mode==1||(E.hint f).mode==3)=false):bV call E.hint [] f args=some (r,[]):=by
 unfold bV
 split
 ·exact hc
 ·rename_i hm
  rw[sQ hs];simp only[hc]
  rcases hp with hp|hp
  ·rw[hp];rfl
  ·grind
 ·rename_i hm
  rw[sQ hs];simp only[hc]
  rcases hp with hp|hp
  ·obtain⟨h1,h2⟩:=aGr hp;rw[h1];exact congrArg (fun x=>some (x,([]:H))) h2
  ·grind
 ·rw[sQ hs];simp only[hc]
theorem cO{f:FuncId}{args:List A}{r:A}(hs:args.all oP=true)(hc:call f args []=some (r,[]))(hr:idsA r=[])(hp:gK r=true\/((E.hint f).mode==1||(E.hint f).mode==3)=false):aZ E call h f args k=k r h:=by
 unfold aZ;rw[u4 hs,BB,gL _ (u4 hs)];have:pack h []=[]:=rfl;rw[this,aFM hs hc hp];simp only[Ac,Ab,true_and,closed,Bz,Bu,if_true,qI r hr,bJ,Ap,Ai]
def tE(call:aX)(f:FuncId)(args:List A)(k:A->Option R):Option R:=
 match call f args []with
 |some (r,[])=>if gK r=true then k r else none
 |_=>none
theorem lC{f:FuncId}{args:List A}{r:A}{k:A->Option R}(hc:call f args []=some (r,[]))(hp:gK r=true):tE call f args k=k r:=by
 unfold tE;rw[hc];simp only[hp,if_true]
theorem aIL{r:A}(h:gK r=true):idsA r=[]:=by
 cases r with
 |d x=>rfl
 |tup vs=>
  simp only[gK]at h;simp only[idsA]
  induction vs with
  |nil=>rfl
  |cons v vs ih=>
   simp only[Bp,Aq]at h;simp only[idsL,ih h.2,Ai]
   cases v with
   |d x=>rfl
   |_=>grind
 |_=>simp[gK]at h
theorem aBA(ord:List Nat)(n:Nat):back ord n ord.length=fun k=>ord[k]?:=by
 funext k
 unfold back
 split
 ·rfl
 ·grind
theorem aFm{h:H}{ord ids:List Nat}(hc:closed h ord ids=true)(hn:ord.Nodup)(hl:∀i∈ord,i<h.length):bJ (fun(k:Nat)=>ord[k]?) h ord (pack h ord)=h:=by
 apply Cl;intro id;rw[yJ _ ord h _ id hn hl (by simp[pack])]
 cases hp:aI ord id with
 |none=>
  simp only[]
  split
  ·rfl
  ·rename_i hge
   rw[Cj (by simp[pack]),Cj (by omega)];rfl
 |some k=>
  simp only[];have hm:=GH hp;obtain⟨o,ho⟩:∃o,h[id]? =some o:=⟨h[id]'(hl id hm),Ae _⟩
  rw[gZ (bC hp) ho,ho,Ax,OW hc hm ho]
theorem aFX{f:FuncId}{args:List A}(hm:(E.hint f).mode=1):aZ E call h f args k=match box (aD aG h (idsL args) [])with
  |.no=>none
  |.mk ord=>match box (eL (pack h ord) (aE (aI ord) args))with
   |.mk (some (fs,_))=>if closed h ord (idsL args)=true then tE call f fs fun r=>k r h else none
   |_=>none:=by
 unfold aZ bV;rw[hm];simp only[box]
 cases hf:eL (pack h (aD aG h (idsL args) [])) (aE (aI (aD aG h (idsL args) [])) args)with
 |none=>rfl
 |some r=>
  obtain⟨fs,h1⟩:=r;simp only[tE]
  cases hc:call f fs []with
  |none=>simp
  |some r=>
   obtain⟨a,h2⟩:=r
   cases h2 with
   |cons o h2=>simp
   |nil=>
    by_cases hp:gK a=true
    ·simp only[hp,if_true];have hlen:(pack h (aD aG h (idsL args) [])).length=(aD aG h (idsL args) []).length:=by simp[pack]
     simp only[hlen,Ab,true_and]
     by_cases hcl:closed h (aD aG h (idsL args) []) (idsL args)=true
     ·simp only[hcl,if_true,aBA,qI a (aIL hp)];rw[aFm hcl (bT aG h (idsL args) [] (by simp)) (jD aG h (idsL args) [] (by simp))]
     ·grind
    ·grind
def QQ(h:H)(args:List A):Option (List A):=match box (aD aG h (idsL args) [])with
 |.no=>none
 |.mk ord=>match box (eL (pack h ord) (aE (aI ord) args))with
  |.mk (some (fs,_))=>if closed h ord (idsL args)=true then some fs else none
  |_=>none
theorem d7{f:FuncId}{args:List A}(hm:(E.hint f).mode=1):aZ E call h f args k=match box (QQ h args)with
  |.mk (some fs)=>tE call f fs fun r=>k r h
  |_=>none:=by
 rw[aFX hm];unfold QQ;simp only[box]
 cases eL (pack h (aD aG h (idsL args) [])) (aE (aI (aD aG h (idsL args) [])) args)with
 |none=>rfl
 |some r=>grind
theorem aHk{nf:Nat}{h:H}{ord:List Nat}{s:List A}:trim nf h ord s=match box (pack h ord)with
  |.mk p=>(aU nf p (aE (aI ord) s),cE nf p)
  |.no=>([],[]):=rfl
theorem aL0{nf:Nat}{m:List Bool}{s:List A}{h:H}:gc nf m s h=match box (tidy m s)with
  |.mk s1=>match box (dG nf h (idsL s1))with
   |.mk ord=>trim nf h ord s1
   |.no=>([],[])
  |.no=>([],[]):=rfl
theorem aG4{P:Program}{nf:Nat}{exp:Bool}{rs:List ResultVar}{e:Exit}{s:List A}{h:H}:kFin P nf exp rs e s h=
  if kQ e then(match j9 P s h rs with
   |some rs=>match nA nf exp h rs with
    |some (xs,h2)=>match box (dG nf h2 (idsL xs))with
     |.mk ord=>match box (trim nf h2 ord xs)with
      |.mk r=>some (tupA r.1,r.2)
      |.no=>none
     |.no=>none
    |none=>none
   |none=>none)else none:=rfl
theorem rA(nf:Nat)(h:H)(ids:List Nat):dG nf h ids=aD 1099511627776 h (eO (h.take nf)++ids) (List.range nf):=rfl
theorem rng0:List.range 0=[]:=rfl
theorem rng1:List.range 1=[0]:=rfl
theorem rng2:List.range 2=[0,1]:=rfl
theorem NV(h:H)(ids:List Nat):dG 0 h ids=aD 1099511627776 h ids []:=by
 unfold dG;rfl
theorem tY(n:Nat)(h:H)(acc:List Nat):aD n h [] acc=acc:=by cases n<;>rfl
theorem m3(n:Nat)(h:H)(i:Nat)(todo acc:List Nat):aD (n+1) h (i::todo) acc=if acc.contains i=true then aD n h todo acc
  else match h.getD i .void with
   |.box cs=>aD n h (todo++idsL cs) (acc++[i])
   |.vec cs _ _=>aD n h (todo++idsL cs) (acc++[i])
   |.void=>aD n h todo acc
   |_=>aD n h todo (acc++[i]):=by
 simp only[aD,Aa]
 split
 ·rfl
 ·grind
theorem aDG{α:Type}{c:Prop}[Decidable c]{a:α}(hc:c):(if c then some a else none)=some a:=if_pos hc
def iAnd(k:IntKind)(a b:Int):Int:=k.wrap (BitVec.ofInt k.bits a&&&BitVec.ofInt k.bits b).toNat
def iXor(k:IntKind)(a b:Int):Int:=k.wrap (BitVec.ofInt k.bits a^^^BitVec.ofInt k.bits b).toNat
section
variable{t:TypeId}{K:IntKind}{a b:Int}
theorem aBC:b6 E .add t h (.d (.int K a)) (.d (.int K b))=some (.d (.int K (K.wrap (a+b))),h):=by simp[b6,aBin];rfl
theorem aBT:b6 E .sub t h (.d (.int K a)) (.d (.int K b))=some (.d (.int K (K.wrap (a-b))),h):=by simp[b6,aBin];rfl
theorem aCH:b6 E .mul t h (.d (.int K a)) (.d (.int K b))=some (.d (.int K (K.wrap (a*b))),h):=by simp[b6,aBin];rfl
theorem aBz:b6 E .and t h (.d (.int K a)) (.d (.int K b))=some (.d (.int K (iAnd K a b)),h):=by simp[b6,aBin];rfl
theorem aBM:b6 E .xor t h (.d (.int K a)) (.d (.int K b))=some (.d (.int K (iXor K a b)),h):=by simp[b6,aBin];rfl
theorem aCb:b6 E .lss t h (.d (.int K a)) (.d (.int K b))=some (.d (.bool (decide (a<b))),h):=by simp[b6,aBin]
theorem aBK:b6 E .leq t h (.d (.int K a)) (.d (.int K b))=some (.d (.bool (decide (a<=b))),h):=by simp[b6,aBin]
theorem aCn:b6 E .gtr t h (.d (.int K a)) (.d (.int K b))=some (.d (.bool (decide (b<a))),h):=by simp[b6,aBin]
theorem aCq:b6 E .geq t h (.d (.int K a)) (.d (.int K b))=some (.d (.bool (decide (b<=a))),h):=by simp[b6,aBin]
theorem aCh:b6 E .eql t h (.d (.int K a)) (.d (.int K b))=some (.d (.bool (decide (a=b))),h):=by simp[b6,aBin];rfl
theorem aCd:b6 E .neq t h (.d (.int K a)) (.d (.int K b))=some (.d (.bool (!decide (a=b))),h):=by simp[b6,aBin];rfl
theorem aCA(hb:b≠0):b6 E .quo t h (.d (.int K a)) (.d (.int K b))=some (.d (.int K (K.wrap (a.tdiv b))),h):=by simp[b6,aBin,hb]
theorem aCp(hb:b≠0):b6 E .rem t h (.d (.int K a)) (.d (.int K b))=some (.d (.int K (a.tmod b)),h):=by simp[b6,aBin,hb]
theorem aBS{K2:IntKind}(hb:0<=b):b6 E .shr t h (.d (.int K a)) (.d (.int K2 b))=some (.d (.int K (a.fdiv (2^(min b.toNat K.bits)))),h):=by
 have:¬b<0:=by omega
 simp[b6,aBin,Op.shift,this];rfl
theorem aHg{b:Bool}:aUn .not (.d (.bool b))=some (.d (.bool (!b))):=rfl
end
end
theorem WD:type_of% (AI @YK (AI @aCv (AI @SB (AI @aBt (AI @W0 (AI @S9 (AI @YQ (AI @YN (AI @aBQ (AI @aEj (AI @aCE (AI @aBZ (AI @YB (AI @S6 (AI @R6 (AI @aJX (AI @aJo (AI @aG5 (AI @aJK (AI @aGY (AI @aG8 (AI @aGL (AI @aHa (AI @aD7 (AI @aFp (AI @HT (AI @D1 (AI @aHo (AI @aKF (AI @aDq (AI @OQ (AI @aDD (AI @aEC (AI @aBI (AI @aCk (AI @aGM (AI @aA8 (AI @IP (AI @PT (AI @LJ (AI @RX (AI @RY (AI @L7 (AI @LZ (AI @aBl (AI @TF (AI @S0 (AI @aBV (AI @aG4 (AI @QH (AI @WF (AI @aBU (AI @SN @LL))))))))))))))))))))))))))))))))))))))))))))))))))))):=
 ⟨@YK,@aCv,@SB,@aBt,@W0,@S9,@YQ,@YN,@aBQ,@aEj,@aCE,@aBZ,@YB,@S6,@R6,@aJX,@aJo,@aG5,@aJK,@aGY,@aG8,@aGL,@aHa,@aD7,@aFp,@HT,@D1,@aHo,@aKF,@aDq,@OQ,@aDD,@aEC,@aBI,@aCk,@aGM,@aA8,@IP,@PT,@LJ,@RX,@RY,@L7,@LZ,@aBl,@TF,@S0,@aBV,@aG4,@QH,@WF,@aBU,@SN,@LL⟩
theorem WDD:type_of% (AI @aBj (AI @YL (AI @R2 (AI @W5 (AI @EV (AI @aB6 (AI @IE (AI @R1 (AI @aEG (AI @aBd (AI @aCe (AI @L4 (AI @aEY (AI @aHn (AI @LF (AI @H7 (AI @P6 (AI @WO (AI @P8 (AI @aB0 (AI @aBp @XS))))))))))))))))))))):=
 ⟨@aBj,@YL,@R2,@W5,@EV,@aB6,@IE,@R1,@aEG,@aBd,@aCe,@L4,@aEY,@aHn,@LF,@H7,@P6,@WO,@P8,@aB0,@aBp,@XS⟩
theorem WK0:type_of% (AI @aJ9 (AI @aHg (AI @aBC (AI @aBT (AI @aCH (AI @aBz (AI @aBM (AI @aCA (AI @aCp (AI @aBS (AI @aCb (AI @aBK (AI @aCn (AI @aCq (AI @aCh (AI @aCd (AI @List.getD_nil.{0} (AI @Cd.{0} (AI @Bl.{0} (AI @aL0 @aHk)))))))))))))))))))):=
 ⟨@aJ9,@aHg,@aBC,@aBT,@aCH,@aBz,@aBM,@aCA,@aCp,@aBS,@aCb,@aBK,@aCn,@aCq,@aCh,@aCd,@List.getD_nil.{0},@Cd.{0},@Bl.{0},@aL0,@aHk⟩
theorem WK1:type_of% (AI @Bool.not_true (AI @Bool.not_false (AI @Bool.true_eq_false (AI @decide_eq_true_eq (AI @decide_eq_false_iff_not (AI @Ax.{0,0} (AI @decide_true (AI @decide_false (AI @aDG (AI @Cb (AI @Nat.one_mul (AI @Bc.{0} (AI @Bp.{0} (AI @Bz.{0} (AI @Bu (AI @Bool.and_true @Bool.true_and)))))))))))))))):=
 ⟨@Bool.not_true,@Bool.not_false,@Bool.true_eq_false,@decide_eq_true_eq,@decide_eq_false_iff_not,@Ax.{0,0},@decide_true,@decide_false,@aDG,@Cb,@Nat.one_mul,@Bc.{0},@Bp.{0},@Bz.{0},@Bu,@Bool.and_true,@Bool.true_and⟩
theorem WK2:type_of% (AI @Cu (AI @Df (AI @List.zip_cons_cons.{0,0} (AI @List.zip_nil_left.{0,0} (AI @List.flatten_cons.{0} (AI @List.flatten_nil.{0} (AI @List.take_zero.{0} (AI @List.take_nil.{0} (AI @List.drop_nil.{0} (AI @Bool.or_self (AI @Bool.or_false (AI @Bv (AI @and_self (AI @and_true (AI @true_and (AI @Bool.or_true (AI @Bool.true_or (AI @Dg.{0} (AI @List.take_succ_cons.{0} (AI @Nat.lt_irrefl (AI @List.head?_cons.{0} (AI @List.contains_cons.{0} (AI @List.contains_nil.{0} @rA))))))))))))))))))))))):=
 ⟨@Cu,@Df,@List.zip_cons_cons.{0,0},@List.zip_nil_left.{0,0},@List.flatten_cons.{0},@List.flatten_nil.{0},@List.take_zero.{0},@List.take_nil.{0},@List.drop_nil.{0},@Bool.or_self,@Bool.or_false,@Bv,@and_self,@and_true,@true_and,@Bool.or_true,@Bool.true_or,@Dg.{0},@List.take_succ_cons.{0},@Nat.lt_irrefl,@List.head?_cons.{0},@List.contains_cons.{0},@List.contains_nil.{0},@rA⟩
theorem WK3:type_of% (AI @rng0 (AI @rng1 (AI @rng2 (AI @Option.isNone_none.{0} (AI @Option.isNone_some.{0} (AI @Co.{0} (AI @Dc.{0} (AI @tY (AI @m3 (AI @beq_self_eq_true.{0} (AI @Nat.succ_ne_self (AI @Nat.zero_ne_one (AI @Af.{0} (AI @or_false @or_true)))))))))))))):=
 ⟨@rng0,@rng1,@rng2,@Option.isNone_none.{0},@Option.isNone_some.{0},@Co.{0},@Dc.{0},@tY,@m3,@beq_self_eq_true.{0},@Nat.succ_ne_self,@Nat.zero_ne_one,@Af.{0},@or_false,@or_true⟩
theorem WK:type_of% (AI @WK0 (AI @WK1 (AI @WK2 @WK3))):=
 ⟨@WK0,@WK1,@WK2,@WK3⟩
section
variable{E:Env}{vs:List A}{t u:TypeId}{x y:Operand}
theorem RW:iS E (.convert t u x) vs=(c8 E.P u).isNone:=rfl
theorem LW{a:Array Operand}{b:Array TypeId}:iS E (.call ⟨.builtin .append,a,b⟩) vs=false:=rfl
theorem OK:iS E (.alloc t) vs=false:=rfl
theorem LO:iS E (.assign x) vs=false:=rfl
theorem NY:iS E (.store t x y) vs=false:=rfl
theorem aBf{n:Nat}{ps:Array (Nat×Operand)}:iS E (.buildSlice t n ps) vs=false:=rfl
theorem ZC:opds (.alloc t)=[]:=rfl
end
theorem UNx5:type_of% (fun v0 v1 v2 v3=> @outA.eq_2 v0 v1 v2 (A.d v3) (by nofun)):=by intros;rfl
theorem UNx6:type_of% (fun v0 v1 v2 v3 v4 v5 v6=> @outA.eq_2 v0 v1 v2 (A.sl v3 v4 v5 v6) (by nofun)):=by intros;rfl
theorem UNx7:type_of% (fun v0 v1 v2 v3 v4 v5=> @outA.eq_2 v0 v1 v2 (A.ptr v3 v4 v5) (by nofun)):=by intros;rfl
theorem UNx9:type_of% (fun v0 v1 v2 v3 v4=> @outA.eq_2 v0 v1 v2 (A.clo v3 v4) (by nofun)):=by intros;rfl
theorem aL7:type_of% (fun v0 v1 v2 v3 v4=> @outS.eq_2 v0 v1 v2 (D.int v3 v4) (by nofun)):=by intros;rfl
theorem aL6:type_of% (fun v0 v1 v2 v3=> @outS.eq_2 v0 v1 v2 (D.bool v3) (by nofun)):=by intros;rfl
theorem aL1:type_of% (fun v0 v1 v2 v3=> @outS.eq_2 v0 v1 v2 (D.str v3) (by nofun)):=by intros;rfl
theorem aMq:type_of% (fun v0 v1 v2 v3 v4=> @outS.eq_2 v0 v1 v2 (D.ivs v3 v4) (by nofun)):=by intros;rfl
theorem aMp:type_of% (fun v0 v1=> @fX.eq_3 (A.d (D.int v0 v1)) (by nofun) (by nofun)):=by intros;rfl
theorem aMd:type_of% (fun v0=> @fX.eq_3 (A.d (D.bool v0)) (by nofun) (by nofun)):=by intros;rfl
theorem aLY:type_of% (fun v0=> @fX.eq_3 (A.d (D.str v0)) (by nofun) (by nofun)):=by intros;rfl
theorem aMi:type_of% (fun v0 v1=> @fX.eq_3 (A.d (D.ivs v0 v1)) (by nofun) (by nofun)):=by intros;rfl
theorem aMm:type_of% (@fX.eq_3 (A.d D.nils) (by nofun) (by nofun)):=(@fX.eq_3 (A.d D.nils) (by nofun) (by nofun))
theorem aL2:type_of% (fun v0 v1=> @fX.eq_3 (A.d (D.fn v0 v1)) (by nofun) (by nofun)):=by intros;rfl
theorem aL5:type_of% (fun v0 v1 v2 v3=> @fX.eq_3 (A.sl v0 v1 v2 v3) (by nofun) (by nofun)):=by intros;rfl
theorem aMf:type_of% (fun v0 v1 v2=> @fX.eq_3 (A.ptr v0 v1 v2) (by nofun) (by nofun)):=by intros;rfl
theorem aMj:type_of% (fun v0=> @fX.eq_3 (A.mp v0) (by nofun) (by nofun)):=by intros;rfl
theorem aMg:type_of% (fun v0 v1=> @fX.eq_3 (A.clo v0 v1) (by nofun) (by nofun)):=by intros;rfl
theorem aL4:type_of% (fun v0=> @tidy.eq_3 List.nil v0 (by nofun) (by nofun)):=by intros;rfl
theorem aMe:type_of% (fun v0 v1 v2 v3 v4=> @cC.eq_2 v0 v1 v2 v3 (A.d v4) (by nofun)):=by intros;rfl
theorem aL8:type_of% (fun v0 v1 v2 v3 v4 v5 v6 v7=> @cC.eq_2 v0 v1 v2 v3 (A.sl v4 v5 v6 v7) (by nofun)):=by intros;rfl
theorem aLX:type_of% (fun v0 v1=> @QN.eq_2 v0 (A.d v1) (by nofun)):=by intros;rfl
theorem aMk:type_of% (fun v0 v1 v2=> @frz.eq_5 v0 (A.d v2) v1 (by nofun) (by nofun) (by nofun)):=by intros;rfl
theorem aMo:type_of% (fun v0=> @aW.eq_2 (A.d v0) (by nofun)):=by intros;rfl
theorem aMl:type_of% (fun v0 v1 v2 v3=> @aW.eq_2 (A.sl v0 v1 v2 v3) (by nofun)):=by intros;rfl
theorem aMn:type_of% (fun v0=> @aW.eq_2 (A.mp v0) (by nofun)):=by intros;rfl
theorem aJc:type_of% (fun v0 v1=> @dV.eq_5 (A.d (D.int v0 v1)) (by nofun) (by nofun) (by nofun) (by nofun)):=by intros;rfl
theorem aI2:type_of% (fun v0=> @dV.eq_5 (A.d (D.bool v0)) (by nofun) (by nofun) (by nofun) (by nofun)):=by intros;rfl
theorem aJf:type_of% (fun v0=> @dV.eq_5 (A.d (D.str v0)) (by nofun) (by nofun) (by nofun) (by nofun)):=by intros;rfl
theorem aKo:type_of% (fun v0 v1=> @dV.eq_5 (A.d (D.ivs v0 v1)) (by nofun) (by nofun) (by nofun) (by nofun)):=by intros;rfl
theorem aKq:type_of% (@dV.eq_5 (A.d D.nils) (by nofun) (by nofun) (by nofun) (by nofun)):=(@dV.eq_5 (A.d D.nils) (by nofun) (by nofun) (by nofun) (by nofun))
theorem aJ8:type_of% (fun v0 v1=> @dV.eq_5 (A.d (D.fn v0 v1)) (by nofun) (by nofun) (by nofun) (by nofun)):=by intros;rfl
theorem aJu:type_of% (fun v0 v1 v2 v3=> @dV.eq_5 (A.sl v0 v1 v2 v3) (by nofun) (by nofun) (by nofun) (by nofun)):=by intros;rfl
theorem aJZ:type_of% (fun v0=> @dV.eq_5 (A.mp v0) (by nofun) (by nofun) (by nofun) (by nofun)):=by intros;rfl
theorem aKD:type_of% (fun v0=> @uC.eq_2 (A.d v0) (by nofun)):=by intros;rfl
theorem aJT:type_of% (fun v0 v1 v2 v3=> @uC.eq_2 (A.sl v0 v1 v2 v3) (by nofun)):=by intros;rfl
theorem aKs:type_of% (fun v0=> @uC.eq_2 (A.agg v0) (by nofun)):=by intros;rfl
theorem aKx:type_of% (fun v0 v1 v2 v3=> @eO.eq_4 (O.arr v1 v2 v3) v0 (by nofun) (by nofun)):=by intros;rfl
theorem aKh:type_of% (fun v0 v1=> @eO.eq_4 (O.mp v1) v0 (by nofun) (by nofun)):=by intros;rfl
theorem aKf:type_of% (@tupA.eq_2 List.nil (by nofun)):=(@tupA.eq_2 List.nil (by nofun))
theorem aJC:type_of% (fun v0 v1 v2=> @tupA.eq_2 (List.cons v0 (List.cons v1 v2)) (by nofun)):=by intros;rfl
theorem aKw:type_of% (fun v0 v1 v2 v3 v4=> @DO.eq_2 v0 v1 (Go.Operand.tmp v4) v2 v3 (by nofun)):=by intros;rfl
theorem aKv:type_of% (fun v0 v1 v2 v3=> @a8.eq_3 v0 (A.d (D.int v2 v3)) v1 (by nofun)):=by intros;rfl
theorem aIV:type_of% (fun v0 v1 v2 v3=> @a8.eq_3 v0 (A.d (D.ivs v2 v3)) v1 (by nofun)):=by intros;rfl
theorem aI7:type_of% (fun v0 v1 v2 v3=> @a8.eq_3 v0 (A.d (D.fn v2 v3)) v1 (by nofun)):=by intros;rfl
theorem aJy:type_of% (fun v0 v1 v2 v3 v4 v5=> @a8.eq_3 v0 (A.sl v2 v3 v4 v5) v1 (by nofun)):=by intros;rfl
theorem aIF:type_of% (fun v0 v1 v2=> @a8.eq_3 v0 (A.mp v2) v1 (by nofun)):=by intros;rfl
theorem aKB:type_of% (fun v0 v1 v2 v3=> @mapO.eq_3 v0 (O.arr v1 v2 v3) (by nofun) (by nofun)):=by intros;rfl
theorem aKj:type_of% (fun v0 v1 v2 v3=> @mapO.eq_3 v0 (O.ice v1 v2 v3) (by nofun) (by nofun)):=by intros;rfl
theorem aJM:type_of% (fun v0 v1=> @mapO.eq_3 v0 (O.log v1) (by nofun) (by nofun)):=by intros;rfl
theorem aKc:type_of% (fun v0 v1=> @mapO.eq_3 v0 (O.mp v1) (by nofun) (by nofun)):=by intros;rfl
theorem aJJ:type_of% (fun v0 v1=> @frzA.eq_2 v0 (A.d v1) (by nofun)):=by intros;rfl
theorem aJz:type_of% (fun v0 v1 v2 v3 v4=> @frzA.eq_2 v0 (A.sl v1 v2 v3 v4) (by nofun)):=by intros;rfl
theorem aJh:type_of% (fun v0 v1 v2=> @frzA.eq_2 v0 (A.clo v1 v2) (by nofun)):=by intros;rfl
theorem UN0:type_of% (AI @ZC (AI @aLen.eq_def (AI @LW (AI @RW (AI @OK (AI @LO (AI @NY (AI @aBf (AI @List.range'.eq_1 (AI @List.range'.eq_2 (AI @IH.eq_1 @HQ.eq_1))))))))))):=
 ⟨@ZC,@aLen.eq_def,@LW,@RW,@OK,@LO,@NY,@aBf,@List.range'.eq_1,@List.range'.eq_2,@IH.eq_1,@HQ.eq_1⟩
theorem UN1:type_of% (AI @aPut.eq_1 (AI @aPut.eq_2 (AI @kQ.eq_1 (AI @kQ.eq_2 (AI @outA.eq_1 (AI @UNx5 (AI @UNx6 (AI @UNx7 (AI @UNx9 (AI @outS.eq_1 (AI @aL7 (AI @aL6 (AI @aL1 (AI @aMq (AI @outS.eq_3 (AI @outS.eq_4 (AI @outS.eq_6 (AI @yL.eq_1 (AI @yL.eq_2 (AI @idsA.eq_1 @idsA.eq_2)))))))))))))))))))):=
 ⟨@aPut.eq_1,@aPut.eq_2,@kQ.eq_1,@kQ.eq_2,@outA.eq_1,@UNx5,@UNx6,@UNx7,@UNx9,@outS.eq_1,@aL7,@aL6,@aL1,@aMq,@outS.eq_3,@outS.eq_4,@outS.eq_6,@yL.eq_1,@yL.eq_2,@idsA.eq_1,@idsA.eq_2⟩
theorem UN2:type_of% (AI @idsA.eq_3 (AI @idsA.eq_4 (AI @idsA.eq_5 (AI @idsA.eq_7 (AI @idsA.eq_8 (AI @idsL.eq_1 (AI @idsL.eq_2 (AI @mapA.eq_1 (AI @mapA.eq_2 (AI @mapA.eq_3 (AI @mapA.eq_4 (AI @mapA.eq_5 (AI @mapA.eq_7 (AI @mapA.eq_8 (AI @aU.eq_1 (AI @aU.eq_2 (AI @bM.eq_1 (AI @bM.eq_2 (AI @bM.eq_3 (AI @bM.eq_4 (AI @bM.eq_5 (AI @bM.eq_7 (AI @bM.eq_8 (AI @gC.eq_1 (AI @B5.eq_1 (AI @a6.eq_1 (AI @cE.eq_1 (AI @dS.eq_1 (AI @dS.eq_2 (AI @bW.eq_1 (AI @bW.eq_2 (AI @bW.eq_3 (AI @bW.eq_4 (AI @bW.eq_5 (AI @bW.eq_6 @aE.eq_1))))))))))))))))))))))))))))))))))):=
 ⟨@idsA.eq_3,@idsA.eq_4,@idsA.eq_5,@idsA.eq_7,@idsA.eq_8,@idsL.eq_1,@idsL.eq_2,@mapA.eq_1,@mapA.eq_2,@mapA.eq_3,@mapA.eq_4,@mapA.eq_5,@mapA.eq_7,@mapA.eq_8,@aU.eq_1,@aU.eq_2,@bM.eq_1,@bM.eq_2,@bM.eq_3,@bM.eq_4,@bM.eq_5,@bM.eq_7,@bM.eq_8,@gC.eq_1,@B5.eq_1,@a6.eq_1,@cE.eq_1,@dS.eq_1,@dS.eq_2,@bW.eq_1,@bW.eq_2,@bW.eq_3,@bW.eq_4,@bW.eq_5,@bW.eq_6,@aE.eq_1⟩
theorem UN3:type_of% (AI @aE.eq_2 (AI @oU.eq_1 (AI @oU.eq_2 (AI @oU.eq_3 (AI @fX.eq_1 (AI @fX.eq_2 (AI @aMp (AI @aMd (AI @aLY (AI @aMi (AI @aMm (AI @aL2 (AI @aL5 (AI @aMf (AI @aMj (AI @aMg (AI @tidy.eq_1 (AI @tidy.eq_2 (AI @aL4 (AI @cC.eq_1 (AI @aMe (AI @aL8 (AI @cC.eq_3 @oG.eq_1))))))))))))))))))))))):=
 ⟨@aE.eq_2,@oU.eq_1,@oU.eq_2,@oU.eq_3,@fX.eq_1,@fX.eq_2,@aMp,@aMd,@aLY,@aMi,@aMm,@aL2,@aL5,@aMf,@aMj,@aMg,@tidy.eq_1,@tidy.eq_2,@aL4,@cC.eq_1,@aMe,@aL8,@cC.eq_3,@oG.eq_1⟩
theorem UN4:type_of% (AI @lE.eq_1 (AI @nK.eq_1 (AI @A6.eq_1 (AI @QN.eq_1 (AI @aLX (AI @C1.eq_1 (AI @oD.eq_1 (AI @keeps.eq_1 (AI @logs.eq_1 (AI @F5.eq_1 @qA.eq_1)))))))))):=
 ⟨@lE.eq_1,@nK.eq_1,@A6.eq_1,@QN.eq_1,@aLX,@C1.eq_1,@oD.eq_1,@keeps.eq_1,@logs.eq_1,@F5.eq_1,@qA.eq_1⟩
theorem UN5:type_of% (AI @dA.eq_2 (AI @dA.eq_4 (AI @jX.eq_1 (AI @m7.eq_1 (AI @yA.eq_1 (AI @lN.eq_1 (AI @lN.eq_2 (AI @qO.eq_1 (AI @gW.eq_1 (AI @iC.eq_1 (AI @iC.eq_3 (AI @frzL.eq_1 (AI @eY.eq_1 (AI @eY.eq_2 (AI @frz.eq_2 (AI @frz.eq_3 (AI @frz.eq_4 (AI @aMk (AI @frz0.eq_1 (AI @frz0.eq_2 (AI @deep.eq_1 (AI @aW.eq_1 (AI @aMo (AI @aMl @aMn)))))))))))))))))))))))):=
 ⟨@dA.eq_2,@dA.eq_4,@jX.eq_1,@m7.eq_1,@yA.eq_1,@lN.eq_1,@lN.eq_2,@qO.eq_1,@gW.eq_1,@iC.eq_1,@iC.eq_3,@frzL.eq_1,@eY.eq_1,@eY.eq_2,@frz.eq_2,@frz.eq_3,@frz.eq_4,@aMk,@frz0.eq_1,@frz0.eq_2,@deep.eq_1,@aW.eq_1,@aMo,@aMl,@aMn⟩
theorem UN6:type_of% (AI @bG.eq_1 (AI @aJc (AI @aI2 (AI @aJf (AI @aKo (AI @aKq (AI @aJ8 (AI @aJu (AI @aJZ (AI @aKD (AI @aJT (AI @aKs (AI @eO.eq_1 (AI @eO.eq_2 (AI @aKx (AI @aKh @j9.eq_1)))))))))))))))):=
 ⟨@bG.eq_1,@aJc,@aI2,@aJf,@aKo,@aKq,@aJ8,@aJu,@aJZ,@aKD,@aJT,@aKs,@eO.eq_1,@eO.eq_2,@aKx,@aKh,@j9.eq_1⟩
theorem UN7:type_of% (AI @j9.eq_2 (AI @BP.eq_1 (AI @BP.eq_2 (AI @nA.eq_1 (AI @nA.eq_2 (AI @tupA.eq_1 (AI @aKf (AI @aJC (AI @qM.eq_1 (AI @rN.eq_1 (AI @rN.eq_2 (AI @opds.eq_2 (AI @opds.eq_7 (AI @opds.eq_13 (AI @opds.eq_14 @opds.eq_24))))))))))))))):=
 ⟨@j9.eq_2,@BP.eq_1,@BP.eq_2,@nA.eq_1,@nA.eq_2,@tupA.eq_1,@aKf,@aJC,@qM.eq_1,@rN.eq_1,@rN.eq_2,@opds.eq_2,@opds.eq_7,@opds.eq_13,@opds.eq_14,@opds.eq_24⟩
theorem UN8:type_of% (AI @evOp.eq_1 (AI @dX.eq_1 (AI @one.eq_1 (AI @two.eq_1 (AI @xZ.eq_1 @aKw))))):=
 ⟨@evOp.eq_1,@dX.eq_1,@one.eq_1,@two.eq_1,@xZ.eq_1,@aKw⟩
theorem UN9:type_of% (AI @aNew.eq_1 (AI @oA.eq_3 (AI @oA.eq_4 (AI @uI.eq_1 @ID.eq_1)))):=
 ⟨@aNew.eq_1,@oA.eq_3,@oA.eq_4,@uI.eq_1,@ID.eq_1⟩
theorem UN10:type_of% (AI @back.eq_1 (AI @bJ.eq_1 (AI @bJ.eq_2 (AI @aG.eq_1 (AI @closed.eq_1 (AI @iR.eq_1 @a8.eq_1)))))):=
 ⟨@back.eq_1,@bJ.eq_1,@bJ.eq_2,@aG.eq_1,@closed.eq_1,@iR.eq_1,@a8.eq_1⟩
theorem UN11:type_of% (AI @a8.eq_2 (AI @aKv (AI @aIV (AI @aI7 (AI @aJy (AI @aIF (AI @aI.eq_2 (AI @pack.eq_1 (AI @mapO.eq_1 (AI @mapO.eq_2 (AI @aKB (AI @aKj (AI @aJM (AI @aKc (AI @bK.eq_1 (AI @frzA.eq_1 (AI @aJJ (AI @aJz (AI @aJh @eL.eq_1))))))))))))))))))):=
 ⟨@a8.eq_2,@aKv,@aIV,@aI7,@aJy,@aIF,@aI.eq_2,@pack.eq_1,@mapO.eq_1,@mapO.eq_2,@aKB,@aKj,@aJM,@aKc,@bK.eq_1,@frzA.eq_1,@aJJ,@aJz,@aJh,@eL.eq_1⟩
theorem UN12:type_of% (AI @eL.eq_2 (AI @memD.eq_1 (AI @QQ.eq_1 (AI @GJ.eq_1 @eQ.eq_3)))):=
 ⟨@eL.eq_2,@memD.eq_1,@QQ.eq_1,@GJ.eq_1,@eQ.eq_3⟩
theorem UN:type_of% (AI @UN0 (AI @UN1 (AI @UN2 (AI @UN3 (AI @UN4 (AI @UN5 (AI @UN6 (AI @UN7 (AI @UN8 (AI @UN9 (AI @UN10 (AI @UN11 @UN12)))))))))))):=
 ⟨@UN0,@UN1,@UN2,@UN3,@UN4,@UN5,@UN6,@UN7,@UN8,@UN9,@UN10,@UN11,@UN12⟩
theorem aL3:type_of% (@bS.eq_5 Go.Code.skip (by nofun) (by nofun) (by nofun) (by nofun)):=(@bS.eq_5 Go.Code.skip (by nofun) (by nofun) (by nofun) (by nofun))
theorem aMa:type_of% (fun v0 v1 v2=> @bS.eq_5 (Go.Code.region v0 v1 v2) (by nofun) (by nofun) (by nofun) (by nofun)):=(fun v0 v1 v2=> @bS.eq_5 (Go.Code.region v0 v1 v2) (by nofun) (by nofun) (by nofun) (by nofun))
theorem aMb:type_of% (fun v0=> @bS.eq_5 (Go.Code.exit v0) (by nofun) (by nofun) (by nofun) (by nofun)):=(fun v0=> @bS.eq_5 (Go.Code.exit v0) (by nofun) (by nofun) (by nofun) (by nofun))
theorem aIK:type_of% (@bS.eq_5 Go.Code.ret (by nofun) (by nofun) (by nofun) (by nofun)):=(@bS.eq_5 Go.Code.ret (by nofun) (by nofun) (by nofun) (by nofun))
theorem SLM0:type_of% (AI @Bb.{0} (AI @Ac.{0} (AI @Br (AI @Ag (AI @Ah.{0,0} (AI @Ap.{0,0} (AI @Cm.{0} (AI @Au.{0} (AI @Cz.{0,0} (AI @Ak (AI @Ad.{0} (AI @List.replicate.eq_1.{0} (AI @List.replicate.eq_2.{0} (AI @Av.{0} (AI @Ao.{0} (AI @Ai.{0} (AI @List.getD_cons_zero.{0} (AI @List.getD_cons_succ.{0} (AI @aY.eq_1 (AI @bD.eq_1 (AI @lpOf.eq_1 (AI @aS.eq_1 (AI @slim.eq_1 (AI @slim.eq_2 (AI @slim.eq_3 (AI @slim.eq_4 (AI @slim.eq_5 (AI @slim.eq_6 (AI @slim.eq_7 (AI @slim.eq_8 (AI @bS.eq_1 (AI @bS.eq_2 @bS.eq_3)))))))))))))))))))))))))))))))):=
 ⟨@Bb.{0},@Ac.{0},@Br,@Ag,@Ah.{0,0},@Ap.{0,0},@Cm.{0},@Au.{0},@Cz.{0,0},@Ak,@Ad.{0},@List.replicate.eq_1.{0},@List.replicate.eq_2.{0},@Av.{0},@Ao.{0},@Ai.{0},@List.getD_cons_zero.{0},@List.getD_cons_succ.{0},@aY.eq_1,@bD.eq_1,@lpOf.eq_1,@aS.eq_1,@slim.eq_1,@slim.eq_2,@slim.eq_3,@slim.eq_4,@slim.eq_5,@slim.eq_6,@slim.eq_7,@slim.eq_8,@bS.eq_1,@bS.eq_2,@bS.eq_3⟩
theorem SLM1:type_of% (AI @bS.eq_4 (AI @aL3 (AI @aMa (AI @aMb (AI @aIK (AI @BD.eq_1 (AI @F8.eq_1 @F8.eq_2))))))):=
 ⟨@bS.eq_4,@aL3,@aMa,@aMb,@aIK,@BD.eq_1,@F8.eq_1,@F8.eq_2⟩
theorem SLM:type_of% (AI @SLM0 @SLM1):=
 ⟨@SLM0,@SLM1⟩
theorem LN:type_of% (AI @Af.{0} (AI @Ad.{0} (AI @Ac.{0} (AI @Bk.{0} (AI @List.length_replicate.{0} (AI @Ay.{0,0} (AI @Bs.{0} @Ce.{0}))))))):=
 ⟨@Af.{0},@Ad.{0},@Ac.{0},@Bk.{0},@List.length_replicate.{0},@Ay.{0,0},@Bs.{0},@Ce.{0}⟩
theorem GT:type_of% (AI @Cm.{0} @Au.{0}):=
 ⟨@Cm.{0},@Au.{0}⟩
end Ev
end Go.Proofs.YthlkcebdfbjdoaaGreat
