/-
  How each operation goes, in the form in which the evaluator is walked.
-/
import Derived.Test.YtahbdkmimmnadaaGreatDoorEvPrim
set_option linter.unusedSimpArgs false
set_option linter.unusedVariables false
set_option linter.unusedSectionVars false
namespace Go.Proofs.YtahbdkmimmnadaaGreatDoor
namespace Ev
section
variable{R:Type}{E:Env}{call:aW}{thaw:List Nat}{dst:Option Tmp}{s:List A}{h:H}{k:A->H->Option R}
structure Now(p:Prop):Prop where
 it:p
structure Shut(p:Prop):Prop where
 it:p
inductive Box(α:Type) where
 |mk (a:α)
 |no
def box{α:Type}(a:α):Box α:=.mk a
theorem aLG{α:Type}{a:α}:box a=.mk a:=rfl
theorem aLq{t:Nat}{q:A->Option R}:kv s (.tmp t) q=match box (s.getD t (.d .undef))with|.no=>none|.mk a=>q a:=rfl
theorem aLT{K:IntKind}{n:Int}{q:A->Option R}:kv s (.const (.int K n)) q=q (.d (.int K n)):=rfl
theorem aIt{b:Bool}{q:A->Option R}:kv s (.const (.bool b)) q=q (.d (.bool b)):=rfl
theorem aJW{b:ByteArray}{q:A->Option R}:kv s (.const (.string b)) q=match box b.data.toList with|.no=>none|.mk l=>q (.d (.str l)):=rfl
theorem aIm{q:A->Option R}:kv s (.const (.pointer none)) q=q (.d .nilp):=rfl
theorem aId{q:A->Option R}:kv s (.const (.slice none 0 0)) q=q (.d .nils):=rfl
theorem aIg{f:FuncId}{q:A->Option R}:kv s (.func f) q=q (.clo f []):=rfl
theorem aIP{q:List A->Option R}:kvs s [] q=q []:=rfl
theorem aE3{x:Operand}{xs:List Operand}{q:List A->Option R}:kvs s (x::xs) q=kv s x fun a=>kvs s xs fun asx=>q (a::asx):=by
 unfold kvs kv;simp only[bO]
 cases dA s x with
 |none=>rfl
 |some a=>grind
theorem V5{yes no:List A->Option R}:tU none s yes no=yes s:=rfl
theorem VJ{t:Nat}{w:Bool}{yes no:List A->Option R}:tU (some (some t,w)) s yes no=match s.getD t .junk with
  |.d (.bool b)=>if b=w then(match box (s.set t (.d (.bool w)))with|.no=>none|.mk s=>yes s)else(match box (s.set t (.d (.bool (!w))))with|.no=>none|.mk s=>no s)
  |.d .undef=>no s
  |_=>none:=by
 simp only[tU,Ab]
 cases s[t]? with
 |none=>rfl
 |some a=>
  cases a with
  |d x=>cases x<;>rfl
  |_=>rfl
theorem aFd{x:Operand}:kOp E call thaw dst (.move x) s h k=kv s x fun a=>k a h:=by
 unfold kOp kvs kv;simp only[opds,bO]
 cases dA s x<;>rfl
def kAsg(thaw:List Nat)(dst:Option Tmp)(h:H)(k:A->H->Option R)(a:A):Option R:=
 match a with
 |.d .nils=>match KD thaw dst with
  |0=>k (.d .nils) h
  |e+1=>if e<1000 then k (.sl h.length 0 0 0) (h++[.arr [] e 0])else k (.sl h.length 0 0 0) (h++[.vec [] (e-1000) 0])
 |a=>k a h
theorem KG{t:Nat}:kOp E call thaw dst (.assign (.tmp t)) s h k=match box (s.getD t (.d .undef))with|.no=>none|.mk a=>k a h:=by
 unfold kOp kvs;rfl
theorem FK{v:Value}:kOp E call thaw dst (.assign (.const v)) s h k=kv s (.const v) (kAsg thaw dst h k):=by
 unfold kOp kvs kv kAsg;simp only[opds,bO]
 cases dA s (.const v)with
 |none=>rfl
 |some a=>
  simp only[tE,Aj,if_false,evOp,one,E3,dV]
  cases a with
  |d x=>grind
  |_=>rfl
def kRet(r:Option (A×H))(k:A->H->Option R):Option R:=
 match r with
 |some (a,h')=>k a h'
 |none=>none
theorem aIp{op:BinOp}{t:TypeId}{x y:Operand}{t2:TypeId}:kOp E call thaw dst (.binOp op t x y t2) s h k=kv s x fun a=>kv s y fun b=>kRet (cH E op t h a b) k:=by
 unfold kOp kvs kv kRet;simp only[opds,bO]
 cases dA s x with
 |none=>rfl
 |some a=>cases dA s y<;>rfl
theorem aLj{op:UnOp}{t:TypeId}{x:Operand}:kOp E call thaw dst (.unOp op t x) s h k=kv s x fun a=>kRet ((aUn op a).map fun r=>(r,h)) k:=by
 unfold kOp kvs kv kRet;simp only[opds,bO]
 cases dA s x<;>rfl
theorem aFA{c x y:Operand}:kOp E call thaw dst (.pick c x y) s h k=kv s c fun b=>kv s x fun a=>kv s y fun a'=>kRet (KZ h [b,a,a']) k:=by
 unfold kOp kvs kv kRet;simp only[opds,bO]
 cases dA s c with
 |none=>rfl
 |some b=>cases dA s x with
  |none=>rfl
  |some a=>cases dA s y<;>rfl
theorem SJ{x:Operand}:kOp E call thaw dst (.nilCheck x) s h k=kv s x fun a=>kRet (lU h a) k:=by
 unfold kOp kvs kv kRet;simp only[opds,bO]
 cases dA s x<;>rfl
theorem aGP{t u:TypeId}{x:Operand}:kOp E call thaw dst (.convert t u x) s h k=kv s x fun a=>kRet (gI E.P h t u a) k:=by
 unfold kOp kvs kv kRet;simp only[opds,bO]
 cases dA s x<;>rfl
theorem aGU{t:TypeId}{x:Operand}:kOp E call thaw dst (.load t x) s h k=kv s x fun a=>kRet ((AG E.P h t a).map fun v=>(v,h)) k:=by
 unfold kOp kvs kv kRet;simp only[opds,bO]
 cases dA s x<;>rfl
theorem aDF{t:TypeId}{x y:Operand}:kOp E call thaw dst (.store t x y) s h k=kv s x fun a=>kv s y fun b=>kRet ((iV E.P h t a b).map fun h'=>(.d .undef,h')) k:=by
 unfold kOp kvs kv kRet;simp only[opds,bO]
 cases dA s x with
 |none=>rfl
 |some a=>cases dA s y<;>rfl
theorem aDp{t:TypeId}:kOp E call thaw dst (.alloc t) s h k=match box (dB E.P t)with
  |.no=>none
  |.mk none=>none
  |.mk (some z)=>kRet (aNew h z) k:=by
 unfold kOp kvs kRet;simp only[opds,bO,tE,Aj,if_false,evOp,dV,box]
 cases dB E.P t<;>rfl
theorem aH4{t:TypeId}{x:Operand}:kOp E call thaw dst (.box t x) s h k=kv s x fun a=>kRet (aNew h a) k:=by
 unfold kOp kvs kv kRet;simp only[opds,bO]
 cases dA s x<;>rfl
theorem aC2{t:TypeId}{ps:List (Nat×Operand)}:kOp E call thaw dst (.build t ps.toArray) s h k=match box (ps.map (·.2))with
  |.no=>none
  |.mk xs=>kvs s xs fun vs=>kRet ((mX E.P t ((ps.map (·.1)).zip vs)).map fun a=>(a,h)) k:=by
 rfl
theorem J3{t:TypeId}{n:Nat}{ps:List (Nat×Operand)}:kOp E call thaw dst (.buildSlice t n ps.toArray) s h k=match box (ps.map (·.2))with
  |.no=>none
  |.mk xs=>kvs s xs fun vs=>kRet (if logs thaw dst=true then TH (kF E.P h t n ((ps.map (·.1)).zip vs))else if keeps thaw dst=true then qT E.P h t n ((ps.map (·.1)).zip vs)else kF E.P h t n ((ps.map (·.1)).zip vs)) k:=by
 rfl
theorem PR{fn:Fn}{cap:List Operand}:kOp E call thaw dst (.makeFunc fn #[] cap.toArray) s h k=kvs s cap fun vs=>kRet (K5 h fn true vs) k:=by
 rfl
theorem N1{t:TypeId}{x y:Operand}:kOp E call thaw dst (.makeSlice t x y) s h k=kv s x fun a=>kv s y fun b=>kRet (iZ a fun l=>iZ b fun c=>if keeps thaw dst=true then GB E.P h t l c else hR E.P h t l c) k:=by
 unfold kOp kvs kv kRet;simp only[opds,bO]
 cases dA s x with
 |none=>rfl
 |some a=>cases dA s y<;>rfl
theorem V0{t:TypeId}{x lo:Operand}:kOp E call thaw dst (.slice t x (some lo) none none) s h k=kvs s [x,lo] fun vs=>kRet (o9 E.P h t true false vs) k:=rfl
theorem UU{t:TypeId}{x hi:Operand}:kOp E call thaw dst (.slice t x none (some hi) none) s h k=kvs s [x,hi] fun vs=>kRet (o9 E.P h t false true vs) k:=rfl
theorem N2{t:TypeId}{x:Operand}{f:Nat}:kOp E call thaw dst (.fieldAddr t x f) s h k=kv s x fun a=>kRet ((cG E.P t f).bind fun r=>(rR r.1 a).map fun r=>(r,h)) k:=by
 unfold kOp kvs kv kRet;simp only[opds,bO]
 cases dA s x<;>rfl
theorem O2{t:TypeId}{x y:Operand}:kOp E call thaw dst (.indexAddr t x y) s h k=kv s x fun a=>kv s y fun b=>kRet (iZ b fun i=>(n9 E.P h t a i).map fun r=>(r,h)) k:=by
 unfold kOp kvs kv kRet;simp only[opds,bO]
 cases dA s x with
 |none=>rfl
 |some a=>cases dA s y<;>rfl
theorem V9{x:Operand}{i:Nat}:kOp E call thaw dst (.extract x i) s h k=kv s x fun a=>kRet (v8 h i a) k:=by
 unfold kOp kvs kv kRet;simp only[opds,bO]
 cases dA s x<;>rfl
theorem V6{b:Builtin}{args:List Operand}{tys:List TypeId}:kOp E call thaw dst (.call ⟨.builtin b,args.toArray,tys.toArray⟩) s h k=kvs s args fun vs=>kRet (cV E.P h b tys vs) k:=by
 rfl
theorem eR{op:Op}{q:A->H->Foot->Option R}(hp:Now (oY op=true/\tE op=false)):kOpD E call thaw dst op s h q=kOp E call thaw dst op s h fun a _=>q a h {}:=by
 obtain⟨hp,hc⟩:=hp.it;unfold kOpD kOp kvs;rw[hp,hc]
 cases bO s (opds op)with
 |none=>rfl
 |some vs=>grind
def memD(E:Env)(call:aW)(thaw:List Nat)(dst:Option Tmp)(op:Op)(h:H)(vs:List A):Option (A×H×Foot):=match box (aC aD h (idsL vs) [])with
 |.no=>none
 |.mk ord=>match box (evOp E call thaw (pack h ord) (dV dst op) (aE (aH ord) vs))with
  |.mk (some (a,h1))=>if ord.length<=h1.length/\closed h ord (idsL vs)=true then
    (if(gX E op vs&&h1.length-ord.length==0)=true then some (mapA (back ord h.length h1.length) a,h,{ ids:=ord,ro:=true})
    else some (mapA (back ord h.length h1.length) a,bA (back ord h.length h1.length) h ord h1,{ ids:=ord++List.range' h.length (h1.length-ord.length),ro:=false,wr:=wrOf E op vs ord++List.range' h.length (h1.length-ord.length)}))
   else none
  |_=>none
theorem iD{op:Op}{q:A->H->Foot->Option R}(hp:Now (oY op=false/\pG op=false)):kOpD E call thaw dst op s h q=match box (opds op)with|.no=>none|.mk xs=>kvs s xs fun vs=>match box (memD E call thaw dst op h vs)with
  |.mk (some (a,h',c))=>q a h' c
  |_=>none:=by
 simp only[box];unfold kOpD kvs;rw[hp.it.1,hp.it.2]
 cases bO s (opds op)with
 |none=>rfl
 |some vs=>
  simp only[Aj,if_false,iQ,memD,box]
  cases evOp E call thaw (pack h (aC aD h (idsL vs) [])) (dV dst op) (aE (aH (aC aD h (idsL vs) [])) vs)with
  |none=>rfl
  |some r=>grind
theorem II{op:Op}{q:A->H->Foot->Option R}(hp:Now (oY op=false/\pG op=true/\tE op=false)):kOpD E call thaw dst op s h q=kvs s (opds op) fun vs=>kOp E call thaw dst op s h fun a _=>q a h { ids:=ids0 vs,ro:=true}:=by
 unfold kOpD kOp kvs;rw[hp.it.1,hp.it.2.1,hp.it.2.2]
 cases bO s (opds op)with
 |none=>rfl
 |some vs=>grind
theorem NA{x:Operand}{xs:List Operand}{op:Op}{q:A->H->Foot->Option R}(hx:opds op=x::xs):(kvs s (opds op) fun vs=>kOp E call thaw dst op s h fun a _=>q a h { ids:=ids0 vs,ro:=true})=kv s x fun b=>kOp E call thaw dst op s h fun a _=>q a h { ids:=idsA b,ro:=true}:=by
 unfold kOp kv;rw[hx];unfold kvs;simp only[bO]
 cases dA s x with
 |none=>rfl
 |some b=>
  cases bO s xs with
  |none=>rfl
  |some bs=>rfl
theorem aDO{t:TypeId}{x:Operand}{q:A->H->Foot->Option R}:kOpD E call thaw dst (.load t x) s h q=kv s x fun b=>kOp E call thaw dst (.load t x) s h fun a _=>q a h { ids:=idsA b,ro:=true}:=(II ⟨rfl,rfl,rfl⟩).trans (NA rfl)
theorem Z6{t:TypeId}{x y:Operand}{q:A->H->Foot->Option R}:type_of% (iD (E:=E) (call:=call) (thaw:=thaw) (dst:=dst) (s:=s) (h:=h) (op:=.store t x y) (q:=q) ⟨rfl,rfl⟩):=iD ⟨rfl,rfl⟩
theorem VM{x:Operand}{q:A->H->Foot->Option R}:type_of% (iD (E:=E) (call:=call) (thaw:=thaw) (dst:=dst) (s:=s) (h:=h) (op:=.assign x) (q:=q) ⟨rfl,rfl⟩):=iD ⟨rfl,rfl⟩
theorem aAY{t:TypeId}{q:A->H->Foot->Option R}:type_of% (iD (E:=E) (call:=call) (thaw:=thaw) (dst:=dst) (s:=s) (h:=h) (op:=.alloc t) (q:=q) ⟨rfl,rfl⟩):=iD ⟨rfl,rfl⟩
theorem I4{t:TypeId}{n:Nat}{ps:List (Nat×Operand)}{q:A->H->Foot->Option R}:type_of% (iD (E:=E) (call:=call) (thaw:=thaw) (dst:=dst) (s:=s) (h:=h) (op:=.buildSlice t n ps.toArray) (q:=q) ⟨rfl,rfl⟩):=iD ⟨rfl,rfl⟩
theorem aDE{t u:TypeId}{x:Operand}{q:A->H->Foot->Option R}:type_of% (iD (E:=E) (call:=call) (thaw:=thaw) (dst:=dst) (s:=s) (h:=h) (op:=.convert t u x) (q:=q) ⟨rfl,rfl⟩):=iD ⟨rfl,rfl⟩
theorem LZ{t:TypeId}{x y:Operand}{q:A->H->Foot->Option R}:type_of% (iD (E:=E) (call:=call) (thaw:=thaw) (dst:=dst) (s:=s) (h:=h) (op:=.makeSlice t x y) (q:=q) ⟨rfl,rfl⟩):=iD ⟨rfl,rfl⟩
theorem aA6{t:TypeId}{x:Operand}{lo hi mx:Option Operand}{q:A->H->Foot->Option R}:kOpD E call thaw dst (.slice t x lo hi mx) s h q=kv s x fun b=>kOp E call thaw dst (.slice t x lo hi mx) s h fun a _=>q a h { ids:=idsA b,ro:=true}:=(II ⟨rfl,rfl,rfl⟩).trans (NA rfl)
theorem K0{t:TypeId}{x y:Operand}{q:A->H->Foot->Option R}:kOpD E call thaw dst (.indexAddr t x y) s h q=kv s x fun b=>kOp E call thaw dst (.indexAddr t x y) s h fun a _=>q a h { ids:=idsA b,ro:=true}:=(II ⟨rfl,rfl,rfl⟩).trans (NA rfl)
theorem U7{args tys:Array _}{q:A->H->Foot->Option R}:type_of% (iD (E:=E) (call:=call) (thaw:=thaw) (dst:=dst) (s:=s) (h:=h) (op:=.call ⟨.builtin .append,args,tys⟩) (q:=q) ⟨rfl,rfl⟩):=iD ⟨rfl,rfl⟩
theorem aGo{x:Operand}{xs:List Operand}{tys:Array _}{q:A->H->Foot->Option R}:kOpD E call thaw dst (.call ⟨.builtin .len,(x::xs).toArray,tys⟩) s h q=kv s x fun b=>kOp E call thaw dst (.call ⟨.builtin .len,(x::xs).toArray,tys⟩) s h fun a _=>q a h { ids:=idsA b,ro:=true}:=(II ⟨rfl,rfl,rfl⟩).trans (NA rfl)
theorem aC3{x:Operand}{q:A->H->Foot->Option R}:type_of% (eR (E:=E) (call:=call) (thaw:=thaw) (dst:=dst) (s:=s) (h:=h) (op:=.move x) (q:=q) ⟨rfl,rfl⟩):=eR ⟨rfl,rfl⟩
theorem aCt{c x y:Operand}{q:A->H->Foot->Option R}:type_of% (eR (E:=E) (call:=call) (thaw:=thaw) (dst:=dst) (s:=s) (h:=h) (op:=.pick c x y) (q:=q) ⟨rfl,rfl⟩):=eR ⟨rfl,rfl⟩
theorem O3{x:Operand}{q:A->H->Foot->Option R}:type_of% (eR (E:=E) (call:=call) (thaw:=thaw) (dst:=dst) (s:=s) (h:=h) (op:=.nilCheck x) (q:=q) ⟨rfl,rfl⟩):=eR ⟨rfl,rfl⟩
theorem aFF{op:BinOp}{t:TypeId}{x y:Operand}{t2:TypeId}{q:A->H->Foot->Option R}:type_of% (eR (E:=E) (call:=call) (thaw:=thaw) (dst:=dst) (s:=s) (h:=h) (op:=.binOp op t x y t2) (q:=q) ⟨rfl,rfl⟩):=eR ⟨rfl,rfl⟩
theorem aIv{op:UnOp}{t:TypeId}{x:Operand}{q:A->H->Foot->Option R}:type_of% (eR (E:=E) (call:=call) (thaw:=thaw) (dst:=dst) (s:=s) (h:=h) (op:=.unOp op t x) (q:=q) ⟨rfl,rfl⟩):=eR ⟨rfl,rfl⟩
theorem LW{t:TypeId}{x:Operand}{f:Nat}{q:A->H->Foot->Option R}:type_of% (eR (E:=E) (call:=call) (thaw:=thaw) (dst:=dst) (s:=s) (h:=h) (op:=.fieldAddr t x f) (q:=q) ⟨rfl,rfl⟩):=eR ⟨rfl,rfl⟩
theorem SF{x:Operand}{i:Nat}{q:A->H->Foot->Option R}:type_of% (eR (E:=E) (call:=call) (thaw:=thaw) (dst:=dst) (s:=s) (h:=h) (op:=.extract x i) (q:=q) ⟨rfl,rfl⟩):=eR ⟨rfl,rfl⟩
theorem aA9{t:TypeId}{ps:Array (Nat×Operand)}{q:A->H->Foot->Option R}:type_of% (eR (E:=E) (call:=call) (thaw:=thaw) (dst:=dst) (s:=s) (h:=h) (op:=.build t ps) (q:=q) ⟨rfl,rfl⟩):=eR ⟨rfl,rfl⟩
def aEF(a b:Foot):Bool:=(!a.ro&&(!b.ids.isEmpty&&a.wr.any b.ids.contains))||(!b.ro&&(!a.ids.isEmpty&&b.wr.any a.ids.contains))
theorem aM1{l:List Nat}:l.any (([]:List Nat)).contains=false:=by grind
theorem aCm(a b:Foot):aEF a b=kA a b:=by
 obtain⟨ia,ra,wa⟩:=a;obtain⟨ib,rb,wb⟩:=b;unfold aEF kA
 cases ia<;>cases ib<;>simp
def eV(ops:List Oper)(cs:List Foot):Bool:=
 let b:=G5 ops []
 (List.range cs.length).all fun j=>(List.range j).all fun i=>(b.getD j 0).testBit i|| !aEF (cs.getD i {}) (cs.getD j {})
theorem aK4{src:List Oper}{cs:List Foot}(h:nG src cs=true):eV src cs=true:=by
 unfold eV;simp only[aCm];exact h
theorem YL{src:List Oper}{cs:List Foot}{x:Option R}(hc:Shut (eV src cs=true)):(if nG src cs=true then x else none)=x:=if_pos (by
 have:=hc.it;unfold eV at this;simp only[aCm]at this;exact this)
theorem aG5{q:List A->H->Option R}:kOps E call thaw [] s h q=q s h:=rfl
theorem aCZ{op:Op}{g:Option (Option Tmp×Bool)}{os:List SO}{q:List A->H->Option R}:kOps E call thaw (⟨dst,op,g⟩::os) s h q=tU g s
  (fun s=>kOp E call thaw dst op s h fun a h'=>match box (aPut s dst a)with|.no=>none|.mk s'=>kOps E call thaw os s' h' q)
  (fun s=>match box (aPut s dst (.d .undef))with|.no=>none|.mk s'=>kOps E call thaw os s' h q):=rfl
theorem aDy{cs:List Foot}{q:List A->H->List Foot->Option R}:t8 E call thaw [] s h cs q=q s h cs:=rfl
theorem YW{op:Op}{g:Option (Option Tmp×Bool)}{os:List SO}{cs:List Foot}{q:List A->H->List Foot->Option R}:t8 E call thaw (⟨dst,op,g⟩::os) s h cs q=tU g s
  (fun s=>kOpD E call thaw dst op s h fun a h' c=>match box (aPut s dst a)with|.no=>none|.mk s'=>t8 E call thaw os s' h' (cs++[c]) q)
  (fun s=>match box (aPut s dst (.d .undef))with|.no=>none|.mk s'=>t8 E call thaw os s' h (cs++[{}]) q):=rfl
section
variable{L nf:Nat}{live:List Bool}{lp:Nat->Code}{q:Exit->List A->H->Option R}
theorem Z3:eJ E call L nf thaw live lp .skip s h q=q .normal s h:=rfl
theorem aDG{l:List SO}:eJ E call L nf thaw live lp (.ops l) s h q=kOps E call thaw l s h fun s h=>q .normal s h:=rfl
theorem VV{l:List SO}{src:Array Oper}:eJ E call L nf thaw live lp (.drawn l src) s h q=t8 E call thaw l s h [] fun s h cs=>if nG src.toList cs=true then q .normal s h else none:=rfl
theorem aDd{a b:SC}:eJ E call L nf thaw live lp (.seq a b) s h q=eJ E call L nf thaw live lp a s h fun e s h=>match e with
  |.normal=>eJ E call L nf thaw live lp b s h q
  |e=>q e s h:=rfl
theorem YP{c:Operand}{x y:SC}:eJ E call L nf thaw live lp (.cond c x y) s h q=kv s c fun a=>match a with
  |.d (.bool b)=>if b=true then eJ E call L nf thaw live lp x s h q else eJ E call L nf thaw live lp y s h q
  |_=>none:=rfl
theorem VU{id:Nat}{c:SC}:eJ E call L nf thaw live lp (.block id c) s h q=eJ E call L nf thaw live lp c s h fun e s h=>match e with
  |.exit i=>if i=id then q .normal s h else q (.exit i) s h
  |e=>q e s h:=rfl
theorem ZJ{i:Nat}:eJ E call L nf thaw live lp (.loop i) s h q=match box (qA live s)with
  |.no=>none
  |.mk m=>match box (gc nf m s h)with
   |.mk (s',h')=>aU E call L nf thaw live (lp i) m L s' h' q
   |.no=>none:=rfl
theorem aAh{id:Nat}:eJ E call L nf thaw live lp (.exit id) s h q=q (.exit id) s h:=rfl
theorem aDC:eJ E call L nf thaw live lp .ret s h q=q .ret s h:=rfl
theorem R2{c:Code}{m:List Bool}{n:Nat}:YN E call L nf thaw live c m n q .normal s h=match box (gc nf m s h)with
  |.mk (s',h')=>aU E call L nf thaw live c m n s' h' q
  |.no=>none:=rfl
theorem aAZ{c:Code}{m:List Bool}{n i:Nat}:YN E call L nf thaw live c m n q (.exit i) s h=match box (gc nf m s h)with
  |.mk (s',h')=>q (.exit i) s' h'
  |.no=>none:=rfl
theorem aDA{c:Code}{m:List Bool}{n:Nat}:YN E call L nf thaw live c m n q .ret s h=match box (gc nf m s h)with
  |.mk (s',h')=>q .ret s' h'
  |.no=>none:=rfl
end
def aV(E:Env)(call:aW)(h:H)(f:FuncId)(args:List A)(k:A->H->Option R):Option R:=
 match bJ call E.hint (pack h (aC aD h (idsL args) [])) f (aE (aH (aC aD h (idsL args) [])) args)with
 |some (a,h1)=>
  if(aC aD h (idsL args) []).length<=h1.length/\closed h (aC aD h (idsL args) []) (idsL args)=true then
   k (mapA (back (aC aD h (idsL args) []) h.length h1.length) a) (bA (back (aC aD h (idsL args) []) h.length h1.length) h (aC aD h (idsL args) []) h1)
  else none
 |none=>none
theorem aMN{f:FuncId}{args:List Operand}{tys:Array TypeId}:kOp E call thaw dst (.call ⟨.value (.func f),args.toArray,tys⟩) s h k=kvs s args fun vs=>aV E call h f vs k:=by
 unfold kOp kvs aV;simp only[opds,bO,dA]
 cases bO s args with
 |none=>rfl
 |some vs=>
  simp only[tE,if_true,iQ,idsL,idsA,Al,aE,mapA,evOp,fJ,fT,dV,Ai]
  cases bJ call E.hint (pack h (aC aD h (idsL vs) [])) f (aE (aH (aC aD h (idsL vs) [])) vs)with
  |none=>rfl
  |some r=>grind
theorem aDh{f:FuncId}{args:List Operand}{tys:Array TypeId}:kOp E call thaw dst (.call ⟨.value (.func f),args.toArray,tys⟩) s h k=kvs s args fun vs=>aV E call h f vs fun a h'=>match box h' with|.no=>none|.mk h''=>k a h'':=by
 rw[aMN];rfl
def GU(E:Env)(call:aW)(h:H)(f:FuncId)(caps args:List A)(k:A->H->Option R):Option R:=
 match bJ call E.hint (pack h (aC aD h (idsL caps++idsL args) [])) f (aE (aH (aC aD h (idsL caps++idsL args) [])) args++aE (aH (aC aD h (idsL caps++idsL args) [])) caps)with
 |some (a,h1)=>
  if(aC aD h (idsL caps++idsL args) []).length<=h1.length/\closed h (aC aD h (idsL caps++idsL args) []) (idsL caps++idsL args)=true then
   k (mapA (back (aC aD h (idsL caps++idsL args) []) h.length h1.length) a) (bA (back (aC aD h (idsL caps++idsL args) []) h.length h1.length) h (aC aD h (idsL caps++idsL args) []) h1)
  else none
 |none=>none
def mV(E:Env)(call:aW)(h:H)(g:A)(args:List A)(k:A->H->Option R):Option R:=
 match g with
 |.d (.fn f caps)=>aV E call h f (args++caps.map .d) k
 |.clo f caps=>GU E call h f caps args k
 |_=>none
theorem bG:∀(asx bs:List A),idsL (asx++bs)=idsL asx++idsL bs
 | [],bs=>by simp[idsL]
 |a::asx,bs=>by simp[idsL,bG asx bs]
theorem aFz:∀(ds:List D),idsL (ds.map .d)=[]
 | []=>by simp[idsL]
 |d::ds=>by simp[idsL,idsA,aFz ds]
theorem c8{f:Nat->Option Nat}:∀(asx bs:List A),aE f (asx++bs)=aE f asx++aE f bs
 | [],bs=>by simp[aE]
 |a::asx,bs=>by simp[aE,c8 asx bs]
theorem aBn{f:Nat->Option Nat}:∀(ds:List D),aE f (ds.map .d)=ds.map .d
 | []=>by simp[aE]
 |d::ds=>by simp[aE,mapA,aBn ds]
theorem aKl{g:A}{vs:List A}{tys:Array TypeId}{x:Operand}{args:Array Operand}:(match iQ E call thaw h (dV dst (.call ⟨.value x,args,tys⟩)) (g::vs)with
   |some (a,h',_)=>k a h'
   |none=>none)=mV E call h g vs k:=by
 unfold iQ;simp only[evOp,fJ,dV,aE]
 cases g with
 |d y=>
  cases y with
  |fn f caps=>
   simp only[mV,aV,mapA,fT,idsL,idsA,Al,bG,aFz,Ai,c8,aBn]
   cases bJ call E.hint (pack h (aC aD h (idsL vs) [])) f (aE (aH (aC aD h (idsL vs) [])) vs++caps.map .d)with
   |none=>rfl
   |some r=>grind
  |_=>simp only[mV,mapA,fT]
 |clo f caps=>
  simp only[mV,GU,mapA,fT,idsL,idsA]
  cases bJ call E.hint (pack h (aC aD h (idsL caps++idsL vs) [])) f (aE (aH (aC aD h (idsL caps++idsL vs) [])) vs++aE (aH (aC aD h (idsL caps++idsL vs) [])) caps)with
  |none=>rfl
  |some r=>grind
 |sl id gen off len=>
  simp only[mV,mapA]
  cases aH (aC aD h (idsL (A.sl id gen off len::vs)) []) id<;>rfl
 |ptr id gen off=>
  simp only[mV,mapA]
  cases aH (aC aD h (idsL (A.ptr id gen off::vs)) []) id<;>rfl
 |mp id=>
  simp only[mV,mapA]
  cases aH (aC aD h (idsL (A.mp id::vs)) []) id<;>rfl
 |agg cs=>simp only[mV,mapA,fT]
 |tup cs=>simp only[mV,mapA,fT]
 |junk=>simp only[mV,mapA,fT]
theorem aCD{t:Nat}{args:List Operand}{tys:Array TypeId}:kOp E call thaw dst (.call ⟨.value (.tmp t),args.toArray,tys⟩) s h k=match box (s.getD t (.d .undef))with
  |.no=>none
  |.mk g=>kvs s args fun vs=>mV E call h g vs k:=by
 unfold kOp kvs;simp only[opds,bO,dA,box]
 cases bO s args with
 |none=>rfl
 |some vs=>simp only[tE,if_true];exact aKl
theorem aCE{f:FuncId}{caps:List D}{vs:List A}:mV E call h (.d (.fn f caps)) vs k=match box (vs++caps.map .d)with|.no=>none|.mk as'=>aV E call h f as' k:=rfl
theorem aAH{f:FuncId}{caps vs:List A}:mV E call h (.clo f caps) vs k=GU E call h f caps vs k:=rfl
theorem W9{h:H}{ids:List Nat}{h1:H}{ord:List Nat}:∀(ord:List Nat) (h h1:H) (f:Nat->Option Nat),ord.length<=h1.length->(bA f h ord h1).length=h.length+(h1.length-ord.length)
 | [],h,h1,f,_=>by simp[bA]
 |i::ord,h,[],f,hl=>by simp at hl
 |i::ord,h,o::h1,f,hl=>by
  simp only[bA,W9 (h:=h) (ids:=ids) (h1:=h1) (ord:=ord) ord _ h1 f (by simpa using hl),Be,Ac];omega
def wrC(E:Env)(f:FuncId)(ord:List Nat):List Nat:=if(E.hint f).mode==3 then []else ord
def I6(E:Env)(f:FuncId)(h h':H)(ord:List Nat):Option (H×Foot):=if((E.hint f).mode==1&&h'.length-h.length==0)=true then some (h,{ ids:=ord,ro:=true})else some (h',{ ids:=ord++List.range' h.length (h'.length-h.length),ro:=false,wr:=wrC E f ord++List.range' h.length (h'.length-h.length)})
theorem aI5{f:FuncId}{args:List Operand}{tys:Array TypeId}{q:A->H->Foot->Option R}:kOpD E call thaw dst (.call ⟨.value (.func f),args.toArray,tys⟩) s h q=kvs s args fun vs=>match box (aC aD h (idsL vs) [])with
  |.no=>none
  |.mk ord=>aV E call h f vs fun a h'=>if((E.hint f).mode==1&&h'.length-h.length==0)=true then q a h { ids:=ord,ro:=true}else q a h' { ids:=ord++List.range' h.length (h'.length-h.length),ro:=false,wr:=wrC E f ord++List.range' h.length (h'.length-h.length)}:=by
 unfold kOpD kvs aV;simp only[opds,bO,dA,box]
 cases bO s args with
 |none=>rfl
 |some vs=>
  simp only[oY,pG,Aj,if_false,iQ,idsL,idsA,Al,aE,mapA,evOp,fJ,fT,dV,Ai,gX]
  cases bJ call E.hint (pack h (aC aD h (idsL vs) [])) f (aE (aH (aC aD h (idsL vs) [])) vs)with
  |none=>rfl
  |some r=>
   obtain⟨a,h1⟩:=r
   by_cases c1:(aC aD h (idsL vs) []).length<=h1.length
   ·by_cases c2:closed h (aC aD h (idsL vs) []) (idsL vs)=true
    ·have e:=W9 (h:=h) (ids:=idsL vs) (h1:=h1) (ord:=[]) (aC aD h (idsL vs) []) h h1 (back (aC aD h (idsL vs) []) h.length h1.length) c1;have e2:(bA (back (aC aD h (idsL vs) []) h.length h1.length) h (aC aD h (idsL vs) []) h1).length-h.length=h1.length-(aC aD h (idsL vs) []).length:=om;simp only[c1,c2,and_self,if_true,e2]
     first|done|rfl|(by_cases c3:((E.hint f).mode==1&&h1.length-(aC aD h (idsL vs) []).length==0)=true<;>simp[c3])
    ·grind
   ·grind
theorem QS{f:FuncId}{args:List Operand}{tys:Array TypeId}{q:A->H->Foot->Option R}:kOpD E call thaw dst (.call ⟨.value (.func f),args.toArray,tys⟩) s h q=kvs s args fun vs=>match box (aC aD h (idsL vs) [])with
  |.no=>none
  |.mk ord=>aV E call h f vs fun a h'=>match box (I6 E f h h' ord)with|.mk (some (h'',c))=>q a h'' c|_=>none:=by
 rw[aI5]
 congr 1
 funext vs
 simp only[box]
 congr 1
 funext a h'
 unfold I6
 by_cases hc:((E.hint f).mode==1&&h'.length-h.length==0)=true
 ·grind
 ·grind
theorem aHM{t:Nat}{args:List Operand}{tys:Array TypeId}{q:A->H->Foot->Option R}{f:FuncId}{caps:List D}(hg:Now (s.getD t (.d .undef)=.d (.fn f caps))):kOpD E call thaw dst (.call ⟨.value (.tmp t),args.toArray,tys⟩) s h q=kvs s args fun vs=>match box (aC aD h (idsL vs) [])with
  |.no=>none
  |.mk ord=>aV E call h f (vs++caps.map .d) fun a h'=>if((E.hint f).mode==1&&h'.length-h.length==0)=true then q a h { ids:=ord,ro:=true}else q a h' { ids:=ord++List.range' h.length (h'.length-h.length),ro:=false,wr:=wrC E f ord++List.range' h.length (h'.length-h.length)}:=by
 have hg:=hg.it;unfold kOpD kvs aV;simp only[opds,bO,dA,box,hg]
 cases bO s args with
 |none=>rfl
 |some vs=>
  simp only[oY,pG,Aj,if_false,iQ,idsL,idsA,Al,aE,mapA,evOp,fJ,fT,dV,Ai,gX,bG,aFz,c8,aBn]
  cases bJ call E.hint (pack h (aC aD h (idsL vs) [])) f (aE (aH (aC aD h (idsL vs) [])) vs++caps.map .d)with
  |none=>rfl
  |some r=>
   obtain⟨a,h1⟩:=r
   by_cases c1:(aC aD h (idsL vs) []).length<=h1.length
   ·by_cases c2:closed h (aC aD h (idsL vs) []) (idsL vs)=true
    ·have e:=W9 (h:=h) (ids:=idsL vs) (h1:=h1) (ord:=[]) (aC aD h (idsL vs) []) h h1 (back (aC aD h (idsL vs) []) h.length h1.length) c1;have e2:(bA (back (aC aD h (idsL vs) []) h.length h1.length) h (aC aD h (idsL vs) []) h1).length-h.length=h1.length-(aC aD h (idsL vs) []).length:=om;simp only[c1,c2,and_self,if_true,e2]
     first|done|rfl|(by_cases c3:((E.hint f).mode==1&&h1.length-(aC aD h (idsL vs) []).length==0)=true<;>simp[c3])
    ·grind
   ·grind
def aPA(E:Env)(call:aW)(thaw:List Nat)(dst:Option Tmp)(op:Op)(s:List A)(h:H)(q:A->H->Foot->Option R):Option R:=kOpD E call thaw dst op s h q
theorem YZ{t:Nat}{args:List Operand}{tys:Array TypeId}{q:A->H->Foot->Option R}:kOpD E call thaw dst (.call ⟨.value (.tmp t),args.toArray,tys⟩) s h q=match box (s.getD t (.d .undef))with
  |.mk (.d (.fn f caps))=>kvs s args fun vs=>match box (aC aD h (idsL vs) [])with
   |.no=>none
   |.mk ord=>match box (vs++caps.map .d)with|.no=>none|.mk as'=>aV E call h f as' fun a h'=>match box (I6 E f h h' ord)with|.mk (some (h'',c))=>q a h'' c|_=>none
  |.mk (.clo f [])=>kvs s args fun vs=>match box (aC aD h (idsL vs) [])with
   |.no=>none
   |.mk ord=>aV E call h f vs fun a h'=>match box (I6 E f h h' ord)with|.mk (some (h'',c))=>q a h'' c|_=>none
  |_=>aPA E call thaw dst (.call ⟨.value (.tmp t),args.toArray,tys⟩) s h q:=by
 have key:=fun(f:FuncId) (caps:List D) hg=>aHM (E:=E) (call:=call) (thaw:=thaw) (dst:=dst) (s:=s) (h:=h) (t:=t) (args:=args) (tys:=tys) (q:=q) (f:=f) (caps:=caps) hg
 have k2:∀f,s.getD t (.d .undef)=.clo f []->kOpD E call thaw dst (.call ⟨.value (.tmp t),args.toArray,tys⟩) s h q=kOpD E call thaw dst (.call ⟨.value (.func f),args.toArray,tys⟩) s h q:=by
  intro f hg;unfold kOpD kvs;simp only[opds,bO,dA,hg]
  cases bO s args<;>rfl
 have fold:∀(f:FuncId) (h h':H) (ord:List Nat) (a:A),(if((E.hint f).mode==1&&h'.length-h.length==0)=true then q a h { ids:=ord,ro:=true}else q a h' { ids:=ord++List.range' h.length (h'.length-h.length),ro:=false,wr:=wrC E f ord++List.range' h.length (h'.length-h.length)})=match box (I6 E f h h' ord)with|.mk (some (h'',c))=>q a h'' c|_=>none:=by
  intro f h h' ord a;unfold I6
  by_cases hc:((E.hint f).mode==1&&h'.length-h.length==0)=true
  ·simp only[if_pos hc,box]
  ·simp only[if_neg hc,box]
 generalize hs:s.getD t (.d .undef)=a
 cases a with
 |d x=>
  cases x with
  |fn f caps=>
   rw[key f caps ⟨hs⟩];simp only[fold]<;>rfl
  |_=>rfl
 |clo f caps=>
  cases caps with
  |nil=>rw[k2 f hs];exact QS
  |cons c caps=>rfl
 |_=>rfl
theorem DP(n:Nat)(h:H):aC n h [] []=[]:=by cases n<;>rfl
mutual
theorem nJ{f:Nat->Option Nat}:∀a:A,idsA a=[]->mapA f a=a
 |.d x,_=>by simp only[mapA]
 |.sl id gen off len,h=>by simp[idsA]at h
 |.ptr id gen off,h=>by simp[idsA]at h
 |.mp id,h=>by simp[idsA]at h
 |.clo g caps,h=>by simp only[idsA]at h;simp only[mapA];rw[gG caps h]
 |.agg cs,h=>by simp only[idsA]at h;simp only[mapA];rw[gG cs h]
 |.tup cs,h=>by simp only[idsA]at h;simp only[mapA];rw[gG cs h]
 |.junk,_=>by simp only[mapA]
theorem gG{f:Nat->Option Nat}:∀asx:List A,idsL asx=[]->aE f asx=asx
 | [],_=>by simp only[aE]
 |a::asx,h=>by
  simp only[idsL,List.append_eq_nil_iff]at h;simp only[aE];rw[nJ a h.1,gG asx h.2]
end
theorem aKV{a:A}(h:xP a=true):idsA a=[]:=by
 cases a with
 |d x=>rfl
 |agg cs=>
  simp only[xP]at h;simp only[idsA]
  induction cs with
  |nil=>rfl
  |cons c cs ih=>
   simp only[Bt,Ao]at h;simp only[idsL,ih h.2,Ai]
   cases c<;>first|rfl|simp[isD]at h
 |_=>simp[xP]at h
theorem wN:∀ {asx:List A},asx.all xP=true->idsL asx=[]
 | [],_=>rfl
 |a::asx,h=>by
  simp only[Bt,Ao]at h;simp only[idsL,aKV h.1,wN h.2,Ai]
theorem aAv{h:H}:∀ {cs:List A},cs.all isD=true->∃ds,frzL h cs=some (ds,h)/\ds.map .d=cs
 | [],_=>⟨[],rfl,rfl⟩
 |c::cs,hs=>by
  simp only[Bt,Ao]at hs;obtain⟨ds,h1,h2⟩:=aAv (h:=h) hs.2
  cases c with
  |d x=>
   refine⟨x::ds,?_,by simp[h2]⟩;unfold frzL at h1|-;simp only[eS];have:frz deep h (.d x)=some (x,h):=rfl;rw[this];simp only[h1]
  |_=>simp[isD]at hs
theorem AD{h:H}:∀ {asx:List A},asx.all xP=true->fB h asx=some (asx,h)
 | [],_=>rfl
 |a::asx,hs=>by
  simp only[Bt,Ao]at hs
  have ha:frzA h a=some (a,h):=by
   cases a with
   |d x=>rfl
   |agg cs=>
    obtain⟨ds,h1,h2⟩:=aAv (h:=h) (cs:=cs) (by simpa only[xP]using hs.1);simp only[frzA,h1,h2]
   |_=>simp[xP]at hs
  simp only[fB,ha,AD hs.2]
theorem aHK{r:A}(h:hU r=true):oX r=true/\mapA (fun k=>back [] 0 0 k) r=r:=by
 cases r with
 |d x=>cases x<;>first|exact⟨rfl,rfl⟩|simp[hU]at h
 |tup vs=>
  simp only[hU]at h
  have key:kL vs=true/\aE (fun k=>back [] 0 0 k) vs=vs:=by
   induction vs with
   |nil=>exact⟨rfl,by simp only[aE]⟩
   |cons v vs ih=>
    simp only[Bt,Ao]at h;obtain⟨i1,i2⟩:=ih h.2
    cases v with
    |d x=>cases x<;>first|(exfalso;simp at h;done)|(refine⟨by simp only[kL,oX,yC,i1,Bj],by simp only[aE,mapA,i2]⟩)
    |_=>grind
  exact⟨by simp only[oX];exact key.1,by simp only[mapA,key.2]⟩
 |_=>simp[hU]at h
theorem aHL{f:FuncId}{args:List A}{r:A}(hs:args.all xP=true)(hc:call f args []=some (r,[]))(hp:hU r=true\/((E.hint f).mode==1||(E.hint f).mode==3)=false):bJ call E.hint [] f args=some (r,[]):=by
 unfold bJ
 split
 ·exact hc
 ·rename_i hm
  rw[AD hs];simp only[hc]
  rcases hp with hp|hp
  ·rw[hp];rfl
  ·grind
 ·rename_i hm
  rw[AD hs];simp only[hc]
  rcases hp with hp|hp
  ·obtain⟨h1,h2⟩:=aHK hp;rw[h1];exact congrArg (fun x=>some (x,([]:H))) h2
  ·grind
 ·rw[AD hs];simp only[hc]
theorem cW{f:FuncId}{args:List A}{r:A}(hs:args.all xP=true)(hc:call f args []=some (r,[]))(hr:idsA r=[])(hp:hU r=true\/((E.hint f).mode==1||(E.hint f).mode==3)=false):aV E call h f args k=k r h:=by
 unfold aV;rw[wN hs,DP,gG _ (wN hs)];have:pack h []=[]:=rfl;rw[this,aHL hs hc hp];simp only[Aa,Ad,true_and,closed,Cc,Bj,if_true,nJ r hr,bA,Ak,Ai]
def uF(call:aW)(f:FuncId)(args:List A)(k:A->Option R):Option R:=
 match call f args []with
 |some (r,[])=>if hU r=true then k r else none
 |_=>none
theorem u6{f:FuncId}{args:List A}{r:A}{k:A->Option R}(hc:call f args []=some (r,[]))(hp:hU r=true):uF call f args k=k r:=by
 unfold uF;rw[hc];simp only[hp,if_true]
theorem aLD{r:A}(h:hU r=true):idsA r=[]:=by
 cases r with
 |d x=>rfl
 |tup vs=>
  simp only[hU]at h;simp only[idsA]
  induction vs with
  |nil=>rfl
  |cons v vs ih=>
   simp only[Bt,Ao]at h;simp only[idsL,ih h.2,Ai]
   cases v with
   |d x=>rfl
   |_=>grind
 |_=>simp[hU]at h
theorem aCl(ord:List Nat)(n:Nat):back ord n ord.length=fun k=>ord[k]?:=by
 funext k
 unfold back
 split
 ·rfl
 ·grind
theorem aF1{h:H}{ord ids:List Nat}(hc:closed h ord ids=true)(hn:ord.Nodup)(hl:∀i∈ord,i<h.length):bA (fun(k:Nat)=>ord[k]?) h ord (pack h ord)=h:=by
 apply Co;intro id;rw[AF _ ord h _ id hn hl (by simp[pack])]
 cases hp:aH ord id with
 |none=>
  simp only[]
  split
  ·rfl
  ·rename_i hge
   rw[Cj (by simp[pack]),Cj om];rfl
 |some k=>
  simp only[];have hm:=IR hp;obtain⟨o,ho⟩:∃o,h[id]? =some o:=⟨h[id]'(hl id hm),Ae _⟩
  rw[iG (a9 hp) ho,ho,Aw,S0 hc hm ho]
theorem aHp{f:FuncId}{args:List A}(hm:(E.hint f).mode=1):aV E call h f args k=match box (aC aD h (idsL args) [])with
  |.no=>none
  |.mk ord=>match box (fB (pack h ord) (aE (aH ord) args))with
   |.mk (some (fs,_))=>if closed h ord (idsL args)=true then uF call f fs fun r=>k r h else none
   |_=>none:=by
 unfold aV bJ;rw[hm];simp only[box]
 cases hf:fB (pack h (aC aD h (idsL args) [])) (aE (aH (aC aD h (idsL args) [])) args)with
 |none=>rfl
 |some r=>
  obtain⟨fs,h1⟩:=r;simp only[uF]
  cases hc:call f fs []with
  |none=>simp
  |some r=>
   obtain⟨a,h2⟩:=r
   cases h2 with
   |cons o h2=>simp
   |nil=>
    by_cases hp:hU a=true
    ·simp only[hp,if_true];have hlen:(pack h (aC aD h (idsL args) [])).length=(aC aD h (idsL args) []).length:=by simp[pack]
     simp only[hlen,Ad,true_and]
     by_cases hcl:closed h (aC aD h (idsL args) []) (idsL args)=true
     ·simp only[hcl,if_true,aCl,nJ a (aLD hp)];rw[aF1 hcl (bN aD h (idsL args) [] sm) (j0 aD h (idsL args) [] sm)]
     ·grind
    ·grind
def aA0(h:H)(args:List A):Option (List A):=match box (aC aD h (idsL args) [])with
 |.no=>none
 |.mk ord=>match box (fB (pack h ord) (aE (aH ord) args))with
  |.mk (some (fs,_))=>if closed h ord (idsL args)=true then some fs else none
  |_=>none
theorem eH{f:FuncId}{args:List A}(hm:(E.hint f).mode=1):aV E call h f args k=match box (aA0 h args)with
  |.mk (some fs)=>uF call f fs fun r=>k r h
  |_=>none:=by
 rw[aHp hm];unfold aA0;simp only[box]
 cases fB (pack h (aC aD h (idsL args) [])) (aE (aH (aC aD h (idsL args) [])) args)with
 |none=>rfl
 |some r=>grind
theorem aIx{nf:Nat}{h:H}{ord:List Nat}{s:List A}:trim nf h ord s=match box (pack h ord)with
  |.mk p=>(aP nf p (aE (aH ord) s),cK nf p)
  |.no=>([],[]):=rfl
theorem aN3{nf:Nat}{m:List Bool}{s:List A}{h:H}:gc nf m s h=match box (tidy m s)with
  |.mk s1=>match box (dM nf h (idsL s1))with
   |.mk ord=>trim nf h ord s1
   |.no=>([],[])
  |.no=>([],[]):=rfl
theorem aIJ{P:Program}{nf:Nat}{exp:Bool}{rs:List ResultVar}{e:Exit}{s:List A}{h:H}:kFin P nf exp rs e s h=
  if lQ e then(match kZ P s h rs with
   |some rs=>match nX nf exp h rs with
    |some (xs,h2)=>match box (dM nf h2 (idsL xs))with
     |.mk ord=>match box (trim nf h2 ord xs)with
      |.mk r=>some (tupA r.1,r.2)
      |.no=>none
     |.no=>none
    |none=>none
   |none=>none)else none:=rfl
theorem r9(nf:Nat)(h:H)(ids:List Nat):dM nf h ids=aC 1099511627776 h (fU (h.take nf)++ids) (List.range nf):=rfl
theorem rng0:List.range 0=[]:=rfl
theorem rng1:List.range 1=[0]:=rfl
theorem rng2:List.range 2=[0,1]:=rfl
theorem P1(h:H)(ids:List Nat):dM 0 h ids=aC 1099511627776 h ids []:=by
 unfold dM;rfl
theorem vW(n:Nat)(h:H)(acc:List Nat):aC n h [] acc=acc:=by cases n<;>rfl
theorem oC(n:Nat)(h:H)(i:Nat)(todo acc:List Nat):aC (n+1) h (i::todo) acc=if acc.contains i=true then aC n h todo acc
  else match h.getD i .void with
   |.box cs=>aC n h (todo++idsL cs) (acc++[i])
   |.vec cs _ _=>aC n h (todo++idsL cs) (acc++[i])
   |.void=>aC n h todo acc
   |_=>aC n h todo (acc++[i]):=by
 simp only[aC,Ab]
 split
 ·rfl
 ·grind
theorem aE9{α:Type}{c:Prop}[Decidable c]{a:α}(hc:c):(if c then some a else none)=some a:=if_pos hc
def iAnd(k:IntKind)(a b:Int):Int:=k.wrap (BitVec.ofInt k.bits a&&&BitVec.ofInt k.bits b).toNat
def iOr(k:IntKind)(a b:Int):Int:=k.wrap (BitVec.ofInt k.bits a|||BitVec.ofInt k.bits b).toNat
def iXor(k:IntKind)(a b:Int):Int:=k.wrap (BitVec.ofInt k.bits a^^^BitVec.ofInt k.bits b).toNat
section
variable{t:TypeId}{K:IntKind}{a b:Int}
theorem aDo:cH E .add t h (.d (.int K a)) (.d (.int K b))=some (.d (.int K (K.wrap (a+b))),h):=by simp[cH,aBin];rfl
theorem aCh:cH E .sub t h (.d (.int K a)) (.d (.int K b))=some (.d (.int K (K.wrap (a-b))),h):=by simp[cH,aBin];rfl
theorem aC5:cH E .mul t h (.d (.int K a)) (.d (.int K b))=some (.d (.int K (K.wrap (a*b))),h):=by simp[cH,aBin];rfl
theorem aDs:cH E .and t h (.d (.int K a)) (.d (.int K b))=some (.d (.int K (iAnd K a b)),h):=by simp[cH,aBin];rfl
theorem aFv:cH E .or t h (.d (.int K a)) (.d (.int K b))=some (.d (.int K (iOr K a b)),h):=by simp[cH,aBin];rfl
theorem aCr:cH E .xor t h (.d (.int K a)) (.d (.int K b))=some (.d (.int K (iXor K a b)),h):=by simp[cH,aBin];rfl
theorem aCz:cH E .lss t h (.d (.int K a)) (.d (.int K b))=some (.d (.bool (decide (a<b))),h):=by simp[cH,aBin]
theorem aDv:cH E .leq t h (.d (.int K a)) (.d (.int K b))=some (.d (.bool (decide (a<=b))),h):=by simp[cH,aBin]
theorem aDl:cH E .gtr t h (.d (.int K a)) (.d (.int K b))=some (.d (.bool (decide (b<a))),h):=by simp[cH,aBin]
theorem aDq:cH E .geq t h (.d (.int K a)) (.d (.int K b))=some (.d (.bool (decide (b<=a))),h):=by simp[cH,aBin]
theorem aCy:cH E .eql t h (.d (.int K a)) (.d (.int K b))=some (.d (.bool (decide (a=b))),h):=by simp[cH,aBin];rfl
theorem aC1:cH E .neq t h (.d (.int K a)) (.d (.int K b))=some (.d (.bool (!decide (a=b))),h):=by simp[cH,aBin];rfl
theorem aCi(hb:b≠0):cH E .quo t h (.d (.int K a)) (.d (.int K b))=some (.d (.int K (K.wrap (a.tdiv b))),h):=by simp[cH,aBin,hb]
theorem aC8(hb:b≠0):cH E .rem t h (.d (.int K a)) (.d (.int K b))=some (.d (.int K (a.tmod b)),h):=by simp[cH,aBin,hb]
theorem aDw{K2:IntKind}(hb:0<=b):cH E .shl t h (.d (.int K a)) (.d (.int K2 b))=some (.d (.int K (K.wrap (a*2^(min b.toNat K.bits)))),h):=by
 have:¬b<0:=om;simp[cH,aBin,Op.shift,this];rfl
theorem aCP{K2:IntKind}(hb:0<=b):cH E .shr t h (.d (.int K a)) (.d (.int K2 b))=some (.d (.int K (a.fdiv (2^(min b.toNat K.bits)))),h):=by
 have:¬b<0:=om;simp[cH,aBin,Op.shift,this];rfl
theorem aIr{b:Bool}:aUn .not (.d (.bool b))=some (.d (.bool (!b))):=rfl
end
end
theorem WD:type_of% (AI @Z3 (AI @aDG (AI @VV (AI @aDd (AI @YP (AI @VU (AI @ZJ (AI @aAh (AI @aDC (AI @aG5 (AI @aCZ (AI @aDy (AI @YW (AI @V5 (AI @VJ (AI @aLq (AI @aLT (AI @aIt (AI @aJW (AI @aId (AI @aIm (AI @aIg (AI @aIP (AI @aE3 (AI @aFd (AI @KG (AI @FK (AI @aIp (AI @aLj (AI @aFA (AI @SJ (AI @aGP (AI @aGU (AI @aDF (AI @aDp (AI @aH4 (AI @aC2 (AI @J3 (AI @PR (AI @N1 (AI @V0 (AI @UU (AI @N2 (AI @O2 (AI @V9 (AI @V6 (AI @aDh (AI @aIJ (AI @R2 (AI @aAZ @aDA)))))))))))))))))))))))))))))))))))))))))))))))))):=
 ⟨@Z3,@aDG,@VV,@aDd,@YP,@VU,@ZJ,@aAh,@aDC,@aG5,@aCZ,@aDy,@YW,@V5,@VJ,@aLq,@aLT,@aIt,@aJW,@aId,@aIm,@aIg,@aIP,@aE3,@aFd,@KG,@FK,@aIp,@aLj,@aFA,@SJ,@aGP,@aGU,@aDF,@aDp,@aH4,@aC2,@J3,@PR,@N1,@V0,@UU,@N2,@O2,@V9,@V6,@aDh,@aIJ,@R2,@aAZ,@aDA⟩
theorem WDD:type_of% (AI @aDO (AI @Z6 (AI @VM (AI @aAY (AI @I4 (AI @aDE (AI @LZ (AI @aA6 (AI @K0 (AI @U7 (AI @aGo (AI @aC3 (AI @aCt (AI @O3 (AI @aFF (AI @aIv (AI @LW (AI @SF (AI @aA9 (AI @QS (AI @aCD (AI @aCE @aAH)))))))))))))))))))))):=
 ⟨@aDO,@Z6,@VM,@aAY,@I4,@aDE,@LZ,@aA6,@K0,@U7,@aGo,@aC3,@aCt,@O3,@aFF,@aIv,@LW,@SF,@aA9,@QS,@aCD,@aCE,@aAH⟩
theorem WK0:type_of% (AI @aLG (AI @aIr (AI @aDo (AI @aCh (AI @aC5 (AI @aDs (AI @aFv (AI @aCr (AI @aCi (AI @aC8 (AI @aDw (AI @aCP (AI @aCz (AI @aDv (AI @aDl (AI @aDq (AI @aCy (AI @aC1 (AI @List.getD_nil.{0} (AI @Ci.{0} (AI @Bk.{0} (AI @aN3 @aIx)))))))))))))))))))))):=
 ⟨@aLG,@aIr,@aDo,@aCh,@aC5,@aDs,@aFv,@aCr,@aCi,@aC8,@aDw,@aCP,@aCz,@aDv,@aDl,@aDq,@aCy,@aC1,@List.getD_nil.{0},@Ci.{0},@Bk.{0},@aN3,@aIx⟩
theorem WK1:type_of% (AI @Dg (AI @Bool.not_false (AI @Bool.true_eq_false (AI @decide_eq_true_eq (AI @decide_eq_false_iff_not (AI @Aw.{0,0} (AI @decide_true (AI @decide_false (AI @aE9 (AI @By (AI @Nat.one_mul (AI @Az.{0} (AI @Bt.{0} (AI @Cc.{0} (AI @Bj (AI @Bool.and_true @Cl)))))))))))))))):=
 ⟨@Dg,@Bool.not_false,@Bool.true_eq_false,@decide_eq_true_eq,@decide_eq_false_iff_not,@Aw.{0,0},@decide_true,@decide_false,@aE9,@By,@Nat.one_mul,@Az.{0},@Bt.{0},@Cc.{0},@Bj,@Bool.and_true,@Cl⟩
theorem WK2:type_of% (AI @Bs (AI @Cd (AI @List.zip_cons_cons.{0,0} (AI @List.zip_nil_left.{0,0} (AI @List.flatten_cons.{0} (AI @List.flatten_nil.{0} (AI @List.take_zero.{0} (AI @List.take_nil.{0} (AI @List.drop_nil.{0} (AI @Bool.or_self (AI @Bool.or_false (AI @Ca (AI @and_self (AI @and_true (AI @true_and (AI @Bool.or_true (AI @Bool.true_or (AI @Dh.{0} (AI @Dt.{0} (AI @Nat.lt_irrefl (AI @List.head?_cons.{0} (AI @List.contains_cons.{0} (AI @List.contains_nil.{0} @r9))))))))))))))))))))))):=
 ⟨@Bs,@Cd,@List.zip_cons_cons.{0,0},@List.zip_nil_left.{0,0},@List.flatten_cons.{0},@List.flatten_nil.{0},@List.take_zero.{0},@List.take_nil.{0},@List.drop_nil.{0},@Bool.or_self,@Bool.or_false,@Ca,@and_self,@and_true,@true_and,@Bool.or_true,@Bool.true_or,@Dh.{0},@Dt.{0},@Nat.lt_irrefl,@List.head?_cons.{0},@List.contains_cons.{0},@List.contains_nil.{0},@r9⟩
theorem WK3:type_of% (AI @rng0 (AI @rng1 (AI @rng2 (AI @Option.isNone_none.{0} (AI @Option.isNone_some.{0} (AI @Option.isSome_none.{0} (AI @Option.isSome_some.{0} (AI @vW (AI @oC (AI @beq_self_eq_true.{0} (AI @Nat.succ_ne_self (AI @Nat.zero_ne_one (AI @Ah.{0} (AI @or_false (AI @or_true @Cv.{0}))))))))))))))):=
 ⟨@rng0,@rng1,@rng2,@Option.isNone_none.{0},@Option.isNone_some.{0},@Option.isSome_none.{0},@Option.isSome_some.{0},@vW,@oC,@beq_self_eq_true.{0},@Nat.succ_ne_self,@Nat.zero_ne_one,@Ah.{0},@or_false,@or_true,@Cv.{0}⟩
theorem WK:type_of% (AI @WK0 (AI @WK1 (AI @WK2 @WK3))):=
 ⟨@WK0,@WK1,@WK2,@WK3⟩
section
variable{E:Env}{vs:List A}{t u:TypeId}{x y:Operand}
theorem VB:gX E (.convert t u x) vs=(cQ E.P u).isNone:=rfl
theorem N7{a:Array Operand}{b:Array TypeId}:gX E (.call ⟨.builtin .append,a,b⟩) vs=false:=rfl
theorem RQ:gX E (.alloc t) vs=false:=rfl
theorem OV:gX E (.assign x) vs=false:=rfl
theorem SK:gX E (.store t x y) vs=false:=rfl
theorem aCk{n:Nat}{ps:Array (Nat×Operand)}:gX E (.buildSlice t n ps) vs=false:=rfl
theorem aDi:gX E (.makeSlice t x y) vs=false:=rfl
theorem aA8:opds (.alloc t)=[]:=rfl
end
theorem UNx5:type_of% (fun v0 v1 v2 v3=> @outA.eq_2 v0 v1 v2 (A.d v3) nfn):=by intros;rfl
theorem UNx6:type_of% (fun v0 v1 v2 v3 v4 v5 v6=> @outA.eq_2 v0 v1 v2 (A.sl v3 v4 v5 v6) nfn):=by intros;rfl
theorem UNx7:type_of% (fun v0 v1 v2 v3 v4 v5=> @outA.eq_2 v0 v1 v2 (A.ptr v3 v4 v5) nfn):=by intros;rfl
theorem aNN:type_of% (fun v0 v1 v2 v3 v4=> @outS.eq_2 v0 v1 v2 (D.int v3 v4) nfn):=by intros;rfl
theorem aN9:type_of% (fun v0 v1 v2 v3=> @outS.eq_2 v0 v1 v2 (D.bool v3) nfn):=by intros;rfl
theorem aN4:type_of% (fun v0 v1 v2 v3=> @outS.eq_2 v0 v1 v2 (D.str v3) nfn):=by intros;rfl
theorem aNP:type_of% (fun v0 v1 v2 v3 v4=> @outS.eq_2 v0 v1 v2 (D.ivs v3 v4) nfn):=by intros;rfl
theorem aNL:type_of% (fun v0 v1=> @fR.eq_3 (A.d (D.int v0 v1)) nfn nfn):=by intros;rfl
theorem aNM:type_of% (fun v0=> @fR.eq_3 (A.d (D.bool v0)) nfn nfn):=by intros;rfl
theorem aOg:type_of% (fun v0=> @fR.eq_3 (A.d (D.str v0)) nfn nfn):=by intros;rfl
theorem aOd:type_of% (fun v0 v1=> @fR.eq_3 (A.d (D.ivs v0 v1)) nfn nfn):=by intros;rfl
theorem aN6:type_of% (@fR.eq_3 (A.d D.nils) nfn nfn):=(@fR.eq_3 (A.d D.nils) nfn nfn)
theorem aNK:type_of% (fun v0=> @fR.eq_3 (A.d (D.iptr v0)) nfn nfn):=by intros;rfl
theorem aNJ:type_of% (@fR.eq_3 (A.d D.nilp) nfn nfn):=(@fR.eq_3 (A.d D.nilp) nfn nfn)
theorem aNU:type_of% (fun v0 v1=> @fR.eq_3 (A.d (D.fn v0 v1)) nfn nfn):=by intros;rfl
theorem aOc:type_of% (fun v0 v1 v2 v3=> @fR.eq_3 (A.sl v0 v1 v2 v3) nfn nfn):=by intros;rfl
theorem aNX:type_of% (fun v0 v1 v2=> @fR.eq_3 (A.ptr v0 v1 v2) nfn nfn):=by intros;rfl
theorem aN2:type_of% (fun v0 v1=> @fR.eq_3 (A.clo v0 v1) nfn nfn):=by intros;rfl
theorem aNQ:type_of% (fun v0=> @tidy.eq_3 List.nil v0 nfn nfn):=by intros;rfl
theorem aOf:type_of% (fun v0 v1 v2 v3 v4=> @cV.eq_2 v0 v1 v2 v3 (A.d v4) nfn):=by intros;rfl
theorem aN5:type_of% (fun v0 v1 v2 v3 v4 v5 v6 v7=> @cV.eq_2 v0 v1 v2 v3 (A.sl v4 v5 v6 v7) nfn):=by intros;rfl
theorem aOb:type_of% (fun v0 v1=> @TK.eq_2 v0 (A.d v1) nfn):=by intros;rfl
theorem aN7:type_of% (fun v0 v1 v2=> @frz.eq_5 v0 (A.d v2) v1 nfn nfn nfn):=by intros;rfl
theorem aN8:type_of% (fun v0=> @aT.eq_2 (A.d v0) nfn):=by intros;rfl
theorem aOa:type_of% (fun v0 v1 v2 v3=> @aT.eq_2 (A.sl v0 v1 v2 v3) nfn):=by intros;rfl
theorem aNR:type_of% (fun v0 v1 v2=> @aT.eq_2 (A.ptr v0 v1 v2) nfn):=by intros;rfl
theorem aKz:type_of% (fun v0 v1=> @dH.eq_5 (A.d (D.int v0 v1)) nfn nfn nfn nfn):=by intros;rfl
theorem aKH:type_of% (fun v0=> @dH.eq_5 (A.d (D.bool v0)) nfn nfn nfn nfn):=by intros;rfl
theorem aJ6:type_of% (fun v0 v1=> @dH.eq_5 (A.d (D.ivs v0 v1)) nfn nfn nfn nfn):=by intros;rfl
theorem aJ4:type_of% (@dH.eq_5 (A.d D.nils) nfn nfn nfn nfn):=(@dH.eq_5 (A.d D.nils) nfn nfn nfn nfn)
theorem aLt:type_of% (fun v0=> @dH.eq_5 (A.d (D.iptr v0)) nfn nfn nfn nfn):=by intros;rfl
theorem aKG:type_of% (@dH.eq_5 (A.d D.nilp) nfn nfn nfn nfn):=(@dH.eq_5 (A.d D.nilp) nfn nfn nfn nfn)
theorem aLu:type_of% (fun v0 v1=> @dH.eq_5 (A.d (D.fn v0 v1)) nfn nfn nfn nfn):=by intros;rfl
theorem aJ8:type_of% (fun v0 v1 v2 v3=> @dH.eq_5 (A.sl v0 v1 v2 v3) nfn nfn nfn nfn):=by intros;rfl
theorem aK7:type_of% (fun v0 v1 v2=> @dH.eq_5 (A.ptr v0 v1 v2) nfn nfn nfn nfn):=by intros;rfl
theorem aLI:type_of% (fun v0=> @vU.eq_2 (A.d v0) nfn):=by intros;rfl
theorem aLC:type_of% (fun v0 v1 v2 v3=> @vU.eq_2 (A.sl v0 v1 v2 v3) nfn):=by intros;rfl
theorem aKw:type_of% (fun v0=> @vU.eq_2 (A.agg v0) nfn):=by intros;rfl
theorem aKU:type_of% (fun v0 v1 v2 v3=> @fU.eq_4 (O.arr v1 v2 v3) v0 nfn nfn):=by intros;rfl
theorem aKR:type_of% (@tupA.eq_2 List.nil nfn):=(@tupA.eq_2 List.nil nfn)
theorem aKo:type_of% (fun v0 v1 v2=> @tupA.eq_2 (List.cons v0 (List.cons v1 v2)) nfn):=by intros;rfl
theorem aKK:type_of% (fun v0 v1 v2 v3 v4=> @E3.eq_2 v0 v1 (Go.Operand.tmp v4) v2 v3 nfn):=by intros;rfl
theorem aLs:type_of% (fun v0 v1 v2 v3=> @aY.eq_3 v0 (A.d (D.int v2 v3)) v1 nfn):=by intros;rfl
theorem aKu:type_of% (fun v0 v1 v2 v3=> @aY.eq_3 v0 (A.d (D.ivs v2 v3)) v1 nfn):=by intros;rfl
theorem aLc:type_of% (fun v0 v1=> @aY.eq_3 v0 (A.d D.nilp) v1 nfn):=by intros;rfl
theorem aJ0:type_of% (fun v0 v1 v2 v3=> @aY.eq_3 v0 (A.d (D.fn v2 v3)) v1 nfn):=by intros;rfl
theorem aLN:type_of% (fun v0 v1 v2 v3 v4 v5=> @aY.eq_3 v0 (A.sl v2 v3 v4 v5) v1 nfn):=by intros;rfl
theorem aJU:type_of% (fun v0 v1 v2 v3 v4=> @aY.eq_3 v0 (A.ptr v2 v3 v4) v1 nfn):=by intros;rfl
theorem aLl:type_of% (fun v0 v1 v2 v3=> @mapO.eq_3 v0 (O.arr v1 v2 v3) nfn nfn):=by intros;rfl
theorem aK2:type_of% (fun v0 v1 v2 v3=> @mapO.eq_3 v0 (O.ice v1 v2 v3) nfn nfn):=by intros;rfl
theorem aKb:type_of% (fun v0 v1=> @frzA.eq_2 v0 (A.d v1) nfn):=by intros;rfl
theorem aKr:type_of% (fun v0 v1 v2 v3 v4=> @frzA.eq_2 v0 (A.sl v1 v2 v3 v4) nfn):=by intros;rfl
theorem aKI:type_of% (fun v0 v1 v2=> @frzA.eq_2 v0 (A.clo v1 v2) nfn):=by intros;rfl
theorem UN0:type_of% (AI @aA8 (AI @aLen.eq_def (AI @N7 (AI @VB (AI @RQ (AI @OV (AI @SK (AI @aCk (AI @aDi (AI @List.range'.eq_1 (AI @List.range'.eq_2 (AI @KD.eq_1 @KZ.eq_1)))))))))))):=
 ⟨@aA8,@aLen.eq_def,@N7,@VB,@RQ,@OV,@SK,@aCk,@aDi,@List.range'.eq_1,@List.range'.eq_2,@KD.eq_1,@KZ.eq_1⟩
theorem UN1:type_of% (AI @aPut.eq_1 (AI @aPut.eq_2 (AI @lQ.eq_1 (AI @lQ.eq_2 (AI @outA.eq_1 (AI @UNx5 (AI @UNx6 (AI @UNx7 (AI @outS.eq_1 (AI @aNN (AI @aN9 (AI @aN4 (AI @aNP (AI @outS.eq_3 (AI @outS.eq_4 (AI @z8.eq_1 (AI @z8.eq_2 (AI @idsA.eq_1 @idsA.eq_2)))))))))))))))))):=
 ⟨@aPut.eq_1,@aPut.eq_2,@lQ.eq_1,@lQ.eq_2,@outA.eq_1,@UNx5,@UNx6,@UNx7,@outS.eq_1,@aNN,@aN9,@aN4,@aNP,@outS.eq_3,@outS.eq_4,@z8.eq_1,@z8.eq_2,@idsA.eq_1,@idsA.eq_2⟩
theorem UN2:type_of% (AI @idsA.eq_4 (AI @idsA.eq_5 (AI @idsA.eq_7 (AI @idsA.eq_8 (AI @idsL.eq_1 (AI @idsL.eq_2 (AI @mapA.eq_1 (AI @mapA.eq_2 (AI @mapA.eq_4 (AI @mapA.eq_5 (AI @mapA.eq_7 (AI @mapA.eq_8 (AI @aP.eq_1 (AI @aP.eq_2 (AI @bI.eq_1 (AI @bI.eq_2 (AI @bI.eq_4 (AI @bI.eq_5 (AI @bI.eq_7 (AI @bI.eq_8 (AI @hY.eq_1 (AI @GH.eq_1 (AI @aZ.eq_1 (AI @cK.eq_1 (AI @d8.eq_1 (AI @d8.eq_2 (AI @cC.eq_1 (AI @cC.eq_2 (AI @cC.eq_3 (AI @cC.eq_4 @aE.eq_1)))))))))))))))))))))))))))))):=
 ⟨@idsA.eq_4,@idsA.eq_5,@idsA.eq_7,@idsA.eq_8,@idsL.eq_1,@idsL.eq_2,@mapA.eq_1,@mapA.eq_2,@mapA.eq_4,@mapA.eq_5,@mapA.eq_7,@mapA.eq_8,@aP.eq_1,@aP.eq_2,@bI.eq_1,@bI.eq_2,@bI.eq_4,@bI.eq_5,@bI.eq_7,@bI.eq_8,@hY.eq_1,@GH.eq_1,@aZ.eq_1,@cK.eq_1,@d8.eq_1,@d8.eq_2,@cC.eq_1,@cC.eq_2,@cC.eq_3,@cC.eq_4,@aE.eq_1⟩
theorem UN3:type_of% (AI @aE.eq_2 (AI @qA.eq_1 (AI @qA.eq_2 (AI @qA.eq_3 (AI @fR.eq_1 (AI @fR.eq_2 (AI @aNL (AI @aNM (AI @aOg (AI @aOd (AI @aN6 (AI @aNK (AI @aNJ (AI @aNU (AI @aOc (AI @aNX (AI @aN2 (AI @tidy.eq_1 (AI @tidy.eq_2 (AI @aNQ (AI @aOf (AI @aN5 (AI @cV.eq_3 @pF.eq_1))))))))))))))))))))))):=
 ⟨@aE.eq_2,@qA.eq_1,@qA.eq_2,@qA.eq_3,@fR.eq_1,@fR.eq_2,@aNL,@aNM,@aOg,@aOd,@aN6,@aNK,@aNJ,@aNU,@aOc,@aNX,@aN2,@tidy.eq_1,@tidy.eq_2,@aNQ,@aOf,@aN5,@cV.eq_3,@pF.eq_1⟩
theorem UN4:type_of% (AI @iF.eq_1 (AI @oA.eq_1 (AI @DV.eq_1 (AI @TK.eq_1 (AI @aOb (AI @FM.eq_1 (AI @pD.eq_1 (AI @keeps.eq_1 (AI @logs.eq_1 @qT.eq_1))))))))):=
 ⟨@iF.eq_1,@oA.eq_1,@DV.eq_1,@TK.eq_1,@aOb,@FM.eq_1,@pD.eq_1,@keeps.eq_1,@logs.eq_1,@qT.eq_1⟩
theorem UN5:type_of% (AI @bU.eq_2 (AI @bU.eq_4 (AI @kF.eq_1 (AI @n9.eq_1 (AI @AG.eq_1 (AI @mP.eq_1 (AI @mP.eq_2 (AI @r5.eq_1 (AI @iZ.eq_1 (AI @gH.eq_1 (AI @gH.eq_3 (AI @frzL.eq_1 (AI @eS.eq_1 (AI @eS.eq_2 (AI @frz.eq_2 (AI @frz.eq_3 (AI @frz.eq_4 (AI @aN7 (AI @frz0.eq_1 (AI @frz0.eq_2 (AI @deep.eq_1 (AI @aT.eq_1 (AI @aN8 (AI @aOa @aNR)))))))))))))))))))))))):=
 ⟨@bU.eq_2,@bU.eq_4,@kF.eq_1,@n9.eq_1,@AG.eq_1,@mP.eq_1,@mP.eq_2,@r5.eq_1,@iZ.eq_1,@gH.eq_1,@gH.eq_3,@frzL.eq_1,@eS.eq_1,@eS.eq_2,@frz.eq_2,@frz.eq_3,@frz.eq_4,@aN7,@frz0.eq_1,@frz0.eq_2,@deep.eq_1,@aT.eq_1,@aN8,@aOa,@aNR⟩
theorem UN6:type_of% (AI @a6.eq_1 (AI @aKz (AI @aKH (AI @aJ6 (AI @aJ4 (AI @aLt (AI @aKG (AI @aLu (AI @aJ8 (AI @aK7 (AI @aLI (AI @aLC (AI @aKw (AI @fU.eq_1 (AI @fU.eq_2 (AI @aKU @kZ.eq_1)))))))))))))))):=
 ⟨@a6.eq_1,@aKz,@aKH,@aJ6,@aJ4,@aLt,@aKG,@aLu,@aJ8,@aK7,@aLI,@aLC,@aKw,@fU.eq_1,@fU.eq_2,@aKU,@kZ.eq_1⟩
theorem UN7:type_of% (AI @kZ.eq_2 (AI @EJ.eq_1 (AI @EJ.eq_2 (AI @nX.eq_1 (AI @nX.eq_2 (AI @tupA.eq_1 (AI @aKR (AI @aKo (AI @lU.eq_1 (AI @lU.eq_2 (AI @rR.eq_1 (AI @rR.eq_2 (AI @opds.eq_2 (AI @opds.eq_7 (AI @opds.eq_13 (AI @opds.eq_14 (AI @opds.eq_16 @opds.eq_24))))))))))))))))):=
 ⟨@kZ.eq_2,@EJ.eq_1,@EJ.eq_2,@nX.eq_1,@nX.eq_2,@tupA.eq_1,@aKR,@aKo,@lU.eq_1,@lU.eq_2,@rR.eq_1,@rR.eq_2,@opds.eq_2,@opds.eq_7,@opds.eq_13,@opds.eq_14,@opds.eq_16,@opds.eq_24⟩
theorem UN8:type_of% (AI @evOp.eq_1 (AI @dV.eq_1 (AI @one.eq_1 (AI @two.eq_1 @aKK)))):=
 ⟨@evOp.eq_1,@dV.eq_1,@one.eq_1,@two.eq_1,@aKK⟩
theorem UN9:type_of% (AI @aNew.eq_1 (AI @o9.eq_2 (AI @o9.eq_3 (AI @v8.eq_1 @K5.eq_1)))):=
 ⟨@aNew.eq_1,@o9.eq_2,@o9.eq_3,@v8.eq_1,@K5.eq_1⟩
theorem UN10:type_of% (AI @back.eq_1 (AI @bA.eq_1 (AI @bA.eq_2 (AI @aD.eq_1 (AI @closed.eq_1 (AI @iV.eq_1 @aY.eq_1)))))):=
 ⟨@back.eq_1,@bA.eq_1,@bA.eq_2,@aD.eq_1,@closed.eq_1,@iV.eq_1,@aY.eq_1⟩
theorem UN11:type_of% (AI @aY.eq_2 (AI @aLs (AI @aKu (AI @aLc (AI @aJ0 (AI @aLN (AI @aJU (AI @aH.eq_2 (AI @pack.eq_1 (AI @mapO.eq_1 (AI @mapO.eq_2 (AI @aLl (AI @aK2 (AI @bF.eq_1 (AI @frzA.eq_1 (AI @aKb (AI @aKr (AI @aKI @fB.eq_1)))))))))))))))))):=
 ⟨@aY.eq_2,@aLs,@aKu,@aLc,@aJ0,@aLN,@aJU,@aH.eq_2,@pack.eq_1,@mapO.eq_1,@mapO.eq_2,@aLl,@aK2,@bF.eq_1,@frzA.eq_1,@aKb,@aKr,@aKI,@fB.eq_1⟩
theorem UN12:type_of% (AI @fB.eq_2 (AI @memD.eq_1 (AI @aA0.eq_1 (AI @I6.eq_1 @fJ.eq_3)))):=
 ⟨@fB.eq_2,@memD.eq_1,@aA0.eq_1,@I6.eq_1,@fJ.eq_3⟩
theorem UN:type_of% (AI @UN0 (AI @UN1 (AI @UN2 (AI @UN3 (AI @UN4 (AI @UN5 (AI @UN6 (AI @UN7 (AI @UN8 (AI @UN9 (AI @UN10 (AI @UN11 @UN12)))))))))))):=
 ⟨@UN0,@UN1,@UN2,@UN3,@UN4,@UN5,@UN6,@UN7,@UN8,@UN9,@UN10,@UN11,@UN12⟩
theorem aN0:type_of% (@bK.eq_5 Go.Code.skip nfn nfn nfn nfn):=(@bK.eq_5 Go.Code.skip nfn nfn nfn nfn)
theorem aNS:type_of% (fun v0 v1 v2=> @bK.eq_5 (Go.Code.region v0 v1 v2) nfn nfn nfn nfn):=(fun v0 v1 v2=> @bK.eq_5 (Go.Code.region v0 v1 v2) nfn nfn nfn nfn)
theorem aOe:type_of% (fun v0=> @bK.eq_5 (Go.Code.exit v0) nfn nfn nfn nfn):=(fun v0=> @bK.eq_5 (Go.Code.exit v0) nfn nfn nfn nfn)
theorem aK8:type_of% (@bK.eq_5 Go.Code.ret nfn nfn nfn nfn):=(@bK.eq_5 Go.Code.ret nfn nfn nfn nfn)
theorem SLM0:type_of% (AI @Bg.{0} (AI @Aa.{0} (AI @Br (AI @Af (AI @Ag.{0,0} (AI @Ak.{0,0} (AI @Ch.{0} (AI @As.{0} (AI @De.{0,0} (AI @Aj (AI @Ac.{0} (AI @List.replicate.eq_1.{0} (AI @List.replicate.eq_2.{0} (AI @At.{0} (AI @Al.{0} (AI @Ai.{0} (AI @List.getD_cons_zero.{0} (AI @List.getD_cons_succ.{0} (AI @aX.eq_1 (AI @bD.eq_1 (AI @lpOf.eq_1 (AI @aN.eq_1 (AI @slim.eq_1 (AI @slim.eq_2 (AI @slim.eq_3 (AI @slim.eq_4 (AI @slim.eq_5 (AI @slim.eq_6 (AI @slim.eq_7 (AI @slim.eq_8 (AI @bK.eq_1 (AI @bK.eq_2 @bK.eq_3)))))))))))))))))))))))))))))))):=
 ⟨@Bg.{0},@Aa.{0},@Br,@Af,@Ag.{0,0},@Ak.{0,0},@Ch.{0},@As.{0},@De.{0,0},@Aj,@Ac.{0},@List.replicate.eq_1.{0},@List.replicate.eq_2.{0},@At.{0},@Al.{0},@Ai.{0},@List.getD_cons_zero.{0},@List.getD_cons_succ.{0},@aX.eq_1,@bD.eq_1,@lpOf.eq_1,@aN.eq_1,@slim.eq_1,@slim.eq_2,@slim.eq_3,@slim.eq_4,@slim.eq_5,@slim.eq_6,@slim.eq_7,@slim.eq_8,@bK.eq_1,@bK.eq_2,@bK.eq_3⟩
theorem SLM1:type_of% (AI @bK.eq_4 (AI @aN0 (AI @aNS (AI @aOe (AI @aK8 (AI @D9.eq_1 (AI @HH.eq_1 @HH.eq_2))))))):=
 ⟨@bK.eq_4,@aN0,@aNS,@aOe,@aK8,@D9.eq_1,@HH.eq_1,@HH.eq_2⟩
theorem SLM:type_of% (AI @SLM0 @SLM1):=
 ⟨@SLM0,@SLM1⟩
theorem LN:type_of% (AI @Ah.{0} (AI @Ac.{0} (AI @Aa.{0} (AI @Be.{0} (AI @List.length_replicate.{0} (AI @Ax.{0,0} (AI @Cf.{0} @Ba.{0}))))))):=
 ⟨@Ah.{0},@Ac.{0},@Aa.{0},@Be.{0},@List.length_replicate.{0},@Ax.{0,0},@Cf.{0},@Ba.{0}⟩
theorem GT:type_of% (AI @Ch.{0} @As.{0}):=
 ⟨@Ch.{0},@As.{0}⟩
end Ev
end Go.Proofs.YtahbdkmimmnadaaGreatDoor
