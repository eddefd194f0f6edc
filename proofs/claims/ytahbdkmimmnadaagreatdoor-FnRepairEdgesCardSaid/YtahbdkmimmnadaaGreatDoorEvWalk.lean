/-
  How each operation goes, in the form in which the evaluator is walked.
-/
import Derived.Test.YtahbdkmimmnadaaGreatDoorEvPrim
set_option linter.unusedSimpArgs false
set_option linter.unusedVariables false
set_option linter.unusedSectionVars false
namespace Go.Proofs.YtahbdkmimmnadaaGreatDoor
namespace Ev
section
variable{R:Type}{E:Env}{call:aW}{thaw:List Nat}{dst:Option Tmp}{s:List A}{h:H}{k:A->H->Option R}
structure Now(p:Prop):Prop where
 it:p
structure Shut(p:Prop):Prop where
 it:p
inductive Box(α:Type) where
 |mk (a:α)
 |no
def box{α:Type}(a:α):Box α:=.mk a
theorem aKT{α:Type}{a:α}:box a=.mk a:=rfl
theorem aKw{t:Nat}{q:A->Option R}:kv s (.tmp t) q=match box (s.getD t (.d .undef))with|.no=>none|.mk a=>q a:=rfl
theorem aLA{K:IntKind}{n:Int}{q:A->Option R}:kv s (.const (.int K n)) q=q (.d (.int K n)):=rfl
theorem aH8{b:Bool}{q:A->Option R}:kv s (.const (.bool b)) q=q (.d (.bool b)):=rfl
theorem aKm{b:ByteArray}{q:A->Option R}:kv s (.const (.string b)) q=match box b.data.toList with|.no=>none|.mk l=>q (.d (.str l)):=rfl
theorem aIA{q:A->Option R}:kv s (.const (.pointer none)) q=q (.d .nilp):=rfl
theorem aH3{q:A->Option R}:kv s (.const (.slice none 0 0)) q=q (.d .nils):=rfl
theorem aIB{f:FuncId}{q:A->Option R}:kv s (.func f) q=q (.clo f []):=rfl
theorem aIG{q:List A->Option R}:kvs s [] q=q []:=rfl
theorem aG8{x:Operand}{xs:List Operand}{q:List A->Option R}:kvs s (x::xs) q=kv s x fun a=>kvs s xs fun asx=>q (a::asx):=by
 unfold kvs kv;simp only[bP]
 cases dB s x with
 |none=>rfl
 |some a=>grind
theorem U6{yes no:List A->Option R}:tE none s yes no=yes s:=rfl
theorem VC{t:Nat}{w:Bool}{yes no:List A->Option R}:tE (some (some t,w)) s yes no=match s.getD t .junk with
  |.d (.bool b)=>if b=w then(match box (s.set t (.d (.bool w)))with|.no=>none|.mk s=>yes s)else(match box (s.set t (.d (.bool (!w))))with|.no=>none|.mk s=>no s)
  |.d .undef=>no s
  |_=>none:=by
 simp only[tE,Ab]
 cases s[t]? with
 |none=>rfl
 |some a=>
  cases a with
  |d x=>cases x<;>rfl
  |_=>rfl
theorem aEW{x:Operand}:kOp E call thaw dst (.move x) s h k=kv s x fun a=>k a h:=by
 unfold kOp kvs kv;simp only[opds,bP]
 cases dB s x<;>rfl
def kAsg(thaw:List Nat)(dst:Option Tmp)(h:H)(k:A->H->Option R)(a:A):Option R:=
 match a with
 |.d .nils=>match LX thaw dst with
  |0=>k (.d .nils) h
  |e+1=>if e<1000 then k (.sl h.length 0 0 0) (h++[.arr [] e 0])else k (.sl h.length 0 0 0) (h++[.vec [] (e-1000) 0])
 |a=>k a h
theorem MB{t:Nat}:kOp E call thaw dst (.assign (.tmp t)) s h k=match box (s.getD t (.d .undef))with|.no=>none|.mk a=>k a h:=by
 unfold kOp kvs;rfl
theorem F8{v:Value}:kOp E call thaw dst (.assign (.const v)) s h k=kv s (.const v) (kAsg thaw dst h k):=by
 unfold kOp kvs kv kAsg;simp only[opds,bP]
 cases dB s (.const v)with
 |none=>rfl
 |some a=>
  simp only[tQ,Aj,if_false,evOp,one,EX,dV]
  cases a with
  |d x=>grind
  |_=>rfl
def kRet(r:Option (A×H))(k:A->H->Option R):Option R:=
 match r with
 |some (a,h')=>k a h'
 |none=>none
theorem aIe{op:BinOp}{t:TypeId}{x y:Operand}{t2:TypeId}:kOp E call thaw dst (.binOp op t x y t2) s h k=kv s x fun a=>kv s y fun b=>kRet (cH E op t h a b) k:=by
 unfold kOp kvs kv kRet;simp only[opds,bP]
 cases dB s x with
 |none=>rfl
 |some a=>cases dB s y<;>rfl
theorem aKK{op:UnOp}{t:TypeId}{x:Operand}:kOp E call thaw dst (.unOp op t x) s h k=kv s x fun a=>kRet ((aUn op a).map fun r=>(r,h)) k:=by
 unfold kOp kvs kv kRet;simp only[opds,bP]
 cases dB s x<;>rfl
theorem aGO{c x y:Operand}:kOp E call thaw dst (.pick c x y) s h k=kv s c fun b=>kv s x fun a=>kv s y fun a'=>kRet (L0 h [b,a,a']) k:=by
 unfold kOp kvs kv kRet;simp only[opds,bP]
 cases dB s c with
 |none=>rfl
 |some b=>cases dB s x with
  |none=>rfl
  |some a=>cases dB s y<;>rfl
theorem QJ{x:Operand}:kOp E call thaw dst (.nilCheck x) s h k=kv s x fun a=>kRet (lL h a) k:=by
 unfold kOp kvs kv kRet;simp only[opds,bP]
 cases dB s x<;>rfl
theorem aFi{t u:TypeId}{x:Operand}:kOp E call thaw dst (.convert t u x) s h k=kv s x fun a=>kRet (gM E.P h t u a) k:=by
 unfold kOp kvs kv kRet;simp only[opds,bP]
 cases dB s x<;>rfl
theorem aG2{t:TypeId}{x:Operand}:kOp E call thaw dst (.load t x) s h k=kv s x fun a=>kRet ((AF E.P h t a).map fun v=>(v,h)) k:=by
 unfold kOp kvs kv kRet;simp only[opds,bP]
 cases dB s x<;>rfl
theorem aC2{t:TypeId}{x y:Operand}:kOp E call thaw dst (.store t x y) s h k=kv s x fun a=>kv s y fun b=>kRet ((iW E.P h t a b).map fun h'=>(.d .undef,h')) k:=by
 unfold kOp kvs kv kRet;simp only[opds,bP]
 cases dB s x with
 |none=>rfl
 |some a=>cases dB s y<;>rfl
theorem aCF{t:TypeId}:kOp E call thaw dst (.alloc t) s h k=match box (dA E.P t)with
  |.no=>none
  |.mk none=>none
  |.mk (some z)=>kRet (aNew h z) k:=by
 unfold kOp kvs kRet;simp only[opds,bP,tQ,Aj,if_false,evOp,dV,box]
 cases dA E.P t<;>rfl
theorem aIL{t:TypeId}{x:Operand}:kOp E call thaw dst (.box t x) s h k=kv s x fun a=>kRet (aNew h a) k:=by
 unfold kOp kvs kv kRet;simp only[opds,bP]
 cases dB s x<;>rfl
theorem aDH{t:TypeId}{ps:List (Nat×Operand)}:kOp E call thaw dst (.build t ps.toArray) s h k=match box (ps.map (·.2))with
  |.no=>none
  |.mk xs=>kvs s xs fun vs=>kRet ((m4 E.P t ((ps.map (·.1)).zip vs)).map fun a=>(a,h)) k:=by
 rfl
theorem K0{t:TypeId}{n:Nat}{ps:List (Nat×Operand)}:kOp E call thaw dst (.buildSlice t n ps.toArray) s h k=match box (ps.map (·.2))with
  |.no=>none
  |.mk xs=>kvs s xs fun vs=>kRet (if logs thaw dst=true then TZ (kG E.P h t n ((ps.map (·.1)).zip vs))else if keeps thaw dst=true then rI E.P h t n ((ps.map (·.1)).zip vs)else kG E.P h t n ((ps.map (·.1)).zip vs)) k:=by
 rfl
theorem Q4{fn:Fn}{cap:List Operand}:kOp E call thaw dst (.makeFunc fn #[] cap.toArray) s h k=kvs s cap fun vs=>kRet (KD h fn true vs) k:=by
 rfl
theorem N7{t:TypeId}{x y:Operand}:kOp E call thaw dst (.makeSlice t x y) s h k=kv s x fun a=>kv s y fun b=>kRet (iZ a fun l=>iZ b fun c=>if keeps thaw dst=true then ER E.P h t l c else iD E.P h t l c) k:=by
 unfold kOp kvs kv kRet;simp only[opds,bP]
 cases dB s x with
 |none=>rfl
 |some a=>cases dB s y<;>rfl
theorem WF{t:TypeId}{x lo:Operand}:kOp E call thaw dst (.slice t x (some lo) none none) s h k=kvs s [x,lo] fun vs=>kRet (pG E.P h t true false vs) k:=rfl
theorem WE{t:TypeId}{x hi:Operand}:kOp E call thaw dst (.slice t x none (some hi) none) s h k=kvs s [x,hi] fun vs=>kRet (pG E.P h t false true vs) k:=rfl
theorem O2{t:TypeId}{x:Operand}{f:Nat}:kOp E call thaw dst (.fieldAddr t x f) s h k=kv s x fun a=>kRet ((cE E.P t f).bind fun r=>(rT r.1 a).map fun r=>(r,h)) k:=by
 unfold kOp kvs kv kRet;simp only[opds,bP]
 cases dB s x<;>rfl
theorem PH{t:TypeId}{x y:Operand}:kOp E call thaw dst (.indexAddr t x y) s h k=kv s x fun a=>kv s y fun b=>kRet (iZ b fun i=>(nW E.P h t a i).map fun r=>(r,h)) k:=by
 unfold kOp kvs kv kRet;simp only[opds,bP]
 cases dB s x with
 |none=>rfl
 |some a=>cases dB s y<;>rfl
theorem UO{x:Operand}{i:Nat}:kOp E call thaw dst (.extract x i) s h k=kv s x fun a=>kRet (vY h i a) k:=by
 unfold kOp kvs kv kRet;simp only[opds,bP]
 cases dB s x<;>rfl
theorem VS{b:Builtin}{args:List Operand}{tys:List TypeId}:kOp E call thaw dst (.call ⟨.builtin b,args.toArray,tys.toArray⟩) s h k=kvs s args fun vs=>kRet (cU E.P h b tys vs) k:=by
 rfl
theorem eR{op:Op}{q:A->H->Foot->Option R}(hp:Now (oU op=true/\tQ op=false)):kOpD E call thaw dst op s h q=kOp E call thaw dst op s h fun a _=>q a h {}:=by
 obtain⟨hp,hc⟩:=hp.it;unfold kOpD kOp kvs;rw[hp,hc]
 cases bP s (opds op)with
 |none=>rfl
 |some vs=>grind
def memD(E:Env)(call:aW)(thaw:List Nat)(dst:Option Tmp)(op:Op)(h:H)(vs:List A):Option (A×H×Foot):=match box (aC aD h (idsL vs) [])with
 |.no=>none
 |.mk ord=>match box (evOp E call thaw (pack h ord) (dV dst op) (aE (aH ord) vs))with
  |.mk (some (a,h1))=>if ord.length<=h1.length/\closed h ord (idsL vs)=true then
    (if(hZ E op vs&&h1.length-ord.length==0)=true then some (mapA (back ord h.length h1.length) a,h,{ ids:=ord,ro:=true})
    else some (mapA (back ord h.length h1.length) a,bA (back ord h.length h1.length) h ord h1,{ ids:=ord++List.range' h.length (h1.length-ord.length),ro:=false,wr:=wrOf E op vs ord++List.range' h.length (h1.length-ord.length)}))
   else none
  |_=>none
theorem hY{op:Op}{q:A->H->Foot->Option R}(hp:Now (oU op=false/\pK op=false)):kOpD E call thaw dst op s h q=match box (opds op)with|.no=>none|.mk xs=>kvs s xs fun vs=>match box (memD E call thaw dst op h vs)with
  |.mk (some (a,h',c))=>q a h' c
  |_=>none:=by
 simp only[box];unfold kOpD kvs;rw[hp.it.1,hp.it.2]
 cases bP s (opds op)with
 |none=>rfl
 |some vs=>
  simp only[Aj,if_false,iP,memD,box]
  cases evOp E call thaw (pack h (aC aD h (idsL vs) [])) (dV dst op) (aE (aH (aC aD h (idsL vs) [])) vs)with
  |none=>rfl
  |some r=>grind
theorem JA{op:Op}{q:A->H->Foot->Option R}(hp:Now (oU op=false/\pK op=true/\tQ op=false)):kOpD E call thaw dst op s h q=kvs s (opds op) fun vs=>kOp E call thaw dst op s h fun a _=>q a h { ids:=ids0 vs,ro:=true}:=by
 unfold kOpD kOp kvs;rw[hp.it.1,hp.it.2.1,hp.it.2.2]
 cases bP s (opds op)with
 |none=>rfl
 |some vs=>grind
theorem NW{x:Operand}{xs:List Operand}{op:Op}{q:A->H->Foot->Option R}(hx:opds op=x::xs):(kvs s (opds op) fun vs=>kOp E call thaw dst op s h fun a _=>q a h { ids:=ids0 vs,ro:=true})=kv s x fun b=>kOp E call thaw dst op s h fun a _=>q a h { ids:=idsA b,ro:=true}:=by
 unfold kOp kv;rw[hx];unfold kvs;simp only[bP]
 cases dB s x with
 |none=>rfl
 |some b=>
  cases bP s xs with
  |none=>rfl
  |some bs=>rfl
theorem aCX{t:TypeId}{x:Operand}{q:A->H->Foot->Option R}:kOpD E call thaw dst (.load t x) s h q=kv s x fun b=>kOp E call thaw dst (.load t x) s h fun a _=>q a h { ids:=idsA b,ro:=true}:=(JA ⟨rfl,rfl,rfl⟩).trans (NW rfl)
theorem YZ{t:TypeId}{x y:Operand}{q:A->H->Foot->Option R}:type_of% (hY (E:=E) (call:=call) (thaw:=thaw) (dst:=dst) (s:=s) (h:=h) (op:=.store t x y) (q:=q) ⟨rfl,rfl⟩):=hY ⟨rfl,rfl⟩
theorem UU{x:Operand}{q:A->H->Foot->Option R}:type_of% (hY (E:=E) (call:=call) (thaw:=thaw) (dst:=dst) (s:=s) (h:=h) (op:=.assign x) (q:=q) ⟨rfl,rfl⟩):=hY ⟨rfl,rfl⟩
theorem ZB{t:TypeId}{q:A->H->Foot->Option R}:type_of% (hY (E:=E) (call:=call) (thaw:=thaw) (dst:=dst) (s:=s) (h:=h) (op:=.alloc t) (q:=q) ⟨rfl,rfl⟩):=hY ⟨rfl,rfl⟩
theorem HU{t:TypeId}{n:Nat}{ps:List (Nat×Operand)}{q:A->H->Foot->Option R}:type_of% (hY (E:=E) (call:=call) (thaw:=thaw) (dst:=dst) (s:=s) (h:=h) (op:=.buildSlice t n ps.toArray) (q:=q) ⟨rfl,rfl⟩):=hY ⟨rfl,rfl⟩
theorem aCE{t u:TypeId}{x:Operand}{q:A->H->Foot->Option R}:type_of% (hY (E:=E) (call:=call) (thaw:=thaw) (dst:=dst) (s:=s) (h:=h) (op:=.convert t u x) (q:=q) ⟨rfl,rfl⟩):=hY ⟨rfl,rfl⟩
theorem KU{t:TypeId}{x y:Operand}{q:A->H->Foot->Option R}:type_of% (hY (E:=E) (call:=call) (thaw:=thaw) (dst:=dst) (s:=s) (h:=h) (op:=.makeSlice t x y) (q:=q) ⟨rfl,rfl⟩):=hY ⟨rfl,rfl⟩
theorem YK{t:TypeId}{x:Operand}{lo hi mx:Option Operand}{q:A->H->Foot->Option R}:kOpD E call thaw dst (.slice t x lo hi mx) s h q=kv s x fun b=>kOp E call thaw dst (.slice t x lo hi mx) s h fun a _=>q a h { ids:=idsA b,ro:=true}:=(JA ⟨rfl,rfl,rfl⟩).trans (NW rfl)
theorem LR{t:TypeId}{x y:Operand}{q:A->H->Foot->Option R}:kOpD E call thaw dst (.indexAddr t x y) s h q=kv s x fun b=>kOp E call thaw dst (.indexAddr t x y) s h fun a _=>q a h { ids:=idsA b,ro:=true}:=(JA ⟨rfl,rfl,rfl⟩).trans (NW rfl)
theorem UM{args tys:Array _}{q:A->H->Foot->Option R}:type_of% (hY (E:=E) (call:=call) (thaw:=thaw) (dst:=dst) (s:=s) (h:=h) (op:=.call ⟨.builtin .append,args,tys⟩) (q:=q) ⟨rfl,rfl⟩):=hY ⟨rfl,rfl⟩
theorem aFx{x:Operand}{xs:List Operand}{tys:Array _}{q:A->H->Foot->Option R}:kOpD E call thaw dst (.call ⟨.builtin .len,(x::xs).toArray,tys⟩) s h q=kv s x fun b=>kOp E call thaw dst (.call ⟨.builtin .len,(x::xs).toArray,tys⟩) s h fun a _=>q a h { ids:=idsA b,ro:=true}:=(JA ⟨rfl,rfl,rfl⟩).trans (NW rfl)
theorem aDu{x:Operand}{q:A->H->Foot->Option R}:type_of% (eR (E:=E) (call:=call) (thaw:=thaw) (dst:=dst) (s:=s) (h:=h) (op:=.move x) (q:=q) ⟨rfl,rfl⟩):=eR ⟨rfl,rfl⟩
theorem aDs{c x y:Operand}{q:A->H->Foot->Option R}:type_of% (eR (E:=E) (call:=call) (thaw:=thaw) (dst:=dst) (s:=s) (h:=h) (op:=.pick c x y) (q:=q) ⟨rfl,rfl⟩):=eR ⟨rfl,rfl⟩
theorem OL{x:Operand}{q:A->H->Foot->Option R}:type_of% (eR (E:=E) (call:=call) (thaw:=thaw) (dst:=dst) (s:=s) (h:=h) (op:=.nilCheck x) (q:=q) ⟨rfl,rfl⟩):=eR ⟨rfl,rfl⟩
theorem aGg{op:BinOp}{t:TypeId}{x y:Operand}{t2:TypeId}{q:A->H->Foot->Option R}:type_of% (eR (E:=E) (call:=call) (thaw:=thaw) (dst:=dst) (s:=s) (h:=h) (op:=.binOp op t x y t2) (q:=q) ⟨rfl,rfl⟩):=eR ⟨rfl,rfl⟩
theorem aIN{op:UnOp}{t:TypeId}{x:Operand}{q:A->H->Foot->Option R}:type_of% (eR (E:=E) (call:=call) (thaw:=thaw) (dst:=dst) (s:=s) (h:=h) (op:=.unOp op t x) (q:=q) ⟨rfl,rfl⟩):=eR ⟨rfl,rfl⟩
theorem KN{t:TypeId}{x:Operand}{f:Nat}{q:A->H->Foot->Option R}:type_of% (eR (E:=E) (call:=call) (thaw:=thaw) (dst:=dst) (s:=s) (h:=h) (op:=.fieldAddr t x f) (q:=q) ⟨rfl,rfl⟩):=eR ⟨rfl,rfl⟩
theorem QB{x:Operand}{i:Nat}{q:A->H->Foot->Option R}:type_of% (eR (E:=E) (call:=call) (thaw:=thaw) (dst:=dst) (s:=s) (h:=h) (op:=.extract x i) (q:=q) ⟨rfl,rfl⟩):=eR ⟨rfl,rfl⟩
theorem ZT{t:TypeId}{ps:Array (Nat×Operand)}{q:A->H->Foot->Option R}:type_of% (eR (E:=E) (call:=call) (thaw:=thaw) (dst:=dst) (s:=s) (h:=h) (op:=.build t ps) (q:=q) ⟨rfl,rfl⟩):=eR ⟨rfl,rfl⟩
def aGm(a b:Foot):Bool:=(!a.ro&&(!b.ids.isEmpty&&a.wr.any b.ids.contains))||(!b.ro&&(!a.ids.isEmpty&&b.wr.any a.ids.contains))
theorem aMm{l:List Nat}:l.any (([]:List Nat)).contains=false:=by grind
theorem aDl(a b:Foot):aGm a b=kB a b:=by
 obtain⟨ia,ra,wa⟩:=a;obtain⟨ib,rb,wb⟩:=b;unfold aGm kB
 cases ia<;>cases ib<;>simp
def eU(ops:List Oper)(cs:List Foot):Bool:=
 let b:=HL ops []
 (List.range cs.length).all fun j=>(List.range j).all fun i=>(b.getD j 0).testBit i|| !aGm (cs.getD i {}) (cs.getD j {})
theorem aLd{src:List Oper}{cs:List Foot}(h:nK src cs=true):eU src cs=true:=by
 unfold eU;simp only[aDl];exact h
theorem aAl{src:List Oper}{cs:List Foot}{x:Option R}(hc:Shut (eU src cs=true)):(if nK src cs=true then x else none)=x:=if_pos (by
 have:=hc.it;unfold eU at this;simp only[aDl]at this;exact this)
theorem aE1{q:List A->H->Option R}:kOps E call thaw [] s h q=q s h:=rfl
theorem aCY{op:Op}{g:Option (Option Tmp×Bool)}{os:List SO}{q:List A->H->Option R}:kOps E call thaw (⟨dst,op,g⟩::os) s h q=tE g s
  (fun s=>kOp E call thaw dst op s h fun a h'=>match box (aPut s dst a)with|.no=>none|.mk s'=>kOps E call thaw os s' h' q)
  (fun s=>match box (aPut s dst (.d .undef))with|.no=>none|.mk s'=>kOps E call thaw os s' h q):=rfl
theorem aDD{cs:List Foot}{q:List A->H->List Foot->Option R}:uA E call thaw [] s h cs q=q s h cs:=rfl
theorem ZC{op:Op}{g:Option (Option Tmp×Bool)}{os:List SO}{cs:List Foot}{q:List A->H->List Foot->Option R}:uA E call thaw (⟨dst,op,g⟩::os) s h cs q=tE g s
  (fun s=>kOpD E call thaw dst op s h fun a h' c=>match box (aPut s dst a)with|.no=>none|.mk s'=>uA E call thaw os s' h' (cs++[c]) q)
  (fun s=>match box (aPut s dst (.d .undef))with|.no=>none|.mk s'=>uA E call thaw os s' h (cs++[{}]) q):=rfl
section
variable{L nf:Nat}{live:List Bool}{lp:Nat->Code}{q:Exit->List A->H->Option R}
theorem aAO:eJ E call L nf thaw live lp .skip s h q=q .normal s h:=rfl
theorem aDo{l:List SO}:eJ E call L nf thaw live lp (.ops l) s h q=kOps E call thaw l s h fun s h=>q .normal s h:=rfl
theorem VF{l:List SO}{src:Array Oper}:eJ E call L nf thaw live lp (.drawn l src) s h q=uA E call thaw l s h [] fun s h cs=>if nK src.toList cs=true then q .normal s h else none:=rfl
theorem aDm{a b:SC}:eJ E call L nf thaw live lp (.seq a b) s h q=eJ E call L nf thaw live lp a s h fun e s h=>match e with
  |.normal=>eJ E call L nf thaw live lp b s h q
  |e=>q e s h:=rfl
theorem aAG{c:Operand}{x y:SC}:eJ E call L nf thaw live lp (.cond c x y) s h q=kv s c fun a=>match a with
  |.d (.bool b)=>if b=true then eJ E call L nf thaw live lp x s h q else eJ E call L nf thaw live lp y s h q
  |_=>none:=rfl
theorem UQ{id:Nat}{c:SC}:eJ E call L nf thaw live lp (.block id c) s h q=eJ E call L nf thaw live lp c s h fun e s h=>match e with
  |.exit i=>if i=id then q .normal s h else q (.exit i) s h
  |e=>q e s h:=rfl
theorem aBf{i:Nat}:eJ E call L nf thaw live lp (.loop i) s h q=match box (pX live s)with
  |.no=>none
  |.mk m=>match box (gc nf m s h)with
   |.mk (s',h')=>aV E call L nf thaw live (lp i) m L s' h' q
   |.no=>none:=rfl
theorem aAZ{id:Nat}:eJ E call L nf thaw live lp (.exit id) s h q=q (.exit id) s h:=rfl
theorem aCJ:eJ E call L nf thaw live lp .ret s h q=q .ret s h:=rfl
theorem RD{c:Code}{m:List Bool}{n:Nat}:aAB E call L nf thaw live c m n q .normal s h=match box (gc nf m s h)with
  |.mk (s',h')=>aV E call L nf thaw live c m n s' h' q
  |.no=>none:=rfl
theorem aBd{c:Code}{m:List Bool}{n i:Nat}:aAB E call L nf thaw live c m n q (.exit i) s h=match box (gc nf m s h)with
  |.mk (s',h')=>q (.exit i) s' h'
  |.no=>none:=rfl
theorem aDz{c:Code}{m:List Bool}{n:Nat}:aAB E call L nf thaw live c m n q .ret s h=match box (gc nf m s h)with
  |.mk (s',h')=>q .ret s' h'
  |.no=>none:=rfl
end
def aU(E:Env)(call:aW)(h:H)(f:FuncId)(args:List A)(k:A->H->Option R):Option R:=
 match bJ call E.hint (pack h (aC aD h (idsL args) [])) f (aE (aH (aC aD h (idsL args) [])) args)with
 |some (a,h1)=>
  if(aC aD h (idsL args) []).length<=h1.length/\closed h (aC aD h (idsL args) []) (idsL args)=true then
   k (mapA (back (aC aD h (idsL args) []) h.length h1.length) a) (bA (back (aC aD h (idsL args) []) h.length h1.length) h (aC aD h (idsL args) []) h1)
  else none
 |none=>none
theorem aMj{f:FuncId}{args:List Operand}{tys:Array TypeId}:kOp E call thaw dst (.call ⟨.value (.func f),args.toArray,tys⟩) s h k=kvs s args fun vs=>aU E call h f vs k:=by
 unfold kOp kvs aU;simp only[opds,bP,dB]
 cases bP s args with
 |none=>rfl
 |some vs=>
  simp only[tQ,if_true,iP,idsL,idsA,Am,aE,mapA,evOp,fE,fS,dV,Ai]
  cases bJ call E.hint (pack h (aC aD h (idsL vs) [])) f (aE (aH (aC aD h (idsL vs) [])) vs)with
  |none=>rfl
  |some r=>grind
theorem aDF{f:FuncId}{args:List Operand}{tys:Array TypeId}:kOp E call thaw dst (.call ⟨.value (.func f),args.toArray,tys⟩) s h k=kvs s args fun vs=>aU E call h f vs fun a h'=>match box h' with|.no=>none|.mk h''=>k a h'':=by
 rw[aMj];rfl
def F5(E:Env)(call:aW)(h:H)(f:FuncId)(caps args:List A)(k:A->H->Option R):Option R:=
 match bJ call E.hint (pack h (aC aD h (idsL caps++idsL args) [])) f (aE (aH (aC aD h (idsL caps++idsL args) [])) args++aE (aH (aC aD h (idsL caps++idsL args) [])) caps)with
 |some (a,h1)=>
  if(aC aD h (idsL caps++idsL args) []).length<=h1.length/\closed h (aC aD h (idsL caps++idsL args) []) (idsL caps++idsL args)=true then
   k (mapA (back (aC aD h (idsL caps++idsL args) []) h.length h1.length) a) (bA (back (aC aD h (idsL caps++idsL args) []) h.length h1.length) h (aC aD h (idsL caps++idsL args) []) h1)
  else none
 |none=>none
def nE(E:Env)(call:aW)(h:H)(g:A)(args:List A)(k:A->H->Option R):Option R:=
 match g with
 |.d (.fn f caps)=>aU E call h f (args++caps.map .d) k
 |.clo f caps=>F5 E call h f caps args k
 |_=>none
theorem bG:∀(asx bs:List A),idsL (asx++bs)=idsL asx++idsL bs
 | [],bs=>by simp[idsL]
 |a::asx,bs=>by simp[idsL,bG asx bs]
theorem aFg:∀(ds:List D),idsL (ds.map .d)=[]
 | []=>by simp[idsL]
 |d::ds=>by simp[idsL,idsA,aFg ds]
theorem c8{f:Nat->Option Nat}:∀(asx bs:List A),aE f (asx++bs)=aE f asx++aE f bs
 | [],bs=>by simp[aE]
 |a::asx,bs=>by simp[aE,c8 asx bs]
theorem aBP{f:Nat->Option Nat}:∀(ds:List D),aE f (ds.map .d)=ds.map .d
 | []=>by simp[aE]
 |d::ds=>by simp[aE,mapA,aBP ds]
theorem aK3{g:A}{vs:List A}{tys:Array TypeId}{x:Operand}{args:Array Operand}:(match iP E call thaw h (dV dst (.call ⟨.value x,args,tys⟩)) (g::vs)with
   |some (a,h',_)=>k a h'
   |none=>none)=nE E call h g vs k:=by
 unfold iP;simp only[evOp,fE,dV,aE]
 cases g with
 |d y=>
  cases y with
  |fn f caps=>
   simp only[nE,aU,mapA,fS,idsL,idsA,Am,bG,aFg,Ai,c8,aBP]
   cases bJ call E.hint (pack h (aC aD h (idsL vs) [])) f (aE (aH (aC aD h (idsL vs) [])) vs++caps.map .d)with
   |none=>rfl
   |some r=>grind
  |_=>simp only[nE,mapA,fS]
 |clo f caps=>
  simp only[nE,F5,mapA,fS,idsL,idsA]
  cases bJ call E.hint (pack h (aC aD h (idsL caps++idsL vs) [])) f (aE (aH (aC aD h (idsL caps++idsL vs) [])) vs++aE (aH (aC aD h (idsL caps++idsL vs) [])) caps)with
  |none=>rfl
  |some r=>grind
 |sl id gen off len=>
  simp only[nE,mapA]
  cases aH (aC aD h (idsL (A.sl id gen off len::vs)) []) id<;>rfl
 |ptr id gen off=>
  simp only[nE,mapA]
  cases aH (aC aD h (idsL (A.ptr id gen off::vs)) []) id<;>rfl
 |mp id=>
  simp only[nE,mapA]
  cases aH (aC aD h (idsL (A.mp id::vs)) []) id<;>rfl
 |agg cs=>simp only[nE,mapA,fS]
 |tup cs=>simp only[nE,mapA,fS]
 |junk=>simp only[nE,mapA,fS]
theorem aDx{t:Nat}{args:List Operand}{tys:Array TypeId}:kOp E call thaw dst (.call ⟨.value (.tmp t),args.toArray,tys⟩) s h k=match box (s.getD t (.d .undef))with
  |.no=>none
  |.mk g=>kvs s args fun vs=>nE E call h g vs k:=by
 unfold kOp kvs;simp only[opds,bP,dB,box]
 cases bP s args with
 |none=>rfl
 |some vs=>simp only[tQ,if_true];exact aK3
theorem aDv{f:FuncId}{caps:List D}{vs:List A}:nE E call h (.d (.fn f caps)) vs k=match box (vs++caps.map .d)with|.no=>none|.mk as'=>aU E call h f as' k:=rfl
theorem aBa{f:FuncId}{caps vs:List A}:nE E call h (.clo f caps) vs k=F5 E call h f caps vs k:=rfl
theorem YA{h:H}{ids:List Nat}{h1:H}{ord:List Nat}:∀(ord:List Nat) (h h1:H) (f:Nat->Option Nat),ord.length<=h1.length->(bA f h ord h1).length=h.length+(h1.length-ord.length)
 | [],h,h1,f,_=>by simp[bA]
 |i::ord,h,[],f,hl=>by simp at hl
 |i::ord,h,o::h1,f,hl=>by
  simp only[bA,YA (h:=h) (ids:=ids) (h1:=h1) (ord:=ord) ord _ h1 f (by simpa using hl),Be,Ac];omega
def wrC(E:Env)(f:FuncId)(ord:List Nat):List Nat:=if(E.hint f).mode==3 then []else ord
def IM(E:Env)(f:FuncId)(h h':H)(ord:List Nat):Option (H×Foot):=if((E.hint f).mode==1&&h'.length-h.length==0)=true then some (h,{ ids:=ord,ro:=true})else some (h',{ ids:=ord++List.range' h.length (h'.length-h.length),ro:=false,wr:=wrC E f ord++List.range' h.length (h'.length-h.length)})
theorem aJu{f:FuncId}{args:List Operand}{tys:Array TypeId}{q:A->H->Foot->Option R}:kOpD E call thaw dst (.call ⟨.value (.func f),args.toArray,tys⟩) s h q=kvs s args fun vs=>match box (aC aD h (idsL vs) [])with
  |.no=>none
  |.mk ord=>aU E call h f vs fun a h'=>if((E.hint f).mode==1&&h'.length-h.length==0)=true then q a h { ids:=ord,ro:=true}else q a h' { ids:=ord++List.range' h.length (h'.length-h.length),ro:=false,wr:=wrC E f ord++List.range' h.length (h'.length-h.length)}:=by
 unfold kOpD kvs aU;simp only[opds,bP,dB,box]
 cases bP s args with
 |none=>rfl
 |some vs=>
  simp only[oU,pK,Aj,if_false,iP,idsL,idsA,Am,aE,mapA,evOp,fE,fS,dV,Ai,hZ]
  cases bJ call E.hint (pack h (aC aD h (idsL vs) [])) f (aE (aH (aC aD h (idsL vs) [])) vs)with
  |none=>rfl
  |some r=>
   obtain⟨a,h1⟩:=r
   by_cases c1:(aC aD h (idsL vs) []).length<=h1.length
   ·by_cases c2:closed h (aC aD h (idsL vs) []) (idsL vs)=true
    ·have e:=YA (h:=h) (ids:=idsL vs) (h1:=h1) (ord:=[]) (aC aD h (idsL vs) []) h h1 (back (aC aD h (idsL vs) []) h.length h1.length) c1;have e2:(bA (back (aC aD h (idsL vs) []) h.length h1.length) h (aC aD h (idsL vs) []) h1).length-h.length=h1.length-(aC aD h (idsL vs) []).length:=om;simp only[c1,c2,and_self,if_true,e2]
     first|done|rfl|(by_cases c3:((E.hint f).mode==1&&h1.length-(aC aD h (idsL vs) []).length==0)=true<;>simp[c3])
    ·grind
   ·grind
theorem SP{f:FuncId}{args:List Operand}{tys:Array TypeId}{q:A->H->Foot->Option R}:kOpD E call thaw dst (.call ⟨.value (.func f),args.toArray,tys⟩) s h q=kvs s args fun vs=>match box (aC aD h (idsL vs) [])with
  |.no=>none
  |.mk ord=>aU E call h f vs fun a h'=>match box (IM E f h h' ord)with|.mk (some (h'',c))=>q a h'' c|_=>none:=by
 rw[aJu]
 congr 1
 funext vs
 simp only[box]
 congr 1
 funext a h'
 unfold IM
 by_cases hc:((E.hint f).mode==1&&h'.length-h.length==0)=true
 ·grind
 ·grind
theorem aHW{t:Nat}{args:List Operand}{tys:Array TypeId}{q:A->H->Foot->Option R}{f:FuncId}{caps:List D}(hg:Now (s.getD t (.d .undef)=.d (.fn f caps))):kOpD E call thaw dst (.call ⟨.value (.tmp t),args.toArray,tys⟩) s h q=kvs s args fun vs=>match box (aC aD h (idsL vs) [])with
  |.no=>none
  |.mk ord=>aU E call h f (vs++caps.map .d) fun a h'=>if((E.hint f).mode==1&&h'.length-h.length==0)=true then q a h { ids:=ord,ro:=true}else q a h' { ids:=ord++List.range' h.length (h'.length-h.length),ro:=false,wr:=wrC E f ord++List.range' h.length (h'.length-h.length)}:=by
 have hg:=hg.it;unfold kOpD kvs aU;simp only[opds,bP,dB,box,hg]
 cases bP s args with
 |none=>rfl
 |some vs=>
  simp only[oU,pK,Aj,if_false,iP,idsL,idsA,Am,aE,mapA,evOp,fE,fS,dV,Ai,hZ,bG,aFg,c8,aBP]
  cases bJ call E.hint (pack h (aC aD h (idsL vs) [])) f (aE (aH (aC aD h (idsL vs) [])) vs++caps.map .d)with
  |none=>rfl
  |some r=>
   obtain⟨a,h1⟩:=r
   by_cases c1:(aC aD h (idsL vs) []).length<=h1.length
   ·by_cases c2:closed h (aC aD h (idsL vs) []) (idsL vs)=true
    ·have e:=YA (h:=h) (ids:=idsL vs) (h1:=h1) (ord:=[]) (aC aD h (idsL vs) []) h h1 (back (aC aD h (idsL vs) []) h.length h1.length) c1;have e2:(bA (back (aC aD h (idsL vs) []) h.length h1.length) h (aC aD h (idsL vs) []) h1).length-h.length=h1.length-(aC aD h (idsL vs) []).length:=om;simp only[c1,c2,and_self,if_true,e2]
     first|done|rfl|(by_cases c3:((E.hint f).mode==1&&h1.length-(aC aD h (idsL vs) []).length==0)=true<;>simp[c3])
    ·grind
   ·grind
def aPp(E:Env)(call:aW)(thaw:List Nat)(dst:Option Tmp)(op:Op)(s:List A)(h:H)(q:A->H->Foot->Option R):Option R:=kOpD E call thaw dst op s h q
theorem aAE{t:Nat}{args:List Operand}{tys:Array TypeId}{q:A->H->Foot->Option R}:kOpD E call thaw dst (.call ⟨.value (.tmp t),args.toArray,tys⟩) s h q=match box (s.getD t (.d .undef))with
  |.mk (.d (.fn f caps))=>kvs s args fun vs=>match box (aC aD h (idsL vs) [])with
   |.no=>none
   |.mk ord=>match box (vs++caps.map .d)with|.no=>none|.mk as'=>aU E call h f as' fun a h'=>match box (IM E f h h' ord)with|.mk (some (h'',c))=>q a h'' c|_=>none
  |.mk (.clo f [])=>kvs s args fun vs=>match box (aC aD h (idsL vs) [])with
   |.no=>none
   |.mk ord=>aU E call h f vs fun a h'=>match box (IM E f h h' ord)with|.mk (some (h'',c))=>q a h'' c|_=>none
  |_=>aPp E call thaw dst (.call ⟨.value (.tmp t),args.toArray,tys⟩) s h q:=by
 have key:=fun(f:FuncId) (caps:List D) hg=>aHW (E:=E) (call:=call) (thaw:=thaw) (dst:=dst) (s:=s) (h:=h) (t:=t) (args:=args) (tys:=tys) (q:=q) (f:=f) (caps:=caps) hg
 have k2:∀f,s.getD t (.d .undef)=.clo f []->kOpD E call thaw dst (.call ⟨.value (.tmp t),args.toArray,tys⟩) s h q=kOpD E call thaw dst (.call ⟨.value (.func f),args.toArray,tys⟩) s h q:=by
  intro f hg;unfold kOpD kvs;simp only[opds,bP,dB,hg]
  cases bP s args<;>rfl
 have fold:∀(f:FuncId) (h h':H) (ord:List Nat) (a:A),(if((E.hint f).mode==1&&h'.length-h.length==0)=true then q a h { ids:=ord,ro:=true}else q a h' { ids:=ord++List.range' h.length (h'.length-h.length),ro:=false,wr:=wrC E f ord++List.range' h.length (h'.length-h.length)})=match box (IM E f h h' ord)with|.mk (some (h'',c))=>q a h'' c|_=>none:=by
  intro f h h' ord a;unfold IM
  by_cases hc:((E.hint f).mode==1&&h'.length-h.length==0)=true
  ·simp only[if_pos hc,box]
  ·simp only[if_neg hc,box]
 generalize hs:s.getD t (.d .undef)=a
 cases a with
 |d x=>
  cases x with
  |fn f caps=>
   rw[key f caps ⟨hs⟩];simp only[fold]<;>rfl
  |_=>rfl
 |clo f caps=>
  cases caps with
  |nil=>rw[k2 f hs];exact SP
  |cons c caps=>rfl
 |_=>rfl
theorem EC(n:Nat)(h:H):aC n h [] []=[]:=by cases n<;>rfl
mutual
theorem nL{f:Nat->Option Nat}:∀a:A,idsA a=[]->mapA f a=a
 |.d x,_=>by simp only[mapA]
 |.sl id gen off len,h=>by simp[idsA]at h
 |.ptr id gen off,h=>by simp[idsA]at h
 |.mp id,h=>by simp[idsA]at h
 |.clo g caps,h=>by simp only[idsA]at h;simp only[mapA];rw[gG caps h]
 |.agg cs,h=>by simp only[idsA]at h;simp only[mapA];rw[gG cs h]
 |.tup cs,h=>by simp only[idsA]at h;simp only[mapA];rw[gG cs h]
 |.junk,_=>by simp only[mapA]
theorem gG{f:Nat->Option Nat}:∀asx:List A,idsL asx=[]->aE f asx=asx
 | [],_=>by simp only[aE]
 |a::asx,h=>by
  simp only[idsL,List.append_eq_nil_iff]at h;simp only[aE];rw[nL a h.1,gG asx h.2]
end
theorem aLs{a:A}(h:wO a=true):idsA a=[]:=by
 cases a with
 |d x=>rfl
 |agg cs=>
  simp only[wO]at h;simp only[idsA]
  induction cs with
  |nil=>rfl
  |cons c cs ih=>
   simp only[Bt,Ap]at h;simp only[idsL,ih h.2,Ai]
   cases c<;>first|rfl|simp[isD]at h
 |_=>simp[wO]at h
theorem x8:∀ {asx:List A},asx.all wO=true->idsL asx=[]
 | [],_=>rfl
 |a::asx,h=>by
  simp only[Bt,Ap]at h;simp only[idsL,aLs h.1,x8 h.2,Ai]
theorem ZM{h:H}:∀ {cs:List A},cs.all isD=true->∃ds,frzL h cs=some (ds,h)/\ds.map .d=cs
 | [],_=>⟨[],rfl,rfl⟩
 |c::cs,hs=>by
  simp only[Bt,Ap]at hs;obtain⟨ds,h1,h2⟩:=ZM (h:=h) hs.2
  cases c with
  |d x=>
   refine⟨x::ds,?_,by simp[h2]⟩;unfold frzL at h1|-;simp only[eS];have:frz deep h (.d x)=some (x,h):=rfl;rw[this];simp only[h1]
  |_=>simp[isD]at hs
theorem AB{h:H}:∀ {asx:List A},asx.all wO=true->fA h asx=some (asx,h)
 | [],_=>rfl
 |a::asx,hs=>by
  simp only[Bt,Ap]at hs
  have ha:frzA h a=some (a,h):=by
   cases a with
   |d x=>rfl
   |agg cs=>
    obtain⟨ds,h1,h2⟩:=ZM (h:=h) (cs:=cs) (by simpa only[wO]using hs.1);simp only[frzA,h1,h2]
   |_=>simp[wO]at hs
  simp only[fA,ha,AB hs.2]
theorem aHy{r:A}(h:iC r=true):oR r=true/\mapA (fun k=>back [] 0 0 k) r=r:=by
 cases r with
 |d x=>cases x<;>first|exact⟨rfl,rfl⟩|simp[iC]at h
 |tup vs=>
  simp only[iC]at h
  have key:kL vs=true/\aE (fun k=>back [] 0 0 k) vs=vs:=by
   induction vs with
   |nil=>exact⟨rfl,by simp only[aE]⟩
   |cons v vs ih=>
    simp only[Bt,Ap]at h;obtain⟨i1,i2⟩:=ih h.2
    cases v with
    |d x=>cases x<;>first|(exfalso;simp at h;done)|(refine⟨by simp only[kL,oR,wK,i1,Bm],by simp only[aE,mapA,i2]⟩)
    |_=>grind
  exact⟨by simp only[oR];exact key.1,by simp only[mapA,key.2]⟩
 |_=>simp[iC]at h
theorem aHk{f:FuncId}{args:List A}{r:A}(hs:args.all wO=true)(hc:call f args []=some (r,[]))(hp:iC r=true\/((E.hint f).mode==1||(E.hint f).mode==3)=false):bJ call E.hint [] f args=some (r,[]):=by
 unfold bJ
 split
 ·exact hc
 ·rename_i hm
  rw[AB hs];simp only[hc]
  rcases hp with hp|hp
  ·rw[hp];rfl
  ·grind
 ·rename_i hm
  rw[AB hs];simp only[hc]
  rcases hp with hp|hp
  ·obtain⟨h1,h2⟩:=aHy hp;rw[h1];exact congrArg (fun x=>some (x,([]:H))) h2
  ·grind
 ·rw[AB hs];simp only[hc]
theorem cW{f:FuncId}{args:List A}{r:A}(hs:args.all wO=true)(hc:call f args []=some (r,[]))(hr:idsA r=[])(hp:iC r=true\/((E.hint f).mode==1||(E.hint f).mode==3)=false):aU E call h f args k=k r h:=by
 unfold aU;rw[x8 hs,EC,gG _ (x8 hs)];have:pack h []=[]:=rfl;rw[this,aHk hs hc hp];simp only[Aa,Ad,true_and,closed,Ce,Bm,if_true,nL r hr,bA,Ak,Ai]
def uI(call:aW)(f:FuncId)(args:List A)(k:A->Option R):Option R:=
 match call f args []with
 |some (r,[])=>if iC r=true then k r else none
 |_=>none
theorem uU{f:FuncId}{args:List A}{r:A}{k:A->Option R}(hc:call f args []=some (r,[]))(hp:iC r=true):uI call f args k=k r:=by
 unfold uI;rw[hc];simp only[hp,if_true]
theorem aKV{r:A}(h:iC r=true):idsA r=[]:=by
 cases r with
 |d x=>rfl
 |tup vs=>
  simp only[iC]at h;simp only[idsA]
  induction vs with
  |nil=>rfl
  |cons v vs ih=>
   simp only[Bt,Ap]at h;simp only[idsL,ih h.2,Ai]
   cases v with
   |d x=>rfl
   |_=>grind
 |_=>simp[iC]at h
theorem aCR(ord:List Nat)(n:Nat):back ord n ord.length=fun k=>ord[k]?:=by
 funext k
 unfold back
 split
 ·rfl
 ·grind
theorem aFw{h:H}{ord ids:List Nat}(hc:closed h ord ids=true)(hn:ord.Nodup)(hl:∀i∈ord,i<h.length):bA (fun(k:Nat)=>ord[k]?) h ord (pack h ord)=h:=by
 apply Cn;intro id;rw[AC _ ord h _ id hn hl (by simp[pack])]
 cases hp:aH ord id with
 |none=>
  simp only[]
  split
  ·rfl
  ·rename_i hge
   rw[Cj (by simp[pack]),Cj om];rfl
 |some k=>
  simp only[];have hm:=I7 hp;obtain⟨o,ho⟩:∃o,h[id]? =some o:=⟨h[id]'(hl id hm),Ae _⟩
  rw[iI (a9 hp) ho,ho,Ax,RA hc hm ho]
theorem aHH{f:FuncId}{args:List A}(hm:(E.hint f).mode=1):aU E call h f args k=match box (aC aD h (idsL args) [])with
  |.no=>none
  |.mk ord=>match box (fA (pack h ord) (aE (aH ord) args))with
   |.mk (some (fs,_))=>if closed h ord (idsL args)=true then uI call f fs fun r=>k r h else none
   |_=>none:=by
 unfold aU bJ;rw[hm];simp only[box]
 cases hf:fA (pack h (aC aD h (idsL args) [])) (aE (aH (aC aD h (idsL args) [])) args)with
 |none=>rfl
 |some r=>
  obtain⟨fs,h1⟩:=r;simp only[uI]
  cases hc:call f fs []with
  |none=>simp
  |some r=>
   obtain⟨a,h2⟩:=r
   cases h2 with
   |cons o h2=>simp
   |nil=>
    by_cases hp:iC a=true
    ·simp only[hp,if_true];have hlen:(pack h (aC aD h (idsL args) [])).length=(aC aD h (idsL args) []).length:=by simp[pack]
     simp only[hlen,Ad,true_and]
     by_cases hcl:closed h (aC aD h (idsL args) []) (idsL args)=true
     ·simp only[hcl,if_true,aCR,nL a (aKV hp)];rw[aFw hcl (bO aD h (idsL args) [] sm) (jY aD h (idsL args) [] sm)]
     ·grind
    ·grind
def aA2(h:H)(args:List A):Option (List A):=match box (aC aD h (idsL args) [])with
 |.no=>none
 |.mk ord=>match box (fA (pack h ord) (aE (aH ord) args))with
  |.mk (some (fs,_))=>if closed h ord (idsL args)=true then some fs else none
  |_=>none
theorem d7{f:FuncId}{args:List A}(hm:(E.hint f).mode=1):aU E call h f args k=match box (aA2 h args)with
  |.mk (some fs)=>uI call f fs fun r=>k r h
  |_=>none:=by
 rw[aHH hm];unfold aA2;simp only[box]
 cases fA (pack h (aC aD h (idsL args) [])) (aE (aH (aC aD h (idsL args) [])) args)with
 |none=>rfl
 |some r=>grind
theorem aIl{nf:Nat}{h:H}{ord:List Nat}{s:List A}:trim nf h ord s=match box (pack h ord)with
  |.mk p=>(aP nf p (aE (aH ord) s),cK nf p)
  |.no=>([],[]):=rfl
theorem aN4{nf:Nat}{m:List Bool}{s:List A}{h:H}:gc nf m s h=match box (tidy m s)with
  |.mk s1=>match box (dK nf h (idsL s1))with
   |.mk ord=>trim nf h ord s1
   |.no=>([],[])
  |.no=>([],[]):=rfl
theorem aIo{P:Program}{nf:Nat}{exp:Bool}{rs:List ResultVar}{e:Exit}{s:List A}{h:H}:kFin P nf exp rs e s h=
  if lM e then(match kR P s h rs with
   |some rs=>match nU nf exp h rs with
    |some (xs,h2)=>match box (dK nf h2 (idsL xs))with
     |.mk ord=>match box (trim nf h2 ord xs)with
      |.mk r=>some (tupA r.1,r.2)
      |.no=>none
     |.no=>none
    |none=>none
   |none=>none)else none:=rfl
theorem rN(nf:Nat)(h:H)(ids:List Nat):dK nf h ids=aC 1099511627776 h (fU (h.take nf)++ids) (List.range nf):=rfl
theorem rng0:List.range 0=[]:=rfl
theorem rng1:List.range 1=[0]:=rfl
theorem rng2:List.range 2=[0,1]:=rfl
theorem S2(h:H)(ids:List Nat):dK 0 h ids=aC 1099511627776 h ids []:=by
 unfold dK;rfl
theorem vU(n:Nat)(h:H)(acc:List Nat):aC n h [] acc=acc:=by cases n<;>rfl
theorem oI(n:Nat)(h:H)(i:Nat)(todo acc:List Nat):aC (n+1) h (i::todo) acc=if acc.contains i=true then aC n h todo acc
  else match h.getD i .void with
   |.box cs=>aC n h (todo++idsL cs) (acc++[i])
   |.vec cs _ _=>aC n h (todo++idsL cs) (acc++[i])
   |.void=>aC n h todo acc
   |_=>aC n h todo (acc++[i]):=by
 simp only[aC,Ab]
 split
 ·rfl
 ·grind
theorem aFc{α:Type}{c:Prop}[Decidable c]{a:α}(hc:c):(if c then some a else none)=some a:=if_pos hc
def iAnd(k:IntKind)(a b:Int):Int:=k.wrap (BitVec.ofInt k.bits a&&&BitVec.ofInt k.bits b).toNat
def iOr(k:IntKind)(a b:Int):Int:=k.wrap (BitVec.ofInt k.bits a|||BitVec.ofInt k.bits b).toNat
def iXor(k:IntKind)(a b:Int):Int:=k.wrap (BitVec.ofInt k.bits a^^^BitVec.ofInt k.bits b).toNat
section
variable{t:TypeId}{K:IntKind}{a b:Int}
theorem aCz:cH E .add t h (.d (.int K a)) (.d (.int K b))=some (.d (.int K (K.wrap (a+b))),h):=by simp[cH,aBin];rfl
theorem aCO:cH E .sub t h (.d (.int K a)) (.d (.int K b))=some (.d (.int K (K.wrap (a-b))),h):=by simp[cH,aBin];rfl
theorem aCQ:cH E .mul t h (.d (.int K a)) (.d (.int K b))=some (.d (.int K (K.wrap (a*b))),h):=by simp[cH,aBin];rfl
theorem aDI:cH E .and t h (.d (.int K a)) (.d (.int K b))=some (.d (.int K (iAnd K a b)),h):=by simp[cH,aBin];rfl
theorem aFL:cH E .or t h (.d (.int K a)) (.d (.int K b))=some (.d (.int K (iOr K a b)),h):=by simp[cH,aBin];rfl
theorem aC6:cH E .xor t h (.d (.int K a)) (.d (.int K b))=some (.d (.int K (iXor K a b)),h):=by simp[cH,aBin];rfl
theorem aDG:cH E .lss t h (.d (.int K a)) (.d (.int K b))=some (.d (.bool (decide (a<b))),h):=by simp[cH,aBin]
theorem aCt:cH E .leq t h (.d (.int K a)) (.d (.int K b))=some (.d (.bool (decide (a<=b))),h):=by simp[cH,aBin]
theorem aDC:cH E .gtr t h (.d (.int K a)) (.d (.int K b))=some (.d (.bool (decide (b<a))),h):=by simp[cH,aBin]
theorem aDV:cH E .geq t h (.d (.int K a)) (.d (.int K b))=some (.d (.bool (decide (b<=a))),h):=by simp[cH,aBin]
theorem aDW:cH E .eql t h (.d (.int K a)) (.d (.int K b))=some (.d (.bool (decide (a=b))),h):=by simp[cH,aBin];rfl
theorem aDp:cH E .neq t h (.d (.int K a)) (.d (.int K b))=some (.d (.bool (!decide (a=b))),h):=by simp[cH,aBin];rfl
theorem aDE(hb:b≠0):cH E .quo t h (.d (.int K a)) (.d (.int K b))=some (.d (.int K (K.wrap (a.tdiv b))),h):=by simp[cH,aBin,hb]
theorem aDy(hb:b≠0):cH E .rem t h (.d (.int K a)) (.d (.int K b))=some (.d (.int K (a.tmod b)),h):=by simp[cH,aBin,hb]
theorem aCG{K2:IntKind}(hb:0<=b):cH E .shl t h (.d (.int K a)) (.d (.int K2 b))=some (.d (.int K (K.wrap (a*2^(min b.toNat K.bits)))),h):=by
 have:¬b<0:=om;simp[cH,aBin,Op.shift,this];rfl
theorem aCr{K2:IntKind}(hb:0<=b):cH E .shr t h (.d (.int K a)) (.d (.int K2 b))=some (.d (.int K (a.fdiv (2^(min b.toNat K.bits)))),h):=by
 have:¬b<0:=om;simp[cH,aBin,Op.shift,this];rfl
theorem aIf{b:Bool}:aUn .not (.d (.bool b))=some (.d (.bool (!b))):=rfl
end
end
theorem WD:type_of% (AI @aAO (AI @aDo (AI @VF (AI @aDm (AI @aAG (AI @UQ (AI @aBf (AI @aAZ (AI @aCJ (AI @aE1 (AI @aCY (AI @aDD (AI @ZC (AI @U6 (AI @VC (AI @aKw (AI @aLA (AI @aH8 (AI @aKm (AI @aH3 (AI @aIA (AI @aIB (AI @aIG (AI @aG8 (AI @aEW (AI @MB (AI @F8 (AI @aIe (AI @aKK (AI @aGO (AI @QJ (AI @aFi (AI @aG2 (AI @aC2 (AI @aCF (AI @aIL (AI @aDH (AI @K0 (AI @Q4 (AI @N7 (AI @WF (AI @WE (AI @O2 (AI @PH (AI @UO (AI @VS (AI @aDF (AI @aIo (AI @RD (AI @aBd @aDz)))))))))))))))))))))))))))))))))))))))))))))))))):=
 ⟨@aAO,@aDo,@VF,@aDm,@aAG,@UQ,@aBf,@aAZ,@aCJ,@aE1,@aCY,@aDD,@ZC,@U6,@VC,@aKw,@aLA,@aH8,@aKm,@aH3,@aIA,@aIB,@aIG,@aG8,@aEW,@MB,@F8,@aIe,@aKK,@aGO,@QJ,@aFi,@aG2,@aC2,@aCF,@aIL,@aDH,@K0,@Q4,@N7,@WF,@WE,@O2,@PH,@UO,@VS,@aDF,@aIo,@RD,@aBd,@aDz⟩
theorem WDD:type_of% (AI @aCX (AI @YZ (AI @UU (AI @ZB (AI @HU (AI @aCE (AI @KU (AI @YK (AI @LR (AI @UM (AI @aFx (AI @aDu (AI @aDs (AI @OL (AI @aGg (AI @aIN (AI @KN (AI @QB (AI @ZT (AI @SP (AI @aDx (AI @aDv @aBa)))))))))))))))))))))):=
 ⟨@aCX,@YZ,@UU,@ZB,@HU,@aCE,@KU,@YK,@LR,@UM,@aFx,@aDu,@aDs,@OL,@aGg,@aIN,@KN,@QB,@ZT,@SP,@aDx,@aDv,@aBa⟩
theorem WK0:type_of% (AI @aKT (AI @aIf (AI @aCz (AI @aCO (AI @aCQ (AI @aDI (AI @aFL (AI @aC6 (AI @aDE (AI @aDy (AI @aCG (AI @aCr (AI @aDG (AI @aCt (AI @aDC (AI @aDV (AI @aDW (AI @aDp (AI @List.getD_nil.{0} (AI @Ci.{0} (AI @Bk.{0} (AI @aN4 @aIl)))))))))))))))))))))):=
 ⟨@aKT,@aIf,@aCz,@aCO,@aCQ,@aDI,@aFL,@aC6,@aDE,@aDy,@aCG,@aCr,@aDG,@aCt,@aDC,@aDV,@aDW,@aDp,@List.getD_nil.{0},@Ci.{0},@Bk.{0},@aN4,@aIl⟩
theorem WK1:type_of% (AI @Dg (AI @Bool.not_false (AI @Bool.true_eq_false (AI @decide_eq_true_eq (AI @decide_eq_false_iff_not (AI @Ax.{0,0} (AI @decide_true (AI @decide_false (AI @aFc (AI @By (AI @Nat.one_mul (AI @Ay.{0} (AI @Bt.{0} (AI @Ce.{0} (AI @Bm (AI @Bool.and_true @Cu)))))))))))))))):=
 ⟨@Dg,@Bool.not_false,@Bool.true_eq_false,@decide_eq_true_eq,@decide_eq_false_iff_not,@Ax.{0,0},@decide_true,@decide_false,@aFc,@By,@Nat.one_mul,@Ay.{0},@Bt.{0},@Ce.{0},@Bm,@Bool.and_true,@Cu⟩
theorem WK2:type_of% (AI @Bn (AI @Ca (AI @List.zip_cons_cons.{0,0} (AI @List.zip_nil_left.{0,0} (AI @List.flatten_cons.{0} (AI @List.flatten_nil.{0} (AI @List.take_zero.{0} (AI @List.take_nil.{0} (AI @List.drop_nil.{0} (AI @Bool.or_self (AI @Bool.or_false (AI @Cb (AI @and_self (AI @and_true (AI @true_and (AI @Bool.or_true (AI @Bool.true_or (AI @Dh.{0} (AI @Ds.{0} (AI @Nat.lt_irrefl (AI @List.head?_cons.{0} (AI @List.contains_cons.{0} (AI @List.contains_nil.{0} @rN))))))))))))))))))))))):=
 ⟨@Bn,@Ca,@List.zip_cons_cons.{0,0},@List.zip_nil_left.{0,0},@List.flatten_cons.{0},@List.flatten_nil.{0},@List.take_zero.{0},@List.take_nil.{0},@List.drop_nil.{0},@Bool.or_self,@Bool.or_false,@Cb,@and_self,@and_true,@true_and,@Bool.or_true,@Bool.true_or,@Dh.{0},@Ds.{0},@Nat.lt_irrefl,@List.head?_cons.{0},@List.contains_cons.{0},@List.contains_nil.{0},@rN⟩
theorem WK3:type_of% (AI @rng0 (AI @rng1 (AI @rng2 (AI @Option.isNone_none.{0} (AI @Option.isNone_some.{0} (AI @Option.isSome_none.{0} (AI @Option.isSome_some.{0} (AI @vU (AI @oI (AI @beq_self_eq_true.{0} (AI @Nat.succ_ne_self (AI @Nat.zero_ne_one (AI @Ah.{0} (AI @or_false (AI @or_true @Cv.{0}))))))))))))))):=
 ⟨@rng0,@rng1,@rng2,@Option.isNone_none.{0},@Option.isNone_some.{0},@Option.isSome_none.{0},@Option.isSome_some.{0},@vU,@oI,@beq_self_eq_true.{0},@Nat.succ_ne_self,@Nat.zero_ne_one,@Ah.{0},@or_false,@or_true,@Cv.{0}⟩
theorem WK:type_of% (AI @WK0 (AI @WK1 (AI @WK2 @WK3))):=
 ⟨@WK0,@WK1,@WK2,@WK3⟩
section
variable{E:Env}{vs:List A}{t u:TypeId}{x y:Operand}
theorem VL:hZ E (.convert t u x) vs=(cR E.P u).isNone:=rfl
theorem OT{a:Array Operand}{b:Array TypeId}:hZ E (.call ⟨.builtin .append,a,b⟩) vs=false:=rfl
theorem R6:hZ E (.alloc t) vs=false:=rfl
theorem OG:hZ E (.assign x) vs=false:=rfl
theorem QU:hZ E (.store t x y) vs=false:=rfl
theorem aCV{n:Nat}{ps:Array (Nat×Operand)}:hZ E (.buildSlice t n ps) vs=false:=rfl
theorem aCN:hZ E (.makeSlice t x y) vs=false:=rfl
theorem aAX:opds (.alloc t)=[]:=rfl
end
theorem UNx5:type_of% (fun v0 v1 v2 v3=> @outA.eq_2 v0 v1 v2 (A.d v3) nfn):=by intros;rfl
theorem UNx6:type_of% (fun v0 v1 v2 v3 v4 v5 v6=> @outA.eq_2 v0 v1 v2 (A.sl v3 v4 v5 v6) nfn):=by intros;rfl
theorem UNx7:type_of% (fun v0 v1 v2 v3 v4 v5=> @outA.eq_2 v0 v1 v2 (A.ptr v3 v4 v5) nfn):=by intros;rfl
theorem aNP:type_of% (fun v0 v1 v2 v3 v4=> @outS.eq_2 v0 v1 v2 (D.int v3 v4) nfn):=by intros;rfl
theorem aNE:type_of% (fun v0 v1 v2 v3=> @outS.eq_2 v0 v1 v2 (D.bool v3) nfn):=by intros;rfl
theorem aNH:type_of% (fun v0 v1 v2 v3=> @outS.eq_2 v0 v1 v2 (D.str v3) nfn):=by intros;rfl
theorem aN3:type_of% (fun v0 v1 v2 v3 v4=> @outS.eq_2 v0 v1 v2 (D.ivs v3 v4) nfn):=by intros;rfl
theorem aNJ:type_of% (fun v0 v1=> @fP.eq_3 (A.d (D.int v0 v1)) nfn nfn):=by intros;rfl
theorem aNL:type_of% (fun v0=> @fP.eq_3 (A.d (D.bool v0)) nfn nfn):=by intros;rfl
theorem aNS:type_of% (fun v0=> @fP.eq_3 (A.d (D.str v0)) nfn nfn):=by intros;rfl
theorem aNY:type_of% (fun v0 v1=> @fP.eq_3 (A.d (D.ivs v0 v1)) nfn nfn):=by intros;rfl
theorem aNR:type_of% (@fP.eq_3 (A.d D.nils) nfn nfn):=(@fP.eq_3 (A.d D.nils) nfn nfn)
theorem aN5:type_of% (fun v0=> @fP.eq_3 (A.d (D.iptr v0)) nfn nfn):=by intros;rfl
theorem aNA:type_of% (@fP.eq_3 (A.d D.nilp) nfn nfn):=(@fP.eq_3 (A.d D.nilp) nfn nfn)
theorem aNZ:type_of% (fun v0 v1=> @fP.eq_3 (A.d (D.fn v0 v1)) nfn nfn):=by intros;rfl
theorem aN1:type_of% (fun v0 v1 v2 v3=> @fP.eq_3 (A.sl v0 v1 v2 v3) nfn nfn):=by intros;rfl
theorem aND:type_of% (fun v0 v1 v2=> @fP.eq_3 (A.ptr v0 v1 v2) nfn nfn):=by intros;rfl
theorem aNM:type_of% (fun v0 v1=> @fP.eq_3 (A.clo v0 v1) nfn nfn):=by intros;rfl
theorem aNC:type_of% (fun v0=> @tidy.eq_3 List.nil v0 nfn nfn):=by intros;rfl
theorem aNQ:type_of% (fun v0 v1 v2 v3 v4=> @cU.eq_2 v0 v1 v2 v3 (A.d v4) nfn):=by intros;rfl
theorem aNT:type_of% (fun v0 v1 v2 v3 v4 v5 v6 v7=> @cU.eq_2 v0 v1 v2 v3 (A.sl v4 v5 v6 v7) nfn):=by intros;rfl
theorem aN6:type_of% (fun v0 v1=> @TO.eq_2 v0 (A.d v1) nfn):=by intros;rfl
theorem aNN:type_of% (fun v0 v1 v2=> @frz.eq_5 v0 (A.d v2) v1 nfn nfn nfn):=by intros;rfl
theorem aN7:type_of% (fun v0=> @aT.eq_2 (A.d v0) nfn):=by intros;rfl
theorem aN0:type_of% (fun v0 v1 v2 v3=> @aT.eq_2 (A.sl v0 v1 v2 v3) nfn):=by intros;rfl
theorem aNW:type_of% (fun v0 v1 v2=> @aT.eq_2 (A.ptr v0 v1 v2) nfn):=by intros;rfl
theorem aJ0:type_of% (fun v0 v1=> @dH.eq_5 (A.d (D.int v0 v1)) nfn nfn nfn nfn):=by intros;rfl
theorem aKo:type_of% (fun v0=> @dH.eq_5 (A.d (D.bool v0)) nfn nfn nfn nfn):=by intros;rfl
theorem aKq:type_of% (fun v0 v1=> @dH.eq_5 (A.d (D.ivs v0 v1)) nfn nfn nfn nfn):=by intros;rfl
theorem aKu:type_of% (@dH.eq_5 (A.d D.nils) nfn nfn nfn nfn):=(@dH.eq_5 (A.d D.nils) nfn nfn nfn nfn)
theorem aLf:type_of% (fun v0=> @dH.eq_5 (A.d (D.iptr v0)) nfn nfn nfn nfn):=by intros;rfl
theorem aKd:type_of% (@dH.eq_5 (A.d D.nilp) nfn nfn nfn nfn):=(@dH.eq_5 (A.d D.nilp) nfn nfn nfn nfn)
theorem aJ2:type_of% (fun v0 v1=> @dH.eq_5 (A.d (D.fn v0 v1)) nfn nfn nfn nfn):=by intros;rfl
theorem aKJ:type_of% (fun v0 v1 v2 v3=> @dH.eq_5 (A.sl v0 v1 v2 v3) nfn nfn nfn nfn):=by intros;rfl
theorem aJX:type_of% (fun v0 v1 v2=> @dH.eq_5 (A.ptr v0 v1 v2) nfn nfn nfn nfn):=by intros;rfl
theorem aKD:type_of% (fun v0=> @wF.eq_2 (A.d v0) nfn):=by intros;rfl
theorem aLq:type_of% (fun v0 v1 v2 v3=> @wF.eq_2 (A.sl v0 v1 v2 v3) nfn):=by intros;rfl
theorem aKb:type_of% (fun v0=> @wF.eq_2 (A.agg v0) nfn):=by intros;rfl
theorem aKj:type_of% (fun v0 v1 v2 v3=> @fU.eq_4 (O.arr v1 v2 v3) v0 nfn nfn):=by intros;rfl
theorem aLz:type_of% (@tupA.eq_2 List.nil nfn):=(@tupA.eq_2 List.nil nfn)
theorem aJT:type_of% (fun v0 v1 v2=> @tupA.eq_2 (List.cons v0 (List.cons v1 v2)) nfn):=by intros;rfl
theorem aK1:type_of% (fun v0 v1 v2 v3 v4=> @EX.eq_2 v0 v1 (Go.Operand.tmp v4) v2 v3 nfn):=by intros;rfl
theorem aKP:type_of% (fun v0 v1 v2 v3=> @aY.eq_3 v0 (A.d (D.int v2 v3)) v1 nfn):=by intros;rfl
theorem aK9:type_of% (fun v0 v1 v2 v3=> @aY.eq_3 v0 (A.d (D.ivs v2 v3)) v1 nfn):=by intros;rfl
theorem aK4:type_of% (fun v0 v1=> @aY.eq_3 v0 (A.d D.nilp) v1 nfn):=by intros;rfl
theorem aLg:type_of% (fun v0 v1 v2 v3=> @aY.eq_3 v0 (A.d (D.fn v2 v3)) v1 nfn):=by intros;rfl
theorem aLn:type_of% (fun v0 v1 v2 v3 v4 v5=> @aY.eq_3 v0 (A.sl v2 v3 v4 v5) v1 nfn):=by intros;rfl
theorem aLu:type_of% (fun v0 v1 v2 v3 v4=> @aY.eq_3 v0 (A.ptr v2 v3 v4) v1 nfn):=by intros;rfl
theorem aKA:type_of% (fun v0 v1 v2 v3=> @mapO.eq_3 v0 (O.arr v1 v2 v3) nfn nfn):=by intros;rfl
theorem aJ9:type_of% (fun v0 v1 v2 v3=> @mapO.eq_3 v0 (O.ice v1 v2 v3) nfn nfn):=by intros;rfl
theorem aKM:type_of% (fun v0 v1=> @frzA.eq_2 v0 (A.d v1) nfn):=by intros;rfl
theorem aKs:type_of% (fun v0 v1 v2 v3 v4=> @frzA.eq_2 v0 (A.sl v1 v2 v3 v4) nfn):=by intros;rfl
theorem aKv:type_of% (fun v0 v1 v2=> @frzA.eq_2 v0 (A.clo v1 v2) nfn):=by intros;rfl
theorem UN0:type_of% (AI @aAX (AI @aLen.eq_def (AI @OT (AI @VL (AI @R6 (AI @OG (AI @QU (AI @aCV (AI @aCN (AI @List.range'.eq_1 (AI @List.range'.eq_2 (AI @LX.eq_1 @L0.eq_1)))))))))))):=
 ⟨@aAX,@aLen.eq_def,@OT,@VL,@R6,@OG,@QU,@aCV,@aCN,@List.range'.eq_1,@List.range'.eq_2,@LX.eq_1,@L0.eq_1⟩
theorem UN1:type_of% (AI @aPut.eq_1 (AI @aPut.eq_2 (AI @lM.eq_1 (AI @lM.eq_2 (AI @outA.eq_1 (AI @UNx5 (AI @UNx6 (AI @UNx7 (AI @outS.eq_1 (AI @aNP (AI @aNE (AI @aNH (AI @aN3 (AI @outS.eq_3 (AI @outS.eq_4 (AI @AH.eq_1 (AI @AH.eq_2 (AI @idsA.eq_1 @idsA.eq_2)))))))))))))))))):=
 ⟨@aPut.eq_1,@aPut.eq_2,@lM.eq_1,@lM.eq_2,@outA.eq_1,@UNx5,@UNx6,@UNx7,@outS.eq_1,@aNP,@aNE,@aNH,@aN3,@outS.eq_3,@outS.eq_4,@AH.eq_1,@AH.eq_2,@idsA.eq_1,@idsA.eq_2⟩
theorem UN2:type_of% (AI @idsA.eq_4 (AI @idsA.eq_5 (AI @idsA.eq_7 (AI @idsA.eq_8 (AI @idsL.eq_1 (AI @idsL.eq_2 (AI @mapA.eq_1 (AI @mapA.eq_2 (AI @mapA.eq_4 (AI @mapA.eq_5 (AI @mapA.eq_7 (AI @mapA.eq_8 (AI @aP.eq_1 (AI @aP.eq_2 (AI @bI.eq_1 (AI @bI.eq_2 (AI @bI.eq_4 (AI @bI.eq_5 (AI @bI.eq_7 (AI @bI.eq_8 (AI @hR.eq_1 (AI @ES.eq_1 (AI @aZ.eq_1 (AI @cK.eq_1 (AI @eB.eq_1 (AI @eB.eq_2 (AI @cB.eq_1 (AI @cB.eq_2 (AI @cB.eq_3 (AI @cB.eq_4 @aE.eq_1)))))))))))))))))))))))))))))):=
 ⟨@idsA.eq_4,@idsA.eq_5,@idsA.eq_7,@idsA.eq_8,@idsL.eq_1,@idsL.eq_2,@mapA.eq_1,@mapA.eq_2,@mapA.eq_4,@mapA.eq_5,@mapA.eq_7,@mapA.eq_8,@aP.eq_1,@aP.eq_2,@bI.eq_1,@bI.eq_2,@bI.eq_4,@bI.eq_5,@bI.eq_7,@bI.eq_8,@hR.eq_1,@ES.eq_1,@aZ.eq_1,@cK.eq_1,@eB.eq_1,@eB.eq_2,@cB.eq_1,@cB.eq_2,@cB.eq_3,@cB.eq_4,@aE.eq_1⟩
theorem UN3:type_of% (AI @aE.eq_2 (AI @pX.eq_1 (AI @pX.eq_2 (AI @pX.eq_3 (AI @fP.eq_1 (AI @fP.eq_2 (AI @aNJ (AI @aNL (AI @aNS (AI @aNY (AI @aNR (AI @aN5 (AI @aNA (AI @aNZ (AI @aN1 (AI @aND (AI @aNM (AI @tidy.eq_1 (AI @tidy.eq_2 (AI @aNC (AI @aNQ (AI @aNT (AI @cU.eq_3 @pB.eq_1))))))))))))))))))))))):=
 ⟨@aE.eq_2,@pX.eq_1,@pX.eq_2,@pX.eq_3,@fP.eq_1,@fP.eq_2,@aNJ,@aNL,@aNS,@aNY,@aNR,@aN5,@aNA,@aNZ,@aN1,@aND,@aNM,@tidy.eq_1,@tidy.eq_2,@aNC,@aNQ,@aNT,@cU.eq_3,@pB.eq_1⟩
theorem UN4:type_of% (AI @iE.eq_1 (AI @oE.eq_1 (AI @DQ.eq_1 (AI @TO.eq_1 (AI @aN6 (AI @FM.eq_1 (AI @pC.eq_1 (AI @keeps.eq_1 (AI @logs.eq_1 @rI.eq_1))))))))):=
 ⟨@iE.eq_1,@oE.eq_1,@DQ.eq_1,@TO.eq_1,@aN6,@FM.eq_1,@pC.eq_1,@keeps.eq_1,@logs.eq_1,@rI.eq_1⟩
theorem UN5:type_of% (AI @bT.eq_2 (AI @bT.eq_4 (AI @kG.eq_1 (AI @nW.eq_1 (AI @AF.eq_1 (AI @mV.eq_1 (AI @mV.eq_2 (AI @r5.eq_1 (AI @iZ.eq_1 (AI @gI.eq_1 (AI @gI.eq_3 (AI @frzL.eq_1 (AI @eS.eq_1 (AI @eS.eq_2 (AI @frz.eq_2 (AI @frz.eq_3 (AI @frz.eq_4 (AI @aNN (AI @frz0.eq_1 (AI @frz0.eq_2 (AI @deep.eq_1 (AI @aT.eq_1 (AI @aN7 (AI @aN0 @aNW)))))))))))))))))))))))):=
 ⟨@bT.eq_2,@bT.eq_4,@kG.eq_1,@nW.eq_1,@AF.eq_1,@mV.eq_1,@mV.eq_2,@r5.eq_1,@iZ.eq_1,@gI.eq_1,@gI.eq_3,@frzL.eq_1,@eS.eq_1,@eS.eq_2,@frz.eq_2,@frz.eq_3,@frz.eq_4,@aNN,@frz0.eq_1,@frz0.eq_2,@deep.eq_1,@aT.eq_1,@aN7,@aN0,@aNW⟩
theorem UN6:type_of% (AI @a6.eq_1 (AI @aJ0 (AI @aKo (AI @aKq (AI @aKu (AI @aLf (AI @aKd (AI @aJ2 (AI @aKJ (AI @aJX (AI @aKD (AI @aLq (AI @aKb (AI @fU.eq_1 (AI @fU.eq_2 (AI @aKj @kR.eq_1)))))))))))))))):=
 ⟨@a6.eq_1,@aJ0,@aKo,@aKq,@aKu,@aLf,@aKd,@aJ2,@aKJ,@aJX,@aKD,@aLq,@aKb,@fU.eq_1,@fU.eq_2,@aKj,@kR.eq_1⟩
theorem UN7:type_of% (AI @kR.eq_2 (AI @EK.eq_1 (AI @EK.eq_2 (AI @nU.eq_1 (AI @nU.eq_2 (AI @tupA.eq_1 (AI @aLz (AI @aJT (AI @lL.eq_1 (AI @lL.eq_2 (AI @rT.eq_1 (AI @rT.eq_2 (AI @opds.eq_2 (AI @opds.eq_7 (AI @opds.eq_13 (AI @opds.eq_14 (AI @opds.eq_16 @opds.eq_24))))))))))))))))):=
 ⟨@kR.eq_2,@EK.eq_1,@EK.eq_2,@nU.eq_1,@nU.eq_2,@tupA.eq_1,@aLz,@aJT,@lL.eq_1,@lL.eq_2,@rT.eq_1,@rT.eq_2,@opds.eq_2,@opds.eq_7,@opds.eq_13,@opds.eq_14,@opds.eq_16,@opds.eq_24⟩
theorem UN8:type_of% (AI @evOp.eq_1 (AI @dV.eq_1 (AI @one.eq_1 (AI @two.eq_1 @aK1)))):=
 ⟨@evOp.eq_1,@dV.eq_1,@one.eq_1,@two.eq_1,@aK1⟩
theorem UN9:type_of% (AI @aNew.eq_1 (AI @pG.eq_2 (AI @pG.eq_3 (AI @vY.eq_1 @KD.eq_1)))):=
 ⟨@aNew.eq_1,@pG.eq_2,@pG.eq_3,@vY.eq_1,@KD.eq_1⟩
theorem UN10:type_of% (AI @back.eq_1 (AI @bA.eq_1 (AI @bA.eq_2 (AI @aD.eq_1 (AI @closed.eq_1 (AI @iW.eq_1 @aY.eq_1)))))):=
 ⟨@back.eq_1,@bA.eq_1,@bA.eq_2,@aD.eq_1,@closed.eq_1,@iW.eq_1,@aY.eq_1⟩
theorem UN11:type_of% (AI @aY.eq_2 (AI @aKP (AI @aK9 (AI @aK4 (AI @aLg (AI @aLn (AI @aLu (AI @aH.eq_2 (AI @pack.eq_1 (AI @mapO.eq_1 (AI @mapO.eq_2 (AI @aKA (AI @aJ9 (AI @bF.eq_1 (AI @frzA.eq_1 (AI @aKM (AI @aKs (AI @aKv @fA.eq_1)))))))))))))))))):=
 ⟨@aY.eq_2,@aKP,@aK9,@aK4,@aLg,@aLn,@aLu,@aH.eq_2,@pack.eq_1,@mapO.eq_1,@mapO.eq_2,@aKA,@aJ9,@bF.eq_1,@frzA.eq_1,@aKM,@aKs,@aKv,@fA.eq_1⟩
theorem UN12:type_of% (AI @fA.eq_2 (AI @memD.eq_1 (AI @aA2.eq_1 (AI @IM.eq_1 @fE.eq_3)))):=
 ⟨@fA.eq_2,@memD.eq_1,@aA2.eq_1,@IM.eq_1,@fE.eq_3⟩
theorem UN:type_of% (AI @UN0 (AI @UN1 (AI @UN2 (AI @UN3 (AI @UN4 (AI @UN5 (AI @UN6 (AI @UN7 (AI @UN8 (AI @UN9 (AI @UN10 (AI @UN11 @UN12)))))))))))):=
 ⟨@UN0,@UN1,@UN2,@UN3,@UN4,@UN5,@UN6,@UN7,@UN8,@UN9,@UN10,@UN11,@UN12⟩
theorem aNI:type_of% (@bK.eq_5 Go.Code.skip nfn nfn nfn nfn):=(@bK.eq_5 Go.Code.skip nfn nfn nfn nfn)
theorem aNV:type_of% (fun v0 v1 v2=> @bK.eq_5 (Go.Code.region v0 v1 v2) nfn nfn nfn nfn):=(fun v0 v1 v2=> @bK.eq_5 (Go.Code.region v0 v1 v2) nfn nfn nfn nfn)
theorem aNK:type_of% (fun v0=> @bK.eq_5 (Go.Code.exit v0) nfn nfn nfn nfn):=(fun v0=> @bK.eq_5 (Go.Code.exit v0) nfn nfn nfn nfn)
theorem aKB:type_of% (@bK.eq_5 Go.Code.ret nfn nfn nfn nfn):=(@bK.eq_5 Go.Code.ret nfn nfn nfn nfn)
theorem SLM0:type_of% (AI @Bh.{0} (AI @Aa.{0} (AI @Br (AI @Af (AI @Ag.{0,0} (AI @Ak.{0,0} (AI @Ch.{0} (AI @As.{0} (AI @De.{0,0} (AI @Aj (AI @Ac.{0} (AI @List.replicate.eq_1.{0} (AI @List.replicate.eq_2.{0} (AI @At.{0} (AI @Am.{0} (AI @Ai.{0} (AI @List.getD_cons_zero.{0} (AI @List.getD_cons_succ.{0} (AI @aX.eq_1 (AI @bC.eq_1 (AI @lpOf.eq_1 (AI @aO.eq_1 (AI @slim.eq_1 (AI @slim.eq_2 (AI @slim.eq_3 (AI @slim.eq_4 (AI @slim.eq_5 (AI @slim.eq_6 (AI @slim.eq_7 (AI @slim.eq_8 (AI @bK.eq_1 (AI @bK.eq_2 @bK.eq_3)))))))))))))))))))))))))))))))):=
 ⟨@Bh.{0},@Aa.{0},@Br,@Af,@Ag.{0,0},@Ak.{0,0},@Ch.{0},@As.{0},@De.{0,0},@Aj,@Ac.{0},@List.replicate.eq_1.{0},@List.replicate.eq_2.{0},@At.{0},@Am.{0},@Ai.{0},@List.getD_cons_zero.{0},@List.getD_cons_succ.{0},@aX.eq_1,@bC.eq_1,@lpOf.eq_1,@aO.eq_1,@slim.eq_1,@slim.eq_2,@slim.eq_3,@slim.eq_4,@slim.eq_5,@slim.eq_6,@slim.eq_7,@slim.eq_8,@bK.eq_1,@bK.eq_2,@bK.eq_3⟩
theorem SLM1:type_of% (AI @bK.eq_4 (AI @aNI (AI @aNV (AI @aNK (AI @aKB (AI @ED.eq_1 (AI @HI.eq_1 @HI.eq_2))))))):=
 ⟨@bK.eq_4,@aNI,@aNV,@aNK,@aKB,@ED.eq_1,@HI.eq_1,@HI.eq_2⟩
theorem SLM:type_of% (AI @SLM0 @SLM1):=
 ⟨@SLM0,@SLM1⟩
theorem LN:type_of% (AI @Ah.{0} (AI @Ac.{0} (AI @Aa.{0} (AI @Be.{0} (AI @List.length_replicate.{0} (AI @Aw.{0,0} (AI @Cf.{0} @Ba.{0}))))))):=
 ⟨@Ah.{0},@Ac.{0},@Aa.{0},@Be.{0},@List.length_replicate.{0},@Aw.{0,0},@Cf.{0},@Ba.{0}⟩
theorem GT:type_of% (AI @Ch.{0} @As.{0}):=
 ⟨@Ch.{0},@As.{0}⟩
end Ev
end Go.Proofs.YtahbdkmimmnadaaGreatDoor
