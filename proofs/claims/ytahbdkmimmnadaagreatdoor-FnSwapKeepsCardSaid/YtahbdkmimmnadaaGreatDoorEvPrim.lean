/-
  The evaluator in the form in which it is walked: what comes after is handed over; code without what is not looked at.
-/
import Derived.Test.YtahbdkmimmnadaaGreatDoorEvDraw
import Derived.Test.YtahbdkmimmnadaaGreatDoorEvDef
import Derived.Lib.TrailingZeros
set_option linter.unusedSimpArgs false
set_option linter.unusedVariables false
set_option linter.unusedSectionVars false
namespace Go.Proofs.YtahbdkmimmnadaaGreatDoor
namespace Ev
section
structure SO where
 dst:Option Tmp
 op:Op
 guard:Option (Option Tmp×Bool)
inductive SC where
 |skip
 |ops (l:List SO)
 |drawn (l:List SO) (src:Array Oper)
 |seq (a b:SC)
 |cond (c:Operand) (x y:SC)
 |block (id:Nat) (c:SC)
 |loop (i:Nat)
 |exit (id:Nat)
 |ret
 |bad
def LJ(ops:List Oper):Option (Nat×Bool)->Option (Option Tmp×Bool)
 |none=>none
 |some (j,w)=>some ((ops[j]?).bind (·.dst),w)
def GB(ops:List Oper)(o:Oper):SO:=⟨o.dst,o.op,LJ ops o.guard⟩
def bS:Code->List Code
 |.seq a b=>bS a++bS b
 |.cond _ x y=>bS x++bS y
 |.block _ c=>bS c
 |.loop c=>c::bS c
 |_=>[]
def slim(i:Nat):Code->SC
 |.skip=>.skip
 |.region _ ops draw=>if draw then .drawn (ops.toList.map (GB ops.toList)) ops else .ops (ops.toList.map (GB ops.toList))
 |.seq a b=>.seq (slim i a) (slim (i+(bS a).length) b)
 |.cond c x y=>.cond c (slim i x) (slim (i+(bS x).length) y)
 |.block id c=>.block id (slim i c)
 |.loop _=>.loop i
 |.exit id=>.exit id
 |.ret=>.ret
 |_=>.bad
def aM:Code->Bool
 |.region _ ops draw=> !draw||Region.lexB .any ops
 |.seq a b=>aM a&&aM b
 |.cond _ x y=>aM x&&aM y
 |.block _ c=>aM c
 |.loop c=>aM c
 |_=>true
section
variable{R:Type}
def kv(s:List A)(x:Operand)(k:A->Option R):Option R:=
 match c8 s x with
 |some a=>k a
 |none=>none
def kvs(s:List A)(xs:List Operand)(k:List A->Option R):Option R:=
 match bX s xs with
 |some vs=>k vs
 |none=>none
def dW (dst : Option Tmp) (op : Op) : Oper := ⟨dst, op, 0, "", #[], none⟩
def kOp(E:Env)(call:aX)(thaw:List Nat)(dst:Option Tmp)(op:Op)(s:List A)(h:H)(k:A->H->Option R):Option R:=
 kvs s (opds op) fun vs=>
  if uO op then
   match jK E call thaw h (dW dst op) vs with
   |some (a,h',_)=>k a h'
   |none=>none
  else match evOp E call thaw h (dW dst op) vs with
   |some (a,h')=>k a h'
   |none=>none
def uQ(g:Option (Option Tmp×Bool))(s:List A)(yes:List A->Option R)(no:List A->Option R):Option R:=
 match g with
 |none=>yes s
 |some (none,_)=>none
 |some (some t,w)=>match s[t]? with
  |some (.d (.bool b))=>if b=w then yes (s.set t (.d (.bool w)))else no (s.set t (.d (.bool (!w))))
  |some (.d .undef)=>no s
  |_=>none
def kOps(E:Env)(call:aX)(thaw:List Nat):List SO->List A->H->(List A->H->Option R)->Option R
 | [],s,h,k=>k s h
 |⟨dst,op,g⟩::os,s,h,k=>uQ g s
  (fun s=>kOp E call thaw dst op s h fun a h'=>kOps E call thaw os (aPut s dst a) h' k)
  (fun s=>kOps E call thaw os (aPut s dst (.d .undef)) h k)
def kOpD(E:Env)(call:aX)(thaw:List Nat)(dst:Option Tmp)(op:Op)(s:List A)(h:H)(k:A->H->Foot->Option R):Option R:=
 kvs s (opds op) fun vs=>
  if rL op then
   match evOp E call thaw h (dW dst op) vs with
   |some (a,_)=>k a h {}
   |none=>none
  else if tF op then
   match evOp E call thaw h (dW dst op) vs with
   |some (a,_)=>k a h { ids:=ids0 vs,ro:=true}
   |none=>none
  else match jK E call thaw h (dW dst op) vs with
   |some (a,h',ord,n)=>if iU E op vs&&n==0 then k a h { ids:=ord,ro:=true}else k a h' { ids:=ord++List.range' h.length n,ro:=false,wr:=wrOf E op vs ord++List.range' h.length n}
   |none=>none
def vK(E:Env)(call:aX)(thaw:List Nat):List SO->List A->H->List Foot->(List A->H->List Foot->Option R)->Option R
 | [],s,h,cs,k=>k s h cs
 |⟨dst,op,g⟩::os,s,h,cs,k=>uQ g s
  (fun s=>kOpD E call thaw dst op s h fun a h' c=>vK E call thaw os (aPut s dst a) h' (cs++[c]) k)
  (fun s=>vK E call thaw os (aPut s dst (.d .undef)) h (cs++[{}]) k)
def aS(E:Env)(call:aX)(L nf:Nat)(thaw:List Nat)(live:List Bool)(c:Code)(m:List Bool)(n:Nat)(s:List A)(h:H)(k:Exit->List A->H->Option R):Option R:=
 match r9 (bW E call L nf thaw live c) nf m n s h with
 |some (e,s',h')=>k e s' h'
 |none=>none
def dG(E:Env)(call:aX)(L nf:Nat)(thaw:List Nat)(live:List Bool)(lp:Nat->Code):SC->List A->H->(Exit->List A->H->Option R)->Option R
 |.skip,s,h,k=>k .normal s h
 |.ops l,s,h,k=>kOps E call thaw l s h fun s h=>k .normal s h
 |.drawn l src,s,h,k=>vK E call thaw l s h [] fun s h cs=>if n4 src.toList cs then k .normal s h else none
 |.seq a b,s,h,k=>dG E call L nf thaw live lp a s h fun e s h=>match e with
  |.normal=>dG E call L nf thaw live lp b s h k
  |e=>k e s h
 |.cond c x y,s,h,k=>kv s c fun a=>match a with
  |.d (.bool b)=>if b=true then dG E call L nf thaw live lp x s h k else dG E call L nf thaw live lp y s h k
  |_=>none
 |.block id c,s,h,k=>dG E call L nf thaw live lp c s h fun e s h=>match e with
  |.exit i=>if i=id then k .normal s h else k (.exit i) s h
  |e=>k e s h
 |.loop i,s,h,k=>aS E call L nf thaw live (lp i) (qQ live s) L (gc nf (qQ live s) s h).1 (gc nf (qQ live s) s h).2 k
 |.exit id,s,h,k=>k (.exit id) s h
 |.ret,s,h,k=>k .ret s h
 |.bad,_,_,_=>none
theorem aDU{E:Env}{call:aX}{thaw:List Nat}{h:H}(o:Oper)(vs:List A):evOp E call thaw h (dW o.dst o.op) vs=evOp E call thaw h o vs:=by
 obtain⟨dst,op,type,pos,after,guard⟩:=o
 cases op<;>rfl
theorem aIM{E:Env}{call:aX}{thaw:List Nat}{h:H}(o:Oper)(vs:List A):jK E call thaw h (dW o.dst o.op) vs=jK E call thaw h o vs:=by
 unfold jK;simp only[aDU]
theorem aOT{s:List A}{t:Nat}{a:A}(h:s[t]? =some a):s.set t a=s:=by
 apply Cj;intro j;obtain⟨hl,he⟩:=At.1 h
 by_cases e:t=j
 ·grind
 ·simp[e]
theorem aIu{ops:List Oper}{o:Oper}{s:List A}{yes no:List A->Option R}:uQ (LJ ops o.guard) s yes no=match qM ops s o with
  |some true=>yes s
  |some false=>no s
  |none=>none:=by
 unfold qM
 cases hg:o.guard with
 |none=>simp[LJ,uQ]
 |some jw=>
  obtain⟨j,w⟩:=jw;simp only[LJ,uQ]
  cases hd:(ops[j]?).bind (·.dst)with
  |none=>rfl
  |some t=>
   simp only[]
   cases ht:s[t]? with
   |none=>rfl
   |some a=>
    cases a with
    |d x=>
     cases x with
     |bool b=>
      cases b<;>cases w<;>simp[aOT ht]
     |_=>rfl
    |_=>rfl
theorem XK{E:Env}{call:aX}{thaw:List Nat}{ops:List Oper}:∀(os:List Oper) (s:List A) (h:H) (k:List A->H->Option R),
  kOps E call thaw (os.map (GB ops)) s h k=match xY E call thaw ops os s h with
   |some (s',h')=>k s' h'
   |none=>none
 | [],s,h,k=>by simp[kOps,xY]
 |o::os,s,h,k=>by
  simp only[Af,GB,kOps,aIu,xY,DG]
  cases qM ops s o with
  |none=>rfl
  |some b=>
   cases b with
   |false=>simp only[];exact XK os _ _ _
   |true=>
    simp only[kOp,kvs,aIM,aDU]
    cases bX s (opds o.op)with
    |none=>rfl
    |some vs=>
     cases hc:uO o.op with
     |true=>
      simp only[if_true]
      cases jK E call thaw h o vs with
      |none=>rfl
      |some r=>simp only[];exact XK os _ _ _
     |false=>
      simp only[Ap,if_false]
      cases evOp E call thaw h o vs with
      |none=>rfl
      |some r=>simp only[];exact XK os _ _ _
theorem aHR{E:Env}{call:aX}{thaw:List Nat}{ops:List Oper}:∀(os:List Oper) (s:List A) (h:H) (cs:List Foot) (k:List A->H->List Foot->Option R),
  vK E call thaw (os.map (GB ops)) s h cs k=match lD E call thaw ops os s h with
   |some (s',h',cs')=>k s' h' (cs++cs')
   |none=>none
 | [],s,h,cs,k=>by simp[vK,lD]
 |o::os,s,h,cs,k=>by
  have fin:∀(s1:List A) (h1:H) (c:Foot),vK E call thaw (os.map (GB ops)) s1 h1 (cs++[c]) k=match(match lD E call thaw ops os s1 h1 with
    |some (s2,h2,cs)=>some (s2,h2,c::cs)
    |none=>none)with
   |some (s',h',cs')=>k s' h' (cs++cs')
   |none=>none:=by
   intro s1 h1 c;rw[aHR os]
   cases lD E call thaw ops os s1 h1 with
   |none=>rfl
   |some r=>simp
  simp only[Af,GB,vK,aIu,lD,wZ]
  cases qM ops s o with
  |none=>rfl
  |some b=>
   cases b with
   |false=>grind
   |true=>
    simp only[kOpD,kvs,aIM,aDU]
    cases bX s (opds o.op)with
    |none=>rfl
    |some vs=>grind
theorem wD{E:Env}{call:aX}{L nf:Nat}{thaw:List Nat}{live:List Bool}{lp:Nat->Code}:∀(c:Code) (i:Nat) (s:List A) (h:H) (k:Exit->List A->H->Option R),aM c=true->(∀(j:Nat) (b:Code),(bS c)[j]? =some b->lp (i+j)=b)->
  dG E call L nf thaw live lp (slim i c) s h k=match bW E call L nf thaw live c s h with
   |some (e,s',h')=>k e s' h'
   |none=>none
 |.skip,i,s,h,k,_,_=>rfl
 |.region id ops draw,i,s,h,k,hd,_=>by
  cases draw with
  |false=>
   simp only[slim,dG,bW,mL,Ap,if_false,XK]
   cases xY E call thaw ops.toList ops.toList s h<;>rfl
  |true=>
   simp only[aM,Bool.not_true,Bool.false_or]at hd;simp only[slim,dG,bW,mL,if_true,aHR,hd,Bool.true_and]
   cases lD E call thaw ops.toList ops.toList s h with
   |none=>rfl
   |some r=>
    obtain⟨s',h',cs⟩:=r;simp only[Am]
    by_cases hcf:n4 ops.toList cs=true
    ·simp[hcf]
    ·simp[hcf]
 |.seq a b,i,s,h,k,hd,hl=>by
  simp only[aM,Aj]at hd;simp only[slim,dG,bW];rw[wD a i s h _ hd.1 fun j c hj=>hl j c (by simp only[bS];rw[Be (At.1 hj).1];exact hj)]
  have hb:∀(j:Nat) (c:Code),(bS b)[j]? =some c->lp (i+(bS a).length+j)=c:=fun j c hj=>by
   rw[show i+(bS a).length+j=i+((bS a).length+j)from by omega];exact hl _ c (by simp only[bS];rw[Bq om];simpa using hj)
  cases hea:bW E call L nf thaw live a s h with
  |none=>rfl
  |some r=>
   obtain⟨e,s1,h1⟩:=r
   cases e<;>simp only[]<;>first|exact wD b _ s1 h1 k hd.2 hb|rfl
 |.cond c x y,i,s,h,k,hd,hl=>by
  simp only[aM,Aj]at hd;simp only[slim,dG,bW,kv];have hx:=wD (E:=E) (call:=call) (L:=L) (nf:=nf) (thaw:=thaw) (live:=live) x i s h k hd.1 fun j c hj=>hl j c (by simp only[bS];rw[Be (At.1 hj).1];exact hj)
  have hy:=wD (E:=E) (call:=call) (L:=L) (nf:=nf) (thaw:=thaw) (live:=live) y (i+(bS x).length) s h k hd.2 fun j c hj=>by
   rw[show i+(bS x).length+j=i+((bS x).length+j)from by omega];exact hl _ c (by simp only[bS];rw[Bq om];simpa using hj)
  generalize c8 s c=z
  cases z with
  |none=>rfl
  |some a=>
   cases a with
   |d v=>
    cases v with
    |bool b=>cases b<;>simp[hx,hy]
    |_=>rfl
   |_=>rfl
 |.block id c,i,s,h,k,hd,hl=>by
  simp only[aM]at hd;simp only[slim,dG,bW];rw[wD c i s h _ hd hl]
  cases hec:bW E call L nf thaw live c s h with
  |none=>rfl
  |some r=>
   obtain⟨e,s1,h1⟩:=r
   cases e<;>simp only[]<;>first|rfl|(split<;>rfl)
 |.loop c,i,s,h,k,hd,hl=>by
  have:=hl 0 c (by simp[bS]);simp only[Bm]at this;simp only[slim,dG,bW,aS,this]
 |.exit id,i,s,h,k,_,_=>rfl
 |.ret,i,s,h,k,_,_=>rfl
 |.rangeFunc _ _ _ _,i,s,h,k,_,_=>rfl
 |.scope _,i,s,h,k,_,_=>rfl
 |.label _,i,s,h,k,_,_=>rfl
 |.goto _,i,s,h,k,_,_=>rfl
 |.refuse _,i,s,h,k,_,_=>rfl
theorem aPH:∀(c:Code) (i:Nat) (b:Code),(bS c)[i]? =some b->(aM c=true->aM b=true)/\∀(j:Nat) (d:Code),(bS b)[j]? =some d->(bS c)[i+1+j]? =some d:=by
 intro c
 induction c with
 |seq a b iha ihb=>
  intro i d hi;simp only[bS]at hi|-;simp only[aM,Aj]
  by_cases hlt:i<(bS a).length
  ·grind
  ·rw[Bq om]at hi;obtain⟨h1,h2⟩:=ihb _ d hi;refine⟨fun h=>h1 h.2,fun j e he=> ?_⟩;have:=h2 j e he;rw[Bq om];rw[show i+1+j-(bS a).length=i-(bS a).length+1+j from by omega];exact this
 |cond c a b iha ihb=>
  intro i d hi;simp only[bS]at hi|-;simp only[aM,Aj]
  by_cases hlt:i<(bS a).length
  ·grind
  ·rw[Bq om]at hi;obtain⟨h1,h2⟩:=ihb _ d hi;refine⟨fun h=>h1 h.2,fun j e he=> ?_⟩;have:=h2 j e he;rw[Bq om];rw[show i+1+j-(bS a).length=i-(bS a).length+1+j from by omega];exact this
 |block id c ih=>intro i d hi;simp only[bS,aM]at hi|-;exact ih i d hi
 |loop c ih=>
  intro i d hi;simp only[bS,aM]at hi|-
  cases i with
  |zero=>grind
  |succ i=>grind
 |_=>intro i d hi;simp[bS]at hi
def aN(fn:Func):Code:=fn.body.getD .skip
def lpOf(fn:Func)(i:Nat):Code:=(bS (aN fn)).getD i .skip
def bB(fn:Func)(i:Nat):SC:=slim (i+1) (lpOf fn i)
def aV(fn:Func):SC:=slim 0 (aN fn)
def XA(E:Env)(call:aX)(L nf:Nat)(thaw:List Nat)(live:List Bool)(c:Code)(m:List Bool)(n:Nat)(k:Exit->List A->H->Option R)(e:Exit)(s:List A)(h:H):Option R:=
 match e with
 |.normal=>aS E call L nf thaw live c m n (gc nf m s h).1 (gc nf m s h).2 k
 |e=>k e (gc nf m s h).1 (gc nf m s h).2
theorem aCv{E:Env}{call:aX}{L nf:Nat}{thaw:List Nat}{live:List Bool}{fn:Func}(hd:aM (aN fn)=true){i:Nat}(hi:((bS (aN fn))[i]?).isSome=true){m:List Bool}{n:Nat}{s:List A}{h:H}{k:Exit->List A->H->Option R}:
  aS E call L nf thaw live (lpOf fn i) m (n+1) s h k=dG E call L nf thaw live (lpOf fn) (bB fn i) s h (XA E call L nf thaw live (lpOf fn i) m n k):=by
 obtain⟨b,hb⟩:=Eh.1 hi
 have hlp:∀(j:Nat) (d:Code),(bS (aN fn))[j]? =some d->lpOf fn j=d:=fun j d hj=>by
  unfold lpOf;rw[Aa,hj];rfl
 have hbe:=hlp i b hb;obtain⟨h1,h2⟩:=aPH _ i b hb;unfold bB;rw[hbe,wD b (i+1) s h _ (h1 hd) fun j d hj=>hlp _ d (h2 j d hj)];unfold aS;simp only[r9]
 cases hev:bW E call L nf thaw live b s h with
 |none=>rfl
 |some r=>
  obtain⟨e,s1,h1⟩:=r
  cases e<;>rfl
def kFin(P:Program)(nf:Nat)(exp:Bool)(rs:List ResultVar)(e:Exit)(s:List A)(h:H):Option (A×H):=
 if lV e then
  match kU P s h rs with
  |some rs=>match qN nf exp h rs with
   |some (xs,h2)=>
    let r:=trim nf h2 (dI nf h2 (idsL xs)) xs
    some (tupA r.1,r.2)
   |none=>none
  |none=>none
 else none
theorem aST {E : Env} {L n : Nat} {f : FuncId} {fn : Func} {args : List A} {h : H} (hp : (E.prim f).isNone = true) (hf : E.P.funcs[f]? = some fn) (hb : fn.body.isSome = true) (hn : (fn.name == "runtime.NumGoroutine") = false) (hd : aM (aN fn) = true) :
  aA E L (n+1) f args h=dG E (aA E L n) L h.length (E.hint f).thaw (E.hint f).live (lpOf fn) (aV fn) (args++List.replicate (fn.ntmps-args.length) (.d .undef)) h (kFin E.P h.length (E.hint f).exp fn.results.toList):=by
 have hp:E.prim f=none:=by simp_all
 obtain⟨c,hc⟩:=Eh.1 hb;have hce:aN fn=c:=by simp[aN,hc]
 rw[hce]at hd;unfold aV;rw[hce,wD c 0 _ _ _ hd fun j d hj=>by unfold lpOf;rw[hce,Ag,Aa,hj];rfl];simp only[aA,hp,hf,hc,hn,Ap,if_false,HU]
 cases bW E (aA E L n) L h.length (E.hint f).thaw (E.hint f).live c (args++List.replicate (fn.ntmps-args.length) (.d .undef)) h with
 |none=>rfl
 |some r=>rfl
theorem VV {E : Env} {L n : Nat} {f : FuncId} {fn : Func} {args : List A} {h : H} {mode : Nat} {exp : Bool} {thaw : List Nat} {live : List Bool} {rs : List ResultVar} (hp : (E.prim f).isNone = true) (hf : E.P.funcs[f]? = some fn) (hb : fn.body.isSome = true) (hn : (fn.name == "runtime.NumGoroutine") = false) (hd : aM (aN fn) = true) (hh : E.hint f = ⟨mode, exp, thaw, live⟩) (hr : fn.results.toList = rs) :
  aA E L (n+1) f args h=dG E (aA E L n) L h.length thaw live (lpOf fn) (aV fn) (args++List.replicate (fn.ntmps-args.length) (.d .undef)) h (kFin E.P h.length exp rs):=by
 rw[aST hp hf hb hn hd,hh,hr]
end
abbrev Y1(l:List A):List A:=.junk::l
abbrev Y2(l:List A):List A:=.junk::.junk::l
abbrev Y4(l:List A):List A:=.junk::.junk::.junk::.junk::l
abbrev Y8(l:List A):List A:=.junk::.junk::.junk::.junk::.junk::.junk::.junk::.junk::l
abbrev Y16(l:List A):List A:=Y8 (Y8 l)
abbrev Y32(l:List A):List A:=Y16 (Y16 l)
abbrev U1(l:List Bool):List Bool:=true::l
abbrev U2(l:List Bool):List Bool:=true::true::l
abbrev U4(l:List Bool):List Bool:=true::true::true::true::l
abbrev U8(l:List Bool):List Bool:=true::true::true::true::true::true::true::true::l
abbrev U16(l:List Bool):List Bool:=U8 (U8 l)
abbrev U32(l:List Bool):List Bool:=U16 (U16 l)
abbrev Z1(l:List Bool):List Bool:=false::l
abbrev Z2(l:List Bool):List Bool:=false::false::l
abbrev Z4(l:List Bool):List Bool:=false::false::false::false::l
abbrev Z8(l:List Bool):List Bool:=false::false::false::false::false::false::false::false::l
abbrev Z16(l:List Bool):List Bool:=Z8 (Z8 l)
abbrev Z32(l:List Bool):List Bool:=Z16 (Z16 l)
abbrev KE(R:Type):Type:=Exit->List A->H->Option R
abbrev KA(R:Type):Type:=A->H->Option R
abbrev Bz0:List Bool:=Z1 (U4 (Z2 (Z1 (U4 (U1 (Z1 (U1 (Z1 (U1 (Z32 (Z8 (U2 (U1 (Z2 (Z1 (U2 (U1 (Z16 (Z8 (Z1 ([])))))))))))))))))))))
abbrev Bz1:List Bool:=Z2 (U4 (U1 (Z8 (Z2 (Z1 (U2 (U1 (Z4 (U1 (Z8 (Z1 (U2 (U1 (Z16 ([])))))))))))))))
abbrev Bz2:List Bool:=Z1 (U8 (U4 (U2 (U1 (Z32 (Z32 (Z16 (Z8 (Z2 (Z1 ([])))))))))))
abbrev Bz3:List Bool:=Z2 (U2 (Z4 (Z2 (U2 (Z1 (U2 (U1 (Z1 (U2 (Z8 (Z4 (Z2 (U2 (U1 (Z4 (Z2 (Z1 (U2 (U1 (Z16 (Z1 ([]))))))))))))))))))))))
abbrev Bz4:List Bool:=U1 (Z1 (U1 (Z2 (Z1 (U4 (U2 (Z32 (Z4 (Z1 ([]))))))))))
abbrev Bz5:List Bool:=Z1 (U4 (Z2 (Z1 (U4 (U2 (U1 (Z32 (Z8 (Z4 (Z2 (Z1 ([]))))))))))))
abbrev Bz6:List Bool:=Z1 (U2 (Z2 (Z1 (U4 (U2 (Z16 (Z8 (Z4 (Z1 (U2 (Z4 (U2 (U1 (Z16 (Z8 ([]))))))))))))))))
abbrev Bz7:List Bool:=Z1 (U2 (Z2 (Z1 (U2 (U1 (Z16 (Z8 (Z1 (U2 (U1 (Z16 (Z4 (Z2 (Z1 ([])))))))))))))))
abbrev Bz8:List Bool:=Z1 (U2 (U1 (Z32 (Z2 (U2 (U1 (Z4 (Z2 (Z1 (U2 (U1 (Z8 (Z4 (Z2 ([])))))))))))))))
abbrev Bz9:List Bool:=U1 (Z4 (U2 (U1 (Z4 (Z1 (U1 (Z1 (U1 (Z1 (U32 (U8 (Z2 (Z1 (U2 (U1 (Z2 (Z1 (U16 (U8 (U1 ([])))))))))))))))))))))
abbrev Bz10:List Bool:=U2 (Z1 (U2 (U1 (Z2 (Z1 (U2 (U1 (Z2 (U2 (U1 (Z32 (Z1 ([])))))))))))))
abbrev Bz11:List Bool:=Z2 (U1 (Z2 (Z1 (U4 (Z32 (Z4 (Z2 (Z1 ([])))))))))
abbrev Bz12:List Bool:=U1 (Z1 (U2 (Z4 (U4 (U2 (Z32 (Z4 (Z2 ([])))))))))
abbrev Bz13:List Bool:=U1 (Z4 (U2 (U1 (Z4 (Z1 (U1 (Z1 (U32 (U8 (U2 (Z2 (Z1 (U16 (U8 (U4 (U2 (U1 ([]))))))))))))))))))
abbrev Bz14:List Bool:=Z1 (U4 (Z16 (Z8 (Z2 (Z1 ([]))))))
abbrev Bz15:List Bool:=U1 (Z8 (Z4 (Z1 (U32 (U32 (U16 (U8 (U4 (U1 ([]))))))))))
abbrev Bz16:List Bool:=Z1 (U2 (Z16 (Z1 (U2 (U1 (Z32 (Z8 (Z4 (Z1 ([]))))))))))
abbrev Bz17:List Bool:=Z1 (U2 (Z2 (Z1 (U2 (Z16 (U2 (U1 (Z8 (Z4 ([]))))))))))
abbrev Bz18:List Bool:=Z1 (U2 (U1 (Z2 (U4 (U2 (U1 (Z32 (Z2 (Z1 ([]))))))))))
abbrev Bz19:List Bool:=U2 (U1 (Z2 (Z1 (U2 (U1 (Z16 (Z8 (Z2 (Z1 ([]))))))))))
abbrev Bz20:List Bool:=U2 (Z2 (Z1 (U8 (U4 (U1 (Z2 (Z1 (U32 (U1 ([]))))))))))
abbrev Bz21:List Bool:=U1 (Z2 (U2 (U1 (Z2 (Z1 (U16 (U8 (U1 (Z2 (Z1 (U16 (U4 (U2 (U1 ([])))))))))))))))
abbrev Bz22:List Bool:=U2 (Z2 (U2 (U1 (Z16 (Z8 (Z4 ([])))))))
abbrev Bz23:List Bool:=U2 (Z4 (Z1 (U8 (U2 (U1 (Z2 (Z1 (U4 (Z1 (U8 (U1 (Z2 (Z1 (U16 ([])))))))))))))))
abbrev Bz24:List Bool:=Z4 (U2 (U1 (Z32 (Z32 (Z32 (Z8 (Z2 (Z1 ([])))))))))
abbrev Bz25:List Bool:=U4 (U1 (Z4 (Z1 (U4 (U1 (Z32 (Z16 (Z1 ([])))))))))
abbrev Bz26:List Bool:=Z4 (U2 (U1 (Z1 (U4 (Z2 (U2 (Z32 (Z32 (Z32 (Z32 (Z4 (Z1 ([])))))))))))))
abbrev Bz27:List Bool:=Z2 (U1 (Z1 (U2 (Z4 (Z1 (U2 (Z1 (U1 (Z32 (Z16 (Z4 (Z1 ([])))))))))))))
abbrev Bz28:List Bool:=U2 (Z4 (Z1 (U8 (U2 (U1 (Z2 (Z1 (U4 (Z1 (U16 (U8 (U4 ([])))))))))))))
abbrev Bz29:List Bool:=Z2 (U1 (Z2 (Z1 (U2 (U1 (Z2 (Z1 (U2 (Z2 (Z1 (U32 (U1 ([])))))))))))))
abbrev Bz30:List Bool:=U1 (Z4 (U16 (U8 (U2 (U1 ([]))))))
abbrev Bz31:List Bool:=Z2 (U2 (Z4 (U2 (U1 (Z16 (Z4 (Z1 ([]))))))))
abbrev Bz32:List Bool:=U1 (Z1 (U2 (Z1 (U1 (Z8 (Z2 (Z1 ([]))))))))
abbrev Bz33:List Bool:=U2 (U1 (Z2 (Z1 (U2 (Z16 (Z2 (U2 (Z8 (Z4 (Z2 (Z1 ([]))))))))))))
abbrev Bz34:List Bool:=U1 (Z8 (Z4 (Z2 (Z1 (U32 (U32 (U16 (U8 (U2 (U1 ([])))))))))))
abbrev Bz35:List Bool:=Z1 (U2 (U1 (Z32 (Z16 (Z2 (Z1 ([])))))))
abbrev Bz36:List Bool:=Z1 (U1 (Z2 (U1 (Z8 (Z4 (U2 (U1 (Z8 (Z2 (Z1 ([])))))))))))
abbrev Bz37:List Bool:=Z1 (U1 (Z2 (U2 (U1 (Z8 (Z4 (Z2 (U2 (Z8 (Z4 ([])))))))))))
abbrev Bz38:List Bool:=Z2 (U2 (Z2 (U2 (U1 (Z8 (Z1 ([])))))))
abbrev Bz39:List Bool:=U1 (Z2 (U16 (U1 (Z2 (Z1 (U32 (U8 (U4 (U1 ([]))))))))))
abbrev Bz40:List Bool:=U1 (Z1 (U1 (Z2 (Z1 (U2 (Z16 (Z4 (Z2 (Z1 ([]))))))))))
abbrev Bz41:List Bool:=U1 (Z2 (U2 (U1 (Z2 (U16 (Z2 (Z1 (U8 (U4 ([]))))))))))
abbrev Bz42:List Bool:=Z1 (U1 (Z1 (U2 (U1 (Z4 (Z2 (U32 (U4 (U1 ([]))))))))))
abbrev Bz43:List Bool:=Z1 (U1 (Z1 (U2 (U1 (Z4 (U32 (U4 (U2 (U1 ([]))))))))))
abbrev Bz44:List Bool:=Z1 (U4 (U1 (Z32 (Z2 (Z1 ([]))))))
abbrev Bz45:List Bool:=U4 (Z2 (Z1 (U32 (U32 (U32 (U8 (U2 (U1 ([])))))))))
abbrev Bz46:List Bool:=U2 (Z1 (U2 (U1 (Z4 (U32 (U4 (U2 (U1 ([])))))))))
abbrev Bz47:List Bool:=Z2 (U2 (Z4 (U4 (Z32 (Z32 (Z2 (Z1 ([]))))))))
abbrev Bz48:List Bool:=Z1 (U1 (Z2 (U4 (Z16 (Z8 (Z4 (Z1 ([]))))))))
abbrev Bz49:List Bool:=U1 (Z1 (U2 (U1 (Z16 (Z8 (Z2 (Z1 ([]))))))))
abbrev Bz50:List Bool:=U1 (Z1 (U2 (Z16 (Z8 ([])))))
abbrev Bz51:List Bool:=U2 (Z2 (U4 (Z2 (Z1 (U16 (U4 (U1 ([]))))))))
abbrev Bz52:List Bool:=Z2 (U2 (Z4 (Z1 (U2 (U1 (Z8 (Z1 ([]))))))))
abbrev Bz53:List Bool:=U2 (Z2 (U1 (Z8 (Z2 (U2 (Z8 (Z1 ([]))))))))
abbrev Bz54:List Bool:=Z2 (U2 (Z2 (Z1 (U2 (U1 (Z8 (Z1 ([]))))))))
abbrev Bz55:List Bool:=Z1 (U1 (Z2 (U1 (Z1 (U8 (U2 (U1 ([]))))))))
abbrev Bz56:List Bool:=U1 (Z2 (Z1 (U32 (U16 (U2 (U1 ([])))))))
abbrev Bz57:List Bool:=U1 (Z1 (U2 (U1 (Z16 (Z8 (Z4 ([])))))))
abbrev Bz58:List Bool:=U1 (Z1 (U2 (U1 (Z16 (Z4 (Z1 ([])))))))
abbrev Bz59:List Bool:=U2 (Z2 (U1 (Z16 (Z8 (Z4 (Z1 ([])))))))
abbrev Bz60:List Bool:=U2 (Z2 (U2 (U1 (Z16 (Z8 (Z2 ([])))))))
abbrev Bz61:List Bool:=U2 (U1 (Z2 (Z1 (U2 (Z16 (Z2 ([])))))))
abbrev Bz62:List Bool:=Z2 (U2 (Z2 (U16 (U8 (U4 (U1 ([])))))))
abbrev Bz63:List Bool:=U1 (Z1 (U2 (U1 (Z8 (Z4 (Z1 ([])))))))
abbrev Bz64:List Bool:=Z2 (U2 (Z4 (U2 (U1 (Z8 (Z4 ([])))))))
abbrev Bz65:List Bool:=U2 (Z2 (U1 (Z2 (U2 (Z8 (Z2 ([])))))))
abbrev Bz66:List Bool:=U2 (Z2 (U2 (U1 (Z8 (Z2 (Z1 ([])))))))
abbrev Bz67:List Bool:=U2 (Z2 (U2 (Z2 (Z1 (U8 (U1 ([])))))))
abbrev Bz68:List Bool:=Z1 (U4 (Z32 (Z4 (Z2 (Z1 ([]))))))
abbrev Bz69:List Bool:=U2 (Z2 (U2 (Z2 (U2 (Z16 ([]))))))
abbrev Bz70:List Bool:=U1 (Z1 (U2 (U1 (Z32 (Z2 ([]))))))
abbrev Bz71:List Bool:=U2 (Z2 (U2 (U1 (Z16 (Z2 ([]))))))
abbrev Bz72:List Bool:=U1 (Z1 (U2 (Z8 (Z4 (Z1 ([]))))))
abbrev Bz73:List Bool:=Z1 (U1 (Z2 (U16 (U8 ([])))))
abbrev Bz74:List Bool:=U2 (Z2 (U2 (Z8 (Z4 ([])))))
end
def HK(esz:Nat)(args:List A)(h:H):Option (A×H):=match args with
 | [.d (.str _)]=>none
 | [x]=>match cG h esz x with
  |some (n,cs)=>if n<=bI then some (.sl h.length 0 0 n,h++[.arr cs esz 0])else none
  |none=>none
 |_=>none
def trip:List D->Option (List (Int×Int×Int))
 | []=>some []
 |.int .i64 a::.int .i64 b::.int .i64 c::ds=>(trip ds).map ((a,b,c)::·)
 |_=>none
def kE:List (Int×Int×Int)->List D
 | []=>[]
 |(a,b,c)::l=>.int .i64 a::.int .i64 b::.int .i64 c::kE l
def lR(a b:Int):Int:=if a<b then -1 else if b<a then 1 else 0
def aEg:List Int->Int
 | []=>0
 |a::l=>if a=0 then aEg l else a
def cmp3(x y:Int×Int×Int):Int:=aEg [lR x.1 y.1,lR x.2.1 y.2.1,lR x.2.2 y.2.2]
def le3(x y:Int×Int×Int):Bool:=!decide (cmp3 y x<0)
def HM(g:FuncId)(args:List A)(h:H):Option (A×H):=match args with
 | [.sl id gen off len,.clo f []]=>match h[id]? with
  |some (.arr cs e gg)=>if f=g/\gg=gen/\off=0/\(len=0\/e=3)/\len*3<=cs.length/\len<=bI then
    match trip (cs.take (len*3))with
    |some l=>some (.tup [],h.set id (.arr (kE (l.mergeSort le3)++cs.drop (len*3)) e gg))
    |none=>none
   else none
  |_=>none
 |_=>none
def gCtz:List A->H->Option (A×H):=fun args h=>match args with
 | [.d (.int .u64 n)]=>if 0<=n/\n<18446744073709551616 then some (.d (.int .i64 (Lib.ctz 64 n.toNat)),h)else none
 |_=>none
end Ev
end Go.Proofs.YtahbdkmimmnadaaGreatDoor
