/-
  The evaluator in the form in which it is walked: what comes after is handed over; code without what is not looked at.
-/
import Derived.Test.YtppffbehejpglaaGreatDoorEvDraw
import Derived.Test.YtppffbehejpglaaGreatDoorEvDef
import Derived.Lib.TrailingZeros
set_option linter.unusedSimpArgs false
set_option linter.unusedVariables false
set_option linter.unusedSectionVars false
namespace Go.Proofs.YtppffbehejpglaaGreatDoor
namespace Ev
section
structure SO where
 dst:Option Tmp
 op:Op
 guard:Option (Option Tmp×Bool)
inductive SC where
 |skip
 |ops (l:List SO)
 |drawn (l:List SO) (src:Array Oper)
 |seq (a b:SC)
 |cond (c:Operand) (x y:SC)
 |block (id:Nat) (c:SC)
 |loop (i:Nat)
 |exit (id:Nat)
 |ret
 |bad
def NY(ops:List Oper):Option (Nat×Bool)->Option (Option Tmp×Bool)
 |none=>none
 |some (j,w)=>some ((ops[j]?).bind (·.dst),w)
def IL(ops:List Oper)(o:Oper):SO:=⟨o.dst,o.op,NY ops o.guard⟩
def bV:Code->List Code
 |.seq a b=>bV a++bV b
 |.cond _ x y=>bV x++bV y
 |.block _ c=>bV c
 |.loop c=>c::bV c
 |_=>[]
def slim(i:Nat):Code->SC
 |.skip=>.skip
 |.region _ ops draw=>if draw then .drawn (ops.toList.map (IL ops.toList)) ops else .ops (ops.toList.map (IL ops.toList))
 |.seq a b=>.seq (slim i a) (slim (i+(bV a).length) b)
 |.cond c x y=>.cond c (slim i x) (slim (i+(bV x).length) y)
 |.block id c=>.block id (slim i c)
 |.loop _=>.loop i
 |.exit id=>.exit id
 |.ret=>.ret
 |_=>.bad
def aL:Code->Bool
 |.region _ ops draw=> !draw||Region.lexB .any ops
 |.seq a b=>aL a&&aL b
 |.cond _ x y=>aL x&&aL y
 |.block _ c=>aL c
 |.loop c=>aL c
 |_=>true
section
variable{R:Type}
def kv(s:List A)(x:Operand)(k:A->Option R):Option R:=
 match cE s x with
 |some a=>k a
 |none=>none
def kvs(s:List A)(xs:List Operand)(k:List A->Option R):Option R:=
 match bT s xs with
 |some vs=>k vs
 |none=>none
def dO (dst : Option Tmp) (op : Op) : Oper := ⟨dst, op, 0, "", #[], none⟩
def kOp(E:Env)(call:aZ)(thaw:List Nat)(dst:Option Tmp)(op:Op)(s:List A)(h:H)(k:A->H->Option R):Option R:=
 kvs s (opds op) fun vs=>
  if wZ op then
   match i7 E call thaw h (dO dst op) vs with
   |some (a,h',_)=>k a h'
   |none=>none
  else match evOp E call thaw h (dO dst op) vs with
   |some (a,h')=>k a h'
   |none=>none
def wO(g:Option (Option Tmp×Bool))(s:List A)(yes:List A->Option R)(no:List A->Option R):Option R:=
 match g with
 |none=>yes s
 |some (none,_)=>none
 |some (some t,w)=>match s[t]? with
  |some (.d (.bool b))=>if b=w then yes (s.set t (.d (.bool w)))else no (s.set t (.d (.bool (!w))))
  |some (.d .undef)=>no s
  |_=>none
def kOps(E:Env)(call:aZ)(thaw:List Nat):List SO->List A->H->(List A->H->Option R)->Option R
 | [],s,h,k=>k s h
 |⟨dst,op,g⟩::os,s,h,k=>wO g s
  (fun s=>kOp E call thaw dst op s h fun a h'=>kOps E call thaw os (aPut s dst a) h' k)
  (fun s=>kOps E call thaw os (aPut s dst (.d .undef)) h k)
def kOpD(E:Env)(call:aZ)(thaw:List Nat)(dst:Option Tmp)(op:Op)(s:List A)(h:H)(k:A->H->Foot->Option R):Option R:=
 kvs s (opds op) fun vs=>
  if qW op then
   match evOp E call thaw h (dO dst op) vs with
   |some (a,_)=>k a h {}
   |none=>none
  else if rI op then
   match evOp E call thaw h (dO dst op) vs with
   |some (a,_)=>k a h { ids:=ids0 vs,ro:=true}
   |none=>none
  else match i7 E call thaw h (dO dst op) vs with
   |some (a,h',ord,n)=>if jV E op vs&&n==0 then k a h { ids:=ord,ro:=true}else k a h' { ids:=ord++List.range' h.length n,ro:=false,wr:=wrOf E op vs ord++List.range' h.length n}
   |none=>none
def xN(E:Env)(call:aZ)(thaw:List Nat):List SO->List A->H->List Foot->(List A->H->List Foot->Option R)->Option R
 | [],s,h,cs,k=>k s h cs
 |⟨dst,op,g⟩::os,s,h,cs,k=>wO g s
  (fun s=>kOpD E call thaw dst op s h fun a h' c=>xN E call thaw os (aPut s dst a) h' (cs++[c]) k)
  (fun s=>xN E call thaw os (aPut s dst (.d .undef)) h (cs++[{}]) k)
def aT(E:Env)(call:aZ)(L nf:Nat)(thaw:List Nat)(live:List Bool)(c:Code)(m:List Bool)(n:Nat)(s:List A)(h:H)(k:Exit->List A->H->Option R):Option R:=
 match uJ (b8 E call L nf thaw live c) nf m n s h with
 |some (e,s',h')=>k e s' h'
 |none=>none
def cT(E:Env)(call:aZ)(L nf:Nat)(thaw:List Nat)(live:List Bool)(lp:Nat->Code):SC->List A->H->(Exit->List A->H->Option R)->Option R
 |.skip,s,h,k=>k .normal s h
 |.ops l,s,h,k=>kOps E call thaw l s h fun s h=>k .normal s h
 |.drawn l src,s,h,k=>xN E call thaw l s h [] fun s h cs=>if pK src.toList cs then k .normal s h else none
 |.seq a b,s,h,k=>cT E call L nf thaw live lp a s h fun e s h=>match e with
  |.normal=>cT E call L nf thaw live lp b s h k
  |e=>k e s h
 |.cond c x y,s,h,k=>kv s c fun a=>match a with
  |.d (.bool b)=>if b=true then cT E call L nf thaw live lp x s h k else cT E call L nf thaw live lp y s h k
  |_=>none
 |.block id c,s,h,k=>cT E call L nf thaw live lp c s h fun e s h=>match e with
  |.exit i=>if i=id then k .normal s h else k (.exit i) s h
  |e=>k e s h
 |.loop i,s,h,k=>aT E call L nf thaw live (lp i) (r6 live s) L (gc nf (r6 live s) s h).1 (gc nf (r6 live s) s h).2 k
 |.exit id,s,h,k=>k (.exit id) s h
 |.ret,s,h,k=>k .ret s h
 |.bad,_,_,_=>none
theorem aH4{E:Env}{call:aZ}{thaw:List Nat}{h:H}(o:Oper)(vs:List A):evOp E call thaw h (dO o.dst o.op) vs=evOp E call thaw h o vs:=by
 obtain⟨dst,op,type,pos,after,guard⟩:=o
 cases op<;>rfl
theorem aMP{E:Env}{call:aZ}{thaw:List Nat}{h:H}(o:Oper)(vs:List A):i7 E call thaw h (dO o.dst o.op) vs=i7 E call thaw h o vs:=by
 unfold i7;simp only[aH4]
theorem aUx{s:List A}{t:Nat}{a:A}(h:s[t]? =some a):s.set t a=s:=by
 apply Cr;intro j;obtain⟨hl,he⟩:=Aw.1 h
 by_cases e:t=j
 ·grind
 ·simp[e]
theorem aME{ops:List Oper}{o:Oper}{s:List A}{yes no:List A->Option R}:wO (NY ops o.guard) s yes no=match sP ops s o with
  |some true=>yes s
  |some false=>no s
  |none=>none:=by
 unfold sP
 cases hg:o.guard with
 |none=>simp[NY,wO]
 |some jw=>
  obtain⟨j,w⟩:=jw;simp only[NY,wO]
  cases hd:(ops[j]?).bind (·.dst)with
  |none=>rfl
  |some t=>
   simp only[]
   cases ht:s[t]? with
   |none=>rfl
   |some a=>
    cases a with
    |d x=>
     cases x with
     |bool b=>
      cases b<;>cases w<;>simp[aUx ht]
     |_=>rfl
    |_=>rfl
theorem aBp{E:Env}{call:aZ}{thaw:List Nat}{ops:List Oper}:∀(os:List Oper) (s:List A) (h:H) (k:List A->H->Option R),
  kOps E call thaw (os.map (IL ops)) s h k=match AZ E call thaw ops os s h with
   |some (s',h')=>k s' h'
   |none=>none
 | [],s,h,k=>by simp[kOps,AZ]
 |o::os,s,h,k=>by
  simp only[Aj,IL,kOps,aME,AZ,FE]
  cases sP ops s o with
  |none=>rfl
  |some b=>
   cases b with
   |false=>simp only[];exact aBp os _ _ _
   |true=>
    simp only[kOp,kvs,aMP,aH4]
    cases bT s (opds o.op)with
    |none=>rfl
    |some vs=>
     cases hc:wZ o.op with
     |true=>
      simp only[if_true]
      cases i7 E call thaw h o vs with
      |none=>rfl
      |some r=>simp only[];exact aBp os _ _ _
     |false=>
      simp only[Al,if_false]
      cases evOp E call thaw h o vs with
      |none=>rfl
      |some r=>simp only[];exact aBp os _ _ _
theorem aNm{E:Env}{call:aZ}{thaw:List Nat}{ops:List Oper}:∀(os:List Oper) (s:List A) (h:H) (cs:List Foot) (k:List A->H->List Foot->Option R),
  xN E call thaw (os.map (IL ops)) s h cs k=match lL E call thaw ops os s h with
   |some (s',h',cs')=>k s' h' (cs++cs')
   |none=>none
 | [],s,h,cs,k=>by simp[xN,lL]
 |o::os,s,h,cs,k=>by
  have fin:∀(s1:List A) (h1:H) (c:Foot),xN E call thaw (os.map (IL ops)) s1 h1 (cs++[c]) k=match(match lL E call thaw ops os s1 h1 with
    |some (s2,h2,cs)=>some (s2,h2,c::cs)
    |none=>none)with
   |some (s',h',cs')=>k s' h' (cs++cs')
   |none=>none:=by
   intro s1 h1 c;rw[aNm os]
   cases lL E call thaw ops os s1 h1 with
   |none=>rfl
   |some r=>simp
  simp only[Aj,IL,xN,aME,lL,y6]
  cases sP ops s o with
  |none=>rfl
  |some b=>
   cases b with
   |false=>grind
   |true=>
    simp only[kOpD,kvs,aMP,aH4]
    cases bT s (opds o.op)with
    |none=>rfl
    |some vs=>grind
theorem yL{E:Env}{call:aZ}{L nf:Nat}{thaw:List Nat}{live:List Bool}{lp:Nat->Code}:∀(c:Code) (i:Nat) (s:List A) (h:H) (k:Exit->List A->H->Option R),aL c=true->(∀(j:Nat) (b:Code),(bV c)[j]? =some b->lp (i+j)=b)->
  cT E call L nf thaw live lp (slim i c) s h k=match b8 E call L nf thaw live c s h with
   |some (e,s',h')=>k e s' h'
   |none=>none
 |.skip,i,s,h,k,_,_=>rfl
 |.region id ops draw,i,s,h,k,hd,_=>by
  cases draw with
  |false=>
   simp only[slim,cT,b8,nA,Al,if_false,aBp]
   cases AZ E call thaw ops.toList ops.toList s h<;>rfl
  |true=>
   simp only[aL,Bool.not_true,Bool.false_or]at hd;simp only[slim,cT,b8,nA,if_true,aNm,hd,Bool.true_and]
   cases lL E call thaw ops.toList ops.toList s h with
   |none=>rfl
   |some r=>
    obtain⟨s',h',cs⟩:=r;simp only[Aq]
    by_cases hcf:pK ops.toList cs=true
    ·simp[hcf]
    ·simp[hcf]
 |.seq a b,i,s,h,k,hd,hl=>by
  simp only[aL,Ar]at hd;simp only[slim,cT,b8];rw[yL a i s h _ hd.1 fun j c hj=>hl j c (by simp only[bV];rw[Be (Aw.1 hj).1];exact hj)]
  have hb:∀(j:Nat) (c:Code),(bV b)[j]? =some c->lp (i+(bV a).length+j)=c:=fun j c hj=>by
   rw[show i+(bV a).length+j=i+((bV a).length+j)from by omega];exact hl _ c (by simp only[bV];rw[Bo om];simpa using hj)
  cases hea:b8 E call L nf thaw live a s h with
  |none=>rfl
  |some r=>
   obtain⟨e,s1,h1⟩:=r
   cases e<;>simp only[]<;>first|exact yL b _ s1 h1 k hd.2 hb|rfl
 |.cond c x y,i,s,h,k,hd,hl=>by
  simp only[aL,Ar]at hd;simp only[slim,cT,b8,kv];have hx:=yL (E:=E) (call:=call) (L:=L) (nf:=nf) (thaw:=thaw) (live:=live) x i s h k hd.1 fun j c hj=>hl j c (by simp only[bV];rw[Be (Aw.1 hj).1];exact hj)
  have hy:=yL (E:=E) (call:=call) (L:=L) (nf:=nf) (thaw:=thaw) (live:=live) y (i+(bV x).length) s h k hd.2 fun j c hj=>by
   rw[show i+(bV x).length+j=i+((bV x).length+j)from by omega];exact hl _ c (by simp only[bV];rw[Bo om];simpa using hj)
  generalize cE s c=z
  cases z with
  |none=>rfl
  |some a=>
   cases a with
   |d v=>
    cases v with
    |bool b=>cases b<;>simp[hx,hy]
    |_=>rfl
   |_=>rfl
 |.block id c,i,s,h,k,hd,hl=>by
  simp only[aL]at hd;simp only[slim,cT,b8];rw[yL c i s h _ hd hl]
  cases hec:b8 E call L nf thaw live c s h with
  |none=>rfl
  |some r=>
   obtain⟨e,s1,h1⟩:=r
   cases e<;>simp only[]<;>first|rfl|(split<;>rfl)
 |.loop c,i,s,h,k,hd,hl=>by
  have:=hl 0 c (by simp[bV]);simp only[By]at this;simp only[slim,cT,b8,aT,this]
 |.exit id,i,s,h,k,_,_=>rfl
 |.ret,i,s,h,k,_,_=>rfl
 |.rangeFunc _ _ _ _,i,s,h,k,_,_=>rfl
 |.scope _,i,s,h,k,_,_=>rfl
 |.label _,i,s,h,k,_,_=>rfl
 |.goto _,i,s,h,k,_,_=>rfl
 |.refuse _,i,s,h,k,_,_=>rfl
theorem aUc:∀(c:Code) (i:Nat) (b:Code),(bV c)[i]? =some b->(aL c=true->aL b=true)/\∀(j:Nat) (d:Code),(bV b)[j]? =some d->(bV c)[i+1+j]? =some d:=by
 intro c
 induction c with
 |seq a b iha ihb=>
  intro i d hi;simp only[bV]at hi|-;simp only[aL,Ar]
  by_cases hlt:i<(bV a).length
  ·grind
  ·rw[Bo om]at hi;obtain⟨h1,h2⟩:=ihb _ d hi;refine⟨fun h=>h1 h.2,fun j e he=> ?_⟩;have:=h2 j e he;rw[Bo om];rw[show i+1+j-(bV a).length=i-(bV a).length+1+j from by omega];exact this
 |cond c a b iha ihb=>
  intro i d hi;simp only[bV]at hi|-;simp only[aL,Ar]
  by_cases hlt:i<(bV a).length
  ·grind
  ·rw[Bo om]at hi;obtain⟨h1,h2⟩:=ihb _ d hi;refine⟨fun h=>h1 h.2,fun j e he=> ?_⟩;have:=h2 j e he;rw[Bo om];rw[show i+1+j-(bV a).length=i-(bV a).length+1+j from by omega];exact this
 |block id c ih=>intro i d hi;simp only[bV,aL]at hi|-;exact ih i d hi
 |loop c ih=>
  intro i d hi;simp only[bV,aL]at hi|-
  cases i with
  |zero=>grind
  |succ i=>grind
 |_=>intro i d hi;simp[bV]at hi
def aP(fn:Func):Code:=fn.body.getD .skip
def lpOf(fn:Func)(i:Nat):Code:=(bV (aP fn)).getD i .skip
def aY(fn:Func)(i:Nat):SC:=slim (i+1) (lpOf fn i)
def aS(fn:Func):SC:=slim 0 (aP fn)
def aBx(E:Env)(call:aZ)(L nf:Nat)(thaw:List Nat)(live:List Bool)(c:Code)(m:List Bool)(n:Nat)(k:Exit->List A->H->Option R)(e:Exit)(s:List A)(h:H):Option R:=
 match e with
 |.normal=>aT E call L nf thaw live c m n (gc nf m s h).1 (gc nf m s h).2 k
 |e=>k e (gc nf m s h).1 (gc nf m s h).2
theorem aGj{E:Env}{call:aZ}{L nf:Nat}{thaw:List Nat}{live:List Bool}{fn:Func}(hd:aL (aP fn)=true){i:Nat}(hi:((bV (aP fn))[i]?).isSome=true){m:List Bool}{n:Nat}{s:List A}{h:H}{k:Exit->List A->H->Option R}:
  aT E call L nf thaw live (lpOf fn i) m (n+1) s h k=cT E call L nf thaw live (lpOf fn) (aY fn i) s h (aBx E call L nf thaw live (lpOf fn i) m n k):=by
 obtain⟨b,hb⟩:=Ef.1 hi
 have hlp:∀(j:Nat) (d:Code),(bV (aP fn))[j]? =some d->lpOf fn j=d:=fun j d hj=>by
  unfold lpOf;rw[Aa,hj];rfl
 have hbe:=hlp i b hb;obtain⟨h1,h2⟩:=aUc _ i b hb;unfold aY;rw[hbe,yL b (i+1) s h _ (h1 hd) fun j d hj=>hlp _ d (h2 j d hj)];unfold aT;simp only[uJ]
 cases hev:b8 E call L nf thaw live b s h with
 |none=>rfl
 |some r=>
  obtain⟨e,s1,h1⟩:=r
  cases e<;>rfl
def kFin(P:Program)(nf:Nat)(exp:Bool)(rs:List ResultVar)(e:Exit)(s:List A)(h:H):Option (A×H):=
 if mT e then
  match lY P s h rs with
  |some rs=>match p9 nf exp h rs with
   |some (xs,h2)=>
    let r:=trim nf h2 (dD nf h2 (idsL xs)) xs
    some (tupA r.1,r.2)
   |none=>none
  |none=>none
 else none
theorem aXH {E : Env} {L n : Nat} {f : FuncId} {fn : Func} {args : List A} {h : H} (hp : (E.prim f).isNone = true) (hf : E.P.funcs[f]? = some fn) (hb : fn.body.isSome = true) (hn : (fn.name == "runtime.NumGoroutine") = false) (hd : aL (aP fn) = true) :
  aA E L (n+1) f args h=cT E (aA E L n) L h.length (E.hint f).thaw (E.hint f).live (lpOf fn) (aS fn) (args++List.replicate (fn.ntmps-args.length) (.d .undef)) h (kFin E.P h.length (E.hint f).exp fn.results.toList):=by
 have hp:E.prim f=none:=by simp_all
 obtain⟨c,hc⟩:=Ef.1 hb;have hce:aP fn=c:=by simp[aP,hc]
 rw[hce]at hd;unfold aS;rw[hce,yL c 0 _ _ _ hd fun j d hj=>by unfold lpOf;rw[hce,Ag,Aa,hj];rfl];simp only[aA,hp,hf,hc,hn,Al,if_false,KY]
 cases b8 E (aA E L n) L h.length (E.hint f).thaw (E.hint f).live c (args++List.replicate (fn.ntmps-args.length) (.d .undef)) h with
 |none=>rfl
 |some r=>rfl
theorem LT {E : Env} {L n : Nat} {f : FuncId} {fn : Func} {args : List A} {h : H} {mode : Nat} {exp : Bool} {thaw : List Nat} {live : List Bool} {rs : List ResultVar} (hp : (E.prim f).isNone = true) (hf : E.P.funcs[f]? = some fn) (hb : fn.body.isSome = true) (hn : (fn.name == "runtime.NumGoroutine") = false) (hd : aL (aP fn) = true) (hh : E.hint f = ⟨mode, exp, thaw, live⟩) (hr : fn.results.toList = rs) :
  aA E L (n+1) f args h=cT E (aA E L n) L h.length thaw live (lpOf fn) (aS fn) (args++List.replicate (fn.ntmps-args.length) (.d .undef)) h (kFin E.P h.length exp rs):=by
 rw[aXH hp hf hb hn hd,hh,hr]
end
abbrev Y1(l:List A):List A:=.junk::l
abbrev Y2(l:List A):List A:=.junk::.junk::l
abbrev Y4(l:List A):List A:=.junk::.junk::.junk::.junk::l
abbrev Y8(l:List A):List A:=.junk::.junk::.junk::.junk::.junk::.junk::.junk::.junk::l
abbrev Y16(l:List A):List A:=Y8 (Y8 l)
abbrev Y32(l:List A):List A:=Y16 (Y16 l)
abbrev U1(l:List Bool):List Bool:=true::l
abbrev U2(l:List Bool):List Bool:=true::true::l
abbrev U4(l:List Bool):List Bool:=true::true::true::true::l
abbrev U8(l:List Bool):List Bool:=true::true::true::true::true::true::true::true::l
abbrev U16(l:List Bool):List Bool:=U8 (U8 l)
abbrev U32(l:List Bool):List Bool:=U16 (U16 l)
abbrev Z1(l:List Bool):List Bool:=false::l
abbrev Z2(l:List Bool):List Bool:=false::false::l
abbrev Z4(l:List Bool):List Bool:=false::false::false::false::l
abbrev Z8(l:List Bool):List Bool:=false::false::false::false::false::false::false::false::l
abbrev Z16(l:List Bool):List Bool:=Z8 (Z8 l)
abbrev Z32(l:List Bool):List Bool:=Z16 (Z16 l)
abbrev KE(R:Type):Type:=Exit->List A->H->Option R
abbrev KA(R:Type):Type:=A->H->Option R
abbrev Bz0:List Bool:=Z1 (U2 (U1 (Z1 (U4 (Z1 (U1 (Z8 (Z1 (U2 (Z16 (U2 (U1 (Z8 (Z1 (U2 (U1 (Z32 (Z4 (Z2 ([]))))))))))))))))))))
abbrev Bz1:List Bool:=Z1 (U8 (U4 (U2 (U1 (Z32 (Z32 (Z16 (Z8 (Z2 (Z1 ([])))))))))))
abbrev Bz2:List Bool:=Z4 (U4 (U1 (Z1 (U1 (Z1 (U1 (Z16 (Z4 (Z2 (U2 (U1 (Z2 (Z1 (U2 (U1 (Z2 (Z1 (U2 (U1 (Z16 (Z2 ([]))))))))))))))))))))))
abbrev Bz3:List Bool:=Z2 (U2 (Z4 (Z2 (U2 (Z1 (U2 (U1 (Z1 (U2 (Z8 (Z4 (Z2 (U2 (U1 (Z4 (Z2 (Z1 (U2 (U1 (Z16 (Z1 ([]))))))))))))))))))))))
abbrev Bz4:List Bool:=Z2 (U4 (U1 (Z8 (Z2 (Z1 (U2 (U1 (Z4 (U1 (Z8 (Z1 (U2 (U1 (Z16 ([])))))))))))))))
abbrev Bz5:List Bool:=Z1 (U4 (U1 (Z1 (U1 (Z4 (Z2 (Z1 (U2 (U1 (Z8 (Z4 (Z1 (U2 (U1 (Z16 (Z8 (Z4 (Z2 ([])))))))))))))))))))
abbrev Bz6:List Bool:=U2 (Z2 (U4 (Z1 (U1 (Z8 (Z4 (U2 (U1 (Z4 (U2 (U1 (Z16 ([])))))))))))))
abbrev Bz7:List Bool:=U1 (Z1 (U1 (Z2 (Z1 (U4 (U2 (Z32 (Z4 (Z1 ([]))))))))))
abbrev Bz8:List Bool:=Z1 (U4 (Z2 (Z1 (U4 (U2 (U1 (Z32 (Z8 (Z4 (Z2 (Z1 ([]))))))))))))
abbrev Bz9:List Bool:=Z1 (U2 (U1 (Z4 (U8 (Z16 (U2 (U1 (Z32 (Z8 (Z2 ([])))))))))))
abbrev Bz10:List Bool:=Z1 (U2 (U1 (Z32 (Z2 (U2 (U1 (Z4 (Z2 (Z1 (U2 (U1 (Z8 (Z4 (Z2 ([])))))))))))))))
abbrev Bz11:List Bool:=U2 (Z1 (U2 (U1 (Z2 (Z1 (U2 (U1 (Z2 (U2 (U1 (Z32 (Z1 ([])))))))))))))
abbrev Bz12:List Bool:=Z2 (U1 (Z2 (Z1 (U4 (Z32 (Z4 (Z2 (Z1 ([])))))))))
abbrev Bz13:List Bool:=Z4 (U8 (U1 (Z32 (Z16 (Z8 (Z2 (Z1 ([]))))))))
abbrev Bz14:List Bool:=Z1 (U1 (Z2 (U4 (U1 (Z32 (Z4 (Z2 ([]))))))))
abbrev Bz15:List Bool:=Z1 (U2 (Z1 (U4 (U2 (U1 (Z32 (Z4 ([]))))))))
abbrev Bz16:List Bool:=Z1 (U4 (Z16 (Z8 (Z2 (Z1 ([]))))))
abbrev Bz17:List Bool:=U1 (Z8 (Z4 (Z1 (U32 (U32 (U16 (U8 (U4 (U1 ([]))))))))))
abbrev Bz18:List Bool:=Z1 (U4 (U1 (Z8 (U2 (Z16 (Z8 (Z4 (Z2 (Z1 ([]))))))))))
abbrev Bz19:List Bool:=Z1 (U2 (U1 (Z2 (U4 (U2 (U1 (Z32 (Z2 (Z1 ([]))))))))))
abbrev Bz20:List Bool:=U2 (U1 (Z2 (Z1 (U2 (U1 (Z16 (Z8 (Z2 (Z1 ([]))))))))))
abbrev Bz21:List Bool:=U2 (Z2 (U2 (U1 (Z16 (Z8 (Z4 ([])))))))
abbrev Bz22:List Bool:=Z4 (U2 (U1 (Z32 (Z32 (Z32 (Z8 (Z2 (Z1 ([])))))))))
abbrev Bz23:List Bool:=Z1 (U4 (U2 (U1 (Z32 (Z16 (Z8 (Z4 (Z1 ([])))))))))
abbrev Bz24:List Bool:=U4 (U1 (Z4 (Z1 (U4 (U1 (Z32 (Z16 (Z1 ([])))))))))
abbrev Bz25:List Bool:=U1 (Z1 (U2 (U1 (Z16 (Z8 (Z4 (Z2 (Z1 ([])))))))))
abbrev Bz26:List Bool:=Z1 (U2 (Z4 (U1 (Z16 (Z2 (Z1 (U2 (U1 (Z8 (Z4 (Z2 (Z1 ([])))))))))))))
abbrev Bz27:List Bool:=U1 (Z4 (U16 (U8 (U2 (U1 ([]))))))
abbrev Bz28:List Bool:=Z2 (U1 (Z2 (Z1 (U2 (U1 (Z2 (Z1 (U2 (Z2 (Z1 (U32 (U1 ([])))))))))))))
abbrev Bz29:List Bool:=Z1 (U4 (U1 (Z1 (U2 (Z32 (Z2 (Z1 ([]))))))))
abbrev Bz30:List Bool:=U1 (Z1 (U2 (Z1 (U1 (Z8 (Z2 (Z1 ([]))))))))
abbrev Bz31:List Bool:=U1 (Z2 (Z1 (U4 (Z4 (Z2 (Z1 (U32 (U16 (U8 (U4 (U2 ([]))))))))))))
abbrev Bz32:List Bool:=U1 (Z8 (Z4 (Z2 (Z1 (U32 (U32 (U16 (U8 (U2 (U1 ([])))))))))))
abbrev Bz33:List Bool:=Z2 (U8 (U1 (Z32 (Z16 (Z8 (Z4 ([])))))))
abbrev Bz34:List Bool:=Z2 (Z1 (U2 (Z1 (U2 (Z16 (Z2 (U2 (U1 (Z8 (Z4 ([])))))))))))
abbrev Bz35:List Bool:=Z2 (Z1 (U2 (Z1 (U2 (U1 (Z1 (U1 (Z32 (Z4 (Z1 ([])))))))))))
abbrev Bz36:List Bool:=Z1 (U4 (U2 (Z32 (Z4 ([])))))
abbrev Bz37:List Bool:=Z1 (U1 (Z2 (U2 (U1 (Z8 (Z4 (Z2 (U2 (Z8 (Z4 ([])))))))))))
abbrev Bz38:List Bool:=U2 (Z2 (U2 (Z8 (Z4 ([])))))
abbrev Bz39:List Bool:=U1 (Z1 (U1 (Z2 (Z1 (U2 (Z16 (Z4 (Z2 (Z1 ([]))))))))))
abbrev Bz40:List Bool:=Z1 (U1 (Z1 (U2 (U1 (Z4 (Z2 (U32 (U4 (U1 ([]))))))))))
abbrev Bz41:List Bool:=Z1 (U1 (Z1 (U2 (U1 (Z4 (U32 (U4 (U2 (U1 ([]))))))))))
abbrev Bz42:List Bool:=Z1 (U4 (U1 (Z32 (Z8 (Z1 ([]))))))
abbrev Bz43:List Bool:=Z1 (U4 (U1 (Z32 (Z2 (Z1 ([]))))))
abbrev Bz44:List Bool:=U4 (Z2 (Z1 (U32 (U32 (U32 (U8 (U2 (U1 ([])))))))))
abbrev Bz45:List Bool:=U2 (Z1 (U2 (U1 (Z4 (U32 (U4 (U2 (U1 ([])))))))))
abbrev Bz46:List Bool:=Z1 (U1 (Z2 (Z1 (U16 (U8 (U4 (U2 (U1 ([])))))))))
abbrev Bz47:List Bool:=U1 (Z1 (U2 (U1 (Z16 (Z8 (Z2 (Z1 ([]))))))))
abbrev Bz48:List Bool:=U1 (Z1 (U2 (Z16 (Z8 ([])))))
abbrev Bz49:List Bool:=Z1 (U4 (Z2 (Z1 (U2 (Z32 (Z8 (Z2 ([]))))))))
abbrev Bz50:List Bool:=U1 (Z2 (U1 (Z4 (Z2 (Z1 (U32 (U4 ([]))))))))
abbrev Bz51:List Bool:=U1 (Z1 (U2 (Z4 (U32 (U4 (U2 (U1 ([]))))))))
abbrev Bz52:List Bool:=U2 (Z2 (U1 (Z8 (Z2 (U2 (Z8 (Z1 ([]))))))))
abbrev Bz53:List Bool:=Z1 (U2 (U1 (Z2 (U2 (Z8 (Z4 (Z1 ([]))))))))
abbrev Bz54:List Bool:=Z1 (U1 (Z2 (U1 (Z1 (U8 (U2 (U1 ([]))))))))
abbrev Bz55:List Bool:=Z1 (U2 (U1 (Z8 (U2 (Z16 (Z1 ([])))))))
abbrev Bz56:List Bool:=U2 (Z2 (U2 (U1 (Z16 (Z8 (Z2 ([])))))))
abbrev Bz57:List Bool:=Z2 (U2 (Z2 (U16 (U8 (U4 (U1 ([])))))))
abbrev Bz58:List Bool:=U2 (Z2 (U1 (Z2 (U2 (Z8 (Z2 ([])))))))
abbrev Bz59:List Bool:=U1 (Z1 (U2 (U1 (Z8 (Z4 (Z1 ([])))))))
abbrev Bz60:List Bool:=U2 (Z2 (U2 (U1 (Z8 (Z2 (Z1 ([])))))))
abbrev Bz61:List Bool:=Z1 (U4 (Z32 (Z4 (Z2 (Z1 ([]))))))
abbrev Bz62:List Bool:=U2 (Z2 (U2 (U1 (Z32 (Z8 ([]))))))
abbrev Bz63:List Bool:=U2 (Z2 (U2 (U1 (Z16 (Z4 ([]))))))
abbrev Bz64:List Bool:=U2 (Z2 (U2 (U1 (Z16 (Z2 ([]))))))
abbrev Bz65:List Bool:=U1 (Z1 (U2 (Z16 (Z2 (Z1 ([]))))))
abbrev Bz66:List Bool:=Z2 (U4 (Z16 (Z8 (Z2 ([])))))
abbrev Bz67:List Bool:=Z1 (U1 (Z2 (U16 (U8 ([])))))
abbrev Bz68:List Bool:=U1 (Z4 (U32 (U4 (U2 ([])))))
abbrev Bz69:List Bool:=U2 (Z2 (U2 (Z8 (Z1 ([])))))
abbrev Bz70:List Bool:=Z2 (U2 (Z2 (U8 (U4 ([])))))
end
def MX(a b:Int):Int:=if a<b then -1 else if b<a then 1 else 0
def aHW:List Int->Int
 | []=>0
 |a::l=>if a=0 then aHW l else a
def EY:List D->Option (List (List UInt8))
 | []=>some []
 |.str s::ds=>(EY ds).map (s::·)
 |_=>none
def cmpB(x y:List UInt8):Int:=if Op.bytesLess x y=true then -1 else if Op.bytesLess y x=true then 1 else 0
def cmpX(x y:List UInt8):Int:=aHW [MX x.length y.length,cmpB x y]
def leX(x y:List UInt8):Bool:=!decide (cmpX y x<0)
def MK(g:FuncId)(args:List A)(h:H):Option (A×H):=match args with
 | [.sl id gen off len,.clo f []]=>match h[id]? with
  |some (.arr cs e gg)=>if f=g/\gg=gen/\off=0/\(len=0\/e=1)/\len<=cs.length/\len<=bI then
    match EY (cs.take len)with
    |some l=>some (.tup [],h.set id (.arr ((l.mergeSort leX).map .str++cs.drop len) e gg))
    |none=>none
   else none
  |_=>none
 |_=>none
def ES:List (D×D)->Option (List (List UInt8))
 | []=>some []
 |(.str s,_)::es=>(ES es).map (s::·)
 |_::_=>none
def CZ(it g:FuncId)(args:List A)(h:H):Option (A×H):=match args with
 | [.clo f [.ptr id gen off],.clo c []]=>match h[id]? with
  |some (.box [.mp mid])=>match h[mid]? with
   |some (.mp es)=>if f=it/\c=g/\gen=0/\off=0/\0<es.length/\es.length<=bI then
     match ES es with
     |some l=>if l.all (fun s=>decide (s.length<=bI))=true then some (.sl h.length 0 0 es.length,h++[.arr ((l.mergeSort leX).map .str) 1 0])else none
     |none=>none
    else none
   |_=>none
  |_=>none
 |_=>none
def gCtz:List A->H->Option (A×H):=fun args h=>match args with
 | [.d (.int .u64 n)]=>if 0<=n/\n<18446744073709551616 then some (.d (.int .i64 (Lib.ctz 64 n.toNat)),h)else none
 |_=>none
end Ev
end Go.Proofs.YtppffbehejpglaaGreatDoor
