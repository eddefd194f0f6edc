/-
  The evaluator in the form in which it is walked: what comes after is handed over; code without what is not looked at.
-/
import Derived.Test.YtahbdkmimmnadaaGreatDoorEvDraw
import Derived.Test.YtahbdkmimmnadaaGreatDoorEvDef
import Derived.Lib.TrailingZeros
set_option linter.unusedSimpArgs false
set_option linter.unusedVariables false
set_option linter.unusedSectionVars false
namespace Go.Proofs.YtahbdkmimmnadaaGreatDoor
namespace Ev
section
structure SO where
 dst:Option Tmp
 op:Op
 guard:Option (Option Tmp×Bool)
inductive SC where
 |skip
 |ops (l:List SO)
 |drawn (l:List SO) (src:Array Oper)
 |seq (a b:SC)
 |cond (c:Operand) (x y:SC)
 |block (id:Nat) (c:SC)
 |loop (i:Nat)
 |exit (id:Nat)
 |ret
 |bad
def HI(ops:List Oper):Option (Nat×Bool)->Option (Option Tmp×Bool)
 |none=>none
 |some (j,w)=>some ((ops[j]?).bind (·.dst),w)
def ED(ops:List Oper)(o:Oper):SO:=⟨o.dst,o.op,HI ops o.guard⟩
def bK:Code->List Code
 |.seq a b=>bK a++bK b
 |.cond _ x y=>bK x++bK y
 |.block _ c=>bK c
 |.loop c=>c::bK c
 |_=>[]
def slim(i:Nat):Code->SC
 |.skip=>.skip
 |.region _ ops draw=>if draw then .drawn (ops.toList.map (ED ops.toList)) ops else .ops (ops.toList.map (ED ops.toList))
 |.seq a b=>.seq (slim i a) (slim (i+(bK a).length) b)
 |.cond c x y=>.cond c (slim i x) (slim (i+(bK x).length) y)
 |.block id c=>.block id (slim i c)
 |.loop _=>.loop i
 |.exit id=>.exit id
 |.ret=>.ret
 |_=>.bad
def aM:Code->Bool
 |.region _ ops draw=> !draw||Region.lexB .any ops
 |.seq a b=>aM a&&aM b
 |.cond _ x y=>aM x&&aM y
 |.block _ c=>aM c
 |.loop c=>aM c
 |_=>true
section
variable{R:Type}
def kv(s:List A)(x:Operand)(k:A->Option R):Option R:=
 match dB s x with
 |some a=>k a
 |none=>none
def kvs(s:List A)(xs:List Operand)(k:List A->Option R):Option R:=
 match bP s xs with
 |some vs=>k vs
 |none=>none
def dV (dst : Option Tmp) (op : Op) : Oper := ⟨dst, op, 0, "", #[], none⟩
def kOp(E:Env)(call:aW)(thaw:List Nat)(dst:Option Tmp)(op:Op)(s:List A)(h:H)(k:A->H->Option R):Option R:=
 kvs s (opds op) fun vs=>
  if tQ op then
   match iP E call thaw h (dV dst op) vs with
   |some (a,h',_)=>k a h'
   |none=>none
  else match evOp E call thaw h (dV dst op) vs with
   |some (a,h')=>k a h'
   |none=>none
def tE(g:Option (Option Tmp×Bool))(s:List A)(yes:List A->Option R)(no:List A->Option R):Option R:=
 match g with
 |none=>yes s
 |some (none,_)=>none
 |some (some t,w)=>match s[t]? with
  |some (.d (.bool b))=>if b=w then yes (s.set t (.d (.bool w)))else no (s.set t (.d (.bool (!w))))
  |some (.d .undef)=>no s
  |_=>none
def kOps(E:Env)(call:aW)(thaw:List Nat):List SO->List A->H->(List A->H->Option R)->Option R
 | [],s,h,k=>k s h
 |⟨dst,op,g⟩::os,s,h,k=>tE g s
  (fun s=>kOp E call thaw dst op s h fun a h'=>kOps E call thaw os (aPut s dst a) h' k)
  (fun s=>kOps E call thaw os (aPut s dst (.d .undef)) h k)
def kOpD(E:Env)(call:aW)(thaw:List Nat)(dst:Option Tmp)(op:Op)(s:List A)(h:H)(k:A->H->Foot->Option R):Option R:=
 kvs s (opds op) fun vs=>
  if oU op then
   match evOp E call thaw h (dV dst op) vs with
   |some (a,_)=>k a h {}
   |none=>none
  else if pK op then
   match evOp E call thaw h (dV dst op) vs with
   |some (a,_)=>k a h { ids:=ids0 vs,ro:=true}
   |none=>none
  else match iP E call thaw h (dV dst op) vs with
   |some (a,h',ord,n)=>if hZ E op vs&&n==0 then k a h { ids:=ord,ro:=true}else k a h' { ids:=ord++List.range' h.length n,ro:=false,wr:=wrOf E op vs ord++List.range' h.length n}
   |none=>none
def uA(E:Env)(call:aW)(thaw:List Nat):List SO->List A->H->List Foot->(List A->H->List Foot->Option R)->Option R
 | [],s,h,cs,k=>k s h cs
 |⟨dst,op,g⟩::os,s,h,cs,k=>tE g s
  (fun s=>kOpD E call thaw dst op s h fun a h' c=>uA E call thaw os (aPut s dst a) h' (cs++[c]) k)
  (fun s=>uA E call thaw os (aPut s dst (.d .undef)) h (cs++[{}]) k)
def aV(E:Env)(call:aW)(L nf:Nat)(thaw:List Nat)(live:List Bool)(c:Code)(m:List Bool)(n:Nat)(s:List A)(h:H)(k:Exit->List A->H->Option R):Option R:=
 match qL (bS E call L nf thaw live c) nf m n s h with
 |some (e,s',h')=>k e s' h'
 |none=>none
def eJ(E:Env)(call:aW)(L nf:Nat)(thaw:List Nat)(live:List Bool)(lp:Nat->Code):SC->List A->H->(Exit->List A->H->Option R)->Option R
 |.skip,s,h,k=>k .normal s h
 |.ops l,s,h,k=>kOps E call thaw l s h fun s h=>k .normal s h
 |.drawn l src,s,h,k=>uA E call thaw l s h [] fun s h cs=>if nK src.toList cs then k .normal s h else none
 |.seq a b,s,h,k=>eJ E call L nf thaw live lp a s h fun e s h=>match e with
  |.normal=>eJ E call L nf thaw live lp b s h k
  |e=>k e s h
 |.cond c x y,s,h,k=>kv s c fun a=>match a with
  |.d (.bool b)=>if b=true then eJ E call L nf thaw live lp x s h k else eJ E call L nf thaw live lp y s h k
  |_=>none
 |.block id c,s,h,k=>eJ E call L nf thaw live lp c s h fun e s h=>match e with
  |.exit i=>if i=id then k .normal s h else k (.exit i) s h
  |e=>k e s h
 |.loop i,s,h,k=>aV E call L nf thaw live (lp i) (pX live s) L (gc nf (pX live s) s h).1 (gc nf (pX live s) s h).2 k
 |.exit id,s,h,k=>k (.exit id) s h
 |.ret,s,h,k=>k .ret s h
 |.bad,_,_,_=>none
theorem aCg{E:Env}{call:aW}{thaw:List Nat}{h:H}(o:Oper)(vs:List A):evOp E call thaw h (dV o.dst o.op) vs=evOp E call thaw h o vs:=by
 obtain⟨dst,op,type,pos,after,guard⟩:=o
 cases op<;>rfl
theorem aF0{E:Env}{call:aW}{thaw:List Nat}{h:H}(o:Oper)(vs:List A):iP E call thaw h (dV o.dst o.op) vs=iP E call thaw h o vs:=by
 unfold iP;simp only[aCg]
theorem aNi{s:List A}{t:Nat}{a:A}(h:s[t]? =some a):s.set t a=s:=by
 apply Cn;intro j;obtain⟨hl,he⟩:=Ar.1 h
 by_cases e:t=j
 ·grind
 ·simp[e]
theorem aFz{ops:List Oper}{o:Oper}{s:List A}{yes no:List A->Option R}:tE (HI ops o.guard) s yes no=match qH ops s o with
  |some true=>yes s
  |some false=>no s
  |none=>none:=by
 unfold qH
 cases hg:o.guard with
 |none=>simp[HI,tE]
 |some jw=>
  obtain⟨j,w⟩:=jw;simp only[HI,tE]
  cases hd:(ops[j]?).bind (·.dst)with
  |none=>rfl
  |some t=>
   simp only[]
   cases ht:s[t]? with
   |none=>rfl
   |some a=>
    cases a with
    |d x=>
     cases x with
     |bool b=>
      cases b<;>cases w<;>simp[aNi ht]
     |_=>rfl
    |_=>rfl
theorem TD{E:Env}{call:aW}{thaw:List Nat}{ops:List Oper}:∀(os:List Oper) (s:List A) (h:H) (k:List A->H->Option R),
  kOps E call thaw (os.map (ED ops)) s h k=match x6 E call thaw ops os s h with
   |some (s',h')=>k s' h'
   |none=>none
 | [],s,h,k=>by simp[kOps,x6]
 |o::os,s,h,k=>by
  simp only[Ag,ED,kOps,aFz,x6,AY]
  cases qH ops s o with
  |none=>rfl
  |some b=>
   cases b with
   |false=>simp only[];exact TD os _ _ _
   |true=>
    simp only[kOp,kvs,aF0,aCg]
    cases bP s (opds o.op)with
    |none=>rfl
    |some vs=>
     cases hc:tQ o.op with
     |true=>
      simp only[if_true]
      cases iP E call thaw h o vs with
      |none=>rfl
      |some r=>simp only[];exact TD os _ _ _
     |false=>
      simp only[Aj,if_false]
      cases evOp E call thaw h o vs with
      |none=>rfl
      |some r=>simp only[];exact TD os _ _ _
theorem aFk{E:Env}{call:aW}{thaw:List Nat}{ops:List Oper}:∀(os:List Oper) (s:List A) (h:H) (cs:List Foot) (k:List A->H->List Foot->Option R),
  uA E call thaw (os.map (ED ops)) s h cs k=match kP E call thaw ops os s h with
   |some (s',h',cs')=>k s' h' (cs++cs')
   |none=>none
 | [],s,h,cs,k=>by simp[uA,kP]
 |o::os,s,h,cs,k=>by
  have fin:∀(s1:List A) (h1:H) (c:Foot),uA E call thaw (os.map (ED ops)) s1 h1 (cs++[c]) k=match(match kP E call thaw ops os s1 h1 with
    |some (s2,h2,cs)=>some (s2,h2,c::cs)
    |none=>none)with
   |some (s',h',cs')=>k s' h' (cs++cs')
   |none=>none:=by
   intro s1 h1 c;rw[aFk os]
   cases kP E call thaw ops os s1 h1 with
   |none=>rfl
   |some r=>simp
  simp only[Ag,ED,uA,aFz,kP,vT]
  cases qH ops s o with
  |none=>rfl
  |some b=>
   cases b with
   |false=>grind
   |true=>
    simp only[kOpD,kvs,aF0,aCg]
    cases bP s (opds o.op)with
    |none=>rfl
    |some vs=>grind
theorem vI{E:Env}{call:aW}{L nf:Nat}{thaw:List Nat}{live:List Bool}{lp:Nat->Code}:∀(c:Code) (i:Nat) (s:List A) (h:H) (k:Exit->List A->H->Option R),aM c=true->(∀(j:Nat) (b:Code),(bK c)[j]? =some b->lp (i+j)=b)->
  eJ E call L nf thaw live lp (slim i c) s h k=match bS E call L nf thaw live c s h with
   |some (e,s',h')=>k e s' h'
   |none=>none
 |.skip,i,s,h,k,_,_=>rfl
 |.region id ops draw,i,s,h,k,hd,_=>by
  cases draw with
  |false=>
   simp only[slim,eJ,bS,mD,Aj,if_false,TD]
   cases x6 E call thaw ops.toList ops.toList s h<;>rfl
  |true=>
   simp only[aM,Dg,Bool.false_or]at hd;simp only[slim,eJ,bS,mD,if_true,aFk,hd,Cu]
   cases kP E call thaw ops.toList ops.toList s h with
   |none=>rfl
   |some r=>
    obtain⟨s',h',cs⟩:=r;simp only[Am]
    by_cases hcf:nK ops.toList cs=true
    ·simp[hcf]
    ·simp[hcf]
 |.seq a b,i,s,h,k,hd,hl=>by
  simp only[aM,Ap]at hd;simp only[slim,eJ,bS];rw[vI a i s h _ hd.1 fun j c hj=>hl j c (by simp only[bK];rw[Bb (Ar.1 hj).1];exact hj)]
  have hb:∀(j:Nat) (c:Code),(bK b)[j]? =some c->lp (i+(bK a).length+j)=c:=fun j c hj=>by
   rw[show i+(bK a).length+j=i+((bK a).length+j)from by omega];exact hl _ c (by simp only[bK];rw[Bq om];simpa using hj)
  cases hea:bS E call L nf thaw live a s h with
  |none=>rfl
  |some r=>
   obtain⟨e,s1,h1⟩:=r
   cases e<;>simp only[]<;>first|exact vI b _ s1 h1 k hd.2 hb|rfl
 |.cond c x y,i,s,h,k,hd,hl=>by
  simp only[aM,Ap]at hd;simp only[slim,eJ,bS,kv];have hx:=vI (E:=E) (call:=call) (L:=L) (nf:=nf) (thaw:=thaw) (live:=live) x i s h k hd.1 fun j c hj=>hl j c (by simp only[bK];rw[Bb (Ar.1 hj).1];exact hj)
  have hy:=vI (E:=E) (call:=call) (L:=L) (nf:=nf) (thaw:=thaw) (live:=live) y (i+(bK x).length) s h k hd.2 fun j c hj=>by
   rw[show i+(bK x).length+j=i+((bK x).length+j)from by omega];exact hl _ c (by simp only[bK];rw[Bq om];simpa using hj)
  generalize dB s c=z
  cases z with
  |none=>rfl
  |some a=>
   cases a with
   |d v=>
    cases v with
    |bool b=>cases b<;>simp[hx,hy]
    |_=>rfl
   |_=>rfl
 |.block id c,i,s,h,k,hd,hl=>by
  simp only[aM]at hd;simp only[slim,eJ,bS];rw[vI c i s h _ hd hl]
  cases hec:bS E call L nf thaw live c s h with
  |none=>rfl
  |some r=>
   obtain⟨e,s1,h1⟩:=r
   cases e<;>simp only[]<;>first|rfl|(split<;>rfl)
 |.loop c,i,s,h,k,hd,hl=>by
  have:=hl 0 c (by simp[bK]);simp only[Br]at this;simp only[slim,eJ,bS,aV,this]
 |.exit id,i,s,h,k,_,_=>rfl
 |.ret,i,s,h,k,_,_=>rfl
 |.rangeFunc _ _ _ _,i,s,h,k,_,_=>rfl
 |.scope _,i,s,h,k,_,_=>rfl
 |.label _,i,s,h,k,_,_=>rfl
 |.goto _,i,s,h,k,_,_=>rfl
 |.refuse _,i,s,h,k,_,_=>rfl
theorem aNl:∀(c:Code) (i:Nat) (b:Code),(bK c)[i]? =some b->(aM c=true->aM b=true)/\∀(j:Nat) (d:Code),(bK b)[j]? =some d->(bK c)[i+1+j]? =some d:=by
 intro c
 induction c with
 |seq a b iha ihb=>
  intro i d hi;simp only[bK]at hi|-;simp only[aM,Ap]
  by_cases hlt:i<(bK a).length
  ·grind
  ·rw[Bq om]at hi;obtain⟨h1,h2⟩:=ihb _ d hi;refine⟨fun h=>h1 h.2,fun j e he=> ?_⟩;have:=h2 j e he;rw[Bq om];rw[show i+1+j-(bK a).length=i-(bK a).length+1+j from by omega];exact this
 |cond c a b iha ihb=>
  intro i d hi;simp only[bK]at hi|-;simp only[aM,Ap]
  by_cases hlt:i<(bK a).length
  ·grind
  ·rw[Bq om]at hi;obtain⟨h1,h2⟩:=ihb _ d hi;refine⟨fun h=>h1 h.2,fun j e he=> ?_⟩;have:=h2 j e he;rw[Bq om];rw[show i+1+j-(bK a).length=i-(bK a).length+1+j from by omega];exact this
 |block id c ih=>intro i d hi;simp only[bK,aM]at hi|-;exact ih i d hi
 |loop c ih=>
  intro i d hi;simp only[bK,aM]at hi|-
  cases i with
  |zero=>grind
  |succ i=>grind
 |_=>intro i d hi;simp[bK]at hi
def aO(fn:Func):Code:=fn.body.getD .skip
def lpOf(fn:Func)(i:Nat):Code:=(bK (aO fn)).getD i .skip
def bC(fn:Func)(i:Nat):SC:=slim (i+1) (lpOf fn i)
def aX(fn:Func):SC:=slim 0 (aO fn)
def aAB(E:Env)(call:aW)(L nf:Nat)(thaw:List Nat)(live:List Bool)(c:Code)(m:List Bool)(n:Nat)(k:Exit->List A->H->Option R)(e:Exit)(s:List A)(h:H):Option R:=
 match e with
 |.normal=>aV E call L nf thaw live c m n (gc nf m s h).1 (gc nf m s h).2 k
 |e=>k e (gc nf m s h).1 (gc nf m s h).2
theorem aJa{E:Env}{call:aW}{L nf:Nat}{thaw:List Nat}{live:List Bool}{fn:Func}(hd:aM (aO fn)=true){i:Nat}(hi:((bK (aO fn))[i]?).isSome=true){m:List Bool}{n:Nat}{s:List A}{h:H}{k:Exit->List A->H->Option R}:
  aV E call L nf thaw live (lpOf fn i) m (n+1) s h k=eJ E call L nf thaw live (lpOf fn) (bC fn i) s h (aAB E call L nf thaw live (lpOf fn i) m n k):=by
 obtain⟨b,hb⟩:=Eg.1 hi
 have hlp:∀(j:Nat) (d:Code),(bK (aO fn))[j]? =some d->lpOf fn j=d:=fun j d hj=>by
  unfold lpOf;rw[Ab,hj];rfl
 have hbe:=hlp i b hb;obtain⟨h1,h2⟩:=aNl _ i b hb;unfold bC;rw[hbe,vI b (i+1) s h _ (h1 hd) fun j d hj=>hlp _ d (h2 j d hj)];unfold aV;simp only[qL]
 cases hev:bS E call L nf thaw live b s h with
 |none=>rfl
 |some r=>
  obtain⟨e,s1,h1⟩:=r
  cases e<;>rfl
def kFin(P:Program)(nf:Nat)(exp:Bool)(rs:List ResultVar)(e:Exit)(s:List A)(h:H):Option (A×H):=
 if lM e then
  match kR P s h rs with
  |some rs=>match nU nf exp h rs with
   |some (xs,h2)=>
    let r:=trim nf h2 (dK nf h2 (idsL xs)) xs
    some (tupA r.1,r.2)
   |none=>none
  |none=>none
 else none
theorem aPV {E : Env} {L n : Nat} {f : FuncId} {fn : Func} {args : List A} {h : H} (hp : (E.prim f).isNone = true) (hf : E.P.funcs[f]? = some fn) (hb : fn.body.isSome = true) (hn : (fn.name == "runtime.NumGoroutine") = false) (hd : aM (aO fn) = true) :
  aA E L (n+1) f args h=eJ E (aA E L n) L h.length (E.hint f).thaw (E.hint f).live (lpOf fn) (aX fn) (args++List.replicate (fn.ntmps-args.length) (.d .undef)) h (kFin E.P h.length (E.hint f).exp fn.results.toList):=by
 have hp:E.prim f=none:=by simp_all
 obtain⟨c,hc⟩:=Eg.1 hb;have hce:aO fn=c:=by simp[aO,hc]
 rw[hce]at hd;unfold aX;rw[hce,vI c 0 _ _ _ hd fun j d hj=>by unfold lpOf;rw[hce,Af,Ab,hj];rfl];simp only[aA,hp,hf,hc,hn,Aj,if_false,FT]
 cases bS E (aA E L n) L h.length (E.hint f).thaw (E.hint f).live c (args++List.replicate (fn.ntmps-args.length) (.d .undef)) h with
 |none=>rfl
 |some r=>rfl
theorem aPK {E : Env} {L n : Nat} {f : FuncId} {fn : Func} {args : List A} {h : H} {mode : Nat} {exp : Bool} {thaw : List Nat} {live : List Bool} {rs : List ResultVar} (hp : (E.prim f).isNone = true) (hf : E.P.funcs[f]? = some fn) (hb : fn.body.isSome = true) (hn : (fn.name == "runtime.NumGoroutine") = false) (hd : aM (aO fn) = true) (hh : E.hint f = ⟨mode, exp, thaw, live⟩) (hr : fn.results.toList = rs) :
  aA E L (n+1) f args h=eJ E (aA E L n) L h.length thaw live (lpOf fn) (aX fn) (args++List.replicate (fn.ntmps-args.length) (.d .undef)) h (kFin E.P h.length exp rs):=by
 rw[aPV hp hf hb hn hd,hh,hr]
end
abbrev Y1(l:List A):List A:=.junk::l
abbrev Y2(l:List A):List A:=.junk::.junk::l
abbrev Y4(l:List A):List A:=.junk::.junk::.junk::.junk::l
abbrev Y8(l:List A):List A:=.junk::.junk::.junk::.junk::.junk::.junk::.junk::.junk::l
abbrev Y16(l:List A):List A:=Y8 (Y8 l)
abbrev Y32(l:List A):List A:=Y16 (Y16 l)
abbrev U1(l:List Bool):List Bool:=true::l
abbrev U2(l:List Bool):List Bool:=true::true::l
abbrev U4(l:List Bool):List Bool:=true::true::true::true::l
abbrev U8(l:List Bool):List Bool:=true::true::true::true::true::true::true::true::l
abbrev U16(l:List Bool):List Bool:=U8 (U8 l)
abbrev U32(l:List Bool):List Bool:=U16 (U16 l)
abbrev Z1(l:List Bool):List Bool:=false::l
abbrev Z2(l:List Bool):List Bool:=false::false::l
abbrev Z4(l:List Bool):List Bool:=false::false::false::false::l
abbrev Z8(l:List Bool):List Bool:=false::false::false::false::false::false::false::false::l
abbrev Z16(l:List Bool):List Bool:=Z8 (Z8 l)
abbrev Z32(l:List Bool):List Bool:=Z16 (Z16 l)
abbrev KE(R:Type):Type:=Exit->List A->H->Option R
abbrev KA(R:Type):Type:=A->H->Option R
abbrev Bz0:List Bool:=Z1 (U4 (Z2 (Z1 (U4 (U1 (Z1 (U1 (Z1 (U1 (Z32 (Z8 (U2 (U1 (Z2 (Z1 (U2 (U1 (Z16 (Z8 (Z1 ([])))))))))))))))))))))
abbrev Bz1:List Bool:=Z2 (U4 (U1 (Z8 (Z2 (Z1 (U2 (U1 (Z4 (U1 (Z8 (Z1 (U2 (U1 (Z16 ([])))))))))))))))
abbrev Bz2:List Bool:=Z1 (U8 (U4 (U2 (U1 (Z32 (Z32 (Z16 (Z8 (Z2 (Z1 ([])))))))))))
abbrev Bz3:List Bool:=Z2 (U2 (Z4 (Z2 (U2 (Z1 (U2 (U1 (Z1 (U2 (Z8 (Z4 (Z2 (U2 (U1 (Z4 (Z2 (Z1 (U2 (U1 (Z16 (Z1 ([]))))))))))))))))))))))
abbrev Bz4:List Bool:=U1 (Z1 (U1 (Z2 (Z1 (U4 (U2 (Z32 (Z4 (Z1 ([]))))))))))
abbrev Bz5:List Bool:=Z1 (U4 (Z2 (Z1 (U4 (U2 (U1 (Z32 (Z8 (Z4 (Z2 (Z1 ([]))))))))))))
abbrev Bz6:List Bool:=Z1 (U2 (U1 (Z32 (Z2 (U2 (U1 (Z4 (Z2 (Z1 (U2 (U1 (Z8 (Z4 (Z2 ([])))))))))))))))
abbrev Bz7:List Bool:=U1 (Z4 (U2 (U1 (Z4 (Z1 (U1 (Z1 (U1 (Z1 (U32 (U8 (Z2 (Z1 (U2 (U1 (Z2 (Z1 (U16 (U8 (U1 ([])))))))))))))))))))))
abbrev Bz8:List Bool:=U2 (Z1 (U2 (U1 (Z2 (Z1 (U2 (U1 (Z2 (U2 (U1 (Z32 (Z1 ([])))))))))))))
abbrev Bz9:List Bool:=Z2 (U1 (Z2 (Z1 (U4 (Z32 (Z4 (Z2 (Z1 ([])))))))))
abbrev Bz10:List Bool:=U1 (Z1 (U2 (Z4 (U4 (U2 (Z32 (Z4 (Z2 ([])))))))))
abbrev Bz11:List Bool:=U1 (Z4 (U2 (U1 (Z4 (Z1 (U1 (Z1 (U32 (U8 (U2 (Z2 (Z1 (U16 (U8 (U4 (U2 (U1 ([]))))))))))))))))))
abbrev Bz12:List Bool:=U1 (Z1 (U1 (Z1 (U1 (Z1 (U4 (U1 (Z32 (Z4 (Z2 ([])))))))))))
abbrev Bz13:List Bool:=Z1 (U4 (Z16 (Z8 (Z2 (Z1 ([]))))))
abbrev Bz14:List Bool:=U1 (Z8 (Z4 (Z1 (U32 (U32 (U16 (U8 (U4 (U1 ([]))))))))))
abbrev Bz15:List Bool:=Z1 (U2 (Z16 (Z1 (U2 (U1 (Z32 (Z8 (Z4 (Z1 ([]))))))))))
abbrev Bz16:List Bool:=Z1 (U2 (U1 (Z2 (U4 (U2 (U1 (Z32 (Z2 (Z1 ([]))))))))))
abbrev Bz17:List Bool:=U2 (U1 (Z2 (Z1 (U2 (U1 (Z16 (Z8 (Z2 (Z1 ([]))))))))))
abbrev Bz18:List Bool:=U2 (Z2 (Z1 (U8 (U4 (U1 (Z2 (Z1 (U32 (U1 ([]))))))))))
abbrev Bz19:List Bool:=U1 (Z1 (U1 (Z1 (U1 (Z1 (U2 (U1 (Z16 (Z8 (Z2 (U2 (U1 (Z16 (Z8 ([])))))))))))))))
abbrev Bz20:List Bool:=U2 (Z2 (U2 (U1 (Z16 (Z8 (Z4 ([])))))))
abbrev Bz21:List Bool:=U2 (Z4 (Z1 (U8 (U2 (U1 (Z2 (Z1 (U4 (Z1 (U8 (U1 (Z2 (Z1 (U16 ([])))))))))))))))
abbrev Bz22:List Bool:=Z4 (U2 (U1 (Z32 (Z32 (Z32 (Z8 (Z2 (Z1 ([])))))))))
abbrev Bz23:List Bool:=U4 (U1 (Z4 (Z1 (U4 (U1 (Z32 (Z16 (Z1 ([])))))))))
abbrev Bz24:List Bool:=Z2 (U1 (Z1 (U2 (Z4 (Z1 (U2 (Z1 (U1 (Z32 (Z16 (Z4 (Z1 ([])))))))))))))
abbrev Bz25:List Bool:=U2 (Z4 (Z1 (U8 (U2 (U1 (Z2 (Z1 (U4 (Z1 (U16 (U8 (U4 ([])))))))))))))
abbrev Bz26:List Bool:=Z2 (U1 (Z2 (Z1 (U2 (U1 (Z2 (Z1 (U2 (Z2 (Z1 (U32 (U1 ([])))))))))))))
abbrev Bz27:List Bool:=U1 (Z4 (U16 (U8 (U2 (U1 ([]))))))
abbrev Bz28:List Bool:=Z2 (U2 (Z4 (U2 (U1 (Z16 (Z4 (Z1 ([]))))))))
abbrev Bz29:List Bool:=Z2 (Z1 (U4 (U1 (Z1 (U2 (Z32 (Z32 (Z16 (Z8 (Z4 (Z2 ([]))))))))))))
abbrev Bz30:List Bool:=U1 (Z1 (U1 (Z1 (U1 (Z1 (U2 (U1 (Z32 (Z16 (Z8 (Z1 ([]))))))))))))
abbrev Bz31:List Bool:=U1 (Z1 (U2 (Z1 (U1 (Z8 (Z2 (Z1 ([]))))))))
abbrev Bz32:List Bool:=Z2 (U4 (U2 (U1 (Z32 (Z32 (Z32 (Z8 (Z4 (Z2 (Z1 ([])))))))))))
abbrev Bz33:List Bool:=U1 (Z8 (Z4 (Z2 (Z1 (U32 (U32 (U16 (U8 (U2 (U1 ([])))))))))))
abbrev Bz34:List Bool:=Z1 (U2 (U1 (Z32 (Z16 (Z2 (Z1 ([])))))))
abbrev Bz35:List Bool:=Z1 (U1 (Z1 (U1 (Z1 (U1 (Z4 (Z1 (U32 (U4 (U2 ([])))))))))))
abbrev Bz36:List Bool:=U1 (Z2 (U16 (U1 (Z2 (Z1 (U32 (U8 (U4 (U1 ([]))))))))))
abbrev Bz37:List Bool:=U1 (Z1 (U1 (Z2 (Z1 (U2 (Z16 (Z4 (Z2 (Z1 ([]))))))))))
abbrev Bz38:List Bool:=Z1 (U1 (Z1 (U2 (U1 (Z4 (Z2 (U32 (U4 (U1 ([]))))))))))
abbrev Bz39:List Bool:=Z1 (U1 (Z1 (U2 (U1 (Z4 (U32 (U4 (U2 (U1 ([]))))))))))
abbrev Bz40:List Bool:=Z1 (U4 (U1 (Z32 (Z2 (Z1 ([]))))))
abbrev Bz41:List Bool:=U4 (Z2 (Z1 (U32 (U32 (U32 (U8 (U2 (U1 ([])))))))))
abbrev Bz42:List Bool:=U2 (Z1 (U2 (U1 (Z4 (U32 (U4 (U2 (U1 ([])))))))))
abbrev Bz43:List Bool:=Z2 (U2 (Z4 (U4 (Z32 (Z32 (Z2 (Z1 ([]))))))))
abbrev Bz44:List Bool:=U1 (Z1 (U2 (U1 (Z16 (Z8 (Z2 (Z1 ([]))))))))
abbrev Bz45:List Bool:=U1 (Z1 (U2 (Z16 (Z8 ([])))))
abbrev Bz46:List Bool:=U2 (Z2 (U4 (Z2 (Z1 (U16 (U4 (U1 ([]))))))))
abbrev Bz47:List Bool:=Z2 (U2 (Z4 (Z1 (U2 (U1 (Z8 (Z1 ([]))))))))
abbrev Bz48:List Bool:=Z2 (U2 (Z2 (Z1 (U2 (U1 (Z8 (Z1 ([]))))))))
abbrev Bz49:List Bool:=Z1 (U1 (Z2 (U1 (Z1 (U8 (U2 (U1 ([]))))))))
abbrev Bz50:List Bool:=U1 (Z2 (Z1 (U32 (U16 (U2 (U1 ([])))))))
abbrev Bz51:List Bool:=U1 (Z1 (U2 (U1 (Z16 (Z8 (Z4 ([])))))))
abbrev Bz52:List Bool:=U1 (Z1 (U2 (U1 (Z16 (Z4 (Z1 ([])))))))
abbrev Bz53:List Bool:=U2 (Z2 (U1 (Z16 (Z8 (Z4 (Z1 ([])))))))
abbrev Bz54:List Bool:=U2 (Z2 (U2 (U1 (Z16 (Z8 (Z2 ([])))))))
abbrev Bz55:List Bool:=Z2 (U2 (Z2 (U16 (U8 (U4 (U1 ([])))))))
abbrev Bz56:List Bool:=U1 (Z1 (U2 (U1 (Z8 (Z4 (Z1 ([])))))))
abbrev Bz57:List Bool:=Z2 (U2 (Z2 (U2 (U1 (Z8 (Z1 ([])))))))
abbrev Bz58:List Bool:=Z2 (U2 (Z4 (U2 (U1 (Z8 (Z4 ([])))))))
abbrev Bz59:List Bool:=U2 (Z2 (U1 (Z2 (U2 (Z8 (Z2 ([])))))))
abbrev Bz60:List Bool:=U2 (Z2 (U2 (U1 (Z8 (Z2 (Z1 ([])))))))
abbrev Bz61:List Bool:=Z1 (U4 (Z32 (Z4 (Z2 (Z1 ([]))))))
abbrev Bz62:List Bool:=U2 (Z2 (U2 (U1 (Z16 (Z2 ([]))))))
abbrev Bz63:List Bool:=U1 (Z1 (U2 (Z8 (Z4 (Z1 ([]))))))
abbrev Bz64:List Bool:=U2 (Z2 (U2 (Z16 (Z4 ([])))))
abbrev Bz65:List Bool:=Z1 (U1 (Z2 (U16 (U8 ([])))))
abbrev Bz66:List Bool:=U2 (Z2 (U2 (Z8 (Z4 ([])))))
end
def lY(esz:Nat)(args:List A)(h:H):Option (A×H):=match args with
 | [.d (.str _)]=>none
 | [x]=>match bT h esz x with
  |some (n,cs)=>if n<=bF then some (.sl h.length 0 0 n,h++[.arr cs esz 0])else none
  |none=>none
 |_=>none
def zL(esz:Nat)(args:List A)(h:H):Option (A×H):=match args with
 | [.sl id gen off len,.d (.int .i64 i),.d (.int .i64 j)]=>match h[id]? with
  |some (.arr cs e g)=>if e=esz/\g=gen/\off=0/\0<=i/\i<j/\j<=len/\len<=bF/\len*esz<=cs.length then
    some (.sl id (g+1) 0 (len-(j.toNat-i.toNat)),h.set id (.arr (cs.take (i.toNat*esz)++(cs.drop (j.toNat*esz)).take ((len-j.toNat)*esz)) esz (g+1)))
   else none
  |_=>none
 |_=>none
def gCtz:List A->H->Option (A×H):=fun args h=>match args with
 | [.d (.int .u64 n)]=>if 0<=n/\n<18446744073709551616 then some (.d (.int .i64 (Lib.ctz 64 n.toNat)),h)else none
 |_=>none
end Ev
end Go.Proofs.YtahbdkmimmnadaaGreatDoor
