/-
  The evaluator in the form in which it is walked: what comes after is handed over; code without what is not looked at.
-/
import Derived.Test.YtppffbehejpglaaGreatEvDraw
import Derived.Test.YtppffbehejpglaaGreatEvDef
import Derived.Lib.TrailingZeros
set_option linter.unusedSimpArgs false
set_option linter.unusedVariables false
set_option linter.unusedSectionVars false
namespace Go.Proofs.YtppffbehejpglaaGreat
namespace Ev
section
structure SO where
 dst:Option Tmp
 op:Op
 guard:Option (Option Tmp×Bool)
inductive SC where
 |skip
 |ops (l:List SO)
 |drawn (l:List SO) (src:Array Oper)
 |seq (a b:SC)
 |cond (c:Operand) (x y:SC)
 |block (id:Nat) (c:SC)
 |loop (i:Nat)
 |exit (id:Nat)
 |ret
 |bad
def MF(ops:List Oper):Option (Nat×Bool)->Option (Option Tmp×Bool)
 |none=>none
 |some (j,w)=>some ((ops[j]?).bind (·.dst),w)
def F1(ops:List Oper)(o:Oper):SO:=⟨o.dst,o.op,MF ops o.guard⟩
def bR:Code->List Code
 |.seq a b=>bR a++bR b
 |.cond _ x y=>bR x++bR y
 |.block _ c=>bR c
 |.loop c=>c::bR c
 |_=>[]
def slim(i:Nat):Code->SC
 |.skip=>.skip
 |.region _ ops draw=>if draw then .drawn (ops.toList.map (F1 ops.toList)) ops else .ops (ops.toList.map (F1 ops.toList))
 |.seq a b=>.seq (slim i a) (slim (i+(bR a).length) b)
 |.cond c x y=>.cond c (slim i x) (slim (i+(bR x).length) y)
 |.block id c=>.block id (slim i c)
 |.loop _=>.loop i
 |.exit id=>.exit id
 |.ret=>.ret
 |_=>.bad
def aL:Code->Bool
 |.region _ ops draw=> !draw||Region.lexB .any ops
 |.seq a b=>aL a&&aL b
 |.cond _ x y=>aL x&&aL y
 |.block _ c=>aL c
 |.loop c=>aL c
 |_=>true
section
variable{R:Type}
def kv(s:List A)(x:Operand)(k:A->Option R):Option R:=
 match cJ s x with
 |some a=>k a
 |none=>none
def kvs(s:List A)(xs:List Operand)(k:List A->Option R):Option R:=
 match bT s xs with
 |some vs=>k vs
 |none=>none
def dP (dst : Option Tmp) (op : Op) : Oper := ⟨dst, op, 0, "", #[], none⟩
def kOp(E:Env)(call:aX)(thaw:List Nat)(dst:Option Tmp)(op:Op)(s:List A)(h:H)(k:A->H->Option R):Option R:=
 kvs s (opds op) fun vs=>
  if vQ op then
   match iM E call thaw h (dP dst op) vs with
   |some (a,h',_)=>k a h'
   |none=>none
  else match evOp E call thaw h (dP dst op) vs with
   |some (a,h')=>k a h'
   |none=>none
def vK(g:Option (Option Tmp×Bool))(s:List A)(yes:List A->Option R)(no:List A->Option R):Option R:=
 match g with
 |none=>yes s
 |some (none,_)=>none
 |some (some t,w)=>match s[t]? with
  |some (.d (.bool b))=>if b=w then yes (s.set t (.d (.bool w)))else no (s.set t (.d (.bool (!w))))
  |some (.d .undef)=>no s
  |_=>none
def kOps(E:Env)(call:aX)(thaw:List Nat):List SO->List A->H->(List A->H->Option R)->Option R
 | [],s,h,k=>k s h
 |⟨dst,op,g⟩::os,s,h,k=>vK g s
  (fun s=>kOp E call thaw dst op s h fun a h'=>kOps E call thaw os (aPut s dst a) h' k)
  (fun s=>kOps E call thaw os (aPut s dst (.d .undef)) h k)
def kOpD(E:Env)(call:aX)(thaw:List Nat)(dst:Option Tmp)(op:Op)(s:List A)(h:H)(k:A->H->Foot->Option R):Option R:=
 kvs s (opds op) fun vs=>
  if pQ op then
   match evOp E call thaw h (dP dst op) vs with
   |some (a,_)=>k a h {}
   |none=>none
  else if qD op then
   match evOp E call thaw h (dP dst op) vs with
   |some (a,_)=>k a h { ids:=ids0 vs,ro:=true}
   |none=>none
  else match iM E call thaw h (dP dst op) vs with
   |some (a,h',ord,n)=>if jI E op vs&&n==0 then k a h { ids:=ord,ro:=true}else k a h' { ids:=ord++List.range' h.length n,ro:=false,wr:=wrOf E op vs ord++List.range' h.length n}
   |none=>none
def v8(E:Env)(call:aX)(thaw:List Nat):List SO->List A->H->List Foot->(List A->H->List Foot->Option R)->Option R
 | [],s,h,cs,k=>k s h cs
 |⟨dst,op,g⟩::os,s,h,cs,k=>vK g s
  (fun s=>kOpD E call thaw dst op s h fun a h' c=>v8 E call thaw os (aPut s dst a) h' (cs++[c]) k)
  (fun s=>v8 E call thaw os (aPut s dst (.d .undef)) h (cs++[{}]) k)
def aR(E:Env)(call:aX)(L nf:Nat)(thaw:List Nat)(live:List Bool)(c:Code)(m:List Bool)(n:Nat)(s:List A)(h:H)(k:Exit->List A->H->Option R):Option R:=
 match sG (bZ E call L nf thaw live c) nf m n s h with
 |some (e,s',h')=>k e s' h'
 |none=>none
def cX(E:Env)(call:aX)(L nf:Nat)(thaw:List Nat)(live:List Bool)(lp:Nat->Code):SC->List A->H->(Exit->List A->H->Option R)->Option R
 |.skip,s,h,k=>k .normal s h
 |.ops l,s,h,k=>kOps E call thaw l s h fun s h=>k .normal s h
 |.drawn l src,s,h,k=>v8 E call thaw l s h [] fun s h cs=>if oE src.toList cs then k .normal s h else none
 |.seq a b,s,h,k=>cX E call L nf thaw live lp a s h fun e s h=>match e with
  |.normal=>cX E call L nf thaw live lp b s h k
  |e=>k e s h
 |.cond c x y,s,h,k=>kv s c fun a=>match a with
  |.d (.bool b)=>if b=true then cX E call L nf thaw live lp x s h k else cX E call L nf thaw live lp y s h k
  |_=>none
 |.block id c,s,h,k=>cX E call L nf thaw live lp c s h fun e s h=>match e with
  |.exit i=>if i=id then k .normal s h else k (.exit i) s h
  |e=>k e s h
 |.loop i,s,h,k=>aR E call L nf thaw live (lp i) (rD live s) L (gc nf (rD live s) s h).1 (gc nf (rD live s) s h).2 k
 |.exit id,s,h,k=>k (.exit id) s h
 |.ret,s,h,k=>k .ret s h
 |.bad,_,_,_=>none
theorem aFw{E:Env}{call:aX}{thaw:List Nat}{h:H}(o:Oper)(vs:List A):evOp E call thaw h (dP o.dst o.op) vs=evOp E call thaw h o vs:=by
 obtain⟨dst,op,type,pos,after,guard⟩:=o
 cases op<;>rfl
theorem aIr{E:Env}{call:aX}{thaw:List Nat}{h:H}(o:Oper)(vs:List A):iM E call thaw h (dP o.dst o.op) vs=iM E call thaw h o vs:=by
 unfold iM;simp only[aFw]
theorem aQf{s:List A}{t:Nat}{a:A}(h:s[t]? =some a):s.set t a=s:=by
 apply Cm;intro j;obtain⟨hl,he⟩:=Au.1 h
 by_cases e:t=j
 ·grind
 ·simp[e]
theorem aIh{ops:List Oper}{o:Oper}{s:List A}{yes no:List A->Option R}:vK (MF ops o.guard) s yes no=match rJ ops s o with
  |some true=>yes s
  |some false=>no s
  |none=>none:=by
 unfold rJ
 cases hg:o.guard with
 |none=>simp[MF,vK]
 |some jw=>
  obtain⟨j,w⟩:=jw;simp only[MF,vK]
  cases hd:(ops[j]?).bind (·.dst)with
  |none=>rfl
  |some t=>
   simp only[]
   cases ht:s[t]? with
   |none=>rfl
   |some a=>
    cases a with
    |d x=>
     cases x with
     |bool b=>
      cases b<;>cases w<;>simp[aQf ht]
     |_=>rfl
    |_=>rfl
theorem YU{E:Env}{call:aX}{thaw:List Nat}{ops:List Oper}:∀(os:List Oper) (s:List A) (h:H) (k:List A->H->Option R),
  kOps E call thaw (os.map (F1 ops)) s h k=match y3 E call thaw ops os s h with
   |some (s',h')=>k s' h'
   |none=>none
 | [],s,h,k=>by simp[kOps,y3]
 |o::os,s,h,k=>by
  simp only[Ai,F1,kOps,aIh,y3,CZ]
  cases rJ ops s o with
  |none=>rfl
  |some b=>
   cases b with
   |false=>simp only[];exact YU os _ _ _
   |true=>
    simp only[kOp,kvs,aIr,aFw]
    cases bT s (opds o.op)with
    |none=>rfl
    |some vs=>
     cases hc:vQ o.op with
     |true=>
      simp only[if_true]
      cases iM E call thaw h o vs with
      |none=>rfl
      |some r=>simp only[];exact YU os _ _ _
     |false=>
      simp only[Ak,if_false]
      cases evOp E call thaw h o vs with
      |none=>rfl
      |some r=>simp only[];exact YU os _ _ _
theorem aJ0{E:Env}{call:aX}{thaw:List Nat}{ops:List Oper}:∀(os:List Oper) (s:List A) (h:H) (cs:List Foot) (k:List A->H->List Foot->Option R),
  v8 E call thaw (os.map (F1 ops)) s h cs k=match kU E call thaw ops os s h with
   |some (s',h',cs')=>k s' h' (cs++cs')
   |none=>none
 | [],s,h,cs,k=>by simp[v8,kU]
 |o::os,s,h,cs,k=>by
  have fin:∀(s1:List A) (h1:H) (c:Foot),v8 E call thaw (os.map (F1 ops)) s1 h1 (cs++[c]) k=match(match kU E call thaw ops os s1 h1 with
    |some (s2,h2,cs)=>some (s2,h2,c::cs)
    |none=>none)with
   |some (s',h',cs')=>k s' h' (cs++cs')
   |none=>none:=by
   intro s1 h1 c;rw[aJ0 os]
   cases kU E call thaw ops os s1 h1 with
   |none=>rfl
   |some r=>simp
  simp only[Ai,F1,v8,aIh,kU,xI]
  cases rJ ops s o with
  |none=>rfl
  |some b=>
   cases b with
   |false=>grind
   |true=>
    simp only[kOpD,kvs,aIr,aFw]
    cases bT s (opds o.op)with
    |none=>rfl
    |some vs=>grind
theorem wS{E:Env}{call:aX}{L nf:Nat}{thaw:List Nat}{live:List Bool}{lp:Nat->Code}:∀(c:Code) (i:Nat) (s:List A) (h:H) (k:Exit->List A->H->Option R),aL c=true->(∀(j:Nat) (b:Code),(bR c)[j]? =some b->lp (i+j)=b)->
  cX E call L nf thaw live lp (slim i c) s h k=match bZ E call L nf thaw live c s h with
   |some (e,s',h')=>k e s' h'
   |none=>none
 |.skip,i,s,h,k,_,_=>rfl
 |.region id ops draw,i,s,h,k,hd,_=>by
  cases draw with
  |false=>
   simp only[slim,cX,bZ,mG,Ak,if_false,YU]
   cases y3 E call thaw ops.toList ops.toList s h<;>rfl
  |true=>
   simp only[aL,Bool.not_true,Bool.false_or]at hd;simp only[slim,cX,bZ,mG,if_true,aJ0,hd,Bool.true_and]
   cases kU E call thaw ops.toList ops.toList s h with
   |none=>rfl
   |some r=>
    obtain⟨s',h',cs⟩:=r;simp only[Ap]
    by_cases hcf:oE ops.toList cs=true
    ·simp[hcf]
    ·simp[hcf]
 |.seq a b,i,s,h,k,hd,hl=>by
  simp only[aL,As]at hd;simp only[slim,cX,bZ];rw[wS a i s h _ hd.1 fun j c hj=>hl j c (by simp only[bR];rw[Bc (Au.1 hj).1];exact hj)]
  have hb:∀(j:Nat) (c:Code),(bR b)[j]? =some c->lp (i+(bR a).length+j)=c:=fun j c hj=>by
   rw[show i+(bR a).length+j=i+((bR a).length+j)from by omega];exact hl _ c (by simp only[bR];rw[Bn om];simpa using hj)
  cases hea:bZ E call L nf thaw live a s h with
  |none=>rfl
  |some r=>
   obtain⟨e,s1,h1⟩:=r
   cases e<;>simp only[]<;>first|exact wS b _ s1 h1 k hd.2 hb|rfl
 |.cond c x y,i,s,h,k,hd,hl=>by
  simp only[aL,As]at hd;simp only[slim,cX,bZ,kv];have hx:=wS (E:=E) (call:=call) (L:=L) (nf:=nf) (thaw:=thaw) (live:=live) x i s h k hd.1 fun j c hj=>hl j c (by simp only[bR];rw[Bc (Au.1 hj).1];exact hj)
  have hy:=wS (E:=E) (call:=call) (L:=L) (nf:=nf) (thaw:=thaw) (live:=live) y (i+(bR x).length) s h k hd.2 fun j c hj=>by
   rw[show i+(bR x).length+j=i+((bR x).length+j)from by omega];exact hl _ c (by simp only[bR];rw[Bn om];simpa using hj)
  generalize cJ s c=z
  cases z with
  |none=>rfl
  |some a=>
   cases a with
   |d v=>
    cases v with
    |bool b=>cases b<;>simp[hx,hy]
    |_=>rfl
   |_=>rfl
 |.block id c,i,s,h,k,hd,hl=>by
  simp only[aL]at hd;simp only[slim,cX,bZ];rw[wS c i s h _ hd hl]
  cases hec:bZ E call L nf thaw live c s h with
  |none=>rfl
  |some r=>
   obtain⟨e,s1,h1⟩:=r
   cases e<;>simp only[]<;>first|rfl|(split<;>rfl)
 |.loop c,i,s,h,k,hd,hl=>by
  have:=hl 0 c (by simp[bR]);simp only[Bv]at this;simp only[slim,cX,bZ,aR,this]
 |.exit id,i,s,h,k,_,_=>rfl
 |.ret,i,s,h,k,_,_=>rfl
 |.rangeFunc _ _ _ _,i,s,h,k,_,_=>rfl
 |.scope _,i,s,h,k,_,_=>rfl
 |.label _,i,s,h,k,_,_=>rfl
 |.goto _,i,s,h,k,_,_=>rfl
 |.refuse _,i,s,h,k,_,_=>rfl
theorem aQK:∀(c:Code) (i:Nat) (b:Code),(bR c)[i]? =some b->(aL c=true->aL b=true)/\∀(j:Nat) (d:Code),(bR b)[j]? =some d->(bR c)[i+1+j]? =some d:=by
 intro c
 induction c with
 |seq a b iha ihb=>
  intro i d hi;simp only[bR]at hi|-;simp only[aL,As]
  by_cases hlt:i<(bR a).length
  ·grind
  ·rw[Bn om]at hi;obtain⟨h1,h2⟩:=ihb _ d hi;refine⟨fun h=>h1 h.2,fun j e he=> ?_⟩;have:=h2 j e he;rw[Bn om];rw[show i+1+j-(bR a).length=i-(bR a).length+1+j from by omega];exact this
 |cond c a b iha ihb=>
  intro i d hi;simp only[bR]at hi|-;simp only[aL,As]
  by_cases hlt:i<(bR a).length
  ·grind
  ·rw[Bn om]at hi;obtain⟨h1,h2⟩:=ihb _ d hi;refine⟨fun h=>h1 h.2,fun j e he=> ?_⟩;have:=h2 j e he;rw[Bn om];rw[show i+1+j-(bR a).length=i-(bR a).length+1+j from by omega];exact this
 |block id c ih=>intro i d hi;simp only[bR,aL]at hi|-;exact ih i d hi
 |loop c ih=>
  intro i d hi;simp only[bR,aL]at hi|-
  cases i with
  |zero=>grind
  |succ i=>grind
 |_=>intro i d hi;simp[bR]at hi
def aO(fn:Func):Code:=fn.body.getD .skip
def lpOf(fn:Func)(i:Nat):Code:=(bR (aO fn)).getD i .skip
def a6(fn:Func)(i:Nat):SC:=slim (i+1) (lpOf fn i)
def aT(fn:Func):SC:=slim 0 (aO fn)
def YP(E:Env)(call:aX)(L nf:Nat)(thaw:List Nat)(live:List Bool)(c:Code)(m:List Bool)(n:Nat)(k:Exit->List A->H->Option R)(e:Exit)(s:List A)(h:H):Option R:=
 match e with
 |.normal=>aR E call L nf thaw live c m n (gc nf m s h).1 (gc nf m s h).2 k
 |e=>k e (gc nf m s h).1 (gc nf m s h).2
theorem aDL{E:Env}{call:aX}{L nf:Nat}{thaw:List Nat}{live:List Bool}{fn:Func}(hd:aL (aO fn)=true){i:Nat}(hi:((bR (aO fn))[i]?).isSome=true){m:List Bool}{n:Nat}{s:List A}{h:H}{k:Exit->List A->H->Option R}:
  aR E call L nf thaw live (lpOf fn i) m (n+1) s h k=cX E call L nf thaw live (lpOf fn) (a6 fn i) s h (YP E call L nf thaw live (lpOf fn i) m n k):=by
 obtain⟨b,hb⟩:=Ek.1 hi
 have hlp:∀(j:Nat) (d:Code),(bR (aO fn))[j]? =some d->lpOf fn j=d:=fun j d hj=>by
  unfold lpOf;rw[Aa,hj];rfl
 have hbe:=hlp i b hb;obtain⟨h1,h2⟩:=aQK _ i b hb;unfold a6;rw[hbe,wS b (i+1) s h _ (h1 hd) fun j d hj=>hlp _ d (h2 j d hj)];unfold aR;simp only[sG]
 cases hev:bZ E call L nf thaw live b s h with
 |none=>rfl
 |some r=>
  obtain⟨e,s1,h1⟩:=r
  cases e<;>rfl
def kFin(P:Program)(nf:Nat)(exp:Bool)(rs:List ResultVar)(e:Exit)(s:List A)(h:H):Option (A×H):=
 if mB e then
  match kV P s h rs with
  |some rs=>match oN nf exp h rs with
   |some (xs,h2)=>
    let r:=trim nf h2 (dC nf h2 (idsL xs)) xs
    some (tupA r.1,r.2)
   |none=>none
  |none=>none
 else none
theorem aTK {E : Env} {L n : Nat} {f : FuncId} {fn : Func} {args : List A} {h : H} (hp : (E.prim f).isNone = true) (hf : E.P.funcs[f]? = some fn) (hb : fn.body.isSome = true) (hn : (fn.name == "runtime.NumGoroutine") = false) (hd : aL (aO fn) = true) :
  aA E L (n+1) f args h=cX E (aA E L n) L h.length (E.hint f).thaw (E.hint f).live (lpOf fn) (aT fn) (args++List.replicate (fn.ntmps-args.length) (.d .undef)) h (kFin E.P h.length (E.hint f).exp fn.results.toList):=by
 have hp:E.prim f=none:=by simp_all
 obtain⟨c,hc⟩:=Ek.1 hb;have hce:aO fn=c:=by simp[aO,hc]
 rw[hce]at hd;unfold aT;rw[hce,wS c 0 _ _ _ hd fun j d hj=>by unfold lpOf;rw[hce,Ag,Aa,hj];rfl];simp only[aA,hp,hf,hc,hn,Ak,if_false,HU]
 cases bZ E (aA E L n) L h.length (E.hint f).thaw (E.hint f).live c (args++List.replicate (fn.ntmps-args.length) (.d .undef)) h with
 |none=>rfl
 |some r=>rfl
theorem JS {E : Env} {L n : Nat} {f : FuncId} {fn : Func} {args : List A} {h : H} {mode : Nat} {exp : Bool} {thaw : List Nat} {live : List Bool} {rs : List ResultVar} (hp : (E.prim f).isNone = true) (hf : E.P.funcs[f]? = some fn) (hb : fn.body.isSome = true) (hn : (fn.name == "runtime.NumGoroutine") = false) (hd : aL (aO fn) = true) (hh : E.hint f = ⟨mode, exp, thaw, live⟩) (hr : fn.results.toList = rs) :
  aA E L (n+1) f args h=cX E (aA E L n) L h.length thaw live (lpOf fn) (aT fn) (args++List.replicate (fn.ntmps-args.length) (.d .undef)) h (kFin E.P h.length exp rs):=by
 rw[aTK hp hf hb hn hd,hh,hr]
end
abbrev Y1(l:List A):List A:=.junk::l
abbrev Y2(l:List A):List A:=.junk::.junk::l
abbrev Y4(l:List A):List A:=.junk::.junk::.junk::.junk::l
abbrev Y8(l:List A):List A:=.junk::.junk::.junk::.junk::.junk::.junk::.junk::.junk::l
abbrev Y16(l:List A):List A:=Y8 (Y8 l)
abbrev Y32(l:List A):List A:=Y16 (Y16 l)
abbrev U1(l:List Bool):List Bool:=true::l
abbrev U2(l:List Bool):List Bool:=true::true::l
abbrev U4(l:List Bool):List Bool:=true::true::true::true::l
abbrev U8(l:List Bool):List Bool:=true::true::true::true::true::true::true::true::l
abbrev U16(l:List Bool):List Bool:=U8 (U8 l)
abbrev U32(l:List Bool):List Bool:=U16 (U16 l)
abbrev Z1(l:List Bool):List Bool:=false::l
abbrev Z2(l:List Bool):List Bool:=false::false::l
abbrev Z4(l:List Bool):List Bool:=false::false::false::false::l
abbrev Z8(l:List Bool):List Bool:=false::false::false::false::false::false::false::false::l
abbrev Z16(l:List Bool):List Bool:=Z8 (Z8 l)
abbrev Z32(l:List Bool):List Bool:=Z16 (Z16 l)
abbrev KE(R:Type):Type:=Exit->List A->H->Option R
abbrev KA(R:Type):Type:=A->H->Option R
abbrev Bz0:List Bool:=Z1 (U8 (U4 (U2 (U1 (Z32 (Z32 (Z16 (Z8 (Z2 (Z1 ([])))))))))))
abbrev Bz1:List Bool:=Z4 (U4 (U1 (Z1 (U1 (Z1 (U1 (Z16 (Z4 (Z2 (U2 (U1 (Z2 (Z1 (U2 (U1 (Z2 (Z1 (U2 (U1 (Z16 (Z2 ([]))))))))))))))))))))))
abbrev Bz2:List Bool:=Z2 (U2 (Z4 (Z2 (U2 (Z1 (U2 (U1 (Z1 (U2 (Z8 (Z4 (Z2 (U2 (U1 (Z4 (Z2 (Z1 (U2 (U1 (Z16 (Z1 ([]))))))))))))))))))))))
abbrev Bz3:List Bool:=Z2 (U4 (U1 (Z8 (Z2 (Z1 (U2 (U1 (Z4 (U1 (Z8 (Z1 (U2 (U1 (Z16 ([])))))))))))))))
abbrev Bz4:List Bool:=U2 (Z2 (U4 (Z1 (U1 (Z8 (Z4 (U2 (U1 (Z4 (U2 (U1 (Z16 ([])))))))))))))
abbrev Bz5:List Bool:=U1 (Z1 (U1 (Z2 (Z1 (U4 (U2 (Z32 (Z4 (Z1 ([]))))))))))
abbrev Bz6:List Bool:=Z1 (U4 (Z2 (Z1 (U4 (U2 (U1 (Z32 (Z8 (Z4 (Z2 (Z1 ([]))))))))))))
abbrev Bz7:List Bool:=Z1 (U2 (U1 (Z32 (Z2 (U2 (U1 (Z4 (Z2 (Z1 (U2 (U1 (Z8 (Z4 (Z2 ([])))))))))))))))
abbrev Bz8:List Bool:=U2 (Z1 (U2 (U1 (Z2 (Z1 (U2 (U1 (Z2 (U2 (U1 (Z32 (Z1 ([])))))))))))))
abbrev Bz9:List Bool:=Z2 (U1 (Z2 (Z1 (U4 (Z32 (Z4 (Z2 (Z1 ([])))))))))
abbrev Bz10:List Bool:=Z4 (U8 (U1 (Z32 (Z16 (Z8 (Z2 (Z1 ([]))))))))
abbrev Bz11:List Bool:=Z1 (U1 (Z2 (U4 (U1 (Z32 (Z4 (Z2 ([]))))))))
abbrev Bz12:List Bool:=Z1 (U2 (Z1 (U4 (U2 (U1 (Z32 (Z4 ([]))))))))
abbrev Bz13:List Bool:=Z1 (U4 (Z16 (Z8 (Z2 (Z1 ([]))))))
abbrev Bz14:List Bool:=U1 (Z8 (Z4 (Z1 (U32 (U32 (U16 (U8 (U4 (U1 ([]))))))))))
abbrev Bz15:List Bool:=Z1 (U4 (U1 (Z8 (U2 (Z16 (Z8 (Z4 (Z2 (Z1 ([]))))))))))
abbrev Bz16:List Bool:=Z1 (U2 (U1 (Z2 (U4 (U2 (U1 (Z32 (Z2 (Z1 ([]))))))))))
abbrev Bz17:List Bool:=U2 (U1 (Z2 (Z1 (U2 (U1 (Z16 (Z8 (Z2 (Z1 ([]))))))))))
abbrev Bz18:List Bool:=U2 (Z2 (U2 (U1 (Z16 (Z8 (Z4 ([])))))))
abbrev Bz19:List Bool:=Z4 (U2 (U1 (Z32 (Z32 (Z32 (Z8 (Z2 (Z1 ([])))))))))
abbrev Bz20:List Bool:=Z1 (U4 (U2 (U1 (Z32 (Z16 (Z8 (Z4 (Z1 ([])))))))))
abbrev Bz21:List Bool:=U4 (U1 (Z4 (Z1 (U4 (U1 (Z32 (Z16 (Z1 ([])))))))))
abbrev Bz22:List Bool:=U1 (Z1 (U2 (U1 (Z16 (Z8 (Z4 (Z2 (Z1 ([])))))))))
abbrev Bz23:List Bool:=U1 (Z4 (U16 (U8 (U2 (U1 ([]))))))
abbrev Bz24:List Bool:=Z2 (U1 (Z2 (Z1 (U2 (U1 (Z2 (Z1 (U2 (Z2 (Z1 (U32 (U1 ([])))))))))))))
abbrev Bz25:List Bool:=Z1 (U4 (U1 (Z1 (U2 (Z32 (Z2 (Z1 ([]))))))))
abbrev Bz26:List Bool:=U1 (Z1 (U2 (Z1 (U1 (Z8 (Z2 (Z1 ([]))))))))
abbrev Bz27:List Bool:=U1 (Z8 (Z4 (Z2 (Z1 (U32 (U32 (U16 (U8 (U2 (U1 ([])))))))))))
abbrev Bz28:List Bool:=Z2 (U8 (U1 (Z32 (Z16 (Z8 (Z4 ([])))))))
abbrev Bz29:List Bool:=Z2 (Z1 (U2 (Z1 (U2 (Z16 (Z2 (U2 (U1 (Z8 (Z4 ([])))))))))))
abbrev Bz30:List Bool:=Z2 (Z1 (U2 (Z1 (U2 (U1 (Z1 (U1 (Z32 (Z4 (Z1 ([])))))))))))
abbrev Bz31:List Bool:=Z1 (U4 (U2 (Z32 (Z4 ([])))))
abbrev Bz32:List Bool:=Z1 (U1 (Z2 (U2 (U1 (Z8 (Z4 (Z2 (U2 (Z8 (Z4 ([])))))))))))
abbrev Bz33:List Bool:=U2 (Z2 (U2 (Z8 (Z4 ([])))))
abbrev Bz34:List Bool:=U1 (Z1 (U1 (Z2 (Z1 (U2 (Z16 (Z4 (Z2 (Z1 ([]))))))))))
abbrev Bz35:List Bool:=Z1 (U1 (Z1 (U2 (U1 (Z4 (Z2 (U32 (U4 (U1 ([]))))))))))
abbrev Bz36:List Bool:=Z1 (U1 (Z1 (U2 (U1 (Z4 (U32 (U4 (U2 (U1 ([]))))))))))
abbrev Bz37:List Bool:=Z1 (U4 (U1 (Z32 (Z8 (Z1 ([]))))))
abbrev Bz38:List Bool:=Z1 (U4 (U1 (Z32 (Z2 (Z1 ([]))))))
abbrev Bz39:List Bool:=U4 (Z2 (Z1 (U32 (U32 (U32 (U8 (U2 (U1 ([])))))))))
abbrev Bz40:List Bool:=U2 (Z1 (U2 (U1 (Z4 (U32 (U4 (U2 (U1 ([])))))))))
abbrev Bz41:List Bool:=Z1 (U1 (Z2 (Z1 (U16 (U8 (U4 (U2 (U1 ([])))))))))
abbrev Bz42:List Bool:=Z2 (U2 (U1 (Z8 (Z1 (U2 (Z8 (Z4 (Z2 ([])))))))))
abbrev Bz43:List Bool:=Z1 (U4 (Z2 (Z1 (U2 (Z32 (Z8 (Z2 ([]))))))))
abbrev Bz44:List Bool:=U1 (Z1 (U2 (U1 (Z16 (Z8 (Z2 (Z1 ([]))))))))
abbrev Bz45:List Bool:=U1 (Z1 (U2 (Z16 (Z8 ([])))))
abbrev Bz46:List Bool:=U1 (Z2 (U1 (Z4 (Z2 (Z1 (U32 (U4 ([]))))))))
abbrev Bz47:List Bool:=U1 (Z1 (U2 (Z4 (U32 (U4 (U2 (U1 ([]))))))))
abbrev Bz48:List Bool:=Z2 (U2 (Z8 (Z1 (U2 (U1 (Z8 (Z4 ([]))))))))
abbrev Bz49:List Bool:=U2 (Z2 (U1 (Z8 (Z2 (U2 (Z8 (Z1 ([]))))))))
abbrev Bz50:List Bool:=Z1 (U2 (U1 (Z2 (U2 (Z8 (Z4 (Z1 ([]))))))))
abbrev Bz51:List Bool:=Z1 (U1 (Z2 (U1 (Z1 (U8 (U2 (U1 ([]))))))))
abbrev Bz52:List Bool:=Z1 (U2 (U1 (Z8 (U2 (Z16 (Z1 ([])))))))
abbrev Bz53:List Bool:=U2 (Z2 (U2 (U1 (Z16 (Z8 (Z2 ([])))))))
abbrev Bz54:List Bool:=Z2 (U2 (Z2 (U16 (U8 (U4 (U1 ([])))))))
abbrev Bz55:List Bool:=U1 (Z1 (U2 (U1 (Z8 (Z4 (Z1 ([])))))))
abbrev Bz56:List Bool:=U2 (Z2 (U1 (Z2 (U2 (Z8 (Z2 ([])))))))
abbrev Bz57:List Bool:=U2 (Z2 (U2 (U1 (Z8 (Z2 (Z1 ([])))))))
abbrev Bz58:List Bool:=Z1 (U4 (Z32 (Z4 (Z2 (Z1 ([]))))))
abbrev Bz59:List Bool:=U2 (Z2 (U2 (U1 (Z32 (Z8 ([]))))))
abbrev Bz60:List Bool:=U2 (Z2 (U2 (U1 (Z16 (Z4 ([]))))))
abbrev Bz61:List Bool:=U2 (Z2 (U2 (U1 (Z16 (Z2 ([]))))))
abbrev Bz62:List Bool:=U1 (Z1 (U2 (Z16 (Z2 (Z1 ([]))))))
abbrev Bz63:List Bool:=Z2 (U4 (Z16 (Z8 (Z2 ([])))))
abbrev Bz64:List Bool:=Z1 (U1 (Z2 (U16 (U8 ([])))))
abbrev Bz65:List Bool:=U1 (Z4 (U32 (U4 (U2 ([])))))
abbrev Bz66:List Bool:=U2 (Z2 (U2 (Z8 (Z1 ([])))))
abbrev Bz67:List Bool:=Z2 (U2 (Z2 (U8 (U4 ([])))))
end
def mA(esz:Nat)(args:List A)(h:H):Option (A×H):=match args with
 | [.d (.str _)]=>none
 | [x]=>match b8 h esz x with
  |some (n,cs)=>if n<=bH then some (.sl h.length 0 0 n,h++[.arr cs esz 0])else none
  |none=>none
 |_=>none
def I8(a b:Int):Int:=if a<b then -1 else if b<a then 1 else 0
def aFd:List Int->Int
 | []=>0
 |a::l=>if a=0 then aFd l else a
def C0:List D->Option (List (List UInt8))
 | []=>some []
 |.str s::ds=>(C0 ds).map (s::·)
 |_=>none
def cmpB(x y:List UInt8):Int:=if Op.bytesLess x y=true then -1 else if Op.bytesLess y x=true then 1 else 0
def cmpX(x y:List UInt8):Int:=aFd [I8 x.length y.length,cmpB x y]
def leX(x y:List UInt8):Bool:=!decide (cmpX y x<0)
def H6(g:FuncId)(args:List A)(h:H):Option (A×H):=match args with
 | [.sl id gen off len,.clo f []]=>match h[id]? with
  |some (.arr cs e gg)=>if f=g/\gg=gen/\off=0/\(len=0\/e=1)/\len<=cs.length/\len<=bH then
    match C0 (cs.take len)with
    |some l=>some (.tup [],h.set id (.arr ((l.mergeSort leX).map .str++cs.drop len) e gg))
    |none=>none
   else none
  |_=>none
 |_=>none
def CT:List (D×D)->Option (List (List UInt8))
 | []=>some []
 |(.str s,_)::es=>(CT es).map (s::·)
 |_::_=>none
def A3(it g:FuncId)(args:List A)(h:H):Option (A×H):=match args with
 | [.clo f [.ptr id gen off],.clo c []]=>match h[id]? with
  |some (.box [.mp mid])=>match h[mid]? with
   |some (.mp es)=>if f=it/\c=g/\gen=0/\off=0/\0<es.length/\es.length<=bH then
     match CT es with
     |some l=>if l.all (fun s=>decide (s.length<=bH))=true then some (.sl h.length 0 0 es.length,h++[.arr ((l.mergeSort leX).map .str) 1 0])else none
     |none=>none
    else none
   |_=>none
  |_=>none
 |_=>none
end Ev
end Go.Proofs.YtppffbehejpglaaGreat
