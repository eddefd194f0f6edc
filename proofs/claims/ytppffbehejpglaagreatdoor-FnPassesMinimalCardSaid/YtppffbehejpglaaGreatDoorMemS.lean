/-
  Automata that are drawn: a valid one.
-/
import Derived.Test.YtppffbehejpglaaGreatDoorSafe
import Derived.Test.YtppffbehejpglaaGreatDoorEnvF
import Derived.Test.YtppffbehejpglaaGreatDoorEvDef
import Derived.Test.YtppffbehejpglaaGreatDoorAutM
import Derived.Test.YtppffbehejpglaaGreatDoorCopy
set_option linter.unusedSimpArgs false
set_option linter.unusedVariables false
set_option linter.unusedSectionVars false
set_option maxRecDepth 1000000
set_option maxHeartbeats 4000000
namespace Go.Proofs.YtppffbehejpglaaGreatDoor
namespace Ev
theorem aUR:(env.hint 99).mode=0:=kr
theorem aMk:(env.hint 64).mode=0:=kr
theorem aSS{c:List UInt8}(hc:c.length<=2000)(al:Int)(p:Int)(hp:0<=p)(hp2:p<=900000000):
  ∃(nx:List (List Int)) (ac:List Bool) (q:Int),1<=nx.length/\nx.length<=5/\ac.length=nx.length/\(∀r∈nx,r.length=(aB al).length)/\p<=q/\q<=p+50/\(Dw 6 64 [nI al] (autD al nx ac) c p q):=by
 obtain⟨v,v0,v1,_,kd1⟩:=eC hc p 2 hp om
 by_cases h1:v=0
 ·subst h1;obtain⟨w,hw,kd2⟩:=AP hc [3,2,4,1] smp smp (p+1) om om;have hw1:1<=w/\w<=4:=by simp at hw;omega
  obtain⟨nx,ac,q,g1,g2,g3,g4,g5,he⟩:=aOp hc al w (s:=w.toNat) om om om (p+1+1) om om;have kd3:=fun {R:Type} {L n:Nat} {hq:H} {k:KA R} (hn:4<=n) (hL:2^60<=L)=>b7 (R:=R) (h:=hq) (k:=k) aUR (by simp[idsL,idsA]) (by simp[autD,idsA,idsL]) (he L n hn hL);simp only[ints,Aj,As,Ae,Ac,Ag,Nat.reduceAdd]at kd2;refine⟨nx,ac,q,by omega,by omega,by omega,g3,by omega,by omega,fun R L n hq k hn hL=>b7 aMk (by simp[idsL,idsA]) (by simp[autD,idsA,idsL]) ?_⟩;unfold autD at kd3|-;clear he g3;obtain _|n:=n;omega
  simp-implicitDefEqProofs (maxSteps:=9^7) (disch:=try exact Dz) only[↓DN,↓kRet,UP,simprocAttr,↓kd1,↓kd2,↓kd3,aDg,UQ,Tryz.f64]
 ·obtain⟨w,hw,kd2⟩:=AP hc [2,3,1,4,5] smp smp (p+1) om om;have hw1:1<=w/\w<=5:=by simp at hw;omega
  obtain⟨nx,ac,q,g1,g2,g3,g4,g5,he⟩:=GE hc al w (s:=w.toNat) om om om (p+1+1) om om;have kd3:=fun {R:Type} {L n:Nat} {hq:H} {k:KA R} (hn:3<=n) (hL:2^60<=L)=>QB (R:=R) (L:=L) (n:=n) (hq:=hq) (k:=k) hn hL he;simp only[ints,Aj,As,Ae,Ac,Ag,Nat.reduceAdd]at kd2;simp only[autA,autO]at kd3;refine⟨nx,ac,q,by omega,by omega,by omega,g3,by omega,by omega,fun R L n hq k hn hL=>b7 aMk (by simp[idsL,idsA]) (by simp[autD,idsA,idsL]) ?_⟩
  have hH:Has (rdO c q::.arr [] 0 0::.arr [] 0 0::.box [nI al,.sl 5 0 0 nx.length,.sl 6 0 0 ac.length]::.arr [.int .i64 2,.int .i64 3,.int .i64 1,.int .i64 4,.int .i64 5] 1 0::.vec (aC 7 nx++aH 0) 1 0::.arr (aD ac) 1 0::aK nx) 5 nx ac:=by
   have:=Q1 (h:=[rdO c q,.arr [] 0 0,.arr [] 0 0,.box [nI al,.sl 5 0 0 nx.length,.sl 6 0 0 ac.length],.arr [.int .i64 2,.int .i64 3,.int .i64 1,.int .i64 4,.int .i64 5] 1 0]) (v:=5) (rs:=nx) (ac:=ac) (p:=[]) rfl
   simpa using this
  obtain⟨h2,st_out,st_keep,st_trim⟩:=RP (n:=nx.length) (m:=ac.length) (al:=al) hH om rfl rfl;unfold autD at st_out|-;clear he g3 hH;obtain _|n:=n;omega
  simp-implicitDefEqProofs (maxSteps:=9^7) (disch:=try exact Dz) only[↓DN,↓kRet,UP,simprocAttr,h1,↓kd1,↓kd2,↓kd3,↓st_out,↓st_keep,↓st_trim,aDg,UQ,Tryz.f64]
def aHi:Nat->List D->Bool
 |0,[]=>true
 |n+1,.int .i64 _::ds=>aHi n ds
 |_,_=>false
def aGv(w:Nat):Nat->List D->Bool
 |0,[]=>true
 |n+1,.ivs k cs::ds=>aHi k cs&&(k==w)&&aGv w n ds
 |_,_=>false
def Z9:Nat->List D->Bool
 |0,[]=>true
 |n+1,.bool _::ds=>Z9 n ds
 |_,_=>false
def fY:Option (A×H)->Bool
 |some (.tup [.agg [.d (.int .i64 al),.d (.ivs n rs),.d (.ivs m bs)],.d (.bool true)],[])=>aGv (aB al).length n rs&&Z9 m bs&&(m==n)&&decide (1<=n/\n<=12)
 |_=>false
def FI:List (List UInt8):=[[97,98,32,43,49,44,48,32,45,49,44,49],[97,98,32,43,48,44,49,32,43,50,44,49,32,45,50,44,50],[97,99,32,43,49,44,50,32,43,49,44,50,32,45,50,44,50],[98,32,43,49,32,45,49],[97,98,99,32,43,49,44,48,44,50,32,43,50,44,48,44,49,32,45,50,44,50,44,50],[45,32,43],[45,32,45],[97,32,43,49,32,45,48],[97,98,32,43,48,44,49,32,45,48,44,49],[98,99,32,43,49,44,50,32,43,50,44,48,32,45,50,44,50],[97,98,32,43,49,44,50,32,45,49,44,51,32,43,52,44,50,32,45,49,44,51,32,43,52,44,50],[97,98,99,32,43,48,44,49,44,48,32,43,48,44,49,44,50,32,45,50,44,50,44,50]]
theorem aUB:fY (aA env 3000 12 61 [.d (.str [97,98,32,43,49,44,50,32,45,49,44,51,32,43,52,44,50,32,45,49,44,51,32,43,52,44,50])] [])=true:=kr
theorem aWc:fY (aA env 3000 12 61 [.d (.str [45,32,45])] [])=true:=kr
theorem aV2:fY (aA env 3000 12 61 [.d (.str [97,98,99,32,43,49,44,48,44,50,32,43,50,44,48,44,49,32,45,50,44,50,44,50])] [])=true:=kr
theorem aWO:fY (aA env 3000 12 61 [.d (.str [45,32,43])] [])=true:=kr
theorem aT8:fY (aA env 3000 12 61 [.d (.str [97,98,99,32,43,48,44,49,44,48,32,43,48,44,49,44,50,32,45,50,44,50,44,50])] [])=true:=kr
theorem aWz:fY (aA env 3000 12 61 [.d (.str [97,32,43,49,32,45,48])] [])=true:=kr
theorem aWB:fY (aA env 3000 12 61 [.d (.str [97,98,32,43,48,44,49,32,43,50,44,49,32,45,50,44,50])] [])=true:=kr
theorem aWN:fY (aA env 3000 12 61 [.d (.str [98,32,43,49,32,45,49])] [])=true:=kr
theorem aWk:fY (aA env 3000 12 61 [.d (.str [97,99,32,43,49,44,50,32,43,49,44,50,32,45,50,44,50])] [])=true:=kr
theorem aWe:fY (aA env 3000 12 61 [.d (.str [97,98,32,43,48,44,49,32,45,48,44,49])] [])=true:=kr
theorem aV4:fY (aA env 3000 12 61 [.d (.str [98,99,32,43,49,44,50,32,43,50,44,48,32,45,50,44,50])] [])=true:=kr
theorem aWD:fY (aA env 3000 12 61 [.d (.str [97,98,32,43,49,44,48,32,45,49,44,49])] [])=true:=kr
theorem aSY:∀t∈FI,fY (aA env 3000 12 61 [.d (.str t)] [])=true:=by
 intro t ht;simp only[FI,Au,Bv,or_false]at ht
 rcases ht with rfl|rfl|rfl|rfl|rfl|rfl|rfl|rfl|rfl|rfl|rfl|rfl
 ·exact aWD
 ·exact aWB
 ·exact aWk
 ·exact aWN
 ·exact aV2
 ·exact aWO
 ·exact aWc
 ·exact aWz
 ·exact aWe
 ·exact aV4
 ·exact aUB
 ·exact aT8
section
def More(c1 c2:aZ):Prop:=∀f args h r,c1 f args h=some r->c2 f args h=some r
section
variable{E:Env}{c1 c2:aZ}(hc:More c1 c2)
include hc
theorem aGD{hint:FuncId->Hint}{h:H}{f:FuncId}{args:List A}{r:A×H}(he:bY c1 hint h f args=some r):bY c2 hint h f args=some r:=by
 unfold bY at he|-;generalize(hint f).mode=m at *
 have key:∀(fs:List A) (g:Option (A×H)->Option (A×H)),g none=none->g (c1 f fs [])=some r->g (c2 f fs [])=some r:=by
  intro fs g h0 h1
  cases h2:c1 f fs []with
  |none=>rw[h2,h0]at h1;cases h1
  |some q=>rw[h2]at h1;rw[hc _ _ _ _ h2];exact h1
 match m with
 |0=>exact hc _ _ _ _ he
 |1=>
  simp only at he|-
  cases hf:d8 h args with
  |none=>rw[hf]at he;cases he
  |some q=>rw[hf]at he;exact key q.1 (fun o=>match o with|some (r,[])=>if hJ r then some (r,h)else none|_=>none) rfl he
 |3=>
  simp only at he|-
  cases hf:d8 h args with
  |none=>rw[hf]at he;cases he
  |some q=>rw[hf]at he;exact key q.1 (fun o=>match o with|some (r,h2)=>if lW r&&h2.all kL then some (mapA (back [] h.length h2.length) r,h++h2.map (mapO (back [] h.length h2.length)))else none|none=>none) rfl he
 |2=>
  simp only at he|-
  cases hf:d8 h args with
  |none=>rw[hf]at he;cases he
  |some q=>rw[hf]at he;exact key q.1 (fun o=>match o with|some (r,[])=>some (r,q.2)|some (r,h2)=>some (mapA (back [] q.2.length h2.length) r,q.2++h2.map (mapO (back [] q.2.length h2.length)))|none=>none) rfl he
 |m+4=>
  simp only at he|-
  cases hf:d8 h args with
  |none=>rw[hf]at he;cases he
  |some q=>rw[hf]at he;exact key q.1 (fun o=>match o with|some (r,[])=>some (r,q.2)|some (r,h2)=>some (mapA (back [] q.2.length h2.length) r,q.2++h2.map (mapO (back [] q.2.length h2.length)))|none=>none) rfl he
theorem aL1{hint:FuncId->Hint}{h:H}{c:A}{args:List A}{r:A×H}(he:eZ c1 hint h c args=some r):eZ c2 hint h c args=some r:=by
 unfold eZ at he|-
 split at he
 ·exact aGD hc he
 ·exact aGD hc he
 ·cases he
theorem aKV{h:H}{c:Callee}{tys:List TypeId}{vs:List A}{r:A×H}(he:eK E c1 h c tys vs=some r):eK E c2 h c tys vs=some r:=by
 unfold eK at he|-
 split at he
 ·split at he
  ·exact aL1 hc he
  ·cases he
 ·exact he
 ·cases he
theorem OW{thaw:List Nat}{h:H}{o:Oper}{vs:List A}{r:A×H}(he:evOp E c1 thaw h o vs=some r):evOp E c2 thaw h o vs=some r:=by
 unfold evOp at he|-
 split at he<;>first|exact aKV hc he|exact he
theorem aE0{thaw:List Nat}{h:H}{o:Oper}{vs:List A}{r:A×H×List Nat×Nat}(he:i7 E c1 thaw h o vs=some r):i7 E c2 thaw h o vs=some r:=by
 unfold i7 at he|-;simp only at he|-
 split at he
 ·rename_i a h1 h2
  rw[OW hc h2];exact he
 ·cases he
theorem aNL{thaw:List Nat}{ops:List Oper}{o:Oper}{s:List A}{h:H}{r:List A×H}(he:FE E c1 thaw ops o s h=some r):FE E c2 thaw ops o s h=some r:=by
 unfold FE at he|-
 cases hw:sP ops s o with
 |none=>rw[hw]at he;cases he
 |some b=>
  rw[hw]at he
  cases b with
  |false=>exact he
  |true=>
   simp only at he|-
   cases hv:bT s (opds o.op)with
   |none=>rw[hv]at he;cases he
   |some vs=>
    rw[hv]at he;simp only at he|-
    by_cases hi:wZ o.op=true
    ·rw[if_pos hi]at he|-
     cases hf:i7 E c1 thaw h o vs with
     |none=>rw[hf]at he;cases he
     |some q=>rw[hf]at he;rw[aE0 hc hf];exact he
    ·rw[if_neg hi]at he|-
     cases hf:evOp E c1 thaw h o vs with
     |none=>rw[hf]at he;cases he
     |some q=>rw[hf]at he;rw[OW hc hf];exact he
theorem aGe{thaw:List Nat}{ops:List Oper}:∀ {os:List Oper} {s:List A} {h:H} {r:List A×H},AZ E c1 thaw ops os s h=some r->AZ E c2 thaw ops os s h=some r
 | [],s,h,r,he=>he
 |o::os,s,h,r,he=>by
  unfold AZ at he|-
  cases hs:FE E c1 thaw ops o s h with
  |none=>rw[hs]at he;cases he
  |some q=>rw[hs]at he;rw[aNL hc hs];exact aGe he
theorem aNx{thaw:List Nat}{ops:List Oper}{o:Oper}{s:List A}{h:H}{r:List A×H×Foot}(he:y6 E c1 thaw ops o s h=some r):y6 E c2 thaw ops o s h=some r:=by
 unfold y6 at he|-
 cases hw:sP ops s o with
 |none=>rw[hw]at he;cases he
 |some b=>
  rw[hw]at he
  cases b with
  |false=>exact he
  |true=>
   simp only at he|-
   cases hv:bT s (opds o.op)with
   |none=>rw[hv]at he;cases he
   |some vs=>
    rw[hv]at he;simp only at he|-
    by_cases hi:qW o.op=true
    ·rw[if_pos hi]at he|-
     cases hf:evOp E c1 thaw h o vs with
     |none=>rw[hf]at he;cases he
     |some q=>rw[hf]at he;rw[OW hc hf];exact he
    ·rw[if_neg hi]at he|-
     by_cases hj:rI o.op=true
     ·rw[if_pos hj]at he|-
      cases hf:evOp E c1 thaw h o vs with
      |none=>rw[hf]at he;cases he
      |some q=>rw[hf]at he;rw[OW hc hf];exact he
     rw[if_neg hj]at he|-
     cases hf:i7 E c1 thaw h o vs with
     |none=>rw[hf]at he;cases he
     |some q=>rw[hf]at he;rw[aE0 hc hf];exact he
theorem aCE{thaw:List Nat}{ops:List Oper}:∀ {os:List Oper} {s:List A} {h:H} {r:List A×H×List Foot},lL E c1 thaw ops os s h=some r->lL E c2 thaw ops os s h=some r
 | [],s,h,r,he=>he
 |o::os,s,h,r,he=>by
  unfold lL at he|-
  cases hs:y6 E c1 thaw ops o s h with
  |none=>rw[hs]at he;cases he
  |some q=>
   rw[hs]at he;rw[aNx hc hs];simp only at he|-
   cases h2:lL E c1 thaw ops os q.1 q.2.1 with
   |none=>rw[h2]at he;cases he
   |some z=>rw[h2]at he;rw[aCE h2];exact he
theorem aKu{thaw:List Nat}{ops:Array Oper}{draw:Bool}{s:List A}{h:H}{r:List A×H}(he:nA E c1 thaw ops draw s h=some r):nA E c2 thaw ops draw s h=some r:=by
 unfold nA at he|-
 by_cases hd:draw=true
 ·rw[if_pos hd]at he|-
  cases ho:lL E c1 thaw ops.toList ops.toList s h with
  |none=>rw[ho]at he;cases he
  |some q=>rw[ho]at he;rw[aCE hc ho];exact he
 ·rw[if_neg hd]at he|-;exact aGe hc he
end
theorem aCT{b1 b2:List A->H->Option (Exit×List A×H)}(hb:∀s h r,b1 s h=some r->b2 s h=some r){nf:Nat}{m:List Bool}:∀ {n1 n2:Nat} {s:List A} {h:H} {r:Exit×List A×H},n1<=n2->uJ b1 nf m n1 s h=some r->uJ b2 nf m n2 s h=some r
 |0,n2,s,h,r,_,he=>by simp[uJ]at he
 |n1+1,0,s,h,r,hn,he=>by omega
 |n1+1,n2+1,s,h,r,hn,he=>by
  unfold uJ at he|-
  cases hs:b1 s h with
  |none=>rw[hs]at he;cases he
  |some q=>
   rw[hs]at he;rw[hb _ _ _ hs];obtain⟨e,s1,h1⟩:=q
   cases e with
   |normal=>exact aCT hb om he
   |_=>exact he
theorem aOD{E:Env}{c1 c2:aZ}(hc:More c1 c2){L1 L2 nf:Nat}(hL:L1<=L2){thaw:List Nat}{live:List Bool}:∀(c:Code) {s:List A} {h:H} {r:Exit×List A×H},b8 E c1 L1 nf thaw live c s h=some r->b8 E c2 L2 nf thaw live c s h=some r:=by
 intro c
 induction c with
 |region i ops draw=>
  intro s h r he;unfold b8 at he|-
  cases hr:nA E c1 thaw ops draw s h with
  |none=>rw[hr]at he;cases he
  |some q=>rw[hr]at he;rw[aKu hc hr];exact he
 |seq a b iha ihb=>
  intro s h r he;unfold b8 at he|-
  cases ha:b8 E c1 L1 nf thaw live a s h with
  |none=>rw[ha]at he;cases he
  |some q=>
   rw[ha]at he;rw[iha ha];obtain⟨e,s1,h1⟩:=q
   cases e with
   |normal=>exact ihb he
   |_=>exact he
 |cond x a b iha ihb=>
  intro s h r he;unfold b8 at he|-
  cases hv:cE s x with
  |none=>rw[hv]at he;cases he
  |some v=>
   rw[hv]at he
   cases v with
   |d y=>
    cases y with
    |bool b=>
     cases b with
     |true=>exact iha he
     |false=>exact ihb he
    |_=>cases he
   |_=>cases he
 |block i a iha=>
  intro s h r he;unfold b8 at he|-
  cases ha:b8 E c1 L1 nf thaw live a s h with
  |none=>rw[ha]at he;cases he
  |some q=>rw[ha]at he;rw[iha ha];exact he
 |loop a iha=>
  intro s h r he;unfold b8 at he|-;exact aCT (fun s h r=>iha) hL he
 |_=>intro s h r he;simp only[b8]at he|-;first|exact he|cases he
theorem aOG{E:Env}{c1 c2:aZ}(hc:More c1 c2){L1 L2:Nat}(hL:L1<=L2){f:FuncId}{fn:Func}{c:Code}{args:List A}{h:H}{r:A×H}(he:KY E c1 L1 f fn c args h=some r):KY E c2 L2 f fn c args h=some r:=by
 unfold KY at he|-
 split at he
 ·rename_i e s h1 hcd
  rw[aOD hc hL c hcd];exact he
 ·cases he
theorem aCB{E:Env}{L1 L2:Nat}(hL:L1<=L2):∀ {n1 n2:Nat},n1<=n2->More (aA E L1 n1) (aA E L2 n2)
 |0,n2,_=>by intro f args h r he;simp[aA]at he
 |n1+1,0,hn=>by omega
 |n1+1,n2+1,hn=>by
  intro f args h r he;have ih:=aCB (E:=E) hL (n1:=n1) (n2:=n2) om;unfold aA at he|-
  cases hp:E.prim f with
  |some g=>rw[hp]at he;exact he
  |none=>
   rw[hp]at he;simp only at he|-
   cases hf:E.P.funcs[f]? with
   |none=>rw[hf]at he;cases he
   |some fn=>
    rw[hf]at he;simp only at he|-
    cases hb:fn.body with
    |none=>rw[hb]at he;cases he
    |some c=>
     rw[hb]at he;simp only at he|-
     by_cases hnm : (fn.name == "runtime.NumGoroutine") = true
     ·rw[if_pos hnm]at he;cases he
     ·rw[if_neg hnm]at he|-;exact aOG ih hL he
end
theorem aF6:∀(n:Nat) (cs:List D),aHi n cs=true->∃l:List Int,l.length=n/\cs=ints l
 |0,[],_=>⟨[],rfl,rfl⟩
 |0,_::_,h=>by simp[aHi]at h
 |n+1,cs,h=>by
  unfold aHi at h
  split at h
  ·exfalso;omega
  ·rename_i m a ds heq
   cases heq;obtain⟨l,h1,h2⟩:=aF6 n _ h
   exact⟨a::l,by simp[h1],by rw[h2];rfl⟩
  ·cases h
theorem ZJ:∀(n:Nat) (cs:List D),Z9 n cs=true->∃l:List Bool,l.length=n/\cs=aD l
 |0,[],_=>⟨[],rfl,rfl⟩
 |0,_::_,h=>by simp[Z9]at h
 |n+1,cs,h=>by
  unfold Z9 at h
  split at h
  ·exfalso;omega
  ·rename_i m a ds heq
   cases heq;obtain⟨l,h1,h2⟩:=ZJ n _ h
   exact⟨a::l,by simp[h1],by rw[h2];rfl⟩
  ·cases h
theorem aGo(w:Nat):∀(n:Nat) (cs:List D),aGv w n cs=true->∃l:List (List Int),l.length=n/\(∀r∈l,r.length=w)/\cs=aE l
 |0,[],_=>⟨[],rfl,by simp,rfl⟩
 |0,_::_,h=>by simp[aGv]at h
 |n+1,cs,h=>by
  unfold aGv at h
  split at h
  ·exfalso;omega
  ·rename_i m k rs ds heq
   cases heq;simp only[Ar,beq_iff_eq]at h
   obtain⟨r,h3,h4⟩:=aF6 k _ h.1.1;obtain⟨l,h1,h2,h5⟩:=aGo w n _ h.2;refine⟨r::l,by simp[h1],?_,?_⟩
   ·intro x hx
    rcases Au.1 hx with rfl|hx
    ·rw[h3,h.1.2]
    ·exact h2 x hx
   ·rw[h5,h4,<-h3];rfl
  ·cases h
theorem aSJ{r:Option (A×H)}(h:fY r=true):∃(al:Int) (nx:List (List Int)) (ac:List Bool),1<=nx.length/\nx.length<=12/\ac.length=nx.length/\(∀r∈nx,r.length=(aB al).length)/\r=some (.tup [autD al nx ac,.d (.bool true)],[]):=by
 unfold fY at h
 split at h
 ·rename_i al n rs m bs
  simp only[Ar,decide_eq_true_eq,beq_iff_eq]at h;obtain⟨⟨⟨h1,h2⟩,h3⟩,h4,h5⟩:=h;obtain⟨l,g1,g2,g3⟩:=aGo _ _ _ h1;obtain⟨b,g4,g5⟩:=ZJ _ _ h2;subst g3;subst g5;refine⟨al,l,b,by omega,by omega,by omega,g2,?_⟩;unfold autD;rw[g1,g4]
 ·cases h
theorem aBC{t:List UInt8}(ht:t∈FI):∃(al:Int) (nx:List (List Int)) (ac:List Bool),1<=nx.length/\nx.length<=12/\ac.length=nx.length/\(∀r∈nx,r.length=(aB al).length)/\∀(L n:Nat),12<=n->2^60<=L->aA env L n 61 [.d (.str t)] []=some (.tup [autD al nx ac,.d (.bool true)],[]):=by
 obtain⟨al,nx,ac,h1,h2,h3,h4,h5⟩:=aSJ (aSY t ht);exact⟨al,nx,ac,h1,h2,h3,h4,fun L n hn hL=>aCB om hn _ _ _ _ h5⟩
theorem aL7:(env.hint 31).mode=0:=kr
theorem aA1{L n:Nat}(hn:1<=n):aA env L n 63 [] []=some (.d (.ivs 12 (aM FI)),[]):=by
 obtain _|n:=n;omega
 kernel_rfl
theorem aLC:type_of% fun {L}=>ks fun hn=> @aA1 L _ hn:=fun {L}=>ks fun hn=> @aA1 L _ hn
theorem aKb{c:List UInt8}(hc:c.length<=2000)(p:Int)(hp:0<=p)(hp2:p<=800000000):
  ∃(al:Int) (nx:List (List Int)) (ac:List Bool) (q:Int),1<=nx.length/\nx.length<=12/\ac.length=nx.length/\(∀r∈nx,r.length=(aB al).length)/\p<=q/\q<=p+60/\(Dw 14 31 [] (autD al nx ac) c p q):=by
 obtain⟨v,v0,v1,_,kd1⟩:=eC hc p 3 hp om
 by_cases hv:v=0
 ·subst hv;obtain⟨t,ht,kd2⟩:=aXm hc FI (by simp[FI]) (by simp[FI]) (p+1) om om;have e11:FI.length=12:=rfl;rw[e11]at kd2;obtain⟨al,nx,ac,g1,g2,g3,g4,he⟩:=aBC ht;have kc_p:∀ {R:Type} {L n:Nat} {hq:H} {k:KA R},12<=n->2^60<=L->aX env (aA env L n) hq 61 [.d (.str t)] k=k (.tup [autD al nx ac,.d (.bool true)]) hq:=fun hn hL=>bS rfl (he _ _ hn hL) rfl (.inr rfl);refine⟨al,nx,ac,p+1+1,g1,g2,g3,g4,by omega,by omega,fun R L n hq k hn hL=>b7 aL7 rfl (by simp[autD,idsA,idsL]) ?_⟩;unfold autD at kc_p|-;clear he g4;obtain _|n:=n;omega
  simp-implicitDefEqProofs (maxSteps:=9^7) (disch:=try exact Dz) only[↓DN,↓kRet,UP,simprocAttr,↓aLC,↓kd1,↓kd2,↓kc_p,aCz,VI,Tryz.f31]
 ·obtain⟨al,_,kd2⟩:=AP hc [3,6,7,5,1,0,2] smp smp (p+1) om om;obtain⟨nx,ac,q,g1,g2,g3,g4,g5,g6,kd3⟩:=aSS hc al (p+1+1) om om;simp only[ints,Aj,As,Ae,Ac,Ag,Nat.reduceAdd]at kd2;refine⟨al,nx,ac,q,g1,by omega,g3,g4,by omega,by omega,fun R L n hq k hn hL=>b7 aL7 rfl (by simp[autD,idsA,idsL]) ?_⟩;unfold autD at kd3|-;clear g4;obtain _|n:=n;omega
  simp-implicitDefEqProofs (maxSteps:=9^7) (disch:=try exact Dz) only[↓DN,↓kRet,UP,simprocAttr,hv,↓kd1,↓kd2,↓kd3,aCz,VI,Tryz.f31]
theorem aOc{d:List (List Int)}{x y:Int}:aE d++[.ivs 2 [.int .i64 x,.int .i64 y]]=aE (d++[[x,y]]):=by
 simp[aE,rowD,ints]
theorem aKh{c:List UInt8}(hc:c.length<=2000):∀(j i:Nat) (p:Int) (d:List (List Int)) (bl:List Bool) (hi:i+j=12) (h1:1<=i) (hd:d.length=i) (hb:bl.length=i) (hr:∀r∈d,r.length=2) (hp:0<=p) (hp2:p+2*j<=1000000000),
  ∃(d2:List (List Int)) (bl2:List Bool) (q:Int),d2.length=12/\bl2.length=12/\(∀r∈d2,r.length=2)/\p<=q/\q<=p+2*j/\∀(R:Type) (L n m:Nat) (k:KE R),2<=n->2^60<=L->j<m->
  aT env (aA env L n) L 1 [] Bz25 (IF 0) Bz46 m (.ptr 0 0 0::Y1 (.ptr 1 0 0::.ptr 2 0 0::nI i::Y16 (Y8 (Y4 (Y2 (Y1 ([]))))))) (rdO c p::.box [nI 0,.sl 3 0 0 0,.sl 4 0 0 0]::.box [nI 3,.sl 5 0 0 d.length,.sl 6 0 0 bl.length]::.arr [] 0 0::.arr [] 0 0::.arr (aE d) 1 0::.arr (aD bl) 1 0::[]) k
  =k (.exit 0) (.ptr 0 0 0::Y1 (.ptr 1 0 0::.ptr 2 0 0::nI 12::Y16 (Y8 (Y4 (Y2 (Y1 ([]))))))) (rdO c q::.box [nI 0,.sl 3 0 0 0,.sl 4 0 0 0]::.box [nI 3,.sl 5 0 0 d2.length,.sl 6 0 0 bl2.length]::.arr [] 0 0::.arr [] 0 0::.arr (aE d2) 1 0::.arr (aD bl2) 1 0::[]):=by
 intro j
 induction j with
 |zero=>
  intro i p d bl hi h1 hd hb hr hp hp2;obtain rfl:i=12:=om;refine⟨d,bl,p,hd,hb,hr,by omega,by omega,fun R L n m k hn hL hm=> ?_⟩;obtain _|m:=m;omega;have e12:((12:Nat):Int)=12:=rfl;rw[e12]
  simp-implicitDefEqProofs (maxSteps:=9^7) (disch:=try exact Dz) only[↓DN,↓kRet,UP,simprocAttr,Ah,DE,EG,Tryz.f58]
 |succ j ih=>
  intro i p d bl hi h1 hd hb hr hp hp2;obtain⟨x,hx,kd1⟩:=AP hc [(i:Int),0,11] smp smp p hp om;obtain⟨v,v0,v1,_,kd2⟩:=eC hc (p+1) 5 om om
  obtain⟨d2,bl2,q,g1,g2,g3,g4,g5,kd3⟩:=ih (i+1) (p+1+1) (d++[[((i:Int)+1).tmod 12,x]]) (bl++[decide (v=0)]) om om (by simp[hd]) (by simp[hb]) (by
   intro r hrm
   rcases Ak.1 hrm with h|h
   ·exact hr r h
   ·simp at h;subst h;rfl) om om
  refine⟨d2,bl2,q,g1,g2,g3,by omega,by omega,fun R L n m k hn hL hm=> ?_⟩;obtain _|m:=m;omega;have kd3':=kd3 R L n m k hn hL om;rw[cs1 i]at kd3';simp only[Af,Ae,Ac,Ag]at kd3';have hc1:(i:Int)<12:=om;have hc2:¬((i:Int)=0):=om;have hb1:(0:Int)<=i:=om;have hdl:d.length<=12:=om;have hbl:bl.length<=12:=om;simp only[ints,Aj,As,Ae,Ac,Ag,Nat.reduceAdd]at kd1;clear ih kd3 hr g3
  simp-implicitDefEqProofs (maxSteps:=9^7) (disch:=try exact Dz) only[↓DN,↓kRet,UP,simprocAttr,LA,hc1,hc2,↓kd1,↓kd2,aOc,xD,↓kd3',Bj,DE,EG,Tryz.f58]
theorem aBK{c:List UInt8}(hc:c.length<=2000)(p:Int)(hp:0<=p)(hp2:p<=900000000):
  ∃(d2:List (List Int)) (bl2:List Bool) (q:Int),d2.length=12/\bl2.length=12/\(∀r∈d2,r.length=2)/\p<=q/\q<=p+40/\∀(R:Type) (L n m:Nat) (k:KE R),2<=n->2^60<=L->12<m->
  aT env (aA env L n) L 1 [] Bz25 (IF 0) Bz46 m (.ptr 0 0 0::Y1 (.ptr 1 0 0::.ptr 2 0 0::nI 0::Y16 (Y8 (Y4 (Y2 (Y1 ([]))))))) (rdO c p::.box [nI 0,.sl 3 0 0 0,.sl 4 0 0 0]::.box [nI 3,.sl 5 0 0 0,.sl 6 0 0 0]::.arr [] 0 0::.arr [] 0 0::.arr [] 0 0::.arr [] 0 0::[]) k
  =k (.exit 0) (.ptr 0 0 0::Y1 (.ptr 1 0 0::.ptr 2 0 0::nI 12::Y16 (Y8 (Y4 (Y2 (Y1 ([]))))))) (rdO c q::.box [nI 0,.sl 3 0 0 0,.sl 4 0 0 0]::.box [nI 3,.sl 5 0 0 d2.length,.sl 6 0 0 bl2.length]::.arr [] 0 0::.arr [] 0 0::.arr (aE d2) 1 0::.arr (aD bl2) 1 0::[]):=by
 obtain⟨x,hx,kd1⟩:=AP hc [0,0,11] smp smp p hp om;obtain⟨d2,bl2,q,g1,g2,g3,g4,g5,kd3⟩:=aKh hc 11 1 (p+1) [[1,x]] [true] om om rfl rfl smp om om;refine⟨d2,bl2,q,g1,g2,g3,by omega,by omega,fun R L n m k hn hL hm=> ?_⟩;obtain _|m:=m;omega;have kd3':=kd3 R L n m k hn hL om;simp only[ints,Aj,As,Ae,Ac,Ag,Nat.reduceAdd]at kd1;have e1:aE [[1,x]]=[.ivs 2 [.int .i64 1,.int .i64 x]]:=rfl;have e2:aD [true]=[.bool true]:=rfl;have e3:((1:Nat):Int)=1:=rfl;rw[e1,e2,e3]at kd3';simp only[Ae,Ac,Ag]at kd3';clear kd3
 simp-implicitDefEqProofs (maxSteps:=9^7) (disch:=try exact Dz) only[↓DN,↓kRet,UP,simprocAttr,↓kd1,↓kd3',Bj,DE,EG,Tryz.f58]
theorem aQn{c:List UInt8}(hc:c.length<=2000)(p:Int)(hp:0<=p)(hp2:p<=900000000):
  ∃(nx:List (List Int)) (ac:List Bool) (q:Int),nx.length=12/\ac.length=12/\(∀r∈nx,r.length=(aB 3).length)/\p<=q/\q<=p+40/\∀(L n:Nat),3<=n->2^60<=L->
  aA env L n 58 [.ptr 0 0 0] [rdO c p]=some (autD 3 nx ac,[rdO c q]):=by
 obtain⟨d2,bl2,q,g1,g2,g3,g4,g5,kd⟩:=aBK hc p hp hp2;refine⟨d2,bl2,q,g1,g2,g3,by omega,by omega,fun L n hn hL=> ?_⟩;have loop_a:=fun {R:Type} {n:Nat} {k:KE R} (hn:2<=n)=>kd R L n L k hn hL om;have hr1:=jU (l:=d2);have hb1:=cU (l:=bl2);unfold autD;clear kd g3;obtain _|n:=n;omega
 simp-implicitDefEqProofs (maxSteps:=9^7) (disch:=try exact Dz) only[↓DN,↓kAsg,↓kRet,UP,simprocAttr,LA,↓loop_a,hr1,hb1,Ab,aPU,aI8,Tryz.f58]
theorem aMB{d:List (List Int)}{o o1 o2 o3:O}{p:H}{k:Nat}(h:k=d.length+3):(aK d++o1::o2::o3::o::p)[k]? =some o:=by
 subst h;rw[Bo (by rw[cG];omega),cG,Ed];rfl
theorem tC{t:H}{y1 y2:D}{v w n m gv gw:Nat}{al:Int}{rs:List (List Int)}{ac:List Bool}(k1:rd1 (.box [.d y1,.d y2]::t) (.sl v gv 0 n)=some (.ivs rs.length (aE rs)))(k2:rd1 (.box [.d y1,.d y2]::t) (.sl w gw 0 m)=some (.ivs ac.length (aD ac)))(hv:1<=v)(hw:1<=w):
  ∃h2,p9 1 false (.box [.d y1,.d y2]::t) [.agg [nI al,.sl v gv 0 n,.sl w gw 0 m]]=some ([autD al rs ac],h2)/\aF 1099511627776 h2 (eM (List.take 1 h2)) [0]=[0]/\List.getD h2 0 default=.box [.d y1,.d y2]:=by
 obtain⟨ha,e1,i1⟩:=aBy 4 (aJF _) k1;obtain⟨hb,e2,i2⟩:=aBy 4 i1 k2
 have h0:hb[0]? =some (.box [.d y1,.d y2]):=by
  rcases i2 0 with h|⟨_,_,_,h,_⟩|⟨_,_,_,_,h,_⟩
  ·rw[h];rfl
  ·cases h
  ·cases h
 obtain⟨t2,rfl⟩:∃t2,hb=.box [.d y1,.d y2]::t2:=by
  cases hb with
  |nil=>simp at h0
  |cons o t2=>simp at h0;exact⟨t2,by rw[h0]⟩
 refine⟨.box [.d y1,.d y2]::t2,?_,rfl,rfl⟩;have hv1:¬(v<1):=om;have hv2:¬(w<1):=om;simp only[p9,outA,EB,outS,hv1,hv2,decide_false,Bool.or_self,Al,if_false];rw[show deep=4+1 from rfl,e1];simp only[Bb];rw[e2];rfl
theorem jZ:(env.hint 57).mode=0:=kr
theorem aAv{R:Type}{L n:Nat}{hq:H}{al:Int}{rs:List (List Int)}{ac:List Bool}{k:KA R}(hs:aW rs)(h1:1<=rs.length)(ha:ac.length<=4294967295)(hn:2<=n)(hL:2^60<=L):
  aX env (aA env L n) hq 60 [.agg [nI al,.d (.ivs rs.length (aE rs)),.d (.ivs ac.length (aD ac))]] k=k (autA hq.length al rs.length ac.length) (hq++autO hq.length rs ac):=by
 have he:=aOz hn al rs ac hs h1 ha hL;have hb:∀b i,i<rs.length+2->back [] b (autO 0 rs ac).length i=some (b+i):=fun b i hi=>aM3 (by rw[TA];exact hi);have hA:∀b,mapA (back [] b (autO 0 rs ac).length) (autA 0 al rs.length ac.length)=autA b al rs.length ac.length:=fun b=>aNK (by simpa using hb b 0 om) (by simpa using hb b 1 om);have hO:∀b,(autO 0 rs ac).map (mapO (back [] b (autO 0 rs ac).length))=autO b rs ac:=fun b=>aUg TA;obtain⟨o,t,hot⟩:∃o t,autO 0 rs ac=o::t:=⟨_,_,rfl⟩
 have hcall:bY (aA env L n) env.hint [] 60 [.agg [nI al,.d (.ivs rs.length (aE rs)),.d (.ivs ac.length (aD ac))]]=some (autA 0 al rs.length ac.length,autO 0 rs ac):=by
  have h2:=hA 0;have h3:=hO 0;have hf:d8 [] [.agg [nI al,.d (.ivs rs.length (aE rs)),.d (.ivs ac.length (aD ac))]]=some ([.agg [nI al,.d (.ivs rs.length (aE rs)),.d (.ivs ac.length (aD ac))]],[]):=rfl;rw[hot]at he h2 h3|-;unfold bY;rw[rA];simp only[hf,he,Ac,Aq,h2,h3]
 have hids:idsL [A.agg [nI al,.d (.ivs rs.length (aE rs)),.d (.ivs ac.length (aD ac))]]=[]:=by simp[idsL,idsA]
 unfold aX;rw[hids,AB,fU _ hids];have hp:pack hq []=[]:=rfl;rw[hp,hcall];simp only[Ac,Nat.zero_le,true_and,closed,Cd,Bq,if_true,bJ,hA,hO]
theorem aNz{c:List UInt8}(hc:c.length<=2000)(al:Int)(nx:List (List Int))(ac:List Bool)(hs:aW nx)(h1:1<=nx.length)(ha:ac.length<=4294967295)(p t u:Int)(hu0:¬(u=0))(hu1:¬(u=1))(hu2:¬(u=2))(hu3:¬(u=3))(hu4:¬(u=4))(hu5:¬(u=5))
  (kd1:(Dw 1 30 [nI (nx.length)] (nI t) c p (p+1)))
  (kd2:(Dw 1 30 [nI 30] (nI u) c (p+1) (p+1+1))):(Dw 4 57 [autD al nx ac] (autD al nx ac) c p (p+1+1)):=by
 intro R L n hq k hn hL;refine b7 jZ (by simp[autD,idsA,idsL]) (by simp[autD,idsA,idsL]) ?_;have hnl:=hs.1;have kd3:=fun {R:Type} {n:Nat} {hq:H} {k:KA R} (hn:2<=n)=>aAv (R:=R) (L:=L) (n:=n) (hq:=hq) (al:=al) (k:=k) hs h1 ha hn hL;simp only[autA,autO]at kd3
 have hH:Has (rdO c (p+1+1)::.box [nI al,.d (.ivs nx.length (aE nx)),.d (.ivs ac.length (aD ac))]::.arr [] 0 0::.arr [] 0 0::.box [nI al,.sl 5 0 0 nx.length,.sl 6 0 0 ac.length]::.vec (aC 7 nx++aH 0) 1 0::.arr (aD ac) 1 0::(aK nx++.arr [] 0 0::.arr [] 0 0::.box [nI al,.sl 5 0 0 nx.length,.sl 6 0 0 ac.length]::[])) 5 nx ac:=by
  have:=Q1 (h:=[rdO c (p+1+1),.box [nI al,.d (.ivs nx.length (aE nx)),.d (.ivs ac.length (aD ac))],.arr [] 0 0,.arr [] 0 0,.box [nI al,.sl 5 0 0 nx.length,.sl 6 0 0 ac.length]]) (v:=5) (rs:=nx) (ac:=ac) (p:=.arr [] 0 0::.arr [] 0 0::.box [nI al,.sl 5 0 0 nx.length,.sl 6 0 0 ac.length]::[]) rfl
  simpa using this
 obtain⟨h2,st_out,st_keep,st_trim⟩:=RP (n:=nx.length) (m:=ac.length) (al:=al) hH om rfl rfl;unfold autD at st_out|-;clear hH;obtain _|n:=n;omega
 simp-implicitDefEqProofs (maxSteps:=9^7) (disch:=try exact Dz) only[↓DN,↓kRet,UP,simprocAttr,hu0,hu1,hu2,hu3,hu4,hu5,↓kd1,↓kd2,↓kd3,cG,Ao,LO,KW,↓st_out,↓st_keep,↓st_trim,cV,c9,Tryz.f57]
theorem aQE{c:List UInt8}(hc:c.length<=2000)(al:Int)(nx:List (List Int))(ac:List Bool)(hs:aW nx)(h1:1<=nx.length)(ha:ac.length<=4294967295)(p t:Int)(hp:0<=p)(hp2:p<=900000000)
  (kd1:(Dw 1 30 [nI (nx.length)] (nI t) c p (p+1)))
  (kd2:(Dw 1 30 [nI 30] (nI 0) c (p+1) (p+1+1))):∃al2:Int,(Dw 4 57 [autD al nx ac] (autD al2 nx ac) c p (p+1+1+1)):=by
 obtain⟨al2,_,kd4⟩:=AP hc [64,-1,1,63,0] smp smp (p+1+1) om om;simp only[ints,Aj,As,Ae,Ac,Ag,Nat.reduceAdd]at kd4;refine⟨al2,?_⟩;intro R L n hq k hn hL;refine b7 jZ (by simp[autD,idsA,idsL]) (by simp[autD,idsA,idsL]) ?_;have hnl:=hs.1;have kd3:=fun {R:Type} {n:Nat} {hq:H} {k:KA R} (hn:2<=n)=>aAv (R:=R) (L:=L) (n:=n) (hq:=hq) (al:=al) (k:=k) hs h1 ha hn hL;simp only[autA,autO]at kd3
 have hH:Has (rdO c (p+1+1+1)::.box [nI al,.d (.ivs nx.length (aE nx)),.d (.ivs ac.length (aD ac))]::.arr [] 0 0::.arr [] 0 0::.box [nI al2,.sl 5 0 0 nx.length,.sl 6 0 0 ac.length]::.vec (aC 7 nx++aH 0) 1 0::.arr (aD ac) 1 0::(aK nx++.arr [] 0 0::.arr [] 0 0::.box [nI al2,.sl 5 0 0 nx.length,.sl 6 0 0 ac.length]::.arr [.int .i64 64,.int .i64 (-1),.int .i64 1,.int .i64 63,.int .i64 0] 1 0::[])) 5 nx ac:=by
  have:=Q1 (h:=[rdO c (p+1+1+1),.box [nI al,.d (.ivs nx.length (aE nx)),.d (.ivs ac.length (aD ac))],.arr [] 0 0,.arr [] 0 0,.box [nI al2,.sl 5 0 0 nx.length,.sl 6 0 0 ac.length]]) (v:=5) (rs:=nx) (ac:=ac) (p:=.arr [] 0 0::.arr [] 0 0::.box [nI al2,.sl 5 0 0 nx.length,.sl 6 0 0 ac.length]::.arr [.int .i64 64,.int .i64 (-1),.int .i64 1,.int .i64 63,.int .i64 0] 1 0::[]) rfl
  simpa using this
 obtain⟨h2,st_out,st_keep,st_trim⟩:=RP (n:=nx.length) (m:=ac.length) (al:=al2) hH om rfl rfl
 have hnum:(O.box [nI al,.d (.ivs nx.length (aE nx)),.d (.ivs ac.length (aD ac))]::.arr [] 0 0::.arr [] 0 0::.box [nI 0,.sl 2 0 0 0,.sl 3 0 0 0]::.vec (aC 7 nx++aH 0) 1 0::.arr (aD ac) 1 0::(aK nx++[.arr [] 0 0,.arr [] 0 0,.box [nI al,.sl 5 0 0 nx.length,.sl 6 0 0 ac.length],.arr [.int .i64 64,.int .i64 (-1),.int .i64 1,.int .i64 63,.int .i64 0] 1 0]))[nx.length+3+1+1+1+1+1+1]? =some (.arr [.int .i64 64,.int .i64 (-1),.int .i64 1,.int .i64 63,.int .i64 0] 1 0):=by
  simp only[Ay];exact aMB rfl
 unfold autD at st_out|-;clear hH;obtain _|n:=n;omega
 simp-implicitDefEqProofs (maxSteps:=9^7) (disch:=try exact Dz) only[↓DN,↓kRet,UP,simprocAttr,↓kd1,↓kd2,↓kd3,↓kd4,cG,Ao,LO,KW,↓st_out,↓st_keep,↓st_trim,cV,c9,Tryz.f57]
section
variable{R:Type}{L n:Nat}
abbrev Str:=List UInt8
theorem iE{l:List Str}{k:Nat}(h:l.length<=k):(aM l).take k=aM l:=Ce (by rw[eA];exact h)
theorem mV{l:List Str}{v:Str}:aM l++[.str v]=aM (l++[v]):=by simp[aM]
theorem lF:aM []=[]:=rfl
theorem aRP{l:List Str}{k:Nat}{v:Str}(h:k<l.length):bK (aM l) k [.str v]=aM (l.set k v):=BI _ l k v h
theorem aQW{l:List Str}{k:Nat}:(aM l).drop k=aM (l.drop k):=by simp[aM]
theorem SE:type_of% (AI @eA (AI @iE @UL)):=
 ⟨@eA,@iE,@UL⟩
theorem aXl:env.P.cellsOf 9=1:=kr
theorem aWX:(env.P.info? 9).isSome=true:=kr
theorem aH9{h:H}{g e k:Nat}{l:List Str}{b:Str}(hk:k<l.length):gY env.P (.arr (aM l) e g::h) 9 (.ptr 0 g k) (.d (.str b))=some (.arr (aM (l.set k b)) e g::h):=by
 rw[mM (id:=0) rfl aXl aWX rfl (by rw[eA];exact hk),aRP hk];rfl
def jQ(l:List Str)(v:Str)(i:Nat):Bool:=decide (l.getD i []=v)
theorem aIu{l:List Str}{v:Str}:(seek (jQ l v) l.length 0).isSome=decide (v∈l):=by
 have h:(seek (jQ l v) l.length 0).isSome=true↔v∈l:=by
  constructor
  ·intro h
   cases hs:seek (jQ l v) l.length 0 with
   |none=>rw[hs]at h;cases h
   |some r=>
    obtain⟨h1,h2,h3,_⟩:=zH hs;unfold jQ at h3;rw[decide_eq_true_eq]at h3;rw[<-h3];exact aDu om
  ·intro h;obtain⟨i,hi,rfl⟩:=Bz h
   cases hs:seek (jQ l l[i]) l.length 0 with
   |some r=>rfl
   |none=>
    have:=kY.1 hs i om om;unfold jQ at this;rw[Aa,Ad hi]at this;simp at this
 cases hb:(seek (jQ l v) l.length 0).isSome with
 |true=>rw[decide_eq_true (h.1 hb)]
 |false=>rw[decide_eq_false fun hv=>by rw[h.2 hv]at hb;cases hb]
theorem aMv(hn:1<=n){l:List Str}{v:Str}(hl:l.length<=4294967296){k:KE R}:∀(j i m:Nat) (hi:i+j=l.length) (hm:j<m),
  aT env (aA env L n) L 0 [] Bz38 (UD 0) Bz70 m (.d (.ivs l.length (aM l))::.d (.str v)::Y2 (.d (.bool false)::nI i::Y8 (Y4 ([])))) [] k
  =match seek (jQ l v) j i with
   |none=>k (.exit 0) (.d (.ivs l.length (aM l))::.d (.str v)::Y2 (.d (.bool false)::nI (l.length)::Y8 (Y4 ([])))) []
   |some q=>k .ret (.d (.ivs l.length (aM l))::.d (.str v)::Y2 (.d (.bool true)::nI q::Y8 (Y4 ([])))) []:=by
 intro j
 induction j with
 |zero=>
  intro i m hi hm;obtain _|m:=m;omega;obtain rfl:i=l.length:=om
  simp-implicitDefEqProofs (maxSteps:=9^7) (disch:=try exact Dz) only[↓DN,↓kRet,UP,simprocAttr,Ah,DB,D9,Tryz.f84]<;>rfl
 |succ j ih=>
  intro i m hi hm;obtain _|m:=m;omega;have hc:(i:Int)<l.length:=om;have hk:i<l.length:=om;have hi0:(0:Int)<=i:=om
  by_cases h1:l.getD i []=v
  ·have hb:jQ l v i=true:=by unfold jQ;rw[decide_eq_true h1]
   rw[fX hb];clear ih
   simp-implicitDefEqProofs (maxSteps:=9^7) (disch:=try exact Dz) only[↓DN,↓kAsg,↓kRet,UP,simprocAttr,SE,hc,hi0,h1,DB,D9,Tryz.f84]
  ·have hb:jQ l v i=false:=by unfold jQ;rw[decide_eq_false h1]
   rw[jK hb];have ih':=ih (i+1) m om om;rw[cs1 i]at ih';have h2:(l.getD i []==v)=false:=by simpa using h1
   clear ih
   simp-implicitDefEqProofs (maxSteps:=9^7) (disch:=try exact Dz) only[↓DN,↓kRet,UP,simprocAttr,SE,hc,hi0,h2,↓ih',DB,D9,Tryz.f84]
theorem aET(hn:2<=n)(l:List Str)(v:List UInt8)(hl:l.length<=4294967296)(hL:2^60<=L):aA env L n 84 [.d (.ivs l.length (aM l)),.d (.str v)] []=some (.d (.bool (decide (v∈l))),[]):=by
 have loop_c:=fun {R n k} hn=> @aMv R L n hn l v hl k l.length 0 L om om;rw[<-aIu];simp only[Ap]at loop_c
 cases hs:seek (jQ l v) l.length 0 with
 |none=>
  rw[hs]at loop_c;simp only[Cn];obtain _|n:=n;omega
  simp-implicitDefEqProofs (maxSteps:=9^7) (disch:=try exact Dz) only[↓DN,↓kAsg,UP,simprocAttr,↓loop_c,aFI,aAo,Tryz.f84]
 |some q=>
  rw[hs]at loop_c;simp only[Cv];obtain _|n:=n;omega
  simp-implicitDefEqProofs (maxSteps:=9^7) (disch:=try exact Dz) only[↓DN,↓kAsg,UP,simprocAttr,↓loop_c,aFI,aAo,Tryz.f84]
theorem aPS:type_of% fun {L} l v hl hL=>kt fun hn=> @aET L _ hn l v hl hL:=fun {L} l v hl hL=>kt fun hn=> @aET L _ hn l v hl hL
theorem ZZ{L:Nat}{id0 g0 o0 len0:Nat}{v:List UInt8}:KV L 84 [.sl id0 g0 o0 len0,.d (.str v)]:=fun _ _ _ _=>d7 JK
theorem zO(hn:1<=n){l:List Str}{v:Str}{i5:A}(hl:l.length<=4294967296){k:KE R}:∀(j i m:Nat) (hi:i+j=l.length) (hm:j<m),
  aT env (aA env L n) L 0 [] Bz58 (iT 0) (Z2 (U2 (Z1 (U2 (Z2 (U8 (U2 ([])))))))) m (.d (.ivs l.length (aM l))::.d (.str v)::Y2 (nI 0::Y2 (nI (l.length)::nI i::Y8 (Y2 ([]))))) [] k
  =match seek (jQ l v) j i with
   |none=>k (.exit 0) (.d (.ivs l.length (aM l))::.d (.str v)::Y2 (nI 0::Y2 (nI (l.length)::nI (l.length)::Y8 (Y2 ([]))))) []
   |some q=>k .ret (.d (.ivs l.length (aM l))::.d (.str v)::Y2 (nI q::Y2 (nI (l.length)::nI q::Y8 (Y2 ([]))))) []:=by
 intro j
 induction j with
 |zero=>
  intro i m hi hm;obtain _|m:=m;omega;obtain rfl:i=l.length:=om
  simp-implicitDefEqProofs (maxSteps:=9^7) (disch:=try exact Dz) only[↓DN,↓kRet,UP,simprocAttr,Ah,fT,eF,Tryz.f70]<;>rfl
 |succ j ih=>
  intro i m hi hm;obtain _|m:=m;omega;have hc:(i:Int)<l.length:=om;have hk:i<l.length:=om;have hi0:(0:Int)<=i:=om
  by_cases h1:l.getD i []=v
  ·have hb:jQ l v i=true:=by unfold jQ;rw[decide_eq_true h1]
   rw[fX hb];clear ih
   simp-implicitDefEqProofs (maxSteps:=9^7) (disch:=try exact Dz) only[↓DN,↓kRet,UP,simprocAttr,SE,hc,hi0,h1,fT,eF,Tryz.f70]
  ·have hb:jQ l v i=false:=by unfold jQ;rw[decide_eq_false h1]
   rw[jK hb];have ih':=ih (i+1) m om om;rw[cs1 i]at ih';have h2:(v==l.getD i [])=false:=by simpa using fun h=>h1 h.symm
   clear ih
   simp-implicitDefEqProofs (maxSteps:=9^7) (disch:=try exact Dz) only[↓DN,↓kRet,UP,simprocAttr,SE,hc,hi0,h2,↓ih',fT,eF,Tryz.f70]
def aF0(l:List Str)(v:Str):Int:=match seek (jQ l v) l.length 0 with|none=> -1|some q=>q
theorem nN(hn:2<=n)(l:List Str)(v:List UInt8)(hl:l.length<=4294967296)(hL:2^60<=L):aA env L n 70 [.d (.ivs l.length (aM l)),.d (.str v)] []=some (nI (aF0 l v),[]):=by
 have loop_c:=fun {R n k} hn=> @zO R L n hn l v (.junk) hl k l.length 0 L om om;simp only[Ap]at loop_c;unfold aF0
 cases hs:seek (jQ l v) l.length 0 with
 |none=>
  rw[hs]at loop_c;simp only;obtain _|n:=n;omega
  simp-implicitDefEqProofs (maxSteps:=9^7) (disch:=try exact Dz) only[↓DN,↓kAsg,↓kRet,UP,simprocAttr,↓loop_c,nL,jM,Tryz.f70]
 |some q=>
  rw[hs]at loop_c;simp only;obtain _|n:=n;omega
  simp-implicitDefEqProofs (maxSteps:=9^7) (disch:=try exact Dz) only[↓DN,↓kAsg,↓kRet,UP,simprocAttr,↓loop_c,nL,jM,Tryz.f70]
theorem B2:type_of% fun {L} l v hl hL=>ks fun hn=> @nN L _ hn l v hl hL:=fun {L} l v hl hL=>ks fun hn=> @nN L _ hn l v hl hL
theorem aQI{l:List Str}{v:Str}:decide (0<=aF0 l v)=decide (v∈l):=by
 rw[<-aIu];unfold aF0
 cases seek (jQ l v) l.length 0 with
 |none=>rfl
 |some q=>simp
theorem lN(hn:3<=n)(l:List Str)(v:List UInt8)(hl:l.length<=4294967296)(hL:2^60<=L):aA env L n 39 [.d (.ivs l.length (aM l)),.d (.str v)] []=some (.d (.bool (decide (v∈l))),[]):=by
 rw[<-aQI];obtain _|n:=n;omega
 simp-implicitDefEqProofs (maxSteps:=9^7) (disch:=try exact Dz) only[↓DN,↓kAsg,↓kRet,UP,simprocAttr,↓B2,yP,mD,Tryz.f39]
theorem yN:type_of% fun {L} l v hl hL=>kt fun hn=> @lN L _ hn l v hl hL:=fun {L} l v hl hL=>kt fun hn=> @lN L _ hn l v hl hL
theorem kJ{L:Nat}{id0 g0 o0 len0:Nat}{v:List UInt8}:KV L 39 [.sl id0 g0 o0 len0,.d (.str v)]:=fun _ _ _ _=>d7 fE
end
section
section
variable{L n:Nat}{h:H}
end
end
end Ev
end Go.Proofs.YtppffbehejpglaaGreatDoor
