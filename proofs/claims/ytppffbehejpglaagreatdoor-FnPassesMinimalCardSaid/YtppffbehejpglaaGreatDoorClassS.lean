/-
  Lists numbered by first appearance: plain laws.
-/
import Derived.Tactics
import Derived.Test.YtppffbehejpglaaGreatDoorMemS
import Derived.Test.YtppffbehejpglaaGreatDoorTrimL
import Derived.Test.YtppffbehejpglaaGreatDoorNetX
import Derived.Test.YtppffbehejpglaaGreatDoorPathZ
set_option linter.unusedSimpArgs false
set_option linter.unusedVariables false
set_option linter.unusedSectionVars false
set_option maxRecDepth 8000
set_option maxHeartbeats 4000000
namespace Go.Proofs.YtppffbehejpglaaGreatDoor
namespace Ev
section
theorem tD{α:Type}[DecidableEq α]:∀ {l m:List α},l.Nodup->(∀x∈l,x∈m)->l.length<=m.length
 | [],m,_,_=>by simp
 |a::l,m,h,hs=>by
  obtain⟨h1,h2⟩:=Dx.1 h;have ha:a∈m:=hs a Bd
  have:=tD (l:=l) (m:=m.erase a) h2 fun x hx=>by
   have hne:x≠a:=by rintro rfl;exact h1 hx
   exact(List.mem_erase_of_ne hne).2 (hs x (Az _ hx))
  rw[List.length_erase_of_mem ha]at this;have hp:0<m.length:=Em ha;simp only[Ae];omega
section
variable{α β:Type}[DecidableEq α][DecidableEq β]
abbrev idxG(o:List α)(x:α):Nat:=o.idxOf x
theorem aRe(o:List α)(x y:α):idxG (y::o) x=if y=x then 0 else idxG o x+1:=by
 unfold idxG;rw[List.idxOf_cons]
 by_cases h:y=x
 ·simp[h]
 ·have h2:(y==x)=false:=by rw[beq_eq_false_iff_ne];exact h
  rw[h2,if_neg h];rfl
theorem aOT{o:List α}{x:α}(h:x∈o):idxG o x<o.length:=El h
def addG(o:List α)(x:α):List α:=if x∈o then o else o++[x]
def aO(l:List α):List α:=l.foldl addG []
def numL(l:List α):List Int:=l.map fun x=>((aO l).idxOf x:Nat)
theorem gP(l:List α)(x:α):aO (l++[x])=addG (aO l) x:=by
 unfold aO;rw[Ek];rfl
theorem aUb{o:List α}{x y:α}:y∈addG o x↔y∈o\/y=x:=by
 unfold addG
 split
 ·constructor
  ·exact .inl
  ·rintro(h|rfl)
   ·exact h
   ·assumption
 ·simp
omit [DecidableEq α] in
theorem aK2(l:List α):l=[]\/∃u x,l=u++[x]:=by
 rcases List.eq_nil_or_concat l with h|⟨u,x,h⟩
 ·exact .inl h
 ·exact .inr ⟨u,x,by rw[h];simp⟩
theorem aQp:∀(c:Nat) (l:List α),l.length=c->∀x,x∈aO l↔x∈l:=by
 intro c
 induction c with
 |zero=>
  intro l hl x;have:l=[]:=Bw.1 hl;subst this;simp[aO]
 |succ c ih=>
  intro l hl x
  rcases aK2 l with rfl|⟨u,y,rfl⟩
  ·simp at hl
  ·rw[gP,aUb,ih u (by simpa using hl) x];simp
theorem bR{l:List α}{x:α}:x∈aO l↔x∈l:=aQp _ l rfl x
theorem aKD:∀(c:Nat) (l:List α),l.length=c->(aO l).Nodup:=by
 intro c
 induction c with
 |zero=>
  intro l hl;have:l=[]:=Bw.1 hl;subst this;simp[aO]
 |succ c ih=>
  intro l hl
  rcases aK2 l with rfl|⟨u,y,rfl⟩
  ·simp at hl
  ·rw[gP];have h:=ih u (by simpa using hl);unfold addG
   split
   ·exact h
   ·rename_i hin
    rw[Dm];refine⟨h,by simp,fun a ha b hb=> ?_⟩;simp only[Bf]at hb;subst hb;rintro rfl;exact hin ha
theorem oZ(l:List α):(aO l).Nodup:=aKD _ l rfl
theorem kS(l:List α):(aO l).length<=l.length:=tD (oZ l) fun x hx=>bR.1 hx
theorem nH(l:List α):(numL l).length=l.length:=Am _
theorem DH{l:List α}{i:Nat}(hi:i<l.length):(numL l).getD i 0=((aO l).idxOf l[i]:Nat):=by
 unfold numL;rw[Aa,Bh,Ad hi];rfl
theorem aP8{l:List α}{x:α}(h:x∈l):(aO l).idxOf x<(aO l).length:=El (bR.2 h)
theorem aEh{l:List α}{i:Nat}(hi:i<l.length):0<=(numL l).getD i 0/\(numL l).getD i 0<(aO l).length:=by
 rw[DH hi];have:=aP8 (At hi);omega
theorem aWg{l:List α}{x y:α}(hx:x∈l)(h:l.idxOf x=l.idxOf y)(hy:y∈l):x=y:=by
 have h1:=List.getElem_idxOf (El hx);have h2:=List.getElem_idxOf (El hy);rw[<-h1,<-h2];simp only[h]
theorem aHk{l:List α}{i j:Nat}(hi:i<l.length)(hj:j<l.length):(numL l).getD i 0=(numL l).getD j 0↔l[i]=l[j]:=by
 rw[DH hi,DH hj]
 constructor
 ·intro h;exact aWg (bR.2 (At hi)) om (bR.2 (At hj))
 ·intro h;rw[h]
theorem s9(l:List α)(x:α):numL (l++[x])=numL l++[((idxG (addG (aO l) x) x:Nat):Int)]:=by
 unfold numL;rw[gP,Cm]
 congr 1
 apply Cw;intro y hy;have hy2:=bR.2 hy;unfold addG
 split
 ·rfl
 ·rw[List.idxOf_append,if_pos hy2]
theorem aDU(o:List α)(x:α):(addG o x).idxOf x=if x∈o then o.idxOf x else o.length:=by
 unfold addG
 by_cases h:x∈o
 ·rw[if_pos h,if_pos h]
 ·rw[if_neg h,if_neg h,List.idxOf_append,if_neg h];simp
theorem RV{o:List α}{x:α}(h:x∈o):addG o x=o:=if_pos h
theorem DF{o:List α}{x:α}(h:x∉o):addG o x=o++[x]:=if_neg h
theorem aEw{o:List α}{x:α}(h:x∉o):idxG (o++[x]) x=o.length:=by
 have:=aDU o x;rw[if_neg h,DF h]at this;exact this
theorem aMJ(o:List α)(x:α):(addG o x).length=if x∈o then o.length else o.length+1:=by
 unfold addG
 split<;>simp
def aK6(l:List α)(m:List β):Prop:=l.length=m.length/\∀i j (hi:i<l.length) (hj:j<l.length) (hi':i<m.length) (hj':j<m.length),l[i]=l[j]↔m[i]=m[j]
theorem aSz:∀(c:Nat) (l:List α) (m:List β),l.length=c->aK6 l m->numL l=numL m/\(aO l).length=(aO m).length:=by
 intro c
 induction c with
 |zero=>
  intro l m hl h;have h1:l=[]:=Bw.1 hl;have h2:m=[]:=Bw.1 (by rw[<-h.1,hl]);subst h1;subst h2;simp[numL,aO]
 |succ c ih=>
  intro l m hl h
  rcases aK2 l with rfl|⟨u,x,rfl⟩
  ·simp at hl
  rcases aK2 m with rfl|⟨v,y,rfl⟩
  ·have:=h.1;simp at this
  obtain⟨h1,h2⟩:=h;have hlen:u.length=v.length:=by simpa using h1
  have hs:aK6 u v:=⟨hlen,fun i j hi hj hi' hj'=>by
   have:=h2 i j (by simp;omega) (by simp;omega) (by simp;omega) (by simp;omega);rw[Es hi,Es hj,Es hi',Es hj']at this;exact this⟩
  obtain⟨e1,e2⟩:=ih u v (by simpa using hl) hs
  have hat:∀i (hi:i<u.length) (hi':i<v.length),u[i]=x↔v[i]=y:=fun i hi hi'=>by
   have:=h2 i u.length (by simp;omega) smp (by simp;omega) (by simp;omega);rw[Es hi,Es hi']at this;have e1:(u++[x])[u.length]'smp=x:=smp;have e2:(v++[y])[u.length]'(by simp;omega)=y:=by simp[hlen]
   rw[e1,e2]at this;exact this
  have hmem:x∈u↔y∈v:=by
   constructor
   ·intro hx;obtain⟨i,hi,e⟩:=Bz hx;rw[<-(hat i hi om).1 e];exact At _
   ·intro hy;obtain⟨i,hi,e⟩:=Bz hy;rw[<-(hat i om hi).2 e];exact At _
  have hidx:(addG (aO u) x).idxOf x=(addG (aO v) y).idxOf y:=by
   rw[aDU,aDU]
   by_cases hx:x∈u
   ·have hy:=hmem.1 hx;rw[if_pos (bR.2 hx),if_pos (bR.2 hy)];obtain⟨i,hi,e⟩:=Bz hx;have e':=(hat i hi om).1 e;have k1:=DH hi;have k2:=DH (l:=v) (i:=i) om;rw[e]at k1;rw[e']at k2;rw[e1]at k1;omega
   ·have hy:¬y∈v:=fun hy=>hx (hmem.2 hy);rw[if_neg fun hh=>hx (bR.1 hh),if_neg fun hh=>hy (bR.1 hh),e2]
  refine⟨by rw[s9,s9,e1];show _=_++[(((addG (aO v) y).idxOf y:Nat):Int)];rw[<-hidx],?_⟩;rw[gP,gP,aMJ,aMJ,e2]
  by_cases hx:x∈u
  ·rw[if_pos (bR.2 hx),if_pos (bR.2 (hmem.1 hx))]
  ·rw[if_neg fun hh=>hx (bR.1 hh),if_neg fun hh=>hx (hmem.2 (bR.1 hh))]
theorem C1{l:List α}{m:List β}(h:aK6 l m):numL l=numL m/\(aO l).length=(aO m).length:=aSz _ l m rfl h
theorem aGd{l:List α}{f:α->β}(h:(aO l).length<=(aO (l.map f)).length){x y:α}(hx:x∈l)(hy:y∈l)(e:f x=f y):x=y:=by
 apply Dv;intro hne;have hy2:=bR.2 hy;have hx2:=bR.2 hx
 have hs:∀z∈aO (l.map f),z∈((aO l).erase y).map f:=by
  intro z hz;obtain⟨w,hw,rfl⟩:=Av.1 (bR.1 hz)
  by_cases hwy:w=y
  ·subst hwy;exact Av.2 ⟨x,(List.mem_erase_of_ne hne).2 hx2,e⟩
  ·exact Av.2 ⟨w,(List.mem_erase_of_ne hwy).2 (bR.2 hw),rfl⟩
 have h1:=tD (oZ (l.map f)) hs;rw[Am,List.length_erase_of_mem hy2]at h1;have hp:0<(aO l).length:=Em hy2;omega
theorem xY(l:List α)(f:α->β):(aO (l.map f)).length<=(aO l).length:=by
 have h1:=tD (l:=aO (l.map f)) (m:=(aO l).map f) (oZ (l.map f)) fun z hz=>by
  obtain⟨w,hw,rfl⟩:=Av.1 (bR.1 hz);exact Av.2 ⟨w,bR.2 hw,rfl⟩
 rw[Am]at h1;exact h1
end
end
section
variable{R:Type}{L n:Nat}
def eG(x:Int):Str:=if x<10 then [UInt8.ofNat (48+x.toNat)]else [49,UInt8.ofNat (38+x.toNat)]
theorem aLT(x:Int):(eG x).length<=2:=by unfold eG;split<;>simp
theorem aNe{x y:Int}(x0:0<=x)(x1:x<12)(y0:0<=y)(y1:y<12)(h:eG x=eG y):x=y:=by
 have key:∀a b:Fin 12,eG (a:Nat)=eG (b:Nat)->a=b:=dc
 have e:=key ⟨x.toNat,by omega⟩ ⟨y.toNat,by omega⟩ (by
  show eG (x.toNat:Int)=eG (y.toNat:Int);rw[Bl x0,Bl y0,h])
 have:=congrArg Fin.val e;simp only at this;omega
theorem IP{x:Int}(x0:0<=x)(x1:x<12):(44:UInt8)∉eG x:=by
 have key:∀a:Fin 12,(44:UInt8)∉eG (a:Nat):=dc;have:=key ⟨x.toNat,by omega⟩;simp only at this;rw[Bl x0]at this;exact this
theorem aUp{x:Int}(x0:0<=x)(x1:x<10):List.take ((x+1).toNat-x.toNat) (List.drop x.toNat ([48,49,50,51,52,53,54,55,56,57,97,98,99,100,101,102,103,104,105,106,107,108,109,110,111,112,113,114,115,116,117,118,119,120,121,122]:List UInt8))=eG x:=by
 have key:∀a:Fin 10,List.take (((a:Nat):Int)+1-((a:Nat):Int)).toNat (List.drop (a:Nat) ([48,49,50,51,52,53,54,55,56,57,97,98,99,100,101,102,103,104,105,106,107,108,109,110,111,112,113,114,115,116,117,118,119,120,121,122]:List UInt8))=eG (a:Nat):=dc;have:=key ⟨x.toNat,by omega⟩;simp only at this;rw[Bl x0]at this;rw[show(x+1).toNat-x.toNat=(x+1-x).toNat by omega];exact this
theorem Y9{h:H}{s:Str}{lo hi:Int}(hb:Shut (decide (0<=lo)&&decide (lo<=hi)&&decide (hi<=s.length))):eN env.P h 9 (.d (.str s)) (some lo) (some hi)=some (.d (.str ((s.drop lo.toNat).take (hi.toNat-lo.toNat)))):=by
 have hb:=hb.it;simp only[Ar,decide_eq_true_eq]at hb;have hu:env.P.underlying 9=some .string:=kr
 have hd:lH s.length (some lo) (some hi)=some (lo.toNat,hi.toNat):=by
  simp only[lH,Bg];rw[if_pos ⟨by omega,by omega,by omega⟩]
 simp only[eN,hu,hd,Bb]
theorem sH(hn:1<=n)(x:Int)(x0:0<=x)(x1:x<12):aA env L n 155 [nI x] []=some (.d (.str (eG x)),[]):=by
 by_cases h:x<10
 ·have h1:=aUp x0 h;obtain _|n:=n;omega
  simp-implicitDefEqProofs (maxSteps:=9^7) (disch:=try exact Dz) only[↓DN,↓kAsg,↓kRet,UP,simprocAttr,h,h1,kR,iD,Tryz.f155]
 ·rcases(show x=10\/x=11 by omega)with rfl|rfl
  ·have e:eG 10=[49,48]:=dc;rw[e];obtain _|n:=n;omega
   simp-implicitDefEqProofs (maxSteps:=9^7) (disch:=try exact Dz) only[↓DN,↓kAsg,↓kRet,UP,simprocAttr,h,↓Y9,kR,iD,Tryz.f155]
   all_goals rfl
  ·have e:eG 11=[49,49]:=dc;rw[e];obtain _|n:=n;omega
   simp-implicitDefEqProofs (maxSteps:=9^7) (disch:=try exact Dz) only[↓DN,↓kAsg,↓kRet,UP,simprocAttr,h,↓Y9,kR,iD,Tryz.f155]
   all_goals rfl
theorem IN:type_of% fun {L} x x0 x1=>ks fun hn=> @sH L _ hn x x0 x1:=fun {L} x x0 x1=>ks fun hn=> @sH L _ hn x x0 x1
theorem nK(hn:2<=n)(x:Int)(x0:0<=x)(x1:x<12):aA env L n 146 [nI x,nI 10] []=some (.d (.str (eG x)),[]):=by
 have hx:x<100:=om;obtain _|n:=n;omega
 simp-implicitDefEqProofs (maxSteps:=9^7) (disch:=try exact Dz) only[↓DN,↓kAsg,↓kRet,UP,simprocAttr,↓IN,x0,hx,B3,oE,Tryz.f146]
theorem B4:type_of% fun {L} x x0 x1=>ks fun hn=> @nK L _ hn x x0 x1:=fun {L} x x0 x1=>ks fun hn=> @nK L _ hn x x0 x1
theorem uA(hn:3<=n)(x:Int)(x0:0<=x)(x1:x<12):aA env L n 122 [nI x] []=some (.d (.str (eG x)),[]):=by
 obtain _|n:=n;omega
 simp-implicitDefEqProofs (maxSteps:=9^7) (disch:=try exact Dz) only[↓DN,↓kAsg,UP,simprocAttr,↓B4,LU,vJ,Tryz.f122]
theorem LX:type_of% fun {L} x x0 x1=>ks fun hn=> @uA L _ hn x x0 x1:=fun {L} x x0 x1=>ks fun hn=> @uA L _ hn x x0 x1
theorem OU(hn:4<=n)(x:Int)(x0:0<=x)(x1:x<12):aA env L n 88 [nI x] []=some (.d (.str (eG x)),[]):=by
 obtain _|n:=n;omega
 simp-implicitDefEqProofs (maxSteps:=9^7) (disch:=try exact Dz) only[↓DN,↓kAsg,UP,simprocAttr,↓LX,aFh,RE,Tryz.f88]
theorem PQ:type_of% fun {L} x x0 x1=>ks fun hn=> @OU L _ hn x x0 x1:=fun {L} x x0 x1=>ks fun hn=> @OU L _ hn x x0 x1
def sR:List Str->Nat->List (D×D)
 | [],_=>[]
 |x::o,i=>(.str x,.int .i64 (i:Nat))::sR o (i+1)
def numS(o:List Str):List (D×D):=sR o 0
theorem aIV:∀(o:List Str) (x:Str) (i:Nat),sR (o++[x]) i=sR o i++[(.str x,.int .i64 ((i+o.length:Nat):Int))]
 | [],x,i=>by simp[sR]
 |y::o,x,i=>by
  simp only[Ax,sR,aIV o x (i+1),Ae];rw[show i+1+o.length=i+(o.length+1) by omega]
theorem aEz{x:Str}:∀(o:List Str) (i c:Nat),nR .string (.str x) (sR o i) c=some (if x∈o then some (c+idxG o x)else none)
 | [],i,c=>by simp[sR,nR]
 |y::o,i,c=>by
  simp only[sR,nR,IG]
  by_cases h:x=y
  ·subst h
   simp[]
  ·have h2:(x==y)=false:=by simpa using h
   have h4:idxG (y::o) x=idxG o x+1:=by rw[aRe,if_neg fun e=>h e.symm]
   rw[h2];simp only[aEz o (i+1) (c+1),Au,h,false_or]
   by_cases hm:x∈o
   ·rw[if_pos hm,if_pos hm,h4,show c+1+idxG o x=c+(idxG o x+1) by omega]
   ·rw[if_neg hm,if_neg hm]
theorem aI0:∀(o:List Str) (i q:Nat) (z:D×D),q<o.length->((sR o i).getD q z).2=.int .i64 ((i+q:Nat):Int)
 | [],_,_,_,h=>by simp at h
 |x::o,i,0,z,_=>by simp[sR]
 |x::o,i,q+1,z,h=>by
  simp only[sR,Er];rw[aI0 o (i+1) q z (by simpa using h),show i+1+q=i+(q+1) by omega]
theorem aIY:∀(o:List Str) (i:Nat),(sR o i).length=o.length
 | [],_=>rfl
 |x::o,i=>by simp[sR,aIY o]
theorem aOP:mapT env.P 91=some (.string,3):=kr
theorem aSQ:dA env.P 3=some (nI 0):=kr
theorem aTH{h:H}{id:Nat}{o:List Str}{x:Str}(hi:h[id]? =some (.mp (numS o))):
  oI env.P h 91 true (.mp id) (.d (.str x))=some (.tup [nI (if x∈o then(idxG o x:Nat)else 0),.d (.bool (decide (x∈o)))],h):=by
 unfold oI numS at *;simp only[aOP,hi,aSQ,ID,qI,Bq,if_true,aEz]
 by_cases hm:x∈o
 ·have hq:=aOT hm;simp only[if_pos hm,z8,uR,if_true,Cv,Ag,aI0 o 0 _ _ hq,decide_eq_true hm]
 ·simp only[if_neg hm,z8,uR,if_true,Cn,decide_eq_false hm]
theorem aV6{h:H}{id:Nat}{o:List Str}{x:Str}(hi:h[id]? =some (.mp (numS o)))(hx:x∉o):
  d6 env.P h 91 (.mp id) (.d (.str x)) (nI (o.length:Int))=some (.d .undef,h.set id (.mp (numS (o++[x])))):=by
 unfold d6;unfold numS at *;simp only[aOP,hi,ID,qI,Bq,if_true,aEz,if_neg hx,qR,aIV,Ag]
theorem aIo{a b:O}{T:H}{o:List Str}{x:Str}:oI env.P (a::b::.mp (numS o)::T) 91 true (.mp 2) (.d (.str x))=some (.tup [nI (if x∈o then(idxG o x:Nat)else 0),.d (.bool (decide (x∈o)))],a::b::.mp (numS o)::T):=aTH rfl
theorem aTP{a b:O}{T:H}{o:List Str}{x:Str}(hx:x∉o):d6 env.P (a::b::.mp (numS o)::T) 91 (.mp 2) (.d (.str x)) (nI (o.length:Int))=some (.d .undef,a::b::.mp (numS (o++[x]))::T):=aV6 rfl hx
theorem aUd:numS []=[]:=rfl
theorem aEl{o:List Str}:(numS o).length=o.length:=aIY o 0
end
def clA(cl:List Int)(t:Int):Int:=cl.getD t.toNat 0
def sigA(a:Aut)(cl:List Int)(q:Nat):List Int:=cl.getD q 0::(a.nx.getD q []).map (clA cl)
def sigs(a:Aut)(cl:List Int):List (List Int):=(List.range a.nx.length).map (sigA a cl)
def clsG(a:Aut):Nat->List Int->Nat->List Int
 |0,cl,_=>cl
 |j+1,cl,c=>if(aO (sigs a cl)).length=c then numL (sigs a cl)else clsG a j (numL (sigs a cl)) (aO (sigs a cl)).length
def cl0(a:Aut):List Int:=a.ac.map fun b=>if b=true then 1 else 0
def bA(a:Aut):List Int:=clsG a (a.nx.length+1) (cl0 a) 0
def acQ(a:Aut)(q:Int):Bool:=a.ac.getD q.toNat false
def Eqv(a:Aut)(i j:Int):Prop:=∀w:List Int,(∀l∈w,l∈aB a.al)->acQ a (w.foldl (goS a) i)=acQ a (w.foldl (goS a) j)
theorem aF9{a:Aut}{i j l:Int}(h:Eqv a i j)(hl:l∈aB a.al):Eqv a (goS a i l) (goS a j l):=fun w hw=>h (l::w) fun x hx=>by
 rcases Au.1 hx with rfl|hx
 ·exact hl
 ·exact hw x hx
structure Cls(a:Aut)(cl:List Int):Prop where
 len:cl.length=a.nx.length
 rng:∀q,q<a.nx.length->0<=cl.getD q 0/\cl.getD q 0<12
 coarse:∀i j:Nat,i<a.nx.length->j<a.nx.length->Eqv a i j->cl.getD i 0=cl.getD j 0
 fine:∀i j:Nat,i<a.nx.length->j<a.nx.length->cl.getD i 0=cl.getD j 0->acQ a i=acQ a j
theorem cX(a:Aut)(cl:List Int):(sigs a cl).length=a.nx.length:=by unfold sigs;rw[Am,Db]
theorem lX{a:Aut}{cl:List Int}{q:Nat}(hq:q<(sigs a cl).length):(sigs a cl)[q]=sigA a cl q:=by
 have h:(sigs a cl)[q]? =some (sigA a cl q):=by
  have hq2:=hq;rw[cX]at hq2;show((List.range a.nx.length).map (sigA a cl))[q]? =_;rw[Bh,List.getElem?_range hq2];rfl
 rw[Ad hq]at h;exact Option.some.inj h
theorem uD{a:Aut}(h:AOK a){cl:List Int}{q:Nat}(hq:q<a.nx.length):(a.nx.getD q []).map (clA cl)=(aB a.al).map fun l=>clA cl (goS a q l):=by
 have:=DV h (v:=(q:Int)) om om;unfold rowA at this;rw[Ca]at this;rw[<-this,List.map_map];rfl
theorem uL{a:Aut}(h:AOK a){q:Nat}(hq:q<a.nx.length){l:Int}(hl:l∈aB a.al):∃p:Nat,goS a q l=(p:Int)/\p<a.nx.length:=by
 have:=oA h q l om om hl;exact⟨(goS a q l).toNat,by omega,by omega⟩
theorem aEe{a:Aut}{cl:List Int}{i j:Nat}(hi:i<a.nx.length)(hj:j<a.nx.length):(numL (sigs a cl)).getD i 0=(numL (sigs a cl)).getD j 0↔sigA a cl i=sigA a cl j:=by
 have hi':i<(sigs a cl).length:=by rw[cX];exact hi
 have hj':j<(sigs a cl).length:=by rw[cX];exact hj
 rw[aHk hi' hj',lX,lX]
theorem aDq{a:Aut}(h:AOK a){cl:List Int}(hc:Cls a cl):Cls a (numL (sigs a cl)):=by
 obtain⟨_,_,a1,a2,a3⟩:=aR h;refine⟨by rw[nH,cX],?_,?_,?_⟩
 ·intro q hq;have h1:=aEh (l:=sigs a cl) (i:=q) (by rw[cX];exact hq);have h2:=kS (sigs a cl);rw[cX]at h2;omega
 ·intro i j hi hj he;rw[aEe hi hj];unfold sigA;rw[hc.coarse i j hi hj he,uD h hi,uD h hj]
  congr 1
  apply Cw;intro l hl;obtain⟨p,e1,hp⟩:=uL h hi hl;obtain⟨q,e2,hq⟩:=uL h hj hl;have:=aF9 he hl;rw[e1,e2]at this|-;exact hc.coarse p q hp hq this
 ·intro i j hi hj he;rw[aEe hi hj]at he;unfold sigA at he;exact hc.fine i j hi hj (List.cons.inj he).1
theorem PK{a:Aut}{cl:List Int}(hc:Cls a cl):(sigs a cl).map (fun s=>s.headD 0)=cl:=by
 apply List.ext_getElem
 ·rw[Am,cX,hc.len]
 ·intro q h1 h2;rw[Du,lX];show cl.getD q 0=_;rw[Aa,Ad h2];rfl
theorem aPP{a:Aut}{cl:List Int}(hc:Cls a cl)(hs:(aO (sigs a cl)).length=(aO cl).length){i j:Nat}(hi:i<a.nx.length)(hj:j<a.nx.length)(he:cl.getD i 0=cl.getD j 0):sigA a cl i=sigA a cl j:=by
 have hi':i<(sigs a cl).length:=by rw[cX];exact hi
 have hj':j<(sigs a cl).length:=by rw[cX];exact hj
 rw[<-lX hi',<-lX hj'];refine aGd (l:=sigs a cl) (f:=fun s=>s.headD 0) (by rw[PK hc];omega) (At _) (At _) ?_;rw[lX,lX];exact he
theorem aEV{a:Aut}(h:AOK a){cl:List Int}(hc:Cls a cl)(hs:∀i j:Nat,i<a.nx.length->j<a.nx.length->cl.getD i 0=cl.getD j 0->sigA a cl i=sigA a cl j):∀(w:List Int) (i j:Nat),i<a.nx.length->j<a.nx.length->cl.getD i 0=cl.getD j 0->(∀l∈w,l∈aB a.al)->acQ a (w.foldl (goS a) i)=acQ a (w.foldl (goS a) j)
 | [],i,j,hi,hj,he,_=>hc.fine i j hi hj he
 |l::w,i,j,hi,hj,he,hw=>by
  have hl:=hw l Bd;have hsg:=(List.cons.inj (hs i j hi hj he)).2;rw[uD h hi,uD h hj]at hsg;have:=List.map_inj_left.1 hsg l hl;obtain⟨p,e1,hp⟩:=uL h hi hl;obtain⟨q,e2,hq⟩:=uL h hj hl;simp only[Dc];rw[e1,e2]at this|-;exact aEV h hc hs w p q hp hq this fun x hx=>hw x (Az _ hx)
theorem F1{α:Type}[DecidableEq α](l:List α):aK6 (numL l) l:=by
 refine⟨nH l,fun i j hi hj hi' hj'=> ?_⟩;have:=aHk hi' hj';rw[Aa,Ad hi,Aa,Ad hj]at this;exact this
def aPC(a:Aut)(r:List Int):Prop:=∃l:List (List Int),r=numL l/\l.length=a.nx.length/\(∀i,i<a.nx.length->0<=r.getD i 0/\r.getD i 0<12)/\∀i j:Nat,i<a.nx.length->j<a.nx.length->(r.getD i 0=r.getD j 0↔Eqv a i j)
theorem aPx{a:Aut}(h:AOK a):∀(j:Nat) (cl:List Int) (c:Nat),Cls a cl->(c=0\/c=(aO cl).length)->a.nx.length<j+c->c<=a.nx.length->aPC a (clsG a j cl c)
 |0,cl,c,hc,h0,hj,hle=>by omega
 |j+1,cl,c,hc,h0,hj,hle=>by
  obtain⟨_,_,a1,a2,a3⟩:=aR h;have hn:=aDq h hc
  have hpos:0<(aO (sigs a cl)).length:=by
   have:(sigs a cl)[0]'(by rw[cX];omega)∈aO (sigs a cl):=bR.2 (At _);exact Em this
  have hle2:=kS (sigs a cl);rw[cX]at hle2;unfold clsG
  by_cases he:(aO (sigs a cl)).length=c
  ·rw[if_pos he];have hcl:(aO (sigs a cl)).length=(aO cl).length:=om;refine⟨sigs a cl,rfl,cX a cl,hn.rng,fun i k hi hk=>⟨fun e=> ?_,fun e=>hn.coarse i k hi hk e⟩⟩;have e2:=(aEe hi hk).1 e;have e3:cl.getD i 0=cl.getD k 0:=(List.cons.inj e2).1;exact fun w hw=>aEV h hc (fun i j hi hj=>aPP hc hcl hi hj) w i k hi hk e3 hw
  ·rw[if_neg he]
   have hge:c<=(aO (sigs a cl)).length:=by
    rcases h0 with h0|h0
    ·omega
    ·have:=xY (sigs a cl) (fun s=>s.headD 0);rw[PK hc]at this;omega
   exact aPx h j _ _ hn (.inr (C1 (F1 (sigs a cl))).2.symm) om hle2
theorem TO{a:Aut}(h:AOK a):Cls a (cl0 a):=by
 obtain⟨_,_,a1,a2,a3⟩:=aR h
 have hg:∀i,i<a.nx.length->(cl0 a).getD i 0=if acQ a i=true then 1 else 0:=by
  intro i hi;unfold cl0 acQ;rw[Aa,Bh,Ad om,Ca,Aa,Ad om];rfl
 refine⟨by unfold cl0;rw[Am,a3],?_,?_,?_⟩
 ·intro q hq;rw[hg q hq]
  split<;>omega
 ·intro i j hi hj he;rw[hg i hi,hg j hj];have:acQ a i=acQ a j:=he [] smp;rw[this]
 ·intro i j hi hj he;rw[hg i hi,hg j hj]at he
  cases h1:acQ a i<;>cases h2:acQ a j<;>simp_all
theorem DY{a:Aut}(h:AOK a):aPC a (bA a):=aPx h _ _ 0 (TO h) (.inl rfl) om om
theorem FG{a:Aut}(h:AOK a):(bA a).length=a.nx.length:=by
 obtain⟨l,e,hl,_⟩:=DY h;rw[e,nH,hl]
def keyT(cl:List Int)(r:List Int):Str:=(r.map fun t=>44::eG (clA cl t)).flatten
def keyA(a:Aut)(cl:List Int)(q:Nat):Str:=eG (cl.getD q 0)++keyT cl (a.nx.getD q [])
def keyX:List Int->Str
 | []=>[]
 |x::xs=>eG x++(xs.map fun t=>44::eG t).flatten
theorem aMx(a:Aut)(cl:List Int)(q:Nat):keyX (sigA a cl q)=keyA a cl q:=by
 unfold keyX sigA keyA keyT;simp only[List.map_map]<;>rfl
theorem H8{s r:Str}(hs:(44:UInt8)∉s)(hr:r=[]\/∃t,r=44::t):(s++r).takeWhile (fun b=>b !=44)=s:=by
 induction s with
 |nil=>
  rcases hr with rfl|⟨t,rfl⟩
  ·rfl
  ·simp[]
 |cons b s ih=>
  have hb:¬b=44:=fun e=>hs (by rw[e];exact Bd);have hs2:(44:UInt8)∉s:=fun hh=>hs (Az _ hh);rw[Ax,List.takeWhile_cons,ih hs2];simp[hb]
theorem aTw:∀(xs ys:List Int) (x y:Int),(0<=x/\x<12)->(0<=y/\y<12)->(∀z∈xs,0<=z/\z<12)->(∀z∈ys,0<=z/\z<12)->keyX (x::xs)=keyX (y::ys)->x=y/\xs=ys:=by
 have hd:∀xs:List Int,(xs.map fun t=>44::eG t).flatten=[]\/∃t,(xs.map fun t=>44::eG t).flatten=44::t:=by
  intro xs
  cases xs with
  |nil=>exact .inl rfl
  |cons z zs=>exact .inr ⟨_,rfl⟩
 intro xs
 induction xs with
 |nil=>
  intro ys x y hx hy _ hys e;have h1:=H8 (IP hx.1 hx.2) (hd []);have h2:=H8 (IP hy.1 hy.2) (hd ys);simp only[keyX]at e;rw[e,h2]at h1;have hxy:=aNe hx.1 hx.2 hy.1 hy.2 h1.symm;subst hxy;have e2:=List.append_cancel_left e
  cases ys with
  |nil=>exact⟨rfl,rfl⟩
  |cons z zs=>simp at e2
 |cons z zs ih=>
  intro ys x y hx hy hxs hys e;have h1:=H8 (IP hx.1 hx.2) (hd (z::zs));have h2:=H8 (IP hy.1 hy.2) (hd ys);simp only[keyX]at e;rw[e,h2]at h1;have hxy:=aNe hx.1 hx.2 hy.1 hy.2 h1.symm;subst hxy;have e2:=List.append_cancel_left e
  cases ys with
  |nil=>simp at e2
  |cons u us=>
   simp only[Aj,List.flatten_cons,Ax,List.cons.injEq,true_and]at e2;obtain⟨g1,g2⟩:=ih us z u (hxs z Bd) (hys u Bd) (fun w hw=>hxs w (Az _ hw)) (fun w hw=>hys w (Az _ hw)) e2;rw[g1,g2];exact⟨rfl,rfl⟩
theorem aPo{a:Aut}(h:AOK a){cl:List Int}(hc:Cls a cl){q:Nat}(hq:q<a.nx.length):∀z∈sigA a cl q,0<=z/\z<12:=by
 intro z hz;unfold sigA at hz
 rcases Au.1 hz with rfl|hz
 ·exact hc.rng q hq
 ·rw[uD h hq]at hz;obtain⟨l,hl,rfl⟩:=Av.1 hz;obtain⟨p,e1,hp⟩:=uL h hq hl;show 0<=clA cl (goS a q l)/\_;rw[e1];exact hc.rng p hp
def kV(a:Aut)(cl:List Int):List Str:=(List.range a.nx.length).map (keyA a cl)
theorem aK7(a:Aut)(cl:List Int):(kV a cl).length=a.nx.length:=by unfold kV;rw[Am,Db]
theorem aLW{a:Aut}{cl:List Int}{q:Nat}(hq:q<(kV a cl).length):(kV a cl)[q]=keyA a cl q:=by
 have h:(kV a cl)[q]? =some (keyA a cl q):=by
  have hq2:=hq;rw[aK7]at hq2;show((List.range a.nx.length).map (keyA a cl))[q]? =_;rw[Bh,List.getElem?_range hq2];rfl
 rw[Ad hq]at h;exact Option.some.inj h
theorem aS8{a:Aut}(h:AOK a){cl:List Int}(hc:Cls a cl):numL (kV a cl)=numL (sigs a cl)/\(aO (kV a cl)).length=(aO (sigs a cl)).length:=by
 refine C1 ⟨by rw[aK7,cX],fun i j hi hj hi' hj'=> ?_⟩;rw[aLW,aLW,lX,lX,<-aMx,<-aMx];rw[cX]at hi' hj'
 constructor
 ·intro e;have r1:=aPo h hc hi';have r2:=aPo h hc hj';unfold sigA at *;obtain⟨g1,g2⟩:=aTw _ _ _ _ (r1 _ Bd) (r2 _ Bd) (fun z hz=>r1 z (Az _ hz)) (fun z hz=>r2 z (Az _ hz)) e;rw[g1,g2]
 ·intro e;rw[e]
section
variable{R:Type}{L n:Nat}
theorem aHD(hn:1<=n){l:List Int}{x:Int}{q:Nat}(hql:q<l.length)(hl:l.length<=4294967290)(hx:l.getD q 0=x)(hne:∀i,i<q->¬l.getD i 0=x){k:KE R}:∀(j i m:Nat) (hi:i+j=q) (hm:j<m),
  aT env (aA env L n) L 0 [] Bz69 (MC 0) (Z2 (U2 (Z2 (U8 (U1 ([])))))) m (.d (.ivs l.length (ints l))::nI x::Y2 (nI 0::nI i::Y8 (Y1 ([])))) [] k
  =k (.exit 0) (.d (.ivs l.length (ints l))::nI x::Y2 (nI 0::nI q::Y8 (Y1 ([])))) []:=by
 intro j
 induction j with
 |zero=>
  intro i m hi hm;obtain _|m:=m;omega;obtain rfl:i=q:=om;have hc:(i:Int)<l.length:=om;have hi0:(0:Int)<=i:=om
  simp-implicitDefEqProofs (maxSteps:=9^7) (disch:=try exact Dz) only[↓DN,↓kRet,UP,simprocAttr,hc,hi0,hx,LR,GG,Tryz.f101]
 |succ j ih=>
  intro i m hi hm;obtain _|m:=m;omega;have hc:(i:Int)<l.length:=om;have hi0:(0:Int)<=i:=om;have he:=hne i om;have ih':=ih (i+1) m om om;rw[cs1 i]at ih';clear ih
  simp-implicitDefEqProofs (maxSteps:=9^7) (disch:=try exact Dz) only[↓DN,↓kRet,UP,simprocAttr,hc,hi0,he,↓ih',LR,GG,Tryz.f101]
theorem aWu{l:List Int}{x:Int}{i:Nat}(h:i<l.idxOf x)(hx:x∈l):¬l.getD i 0=x:=by
 obtain⟨_,hq⟩:=oY hx;rw[Aa,Ad om];intro e;have e2:l[i]'om=x:=e;have:=List.not_of_lt_findIdx (p:=(·==x)) (xs:=l) (i:=i) h;rw[e2]at this;simp at this
theorem ZL(hn:2<=n)(l:List Int)(x:Int)(hx:x∈l)(hl:l.length<=4294967290)(hL:2^60<=L):aA env L n 101 [.d (.ivs l.length (ints l)),nI x] []=some (nI (idxU l x),[]):=by
 obtain⟨h1,h2⟩:=oY hx;have loop_c:=fun {R n k} hn=> @aHD R L n hn l x (l.idxOf x) h2 hl h1 (fun i hi=>aWu hi hx) k (l.idxOf x) 0 L om om;simp only[Ap]at loop_c;unfold idxU;generalize l.idxOf x=q at *;obtain _|n:=n;omega
 simp-implicitDefEqProofs (maxSteps:=9^7) (disch:=try exact Dz) only[↓DN,↓kAsg,UP,simprocAttr,↓loop_c,aM1,aC6,Tryz.f101]
theorem ZI:type_of% fun {L} l x hx hl hL=>ks fun hn=> @ZL L _ hn l x hx hl hL:=fun {L} l x hx hl hL=>ks fun hn=> @ZL L _ hn l x hx hl hL
theorem aDp(hn:3<=n)(hL:2^60<=L){a:Aut}{i:Nat}{r:List Int}(hr:r.length<=100){k:KE R}:∀(j q m:Nat) (o:List Int) (len:Nat) (hq:q+j=r.length) (hm:j<m) (hlen:len=o.length) (ho:o.length+j<=100000),
  aT env (aA env L n) L 0 [] Bz36 (oO 1) (U1 (Z4 (Z2 (U32 (U4 ([])))))) m (Y1 (.ptr 0 0 0::.d .nils::.sl 1 0 0 len::nI i::.d (.ivs r.length (ints r))::nI q::Y32 (Y4 ([])))) [.box [nI a.al,.d (.ivs a.nx.length (aE a.nx)),.d (.ivs a.ac.length (aD a.ac))],.arr (ints o) 1 0] k
  =k (.exit 2) (Y1 (.ptr 0 0 0::.d .nils::.sl 1 0 0 (rowU o (r.drop q)).length::nI i::.d (.ivs r.length (ints r))::nI (r.length)::Y32 (Y4 ([])))) [.box [nI a.al,.d (.ivs a.nx.length (aE a.nx)),.d (.ivs a.ac.length (aD a.ac))],.arr (ints (rowU o (r.drop q))) 1 0]:=by
 intro j
 induction j with
 |zero=>
  intro q m o len hq hm hlen ho;obtain _|m:=m;omega;obtain rfl:q=r.length:=om;subst hlen
  simp-implicitDefEqProofs (maxSteps:=9^7) (disch:=try exact Dz) only[↓DN,↓kRet,UP,simprocAttr,Ah,x7,xV,Tryz.f116];rw[Bu];rfl
 |succ j ih=>
  intro q m o len hq hm hlen ho;obtain _|m:=m;omega;subst hlen;have hk:q<r.length:=om;have hc:(q:Int)<r.length:=om;have hq0:(0:Int)<=q:=om;have kl_i:=@aJx L o (r.getD q 0) om hL;have hl4:o.length<=4294967290:=om;rw[cC hk (d:=0)]
  by_cases h:r.getD q 0∈o
  ·have e:rowU o (r.getD q 0::r.drop (q+1))=rowU o (r.drop (q+1)):=by
    unfold rowU;rw[Dc,addU,if_pos h]
   have ih':=ih (q+1) m o o.length om om rfl om;rw[cs1 q]at ih';rw[e];rw[decide_eq_true h]at kl_i;clear ih;generalize rowU o (r.drop (q+1))=w at *
   simp-implicitDefEqProofs (maxSteps:=9^7) (disch:=try exact Dz) only[↓DN,↓kRet,UP,simprocAttr,↓D8,hc,hq0,↓kl_i,↓ih',x7,xV,Tryz.f116]
  ·have e:rowU o (r.getD q 0::r.drop (q+1))=rowU (o++[r.getD q 0]) (r.drop (q+1)):=by
    unfold rowU;rw[Dc,addU,if_neg h]
   have ih':=ih (q+1) m (o++[r.getD q 0]) (o.length+1) om om smp (by simp;omega);rw[cs1 q]at ih';rw[e];rw[decide_eq_false h]at kl_i;clear ih;generalize rowU (o++[r.getD q 0]) (r.drop (q+1))=w at *
   simp-implicitDefEqProofs (maxSteps:=9^7) (disch:=try exact Dz) only[↓DN,↓kRet,UP,simprocAttr,↓D8,hc,hq0,↓kl_i,↓ih',x7,xV,Tryz.f116]
theorem aEd(hn:3<=n)(hL:2^60<=L){a:Aut}(ha:AOK a){k:KE R}:∀(j i m:Nat) (o:List Int) (W:Nat->List Int) (len:Nat) (hB:Bfs (goS a) (aB a.al) a.nx.length i [] o W) (hi:i<=o.length) (hj:a.nx.length<i+j) (hm:j<m) (hlen:len=o.length),
  aT env (aA env L n) L 0 [] Bz36 (oO 0) Bz68 m (Y1 (.ptr 0 0 0::.d .nils::.sl 1 0 0 len::nI i::Y32 (Y4 (Y2 ([]))))) [.box [nI a.al,.d (.ivs a.nx.length (aE a.nx)),.d (.ivs a.ac.length (aD a.ac))],.arr (ints o) 1 0] k
  =k (.exit 0) (Y1 (.ptr 0 0 0::.d .nils::.sl 1 0 0 (ordB (goS a) (aB a.al) j i o).length::nI ((ordB (goS a) (aB a.al) j i o).length:Int)::Y32 (Y4 (Y2 ([]))))) [.box [nI a.al,.d (.ivs a.nx.length (aE a.nx)),.d (.ivs a.ac.length (aD a.ac))],.arr (ints (ordB (goS a) (aB a.al) j i o)) 1 0]:=by
 obtain⟨sa,wa,a1,a2,a3⟩:=aR ha;have hal:=sa.1
 have last:∀(i m:Nat) (o:List Int) (len:Nat),i=o.length->0<m->len=o.length->aT env (aA env L n) L 0 [] Bz36 (oO 0) Bz68 m (Y1 (.ptr 0 0 0::.d .nils::.sl 1 0 0 len::nI i::Y32 (Y4 (Y2 ([]))))) [.box [nI a.al,.d (.ivs a.nx.length (aE a.nx)),.d (.ivs a.ac.length (aD a.ac))],.arr (ints o) 1 0] k
  =k (.exit 0) (Y1 (.ptr 0 0 0::.d .nils::.sl 1 0 0 o.length::nI (o.length:Int)::Y32 (Y4 (Y2 ([]))))) [.box [nI a.al,.d (.ivs a.nx.length (aE a.nx)),.d (.ivs a.ac.length (aD a.ac))],.arr (ints o) 1 0]:=by
  intro i m o len hi hm hlen;obtain _|m:=m;omega;subst hi;subst hlen
  simp-implicitDefEqProofs (maxSteps:=9^7) (disch:=try exact Dz) only[↓DN,↓kRet,UP,simprocAttr,Ah,JL,G6,Tryz.f116]
 intro j
 induction j with
 |zero=>
  intro i m o W len hB hi hj hm hlen;have:=dX hB.nod hB.rng;omega
 |succ j ih=>
  intro i m o W len hB hi hj hm hlen;unfold ordB
  by_cases hlt:i<o.length
  ·obtain _|m:=m;omega;subst hlen;rw[if_pos hlt];obtain⟨v0,v1⟩:=hB.rng _ (jH hlt);have hrm:=DV ha v0 v1;obtain⟨W1,h1,h2⟩:=Bfs.row (lE _) (fun l hl=>oA ha _ l v0 v1 hl) (aB a.al) [] o W hB rfl hlt rfl;rw[hrm]at h1 h2|-;have hn1:=dX hB.nod hB.rng;have hrl:=(gL ha (i:=(o.getD i 0).toNat) om).1;have hll:=bO a.al;have loop_c:=fun {R n k} hn=> @aDp R L n hn hL a i (rowA a (o.getD i 0)) (by unfold rowA;omega) k (rowA a (o.getD i 0)).length 0 L o o.length om (by unfold rowA;omega) rfl (by unfold rowA;omega);rw[Ba]at loop_c;have ih':=ih (i+1) m (rowU o (rowA a (o.getD i 0))) W1 _ h1.next om om om rfl;rw[cs1 i]at ih';simp only[Ap]at loop_c;have hc:(i:Int)<o.length:=om;have hi0:(0:Int)<=i:=om;clear ih h1 hB last hrm;unfold rowA at *;generalize hv:o.getD i 0=v at *;have hk:v.toNat<a.nx.length:=om;generalize rowU o (a.nx.getD v.toNat [])=w at *;generalize ordB (goS a) (aB a.al) j (i+1) w=z at *
   simp-implicitDefEqProofs (maxSteps:=9^7) (disch:=try exact Dz) only[↓DN,↓kAsg,↓kRet,UP,simprocAttr,LA,hc,hi0,hv,v0,v1,↓loop_c,↓ih',JL,G6,Tryz.f116]
  ·rw[if_neg hlt];exact last i m o len om om hlen
theorem aAN(hn:4<=n)(a:Aut)(ha:AOK a)(hL:2^60<=L):aA env L n 116 [.agg [nI a.al,.d (.ivs a.nx.length (aE a.nx)),.d (.ivs a.ac.length (aD a.ac))]] []=some (.d (.ivs (ordA a).length (ints (ordA a))),[]):=by
 obtain⟨sa,wa,a1,a2,a3⟩:=aR ha;have loop_c:=fun {R n k} hn=> @aEd R L n hn hL a ha k (a.nx.length+1) 0 L [0] (fun _=>[]) 1 (Bfs.start om) om om om rfl;have e:ints [0]=[.int .i64 0]:=rfl;have e2:ordB (goS a) (aB a.al) (a.nx.length+1) 0 [0]=ordA a:=rfl;rw[e,e2]at loop_c;simp only[Ap]at loop_c;obtain⟨W,hB⟩:=gK ha;have hl:=dX hB.nod hB.rng;clear hB;generalize ordA a=w at *;have e4:(ints w).take w.length=ints w:=by rw[cK (Ab _)]
 obtain _|n:=n;omega
 simp-implicitDefEqProofs (maxSteps:=9^7) (disch:=try exact Dz) only[↓DN,↓kAsg,↓kRet,UP,simprocAttr,e4,↓loop_c,aL8,aCf,Tryz.f116]
theorem aLa:type_of% fun {L} a ha hL=>ks fun hn=> @aAN L _ hn a ha hL:=fun {L} a ha hL=>ks fun hn=> @aAN L _ hn a ha hL
end
section
variable{R:Type}{L n:Nat}
theorem aKw(hn:1<=n){a:Aut}{cl:List Int}{u v:Nat}(hcl:cl.length<=100)(hu:u<a.nx.length)(hv:v<a.nx.length)(ha:a.nx.length<=100)(hlen:(a.nx.getD u []).length=(a.nx.getD v []).length)(hr:(a.nx.getD u []).length<=100)(hru:∀q,q<(a.nx.getD u []).length->0<=(a.nx.getD u []).getD q 0/\(a.nx.getD u []).getD q 0<cl.length)(hrv:∀q,q<(a.nx.getD v []).length->0<=(a.nx.getD v []).getD q 0/\(a.nx.getD v []).getD q 0<cl.length){k:KE R}:∀(j i m:Nat) (hi:i+j=(a.nx.getD u []).length) (hm:j<m),
  aT env (aA env L n) L 0 [] Bz49 (P7 0) (U1 (Z4 (U2 (U1 (Z2 (U32 (U8 (U2 ([]))))))))) m (Y1 (.d (.ivs cl.length (ints cl))::nI u::nI v::.ptr 0 0 0::Y2 (Y1 (.d (.bool false)::nI i::Y32 (Y8 (Y2 ([]))))))) [.box [nI a.al,.d (.ivs a.nx.length (aE a.nx)),.d (.ivs a.ac.length (aD a.ac))]] k
  =match seek (fun i=>decide (¬clA cl ((a.nx.getD u []).getD i 0)=clA cl ((a.nx.getD v []).getD i 0))) j i with
   |none=>k (.exit 0) (Y1 (.d (.ivs cl.length (ints cl))::nI u::nI v::.ptr 0 0 0::Y2 (Y1 (.d (.bool false)::nI ((a.nx.getD u []).length)::Y32 (Y8 (Y2 ([]))))))) [.box [nI a.al,.d (.ivs a.nx.length (aE a.nx)),.d (.ivs a.ac.length (aD a.ac))]]
   |some q=>k .ret (Y1 (.d (.ivs cl.length (ints cl))::nI u::nI v::.ptr 0 0 0::Y2 (Y1 (.d (.bool false)::nI q::Y32 (Y8 (Y2 ([]))))))) [.box [nI a.al,.d (.ivs a.nx.length (aE a.nx)),.d (.ivs a.ac.length (aD a.ac))]]:=by
 intro j
 induction j with
 |zero=>
  intro i m hi hm;obtain _|m:=m;omega;have hu0:(0:Int)<=u:=om;have hu1:(u:Int)<a.nx.length:=om;obtain rfl:i=(a.nx.getD u []).length:=om
  simp-implicitDefEqProofs (maxSteps:=9^7) (disch:=try exact Dz) only[↓DN,↓kRet,UP,simprocAttr,LA,hu,hu0,hu1,Ah,AE,BM,Tryz.f148]<;>rfl
 |succ j ih=>
  intro i m hi hm;obtain _|m:=m;omega;have hu0:(0:Int)<=u:=om;have hv0:(0:Int)<=v:=om;have hu1:(u:Int)<a.nx.length:=om;have hv1:(v:Int)<a.nx.length:=om;have hk:i<(a.nx.getD u []).length:=om;have hc:(i:Int)<(a.nx.getD u []).length:=om;have hc2:(i:Int)<(a.nx.getD v []).length:=om;have hi0:(0:Int)<=i:=om;obtain⟨x0,x1⟩:=hru i hk;obtain⟨y0,y1⟩:=hrv i om;have ih':=ih (i+1) m om om;rw[cs1 i]at ih';clear ih
  by_cases he:clA cl ((a.nx.getD u []).getD i 0)=clA cl ((a.nx.getD v []).getD i 0)
  ·rw[jK (p:=(fun i=>decide (¬clA cl ((a.nx.getD u []).getD i 0)=clA cl ((a.nx.getD v []).getD i 0)))) (by simpa using he)];unfold clA at he ih'|-
   simp-implicitDefEqProofs (maxSteps:=9^7) (disch:=try exact Dz) only[↓DN,↓kRet,UP,simprocAttr,LA,hu,hv,hk,hu0,hv0,hu1,hv1,hc,hc2,hi0,x0,x1,y0,y1,he,↓ih',AE,BM,Tryz.f148]
  ·rw[fX (p:=(fun i=>decide (¬clA cl ((a.nx.getD u []).getD i 0)=clA cl ((a.nx.getD v []).getD i 0)))) (by simpa using he)];clear ih';unfold clA at he
   simp-implicitDefEqProofs (maxSteps:=9^7) (disch:=try exact Dz) only[↓DN,↓kAsg,↓kRet,UP,simprocAttr,LA,hu,hv,hk,hu0,hv0,hu1,hv1,hc,hc2,hi0,x0,x1,y0,y1,he,AE,BM,Tryz.f148]
theorem aTK{cl r s:List Int}(h:r.length=s.length):(seek (fun i=>decide (¬clA cl (r.getD i 0)=clA cl (s.getD i 0))) r.length 0=none)↔r.map (clA cl)=s.map (clA cl):=by
 rw[kY]
 constructor
 ·intro e;refine List.ext_getElem (by simpa using h) fun i h1 h2=> ?_;rw[Am]at h1 h2;have:=e i om om;simp only[decide_eq_false_iff_not,Classical.not_not]at this;rw[Du,Du];rw[Aa,Aa,Ad h1,Ad h2]at this;exact this
 ·intro e i _ hi;have hi2:i<r.length:=om;have:(r.map (clA cl))[i]'(by simpa using hi2)=(s.map (clA cl))[i]'(by simpa using(h▸hi2)):=by simp only[e]
  rw[Du,Du]at this;simp only[decide_eq_false_iff_not,Classical.not_not];rw[Aa,Aa,Ad hi2,Ad (by omega:i<s.length)];exact this
theorem aC5(hn:2<=n)(a:Aut)(ha:AOK a)(cl:List Int)(hcl:cl.length=a.nx.length)(u v:Nat)(hu:u<a.nx.length)(hv:v<a.nx.length)(hL:2^60<=L):aA env L n 148 [.agg [nI a.al,.d (.ivs a.nx.length (aE a.nx)),.d (.ivs a.ac.length (aD a.ac))],.d (.ivs cl.length (ints cl)),nI u,nI v] []=some (.d (.bool (decide (sigA a cl u=sigA a cl v))),[]):=by
 obtain⟨sa,wa,a1,a2,a3⟩:=aR ha;obtain⟨u1,u2⟩:=gL ha (i:=u) om;obtain⟨v1,v2⟩:=gL ha (i:=v) om;have hll:=bO a.al;have loop_c:=fun {R n k} hn=> @aKw R L n hn a cl u v om hu hv om om om (fun q hq=>by rw[hcl];exact u2 q om) (fun q hq=>by rw[hcl];exact v2 q om) k (a.nx.getD u []).length 0 L om om;simp only[Ap]at loop_c;have hu0:(0:Int)<=u:=om;have hv0:(0:Int)<=v:=om;have hu1:(u:Int)<cl.length:=om;have hv1:(v:Int)<cl.length:=om;have hrow:=@aTK cl (a.nx.getD u []) (a.nx.getD v []) om
 by_cases hc:cl.getD u 0=cl.getD v 0
 ·cases hs:seek (fun i=>decide (¬clA cl ((a.nx.getD u []).getD i 0)=clA cl ((a.nx.getD v []).getD i 0))) (a.nx.getD u []).length 0 with
  |none=>
   have hx:sigA a cl u=sigA a cl v:=by unfold sigA;rw[hc,hrow.1 hs]
   simp only[hs]at loop_c;obtain _|n:=n;omega
   simp-implicitDefEqProofs (maxSteps:=9^7) (disch:=try exact Dz) only[↓DN,↓kAsg,↓kRet,UP,simprocAttr,↓loop_c,hx,hc,hu0,hv0,hu1,hv1,QK,IH,Tryz.f148]
  |some q=>
   have hx:¬sigA a cl u=sigA a cl v:=by
    intro e;unfold sigA at e;have:=hrow.2 (List.cons.inj e).2;rw[hs]at this;cases this
   simp only[hs]at loop_c;obtain _|n:=n;omega
   simp-implicitDefEqProofs (maxSteps:=9^7) (disch:=try exact Dz) only[↓DN,↓kAsg,↓kRet,UP,simprocAttr,↓loop_c,hx,hc,hu0,hv0,hu1,hv1,QK,IH,Tryz.f148]
 ·have hx:¬sigA a cl u=sigA a cl v:=fun e=>hc (List.cons.inj e).1;clear loop_c;obtain _|n:=n;omega
  simp-implicitDefEqProofs (maxSteps:=9^7) (disch:=try exact Dz) only[↓DN,↓kAsg,↓kRet,UP,simprocAttr,hx,hc,hu0,hv0,hu1,hv1,QK,IH,Tryz.f148]
theorem aOg:type_of% fun {L} a ha cl hcl u v hu hv hL=>ks fun hn=> @aC5 L _ hn a ha cl hcl u v hu hv hL:=fun {L} a ha cl hcl u v hu hv hL=>ks fun hn=> @aC5 L _ hn a ha cl hcl u v hu hv hL
theorem aBA(hn:4<=n)(hL:2^60<=L){a:Aut}(ha:AOK a){cl:List Int}(hcl:cl.length=a.nx.length){o:List Int}{p:Int}{i:Nat}(hi:i<a.nx.length)(ho:o.length=i)(hpos:∀q,q<o.length->0<=o.getD q 0){k:KE R}:∀(t j m:Nat) (hj:j+t=i) (hm:t<m),
  aT env (aA env L n) L 0 [] Bz15 (mG 1) Bz50 m (Y1 (.d (.ivs cl.length (ints cl))::.ptr 0 0 0::Y1 (.d .nils::nI 0::.sl 1 0 0 o.length::nI p::nI i::nI (-1)::nI j::Y32 (Y4 ([]))))) [.box [nI a.al,.d (.ivs a.nx.length (aE a.nx)),.d (.ivs a.ac.length (aD a.ac))],.arr (ints (o)) 1 0] k
  =match seek (fun j=>decide (sigA a cl i=sigA a cl j)) t j with
   |none=>k (.exit 2) (Y1 (.d (.ivs cl.length (ints cl))::.ptr 0 0 0::Y1 (.d .nils::nI 0::.sl 1 0 0 o.length::nI p::nI i::nI (-1)::nI i::Y32 (Y4 ([]))))) [.box [nI a.al,.d (.ivs a.nx.length (aE a.nx)),.d (.ivs a.ac.length (aD a.ac))],.arr (ints (o)) 1 0]
   |some q=>k (.exit 2) (Y1 (.d (.ivs cl.length (ints cl))::.ptr 0 0 0::Y1 (.d .nils::nI 0::.sl 1 0 0 o.length::nI p::nI i::nI (o.getD q 0)::nI ((q:Int)+1)::Y32 (Y4 ([]))))) [.box [nI a.al,.d (.ivs a.nx.length (aE a.nx)),.d (.ivs a.ac.length (aD a.ac))],.arr (ints (o)) 1 0]:=by
 have h12:=(aR ha).2.2.2.1
 have last:∀(c:Int) (j m:Nat),(0<=c\/j=i)->0<m->j<=i->aT env (aA env L n) L 0 [] Bz15 (mG 1) Bz50 m (Y1 (.d (.ivs cl.length (ints cl))::.ptr 0 0 0::Y1 (.d .nils::nI 0::.sl 1 0 0 o.length::nI p::nI i::nI c::nI j::Y32 (Y4 ([]))))) [.box [nI a.al,.d (.ivs a.nx.length (aE a.nx)),.d (.ivs a.ac.length (aD a.ac))],.arr (ints (o)) 1 0] k=k (.exit 2) (Y1 (.d (.ivs cl.length (ints cl))::.ptr 0 0 0::Y1 (.d .nils::nI 0::.sl 1 0 0 o.length::nI p::nI i::nI c::nI j::Y32 (Y4 ([]))))) [.box [nI a.al,.d (.ivs a.nx.length (aE a.nx)),.d (.ivs a.ac.length (aD a.ac))],.arr (ints (o)) 1 0]:=by
  intro c j m h hm hj;obtain _|m:=m;omega
  by_cases hc:(j:Int)<i
  ·have h2:¬c<0:=om
   simp-implicitDefEqProofs (maxSteps:=9^7) (disch:=try exact Dz) only[↓DN,↓kRet,UP,simprocAttr,hc,h2,nU,oN,Tryz.f128]
  ·simp-implicitDefEqProofs (maxSteps:=9^7) (disch:=try exact Dz) only[↓DN,↓kRet,UP,simprocAttr,hc,nU,oN,Tryz.f128]
 intro t
 induction t with
 |zero=>
  intro j m hj hm;obtain rfl:j=i:=om;exact last _ _ m (.inr rfl) hm (Ab _)
 |succ t ih=>
  intro j m hj hm;obtain _|m:=m;omega;have hjn:j<a.nx.length:=om;have kc_c:=@aOg L a ha cl hcl i j hi hjn hL;have hc:(j:Int)<i:=om;have hc2:(j:Int)<o.length:=om;have hc3:j<o.length:=om;have hj0:(0:Int)<=j:=om
  by_cases he:sigA a cl i=sigA a cl j
  ·rw[fX (p:=(fun j=>decide (sigA a cl i=sigA a cl j))) (by simpa using he)];rw[decide_eq_true he]at kc_c;have l':=last (o.getD j 0) (j+1) m (.inl (hpos j om)) om om;rw[cs1 j]at l';clear ih last
   simp-implicitDefEqProofs (maxSteps:=9^7) (disch:=try exact Dz) only[↓DN,↓kRet,UP,simprocAttr,hc,hc2,hj0,↓kc_c,l',nU,oN,Tryz.f128]
  ·rw[jK (p:=(fun j=>decide (sigA a cl i=sigA a cl j))) (by simpa using he)];rw[decide_eq_false he]at kc_c;have ih':=ih (j+1) m om om;rw[cs1 j]at ih';clear ih last
   simp-implicitDefEqProofs (maxSteps:=9^7) (disch:=try exact Dz) only[↓DN,↓kRet,UP,simprocAttr,hc,↓kc_c,↓ih',nU,oN,Tryz.f128]
theorem aR3{a:Aut}{cl:List Int}{i:Nat}(hi:i<a.nx.length):(sigs a cl).take (i+1)=(sigs a cl).take i++[sigA a cl i]:=by
 have h:i<(sigs a cl).length:=by rw[cX];exact hi
 rw[Cz,Ad h,lX h];rfl
theorem aB2(hn:4<=n)(hL:2^60<=L){a:Aut}(ha:AOK a){cl:List Int}(hcl:cl.length=a.nx.length){k:KE R}:∀(t i m:Nat) (o:List Int) (p:Nat) (len:Nat) (ho:o=numL ((sigs a cl).take i)) (hp:p=(aO ((sigs a cl).take i)).length) (hlen:len=o.length) (hi:i+t=a.nx.length) (hm:t<m),
  aT env (aA env L n) L 0 [] Bz15 (mG 0) (U1 (Z2 (U1 (Z4 (Z1 (U32 (U4 (U2 ([]))))))))) m (Y1 (.d (.ivs cl.length (ints cl))::.ptr 0 0 0::Y1 (.d .nils::nI 0::.sl 1 0 0 len::nI p::nI i::Y32 (Y4 (Y2 ([])))))) [.box [nI a.al,.d (.ivs a.nx.length (aE a.nx)),.d (.ivs a.ac.length (aD a.ac))],.arr (ints (o)) 1 0] k
  =k (.exit 0) (Y1 (.d (.ivs cl.length (ints cl))::.ptr 0 0 0::Y1 (.d .nils::nI 0::.sl 1 0 0 (numL (sigs a cl)).length::nI ((aO (sigs a cl)).length:Int)::nI (a.nx.length:Int)::Y32 (Y4 (Y2 ([])))))) [.box [nI a.al,.d (.ivs a.nx.length (aE a.nx)),.d (.ivs a.ac.length (aD a.ac))],.arr (ints (numL (sigs a cl))) 1 0]:=by
 have h12:=(aR ha).2.2.2.1;intro t
 induction t with
 |zero=>
  intro i m o p len ho hp hlen hi hm;obtain _|m:=m;omega;obtain rfl:i=a.nx.length:=om;have e:(sigs a cl).take a.nx.length=sigs a cl:=Ce (by rw[cX];exact Ab _);rw[e]at ho hp;subst hlen;subst ho;subst hp;have hc:¬(a.nx.length:Int)<cl.length:=om;generalize numL (sigs a cl)=w;generalize(aO (sigs a cl)).length=z
  simp-implicitDefEqProofs (maxSteps:=9^7) (disch:=try exact Dz) only[↓DN,↓kRet,UP,simprocAttr,hc,vZ,uY,Tryz.f128]
 |succ t ih=>
  intro i m o p len ho hp hlen hi hm;obtain _|m:=m;omega;have hin:i<a.nx.length:=om;have hsl:((sigs a cl).take i).length=i:=by rw[Bi,cX];omega
  have hol:o.length=i:=by rw[ho,nH,hsl]
  have hpos:∀q,q<o.length->0<=o.getD q 0:=by
   intro q hq;rw[ho];exact(aEh om).1
  have hp12:p<=12:=by have:=kS ((sigs a cl).take i);omega
  have hget:∀q,(hq:q<i)->((sigs a cl).take i)[q]'om=sigA a cl q:=by
   intro q hq;rw[List.getElem_take,lX]
  have loop_c:=fun {R n k} hn=> @aBA R L n hn hL a ha cl hcl o p i hin hol hpos k i 0 L om om;simp only[Ap]at loop_c;have e1:=s9 ((sigs a cl).take i) (sigA a cl i);have e2:=gP ((sigs a cl).take i) (sigA a cl i);rw[<-aR3 hin]at e1 e2;subst hlen;have hc:(i:Int)<cl.length:=om;have hi0:(0:Int)<=i:=om;have hl4:o.length<=4294967290:=om
  cases hs:seek (fun j=>decide (sigA a cl i=sigA a cl j)) i 0 with
  |none=>
   have hx:sigA a cl i∉(sigs a cl).take i:=by
    intro hx;obtain⟨q,hq,e⟩:=Bz hx;have:=kY.1 hs q om om;rw[hget q om]at e;simp only[decide_eq_false_iff_not]at this;exact this e.symm
   have hx':=fun h=>hx (bR.1 h);rw[DF hx',aEw hx',<-hp,<-ho]at e1;rw[DF hx']at e2;have ih':=ih (i+1) m (o++[(p:Int)]) (p+1) (o.length+1) e1.symm (by rw[e2,Af,<-hp];rfl) smp om om;rw[cs1 i,cs1 p]at ih';simp only[hs]at loop_c;clear ih e1 e2 ho hp hs hx hx';generalize numL (sigs a cl)=w at *;generalize(aO (sigs a cl)).length=z at *
   simp-implicitDefEqProofs (maxSteps:=9^7) (disch:=try exact Dz) only[↓DN,↓kAsg,↓kRet,UP,simprocAttr,hc,↓loop_c,↓ih',vZ,uY,Tryz.f128]
  |some q=>
   obtain⟨_,h2,h3,_⟩:=zH hs;have hqi:q<i:=om
   have hx:sigA a cl i∈(sigs a cl).take i:=by
    simp only[decide_eq_true_eq]at h3;rw[h3,<-hget q hqi];exact At _
   have hv:o.getD q 0=((idxG (aO ((sigs a cl).take i)) (sigA a cl i):Nat):Int):=by
    simp only[decide_eq_true_eq]at h3;rw[ho,DH om,hget q hqi,h3]
   have hx':=bR.2 hx;rw[RV hx',<-hv,<-ho]at e1;rw[RV hx']at e2;have hv0:¬o.getD q 0<0:=by have:=hpos q om;omega
   have ih':=ih (i+1) m (o++[o.getD q 0]) p (o.length+1) e1.symm (by rw[e2,<-hp]) smp om om;rw[cs1 i]at ih';simp only[hs]at loop_c;clear ih e1 e2 ho hp hs hx hx' hpos hv;generalize numL (sigs a cl)=w at *;generalize(aO (sigs a cl)).length=z at *;generalize o.getD q 0=y at *
   simp-implicitDefEqProofs (maxSteps:=9^7) (disch:=try exact Dz) only[↓DN,↓kAsg,↓kRet,UP,simprocAttr,hc,hv0,↓loop_c,↓ih',vZ,uY,Tryz.f128]
theorem GH(hn:5<=n)(a:Aut)(ha:AOK a)(cl:List Int)(hcl:cl.length=a.nx.length)(hL:2^60<=L):aA env L n 128 [.agg [nI a.al,.d (.ivs a.nx.length (aE a.nx)),.d (.ivs a.ac.length (aD a.ac))],.d (.ivs cl.length (ints cl))] []=some (.tup [.d (.ivs (numL (sigs a cl)).length (ints (numL (sigs a cl)))),.d (.int .i64 (aO (sigs a cl)).length)],[]):=by
 have h12:=(aR ha).2.2.2.1;have loop_c:=fun {R n k} hn=> @aB2 R L n hn hL a ha cl hcl k a.nx.length 0 L [] 0 0 (by rw[List.take_zero];rfl) (by rw[List.take_zero];rfl) rfl om om;have e:ints []=[]:=rfl;rw[e]at loop_c;simp only[Ap]at loop_c;have hz:(aO (sigs a cl)).length<=12:=by have:=kS (sigs a cl);rw[cX]at this;omega
 have hw:(numL (sigs a cl)).length<=12:=by rw[nH,cX];omega
 generalize numL (sigs a cl)=w at *;generalize(aO (sigs a cl)).length=z at *;have e4:(ints w).take w.length=ints w:=by rw[cK (Ab _)]
 obtain _|n:=n;omega
 simp-implicitDefEqProofs (maxSteps:=9^7) (disch:=try exact Dz) only[↓DN,↓kAsg,↓kRet,UP,simprocAttr,e4,↓loop_c,aKr,aAq,Tryz.f128]
theorem aKI:type_of% fun {L} a ha cl hcl hL=>ks fun hn=> @GH L _ hn a ha cl hcl hL:=fun {L} a ha cl hcl hL=>ks fun hn=> @GH L _ hn a ha cl hcl hL
theorem aAe(hn:2<=n)(hL:2^60<=L){a:Aut}(ha:AOK a){k:KE R}:∀(t i m:Nat) (o:List Int) (len:Nat) (ho:o=(cl0 a).take i) (hlen:len=o.length) (hi:i+t=a.ac.length) (hm:t<m),
  aT env (aA env L n) L 0 [] Bz29 (pC 0) (U1 (Z4 (Z1 (U32 (U4 (U2 ([]))))))) m (Y1 (.ptr 0 0 0::.d .nils::nI 0::.sl 1 0 0 len::nI i::Y32 (Y4 (Y2 ([]))))) [.box [nI a.al,.d (.ivs a.nx.length (aE a.nx)),.d (.ivs a.ac.length (aD a.ac))],.arr (ints o) 1 0] k
  =k (.exit 0) (Y1 (.ptr 0 0 0::.d .nils::nI 0::.sl 1 0 0 (cl0 a).length::nI (a.ac.length)::Y32 (Y4 (Y2 ([]))))) [.box [nI a.al,.d (.ivs a.nx.length (aE a.nx)),.d (.ivs a.ac.length (aD a.ac))],.arr (ints (cl0 a)) 1 0]:=by
 obtain⟨_,_,a1,a2,a3⟩:=aR ha;have hcl:(cl0 a).length=a.ac.length:=Am _;intro t
 induction t with
 |zero=>
  intro i m o len ho hlen hi hm;obtain _|m:=m;omega;obtain rfl:i=a.ac.length:=om;rw[Ce om]at ho;subst hlen;subst ho;generalize(cl0 a)=w at *
  simp-implicitDefEqProofs (maxSteps:=9^7) (disch:=try exact Dz) only[↓DN,↓kRet,UP,simprocAttr,Ah,tM,sA,Tryz.f100]
 |succ t ih=>
  intro i m o len ho hlen hi hm;obtain _|m:=m;omega;have hk:i<a.ac.length:=om;have hol:o.length=i:=by rw[ho,Bi];omega
  have hc:(i:Int)<a.ac.length:=om;have hi0:(0:Int)<=i:=om;have hl4:o.length<=4294967290:=om
  have e:(cl0 a).take (i+1)=o++[if a.ac.getD i false=true then 1 else 0]:=by
   rw[Cz,<-ho,Ad om];unfold cl0;rw[Du,Aa,Ad hk];rfl
  subst hlen
  by_cases hb:a.ac.getD i false=true
  ·rw[if_pos hb]at e;have ih':=ih (i+1) m (o++[1]) (o.length+1) e.symm smp om om;rw[cs1 i]at ih';clear ih e ho;generalize(cl0 a)=w at *
   simp-implicitDefEqProofs (maxSteps:=9^7) (disch:=try exact Dz) only[↓DN,↓kAsg,↓kRet,UP,simprocAttr,LA,hc,hi0,hb,hk,↓ih',tM,sA,Tryz.f100]
  ·rw[if_neg hb]at e;have ih':=ih (i+1) m (o++[0]) (o.length+1) e.symm smp om om;rw[cs1 i]at ih';clear ih e ho;generalize(cl0 a)=w at *
   simp-implicitDefEqProofs (maxSteps:=9^7) (disch:=try exact Dz) only[↓DN,↓kAsg,↓kRet,UP,simprocAttr,LA,hc,hi0,hb,hk,↓ih',tM,sA,Tryz.f100]
theorem aA0(hn:7<=n)(hL:2^60<=L){a:Aut}(ha:AOK a){k:KE R}:∀(t m:Nat) (cl:List Int) (c:Nat) (hc:Cls a cl) (h0:c=0\/c=(aO cl).length) (hj:a.nx.length<t+c) (hle:c<=a.nx.length) (hm:t<m),
  aT env (aA env L n) L 0 [] Bz29 (pC 1) (U1 (Z4 (Z1 (U1 (Z2 (U32 (U2 (U1 ([]))))))))) m (Y1 (.ptr 0 0 0::.d .nils::nI 0::.d (.ivs (numL (sigs a cl)).length (ints (numL (sigs a cl))))::nI (a.ac.length)::Y1 (nI c::nI ((aO (sigs a cl)).length:Int)::Y32 (Y2 (Y1 ([])))))) [.box [nI a.al,.d (.ivs a.nx.length (aE a.nx)),.d (.ivs a.ac.length (aD a.ac))]] k
  =k (.exit 2) (Y1 (.ptr 0 0 0::.d .nils::nI 0::.d (.ivs (clsG a t cl c).length (ints (clsG a t cl c)))::nI (a.ac.length)::Y1 (nI ((aO (clsG a t cl c)).length:Int)::nI ((aO (clsG a t cl c)).length:Int)::Y32 (Y2 (Y1 ([])))))) [.box [nI a.al,.d (.ivs a.nx.length (aE a.nx)),.d (.ivs a.ac.length (aD a.ac))]]:=by
 obtain⟨_,_,a1,a2,a3⟩:=aR ha;intro t
 induction t with
 |zero=>
  intro m cl c hc h0 hj hle hm;omega
 |succ t ih=>
  intro m cl c hc h0 hj hle hm;obtain _|m:=m;omega;have hn':=aDq ha hc;have hle2:=kS (sigs a cl);rw[cX]at hle2;have hnl:(numL (sigs a cl)).length=a.nx.length:=by rw[nH,cX]
  have hfn:(aO (numL (sigs a cl))).length=(aO (sigs a cl)).length:=(C1 (F1 (sigs a cl))).2;unfold clsG
  by_cases he:(aO (sigs a cl)).length=c
  ·rw[if_pos he,hfn,he];clear ih;generalize numL (sigs a cl)=w at *
   simp-implicitDefEqProofs (maxSteps:=9^7) (disch:=try exact Dz) only[↓DN,↓kRet,UP,simprocAttr,Ah,E5,AT,Tryz.f100]
  ·rw[if_neg he]
   have hge:c<=(aO (sigs a cl)).length:=by
    rcases h0 with h0|h0
    ·omega
    ·have:=xY (sigs a cl) (fun s=>s.headD 0);rw[PK hc]at this;omega
   have hpos:0<(aO (sigs a cl)).length:=om;have ih':=ih m (numL (sigs a cl)) (aO (sigs a cl)).length hn' (.inr hfn.symm) om hle2 om;have kc_c:=@aKI L a ha (numL (sigs a cl)) hnl hL;have hlt:(c:Int)<(aO (sigs a cl)).length:=om;clear ih hn' hfn hle2 h0;generalize clsG a t (numL (sigs a cl)) (aO (sigs a cl)).length=z at *;generalize numL (sigs a (numL (sigs a cl)))=w2 at *;generalize(aO (sigs a (numL (sigs a cl)))).length=f2 at *;generalize numL (sigs a cl)=w at *;generalize(aO (sigs a cl)).length=f1 at *
   simp-implicitDefEqProofs (maxSteps:=9^7) (disch:=try exact Dz) only[↓DN,↓kRet,UP,simprocAttr,hlt,↓kc_c,↓ih',E5,AT,Tryz.f100]
theorem SB(hn:9<=n)(a:Aut)(ha:AOK a)(hL:2^60<=L):aA env L n 100 [.agg [nI a.al,.d (.ivs a.nx.length (aE a.nx)),.d (.ivs a.ac.length (aD a.ac))]] []=some (.tup [.d (.ivs (bA a).length (ints (bA a))),.d (.int .i64 (aO (bA a)).length)],[]):=by
 obtain⟨_,_,a1,a2,a3⟩:=aR ha;have hcl:(cl0 a).length=a.nx.length:=by unfold cl0;rw[Am,a3]
 have loop_c:=fun {R n k} hn=> @aAe R L n hn hL a ha k a.ac.length 0 L [] 0 (by rw[List.take_zero]) rfl om om;have loop_d:=fun {R n k} hn=> @aA0 R L n hn hL a ha k (a.nx.length+1) L (cl0 a) 0 (TO ha) (.inl rfl) om om om;have kc_c:=fun {R:Type} {n:Nat} {k:KA R} (hn:5<=n)=> @kP R env (aA env L n) [.box [nI a.al,.d (.ivs a.nx.length (aE a.nx)),.d (.ivs a.ac.length (aD a.ac))],.arr (ints (cl0 a)) 1 0] [.arr (ints (cl0 a)) 1 0] [.ice (ints (cl0 a)) 1 0] [.box [nI a.al,.d (.ivs a.nx.length (aE a.nx)),.d (.ivs a.ac.length (aD a.ac))],.ice (ints (cl0 a)) 1 0] 128 [.agg [nI a.al,.d (.ivs a.nx.length (aE a.nx)),.d (.ivs a.ac.length (aD a.ac))],.sl 1 0 0 (cl0 a).length] [.agg [nI a.al,.d (.ivs a.nx.length (aE a.nx)),.d (.ivs a.ac.length (aD a.ac))],.d (.ivs (cl0 a).length (ints (cl0 a)))] _ k [1] [1] BS rfl kr rfl (by simp[d8,frzA,frzL,eD,frz,frz0,aG,mapA,aJ,deep,dG,cK]) rfl (@GH L n hn a ha (cl0 a) hcl hL) rfl smp rfl;have e:ints []=[]:=rfl;have ez:clsG a (a.nx.length+1) (cl0 a) 0=bA a:=rfl;rw[e]at loop_c;rw[ez]at loop_d;simp only[Ap]at loop_c loop_d;clear ez;have hw:=FG ha;generalize numL (sigs a (cl0 a))=w0 at *;generalize(aO (sigs a (cl0 a))).length=f0 at *;generalize(aO (bA a)).length=f at *;generalize bA a=w at *;generalize(cl0 a)=z at *;have e4:(ints z).take z.length=ints z:=by rw[cK (Ab _)]
 obtain _|n:=n;omega
 simp-implicitDefEqProofs (maxSteps:=9^7) (disch:=try exact Dz) only[↓DN,↓kAsg,↓kRet,UP,simprocAttr,↓loop_c,↓loop_d,↓kc_c,aHz,V5,Tryz.f100]
theorem aHP:type_of% fun {L} a ha hL=>ks fun hn=> @SB L _ hn a ha hL:=fun {L} a ha hL=>ks fun hn=> @SB L _ hn a ha hL
end
end Ev
end Go.Proofs.YtppffbehejpglaaGreatDoor
