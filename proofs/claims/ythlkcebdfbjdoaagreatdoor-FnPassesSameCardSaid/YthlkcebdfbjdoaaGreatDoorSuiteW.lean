/-
  Test suites: plain laws. What the program gathers in a map and sorts at the end is what the reference keeps sorted.
-/
import Derived.Test.YthlkcebdfbjdoaaGreatDoorTop
import Derived.Test.YthlkcebdfbjdoaaGreatDoorMemS
import Derived.Test.YthlkcebdfbjdoaaGreatDoorNetV
import Derived.Test.YthlkcebdfbjdoaaGreatDoorTrimL
import Derived.Test.YthlkcebdfbjdoaaGreatDoorWordAt
import Derived.Test.YthlkcebdfbjdoaaGreatDoorEvDef
set_option linter.unusedSimpArgs false
set_option linter.unusedVariables false
set_option linter.unusedSectionVars false
set_option maxRecDepth 8000
set_option maxHeartbeats 4000000
namespace Go.Proofs.YthlkcebdfbjdoaaGreatDoor
namespace Ev
def chG(ls:List Int)(w:Str):List Str:=ls.map fun l=>w++[cM l]
def lvG(ls:List Int):Nat->List Str
 |0=>[[]]
 |k+1=>(lvG ls k).flatMap (chG ls)
def midG(ls:List Int):Nat->List Str
 |0=>[[]]
 |k+1=>midG ls k++lvG ls (k+1)
theorem aOK{ls:List Int}{w:Str}:(chG ls w).length=ls.length:=by simp[chG]
theorem aA7{ls:List Int}:∀k,(lvG ls k).length=ls.length^k
 |0=>rfl
 |k+1=>by
  have e:∀l:List Str,(l.flatMap (chG ls)).length=l.length*ls.length:=by
   intro l
   induction l with
   |nil=>simp
   |cons a l ih=>rw[List.flatMap_cons,Af,ih,aOK,Ae,Cc];omega
  show((lvG ls k).flatMap (chG ls)).length=_;rw[e,aA7 k,Nat.pow_succ]
theorem LU{ls:List Int}:∀k,∀w∈lvG ls k,w.length=k/\∀b∈w,∃l∈ls,b=cM l
 |0,w,h=>by
  obtain rfl:w=[]:=by simpa [lvG]using h
  exact⟨rfl,by simp⟩
 |k+1,w,h=>by
  obtain⟨v,hv,hw⟩:=Eb.1 h;obtain⟨l,hl,rfl⟩:=Bd.1 hw;obtain⟨h1,h2⟩:=LU k v hv;refine⟨by simp[h1],fun b hb=> ?_⟩
  rcases Ap.1 hb with hb|hb
  ·exact h2 b hb
  ·exact⟨l,hl,by simpa using hb⟩
theorem aId{ls:List Int}:∀k,∀w∈midG ls k,w.length<=k/\∀b∈w,∃l∈ls,b=cM l
 |0,w,h=>by
  obtain rfl:w=[]:=by simpa [midG]using h
  exact⟨Ab _,by simp⟩
 |k+1,w,h=>by
  rcases Ap.1 h with h|h
  ·obtain⟨h1,h2⟩:=aId k w h;exact⟨by omega,h2⟩
  ·obtain⟨h1,h2⟩:=LU (k+1) w h;exact⟨by omega,h2⟩
theorem aQD{ls:List Int}:∀k,∃p,midG ls k=p++lvG ls k
 |0=>⟨[],rfl⟩
 |k+1=>⟨midG ls k,rfl⟩
theorem HZ{ls:List Int}(hl:ls.length<=6):∀k,k<=3->(midG ls k).length<=259:=by
 have h1:ls.length^1<=6^1:=Nat.pow_le_pow_left hl 1;have h2:ls.length^2<=6^2:=Nat.pow_le_pow_left hl 2;have h3:ls.length^3<=6^3:=Nat.pow_le_pow_left hl 3;intro k hk
 rcases(show k=0\/k=1\/k=2\/k=3 by omega)with rfl|rfl|rfl|rfl
 ·simp[midG]
 ·simp only[midG,Af,aA7,Cx,Ag];omega
 ·simp only[midG,Af,aA7,Cx,Ag,Nat.reduceAdd];omega
 ·simp only[midG,Af,aA7,Cx,Ag,Nat.reduceAdd];omega
def insW(ws:List Str)(w:Str):List Str:=if w∈ws then ws else ws++[w]
def cY(ws l:List Str):List Str:=l.foldl insW ws
def bD(ws:List Str)(w:Str):Nat:=ws.countP fun x=>decide (cmpX x w<0)
def ordW(ws:List Str)(w:Str):List Str:=if w∈ws then ws else ws.take (bD ws w)++w::ws.drop (bD ws w)
def iA(ws l:List Str):List Str:=l.foldl ordW ws
def pK(ws:List Str):Prop:=ws.Pairwise fun x y=>cmpX x y<0
theorem aRp{ws:List Str}:cY ws []=ws:=rfl
theorem UX{ws l:List Str}{w:Str}:cY ws (w::l)=cY (insW ws w) l:=rfl
theorem aRn{ws l m:List Str}:cY ws (l++m)=cY (cY ws l) m:=by simp[cY]
theorem aCR{ws l:List Str}{w:Str}:iA ws (w::l)=iA (ordW ws w) l:=rfl
theorem aQk{ws l m:List Str}:iA ws (l++m)=iA (iA ws l) m:=by simp[iA]
theorem aOr{ws:List Str}{w:Str}:ws.length<=(insW ws w).length/\(insW ws w).length<=ws.length+1:=by
 unfold insW;split<;>simp
theorem aDN:∀ {l ws:List Str},ws.length<=(cY ws l).length/\(cY ws l).length<=ws.length+l.length
 | [],ws=>⟨Ab _,Ab _⟩
 |w::l,ws=>by
  have h1:=aOr (ws:=ws) (w:=w);have h2:=aDN (l:=l) (ws:=insW ws w);rw[UX,Ae];omega
theorem aLZ{ws:List Str}{w x:Str}:x∈insW ws w↔x∈ws\/x=w:=by
 unfold insW
 split
 ·rename_i h
  exact⟨.inl,fun h2=>h2.elim (fun h=>h) fun h2=>by rw[h2];exact h⟩
 ·simp
theorem YW{x:Str}:∀ {l ws:List Str},x∈cY ws l↔x∈ws\/x∈l
 | [],ws=>by simp[aRp]
 |w::l,ws=>by
  rw[UX,YW,aLZ,Au]
  constructor
  ·rintro((h|h)|h)
   ·exact .inl h
   ·exact .inr (.inl h)
   ·exact .inr (.inr h)
  ·rintro(h|h|h)
   ·exact .inl (.inl h)
   ·exact .inl (.inr h)
   ·exact .inr h
theorem yO:∀ {ws:List Str} (_:pK ws) (w:Str) (i:Nat) (h:i<ws.length),cmpX ws[i] w<0↔i<bD ws w
 | [],_,_,_,h=>by simp at h
 |a::ws,hs,w,i,h=>by
  obtain⟨h1,h2⟩:=List.pairwise_cons.1 hs;unfold bD;rw[Ef]
  by_cases ha:cmpX a w<0
  ·rw[if_pos (by simpa using ha)]
   cases i with
   |zero=>simp[ha]
   |succ i=>
    have:=yO h2 w i (by simpa using h);unfold bD at this;rw[List.getElem_cons_succ,this];omega
  ·have h0:bD ws w=0:=by
    unfold bD;rw[List.countP_eq_zero];intro x hx;have:=h1 x hx;simp only[decide_eq_true_eq];exact fun h3=>ha (tD this h3)
   rw[if_neg (by simpa using ha)];unfold bD at h0;rw[h0]
   cases i with
   |zero=>simpa using ha
   |succ i=>
    rw[List.getElem_cons_succ];have:=h1 (ws[i]'(by simpa using h)) (At _)
    constructor
    ·intro h3;exact(ha (tD this h3)).elim
    ·intro h3;omega
theorem aIp{ws:List Str}{w:Str}:bD ws w<=ws.length:=List.countP_le_length
theorem aQ2{ws:List Str}(hs:pK ws)(w:Str):(bD ws w<ws.length/\ws.getD (bD ws w) []=w)↔w∈ws:=by
 constructor
 ·rintro⟨h1,h2⟩;rw[Aa,Ad h1]at h2;have h2:ws[bD ws w]=w:=h2;rw[<-h2];exact At _
 ·intro hm;obtain⟨i,hi,rfl⟩:=Bz hm;have h1:¬i<bD ws ws[i]:=fun h=>IX _ ((yO hs _ i hi).2 h)
  have h2:¬bD ws ws[i]<i:=fun h=>by
   have h3:=List.pairwise_iff_getElem.1 hs (bD ws ws[i]) i om hi h;have:=(yO hs ws[i] (bD ws ws[i]) om).1 h3;omega
  have e:bD ws ws[i]=i:=om;refine⟨by omega,?_⟩;rw[e,Aa,Ad hi];rfl
theorem aIw{ws:List Str}(hs:pK ws)(w:Str):pK (ordW ws w):=by
 unfold ordW
 split
 ·exact hs
 ·rename_i hn
  have lt1:∀x∈ws.take (bD ws w),cmpX x w<0:=by
   intro x hx;obtain⟨i,hi,rfl⟩:=Bz hx;rw[Bi]at hi;rw[List.getElem_take];exact(yO hs w i om).2 om
  have lt2:∀x∈ws.drop (bD ws w),cmpX w x<0:=by
   intro x hx;obtain⟨i,hi,rfl⟩:=Bz hx;rw[Cg]at hi;rw[List.getElem_drop]
   have h1:¬cmpX ws[bD ws w+i] w<0:=fun h=>by
    have:=(yO hs w (bD ws w+i) om).1 h;omega
   rcases QM w ws[bD ws w+i]with h|h|h
   ·exact(hn (by rw[h];exact At _)).elim
   ·exact h
   ·exact(h1 h).elim
  unfold pK;rw[List.pairwise_append];refine⟨hs.sublist (List.take_sublist _ _),List.pairwise_cons.2 ⟨lt2,hs.sublist (List.drop_sublist _ _)⟩,fun x hx y hy=> ?_⟩
  rcases Au.1 hy with rfl|hy
  ·exact lt1 x hx
  ·exact tD (lt1 x hx) (lt2 y hy)
theorem PZ:∀ {l ws:List Str},pK ws->pK (iA ws l)
 | [],_,h=>h
 |w::l,ws,h=>by rw[aCR];exact PZ (l:=l) (ws:=ordW ws w) (aIw h w)
theorem aDb{ws vs:List Str}(h:ws.Perm vs)(w:Str):(ordW ws w).Perm (insW vs w):=by
 unfold ordW insW
 by_cases hm:w∈ws
 ·rw[if_pos hm,if_pos (h.mem_iff.1 hm)];exact h
 ·rw[if_neg hm,if_neg fun h2=>hm (h.mem_iff.2 h2)];refine List.perm_middle.trans ?_;rw[List.take_append_drop];refine(h.cons w).trans ?_;exact(List.perm_append_singleton w vs).symm
theorem EE:∀ {l ws vs:List Str},ws.Perm vs->(iA ws l).Perm (cY vs l)
 | [],_,_,h=>h
 |w::l,ws,vs,h=>by rw[aCR,UX];exact EE (l:=l) (aDb h w)
theorem aTv{ws:List Str}{w:Str}:ws.length<=(ordW ws w).length/\(ordW ws w).length<=ws.length+1:=by
 have h:=(aDb (List.Perm.refl ws) w).length_eq;have:=aOr (ws:=ws) (w:=w);omega
theorem aPK{l ws:List Str}:ws.length<=(iA ws l).length:=by
 have h:=(EE (l:=l) (List.Perm.refl ws)).length_eq;have:=(aDN (l:=l) (ws:=ws)).1;omega
theorem aTq{l:List Str}(h:pK l):l.Pairwise fun x y=>leX x y=true:=h.imp fun h=>aQC h
theorem aPs{l m:List Str}(hl:pK l)(h:m.Perm l):m.mergeSort leX=l:=by
 refine((List.mergeSort_perm m leX).trans h).eq_of_pairwise (fun x y _ _ h1 h2=>aDK h1 h2) ?_ (aTq hl);exact List.pairwise_mergeSort O7 OC _
def endL(c m:Str)(ends:List Str):List Str:=ends.map fun e=>c++m++e
def midL(c:Str)(mids ends:List Str):List Str:=mids.flatMap fun m=>endL c m ends
def covL(cov mids ends:List Str):List Str:=cov.flatMap fun c=>midL c mids ends
def optF(f:Str->List Str->Bool×List Str):List Str->List Str->Option (List Str)
 | [],o=>some o
 |w::l,o=>if(f w o).1=true then optF f l (f w o).2 else none
def run3(f:Str->List Str->Bool×List Str)(ws:List Str):Nat->Nat->List Str->Bool×Nat×List Str
 |0,q,o=>(true,q,o)
 |j+1,q,o=>if(f (ws.getD q []) o).1=true then run3 f ws j (q+1) (f (ws.getD q []) o).2 else(false,q,(f (ws.getD q []) o).2)
theorem SM{f:Str->List Str->Bool×List Str}{ws:List Str}:∀(j q:Nat) (o:List Str),q+j=ws.length->optF f (ws.drop q) o=if(run3 f ws j q o).1=true then some (run3 f ws j q o).2.2 else none
 |0,q,o,h=>by
  obtain rfl:q=ws.length:=om;rw[Bt];rfl
 |j+1,q,o,h=>by
  have hq:q<ws.length:=om
  have e:ws.drop q=ws.getD q []::ws.drop (q+1):=by
   rw[Dq hq,Aa,Ad hq];rfl
  rw[e];unfold optF run3
  by_cases hf:(f (ws.getD q []) o).1=true
  ·rw[if_pos hf,if_pos hf,SM j (q+1) _ om]
  ·rw[if_neg hf,if_neg hf,if_neg Bool.false_ne_true]
theorem C9{f:Str->List Str->Bool×List Str}{ws:List Str}{j q:Nat}{o:List Str}(h:(f (ws.getD q []) o).1=true):run3 f ws (j+1) q o=run3 f ws j (q+1) (f (ws.getD q []) o).2:=if_pos h
theorem IT{f:Str->List Str->Bool×List Str}{ws:List Str}{j q:Nat}{o:List Str}(h:(f (ws.getD q []) o).1=false):run3 f ws (j+1) q o=(false,q,(f (ws.getD q []) o).2):=if_neg (by rw[h];exact Bool.false_ne_true)
theorem IS{f:Str->List Str->Bool×List Str}{g:Str->List Str}{ins:List Str->List Str->List Str}(h0:∀o,ins o []=o)(happ:∀o l m,ins o (l++m)=ins (ins o l) m)(hle:∀o l,o.length<=(ins o l).length)
  (hf:∀w o,o.length<=3000->if 3000<(ins o (g w)).length then(f w o).1=false else f w o=(true,ins o (g w))):∀(ws o:List Str),o.length<=3000->optF f ws o=if 3000<(ins o (ws.flatMap g)).length then none else some (ins o (ws.flatMap g))
 | [],o,h=>by
  rw[List.flatMap_nil,h0,if_neg om];rfl
 |w::ws,o,h=>by
  have hw:=hf w o h;rw[List.flatMap_cons,happ];unfold optF
  by_cases hc:3000<(ins o (g w)).length
  ·rw[if_pos hc]at hw;rw[hw,if_neg Bool.false_ne_true,if_pos];have:=hle (ins o (g w)) (ws.flatMap g);omega
  ·rw[if_neg hc]at hw;rw[hw,if_pos rfl];exact IS h0 happ hle hf ws _ (Nat.le_of_not_lt hc)
theorem aAC{f:Str->List Str->Bool×List Str}{ws o z:List Str}(h:optF f ws o=if 3000<z.length then none else some z):if 3000<z.length then(run3 f ws ws.length 0 o).1=false else((run3 f ws ws.length 0 o).1,(run3 f ws ws.length 0 o).2.2)=(true,z):=by
 have e:=SM (f:=f) (ws:=ws) ws.length 0 o om;rw[Ay,h]at e
 by_cases hc:3000<z.length
 ·rw[if_pos hc]at e|-
  cases hb:(run3 f ws ws.length 0 o).1 with
  |false=>rfl
  |true=>rw[hb,if_pos rfl]at e;cases e
 ·rw[if_neg hc]at e|-
  cases hb:(run3 f ws ws.length 0 o).1 with
  |false=>rw[hb,if_neg Bool.false_ne_true]at e;cases e
  |true=>rw[hb,if_pos rfl]at e;injection e with e;rw[e]
def midF(c:Str)(ends:List Str)(m:Str)(o:List Str):Bool×List Str:=(!decide (3000<(cY o (endL c m ends)).length),cY o (endL c m ends))
def covF(mids ends:List Str)(c:Str)(o:List Str):Bool×List Str:=((run3 (midF c ends) mids mids.length 0 o).1,(run3 (midF c ends) mids mids.length 0 o).2.2)
def endS(c m:Str)(e:Str)(o:List Str):Bool×List Str:=(!decide (3000<(ordW o (c++m++e)).length),ordW o (c++m++e))
def midZ(c:Str)(ends:List Str)(m:Str)(o:List Str):Bool×List Str:=((run3 (endS c m) ends ends.length 0 o).1,(run3 (endS c m) ends ends.length 0 o).2.2)
def covZ(mids ends:List Str)(c:Str)(o:List Str):Bool×List Str:=((run3 (midZ c ends) mids mids.length 0 o).1,(run3 (midZ c ends) mids mids.length 0 o).2.2)
theorem aOQ{cov mids ends:List Str}:optF (covF mids ends) cov []=if 3000<(cY [] (covL cov mids ends)).length then none else some (cY [] (covL cov mids ends)):=by
 have ok:(∀o,cY o []=o)/\(∀o l m,cY o (l++m)=cY (cY o l) m)/\∀o l,o.length<=(cY o l).length:=⟨fun _=>rfl,fun _ _ _=>aRn,fun _ _=>aDN.1⟩
 refine IS ok.1 ok.2.1 ok.2.2 (fun c o ho=>aAC (IS ok.1 ok.2.1 ok.2.2 (fun m o ho=> ?_) mids o ho)) cov [] smp;unfold midF
 split<;>simp[*]
theorem aUT{cov mids ends:List Str}:optF (covZ mids ends) cov []=if 3000<(iA [] (covL cov mids ends)).length then none else some (iA [] (covL cov mids ends)):=by
 have ok:(∀o,iA o []=o)/\(∀o l m,iA o (l++m)=iA (iA o l) m)/\∀o l,o.length<=(iA o l).length:=⟨fun _=>rfl,fun _ _ _=>aQk,fun _ _=>aPK⟩
 refine IS ok.1 ok.2.1 ok.2.2 (fun c o ho=>aAC (IS ok.1 ok.2.1 ok.2.2 (fun m o ho=>aAC ?_) mids o ho)) cov [] smp
 have e:endL c m ends=ends.flatMap fun e=>[c++m++e]:=by unfold endL;induction ends with
  |nil=>rfl
  |cons x l ih=>simp only[Ai,List.flatMap_cons,ih,Dl]
 rw[e];refine IS ok.1 ok.2.1 ok.2.2 (fun e o ho=> ?_) ends o ho;have e1:iA o [c++m++e]=ordW o (c++m++e):=rfl;unfold endS;rw[e1]
 split<;>rename_i hc<;>simp only[hc,decide_true,decide_false,Bool.not_true,Bool.not_false]
def tL(cov mids ends:List Str):Option (List Str):=if 3000<(iA [] (covL cov mids ends)).length then none else some (iA [] (covL cov mids ends))
theorem aPl{cov mids ends:List Str}:(optF (covF mids ends) cov []).map (fun ws=>ws.mergeSort leX)=tL cov mids ends:=by
 rw[aOQ];unfold tL;have hp:=EE (l:=covL cov mids ends) (List.Perm.refl []);rw[hp.length_eq]
 split
 ·rfl
 ·rw[Az,aPs (PZ List.Pairwise.nil) hp.symm]
theorem aQT{cov mids ends l:List Str}(h:tL cov mids ends=some l)(x:Str):x∈l↔∃c∈cov,∃m∈mids,∃e∈ends,x=c++m++e:=by
 unfold tL at h
 split at h
 ·cases h
 ·cases h;rw[(EE (l:=covL cov mids ends) (List.Perm.refl [])).mem_iff,YW]
  simp only[Bu,false_or,covL,midL,endL,Eb,Bd]
  constructor
  ·rintro⟨c,hc,m,hm,e,he,rfl⟩;exact⟨c,hc,m,hm,e,he,rfl⟩
  ·rintro⟨c,hc,m,hm,e,he,rfl⟩;exact⟨c,hc,m,hm,e,he,rfl⟩
theorem aSJ{cov mids ends l:List Str}(h:tL cov mids ends=some l):pK l/\l.length<=3000:=by
 unfold tL at h
 split at h
 ·cases h
 ·cases h;exact⟨PZ List.Pairwise.nil,by omega⟩
theorem aSA{a:Aut}{W:Nat->List Int}(hB:Bfs (goS a) (aB a.al) a.nx.length (ordA a).length [] (ordA a) W):∀(c i:Nat),i<=c->i<(ordA a).length->(W i).length<=i:=by
 intro c
 induction c with
 |zero=>
  intro i hi _;obtain rfl:i=0:=om;rw[hB.w0];simp
 |succ c ih=>
  intro i hi hl
  rcases Df i with rfl|h0
  ·rw[hB.w0];simp
  ·obtain⟨p,l,hp,_,e,_⟩:=hB.pre i h0 hl;have:=ih p om om;rw[e,Af]
   simp;omega
theorem aVj{al:Int}(ha:cP al=true){w:List Int}(hw:∀l∈w,l∈aB al)(hl:w.length<=50000):dX al (txt w)=true/\dQ (txt w)=true:=by
 have key:∀b∈txt w,okB b=true/\cN al (ltr b)=true:=by
  intro b hb;obtain⟨l,hlm,rfl⟩:=Bd.1 hb;have hb:=cE l (hw l hlm);have h2:=(gO.1 (hw l hlm)).2;unfold okB;rw[YS hb.1 hb.2,h2];simp[eZ];omega
 have hlen:(txt w).length=w.length:=by unfold txt;rw[Am]
 constructor
 ·unfold dX;simp only[As,decide_eq_true_eq,Bk];refine⟨⟨ha,by omega⟩,fun b hb=> ?_⟩;unfold inB;rw[(key b hb).1,(key b hb).2];rfl
 ·unfold dQ;simp only[As,decide_eq_true_eq,Bk];exact⟨by omega,fun b hb=>(key b hb).1⟩
theorem aK1{a:Aut}:∀(w:List Int) (q:Int),(∀l∈w,l∈aB a.al)->stGo a.al a.nx (txt w) q=w.foldl (goS a) q
 | [],_,_=>rfl
 |l::w,q,h=>by
  have hb:=cE l (h l Bf);show stGo a.al a.nx (txt w) (goI a.al a.nx q (ltr (cM l)))=_;rw[YS hb.1 hb.2,aK1 w _ fun m hm=>h m (Bb _ hm)];rfl
structure CovOK(a:Aut)(l:List Str):Prop where
 len:l.length=(a7 a).nx.length
 pos:0<l.length
 big:l.length<=12
 first:l.getD 0 []=[]
 acc:∀i,i<l.length->∃u,txt u=l.getD i []/\accG a (zJ a.al a.nx a.ac (l.getD i []))=(u,true)
 ok:∀i,i<l.length->dQ (l.getD i [])=true
 short:∀i,i<l.length->(l.getD i []).length<=4294967295
 asc:∀i,i+1<l.length->cmpX (l.getD i []) (l.getD (i+1) [])<0
section
variable{R:Type}{L n:Nat}
def sepJ(a:Aut)(i:Int):Nat->Nat->List Str->List Str
 |0,_,o=>o
 |q+1,j,o=>if(jR a i j).2=true/\txt (jR a i j).1∉o then sepJ a i q (j+1) (o++[txt (jR a i j).1])else sepJ a i q (j+1) o
def sepA(a:Aut):Nat->Nat->List Str->List Str
 |0,_,o=>o
 |q+1,i,o=>sepA a q (i+1) (sepJ a i (a.nx.length-(i+1)) (i+1) o)
def sepW(a:Aut):List Str:=sepA a a.nx.length 0 [[]]
theorem LS{a:Aut}{i:Int}:∀(q j:Nat) (o:List Str),o.length<=(sepJ a i q j o).length/\(sepJ a i q j o).length<=o.length+q
 |0,_,o=>⟨Ab _,Ab _⟩
 |q+1,j,o=>by
  unfold sepJ
  split
  ·have:=LS (a:=a) (i:=i) q (j+1) (o++[txt (jR a i j).1]);simp at this|-;omega
  ·have:=LS (a:=a) (i:=i) q (j+1) o;omega
theorem aKA{a:Aut}:∀(q i:Nat) (o:List Str),o.length<=(sepA a q i o).length/\(sepA a q i o).length<=o.length+q*a.nx.length
 |0,_,o=>by simp[sepA]
 |q+1,i,o=>by
  unfold sepA;have h1:=LS (a:=a) (i:=i) (a.nx.length-(i+1)) (i+1) o;have h2:=aKA (a:=a) q (i+1) (sepJ a i (a.nx.length-(i+1)) (i+1) o);rw[Nat.succ_mul];omega
theorem UT{a:Aut}(h:AOK a):1<=(sepW a).length/\(sepW a).length<=145:=by
 obtain⟨_,_,h1,h2,_⟩:=aR h;have:=aKA (a:=a) a.nx.length 0 [[]];have hm:a.nx.length*a.nx.length<=12*12:=Nat.mul_le_mul h2 h2;unfold sepW;simp only[Ae,Ac]at this;omega
theorem LF(hn:12<=n)(hL:2^60<=L){a:Aut}(ha:AOK a){i:Nat}(hi:i<a.nx.length){k:KE R}:∀(q j m:Nat) (o:List Str) (len:Nat) (hq:j+q=a.nx.length) (hm:q<m) (hlen:len=o.length) (ho:o.length+q<=100000),
  aT env (aA env L n) L 0 [] Bz42 (iC 1) (U1 (Z4 (Z1 (U32 (U8 (U1 ([]))))))) m (Y1 (.ptr 0 0 0::.d .nils::.sl 1 0 0 len::nI i::nI j::Y32 (Y8 (Y1 ([]))))) [.box [nI a.al,.d (.ivs a.nx.length (aE a.nx)),.d (.ivs a.ac.length (aD a.ac))],.arr (aM o) 1 0] k
  =k (.exit 2) (Y1 (.ptr 0 0 0::.d .nils::.sl 1 0 0 (sepJ a i q j o).length::nI i::nI (a.nx.length)::Y32 (Y8 (Y1 ([]))))) [.box [nI a.al,.d (.ivs a.nx.length (aE a.nx)),.d (.ivs a.ac.length (aD a.ac))],.arr (aM (sepJ a i q j o)) 1 0]:=by
 obtain⟨sa,wa,a1,a2,a3⟩:=aR ha;have hac:a.ac.length<=4294967296:=om;intro q
 induction q with
 |zero=>
  intro j m o len hq hm hlen ho;obtain _|m:=m;omega;obtain rfl:j=a.nx.length:=om;subst hlen
  simp-implicitDefEqProofs (maxSteps:=9^7) (disch:=try exact Dz) only[↓DN,↓kRet,UP,simprocAttr,Ah,iJ,gB,Tryz.f65]<;>rfl
 |succ q ih=>
  intro j m o len hq hm hlen ho;obtain _|m:=m;omega;subst hlen;have hc:(j:Int)<a.nx.length:=om;have kc_s:=@aC5 L a i j sa hac hL;have hal:=sa.1;simp only[sepJ];generalize jR a i j=r at *;obtain⟨w,b⟩:=r;simp only at kc_s|-;have kl_i:=@aPv L o (txt w) om hL
  cases b with
  |false=>
   have ih':=ih (j+1) m o o.length om om rfl om;rw[cs1 j]at ih';rw[if_neg fun h=>by cases h.1];clear ih
   simp-implicitDefEqProofs (maxSteps:=9^7) (disch:=try exact Dz) only[↓DN,↓kRet,UP,simprocAttr,hc,↓kc_s,↓ih',iJ,gB,Tryz.f65]
  |true=>
   by_cases h:txt w∈o
   ·have ih':=ih (j+1) m o o.length om om rfl om;rw[cs1 j]at ih';rw[if_neg fun h2=>h2.2 h];rw[decide_eq_true h]at kl_i;clear ih
    simp-implicitDefEqProofs (maxSteps:=9^7) (disch:=try exact Dz) only[↓DN,↓kRet,UP,simprocAttr,↓aAk,SE,hc,↓kc_s,↓kl_i,↓ih',iJ,gB,Tryz.f65]
   ·have ih':=ih (j+1) m (o++[txt w]) (o.length+1) om om smp (by simp;omega);rw[cs1 j]at ih';rw[if_pos ⟨rfl,h⟩];rw[decide_eq_false h]at kl_i;clear ih
    simp-implicitDefEqProofs (maxSteps:=9^7) (disch:=try exact Dz) only[↓DN,↓kRet,UP,simprocAttr,↓aAk,SE,hc,↓kc_s,↓kl_i,mN,↓ih',iJ,gB,Tryz.f65]
theorem MI(hn:12<=n)(hL:2^60<=L){a:Aut}(ha:AOK a){k:KE R}:∀(q i m:Nat) (o:List Str) (len:Nat) (hq:i+q=a.nx.length) (hm:q<m) (hlen:len=o.length) (ho:o.length+q*12<=10000),
  aT env (aA env L n) L 0 [] Bz42 (iC 0) (U1 (Z4 (U32 (U8 (U2 ([])))))) m (Y1 (.ptr 0 0 0::.d .nils::.sl 1 0 0 len::nI i::Y32 (Y8 (Y2 ([]))))) [.box [nI a.al,.d (.ivs a.nx.length (aE a.nx)),.d (.ivs a.ac.length (aD a.ac))],.arr (aM o) 1 0] k
  =k (.exit 0) (Y1 (.ptr 0 0 0::.d .nils::.sl 1 0 0 (sepA a q i o).length::nI (a.nx.length)::Y32 (Y8 (Y2 ([]))))) [.box [nI a.al,.d (.ivs a.nx.length (aE a.nx)),.d (.ivs a.ac.length (aD a.ac))],.arr (aM (sepA a q i o)) 1 0]:=by
 obtain⟨sa,wa,a1,a2,a3⟩:=aR ha;intro q
 induction q with
 |zero=>
  intro i m o len hq hm hlen ho;obtain _|m:=m;omega;obtain rfl:i=a.nx.length:=om;subst hlen
  simp-implicitDefEqProofs (maxSteps:=9^7) (disch:=try exact Dz) only[↓DN,↓kRet,UP,simprocAttr,Ah,uG,oU,Tryz.f65]<;>rfl
 |succ q ih=>
  intro i m o len hq hm hlen ho;obtain _|m:=m;omega;subst hlen;have hc:(i:Int)<a.nx.length:=om;have loop_c:=fun {R n k} hn=> @LF R L n hn hL a ha i om k (a.nx.length-(i+1)) (i+1) L o o.length om om rfl om;rw[cs1 i]at loop_c;have hl:=(LS (a:=a) (i:=i) (a.nx.length-(i+1)) (i+1) o).2;have ih':=ih (i+1) m (sepJ a i (a.nx.length-(i+1)) (i+1) o) _ om om rfl om;rw[cs1 i]at ih';simp only[sepA];clear ih;generalize sepJ a i (a.nx.length-(i+1)) (i+1) o=w at *
  simp-implicitDefEqProofs (maxSteps:=9^7) (disch:=try exact Dz) only[↓DN,↓kRet,UP,simprocAttr,hc,↓loop_c,↓ih',uG,oU,Tryz.f65]
def sepR(a:Aut):List Str:=if cD a.al a.nx a.ac=true then sepW a else []
theorem AP(hn:13<=n)(a:Aut)(hs:aW a.nx)(hac:a.ac.length<=4294967296)(hL:2^60<=L):aA env L n 65 [.agg [nI a.al,.d (.ivs a.nx.length (aE a.nx)),.d (.ivs a.ac.length (aD a.ac))]] []=some (.d (.ivs (sepR a).length (aM (sepR a))),[]):=by
 have hrl:=hs.1;unfold sepR
 cases hv:cD a.al a.nx a.ac with
 |false=>
  simp only[Ak,if_false,Ac,kW];obtain _|n:=n;omega
  simp-implicitDefEqProofs (maxSteps:=9^7) (disch:=try exact Dz) only[↓DN,↓kAsg,↓kRet,UP,simprocAttr,↓bA,hv,A5,rR,Tryz.f65]
 |true=>
  obtain⟨sa,wa,a1,a2,a3⟩:=aR hv;have loop_c:=fun {R n k} hn=> @MI R L n hn hL a hv k a.nx.length 0 L [[]] 1 om om rfl (by simp;omega);have e:aM [[]]=[.str []]:=rfl;have e2:sepA a a.nx.length 0 [[]]=sepW a:=rfl;rw[e,e2]at loop_c;have hl:=UT hv;simp only[if_true,Ao]at loop_c|-;generalize sepW a=w at *;have e4:(aM w).take w.length=aM w:=iD (Ab _);obtain _|n:=n;omega
  simp-implicitDefEqProofs (maxSteps:=9^7) (disch:=try exact Dz) only[↓DN,↓kAsg,↓kRet,UP,simprocAttr,↓bA,SE,hv,e4,↓loop_c,A5,rR,Tryz.f65]
theorem SZ:type_of% fun {L} a hs hac hL=>ks fun hn=> @AP L _ hn a hs hac hL:=fun {L} a hs hac hL=>ks fun hn=> @AP L _ hn a hs hac hL
theorem KI(hn:9<=n)(hL:2^60<=L){a:Aut}(ha:AOK a){i:Nat}(hi:i<a.nx.length){k:KE R}:∀(q j m:Nat) (o:List Str) (len:Nat) (hq:j+q=a.nx.length) (hm:q<m) (hlen:len=o.length) (ho:o.length+q<=100000),
  aT env (aA env L n) L 0 [] Bz18 (gX 1) (U1 (Z4 (Z1 (U8 (Z2 (U16 (U8 (U4 (U2 (U1 ([]))))))))))) m (Y1 (.ptr 0 0 0::.d .nils::.sl 1 0 0 len::nI i::nI j::Y8 (nI (a.nx.length)::nI i::Y16 (Y8 (Y4 (Y2 (Y1 ([])))))))) [.box [nI a.al,.d (.ivs a.nx.length (aE a.nx)),.d (.ivs a.ac.length (aD a.ac))],.arr (aM o) 1 0] k
  =k (.exit 2) (Y1 (.ptr 0 0 0::.d .nils::.sl 1 0 0 (sepJ a i q j o).length::nI i::nI (a.nx.length)::Y8 (nI (a.nx.length)::nI i::Y16 (Y8 (Y4 (Y2 (Y1 ([])))))))) [.box [nI a.al,.d (.ivs a.nx.length (aE a.nx)),.d (.ivs a.ac.length (aD a.ac))],.arr (aM (sepJ a i q j o)) 1 0]:=by
 obtain⟨sa,wa,a1,a2,a3⟩:=aR ha;have hac:a.ac.length<=4294967296:=om;intro q
 induction q with
 |zero=>
  intro j m o len hq hm hlen ho;obtain _|m:=m;omega;obtain rfl:j=a.nx.length:=om;subst hlen
  simp-implicitDefEqProofs (maxSteps:=9^7) (disch:=try exact Dz) only[↓DN,↓kRet,UP,simprocAttr,Ah,gW,gK,Tryz.f25]<;>rfl
 |succ q ih=>
  intro j m o len hq hm hlen ho;obtain _|m:=m;omega;subst hlen;have hc:(j:Int)<a.nx.length:=om;have kc_s:=@aEb L a i j sa hac hL;have hal:=sa.1;simp only[sepJ];generalize jR a i j=r at *;obtain⟨w,b⟩:=r;simp only at kc_s|-;have kl_i:=@x7 L o (txt w) om hL
  cases b with
  |false=>
   have ih':=ih (j+1) m o o.length om om rfl om;rw[cs1 j]at ih';rw[if_neg fun h=>by cases h.1];clear ih
   simp-implicitDefEqProofs (maxSteps:=9^7) (disch:=try exact Dz) only[↓DN,↓kRet,UP,simprocAttr,hc,↓kc_s,↓ih',gW,gK,Tryz.f25]
  |true=>
   by_cases h:txt w∈o
   ·have ih':=ih (j+1) m o o.length om om rfl om;rw[cs1 j]at ih';rw[if_neg fun h2=>h2.2 h];rw[decide_eq_true h]at kl_i;clear ih
    simp-implicitDefEqProofs (maxSteps:=9^7) (disch:=try exact Dz) only[↓DN,↓kRet,UP,simprocAttr,↓kG,SE,hc,↓kc_s,↓kl_i,↓ih',gW,gK,Tryz.f25]
   ·have ih':=ih (j+1) m (o++[txt w]) (o.length+1) om om smp (by simp;omega);rw[cs1 j]at ih';rw[if_pos ⟨rfl,h⟩];rw[decide_eq_false h]at kl_i;clear ih
    simp-implicitDefEqProofs (maxSteps:=9^7) (disch:=try exact Dz) only[↓DN,↓kRet,UP,simprocAttr,↓kG,SE,hc,↓kc_s,↓kl_i,mN,↓ih',gW,gK,Tryz.f25]
theorem LE(hn:9<=n)(hL:2^60<=L){a:Aut}(ha:AOK a){k:KE R}:∀(q i m:Nat) (o:List Str) (len:Nat) (hq:i+q=a.nx.length) (hm:q<m) (hlen:len=o.length) (ho:o.length+q*12<=10000),
  aT env (aA env L n) L 0 [] Bz18 (gX 0) (U1 (Z2 (Z1 (U8 (U2 (Z2 (U16 (U8 (U4 (U2 (U1 ([])))))))))))) m (Y1 (.ptr 0 0 0::.d .nils::.sl 1 0 0 len::Y8 (Y2 (nI (a.nx.length)::nI i::Y16 (Y8 (Y4 (Y2 (Y1 ([]))))))))) [.box [nI a.al,.d (.ivs a.nx.length (aE a.nx)),.d (.ivs a.ac.length (aD a.ac))],.arr (aM o) 1 0] k
  =k (.exit 0) (Y1 (.ptr 0 0 0::.d .nils::.sl 1 0 0 (sepA a q i o).length::Y8 (Y2 (nI (a.nx.length)::nI (a.nx.length)::Y16 (Y8 (Y4 (Y2 (Y1 ([]))))))))) [.box [nI a.al,.d (.ivs a.nx.length (aE a.nx)),.d (.ivs a.ac.length (aD a.ac))],.arr (aM (sepA a q i o)) 1 0]:=by
 obtain⟨sa,wa,a1,a2,a3⟩:=aR ha;intro q
 induction q with
 |zero=>
  intro i m o len hq hm hlen ho;obtain _|m:=m;omega;obtain rfl:i=a.nx.length:=om;subst hlen
  simp-implicitDefEqProofs (maxSteps:=9^7) (disch:=try exact Dz) only[↓DN,↓kRet,UP,simprocAttr,Ah,tR,oX,Tryz.f25]<;>rfl
 |succ q ih=>
  intro i m o len hq hm hlen ho;obtain _|m:=m;omega;subst hlen;have hc:(i:Int)<a.nx.length:=om;have loop_c:=fun {R n k} hn=> @KI R L n hn hL a ha i om k (a.nx.length-(i+1)) (i+1) L o o.length om om rfl om;rw[cs1 i]at loop_c;have hl:=(LS (a:=a) (i:=i) (a.nx.length-(i+1)) (i+1) o).2;have ih':=ih (i+1) m (sepJ a i (a.nx.length-(i+1)) (i+1) o) _ om om rfl om;rw[cs1 i]at ih';simp only[sepA];clear ih;generalize sepJ a i (a.nx.length-(i+1)) (i+1) o=w at *
  simp-implicitDefEqProofs (maxSteps:=9^7) (disch:=try exact Dz) only[↓DN,↓kRet,UP,simprocAttr,hc,↓loop_c,↓ih',tR,oX,Tryz.f25]
theorem TR(hn:10<=n)(a:Aut)(hv:AOK a)(hL:2^60<=L):aA env L n 25 [.agg [nI a.al,.d (.ivs a.nx.length (aE a.nx)),.d (.ivs a.ac.length (aD a.ac))]] []=some (.sl 0 0 0 (sepW a).length,[.arr (aM (sepW a)) 1 0]):=by
  obtain⟨sa,wa,a1,a2,a3⟩:=aR hv;have hrl:=sa.1;have hac:a.ac.length<=4294967296:=om;have loop_c:=fun {R n k} hn=> @LE R L n hn hL a hv k a.nx.length 0 L [[]] 1 om om rfl (by simp;omega);have e:aM [[]]=[.str []]:=rfl;have e2:sepA a a.nx.length 0 [[]]=sepW a:=rfl;rw[e,e2]at loop_c;have hl:=UT hv;unfold AOK at hv;simp only[Ao]at loop_c|-;generalize sepW a=w at *;obtain _|n:=n;omega
  simp-implicitDefEqProofs (maxSteps:=9^7) (disch:=try exact Dz) only[↓DN,↓kAsg,↓kRet,UP,simprocAttr,↓bB,hv,↓loop_c,TN,CJ,Tryz.f25]
end
section
theorem aAp{α:Type}{p q:α->Bool}:∀ {l:List α},(∀x∈l,p x=true->q x=true)->l.countP p=l.countP q->∀x∈l,q x=true->p x=true
 | [],_,_,x,hx,_=>by cases hx
 |a::l,h,he,x,hx,hq=>by
  have hle:=List.countP_mono_left (l:=l) (p:=p) (q:=q) fun y hy=>h y (Bb _ hy);rw[Ef,Ef]at he;have ha:=h a Bf
  cases hpa:p a with
  |true=>
   rw[hpa,ha hpa]at he;have he2:l.countP p=l.countP q:=by simpa using he
   rcases Au.1 hx with rfl|hx
   ·exact hpa
   ·exact aAp (fun y hy=>h y (Bb _ hy)) he2 x hx hq
  |false=>
   cases hqa:q a with
   |true=>
    rw[hpa,hqa]at he;simp at he;omega
   |false=>
    rw[hpa,hqa]at he;have he2:l.countP p=l.countP q:=by simpa using he
    rcases Au.1 hx with rfl|hx
    ·rw[hqa]at hq;cases hq
    ·exact aAp (fun y hy=>h y (Bb _ hy)) he2 x hx hq
section
variable(go:Int->Int->Int)(ls:List Int)(acc:Int->Bool)
def n4(w:List Int)(q:Int):Int:=w.foldl go q
def j6(k:Nat)(i j:Int):Prop:=∀w:List Int,(∀l∈w,l∈ls)->w.length<=k->acc (n4 go w i)=acc (n4 go w j)
variable{go ls acc}
theorem aO3{k:Nat}{i:Int}:j6 go ls acc k i i:=fun _ _ _=>rfl
theorem TL{k:Nat}{i j:Int}(h:j6 go ls acc k i j):j6 go ls acc k j i:=fun w a b=>(h w a b).symm
theorem D4{k:Nat}{i j m:Int}(h:j6 go ls acc k i j)(g:j6 go ls acc k j m):j6 go ls acc k i m:=fun w a b=>(h w a b).trans (g w a b)
theorem TX{k m:Nat}{i j:Int}(h:j6 go ls acc m i j)(hk:k<=m):j6 go ls acc k i j:=fun w a b=>h w a (By b hk)
theorem aGk{k:Nat}{i j:Int}:j6 go ls acc (k+1) i j↔acc i=acc j/\∀l∈ls,j6 go ls acc k (go i l) (go j l):=by
 constructor
 ·intro h;refine⟨h [] smp smp,fun l hl w hw hk=> ?_⟩;exact h (l::w) (by intro x hx;rcases Au.1 hx with rfl|hx;exact hl;exact hw x hx) (by simp;omega)
 ·rintro⟨h1,h2⟩ w hw hk
  cases w with
  |nil=>exact h1
  |cons l w=>exact h2 l (hw l Bf) w (fun x hx=>hw x (Bb _ hx)) (by simp at hk;omega)
variable(go ls acc)
open Classical in
noncomputable def repB(k i:Nat):Bool:=decide (∀j:Nat,j<i->¬j6 go ls acc k (j:Int) (i:Int))
noncomputable def repC(n k:Nat):Nat:=(List.range n).countP (repB go ls acc k)
variable{go ls acc}
theorem TC{k i:Nat}:repB go ls acc k i=true↔∀j:Nat,j<i->¬j6 go ls acc k (j:Int) (i:Int):=by
 unfold repB;simp
theorem aOf{k:Nat}:∀i:Nat,∃r,r<=i/\repB go ls acc k r=true/\j6 go ls acc k (r:Int) (i:Int):=by
 intro i
 induction i using Nat.strongRecOn with
 |ind i ih=>
  by_cases h:∃j:Nat,j<i/\j6 go ls acc k (j:Int) (i:Int)
  ·obtain⟨j,hj,ha⟩:=h;obtain⟨r,hr,h1,h2⟩:=ih j hj;exact⟨r,by omega,h1,D4 h2 ha⟩
  ·refine⟨i,Ab _,TC.2 fun j hj ha=>h ⟨j,hj,ha⟩,aO3⟩
theorem aLx{k i:Nat}(h:repB go ls acc k i=true):repB go ls acc (k+1) i=true:=by
 rw[TC]at h|-;exact fun j hj ha=>h j hj (TX ha om)
theorem aWJ{n k:Nat}:repC go ls acc n k<=repC go ls acc n (k+1):=List.countP_mono_left fun _ _ h=>aLx h
theorem aPm{n k:Nat}(he:repC go ls acc n k=repC go ls acc n (k+1)){i j:Nat}(hi:i<n)(hj:j<n)(h:j6 go ls acc k (i:Int) (j:Int)):j6 go ls acc (k+1) (i:Int) (j:Int):=by
 have key:=aAp (l:=List.range n) (fun x _ h=>aLx (go:=go) (ls:=ls) (acc:=acc) (k:=k) (i:=x) h) he;obtain⟨r,hr,r1,r2⟩:=aOf (go:=go) (ls:=ls) (acc:=acc) (k:=k+1) i;obtain⟨s,hs,s1,s2⟩:=aOf (go:=go) (ls:=ls) (acc:=acc) (k:=k+1) j;have r3:=key r (Cl.2 om) r1;have s3:=key s (Cl.2 om) s1;rw[TC]at r3 s3;have hrs:j6 go ls acc k (r:Int) (s:Int):=D4 (TX r2 om) (D4 h (TL (TX s2 om)))
 have e:r=s:=by
  rcases Dj r s with h1|h1|h1
  ·exact absurd hrs (s3 r h1)
  ·exact h1
  ·exact absurd (TL hrs) (r3 s h1)
 subst e;exact D4 (TL r2) s2
theorem aUC{n:Nat}:∀k:Nat,(∀m,m<k->repC go ls acc n m≠repC go ls acc n (m+1))->repC go ls acc n 0+k<=repC go ls acc n k
 |0,_=>Ab _
 |k+1,h=>by
  have h1:=aUC (n:=n) k fun m hm=>h m om;have h2:=aWJ (go:=go) (ls:=ls) (acc:=acc) (n:=n) (k:=k);have h3:=h k om;omega
theorem aNk{n:Nat}(hgo:∀q l:Int,0<=q->q<n->l∈ls->0<=go q l/\go q l<n){i j:Int}(hi:0<=i/\i<n)(hj:0<=j/\j<n){w:List Int}(hw:∀l∈w,l∈ls)(hd:acc (n4 go w i)≠acc (n4 go w j)):
  ∃v:List Int,(∀l∈v,l∈ls)/\v.length<n/\acc (n4 go v i)≠acc (n4 go v j):=by
 have hn:1<=n:=om
 have hle:∀k,repC go ls acc n k<=n:=fun k=>by
  have:=List.countP_le_length (p:=repB go ls acc k) (l:=List.range n)
  simpa [repC]using this
 have h0:1<=repC go ls acc n 0:=by
  unfold repC;rw[Nat.succ_le_iff,List.countP_pos_iff];exact⟨0,Cl.2 om,TC.2 fun j hj=>by omega⟩
 obtain⟨k,hk,he⟩:∃k,k<n/\repC go ls acc n k=repC go ls acc n (k+1):=by
  apply Ec;intro hc;have:=aUC (go:=go) (ls:=ls) (acc:=acc) (n:=n) n fun m hm he=>hc ⟨m,hm,he⟩;have:=hle n;omega
 have stay:∀d:Nat,∀a b:Nat,a<n->b<n->j6 go ls acc k (a:Int) (b:Int)->j6 go ls acc (k+d) (a:Int) (b:Int):=by
  intro d
  induction d with
  |zero=>intro a b _ _ h;exact h
  |succ d ih=>
   intro a b ha hb h;have h1:=aPm he ha hb h;rw[aGk]at h1;rw[show k+(d+1)=(k+d)+1 by omega,aGk];refine⟨h1.1,fun l hl=> ?_⟩;have ga:=hgo a l om om hl;have gb:=hgo b l om om hl
   have:=ih (go a l).toNat (go b l).toNat om om (by
    rw[Bp ga.1,Bp gb.1];exact h1.2 l hl)
   rwa [Bp ga.1,Bp gb.1]at this
 apply Ec;intro hc
 have hal:j6 go ls acc k ((i.toNat:Nat):Int) ((j.toNat:Nat):Int):=by
  intro v hv hvl;rw[Bp hi.1,Bp hj.1];apply Ec;intro h;exact hc ⟨v,hv,by omega,h⟩
 have:=stay w.length i.toNat j.toNat om om hal w hw om;rw[Bp hi.1,Bp hj.1]at this;exact hd this
end
end
def goA(a:Aut)(q l:Int):Int:=goI a.al a.nx q l
def accA(a:Aut)(q:Int):Bool:=a.ac.getD q.toNat false
theorem I8{a:Aut}(h:AOK a):∀q l:Int,0<=q->q<a.nx.length->l∈aB a.al->0<=goA a q l/\goA a q l<a.nx.length:=by
 intro q l h0 h1 hl;have:=cE l hl;exact oY h h0 h1 this.1 om
theorem MJ{a:Aut}(h:AOK a):∀(w:List Int) (q:Int),(∀l∈w,l∈aB a.al)->0<=q->q<a.nx.length->0<=n4 (goA a) w q/\n4 (goA a) w q<a.nx.length
 | [],q,_,h0,h1=>⟨h0,h1⟩
 |l::w,q,hw,h0,h1=>by
  have hg:=I8 h q l h0 h1 (hw l Bf);exact MJ h w _ (fun x hx=>hw x (Bb _ hx)) hg.1 hg.2
theorem AG{x y n:Int}(hn:0<n)(hx:0<=x)(hy:0<=y)(hy2:y<n):(x*n+y).tdiv n=x/\(x*n+y).tmod n=y:=by
 have h0:0<=x*n+y:=by
  have:=Int.mul_nonneg hx (Int.le_of_lt hn);omega
 rw[Er h0,Es h0,Int.add_comm,Int.add_mul_ediv_right _ _ om,Int.add_mul_emod_self_right,Int.ediv_eq_zero_of_lt hy hy2,Int.emod_eq_of_lt hy hy2];omega
theorem TB{a:Aut}(h:AOK a):∀(w:List Int) (i j u:Int),0<=i->i<a.nx.length->0<=j->j<a.nx.length->
  (Path (nxT a a) (aB a.al) (i*a.nx.length+j) w u↔(∀l∈w,l∈aB a.al)/\u=n4 (goA a) w i*a.nx.length+n4 (goA a) w j)
 | [],i,j,u,_,_,_,_=>by
  simp only[Path,n4,List.foldl_nil]
  constructor
  ·rintro rfl;exact⟨by simp,rfl⟩
  ·rintro⟨_,rfl⟩;rfl
 |l::w,i,j,u,i0,i1,j0,j1=>by
  obtain⟨e1,e2⟩:=AG (n:=(a.nx.length:Int)) om i0 j0 j1;simp only[Path,nxT,e1,e2,Bh,exists_eq_left]
  constructor
  ·rintro⟨hl,hp⟩;have gi:=I8 h i l i0 i1 hl;have gj:=I8 h j l j0 j1 hl;obtain⟨h1,h2⟩:=(TB h w (goA a i l) (goA a j l) u gi.1 gi.2 gj.1 gj.2).1 hp;refine⟨?_,h2⟩;intro x hx
   rcases Au.1 hx with rfl|hx
   ·exact hl
   ·exact h1 x hx
  ·rintro⟨hw,hu⟩;have hl:=hw l Bf;have gi:=I8 h i l i0 i1 hl;have gj:=I8 h j l j0 j1 hl;exact⟨hl,(TB h w (goA a i l) (goA a j l) u gi.1 gi.2 gj.1 gj.2).2 ⟨fun x hx=>hw x (Bb _ hx),hu⟩⟩
def aQd(a:Aut)(i j:Int)(w:List Int):Prop:=(∀l∈w,l∈aB a.al)/\accA a (n4 (goA a) w i)≠accA a (n4 (goA a) w j)
theorem aSM{a:Aut}(h:AOK a){i j:Int}(hi:0<=i/\i<a.nx.length)(hj:0<=j/\j<a.nx.length)(w:List Int):
  Hits (nxT a a) (aB a.al) [i*a.nx.length+j] (glT (fun x y=>x !=y) a a) w↔aQd a i j w:=by
 unfold Hits sL aQd;simp only[Bh,exists_eq_left]
 constructor
 ·rintro⟨u,hp,hg⟩;obtain⟨h1,rfl⟩:=(TB h w i j u hi.1 hi.2 hj.1 hj.2).1 hp;have ri:=MJ h w i h1 hi.1 hi.2;have rj:=MJ h w j h1 hj.1 hj.2;obtain⟨e1,e2⟩:=AG (n:=(a.nx.length:Int)) om ri.1 rj.1 rj.2;refine⟨h1,?_⟩;unfold glT at hg;rw[e1,e2]at hg
  simpa [accA]using hg
 ·rintro⟨h1,h2⟩;have ri:=MJ h w i h1 hi.1 hi.2;have rj:=MJ h w j h1 hj.1 hj.2;obtain⟨e1,e2⟩:=AG (n:=(a.nx.length:Int)) om ri.1 rj.1 rj.2;refine⟨_,(TB h w i j _ hi.1 hi.2 hj.1 hj.2).2 ⟨h1,rfl⟩,?_⟩;unfold glT;rw[e1,e2]
  simpa [accA]using h2
theorem aQ9{a:Aut}(h:AOK a){i j:Int}(hi:0<=i/\i<a.nx.length)(hj:0<=j/\j<a.nx.length):D5 (aQd a i j) (jR a i j):=by
 have hok:QF a i j=true:=by
  have h':cD a.al a.nx a.ac=true:=h;unfold QF;rw[h']
  simp;omega
 unfold jR;rw[if_pos hok];refine S1 (aSM h hi hj) ?_;have hs:=DS hi hj
 have hr:∀v c:Int,0<=v->v<((a.nx.length*a.nx.length:Nat):Int)->c∈aB a.al->∀m∈nxT a a v c,0<=m/\m<((a.nx.length*a.nx.length:Nat):Int):=by
  intro v c h0 h1 hc;have:=cE c hc;rw[Cf]at h1|-;exact RW h h h0 h1 om
 refine aA9 (lC _) hr (fun n hn=> ?_) smp;simp only[Bh]at hn;subst hn;rw[Cf];exact hs
theorem aMr{a:Aut}(h:AOK a){i j:Int}(hi:0<=i/\i<a.nx.length)(hj:0<=j/\j<a.nx.length)(h2:(jR a i j).2=true):(jR a i j).1.length<a.nx.length/\∀l∈(jR a i j).1,l∈aB a.al:=by
 rcases aQ9 h hi hj with⟨_,hl⟩|⟨he,_⟩
 ·obtain⟨⟨t1,t2⟩,hmin⟩:=hl;refine⟨?_,t1⟩;obtain⟨v,v1,v2,v3⟩:=aNk (go:=goA a) (ls:=aB a.al) (acc:=accA a) (n:=a.nx.length) (I8 h) hi hj t1 t2;apply Ec;intro hc;exact hmin v ⟨v1,v3⟩ (.inl om)
 ·rw[he]at h2;cases h2
theorem aWl{al:Int}(ha:cP al=true){w:List Int}(hw:∀l∈w,l∈aB al)(hl:w.length<=50000):dX al (txt w)=true:=by
 unfold dX txt;simp only[As,decide_eq_true_eq,Am,Bk,Bd];refine⟨⟨ha,hl⟩,?_⟩;rintro b ⟨l,hlm,rfl⟩;have hb:=cE l (hw l hlm);have h2:=(gO.1 (hw l hlm)).2;unfold inB okB;rw[YS hb.1 hb.2,h2];simp[eZ];omega
def aEB(a:Aut)(o:List Str):Prop:=o.Nodup/\∀w∈o,w.length<a.nx.length/\dX a.al w=true
theorem aHQ{a:Aut}(h:AOK a){i:Nat}(hi:i<a.nx.length):∀(q j:Nat) (o:List Str),j+q=a.nx.length->aEB a o->aEB a (sepJ a i q j o)
 |0,_,o,_,ho=>ho
 |q+1,j,o,hj,ho=>by
  unfold sepJ
  split
  ·rename_i hc
   refine aHQ h hi q (j+1) _ om ⟨?_,fun w hw=> ?_⟩
   ·rw[Dh];refine⟨ho.1,by simp,fun x hx y hy=> ?_⟩;simp only[Bh]at hy;subst hy;rintro rfl;exact hc.2 hx
   ·rcases Ap.1 hw with hw|hw
    ·exact ho.2 w hw
    ·simp only[Bh]at hw;subst hw;obtain⟨_,_,_,a2,_⟩:=aR h;obtain⟨s1,s2⟩:=aMr h (i:=i) (j:=j) om om hc.1;exact⟨by simpa [txt]using s1,aWl (gA h).2.2.2 s2 om⟩
  ·exact aHQ h hi q (j+1) o om ho
theorem aOA{a:Aut}(h:AOK a):∀(q i:Nat) (o:List Str),i+q=a.nx.length->aEB a o->aEB a (sepA a q i o)
 |0,_,o,_,ho=>ho
 |q+1,i,o,hi,ho=>by
  unfold sepA;exact aOA h q (i+1) _ om (aHQ h om _ (i+1) o om ho)
theorem aUR{a:Aut}(h:AOK a):aEB a (sepW a):=by
 obtain⟨a1,_,_,ha⟩:=gA h;refine aOA h _ 0 _ om ⟨by simp,fun w hw=> ?_⟩;simp only[Bh]at hw;subst hw;refine⟨by simp;omega,?_⟩;unfold dX;simp[ha]
def Wk(al:Int)(n:Nat)(w:Str):Prop:=w.length<=n/\∀b∈w,∃l∈aB al,b=cM l
theorem Wk.app{al:Int}{n m:Nat}{u v:Str}(h:Wk al n u)(g:Wk al m v):Wk al (n+m) (u++v):=by
 refine⟨by rw[Af];have:=h.1;have:=g.1;omega,fun b hb=> ?_⟩
 rcases Ap.1 hb with hb|hb
 ·exact h.2 b hb
 ·exact g.2 b hb
theorem Wk.txt{al:Int}{n:Nat}{w:Str}(h:Wk al n w):∃u:List Int,w=Ev.txt u/\(∀l∈u,l∈aB al)/\u.length=w.length:=by
 obtain⟨h1,h2⟩:=h;clear h1
 induction w with
 |nil=>exact⟨[],rfl,by simp,rfl⟩
 |cons b w ih=>
  obtain⟨u,e,hu,hl⟩:=ih fun b hb=>h2 b (Bb _ hb);obtain⟨l,hlm,e2⟩:=h2 b Bf;refine⟨l::u,by rw[e2,e];rfl,fun x hx=> ?_,by simp[hl]⟩
  rcases Au.1 hx with rfl|hx
  ·exact hlm
  ·exact hu x hx
theorem Wk.ok{al:Int}{n:Nat}{w:Str}(ha:cP al=true)(h:Wk al n w)(hn:n<=50000):dX al w=true/\dQ w=true:=by
 obtain⟨u,e,hu,hl⟩:=h.txt;have:=h.1;rw[e];exact aVj ha hu om
theorem aWI{al:Int}{n:Nat}{u:List Int}(hu:∀l∈u,l∈aB al)(hl:u.length<=n):Wk al n (txt u):=by
 refine⟨by unfold txt;rw[Am];exact hl,fun b hb=> ?_⟩;obtain⟨l,hlm,rfl⟩:=Bd.1 hb;exact⟨l,hu l hlm,rfl⟩
theorem aRC{a:Aut}(h:AOK a):∀w∈cL a,Wk a.al (a.nx.length-1) w:=by
 obtain⟨W,hB⟩:=nW h;have hn:=eB hB.nod hB.rng;rw[MZ h hB];intro w hw;obtain⟨i,hi,rfl⟩:=Bd.1 hw;have hi:=Cl.1 hi;have:=aSA hB i i (Ab _) hi;exact aWI (hB.lts i hi) om
theorem aQ1{a:Aut}(h:AOK a):∀w∈sepW a,Wk a.al (a.nx.length-1) w:=by
 intro w hw;obtain⟨h1,h2⟩:=(aUR h).2 w hw;refine⟨by omega,fun b hb=> ?_⟩;unfold dX at h2;simp only[As,decide_eq_true_eq,Bk]at h2;have hb:=h2.2 b hb;unfold inB at hb;simp only[As]at hb;have h3:=hb.1;unfold okB eZ at h3;simp only[decide_eq_true_eq]at h3;refine⟨ltr b,gO.2 ⟨by omega,hb.2⟩,?_⟩;exact aQy.symm
theorem aQ0{al:Int}{k:Nat}:∀w∈midG (aB al) k,Wk al k w:=fun w hw=>aId k w hw
theorem aEz{a:Aut}(h:AOK a){e:Nat}{c m w:Str}(hc:c∈cL a)(hm:m∈midG (aB a.al) (e+1))(hw:w∈sepW a):Wk a.al (2*a.nx.length+e) (c++m++w):=by
 obtain⟨_,_,a1,_,_⟩:=aR h;have:=((aRC h c hc).app (aQ0 m hm)).app (aQ1 h w hw);exact⟨by have:=this.1;omega,this.2⟩
end Ev
end Go.Proofs.YthlkcebdfbjdoaaGreatDoor
