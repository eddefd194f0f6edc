/-
  Test suites: plain laws. What the program gathers in a map and sorts at the end is what the reference keeps sorted.
-/
import Derived.Test.YtppffbehejpglaaGreatShlx
import Derived.Test.YtppffbehejpglaaGreatMemS
import Derived.Test.YtppffbehejpglaaGreatNetV
import Derived.Test.YtppffbehejpglaaGreatTrimL
import Derived.Test.YtppffbehejpglaaGreatWordAt
import Derived.Test.YtppffbehejpglaaGreatEvDef
set_option linter.unusedSimpArgs false
set_option linter.unusedVariables false
set_option linter.unusedSectionVars false
set_option maxRecDepth 8000
set_option maxHeartbeats 4000000
namespace Go.Proofs.YtppffbehejpglaaGreat
namespace Ev
def chG(ls:List Int)(w:Str):List Str:=ls.map fun l=>w++[cN l]
def lvG(ls:List Int):Nat->List Str
 |0=>[[]]
 |k+1=>(lvG ls k).flatMap (chG ls)
def midG(ls:List Int):Nat->List Str
 |0=>[[]]
 |k+1=>midG ls k++lvG ls (k+1)
theorem aMl{ls:List Int}{w:Str}:(chG ls w).length=ls.length:=by simp[chG]
theorem YX{ls:List Int}:∀k,(lvG ls k).length=ls.length^k
 |0=>rfl
 |k+1=>by
  have e:∀l:List Str,(l.flatMap (chG ls)).length=l.length*ls.length:=by
   intro l
   induction l with
   |nil=>simp
   |cons a l ih=>rw[List.flatMap_cons,Af,ih,aMl,Ae,Cd];omega
  show((lvG ls k).flatMap (chG ls)).length=_;rw[e,YX k,Nat.pow_succ]
theorem IN{ls:List Int}:∀k,∀w∈lvG ls k,w.length=k/\∀b∈w,∃l∈ls,b=cN l
 |0,w,h=>by
  obtain rfl:w=[]:=by simpa [lvG]using h
  exact⟨rfl,by simp⟩
 |k+1,w,h=>by
  obtain⟨v,hv,hw⟩:=Eb.1 h;obtain⟨l,hl,rfl⟩:=Bf.1 hw;obtain⟨h1,h2⟩:=IN k v hv;refine⟨by simp[h1],fun b hb=> ?_⟩
  rcases Am.1 hb with hb|hb
  ·exact h2 b hb
  ·exact⟨l,hl,by simpa using hb⟩
theorem aHk{ls:List Int}:∀k,∀w∈midG ls k,w.length<=k/\∀b∈w,∃l∈ls,b=cN l
 |0,w,h=>by
  obtain rfl:w=[]:=by simpa [midG]using h
  exact⟨Ab _,by simp⟩
 |k+1,w,h=>by
  rcases Am.1 h with h|h
  ·obtain⟨h1,h2⟩:=aHk k w h;exact⟨by omega,h2⟩
  ·obtain⟨h1,h2⟩:=IN (k+1) w h;exact⟨by omega,h2⟩
theorem aNX{ls:List Int}:∀k,∃p,midG ls k=p++lvG ls k
 |0=>⟨[],rfl⟩
 |k+1=>⟨midG ls k,rfl⟩
theorem FZ{ls:List Int}(hl:ls.length<=6):∀k,k<=3->(midG ls k).length<=259:=by
 have h1:ls.length^1<=6^1:=Nat.pow_le_pow_left hl 1;have h2:ls.length^2<=6^2:=Nat.pow_le_pow_left hl 2;have h3:ls.length^3<=6^3:=Nat.pow_le_pow_left hl 3;intro k hk
 rcases(show k=0\/k=1\/k=2\/k=3 by omega)with rfl|rfl|rfl|rfl
 ·simp[midG]
 ·simp only[midG,Af,YX,Cu,Ag];omega
 ·simp only[midG,Af,YX,Cu,Ag,Nat.reduceAdd];omega
 ·simp only[midG,Af,YX,Cu,Ag,Nat.reduceAdd];omega
def insW(ws:List Str)(w:Str):List Str:=if w∈ws then ws else ws++[w]
def c7(ws l:List Str):List Str:=l.foldl insW ws
def bC(ws:List Str)(w:Str):Nat:=ws.countP fun x=>decide (cmpX x w<0)
def ordW(ws:List Str)(w:Str):List Str:=if w∈ws then ws else ws.take (bC ws w)++w::ws.drop (bC ws w)
def gJ(ws l:List Str):List Str:=l.foldl ordW ws
def oI(ws:List Str):Prop:=ws.Pairwise fun x y=>cmpX x y<0
theorem aO4{ws:List Str}:c7 ws []=ws:=rfl
theorem P8{ws l:List Str}{w:Str}:c7 ws (w::l)=c7 (insW ws w) l:=rfl
theorem aOi{ws l m:List Str}:c7 ws (l++m)=c7 (c7 ws l) m:=by simp[c7]
theorem aAy{ws l:List Str}{w:Str}:gJ ws (w::l)=gJ (ordW ws w) l:=rfl
theorem aNq{ws l m:List Str}:gJ ws (l++m)=gJ (gJ ws l) m:=by simp[gJ]
theorem aMs{ws:List Str}{w:Str}:ws.length<=(insW ws w).length/\(insW ws w).length<=ws.length+1:=by
 unfold insW;split<;>simp
theorem aBj:∀ {l ws:List Str},ws.length<=(c7 ws l).length/\(c7 ws l).length<=ws.length+l.length
 | [],ws=>⟨Ab _,Ab _⟩
 |w::l,ws=>by
  have h1:=aMs (ws:=ws) (w:=w);have h2:=aBj (l:=l) (ws:=insW ws w);rw[P8,Ae];omega
theorem aJa{ws:List Str}{w x:Str}:x∈insW ws w↔x∈ws\/x=w:=by
 unfold insW
 split
 ·rename_i h
  exact⟨.inl,fun h2=>h2.elim (fun h=>h) fun h2=>by rw[h2];exact h⟩
 ·simp
theorem UO{x:Str}:∀ {l ws:List Str},x∈c7 ws l↔x∈ws\/x∈l
 | [],ws=>by simp[aO4]
 |w::l,ws=>by
  rw[P8,UO,aJa,Av]
  constructor
  ·rintro((h|h)|h)
   ·exact .inl h
   ·exact .inr (.inl h)
   ·exact .inr (.inr h)
  ·rintro(h|h|h)
   ·exact .inl (.inl h)
   ·exact .inl (.inr h)
   ·exact .inr h
theorem xJ:∀ {ws:List Str} (_:oI ws) (w:Str) (i:Nat) (h:i<ws.length),cmpX ws[i] w<0↔i<bC ws w
 | [],_,_,_,h=>by simp at h
 |a::ws,hs,w,i,h=>by
  obtain⟨h1,h2⟩:=List.pairwise_cons.1 hs;unfold bC;rw[Ed]
  by_cases ha:cmpX a w<0
  ·rw[if_pos (by simpa using ha)]
   cases i with
   |zero=>simp[ha]
   |succ i=>
    have:=xJ h2 w i (by simpa using h);unfold bC at this;rw[List.getElem_cons_succ,this];omega
  ·have h0:bC ws w=0:=by
    unfold bC;rw[List.countP_eq_zero];intro x hx;have:=h1 x hx;simp only[decide_eq_true_eq];exact fun h3=>ha (sP this h3)
   rw[if_neg (by simpa using ha)];unfold bC at h0;rw[h0]
   cases i with
   |zero=>simpa using ha
   |succ i=>
    rw[List.getElem_cons_succ];have:=h1 (ws[i]'(by simpa using h)) (At _)
    constructor
    ·intro h3;exact(ha (sP this h3)).elim
    ·intro h3;omega
theorem aFP{ws:List Str}{w:Str}:bC ws w<=ws.length:=List.countP_le_length
theorem aOu{ws:List Str}(hs:oI ws)(w:Str):(bC ws w<ws.length/\ws.getD (bC ws w) []=w)↔w∈ws:=by
 constructor
 ·rintro⟨h1,h2⟩;rw[Aa,Ad h1]at h2;have h2:ws[bC ws w]=w:=h2;rw[<-h2];exact At _
 ·intro hm;obtain⟨i,hi,rfl⟩:=Cb hm;have h1:¬i<bC ws ws[i]:=fun h=>GY _ ((xJ hs _ i hi).2 h)
  have h2:¬bC ws ws[i]<i:=fun h=>by
   have h3:=List.pairwise_iff_getElem.1 hs (bC ws ws[i]) i om hi h;have:=(xJ hs ws[i] (bC ws ws[i]) om).1 h3;omega
  have e:bC ws ws[i]=i:=om;refine⟨by omega,?_⟩;rw[e,Aa,Ad hi];rfl
theorem aF4{ws:List Str}(hs:oI ws)(w:Str):oI (ordW ws w):=by
 unfold ordW
 split
 ·exact hs
 ·rename_i hn
  have lt1:∀x∈ws.take (bC ws w),cmpX x w<0:=by
   intro x hx;obtain⟨i,hi,rfl⟩:=Cb hx;rw[Bk]at hi;rw[List.getElem_take];exact(xJ hs w i om).2 om
  have lt2:∀x∈ws.drop (bC ws w),cmpX w x<0:=by
   intro x hx;obtain⟨i,hi,rfl⟩:=Cb hx;rw[Cf]at hi;rw[List.getElem_drop]
   have h1:¬cmpX ws[bC ws w+i] w<0:=fun h=>by
    have:=(xJ hs w (bC ws w+i) om).1 h;omega
   rcases N1 w ws[bC ws w+i]with h|h|h
   ·exact(hn (by rw[h];exact At _)).elim
   ·exact h
   ·exact(h1 h).elim
  unfold oI;rw[List.pairwise_append];refine⟨hs.sublist (List.take_sublist _ _),List.pairwise_cons.2 ⟨lt2,hs.sublist (List.drop_sublist _ _)⟩,fun x hx y hy=> ?_⟩
  rcases Av.1 hy with rfl|hy
  ·exact lt1 x hx
  ·exact sP (lt1 x hx) (lt2 y hy)
theorem M9:∀ {l ws:List Str},oI ws->oI (gJ ws l)
 | [],_,h=>h
 |w::l,ws,h=>by rw[aAy];exact M9 (l:=l) (ws:=ordW ws w) (aF4 h w)
theorem aBb{ws vs:List Str}(h:ws.Perm vs)(w:Str):(ordW ws w).Perm (insW vs w):=by
 unfold ordW insW
 by_cases hm:w∈ws
 ·rw[if_pos hm,if_pos (h.mem_iff.1 hm)];exact h
 ·rw[if_neg hm,if_neg fun h2=>hm (h.mem_iff.2 h2)];refine List.perm_middle.trans ?_;rw[List.take_append_drop];refine(h.cons w).trans ?_;exact(List.perm_append_singleton w vs).symm
theorem B8:∀ {l ws vs:List Str},ws.Perm vs->(gJ ws l).Perm (c7 vs l)
 | [],_,_,h=>h
 |w::l,ws,vs,h=>by rw[aAy,P8];exact B8 (l:=l) (aBb h w)
theorem aQB{ws:List Str}{w:Str}:ws.length<=(ordW ws w).length/\(ordW ws w).length<=ws.length+1:=by
 have h:=(aBb (List.Perm.refl ws) w).length_eq;have:=aMs (ws:=ws) (w:=w);omega
theorem aMR{l ws:List Str}:ws.length<=(gJ ws l).length:=by
 have h:=(B8 (l:=l) (List.Perm.refl ws)).length_eq;have:=(aBj (l:=l) (ws:=ws)).1;omega
theorem aQm{l:List Str}(h:oI l):l.Pairwise fun x y=>leX x y=true:=h.imp fun h=>aPt h
theorem aNj{l m:List Str}(hl:oI l)(h:m.Perm l):m.mergeSort leX=l:=by
 refine((List.mergeSort_perm m leX).trans h).eq_of_pairwise (fun x y _ _ h1 h2=>aBH h1 h2) ?_ (aQm hl);exact List.pairwise_mergeSort KQ K0 _
def endL(c m:Str)(ends:List Str):List Str:=ends.map fun e=>c++m++e
def midL(c:Str)(mids ends:List Str):List Str:=mids.flatMap fun m=>endL c m ends
def covL(cov mids ends:List Str):List Str:=cov.flatMap fun c=>midL c mids ends
def optF(f:Str->List Str->Bool×List Str):List Str->List Str->Option (List Str)
 | [],o=>some o
 |w::l,o=>if(f w o).1=true then optF f l (f w o).2 else none
def run3(f:Str->List Str->Bool×List Str)(ws:List Str):Nat->Nat->List Str->Bool×Nat×List Str
 |0,q,o=>(true,q,o)
 |j+1,q,o=>if(f (ws.getD q []) o).1=true then run3 f ws j (q+1) (f (ws.getD q []) o).2 else(false,q,(f (ws.getD q []) o).2)
theorem QC{f:Str->List Str->Bool×List Str}{ws:List Str}:∀(j q:Nat) (o:List Str),q+j=ws.length->optF f (ws.drop q) o=if(run3 f ws j q o).1=true then some (run3 f ws j q o).2.2 else none
 |0,q,o,h=>by
  obtain rfl:q=ws.length:=om;rw[Bw];rfl
 |j+1,q,o,h=>by
  have hq:q<ws.length:=om
  have e:ws.drop q=ws.getD q []::ws.drop (q+1):=by
   rw[Df hq,Aa,Ad hq];rfl
  rw[e];unfold optF run3
  by_cases hf:(f (ws.getD q []) o).1=true
  ·rw[if_pos hf,if_pos hf,QC j (q+1) _ om]
  ·rw[if_neg hf,if_neg hf,if_neg Bool.false_ne_true]
theorem BI{f:Str->List Str->Bool×List Str}{ws:List Str}{j q:Nat}{o:List Str}(h:(f (ws.getD q []) o).1=true):run3 f ws (j+1) q o=run3 f ws j (q+1) (f (ws.getD q []) o).2:=if_pos h
theorem GW{f:Str->List Str->Bool×List Str}{ws:List Str}{j q:Nat}{o:List Str}(h:(f (ws.getD q []) o).1=false):run3 f ws (j+1) q o=(false,q,(f (ws.getD q []) o).2):=if_neg (by rw[h];exact Bool.false_ne_true)
theorem GO{f:Str->List Str->Bool×List Str}{g:Str->List Str}{ins:List Str->List Str->List Str}(h0:∀o,ins o []=o)(happ:∀o l m,ins o (l++m)=ins (ins o l) m)(hle:∀o l,o.length<=(ins o l).length)
  (hf:∀w o,o.length<=3000->if 3000<(ins o (g w)).length then(f w o).1=false else f w o=(true,ins o (g w))):∀(ws o:List Str),o.length<=3000->optF f ws o=if 3000<(ins o (ws.flatMap g)).length then none else some (ins o (ws.flatMap g))
 | [],o,h=>by
  rw[List.flatMap_nil,h0,if_neg om];rfl
 |w::ws,o,h=>by
  have hw:=hf w o h;rw[List.flatMap_cons,happ];unfold optF
  by_cases hc:3000<(ins o (g w)).length
  ·rw[if_pos hc]at hw;rw[hw,if_neg Bool.false_ne_true,if_pos];have:=hle (ins o (g w)) (ws.flatMap g);omega
  ·rw[if_neg hc]at hw;rw[hw,if_pos rfl];exact GO h0 happ hle hf ws _ (Nat.le_of_not_lt hc)
theorem XS{f:Str->List Str->Bool×List Str}{ws o z:List Str}(h:optF f ws o=if 3000<z.length then none else some z):if 3000<z.length then(run3 f ws ws.length 0 o).1=false else((run3 f ws ws.length 0 o).1,(run3 f ws ws.length 0 o).2.2)=(true,z):=by
 have e:=QC (f:=f) (ws:=ws) ws.length 0 o om;rw[Ba,h]at e
 by_cases hc:3000<z.length
 ·rw[if_pos hc]at e|-
  cases hb:(run3 f ws ws.length 0 o).1 with
  |false=>rfl
  |true=>rw[hb,if_pos rfl]at e;cases e
 ·rw[if_neg hc]at e|-
  cases hb:(run3 f ws ws.length 0 o).1 with
  |false=>rw[hb,if_neg Bool.false_ne_true]at e;cases e
  |true=>rw[hb,if_pos rfl]at e;injection e with e;rw[e]
def midF(c:Str)(ends:List Str)(m:Str)(o:List Str):Bool×List Str:=(!decide (3000<(c7 o (endL c m ends)).length),c7 o (endL c m ends))
def covF(mids ends:List Str)(c:Str)(o:List Str):Bool×List Str:=((run3 (midF c ends) mids mids.length 0 o).1,(run3 (midF c ends) mids mids.length 0 o).2.2)
def endS(c m:Str)(e:Str)(o:List Str):Bool×List Str:=(!decide (3000<(ordW o (c++m++e)).length),ordW o (c++m++e))
def midZ(c:Str)(ends:List Str)(m:Str)(o:List Str):Bool×List Str:=((run3 (endS c m) ends ends.length 0 o).1,(run3 (endS c m) ends ends.length 0 o).2.2)
def covZ(mids ends:List Str)(c:Str)(o:List Str):Bool×List Str:=((run3 (midZ c ends) mids mids.length 0 o).1,(run3 (midZ c ends) mids mids.length 0 o).2.2)
theorem aLU{cov mids ends:List Str}:optF (covF mids ends) cov []=if 3000<(c7 [] (covL cov mids ends)).length then none else some (c7 [] (covL cov mids ends)):=by
 have ok:(∀o,c7 o []=o)/\(∀o l m,c7 o (l++m)=c7 (c7 o l) m)/\∀o l,o.length<=(c7 o l).length:=⟨fun _=>rfl,fun _ _ _=>aOi,fun _ _=>aBj.1⟩
 refine GO ok.1 ok.2.1 ok.2.2 (fun c o ho=>XS (GO ok.1 ok.2.1 ok.2.2 (fun m o ho=> ?_) mids o ho)) cov [] sm;unfold midF
 split<;>simp[*]
theorem aSd{cov mids ends:List Str}:optF (covZ mids ends) cov []=if 3000<(gJ [] (covL cov mids ends)).length then none else some (gJ [] (covL cov mids ends)):=by
 have ok:(∀o,gJ o []=o)/\(∀o l m,gJ o (l++m)=gJ (gJ o l) m)/\∀o l,o.length<=(gJ o l).length:=⟨fun _=>rfl,fun _ _ _=>aNq,fun _ _=>aMR⟩
 refine GO ok.1 ok.2.1 ok.2.2 (fun c o ho=>XS (GO ok.1 ok.2.1 ok.2.2 (fun m o ho=>XS ?_) mids o ho)) cov [] sm
 have e:endL c m ends=ends.flatMap fun e=>[c++m++e]:=by unfold endL;induction ends with
  |nil=>rfl
  |cons x l ih=>simp only[Ai,List.flatMap_cons,ih,Ea]
 rw[e];refine GO ok.1 ok.2.1 ok.2.2 (fun e o ho=> ?_) ends o ho;have e1:gJ o [c++m++e]=ordW o (c++m++e):=rfl;unfold endS;rw[e1]
 split<;>rename_i hc<;>simp only[hc,decide_true,decide_false,Bool.not_true,Bool.not_false]
def sB(cov mids ends:List Str):Option (List Str):=if 3000<(gJ [] (covL cov mids ends)).length then none else some (gJ [] (covL cov mids ends))
theorem aMw{cov mids ends:List Str}:(optF (covF mids ends) cov []).map (fun ws=>ws.mergeSort leX)=sB cov mids ends:=by
 rw[aLU];unfold sB;have hp:=B8 (l:=covL cov mids ends) (List.Perm.refl []);rw[hp.length_eq]
 split
 ·rfl
 ·rw[Az,aNj (M9 List.Pairwise.nil) hp.symm]
theorem aN2{cov mids ends l:List Str}(h:sB cov mids ends=some l)(x:Str):x∈l↔∃c∈cov,∃m∈mids,∃e∈ends,x=c++m++e:=by
 unfold sB at h
 split at h
 ·cases h
 ·cases h;rw[(B8 (l:=covL cov mids ends) (List.Perm.refl [])).mem_iff,UO]
  simp only[Br,false_or,covL,midL,endL,Eb,Bf]
  constructor
  ·rintro⟨c,hc,m,hm,e,he,rfl⟩;exact⟨c,hc,m,hm,e,he,rfl⟩
  ·rintro⟨c,hc,m,hm,e,he,rfl⟩;exact⟨c,hc,m,hm,e,he,rfl⟩
theorem aQY{cov mids ends l:List Str}(h:sB cov mids ends=some l):oI l/\l.length<=3000:=by
 unfold sB at h
 split at h
 ·cases h
 ·cases h;exact⟨M9 List.Pairwise.nil,by omega⟩
theorem xO{n:Nat}{W:Nat->List Int}{i:Nat}(hi:i<n):((List.range n).map fun q=>txt (W q)).getD i []=txt (W i):=by
 rw[Aa,Bd,List.getElem?_range hi];rfl
theorem aJ1{a:Aut}{W:Nat->List Int}(hB:Bfs (goS a) (aB a.al) a.nx.length (ordA a).length [] (ordA a) W):∀(c i:Nat),i<=c->i<(ordA a).length->(W i).length<=i:=by
 intro c
 induction c with
 |zero=>
  intro i hi _;obtain rfl:i=0:=om;rw[hB.w0];simp
 |succ c ih=>
  intro i hi hl
  rcases Cr i with rfl|h0
  ·rw[hB.w0];simp
  ·obtain⟨p,l,hp,_,e,_⟩:=hB.pre i h0 hl;have:=ih p om om;rw[e,Af]
   simp;omega
theorem aFD{al:Int}(ha:cQ al=true){w:List Int}(hw:∀l∈w,l∈aB al)(hl:w.length<=50000):dU al (txt w)=true/\dQ (txt w)=true:=by
 have key:∀b∈txt w,okB b=true/\cO al (ltr b)=true:=by
  intro b hb;obtain⟨l,hlm,rfl⟩:=Bf.1 hb;have hb:=cK l (hw l hlm);have h2:=(jB.1 (hw l hlm)).2;unfold okB;rw[WI hb.1 hb.2,h2];simp[eV];omega
 have hlen:(txt w).length=w.length:=by unfold txt;rw[Ao]
 constructor
 ·unfold dU;simp only[As,decide_eq_true_eq,Bg];refine⟨⟨ha,by omega⟩,fun b hb=> ?_⟩;unfold inB;rw[(key b hb).1,(key b hb).2];rfl
 ·unfold dQ;simp only[As,decide_eq_true_eq,Bg];exact⟨by omega,fun b hb=>(key b hb).1⟩
theorem aJ6{a:Aut}:∀(w:List Int) (q:Int),(∀l∈w,l∈aB a.al)->stGo a.al a.nx (txt w) q=w.foldl (goS a) q
 | [],_,_=>rfl
 |l::w,q,h=>by
  have hb:=cK l (h l Bi);show stGo a.al a.nx (txt w) (goI a.al a.nx q (ltr (cN l)))=_;rw[WI hb.1 hb.2,aJ6 w _ fun m hm=>h m (Be _ hm)];rfl
structure CovOK(a:Aut)(l:List Str):Prop where
 len:l.length=(bO a).nx.length
 pos:0<l.length
 big:l.length<=12
 first:l.getD 0 []=[]
 acc:∀i,i<l.length->∃u,txt u=l.getD i []/\accG a (pK a.al a.nx a.ac (l.getD i []))=(u,true)
 ok:∀i,i<l.length->dQ (l.getD i [])=true
 short:∀i,i<l.length->(l.getD i []).length<=4294967295
 asc:∀i,i+1<l.length->cmpX (l.getD i []) (l.getD (i+1) [])<0
theorem aQJ{a:Aut}(h:AOK a):CovOK a (cH a):=by
 obtain⟨W,hB⟩:=tZ h;obtain⟨a1,a2,a3,ha⟩:=fW h;have hn:=iF hB.nod hB.rng;have hp:=hB.pos;rw[D5 h hB];have hl:((List.range (ordA a).length).map fun q=>txt (W q)).length=(ordA a).length:=by rw[Ao,Dg]
 have hw:∀i,i<(ordA a).length->(W i).length<=12:=fun i hi=>by have:=aJ1 hB i i (Ab _) hi;omega
 refine⟨?_,by omega,by omega,?_,?_,?_,?_,?_⟩
 ·rw[hl];exact(Ao _).symm
 ·rw[xO hp,hB.w0];rfl
 ·intro i hi;rw[hl]at hi;rw[xO hi];refine⟨W i,rfl,?_⟩
  have hst:pK a.al a.nx a.ac (txt (W i))=(ordA a).getD i 0:=by
   unfold pK;have:=(aFD ha (hB.lts i hi) (by have:=hw i hi;omega)).1;rw[show bX a.al a.nx a.ac=true from h,this,aJ6 _ _ (hB.lts i hi),hB.run i hi];rfl
  rw[hst];unfold accG;rw[if_pos (show bX a.al a.nx a.ac=true from h),HQ h hB hi]
 ·intro i hi;rw[hl]at hi;rw[xO hi];exact(aFD ha (hB.lts i hi) (by have:=hw i hi;omega)).2
 ·intro i hi;rw[hl]at hi;rw[xO hi];have:=hw i hi;unfold txt;rw[Ao];omega
 ·intro i hi;rw[hl]at hi;rw[xO om,xO hi];exact Y3 hB om hi
section
variable{R:Type}{L n:Nat}
def sepJ(a:Aut)(i:Int):Nat->Nat->List Str->List Str
 |0,_,o=>o
 |q+1,j,o=>if(jP a i j).2=true/\txt (jP a i j).1∉o then sepJ a i q (j+1) (o++[txt (jP a i j).1])else sepJ a i q (j+1) o
def sepA(a:Aut):Nat->Nat->List Str->List Str
 |0,_,o=>o
 |q+1,i,o=>sepA a q (i+1) (sepJ a i (a.nx.length-(i+1)) (i+1) o)
def sepW(a:Aut):List Str:=sepA a a.nx.length 0 [[]]
theorem IC{a:Aut}{i:Int}:∀(q j:Nat) (o:List Str),o.length<=(sepJ a i q j o).length/\(sepJ a i q j o).length<=o.length+q
 |0,_,o=>⟨Ab _,Ab _⟩
 |q+1,j,o=>by
  unfold sepJ
  split
  ·have:=IC (a:=a) (i:=i) q (j+1) (o++[txt (jP a i j).1]);simp at this|-;omega
  ·have:=IC (a:=a) (i:=i) q (j+1) o;omega
theorem aJf{a:Aut}:∀(q i:Nat) (o:List Str),o.length<=(sepA a q i o).length/\(sepA a q i o).length<=o.length+q*a.nx.length
 |0,_,o=>by simp[sepA]
 |q+1,i,o=>by
  unfold sepA;have h1:=IC (a:=a) (i:=i) (a.nx.length-(i+1)) (i+1) o;have h2:=aJf (a:=a) q (i+1) (sepJ a i (a.nx.length-(i+1)) (i+1) o);rw[Nat.succ_mul];omega
theorem Q5{a:Aut}(h:AOK a):1<=(sepW a).length/\(sepW a).length<=145:=by
 obtain⟨_,_,h1,h2,_⟩:=aV h;have:=aJf (a:=a) a.nx.length 0 [[]];have hm:a.nx.length*a.nx.length<=12*12:=Nat.mul_le_mul h2 h2;unfold sepW;simp only[Ae,Ac]at this;omega
theorem I5(hn:12<=n)(hL:2^60<=L){a:Aut}(ha:AOK a){i:Nat}(hi:i<a.nx.length){k:KE R}:∀(q j m:Nat) (o:List Str) (len:Nat) (hq:j+q=a.nx.length) (hm:q<m) (hlen:len=o.length) (ho:o.length+q<=100000),
  aR env (aA env L n) L 0 [] Bz37 (gT 1) (U1 (Z4 (Z1 (U32 (U8 (U1 ([]))))))) m (Y1 (.ptr 0 0 0::.d .nils::.sl 1 0 0 len::nI i::nI j::Y32 (Y8 (Y1 ([]))))) [.box [nI a.al,.d (.ivs a.nx.length (aG a.nx)),.d (.ivs a.ac.length (aD a.ac))],.arr (aM o) 1 0] k
  =k (.exit 2) (Y1 (.ptr 0 0 0::.d .nils::.sl 1 0 0 (sepJ a i q j o).length::nI i::nI (a.nx.length)::Y32 (Y8 (Y1 ([]))))) [.box [nI a.al,.d (.ivs a.nx.length (aG a.nx)),.d (.ivs a.ac.length (aD a.ac))],.arr (aM (sepJ a i q j o)) 1 0]:=by
 obtain⟨sa,wa,a1,a2,a3⟩:=aV ha;have hac:a.ac.length<=4294967296:=om;intro q
 induction q with
 |zero=>
  intro j m o len hq hm hlen ho;obtain _|m:=m;omega;obtain rfl:j=a.nx.length:=om;subst hlen
  simp-implicitDefEqProofs (maxSteps:=9^7) (disch:=try exact Dz) only[↓DN,↓kRet,UP,simprocAttr,Ah,gW,fT,Tryz.f42]<;>rfl
 |succ q ih=>
  intro j m o len hq hm hlen ho;obtain _|m:=m;omega;subst hlen;have hc:(j:Int)<a.nx.length:=om;have kc_s:=@aBr L a i j sa hac hL;have hal:=sa.1;simp only[sepJ];generalize jP a i j=r at *;obtain⟨w,b⟩:=r;simp only at kc_s|-;have kl_i:=@aNQ L o (txt w) om hL
  cases b with
  |false=>
   have ih':=ih (j+1) m o o.length om om rfl om;rw[cs1 j]at ih';rw[if_neg fun h=>by cases h.1];clear ih
   simp-implicitDefEqProofs (maxSteps:=9^7) (disch:=try exact Dz) only[↓DN,↓kRet,UP,simprocAttr,hc,↓kc_s,↓ih',gW,fT,Tryz.f42]
  |true=>
   by_cases h:txt w∈o
   ·have ih':=ih (j+1) m o o.length om om rfl om;rw[cs1 j]at ih';rw[if_neg fun h2=>h2.2 h];rw[decide_eq_true h]at kl_i;clear ih
    simp-implicitDefEqProofs (maxSteps:=9^7) (disch:=try exact Dz) only[↓DN,↓kRet,UP,simprocAttr,↓UR,SE,hc,↓kc_s,↓kl_i,↓ih',gW,fT,Tryz.f42]
   ·have ih':=ih (j+1) m (o++[txt w]) (o.length+1) om om sm (by simp;omega);rw[cs1 j]at ih';rw[if_pos ⟨rfl,h⟩];rw[decide_eq_false h]at kl_i;clear ih
    simp-implicitDefEqProofs (maxSteps:=9^7) (disch:=try exact Dz) only[↓DN,↓kRet,UP,simprocAttr,↓UR,SE,hc,↓kc_s,↓kl_i,lT,↓ih',gW,fT,Tryz.f42]
theorem JU(hn:12<=n)(hL:2^60<=L){a:Aut}(ha:AOK a){k:KE R}:∀(q i m:Nat) (o:List Str) (len:Nat) (hq:i+q=a.nx.length) (hm:q<m) (hlen:len=o.length) (ho:o.length+q*12<=10000),
  aR env (aA env L n) L 0 [] Bz37 (gT 0) (U1 (Z4 (U32 (U8 (U2 ([])))))) m (Y1 (.ptr 0 0 0::.d .nils::.sl 1 0 0 len::nI i::Y32 (Y8 (Y2 ([]))))) [.box [nI a.al,.d (.ivs a.nx.length (aG a.nx)),.d (.ivs a.ac.length (aD a.ac))],.arr (aM o) 1 0] k
  =k (.exit 0) (Y1 (.ptr 0 0 0::.d .nils::.sl 1 0 0 (sepA a q i o).length::nI (a.nx.length)::Y32 (Y8 (Y2 ([]))))) [.box [nI a.al,.d (.ivs a.nx.length (aG a.nx)),.d (.ivs a.ac.length (aD a.ac))],.arr (aM (sepA a q i o)) 1 0]:=by
 obtain⟨sa,wa,a1,a2,a3⟩:=aV ha;intro q
 induction q with
 |zero=>
  intro i m o len hq hm hlen ho;obtain _|m:=m;omega;obtain rfl:i=a.nx.length:=om;subst hlen
  simp-implicitDefEqProofs (maxSteps:=9^7) (disch:=try exact Dz) only[↓DN,↓kRet,UP,simprocAttr,Ah,sO,nL,Tryz.f42]<;>rfl
 |succ q ih=>
  intro i m o len hq hm hlen ho;obtain _|m:=m;omega;subst hlen;have hc:(i:Int)<a.nx.length:=om;have loop_c:=fun {R n k} hn=> @I5 R L n hn hL a ha i om k (a.nx.length-(i+1)) (i+1) L o o.length om om rfl om;rw[cs1 i]at loop_c;have hl:=(IC (a:=a) (i:=i) (a.nx.length-(i+1)) (i+1) o).2;have ih':=ih (i+1) m (sepJ a i (a.nx.length-(i+1)) (i+1) o) _ om om rfl om;rw[cs1 i]at ih';simp only[sepA];clear ih;generalize sepJ a i (a.nx.length-(i+1)) (i+1) o=w at *
  simp-implicitDefEqProofs (maxSteps:=9^7) (disch:=try exact Dz) only[↓DN,↓kRet,UP,simprocAttr,hc,↓loop_c,↓ih',sO,nL,Tryz.f42]
def sepR(a:Aut):List Str:=if bX a.al a.nx a.ac=true then sepW a else []
theorem AA(hn:13<=n)(a:Aut)(hs:aY a.nx)(hac:a.ac.length<=4294967296)(hL:2^60<=L):aA env L n 42 [.agg [nI a.al,.d (.ivs a.nx.length (aG a.nx)),.d (.ivs a.ac.length (aD a.ac))]] []=some (.d (.ivs (sepR a).length (aM (sepR a))),[]):=by
 have hrl:=hs.1;unfold sepR
 cases hv:bX a.al a.nx a.ac with
 |false=>
  simp only[Ak,if_false,Ac,kM];obtain _|n:=n;omega
  simp-implicitDefEqProofs (maxSteps:=9^7) (disch:=try exact Dz) only[↓DN,↓kAsg,↓kRet,UP,simprocAttr,↓a8,hv,x8,qQ,Tryz.f42]
 |true=>
  obtain⟨sa,wa,a1,a2,a3⟩:=aV hv;have loop_c:=fun {R n k} hn=> @JU R L n hn hL a hv k a.nx.length 0 L [[]] 1 om om rfl (by simp;omega);have e:aM [[]]=[.str []]:=rfl;have e2:sepA a a.nx.length 0 [[]]=sepW a:=rfl;rw[e,e2]at loop_c;have hl:=Q5 hv;simp only[if_true,Aq]at loop_c|-;generalize sepW a=w at *;have e4:(aM w).take w.length=aM w:=gG (Ab _);obtain _|n:=n;omega
  simp-implicitDefEqProofs (maxSteps:=9^7) (disch:=try exact Dz) only[↓DN,↓kAsg,↓kRet,UP,simprocAttr,↓a8,SE,hv,e4,↓loop_c,x8,qQ,Tryz.f42]
theorem PS:type_of% fun {L} a hs hac hL=>ks fun hn=> @AA L _ hn a hs hac hL:=fun {L} a hs hac hL=>ks fun hn=> @AA L _ hn a hs hac hL
theorem JL(hn:9<=n)(hL:2^60<=L){a:Aut}(ha:AOK a){i:Nat}(hi:i<a.nx.length){k:KE R}:∀(q j m:Nat) (o:List Str) (len:Nat) (hq:j+q=a.nx.length) (hm:q<m) (hlen:len=o.length) (ho:o.length+q<=100000),
  aR env (aA env L n) L 0 [] Bz15 (hM 1) (U1 (Z4 (Z1 (U8 (Z2 (U16 (U8 (U4 (U2 (U1 ([]))))))))))) m (Y1 (.ptr 0 0 0::.d .nils::.sl 1 0 0 len::nI i::nI j::Y8 (nI (a.nx.length)::nI i::Y16 (Y8 (Y4 (Y2 (Y1 ([])))))))) [.box [nI a.al,.d (.ivs a.nx.length (aG a.nx)),.d (.ivs a.ac.length (aD a.ac))],.arr (aM o) 1 0] k
  =k (.exit 2) (Y1 (.ptr 0 0 0::.d .nils::.sl 1 0 0 (sepJ a i q j o).length::nI i::nI (a.nx.length)::Y8 (nI (a.nx.length)::nI i::Y16 (Y8 (Y4 (Y2 (Y1 ([])))))))) [.box [nI a.al,.d (.ivs a.nx.length (aG a.nx)),.d (.ivs a.ac.length (aD a.ac))],.arr (aM (sepJ a i q j o)) 1 0]:=by
 obtain⟨sa,wa,a1,a2,a3⟩:=aV ha;have hac:a.ac.length<=4294967296:=om;intro q
 induction q with
 |zero=>
  intro j m o len hq hm hlen ho;obtain _|m:=m;omega;obtain rfl:j=a.nx.length:=om;subst hlen
  simp-implicitDefEqProofs (maxSteps:=9^7) (disch:=try exact Dz) only[↓DN,↓kRet,UP,simprocAttr,Ah,gM,gC,Tryz.f23]<;>rfl
 |succ q ih=>
  intro j m o len hq hm hlen ho;obtain _|m:=m;omega;subst hlen;have hc:(j:Int)<a.nx.length:=om;have kc_s:=@aB7 L a i j sa hac hL;have hal:=sa.1;simp only[sepJ];generalize jP a i j=r at *;obtain⟨w,b⟩:=r;simp only at kc_s|-;have kl_i:=@wU L o (txt w) om hL
  cases b with
  |false=>
   have ih':=ih (j+1) m o o.length om om rfl om;rw[cs1 j]at ih';rw[if_neg fun h=>by cases h.1];clear ih
   simp-implicitDefEqProofs (maxSteps:=9^7) (disch:=try exact Dz) only[↓DN,↓kRet,UP,simprocAttr,hc,↓kc_s,↓ih',gM,gC,Tryz.f23]
  |true=>
   by_cases h:txt w∈o
   ·have ih':=ih (j+1) m o o.length om om rfl om;rw[cs1 j]at ih';rw[if_neg fun h2=>h2.2 h];rw[decide_eq_true h]at kl_i;clear ih
    simp-implicitDefEqProofs (maxSteps:=9^7) (disch:=try exact Dz) only[↓DN,↓kRet,UP,simprocAttr,↓jZ,SE,hc,↓kc_s,↓kl_i,↓ih',gM,gC,Tryz.f23]
   ·have ih':=ih (j+1) m (o++[txt w]) (o.length+1) om om sm (by simp;omega);rw[cs1 j]at ih';rw[if_pos ⟨rfl,h⟩];rw[decide_eq_false h]at kl_i;clear ih
    simp-implicitDefEqProofs (maxSteps:=9^7) (disch:=try exact Dz) only[↓DN,↓kRet,UP,simprocAttr,↓jZ,SE,hc,↓kc_s,↓kl_i,lT,↓ih',gM,gC,Tryz.f23]
theorem HI(hn:9<=n)(hL:2^60<=L){a:Aut}(ha:AOK a){k:KE R}:∀(q i m:Nat) (o:List Str) (len:Nat) (hq:i+q=a.nx.length) (hm:q<m) (hlen:len=o.length) (ho:o.length+q*12<=10000),
  aR env (aA env L n) L 0 [] Bz15 (hM 0) (U1 (Z2 (Z1 (U8 (U2 (Z2 (U16 (U8 (U4 (U2 (U1 ([])))))))))))) m (Y1 (.ptr 0 0 0::.d .nils::.sl 1 0 0 len::Y8 (Y2 (nI (a.nx.length)::nI i::Y16 (Y8 (Y4 (Y2 (Y1 ([]))))))))) [.box [nI a.al,.d (.ivs a.nx.length (aG a.nx)),.d (.ivs a.ac.length (aD a.ac))],.arr (aM o) 1 0] k
  =k (.exit 0) (Y1 (.ptr 0 0 0::.d .nils::.sl 1 0 0 (sepA a q i o).length::Y8 (Y2 (nI (a.nx.length)::nI (a.nx.length)::Y16 (Y8 (Y4 (Y2 (Y1 ([]))))))))) [.box [nI a.al,.d (.ivs a.nx.length (aG a.nx)),.d (.ivs a.ac.length (aD a.ac))],.arr (aM (sepA a q i o)) 1 0]:=by
 obtain⟨sa,wa,a1,a2,a3⟩:=aV ha;intro q
 induction q with
 |zero=>
  intro i m o len hq hm hlen ho;obtain _|m:=m;omega;obtain rfl:i=a.nx.length:=om;subst hlen
  simp-implicitDefEqProofs (maxSteps:=9^7) (disch:=try exact Dz) only[↓DN,↓kRet,UP,simprocAttr,Ah,sS,nP,Tryz.f23]<;>rfl
 |succ q ih=>
  intro i m o len hq hm hlen ho;obtain _|m:=m;omega;subst hlen;have hc:(i:Int)<a.nx.length:=om;have loop_c:=fun {R n k} hn=> @JL R L n hn hL a ha i om k (a.nx.length-(i+1)) (i+1) L o o.length om om rfl om;rw[cs1 i]at loop_c;have hl:=(IC (a:=a) (i:=i) (a.nx.length-(i+1)) (i+1) o).2;have ih':=ih (i+1) m (sepJ a i (a.nx.length-(i+1)) (i+1) o) _ om om rfl om;rw[cs1 i]at ih';simp only[sepA];clear ih;generalize sepJ a i (a.nx.length-(i+1)) (i+1) o=w at *
  simp-implicitDefEqProofs (maxSteps:=9^7) (disch:=try exact Dz) only[↓DN,↓kRet,UP,simprocAttr,hc,↓loop_c,↓ih',sS,nP,Tryz.f23]
theorem QQ(hn:10<=n)(a:Aut)(hv:AOK a)(hL:2^60<=L):aA env L n 23 [.agg [nI a.al,.d (.ivs a.nx.length (aG a.nx)),.d (.ivs a.ac.length (aD a.ac))]] []=some (.sl 0 0 0 (sepW a).length,[.arr (aM (sepW a)) 1 0]):=by
  obtain⟨sa,wa,a1,a2,a3⟩:=aV hv;have hrl:=sa.1;have hac:a.ac.length<=4294967296:=om;have loop_c:=fun {R n k} hn=> @HI R L n hn hL a hv k a.nx.length 0 L [[]] 1 om om rfl (by simp;omega);have e:aM [[]]=[.str []]:=rfl;have e2:sepA a a.nx.length 0 [[]]=sepW a:=rfl;rw[e,e2]at loop_c;have hl:=Q5 hv;unfold AOK at hv;simp only[Aq]at loop_c|-;generalize sepW a=w at *;obtain _|n:=n;omega
  simp-implicitDefEqProofs (maxSteps:=9^7) (disch:=try exact Dz) only[↓DN,↓kAsg,↓kRet,UP,simprocAttr,↓bA,hv,↓loop_c,RG,AS,Tryz.f23]
end
section
theorem UC{α:Type}{p q:α->Bool}:∀ {l:List α},(∀x∈l,p x=true->q x=true)->l.countP p=l.countP q->∀x∈l,q x=true->p x=true
 | [],_,_,x,hx,_=>by cases hx
 |a::l,h,he,x,hx,hq=>by
  have hle:=List.countP_mono_left (l:=l) (p:=p) (q:=q) fun y hy=>h y (Be _ hy);rw[Ed,Ed]at he;have ha:=h a Bi
  cases hpa:p a with
  |true=>
   rw[hpa,ha hpa]at he;have he2:l.countP p=l.countP q:=by simpa using he
   rcases Av.1 hx with rfl|hx
   ·exact hpa
   ·exact UC (fun y hy=>h y (Be _ hy)) he2 x hx hq
  |false=>
   cases hqa:q a with
   |true=>
    rw[hpa,hqa]at he;simp at he;omega
   |false=>
    rw[hpa,hqa]at he;have he2:l.countP p=l.countP q:=by simpa using he
    rcases Av.1 hx with rfl|hx
    ·rw[hqa]at hq;cases hq
    ·exact UC (fun y hy=>h y (Be _ hy)) he2 x hx hq
section
variable(go:Int->Int->Int)(ls:List Int)(acc:Int->Bool)
def nU(w:List Int)(q:Int):Int:=w.foldl go q
def jT(k:Nat)(i j:Int):Prop:=∀w:List Int,(∀l∈w,l∈ls)->w.length<=k->acc (nU go w i)=acc (nU go w j)
variable{go ls acc}
theorem aNK{k:Nat}{i:Int}:jT go ls acc k i i:=fun _ _ _=>rfl
theorem QI{k:Nat}{i j:Int}(h:jT go ls acc k i j):jT go ls acc k j i:=fun w a b=>(h w a b).symm
theorem CA{k:Nat}{i j m:Int}(h:jT go ls acc k i j)(g:jT go ls acc k j m):jT go ls acc k i m:=fun w a b=>(h w a b).trans (g w a b)
theorem P6{k m:Nat}{i j:Int}(h:jT go ls acc m i j)(hk:k<=m):jT go ls acc k i j:=fun w a b=>h w a (By b hk)
theorem aDl{k:Nat}{i j:Int}:jT go ls acc (k+1) i j↔acc i=acc j/\∀l∈ls,jT go ls acc k (go i l) (go j l):=by
 constructor
 ·intro h;refine⟨h [] sm sm,fun l hl w hw hk=> ?_⟩;exact h (l::w) (by intro x hx;rcases Av.1 hx with rfl|hx;exact hl;exact hw x hx) (by simp;omega)
 ·rintro⟨h1,h2⟩ w hw hk
  cases w with
  |nil=>exact h1
  |cons l w=>exact h2 l (hw l Bi) w (fun x hx=>hw x (Be _ hx)) (by simp at hk;omega)
variable(go ls acc)
open Classical in
noncomputable def repB(k i:Nat):Bool:=decide (∀j:Nat,j<i->¬jT go ls acc k (j:Int) (i:Int))
noncomputable def repC(n k:Nat):Nat:=(List.range n).countP (repB go ls acc k)
variable{go ls acc}
theorem RB{k i:Nat}:repB go ls acc k i=true↔∀j:Nat,j<i->¬jT go ls acc k (j:Int) (i:Int):=by
 unfold repB;simp
theorem aLM{k:Nat}:∀i:Nat,∃r,r<=i/\repB go ls acc k r=true/\jT go ls acc k (r:Int) (i:Int):=by
 intro i
 induction i using Nat.strongRecOn with
 |ind i ih=>
  by_cases h:∃j:Nat,j<i/\jT go ls acc k (j:Int) (i:Int)
  ·obtain⟨j,hj,ha⟩:=h;obtain⟨r,hr,h1,h2⟩:=ih j hj;exact⟨r,by omega,h1,CA h2 ha⟩
  ·refine⟨i,Ab _,RB.2 fun j hj ha=>h ⟨j,hj,ha⟩,aNK⟩
theorem aJl{k i:Nat}(h:repB go ls acc k i=true):repB go ls acc (k+1) i=true:=by
 rw[RB]at h|-;exact fun j hj ha=>h j hj (P6 ha om)
theorem aS9{n k:Nat}:repC go ls acc n k<=repC go ls acc n (k+1):=List.countP_mono_left fun _ _ h=>aJl h
theorem aMU{n k:Nat}(he:repC go ls acc n k=repC go ls acc n (k+1)){i j:Nat}(hi:i<n)(hj:j<n)(h:jT go ls acc k (i:Int) (j:Int)):jT go ls acc (k+1) (i:Int) (j:Int):=by
 have key:=UC (l:=List.range n) (fun x _ h=>aJl (go:=go) (ls:=ls) (acc:=acc) (k:=k) (i:=x) h) he;obtain⟨r,hr,r1,r2⟩:=aLM (go:=go) (ls:=ls) (acc:=acc) (k:=k+1) i;obtain⟨s,hs,s1,s2⟩:=aLM (go:=go) (ls:=ls) (acc:=acc) (k:=k+1) j;have r3:=key r (Ch.2 om) r1;have s3:=key s (Ch.2 om) s1;rw[RB]at r3 s3;have hrs:jT go ls acc k (r:Int) (s:Int):=CA (P6 r2 om) (CA h (QI (P6 s2 om)))
 have e:r=s:=by
  rcases Dd r s with h1|h1|h1
  ·exact absurd hrs (s3 r h1)
  ·exact h1
  ·exact absurd (QI hrs) (r3 s h1)
 subst e;exact CA (QI r2) s2
theorem aRn{n:Nat}:∀k:Nat,(∀m,m<k->repC go ls acc n m≠repC go ls acc n (m+1))->repC go ls acc n 0+k<=repC go ls acc n k
 |0,_=>Ab _
 |k+1,h=>by
  have h1:=aRn (n:=n) k fun m hm=>h m om;have h2:=aS9 (go:=go) (ls:=ls) (acc:=acc) (n:=n) (k:=k);have h3:=h k om;omega
theorem aKX{n:Nat}(hgo:∀q l:Int,0<=q->q<n->l∈ls->0<=go q l/\go q l<n){i j:Int}(hi:0<=i/\i<n)(hj:0<=j/\j<n){w:List Int}(hw:∀l∈w,l∈ls)(hd:acc (nU go w i)≠acc (nU go w j)):
  ∃v:List Int,(∀l∈v,l∈ls)/\v.length<n/\acc (nU go v i)≠acc (nU go v j):=by
 have hn:1<=n:=om
 have hle:∀k,repC go ls acc n k<=n:=fun k=>by
  have:=List.countP_le_length (p:=repB go ls acc k) (l:=List.range n)
  simpa [repC]using this
 have h0:1<=repC go ls acc n 0:=by
  unfold repC;rw[Nat.succ_le_iff,List.countP_pos_iff];exact⟨0,Ch.2 om,RB.2 fun j hj=>by omega⟩
 obtain⟨k,hk,he⟩:∃k,k<n/\repC go ls acc n k=repC go ls acc n (k+1):=by
  apply Eg;intro hc;have:=aRn (go:=go) (ls:=ls) (acc:=acc) (n:=n) n fun m hm he=>hc ⟨m,hm,he⟩;have:=hle n;omega
 have stay:∀d:Nat,∀a b:Nat,a<n->b<n->jT go ls acc k (a:Int) (b:Int)->jT go ls acc (k+d) (a:Int) (b:Int):=by
  intro d
  induction d with
  |zero=>intro a b _ _ h;exact h
  |succ d ih=>
   intro a b ha hb h;have h1:=aMU he ha hb h;rw[aDl]at h1;rw[show k+(d+1)=(k+d)+1 by omega,aDl];refine⟨h1.1,fun l hl=> ?_⟩;have ga:=hgo a l om om hl;have gb:=hgo b l om om hl
   have:=ih (go a l).toNat (go b l).toNat om om (by
    rw[Bx ga.1,Bx gb.1];exact h1.2 l hl)
   rwa [Bx ga.1,Bx gb.1]at this
 apply Eg;intro hc
 have hal:jT go ls acc k ((i.toNat:Nat):Int) ((j.toNat:Nat):Int):=by
  intro v hv hvl;rw[Bx hi.1,Bx hj.1];apply Eg;intro h;exact hc ⟨v,hv,by omega,h⟩
 have:=stay w.length i.toNat j.toNat om om hal w hw om;rw[Bx hi.1,Bx hj.1]at this;exact hd this
end
end
def goA(a:Aut)(q l:Int):Int:=goI a.al a.nx q l
def accA(a:Aut)(q:Int):Bool:=a.ac.getD q.toNat false
theorem GP{a:Aut}(h:AOK a):∀q l:Int,0<=q->q<a.nx.length->l∈aB a.al->0<=goA a q l/\goA a q l<a.nx.length:=by
 intro q l h0 h1 hl;have:=cK l hl;exact nV h h0 h1 this.1 om
theorem HL{a:Aut}(h:AOK a):∀(w:List Int) (q:Int),(∀l∈w,l∈aB a.al)->0<=q->q<a.nx.length->0<=nU (goA a) w q/\nU (goA a) w q<a.nx.length
 | [],q,_,h0,h1=>⟨h0,h1⟩
 |l::w,q,hw,h0,h1=>by
  have hg:=GP h q l h0 h1 (hw l Bi);exact HL h w _ (fun x hx=>hw x (Be _ hx)) hg.1 hg.2
theorem P4{x y n:Int}(hn:0<n)(hx:0<=x)(hy:0<=y)(hy2:y<n):(x*n+y).tdiv n=x/\(x*n+y).tmod n=y:=by
 have h0:0<=x*n+y:=by
  have:=Int.mul_nonneg hx (Int.le_of_lt hn);omega
 rw[Ep h0,Eq h0,Int.add_comm,Int.add_mul_ediv_right _ _ om,Int.add_mul_emod_self_right,Int.ediv_eq_zero_of_lt hy hy2,Int.emod_eq_of_lt hy hy2];omega
theorem RL{a:Aut}(h:AOK a):∀(w:List Int) (i j u:Int),0<=i->i<a.nx.length->0<=j->j<a.nx.length->
  (Path (nxT a a) (aB a.al) (i*a.nx.length+j) w u↔(∀l∈w,l∈aB a.al)/\u=nU (goA a) w i*a.nx.length+nU (goA a) w j)
 | [],i,j,u,_,_,_,_=>by
  simp only[Path,nU,List.foldl_nil]
  constructor
  ·rintro rfl;exact⟨by simp,rfl⟩
  ·rintro⟨_,rfl⟩;rfl
 |l::w,i,j,u,i0,i1,j0,j1=>by
  obtain⟨e1,e2⟩:=P4 (n:=(a.nx.length:Int)) om i0 j0 j1;simp only[Path,nxT,e1,e2,Bp,exists_eq_left]
  constructor
  ·rintro⟨hl,hp⟩;have gi:=GP h i l i0 i1 hl;have gj:=GP h j l j0 j1 hl;obtain⟨h1,h2⟩:=(RL h w (goA a i l) (goA a j l) u gi.1 gi.2 gj.1 gj.2).1 hp;refine⟨?_,h2⟩;intro x hx
   rcases Av.1 hx with rfl|hx
   ·exact hl
   ·exact h1 x hx
  ·rintro⟨hw,hu⟩;have hl:=hw l Bi;have gi:=GP h i l i0 i1 hl;have gj:=GP h j l j0 j1 hl;exact⟨hl,(RL h w (goA a i l) (goA a j l) u gi.1 gi.2 gj.1 gj.2).2 ⟨fun x hx=>hw x (Be _ hx),hu⟩⟩
def aNg(a:Aut)(i j:Int)(w:List Int):Prop:=(∀l∈w,l∈aB a.al)/\accA a (nU (goA a) w i)≠accA a (nU (goA a) w j)
theorem aQ1{a:Aut}(h:AOK a){i j:Int}(hi:0<=i/\i<a.nx.length)(hj:0<=j/\j<a.nx.length)(w:List Int):
  Hits (nxT a a) (aB a.al) [i*a.nx.length+j] (glT (fun x y=>x !=y) a a) w↔aNg a i j w:=by
 unfold Hits tE aNg;simp only[Bp,exists_eq_left]
 constructor
 ·rintro⟨u,hp,hg⟩;obtain⟨h1,rfl⟩:=(RL h w i j u hi.1 hi.2 hj.1 hj.2).1 hp;have ri:=HL h w i h1 hi.1 hi.2;have rj:=HL h w j h1 hj.1 hj.2;obtain⟨e1,e2⟩:=P4 (n:=(a.nx.length:Int)) om ri.1 rj.1 rj.2;refine⟨h1,?_⟩;unfold glT at hg;rw[e1,e2]at hg
  simpa [accA]using hg
 ·rintro⟨h1,h2⟩;have ri:=HL h w i h1 hi.1 hi.2;have rj:=HL h w j h1 hj.1 hj.2;obtain⟨e1,e2⟩:=P4 (n:=(a.nx.length:Int)) om ri.1 rj.1 rj.2;refine⟨_,(RL h w i j _ hi.1 hi.2 hj.1 hj.2).2 ⟨h1,rfl⟩,?_⟩;unfold glT;rw[e1,e2]
  simpa [accA]using h2
theorem aPy{a:Aut}(h:AOK a){i j:Int}(hi:0<=i/\i<a.nx.length)(hj:0<=j/\j<a.nx.length):GG (aNg a i j) (jP a i j):=by
 have hok:N3 a i j=true:=by
  have h':bX a.al a.nx a.ac=true:=h;unfold N3;rw[h']
  simp;omega
 unfold jP;rw[if_pos hok];refine aEB (aQ1 h hi hj) ?_;have hs:=G4 hi hj
 have hr:∀v c:Int,0<=v->v<((a.nx.length*a.nx.length:Nat):Int)->c∈aB a.al->∀m∈nxT a a v c,0<=m/\m<((a.nx.length*a.nx.length:Nat):Int):=by
  intro v c h0 h1 hc;have:=cK c hc;rw[Cg]at h1|-;exact YJ h h h0 h1 om
 refine aFp (mH _) hr (fun n hn=> ?_) sm;simp only[Bp]at hn;subst hn;rw[Cg];exact hs
theorem aKc{a:Aut}(h:AOK a){i j:Int}(hi:0<=i/\i<a.nx.length)(hj:0<=j/\j<a.nx.length)(h2:(jP a i j).2=true):(jP a i j).1.length<a.nx.length/\∀l∈(jP a i j).1,l∈aB a.al:=by
 rcases aPy h hi hj with⟨_,hl⟩|⟨he,_⟩
 ·obtain⟨⟨t1,t2⟩,hmin⟩:=hl;refine⟨?_,t1⟩;obtain⟨v,v1,v2,v3⟩:=aKX (go:=goA a) (ls:=aB a.al) (acc:=accA a) (n:=a.nx.length) (GP h) hi hj t1 t2;apply Eg;intro hc;exact hmin v ⟨v1,v3⟩ (.inl om)
 ·rw[he]at h2;cases h2
theorem aTk{al:Int}(ha:cQ al=true){w:List Int}(hw:∀l∈w,l∈aB al)(hl:w.length<=50000):dU al (txt w)=true:=by
 unfold dU txt;simp only[As,decide_eq_true_eq,Ao,Bg,Bf];refine⟨⟨ha,hl⟩,?_⟩;rintro b ⟨l,hlm,rfl⟩;have hb:=cK l (hw l hlm);have h2:=(jB.1 (hw l hlm)).2;unfold inB okB;rw[WI hb.1 hb.2,h2];simp[eV];omega
def aDR(a:Aut)(o:List Str):Prop:=o.Nodup/\∀w∈o,w.length<a.nx.length/\dU a.al w=true
theorem aE8{a:Aut}(h:AOK a){i:Nat}(hi:i<a.nx.length):∀(q j:Nat) (o:List Str),j+q=a.nx.length->aDR a o->aDR a (sepJ a i q j o)
 |0,_,o,_,ho=>ho
 |q+1,j,o,hj,ho=>by
  unfold sepJ
  split
  ·rename_i hc
   refine aE8 h hi q (j+1) _ om ⟨?_,fun w hw=> ?_⟩
   ·rw[Dt];refine⟨ho.1,by simp,fun x hx y hy=> ?_⟩;simp only[Bp]at hy;subst hy;rintro rfl;exact hc.2 hx
   ·rcases Am.1 hw with hw|hw
    ·exact ho.2 w hw
    ·simp only[Bp]at hw;subst hw;obtain⟨_,_,_,a2,_⟩:=aV h;obtain⟨s1,s2⟩:=aKc h (i:=i) (j:=j) om om hc.1;exact⟨by simpa [txt]using s1,aTk (fW h).2.2.2 s2 om⟩
  ·exact aE8 h hi q (j+1) o om ho
theorem aL5{a:Aut}(h:AOK a):∀(q i:Nat) (o:List Str),i+q=a.nx.length->aDR a o->aDR a (sepA a q i o)
 |0,_,o,_,ho=>ho
 |q+1,i,o,hi,ho=>by
  unfold sepA;exact aL5 h q (i+1) _ om (aE8 h om _ (i+1) o om ho)
theorem aSz{a:Aut}(h:AOK a):aDR a (sepW a):=by
 obtain⟨a1,_,_,ha⟩:=fW h;refine aL5 h _ 0 _ om ⟨by simp,fun w hw=> ?_⟩;simp only[Bp]at hw;subst hw;refine⟨by simp;omega,?_⟩;unfold dU;simp[ha]
def Wk(al:Int)(n:Nat)(w:Str):Prop:=w.length<=n/\∀b∈w,∃l∈aB al,b=cN l
theorem Wk.app{al:Int}{n m:Nat}{u v:Str}(h:Wk al n u)(g:Wk al m v):Wk al (n+m) (u++v):=by
 refine⟨by rw[Af];have:=h.1;have:=g.1;omega,fun b hb=> ?_⟩
 rcases Am.1 hb with hb|hb
 ·exact h.2 b hb
 ·exact g.2 b hb
theorem Wk.txt{al:Int}{n:Nat}{w:Str}(h:Wk al n w):∃u:List Int,w=Ev.txt u/\(∀l∈u,l∈aB al)/\u.length=w.length:=by
 obtain⟨h1,h2⟩:=h;clear h1
 induction w with
 |nil=>exact⟨[],rfl,by simp,rfl⟩
 |cons b w ih=>
  obtain⟨u,e,hu,hl⟩:=ih fun b hb=>h2 b (Be _ hb);obtain⟨l,hlm,e2⟩:=h2 b Bi;refine⟨l::u,by rw[e2,e];rfl,fun x hx=> ?_,by simp[hl]⟩
  rcases Av.1 hx with rfl|hx
  ·exact hlm
  ·exact hu x hx
theorem Wk.ok{al:Int}{n:Nat}{w:Str}(ha:cQ al=true)(h:Wk al n w)(hn:n<=50000):dU al w=true/\dQ w=true:=by
 obtain⟨u,e,hu,hl⟩:=h.txt;have:=h.1;rw[e];exact aFD ha hu om
theorem aTd{al:Int}{n:Nat}{u:List Int}(hu:∀l∈u,l∈aB al)(hl:u.length<=n):Wk al n (txt u):=by
 refine⟨by unfold txt;rw[Ao];exact hl,fun b hb=> ?_⟩;obtain⟨l,hlm,rfl⟩:=Bf.1 hb;exact⟨l,hu l hlm,rfl⟩
theorem aPl{a:Aut}(h:AOK a):∀w∈cH a,Wk a.al (a.nx.length-1) w:=by
 obtain⟨W,hB⟩:=tZ h;have hn:=iF hB.nod hB.rng;rw[D5 h hB];intro w hw;obtain⟨i,hi,rfl⟩:=Bf.1 hw;have hi:=Ch.1 hi;have:=aJ1 hB i i (Ab _) hi;exact aTd (hB.lts i hi) om
theorem aPn{a:Aut}(h:AOK a):∀w∈sepW a,Wk a.al (a.nx.length-1) w:=by
 intro w hw;obtain⟨h1,h2⟩:=(aSz h).2 w hw;refine⟨by omega,fun b hb=> ?_⟩;unfold dU at h2;simp only[As,decide_eq_true_eq,Bg]at h2;have hb:=h2.2 b hb;unfold inB at hb;simp only[As]at hb;have h3:=hb.1;unfold okB eV at h3;simp only[decide_eq_true_eq]at h3;refine⟨ltr b,jB.2 ⟨by omega,hb.2⟩,?_⟩;exact aOe.symm
theorem aPK{al:Int}{k:Nat}:∀w∈midG (aB al) k,Wk al k w:=fun w hw=>aHk k w hw
theorem aKi{a:Aut}(h:AOK a){e:Nat}{c m w:Str}(hc:c∈cH a)(hm:m∈midG (aB a.al) (e+1))(hw:w∈sepW a):Wk a.al (2*a.nx.length+e) (c++m++w):=by
 obtain⟨_,_,a1,_,_⟩:=aV h;have:=((aPl h c hc).app (aPK m hm)).app (aPn h w hw);exact⟨by have:=this.1;omega,this.2⟩
end Ev
end Go.Proofs.YtppffbehejpglaaGreat
