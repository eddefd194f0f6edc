/-
  Test suites: plain laws. What the program gathers in a map and sorts at the end is what the reference keeps sorted.
-/
import Derived.Test.YtppffbehejpglaaGreatDoorTop
import Derived.Test.YtppffbehejpglaaGreatDoorMemS
import Derived.Test.YtppffbehejpglaaGreatDoorNetV
import Derived.Test.YtppffbehejpglaaGreatDoorTrimL
import Derived.Test.YtppffbehejpglaaGreatDoorWordAt
import Derived.Test.YtppffbehejpglaaGreatDoorEvDef
import Derived.Test.YtppffbehejpglaaGreatDoorSafe
import Derived.Test.YtppffbehejpglaaGreatDoorAnyD
set_option linter.unusedSimpArgs false
set_option linter.unusedVariables false
set_option linter.unusedSectionVars false
set_option maxRecDepth 8000
set_option maxHeartbeats 4000000
namespace Go.Proofs.YtppffbehejpglaaGreatDoor
namespace Ev
def chG(ls:List Int)(w:Str):List Str:=ls.map fun l=>w++[bU l]
def lvG(ls:List Int):Nat->List Str
 |0=>[[]]
 |k+1=>(lvG ls k).flatMap (chG ls)
def midG(ls:List Int):Nat->List Str
 |0=>[[]]
 |k+1=>midG ls k++lvG ls (k+1)
theorem aPr{ls:List Int}{w:Str}:(chG ls w).length=ls.length:=by simp[chG]
theorem aBu{ls:List Int}:∀k,(lvG ls k).length=ls.length^k
 |0=>rfl
 |k+1=>by
  have e:∀l:List Str,(l.flatMap (chG ls)).length=l.length*ls.length:=by
   intro l
   induction l with
   |nil=>simp
   |cons a l ih=>rw[List.flatMap_cons,Af,ih,aPr,Ae,Cc];omega
  show((lvG ls k).flatMap (chG ls)).length=_;rw[e,aBu k,Nat.pow_succ]
theorem KL{ls:List Int}:∀k,∀w∈lvG ls k,w.length=k/\∀b∈w,∃l∈ls,b=bU l
 |0,w,h=>by
  obtain rfl:w=[]:=by simpa [lvG]using h
  exact⟨rfl,by simp⟩
 |k+1,w,h=>by
  obtain⟨v,hv,hw⟩:=Ck.1 h;obtain⟨l,hl,rfl⟩:=Av.1 hw;obtain⟨h1,h2⟩:=KL k v hv;refine⟨by simp[h1],fun b hb=> ?_⟩
  rcases Ak.1 hb with hb|hb
  ·exact h2 b hb
  ·exact⟨l,hl,by simpa using hb⟩
theorem aJt{ls:List Int}:∀k,∀w∈midG ls k,w.length<=k/\∀b∈w,∃l∈ls,b=bU l
 |0,w,h=>by
  obtain rfl:w=[]:=by simpa [midG]using h
  exact⟨Ab _,by simp⟩
 |k+1,w,h=>by
  rcases Ak.1 h with h|h
  ·obtain⟨h1,h2⟩:=aJt k w h;exact⟨by omega,h2⟩
  ·obtain⟨h1,h2⟩:=KL (k+1) w h;exact⟨by omega,h2⟩
theorem aSt{ls:List Int}:∀k,∃p,midG ls k=p++lvG ls k
 |0=>⟨[],rfl⟩
 |k+1=>⟨midG ls k,rfl⟩
theorem IR{ls:List Int}(hl:ls.length<=6):∀k,k<=3->(midG ls k).length<=259:=by
 have h1:ls.length^1<=6^1:=Nat.pow_le_pow_left hl 1;have h2:ls.length^2<=6^2:=Nat.pow_le_pow_left hl 2;have h3:ls.length^3<=6^3:=Nat.pow_le_pow_left hl 3;intro k hk
 rcases(show k=0\/k=1\/k=2\/k=3 by omega)with rfl|rfl|rfl|rfl
 ·simp[midG]
 ·simp only[midG,Af,aBu,Da,Ag];omega
 ·simp only[midG,Af,aBu,Da,Ag,Nat.reduceAdd];omega
 ·simp only[midG,Af,aBu,Da,Ag,Nat.reduceAdd];omega
def insW(ws:List Str)(w:Str):List Str:=if w∈ws then ws else ws++[w]
def cZ(ws l:List Str):List Str:=l.foldl insW ws
def bD(ws:List Str)(w:Str):Nat:=ws.countP fun x=>decide (cmpX x w<0)
def ordW(ws:List Str)(w:Str):List Str:=if w∈ws then ws else ws.take (bD ws w)++w::ws.drop (bD ws w)
def gW(ws l:List Str):List Str:=l.foldl ordW ws
def pY(ws:List Str):Prop:=ws.Pairwise fun x y=>cmpX x y<0
theorem aRi{ws:List Str}:cZ ws []=ws:=rfl
theorem TW{ws l:List Str}{w:Str}:cZ ws (w::l)=cZ (insW ws w) l:=rfl
theorem aTh{ws l m:List Str}:cZ ws (l++m)=cZ (cZ ws l) m:=by simp[cZ]
theorem aCY{ws l:List Str}{w:Str}:gW ws (w::l)=gW (ordW ws w) l:=rfl
theorem aQY{ws l m:List Str}:gW ws (l++m)=gW (gW ws l) m:=by simp[gW]
theorem aPd{ws:List Str}{w:Str}:ws.length<=(insW ws w).length/\(insW ws w).length<=ws.length+1:=by
 unfold insW;split<;>simp
theorem aDi:∀ {l ws:List Str},ws.length<=(cZ ws l).length/\(cZ ws l).length<=ws.length+l.length
 | [],ws=>⟨Ab _,Ab _⟩
 |w::l,ws=>by
  have h1:=aPd (ws:=ws) (w:=w);have h2:=aDi (l:=l) (ws:=insW ws w);rw[TW,Ae];omega
theorem aL5{ws:List Str}{w x:Str}:x∈insW ws w↔x∈ws\/x=w:=by
 unfold insW
 split
 ·rename_i h
  exact⟨.inl,fun h2=>h2.elim (fun h=>h) fun h2=>by rw[h2];exact h⟩
 ·simp
theorem YW{x:Str}:∀ {l ws:List Str},x∈cZ ws l↔x∈ws\/x∈l
 | [],ws=>by simp[aRi]
 |w::l,ws=>by
  rw[TW,YW,aL5,Au]
  constructor
  ·rintro((h|h)|h)
   ·exact .inl h
   ·exact .inr (.inl h)
   ·exact .inr (.inr h)
  ·rintro(h|h|h)
   ·exact .inl (.inl h)
   ·exact .inl (.inr h)
   ·exact .inr h
theorem zJ:∀ {ws:List Str} (_:pY ws) (w:Str) (i:Nat) (h:i<ws.length),cmpX ws[i] w<0↔i<bD ws w
 | [],_,_,_,h=>by simp at h
 |a::ws,hs,w,i,h=>by
  obtain⟨h1,h2⟩:=List.pairwise_cons.1 hs;unfold bD;rw[Eg]
  by_cases ha:cmpX a w<0
  ·rw[if_pos (by simpa using ha)]
   cases i with
   |zero=>simp[ha]
   |succ i=>
    have:=zJ h2 w i (by simpa using h);unfold bD at this;rw[List.getElem_cons_succ,this];omega
  ·have h0:bD ws w=0:=by
    unfold bD;rw[List.countP_eq_zero];intro x hx;have:=h1 x hx;simp only[decide_eq_true_eq];exact fun h3=>ha (tS this h3)
   rw[if_neg (by simpa using ha)];unfold bD at h0;rw[h0]
   cases i with
   |zero=>simpa using ha
   |succ i=>
    rw[List.getElem_cons_succ];have:=h1 (ws[i]'(by simpa using h)) (At _)
    constructor
    ·intro h3;exact(ha (tS this h3)).elim
    ·intro h3;omega
theorem aJ5{ws:List Str}{w:Str}:bD ws w<=ws.length:=List.countP_le_length
theorem aRY{ws:List Str}(hs:pY ws)(w:Str):(bD ws w<ws.length/\ws.getD (bD ws w) []=w)↔w∈ws:=by
 constructor
 ·rintro⟨h1,h2⟩;rw[Aa,Ad h1]at h2;have h2:ws[bD ws w]=w:=h2;rw[<-h2];exact At _
 ·intro hm;obtain⟨i,hi,rfl⟩:=Bz hm;have h1:¬i<bD ws ws[i]:=fun h=>I4 _ ((zJ hs _ i hi).2 h)
  have h2:¬bD ws ws[i]<i:=fun h=>by
   have h3:=List.pairwise_iff_getElem.1 hs (bD ws ws[i]) i om hi h;have:=(zJ hs ws[i] (bD ws ws[i]) om).1 h3;omega
  have e:bD ws ws[i]=i:=om;refine⟨by omega,?_⟩;rw[e,Aa,Ad hi];rfl
theorem aJv{ws:List Str}(hs:pY ws)(w:Str):pY (ordW ws w):=by
 unfold ordW
 split
 ·exact hs
 ·rename_i hn
  have lt1:∀x∈ws.take (bD ws w),cmpX x w<0:=by
   intro x hx;obtain⟨i,hi,rfl⟩:=Bz hx;rw[Bi]at hi;rw[List.getElem_take];exact(zJ hs w i om).2 om
  have lt2:∀x∈ws.drop (bD ws w),cmpX w x<0:=by
   intro x hx;obtain⟨i,hi,rfl⟩:=Bz hx;rw[Cg]at hi;rw[List.getElem_drop]
   have h1:¬cmpX ws[bD ws w+i] w<0:=fun h=>by
    have:=(zJ hs w (bD ws w+i) om).1 h;omega
   rcases RK w ws[bD ws w+i]with h|h|h
   ·exact(hn (by rw[h];exact At _)).elim
   ·exact h
   ·exact(h1 h).elim
  unfold pY;rw[List.pairwise_append];refine⟨hs.sublist (List.take_sublist _ _),List.pairwise_cons.2 ⟨lt2,hs.sublist (List.drop_sublist _ _)⟩,fun x hx y hy=> ?_⟩
  rcases Au.1 hy with rfl|hy
  ·exact lt1 x hx
  ·exact tS (lt1 x hx) (lt2 y hy)
theorem P9:∀ {l ws:List Str},pY ws->pY (gW ws l)
 | [],_,h=>h
 |w::l,ws,h=>by rw[aCY];exact P9 (l:=l) (ws:=ordW ws w) (aJv h w)
theorem aDz{ws vs:List Str}(h:ws.Perm vs)(w:Str):(ordW ws w).Perm (insW vs w):=by
 unfold ordW insW
 by_cases hm:w∈ws
 ·rw[if_pos hm,if_pos (h.mem_iff.1 hm)];exact h
 ·rw[if_neg hm,if_neg fun h2=>hm (h.mem_iff.2 h2)];refine List.perm_middle.trans ?_;rw[List.take_append_drop];refine(h.cons w).trans ?_;exact(List.perm_append_singleton w vs).symm
theorem EF:∀ {l ws vs:List Str},ws.Perm vs->(gW ws l).Perm (cZ vs l)
 | [],_,_,h=>h
 |w::l,ws,vs,h=>by rw[aCY,TW];exact EF (l:=l) (aDz h w)
theorem aTS{ws:List Str}{w:Str}:ws.length<=(ordW ws w).length/\(ordW ws w).length<=ws.length+1:=by
 have h:=(aDz (List.Perm.refl ws) w).length_eq;have:=aPd (ws:=ws) (w:=w);omega
theorem aQQ{l ws:List Str}:ws.length<=(gW ws l).length:=by
 have h:=(EF (l:=l) (List.Perm.refl ws)).length_eq;have:=(aDi (l:=l) (ws:=ws)).1;omega
theorem aTT{l:List Str}(h:pY l):l.Pairwise fun x y=>leX x y=true:=h.imp fun h=>aS2 h
theorem aQH{l m:List Str}(hl:pY l)(h:m.Perm l):m.mergeSort leX=l:=by
 refine((List.mergeSort_perm m leX).trans h).eq_of_pairwise (fun x y _ _ h1 h2=>aEk h1 h2) ?_ (aTT hl);exact List.pairwise_mergeSort NA NQ _
def endL(c m:Str)(ends:List Str):List Str:=ends.map fun e=>c++m++e
def midL(c:Str)(mids ends:List Str):List Str:=mids.flatMap fun m=>endL c m ends
def covL(cov mids ends:List Str):List Str:=cov.flatMap fun c=>midL c mids ends
def optF(f:Str->List Str->Bool×List Str):List Str->List Str->Option (List Str)
 | [],o=>some o
 |w::l,o=>if(f w o).1=true then optF f l (f w o).2 else none
def run3(f:Str->List Str->Bool×List Str)(ws:List Str):Nat->Nat->List Str->Bool×Nat×List Str
 |0,q,o=>(true,q,o)
 |j+1,q,o=>if(f (ws.getD q []) o).1=true then run3 f ws j (q+1) (f (ws.getD q []) o).2 else(false,q,(f (ws.getD q []) o).2)
theorem TC{f:Str->List Str->Bool×List Str}{ws:List Str}:∀(j q:Nat) (o:List Str),q+j=ws.length->optF f (ws.drop q) o=if(run3 f ws j q o).1=true then some (run3 f ws j q o).2.2 else none
 |0,q,o,h=>by
  obtain rfl:q=ws.length:=om;rw[Bu];rfl
 |j+1,q,o,h=>by
  have hq:q<ws.length:=om
  have e:ws.drop q=ws.getD q []::ws.drop (q+1):=by
   rw[Dt hq,Aa,Ad hq];rfl
  rw[e];unfold optF run3
  by_cases hf:(f (ws.getD q []) o).1=true
  ·rw[if_pos hf,if_pos hf,TC j (q+1) _ om]
  ·rw[if_neg hf,if_neg hf,if_neg Bool.false_ne_true]
theorem CQ{f:Str->List Str->Bool×List Str}{ws:List Str}{j q:Nat}{o:List Str}(h:(f (ws.getD q []) o).1=true):run3 f ws (j+1) q o=run3 f ws j (q+1) (f (ws.getD q []) o).2:=if_pos h
theorem I8{f:Str->List Str->Bool×List Str}{ws:List Str}{j q:Nat}{o:List Str}(h:(f (ws.getD q []) o).1=false):run3 f ws (j+1) q o=(false,q,(f (ws.getD q []) o).2):=if_neg (by rw[h];exact Bool.false_ne_true)
theorem JE{f:Str->List Str->Bool×List Str}{g:Str->List Str}{ins:List Str->List Str->List Str}(h0:∀o,ins o []=o)(happ:∀o l m,ins o (l++m)=ins (ins o l) m)(hle:∀o l,o.length<=(ins o l).length)
  (hf:∀w o,o.length<=3000->if 3000<(ins o (g w)).length then(f w o).1=false else f w o=(true,ins o (g w))):∀(ws o:List Str),o.length<=3000->optF f ws o=if 3000<(ins o (ws.flatMap g)).length then none else some (ins o (ws.flatMap g))
 | [],o,h=>by
  rw[List.flatMap_nil,h0,if_neg om];rfl
 |w::ws,o,h=>by
  have hw:=hf w o h;rw[List.flatMap_cons,happ];unfold optF
  by_cases hc:3000<(ins o (g w)).length
  ·rw[if_pos hc]at hw;rw[hw,if_neg Bool.false_ne_true,if_pos];have:=hle (ins o (g w)) (ws.flatMap g);omega
  ·rw[if_neg hc]at hw;rw[hw,if_pos rfl];exact JE h0 happ hle hf ws _ (Nat.le_of_not_lt hc)
theorem YG{f:Str->List Str->Bool×List Str}{ws o z:List Str}(h:optF f ws o=if 3000<z.length then none else some z):if 3000<z.length then(run3 f ws ws.length 0 o).1=false else((run3 f ws ws.length 0 o).1,(run3 f ws ws.length 0 o).2.2)=(true,z):=by
 have e:=TC (f:=f) (ws:=ws) ws.length 0 o om;rw[Ba,h]at e
 by_cases hc:3000<z.length
 ·rw[if_pos hc]at e|-
  cases hb:(run3 f ws ws.length 0 o).1 with
  |false=>rfl
  |true=>rw[hb,if_pos rfl]at e;cases e
 ·rw[if_neg hc]at e|-
  cases hb:(run3 f ws ws.length 0 o).1 with
  |false=>rw[hb,if_neg Bool.false_ne_true]at e;cases e
  |true=>rw[hb,if_pos rfl]at e;injection e with e;rw[e]
def midF(c:Str)(ends:List Str)(m:Str)(o:List Str):Bool×List Str:=(!decide (3000<(cZ o (endL c m ends)).length),cZ o (endL c m ends))
def covF(mids ends:List Str)(c:Str)(o:List Str):Bool×List Str:=((run3 (midF c ends) mids mids.length 0 o).1,(run3 (midF c ends) mids mids.length 0 o).2.2)
def endS(c m:Str)(e:Str)(o:List Str):Bool×List Str:=(!decide (3000<(ordW o (c++m++e)).length),ordW o (c++m++e))
def midZ(c:Str)(ends:List Str)(m:Str)(o:List Str):Bool×List Str:=((run3 (endS c m) ends ends.length 0 o).1,(run3 (endS c m) ends ends.length 0 o).2.2)
def covZ(mids ends:List Str)(c:Str)(o:List Str):Bool×List Str:=((run3 (midZ c ends) mids mids.length 0 o).1,(run3 (midZ c ends) mids mids.length 0 o).2.2)
theorem aPE{cov mids ends:List Str}:optF (covF mids ends) cov []=if 3000<(cZ [] (covL cov mids ends)).length then none else some (cZ [] (covL cov mids ends)):=by
 have ok:(∀o,cZ o []=o)/\(∀o l m,cZ o (l++m)=cZ (cZ o l) m)/\∀o l,o.length<=(cZ o l).length:=⟨fun _=>rfl,fun _ _ _=>aTh,fun _ _=>aDi.1⟩
 refine JE ok.1 ok.2.1 ok.2.2 (fun c o ho=>YG (JE ok.1 ok.2.1 ok.2.2 (fun m o ho=> ?_) mids o ho)) cov [] smp;unfold midF
 split<;>simp[*]
theorem aVX{cov mids ends:List Str}:optF (covZ mids ends) cov []=if 3000<(gW [] (covL cov mids ends)).length then none else some (gW [] (covL cov mids ends)):=by
 have ok:(∀o,gW o []=o)/\(∀o l m,gW o (l++m)=gW (gW o l) m)/\∀o l,o.length<=(gW o l).length:=⟨fun _=>rfl,fun _ _ _=>aQY,fun _ _=>aQQ⟩
 refine JE ok.1 ok.2.1 ok.2.2 (fun c o ho=>YG (JE ok.1 ok.2.1 ok.2.2 (fun m o ho=>YG ?_) mids o ho)) cov [] smp
 have e:endL c m ends=ends.flatMap fun e=>[c++m++e]:=by unfold endL;induction ends with
  |nil=>rfl
  |cons x l ih=>simp only[Aj,List.flatMap_cons,ih,Do]
 rw[e];refine JE ok.1 ok.2.1 ok.2.2 (fun e o ho=> ?_) ends o ho;have e1:gW o [c++m++e]=ordW o (c++m++e):=rfl;unfold endS;rw[e1]
 split<;>rename_i hc<;>simp only[hc,decide_true,decide_false,Bool.not_true,Bool.not_false]
def tN(cov mids ends:List Str):Option (List Str):=if 3000<(gW [] (covL cov mids ends)).length then none else some (gW [] (covL cov mids ends))
theorem aP0{cov mids ends:List Str}:(optF (covF mids ends) cov []).map (fun ws=>ws.mergeSort leX)=tN cov mids ends:=by
 rw[aPE];unfold tN;have hp:=EF (l:=covL cov mids ends) (List.Perm.refl []);rw[hp.length_eq]
 split
 ·rfl
 ·rw[Bb,aQH (P9 List.Pairwise.nil) hp.symm]
theorem aR8{cov mids ends l:List Str}(h:tN cov mids ends=some l)(x:Str):x∈l↔∃c∈cov,∃m∈mids,∃e∈ends,x=c++m++e:=by
 unfold tN at h
 split at h
 ·cases h
 ·cases h;rw[(EF (l:=covL cov mids ends) (List.Perm.refl [])).mem_iff,YW]
  simp only[Bv,false_or,covL,midL,endL,Ck,Av]
  constructor
  ·rintro⟨c,hc,m,hm,e,he,rfl⟩;exact⟨c,hc,m,hm,e,he,rfl⟩
  ·rintro⟨c,hc,m,hm,e,he,rfl⟩;exact⟨c,hc,m,hm,e,he,rfl⟩
theorem aUC{cov mids ends l:List Str}(h:tN cov mids ends=some l):pY l/\l.length<=3000:=by
 unfold tN at h
 split at h
 ·cases h
 ·cases h;exact⟨P9 List.Pairwise.nil,by omega⟩
theorem yZ{n:Nat}{W:Nat->List Int}{i:Nat}(hi:i<n):((List.range n).map fun q=>txt (W q)).getD i []=txt (W i):=by
 rw[Aa,Bh,List.getElem?_range hi];rfl
theorem aNI{a:Aut}{W:Nat->List Int}(hB:Bfs (goS a) (aB a.al) a.nx.length (ordA a).length [] (ordA a) W):∀(c i:Nat),i<=c->i<(ordA a).length->(W i).length<=i:=by
 intro c
 induction c with
 |zero=>
  intro i hi _;obtain rfl:i=0:=om;rw[hB.w0];simp
 |succ c ih=>
  intro i hi hl
  rcases Dk i with rfl|h0
  ·rw[hB.w0];simp
  ·obtain⟨p,l,hp,_,e,_⟩:=hB.pre i h0 hl;have:=ih p om om;rw[e,Af]
   simp;omega
theorem aHS{al:Int}(ha:cP al=true){w:List Int}(hw:∀l∈w,l∈aB al)(hl:w.length<=50000):dQ al (txt w)=true/\dR (txt w)=true:=by
 have key:∀b∈txt w,okB b=true/\cN al (ltr b)=true:=by
  intro b hb;obtain⟨l,hlm,rfl⟩:=Av.1 hb;have hb:=b9 l (hw l hlm);have h2:=(fR.1 (hw l hlm)).2;unfold okB;rw[EW hb.1 hb.2,h2];simp[fA];omega
 have hlen:(txt w).length=w.length:=by unfold txt;rw[Am]
 constructor
 ·unfold dQ;simp only[Ar,decide_eq_true_eq,Bk];refine⟨⟨ha,by omega⟩,fun b hb=> ?_⟩;unfold inB;rw[(key b hb).1,(key b hb).2];rfl
 ·unfold dR;simp only[Ar,decide_eq_true_eq,Bk];exact⟨by omega,fun b hb=>(key b hb).1⟩
theorem kF{a:Aut}:∀(w:List Int) (q:Int),(∀l∈w,l∈aB a.al)->stGo a.al a.nx (txt w) q=w.foldl (goS a) q
 | [],_,_=>rfl
 |l::w,q,h=>by
  have hb:=b9 l (h l Bd);show stGo a.al a.nx (txt w) (goI a.al a.nx q (ltr (bU l)))=_;rw[EW hb.1 hb.2,kF w _ fun m hm=>h m (Az _ hm)];rfl
structure CovOK(a:Aut)(l:List Str):Prop where
 len:l.length=(a7 a).nx.length
 pos:0<l.length
 big:l.length<=12
 first:l.getD 0 []=[]
 acc:∀i,i<l.length->∃u,txt u=l.getD i []/\accG a (qB a.al a.nx a.ac (l.getD i []))=(u,true)
 ok:∀i,i<l.length->dR (l.getD i [])=true
 short:∀i,i<l.length->(l.getD i []).length<=4294967295
 asc:∀i,i+1<l.length->cmpX (l.getD i []) (l.getD (i+1) [])<0
theorem aUU{a:Aut}(h:AOK a):CovOK a (bX a):=by
 obtain⟨W,hB⟩:=gK h;obtain⟨a1,a2,a3,ha⟩:=fK h;have hn:=dX hB.nod hB.rng;have hp:=hB.pos;rw[y5 h hB];have hl:((List.range (ordA a).length).map fun q=>txt (W q)).length=(ordA a).length:=by rw[Am,Db]
 have hw:∀i,i<(ordA a).length->(W i).length<=12:=fun i hi=>by have:=aNI hB i i (Ab _) hi;omega
 refine⟨?_,by omega,by omega,?_,?_,?_,?_,?_⟩
 ·rw[hl];exact(Am _).symm
 ·rw[yZ hp,hB.w0];rfl
 ·intro i hi;rw[hl]at hi;rw[yZ hi];refine⟨W i,rfl,?_⟩
  have hst:qB a.al a.nx a.ac (txt (W i))=(ordA a).getD i 0:=by
   unfold qB;have:=(aHS ha (hB.lts i hi) (by have:=hw i hi;omega)).1;rw[show cA a.al a.nx a.ac=true from h,this,kF _ _ (hB.lts i hi),hB.run i hi];rfl
  rw[hst];unfold accG;rw[if_pos (show cA a.al a.nx a.ac=true from h),J4 h hB hi]
 ·intro i hi;rw[hl]at hi;rw[yZ hi];exact(aHS ha (hB.lts i hi) (by have:=hw i hi;omega)).2
 ·intro i hi;rw[hl]at hi;rw[yZ hi];have:=hw i hi;unfold txt;rw[Am];omega
 ·intro i hi;rw[hl]at hi;rw[yZ om,yZ hi];exact aBe hB om hi
section
variable{R:Type}{L n:Nat}
def sepJ(a:Aut)(i:Int):Nat->Nat->List Str->List Str
 |0,_,o=>o
 |q+1,j,o=>if(dY a i j).2=true/\txt (dY a i j).1∉o then sepJ a i q (j+1) (o++[txt (dY a i j).1])else sepJ a i q (j+1) o
def sepA(a:Aut):Nat->Nat->List Str->List Str
 |0,_,o=>o
 |q+1,i,o=>sepA a q (i+1) (sepJ a i (a.nx.length-(i+1)) (i+1) o)
def sepW(a:Aut):List Str:=sepA a a.nx.length 0 [[]]
theorem KS{a:Aut}{i:Int}:∀(q j:Nat) (o:List Str),o.length<=(sepJ a i q j o).length/\(sepJ a i q j o).length<=o.length+q
 |0,_,o=>⟨Ab _,Ab _⟩
 |q+1,j,o=>by
  unfold sepJ
  split
  ·have:=KS (a:=a) (i:=i) q (j+1) (o++[txt (dY a i j).1]);simp at this|-;omega
  ·have:=KS (a:=a) (i:=i) q (j+1) o;omega
theorem aMa{a:Aut}:∀(q i:Nat) (o:List Str),o.length<=(sepA a q i o).length/\(sepA a q i o).length<=o.length+q*a.nx.length
 |0,_,o=>by simp[sepA]
 |q+1,i,o=>by
  unfold sepA;have h1:=KS (a:=a) (i:=i) (a.nx.length-(i+1)) (i+1) o;have h2:=aMa (a:=a) q (i+1) (sepJ a i (a.nx.length-(i+1)) (i+1) o);rw[Nat.succ_mul];omega
theorem TV{a:Aut}(h:AOK a):1<=(sepW a).length/\(sepW a).length<=145:=by
 obtain⟨_,_,h1,h2,_⟩:=aR h;have:=aMa (a:=a) a.nx.length 0 [[]];have hm:a.nx.length*a.nx.length<=12*12:=Nat.mul_le_mul h2 h2;unfold sepW;simp only[Ae,Ac]at this;omega
theorem J8(hn:12<=n)(hL:2^60<=L){a:Aut}(ha:AOK a){i:Nat}(hi:i<a.nx.length){k:KE R}:∀(q j m:Nat) (o:List Str) (len:Nat) (hq:j+q=a.nx.length) (hm:q<m) (hlen:len=o.length) (ho:o.length+q<=100000),
  aT env (aA env L n) L 0 [] Bz42 (gS 1) (U1 (Z4 (Z1 (U32 (U8 (U1 ([]))))))) m (Y1 (.ptr 0 0 0::.d .nils::.sl 1 0 0 len::nI i::nI j::Y32 (Y8 (Y1 ([]))))) [.box [nI a.al,.d (.ivs a.nx.length (aE a.nx)),.d (.ivs a.ac.length (aD a.ac))],.arr (aM o) 1 0] k
  =k (.exit 2) (Y1 (.ptr 0 0 0::.d .nils::.sl 1 0 0 (sepJ a i q j o).length::nI i::nI (a.nx.length)::Y32 (Y8 (Y1 ([]))))) [.box [nI a.al,.d (.ivs a.nx.length (aE a.nx)),.d (.ivs a.ac.length (aD a.ac))],.arr (aM (sepJ a i q j o)) 1 0]:=by
 obtain⟨sa,wa,a1,a2,a3⟩:=aR ha;have hac:a.ac.length<=4294967296:=om;intro q
 induction q with
 |zero=>
  intro j m o len hq hm hlen ho;obtain _|m:=m;omega;obtain rfl:j=a.nx.length:=om;subst hlen
  simp-implicitDefEqProofs (maxSteps:=9^7) (disch:=try exact Dz) only[↓DN,↓kRet,UP,simprocAttr,Ah,hM,gE,Tryz.f49]<;>rfl
 |succ q ih=>
  intro j m o len hq hm hlen ho;obtain _|m:=m;omega;subst hlen;have hc:(j:Int)<a.nx.length:=om;have kc_s:=@aEp L a i j sa hac hL;have hal:=sa.1;simp only[sepJ];generalize dY a i j=r at *;obtain⟨w,b⟩:=r;simp only at kc_s|-;have kl_i:=@aPS L o (txt w) om hL
  cases b with
  |false=>
   have ih':=ih (j+1) m o o.length om om rfl om;rw[cs1 j]at ih';rw[if_neg fun h=>by cases h.1];clear ih
   simp-implicitDefEqProofs (maxSteps:=9^7) (disch:=try exact Dz) only[↓DN,↓kRet,UP,simprocAttr,hc,↓kc_s,↓ih',hM,gE,Tryz.f49]
  |true=>
   by_cases h:txt w∈o
   ·have ih':=ih (j+1) m o o.length om om rfl om;rw[cs1 j]at ih';rw[if_neg fun h2=>h2.2 h];rw[decide_eq_true h]at kl_i;clear ih
    simp-implicitDefEqProofs (maxSteps:=9^7) (disch:=try exact Dz) only[↓DN,↓kRet,UP,simprocAttr,↓ZZ,SE,hc,↓kc_s,↓kl_i,↓ih',hM,gE,Tryz.f49]
   ·have ih':=ih (j+1) m (o++[txt w]) (o.length+1) om om smp (by simp;omega);rw[cs1 j]at ih';rw[if_pos ⟨rfl,h⟩];rw[decide_eq_false h]at kl_i;clear ih
    simp-implicitDefEqProofs (maxSteps:=9^7) (disch:=try exact Dz) only[↓DN,↓kRet,UP,simprocAttr,↓ZZ,SE,hc,↓kc_s,↓kl_i,mV,↓ih',hM,gE,Tryz.f49]
theorem KU(hn:12<=n)(hL:2^60<=L){a:Aut}(ha:AOK a){k:KE R}:∀(q i m:Nat) (o:List Str) (len:Nat) (hq:i+q=a.nx.length) (hm:q<m) (hlen:len=o.length) (ho:o.length+q*12<=10000),
  aT env (aA env L n) L 0 [] Bz42 (gS 0) (U1 (Z4 (U32 (U8 (U2 ([])))))) m (Y1 (.ptr 0 0 0::.d .nils::.sl 1 0 0 len::nI i::Y32 (Y8 (Y2 ([]))))) [.box [nI a.al,.d (.ivs a.nx.length (aE a.nx)),.d (.ivs a.ac.length (aD a.ac))],.arr (aM o) 1 0] k
  =k (.exit 0) (Y1 (.ptr 0 0 0::.d .nils::.sl 1 0 0 (sepA a q i o).length::nI (a.nx.length)::Y32 (Y8 (Y2 ([]))))) [.box [nI a.al,.d (.ivs a.nx.length (aE a.nx)),.d (.ivs a.ac.length (aD a.ac))],.arr (aM (sepA a q i o)) 1 0]:=by
 obtain⟨sa,wa,a1,a2,a3⟩:=aR ha;intro q
 induction q with
 |zero=>
  intro i m o len hq hm hlen ho;obtain _|m:=m;omega;obtain rfl:i=a.nx.length:=om;subst hlen
  simp-implicitDefEqProofs (maxSteps:=9^7) (disch:=try exact Dz) only[↓DN,↓kRet,UP,simprocAttr,Ah,t7,oQ,Tryz.f49]<;>rfl
 |succ q ih=>
  intro i m o len hq hm hlen ho;obtain _|m:=m;omega;subst hlen;have hc:(i:Int)<a.nx.length:=om;have loop_c:=fun {R n k} hn=> @J8 R L n hn hL a ha i om k (a.nx.length-(i+1)) (i+1) L o o.length om om rfl om;rw[cs1 i]at loop_c;have hl:=(KS (a:=a) (i:=i) (a.nx.length-(i+1)) (i+1) o).2;have ih':=ih (i+1) m (sepJ a i (a.nx.length-(i+1)) (i+1) o) _ om om rfl om;rw[cs1 i]at ih';simp only[sepA];clear ih;generalize sepJ a i (a.nx.length-(i+1)) (i+1) o=w at *
  simp-implicitDefEqProofs (maxSteps:=9^7) (disch:=try exact Dz) only[↓DN,↓kRet,UP,simprocAttr,hc,↓loop_c,↓ih',t7,oQ,Tryz.f49]
def sepR(a:Aut):List Str:=if cA a.al a.nx a.ac=true then sepW a else []
theorem AJ(hn:13<=n)(a:Aut)(hs:aW a.nx)(hac:a.ac.length<=4294967296)(hL:2^60<=L):aA env L n 49 [.agg [nI a.al,.d (.ivs a.nx.length (aE a.nx)),.d (.ivs a.ac.length (aD a.ac))]] []=some (.d (.ivs (sepR a).length (aM (sepR a))),[]):=by
 have hrl:=hs.1;unfold sepR
 cases hv:cA a.al a.nx a.ac with
 |false=>
  simp only[Al,if_false,Ac,lF];obtain _|n:=n;omega
  simp-implicitDefEqProofs (maxSteps:=9^7) (disch:=try exact Dz) only[↓DN,↓kAsg,↓kRet,UP,simprocAttr,↓bB,hv,BH,rX,Tryz.f49]
 |true=>
  obtain⟨sa,wa,a1,a2,a3⟩:=aR hv;have loop_c:=fun {R n k} hn=> @KU R L n hn hL a hv k a.nx.length 0 L [[]] 1 om om rfl (by simp;omega);have e:aM [[]]=[.str []]:=rfl;have e2:sepA a a.nx.length 0 [[]]=sepW a:=rfl;rw[e,e2]at loop_c;have hl:=TV hv;simp only[if_true,Ap]at loop_c|-;generalize sepW a=w at *;have e4:(aM w).take w.length=aM w:=iE (Ab _);obtain _|n:=n;omega
  simp-implicitDefEqProofs (maxSteps:=9^7) (disch:=try exact Dz) only[↓DN,↓kAsg,↓kRet,UP,simprocAttr,↓bB,SE,hv,e4,↓loop_c,BH,rX,Tryz.f49]
theorem TD:type_of% fun {L} a hs hac hL=>ks fun hn=> @AJ L _ hn a hs hac hL:=fun {L} a hs hac hL=>ks fun hn=> @AJ L _ hn a hs hac hL
theorem LK(hn:9<=n)(hL:2^60<=L){a:Aut}(ha:AOK a){i:Nat}(hi:i<a.nx.length){k:KE R}:∀(q j m:Nat) (o:List Str) (len:Nat) (hq:j+q=a.nx.length) (hm:q<m) (hlen:len=o.length) (ho:o.length+q<=100000),
  aT env (aA env L n) L 0 [] Bz18 (gZ 1) (U1 (Z4 (Z1 (U8 (Z2 (U16 (U8 (U4 (U2 (U1 ([]))))))))))) m (Y1 (.ptr 0 0 0::.d .nils::.sl 1 0 0 len::nI i::nI j::Y8 (nI (a.nx.length)::nI i::Y16 (Y8 (Y4 (Y2 (Y1 ([])))))))) [.box [nI a.al,.d (.ivs a.nx.length (aE a.nx)),.d (.ivs a.ac.length (aD a.ac))],.arr (aM o) 1 0] k
  =k (.exit 2) (Y1 (.ptr 0 0 0::.d .nils::.sl 1 0 0 (sepJ a i q j o).length::nI i::nI (a.nx.length)::Y8 (nI (a.nx.length)::nI i::Y16 (Y8 (Y4 (Y2 (Y1 ([])))))))) [.box [nI a.al,.d (.ivs a.nx.length (aE a.nx)),.d (.ivs a.ac.length (aD a.ac))],.arr (aM (sepJ a i q j o)) 1 0]:=by
 obtain⟨sa,wa,a1,a2,a3⟩:=aR ha;have hac:a.ac.length<=4294967296:=om;intro q
 induction q with
 |zero=>
  intro j m o len hq hm hlen ho;obtain _|m:=m;omega;obtain rfl:j=a.nx.length:=om;subst hlen
  simp-implicitDefEqProofs (maxSteps:=9^7) (disch:=try exact Dz) only[↓DN,↓kRet,UP,simprocAttr,Ah,gR,gB,Tryz.f17]<;>rfl
 |succ q ih=>
  intro j m o len hq hm hlen ho;obtain _|m:=m;omega;subst hlen;have hc:(j:Int)<a.nx.length:=om;have kc_s:=@aEN L a i j sa hac hL;have hal:=sa.1;simp only[sepJ];generalize dY a i j=r at *;obtain⟨w,b⟩:=r;simp only at kc_s|-;have kl_i:=@yN L o (txt w) om hL
  cases b with
  |false=>
   have ih':=ih (j+1) m o o.length om om rfl om;rw[cs1 j]at ih';rw[if_neg fun h=>by cases h.1];clear ih
   simp-implicitDefEqProofs (maxSteps:=9^7) (disch:=try exact Dz) only[↓DN,↓kRet,UP,simprocAttr,hc,↓kc_s,↓ih',gR,gB,Tryz.f17]
  |true=>
   by_cases h:txt w∈o
   ·have ih':=ih (j+1) m o o.length om om rfl om;rw[cs1 j]at ih';rw[if_neg fun h2=>h2.2 h];rw[decide_eq_true h]at kl_i;clear ih
    simp-implicitDefEqProofs (maxSteps:=9^7) (disch:=try exact Dz) only[↓DN,↓kRet,UP,simprocAttr,↓kJ,SE,hc,↓kc_s,↓kl_i,↓ih',gR,gB,Tryz.f17]
   ·have ih':=ih (j+1) m (o++[txt w]) (o.length+1) om om smp (by simp;omega);rw[cs1 j]at ih';rw[if_pos ⟨rfl,h⟩];rw[decide_eq_false h]at kl_i;clear ih
    simp-implicitDefEqProofs (maxSteps:=9^7) (disch:=try exact Dz) only[↓DN,↓kRet,UP,simprocAttr,↓kJ,SE,hc,↓kc_s,↓kl_i,mV,↓ih',gR,gB,Tryz.f17]
theorem L6(hn:9<=n)(hL:2^60<=L){a:Aut}(ha:AOK a){k:KE R}:∀(q i m:Nat) (o:List Str) (len:Nat) (hq:i+q=a.nx.length) (hm:q<m) (hlen:len=o.length) (ho:o.length+q*12<=10000),
  aT env (aA env L n) L 0 [] Bz18 (gZ 0) (U1 (Z2 (Z1 (U8 (U2 (Z2 (U16 (U8 (U4 (U2 (U1 ([])))))))))))) m (Y1 (.ptr 0 0 0::.d .nils::.sl 1 0 0 len::Y8 (Y2 (nI (a.nx.length)::nI i::Y16 (Y8 (Y4 (Y2 (Y1 ([]))))))))) [.box [nI a.al,.d (.ivs a.nx.length (aE a.nx)),.d (.ivs a.ac.length (aD a.ac))],.arr (aM o) 1 0] k
  =k (.exit 0) (Y1 (.ptr 0 0 0::.d .nils::.sl 1 0 0 (sepA a q i o).length::Y8 (Y2 (nI (a.nx.length)::nI (a.nx.length)::Y16 (Y8 (Y4 (Y2 (Y1 ([]))))))))) [.box [nI a.al,.d (.ivs a.nx.length (aE a.nx)),.d (.ivs a.ac.length (aD a.ac))],.arr (aM (sepA a q i o)) 1 0]:=by
 obtain⟨sa,wa,a1,a2,a3⟩:=aR ha;intro q
 induction q with
 |zero=>
  intro i m o len hq hm hlen ho;obtain _|m:=m;omega;obtain rfl:i=a.nx.length:=om;subst hlen
  simp-implicitDefEqProofs (maxSteps:=9^7) (disch:=try exact Dz) only[↓DN,↓kRet,UP,simprocAttr,Ah,s6,oP,Tryz.f17]<;>rfl
 |succ q ih=>
  intro i m o len hq hm hlen ho;obtain _|m:=m;omega;subst hlen;have hc:(i:Int)<a.nx.length:=om;have loop_c:=fun {R n k} hn=> @LK R L n hn hL a ha i om k (a.nx.length-(i+1)) (i+1) L o o.length om om rfl om;rw[cs1 i]at loop_c;have hl:=(KS (a:=a) (i:=i) (a.nx.length-(i+1)) (i+1) o).2;have ih':=ih (i+1) m (sepJ a i (a.nx.length-(i+1)) (i+1) o) _ om om rfl om;rw[cs1 i]at ih';simp only[sepA];clear ih;generalize sepJ a i (a.nx.length-(i+1)) (i+1) o=w at *
  simp-implicitDefEqProofs (maxSteps:=9^7) (disch:=try exact Dz) only[↓DN,↓kRet,UP,simprocAttr,hc,↓loop_c,↓ih',s6,oP,Tryz.f17]
theorem TH(hn:10<=n)(a:Aut)(hv:AOK a)(hL:2^60<=L):aA env L n 17 [.agg [nI a.al,.d (.ivs a.nx.length (aE a.nx)),.d (.ivs a.ac.length (aD a.ac))]] []=some (.sl 0 0 0 (sepW a).length,[.arr (aM (sepW a)) 1 0]):=by
  obtain⟨sa,wa,a1,a2,a3⟩:=aR hv;have hrl:=sa.1;have hac:a.ac.length<=4294967296:=om;have loop_c:=fun {R n k} hn=> @L6 R L n hn hL a hv k a.nx.length 0 L [[]] 1 om om rfl (by simp;omega);have e:aM [[]]=[.str []]:=rfl;have e2:sepA a a.nx.length 0 [[]]=sepW a:=rfl;rw[e,e2]at loop_c;have hl:=TV hv;unfold AOK at hv;simp only[Ap]at loop_c|-;generalize sepW a=w at *;obtain _|n:=n;omega
  simp-implicitDefEqProofs (maxSteps:=9^7) (disch:=try exact Dz) only[↓DN,↓kAsg,↓kRet,UP,simprocAttr,↓a8,hv,↓loop_c,S2,CC,Tryz.f17]
end
section
theorem aAu{α:Type}{p q:α->Bool}:∀ {l:List α},(∀x∈l,p x=true->q x=true)->l.countP p=l.countP q->∀x∈l,q x=true->p x=true
 | [],_,_,x,hx,_=>by cases hx
 |a::l,h,he,x,hx,hq=>by
  have hle:=List.countP_mono_left (l:=l) (p:=p) (q:=q) fun y hy=>h y (Az _ hy);rw[Eg,Eg]at he;have ha:=h a Bd
  cases hpa:p a with
  |true=>
   rw[hpa,ha hpa]at he;have he2:l.countP p=l.countP q:=by simpa using he
   rcases Au.1 hx with rfl|hx
   ·exact hpa
   ·exact aAu (fun y hy=>h y (Az _ hy)) he2 x hx hq
  |false=>
   cases hqa:q a with
   |true=>
    rw[hpa,hqa]at he;simp at he;omega
   |false=>
    rw[hpa,hqa]at he;have he2:l.countP p=l.countP q:=by simpa using he
    rcases Au.1 hx with rfl|hx
    ·rw[hqa]at hq;cases hq
    ·exact aAu (fun y hy=>h y (Az _ hy)) he2 x hx hq
section
variable(go:Int->Int->Int)(ls:List Int)(acc:Int->Bool)
def oJ(w:List Int)(q:Int):Int:=w.foldl go q
def j7(k:Nat)(i j:Int):Prop:=∀w:List Int,(∀l∈w,l∈ls)->w.length<=k->acc (oJ go w i)=acc (oJ go w j)
variable{go ls acc}
theorem aQb{k:Nat}{i:Int}:j7 go ls acc k i i:=fun _ _ _=>rfl
theorem UZ{k:Nat}{i j:Int}(h:j7 go ls acc k i j):j7 go ls acc k j i:=fun w a b=>(h w a b).symm
theorem EJ{k:Nat}{i j m:Int}(h:j7 go ls acc k i j)(g:j7 go ls acc k j m):j7 go ls acc k i m:=fun w a b=>(h w a b).trans (g w a b)
theorem UT{k m:Nat}{i j:Int}(h:j7 go ls acc m i j)(hk:k<=m):j7 go ls acc k i j:=fun w a b=>h w a (Bp b hk)
theorem aEP{k:Nat}{i j:Int}:j7 go ls acc (k+1) i j↔acc i=acc j/\∀l∈ls,j7 go ls acc k (go i l) (go j l):=by
 constructor
 ·intro h;refine⟨h [] smp smp,fun l hl w hw hk=> ?_⟩;exact h (l::w) (by intro x hx;rcases Au.1 hx with rfl|hx;exact hl;exact hw x hx) (by simp;omega)
 ·rintro⟨h1,h2⟩ w hw hk
  cases w with
  |nil=>exact h1
  |cons l w=>exact h2 l (hw l Bd) w (fun x hx=>hw x (Az _ hx)) (by simp at hk;omega)
variable(go ls acc)
open Classical in
noncomputable def repB(k i:Nat):Bool:=decide (∀j:Nat,j<i->¬j7 go ls acc k (j:Int) (i:Int))
noncomputable def repC(n k:Nat):Nat:=(List.range n).countP (repB go ls acc k)
variable{go ls acc}
theorem VJ{k i:Nat}:repB go ls acc k i=true↔∀j:Nat,j<i->¬j7 go ls acc k (j:Int) (i:Int):=by
 unfold repB;simp
theorem aOV{k:Nat}:∀i:Nat,∃r,r<=i/\repB go ls acc k r=true/\j7 go ls acc k (r:Int) (i:Int):=by
 intro i
 induction i using Nat.strongRecOn with
 |ind i ih=>
  by_cases h:∃j:Nat,j<i/\j7 go ls acc k (j:Int) (i:Int)
  ·obtain⟨j,hj,ha⟩:=h;obtain⟨r,hr,h1,h2⟩:=ih j hj;exact⟨r,by omega,h1,EJ h2 ha⟩
  ·refine⟨i,Ab _,VJ.2 fun j hj ha=>h ⟨j,hj,ha⟩,aQb⟩
theorem aNH{k i:Nat}(h:repB go ls acc k i=true):repB go ls acc (k+1) i=true:=by
 rw[VJ]at h|-;exact fun j hj ha=>h j hj (UT ha om)
theorem aXq{n k:Nat}:repC go ls acc n k<=repC go ls acc n (k+1):=List.countP_mono_left fun _ _ h=>aNH h
theorem aQT{n k:Nat}(he:repC go ls acc n k=repC go ls acc n (k+1)){i j:Nat}(hi:i<n)(hj:j<n)(h:j7 go ls acc k (i:Int) (j:Int)):j7 go ls acc (k+1) (i:Int) (j:Int):=by
 have key:=aAu (l:=List.range n) (fun x _ h=>aNH (go:=go) (ls:=ls) (acc:=acc) (k:=k) (i:=x) h) he;obtain⟨r,hr,r1,r2⟩:=aOV (go:=go) (ls:=ls) (acc:=acc) (k:=k+1) i;obtain⟨s,hs,s1,s2⟩:=aOV (go:=go) (ls:=ls) (acc:=acc) (k:=k+1) j;have r3:=key r (Ci.2 om) r1;have s3:=key s (Ci.2 om) s1;rw[VJ]at r3 s3;have hrs:j7 go ls acc k (r:Int) (s:Int):=EJ (UT r2 om) (EJ h (UZ (UT s2 om)))
 have e:r=s:=by
  rcases Dd r s with h1|h1|h1
  ·exact absurd hrs (s3 r h1)
  ·exact h1
  ·exact absurd (UZ hrs) (r3 s h1)
 subst e;exact EJ (UZ r2) s2
theorem aU8{n:Nat}:∀k:Nat,(∀m,m<k->repC go ls acc n m≠repC go ls acc n (m+1))->repC go ls acc n 0+k<=repC go ls acc n k
 |0,_=>Ab _
 |k+1,h=>by
  have h1:=aU8 (n:=n) k fun m hm=>h m om;have h2:=aXq (go:=go) (ls:=ls) (acc:=acc) (n:=n) (k:=k);have h3:=h k om;omega
theorem aOt{n:Nat}(hgo:∀q l:Int,0<=q->q<n->l∈ls->0<=go q l/\go q l<n){i j:Int}(hi:0<=i/\i<n)(hj:0<=j/\j<n){w:List Int}(hw:∀l∈w,l∈ls)(hd:acc (oJ go w i)≠acc (oJ go w j)):
  ∃v:List Int,(∀l∈v,l∈ls)/\v.length<n/\acc (oJ go v i)≠acc (oJ go v j):=by
 have hn:1<=n:=om
 have hle:∀k,repC go ls acc n k<=n:=fun k=>by
  have:=List.countP_le_length (p:=repB go ls acc k) (l:=List.range n)
  simpa [repC]using this
 have h0:1<=repC go ls acc n 0:=by
  unfold repC;rw[Nat.succ_le_iff,List.countP_pos_iff];exact⟨0,Ci.2 om,VJ.2 fun j hj=>by omega⟩
 obtain⟨k,hk,he⟩:∃k,k<n/\repC go ls acc n k=repC go ls acc n (k+1):=by
  apply Dv;intro hc;have:=aU8 (go:=go) (ls:=ls) (acc:=acc) (n:=n) n fun m hm he=>hc ⟨m,hm,he⟩;have:=hle n;omega
 have stay:∀d:Nat,∀a b:Nat,a<n->b<n->j7 go ls acc k (a:Int) (b:Int)->j7 go ls acc (k+d) (a:Int) (b:Int):=by
  intro d
  induction d with
  |zero=>intro a b _ _ h;exact h
  |succ d ih=>
   intro a b ha hb h;have h1:=aQT he ha hb h;rw[aEP]at h1;rw[show k+(d+1)=(k+d)+1 by omega,aEP];refine⟨h1.1,fun l hl=> ?_⟩;have ga:=hgo a l om om hl;have gb:=hgo b l om om hl
   have:=ih (go a l).toNat (go b l).toNat om om (by
    rw[Bl ga.1,Bl gb.1];exact h1.2 l hl)
   rwa [Bl ga.1,Bl gb.1]at this
 apply Dv;intro hc
 have hal:j7 go ls acc k ((i.toNat:Nat):Int) ((j.toNat:Nat):Int):=by
  intro v hv hvl;rw[Bl hi.1,Bl hj.1];apply Dv;intro h;exact hc ⟨v,hv,by omega,h⟩
 have:=stay w.length i.toNat j.toNat om om hal w hw om;rw[Bl hi.1,Bl hj.1]at this;exact hd this
end
end
def goA(a:Aut)(q l:Int):Int:=goI a.al a.nx q l
def accA(a:Aut)(q:Int):Bool:=a.ac.getD q.toNat false
theorem JB{a:Aut}(h:AOK a):∀q l:Int,0<=q->q<a.nx.length->l∈aB a.al->0<=goA a q l/\goA a q l<a.nx.length:=by
 intro q l h0 h1 hl;have:=b9 l hl;exact pA h h0 h1 this.1 om
theorem KF{a:Aut}(h:AOK a):∀(w:List Int) (q:Int),(∀l∈w,l∈aB a.al)->0<=q->q<a.nx.length->0<=oJ (goA a) w q/\oJ (goA a) w q<a.nx.length
 | [],q,_,h0,h1=>⟨h0,h1⟩
 |l::w,q,hw,h0,h1=>by
  have hg:=JB h q l h0 h1 (hw l Bd);exact KF h w _ (fun x hx=>hw x (Az _ hx)) hg.1 hg.2
theorem zP{x y n:Int}(hn:0<n)(hx:0<=x)(hy:0<=y)(hy2:y<n):(x*n+y).tdiv n=x/\(x*n+y).tmod n=y:=by
 have h0:0<=x*n+y:=by
  have:=Int.mul_nonneg hx (Int.le_of_lt hn);omega
 rw[Eu h0,Ew h0,Int.add_comm,Int.add_mul_ediv_right _ _ om,Int.add_mul_emod_self_right,Int.ediv_eq_zero_of_lt hy hy2,Int.emod_eq_of_lt hy hy2];omega
theorem S5{a:Aut}(h:AOK a):∀(w:List Int) (i j u:Int),0<=i->i<a.nx.length->0<=j->j<a.nx.length->
  (Path (nxT a a) (aB a.al) (i*a.nx.length+j) w u↔(∀l∈w,l∈aB a.al)/\u=oJ (goA a) w i*a.nx.length+oJ (goA a) w j)
 | [],i,j,u,_,_,_,_=>by
  simp only[Path,oJ,List.foldl_nil]
  constructor
  ·rintro rfl;exact⟨by simp,rfl⟩
  ·rintro⟨_,rfl⟩;rfl
 |l::w,i,j,u,i0,i1,j0,j1=>by
  obtain⟨e1,e2⟩:=zP (n:=(a.nx.length:Int)) om i0 j0 j1;simp only[Path,nxT,e1,e2,Bf,exists_eq_left]
  constructor
  ·rintro⟨hl,hp⟩;have gi:=JB h i l i0 i1 hl;have gj:=JB h j l j0 j1 hl;obtain⟨h1,h2⟩:=(S5 h w (goA a i l) (goA a j l) u gi.1 gi.2 gj.1 gj.2).1 hp;refine⟨?_,h2⟩;intro x hx
   rcases Au.1 hx with rfl|hx
   ·exact hl
   ·exact h1 x hx
  ·rintro⟨hw,hu⟩;have hl:=hw l Bd;have gi:=JB h i l i0 i1 hl;have gj:=JB h j l j0 j1 hl;exact⟨hl,(S5 h w (goA a i l) (goA a j l) u gi.1 gi.2 gj.1 gj.2).2 ⟨fun x hx=>hw x (Az _ hx),hu⟩⟩
def aP3(a:Aut)(i j:Int)(w:List Int):Prop:=(∀l∈w,l∈aB a.al)/\accA a (oJ (goA a) w i)≠accA a (oJ (goA a) w j)
theorem aTG{a:Aut}(h:AOK a){i j:Int}(hi:0<=i/\i<a.nx.length)(hj:0<=j/\j<a.nx.length)(w:List Int):
  Hits (nxT a a) (aB a.al) [i*a.nx.length+j] (glT (fun x y=>x !=y) a a) w↔aP3 a i j w:=by
 unfold Hits sB aP3;simp only[Bf,exists_eq_left]
 constructor
 ·rintro⟨u,hp,hg⟩;obtain⟨h1,rfl⟩:=(S5 h w i j u hi.1 hi.2 hj.1 hj.2).1 hp;have ri:=KF h w i h1 hi.1 hi.2;have rj:=KF h w j h1 hj.1 hj.2;obtain⟨e1,e2⟩:=zP (n:=(a.nx.length:Int)) om ri.1 rj.1 rj.2;refine⟨h1,?_⟩;unfold glT at hg;rw[e1,e2]at hg
  simpa [accA]using hg
 ·rintro⟨h1,h2⟩;have ri:=KF h w i h1 hi.1 hi.2;have rj:=KF h w j h1 hj.1 hj.2;obtain⟨e1,e2⟩:=zP (n:=(a.nx.length:Int)) om ri.1 rj.1 rj.2;refine⟨_,(S5 h w i j _ hi.1 hi.2 hj.1 hj.2).2 ⟨h1,rfl⟩,?_⟩;unfold glT;rw[e1,e2]
  simpa [accA]using h2
theorem aKe{a:Aut}(h:AOK a){i j:Int}(hi:0<=i/\i<a.nx.length)(hj:0<=j/\j<a.nx.length):ED (aP3 a i j) (dY a i j):=by
 have hok:RX a i j=true:=by
  have h':cA a.al a.nx a.ac=true:=h;unfold RX;rw[h']
  simp;omega
 unfold dY;rw[if_pos hok];refine TM (aTG h hi hj) ?_;have hs:=DZ hi hj
 have hr:∀v c:Int,0<=v->v<((a.nx.length*a.nx.length:Nat):Int)->c∈aB a.al->∀m∈nxT a a v c,0<=m/\m<((a.nx.length*a.nx.length:Nat):Int):=by
  intro v c h0 h1 hc;have:=b9 c hc;rw[Cf]at h1|-;exact Q7 h h h0 h1 om
 refine aBi (lE _) hr (fun n hn=> ?_) smp;simp only[Bf]at hn;subst hn;rw[Cf];exact hs
theorem aLi{a:Aut}(h:AOK a){i j:Int}(hi:0<=i/\i<a.nx.length)(hj:0<=j/\j<a.nx.length)(h2:(dY a i j).2=true):(dY a i j).1.length<a.nx.length/\∀l∈(dY a i j).1,l∈aB a.al:=by
 rcases aKe h hi hj with⟨_,hl⟩|⟨he,_⟩
 ·obtain⟨⟨t1,t2⟩,hmin⟩:=hl;refine⟨?_,t1⟩;obtain⟨v,v1,v2,v3⟩:=aOt (go:=goA a) (ls:=aB a.al) (acc:=accA a) (n:=a.nx.length) (JB h) hi hj t1 t2;apply Dv;intro hc;exact hmin v ⟨v1,v3⟩ (.inl om)
 ·rw[he]at h2;cases h2
theorem aW3{al:Int}(ha:cP al=true){w:List Int}(hw:∀l∈w,l∈aB al)(hl:w.length<=50000):dQ al (txt w)=true:=by
 unfold dQ txt;simp only[Ar,decide_eq_true_eq,Am,Bk,Av];refine⟨⟨ha,hl⟩,?_⟩;rintro b ⟨l,hlm,rfl⟩;have hb:=b9 l (hw l hlm);have h2:=(fR.1 (hw l hlm)).2;unfold inB okB;rw[EW hb.1 hb.2,h2];simp[fA];omega
def aF3(a:Aut)(o:List Str):Prop:=o.Nodup/\∀w∈o,w.length<a.nx.length/\dQ a.al w=true
theorem aH8{a:Aut}(h:AOK a){i:Nat}(hi:i<a.nx.length):∀(q j:Nat) (o:List Str),j+q=a.nx.length->aF3 a o->aF3 a (sepJ a i q j o)
 |0,_,o,_,ho=>ho
 |q+1,j,o,hj,ho=>by
  unfold sepJ
  split
  ·rename_i hc
   refine aH8 h hi q (j+1) _ om ⟨?_,fun w hw=> ?_⟩
   ·rw[Dm];refine⟨ho.1,by simp,fun x hx y hy=> ?_⟩;simp only[Bf]at hy;subst hy;rintro rfl;exact hc.2 hx
   ·rcases Ak.1 hw with hw|hw
    ·exact ho.2 w hw
    ·simp only[Bf]at hw;subst hw;obtain⟨_,_,_,a2,_⟩:=aR h;obtain⟨s1,s2⟩:=aLi h (i:=i) (j:=j) om om hc.1;exact⟨by simpa [txt]using s1,aW3 (fK h).2.2.2 s2 om⟩
  ·exact aH8 h hi q (j+1) o om ho
theorem aOK{a:Aut}(h:AOK a):∀(q i:Nat) (o:List Str),i+q=a.nx.length->aF3 a o->aF3 a (sepA a q i o)
 |0,_,o,_,ho=>ho
 |q+1,i,o,hi,ho=>by
  unfold sepA;exact aOK h q (i+1) _ om (aH8 h om _ (i+1) o om ho)
theorem aOU{a:Aut}(h:AOK a):aF3 a (sepW a):=by
 obtain⟨a1,_,_,ha⟩:=fK h;refine aOK h _ 0 _ om ⟨by simp,fun w hw=> ?_⟩;simp only[Bf]at hw;subst hw;refine⟨by simp;omega,?_⟩;unfold dQ;simp[ha]
def Wk(al:Int)(n:Nat)(w:Str):Prop:=w.length<=n/\∀b∈w,∃l∈aB al,b=bU l
theorem Wk.app{al:Int}{n m:Nat}{u v:Str}(h:Wk al n u)(g:Wk al m v):Wk al (n+m) (u++v):=by
 refine⟨by rw[Af];have:=h.1;have:=g.1;omega,fun b hb=> ?_⟩
 rcases Ak.1 hb with hb|hb
 ·exact h.2 b hb
 ·exact g.2 b hb
theorem Wk.txt{al:Int}{n:Nat}{w:Str}(h:Wk al n w):∃u:List Int,w=Ev.txt u/\(∀l∈u,l∈aB al)/\u.length=w.length:=by
 obtain⟨h1,h2⟩:=h;clear h1
 induction w with
 |nil=>exact⟨[],rfl,by simp,rfl⟩
 |cons b w ih=>
  obtain⟨u,e,hu,hl⟩:=ih fun b hb=>h2 b (Az _ hb);obtain⟨l,hlm,e2⟩:=h2 b Bd;refine⟨l::u,by rw[e2,e];rfl,fun x hx=> ?_,by simp[hl]⟩
  rcases Au.1 hx with rfl|hx
  ·exact hlm
  ·exact hu x hx
theorem Wk.ok{al:Int}{n:Nat}{w:Str}(ha:cP al=true)(h:Wk al n w)(hn:n<=50000):dQ al w=true/\dR w=true:=by
 obtain⟨u,e,hu,hl⟩:=h.txt;have:=h.1;rw[e];exact aHS ha hu om
theorem aW0{al:Int}{n:Nat}{u:List Int}(hu:∀l∈u,l∈aB al)(hl:u.length<=n):Wk al n (txt u):=by
 refine⟨by unfold txt;rw[Am];exact hl,fun b hb=> ?_⟩;obtain⟨l,hlm,rfl⟩:=Av.1 hb;exact⟨l,hu l hlm,rfl⟩
theorem aM4{a:Aut}(h:AOK a):∀w∈bX a,Wk a.al (a.nx.length-1) w:=by
 obtain⟨W,hB⟩:=gK h;have hn:=dX hB.nod hB.rng;rw[y5 h hB];intro w hw;obtain⟨i,hi,rfl⟩:=Av.1 hw;have hi:=Ci.1 hi;have:=aNI hB i i (Ab _) hi;exact aW0 (hB.lts i hi) om
theorem aMV{a:Aut}(h:AOK a):∀w∈sepW a,Wk a.al (a.nx.length-1) w:=by
 intro w hw;obtain⟨h1,h2⟩:=(aOU h).2 w hw;refine⟨by omega,fun b hb=> ?_⟩;unfold dQ at h2;simp only[Ar,decide_eq_true_eq,Bk]at h2;have hb:=h2.2 b hb;unfold inB at hb;simp only[Ar]at hb;have h3:=hb.1;unfold okB fA at h3;simp only[decide_eq_true_eq]at h3;refine⟨ltr b,fR.2 ⟨by omega,hb.2⟩,?_⟩;exact aRn.symm
theorem aLc{al:Int}{k:Nat}:∀w∈midG (aB al) k,Wk al k w:=fun w hw=>aJt k w hw
theorem aNj{a:Aut}(h:AOK a){e:Nat}{c m w:Str}(hc:c∈bX a)(hm:m∈midG (aB a.al) (e+1))(hw:w∈sepW a):Wk a.al (2*a.nx.length+e) (c++m++w):=by
 obtain⟨_,_,a1,_,_⟩:=aR h;have:=((aM4 h c hc).app (aLc m hm)).app (aMV h w hw);exact⟨by have:=this.1;omega,this.2⟩
section
variable{R:Type}{L n:Nat}
def midS(ls:List Int)(n:Nat):Nat->Nat->List Str->Nat×List Str
 |0,i,o=>(i,o)
 |j+1,i,o=>if i<o.length/\(o.getD i []).length<n then midS ls n j (i+1) (o++chG ls (o.getD i []))else(i,o)
def midT(n i:Nat)(o:List Str):Prop:=i<o.length/\(o.getD i []).length<n
theorem OD{ls:List Int}{n j i:Nat}{o:List Str}(h:¬midT n i o):midS ls n j i o=(i,o):=by
 cases j with
 |zero=>rfl
 |succ j=>exact if_neg h
theorem aPh{ls:List Int}{n j i:Nat}{o:List Str}(h:midT n i o):midS ls n (j+1) i o=midS ls n j (i+1) (o++chG ls (o.getD i [])):=if_pos h
theorem aL9{ls:List Int}{n:Nat}:∀(todo pre acc:List Str) (j:Nat),(∀w∈todo,w.length<n)->midS ls n (todo.length+j) pre.length (pre++todo++acc)=midS ls n j (pre.length+todo.length) (pre++todo++acc++todo.flatMap (chG ls))
 | [],pre,acc,j,_=>by simp
 |w::todo,pre,acc,j,h=>by
  have hg:(pre++w::todo++acc).getD pre.length []=w:=by simp[Aa]
  have hl:pre.length<(pre++w::todo++acc).length:=by simp only[Af,Ae];omega
  rw[show(w::todo).length+j=(todo.length+j)+1 by rw[Ae];omega,aPh ⟨hl,by rw[hg];exact h w Bd⟩,hg];have e1:pre++w::todo++acc++chG ls w=(pre++[w])++todo++(acc++chG ls w):=smp;have e2:pre.length+1=(pre++[w]).length:=by rw[Af,Da]
  rw[e1,e2,aL9 todo (pre++[w]) (acc++chG ls w) j (fun v hv=>h v (Az _ hv))];have e3:(pre++[w]).length+todo.length=pre.length+(w::todo).length:=by rw[Af,Da,Ae];omega
  rw[e3];simp
theorem aLp{ls:List Int}{n:Nat}:∀(k:Nat),k<=n->∃p,midG ls k=p++lvG ls k/\∀j,midS ls n (p.length+j) 0 [[]]=midS ls n j p.length (midG ls k)
 |0,_=>⟨[],rfl,fun j=>by rw[Ac,Ag];rfl⟩
 |k+1,hk=>by
  obtain⟨p,h1,h2⟩:=aLp (ls:=ls) (n:=n) k om;refine⟨midG ls k,rfl,fun j=> ?_⟩;rw[show(midG ls k).length=p.length+(lvG ls k).length by rw[h1,Af],Nat.add_assoc,h2,h1];have:=aL9 (ls:=ls) (n:=n) (lvG ls k) p [] j (fun w hw=>by have:=(KL k w hw).1;omega);rw[Ai]at this;rw[this,<-Af,<-h1];rfl
theorem aPq{ls:List Int}{n:Nat}:∀(s i:Nat) (o:List Str),o.length<=(midS ls n s i o).2.length
 |0,_,_=>Ab _
 |s+1,i,o=>by
  unfold midS
  split
  ·have:=aPq (ls:=ls) (n:=n) s (i+1) (o++chG ls (o.getD i []));rw[Af]at this;omega
  ·exact Ab _
theorem aLn{ls:List Int}{n s:Nat}:∀(t i:Nat) (o:List Str),midS ls n (t+s) i o=midS ls n s (midS ls n t i o).1 (midS ls n t i o).2
 |0,i,o=>by rw[Ag];rfl
 |t+1,i,o=>by
  by_cases h:midT n i o
  ·have e:∀u,midS ls n (u+1) i o=midS ls n u (i+1) (o++chG ls (o.getD i [])):=fun u=>if_pos h;rw[show t+1+s=(t+s)+1 by omega,e,e,aLn t]
  ·rw[OD h,OD h];exact(OD h).symm
theorem aV3{ls:List Int}{n:Nat}:∃i,midS ls n i 0 [[]]=(i,midG ls n)/\¬midT n i (midG ls n)/\i<=(midG ls n).length/\∀t,t<=i->(midS ls n t 0 [[]]).2.length<=(midG ls n).length:=by
 obtain⟨p,h1,h2⟩:=aLp (ls:=ls) n (Ab _);have h0:=h2 0;rw[By]at h0;have h0:midS ls n p.length 0 [[]]=(p.length,midG ls n):=h0;refine⟨p.length,h0,?_,by rw[h1,Af];omega,fun t ht=> ?_⟩
 ·rintro⟨h3,h4⟩;rw[Aa,Ad h3]at h4;have h4:((midG ls n)[p.length]).length<n:=h4
  have h5:(midG ls n)[p.length]∈lvG ls n:=by
   have e:(midG ls n)[p.length]? =(lvG ls n)[0]?:=by
    rw[h1,Bo (Ab _),Bj]
   rw[Ad h3]at e;exact Br e.symm
  have:=(KL n _ h5).1;omega
 ·have:=aLn (ls:=ls) (n:=n) (s:=p.length-t) t 0 [[]];rw[show t+(p.length-t)=p.length by omega,h0]at this;have h3:=aPq (ls:=ls) (n:=n) (p.length-t) (midS ls n t 0 [[]]).1 (midS ls n t 0 [[]]).2;rw[<-this]at h3;exact h3
theorem ZY(hn:2<=n)(hL:2^60<=L){ls:List Int}(hls:∀l∈ls,0<=l/\l<=5)(hl:ls.length<=6){x:Int}{i:Nat}{w:Str}(hw:w.length<=100000){k:KE R}:∀(j q m:Nat) (o:List Str) (len:Nat) (hq:q+j=ls.length) (hm:j<m) (hlen:len=o.length) (ho:o.length+j<=100000) (hi:i<o.length) (hg:o.getD i []=w),
  aT env (aA env L n) L 0 [] Bz14 (lJ 1) (U1 (Z1 (U2 (Z4 (Z1 (U32 (U4 (U2 ([]))))))))) m (Y1 (nI x::Y2 (.d .nils::.sl 0 0 0 len::.d (.ivs ls.length (ints ls))::nI i::nI q::Y32 (Y4 (Y2 ([])))))) [.arr (aM o) 1 0] k
  =k (.exit 2) (Y1 (nI x::Y2 (.d .nils::.sl 0 0 0 (o++chG (ls.drop q) w).length::.d (.ivs ls.length (ints ls))::nI i::nI (ls.length)::Y32 (Y4 (Y2 ([])))))) [.arr (aM (o++chG (ls.drop q) w)) 1 0]:=by
 intro j
 induction j with
 |zero=>
  intro q m o len hq hm hlen ho hi hg;obtain _|m:=m;omega;obtain rfl:q=ls.length:=om;subst hlen;have e:o++chG (ls.drop ls.length) w=o:=by simp[chG]
  rw[e]
  simp-implicitDefEqProofs (maxSteps:=9^7) (disch:=try exact Dz) only[↓DN,↓kRet,UP,simprocAttr,Ah,FA,BJ,Tryz.f50]
 |succ j ih=>
  intro q m o len hq hm hlen ho hi hg;obtain _|m:=m;omega;subst hlen;have hk:q<ls.length:=om;have hc:(q:Int)<ls.length:=om;have hq0:(0:Int)<=q:=om;have hi0:(0:Int)<=i:=om;have hi1:(i:Int)<o.length:=om;have hmem:ls.getD q 0∈ls:=by rw[Aa,Ad hk];exact At _
  obtain⟨b0,b1⟩:=hls _ hmem
  have e:o++chG (ls.drop q) w=(o++[w++[bU (ls.getD q 0)]])++chG (ls.drop (q+1)) w:=by
   rw[cC hk (d:=0)];simp[chG]
  have hg2:(o++[w++[bU (ls.getD q 0)]]).getD i []=w:=by
   rw[Aa,Be hi,<-Aa,hg]
  have ih':=ih (q+1) m (o++[w++[bU (ls.getD q 0)]]) (o.length+1) om om smp (by simp;omega) (by simp;omega) hg2;rw[cs1 q]at ih';have kc_t:=@QG L (ls.getD q 0) b0 b1;rw[e];clear ih e hg2 hmem hls;generalize hb:ls.getD q 0=b at *;generalize o++[w++[bU b]]++chG (ls.drop (q+1)) w=z at *
  simp-implicitDefEqProofs (maxSteps:=9^7) (disch:=try exact Dz) only[↓DN,↓kRet,UP,simprocAttr,SE,hc,hq0,hi0,hi1,hb,hg,↓kc_t,mV,Bj,↓ih',FA,BJ,Tryz.f50]
theorem ZE(hn:2<=n)(hL:2^60<=L){ls:List Int}(hls:∀l∈ls,0<=l/\l<=5)(hl:ls.length<=6){x:Nat}(hx:x<=1000){k:KE R}:∀(j i m:Nat) (o:List Str) (len:Nat) (hm:j<m) (hlen:len=o.length) (ho:o.length<=90000) (hz:∀t,t<=j->(midS ls x t i o).2.length<=90000) (hstop:¬midT x (midS ls x j i o).1 (midS ls x j i o).2) (hi:i<=90000),
  aT env (aA env L n) L 0 [] Bz14 (lJ 0) Bz51 m (Y1 (nI x::Y2 (.d .nils::.sl 0 0 0 len::.d (.ivs ls.length (ints ls))::nI i::Y32 (Y4 (Y2 (Y1 ([]))))))) [.arr (aM o) 1 0] k
  =k (.exit 0) (Y1 (nI x::Y2 (.d .nils::.sl 0 0 0 (midS ls x j i o).2.length::.d (.ivs ls.length (ints ls))::nI ((midS ls x j i o).1:Int)::Y32 (Y4 (Y2 (Y1 ([]))))))) [.arr (aM (midS ls x j i o).2) 1 0]:=by
 have last:∀(i m:Nat) (o:List Str) (len:Nat),¬midT x i o->0<m->len=o.length->aT env (aA env L n) L 0 [] Bz14 (lJ 0) Bz51 m (Y1 (nI x::Y2 (.d .nils::.sl 0 0 0 len::.d (.ivs ls.length (ints ls))::nI i::Y32 (Y4 (Y2 (Y1 ([]))))))) [.arr (aM o) 1 0] k
  =k (.exit 0) (Y1 (nI x::Y2 (.d .nils::.sl 0 0 0 o.length::.d (.ivs ls.length (ints ls))::nI i::Y32 (Y4 (Y2 (Y1 ([]))))))) [.arr (aM o) 1 0]:=by
  intro i m o len hs hm hlen;obtain _|m:=m;omega;subst hlen;have hi0:(0:Int)<=i:=om
  by_cases hc:(i:Int)<o.length
  ·have hw:¬(((o.getD i []).length:Nat):Int)<x:=by
    intro h;exact hs ⟨by omega,by omega⟩
   simp-implicitDefEqProofs (maxSteps:=9^7) (disch:=try exact Dz) only[↓DN,↓kRet,UP,simprocAttr,SE,hc,hi0,hw,tR,sJ,Tryz.f50]
  ·simp-implicitDefEqProofs (maxSteps:=9^7) (disch:=try exact Dz) only[↓DN,↓kRet,UP,simprocAttr,hc,tR,sJ,Tryz.f50]
 intro j
 induction j with
 |zero=>
  intro i m o len hm hlen ho hz hstop hi;exact last i m o len hstop hm hlen
 |succ j ih=>
  intro i m o len hm hlen ho hz hstop hi
  by_cases hT:midT x i o
  ·have e:∀t,midS ls x (t+1) i o=midS ls x t (i+1) (o++chG ls (o.getD i [])):=fun t=>by
    exact aPh hT
   have z1:=hz 1 om;rw[e 0]at z1;have z1:(o++chG ls (o.getD i [])).length<=90000:=z1;have ih':=ih (i+1) (m-1) (o++chG ls (o.getD i [])) _ om rfl z1 (fun t ht=>by rw[<-e];exact hz (t+1) om) (by rw[<-e];exact hstop) (by have:=hT.1;omega);rw[cs1 i]at ih';rw[e j];obtain _|m:=m;omega;subst hlen;have hc:(i:Int)<o.length:=by have:=hT.1;omega
   have hi0:(0:Int)<=i:=om;have hw:(((o.getD i []).length:Nat):Int)<x:=by have:=hT.2;omega
   have loop_c:=fun {R n k} hn=> @ZY R L n hn hL ls hls hl (x:Nat) i (o.getD i []) om k ls.length 0 L o o.length om om rfl om om rfl;rw[Ba]at loop_c;simp only[Ap,Nat.add_sub_cancel]at loop_c ih';clear ih last hz hstop e z1 hT;generalize midS ls x j (i+1) (o++chG ls (o.getD i []))=z at *;generalize o++chG ls (o.getD i [])=o2 at *
   simp-implicitDefEqProofs (maxSteps:=9^7) (disch:=try exact Dz) only[↓DN,↓kAsg,↓kRet,UP,simprocAttr,SE,hc,hi0,hw,↓loop_c,↓ih',tR,sJ,Tryz.f50]
  ·rw[OD hT];exact last i m o len hT om hlen
theorem QR(hn:3<=n)(al:Int)(x:Nat)(hx:x<=3)(hL:2^60<=L):aA env L n 50 [nI al,nI x] []=some (.d (.ivs (midG (aB al) x).length (aM (midG (aB al) x))),[]):=by
 obtain⟨i,h1,h2,h3,h4⟩:=aV3 (ls:=aB al) (n:=x);have hl:=bO al;have hsm:=IR hl x hx;have loop_c:=fun {R n k} hn=> @ZE R L n hn hL (aB al) b9 hl x om k i 0 L [[]] 1 om rfl smp (fun t ht=>by have:=h4 t ht;omega) (by rw[h1];exact h2) om;rw[h1]at loop_c;have e1:aM [[]]=[.str []]:=rfl;rw[e1]at loop_c;simp only[Ap]at loop_c;clear h1 h2 h3 h4;generalize midG (aB al) x=w at *;generalize(i:Int)=i at *;have e4:(aM w).take w.length=aM w:=iE (Ab _);obtain _|n:=n;omega
 simp-implicitDefEqProofs (maxSteps:=9^7) (disch:=try exact Dz) only[↓DN,↓kAsg,↓kRet,UP,simprocAttr,↓gJ,SE,e4,↓loop_c,aH0,WM,Tryz.f50]
theorem aHY:type_of% fun {L} al x hx hL=>ks fun hn=> @QR L _ hn al x hx hL:=fun {L} al x hx hL=>ks fun hn=> @QR L _ hn al x hx hL
theorem N7(hn:3<=n)(v w:List UInt8)(hv:dR v=true)(hw:dR w=true)(hL:2^60<=L):aA env L n 119 [.d (.str v),.d (.str w)] []=some (.d (.bool (decide (cmpX v w<0))),[]):=by
 have e:=JD (x:=v) (y:=w);have bv:v.length<=50000:=by unfold dR at hv;simp only[Ar,decide_eq_true_eq]at hv;exact hv.1
 have bw:w.length<=50000:=by unfold dR at hw;simp only[Ar,decide_eq_true_eq]at hw;exact hw.1
 by_cases h1:(v.length:Int)<w.length
 ·rw[decide_eq_true (e.2 (.inl om))];obtain _|n:=n;omega
  simp-implicitDefEqProofs (maxSteps:=9^7) (disch:=try exact Dz) only[↓DN,↓kAsg,↓kRet,UP,simprocAttr,↓u9,hv,hw,h1,BK,vD,Tryz.f119]
 ·by_cases h2:(v.length:Int)=w.length
  ·have e2:decide (cmpX v w<0)=Op.bytesLess v w:=by
    cases hb:Op.bytesLess v w with
    |true=>exact decide_eq_true (e.2 (.inr ⟨by omega,hb⟩))
    |false=>
     refine decide_eq_false fun h=> ?_
     rcases e.1 h with h|⟨_,h⟩
     ·omega
     ·rw[hb]at h;cases h
   rw[e2];obtain _|n:=n;omega
   simp-implicitDefEqProofs (maxSteps:=9^7) (disch:=try exact Dz) only[↓DN,↓kAsg,↓kRet,UP,simprocAttr,↓u9,hv,hw,h2,Ah,BK,vD,Tryz.f119]
  ·rw[decide_eq_false fun h=>by rcases e.1 h with h|⟨h,_⟩<;>omega];obtain _|n:=n;omega
   simp-implicitDefEqProofs (maxSteps:=9^7) (disch:=try exact Dz) only[↓DN,↓kAsg,↓kRet,UP,simprocAttr,↓u9,hv,hw,h1,h2,BK,vD,Tryz.f119]
theorem aGA:type_of% fun {L} v w hv hw hL=>ks fun hn=> @N7 L _ hn v w hv hw hL:=fun {L} v w hv hw hL=>ks fun hn=> @N7 L _ hn v w hv hw hL
theorem aGU(hn:4<=n)(hL:2^60<=L){l:List Str}{w:Str}(hs:pY l)(hw:dR w=true)(hok:∀x∈l,dR x=true)(hl:l.length<=10000){k:KE R}:∀(j lo hi m:Nat) (hj:hi-lo<=j) (hm:j<m) (h1:lo<=bD l w) (h2:bD l w<=hi) (h3:hi<=l.length),
  aT env (aA env L n) L 0 [] Bz63 (G9 0) (Z2 (U2 (Z2 (Z1 (U16 (U4 ([]))))))) m (.d (.ivs l.length (aM l))::.d (.str w)::Y2 (nI 0::nI lo::nI hi::Y16 (Y4 ([])))) [] k
  =k (.exit 0) (.d (.ivs l.length (aM l))::.d (.str w)::Y2 (nI 0::nI (bD l w:Int)::nI (bD l w:Int)::Y16 (Y4 ([])))) []:=by
 intro j
 induction j with
 |zero=>
  intro lo hi m hj hm h1 h2 h3;obtain _|m:=m;omega;obtain rfl:lo=bD l w:=om;obtain rfl:hi=bD l w:=om
  simp-implicitDefEqProofs (maxSteps:=9^7) (disch:=try exact Dz) only[↓DN,↓kRet,UP,simprocAttr,Ah,nW,oU,Tryz.f86]
 |succ j ih=>
  intro lo hi m hj hm h1 h2 h3;obtain _|m:=m;omega
  by_cases hc:(lo:Int)<hi
  ·obtain⟨mid,hmid⟩:∃mid:Nat,mid=(lo+hi)/2:=⟨_,rfl⟩
   have e1:((lo:Int)+(hi:Int)).tdiv 2=(mid:Int):=by
    rw[Eu om];omega
   have hk:mid<l.length:=om;have hm1:(mid:Int)<l.length:=om;have hm0:(0:Int)<=mid:=om
   have hx:dR (l.getD mid [])=true:=by
    rw[Aa,Ad hk];exact hok _ (At _)
   have kc_b:=@aGA L (l.getD mid []) w hx hw hL;have hp:=zJ hs w mid hk;have hg:l[mid]=l.getD mid []:=by rw[Aa,Ad hk];rfl
   rw[hg]at hp;have hlo:(lo:Int)<=10000:=om;have hhi:(hi:Int)<=10000:=om
   by_cases hb:cmpX (l.getD mid []) w<0
   ·have ih':=ih (mid+1) hi m om om (by have:=hp.1 hb;omega) h2 h3;rw[cs1 mid]at ih';rw[decide_eq_true hb]at kc_b;clear ih hok hp hg hb hx hs;generalize hgx:l.getD mid []=x at *
    simp-implicitDefEqProofs (maxSteps:=9^7) (disch:=try exact Dz) only[↓DN,↓kRet,UP,simprocAttr,SE,hc,e1,hm1,hm0,hgx,↓kc_b,↓ih',nW,oU,Tryz.f86]
   ·have ih':=ih lo mid m om om h1 (by have:=mt hp.2 hb;omega) om;rw[decide_eq_false hb]at kc_b;clear ih hok hp hg hb hx hs;generalize hgx:l.getD mid []=x at *
    simp-implicitDefEqProofs (maxSteps:=9^7) (disch:=try exact Dz) only[↓DN,↓kRet,UP,simprocAttr,SE,hc,e1,hm1,hm0,hgx,↓kc_b,↓ih',nW,oU,Tryz.f86]
  ·obtain rfl:lo=bD l w:=om;obtain rfl:hi=bD l w:=om;clear ih
   simp-implicitDefEqProofs (maxSteps:=9^7) (disch:=try exact Dz) only[↓DN,↓kRet,UP,simprocAttr,hc,nW,oU,Tryz.f86]
theorem VZ(hn:5<=n)(l:List Str)(w:List UInt8)(hs:pY l)(hw:dR w=true)(hok:∀x∈l,dR x=true)(hl:l.length<=10000)(hL:2^60<=L):aA env L n 86 [.d (.ivs l.length (aM l)),.d (.str w)] []=some (nI (bD l w),[]):=by
 have loop_c:=fun {R n k} hn=> @aGU R L n hn hL l w hs hw hok hl k l.length 0 l.length L om om om aJ5 om;simp only[Ap]at loop_c;obtain _|n:=n;omega
 simp-implicitDefEqProofs (maxSteps:=9^7) (disch:=try exact Dz) only[↓DN,↓kAsg,↓kRet,UP,simprocAttr,↓loop_c,aKJ,aAn,Tryz.f86]
theorem aKY:type_of% fun {L} l w hs hw hok hl hL=>kt fun hn=> @VZ L _ hn l w hs hw hok hl hL:=fun {L} l w hs hw hok hl hL=>kt fun hn=> @VZ L _ hn l w hs hw hok hl hL
theorem zS{L:Nat}{id0 g0 o0 len0:Nat}{w:List UInt8}:KV L 86 [.sl id0 g0 o0 len0,.d (.str w)]:=fun _ _ _ _=>d7 A9
theorem aKg(hn:1<=n){l:List Str}{w:Str}{p:Nat}(hl:l.length<=10000)(hp:p<=l.length){k:KE R}:∀(j i m:Nat) (y:Str) (o:List Str) (len:Nat) (hi:i=p+j) (hil:i<=l.length) (hm:j<m) (ho:o=l.take i++y::l.drop i) (hlen:len=l.length+1),
  aT env (aA env L n) L (1) [] Bz62 (PW 0) (Z2 (U2 (Z2 (Z1 (U32 (U8 ([]))))))) m (.sl 0 1 0 len::.d (.str w)::Y2 (.d .nils::nI p::nI i::Y32 (Y8 ([])))) [.arr (aM o) 1 1] k
  =k (.exit 0) (.sl 0 1 0 len::.d (.str w)::Y2 (.d .nils::nI p::nI p::Y32 (Y8 ([])))) [.arr (aM (l.take p++(if j=0 then y else l.getD p [])::l.drop p)) 1 1]:=by
 intro j
 induction j with
 |zero=>
  intro i m y o len hi hil hm ho hlen;obtain _|m:=m;omega;obtain rfl:i=p:=om;rw[if_pos rfl,<-ho]
  simp-implicitDefEqProofs (maxSteps:=9^7) (disch:=try exact Dz) only[↓DN,↓kRet,UP,simprocAttr,Ah,NP,LZ,Tryz.f51]
 |succ j ih=>
  intro i m y o len hi hil hm ho hlen;obtain _|m:=m;omega;have hc:(p:Int)<i:=om;have hi0:(0:Int)<=i:=om;have hi1:(0:Int)<=(i:Int)-1:=om;have hib:(i:Int)<=10000:=om;have hol:o.length=l.length+1:=by rw[ho,Af,Bi,Ae,Cg];omega
  have hlo:len=o.length:=om;have hio:i<o.length:=om;have hio1:(i:Int)<o.length:=om;have hio2:(i:Int)-1<o.length:=om;have e1:((i:Int)-1).toNat=i-1:=om
  have hg:o.getD (i-1) []=l.getD (i-1) []:=by
   rw[ho,Aa,Be (by rw[Bi];omega),Dg,if_pos om,<-Aa]
  have hd:l.drop (i-1)=l.getD (i-1) []::l.drop i:=by
   rw[cC (i:=i-1) om (d:=[]),show i-1+1=i by omega]
  have hset:o.set i (l.getD (i-1) [])=l.take (i-1)++l.getD (i-1) []::l.drop (i-1):=by
   rw[ho,Dn _ _ (by rw[Bi];omega),show i-(l.take i).length=0 by rw[Bi];omega,Cj,hd]
   have:l.take i=l.take (i-1)++[l.getD (i-1) []]:=by
    obtain⟨q,rfl⟩:∃q,i=q+1:=⟨i-1,by omega⟩
    rw[Nat.add_sub_cancel,Cz,Ad om,Aa,Ad om];rfl
   rw[this,Ao];rfl
  have ih':=ih (i-1) m (l.getD (i-1) []) (o.set i (l.getD (i-1) [])) len om om om hset hlen;rw[show((i-1:Nat):Int)=(i:Int)-1 by omega]at ih'
  have hy:(if j=0 then l.getD (i-1) []else l.getD p [])=l.getD p []:=by
   split
   ·rw[show i-1=p by omega]
   ·rfl
  rw[hy]at ih';rw[if_neg om];clear ih hd hset hy ho;generalize l.take p++l.getD p []::l.drop p=z at *;generalize hgx:l.getD (i-1) []=x at *
  simp-implicitDefEqProofs (maxSteps:=9^7) (disch:=try exact Dz) only[↓DN,↓kRet,UP,simprocAttr,SE,hc,hi0,hi1,e1,hg,↓aH9,↓ih',NP,LZ,Tryz.f51]
theorem aN7(hn:6<=n)(hL:2^60<=L)(l:List Str)(w:Str)(hs:pY l)(hw:dR w=true)(hok:∀x∈l,dR x=true)(hl:l.length<=10000):aA env L n 51 [.sl 0 0 0 l.length,.d (.str w)] [.arr (aM l) 1 0]=some (.sl 0 (if w∈l then 0 else 1) 0 (ordW l w).length,[.arr (aM (ordW l w)) 1 (if w∈l then 0 else 1)]):=by
 have kl_p:=@aKY L l w hs hw hok hl hL;have hat:=aRY hs w;have hle:=aJ5 (ws:=l) (w:=w);have hp0:(0:Int)<=(bD l w:Nat):=om;have ht:(aM l).take l.length=aM l:=iE (Ab _);unfold ordW
 by_cases hin:w∈l
 ·obtain⟨h1,h2⟩:=hat.2 hin;have h1:((bD l w:Nat):Int)<l.length:=om;simp only[if_pos hin];clear hat hok hs;generalize bD l w=p at *;obtain _|n:=n;omega
  simp-implicitDefEqProofs (maxSteps:=9^7) (disch:=try exact Dz) only[↓DN,↓kAsg,↓kRet,UP,simprocAttr,↓zS,SE,↓kl_p,h1,h2,hp0,QJ,IE,Tryz.f51]
 ·simp only[if_neg hin]
  have hlen:(l.take (bD l w)++w::l.drop (bD l w)).length=l.length+1:=by
   rw[Af,Bi,Ae,Cg];omega
  rw[hlen];have loop_c:=fun {R n k} hn=> @aKg R L n hn l w (bD l w) hl hle k (l.length-bD l w) l.length L [] (l++[[]]) (l.length+1) om om om (by rw[Cu,Bu]) rfl
  have hset:∀y,(l.take (bD l w)++y::l.drop (bD l w)).set (bD l w) w=l.take (bD l w)++w::l.drop (bD l w):=by
   intro y;rw[Dn _ _ (by rw[Bi];omega),show bD l w-(l.take (bD l w)).length=0 by rw[Bi];omega];rfl
  have hyl:∀y,(l.take (bD l w)++y::l.drop (bD l w)).length=l.length+1:=by
   intro y;rw[Af,Bi,Ae,Cg];omega
  have hset:=hset (if l.length-bD l w=0 then []else l.getD (bD l w) []);have hyl:=hyl (if l.length-bD l w=0 then []else l.getD (bD l w) []);have h3:(l.length:Int)+1-1=l.length:=om;have h4:((l.length+1:Nat):Int)-1=l.length:=om;have hpl:(bD l w:Nat)<l.length+1:=om;have hpl2:((bD l w:Nat):Int)<(l.length+1:Nat):=om
  by_cases h1:((bD l w:Nat):Int)<l.length
  ·have h2:(l.getD (bD l w) []==w)=false:=by
    have:¬l.getD (bD l w) []=w:=fun h=>hin (hat.1 ⟨by omega,h⟩)
    simpa using this
   clear hat hok hs hlen;generalize l.take (bD l w)++(if l.length-bD l w=0 then []else l.getD (bD l w) [])::l.drop (bD l w)=z at *;generalize l.take (bD l w)++w::l.drop (bD l w)=z2 at *;generalize bD l w=p at *;obtain _|n:=n;omega
   simp-implicitDefEqProofs (maxSteps:=9^7) (disch:=try exact Dz) only[↓DN,↓kAsg,↓kRet,UP,simprocAttr,↓zS,SE,↓kl_p,h1,h2,h4,hp0,ht,hpl2,hset,mV,↓aH9,↓loop_c,QJ,IE,Tryz.f51]
  ·clear hat hok hs hlen;generalize l.take (bD l w)++(if l.length-bD l w=0 then []else l.getD (bD l w) [])::l.drop (bD l w)=z at *;generalize l.take (bD l w)++w::l.drop (bD l w)=z2 at *;generalize bD l w=p at *;obtain _|n:=n;omega
   simp-implicitDefEqProofs (maxSteps:=9^7) (disch:=try exact Dz) only[↓DN,↓kAsg,↓kRet,UP,simprocAttr,↓zS,SE,↓kl_p,h1,h4,hp0,ht,hpl2,hset,mV,↓aH9,↓loop_c,QJ,IE,Tryz.f51]
structure Sok(o:List Str):Prop where
 s:pY o
 n:o.length<=3000
 w:∀x∈o,dR x=true
theorem aDK{f:Str->List Str->Bool×List Str}{ws:List Str}{P:List Str->Prop}(hf:∀w∈ws,∀o,P o->(f w o).1=true->P (f w o).2):∀(j q:Nat) (o:List Str),q+j=ws.length->P o->(run3 f ws j q o).1=true->P (run3 f ws j q o).2.2
 |0,_,_,_,ho,_=>ho
 |j+1,q,o,hq,ho,h=>by
  have hk:q<ws.length:=om;have hm:ws.getD q []∈ws:=by rw[Aa,Ad hk];exact At _
  cases hb:(f (ws.getD q []) o).1 with
  |false=>rw[I8 hb]at h;cases h
  |true=>
   rw[CQ hb]at h|-;exact aDK hf j (q+1) _ om (hf _ hm o ho hb) h
theorem aTN{o:List Str}{w x:Str}(h:x∈ordW o w):x∈o\/x=w:=aL5.1 ((aDz (List.Perm.refl o) w).mem_iff.1 h)
theorem aLR{c m:Str}{ends:List Str}(hw:∀e∈ends,dR (c++m++e)=true):∀e∈ends,∀o,Sok o->(endS c m e o).1=true->Sok (endS c m e o).2:=by
 intro e he o ho h;unfold endS at h|-;simp only[Cx,decide_eq_false_iff_not]at h;refine⟨aJv ho.s _,Nat.le_of_not_lt h,fun x hx=> ?_⟩
 rcases aTN hx with hx|rfl
 ·exact ho.w x hx
 ·exact hw e he
theorem aMR{c:Str}{mids ends:List Str}(hw:∀m∈mids,∀e∈ends,dR (c++m++e)=true):∀m∈mids,∀o,Sok o->(midZ c ends m o).1=true->Sok (midZ c ends m o).2:=
 fun m hm o ho h=>aDK (aLR (hw m hm)) ends.length 0 o om ho h
theorem d5{l:List Str}{k:Nat}(h:k<l.length):l.getD k []∈l:=by
 rw[Aa,Ad h];exact At _
structure Parts(cov mids ends:List Str):Prop where
 w:∀c∈cov,∀m∈mids,∀e∈ends,dR (c++m++e)=true
 c:∀c∈cov,c.length<=1000
 m:∀c∈mids,c.length<=1000
 e:∀c∈ends,c.length<=1000
 nc:cov.length<=1000
 nm:mids.length<=1000
 ne:ends.length<=1000
theorem aWV{k:KA R}(hn:6<=n)(hL:2^60<=L)(o:List Str)(w:Str)(ho:Sok o)(hw:dR w=true):aX env (aA env L n) [.arr (aM o) 1 0] 51 [.sl 0 0 0 o.length,.d (.str w)] k=k (.sl 0 (if w∈o then 0 else 1) 0 (ordW o w).length) [.arr (aM (ordW o w)) 1 (if w∈o then 0 else 1)]:=
 UJ (h:=[.arr (aM o) 1 0]) (k:=k) (id:=0) (g2:=if w∈o then 0 else 1) (len:=(ordW o w).length) (cs2:=aM (ordW o w)) (e2:=1) rfl rfl G5 (aN7 hn hL o w ho.s hw ho.w (by have:=ho.n;omega))
theorem aAT(hn:7<=n)(hL:2^60<=L){cov mids ends:List Str}(hP:Parts cov mids ends){i q:Nat}(hi:i<cov.length)(hq:q<mids.length){k:KE R}:∀(j p m:Nat) (o:List Str) (len:Nat) (hp:p+j=ends.length) (hm:j<m) (hlen:len=o.length) (ho:Sok o),
  aT env (aA env L n) L 0 [] Bz13 (jG 2) (U4 (Z8 (Z1 (U32 (U16 (U8 (U2 (U1 ([]))))))))) m (Y4 (.d .nils::.d (.bool false)::.d (.ivs cov.length (aM cov))::.d (.ivs ends.length (aM ends))::.d (.ivs mids.length (aM mids))::.sl 0 0 0 len::nI i::nI q::nI p::Y32 (Y16 (Y8 (Y2 (Y1 ([]))))))) [.arr (aM o) 1 0] k
  =k (if(run3 (endS (cov.getD i []) (mids.getD q [])) ends j p o).1=true then .exit 4 else .ret) (Y4 (.d .nils::.d (.bool false)::.d (.ivs cov.length (aM cov))::.d (.ivs ends.length (aM ends))::.d (.ivs mids.length (aM mids))::.sl 0 0 0 (run3 (endS (cov.getD i []) (mids.getD q [])) ends j p o).2.2.length::nI i::nI q::nI ((run3 (endS (cov.getD i []) (mids.getD q [])) ends j p o).2.1:Int)::Y32 (Y16 (Y8 (Y2 (Y1 ([]))))))) [.arr (aM (run3 (endS (cov.getD i []) (mids.getD q [])) ends j p o).2.2) 1 0]:=by
 intro j
 induction j with
 |zero=>
  intro p m o len hp hm hlen ho;obtain _|m:=m;omega;obtain rfl:p=ends.length:=om;subst hlen;have e:∀f,run3 f ends 0 ends.length o=(true,ends.length,o):=fun _=>rfl;rw[e];simp only[if_true]
  simp-implicitDefEqProofs (maxSteps:=9^7) (disch:=try exact Dz) only[↓DN,↓kRet,UP,simprocAttr,Ah,s7,sG,Tryz.f22]
 |succ j ih=>
  intro p m o len hp hm hlen ho;obtain _|m:=m;omega;subst hlen;have hpe:p<ends.length:=om;have hc1:(p:Int)<ends.length:=om;have hc2:(i:Int)<cov.length:=om;have hc3:(q:Int)<mids.length:=om;have hp0:(0:Int)<=p:=om;have hi0:(0:Int)<=i:=om;have hq0:(0:Int)<=q:=om;have hw:=hP.w _ (d5 hi) _ (d5 hq) _ (d5 hpe);have hcl:=hP.c _ (d5 hi);have hml:=hP.m _ (d5 hq);have hel:=hP.e _ (d5 hpe);have hcm:(cov.getD i []++mids.getD q []).length<=2000:=by rw[Af];omega
  have hinv:=aLR (ends:=ends) (hP.w _ (d5 hi) _ (d5 hq)) _ (d5 hpe) o ho;have hol:=ho.n;have hne:=hP.ne;have kc_p:=fun {R n k} hn=> @aWV R L n k hn hL o (cov.getD i []++mids.getD q []++ends.getD p []) ho hw;have hb:(endS (cov.getD i []) (mids.getD q []) (ends.getD p []) o)=(!decide (3000<(ordW o (cov.getD i []++mids.getD q []++ends.getD p [])).length),ordW o (cov.getD i []++mids.getD q []++ends.getD p [])):=rfl;have hz:=(aTS (ws:=o) (w:=cov.getD i []++mids.getD q []++ends.getD p [])).2
  by_cases hb1:3000<(ordW o (cov.getD i []++mids.getD q []++ends.getD p [])).length
  ·have hb2:(3000:Int)<(ordW o (cov.getD i []++mids.getD q []++ends.getD p [])).length:=om;rw[I8 (by rw[hb,decide_eq_true hb1];rfl),hb];simp only[Al,if_false];clear ih hinv hb hw ho hP;generalize(if cov.getD i []++mids.getD q []++ends.getD p []∈o then 0 else 1)=g at *;generalize ordW o (cov.getD i []++mids.getD q []++ends.getD p [])=o2 at *;generalize hci:cov.getD i []=c at *;generalize hmi:mids.getD q []=mm at *;generalize hei:ends.getD p []=e at *
   simp-implicitDefEqProofs (maxSteps:=9^7) (disch:=try exact Dz) only[↓DN,↓kAsg,↓kRet,UP,simprocAttr,SE,hc1,hc2,hc3,hp0,hi0,hq0,hb2,hci,hmi,hei,↓kc_p,Bj,s7,sG,Tryz.f22]
  ·have hb2:¬(3000:Int)<(ordW o (cov.getD i []++mids.getD q []++ends.getD p [])).length:=om;rw[CQ (by rw[hb,decide_eq_false hb1];rfl),hb];have ih':=ih (p+1) m _ _ om om rfl (hinv (by rw[hb,decide_eq_false hb1];rfl));rw[hb]at ih';rw[cs1 p]at ih';simp only at ih'|-;clear ih hinv hb hw ho hP;generalize(if cov.getD i []++mids.getD q []++ends.getD p []∈o then 0 else 1)=g at *;generalize ordW o (cov.getD i []++mids.getD q []++ends.getD p [])=o2 at *;generalize run3 (endS (cov.getD i []) (mids.getD q [])) ends j (p+1) o2=z at *;generalize hci:cov.getD i []=c at *;generalize hmi:mids.getD q []=mm at *;generalize hei:ends.getD p []=e at *
   simp-implicitDefEqProofs (maxSteps:=9^7) (disch:=try exact Dz) only[↓DN,↓kRet,UP,simprocAttr,SE,hc1,hc2,hc3,hp0,hi0,hq0,hb2,hci,hmi,hei,↓kc_p,Bj,↓ih',s7,sG,Tryz.f22]
theorem aAC(hn:7<=n)(hL:2^60<=L){cov mids ends:List Str}(hP:Parts cov mids ends){i:Nat}(hi:i<cov.length){k:KE R}:∀(j p m:Nat) (o:List Str) (len:Nat) (hp:p+j=mids.length) (hm:j<m) (hlen:len=o.length) (ho:Sok o),
  aT env (aA env L n) L 0 [] Bz13 (jG 1) (U4 (Z8 (U32 (U16 (U8 (U4 ([]))))))) m (Y4 (.d .nils::.d (.bool false)::.d (.ivs cov.length (aM cov))::.d (.ivs ends.length (aM ends))::.d (.ivs mids.length (aM mids))::.sl 0 0 0 len::nI i::nI p::Y32 (Y16 (Y8 (Y4 ([])))))) [.arr (aM o) 1 0] k
  =k (if(run3 (midZ (cov.getD i []) ends) mids j p o).1=true then .exit 2 else .ret) (Y4 (.d .nils::.d (.bool false)::.d (.ivs cov.length (aM cov))::.d (.ivs ends.length (aM ends))::.d (.ivs mids.length (aM mids))::.sl 0 0 0 (run3 (midZ (cov.getD i []) ends) mids j p o).2.2.length::nI i::nI ((run3 (midZ (cov.getD i []) ends) mids j p o).2.1:Int)::Y32 (Y16 (Y8 (Y4 ([])))))) [.arr (aM (run3 (midZ (cov.getD i []) ends) mids j p o).2.2) 1 0]:=by
 intro j
 induction j with
 |zero=>
  intro p m o len hp hm hlen ho;obtain _|m:=m;omega;obtain rfl:p=mids.length:=om;subst hlen;have e:∀f,run3 f mids 0 mids.length o=(true,mids.length,o):=fun _=>rfl;rw[e];simp only[if_true]
  simp-implicitDefEqProofs (maxSteps:=9^7) (disch:=try exact Dz) only[↓DN,↓kRet,UP,simprocAttr,Ah,t6,sK,Tryz.f22]
 |succ j ih=>
  intro p m o len hp hm hlen ho;obtain _|m:=m;omega;subst hlen;have hpm:p<mids.length:=om;have hc1:(p:Int)<mids.length:=om;have hmn:=hP.nm;have hne:=hP.ne;have loop_c:=fun {R n k} hn=> @aAT R L n hn hL cov mids ends hP i p hi hpm k ends.length 0 L o o.length om om rfl ho;simp only[Ap]at loop_c;have hinv:=aMR (fun m hm=>hP.w _ (d5 hi) m hm) _ (d5 hpm) o ho;have hz:midZ (cov.getD i []) ends (mids.getD p []) o=((run3 (endS (cov.getD i []) (mids.getD p [])) ends ends.length 0 o).1,(run3 (endS (cov.getD i []) (mids.getD p [])) ends ends.length 0 o).2.2):=rfl
  cases hb:(run3 (endS (cov.getD i []) (mids.getD p [])) ends ends.length 0 o).1 with
  |false=>
   rw[I8 (by rw[hz,hb]),hz];rw[hb]at loop_c;simp only[Al,if_false]at loop_c|-;clear ih hinv hz hb ho hP;generalize run3 (endS (cov.getD i []) (mids.getD p [])) ends ends.length 0 o=z at *
   simp-implicitDefEqProofs (maxSteps:=9^7) (disch:=try exact Dz) only[↓DN,↓kAsg,↓kRet,UP,simprocAttr,hc1,↓loop_c,t6,sK,Tryz.f22]
  |true=>
   rw[CQ (by rw[hz,hb]),hz];have ih':=ih (p+1) m _ _ om om rfl (hinv (by rw[hz,hb]));rw[hz,cs1 p]at ih';rw[hb]at loop_c;simp only[if_true]at loop_c ih'|-;clear ih hinv hz hb ho hP;generalize run3 (endS (cov.getD i []) (mids.getD p [])) ends ends.length 0 o=z at *;generalize run3 (midZ (cov.getD i []) ends) mids j (p+1) z.2.2=z2 at *
   simp-implicitDefEqProofs (maxSteps:=9^7) (disch:=try exact Dz) only[↓DN,↓kAsg,↓kRet,UP,simprocAttr,hc1,↓loop_c,↓ih',t6,sK,Tryz.f22]
theorem YA(hn:7<=n)(hL:2^60<=L){cov mids ends:List Str}(hP:Parts cov mids ends){k:KE R}:∀(j p m:Nat) (o:List Str) (len:Nat) (hp:p+j=cov.length) (hm:j<m) (hlen:len=o.length) (ho:Sok o),
  aT env (aA env L n) L 0 [] Bz13 (jG 0) (U4 (Z4 (Z2 (Z1 (U32 (U16 (U8 (U4 (U1 ([])))))))))) m (Y4 (.d .nils::.d (.bool false)::.d (.ivs cov.length (aM cov))::.d (.ivs ends.length (aM ends))::.d (.ivs mids.length (aM mids))::.sl 0 0 0 len::nI p::Y32 (Y16 (Y8 (Y4 (Y1 ([]))))))) [.arr (aM o) 1 0] k
  =k (if(run3 (covZ mids ends) cov j p o).1=true then .exit 0 else .ret) (Y4 (.d .nils::.d (.bool false)::.d (.ivs cov.length (aM cov))::.d (.ivs ends.length (aM ends))::.d (.ivs mids.length (aM mids))::.sl 0 0 0 (run3 (covZ mids ends) cov j p o).2.2.length::nI ((run3 (covZ mids ends) cov j p o).2.1:Int)::Y32 (Y16 (Y8 (Y4 (Y1 ([]))))))) [.arr (aM (run3 (covZ mids ends) cov j p o).2.2) 1 0]:=by
 intro j
 induction j with
 |zero=>
  intro p m o len hp hm hlen ho;obtain _|m:=m;omega;obtain rfl:p=cov.length:=om;subst hlen;have e:∀f,run3 f cov 0 cov.length o=(true,cov.length,o):=fun _=>rfl;rw[e];simp only[if_true]
  simp-implicitDefEqProofs (maxSteps:=9^7) (disch:=try exact Dz) only[↓DN,↓kRet,UP,simprocAttr,Ah,uH,sS,Tryz.f22]
 |succ j ih=>
  intro p m o len hp hm hlen ho;obtain _|m:=m;omega;subst hlen;have hpm:p<cov.length:=om;have hc1:(p:Int)<cov.length:=om;have hmn:=hP.nm;have hcn:=hP.nc;have loop_c:=fun {R n k} hn=> @aAC R L n hn hL cov mids ends hP p hpm k mids.length 0 L o o.length om om rfl ho;simp only[Ap]at loop_c;have hinv:(covZ mids ends (cov.getD p []) o).1=true->Sok (covZ mids ends (cov.getD p []) o).2:=aDK (aMR (fun m hm=>hP.w _ (d5 hpm) m hm)) mids.length 0 o om ho;have hz:covZ mids ends (cov.getD p []) o=((run3 (midZ (cov.getD p []) ends) mids mids.length 0 o).1,(run3 (midZ (cov.getD p []) ends) mids mids.length 0 o).2.2):=rfl
  cases hb:(run3 (midZ (cov.getD p []) ends) mids mids.length 0 o).1 with
  |false=>
   rw[I8 (by rw[hz,hb]),hz];rw[hb]at loop_c;simp only[Al,if_false]at loop_c|-;clear ih hinv hz hb ho hP;generalize run3 (midZ (cov.getD p []) ends) mids mids.length 0 o=z at *
   simp-implicitDefEqProofs (maxSteps:=9^7) (disch:=try exact Dz) only[↓DN,↓kAsg,↓kRet,UP,simprocAttr,hc1,↓loop_c,uH,sS,Tryz.f22]
  |true=>
   rw[CQ (by rw[hz,hb]),hz];have ih':=ih (p+1) m _ _ om om rfl (hinv (by rw[hz,hb]));rw[hz,cs1 p]at ih';rw[hb]at loop_c;simp only[if_true]at loop_c ih'|-;clear ih hinv hz hb ho hP;generalize run3 (midZ (cov.getD p []) ends) mids mids.length 0 o=z at *;generalize run3 (covZ mids ends) cov j (p+1) z.2.2=z2 at *
   simp-implicitDefEqProofs (maxSteps:=9^7) (disch:=try exact Dz) only[↓DN,↓kAsg,↓kRet,UP,simprocAttr,hc1,↓loop_c,↓ih',uH,sS,Tryz.f22]
def dJ(a:Aut)(x:Int):Option (List Str):=if cA a.al a.nx a.ac=true/\0<=x/\x<=2 then tN (bX a) (midG (aB a.al) (x.toNat+1)) (sepW a)else none
theorem aLe{a:Aut}(h:AOK a){e:Nat}(he:e<=2):Parts (bX a) (midG (aB a.al) (e+1)) (sepW a):=by
 obtain⟨_,_,a1,a2,_⟩:=aR h;have ha:=(fK h).2.2.2;have h1:=H3 h;have h2:=TV h;have h3:=IR (bO a.al) (e+1) om;exact⟨fun c hc m hm w hw=>((aNj h hc hm hw).ok ha om).2,fun c hc=>by have:=(aM4 h c hc).1;omega,fun c hc=>by have:=(aLc c hc).1;omega,fun c hc=>by have:=(aMV h c hc).1;omega,by omega,by omega,by omega⟩
theorem RH(hn:15<=n)(a:Aut)(x:Int)(hs:aW a.nx)(hac:a.ac.length<=4294967296)(hL:2^60<=L):aA env L n 22 [.agg [nI a.al,.d (.ivs a.nx.length (aE a.nx)),.d (.ivs a.ac.length (aD a.ac))],nI x] []=some (.tup [.d (.ivs ((dJ a x).getD []).length (aM ((dJ a x).getD []))),.d (.bool (dJ a x).isSome)],[]):=by
 have hrl:=hs.1
 cases hv:cA a.al a.nx a.ac with
 |false=>
  have e:dJ a x=none:=if_neg fun h=>by rw[hv]at h;cases h.1
  rw[e];simp only[Option.getD_none,Cn,Ac,lF];obtain _|n:=n;omega
  simp-implicitDefEqProofs (maxSteps:=9^7) (disch:=try exact Dz) only[↓DN,↓kAsg,↓kRet,UP,simprocAttr,↓bB,hv,oF,mJ,Tryz.f22]
 |true=>
  by_cases hx0:x<0
  ·have e:dJ a x=none:=if_neg fun h=>by omega
   rw[e];simp only[Option.getD_none,Cn,Ac,lF];obtain _|n:=n;omega
   simp-implicitDefEqProofs (maxSteps:=9^7) (disch:=try exact Dz) only[↓DN,↓kAsg,↓kRet,UP,simprocAttr,↓bB,hv,hx0,oF,mJ,Tryz.f22]
  ·by_cases hx1:2<x
   ·have e:dJ a x=none:=if_neg fun h=>by omega
    rw[e];simp only[Option.getD_none,Cn,Ac,lF];obtain _|n:=n;omega
    simp-implicitDefEqProofs (maxSteps:=9^7) (disch:=try exact Dz) only[↓DN,↓kAsg,↓kRet,UP,simprocAttr,↓bB,hv,hx0,hx1,oF,mJ,Tryz.f22]
   ·obtain⟨e,rfl⟩:∃e:Nat,x=e:=⟨x.toNat,by omega⟩
    have he:e<=2:=om;have hP:=aLe (a:=a) hv he;have e1:dJ a e=tN (bX a) (midG (aB a.al) (e+1)) (sepW a):=if_pos ⟨hv,by omega,by omega⟩;have e2:ZH a=bX a:=by unfold ZH;exact if_pos hv
    have e3:sepR a=sepW a:=by unfold sepR;exact if_pos hv
    have kc_c:=@aFt L a hs hac hL;have kc_w:=@TD L a hs hac hL;have kc_m:=@aHY L a.al (e+1) om hL;rw[e2]at kc_c;rw[e3]at kc_w;rw[cs1 e]at kc_m;have hcn:=hP.nc;have loop_c:=fun {R n k} hn=> @YA R L n hn hL _ _ _ hP k (bX a).length 0 L [] 0 om om rfl ⟨List.Pairwise.nil,by simp,by simp⟩;have hr:=TC (f:=covZ (midG (aB a.al) (e+1)) (sepW a)) (ws:=bX a) (bX a).length 0 [] om;rw[Ba,aVX]at hr;have hr:tN (bX a) (midG (aB a.al) (e+1)) (sepW a)=_:=hr;rw[e1];simp only[Ap,lF]at loop_c;generalize tN (bX a) (midG (aB a.al) (e+1)) (sepW a)=S at *;clear hP e1 e2 e3;generalize bX a=cov at *;generalize midG (aB a.al) (e+1)=mids at *;generalize sepW a=ends at *;generalize run3 (covZ mids ends) cov cov.length 0 []=z at *
    cases hb:z.1 with
    |false=>
     rw[hb,if_neg Bool.false_ne_true]at hr;rw[hr];rw[hb]at loop_c;simp only[Option.getD_none,Cn,Ac,lF,Al,if_false]at loop_c|-;obtain _|n:=n;omega
     simp-implicitDefEqProofs (maxSteps:=9^7) (disch:=try exact Dz) only[↓DN,↓kAsg,↓kRet,UP,simprocAttr,↓bB,hv,hx0,hx1,↓kc_c,↓kc_w,↓kc_m,↓loop_c,oF,mJ,Tryz.f22]
    |true=>
     rw[hb,if_pos rfl]at hr;rw[hr];rw[hb]at loop_c;simp only[Bg,Cv,if_true]at loop_c|-;have e4:(aM z.2.2).take z.2.2.length=aM z.2.2:=iE (Ab _);obtain _|n:=n;omega
     simp-implicitDefEqProofs (maxSteps:=9^7) (disch:=try exact Dz) only[↓DN,↓kAsg,↓kRet,UP,simprocAttr,↓bB,SE,hv,hx0,hx1,e4,↓kc_c,↓kc_w,↓kc_m,↓loop_c,oF,mJ,Tryz.f22]
theorem SM:type_of% fun {L} a x hs hac hL=>ks fun hn=> @RH L _ hn a x hs hac hL:=fun {L} a x hs hac hL=>ks fun hn=> @RH L _ hn a x hs hac hL
end
end Ev
end Go.Proofs.YtppffbehejpglaaGreatDoor
