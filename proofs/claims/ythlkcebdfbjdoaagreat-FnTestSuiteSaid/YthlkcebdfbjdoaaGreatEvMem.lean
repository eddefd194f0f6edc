/-
  Objects renamed: a part of memory handed over, put back; objects numbered anew.
-/
import Derived.Test.YthlkcebdfbjdoaaGreatEvRel
namespace Go.Proofs.YthlkcebdfbjdoaaGreat
namespace Ev
section
variable{G:Gnd}
theorem bE:∀ {ord:List Nat} {i k:Nat},aH ord i=some k->ord[k]? =some i
 | [],_,_,h=>by simp[aH]at h
 |j::ord,i,k,h=>by
  simp only[aH]at h
  split at h
  ·grind
  ·cases hp:aH ord i with
   |none=>grind
   |some m=>rw[hp]at h;simp at h;subst h;simpa using bE hp
theorem yM:∀ {ord:List Nat} {i:Nat},i∉ord->aH ord i=none
 | [],_,_=>rfl
 |j::ord,i,h=>by
  simp only[Au,not_or]at h;simp only[aH,if_neg (Ne.symm h.1),yM h.2,Cp]
theorem AK{ord:List Nat}{i k:Nat}(h:aH ord i=some k):k<ord.length:=
 (As.1 (bE h)).1
theorem JY{ord:List Nat}{i k:Nat}(h:aH ord i=some k):i∈ord:=
 Bj (bE h)
theorem dW:∀ {ord:List Nat},ord.Nodup->∀ {i k:Nat},ord[k]? =some i->aH ord i=some k
 | [],_,_,_,h=>by simp at h
 |j::ord,hn,i,k,h=>by
  simp only[List.nodup_cons]at hn;simp only[aH]
  cases k with
  |zero=>grind
  |succ k=>
   have h':ord[k]? =some i:=by grind
   have hm:i∈ord:=by grind
   rw[if_neg (fun(e:j=i)=>hn.1 (e▸hm)),dW hn.2 h'];rfl
theorem cC{ord:List Nat}{i:Nat}(h:i∈ord):∃k,aH ord i=some k:=by
 induction ord with
 |nil=>grind
 |cons j ord ih=>
  simp only[aH]
  by_cases e:j=i
  ·simp_all
  ·grind
theorem bW:∀(n:Nat) (h:H) (todo acc:List Nat),acc.Nodup->(aD n h todo acc).Nodup
 |0,_,_,_,hn=>by simpa only[aD]using hn
 |_+1,_,[],_,hn=>by simpa only[aD]using hn
 |n+1,h,i::todo,acc,hn=>by
  simp only[aD]
  split
  ·exact bW n h todo acc hn
  ·rename_i hc
   have hc':i∉acc:=by grind
   have:(acc++[i]).Nodup:=by grind
   split
   ·exact bW n h _ _ this
   ·exact bW n h _ _ this
   ·exact bW n h _ _ hn
   ·exact bW n h _ _ this
   ·exact bW n h _ _ hn
theorem kG:∀(n:Nat) (h:H) (todo acc:List Nat),(∀i∈acc,i<h.length)->∀i∈aD n h todo acc,i<h.length
 |0,_,_,_,hn=>by simpa only[aD]using hn
 |_+1,_,[],_,hn=>by simpa only[aD]using hn
 |n+1,h,i::todo,acc,hn=>by
  simp only[aD]
  split
  ·exact kG n h todo acc hn
  ·have key:∀o,h[i]? =some o->∀j∈acc++[i],j<h.length:=by
    intro o ho j hj;simp only[Al,Bk]at hj
    rcases hj with hj|rfl
    ·grind
    ·grind
   split
   ·rename_i cs ho;exact kG n h _ _ (key _ ho)
   ·rename_i cs _ _ ho;exact kG n h _ _ (key _ ho)
   ·exact kG n h _ _ hn
   ·rename_i o _ _ _ ho;exact kG n h _ _ (key _ ho)
   ·exact kG n h _ _ hn
theorem mO:∀(n:Nat) (h:H) (todo acc:List Nat),∃l,aD n h todo acc=acc++l
 |0,_,_,acc=>⟨[],by simp[aD]⟩
 |_+1,_,[],acc=>⟨[],by simp[aD]⟩
 |n+1,h,i::todo,acc=>by
  simp only[aD]
  split
  ·exact mO n h todo acc
  ·split
   ·obtain⟨l,hl⟩:=mO n h (todo++idsL _) (acc++[i]);exact⟨i::l,by rw[hl];simp⟩
   ·obtain⟨l,hl⟩:=mO n h (todo++idsL _) (acc++[i]);exact⟨i::l,by rw[hl];simp⟩
   ·exact mO n h todo acc
   ·obtain⟨l,hl⟩:=mO n h todo (acc++[i]);exact⟨i::l,by rw[hl];simp⟩
   ·exact mO n h todo acc
def sub(ord:List Nat)(ρ:Rho):Rho:=fun k=>(ord[k]?).bind ρ
theorem gL(f:Nat->Option Nat)(o:O):live (mapO f o)↔live o:=by
 cases o<;>simp[live,mapO]
theorem aAp(h:H)(ord:List Nat)(k:Nat):(pack h ord)[k]? =(ord[k]?).map fun i=>mapO (aH ord) (h.getD i default):=by
 simp[pack]
theorem iZ{h:H}{ord:List Nat}{k i:Nat}{o:O}(hk:ord[k]? =some i)(ho:h[i]? =some o):(pack h ord)[k]? =some (mapO (aH ord) o):=by
 rw[aAp,hk];simp[Aa,ho]
theorem aEW{f:Nat->Option Nat}:∀(cs:List A) (m:Nat),(aE f cs)[m]? =(cs[m]?).map (mapA f)
 | [],m=>by simp[aE]
 |c::cs,m=>by cases m<;>simp[aE,aEW cs]
theorem C0{f:Nat->Option Nat}:∀(cs:List A),(aE f cs).length=cs.length
 | []=>by simp[aE]
 |c::cs=>by simp[aE,C0 cs]
theorem mJ{h h':H}{ρ ρ':Rho}{w:World}{I:Nat->Prop}{i k:Nat}{f:Nat->Option Nat}
  (ho:∀o,h[i]? =some o->h'[k]? =some (mapO f o)) (hr:ρ' k=ρ i):jO h ρ w I i h' ρ' w I k:=by
 cases hi:h[i]? with
 |none=>exact⟨fun _ _ _ _ _ hs=>by simp[slOK,hi]at hs,fun _ _ hs=>by simp[ptOK,hi]at hs,fun _ hs=>by simp[mpOK,hi]at hs⟩
 |some o=>
  have hk:=ho o hi
  cases o with
  |arr cs e g=>
   exact⟨fun gen off len a cap hs=>by simp only[slOK,hi]at hs;simp only[slOK,hk,hr];exact hs,fun gen b hs=>by simp only[ptOK,hi]at hs;simp only[ptOK,hk,hr];exact hs,fun b hs=>by simp only[mpOK,hi]at hs⟩
  |box cs=>
   exact⟨fun gen off len a cap hs=>by simp only[slOK,hi]at hs,fun gen b hs=>by simp only[ptOK,hi]at hs;simp only[ptOK,hk,hr];exact hs,fun b hs=>by simp only[mpOK,hi]at hs⟩
  |vec cs e g=>
   simp only[mapO]at hk;exact⟨fun gen off len a cap hs=>by simp only[slOK,hi]at hs;simp only[slOK,hk,hr,C0];exact hs,fun gen b hs=>by simp only[ptOK,hi]at hs;simp only[ptOK,hk,hr];exact hs,fun b hs=>by simp only[mpOK,hi]at hs⟩
  |ice cs e g=>
   exact⟨fun gen off len a cap hs=>by simp only[slOK,hi]at hs;simp only[slOK,hk];exact hs,fun gen b hs=>by simp only[ptOK,hi]at hs;simp only[ptOK,hk];exact hs,fun b hs=>by simp only[mpOK,hi]at hs⟩
  |log cs=>
   exact⟨fun gen off len a cap hs=>by simp only[slOK,hi]at hs;simp only[slOK,hk,hr];exact hs,fun gen b hs=>by simp only[ptOK,hi]at hs;simp only[ptOK,hk,hr];exact hs,fun b hs=>by simp only[mpOK,hi]at hs⟩
  |mp es=>
   exact⟨fun gen off len a cap hs=>by simp only[slOK,hi]at hs,fun gen b hs=>by simp only[ptOK,hi]at hs,fun b hs=>by simp only[mpOK,hi]at hs;simp only[mpOK,hk,hr];exact hs⟩
  |void=>exact⟨fun _ _ _ _ _ hs=>by simp[slOK,hi]at hs,fun _ _ hs=>by simp[ptOK,hi]at hs,fun _ hs=>by simp[mpOK,hi]at hs⟩
theorem lK(w:World)(I:Nat->Prop):Imm w I w I:=fun _ h=>⟨h,rfl⟩
theorem aIc{h h':H}{ρ ρ':Rho}{w:World}{I:Nat->Prop}{i k:Nat}{f:Nat->Option Nat}{o:O}(hf:∀id k,f id=some k->jO h ρ w I id h' ρ' w I k)
  (hr:ρ' k=ρ i) (ho:OR h ρ w I i o):OR h' ρ' w I k (mapO f o):=by
 cases o with
 |arr cs e g=>simp only[OR,mapO,hr]at ho|-;exact ho
 |log cs=>simp only[OR,mapO,hr]at ho|-;exact ho
 |box cs=>
  simp only[OR,mapO,hr]at ho|-;obtain⟨b,hb,hi,C,E,fz,h1,h2,h3⟩:=ho;refine⟨b,hb,hi,C,E,fz,h1,h2,?_⟩;intro m c hm
  have hlen:(aE f cs)[m]? =(cs[m]?).map (mapA f):=by
   clear h3 hm
   induction cs generalizing m with
   |nil=>simp[aE]
   |cons c cs ih=>cases m<;>simp[aE,ih]
  rw[hlen]at hm
  cases hc:cs[m]? with
  |none=>grind
  |some c0=>
   rw[hc]at hm;simp at hm;subst hm;obtain⟨v,hv,ha,hk⟩:=h3 m c0 hc;exact⟨v,hv,CK (lK w I) hf c0 v ha,hk⟩
 |vec cs e g=>
  simp only[OR,mapO,hr]at ho|-
  cases hρ:ρ i with
  |none=>rw[hρ]at ho;simp only at ho|-;subst ho;rfl
  |some b=>
   rw[hρ]at ho;obtain⟨hez,hi,C,E,fz,h1,h2,h3⟩:=ho;refine⟨hez,hi,C,E,fz,h1,h2,?_⟩;intro m c hm;rw[aEW]at hm
   cases hc:cs[m]? with
   |none=>grind
   |some c0=>
    rw[hc]at hm;simp at hm;subst hm;obtain⟨v,hv,ha,hk⟩:=h3 m c0 hc;exact⟨v,hv,CK (lK w I) hf c0 v ha,hk⟩
 |mp es=>simp only[OR,mapO,hr]at ho|-;exact ho
 |ice cs e g=>simp only[OR,mapO]
 |void=>simp only[OR,mapO]
theorem aAC{h:H}{ρ:Rho}{w:World}{I:Nat->Prop}{ord:List Nat}(r:Rel G h ρ w I)(hn:ord.Nodup)(hl:∀i∈ord,i<h.length):Rel G (pack h ord) (sub ord ρ) w I:=by
 have hf:∀id k,aH ord id=some k->jO h ρ w I id (pack h ord) (sub ord ρ) w I k:=fun id k hk=>
  mJ (fun o ho=>iZ (bE hk) ho) (by simp[sub,bE hk])
 have look:∀(k:Nat) (o:O),(pack h ord)[k]? =some o->∃(i:Nat) (o':O),ord[k]? =some i/\h[i]? =some o'/\o=mapO (aH ord) o':=by
  intro k o ho;rw[aAp]at ho
  cases hk:ord[k]? with
  |none=>grind
  |some i=>grind
 refine⟨fun k o ho=> ?_,fun k k' b o o' hk hk' ho ho' hlv hlv'=> ?_,r.imm,r.ground⟩
 ·obtain⟨i,o',hk,hi,rfl⟩:=look k o ho;exact aIc hf (by simp[sub,hk]) (r.obj i o' hi)
 ·obtain⟨i,o1,hi,h1,rfl⟩:=look k o ho;obtain⟨j,o2,hj,h2,rfl⟩:=look k' o' ho';have e:i=j:=r.inj i j b o1 o2 (by simpa [sub,hi]using hk) (by simpa [sub,hj]using hk') h1 h2 ((gL _ _).1 hlv) ((gL _ _).1 hlv');subst e;have a1:=dW hn hi;have a2:=dW hn hj;rw[a1]at a2;cases a2;rfl
theorem yG{h:H}{ρ:Rho}{ord:List Nat}(hl:∀i∈ord,i<h.length){b:Nat}(ho:tA (pack h ord) (sub ord ρ) b):∃i o,i∈ord/\ρ i=some b/\h[i]? =some o/\live o:=by
 obtain⟨k,o,hk,ho,hlv⟩:=ho;rw[aAp]at ho
 cases hi:ord[k]? with
 |none=>grind
 |some i=>
  have hm:=Bj hi;have hlt:=hl i hm;rw[hi]at ho;simp[Aa,hlt]at ho;subst ho;exact⟨i,h[i],hm,by simpa [sub,hi]using hk,by simp,(gL _ _).1 hlv⟩
theorem BU(f:Nat->Option Nat):∀(ord:List Nat) (h rest:H) (id:Nat),ord.Nodup->(∀i∈ord,i<h.length)->ord.length<=rest.length->
  (bG f h ord rest)[id]? =match aH ord id with
   |some k=>(rest[k]?).map (mapO f)
   |none=>if id<h.length then h[id]? else(rest[ord.length+(id-h.length)]?).map (mapO f)
 | [],h,rest,id,_,_,_=>by
  simp only[bG,aH,Ac,Ag]
  by_cases hlt:id<h.length
  ·grind
  ·grind
 |i::ord,h,[],id,_,_,hl=>by grind
 |i::ord,h,o::rest,id,hn,hr,hl=>by
  simp only[List.nodup_cons]at hn;have hi:i<h.length:=by simp_all
  simp only[bG];rw[BU f ord _ rest id hn.2 (fun j hj=>by simpa using hr j (by simp[hj])) (by simpa using hl)];simp only[aH,Bl,Ad]
  by_cases e:i=id
  ·subst e;rw[yM hn.1];simp[hi]
  ·grind
theorem NQ(f:Nat->Option Nat):∀(ord:List Nat) (h rest:H),ord.length<=rest.length->h.length<=(bG f h ord rest).length
 | [],h,rest,_=>by simp[bG]
 |i::ord,h,[],hl=>by simp at hl
 |i::ord,h,o::rest,hl=>by
  simp only[bG];have:=NQ f ord (h.set i (mapO f o)) rest (by simpa using hl)
  simpa using this
def mrg(ord:List Nat)(n:Nat)(ρ ρ1:Rho):Rho:=fun id=>
 match aH ord id with
 |some k=>ρ1 k
 |none=>if id<n then ρ id else ρ1 (ord.length+(id-n))
theorem FG{h:H}{ρ:Rho}{w:World}{I:Nat->Prop}{ord:List Nat}{h1:H}{ρ1:Rho}{w':World}{I':Nat->Prop}
  (r:Rel G h ρ w I) (hn:ord.Nodup) (hr:∀i∈ord,i<h.length) (hlen:ord.length<=h1.length) (s:Step G (pack h ord) (sub ord ρ) w I h1 ρ1 w' I'):
  Step G h ρ w I (bG (back ord h.length h1.length) h ord h1) (mrg ord h.length ρ ρ1) w' I'/\
  ∀id k,back ord h.length h1.length id=some k->jO h1 ρ1 w' I' id (bG (back ord h.length h1.length) h ord h1) (mrg ord h.length ρ ρ1) w' I' k:=by
 have get:=fun id=>BU (back ord h.length h1.length) ord h h1 id hn hr hlen
 have loc:∀k id,back ord h.length h1.length k=some id->(bG (back ord h.length h1.length) h ord h1)[id]? =(h1[k]?).map (mapO (back ord h.length h1.length))/\mrg ord h.length ρ ρ1 id=ρ1 k:=by
  intro k id hk;unfold back at hk
  split at hk
  ·rename_i hlt
   have hp:=dW hn hk;exact⟨by rw[get,hp],by simp[mrg,hp]⟩
  ·split at hk
   ·rename_i hge hlt
    simp only[Option.some.injEq]at hk;subst hk;have hp:aH ord (h.length+(k-ord.length))=none:=yM fun hm=>by have:=hr _ hm;omega
    have e:ord.length+(h.length+(k-ord.length)-h.length)=k:=by omega
    exact⟨by rw[get,hp];simp only[];rw[if_neg (by omega),e],by simp only[mrg,hp];rw[if_neg (by omega),e]⟩
   ·cases hk
 have refs:∀k id,back ord h.length h1.length k=some id->jO h1 ρ1 w' I' k (bG (back ord h.length h1.length) h ord h1) (mrg ord h.length ρ ρ1) w' I' id:=fun k id hk=>
  mJ (fun o ho=>by rw[(loc k id hk).1,ho];rfl) (loc k id hk).2
 have orig:∀id o,(bG (back ord h.length h1.length) h ord h1)[id]? =some o->
   (∃k o',back ord h.length h1.length k=some id/\h1[k]? =some o'/\o=mapO (back ord h.length h1.length) o'/\mrg ord h.length ρ ρ1 id=ρ1 k)\/
   (id∉ord/\h[id]? =some o/\mrg ord h.length ρ ρ1 id=ρ id):=by
  intro id o ho;rw[get]at ho
  cases hp:aH ord id with
  |some k=>
   rw[hp]at ho;simp only[Aw]at ho;obtain⟨o',ho',rfl⟩:=ho;have hb:back ord h.length h1.length k=some id:=by unfold back;rw[if_pos (AK hp)];exact bE hp
   exact .inl ⟨k,o',hb,ho',rfl,(loc k id hb).2⟩
  |none=>
   rw[hp]at ho;simp only[]at ho;have hni:id∉ord:=fun hm=>by obtain⟨k,hk⟩:=cC hm;rw[hk]at hp;cases hp
   by_cases hlt:id<h.length
   ·rw[if_pos hlt]at ho;exact .inr ⟨hni,ho,by simp[mrg,hp,hlt]⟩
   ·rw[if_neg hlt]at ho;simp only[Aw]at ho;obtain⟨o',ho',rfl⟩:=ho;have hk:ord.length+(id-h.length)<h1.length:=(As.1 ho').1
    have hb:back ord h.length h1.length (ord.length+(id-h.length))=some id:=by
     unfold back;rw[if_neg (by omega),if_pos hk]
     congr 1;omega
    exact .inl ⟨_,o',hb,ho',rfl,(loc _ id hb).2⟩
 have other:∀id o b,id∉ord->h[id]? =some o->live o->ρ id=some b->¬tA (pack h ord) (sub ord ρ) b:=by
  intro id o b hni hid hlv hρ ho;obtain⟨j,o2,hj,hρj,hjo,hlv2⟩:=yG hr ho;have:=r.inj id j b o o2 hρ hρj hid hjo hlv hlv2;subst this;exact hni hj
 have keepOther:∀id o b,id∉ord->h[id]? =some o->live o->ρ id=some b->w'.heap[b]? =w.heap[b]?:=fun id o b hni hid hlv hρ=>
  s.keep.same b (r.own_not_imm ⟨id,o,hρ,hid,hlv⟩).2 (other id o b hni hid hlv hρ)
 have ownSub:∀b,tA (pack h ord) (sub ord ρ) b->tA h ρ b:=fun b ho=>by
  obtain⟨j,o2,_,hρj,hjo,hlv2⟩:=yG hr ho;exact⟨j,o2,hρj,hjo,hlv2⟩
 have packRef:∀id k,aH ord id=some k->jO h ρ w I id (pack h ord) (sub ord ρ) w I k:=fun id k hk=>
  mJ (fun o ho=>iZ (bE hk) ho) (by simp[sub,bE hk])
 have backOf:∀id k,aH ord id=some k->back ord h.length h1.length k=some id:=fun id k hp=>by
  unfold back;rw[if_pos (AK hp)];exact bE hp
 have ext:Ext h ρ w I (bG (back ord h.length h1.length) h ord h1) (mrg ord h.length ρ ρ1) w' I':=by
  refine⟨s.ext.imm,fun id gen off len a cap hs=> ?_,fun id gen b hs=> ?_,fun id b hs=> ?_⟩
  ·cases hp:aH ord id with
   |some k=>exact(refs k id (backOf id k hp)).1 _ _ _ _ _ (s.ext.sl _ _ _ _ _ _ ((packRef id k hp).1 _ _ _ _ _ hs))
   |none=>
    have hni:id∉ord:=fun hm=>by obtain⟨k,hk⟩:=cC hm;rw[hk]at hp;cases hp
    cases hid:h[id]? with
    |none=>simp[slOK,hid]at hs
    |some o=>
     have hlt:=(As.1 hid).1;have hg:(bG (back ord h.length h1.length) h ord h1)[id]? =some o:=by rw[get,hp];simp only[];rw[if_pos hlt,hid]
     have hm:mrg ord h.length ρ ρ1 id=ρ id:=by simp[mrg,hp,hlt]
     cases o with
     |arr cs e g=>
      simp only[slOK,hid]at hs;simp only[slOK,hg,hm];refine⟨hs.1,fun hgen=>⟨(hs.2 hgen).1,?_⟩⟩;have h2:=(hs.2 hgen).2
      cases hρ:ρ id with
      |none=>rw[hρ]at h2;exact h2
      |some b=>
       rw[hρ]at h2;simp only[]at h2|-;rw[keepOther id _ b hni hid trivial hρ];exact h2
     |vec cs e g=>
      simp only[slOK,hid]at hs;simp only[slOK,hg,hm];refine⟨hs.1,fun hgen=>⟨(hs.2 hgen).1,?_⟩⟩;have h2:=(hs.2 hgen).2
      cases hρ:ρ id with
      |none=>rw[hρ]at h2;exact h2
      |some b=>
       rw[hρ]at h2;simp only[]at h2|-;rw[keepOther id _ b hni hid trivial hρ];exact h2
     |log cs=>
      simp only[slOK,hid]at hs;simp only[slOK,hg,hm];refine⟨hs.1,fun hgen=> ?_⟩;obtain⟨h1,h2,h3⟩:=hs.2 hgen;refine⟨h1,h2.imp (fun x=>x) fun⟨h4,b,ha,h5⟩=>⟨h4,b,ha,h5.imp (fun x=>x) fun⟨h6,h7⟩=>⟨(s.ext.imm b h6).1,iR s.ext.imm _ b 0 h6 h7⟩⟩,fun hl=>(h3 hl).imp (fun x=>x) fun⟨b,hρ,ha,C,E,fz,hk,hs⟩=>⟨b,hρ,ha,C,E,fz,by rw[keepOther _ _ b hni hid trivial hρ];exact hk,hs⟩⟩
     |box cs=>simp only[slOK,hid]at hs
     |ice cs e g=>
      simp only[slOK,hid]at hs;simp only[slOK,hg];refine⟨hs.1,fun hgen=>⟨(hs.2 hgen).1,?_⟩⟩
      rcases(hs.2 hgen).2 with h2|⟨h2,b,hb,hIb,hd⟩
      ·exact .inl h2
      ·exact .inr ⟨h2,b,hb,(s.ext.imm b hIb).1,iR s.ext.imm cs b 0 hIb hd⟩
     |mp es=>simp[slOK,hid]at hs
     |void=>simp[slOK,hid]at hs
  ·cases hp:aH ord id with
   |some k=>exact(refs k id (backOf id k hp)).2.1 _ _ (s.ext.pt _ _ _ ((packRef id k hp).2.1 _ _ hs))
   |none=>
    cases hid:h[id]? with
    |none=>simp[ptOK,hid]at hs
    |some o=>
     have hlt:=(As.1 hid).1;have hg:(bG (back ord h.length h1.length) h ord h1)[id]? =some o:=by rw[get,hp];simp only[];rw[if_pos hlt,hid]
     have hm:mrg ord h.length ρ ρ1 id=ρ id:=by simp[mrg,hp,hlt]
     cases o with
     |arr cs e g=>simp only[ptOK,hid]at hs;simp only[ptOK,hg,hm];exact hs
     |vec cs e g=>simp only[ptOK,hid]at hs;simp only[ptOK,hg,hm];exact hs
     |box cs=>simp only[ptOK,hid]at hs;simp only[ptOK,hg,hm];exact hs
     |ice cs e g=>
      simp only[ptOK,hid]at hs;simp only[ptOK,hg];exact⟨hs.1,fun hgen=>⟨(s.ext.imm b (hs.2 hgen).1).1,iR s.ext.imm cs b 0 (hs.2 hgen).1 (hs.2 hgen).2⟩⟩
     |log cs=>
      simp only[ptOK,hid]at hs;simp only[ptOK,hg,hm];exact⟨hs.1,fun hgen=>(hs.2 hgen).imp (fun x=>x) fun⟨h6,h7⟩=>⟨(s.ext.imm b h6).1,iR s.ext.imm _ b 0 h6 h7⟩⟩
     |mp es=>simp[ptOK,hid]at hs
     |void=>simp[ptOK,hid]at hs
  ·cases hp:aH ord id with
   |some k=>exact(refs k id (backOf id k hp)).2.2 _ (s.ext.mp _ _ ((packRef id k hp).2.2 _ hs))
   |none=>
    cases hid:h[id]? with
    |none=>simp[mpOK,hid]at hs
    |some o=>
     have hlt:=(As.1 hid).1;have hg:(bG (back ord h.length h1.length) h ord h1)[id]? =some o:=by rw[get,hp];simp only[];rw[if_pos hlt,hid]
     have hm:mrg ord h.length ρ ρ1 id=ρ id:=by simp[mrg,hp,hlt]
     simp only[mpOK,hid]at hs;simp only[mpOK,hg,hm];exact hs
 refine⟨⟨⟨fun id o ho=> ?_,fun id id' b o o' hb hb' ho ho' hlv hlv'=> ?_,s.rel.imm,s.rel.ground⟩,ext,⟨s.keep.os,s.keep.tape,s.keep.output,s.keep.size,fun b hb hno=>s.keep.same b hb (fun h=>hno (ownSub b h)),fun b hb=> ?_,s.keep.drawn⟩,fun b hb=> ?_,NQ _ _ _ _ hlen⟩,refs⟩
 ·rcases orig id o ho with⟨k,o',hk,hk1,rfl,hm⟩|⟨hni,hid,hm⟩
  ·exact aIc refs hm (s.rel.obj k o' hk1)
  ·have hO:=r.obj id o hid
   cases o with
   |arr cs e g=>
    simp only[OR,hm]at hO|-
    cases hρ:ρ id with
    |none=>rw[hρ]at hO;exact hO
    |some b=>
     rw[hρ]at hO;obtain⟨hez,hIb,C,E,fz,h2,h3,h4⟩:=hO;have hk:=keepOther id _ b hni hid trivial hρ;refine⟨hez,fun hI'=> ?_,C,E,fz,by rw[hk];exact h2,h3,wH s.ext.imm (fun k _=>eK hk) h4⟩
     rcases s.keep.new b hI' with h|h|h
     ·exact hIb h
     ·have:=(r.own_not_imm ⟨id,_,hρ,hid,trivial⟩).2;omega
     ·exact other id _ b hni hid trivial hρ h
   |log cs=>
    simp only[OR,hm]at hO|-
    cases hρ:ρ id with
    |none=>rw[hρ]at hO;exact hO
    |some b=>
     rw[hρ]at hO;obtain⟨hIb,C,E,fz,h2,h3,h4⟩:=hO;have hk:=keepOther id _ b hni hid trivial hρ;refine⟨fun hI'=> ?_,C,E,fz,by rw[hk];exact h2,h3,wH s.ext.imm (fun k _=>eK hk) h4⟩
     rcases s.keep.new b hI' with h|h|h
     ·exact hIb h
     ·have:=(r.own_not_imm ⟨id,_,hρ,hid,trivial⟩).2;omega
     ·exact other id _ b hni hid trivial hρ h
   |vec cs e g=>
    simp only[OR,hm]at hO|-
    cases hρ:ρ id with
    |none=>rw[hρ]at hO;exact hO
    |some b=>
     rw[hρ]at hO;obtain⟨hez,hIb,C,E,fz,h2,h3,h4⟩:=hO;have hk:=keepOther id _ b hni hid trivial hρ;refine⟨hez,fun hI'=> ?_,C,E,fz,by rw[hk];exact h2,h3,fun m c hm=> ?_⟩
     rotate_left
     ·obtain⟨v,hv,ha,ho⟩:=h4 m c hm;exact⟨v,by rw[eK hk];exact hv,iS ext c v ha,ho⟩
     rcases s.keep.new b hI' with h|h|h
     ·exact hIb h
     ·have:=(r.own_not_imm ⟨id,_,hρ,hid,trivial⟩).2;omega
     ·exact other id _ b hni hid trivial hρ h
   |box cs=>
    simp only[OR,hm]at hO|-;obtain⟨b,hρ,hIb,C,E,fz,h2,h3,h4⟩:=hO;have hk:=keepOther id _ b hni hid trivial hρ;refine⟨b,hρ,fun hI'=> ?_,C,E,fz,by rw[hk];exact h2,h3,fun m c hm=> ?_⟩
    ·rcases s.keep.new b hI' with h|h|h
     ·exact hIb h
     ·have:=(r.own_not_imm ⟨id,_,hρ,hid,trivial⟩).2;omega
     ·exact other id _ b hni hid trivial hρ h
    ·obtain⟨v,hv,ha,ho⟩:=h4 m c hm;exact⟨v,by rw[eK hk];exact hv,iS ext c v ha,ho⟩
   |mp es=>
    simp only[OR,hm]at hO|-;obtain⟨b,hρ,hIb,M,c,h2,h3⟩:=hO;have hk:=keepOther id _ b hni hid trivial hρ;refine⟨b,hρ,fun hI'=> ?_,M,c,by rw[hk];exact h2,h3⟩
    rcases s.keep.new b hI' with h|h|h
    ·exact hIb h
    ·have:=(r.own_not_imm ⟨id,_,hρ,hid,trivial⟩).2;omega
    ·exact other id _ b hni hid trivial hρ h
   |ice cs e g=>simp only[OR]
   |void=>simp only[OR]
 ·rcases orig id o ho with⟨k,o1,hk,hk1,rfl,hm⟩|⟨hni,hid,hm⟩<;>rcases orig id' o' ho' with⟨k',o1',hk',hk1',rfl,hm'⟩|⟨hni',hid',hm'⟩
  ·rw[hm]at hb;rw[hm']at hb';have:=s.rel.inj k k' b o1 o1' hb hb' hk1 hk1' ((gL _ _).1 hlv) ((gL _ _).1 hlv');subst this;rw[hk]at hk';cases hk';rfl
  ·rw[hm]at hb;rw[hm']at hb';exfalso
   rcases s.own b ⟨k,o1,hb,hk1,(gL _ _).1 hlv⟩with h|h
   ·exact other id' _ b hni' hid' hlv' hb' h
   ·have:=(r.own_not_imm ⟨id',_,hb',hid',hlv'⟩).2;omega
  ·rw[hm]at hb;rw[hm']at hb';exfalso
   rcases s.own b ⟨k',o1',hb',hk1',(gL _ _).1 hlv'⟩with h|h
   ·exact other id _ b hni hid hlv hb h
   ·have:=(r.own_not_imm ⟨id,_,hb,hid,hlv⟩).2;omega
  ·rw[hm]at hb;rw[hm']at hb';exact r.inj id id' b o o' hb hb' hid hid' hlv hlv'
 ·rcases s.keep.new b hb with h|h|h
  ·exact .inl h
  ·exact .inr (.inl h)
  ·exact .inr (.inr (ownSub b h))
 ·obtain⟨id,o,hm0,ho,hlv⟩:=hb
  rcases orig id o ho with⟨k,o1,hk,hk1,rfl,hm⟩|⟨hni,hid,hm⟩
  ·rw[hm]at hm0
   rcases s.own b ⟨k,o1,hm0,hk1,(gL _ _).1 hlv⟩with h|h
   ·exact .inl (ownSub b h)
   ·exact .inr h
  ·rw[hm]at hm0;exact .inl ⟨id,o,hm0,hid,hlv⟩
theorem aNY{h0:H}{ρ0:Rho}{w0:World}{I0:Nat->Prop}{h:H}{ρ:Rho}{w:World}{I:Nat->Prop}{ord:List Nat}
  (s:Step G h0 ρ0 w0 I0 h ρ w I) (hn:ord.Nodup) (hl:∀i∈ord,i<h.length) (hf:∀i,i<h0.length->ord[i]? =some i):
  Step G h0 ρ0 w0 I0 (pack h ord) (sub ord ρ) w I/\∀id k,aH ord id=some k->jO h ρ w I id (pack h ord) (sub ord ρ) w I k:=by
 have refs:∀id k,aH ord id=some k->jO h ρ w I id (pack h ord) (sub ord ρ) w I k:=fun id k hk=>
  mJ (fun o ho=>iZ (bE hk) ho) (by simp[sub,bE hk])
 refine⟨⟨aAC s.rel hn hl,⟨s.ext.imm,fun id gen off len a cap hs=> ?_,fun id gen b hs=> ?_,fun id b hs=> ?_⟩,s.keep,fun b hb=> ?_,?_⟩,refs⟩
 ·have hlt:id<h0.length:=by
   rcases Cq id h0.length with h|h
   ·exact h
   ·simp[slOK,Ck h]at hs
  exact(refs id id (dW hn (hf id hlt))).1 _ _ _ _ _ (s.ext.sl _ _ _ _ _ _ hs)
 ·have hlt:id<h0.length:=by
   rcases Cq id h0.length with h|h
   ·exact h
   ·simp[ptOK,Ck h]at hs
  exact(refs id id (dW hn (hf id hlt))).2.1 _ _ (s.ext.pt _ _ _ hs)
 ·have hlt:id<h0.length:=by
   rcases Cq id h0.length with h|h
   ·exact h
   ·simp[mpOK,Ck h]at hs
  exact(refs id id (dW hn (hf id hlt))).2.2 _ (s.ext.mp _ _ hs)
 ·obtain⟨j,o2,_,hρj,hjo,hlv2⟩:=yG hl hb;exact s.own b ⟨j,o2,hρj,hjo,hlv2⟩
 ·have e:(pack h ord).length=ord.length:=by simp[pack]
  rw[e]
  rcases Cq ord.length h0.length with hlt|hge
  ·grind
  ·exact hge
end
section
variable{G:Gnd}
def upd(ρ:Rho)(id:Nat)(rb:Option Nat):Rho:=fun k=>if k=id then rb else ρ k
theorem a7(ρ:Rho)(id:Nat)(rb:Option Nat):upd ρ id rb id=rb:=by simp[upd]
theorem dV(ρ:Rho){id k:Nat}(rb:Option Nat)(h:k≠id):upd ρ id rb k=ρ k:=by simp[upd,h]
structure Grew(m:Bool)(w w':World):Prop where
 os:w'.os=w.os
 tape:w'.tape=w.tape
 output:w'.output=w.output
 size:w.heap.size<=w'.heap.size
 same:∀b,b<w.heap.size->w'.heap[b]? =w.heap[b]?
 drawn:m=true->w.drawn<=w'.drawn
theorem Grew.refl{m:Bool}(w:World):Grew m w w:=⟨rfl,rfl,rfl,Ab _,fun _ _=>rfl,fun _=>Ab _⟩
theorem Grew.drew{m:Bool}(w:World):Grew m w { w with drawn:=w.drawn+1}:=⟨rfl,rfl,rfl,Ab _,fun _ _=>rfl,fun _=>Nat.le_succ _⟩
theorem Grew.push{m:Bool}(w:World)(o:Obj):Grew m w { w with heap:=w.heap.push o}:=
 ⟨rfl,rfl,rfl,by simp,fun b hb=>by simp only[Array.getElem?_push];rw[if_neg (by omega)],fun _=>Ab _⟩
theorem Grew.trans{m:Bool}{a b c:World}(x:Grew m a b)(y:Grew m b c):Grew m a c:=
 ⟨y.os.trans x.os,y.tape.trans x.tape,y.output.trans x.output,Bv x.size y.size,fun k hk=>(y.same k (De hk x.size)).trans (x.same k hk),fun e=>Bv (x.drawn e) (y.drawn e)⟩
theorem Grew.imm{h:H}{ρ:Rho}{w w':World}{I:Nat->Prop}{m:Bool}(r:Rel G h ρ w I)(g:Grew m w w'):Imm w I w' I:=fun b hb=>⟨hb,g.same b (r.imm b hb)⟩
theorem I8{h h':H}{ρ ρ':Rho}{w w':World}{I I':Nat->Prop}{id:Nat}(hi:Imm w I w' I')(ho:h'[id]? =h[id]?)(hr:ρ' id=ρ id)
  (hb:∀b,ρ id=some b->(∃o,h[id]? =some o/\live o)->w'.heap[b]? =w.heap[b]?) {gen off len:Nat} {a:Option Addr} {cap:Nat} (hs:slOK h ρ w I id gen off len a cap):slOK h' ρ' w' I' id gen off len a cap:=by
 unfold slOK at hs|-;rw[ho]
 cases hid:h[id]? with
 |none=>grind
 |some o=>
  cases o with
  |arr cs e g=>
   simp only[hid,hr]at hs|-;refine⟨hs.1,fun hg=>⟨(hs.2 hg).1,?_⟩⟩;have h2:=(hs.2 hg).2
   cases hρ:ρ id with
   |none=>grind
   |some b=>
    rw[hρ]at h2;simp only[]at h2|-;rw[hb b hρ ⟨_,hid,trivial⟩];exact h2
  |vec cs e g=>
   simp only[hid,hr]at hs|-;refine⟨hs.1,fun hg=>⟨(hs.2 hg).1,?_⟩⟩;have h2:=(hs.2 hg).2
   cases hρ:ρ id with
   |none=>grind
   |some b=>
    rw[hρ]at h2;simp only[]at h2|-;rw[hb b hρ ⟨_,hid,trivial⟩];exact h2
  |log cs=>
   simp only[hid,hr]at hs|-;refine⟨hs.1,fun hg=> ?_⟩;obtain⟨h1,h2,h3⟩:=hs.2 hg;refine⟨h1,h2.imp (fun x=>x) fun⟨h4,b,ha,h5⟩=>⟨h4,b,ha,h5.imp (fun x=>x) fun⟨h6,h7⟩=>⟨(hi b h6).1,iR hi _ b 0 h6 h7⟩⟩,fun hl=>(h3 hl).imp (fun x=>x) fun⟨b,hρ,ha,C,E,fz,hk,hs⟩=>⟨b,hρ,ha,C,E,fz,by rw[hb b hρ ⟨_,hid,trivial⟩];exact hk,hs⟩⟩
  |box cs=>grind
  |ice cs e g=>
   simp only[hid]at hs|-;refine⟨hs.1,fun hg=>⟨(hs.2 hg).1,?_⟩⟩
   rcases(hs.2 hg).2 with h2|⟨h2,b,ha,hIb,hd⟩
   ·grind
   ·exact .inr ⟨h2,b,ha,(hi b hIb).1,iR hi cs b 0 hIb hd⟩
  |mp es=>grind
  |void=>grind
theorem K5{h h':H}{ρ ρ':Rho}{w w':World}{I I':Nat->Prop}{id:Nat}(hi:Imm w I w' I')(ho:h'[id]? =h[id]?)(hr:ρ' id=ρ id){gen b:Nat}(hs:ptOK h ρ w I id gen b):ptOK h' ρ' w' I' id gen b:=by
 unfold ptOK at hs|-;rw[ho]
 cases hid:h[id]? with
 |none=>grind
 |some o=>
  cases o with
  |arr cs e g=>grind
  |vec cs e g=>grind
  |box cs=>grind
  |ice cs e g=>
   simp only[hid]at hs|-;exact⟨hs.1,fun hg=>⟨(hi b (hs.2 hg).1).1,iR hi cs b 0 (hs.2 hg).1 (hs.2 hg).2⟩⟩
  |log cs=>
   simp only[hid,hr]at hs|-;exact⟨hs.1,fun hg=>(hs.2 hg).imp (fun x=>x) fun⟨h6,h7⟩=>⟨(hi b h6).1,iR hi _ b 0 h6 h7⟩⟩
  |mp es=>grind
  |void=>grind
theorem TO{h h':H}{ρ ρ':Rho}{id:Nat}(ho:h'[id]? =h[id]?)(hr:ρ' id=ρ id){b:Nat}(hs:mpOK h ρ id b):mpOK h' ρ' id b:=by
 unfold mpOK at hs|-;rw[ho,hr];exact hs
theorem WP{h h':H}{ρ ρ':Rho}{w w':World}{I I':Nat->Prop}{id:Nat}{o:O}(hE:Ext h ρ w I h' ρ' w' I')(hr:ρ' id=ρ id)
  (hb:∀b,ρ id=some b->live o->w'.heap[b]? =w.heap[b]?/\¬I' b) (ho:OR h ρ w I id o):OR h' ρ' w' I' id o:=by
 cases o with
 |arr cs e g=>
  simp only[OR,hr]at ho|-
  cases hρ:ρ id with
  |none=>grind
  |some b=>
   rw[hρ]at ho;obtain⟨hez,hIb,C,E,fz,h2,h3,h4⟩:=ho;obtain⟨hk,hI'⟩:=hb b hρ trivial;exact⟨hez,hI',C,E,fz,by rw[hk];exact h2,h3,wH hE.imm (fun k _=>eK hk) h4⟩
 |vec cs e g=>
  simp only[OR,hr]at ho|-
  cases hρ:ρ id with
  |none=>grind
  |some b=>
   rw[hρ]at ho;obtain⟨hez,hIb,C,E,fz,h2,h3,h4⟩:=ho;obtain⟨hk,hI'⟩:=hb b hρ trivial
   exact⟨hez,hI',C,E,fz,by rw[hk];exact h2,h3,fun m c hm=>by
    obtain⟨v,hv,ha,ho⟩:=h4 m c hm;exact⟨v,by rw[eK hk];exact hv,iS hE c v ha,ho⟩⟩
 |log cs=>
  simp only[OR,hr]at ho|-
  cases hρ:ρ id with
  |none=>grind
  |some b=>
   rw[hρ]at ho;obtain⟨hIb,C,E,fz,h2,h3,h4⟩:=ho;obtain⟨hk,hI'⟩:=hb b hρ trivial;exact⟨hI',C,E,fz,by rw[hk];exact h2,h3,wH hE.imm (fun k _=>eK hk) h4⟩
 |box cs=>
  simp only[OR,hr]at ho|-;obtain⟨b,hρ,hIb,C,E,fz,h2,h3,h4⟩:=ho;obtain⟨hk,hI'⟩:=hb b hρ trivial;refine⟨b,hρ,hI',C,E,fz,by rw[hk];exact h2,h3,fun m c hm=> ?_⟩;obtain⟨v,hv,ha,ho⟩:=h4 m c hm;exact⟨v,by rw[eK hk];exact hv,iS hE c v ha,ho⟩
 |mp es=>
  simp only[OR,hr]at ho|-;obtain⟨b,hρ,hIb,M,c,h2,h3⟩:=ho;obtain⟨hk,hI'⟩:=hb b hρ trivial;exact⟨b,hρ,hI',M,c,by rw[hk];exact h2,h3⟩
 |ice cs e g=>simp only[OR]
 |void=>simp only[OR]
theorem C9{h:H}{ρ:Rho}{w w':World}{I:Nat->Prop}(r:Rel G h ρ w I)(g:Grew G.keeps w w'):Step G h ρ w I h ρ w' I:=by
 have hblk:∀id o b,h[id]? =some o->live o->ρ id=some b->w'.heap[b]? =w.heap[b]?/\¬I b:=fun id o b hid hlv hρ=>
  have h2:=r.own_not_imm ⟨id,o,hρ,hid,hlv⟩
  ⟨g.same b h2.2,h2.1⟩
 have ext:Ext h ρ w I h ρ w' I:=⟨g.imm r,fun id _ _ _ _ _ hs=>I8 (g.imm r) rfl rfl (fun b hb ⟨o,ho,hl⟩=>(hblk id o b ho hl hb).1) hs,fun _ _ _ hs=>K5 (g.imm r) rfl rfl hs,fun _ _ hs=>hs⟩
 exact⟨⟨fun id o hid=>WP ext rfl (fun b hb hl=>hblk id o b hid hl hb) (r.obj id o hid),r.inj,fun b hb=>De (r.imm b hb) g.size,r.ground.mono ext.imm⟩,ext,
  ⟨g.os,g.tape,g.output,g.size,fun b hb _=>g.same b hb,fun _ hb=>.inl hb,g.drawn⟩,fun _ hb=>.inl hb,Ab _⟩
theorem eT{h:H}{ρ:Rho}{w w':World}{I:Nat->Prop}(r:Rel G h ρ w I)(g:Grew G.keeps w w')(o:O)(rb:Option Nat)(hrb:∀b,rb=some b->w.heap.size<=b)
  (hor:Ext h ρ w I (h++[o]) (upd ρ h.length rb) w' I->OR (h++[o]) (upd ρ h.length rb) w' I h.length o):Step G h ρ w I (h++[o]) (upd ρ h.length rb) w' I:=by
 have look:∀id,id<h.length->(h++[o])[id]? =h[id]?:=by grind
 have hblk:∀id o b,h[id]? =some o->live o->ρ id=some b->w'.heap[b]? =w.heap[b]?/\¬I b:=fun id o b hid hlv hρ=>
  have h2:=r.own_not_imm ⟨id,o,hρ,hid,hlv⟩
  ⟨g.same b h2.2,h2.1⟩
 have ext:Ext h ρ w I (h++[o]) (upd ρ h.length rb) w' I:=by
  refine⟨g.imm r,fun id gen off len a cap hs=> ?_,fun id gen b hs=> ?_,fun id b hs=> ?_⟩
  ·have hlt:id<h.length:=by
    rcases Cq id h.length with h1|h1
    ·exact h1
    ·simp[slOK,Ck h1]at hs
   exact I8 (g.imm r) (look id hlt) (dV ρ rb (by omega)) (fun b hb ⟨o,ho,hl⟩=>(hblk id o b ho hl hb).1) hs
  ·have hlt:id<h.length:=by
    rcases Cq id h.length with h1|h1
    ·exact h1
    ·simp[ptOK,Ck h1]at hs
   exact K5 (g.imm r) (look id hlt) (dV ρ rb (by omega)) hs
  ·have hlt:id<h.length:=by
    rcases Cq id h.length with h1|h1
    ·exact h1
    ·simp[mpOK,Ck h1]at hs
   exact TO (look id hlt) (dV ρ rb (by omega)) hs
 have cases_of:∀id o',(h++[o])[id]? =some o'->(h[id]? =some o'/\id≠h.length)\/(id=h.length/\o'=o):=by grind
 refine⟨⟨fun id o' hid=> ?_,fun id id' b o1 o2 hb hb' h1 h2 l1 l2=> ?_,fun b hb=>De (r.imm b hb) g.size,r.ground.mono ext.imm⟩,ext,
  ⟨g.os,g.tape,g.output,g.size,fun b hb _=>g.same b hb,fun _ hb=>.inl hb,g.drawn⟩,fun b hb=> ?_,by simp⟩
 ·rcases cases_of id o' hid with⟨h1,hne⟩|⟨rfl,rfl⟩
  ·exact WP ext (dV ρ rb hne) (fun b hb hl=>hblk id o' b h1 hl hb) (r.obj id o' h1)
  ·grind
 ·rcases cases_of id o1 h1 with⟨g1,n1⟩|⟨rfl,rfl⟩<;>rcases cases_of id' o2 h2 with⟨g2,n2⟩|⟨rfl,rfl⟩
  ·rw[dV ρ rb n1]at hb;rw[dV ρ rb n2]at hb';exact r.inj id id' b o1 o2 hb hb' g1 g2 l1 l2
  ·rw[dV ρ rb n1]at hb;rw[a7]at hb';have:=(r.own_not_imm ⟨id,o1,hb,g1,l1⟩).2;have:=hrb b hb';omega
  ·rw[a7]at hb;rw[dV ρ rb n2]at hb';have:=(r.own_not_imm ⟨id',o2,hb',g2,l2⟩).2;have:=hrb b hb;omega
  ·rfl
 ·obtain⟨id,o',hb,hid,hl⟩:=hb
  rcases cases_of id o' hid with⟨g1,n1⟩|⟨rfl,rfl⟩
  ·rw[dV ρ rb n1]at hb;exact .inl ⟨id,o',hb,g1,hl⟩
  ·rw[a7]at hb;exact .inr (hrb b hb)
theorem eM{h:H}{ρ:Rho}{w w':World}{I I':Nat->Prop}{id:Nat}{o o':O}(r:Rel G h ρ w I)(hid:h[id]? =some o)(hlv:live o)(rb:Option Nat)
  (os:w'.os=w.os) (tape:w'.tape=w.tape) (output:w'.output=w.output) (size:w.heap.size<=w'.heap.size)
  (same:∀k,k<w.heap.size->ρ id≠some k->w'.heap[k]? =w.heap[k]?)
  (hI:∀b,I b->I' b) (hI':∀b,I' b->I b\/(ρ id=some b/\(¬live o'\/rb≠some b))) (hrb:∀b,rb=some b->ρ id=some b\/w.heap.size<=b)
  (hsl:Imm w I w' I'->∀gen off len a cap,slOK h ρ w I id gen off len a cap->slOK (h.set id o') (upd ρ id rb) w' I' id gen off len a cap)
  (hpt:Imm w I w' I'->∀gen b,ptOK h ρ w I id gen b->ptOK (h.set id o') (upd ρ id rb) w' I' id gen b)
  (hor:Ext h ρ w I (h.set id o') (upd ρ id rb) w' I'->OR (h.set id o') (upd ρ id rb) w' I' id o')
  (drawn:w.drawn<=w'.drawn:=by first|exact Ab _|exact Nat.le_succ _|exact Nat.le_add_right _ _)
  (hmp:∀es,o=.mp es->(∃es',o'=.mp es')/\rb=ρ id:=by intro _ h;cases h):Step G h ρ w I (h.set id o') (upd ρ id rb) w' I':=by
 have hlt:id<h.length:=by grind
 have ownNot:=fun b (ho:tA h ρ b)=>r.own_not_imm ho;have imm:Imm w I w' I':=fun b hb=>⟨hI b hb,same b (r.imm b hb) (fun e=>(ownNot b ⟨id,o,e,hid,hlv⟩).1 hb)⟩
 have hblk:∀k o2 b,k≠id->h[k]? =some o2->live o2->ρ k=some b->w'.heap[b]? =w.heap[b]?/\¬I' b:=by
  intro k o2 b hne hk hl hb;have h2:=ownNot b ⟨k,o2,hb,hk,hl⟩;have hne':ρ id≠some b:=fun e=>hne (r.inj k id b o2 o hb e hk hid hl hlv);exact⟨same b h2.2 hne',fun h3=>(hI' b h3).elim h2.1 (fun e=>hne' e.1)⟩
 have look:∀k,k≠id->(h.set id o')[k]? =h[k]?:=by grind
 have ext:Ext h ρ w I (h.set id o') (upd ρ id rb) w' I':=by
  refine⟨imm,fun k gen off len a cap hs=> ?_,fun k gen b hs=> ?_,fun k b hs=> ?_⟩
  ·by_cases e:k=id
   ·grind
   ·exact I8 imm (look k e) (dV ρ rb e) (fun b hb ⟨o2,ho,hl⟩=>(hblk k o2 b e ho hl hb).1) hs
  ·by_cases e:k=id
   ·grind
   ·exact K5 imm (look k e) (dV ρ rb e) hs
  ·by_cases e:k=id
   ·subst e
    cases o with
    |mp es=>
     obtain⟨⟨es',rfl⟩,hr⟩:=hmp es rfl;simp only[mpOK,hid]at hs;simp only[mpOK,Dy hlt,a7,hr];exact hs
    |_=>simp only[mpOK,hid]at hs
   ·exact TO (look k e) (dV ρ rb e) hs
 have at_id:(h.set id o')[id]? =some o':=by grind
 refine⟨⟨fun k o2 hk=> ?_,fun k k' b o1 o2 hb hb' h1 h2 l1 l2=> ?_,fun b hb=> ?_,r.ground.mono ext.imm⟩,ext,
  ⟨os,tape,output,size,fun b hb hno=>same b hb (fun e=>hno ⟨id,o,e,hid,hlv⟩),fun b hb=> ?_,fun _=>drawn⟩,fun b hb=> ?_,by simp⟩
 ·by_cases e:k=id
  ·grind
  ·rw[look k e]at hk;exact WP ext (dV ρ rb e) (fun b hb hl=>hblk k o2 b e hk hl hb) (r.obj k o2 hk)
 ·by_cases e:k=id<;>by_cases e':k'=id
  ·rw[e,e']
  ·subst e;rw[a7]at hb;rw[dV ρ rb e']at hb';rw[look k' e']at h2
   rcases hrb b hb with h3|h3
   ·exact r.inj k k' b o o2 h3 hb' hid h2 hlv l2
   ·have:=(ownNot b ⟨k',o2,hb',h2,l2⟩).2;omega
  ·subst e';rw[a7]at hb';rw[dV ρ rb e]at hb;rw[look k e]at h1
   rcases hrb b hb' with h3|h3
   ·exact r.inj k k' b o1 o hb h3 h1 hid l1 hlv
   ·have:=(ownNot b ⟨k,o1,hb,h1,l1⟩).2;omega
  ·rw[dV ρ rb e]at hb;rw[dV ρ rb e']at hb';rw[look k e]at h1;rw[look k' e']at h2;exact r.inj k k' b o1 o2 hb hb' h1 h2 l1 l2
 ·rcases hI' b hb with h1|h1
  ·exact De (r.imm b h1) size
  ·exact De (ownNot b ⟨id,o,h1.1,hid,hlv⟩).2 size
 ·rcases hI' b hb with h1|h1
  ·grind
  ·exact .inr (.inr ⟨id,o,h1.1,hid,hlv⟩)
 ·obtain⟨k,o2,hb,hk,hl⟩:=hb
  by_cases e:k=id
  ·subst e;rw[a7]at hb
   rcases hrb b hb with h3|h3
   ·exact .inl ⟨k,o,h3,hid,hlv⟩
   ·grind
  ·rw[dV ρ rb e]at hb;rw[look k e]at hk;exact .inl ⟨k,o2,hb,hk,hl⟩
theorem cP(ρ:Rho)(id:Nat):upd ρ id (ρ id)=ρ:=by
 funext k;unfold upd;split
 ·grind
 ·rfl
theorem FX{w:World}{I I':Nat->Prop}(hI:∀b,I b->I' b){ds:List D}{b:Nat}(h:DRs w I ds b 0):DRs w I' ds b 0:=
 wH (w:=w) (w':=w) (fun k hk=>⟨hI k hk,rfl⟩) (fun _ _=>rfl) h
theorem aIA{h:H}{ρ:Rho}{w:World}{I:Nat->Prop}{id:Nat}{cs:List D}{esz g:Nat}(r:Rel G h ρ w I)(hid:h[id]? =some (.arr cs esz g)):
  ∃I',Step G h ρ w I (h.set id (.ice cs esz g)) ρ w I'/\∀b,ρ id=some b->I' b/\DRs w I' cs b 0:=by
 have hlt:id<h.length:=by grind
 have at_id:(h.set id (.ice cs esz g))[id]? =some (.ice cs esz g):=by grind
 have hO:=r.obj id _ hid
 have hd:∀b,ρ id=some b->DRs w (fun k=>I k\/ρ id=some k) cs b 0:=fun b hb=>by
  simp only[OR,hb]at hO;obtain⟨_,_,C,E,fz,_,_,h4⟩:=hO;exact FX (fun k hk=>.inl hk) h4
 refine⟨fun k=>I k\/ρ id=some k,?_,fun b hb=>⟨.inr hb,hd b hb⟩⟩
 have s:=eM (o':=.ice cs esz g) (I':=fun k=>I k\/ρ id=some k) r hid trivial (ρ id) rfl rfl rfl (Ab _) (fun _ _ _=>rfl) (fun _ hb=>.inl hb)
  (fun b hb=>hb.imp (fun x=>x) fun e=>⟨e,.inl fun h=>h⟩) (fun b hb=>.inl hb) (fun _ gen off len a cap hs=> ?_) (fun _ gen b hs=> ?_) (fun _=>by simp only[OR])
 ·rw[cP]at s;exact s
 ·simp only[slOK,hid]at hs;simp only[slOK,at_id];refine⟨hs.1,fun hg=>⟨(hs.2 hg).1,?_⟩⟩;have h2:=(hs.2 hg).2
  cases hρ:ρ id with
  |none=>grind
  |some b=>
   rw[hρ]at h2
   rcases h2 with h2|h2
   ·grind
   ·simp_all
 ·simp only[ptOK,hid]at hs;simp only[ptOK,at_id];exact⟨hs.1,fun hg=>⟨.inr (hs.2 hg),hd b (hs.2 hg)⟩⟩
theorem aEa{w:World}{I:Nat->Prop}{cs:List D}{b:Nat}(n:Nat)(h:DRs w I cs b 0):DRs w I (cs.take n) b 0:=by
 rw[fL]at h|-;intro k d hk;rw[Cz]at hk
 split at hk
 ·grind
 ·cases hk
theorem aQq{h:H}{ρ:Rho}{w:World}{I:Nat->Prop}{id:Nat}{cs:List D}(r:Rel G h ρ w I)(hid:h[id]? =some (.arr cs 1 0)):Step G h ρ w I (h.set id (.log cs)) ρ w I:=by
 have hlt:id<h.length:=by grind
 have at_id:(h.set id (.log cs))[id]? =some (.log cs):=by grind
 have hO:=r.obj id _ hid
 have s:=eM (o':=.log cs) (I':=I) r hid trivial (ρ id) rfl rfl rfl (Ab _) (fun _ _ _=>rfl) (fun _ hb=>hb)
  (fun b hb=>.inl hb) (fun b hb=>.inl hb) (fun _ gen off len a cap hs=> ?_) (fun _ gen b hs=> ?_) (fun _=> ?_)
 ·rw[cP]at s;exact s
 ·simp only[slOK,hid]at hs;simp only[slOK,at_id];exact⟨by omega,fun hg=>by omega⟩
 ·simp only[ptOK,hid]at hs;simp only[ptOK,at_id];exact⟨by omega,fun hg=>by omega⟩
 ·simp only[OR,a7]at hO|-
  cases hρ:ρ id with
  |none=>grind
  |some b=>grind
theorem aG2{h:H}{ρ:Rho}{w:World}{I:Nat->Prop}{id:Nat}{cs:List D}(r:Rel G h ρ w I)(hid:h[id]? =some (.log cs)):
  ∃I',Step G h ρ w I (h.set id (.ice cs 1 (cs.length+1))) ρ w I'/\∀b,ρ id=some b->I' b/\DRs w I' cs b 0:=by
 have hlt:id<h.length:=by grind
 have at_id:(h.set id (.ice cs 1 (cs.length+1)))[id]? =some (.ice cs 1 (cs.length+1)):=by grind
 have hO:=r.obj id _ hid
 have hd:∀b,ρ id=some b->DRs w (fun k=>I k\/ρ id=some k) cs b 0:=fun b hb=>by
  simp only[OR,hb]at hO;obtain⟨_,C,E,fz,_,_,h4⟩:=hO;exact FX (fun k hk=>.inl hk) h4
 refine⟨fun k=>I k\/ρ id=some k,?_,fun b hb=>⟨.inr hb,hd b hb⟩⟩
 have s:=eM (o':=.ice cs 1 (cs.length+1)) (I':=fun k=>I k\/ρ id=some k) r hid trivial (ρ id) rfl rfl rfl (Ab _) (fun _ _ _=>rfl) (fun _ hb=>.inl hb)
  (fun b hb=>hb.imp (fun x=>x) fun e=>⟨e,.inl fun h=>h⟩) (fun b hb=>.inl hb) (fun _ gen off len a cap hs=> ?_) (fun _ gen b hs=> ?_) (fun _=>by simp only[OR])
 ·rw[cP]at s;exact s
 ·simp only[slOK,hid]at hs;simp only[slOK,at_id];refine⟨hs.1,fun hg=> ?_⟩;subst hg;obtain⟨h1,h2,h3⟩:=hs.2 (by omega);refine⟨h1,h2.imp (fun x=>x) ?_⟩;rintro⟨h4,b,ha,h5⟩;rw[Nat.add_sub_cancel,Cr]at h5;refine⟨by omega,b,ha,?_⟩
  rcases h5 with h5|⟨h5,h6⟩
  ·grind
  ·exact⟨.inl h5,FX (fun k hk=>.inl hk) h6⟩
 ·simp only[ptOK,hid]at hs;simp only[ptOK,at_id];refine⟨hs.1,fun hg=> ?_⟩;subst hg;have h5:=hs.2 (by omega);rw[Nat.add_sub_cancel,Cr]at h5
  rcases h5 with h5|⟨h5,h6⟩
  ·grind
  ·exact⟨.inl h5,FX (fun k hk=>.inl hk) h6⟩
theorem VW{h:H}{ρ:Rho}{w:World}{I:Nat->Prop}{id:Nat}{cs:List A}{ds:List D}{esz g:Nat}(r:Rel G h ρ w I)(hid:h[id]? =some (.vec cs esz g))(hl:cs.length=ds.length)(hds:∀b,ρ id=some b->DRs w I ds b 0):
  ∃I',Step G h ρ w I (h.set id (.ice ds esz g)) ρ w I'/\∀b,ρ id=some b->I' b/\DRs w I' ds b 0:=by
 have hlt:id<h.length:=by grind
 have at_id:(h.set id (.ice ds esz g))[id]? =some (.ice ds esz g):=by grind
 have hd:∀b,ρ id=some b->DRs w (fun k=>I k\/ρ id=some k) ds b 0:=fun b hb=>FX (fun k hk=>.inl hk) (hds b hb);refine⟨fun k=>I k\/ρ id=some k,?_,fun b hb=>⟨.inr hb,hd b hb⟩⟩
 have s:=eM (o':=.ice ds esz g) (I':=fun k=>I k\/ρ id=some k) r hid trivial (ρ id) rfl rfl rfl (Ab _) (fun _ _ _=>rfl) (fun _ hb=>.inl hb)
  (fun b hb=>hb.imp (fun x=>x) fun e=>⟨e,.inl fun h=>h⟩) (fun b hb=>.inl hb) (fun _ gen off len a cap hs=> ?_) (fun _ gen b hs=> ?_) (fun _=>by simp only[OR])
 ·rw[cP]at s;exact s
 ·simp only[slOK,hid]at hs;simp only[slOK,at_id];refine⟨hs.1,fun hg=>⟨(hs.2 hg).1,?_⟩⟩;have h2:=(hs.2 hg).2
  cases hρ:ρ id with
  |none=>grind
  |some b=>
   rw[hρ]at h2
   rcases h2 with h2|h2
   ·grind
   ·simp_all
 ·simp only[ptOK,hid]at hs;simp only[ptOK,at_id];exact⟨hs.1,fun hg=>⟨.inr (hs.2 hg),hd b (hs.2 hg)⟩⟩
theorem aIk{h:H}{ρ:Rho}{w:World}{I:Nat->Prop}{id:Nat}{cs:List A}{ds:List D}{b:Nat}(r:Rel G h ρ w I)(hid:h[id]? =some (.box cs))(hb:ρ id=some b)(hd:DRs w I ds b 0):
  ∃I',Step G h ρ w I (h.set id (.ice ds 1 0)) ρ w I'/\I' b/\DRs w I' ds b 0:=by
 have hlt:id<h.length:=by grind
 have at_id:(h.set id (.ice ds 1 0))[id]? =some (.ice ds 1 0):=by grind
 have hd':DRs w (fun k=>I k\/ρ id=some k) ds b 0:=FX (fun k hk=>.inl hk) hd;refine⟨fun k=>I k\/ρ id=some k,?_,.inr hb,hd'⟩
 have s:=eM (o':=.ice ds 1 0) (I':=fun k=>I k\/ρ id=some k) r hid trivial (ρ id) rfl rfl rfl (Ab _) (fun _ _ _=>rfl) (fun _ hb=>.inl hb)
  (fun b hb=>hb.imp (fun x=>x) fun e=>⟨e,.inl fun h=>h⟩) (fun b hb=>.inl hb) (fun _ gen off len a cap hs=> ?_) (fun _ gen b' hs=> ?_) (fun _=>by simp only[OR])
 ·rw[cP]at s;exact s
 ·simp only[slOK,hid]at hs
 ·simp only[ptOK,hid]at hs;simp only[ptOK,at_id];refine⟨by omega,fun _=>⟨.inr hs.2,?_⟩⟩;have:=hs.2;rw[hb]at this;cases this;exact hd'
end
end Ev
end Go.Proofs.YthlkcebdfbjdoaaGreat
