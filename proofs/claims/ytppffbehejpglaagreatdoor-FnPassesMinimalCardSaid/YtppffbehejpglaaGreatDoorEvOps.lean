/-
  Operations that do not change memory, and stores.
-/
import Derived.Test.YtppffbehejpglaaGreatDoorEvRun
import Derived.Laws.Strings
import Derived.Laws.Tables
import Derived.Great.BuildSlice
import Derived.Laws.BytesString
import Derived.Lib.ConvBytes
set_option linter.unusedSimpArgs false
set_option linter.unusedVariables false
set_option linter.unusedSectionVars false
namespace Go.Proofs.YtppffbehejpglaaGreatDoor
namespace Ev
variable{G:Gnd}
theorem TN{v:Value}{a:A}(he:fM v=some a)(h:H)(ρ:Rho)(w:World)(I:Nat->Prop):AR h ρ w I a v:=by
 unfold fM at he
 split at he<;>first
  |cases he
 all_goals simp only[AR,DR]
 exact⟨none,rfl⟩
theorem aCq:∀ {vs:List Value} {asx:List A},K9 vs=some asx->∀(h:H) (ρ:Rho) (w:World) (I:Nat->Prop),ARv h ρ w I asx vs
 | [],asx,he,h,ρ,w,I=>by simp only[K9,Option.some.injEq]at he;subst he;simp only[ARv]
 |v::vs,asx,he,h,ρ,w,I=>by
  simp only[K9]at he
  split at he
  ·rename_i a as' ha has
   cases he;exact⟨v,vs,rfl,TN ha h ρ w I,aCq has h ρ w I⟩
  ·cases he
theorem aJH{v:Value}{a:A}(he:RN v=some a)(h:H)(ρ:Rho)(w:World)(I:Nat->Prop):AR h ρ w I a v:=by
 unfold RN at he
 split at he
 ·rename_i cs
  simp only[Bc]at he;obtain⟨asx,has,rfl⟩:=he;exact⟨cs,rfl,aCq has h ρ w I⟩
 ·exact TN he h ρ w I
theorem aEE{s:List A}{x:Operand}{a:A}(he:cE s x=some a){h:H}{ρ:Rho}{w:World}{I:Nat->Prop}{act:Act}(hs:ARv h ρ w I s act.tmps.toList):AR h ρ w I a (act.eval x):=by
 cases x with
 |tmp t=>
  simp only[cE,Option.some.injEq]at he;subst he;simp only[Act.eval];obtain⟨hl,hall⟩:=(eJ _ _).1 hs
  rcases Ct t s.length with hlt|hge
  ·obtain⟨v,hv,ha⟩:=hall t s[t] smp;have e1:s.getD t (.d .undef)=s[t]:=by grind
   have e2:act.tmps.getD t undef=v:=by simp_all
   rw[e1,e2];exact ha
  ·have e1:s.getD t (.d .undef)=.d .undef:=by simp[Aa,Cq hge]
   have e2:act.tmps.getD t undef=undef:=by grind
   rw[e1,e2];simp only[AR,DR]
 |const v=>exact aJH he h ρ w I
 |func f=>
  simp only[cE,Option.some.injEq]at he;subst he;exact⟨#[],rfl,by simp only[ARv]⟩
 |global g=>cases he
theorem aAf{s:List A}{h:H}{ρ:Rho}{w:World}{I:Nat->Prop}{act:Act}(hs:ARv h ρ w I s act.tmps.toList):∀ {xs:List Operand} {asx:List A},bT s xs=some asx->ARv h ρ w I asx (xs.map act.eval)
 | [],asx,he=>by simp only[bT,Option.some.injEq]at he;subst he;simp only[As,ARv]
 |x::xs,asx,he=>by
  simp only[bT]at he
  split at he
  ·rename_i a as' ha has
   cases he;exact⟨_,_,rfl,aEE ha hs,aAf hs has⟩
  ·cases he
section shapes
variable{h:H}{ρ:Rho}{w:World}{I:Nat->Prop}
theorem aFE{a:A}{v:Value}(ha:AR h ρ w I a v)(ho:dT a=true):v.oneCell'=true:=by
 cases a with
 |d x=>
  simp only[AR]at ha
  cases x<;>simp only[DR]at ha
  all_goals first
   |(simp[dT]at ho;done)
   |(subst ha;rfl)
   |(obtain⟨_,_,rfl,_⟩:=ha;rfl)
   |(obtain⟨_,rfl,_⟩:=ha;rfl)
   |(obtain⟨_,rfl⟩:=ha;rfl)
 |sl id gen off len=>simp only[AR]at ha;obtain⟨_,_,rfl,_⟩:=ha;rfl
 |ptr id gen off=>simp only[AR]at ha;obtain⟨_,rfl,_⟩:=ha;rfl
 |mp id=>simp only[AR]at ha;obtain⟨_,rfl,_⟩:=ha;rfl
 |clo f caps=>simp only[AR]at ha;obtain⟨_,rfl,_⟩:=ha;rfl
 |agg cs=>simp[dT]at ho
 |tup cs=>simp[dT]at ho
 |junk=>simp[dT]at ho
theorem aSg{v:Value}(ho:v.oneCell'=true):v.cells= #[v]:=by
 cases v<;>first|rfl|simp[Value.oneCell']at ho
theorem aDR{a:A}{v:Value}(ha:AR h ρ w I a v)(ho:(a6 a).all dT=true):ARv h ρ w I (a6 a) v.cells.toList/\∀u∈v.cells.toList,u.oneCell'=true:=by
 have single:dT a=true->a6 a=[a]->ARv h ρ w I (a6 a) v.cells.toList/\∀u∈v.cells.toList,u.oneCell'=true:=by
  intro hk hc;have h1:=aFE ha hk;rw[hc,aSg h1];exact⟨by simp only[ARv];exact⟨v,[],rfl,ha,rfl⟩,fun u hu=>by simp at hu;subst hu;exact h1⟩
 cases a with
 |agg cs=>
  obtain⟨C,rfl,hc⟩:=ha;refine⟨hc,fun u hu=> ?_⟩;obtain⟨k,hk,hk'⟩:=Bz hu;obtain⟨hl,hall⟩:=(eJ _ _).1 hc
  have hk2:k<cs.length:=by
   have e:(Value.agg C).cells.toList=C.toList:=rfl;simp only[e]at hk;omega
  obtain⟨u',hu',ha'⟩:=hall k cs[k] smp
  have e:u'=u:=by
   have e1:(Value.agg C).cells.toList[k]? =some u:=by grind
   have e2:C.toList[k]? =some u:=e1;rw[hu']at e2;exact Option.some.inj e2
  subst e
  exact aFE ha' (by
   have:=Bk.1 ho cs[k] (by simp[a6]);exact this)
 |d x=>exact single (by simpa [a6]using ho) rfl
 |sl id gen off len=>exact single (by simpa [a6]using ho) rfl
 |ptr id gen off=>exact single (by simpa [a6]using ho) rfl
 |mp id=>exact single (by simpa [a6]using ho) rfl
 |clo f caps=>exact single (by simpa [a6]using ho) rfl
 |tup cs=>exact single (by simpa [a6]using ho) rfl
 |junk=>exact single (by simpa [a6]using ho) rfl
theorem gG{asx:List A}{vs:List Value}(ha:ARv h ρ w I asx vs):asx.length=vs.length:=((eJ _ _).1 ha).1
theorem aLk{asx:List A}{vs:List Value}(n:Nat)(ha:ARv h ρ w I asx vs):ARv h ρ w I (asx.drop n) (vs.drop n):=by
 rw[eJ]at ha|-;refine⟨by simp[ha.1],fun k a hk=> ?_⟩
 simpa using ha.2 (n+k) a (by simpa using hk)
theorem aL4{asx:List A}{vs:List Value}(n:Nat)(ha:ARv h ρ w I asx vs):ARv h ρ w I (asx.take n) (vs.take n):=by
 rw[eJ]at ha|-;refine⟨by simp[ha.1],fun k a hk=> ?_⟩;rw[Dg]at hk|-
 split at hk
 ·grind
 ·cases hk
theorem uQ{asx bs:List A}{vs us:List Value}(ha:ARv h ρ w I asx vs)(hb:ARv h ρ w I bs us):ARv h ρ w I (asx++bs) (vs++us):=by
 induction asx generalizing vs with
 |nil=>simp only[ARv]at ha;subst ha;simpa using hb
 |cons a asx ih=>
  obtain⟨v,rest,rfl,h1,h2⟩:=ha;exact⟨v,rest++us,rfl,h1,ih h2⟩
theorem aPb{P:Program}{t:TypeId}{cs:List A}{C:Array Value}{off:Nat}{b:Bool}{x:A}(hb:dZ P t=some b)(he:uV b (P.cellsOf t) (cs.drop off)=some x)(hc:ARv h ρ w I cs C.toList):
  ∃u,(part t C off).run P w=.ok u w/\AR h ρ w I x u:=by
 have hinfo:∃i,P.info? t=some i:=by
  unfold dZ at hb
  cases hu:P.underlying t with
  |none=>grind
  |some d=>exact S4 hu
 obtain⟨i,hi⟩:=hinfo;unfold uV at he
 cases b with
 |true=>
  rw[if_pos rfl]at he
  split at he
  ·cases he;refine⟨.agg (C.extract off (off+P.cellsOf t)),by simp[part,PO hb,cO hi],?_⟩
   refine⟨_,rfl,?_⟩;have:=aL4 (P.cellsOf t) (aLk off hc);have e:(C.extract off (off+P.cellsOf t)).toList=(C.toList.drop off).take (P.cellsOf t):=by simp_all
   rw[e];exact this
  ·cases he
 |false=>
  rw[Di]at he;obtain⟨u,hu,hau⟩:=((eJ _ _).1 hc).2 off x he;have hu':C[off]? =some u:=by grind
  exact⟨u,by simp[part,PO hb,hu'],hau⟩
theorem aId{P:Program}{b o:Nat}{f:Field}(hs:P.cellsOf f.type≠0):(fieldPlace ⟨b,o,none⟩ f).run P w=.ok ⟨b,o+f.offset,none⟩ w:=by
 have hi:∃i,P.info? f.type=some i:=by
  cases hi:P.info? f.type with
  |none=>exfalso;apply hs;simp[Program.cellsOf,hi]
  |some i=>grind
 obtain⟨i,hi⟩:=hi;simp[fieldPlace,cO hi,hs,kK]
theorem aPj{a x:A}{off:Nat}{v:Value}(he:vC off a=some x)(ha:AR h ρ w I a v):∃b o,v=.pointer (some ⟨b,o,none⟩)/\AR h ρ w I x (.pointer (some ⟨b,o+off,none⟩)):=by
 cases a with
 |ptr id gen o=>
  simp only[vC,Option.some.injEq]at he;subst he;obtain⟨b,rfl,hp⟩:=ha;exact⟨b,o,rfl,b,rfl,hp⟩
 |d y=>
  cases y with
  |iptr cs=>
   simp only[vC]at he
   split at he
   ·cases he;obtain⟨b,o,rfl,hI,hd⟩:=ha
    exact⟨b,o,rfl,b,o+off,rfl,hI,kE off hd⟩
   ·cases he
  |_=>simp[vC]at he
 |_=>simp[vC]at he
theorem aLz{P:Program}{t:TypeId}{f off:Nat}{ft:TypeId}{a x:A}{v:Value}(hf:cW P t f=some (off,ft))(he:vC off a=some x)(ha:AR h ρ w I a v):
  ∃u,(Instr.fieldAt t v f).run P w=.ok u w/\AR h ρ w I x u:=by
 unfold cW at hf
 split at hf
 ·rename_i fields hu
  split at hf
  ·rename_i fd hfd
   split at hf
   ·cases hf
   ·rename_i hs
    cases hf;obtain⟨b,o,rfl,hx⟩:=aPj he ha
    refine⟨_,?_,hx⟩;simp[Instr.fieldAt,aU hu,hfd,Instr.sureAddr,aId (w:=w) hs]
  ·cases hf
 ·cases hf
theorem aUz{P:Program}{t:TypeId}{f off:Nat}{ft:TypeId}{cs:List A}{x:A}{b:Bool}{v:Value}(hf:cW P t f=some (off,ft))(hb:dZ P ft=some b)(he:uV b (P.cellsOf ft) (cs.drop off)=some x)(ha:AR h ρ w I (.agg cs) v):
  ∃u,(Instr.field t v f).run P w=.ok u w/\AR h ρ w I x u:=by
 unfold cW at hf
 split at hf
 ·rename_i fields hu
  split at hf
  ·rename_i fd hfd
   split at hf
   ·cases hf
   ·cases hf;obtain⟨C,rfl,hc⟩:=ha
    obtain⟨u,hu',hx⟩:=aPb hb he hc;exact⟨u,by simp[Instr.field,aU hu,hfd,asAgg,hu'],hx⟩
  ·cases hf
 ·cases hf
theorem aUM{P:Program}{t:TypeId}{a x:A}{k:IntKind}{i:Int}{v:Value}(he:Q3 P t a i=some x)(ha:AR h ρ w I a v):
  ∃u,(Instr.index t v (.int k i)).run P w=.ok u w/\AR h ρ w I x u:=by
 unfold Q3 at he
 split at he
 ·rename_i s hu
  split at he
  ·rename_i h0
   simp only[Bc]at he;obtain⟨b,hb,rfl⟩:=he;subst ha;have hlt:=(Aw.1 hb).1
   have hb2:(⟨s.toArray⟩:ByteArray)[i.toNat]? =some b:=by
    have hsz:i.toNat<(⟨s.toArray⟩:ByteArray).size:=by simpa [ByteArray.size]using hlt
    rw[getElem?_pos (⟨s.toArray⟩:ByteArray) i.toNat hsz];have:(⟨s.toArray⟩:ByteArray)[i.toNat]=s[i.toNat]:=rfl;rw[this,(Aw.1 hb).2]
   refine⟨.int .u8 b.toNat,?_,by simp only[AR,DR]⟩;simp[Instr.index,asIntOf,aU hu,h0,hb2]
  ·cases he
 ·rename_i n e cs hu
  split at he
  ·rename_i hi
   simp only[Ep]at he;obtain⟨b,hb,he⟩:=he;obtain⟨C,rfl,hc⟩:=ha;obtain⟨u,hu',hx⟩:=aPb hb he hc
   have hinfo:∃j,P.info? e=some j:=by
    unfold dZ at hb
    cases hu:P.underlying e with
    |none=>grind
    |some d=>exact S4 hu
   obtain⟨j,hj⟩:=hinfo;exact⟨u,by simp[Instr.index,asIntOf,aU hu,hi,cO hj,hu'],hx⟩
  ·cases he
 ·cases he
end shapes
end Ev
end Go.Proofs.YtppffbehejpglaaGreatDoor
namespace Go.Proofs.YtppffbehejpglaaGreatDoor
namespace Ev
variable{G:Gnd}
section
variable{P:Program}{h:H}{ρ:Rho}{w:World}{I:Nat->Prop}
theorem nG{e:TypeId}(hp:0<P.cellsOf e):∃i,P.info? e=some i:=by
 cases hi:P.info? e with
 |none=>exfalso;simp[Program.cellsOf,hi]at hp
 |some i=>grind
theorem aMF{t:TypeId}{a x:A}{k:IntKind}{i:Int}{v:Value}(he:pO P h t a i=some x)(ha:AR h ρ w I a v):
  ∃u,(Instr.indexAt t v (.int k i)).run P w=.ok u w/\AR h ρ w I x u:=by
 unfold pO at he
 split at he
 ·rename_i n e hu
  split at he
  ·rename_i hc
   obtain⟨j,hj⟩:=nG hc.1;obtain⟨b,o,rfl,hx⟩:=aPj he ha;refine⟨_,?_,hx⟩;simp[Instr.indexAt,asIntOf,aU hu,Instr.sureAddr,hc.2,cO hj,kK]
  ·cases he
 ·rename_i e hu
  split at he
  ·rename_i n cs
   split at he
   ·rename_i hc
    obtain⟨j,hj⟩:=nG hc.1;cases he;simp only[AR,DR]at ha|-;obtain⟨a,cap,rfl,hcap,hcs⟩:=ha
    rcases hcs with hcs|⟨b,o,rfl,hI,hd⟩
    ·subst hcs;simp at hc
    ·refine⟨.pointer (some ⟨b,o+i.toNat*P.cellsOf e,none⟩),?_,b,_,rfl,hI,kE _ hd⟩;simp[Instr.indexAt,asIntOf,aU hu,hc.2.1,hc.2.2.1,cO hj,kK]
   ·cases he
  ·rename_i id gen off len
   simp only[AR]at ha;obtain⟨a,cap,rfl,hs⟩:=ha
   have run:∀(b:Nat) (esz:Nat),a=some ⟨b,off,none⟩->esz=P.cellsOf e->0<esz->0<=i->i<len->(Instr.indexAt t (.slice a len cap) (.int k i)).run P w=.ok (.pointer (some ⟨b,off+i.toNat*esz,none⟩)) w:=by
    intro b esz ha he hpos h0 h1;subst ha;subst he;obtain⟨j,hj⟩:=nG hpos;simp[Instr.indexAt,asIntOf,aU hu,h0,h1,cO hj,kK]
   cases hid:h[id]? with
   |none=>rw[hid]at he;cases he
   |some o=>
    rw[hid]at he
    cases o with
    |box cs=>cases he
    |mp es=>cases he
    |void=>cases he
    |arr cs esz g=>
     simp only[]at he
     split at he
     ·rename_i hc
      cases he;simp only[slOK,hid]at hs
      have h2:=(hs.2 hc.1.symm).2;have h1:=(hs.2 hc.1.symm).1
      cases hρ:ρ id with
      |none=>rw[hρ]at h2;simp only[]at h2;omega
      |some b=>
       rw[hρ]at h2
       rcases h2 with h2|h2
       ·omega
       ·exact⟨_,run b esz h2.1 hc.2.1 hc.2.2.1 hc.2.2.2.1 hc.2.2.2.2,by simp only[AR];exact⟨b,rfl,by simp only[ptOK,hid];exact⟨hs.1,fun _=>hρ⟩⟩⟩
     ·cases he
    |vec cs esz g=>
     simp only[]at he
     split at he
     ·rename_i hc
      cases he;simp only[slOK,hid]at hs
      have h2:=(hs.2 hc.1.symm).2;have h1:=(hs.2 hc.1.symm).1
      cases hρ:ρ id with
      |none=>rw[hρ]at h2;simp only[]at h2;omega
      |some b=>
       rw[hρ]at h2
       rcases h2 with h2|h2
       ·omega
       ·exact⟨_,run b esz h2.1 hc.2.1 hc.2.2.1 hc.2.2.2.1 hc.2.2.2.2,by simp only[AR];exact⟨b,rfl,by simp only[ptOK,hid];exact⟨hs.1,fun _=>hρ⟩⟩⟩
     ·cases he
    |ice cs esz g=>
     simp only[]at he
     split at he
     ·rename_i hc
      cases he;simp only[slOK,hid]at hs
      rcases(hs.2 hc.1.symm).2 with h2|⟨_,b,hb,hI,hd⟩
      ·omega
      ·exact⟨_,run b esz hb hc.2.1 hc.2.2.1 hc.2.2.2.1 hc.2.2.2.2,by simp only[AR];exact⟨b,rfl,by simp only[ptOK,hid];exact⟨hs.1,fun _=>⟨hI,hd⟩⟩⟩⟩
     ·cases he
    |log cs=>
     simp only[]at he
     split at he
     ·rename_i hc
      cases he;simp only[slOK,hid]at hs
      rcases(hs.2 hc.1).2.1 with h2|⟨_,b,hb,hI⟩
      ·omega
      ·refine⟨_,run b 1 hb hc.2.2.1.symm om hc.2.2.2.1 hc.2.2.2.2,?_⟩;rw[Ch];simp only[AR];exact⟨b,rfl,by simp only[ptOK,hid];exact⟨hs.1,fun _=>hI⟩⟩
     ·cases he
  ·cases he
 ·cases he
def optV(k:IntKind)(o:Option Int):Option Value:=o.map (.int k)
theorem EO{n cap:Nat}{lo hi:Option Int}{l u:Nat}(isS:Bool)(he:lH n lo hi=some (l,u))(hcap:n<=cap)(k k':IntKind):
  (Instr.sliceBounds isS n cap (optV k lo) (optV k' hi) none).run P w=.ok (l,u,cap) w/\l<=u/\u<=n:=by
 unfold lH at he
 split at he
 ·rename_i hc
  cases he;obtain⟨h1,h2,h3⟩:=hc
  refine⟨?_,by omega,by omega⟩
  cases lo with
  |none=>
   cases hi with
   |none=>simp[Instr.sliceBounds,optV]
   |some b=>
    simp only[Bg,Option.getD_none]at h2 h3;simp[Instr.sliceBounds,optV,Instr.sliceBound,asIntOf,show(0:Int)<=b/\b<=cap from⟨by omega,by omega⟩]
  |some a=>
   cases hi with
   |none=>
    simp[Instr.sliceBounds,optV,Instr.sliceBound,asIntOf,show(0:Int)<=a/\a<=n from⟨h1,h2⟩]
   |some b=>
    simp only[Bg]at h1 h2 h3;obtain⟨a',rfl⟩:=Dj h1;obtain⟨b',rfl⟩:=Dj (Int.le_trans h1 h2);have e1:b'<=cap:=om;have e2:a'<=b':=om;simp[Instr.sliceBounds,optV,Instr.sliceBound,asIntOf,e1,e2]
 ·cases he
theorem TZ{t:TypeId}{a x:A}{lo hi:Option Int}{v:Value}(k k':IntKind)(he:eN P h t a lo hi=some x)(ha:AR h ρ w I a v):
  ∃u,(Instr.sliceAt t v (optV k lo) (optV k' hi) none).run P w=.ok u w/\AR h ρ w I x u:=by
 unfold eN at he
 split at he
 ·rename_i s hu
  simp only[Bc]at he;obtain⟨⟨l,u⟩,hb,rfl⟩:=he;simp only[AR,DR]at ha|-;subst ha;have hsz:(⟨s.toArray⟩:ByteArray).size=s.length:=by simp[ByteArray.size]
  obtain⟨h1,h2,h3⟩:=EO (P:=P) (w:=w) false hb (Ab _) k k';rw[<-hsz]at h1;refine⟨.string ((⟨s.toArray⟩:ByteArray).extract l u),by simp only[Instr.sliceAt,Instr.slice,Sem.run_bind,aU hu];simp[aU hu,h1],?_⟩
  congr 1
  have e:((⟨s.toArray⟩:ByteArray).extract l u).data.toList=(s.drop l).take (u-l):=by
   simp[ByteArray.data_extract,List.extract_eq_take_drop]
  cases hx:(⟨s.toArray⟩:ByteArray).extract l u with
  |mk d=>rw[hx]at e;simp only at e;rw[<-e]
 ·rename_i e n cs hu
  split at he
  ·rename_i hpos
   simp only[Bc]at he;obtain⟨⟨l,u⟩,hb,rfl⟩:=he;simp only[AR,DR]at ha|-;obtain⟨a,cap,rfl,hcap,hcs⟩:=ha;obtain⟨h1,h2,h3⟩:=EO (P:=P) (w:=w) true hb hcap k k';obtain⟨j,hj⟩:=nG hpos;refine⟨.slice (if cap=l then a else a.map (·.add (l*P.cellsOf e))) (u-l) (cap-l),by simp only[Instr.sliceAt,Instr.slice,Sem.run_bind,aU hu];simp[aU hu,h1,cO hj],_,_,rfl,by omega,?_⟩
   rcases hcs with rfl|⟨b,o,rfl,hI,hd⟩
   ·exact .inl smp
   ·by_cases hcl:cap=l
    ·exact .inl (by rw[show u-l=0 from by omega];simp)
    ·refine .inr ⟨b,o+l*P.cellsOf e,by simp[hcl,kK],hI,x9 _ (kE _ hd)⟩
  ·cases he
 ·rename_i e id gen off len hu
  split at he
  ·rename_i cs esz g hid
   split at he
   ·rename_i hc
    simp only[Bc]at he;obtain⟨⟨l,u⟩,hb,rfl⟩:=he;simp only[AR]at ha|-;obtain⟨a,cap,rfl,hs⟩:=ha;simp only[slOK,hid]at hs;have h4:=hs.2 hc.1.symm;obtain⟨h1,h2,h3⟩:=EO (P:=P) (w:=w) true hb h4.1 k k';obtain⟨j,hj⟩:=nG hc.2.1;refine⟨.slice (if cap=l then a else a.map (·.add (l*P.cellsOf e))) (u-l) (cap-l),by simp only[Instr.sliceAt,Instr.slice,Sem.run_bind,aU hu];simp[aU hu,h1,cO hj],_,_,rfl,?_⟩;simp only[slOK,hid];refine⟨hs.1,fun hg=>⟨by omega,?_⟩⟩;have h5:=h4.2
    cases hρ:ρ id with
    |none=>rw[hρ]at h5;simp only[]at h5|-;omega
    |some b=>
     rw[hρ]at h5;simp only[]at h5|-
     rcases h5 with h5|⟨ha5,hlen,C,E,fz,hC,hcap⟩
     ·exact .inl om
     ·by_cases hcl:cap=l
      ·exact .inl om
      ·have hesz:esz=P.cellsOf e\/l=0:=by
        rcases hc.2.2 with hz|hz
        ·exact .inr om
        ·exact .inl hz
       refine .inr ⟨?_,?_,C,E,fz,hC,?_⟩
       ·rw[if_neg hcl,ha5]
        rcases hesz with hz|hz
        ·simp[kK,hz]
        ·subst hz;simp[kK]
       ·have e1:l*esz+(u-l)*esz=u*esz:=by rw[<-Cc];congr 1;omega
        have e2:u*esz<=len*esz:=Nat.mul_le_mul_right _ h3;omega
       ·have e1:l*esz+(cap-l)*esz=cap*esz:=by rw[<-Cc];congr 1;omega
        omega
   ·cases he
  ·rename_i cs esz g hid
   split at he
   ·rename_i hc
    simp only[Bc]at he;obtain⟨⟨l,u⟩,hb,rfl⟩:=he;simp only[AR]at ha|-;obtain⟨a,cap,rfl,hs⟩:=ha;simp only[slOK,hid]at hs;have h4:=hs.2 hc.1.symm;obtain⟨h1,h2,h3⟩:=EO (P:=P) (w:=w) true hb h4.1 k k';obtain⟨j,hj⟩:=nG hc.2.1;refine⟨.slice (if cap=l then a else a.map (·.add (l*P.cellsOf e))) (u-l) (cap-l),by simp only[Instr.sliceAt,Instr.slice,Sem.run_bind,aU hu];simp[aU hu,h1,cO hj],_,_,rfl,?_⟩;simp only[slOK,hid];refine⟨hs.1,fun hg=>⟨by omega,?_⟩⟩;have h5:=h4.2
    cases hρ:ρ id with
    |none=>rw[hρ]at h5;simp only[]at h5|-;omega
    |some b=>
     rw[hρ]at h5;simp only[]at h5|-
     rcases h5 with h5|⟨ha5,hlen,C,E,fz,hC,hcap⟩
     ·exact .inl om
     ·by_cases hcl:cap=l
      ·exact .inl om
      ·have hesz:esz=P.cellsOf e\/l=0:=by
        rcases hc.2.2 with hz|hz
        ·exact .inr om
        ·exact .inl hz
       refine .inr ⟨?_,?_,C,E,fz,hC,?_⟩
       ·rw[if_neg hcl,ha5]
        rcases hesz with hz|hz
        ·simp[kK,hz]
        ·subst hz;simp[kK]
       ·have e1:l*esz+(u-l)*esz=u*esz:=by rw[<-Cc];congr 1;omega
        have e2:u*esz<=len*esz:=Nat.mul_le_mul_right _ h3;omega
       ·have e1:l*esz+(cap-l)*esz=cap*esz:=by rw[<-Cc];congr 1;omega
        omega
   ·cases he
  ·rename_i cs hid
   split at he
   ·rename_i hc
    simp only[Bc]at he;obtain⟨⟨l,u⟩,hb,rfl⟩:=he;simp only[AR]at ha|-;obtain⟨a,cap,rfl,hs⟩:=ha;simp only[slOK,hid]at hs;obtain⟨h4,h5,h6⟩:=hs.2 hc.1;obtain⟨h1,h2,h3⟩:=EO (P:=P) (w:=w) true hb h4 k k';obtain⟨j,hj⟩:=nG (P:=P) (e:=e) om;refine⟨.slice (if cap=l then a else a.map (·.add (l*P.cellsOf e))) (u-l) (cap-l),by simp only[Instr.sliceAt,Instr.slice,Sem.run_bind,aU hu];simp[aU hu,h1,cO hj],_,_,rfl,?_⟩;simp only[slOK,hid];clear hj;refine⟨hs.1,fun _=>⟨by omega,?_,fun hg=> ?_⟩⟩
    ·by_cases hul:u-l=0
     ·exact .inl hul
     ·rcases h5 with h5|⟨h7,b,rfl,h8⟩
      ·omega
      ·refine .inr ⟨Nat.lt_of_le_of_lt (by rw[Nat.add_assoc,Nat.add_sub_cancel' h2];exact Nat.add_le_add_left h3 _) h7,b,?_,h8⟩;rw[if_neg (by intro hcl;apply hul;rw[hcl]at h4;exact Nat.sub_eq_zero_of_le (Bp h3 h4))];simp[kK,hc.2.2]
    ·rcases h6 hg with h7|⟨b,h7,rfl,C,E,fz,h8,h9⟩
     ·exact .inl om
     ·by_cases hcl:cap=l
      ·exact .inl om
      ·refine .inr ⟨b,h7,?_,C,E,fz,h8,by omega⟩;rw[if_neg hcl];simp[kK,hc.2.2]
   ·cases he
  ·cases he
 ·cases he
theorem K8{op:BinOp}{t:TypeId}{x y:Operand}{a b:Value}(h1:a≠.nilIface)(h2:a.oneCell'=true):(eqGuard op t x y a b).run P w=.ok () w:=by
 cases op<;>cases a<;>first
  |(exact absurd rfl h1)
  |(simp[Value.oneCell']at h2;done)
  |rfl
theorem J1{s:Sem Value}{x:A}(he:(sV s).bind fM=some x):∃u,s.run P w=.ok u w/\AR h ρ w I x u:=by
 cases s with
 |pure v=>
  exact⟨v,rfl,TN he h ρ w I⟩
 |_=>simp[sV]at he
theorem uK(s:List UInt8):(⟨s.toArray⟩:ByteArray).toList=s:=ByteArray.toList_mk s
theorem aXh{op:BinOp}{t:TypeId}{xo yo:Operand}{a b x:A}{u v:Value}(he:aBin op a b=some x)(ha:AR h ρ w I a u)(hb:AR h ρ w I b v):
  ∃r,(do eqGuard op t xo yo u v;binOp op t u v:Sem Value).run P w=.ok r w/\AR h ρ w I x r:=by
 unfold aBin at he
 split at he
 ·-- shl
  simp only[AR,DR]at ha hb;subst ha;subst hb;obtain⟨r,hr,hx⟩:=J1 (P:=P) (w:=w) (h:=h) (ρ:=ρ) (I:=I) he;exact⟨r,by simp only[Sem.run_bind,K8 (a:=.int _ _) smp rfl];simpa [binOp]using hr,hx⟩
 ·simp only[AR,DR]at ha hb;subst ha;subst hb;obtain⟨r,hr,hx⟩:=J1 (P:=P) (w:=w) (h:=h) (ρ:=ρ) (I:=I) he;exact⟨r,by simp only[Sem.run_bind,K8 (a:=.int _ _) smp rfl];simpa [binOp]using hr,hx⟩
 ·rename_i k m k' n hn1 hn2
  simp only[AR,DR]at ha hb;subst ha;subst hb
  split at he
  ·cases he
  ·rename_i hk
   have hk:k=k':=by simpa using hk
   subst hk;have g:=fun op=>K8 (P:=P) (w:=w) (op:=op) (t:=t) (x:=xo) (y:=yo) (a:=.int k m) (b:=.int k n) smp rfl
   have pv:∀(op:BinOp) (s:Sem Value),(sV s).bind fM=some x->binOp op t (.int k m) (.int k n)=s->
     ∃r,(do eqGuard op t xo yo (.int k m) (.int k n);binOp op t (.int k m) (.int k n):Sem Value).run P w=.ok r w/\AR h ρ w I x r:=by
    intro op s hs hb;obtain⟨r,hr,hx⟩:=J1 (P:=P) (w:=w) (h:=h) (ρ:=ρ) (I:=I) hs;exact⟨r,by simp only[Sem.run_bind,g,hb];simpa using hr,hx⟩
   have bv:∀(op:BinOp) (c:Bool),some (A.d (.bool c))=some x->binOp op t (.int k m) (.int k n)=pure (.bool c)->
     ∃r,(do eqGuard op t xo yo (.int k m) (.int k n);binOp op t (.int k m) (.int k n):Sem Value).run P w=.ok r w/\AR h ρ w I x r:=by
    intro op c hs hb;cases hs;exact⟨.bool c,by simp only[Sem.run_bind,g,hb];rfl,by simp only[AR,DR]⟩
   split at he
   ·exact pv _ _ he (by simp[binOp])
   ·exact pv _ _ he (by simp[binOp])
   ·exact pv _ _ he (by simp[binOp])
   ·split at he
    ·cases he
    ·rename_i hz
     cases he;exact⟨.int k (k.wrap (m.tdiv n)),by simp only[Sem.run_bind,g];simp[binOp,Op.intDiv,hz],by simp only[AR,DR]⟩
   ·split at he
    ·cases he
    ·rename_i hz
     cases he;exact⟨.int k (m.tmod n),by simp only[Sem.run_bind,g];simp[binOp,Op.intDiv,hz],by simp only[AR,DR]⟩
   ·exact pv _ _ he (by simp[binOp])
   ·exact pv _ _ he (by simp[binOp])
   ·exact pv _ _ he (by simp[binOp])
   ·exact pv _ _ he (by simp[binOp])
   ·exact bv _ _ he (by simp[binOp,Op.intCmp])
   ·exact bv _ _ he (by simp[binOp,Op.intCmp])
   ·exact bv _ _ he (by simp[binOp,Op.intCmp])
   ·exact bv _ _ he (by simp[binOp,Op.intCmp])
   ·exact bv _ _ he (by simp[binOp,Op.intCmp])
   ·exact bv _ _ he (by simp[binOp,Op.intCmp])
   ·cases he
 ·rename_i a b
  simp only[AR,DR]at ha hb;subst ha;subst hb;have g:=fun op=>K8 (P:=P) (w:=w) (op:=op) (t:=t) (x:=xo) (y:=yo) (a:=.string ⟨a.toArray⟩) (b:=.string ⟨b.toArray⟩) smp rfl
  have bv:∀(op:BinOp) (c:Bool),some (A.d (.bool c))=some x->binOp op t (.string ⟨a.toArray⟩) (.string ⟨b.toArray⟩)=pure (.bool c)->
    ∃r,(do eqGuard op t xo yo (.string ⟨a.toArray⟩) (.string ⟨b.toArray⟩);binOp op t (.string ⟨a.toArray⟩) (.string ⟨b.toArray⟩):Sem Value).run P w=.ok r w/\AR h ρ w I x r:=by
   intro op c hs hb;cases hs;exact⟨.bool c,by simp only[Sem.run_bind,g,hb];rfl,by simp only[AR,DR]⟩
  split at he
  ·split at he
   ·rename_i hle
    cases he;refine⟨.string (⟨a.toArray⟩++⟨b.toArray⟩),?_,?_⟩
    ·have hsz:¬((((⟨a.toArray⟩:ByteArray).size+(⟨b.toArray⟩:ByteArray).size:Nat):Int)>IntKind.i64.max):=by
      have:(⟨a.toArray⟩:ByteArray).size+(⟨b.toArray⟩:ByteArray).size=a.length+b.length:=by simp[ByteArray.size]
      rw[this];unfold bI at hle;simp only[IntKind.max,IntKind.signed,IntKind.bits,if_true];omega
     have hb:binOp .add t (.string ⟨a.toArray⟩) (.string ⟨b.toArray⟩)=pure (.string (⟨a.toArray⟩++⟨b.toArray⟩)):=by
      simp only[binOp,Op.stringOp,if_neg hsz]
     simp only[Sem.run_bind,g,hb]<;>rfl
    ·simp only[AR,DR]
     congr 1
   ·cases he
  ·exact bv _ _ he (by simp only[binOp,Op.stringOp,uK])
  ·exact bv _ _ he (by simp only[binOp,Op.stringOp,uK])
  ·exact bv _ _ he (by simp only[binOp,Op.stringOp,uK])
  ·exact bv _ _ he (by simp only[binOp,Op.stringOp,uK])
  ·exact bv _ _ he (by simp only[binOp,Op.stringOp,uK])
  ·exact bv _ _ he (by simp only[binOp,Op.stringOp,uK])
  ·cases he
 ·cases he
theorem zK{t:TypeId}{a b:Value}{c:Bool}{op:BinOp}{x:A}(hq:∀w,(Op.equal t a b).run P w=.ok c w)(hb:∀op,op=.eql\/op=.neq->binOp op t a b=(match op with|.eql=>do pure (.bool (<-Op.equal t a b))|_=>do pure (.bool (!(<-Op.equal t a b))):Sem Value))
  (he:eqlA op c=some x):∃r,(binOp op t a b).run P w=.ok r w/\AR h ρ w I x r:=by
 unfold eqlA at he
 split at he
 ·cases he;exact⟨.bool c,by rw[hb _ (.inl rfl)];simp[hq],by simp only[AR,DR]⟩
 ·cases he;exact⟨.bool (!c),by rw[hb _ (.inr rfl)];simp[hq],by simp only[AR,DR]⟩
 ·cases he
theorem aWT{op:BinOp}{t:TypeId}{xo yo:Operand}{a b x:A}{u v:Value}(he:aNil P op t a b=some x)(ha:AR h ρ w I a u)(hb:AR h ρ w I b v):
  ∃r,(do eqGuard op t xo yo u v;binOp op t u v:Sem Value).run P w=.ok r w/\AR h ρ w I x r:=by
 have g:∀(a b:Value),a≠.nilIface->a.oneCell'=true->∀x:A,(∃r,(binOp op t a b).run P w=.ok r w/\AR h ρ w I x r)->∃r,(do eqGuard op t xo yo a b;binOp op t a b:Sem Value).run P w=.ok r w/\AR h ρ w I x r:=
  fun a b h1 h2 x ⟨r,hr,hx⟩=>⟨r,by simp only[Sem.run_bind,K8 (op:=op) (t:=t) (x:=xo) (y:=yo) (b:=b) h1 h2];simpa using hr,hx⟩
 unfold aNil at he
 split at he
 ·rename_i a b hu
  simp only[AR,DR]at ha hb;subst ha;subst hb;refine g _ _ smp rfl x (zK (fun w=> ?_) (fun op ho=> ?_) he)
  ·show(Op.equalIn (9999+1) t _ _).run P w=_;generalize 9999=d;simp only[Op.equalIn,Sem.run_bind,aU hu]<;>rfl
  ·rcases ho with rfl|rfl<;>rfl
 ·rename_i e hu
  simp only[AR,DR]at ha hb;subst ha;subst hb;refine g _ _ smp rfl x (zK (fun w=> ?_) (fun op ho=> ?_) he)
  ·show(Op.equalIn (9999+1) t _ _).run P w=_;generalize 9999=d;simp only[Op.equalIn,Sem.run_bind,aU hu]<;>rfl
  ·rcases ho with rfl|rfl<;>rfl
 ·rename_i e cs hu
  simp only[AR,DR]at ha hb;obtain⟨b,o,rfl,_⟩:=hb;subst ha;refine g _ _ smp rfl x (zK (fun w=> ?_) (fun op ho=> ?_) he)
  ·show(Op.equalIn (9999+1) t _ _).run P w=_;generalize 9999=d;simp only[Op.equalIn,Sem.run_bind,aU hu]<;>rfl
  ·rcases ho with rfl|rfl<;>rfl
 ·rename_i e cs hu
  simp only[AR,DR]at ha hb;obtain⟨b,o,rfl,_⟩:=ha;subst hb;refine g _ _ smp rfl x (zK (fun w=> ?_) (fun op ho=> ?_) he)
  ·show(Op.equalIn (9999+1) t _ _).run P w=_;generalize 9999=d;simp only[Op.equalIn,Sem.run_bind,aU hu]<;>rfl
  ·rcases ho with rfl|rfl<;>rfl
 ·rename_i ms t' y hu
  simp only[AR,DR]at ha hb;obtain⟨u',rfl,_⟩:=ha;subst hb;refine g _ _ smp rfl x (zK (fun w=> ?_) (fun op ho=> ?_) he)
  ·show(Op.equalIn (9999+1) t _ _).run P w=_;generalize 9999=d;simp only[Op.equalIn,Sem.run_bind,aU hu]<;>rfl
  ·rcases ho with rfl|rfl<;>rfl
 ·cases he
def aQz(P:Program)(eqs:List (TypeId×Nat)):Prop:=∀t n,eqs.contains (t,n)=true->∀(asx bs:List Int),asx.length=n->bs.length=n->∀w,
 (Op.equal t (.agg (asx.map (Value.int .i64)).toArray) (.agg (bs.map (Value.int .i64)).toArray)).run P w=.ok (asx==bs) w/\
 ∀op x y,(eqGuard op t x y (.agg (asx.map (Value.int .i64)).toArray) (.agg (bs.map (Value.int .i64)).toArray)).run P w=.ok () w
theorem aH1:∀ {xs:List A} {asx:List Int} {vs:List Value},aBb xs=some asx->ARv h ρ w I xs vs->vs=asx.map (Value.int .i64)
 | [],asx,vs,he,hv=>by
  simp only[aBb,Option.some.injEq]at he;subst he;simp only[ARv]at hv;subst hv;rfl
 |x::xs,asx,vs,he,hv=>by
  obtain⟨v,rest,rfl,hx,hr⟩:=hv;unfold aBb at he
  split at he
  ·grind
  ·rename_i n xs' h0
   cases h0;simp only[Bc]at he
   obtain⟨as',has,rfl⟩:=he;rw[hx,aH1 has hr];rfl
  ·cases he
theorem aUh{eqs:List (TypeId×Nat)}(hq:aQz P eqs){op:BinOp}{t:TypeId}{xo yo:Operand}{a b x:A}{u v:Value}(he:aMW eqs op t a b=some x)(ha:AR h ρ w I a u)(hb:AR h ρ w I b v):
  ∃r,(do eqGuard op t xo yo u v;binOp op t u v:Sem Value).run P w=.ok r w/\AR h ρ w I x r:=by
 unfold aMW at he
 split at he
 ·rename_i xs ys
  split at he
  ·rename_i asx bs h1 h2
   split at he
   ·rename_i hc
    obtain⟨C,rfl,hC⟩:=ha;obtain⟨D,rfl,hD⟩:=hb;have e1:=aH1 h1 hC;have e2:=aH1 h2 hD;have e1':C=(asx.map (Value.int .i64)).toArray:=by grind
    have e2':D=(bs.map (Value.int .i64)).toArray:=by grind
    subst e1';subst e2';have q:=fun w=>hq t asx.length hc.1 asx bs rfl hc.2.symm w;obtain⟨r,hr,hx⟩:=zK (P:=P) (w:=w) (h:=h) (ρ:=ρ) (I:=I) (fun w=>(q w).1) (fun op ho=>by rcases ho with rfl|rfl<;>rfl) he;exact⟨r,by simp only[Sem.run_bind,(q w).2];simpa using hr,hx⟩
   ·cases he
  ·cases he
 ·cases he
theorem aXL{op:UnOp}{a x:A}{v:Value}(he:aUn op a=some x)(ha:AR h ρ w I a v):∃r,(Op.unary op v).run P w=.ok r w/\AR h ρ w I x r:=by
 unfold aUn at he
 split at he
 ·simp only[AR,DR]at ha;subst ha;exact J1 he
 ·simp only[AR,DR]at ha;subst ha;exact J1 he
 ·simp only[AR,DR]at ha;subst ha;cases he;exact⟨_,rfl,by simp only[AR,DR]⟩
 ·cases he
theorem aXf{t ty:TypeId}{a x:A}{v:Value}{ts:Array TypeId}(ht:ts[0]? =some t)(he:aLen P t a=some x)(ha:AR h ρ w I a v):∃r,(Builtin.len_ ts ty #[v]).run P w=.ok r w/\AR h ρ w I x r:=by
 unfold aLen at he
 split at he
 ·rename_i s hu
  simp only[AR,DR]at ha;subst ha;cases he;have e:(⟨s.toArray⟩:ByteArray).size=s.length:=by simp[ByteArray.size]
  exact⟨.int .i64 s.length,by simp[Builtin.len_,ht,aU hu,goInt,e],by simp only[AR,DR]⟩
 ·rename_i n e hu
  cases he;exact⟨.int .i64 n,by simp[Builtin.len_,ht,aU hu,goInt],by simp only[AR,DR]⟩
 ·rename_i e hu
  simp only[AR,DR]at ha;obtain⟨a,rfl⟩:=ha;cases he;exact⟨.int .i64 0,by simp[Builtin.len_,ht,aU hu,goInt],by simp only[AR,DR]⟩
 ·rename_i e n cs hu
  simp only[AR,DR]at ha;obtain⟨a,cap,rfl,_⟩:=ha;cases he;exact⟨.int .i64 n,by simp[Builtin.len_,ht,aU hu,goInt],by simp only[AR,DR]⟩
 ·rename_i e id g o n hu
  simp only[AR]at ha;obtain⟨a,cap,rfl,_⟩:=ha;cases he;exact⟨.int .i64 n,by simp[Builtin.len_,ht,aU hu,goInt],by simp only[AR,DR]⟩
 ·cases he
end
end Ev
end Go.Proofs.YtppffbehejpglaaGreatDoor
namespace Go.Proofs.YtppffbehejpglaaGreatDoor
namespace Ev
variable{G:Gnd}
section
variable{P:Program}{h:H}{ρ:Rho}{w:World}{I:Nat->Prop}
theorem aBd:∀(cells:List A) {h:H} {ρ:Rho} {vs:List Value},Rel G h ρ w I->ARv h ρ w I cells vs->
  ∃ρ',Step G h ρ w I (bE h cells).2 ρ' w I/\ARv (bE h cells).2 ρ' w I (bE h cells).1 vs/\∀id,id<h.length->(bE h cells).2[id]? =h[id]?/\ρ' id=ρ id
 | [],h,ρ,vs,r,ha=>⟨ρ,by simp only[bE];exact .refl r,by simpa only[bE]using ha,fun id _=>by simp only[bE];exact⟨trivial,trivial⟩⟩
 |c::cs,h,ρ,vs,r,ha=>by
  obtain⟨v,rest,rfl,hc,hr⟩:=ha
  by_cases hn:c=.d .nils
  ·subst hn;have s1:=fH r (Grew.refl w) (.arr [] 0 0) none smp (fun _=>by simp[OR,bG]);obtain⟨ρ',s2,h2,h3⟩:=aBd cs s1.rel (fO s1.ext cs rest hr);simp only[bE];refine⟨ρ',s1.trans s2,?_,fun id hid=> ?_⟩
   ·simp only[ARv];refine⟨v,rest,rfl,?_,h2⟩;refine jX s2.ext _ v ?_;obtain⟨a,rfl⟩:=hc;refine⟨a,0,rfl,?_⟩;have e:(h++[O.arr [] 0 0])[h.length]? =some (.arr [] 0 0):=smp;simp only[slOK,e,bG];simp
   ·have:=h3 id (by simp;omega);rw[this.1,this.2,Be hid,dE ρ none om];exact⟨rfl,rfl⟩
  ·have e1:bE h (c::cs)=(c::(bE h cs).1,(bE h cs).2):=by
    rw[bE.eq_def]
    split
    ·grind
    ·grind
    ·grind
   obtain⟨ρ',s2,h2,h3⟩:=aBd cs r hr;rw[e1];exact⟨ρ',s2,by simp only[ARv];exact⟨v,rest,rfl,jX s2.ext c v hc,h2⟩,h3⟩
theorem BX{α:Type}(cs:List α)(off:Nat)(new:List α)(hl:off+new.length<=cs.length)(k:Nat):(bK cs off new)[k]? =if off<=k/\k<off+new.length then new[k-off]? else cs[k]?:=by
 unfold bK
 by_cases h1:k<off
 ·grind
 ·grind
theorem GU{α:Type}(cs:List α)(off:Nat)(new:List α)(hl:off+new.length<=cs.length):(bK cs off new).length=cs.length:=by
 unfold bK;simp;omega
theorem PT{t:TypeId}{b o:Nat}{v:Value}{C:Array Value}{E:TypeId}{fz:Nat×Nat}{i:TypeInfo}(hi:P.info? t=some i)(hs:v.cells.toList.length=P.cellsOf t)(hb:w.heap[b]? =some (.cells C E fz))(hfz:yI C fz)
  (hl:o+v.cells.toList.length<=C.size) (hone:∀u∈v.cells.toList,u.oneCell'=true):
  ∃C':Array Value,(Instr.storeAt t (.pointer (some ⟨b,o,none⟩)) v).run P w=.ok () (cQ w b (.cells C' E fz))/\C'.size=C.size/\
   ∀k:Nat,C'[k]? =if o<=k/\k<o+v.cells.toList.length then v.cells.toList[k-o]? else C[k]?:=by
 obtain⟨C',h1,h2,h3⟩:=B0 (P:=P) (o:=o) v.cells.toList 0 C w hb hfz om hone;refine⟨C',?_,h2,fun k=>by simpa using h3 k⟩;have hs':v.cells.size=P.cellsOf t:=by grind
 simp[Instr.storeAt,Instr.sureAddr,storeVar,cO hi,hs',h1]
theorem oW{b:Nat}{o:Obj}:(cQ w b o).os=w.os/\(cQ w b o).tape=w.tape/\(cQ w b o).output=w.output/\(cQ w b o).heap.size=w.heap.size:=by
 simp[cQ]
theorem uZ{b:Nat}{C':Array Value}{E:TypeId}{fz:Nat×Nat}(hb:b<w.heap.size)(k:Nat):cellAt (cQ w b (.cells C' E fz)) b k=C'[k]?:=by
 simp[cellAt,eH hb]
theorem dL{b:Nat}{C:Array Value}{E:TypeId}{fz:Nat×Nat}(hb:w.heap[b]? =some (.cells C E fz))(k:Nat):cellAt w b k=C[k]?:=by
 simp[cellAt,hb]
theorem aTq{t:TypeId}{a x:A}{u v:Value}{h':H}(he:gY P h t a x=some h')(r:Rel G h ρ w I)(ha:AR h ρ w I a u)(hx:AR h ρ w I x v):
  ∃ρ' w' I',(Instr.storeAt t u v).run P w=.ok () w'/\Step G h ρ w I h' ρ' w' I':=by
 unfold gY at he
 split at he
 ·rename_i hc
  obtain⟨hlen,hinfo,hok⟩:=hc;obtain⟨i,hi⟩:=Ef.1 hinfo;obtain⟨hcv,hone⟩:=aDR hx hok;have hvl:v.cells.toList.length=P.cellsOf t:=by rw[<-hlen];exact(gG hcv).symm
  split at he
  ·rename_i id gen off
   simp only[AR]at ha;obtain⟨b,rfl,hp⟩:=ha
   cases hid:h[id]? with
   |none=>rw[hid]at he;cases he
   |some ob=>
    rw[hid]at he;have hlt:id<h.length:=(Aw.1 hid).1
    cases ob with
    |ice cs esz g=>cases he
    |mp es=>cases he
    |log cs=>cases he
    |void=>cases he
    |box cs=>
     simp only[]at he
     split at he
     ·rename_i hle
      cases he;simp only[ptOK,hid]at hp
      obtain⟨ρ1,s1,hcv1,hkeep⟩:=aBd (a6 x) r hcv;obtain⟨hid1,hρ1⟩:=hkeep id hlt;rw[hid]at hid1;rw[hp.2]at hρ1;have hO:=s1.rel.obj id _ hid1;simp only[OR]at hO;obtain⟨b',hb',hIb,C,E,fz,hC,hfz,hcs⟩:=hO;rw[hρ1]at hb';cases hb';have hblt:=(Bn.1 hC).1
      have hcsz:cs.length<=C.size:=by
       rcases Dk cs.length with h0|h0
       ·omega
       ·obtain⟨v0,hv0,_⟩:=hcs (cs.length-1) cs[cs.length-1] smp;rw[dL hC]at hv0;have:=(Bn.1 hv0).1;omega
      obtain⟨C',h1,h2,h3⟩:=PT (P:=P) (o:=off) hi hvl hC hfz om hone;have hl1:(bE h (a6 x)).1.length=P.cellsOf t:=by rw[gG hcv1,hvl]
      obtain⟨f1,f2,f3,f4⟩:=oW (w:=w) (b:=b) (o:=.cells C' E fz)
      have s2:=d9 (o':=.box (bK cs off (bE h (a6 x)).1)) (w':=cQ w b (.cells C' E fz)) (I':=I) s1.rel hid1 trivial (ρ1 id) f1 f2 f3 (by rw[f4];exact Ab _)
       (fun k _ hne=>oC (fun e=>hne (by rw[hρ1,e]))) (fun _ hb=>hb) (fun _ hb=>.inl hb) (fun _ hb=>.inl hb)
       (fun _ gen off len a cap hs=>by simp only[slOK,hid1]at hs)
       (fun _ gen b2 hs=>by
        simp only[ptOK,hid1]at hs
        have e:((bE h (a6 x)).2.set id (.box (bK cs off (bE h (a6 x)).1)))[id]? =some (.box (bK cs off (bE h (a6 x)).1)):=by
         have:=(Aw.1 hid1).1;simp[this]
        simp only[ptOK,e,cL];exact hs)
       (fun ext=>by
        simp only[OR,cL];refine⟨b,hρ1,hIb,C',E,fz,eH hblt,fun j hj=>hfz j om,fun k c hk=> ?_⟩;rw[cL]at ext;rw[BX _ _ _ om]at hk;rw[uZ hblt,h3 k]
        by_cases hin:off<=k/\k<off+P.cellsOf t
        ·rw[if_pos om]at hk;rw[if_pos om];obtain⟨u,hu,hau⟩:=((eJ _ _).1 hcv1).2 (k-off) c hk;exact⟨u,hu,jX ext c u hau,hone u (Br hu)⟩
        ·rw[if_neg om]at hk;rw[if_neg om];obtain⟨u,hu,hau,ho⟩:=hcs k c hk;rw[dL hC]at hu;exact⟨u,hu,jX ext c u hau,ho⟩)
      rw[cL]at s2;exact⟨ρ1,_,I,h1,s1.trans s2⟩
     ·cases he
    |vec cs esz g=>
     simp only[]at he
     split at he
     ·rename_i hle
      cases he;obtain⟨hg,hle⟩:=hle
      subst hg;simp only[ptOK,hid]at hp;have hρ:=hp.2 trivial;have hO:=r.obj id _ hid;simp only[OR,hρ]at hO;obtain⟨hez,hIb,C,E,fz,hC,hfz,hcs⟩:=hO;have hblt:=(Bn.1 hC).1
      have hcsz:cs.length<=C.size:=by
       rcases Dk cs.length with h0|h0
       ·omega
       ·obtain⟨v0,hv0,_⟩:=hcs (cs.length-1) cs[cs.length-1] smp;rw[dL hC]at hv0;have:=(Bn.1 hv0).1;omega
      obtain⟨C',h2,h3,h4⟩:=PT (P:=P) (o:=off) hi hvl hC hfz.1 om hone;obtain⟨f1,f2,f3,f4⟩:=oW (w:=w) (b:=b) (o:=.cells C' E fz);have hset:(h.set id (.vec (bK cs off (a6 x)) esz g))[id]? =some (.vec (bK cs off (a6 x)) esz g):=by simp[hlt]
      have hsl:=GU cs off (a6 x) om
      have s2:=d9 (o':=.vec (bK cs off (a6 x)) esz g) (w':=cQ w b (.cells C' E fz)) (I':=I) r hid trivial (ρ id) f1 f2 f3 (by rw[f4];exact Ab _)
       (fun k _ hne=>oC (fun e=>hne (by rw[hρ,e]))) (fun _ hb=>hb) (fun _ hb=>.inl hb) (fun _ hb=>.inl hb)
       (fun _ gen off len a cap hs=>by
        simp only[slOK,hid]at hs;simp only[slOK,hset,cL];refine⟨hs.1,fun hg=>⟨(hs.2 hg).1,?_⟩⟩;have h5:=(hs.2 hg).2;rw[hρ]at h5|-
        rcases h5 with h5|⟨h5,h6,C2,E2,fz2,h7,h8⟩
        ·exact .inl h5
        ·refine .inr ⟨h5,by rw[hsl];exact h6,C',E,fz,eH hblt,?_⟩;rw[hC]at h7;cases h7;rw[h3];exact h8)
       (fun _ gen b2 hs=>by
        simp only[ptOK,hid]at hs;simp only[ptOK,hset,cL];exact hs)
       (fun ext=>by
        simp only[OR,hρ,bG];rw[hρ]at ext;refine⟨hez,hIb,C',E,fz,eH hblt,hfz.keep om,fun k c hk=> ?_⟩;rw[BX _ _ _ om]at hk;rw[uZ hblt,h4 k]
        by_cases hin:off<=k/\k<off+P.cellsOf t
        ·rw[if_pos om]at hk;rw[if_pos om];obtain⟨u,hu,hau⟩:=((eJ _ _).1 hcv).2 (k-off) c hk;exact⟨u,hu,jX ext c u hau,hone u (Br hu)⟩
        ·rw[if_neg om]at hk;rw[if_neg om];obtain⟨u,hu,hau,ho⟩:=hcs k c hk;rw[dL hC]at hu;exact⟨u,hu,jX ext c u hau,ho⟩)
      rw[cL]at s2;exact⟨ρ,_,I,h2,s2⟩
     ·cases he
    |arr cs0 esz0 g0=>
     simp only[]at he
     split at he
     ·rename_i ds h1 hfr
      split at he
      ·rename_i cs esz g hid1
       split at he
       ·rename_i hle
        cases he;obtain⟨hg,hle⟩:=hle
        subst hg;obtain⟨I1,s1,hds⟩:=aHE hfr r hcv;have hp1:=s1.ext.pt _ _ _ hp;simp only[ptOK,hid1]at hp1;have hρ:=hp1.2 trivial;have hO:=s1.rel.obj id _ hid1;simp only[OR,hρ]at hO;obtain⟨hez,hIb,C,E,fz,hC,hfz,hcs⟩:=hO;have hblt:=(Bn.1 hC).1
        have hcsz:cs.length<=C.size:=by
         rcases Dk cs.length with h0|h0
         ·omega
         ·obtain⟨v0,hv0,_⟩:=(eX _ _ _).1 hcs (cs.length-1) cs[cs.length-1] smp;rw[dL hC]at hv0;have:=(Bn.1 hv0).1;omega
        obtain⟨C',h2,h3,h4⟩:=PT (P:=P) (o:=off) hi hvl hC hfz.1 om hone;have hl1:ds.length=P.cellsOf t:=by rw[((iP _ _).1 hds).1,hvl]
        obtain⟨f1,f2,f3,f4⟩:=oW (w:=w) (b:=b) (o:=.cells C' E fz);have hlt1:=(Aw.1 hid1).1;have hset:(h1.set id (.arr (bK cs off ds) esz g))[id]? =some (.arr (bK cs off ds) esz g):=by simp[hlt1]
        have hsl:=GU cs off ds om
        have s2:=d9 (o':=.arr (bK cs off ds) esz g) (w':=cQ w b (.cells C' E fz)) (I':=I1) s1.rel hid1 trivial (ρ id) f1 f2 f3 (by rw[f4];exact Ab _)
         (fun k _ hne=>oC (fun e=>hne (by rw[hρ,e]))) (fun _ hb=>hb) (fun _ hb=>.inl hb) (fun _ hb=>.inl hb)
         (fun _ gen off len a cap hs=>by
          simp only[slOK,hid1]at hs;simp only[slOK,hset,cL];refine⟨hs.1,fun hg=>⟨(hs.2 hg).1,?_⟩⟩;have h5:=(hs.2 hg).2;rw[hρ]at h5|-
          rcases h5 with h5|⟨h5,h6,C2,E2,fz2,h7,h8⟩
          ·exact .inl h5
          ·refine .inr ⟨h5,by rw[hsl];exact h6,C',E,fz,eH hblt,?_⟩;rw[hC]at h7;cases h7;rw[h3];exact h8)
         (fun _ gen b2 hs=>by
          simp only[ptOK,hid1]at hs;simp only[ptOK,hset,cL];exact hs)
         (fun ext=>by
          simp only[OR,hρ,bG];refine⟨hez,hIb,C',E,fz,eH hblt,hfz.keep om,?_⟩;rw[eX];intro k c hk;rw[BX _ _ _ om]at hk;rw[uZ hblt,Ag,h4 k]
          by_cases hin:off<=k/\k<off+P.cellsOf t
          ·rw[if_pos om]at hk;rw[if_pos om];obtain⟨u,hu,hau⟩:=((iP _ _).1 hds).2 (k-off) c hk;exact⟨u,hu,oV ext.imm c u hau,hone u (Br hu)⟩
          ·rw[if_neg om]at hk;rw[if_neg om];obtain⟨u,hu,hau,ho⟩:=(eX _ _ _).1 hcs k c hk;rw[dL hC,Ag]at hu;exact⟨u,hu,oV ext.imm c u hau,ho⟩)
        rw[cL]at s2;exact⟨ρ,_,I1,h2,s1.trans s2⟩
       ·cases he
      ·cases he
     ·cases he
  ·cases he
 ·cases he
theorem aKm(C:Array Value):yI C (0,0):=fun j _ h=>by omega
theorem aNO{C:Array Value}{E:TypeId}{fz:Nat×Nat}(k:Nat):cellAt { w with heap:=w.heap.push (.cells C E fz)} w.heap.size k=C[k]?:=by
 simp[cellAt]
theorem aRE{t:TypeId}{a x:A}{v:Value}{h':H}(he:aNew h x=some (a,h'))(r:Rel G h ρ w I)(hx:AR h ρ w I x v):
  ∃ρ' w',(newVar t v).run P w=.ok ⟨w.heap.size,0,none⟩ w'/\Step G h ρ w I h' ρ' w' I/\AR h' ρ' w' I a (.pointer (some ⟨w.heap.size,0,none⟩)):=by
 unfold aNew at he
 split at he
 ·rename_i hok
  cases he;obtain⟨hcv,hone⟩:=aDR hx hok
  obtain⟨ρ1,s1,hcv1,hkeep⟩:=aBd (a6 x) r hcv;have g:Grew G.keeps _ _:=Grew.push w (.cells v.cells t (0,0))
  have s2:=fH s1.rel g (.box (bE h (a6 x)).1) (some w.heap.size) (fun b hb=>by cases hb;exact Ab _) (fun ext=>by
   simp only[OR,bG];refine⟨_,rfl,fun hI=> ?_,v.cells,t,(0,0),by simp,aKm _,fun k c hk=> ?_⟩
   ·have:=r.imm _ hI;omega
   ·obtain⟨u,hu,hau⟩:=((eJ _ _).1 hcv1).2 k c hk;exact⟨u,by rw[aNO];simpa using hu,jX ext c u hau,hone u (Br hu)⟩)
  refine⟨_,_,rfl,s1.trans s2,?_⟩;refine⟨_,rfl,?_⟩;have e:((bE h (a6 x)).2++[O.box (bE h (a6 x)).1])[(bE h (a6 x)).2.length]? =some (.box (bE h (a6 x)).1):=smp;simp only[ptOK,e,bG];exact⟨trivial,trivial⟩
 ·cases he
end
end Ev
end Go.Proofs.YtppffbehejpglaaGreatDoor
namespace Go.Proofs.YtppffbehejpglaaGreatDoor
namespace Ev
variable{G:Gnd}
section
variable{P:Program}{h:H}{ρ:Rho}{w:World}{I:Nat->Prop}
theorem NH{a:A}{v:Value}(ha:AR h ρ w I a v)(hn:y3 a=true):ARv h ρ w I (a6 a) v.cells.toList:=by
 have single:(∀C,v≠.agg C)->a6 a=[a]->ARv h ρ w I (a6 a) v.cells.toList:=by
  intro hk hc;have e:v.cells= #[v]:=by cases v<;>first|rfl|exact absurd rfl (hk _)
  rw[hc,e];exact⟨v,[],rfl,ha,rfl⟩
 cases a with
 |agg cs=>
  obtain⟨C,rfl,hc⟩:=ha;exact hc
 |d x=>
  refine single (fun C hC=> ?_) rfl;subst hC;simp only[AR]at ha
  cases x<;>simp only[DR]at ha
  all_goals first
   |(cases ha;done)
   |(obtain⟨_,_,ha,_⟩:=ha;cases ha;done)
   |(obtain⟨_,ha,_⟩:=ha;cases ha;done)
   |(obtain⟨_,ha⟩:=ha;cases ha;done)
 |sl id gen off len=>exact single (fun C hC=>by subst hC;simp only[AR]at ha;obtain⟨_,_,ha,_⟩:=ha;cases ha) rfl
 |ptr id gen off=>exact single (fun C hC=>by subst hC;simp only[AR]at ha;obtain⟨_,ha,_⟩:=ha;cases ha) rfl
 |mp id=>exact single (fun C hC=>by subst hC;simp only[AR]at ha;obtain⟨_,ha,_⟩:=ha;cases ha) rfl
 |clo f caps=>exact single (fun C hC=>by subst hC;simp only[AR]at ha;obtain⟨_,ha,_⟩:=ha;cases ha) rfl
 |tup cs=>exact single (fun C hC=>by subst hC;simp only[AR]at ha;obtain⟨_,ha,_⟩:=ha;cases ha) rfl
 |junk=>simp[y3]at hn
theorem aJp(off:Nat):∀(l:List Value) (k:Nat) (C:Array Value),off+k+l.length<=C.size->
  ((l.zipIdx k).foldl (fun(cs:Array Value) (p:Value×Nat)=>cs.setIfInBounds (off+p.2) p.1) C).toList=bK C.toList (off+k) l
 | [],k,C,_=>by simp[bK]
 |v::l,k,C,hl=>by
  simp only[Ae]at hl;simp only[List.zipIdx_cons,Dc];rw[aJp off l (k+1) _ (by simp;omega)];apply Cr;intro j;rw[BX _ _ _ (by simp;omega),BX _ _ _ (by simp;omega)];simp only[Array.toList_setIfInBounds,Ae]
  by_cases e:j=off+k
  ·grind
  ·grind
def UY(h:H)(ρ:Rho)(w:World)(I:Nat->Prop)(aJ:Nat->Option (Nat×Nat)):List (Option (Nat×Nat)×A)->List (Nat×Value)->Prop
 | [],qs=>qs=[]
 |(p,a)::ps,qs=>∃i v rest,qs=(i,v)::rest/\aJ i=p/\AR h ρ w I a v/\UY h ρ w I aJ ps rest
theorem RI{aJ:Nat->Option (Nat×Nat)}:∀(ps:List (Option (Nat×Nat)×A)) (qs:List (Nat×Value)) (cells cells':List A) (C:Array Value),iY cells ps=some cells'->UY h ρ w I aJ ps qs->ARv h ρ w I cells C.toList->
  ∃C',Instr.fill aJ C qs=some C'/\ARv h ρ w I cells' C'.toList
 | [],qs,cells,cells',C,he,hp,hc=>by
  simp only[iY,Option.some.injEq]at he;subst he;subst hp;exact⟨C,by simp[Instr.fill],hc⟩
 |(none,a)::ps,qs,cells,cells',C,he,hp,hc=>by simp[iY]at he
 |(some (off,size),a)::ps,qs,cells,cells',C,he,hp,hc=>by
  obtain⟨i,v,rest,rfl,hpl,ha,hr⟩:=hp;simp only[iY]at he
  split at he
  ·rename_i hcond
   obtain⟨hs,hle,hj⟩:=hcond;have hcv:=NH ha hj;have hvl:v.cells.toList.length=size:=by rw[<-gG hcv,hs]
   have hCl:C.toList.length=cells.length:=(gG hc).symm;have hvs:v.cells.size=size:=by grind
   have hCs:C.size=cells.length:=by grind
   have hf:=aJp off v.cells.toList 0 C om
   obtain⟨C',h1,h2⟩:=RI ps rest _ cells' ((v.cells.toList.zipIdx 0).foldl (fun(cs:Array Value) (p:Value×Nat)=>cs.setIfInBounds (off+p.2) p.1) C) he hr (by
    rw[hf];unfold bK;rw[hvl,<-hs];exact uQ (uQ (aL4 off hc) hcv) (aLk (off+(a6 a).length) hc))
   refine⟨C',?_,h2⟩;simp only[Instr.fill,hpl];have hcond:(v.cells.size≠size||decide (off+v.cells.size>C.size))=false:=by grind
   simp only[hcond,Al,if_false];rw[<-h1];rw[<-Array.foldl_toList,Array.toList_zipIdx]
  ·cases he
theorem aDT:∀(ps:List (Option (Nat×Nat)×A)) (cells cells':List A),iY cells ps=some cells'->cells'.length=cells.length
 | [],cells,cells',he=>by simp only[iY,Option.some.injEq]at he;rw[he]
 |(none,_)::_,_,_,he=>by simp[iY]at he
 |(some (off,size),v)::ps,cells,cells',he=>by
  simp only[iY]at he
  split at he
  ·rename_i hc
   rw[aDT ps _ _ he,GU _ _ _ om]
  ·cases he
theorem run_places'(w:World):∀(fs:List Field),(fs.all fun f=>(P.info? f.type).isSome)=true->(fs.mapM fun f=>Prod.mk f.offset<$>sizeOf f.type).run P w=.ok (fs.map fun f=>(f.offset,P.cellsOf f.type)) w
 | [],_=>by simp
 |f::fs,ha=>by
  simp only[Bx,Ar]at ha;obtain⟨i,hi⟩:=Ef.1 ha.1;have:=run_places' w fs ha.2;simp[List.mapM_cons,cO hi,this]
theorem SD{t:TypeId}{z:A}(he:dA P t=some z):∃i v,P.info? t=some i/\i.zero=some v/\(∀w,(zeroValue t).run P w=.ok v w)/\∀h ρ w I,AR h ρ w I z v:=by
 unfold dA at he
 split at he
 ·rename_i i hi
  simp only[Ep]at he;obtain⟨v,hv,hz⟩:=he;exact⟨i,v,hi,hv,fun w=>by simp[zeroValue,xZ hi,hv],fun h ρ w I=>aJH hz h ρ w I⟩
 ·cases he
theorem aHQ{v:Value}{z:A}(he:RN v=some z):y3 z=true:=by
 unfold RN at he
 split at he
 ·simp only[Bc]at he;obtain⟨_,_,rfl⟩:=he;rfl
 ·unfold fM at he
  split at he<;>first|(cases he;rfl)|cases he
theorem KG{t:TypeId}{z:A}(he:dA P t=some z):y3 z=true:=by
 unfold dA at he
 split at he
 ·simp only[Ep]at he;obtain⟨v,_,hz⟩:=he;exact aHQ hz
 ·cases he
theorem FY{aJ:Nat->Option (Nat×Nat)}:∀(is:List Nat) (asx:List A) (vs:List Value),is.length=asx.length->ARv h ρ w I asx vs->UY h ρ w I aJ ((is.zip asx).map fun(i,v)=>(aJ i,v)) (is.zip vs)
 | [],asx,vs,_,_=>by simp[UY]
 |i::is,[],vs,hl,_=>by simp at hl
 |i::is,a::asx,vs,hl,ha=>by
  obtain⟨v,rest,rfl,h1,h2⟩:=ha;exact⟨i,v,_,rfl,rfl,h1,FY is asx rest (by simpa using hl) h2⟩
theorem NS(parts:List (Nat×Operand))(ev:Operand->Value):(parts.map (·.1)).zip ((parts.map (·.2)).map ev)=parts.map fun x=>(x.1,ev x.2):=by grind
theorem aUt{t:TypeId}{parts:Array (Nat×Operand)}{ev:Operand->Value}{asx:List A}{x:A}(he:wM P t ((parts.toList.map (·.1)).zip asx)=some x)(ha:ARv h ρ w I asx ((parts.toList.map (·.2)).map ev)):
  ∃u,(Instr.build t (parts.map fun(i,x)=>(i,ev x))).run P w=.ok u w/\AR h ρ w I x u:=by
 have hl:(parts.toList.map (·.1)).length=asx.length:=by rw[gG ha];simp
 unfold wM at he
 split at he
 ·rename_i z fields hz hu
  split at he
  ·rename_i hall
   simp only[Bc]at he;obtain⟨cells,hf,rfl⟩:=he;obtain⟨i,zv,hi,hzv,hrun,hzr⟩:=SD hz;have hzc:=NH (hzr h ρ w I) (KG hz);have hp:=FY (h:=h) (ρ:=ρ) (w:=w) (I:=I) (aJ:=fun i=>(fields.toList[i]?).map fun f=>(f.offset,P.cellsOf f.type)) _ asx _ hl ha;obtain⟨C',h1,h2⟩:=RI _ _ _ _ _ hf hp hzc;rw[NS]at h1;refine⟨.agg C',?_,by simp only[AR];exact⟨C',rfl,h2⟩⟩;have hpl:=run_places' (P:=P) w fields.toList hall
   have e:(fun(i:Nat)=>(fields.toList[i]?).map fun(f:Field)=>(f.offset,P.cellsOf f.type))=fun(i:Nat)=>(fields[i]?).map fun(f:Field)=>(f.offset,P.cellsOf f.type):=by
    funext i;simp
   rw[e]at h1;simp[Instr.build,aU hu,hrun,Array.mapM_eq_mapM_toList,hpl,h1]
  ·cases he
 ·rename_i z n e hz hu
  split at he
  ·rename_i hinfo
   obtain⟨j,hj⟩:=Ef.1 hinfo;simp only[Bc]at he;obtain⟨cells,hf,rfl⟩:=he;obtain⟨i,zv,hi,hzv,hrun,hzr⟩:=SD hz;have hzc:=NH (hzr h ρ w I) (KG hz);have hp:=FY (h:=h) (ρ:=ρ) (w:=w) (I:=I) (aJ:=fun i=>some (i*P.cellsOf e,P.cellsOf e)) _ asx _ hl ha;obtain⟨C',h1,h2⟩:=RI _ _ _ _ _ hf hp hzc;rw[NS]at h1;refine⟨.agg C',?_,by simp only[AR];exact⟨C',rfl,h2⟩⟩;simp[Instr.build,aU hu,hrun,cO hj,h1]
  ·cases he
 ·cases he
theorem uN(zs:List Value):∀n,(List.range (n*zs.length)).map (fun i=>zs.toArray[i % zs.toArray.size]!)=(List.replicate n zs).flatten
 |0=>by simp
 |n+1=>by
  rw[Cc,Nat.one_mul,List.range_add,Cm,uN zs n,List.replicate_succ',List.flatten_append]
  congr 1
  apply Cr;intro k
  rcases Ct k zs.length with hk|hk
  ·have:(n*zs.length+k) % zs.length=k:=by rw[Nat.mul_comm,Nat.mul_add_mod];exact Nat.mod_eq_of_lt hk
   simp[hk,this]
  ·simp[hk]
theorem aEs{zs:List A}{vs:List Value}(hz:ARv h ρ w I zs vs):∀n,ARv h ρ w I (List.replicate n zs).flatten (List.replicate n vs).flatten
 |0=>by simp[ARv]
 |n+1=>by
  exact uQ hz (aEs hz n)
theorem I7{e:TypeId}(he:fC P e=true):∃i z zv,P.info? e=some i/\dA P e=some z/\i.zero=some zv/\(∀w,(zeroValue e).run P w=.ok zv w)/\(∀h ρ w I,ARv h ρ w I (a6 z) zv.cells.toList)/\
  zv.cells.size=P.cellsOf e/\(a6 z).length=P.cellsOf e/\(a6 z).all dT=true/\0<P.cellsOf e/\0<P.bytesOf e/\P.bytesOf e<=1024/\∀u∈zv.cells.toList,u.oneCell'=true:=by
 unfold fC at he
 split at he
 ·rename_i z hz
  simp only[Ar,decide_eq_true_eq,beq_iff_eq]at he;obtain⟨⟨⟨⟨h1,h2⟩,h3⟩,h4⟩,h5⟩:=he;obtain⟨i,zv,hi,hzv,hrun,hzr⟩:=SD hz;have hc:=fun h ρ w I=>NH (hzr h ρ w I) (KG hz);refine⟨i,z,zv,hi,hz,hzv,hrun,hc,?_,h1,h2,h3,h4,h5,(aDR (hzr [] (fun _=>none) default (fun _=>False)) h2).2⟩;have:=gG (hc [] (fun _=>none) default (fun _=>False));rw[h1]at this
  simpa using this.symm
 ·cases he
theorem rM{t e:TypeId}(h:cY P t=some e):P.underlying t=some (.slice e):=by
 unfold cY at h
 split at h
 ·grind
 ·cases h
theorem DI{w':World}{ds:List D}{vs:List Value}{b:Nat}{C:Array Value}{E:TypeId}{fz:Nat×Nat}{l:List Value}(hb:w'.heap[b]? =some (.cells C E fz))(hC:C.toList=vs++l)(hd:DRv w' I ds vs)(hone:∀u∈vs,u.oneCell'=true):DRs w' I ds b 0:=by
 refine AC hd (fun k v hk=> ?_);refine⟨?_,hone v (Br hk)⟩;rw[Ag,dL hb];have hlt:=(Aw.1 hk).1;have:C.toList[k]? =some v:=by grind
 simpa using this
theorem WX{t:TypeId}{len:Nat}{parts:Array (Nat×Operand)}{ev:Operand->Value}{asx:List A}{x:A}{h':H}(he:lA P h t len ((parts.toList.map (·.1)).zip asx)=some (x,h'))(r:Rel G h ρ w I)(ha:ARv h ρ w I asx ((parts.toList.map (·.2)).map ev)):
  ∃u ρ' w' I',(Instr.buildSlice t len (parts.map fun(i,x)=>(i,ev x))).run P w=.ok u w'/\Step G h ρ w I h' ρ' w' I'/\AR h' ρ' w' I' x u:=by
 have hl:(parts.toList.map (·.1)).length=asx.length:=by rw[gG ha];simp
 unfold lA at he
 split at he
 ·rename_i e hel
  have hu:=rM hel
  split at he
  ·rename_i z hz
   split at he
   ·rename_i hc
    obtain⟨i,z',zv,hi,hz',hzv,hrun,hzr,hsz,hzl,hok,hpos,_,_,hone⟩:=I7 hc.1;rw[hz]at hz';cases hz'
    split at he
    ·rename_i cells hf
     split at he
     ·rename_i hokc
      split at he
      ·rename_i ds h1 hfr
       cases he;have hzc:=aEs (hzr h ρ w I) len
       have hp:=FY (h:=h) (ρ:=ρ) (w:=w) (I:=I) (aJ:=fun i=>some (i*P.cellsOf e,P.cellsOf e)) _ asx _ hl ha
       have hzero:((Array.range (len*P.cellsOf e)).map fun i=>zv.cells[i % zv.cells.size]!).toList=(List.replicate len zv.cells.toList).flatten:=by
        rw[Array.toList_map,Array.toList_range,<-uN];simp[hsz]
       obtain⟨C',h2,h3⟩:=RI _ _ _ _ ((Array.range (len*P.cellsOf e)).map fun i=>zv.cells[i % zv.cells.size]!) hf hp (by rw[hzero];exact hzc);rw[NS]at h2
       have hones:∀u∈C'.toList,u.oneCell'=true:=by
        intro u hu;obtain⟨k,hk⟩:=List.mem_iff_getElem?.1 hu;have hlk:k<cells.length:=by rw[gG h3];exact(Aw.1 hk).1
        obtain⟨u',hu',hau⟩:=((eJ _ _).1 h3).2 k cells[k] smp;rw[hk]at hu';cases hu';exact aFE hau (Bk.1 hokc _ smp)
       obtain⟨I1,s1,d1⟩:=aHE hfr r h3;have g:Grew G.keeps _ _:=Grew.push w (.cells C' e (0,0));have hnew:({ w with heap:=w.heap.push (.cells C' e (0,0))}:World).heap[w.heap.size]? =some (.cells C' e (0,0)):=smp
       have s2:=fH s1.rel g (.arr ds (P.cellsOf e) 0) (some w.heap.size) (fun b hb=>by cases hb;exact Ab _) (fun ext=>by
        simp only[OR,bG];exact⟨hpos,fun hI=>by have:=s1.rel.imm _ hI;omega,C',e,(0,0),hnew,kW _ _,DI (l:=[]) hnew smp (pW ext.imm _ _ d1) hones⟩)
       refine⟨.slice (some ⟨w.heap.size,0,none⟩) len len,_,_,I1,?_,s1.trans s2,?_⟩
       ·by_cases h0:len=0
        ·subst h0;have h2':Instr.fill (fun i=>some (i*P.cellsOf e,P.cellsOf e)) #[] (parts.toList.map fun x=>(x.1,ev x.2))=some C':=by simpa [show Array.range 0= #[]from rfl]using h2
         simp[Instr.buildSlice,aU hu,cO hi,show Array.range 0= #[]from rfl,h2',newRow,newObj,Sem.run]
        ·have hne:¬(len*P.cellsOf e=0):=by have:=Nat.mul_pos (show 0<len by omega) hpos;omega
         have hle:¬(2^24<len*P.cellsOf e):=by have:=hc.2;omega
         simp[Instr.buildSlice,aU hu,cO hi,hrun,hle,hne,h2,newRow,newObj,Sem.run]
       ·simp only[AR];refine⟨_,_,rfl,?_⟩;have e1:(h1++[O.arr ds (P.cellsOf e) 0])[h1.length]? =some (.arr ds (P.cellsOf e) 0):=smp
        have hcl:C'.size=len*P.cellsOf e:=by
         have a1:=gG h3;have a2:cells.length=(List.replicate len (a6 z)).flatten.length:=aDT _ _ _ hf;have a3:C'.toList.length=C'.size:=smp;rw[<-a3,<-a1,a2];simp[hzl]
        have hdl:ds.length=len*P.cellsOf e:=by rw[((iP _ _).1 d1).1];simpa using hcl
        simp only[slOK,e1,bG];exact⟨Ab _,fun _=>⟨Ab _,.inr ⟨trivial,by omega,C',e,(0,0),hnew,by omega⟩⟩⟩
      ·cases he
     ·cases he
    ·cases he
   ·cases he
  ·cases he
 ·cases he
end
end Ev
end Go.Proofs.YtppffbehejpglaaGreatDoor
namespace Go.Proofs.YtppffbehejpglaaGreatDoor
namespace Ev
variable{G:Gnd}
section
variable{P:Program}{h:H}{ρ:Rho}{w:World}{I:Nat->Prop}
theorem aAY:∀ {cs:List A} {ds:List D} {vs:List Value},zT cs=some ds->ARv h ρ w I cs vs->DRv w I ds vs
 | [],ds,vs,he,ha=>by
  simp only[zT,Option.some.injEq]at he;subst he;simp only[ARv]at ha;simp only[DRv];exact ha
 |c::cs,ds,vs,he,ha=>by
  obtain⟨v,rest,rfl,h1,h2⟩:=ha;unfold zT at he
  split at he
  ·grind
  ·rename_i x cs' h0
   cases h0;simp only[Bc]at he
   obtain⟨ds',hds,rfl⟩:=he;exact⟨v,rest,rfl,h1,aAY hds h2⟩
  ·cases he
theorem UG{asx bs:List D}{vs us:List Value}(ha:DRv w I asx vs)(hb:DRv w I bs us):DRv w I (asx++bs) (vs++us):=by
 induction asx generalizing vs with
 |nil=>simp only[DRv]at ha;subst ha;simpa using hb
 |cons a asx ih=>
  obtain⟨v,rest,rfl,h1,h2⟩:=ha;exact⟨v,rest++us,rfl,h1,ih h2⟩
theorem aDS{zs:List D}{vs:List Value}(hz:DRv w I zs vs):∀n,DRv w I (List.replicate n zs).flatten (List.replicate n vs).flatten
 |0=>by simp[DRv]
 |n+1=>by
  exact UG hz (aDS hz n)
theorem VF{n:Int}(h0:0<=n)(h1:n<=bI):IntKind.i64.wrap n=n:=by
 unfold bI at h1;simp[IntKind.wrap,IntKind.bits,IntKind.signed];omega
theorem aLr{t:TypeId}{k k':IntKind}{l c:Int}{x:A}{h':H}(he:iA P h t l c=some (x,h'))(r:Rel G h ρ w I):
  ∃u ρ' w',(Instr.makeSlice t (.int k l) (.int k' c)).run P w=.ok u w'/\Step G h ρ w I h' ρ' w' I/\AR h' ρ' w' I x u:=by
 unfold iA at he
 split at he
 ·rename_i e hel
  have hu:=rM hel
  split at he
  ·rename_i z hz
   split at he
   ·rename_i zs hzs
    split at he
    ·rename_i hc
     cases he;obtain⟨hel2,h0,hlc,hcm⟩:=hc
     obtain⟨i,z',zv,hi,hz',hzv,hrun,hzr,hsz,hzl,hok,hpos,hb0,hb1,hone⟩:=I7 hel2;rw[hz]at hz';cases hz';have hbytes:i.bytes=P.bytesOf e:=by simp[Program.bytesOf,hi]
     obtain⟨l',rfl⟩:=Dj h0;obtain⟨c',rfl⟩:=Dj (Int.le_trans h0 hlc);have hlc':l'<=c':=om;have hcm':c'<=bI:=om;have wl:IntKind.i64.wrap (l':Int)=l':=VF om om;have wc:IntKind.i64.wrap (c':Int)=c':=VF om om;have hd:=fun w I=>aAY (h:=[]) (ρ:=fun _=>none) (w:=w) (I:=I) hzs (hzr _ _ w I);have hzsl:zs.length=P.cellsOf e:=by rw[((iP _ _).1 (hd w I)).1];simpa using hsz
     have small:∀n:Nat,n<=bI->¬((P.bytesOf e:Int)*n>2^48):=by
      intro n hn;have h1:P.bytesOf e*n<=1024*bI:=Nat.mul_le_mul hb1 hn;have h2:(1024*bI:Nat)<=2^48:=by unfold bI;omega
      have h3:((P.bytesOf e*n:Nat):Int)<=((2^48:Nat):Int):=by exact_mod_cast Bp h1 h2
      rw[Cf]at h3;have h4:((2^48:Nat):Int)=2^48:=by norm_cast
      omega
     have hcells:((Array.range (c'*P.cellsOf e)).map fun j=>zv.cells[j % zv.cells.size]!).toList=(List.replicate c' zv.cells.toList).flatten:=by
      rw[Array.toList_map,Array.toList_range,<-uN];simp[hsz]
     let C:Array Value:=(Array.range (c'*P.cellsOf e)).map fun j=>zv.cells[j % zv.cells.size]!
     have g:Grew G.keeps _ _:=Grew.push w (.cells C e (0,0));have hnew:({ w with heap:=w.heap.push (.cells C e (0,0))}:World).heap[w.heap.size]? =some (.cells C e (0,0)):=smp;have hCsz:C.size=c'*P.cellsOf e:=by simp[C]
     have hsplit:C.toList=(List.replicate l' zv.cells.toList).flatten++(List.replicate (c'-l') zv.cells.toList).flatten:=by
      show((Array.range (c'*P.cellsOf e)).map fun j=>zv.cells[j % zv.cells.size]!).toList=_;rw[hcells,<-List.flatten_append,List.replicate_append_replicate]
      congr 2;omega
     have s2:=fH r g (.arr (List.replicate l' zs).flatten (P.cellsOf e) 0) (some w.heap.size) (fun b hb=>by cases hb;exact Ab _) (fun ext=>by
      simp only[OR,bG];refine⟨hpos,fun hI=>by have:=r.imm _ hI;omega,C,e,(0,0),hnew,kW _ _,DI hnew hsplit (aDS (hd _ _) l') (fun u hu=> ?_)⟩;obtain⟨l1,hl1,hu1⟩:=List.mem_flatten.1 hu;rw[(List.mem_replicate.1 hl1).2]at hu1;exact hone u hu1)
     refine⟨.slice (some ⟨w.heap.size,0,none⟩) l' c',_,_,?_,s2,?_⟩
     ·have nc:=small c' hcm';rw[<-hbytes]at nc;have l0:¬((l':Int)<0):=om;have c0:¬((c':Int)<0):=om;have nc':¬((281474976710656:Int)<(i.bytes:Int)*c'):=om
      rcases Dk c' with hz0|hz0
      ·subst hz0;have hl0:l'=0:=om;subst hl0;simp[Instr.makeSlice,aU hu,asInt,asIntOf,xZ hi,show IntKind.i64.wrap 0=0 from by decide,cO hi,show Array.range 0= #[]from rfl,newRow,newObj,Sem.run,C]
      ·have hne:¬(c'*P.cellsOf e=0):=by have:=Nat.mul_pos hz0 hpos;omega
       have hll:¬((c':Int)<l'):=om;simp[Instr.makeSlice,aU hu,asInt,asIntOf,xZ hi,wl,wc,nc',hll,l0,c0,cO hi,hne,hrun,newRow,newObj,Sem.run,C]
     ·simp only[AR,Ca];refine⟨_,_,rfl,?_⟩;have e1:(h++[O.arr (List.replicate l' zs).flatten (P.cellsOf e) 0])[h.length]? =some (.arr (List.replicate l' zs).flatten (P.cellsOf e) 0):=smp;have hdl:(List.replicate l' zs).flatten.length=l'*P.cellsOf e:=by simp[hzsl]
      simp only[slOK,e1,bG];exact⟨Ab _,fun _=>⟨hlc',.inr ⟨trivial,by omega,C,e,(0,0),hnew,by omega⟩⟩⟩
    ·cases he
   ·cases he
  ·cases he
 ·cases he
theorem IT{esz:Nat}{x:A}{xv:Value}{n:Nat}{ds:List D}(he:c7 h esz x=some (n,ds))(r:Rel G h ρ w I)(hx:AR h ρ w I x xv):
  (∀w',(Builtin.lenOf xv).run P w'=.ok n w')/\ds.length=n*esz/\∃vs,DRv w I ds vs/\(∀u∈vs,u.oneCell'=true)/\∀w':World,w'.heap=w.heap->(Builtin.firstCells esz n xv).run P w'=.ok vs.toArray w':=by
 have mem:∀(cs:List D) (b o cap:Nat),DRs w I cs b o->cs.length=n*esz->xv=.slice (some ⟨b,o,none⟩) n cap->ds=cs->
   (∀w',(Builtin.lenOf xv).run P w'=.ok n w')/\ds.length=n*esz/\∃vs,DRv w I ds vs/\(∀u∈vs,u.oneCell'=true)/\∀w':World,w'.heap=w.heap->(Builtin.firstCells esz n xv).run P w'=.ok vs.toArray w':=by
  intro cs b o cap hd hl hxv hds;subst hxv;subst hds
  obtain⟨vs,h1,h2⟩:=yG (h:=h) (ρ:=ρ) (w:=w) (I:=I) (b:=b) (ds.map .d) o (fun k c hk=>by
   rw[Bh]at hk
   cases hk':ds[k]? with
   |none=>rw[hk']at hk;cases hk
   |some d=>
    rw[hk']at hk;simp at hk;subst hk;obtain⟨u,hu,hdu,ho⟩:=(eX _ _ _).1 hd k d hk';exact⟨u,hu,by simp only[AR];exact hdu,ho⟩)
  rw[pH]at h1;have hvl:vs.length=n*esz:=by rw[<-((iP _ _).1 h1).1,hl]
  refine⟨fun w'=>rfl,hl,vs,h1,fun u hu=> ?_,fun w' hw'=> ?_⟩
  ·obtain⟨k,hk⟩:=List.mem_iff_getElem?.1 hu;exact(h2 k u hk).2
  ·have:=run_loadCells' (P:=P) (w:=w') (b:=b) (o:=o) vs (fun k v hk=>(dU (w:=w) (w':=w') (by rw[hw'])).trans (h2 k v hk).1);rw[hvl]at this
   simpa [Builtin.firstCells]using this
 have nothing:∀(a:Option Addr) (cap:Nat),xv=.slice a 0 cap->n=0->ds=[]->
   (∀w',(Builtin.lenOf xv).run P w'=.ok n w')/\ds.length=n*esz/\∃vs,DRv w I ds vs/\(∀u∈vs,u.oneCell'=true)/\∀w':World,w'.heap=w.heap->(Builtin.firstCells esz n xv).run P w'=.ok vs.toArray w':=by
  intro a cap hxv hn hds;subst hxv;subst hn;subst hds;refine⟨fun w'=>rfl,by simp,[],by simp only[DRv],by simp,fun w' _=> ?_⟩
  cases a<;>simp[Builtin.firstCells,loadCells,loadCellsFrom]
 unfold c7 at he
 split at he
 ·cases he;simp only[AR,DR]at hx
  obtain⟨a,rfl⟩:=hx;exact nothing a 0 rfl rfl rfl
 ·rename_i m cs
  split at he
  ·rename_i hl
   cases he;simp only[AR,DR]at hx
   obtain⟨a,cap,rfl,hcap,hc⟩:=hx
   rcases hc with rfl|⟨b,o,rfl,hI,hd⟩
   ·cases a with
    |none=>
     refine⟨fun w'=>rfl,hl,[],by simp only[DRv],by simp,fun w' _=>by simp[Builtin.firstCells]⟩
    |some a=>
     have h0:n*esz=0:=by simpa using hl.symm
     exact⟨fun w'=>rfl,hl,[],by simp only[DRv],by simp,fun w' _=>by simp[Builtin.firstCells,h0,loadCells,loadCellsFrom]⟩
   ·exact mem ds b o cap hd hl rfl rfl
  ·cases he
 ·rename_i s
  split at he
  ·rename_i h1
   cases he;subst h1
   simp only[AR,DR]at hx;subst hx;refine⟨fun w'=>by simp[Builtin.lenOf,ByteArray.size],by simp,s.map fun b=>.int .u8 b.toNat,?_,?_,fun w' _=> ?_⟩
   ·rw[iP];refine⟨by simp,fun k d hk=> ?_⟩;rw[Bh]at hk|-
    cases hs:s[k]? with
    |none=>rw[hs]at hk;cases hk
    |some b=>rw[hs]at hk;simp at hk;subst hk;exact⟨_,rfl,by simp only[DR]⟩
   ·intro u hu;obtain⟨b,_,rfl⟩:=Av.1 hu;rfl
   ·simp[Builtin.firstCells]
  ·cases he
 ·rename_i id gen off len
  simp only[AR]at hx;obtain⟨a,cap,rfl,hs⟩:=hx
  cases hid:h[id]? with
  |none=>rw[hid]at he;cases he
  |some o=>
   rw[hid]at he
   cases o with
   |box cs=>cases he
   |vec cs e g=>cases he
   |log cs=>cases he
   |mp es=>cases he
   |void=>cases he
   |arr cs e g=>
    simp only[]at he
    split at he
    ·rename_i hc
     cases he;simp only[slOK,hid]at hs
     have h3:=hs.2 hc.1.symm
     rcases Dk n with h0|h0
     ·subst h0;exact nothing a cap rfl rfl smp
     ·have hO:=r.obj id _ hid;simp only[OR]at hO
      cases hρ:ρ id with
      |none=>rw[hρ]at h3;have:=h3.1;have:=h3.2;simp only[]at this;omega
      |some b=>
       rw[hρ]at hO h3;obtain⟨_,_,C,E,fz,_,_,hd⟩:=hO
       rcases h3.2 with h4|⟨h4,_⟩
       ·have:=h3.1;omega
       ·subst h4;exact mem _ b off cap (by have:=x9 (n*esz) (kE off hd);simpa using this) (by simp;have:=hc.2.2;omega) rfl rfl
    ·cases he
   |ice cs e g=>
    simp only[]at he
    split at he
    ·rename_i hc
     cases he;simp only[slOK,hid]at hs
     have h3:=hs.2 hc.1.symm
     rcases h3.2 with h0|⟨_,b,hb,hI,hd⟩
     ·subst h0;exact nothing a cap rfl rfl smp
     ·subst hb;exact mem _ b off cap (by have:=x9 (n*esz) (kE off hd);simpa using this) (by simp;have:=hc.2.2;omega) rfl rfl
    ·cases he
 ·cases he
theorem aIX(need:Nat):∀(r c:Nat),Builtin.growBy need r c<=max c (2*need+192)
 |0,c=>by simp only[Builtin.growBy];omega
 |r+1,c=>by
  simp only[Builtin.growBy]
  split
  ·omega
  ·have:=aIX need r (c+(c+768)/4);omega
theorem aWv{need cap:Nat}(h:cap<need):Builtin.nextslicecap need cap<=2*need+512:=by
 unfold Builtin.nextslicecap
 split
 ·omega
 ·split
  ·omega
  ·have:=aIX need 4 cap;omega
theorem qJ(z:Array Value)(n:Nat):(Builtin.zeroCells z n).toList=(List.replicate n z.toList).flatten:=by
 unfold Builtin.zeroCells;rw[Array.toList_map,Array.toList_range,<-uN];simp
theorem iB{t u e:TypeId}{ty:TypeId}{xv:Value}{n:Nat}{vs:List Value}{base:Option Addr}{sLen sCap:Nat}{i:TypeInfo}{d:TypeDesc}
  (hu:P.underlying t=some (.slice e)) (hi:P.info? e=some i) (hd:P.underlying u=some d) (hnd:∀k,d≠.int k) (hx:∀w',(Builtin.lenOf xv).run P w'=.ok n w') (hf:(Builtin.firstCells (P.cellsOf e) n xv).run P w=.ok vs.toArray w)
  (hroom:sLen+n<=sCap) {w':World} (hst:∀a,base=some a->(storeCells (a.add (sLen*P.cellsOf e)) vs).run P w=.ok () w') (hno:base=none->w'=w):
  (Builtin.append_ #[t,u] ty #[.slice base sLen sCap,xv]).run P w=.ok (.slice base (sLen+n) sCap) w':=by
 cases base with
 |none=>
  have:=hno rfl;subst this;simp[Builtin.append_,aU hu,cO hi,aU hd,hx,hroom,hf]
 |some a=>
  have:=hst a rfl;simp[Builtin.append_,aU hu,cO hi,aU hd,hx,hroom,hf,this]
theorem sL{t u e:TypeId}{ty:TypeId}{xv:Value}{n:Nat}{vs old:List Value}{base:Option Addr}{sLen sCap:Nat}{i:TypeInfo}{d:TypeDesc}{zv:Value}
  (hu:P.underlying t=some (.slice e)) (hi:P.info? e=some i) (hd:P.underlying u=some d) (hnd:∀k,d≠.int k) (hx:∀w',(Builtin.lenOf xv).run P w'=.ok n w')
  (hf:∀w':World,w'.heap=w.heap->(Builtin.firstCells (P.cellsOf e) n xv).run P w'=.ok vs.toArray w') (ho:∀w':World,w'.heap=w.heap->(Builtin.firstCells (P.cellsOf e) sLen (.slice base sLen sCap)).run P w'=.ok old.toArray w')
  (hz:∀w',(zeroValue e).run P w'=.ok zv w') (hb0:0<P.bytesOf e) (hb:P.bytesOf e<=1024) (hroom:¬sLen+n<=sCap) (hneed:sLen+n<=bI):
  ∃cap,sLen+n<=cap/\(Builtin.append_ #[t,u] ty #[.slice base sLen sCap,xv]).run P w=
   .ok (.slice (some ⟨w.heap.size,0,none⟩) (sLen+n) cap) (w.drew.alloc (.cells (old.toArray++(vs.toArray++Builtin.zeroCells zv.cells (cap-(sLen+n)))) e)):=by
 have hbytes:i.bytes=P.bytesOf e:=by simp[Program.bytesOf,hi]
 let cap:=(Question.appendCap (sLen+n) sCap e).cut (w.tape w.drawn (.appendCap (sLen+n) sCap e))
 have hcap:sLen+n<=cap:=by simp[cap,Question.cut]
 refine⟨cap,hcap,?_⟩;have h1:¬(((sLen+n:Nat):Int)>IntKind.i64.max/\(false=true\/i.bytes=0)):=by rintro⟨_,h|h⟩<;>first|cases h|omega
 have h2:¬(Builtin.nextslicecap (sLen+n) sCap*i.bytes>2^48):=by
  have a1:=aWv (need:=sLen+n) (cap:=sCap) om;have a2:Builtin.nextslicecap (sLen+n) sCap*i.bytes<=(2*bI+512)*1024:=Nat.mul_le_mul om om;unfold bI at a2;omega
 have ho':=ho w.drew rfl;have hf':=hf w.drew rfl;have h1':¬((9223372036854775807:Int)<(sLen:Int)+n/\i.bytes=0):=by rintro⟨_,h⟩;omega
 simp[Builtin.append_,aU hu,cO hi,aU hd,hx,hroom,xZ hi,h1',h2,Question.forced,ho',hf',hz,newRow,newObj,Sem.run,cap]
theorem Grew.drewAlloc{m:Bool}(w:World)(o:Obj):Grew m w (w.drew.alloc o):=(Grew.drew w).trans (Grew.push _ o)
theorem dN(w:World)(o:Obj):(w.drew.alloc o).heap[w.heap.size]? =some o:=by
 show(w.heap.push o)[w.heap.size]? =some o;simp
theorem aP9{t u e:TypeId}{ty:TypeId}{id n:Nat}{cs src:List D}{vs:List Value}{a:Option Addr}{cap:Nat}{xv:Value}{i:TypeInfo}{d:TypeDesc}{zv:Value}
  (hu:P.underlying t=some (.slice e)) (hi:P.info? e=some i) (hd:P.underlying u=some d) (hnd:∀k,d≠.int k) (hlen:∀w',(Builtin.lenOf xv).run P w'=.ok n w')
  (hfirst:∀w':World,w'.heap=w.heap->(Builtin.firstCells (P.cellsOf e) n xv).run P w'=.ok vs.toArray w') (hdv:DRv w I src vs) (hvone:∀u∈vs,u.oneCell'=true) (hsl:src.length=n)
  (hrun:∀w',(zeroValue e).run P w'=.ok zv w') (hb0:0<P.bytesOf e) (hb1:P.bytesOf e<=1024) (hce:P.cellsOf e=1) (hsz:zv.cells.size=1)
  (hid:h[id]? =some (.log cs)) (hneed:cs.length+n<=bI) (r:Rel G h ρ w I) (hs:slOK h ρ w I id (cs.length+1) 0 cs.length a cap):
  ∃v ρ' w' I',(Builtin.append_ #[t,u] ty #[.slice a cs.length cap,xv]).run P w=.ok v w'/\Step G h ρ w I (h.set id (.log (cs++src))) ρ' w' I'/\AR (h.set id (.log (cs++src))) ρ' w' I' (.sl id (cs.length+n+1) 0 (cs.length+n)) v:=by
 simp only[slOK,hid]at hs;obtain⟨hlc,hsl2,hck⟩:=hs.2 om;have hck:=hck trivial;have hlt:id<h.length:=(Aw.1 hid).1;have hset:∀o,(h.set id o)[id]? =some o:=fun o=>by simp[hlt]
 have hO:=r.obj id _ hid;simp only[OR]at hO;have hvl:vs.length=n:=by rw[<-((iP _ _).1 hdv).1,hsl]
 have hold:∃old:List Value,DRv w I cs old/\(∀u∈old,u.oneCell'=true)/\old.length=cs.length/\(∀b,ρ id=some b->∀(k:Nat) (v:Value),old[k]? =some v->cellAt w b k=some v)/\
   ∀w':World,w'.heap=w.heap->(Builtin.firstCells (P.cellsOf e) cs.length (.slice a cs.length cap)).run P w'=.ok old.toArray w':=by
  cases hρ:ρ id with
  |none=>
   rw[hρ]at hO;simp only at hO;subst hO;exact⟨[],by simp only[DRv],by simp,rfl,fun _ hb=>by simp at hb,fun w' _=>by cases a<;>simp[Builtin.firstCells,loadCells,loadCellsFrom]⟩
  |some b=>
   rw[hρ]at hO;obtain⟨_,C,E,fz,hC,_,hcs⟩:=hO
   obtain⟨vs,h1,h2⟩:=yG (h:=h) (ρ:=ρ) (w:=w) (I:=I) (b:=b) (cs.map .d) 0 (fun k c hk=>by
    rw[Bh]at hk
    cases hk':cs[k]? with
    |none=>rw[hk']at hk;cases hk
    |some d=>
     rw[hk']at hk;simp at hk;subst hk;obtain⟨u,hu,hdu,ho⟩:=(eX _ _ _).1 hcs k d hk';exact⟨u,hu,by simp only[AR];exact hdu,ho⟩)
   rw[pH]at h1;have hvl:vs.length=cs.length:=((iP _ _).1 h1).1.symm;refine⟨vs,h1,fun u hu=> ?_,hvl,fun b' hb' k v hk=> ?_,fun w' hw'=> ?_⟩
   ·obtain⟨k,hk⟩:=List.mem_iff_getElem?.1 hu;exact(h2 k u hk).2
   ·cases hb'
    have:=(h2 k v hk).1
    rwa [Ag]at this
   ·by_cases h0:cs.length=0
    ·have:vs=[]:=Bw.1 om;subst this;rw[h0]
     cases a<;>simp[Builtin.firstCells,loadCells,loadCellsFrom]
    ·rcases hck with hck|⟨b',hb',rfl,_⟩
     ·omega
     ·rw[hρ]at hb'
      cases hb'
      have:=run_loadCells' (P:=P) (w:=w') (b:=b) (o:=0) vs (fun k v hk=>(dU (w:=w) (w':=w') (by rw[hw'])).trans (h2 k v hk).1);rw[hvl]at this
      simpa [Builtin.firstCells,hce]using this
 obtain⟨old,ho1,ho2,ho3,ho5,ho4⟩:=hold;have hnew1:DRv w I (cs++src) (old++vs):=UG ho1 hdv;have hones:∀u∈old++vs,u.oneCell'=true:=fun u hu=>(Ak.1 hu).elim (ho2 u) (hvone u);have htk:∀gen,gen<=cs.length+1->(cs++src).take (gen-1)=cs.take (gen-1):=fun gen hg=>List.take_append_of_le_length om
 have hslk:∀(rb:Option Nat) (w':World) (I':Nat->Prop),Imm w I w' I'->(∀b,ρ id=some b->rb=some b\/(I' b/\DRs w' I' cs b 0))->
   (n=0->∀b C E fz,ρ id=some b->w.heap[b]? =some (.cells C E fz)->rb=some b/\∃C',w'.heap[b]? =some (.cells C' E fz)/\C'.size=C.size)->
   ∀gen off' len' a' cap',slOK h ρ w I id gen off' len' a' cap'->slOK (h.set id (.log (cs++src))) (upd ρ id rb) w' I' id gen off' len' a' cap':=by
  intro rb w' I' himm hb hz gen off' len' a' cap' hh;simp only[slOK,hid]at hh;simp only[slOK,hset,bG,Af];refine⟨by omega,fun hg=> ?_⟩;obtain⟨q1,q2,q3⟩:=hh.2 hg;refine⟨q1,?_,fun hgl=> ?_⟩
  ·refine q2.imp (fun x=>x) fun⟨q4,b,q5,q6⟩=>⟨q4,b,q5,?_⟩
   rw[htk gen hh.1]
   rcases q6 with q6|⟨q6,q7⟩
   ·exact(hb b q6).imp (fun x=>x) fun⟨q8,q9⟩=>⟨q8,aHx _ q9⟩
   ·exact .inr ⟨(himm b q6).1,gU himm _ b 0 q6 q7⟩
  ·rcases q3 om with q4|⟨b,q5,q6,C,E,fz,q7,q8⟩
   ·exact .inl q4
   ·obtain⟨z1,C',z2,z3⟩:=hz om b C E fz q5 q7;exact .inr ⟨b,z1,q6,C',E,fz,z2,by omega⟩
 have hptk:∀(rb:Option Nat) (w':World) (I':Nat->Prop),Imm w I w' I'->(∀b,ρ id=some b->rb=some b\/(I' b/\DRs w' I' cs b 0))->
   ∀gen b,ptOK h ρ w I id gen b->ptOK (h.set id (.log (cs++src))) (upd ρ id rb) w' I' id gen b:=by
  intro rb w' I' himm hb gen b hh;simp only[ptOK,hid]at hh;simp only[ptOK,hset,bG,Af];refine⟨by omega,fun hg=> ?_⟩;rw[htk gen hh.1]
  rcases hh.2 hg with q6|⟨q6,q7⟩
  ·exact(hb b q6).imp (fun x=>x) fun⟨q8,q9⟩=>⟨q8,aHx _ q9⟩
  ·exact .inr ⟨(himm b q6).1,gU himm _ b 0 q6 q7⟩
 by_cases hroom:cs.length+n<=cap
 ·-- in aJ
  rcases hck with hcap0|⟨b,hρ,rfl,C2,E2,fz2,hC2,hcapC⟩
  ·have hv0:vs=[]:=Bw.1 om;have hs0:src=[]:=Bw.1 om;have hc0:cs=[]:=Bw.1 om;have hn0:n=0:=om;subst hs0;subst hc0;subst hv0;subst hn0;subst hcap0
   have hsame:h.set id (.log ([]++[]))=h:=by
    apply Cr;intro j;rw[Cp];obtain⟨hl,hee⟩:=Aw.1 hid
    by_cases e1:id=j
    ·subst e1;simp[hl,hee]
    ·simp[e1]
   rw[hsame];refine⟨_,ρ,w,I,iB (base:=a) (sLen:=0) (sCap:=0) hu hi hd hnd hlen (hfirst w rfl) (Ab _) (fun b _=>by simp[storeCells]) (fun _=>rfl),.refl r,?_⟩;simp only[AR];refine⟨a,0,rfl,?_⟩;simp only[slOK,hid];exact⟨Ab _,fun _=>⟨Ab _,.inl rfl,fun _=>.inl trivial⟩⟩
  ·rw[hρ]at hO;obtain⟨hIb,C,E,fz,hC,hfz,hcs⟩:=hO;rw[hC2]at hC;cases hC;have hblt:=(Bn.1 hC2).1;obtain⟨C',h1,h2,h3⟩:=B0 (P:=P) (o:=cs.length) vs 0 C2 w hC2 hfz.1 om hvone
   have hst:(storeCells (Addr.add ⟨b,0,none⟩ (cs.length*P.cellsOf e)) vs).run P w=.ok () (cQ w b (.cells C' E2 fz2)):=by
    rw[kK,Ag,hce,Ch];exact h1
   obtain⟨f1,f2,f3,f4⟩:=oW (w:=w) (b:=b) (o:=.cells C' E2 fz2)
   have hz:∀b' C E fz,ρ id=some b'->w.heap[b']? =some (.cells C E fz)->ρ id=some b'/\∃C'',(cQ w b (.cells C' E2 fz2)).heap[b']? =some (.cells C'' E fz)/\C''.size=C.size:=by
    intro b' C E fz q1 q2;rw[hρ]at q1;cases q1;rw[hC2]at q2;cases q2;exact⟨hρ,C',eH hblt,h2⟩
   have s1:=d9 (o':=.log (cs++src)) (w':=cQ w b (.cells C' E2 fz2)) (I':=I) r hid trivial (ρ id) f1 f2 f3 (by rw[f4];exact Ab _)
    (fun k _ hne=>oC (fun e=>hne (by rw[hρ,e]))) (fun _ hb=>hb) (fun _ hb=>.inl hb) (fun _ hb=>.inl hb) (fun im=>hslk _ _ _ im (fun _ q=>.inl q) (fun _=>hz)) (fun im=>hptk _ _ _ im (fun _ q=>.inl q)) (fun ext=>by
     simp only[OR,hρ,bG];refine⟨hIb,C',E2,fz2,eH hblt,hfz.keep om,?_⟩;refine AC (pW ext.imm _ _ hnew1) (fun k v hk=>⟨?_,hones v (Br hk)⟩);rw[Ag,uZ hblt,h3 k]
     by_cases hin:k<cs.length
     ·rw[if_neg om];rw[Be om]at hk;have:=ho5 b hρ k v hk
      rwa [dL hC2]at this
     ·have hlt2:=(Aw.1 hk).1;rw[Af,ho3]at hlt2;rw[if_pos om];rw[Bo om,ho3]at hk;rw[By];exact hk)
   rw[cL]at s1;refine⟨_,ρ,_,I,iB (base:=some ⟨b,0,none⟩) hu hi hd hnd hlen (hfirst w rfl) hroom (fun a ha=>by cases ha;exact hst) (fun hh=>by cases hh),s1,?_⟩;simp only[AR];refine⟨_,_,rfl,?_⟩;simp only[slOK,hset,Af];exact⟨by omega,fun _=>⟨hroom,.inr ⟨by omega,b,rfl,.inl hρ⟩,fun _=>.inr ⟨b,hρ,rfl,C',E2,fz2,eH hblt,by omega⟩⟩⟩
 ·-- a new row
  obtain⟨ncap,hncap,hrun2⟩:=sL (P:=P) (ty:=ty) (base:=a) (sLen:=cs.length) (sCap:=cap) (old:=old) hu hi hd hnd hlen hfirst ho4 hrun hb0 hb1 hroom hneed;have hC:(old.toArray++(vs.toArray++Builtin.zeroCells zv.cells (ncap-(cs.length+n)))).toList=(old++vs)++(Builtin.zeroCells zv.cells (ncap-(cs.length+n))).toList:=smp
  have hCs:(old.toArray++(vs.toArray++Builtin.zeroCells zv.cells (ncap-(cs.length+n)))).size=ncap:=by
   rw[<-Array.length_toList,hC,Af,Af,qJ,hvl,ho3];simp[hsz];omega
  have hold:∀b,ρ id=some b->b<w.heap.size:=fun b hb=>(r.own_not_imm ⟨id,_,hb,hid,trivial⟩).2
  have hdI:∀w',Imm w I w' (fun k=>I k\/ρ id=some k)->(∀k,k<w.heap.size->w'.heap[k]? =w.heap[k]?)->∀b,ρ id=some b->(some w.heap.size=some b\/((I b\/ρ id=some b)/\DRs w' (fun k=>I k\/ρ id=some k) cs b 0)):=by
   intro w' him hsm b hb;refine .inr ⟨.inr hb,?_⟩;rw[hb]at hO;obtain⟨_,C,E,fz,_,_,hcs⟩:=hO;exact yQ him (fun k _=>dU (hsm b (hold b hb))) hcs
  have s1:=d9 (o':=.log (cs++src)) (w':=w.drew.alloc (.cells (old.toArray++(vs.toArray++Builtin.zeroCells zv.cells (ncap-(cs.length+n)))) e)) (I':=fun k=>I k\/ρ id=some k) r hid trivial (some w.heap.size)
   (Grew.drewAlloc (m:=true) w _).os (Grew.drewAlloc (m:=true) w _).tape (Grew.drewAlloc (m:=true) w _).output (Grew.drewAlloc (m:=true) w _).size (fun k hk _=>(Grew.drewAlloc (m:=true) w _).same k hk) (fun _ hb=>.inl hb)
   (fun b hb=>hb.imp (fun x=>x) fun q=>⟨q,.inr fun q2=>by cases q2;exact Nat.lt_irrefl _ (hold _ q)⟩) (fun b hb=>by cases hb;exact .inr (Ab _))
   (fun im=>hslk _ _ _ im (hdI _ im (Grew.drewAlloc (m:=true) w _).same) (fun q=>by omega)) (fun im=>hptk _ _ _ im (hdI _ im (Grew.drewAlloc (m:=true) w _).same)) (fun ext=>by
    simp only[OR,bG];refine⟨?_,_,e,(0,0),dN w _,kW _ _,DI (dN w _) hC (pW ext.imm _ _ hnew1) hones⟩;rintro(hI|hI)
    ·have:=r.imm _ hI;omega
    ·exact Nat.lt_irrefl _ (hold _ hI))
  refine⟨_,_,_,_,hrun2,s1,?_⟩;simp only[AR];refine⟨_,_,rfl,?_⟩;simp only[slOK,hset,bG,Af];exact⟨by omega,fun _=>⟨hncap,.inr ⟨by omega,_,rfl,.inl rfl⟩,fun _=>.inr ⟨_,rfl,rfl,_,e,(0,0),dN w _,by omega⟩⟩⟩
theorem UW{t u:TypeId}{ty:TypeId}{s x y:A}{sv xv:Value}{h':H}{d:TypeDesc}(hd:P.underlying u=some d)(hnd:∀k,d≠.int k)(he:m9 P h t s x=some (y,h'))(r:Rel G h ρ w I)(hs:AR h ρ w I s sv)(hx:AR h ρ w I x xv):
  ∃v ρ' w' I',(Builtin.append_ #[t,u] ty #[sv,xv]).run P w=.ok v w'/\Step G h ρ w I h' ρ' w' I'/\AR h' ρ' w' I' y v:=by
 unfold m9 at he
 split at he
 ·rename_i e hel
  have hu:=rM hel
  split at he
  ·rename_i hok
   obtain⟨i,z,zv,hi,hz,hzv,hrun,hzr,hsz,hzl,_,hpos,hb0,hb1,hone⟩:=I7 hok
   split at he
   ·rename_i n src hsrc
    obtain⟨hlen,hsl,vs,hdv,hvone,hfirst⟩:=IT (P:=P) hsrc r hx;have hvl:vs.length=n*P.cellsOf e:=by rw[<-((iP _ _).1 hdv).1,hsl]
    split at he
    ·-- a nil slice
     split at he
     ·rename_i hn
      cases he;simp only[AR,DR]at hs
      obtain⟨a,rfl⟩:=hs
      rcases Dk n with h0|h0
      ·subst h0;have hv0:vs=[]:=Bw.1 om;have hs0:src=[]:=Bw.1 om;subst hv0;subst hs0;have s1:=fH r (Grew.refl w) (.arr [] (P.cellsOf e) 0) none smp (fun _=>by simp[OR,bG]);refine⟨_,_,w,I,iB (base:=a) (sLen:=0) (sCap:=0) hu hi hd hnd hlen (hfirst w rfl) (Ab _) (fun b _=>by simp[storeCells]) (fun _=>rfl),s1,?_⟩;simp only[AR];refine⟨a,0,rfl,?_⟩;have e1:(h++[O.arr [] (P.cellsOf e) 0])[h.length]? =some (.arr [] (P.cellsOf e) 0):=smp;simp only[slOK,e1,bG];simp
      ·obtain⟨cap,hcap,hrun2⟩:=sL (P:=P) (ty:=ty) (base:=a) (sLen:=0) (sCap:=0) (old:=[]) hu hi hd hnd hlen hfirst (fun w' _=>by cases a<;>simp[Builtin.firstCells,loadCells,loadCellsFrom]) hrun hb0 hb1 om om;have hC:(((#[]:Array Value)++(vs.toArray++Builtin.zeroCells zv.cells (cap-(0+n))))).toList=vs++(Builtin.zeroCells zv.cells (cap-(0+n))).toList:=smp
       have hCs:((#[]:Array Value)++(vs.toArray++Builtin.zeroCells zv.cells (cap-(0+n)))).size=cap*P.cellsOf e:=by
        rw[<-Array.length_toList,hC,Af,qJ,hvl];simp[hsz];rw[<-Cc];congr 1;omega
       have s1:=fH r (Grew.drewAlloc w _) (.arr src (P.cellsOf e) 0) (some w.heap.size) (fun b hb=>by cases hb;exact Ab _) (fun ext=>by
        simp only[OR,bG];exact⟨hpos,fun hI=>by have:=r.imm _ hI;omega,_,e,(0,0),dN w _,kW _ _,DI (dN w _) hC (pW ext.imm _ _ hdv) hvone⟩)
       refine⟨_,_,_,I,hrun2,s1,?_⟩;simp only[AR];refine⟨some ⟨w.heap.size,0,none⟩,cap,by simp,?_⟩;have e1:(h++[O.arr src (P.cellsOf e) 0])[h.length]? =some (.arr src (P.cellsOf e) 0):=smp;simp only[slOK,e1,bG];exact⟨Ab _,fun _=>⟨by omega,.inr ⟨trivial,by omega,_,e,(0,0),dN w _,by rw[Ag];exact Nat.le_of_eq hCs.symm⟩⟩⟩
     ·cases he
    ·rename_i id gen off len
     split at he
     ·rename_i cs e0 g hid
      split at he
      ·rename_i hc
       cases he;obtain⟨hg,he0,hoff,hle,hneed⟩:=hc
       subst hg;subst hoff;simp only[AR]at hs;obtain⟨a,cap,rfl,hs⟩:=hs;simp only[slOK,hid]at hs;obtain⟨hlc,hs⟩:=hs.2 trivial;have hlt:id<h.length:=(Aw.1 hid).1;have hset:∀o,(h.set id o)[id]? =some o:=fun o=>by simp[hlt]
       have hO:=r.obj id _ hid
       have hslk:∀(rb:Option Nat) (w':World),Imm w I w' I->∀gen off' len' a' cap',slOK h ρ w I id gen off' len' a' cap'->slOK (h.set id (.arr (cs.take (len*P.cellsOf e)++src) (P.cellsOf e) (g+1))) (upd ρ id rb) w' I id gen off' len' a' cap':=by
        intro rb w' _ gen off' len' a' cap' hh;simp only[slOK,hid]at hh;simp only[slOK,hset];exact⟨by omega,fun h=>by omega⟩
       have hptk:∀(rb:Option Nat) (w':World),Imm w I w' I->∀gen b,ptOK h ρ w I id gen b->ptOK (h.set id (.arr (cs.take (len*P.cellsOf e)++src) (P.cellsOf e) (g+1))) (upd ρ id rb) w' I id gen b:=by
        intro rb w' _ gen b hh;simp only[ptOK,hid]at hh;simp only[ptOK,hset];exact⟨by omega,fun h=>by omega⟩
       have hold:∃old:List Value,DRv w I (cs.take (len*P.cellsOf e)) old/\(∀u∈old,u.oneCell'=true)/\old.length=len*P.cellsOf e/\
         ∀w':World,w'.heap=w.heap->(Builtin.firstCells (P.cellsOf e) len (.slice a len cap)).run P w'=.ok old.toArray w':=by
        have hsc:c7 h (P.cellsOf e) (.sl id g 0 len)=some (len,(cs.drop 0).take (len*P.cellsOf e))\/(e0=0/\len≠0):=by
         simp only[c7,hid]
         by_cases h0:len=0\/e0=P.cellsOf e
         ·left;rw[if_pos ⟨trivial,h0,by omega⟩]
         ·right;omega
        rcases hsc with hsc|⟨hz0,hl0⟩
        ·obtain⟨_,hl2,old,ho1,ho2,ho3⟩:=IT (P:=P) hsc r (show AR h ρ w I (.sl id g 0 len) (.slice a len cap)from by
          simp only[AR,slOK,hid];exact⟨a,cap,rfl,Ab _,fun _=>⟨hlc,hs⟩⟩)
         simp only[Ba]at ho1 hl2;exact⟨old,ho1,ho2,by rw[<-((iP _ _).1 ho1).1,hl2],ho3⟩
        ·exfalso;simp only[OR]at hO
         cases hρ:ρ id with
         |none=>rw[hρ]at hs;simp only[]at hs;omega
         |some b=>rw[hρ]at hO;omega
       obtain⟨old,ho1,ho2,ho3,ho4⟩:=hold;have hnew1:DRv w I (cs.take (len*P.cellsOf e)++src) (old++vs):=UG ho1 hdv;have hones:∀u∈old++vs,u.oneCell'=true:=fun u hu=>(Ak.1 hu).elim (ho2 u) (hvone u)
       have hlen2:(cs.take (len*P.cellsOf e)++src).length=(len+n)*P.cellsOf e:=by
        rw[Af,Bi,hsl,Cc];omega
       by_cases hroom:len+n<=cap
       ·-- in aJ
        by_cases hcap0:cap=0
        ·have hl0:len=0:=om;have hn0:n=0:=om;subst hcap0;subst hl0;subst hn0;have hv0:vs=[]:=Bw.1 om;have hs0:src=[]:=Bw.1 om;subst hv0;subst hs0
         have s1:=d9 (o':=.arr (cs.take (0*P.cellsOf e)++[]) (P.cellsOf e) (g+1)) (w':=w) (I':=I) r hid trivial (ρ id) rfl rfl rfl (Ab _) (fun _ _ _=>rfl) (fun _ hb=>hb) (fun _ hb=>.inl hb) (fun _ hb=>.inl hb) (hslk _ w) (hptk _ w) (fun ext=>by
          simp only[OR,cL]at hO|-
          cases hρ:ρ id with
          |none=>simp
          |some b=>
           rw[hρ]at hO;obtain⟨hez,h2,C,E,fz,h3,h4,_⟩:=hO;have hee:e0=P.cellsOf e:=om;subst hee;exact⟨hpos,h2,C,E,fz,h3,h4,by simp[DRs]⟩)
         refine⟨_,_,w,I,iB (base:=a) (sLen:=0) (sCap:=0) hu hi hd hnd hlen (hfirst w rfl) (Ab _) (fun b _=>by simp[storeCells]) (fun _=>rfl),s1,?_⟩;simp only[AR];refine⟨a,0,rfl,?_⟩;simp only[slOK,hset,cL];refine⟨Ab _,fun _=>⟨Ab _,?_⟩⟩
         cases ρ id with
         |none=>exact trivial
         |some b=>exact .inl trivial
        ·simp only[OR]at hO
         cases hρ:ρ id with
         |none=>rw[hρ]at hs;simp only[]at hs;omega
         |some b=>
          rw[hρ]at hs hO;simp only[]at hs hO
          rcases hs with hs|⟨ha,_,C2,E2,fz2,hC2,hcapC⟩
          ·omega
          ·subst ha;obtain⟨hez,hIb,C,E,fz,hC,hfz,hcs⟩:=hO;rw[hC2]at hC;cases hC;have hee:e0=P.cellsOf e:=om;subst hee;have hblt:=(Bn.1 hC2).1
           have hfit:len*P.cellsOf e+vs.length<=C2.size:=by
            have:(len+n)*P.cellsOf e<=cap*P.cellsOf e:=Nat.mul_le_mul_right _ hroom;rw[hvl,<-Cc];omega
           obtain⟨C',h1,h2,h3⟩:=B0 (P:=P) (o:=len*P.cellsOf e) vs 0 C2 w hC2 hfz.1 om hvone
           have hst:(storeCells (Addr.add ⟨b,0,none⟩ (len*P.cellsOf e)) vs).run P w=.ok () (cQ w b (.cells C' E2 fz2)):=by
            rw[kK,Ag];exact h1
           obtain⟨f1,f2,f3,f4⟩:=oW (w:=w) (b:=b) (o:=.cells C' E2 fz2)
           have s1:=d9 (o':=.arr (cs.take (len*P.cellsOf e)++src) (P.cellsOf e) (g+1)) (w':=cQ w b (.cells C' E2 fz2)) (I':=I) r hid trivial (ρ id) f1 f2 f3 (by rw[f4];exact Ab _)
            (fun k _ hne=>oC (fun e=>hne (by rw[hρ,e]))) (fun _ hb=>hb) (fun _ hb=>.inl hb) (fun _ hb=>.inl hb) (hslk _ _) (hptk _ _) (fun ext=>by
             simp only[OR,hρ,bG];refine⟨hpos,hIb,C',E2,fz2,eH hblt,hfz.keep om,?_⟩;refine AC (pW ext.imm _ _ hnew1) (fun k v hk=>⟨?_,hones v (Br hk)⟩);rw[Ag,uZ hblt,h3 k]
             by_cases hin:k<len*P.cellsOf e
             ·rw[if_neg om];rw[Be om]at hk;have hk2:=ho4 w rfl;obtain⟨d0,hd0⟩:∃d0,cs[k]? =some d0:=⟨cs[k],by simp⟩
              obtain⟨u0,hu0,_,_⟩:=(eX _ _ _).1 hcs k d0 hd0;rw[dL hC2,Ag]at hu0;rw[hu0];have hload:=hk2;simp only[Builtin.firstCells]at hload
              have hvals:∃vs2:List Value,vs2.length=len*P.cellsOf e/\∀(j:Nat) (x:Value),vs2[j]? =some x->cellAt w b (0+j)=some x:=
               ⟨C2.toList.take (len*P.cellsOf e),by simp;omega,fun j x hj=>by
                rw[Ag,dL hC2];rw[Dg]at hj
                split at hj
                ·simpa using hj
                ·cases hj⟩
              obtain⟨vs2,hv1,hv2⟩:=hvals;have hl2:=run_loadCells' (P:=P) (w:=w) (b:=b) (o:=0) vs2 hv2;rw[hv1,hload]at hl2;have:old=vs2:=by injection hl2 with hl2 _;simpa using hl2
              subst this;have:=hv2 k v hk;rw[dL hC2,Ag,hu0]at this;exact this
             ·have hlt2:=(Aw.1 hk).1;rw[Af,ho3]at hlt2;rw[if_pos om];rw[Bo om,ho3]at hk;rw[By];exact hk)
           rw[cL]at s1;refine⟨_,ρ,_,I,iB (base:=some ⟨b,0,none⟩) hu hi hd hnd hlen (hfirst w rfl) hroom (fun a ha=>by cases ha;exact hst) (fun hh=>by cases hh),s1,?_⟩;simp only[AR];refine⟨_,_,rfl,?_⟩;simp only[slOK,hset,hρ];exact⟨Ab _,fun _=>⟨hroom,.inr ⟨trivial,by omega,C',E2,fz2,eH hblt,by omega⟩⟩⟩
       ·-- a new row
        obtain⟨ncap,hncap,hrun2⟩:=sL (P:=P) (ty:=ty) (base:=a) (sLen:=len) (sCap:=cap) (old:=old) hu hi hd hnd hlen hfirst ho4 hrun hb0 hb1 hroom hneed;have hC:(old.toArray++(vs.toArray++Builtin.zeroCells zv.cells (ncap-(len+n)))).toList=(old++vs)++(Builtin.zeroCells zv.cells (ncap-(len+n))).toList:=smp
        have hCs:(old.toArray++(vs.toArray++Builtin.zeroCells zv.cells (ncap-(len+n)))).size=ncap*P.cellsOf e:=by
         rw[<-Array.length_toList,hC,Af,Af,qJ,hvl,ho3];simp[hsz];rw[<-Cc,<-Cc];congr 1;omega
        have s1:=d9 (o':=.arr (cs.take (len*P.cellsOf e)++src) (P.cellsOf e) (g+1)) (w':=w.drew.alloc (.cells (old.toArray++(vs.toArray++Builtin.zeroCells zv.cells (ncap-(len+n)))) e)) (I':=I) r hid trivial (some w.heap.size)
         (Grew.drewAlloc (m:=true) w _).os (Grew.drewAlloc (m:=true) w _).tape (Grew.drewAlloc (m:=true) w _).output (Grew.drewAlloc (m:=true) w _).size (fun k hk _=>(Grew.drewAlloc (m:=true) w _).same k hk) (fun _ hb=>hb) (fun _ hb=>.inl hb) (fun b hb=>by cases hb;exact .inr (Ab _)) (hslk _ _) (hptk _ _) (fun ext=>by
          simp only[OR,bG];exact⟨hpos,fun hI=>by have:=r.imm _ hI;omega,_,e,(0,0),dN w _,kW _ _,DI (dN w _) hC (pW ext.imm _ _ hnew1) hones⟩)
        refine⟨_,_,_,I,hrun2,s1,?_⟩;simp only[AR];refine⟨_,_,rfl,?_⟩;simp only[slOK,hset,bG];exact⟨Ab _,fun _=>⟨hncap,.inr ⟨trivial,by omega,_,e,(0,0),dN w _,by rw[Ag];exact Nat.le_of_eq hCs.symm⟩⟩⟩
      ·cases he
     ·rename_i cs hid
      split at he
      ·rename_i hc
       cases he;obtain⟨rfl,rfl,rfl,hce,hneed⟩:=hc
       simp only[AR]at hs;obtain⟨a,cap,rfl,hs⟩:=hs;exact aP9 hu hi hd hnd hlen hfirst hdv hvone (by rw[hsl,hce,Ch]) hrun hb0 hb1 hce (by rw[<-hce];simpa using hsz) hid hneed r hs
      ·cases he
     ·cases he
    ·cases he
   ·cases he
  ·cases he
 ·cases he
theorem aGC{cs:List A}{vs:List Value}{b:Nat}(ha:ARv h ρ w I cs vs)(hc:∀(k:Nat) (v:Value),vs[k]? =some v->cellAt w b k=some v/\v.oneCell'=true):ARs h ρ w I cs b:=by
 intro k c hk;obtain⟨_,hall⟩:=(eJ cs vs).1 ha;obtain⟨v,hv,hav⟩:=hall k c hk;exact⟨v,(hc k v hv).1,hav,(hc k v hv).2⟩
theorem aDW{cs:List A}{vs rest:List Value}{C:Array Value}{E:TypeId}{fz:Nat×Nat}{b:Nat}(hb:w.heap[b]? =some (.cells C E fz))(hC:C.toList=vs++rest)(ha:ARv h ρ w I cs vs)(ho:∀u∈vs,u.oneCell'=true):ARs h ρ w I cs b:=
 aGC ha fun k v hk=>⟨by
  rw[dL hb,<-Array.getElem?_toList,hC,Be (Aw.1 hk).1];exact hk,ho v (Br hk)⟩
theorem aCM{esz:Nat}{x:A}{xv:Value}{n:Nat}{asx:List A}(he:rG h esz x=some (n,asx))(r:Rel G h ρ w I)(hx:AR h ρ w I x xv):
  (∀w',(Builtin.lenOf xv).run P w'=.ok n w')/\asx.length=n*esz/\∃vs,ARv h ρ w I asx vs/\(∀u∈vs,u.oneCell'=true)/\∀w':World,w'.heap=w.heap->(Builtin.firstCells esz n xv).run P w'=.ok vs.toArray w':=by
 have plain:(c7 h esz x).map (fun r=>(r.1,r.2.map A.d))=some (n,asx)->(∀w',(Builtin.lenOf xv).run P w'=.ok n w')/\asx.length=n*esz/\∃vs,ARv h ρ w I asx vs/\(∀u∈vs,u.oneCell'=true)/\∀w':World,w'.heap=w.heap->(Builtin.firstCells esz n xv).run P w'=.ok vs.toArray w':=by
  intro hh;obtain⟨⟨m,ds⟩,h1,h2⟩:=Bc.1 hh;obtain⟨rfl,rfl⟩:=h2;obtain⟨g1,g2,vs,g3,g4,g5⟩:=IT (P:=P) h1 r hx;exact⟨g1,by simpa using g2,vs,(pH ds vs).2 g3,g4,g5⟩
 cases x with
 |sl id gen off len=>
  simp only[rG]at he
  cases hid:h[id]? with
  |none=>grind
  |some o=>
   rw[hid]at he
   cases o with
   |arr cs e g=>grind
   |box cs=>grind
   |ice cs e g=>grind
   |mp es=>grind
   |log cs=>grind
   |void=>grind
   |vec cs e g=>
    simp only[]at he
    split at he
    ·rename_i hc
     cases he;obtain⟨a,cap,rfl,hs⟩:=hx
     simp only[slOK,hid]at hs;have h3:=hs.2 hc.1.symm
     rcases Dk n with h0|h0
     ·subst h0;refine⟨fun w'=>rfl,by simp,[],by simp[ARv],by simp,fun w' _=> ?_⟩
      cases a<;>simp[Builtin.firstCells,loadCells,loadCellsFrom]
     ·have hO:=r.obj id _ hid;simp only[OR]at hO
      cases hρ:ρ id with
      |none=>grind
      |some b=>
       rw[hρ]at hO h3;obtain⟨_,_,C,E,fz,_,_,hd⟩:=hO
       rcases h3.2 with h4|⟨h4,_⟩
       ·grind
       ·subst h4;have hl:((cs.drop off).take (n*esz)).length=n*esz:=by grind
        obtain⟨vs,h1,h2⟩:=yG (h:=h) (ρ:=ρ) (w:=w) (I:=I) (b:=b) ((cs.drop off).take (n*esz)) off (fun k c hk=>by
         rw[Dg]at hk
         split at hk
         ·exact hd (off+k) c (by simpa using hk)
         ·cases hk)
        have hvl:vs.length=n*esz:=by rw[<-gG h1,hl]
        refine⟨fun w'=>rfl,hl,vs,h1,fun u hu=> ?_,fun w' hw'=> ?_⟩
        ·obtain⟨k,hk⟩:=List.mem_iff_getElem?.1 hu;exact(h2 k u hk).2
        ·have:=run_loadCells' (P:=P) (w:=w') (b:=b) (o:=off) vs (fun k v hk=>(dU (w:=w) (w':=w') (by rw[hw'])).trans (h2 k v hk).1);rw[hvl]at this
         simpa [Builtin.firstCells]using this
    ·cases he
 |_=>simp only[rG]at he;exact plain he
theorem aG3{t u:TypeId}{ty:TypeId}{x y:A}{id gen off len:Nat}{sv xv:Value}{h':H}{d:TypeDesc}(hd:P.underlying u=some d)(hnd:∀k,d≠.int k)(he:qA P h t id gen off len x=some (y,h'))(r:Rel G h ρ w I)(hs:AR h ρ w I (.sl id gen off len) sv)(hx:AR h ρ w I x xv):
  ∃v ρ' w',(Builtin.append_ #[t,u] ty #[sv,xv]).run P w=.ok v w'/\Step G h ρ w I h' ρ' w' I/\AR h' ρ' w' I y v:=by
 unfold qA at he
 split at he
 ·rename_i e hel
  have hu:=rM hel
  split at he
  ·rename_i hok
   obtain⟨i,z,zv,hi,hz,hzv,hrun,hzr,hsz,hzl,_,hpos,hb0,hb1,hone⟩:=I7 hok
   split at he
   ·rename_i n src cs e0 g hsrc hid
    obtain⟨hlen,hsl,vs,hdv,hvone,hfirst⟩:=aCM (P:=P) hsrc r hx;have hvl:vs.length=n*P.cellsOf e:=by rw[<-gG hdv,hsl]
    split at he
    ·rename_i hc
     cases he;obtain⟨hg,he0,hoff,hle,hneed⟩:=hc
     subst hg;subst hoff;simp only[AR]at hs;obtain⟨a,cap,rfl,hs⟩:=hs;simp only[slOK,hid]at hs;obtain⟨hlc,hs⟩:=hs.2 trivial;have hlt:id<h.length:=(Aw.1 hid).1;have hset:∀o,(h.set id o)[id]? =some o:=fun o=>by simp[hlt]
     have hO:=r.obj id _ hid
     have hslk:∀(rb:Option Nat) (w':World),Imm w I w' I->∀gen off' len' a' cap',slOK h ρ w I id gen off' len' a' cap'->slOK (h.set id (.vec (cs.take (len*P.cellsOf e)++src) (P.cellsOf e) (g+1))) (upd ρ id rb) w' I id gen off' len' a' cap':=by
      intro rb w' _ gen off' len' a' cap' hh;simp only[slOK,hid]at hh;simp only[slOK,hset];exact⟨by omega,fun h=>by omega⟩
     have hptk:∀(rb:Option Nat) (w':World),Imm w I w' I->∀gen b,ptOK h ρ w I id gen b->ptOK (h.set id (.vec (cs.take (len*P.cellsOf e)++src) (P.cellsOf e) (g+1))) (upd ρ id rb) w' I id gen b:=by
      intro rb w' _ gen b hh;simp only[ptOK,hid]at hh;simp only[ptOK,hset];exact⟨by omega,fun h=>by omega⟩
     have hold:∃old:List Value,ARv h ρ w I (cs.take (len*P.cellsOf e)) old/\(∀u∈old,u.oneCell'=true)/\old.length=len*P.cellsOf e/\
       ∀w':World,w'.heap=w.heap->(Builtin.firstCells (P.cellsOf e) len (.slice a len cap)).run P w'=.ok old.toArray w':=by
      have hsc:rG h (P.cellsOf e) (.sl id g 0 len)=some (len,(cs.drop 0).take (len*P.cellsOf e))\/(e0=0/\len≠0):=by
       simp only[rG,hid]
       by_cases h0:len=0\/e0=P.cellsOf e
       ·left;rw[if_pos ⟨trivial,h0,by omega⟩]
       ·right;omega
      rcases hsc with hsc|⟨hz0,hl0⟩
      ·obtain⟨_,hl2,old,ho1,ho2,ho3⟩:=aCM (P:=P) hsc r (show AR h ρ w I (.sl id g 0 len) (.slice a len cap)from by
        simp only[AR,slOK,hid];exact⟨a,cap,rfl,Ab _,fun _=>⟨hlc,hs⟩⟩)
       simp only[Ba]at ho1 hl2;exact⟨old,ho1,ho2,by rw[<-gG ho1,hl2],ho3⟩
      ·exfalso;simp only[OR]at hO
       cases hρ:ρ id with
       |none=>rw[hρ]at hs;simp only[]at hs;omega
       |some b=>rw[hρ]at hO;omega
     obtain⟨old,ho1,ho2,ho3,ho4⟩:=hold;have hnew1:ARv h ρ w I (cs.take (len*P.cellsOf e)++src) (old++vs):=uQ ho1 hdv;have hones:∀u∈old++vs,u.oneCell'=true:=fun u hu=>(Ak.1 hu).elim (ho2 u) (hvone u)
     have hlen2:(cs.take (len*P.cellsOf e)++src).length=(len+n)*P.cellsOf e:=by
      rw[Af,Bi,hsl,Cc];omega
     by_cases hroom:len+n<=cap
     ·-- in aJ
      by_cases hcap0:cap=0
      ·have hl0:len=0:=om;have hn0:n=0:=om;subst hcap0;subst hl0;subst hn0;have hv0:vs=[]:=Bw.1 om;have hs0:src=[]:=Bw.1 om;subst hv0;subst hs0
       have s1:=d9 (o':=.vec (cs.take (0*P.cellsOf e)++[]) (P.cellsOf e) (g+1)) (w':=w) (I':=I) r hid trivial (ρ id) rfl rfl rfl (Ab _) (fun _ _ _=>rfl) (fun _ hb=>hb) (fun _ hb=>.inl hb) (fun _ hb=>.inl hb) (hslk _ w) (hptk _ w) (fun ext=>by
        simp only[OR,cL]at hO|-
        cases hρ:ρ id with
        |none=>simp
        |some b=>
         rw[hρ]at hO;obtain⟨hez,h2,C,E,fz,h3,h4,_⟩:=hO;have hee:e0=P.cellsOf e:=om;subst hee;exact⟨hpos,h2,C,E,fz,h3,h4,fun k c hk=>by simp at hk⟩)
       refine⟨_,_,w,iB (base:=a) (sLen:=0) (sCap:=0) hu hi hd hnd hlen (hfirst w rfl) (Ab _) (fun b _=>by simp[storeCells]) (fun _=>rfl),s1,?_⟩;simp only[AR];refine⟨a,0,rfl,?_⟩;simp only[slOK,hset,cL];refine⟨Ab _,fun _=>⟨Ab _,?_⟩⟩
       cases ρ id with
       |none=>exact trivial
       |some b=>exact .inl trivial
      ·simp only[OR]at hO
       cases hρ:ρ id with
       |none=>rw[hρ]at hs;simp only[]at hs;omega
       |some b=>
        rw[hρ]at hs hO;simp only[]at hs hO
        rcases hs with hs|⟨ha,_,C2,E2,fz2,hC2,hcapC⟩
        ·omega
        ·subst ha;obtain⟨hez,hIb,C,E,fz,hC,hfz,hcs⟩:=hO;rw[hC2]at hC;cases hC;have hee:e0=P.cellsOf e:=om;subst hee;have hblt:=(Bn.1 hC2).1
         have hfit:len*P.cellsOf e+vs.length<=C2.size:=by
          have:(len+n)*P.cellsOf e<=cap*P.cellsOf e:=Nat.mul_le_mul_right _ hroom;rw[hvl,<-Cc];omega
         obtain⟨C',h1,h2,h3⟩:=B0 (P:=P) (o:=len*P.cellsOf e) vs 0 C2 w hC2 hfz.1 om hvone
         have hst:(storeCells (Addr.add ⟨b,0,none⟩ (len*P.cellsOf e)) vs).run P w=.ok () (cQ w b (.cells C' E2 fz2)):=by
          rw[kK,Ag];exact h1
         obtain⟨f1,f2,f3,f4⟩:=oW (w:=w) (b:=b) (o:=.cells C' E2 fz2)
         have s1:=d9 (o':=.vec (cs.take (len*P.cellsOf e)++src) (P.cellsOf e) (g+1)) (w':=cQ w b (.cells C' E2 fz2)) (I':=I) r hid trivial (ρ id) f1 f2 f3 (by rw[f4];exact Ab _)
          (fun k _ hne=>oC (fun e=>hne (by rw[hρ,e]))) (fun _ hb=>hb) (fun _ hb=>.inl hb) (fun _ hb=>.inl hb) (hslk _ _) (hptk _ _) (fun ext=>by
           simp only[OR,hρ,bG];refine⟨hpos,hIb,C',E2,fz2,eH hblt,hfz.keep om,?_⟩;rw[hρ]at ext;refine aGC (fO ext _ _ hnew1) (fun k v hk=>⟨?_,hones v (Br hk)⟩);rw[uZ hblt,h3 k]
           by_cases hin:k<len*P.cellsOf e
           ·rw[if_neg om];rw[Be om]at hk;have hk2:=ho4 w rfl;obtain⟨d0,hd0⟩:∃d0,cs[k]? =some d0:=⟨cs[k],by simp⟩
            obtain⟨u0,hu0,_,_⟩:=hcs k d0 hd0;rw[dL hC2]at hu0;rw[hu0];have hload:=hk2;simp only[Builtin.firstCells]at hload
            have hvals:∃vs2:List Value,vs2.length=len*P.cellsOf e/\∀(j:Nat) (x:Value),vs2[j]? =some x->cellAt w b (0+j)=some x:=
             ⟨C2.toList.take (len*P.cellsOf e),by simp;omega,fun j x hj=>by
              rw[Ag,dL hC2];rw[Dg]at hj
              split at hj
              ·simpa using hj
              ·cases hj⟩
            obtain⟨vs2,hv1,hv2⟩:=hvals;have hl2:=run_loadCells' (P:=P) (w:=w) (b:=b) (o:=0) vs2 hv2;rw[hv1,hload]at hl2;have:old=vs2:=by injection hl2 with hl2 _;simpa using hl2
            subst this;have:=hv2 k v hk;rw[dL hC2,Ag,hu0]at this;exact this
           ·have hlt2:=(Aw.1 hk).1;rw[Af,ho3]at hlt2;rw[if_pos om];rw[Bo om,ho3]at hk;rw[By];exact hk)
         rw[cL]at s1;refine⟨_,ρ,_,iB (base:=some ⟨b,0,none⟩) hu hi hd hnd hlen (hfirst w rfl) hroom (fun a ha=>by cases ha;exact hst) (fun hh=>by cases hh),s1,?_⟩;simp only[AR];refine⟨_,_,rfl,?_⟩;simp only[slOK,hset,hρ];exact⟨Ab _,fun _=>⟨hroom,.inr ⟨trivial,by omega,C',E2,fz2,eH hblt,by omega⟩⟩⟩
     ·-- a new row
      obtain⟨ncap,hncap,hrun2⟩:=sL (P:=P) (ty:=ty) (base:=a) (sLen:=len) (sCap:=cap) (old:=old) hu hi hd hnd hlen hfirst ho4 hrun hb0 hb1 hroom hneed;have hC:(old.toArray++(vs.toArray++Builtin.zeroCells zv.cells (ncap-(len+n)))).toList=(old++vs)++(Builtin.zeroCells zv.cells (ncap-(len+n))).toList:=smp
      have hCs:(old.toArray++(vs.toArray++Builtin.zeroCells zv.cells (ncap-(len+n)))).size=ncap*P.cellsOf e:=by
       rw[<-Array.length_toList,hC,Af,Af,qJ,hvl,ho3];simp[hsz];rw[<-Cc,<-Cc];congr 1;omega
      have s1:=d9 (o':=.vec (cs.take (len*P.cellsOf e)++src) (P.cellsOf e) (g+1)) (w':=w.drew.alloc (.cells (old.toArray++(vs.toArray++Builtin.zeroCells zv.cells (ncap-(len+n)))) e)) (I':=I) r hid trivial (some w.heap.size)
       (Grew.drewAlloc (m:=true) w _).os (Grew.drewAlloc (m:=true) w _).tape (Grew.drewAlloc (m:=true) w _).output (Grew.drewAlloc (m:=true) w _).size (fun k hk _=>(Grew.drewAlloc (m:=true) w _).same k hk) (fun _ hb=>hb) (fun _ hb=>.inl hb) (fun b hb=>by cases hb;exact .inr (Ab _)) (hslk _ _) (hptk _ _) (fun ext=>by
        simp only[OR,bG];exact⟨hpos,fun hI=>by have:=r.imm _ hI;omega,_,e,(0,0),dN w _,kW _ _,aDW (dN w _) hC (fO ext _ _ hnew1) hones⟩)
      refine⟨_,_,_,hrun2,s1,?_⟩;simp only[AR];refine⟨_,_,rfl,?_⟩;simp only[slOK,hset,bG];exact⟨Ab _,fun _=>⟨hncap,.inr ⟨trivial,by omega,_,e,(0,0),dN w _,by rw[Ag];exact Nat.le_of_eq hCs.symm⟩⟩⟩
    ·cases he
   ·cases he
  ·cases he
 ·cases he
theorem aKO{h:H}{id e g:Nat}(hem:LI h id=some (e,g)):h[id]? =some (.arr [] e g):=by
 unfold LI at hem
 split at hem
 ·grind
 ·cases hem
theorem aTC{id e g:Nat}(r:Rel G h ρ w I)(hid:h[id]? =some (.arr [] e g)):Step G h ρ w I (h.set id (.vec [] e g)) ρ w I:=by
 have hlt:id<h.length:=by grind
 have at_id:(h.set id (.vec [] e g))[id]? =some (.vec [] e g):=by grind
 have hO:=r.obj id _ hid
 have s:=d9 (o':=.vec [] e g) (w':=w) (I':=I) r hid trivial (ρ id) rfl rfl rfl (Ab _) (fun _ _ _=>rfl) (fun _ hb=>hb) (fun _ hb=>.inl hb) (fun _ hb=>.inl hb)
  (fun _ gen off len a cap hs=>by
   rw[cL];simp only[slOK,hid]at hs;simp only[slOK,at_id];exact hs)
  (fun _ gen b hs=>by
   rw[cL];simp only[ptOK,hid]at hs;simp only[ptOK,at_id];exact hs)
  (fun _=>by
   rw[cL];simp only[OR]at hO|-
   cases hρ:ρ id with
   |none=>trivial
   |some b=>
    rw[hρ]at hO;obtain⟨h1,h2,C,E,fz,h3,h4,_⟩:=hO;exact⟨h1,h2,C,E,fz,h3,h4,fun k c hk=>by simp at hk⟩)
 rw[cL]at s;exact s
theorem aSM{t u:TypeId}{ty:TypeId}{s x y:A}{sv xv:Value}{h':H}{d:TypeDesc}(hd:P.underlying u=some d)(hnd:∀k,d≠.int k)(he:rJ P h t s x=some (y,h'))(r:Rel G h ρ w I)(hs:AR h ρ w I s sv)(hx:AR h ρ w I x xv):
  ∃v ρ' w' I',(Builtin.append_ #[t,u] ty #[sv,xv]).run P w=.ok v w'/\Step G h ρ w I h' ρ' w' I'/\AR h' ρ' w' I' y v:=by
 unfold rJ at he
 split at he
 ·split at he
  ·obtain⟨v,ρ',w',h1,h2,h3⟩:=aG3 hd hnd he r hs hx;exact⟨v,ρ',w',I,h1,h2,h3⟩
  ·split at he
   ·split at he
    ·rename_i e g hem
     have s1:=aTC r (aKO hem);obtain⟨v,ρ',w',h1,h2,h3⟩:=aG3 hd hnd he s1.rel (jX s1.ext _ _ hs) (jX s1.ext _ _ hx);exact⟨v,ρ',w',I,h1,s1.trans h2,h3⟩
    ·exact UW hd hnd he r hs hx
   ·exact UW hd hnd he r hs hx
 ·exact UW hd hnd he r hs hx
theorem aQF{t:TypeId}{k k':IntKind}{l c:Int}{x:A}{h':H}(he:MY P h t l c=some (x,h'))(r:Rel G h ρ w I):
  ∃u ρ' w',(Instr.makeSlice t (.int k l) (.int k' c)).run P w=.ok u w'/\Step G h ρ w I h' ρ' w' I/\AR h' ρ' w' I x u:=by
 unfold MY at he
 split at he
 ·rename_i e hel
  have hu:=rM hel
  split at he
  ·rename_i z hz
   split at he
   ·rename_i zs hzs
    split at he
    ·rename_i hc
     cases he;obtain⟨hel2,h0,hlc,hcm⟩:=hc
     obtain⟨i,z',zv,hi,hz',hzv,hrun,hzr,hsz,hzl,hok,hpos,hb0,hb1,hone⟩:=I7 hel2;rw[hz]at hz';cases hz';have hbytes:i.bytes=P.bytesOf e:=by simp[Program.bytesOf,hi]
     obtain⟨l',rfl⟩:=Dj h0;obtain⟨c',rfl⟩:=Dj (Int.le_trans h0 hlc);have hlc':l'<=c':=om;have hcm':c'<=bI:=om;have wl:IntKind.i64.wrap (l':Int)=l':=VF om om;have wc:IntKind.i64.wrap (c':Int)=c':=VF om om;have hd:=fun w I=>aAY (h:=[]) (ρ:=fun _=>none) (w:=w) (I:=I) hzs (hzr _ _ w I);have hzsl:zs.length=P.cellsOf e:=by rw[((iP _ _).1 (hd w I)).1];simpa using hsz
     have small:∀n:Nat,n<=bI->¬((P.bytesOf e:Int)*n>2^48):=by
      intro n hn;have h1:P.bytesOf e*n<=1024*bI:=Nat.mul_le_mul hb1 hn;have h2:(1024*bI:Nat)<=2^48:=by unfold bI;omega
      have h3:((P.bytesOf e*n:Nat):Int)<=((2^48:Nat):Int):=by exact_mod_cast Bp h1 h2
      rw[Cf]at h3;have h4:((2^48:Nat):Int)=2^48:=by norm_cast
      omega
     have hcells:((Array.range (c'*P.cellsOf e)).map fun j=>zv.cells[j % zv.cells.size]!).toList=(List.replicate c' zv.cells.toList).flatten:=by
      rw[Array.toList_map,Array.toList_range,<-uN];simp[hsz]
     let C:Array Value:=(Array.range (c'*P.cellsOf e)).map fun j=>zv.cells[j % zv.cells.size]!
     have g:Grew G.keeps _ _:=Grew.push w (.cells C e (0,0));have hnew:({ w with heap:=w.heap.push (.cells C e (0,0))}:World).heap[w.heap.size]? =some (.cells C e (0,0)):=smp;have hCsz:C.size=c'*P.cellsOf e:=by simp[C]
     have hsplit:C.toList=(List.replicate l' zv.cells.toList).flatten++(List.replicate (c'-l') zv.cells.toList).flatten:=by
      show((Array.range (c'*P.cellsOf e)).map fun j=>zv.cells[j % zv.cells.size]!).toList=_;rw[hcells,<-List.flatten_append,List.replicate_append_replicate]
      congr 2;omega
     have s2:=fH r g (.vec ((List.replicate l' zs).flatten.map .d) (P.cellsOf e) 0) (some w.heap.size) (fun b hb=>by cases hb;exact Ab _) (fun ext=>by
      simp only[OR,bG];refine⟨hpos,fun hI=>by have:=r.imm _ hI;omega,C,e,(0,0),hnew,kW _ _,aDW hnew hsplit ((pH _ _).2 (aDS (hd _ _) l')) (fun u hu=> ?_)⟩;obtain⟨l1,hl1,hu1⟩:=List.mem_flatten.1 hu;rw[(List.mem_replicate.1 hl1).2]at hu1;exact hone u hu1)
     refine⟨.slice (some ⟨w.heap.size,0,none⟩) l' c',_,_,?_,s2,?_⟩
     ·have nc:=small c' hcm';rw[<-hbytes]at nc;have l0:¬((l':Int)<0):=om;have c0:¬((c':Int)<0):=om;have nc':¬((281474976710656:Int)<(i.bytes:Int)*c'):=om
      rcases Dk c' with hz0|hz0
      ·subst hz0;have hl0:l'=0:=om;subst hl0;simp[Instr.makeSlice,aU hu,asInt,asIntOf,xZ hi,show IntKind.i64.wrap 0=0 from by decide,cO hi,show Array.range 0= #[]from rfl,newRow,newObj,Sem.run,C]
      ·have hne:¬(c'*P.cellsOf e=0):=by have:=Nat.mul_pos hz0 hpos;omega
       have hll:¬((c':Int)<l'):=om;simp[Instr.makeSlice,aU hu,asInt,asIntOf,xZ hi,wl,wc,nc',hll,l0,c0,cO hi,hne,hrun,newRow,newObj,Sem.run,C]
     ·simp only[AR,Ca];refine⟨_,_,rfl,?_⟩;have e1:(h++[O.vec ((List.replicate l' zs).flatten.map .d) (P.cellsOf e) 0])[h.length]? =some (.vec ((List.replicate l' zs).flatten.map .d) (P.cellsOf e) 0):=smp;have hdl:((List.replicate l' zs).flatten.map A.d).length=l'*P.cellsOf e:=by simp[hzsl]
      simp only[slOK,e1,bG];exact⟨Ab _,fun _=>⟨hlc',.inr ⟨trivial,by omega,C,e,(0,0),hnew,by omega⟩⟩⟩
    ·cases he
   ·cases he
  ·cases he
 ·cases he
theorem aOa{t:TypeId}{len:Nat}{parts:Array (Nat×Operand)}{ev:Operand->Value}{asx:List A}{x:A}{h':H}(he:t8 P h t len ((parts.toList.map (·.1)).zip asx)=some (x,h'))(r:Rel G h ρ w I)(ha:ARv h ρ w I asx ((parts.toList.map (·.2)).map ev)):
  ∃u ρ' w' I',(Instr.buildSlice t len (parts.map fun(i,x)=>(i,ev x))).run P w=.ok u w'/\Step G h ρ w I h' ρ' w' I'/\AR h' ρ' w' I' x u:=by
 have hl:(parts.toList.map (·.1)).length=asx.length:=by rw[gG ha];simp
 unfold t8 at he
 split at he
 ·rename_i e hel
  have hu:=rM hel
  split at he
  ·rename_i z hz
   split at he
   ·rename_i hc
    obtain⟨i,z',zv,hi,hz',hzv,hrun,hzr,hsz,hzl,hok,hpos,_,_,hone⟩:=I7 hc.1;rw[hz]at hz';cases hz'
    split at he
    ·rename_i cells hf
     split at he
     ·rename_i hokc
      ·cases he;have hzc:=aEs (hzr h ρ w I) len
       have hp:=FY (h:=h) (ρ:=ρ) (w:=w) (I:=I) (aJ:=fun i=>some (i*P.cellsOf e,P.cellsOf e)) _ asx _ hl ha
       have hzero:((Array.range (len*P.cellsOf e)).map fun i=>zv.cells[i % zv.cells.size]!).toList=(List.replicate len zv.cells.toList).flatten:=by
        rw[Array.toList_map,Array.toList_range,<-uN];simp[hsz]
       obtain⟨C',h2,h3⟩:=RI _ _ _ _ ((Array.range (len*P.cellsOf e)).map fun i=>zv.cells[i % zv.cells.size]!) hf hp (by rw[hzero];exact hzc);rw[NS]at h2
       have hones:∀u∈C'.toList,u.oneCell'=true:=by
        intro u hu;obtain⟨k,hk⟩:=List.mem_iff_getElem?.1 hu;have hlk:k<cells.length:=by rw[gG h3];exact(Aw.1 hk).1
        obtain⟨u',hu',hau⟩:=((eJ _ _).1 h3).2 k cells[k] smp;rw[hk]at hu';cases hu';exact aFE hau (Bk.1 hokc _ smp)
       have g:Grew G.keeps _ _:=Grew.push w (.cells C' e (0,0));have hnew:({ w with heap:=w.heap.push (.cells C' e (0,0))}:World).heap[w.heap.size]? =some (.cells C' e (0,0)):=smp
       have s2:=fH r g (.vec cells (P.cellsOf e) 0) (some w.heap.size) (fun b hb=>by cases hb;exact Ab _) (fun ext=>by
        simp only[OR,bG];exact⟨hpos,fun hI=>by have:=r.imm _ hI;omega,C',e,(0,0),hnew,kW _ _,aDW (rest:=[]) hnew smp (fO ext _ _ h3) hones⟩)
       refine⟨.slice (some ⟨w.heap.size,0,none⟩) len len,_,_,I,?_,s2,?_⟩
       ·by_cases h0:len=0
        ·subst h0;have h2':Instr.fill (fun i=>some (i*P.cellsOf e,P.cellsOf e)) #[] (parts.toList.map fun x=>(x.1,ev x.2))=some C':=by simpa [show Array.range 0= #[]from rfl]using h2
         simp[Instr.buildSlice,aU hu,cO hi,show Array.range 0= #[]from rfl,h2',newRow,newObj,Sem.run]
        ·have hne:¬(len*P.cellsOf e=0):=by have:=Nat.mul_pos (show 0<len by omega) hpos;omega
         have hle:¬(2^24<len*P.cellsOf e):=by have:=hc.2;omega
         simp[Instr.buildSlice,aU hu,cO hi,hrun,hle,hne,h2,newRow,newObj,Sem.run]
       ·simp only[AR];refine⟨_,_,rfl,?_⟩;have e1:(h++[O.vec cells (P.cellsOf e) 0])[h.length]? =some (.vec cells (P.cellsOf e) 0):=smp
        have hcl:C'.size=len*P.cellsOf e:=by
         have a1:=gG h3;have a2:cells.length=(List.replicate len (a6 z)).flatten.length:=aDT _ _ _ hf;have a3:C'.toList.length=C'.size:=smp;rw[<-a3,<-a1,a2];simp[hzl]
        have hdl:cells.length=len*P.cellsOf e:=by rw[gG h3];simpa using hcl
        simp only[slOK,e1,bG];exact⟨Ab _,fun _=>⟨Ab _,.inr ⟨trivial,by omega,C',e,(0,0),hnew,by omega⟩⟩⟩
     ·cases he
    ·cases he
   ·cases he
  ·cases he
 ·cases he
end
end Ev
end Go.Proofs.YtppffbehejpglaaGreatDoor
namespace Go.Proofs.YtppffbehejpglaaGreatDoor
namespace Ev
variable{G:Gnd}
section
variable{P:Program}{h:H}{ρ:Rho}{w:World}{I:Nat->Prop}
theorem aFX(f:Int->UInt8):∀(ns:List Int) (acc:ByteArray),(ns.foldl (fun r n=>r.push (f n)) acc).data.toList=acc.data.toList++ns.map f
 | [],acc=>by simp
 |n::ns,acc=>by
  simp only[Dc,Aj];rw[aFX f ns];simp[ByteArray.push]
theorem aJl:∀ {ds:List D} {bs:List UInt8} {vs:List Value},LV ds=some bs->DRv w I ds vs->∃ns:List Int,vs=ns.map (Value.int .u8)/\bs=ns.map fun n=>UInt8.ofNat n.toNat
 | [],bs,vs,he,hd=>by
  simp only[LV,Option.some.injEq]at he;subst he;simp only[DRv]at hd;subst hd;exact⟨[],rfl,rfl⟩
 |d::ds,bs,vs,he,hd=>by
  obtain⟨v,rest,rfl,h1,h2⟩:=hd;unfold LV at he
  split at he
  ·grind
  ·rename_i n ds' h0
   cases h0;simp only[Bc]at he
   obtain⟨bs',hbs,rfl⟩:=he;obtain⟨ns,rfl,rfl⟩:=aJl hbs h2;subst h1;exact⟨n::ns,rfl,rfl⟩
  ·cases he
theorem aNS{s:ByteArray}{l:List UInt8}(h:s.data.toList=l):s=⟨l.toArray⟩:=by
 cases s with
 |mk d=>simp only at h;rw[<-h]
theorem aHO(w:World)(e:TypeId)(s:ByteArray):∃fz,(Lib.bytesWorld w e s).heap[w.heap.size]? =some (.cells (Lib.bytesCells w e s) e fz)/\yI (Lib.bytesCells w e s) fz:=by
 refine⟨((Lib.bytesCells w e s).size,(Lib.bytesCells w e s).size+1),?_,fun j hj h=>by simp at h;omega⟩
 have e0:(Lib.bytesWorld w e s).heap[w.heap.size]? =((w.heap.push (.cells (Lib.bytesCells w e s) e)).modify w.heap.size fun
   |.cells c elem (lo,hi)=>.cells c elem (if lo==hi then((Lib.bytesCells w e s).size,(Lib.bytesCells w e s).size+1)else(min lo (Lib.bytesCells w e s).size,max hi ((Lib.bytesCells w e s).size+1)))
   |o=>o)[w.heap.size]?:=rfl
 rw[e0,Eo,if_pos rfl];simp
theorem aTz{esz:Nat}{x:A}{v:Value}{r:Nat×List D}(he:c7 h esz x=some r)(hx:AR h ρ w I x v)(hn:∀s,x≠.d (.str s)):∃a len cap,v=.slice a len cap:=by
 unfold c7 at he
 split at he
 ·simp only[AR,DR]at hx;obtain⟨a,rfl⟩:=hx;exact⟨_,_,_,rfl⟩
 ·simp only[AR,DR]at hx;obtain⟨a,cap,rfl,_⟩:=hx;exact⟨_,_,_,rfl⟩
 ·grind
 ·simp only[AR]at hx;obtain⟨a,cap,rfl,_⟩:=hx;exact⟨_,_,_,rfl⟩
 ·cases he
theorem aQ4{src dst:TypeId}{a x:A}{v:Value}{h':H}(he:eP P h src dst a=some (x,h'))(r:Rel G h ρ w I)(ha:AR h ρ w I a v):
  ∃u ρ' w',(convert src dst v).run P w=.ok u w'/\Step G h ρ w I h' ρ' w' I/\AR h' ρ' w' I x u:=by
 unfold eP at he
 split at he
 ·rename_i k1 k2 k n hs hd
  cases he;simp only[AR,DR]at ha;subst ha
  exact⟨.int k2 (k2.wrap n),ρ,w,by simp[convert,aU hs,aU hd,Conv.intToInt],.refl r,by simp only[AR,DR]⟩
 ·rename_i k1 k n hs hd
  cases he;simp only[AR,DR]at ha;subst ha
  exact⟨.string (Utf8.encode n),ρ,w,by simp[convert,aU hs,aU hd,Conv.intToString],.refl r,by simp only[AR,DR]⟩
 ·rename_i s hs hd
  cases he;simp only[AR,DR]at ha;subst ha
  exact⟨_,ρ,w,by simp[convert,aU hs,aU hd];rfl,.refl r,by simp only[AR,DR]⟩
 ·rename_i e s hs hd
  split at he
  ·rename_i hm
   have hel:=hm;simp only[if_true]at he;cases he;simp only[AR,DR]at ha;subst ha;have hrun:=Lib.run_convert_string_bytes w src dst e ⟨s.toArray⟩ hs hd hel;obtain⟨fz,hnew,hfz⟩:=aHO w e ⟨s.toArray⟩;have hsz:(⟨s.toArray⟩:ByteArray).size=s.length:=by simp[ByteArray.size]
   have g:Grew G.keeps w (Lib.bytesWorld w e ⟨s.toArray⟩):=by
    refine⟨?_,?_,?_,?_,fun b hb=>Lib.bytesWorld_at_old w e _ b hb,?_⟩
    rotate_right
    ·simp[Lib.bytesWorld,World.freeze,World.alloc,World.drew,-World.alloc_eq,-World.drew_eq]
    ·simp[Lib.bytesWorld,World.freeze,World.alloc,World.drew,-World.alloc_eq,-World.drew_eq]
    ·simp[Lib.bytesWorld,World.freeze,World.alloc,World.drew,-World.alloc_eq,-World.drew_eq]
    ·simp[Lib.bytesWorld,World.freeze,World.alloc,World.drew,-World.alloc_eq,-World.drew_eq]
    ·simp[Lib.bytesWorld,World.freeze,World.alloc,World.drew,-World.alloc_eq,-World.drew_eq]
   have hC:(Lib.bytesCells w e ⟨s.toArray⟩).toList=(s.map fun b=>Value.int .u8 b.toNat)++(Array.replicate (grownCap w (⟨s.toArray⟩:ByteArray).size 0 e-(⟨s.toArray⟩:ByteArray).size) (Value.int .u8 0)).toList:=by
    simp[Lib.bytesCells]
   have s1:=fH r g (.arr (s.map fun b=>.int .u8 b.toNat) 1 0) (some w.heap.size) (fun b hb=>by cases hb;exact Ab _) (fun ext=>by
    simp only[OR,bG];refine⟨by omega,fun hI=>by have:=r.imm _ hI;omega,_,e,fz,hnew,⟨hfz,fun h=>absurd rfl h⟩,DI hnew hC ?_ ?_⟩
    ·rw[iP];refine⟨by simp,fun k d hk=> ?_⟩;rw[Bh]at hk|-
     cases hk':s[k]? with
     |none=>rw[hk']at hk;cases hk
     |some b=>rw[hk']at hk;simp at hk;subst hk;exact⟨_,rfl,by simp only[DR]⟩
    ·intro u hu;obtain⟨b,_,rfl⟩:=Av.1 hu;rfl)
   have hcap:s.length<=grownCap w (⟨s.toArray⟩:ByteArray).size 0 e:=by rw[hsz];simp[grownCap,Question.cut]
   refine⟨_,_,_,hrun,s1,?_⟩;simp only[AR];rw[hsz];refine⟨_,_,rfl,?_⟩;have e1:(h++[O.arr (s.map fun b=>D.int .u8 b.toNat) 1 0])[h.length]? =some (.arr (s.map fun b=>D.int .u8 b.toNat) 1 0):=smp;simp only[slOK,e1,bG];refine⟨Ab _,fun _=>⟨by rw[<-hsz]at hcap|-;rw[hsz]at hcap;rw[hsz];exact hcap,.inr ⟨trivial,by simp,_,e,fz,hnew,?_⟩⟩⟩;rw[<-Array.length_toList,hC];simp;rw[hsz]at hcap|-;omega
  ·simp at he
 ·cases he
 ·rename_i e hs hd hnos
  split at he
  ·rename_i hm
   have hel:=hm;simp only[if_true]at he
   split at he
   ·rename_i n cs hsc
    simp only[Bc]at he;obtain⟨bs,hbs,he⟩:=he;cases he;obtain⟨hlen,hcl,vs,hdv,hone,hfirst⟩:=IT (P:=P) hsc r ha;obtain⟨ns,rfl,rfl⟩:=aJl hbs hdv;have hl:=hfirst w rfl;have hln:=hlen w;obtain⟨a,len,cap,rfl⟩:=aTz hsc ha hnos;simp only[Builtin.lenOf,Sem.run_pure,Result.ok.injEq]at hln
    cases a with
    |none=>
     simp only[Builtin.firstCells,Sem.run_pure,Result.ok.injEq]at hl;have:ns=[]:=by have:=hl.1;cases ns with|nil=>rfl|cons=>simp at this
     subst this;exact⟨.string .empty,ρ,w,by simp[convert,aU hs,aU hd,aU hel,Conv.bytesToString],.refl r,by simp only[AR,DR];rfl⟩
    |some a=>
     simp only[Builtin.firstCells,Ch]at hl;rw[<-hln.1]at hl;have:=run_bytesToString (P:=P) w a len cap ns hl;refine⟨_,ρ,w,by simp[convert,aU hs,aU hd,aU hel,this];rfl,.refl r,?_⟩;simp only[AR,DR]
     congr 1
     refine aNS ?_;rw[aFX];simp
   ·cases he
  ·simp at he
 ·cases he
end
end Ev
end Go.Proofs.YtppffbehejpglaaGreatDoor
namespace Go.Proofs.YtppffbehejpglaaGreatDoor
namespace Ev
variable{G:Gnd}
def kI(G:Gnd)(P:Program)(call:aZ):Prop:=∀(f:FuncId) (args:List A) (h:H) (x:A) (h':H),call f args h=some (x,h')->
 (∃ fn, P.funcs[f]? = some fn ∧ fn.body.isNone = false ∧ (fn.name == "runtime.NumGoroutine") = false) ∧
 ∀(ρ:Rho) (w:World) (I:Nat->Prop) (vs:List Value),Rel G h ρ w I->ARv h ρ w I args vs->
  Calls P f vs.toArray w fun e w'=>∃v ρ' I',e=.returned v/\Step G h ρ w I h' ρ' w' I'/\AR h' ρ' w' I' x v
structure EnvOK(E:Env):Prop where
 eqs:aQz E.P E.eqs
 mixed:E.P.follows .mixedOrders=true
section
variable{E:Env}{call:aZ}{h:H}{ρ:Rho}{w:World}{I:Nat->Prop}
theorem aUN{x:A}{v:Value}(hp:hJ x=true){h':H}{ρ':Rho}{w':World}{I':Nat->Prop}{h2:H}{ρ2:Rho}{w2:World}{I2:Nat->Prop}(ha:AR h' ρ' w' I' x v):AR h2 ρ2 w2 I2 x v:=by
 have scal:∀(x:D) (v:Value),(match x with|.int _ _|.bool _|.str _=>true|_=>false)=true->DR w' I' x v->DR w2 I2 x v:=by
  intro x v hx hd
  cases x<;>first|(simp at hx;done)|(simp only[DR]at hd|-;exact hd)
 cases x with
 |d y=>simp only[AR]at ha|-;exact scal y v (by cases y<;>first|rfl|simp[hJ]at hp) ha
 |tup vs=>
  obtain⟨C,rfl,hc⟩:=ha;refine⟨C,rfl,?_⟩;rw[eJ]at hc|-;refine⟨hc.1,fun k a hk=> ?_⟩;obtain⟨u,hu,hau⟩:=hc.2 k a hk;refine⟨u,hu,?_⟩;have:=Bk.1 hp a (Br hk)
  cases a with
  |d y=>simp only[AR]at hau|-;exact scal y u (by cases y<;>first|rfl|simp at this) hau
  |_=>grind
 |_=>simp[hJ]at hp
theorem zE{ρ0:Rho}(hi:∀b,I b->b<w.heap.size)(hg:Ground G w I):Rel G [] ρ0 w I:=
 ⟨fun id o ho=>by simp at ho,fun id id' b o o' _ _ ho=>by simp at ho,hi,hg⟩
theorem aOn{ρ0:Rho}{b:Nat}:¬u6 [] ρ0 b:=fun⟨_,_,_,ho,_⟩=>by simp at ho
theorem VB{ρ0:Rho}{I0:Nat->Prop}{h':H}{ρ':Rho}{w':World}{I':Nat->Prop}(s:Step G [] ρ0 w I0 h' ρ' w' I'):Grew G.keeps w w':=
 ⟨s.keep.os,s.keep.tape,s.keep.output,s.keep.size,fun b hb=>s.keep.same b hb aOn,s.keep.drawn⟩
theorem aTu{ρ0:Rho}{x:A}{v:Value}(ha:AR [] ρ0 w I x v)(h':H)(ρ':Rho):AR h' ρ' w I x v:=
 jX ⟨lS w I,fun _ _ _ _ _ _ hs=>by simp[slOK]at hs,fun _ _ _ hs=>by simp[ptOK]at hs,fun _ _ hs=>by simp[mpOK]at hs⟩ x v ha
theorem aNC {P : Program} {f : FuncId} {args : Array Value} {fn : Func} (h1 : P.funcs[f]? = some fn) (h2 : fn.body.isNone = false) (h3 : (fn.name == "runtime.NumGoroutine") = false) : (callFunc f args).run P w = .ok (.enter f args) w := by
 unfold callFunc;simp only[Sem.run_bind,run_program,Result.andThen_ok,h1,h2,h3,Al,if_false]<;>rfl
theorem aM8{w:World}{I I':Nat->Prop}{d:D}{v:Value}(hd:wN d=true)(h:DR w I d v):DR w I' d v:=by
 cases d with
 |ivs n cs=>
  cases cs with
  |nil=>
   simp only[DR]at h|-;obtain⟨a,cap,h1,h2,_⟩:=h;exact⟨a,cap,h1,h2,.inl trivial⟩
  |cons c cs=>simp[wN]at hd
 |iptr cs=>simp[wN]at hd
 |fn f caps=>simp[wN]at hd
 |ifc t x=>simp[wN]at hd
 |_=>simpa only[DR]using h
theorem aSe{w:World}{I I':Nat->Prop}{cs:List D}{b o:Nat}(hd:cs.all wN=true)(h:DRs w I cs b o):DRs w I' cs b o:=by
 rw[eX]at h|-;intro k d hk;obtain⟨v,h1,h2,h3⟩:=h k d hk;exact⟨v,h1,aM8 (Bk.1 hd d (Br hk)) h2,h3⟩
section rebase
variable{h:H}{ρ:Rho}{w:World}{I I':Nat->Prop}
theorem aT2(hn:h.all kL=true){id gen off len:Nat}{a:Option Addr}{cap:Nat}(hs:slOK h ρ w I id gen off len a cap):slOK h ρ w I' id gen off len a cap:=by
 unfold slOK at hs|-
 cases hid:h[id]? with
 |none=>grind
 |some o=>
  rw[hid]at hs
  cases o with
  |log cs=>have:=Bk.1 hn _ (Br hid);simp[kL]at this
  |ice cs e g=>have:=Bk.1 hn _ (Br hid);simp[kL]at this
  |_  =>grind
theorem aT5(hn:h.all kL=true){id gen b:Nat}(hs:ptOK h ρ w I id gen b):ptOK h ρ w I' id gen b:=by
 unfold ptOK at hs|-
 cases hid:h[id]? with
 |none=>grind
 |some o=>
  rw[hid]at hs
  cases o with
  |log cs=>have:=Bk.1 hn _ (Br hid);simp[kL]at this
  |ice cs e g=>have:=Bk.1 hn _ (Br hid);simp[kL]at this
  |_  =>grind
mutual
theorem UV(hn:h.all kL=true):∀(a:A) (v:Value),lW a=true->AR h ρ w I a v->AR h ρ w I' a v
 |.d x,v,hc,hh=>by simp only[lW]at hc;simp only[AR]at hh|-;exact aM8 hc hh
 |.sl id gen off len,v,_,hh=>by
  simp only[AR]at hh|-;obtain⟨a,cap,hv,ho⟩:=hh;exact⟨a,cap,hv,aT2 hn ho⟩
 |.ptr id gen off,v,_,hh=>by
  simp only[AR]at hh|-;obtain⟨b,hv,ho⟩:=hh;exact⟨b,hv,aT5 hn ho⟩
 |.mp id,v,_,hh=>by
  simp only[AR]at hh|-;exact hh
 |.clo f caps,v,hc,hh=>by
  simp only[lW]at hc;simp only[AR]at hh|-;obtain⟨cv,hv,ho⟩:=hh;exact⟨cv,hv,NN hn caps _ hc ho⟩
 |.agg cs,v,hc,hh=>by
  simp only[lW]at hc;simp only[AR]at hh|-;obtain⟨cv,hv,ho⟩:=hh;exact⟨cv,hv,NN hn cs _ hc ho⟩
 |.tup cs,v,hc,hh=>by
  simp only[lW]at hc;simp only[AR]at hh|-;obtain⟨cv,hv,ho⟩:=hh;exact⟨cv,hv,NN hn cs _ hc ho⟩
 |.junk,v,_,_=>by simp only[AR]
theorem NN(hn:h.all kL=true):∀(asx:List A) (vs:List Value),j6 asx=true->ARv h ρ w I asx vs->ARv h ρ w I' asx vs
 | [],vs,_,hh=>by simpa only[ARv]using hh
 |a::asx,vs,hc,hh=>by
  simp only[j6,Ar]at hc;simp only[ARv]at hh|-;obtain⟨v,rest,hv,ha,hr⟩:=hh;exact⟨v,rest,hv,UV hn a v hc.1 ha,NN hn asx rest hc.2 hr⟩
end
theorem PV:∀ {cs:List A} {k:Nat} {c:A},j6 cs=true->cs[k]? =some c->lW c=true
 | [],k,c,_,hk=>by simp at hk
 |a::asx,0,c,hc,hk=>by
  simp only[j6,Ar]at hc;simp at hk;subst hk;exact hc.1
 |a::asx,k+1,c,hc,hk=>by
  simp only[j6,Ar]at hc;exact PV hc.2 (by simpa using hk)
theorem aSo(hn:h.all kL=true)(hI:∀b,I' b->I b){id:Nat}{o:O}(hid:h[id]? =some o)(ho:OR h ρ w I id o):OR h ρ w I' id o:=by
 have hc:=Bk.1 hn _ (Br hid)
 cases o with
 |log cs=>simp[kL]at hc
 |arr cs e g=>
  simp only[OR]at ho|-
  cases hρ:ρ id with
  |none=>grind
  |some b=>
   rw[hρ]at ho;obtain⟨h1,h2,C,E,fz,h3,h4,h5⟩:=ho;exact⟨h1,fun hb=>h2 (hI b hb),C,E,fz,h3,h4,aSe hc h5⟩
 |box cs=>
  obtain⟨b,hρ,h2,C,E,fz,h3,h4,h5⟩:=ho;refine⟨b,hρ,fun hb=>h2 (hI b hb),C,E,fz,h3,h4,fun m c hm=> ?_⟩;obtain⟨v,hv,ha,hk⟩:=h5 m c hm;exact⟨v,hv,UV hn c v (PV hc hm) ha,hk⟩
 |vec cs e g=>
  simp only[OR]at ho|-
  cases hρ:ρ id with
  |none=>grind
  |some b=>
   rw[hρ]at ho;obtain⟨h1,h2,C,E,fz,h3,h4,h5⟩:=ho;refine⟨h1,fun hb=>h2 (hI b hb),C,E,fz,h3,h4,fun m c hm=> ?_⟩;obtain⟨v,hv,ha,hk⟩:=h5 m c hm;exact⟨v,hv,UV hn c v (PV hc hm) ha,hk⟩
 |mp es=>
  obtain⟨b,hρ,h2,M,c,h3,h4⟩:=ho;exact⟨b,hρ,fun hb=>h2 (hI b hb),M,c,h3,h4⟩
 |ice cs e g=>simp only[OR]
 |void=>simp only[OR]
end rebase
theorem aNU{w w':World}{I I1 I2:Nat->Prop}{ρ0 ρ2:Rho}{h2:H}(s:Step G [] ρ0 w I1 h2 ρ2 w' I2)(hI:∀b,I b->I1 b)(hlt:∀b,I b->b<w.heap.size)(hg:Ground G w I)(hn:h2.all kL=true):Step G [] ρ0 w I h2 ρ2 w' I:=by
 have up:∀b,I b->I2 b:=fun b hb=>(s.ext.imm b (hI b hb)).1;refine⟨⟨fun id o hid=>aSo hn up hid (s.rel.obj id o hid),s.rel.inj,fun b hb=>Dp (hlt b hb) s.keep.size,hg.mono fun b hb=>⟨hb,(s.ext.imm b (hI b hb)).2⟩⟩,⟨fun b hb=>⟨hb,(s.ext.imm b (hI b hb)).2⟩,fun _ _ _ _ _ _ hs=>by simp[slOK]at hs,fun _ _ _ hs=>by simp[ptOK]at hs,fun _ _ hs=>by simp[mpOK]at hs⟩,⟨s.keep.os,s.keep.tape,s.keep.output,s.keep.size,s.keep.same,fun b hb=>.inl hb,s.keep.drawn⟩,s.own,s.len⟩
theorem aUH(hc:kI G E.P call){f:FuncId}{args:List A}{x:A}{h':H}(he:bY call E.hint h f args=some (x,h')):
  (∃ fn, E.P.funcs[f]? = some fn ∧ fn.body.isNone = false ∧ (fn.name == "runtime.NumGoroutine") = false) ∧
  ∀(ρ:Rho) (w:World) (I:Nat->Prop) (vs:List Value),Rel G h ρ w I->ARv h ρ w I args vs->
   Calls E.P f vs.toArray w fun e w'=>∃v ρ' I',e=.returned v/\Step G h ρ w I h' ρ' w' I'/\AR h' ρ' w' I' x v:=by
 unfold bY at he
 split at he
 ·exact hc f args h x h' he
 ·split at he
  ·rename_i asx h1 hfr
   split at he
   ·rename_i r0 hcall
    split at he
    ·rename_i hp
     cases he;obtain⟨hf,hrun⟩:=hc f asx [] x [] hcall
     refine⟨hf,fun ρ w I vs r ha=> ?_⟩;obtain⟨I1,s1,d1⟩:=MM args h asx h1 hfr ρ w I vs r ha;refine(hrun (fun _=>none) w I1 vs (zE s1.rel.imm s1.rel.ground) (d1.ar _ _)).mono ?_;rintro e w' ⟨v,ρ',I',rfl,s2,hx⟩;exact⟨v,ρ,I,rfl,ZS r (VB s2),aUN hp hx⟩
    ·cases he
   ·cases he
  ·cases he
 ·split at he
  ·rename_i asx h1 hfr
   split at he
   ·rename_i r0 h2 hcall
    split at he
    ·rename_i hp
     cases he;simp only[Ar]at hp
     obtain⟨hf,hrun⟩:=hc f asx [] r0 h2 hcall;refine⟨hf,fun ρ w I vs r ha=> ?_⟩;obtain⟨I1,s1,d1⟩:=MM args h asx h1 hfr ρ w I vs r ha;refine(hrun (sub [] ρ) w I1 vs (zE s1.rel.imm s1.rel.ground) (d1.ar _ _)).mono ?_;rintro e w' ⟨v,ρ',I',rfl,s2,hx⟩;have s2':=aNU (I:=I) s2 (fun b hb=>(s1.ext.imm b hb).1) r.imm r.ground hp.2;obtain⟨s3,hren⟩:=II (ord:=[]) r smp smp (Nat.zero_le _) (show Step G (pack h []) (sub [] ρ) w I h2 ρ' w' I from s2');simp only[bJ]at s3 hren;exact⟨v,_,I,rfl,s3,F8 (lS _ _) hren r0 v (UV hp.2 r0 v hp.1 hx)⟩
    ·cases he
   ·cases he
  ·cases he
 ·split at he
  ·rename_i asx h1 hfr
   split at he
   ·rename_i r0 hcall
    cases he;obtain⟨hf,hrun⟩:=hc f asx [] x [] hcall
    refine⟨hf,fun ρ w I vs r ha=> ?_⟩;obtain⟨I1,s1,d1⟩:=MM args h asx h' hfr ρ w I vs r ha;refine(hrun (sub [] ρ) w I1 vs (zE s1.rel.imm s1.rel.ground) (d1.ar _ _)).mono ?_;rintro e w' ⟨v,ρ',I',rfl,s2,hx⟩;obtain⟨s3,_⟩:=II (ord:=[]) s1.rel smp smp (Nat.zero_le _) (show Step G (pack h' []) (sub [] ρ) w I1 [] ρ' w' I' from s2);have e1:bJ (back [] (List.length h') (List.length ([]:H))) h' [] []=h':=by simp[bJ]
    rw[e1]at s3;exact⟨v,_,I',rfl,s1.trans s3,aTu hx _ _⟩
   ·rename_i r0 h2 _ hcall
    cases he;obtain⟨hf,hrun⟩:=hc f asx [] r0 h2 hcall
    refine⟨hf,fun ρ w I vs r ha=> ?_⟩;obtain⟨I1,s1,d1⟩:=MM args h asx h1 hfr ρ w I vs r ha;refine(hrun (sub [] ρ) w I1 vs (zE s1.rel.imm s1.rel.ground) (d1.ar _ _)).mono ?_;rintro e w' ⟨v,ρ',I',rfl,s2,hx⟩;obtain⟨s3,hren⟩:=II (ord:=[]) s1.rel smp smp (Nat.zero_le _) (show Step G (pack h1 []) (sub [] ρ) w I1 h2 ρ' w' I' from s2);simp only[bJ]at s3 hren;exact⟨v,_,I',rfl,s1.trans s3,F8 (lS _ _) hren r0 v hx⟩
   ·cases he
  ·cases he
theorem aQ0(hc:kI G E.P call){c:A}{args:List A}{x:A}{h':H}(he:eZ call E.hint h c args=some (x,h')){cv:Value}{vs:List Value}(r:Rel G h ρ w I)(hcv:AR h ρ w I c cv)(ha:ARv h ρ w I args vs):
  ∃f asx,(do let d<-Deferred.ofValue cv vs.toArray;invoke d.target d.args:Sem Next).run E.P w=.ok (.enter f asx) w/\
   Calls E.P f asx w fun e w'=>∃v ρ' I',e=.returned v/\Step G h ρ w I h' ρ' w' I'/\AR h' ρ' w' I' x v:=by
 have key:∀(f:FuncId) (caps:List A) (cap:Array Value),bY call E.hint h f (args++caps)=some (x,h')->ARv h ρ w I caps cap.toList->cv=.func (.func f) #[] cap->
   ∃f asx,(do let d<-Deferred.ofValue cv vs.toArray;invoke d.target d.args:Sem Next).run E.P w=.ok (.enter f asx) w/\
    Calls E.P f asx w fun e w'=>∃v ρ' I',e=.returned v/\Step G h ρ w I h' ρ' w' I'/\AR h' ρ' w' I' x v:=by
  intro f caps cap he hcap hcv;subst hcv;obtain⟨⟨fn,h1,h2,h3⟩,hrun⟩:=aUH hc he;refine⟨f,(vs++cap.toList).toArray,?_,hrun ρ w I _ r (uQ ha hcap)⟩;have:=aNC (w:=w) (args:=(vs++cap.toList).toArray) h1 h2 h3;simp only[Deferred.ofValue,Sem.run_bind,Sem.run_pure,Result.andThen_ok,invoke];have e:#[]++vs.toArray++cap=(vs++cap.toList).toArray:=smp;rw[e];exact this
 unfold eZ at he
 split at he
 ·simp only[AR]at hcv;obtain⟨cap,rfl,hcap⟩:=hcv;exact key _ _ cap he hcap rfl
 ·simp only[AR,DR]at hcv;obtain⟨cap,rfl,hcap⟩:=hcv;exact key _ _ cap he ((pH _ _).2 hcap) rfl
 ·cases he
def MF(G:Gnd)(E:Env)(h:H)(ρ:Rho)(w:World)(I:Nat->Prop)(o:Oper)(act:Act)(x:A)(h':H):Prop:=
 ∀(K:Act->World->Prop) (Q:Exit->Act->World->Prop),(∀v ρ' w' I',Step G h ρ w I h' ρ' w' I'->AR h' ρ' w' I' x v->K (act.put o.dst v) w')->o.wp E.P act w K Q
theorem bF{o:Oper}{act:Act}{x:A}{h':H}{v:Value}{ρ':Rho}{w':World}{I':Nat->Prop}(hrun:(execOp act.eval o).run E.P w=.ok (.value v) w')(s:Step G h ρ w I h' ρ' w' I')(hx:AR h' ρ' w' I' x v):MF G E h ρ w I o act x h':=by
 intro K Q hK;unfold Oper.wp;rw[hrun,Oper.upon_value];exact hK v ρ' w' I' s hx
theorem aNX{o:Oper}{act:Act}{x:A}{h':H}{f:FuncId}{asx:Array Value}(hrun:(execOp act.eval o).run E.P w=.ok (.enter f asx) w)
  (hc:Calls E.P f asx w fun e w'=>∃v ρ' I',e=.returned v/\Step G h ρ w I h' ρ' w' I'/\AR h' ρ' w' I' x v):MF G E h ρ w I o act x h':=by
 intro K Q hK;unfold Oper.wp;rw[hrun,Oper.upon_enter];refine hc.mono ?_;rintro e w' ⟨v,ρ',I',rfl,s,hx⟩;exact hK v ρ' w' I' s hx
theorem gH{a:A}{asx:List A}{vs:List Value}(ha:ARv h ρ w I (a::asx) vs):∃v rest,vs=v::rest/\AR h ρ w I a v/\ARv h ρ w I asx rest:=by simpa only[ARv]using ha
theorem qV{a:A}{v:Value}(ha:ARv h ρ w I [a] [v]):AR h ρ w I a v:=by
 obtain⟨v',rest,h1,h2,_⟩:=gH ha
 cases h1;exact h2
theorem AU{a b:A}{u v:Value}(ha:ARv h ρ w I [a,b] [u,v]):AR h ρ w I a u/\AR h ρ w I b v:=by
 obtain⟨v',rest,h1,h2,h3⟩:=gH ha
 cases h1;exact⟨h2,qV h3⟩
theorem TP{a b c:A}{u v x:Value}(ha:ARv h ρ w I [a,b,c] [u,v,x]):AR h ρ w I a u/\AR h ρ w I b v/\AR h ρ w I c x:=by
 obtain⟨v',rest,h1,h2,h3⟩:=gH ha
 cases h1;exact⟨h2,AU h3⟩
theorem wY{k:IntKind}{n:Int}{v:Value}(ha:AR h ρ w I (.d (.int k n)) v):v=.int k n:=by simpa only[AR,DR]using ha
theorem fW{vs:List A}{k:A->Option (A×H)}{x:A×H}(he:one vs k=some x):∃a,vs=[a]/\k a=some x:=by
 unfold one at he
 split at he
 ·grind
 ·cases he
theorem nE{vs:List A}{k:A->A->Option (A×H)}{x:A×H}(he:two vs k=some x):∃a b,vs=[a,b]/\k a b=some x:=by
 unfold two at he
 split at he
 ·grind
 ·cases he
theorem aG9{vs:List A}{k:A->A->A->Option (A×H)}{x:A×H}(he:aK3 vs k=some x):∃a b c,vs=[a,b,c]/\k a b c=some x:=by
 unfold aK3 at he
 split at he
 ·grind
 ·cases he
theorem j4{a:A}{k:Int->Option (A×H)}{x:A×H}(he:iK a k=some x):∃kind i,a=.d (.int kind i)/\k i=some x:=by
 unfold iK at he
 split at he
 ·grind
 ·cases he
theorem aOW{d:D}(h:qI d=true):DR w I d (dI d):=by
 cases d<;>simp_all [qI,dI,DR]
theorem aBo{d:D}{v:Value}(h:qI d=true)(hd:DR w I d v):v=dI d:=by
 cases d<;>simp_all [qI,dI,DR]
theorem aJa{P:Program}{t et:TypeId}{kt:TypeDesc}(h:mapT P t=some (kt,et)):∃k0,P.underlying t=some (.map k0 et)/\P.underlying k0=some kt:=by
 unfold mapT at h
 split at h
 ·grind
 ·cases h
theorem aMU{kt:TypeDesc}{k:D}(h:ID kt k=true):MapKept.IsKey kt (dI k)/\qI k=true:=by
 cases kt<;>cases k<;>simp_all [ID,MapKept.IsKey,dI,qI]
theorem aP6(a b:List UInt8):((⟨a.toArray⟩:ByteArray)==⟨b.toArray⟩)=(a==b):=by
 rw[Bool.eq_iff_iff,MapKept.bytes_beq];simp
theorem aCl{kt:TypeDesc}{a b:D}{r:Bool}(h:IG kt a b=some r):Instr.sameNow kt (dI a) (dI b)=some r/\(r=true->dI b=dI a):=by
 unfold IG at h
 split at h
 ·rename_i k x k' y
  split at h
  ·rename_i hk
   subst hk;simp only[Option.some.injEq]at h;subst h;refine⟨by simp[Instr.sameNow,dI],fun hr=> ?_⟩;have:x=y:=by grind
   rw[this]
  ·cases h
 ·rename_i x y
  simp only[Option.some.injEq]at h;subst h;refine⟨by simp[Instr.sameNow,dI,aP6],fun hr=> ?_⟩;have:x=y:=by grind
  rw[this]
 ·cases h
theorem aTA{kt:TypeDesc}{a b:D}(h:IG kt a b=some false):dI b≠dI a:=by
 unfold IG at h
 split at h
 ·rename_i k x k' y
  split at h
  ·rename_i hk
   subst hk;intro e;simp only[dI,Value.int.injEq,true_and]at e;subst e;simp at h
  ·cases h
 ·rename_i x y
  intro e;simp only[dI,Value.string.injEq,ByteArray.mk.injEq]at e;have e2:y=x:=by grind
  subst e2;simp at h
 ·cases h
theorem TB{kt:TypeDesc}{k:D}:∀(es:List (D×D)) (l:List MapEntry) (i:Nat) (r:Option Nat),l.map (fun e=>(e.key,e.val))=es.map (fun e=>(dI e.1,dI e.2))->nR kt k es i=some r->
  (r=none/\Instr.findNow kt (dI k) l i=some none/\∀x∈l,x.key≠dI k)\/∃j e x,r=some (i+j)/\l[j]? =some e/\es[j]? =some x/\Instr.findNow kt (dI k) l i=some (some (i+j,e.val))/\e.key=dI k
 | [],l,i,r,hm,h=>by
  have:l=[]:=by simp_all
  subst this;simp only[nR,Option.some.injEq]at h;subst h;exact .inl ⟨rfl,rfl,by simp⟩
 |e::es,[],i,r,hm,h=>by grind
 |e::es,x::l,i,r,hm,h=>by
  simp only[Aj,List.cons.injEq,Prod.mk.injEq]at hm;obtain⟨⟨hk,hv⟩,hm⟩:=hm;unfold nR at h
  split at h
  ·rename_i he
   cases h;obtain⟨h1,h2⟩:=aCl he
   exact .inr ⟨0,x,e,rfl,rfl,rfl,by simp[Instr.findNow,hk,h1],by rw[hk];exact h2 rfl⟩
  ·rename_i he
   obtain⟨h1,_⟩:=aCl he
   rcases TB es l (i+1) r hm h with⟨a,b,hn⟩|⟨j,e',x',a,b,c,d,f⟩
   ·refine .inl ⟨a,by simp[Instr.findNow,hk,h1,b],fun y hy=> ?_⟩
    rcases Au.1 hy with rfl|hy
    ·rw[hk];exact aTA he
    ·grind
   ·exact .inr ⟨j+1,e',x',by rw[a];congr 1;omega,by simpa using b,by simpa using c,by simp[Instr.findNow,hk,h1,d];omega,f⟩
  ·cases h
theorem aQg{id:Nat}{v:Value}{es:List (D×D)}(r:Rel G h ρ w I)(ha:AR h ρ w I (.mp id) v)(hid:h[id]? =some (.mp es)):∃b M c,v=.map (some b)/\ρ id=some b/\¬I b/\w.heap[b]? =some (.map M c)/\aHX es M/\MapKept.Stamped M c:=by
 obtain⟨b,hv,hp⟩:=ha;simp only[mpOK,hid]at hp;have hO:=r.obj id _ hid;obtain⟨b',hb',hI,M,c,h1,h2⟩:=hO;rw[hp]at hb';cases hb';exact⟨b,M,c,hv,hp,hI,h1,h2⟩
theorem aSq{P:Program}{t ty:TypeId}{ts:Array TypeId}{id:Nat}{x:A}{v:Value}{h':H}(ht:ts[0]? =some t)(he:DM P h t id=some (x,h'))(r:Rel G h ρ w I)(ha:AR h ρ w I (.mp id) v):
  h'=h/\∃u,(Builtin.len_ ts ty #[v]).run P w=.ok u w/\AR h ρ w I x u:=by
 unfold DM at he
 split at he
 ·rename_i kt et es hu hid
  cases he;obtain⟨b,M,c,rfl,_,_,hb,hE,hSt⟩:=aQg r ha hid
  have hl:M.size=es.length:=by
   have:=congrArg List.length hE.1
   simpa using this
  exact⟨rfl,.int .i64 es.length,by simp[Builtin.len_,ht,aU hu,MapKept.run_getObj_map hb,goInt,hl],by simp only[AR,DR]⟩
 ·cases he
theorem aRs{P:Program}{t:TypeId}{ok:Bool}{m k x:A}{vm vk:Value}{h':H}(he:oI P h t ok m k=some (x,h'))(r:Rel G h ρ w I)(hm:AR h ρ w I m vm)(hk:AR h ρ w I k vk):
  h'=h/\∃u,(Instr.lookup t vm vk ok).run P w=.ok u w/\AR h ρ w I x u:=by
 unfold oI at he
 split at he
 ·rename_i kt et id k hmt
  split at he
  ·rename_i es z hid hz
   split at he
   ·rename_i hc
    simp only[Ar]at hc
    split at he
    ·rename_i rr hkat
     cases he;refine⟨rfl,?_⟩
     obtain⟨k0,hu,hku⟩:=aJa hmt;obtain⟨hik,hfk⟩:=aMU hc.1;obtain⟨b,M,c,rfl,_,_,hb,hE,hSt⟩:=aQg r hm hid;simp only[AR]at hk;have hvk:=aBo hfk hk;subst hvk;obtain⟨iz,zv,_,_,hzrun,hzr⟩:=SD hz;have hzd:=hzr h ρ w I;simp only[AR]at hzd;have hzv:=aBo hc.2 hzd;subst hzv
     rcases TB es M.toList 0 rr hE.1 hkat with⟨rfl,hf,hnk⟩|⟨j,e,y,rfl,hje,hjy,hf,hke⟩
     ·refine⟨if ok then .tuple #[dI z,.bool false]else dI z,?_,?_⟩
      ·simp[Instr.lookup,aU hu,MapKept.run_getObj_map hb,MapKept.run_checkKey hku hik,MapKept.run_findKey hku hf,hzrun,Result.andThen]
      ·cases ok
       ·simp only[uR,z8];exact hzd
       ·simp only[uR,z8,AR,if_true,Cn];exact⟨_,rfl,by simp only[ARv,AR];exact⟨_,_,rfl,hzd,_,_,rfl,by simp only[DR],rfl⟩⟩
     ·have hev:e.val=dI y.2:=by
       have h1:=congrArg (fun l=>l[j]?) hE.1;simp only[Bh,hje,hjy,Bb,Option.some.injEq,Prod.mk.injEq]at h1;exact h1.2
      have hyf:=(hE.2 y (Br hjy)).2;have hget:(es.getD j (z,z)).2=y.2:=by rw[Aa,hjy];rfl
      simp only[Ag]at hf|-;refine⟨if ok then .tuple #[dI y.2,.bool true]else dI y.2,?_,?_⟩
      ·simp[Instr.lookup,aU hu,MapKept.run_getObj_map hb,MapKept.run_checkKey hku hik,MapKept.run_findKey hku hf,hev,Result.andThen]
      ·cases ok
       ·simp only[uR,z8,hget];exact aOW hyf
       ·simp only[uR,z8,AR,if_true,Cv,hget];exact⟨_,rfl,by simp only[ARv,AR];exact⟨_,_,rfl,aOW hyf,_,_,rfl,by simp only[DR],rfl⟩⟩
    ·cases he
   ·cases he
  ·cases he
 ·cases he
theorem YM{P:Program}{t:TypeId}{m k v x:A}{vm vk vv:Value}{h':H}(he:d6 P h t m k v=some (x,h'))(r:Rel G h ρ w I)(hm:AR h ρ w I m vm)(hk:AR h ρ w I k vk)(hv:AR h ρ w I v vv):
  x=.d .undef/\∃ρ' w',(Instr.mapUpdate t vm vk vv).run P w=.ok () w'/\Step G h ρ w I h' ρ' w' I:=by
 unfold d6 at he
 split at he
 ·rename_i kt et id k v hmt
  split at he
  ·rename_i es hid
   split at he
   ·rename_i hc
    simp only[Ar]at hc
    split at he
    ·rename_i rr hkat
     cases he;refine⟨rfl,?_⟩
     obtain⟨k0,hu,hku⟩:=aJa hmt;obtain⟨hik,hfk⟩:=aMU hc.1;obtain⟨b,M,c,rfl,hρ,hIb,hb,hE,hSt⟩:=aQg r hm hid;simp only[AR]at hk hv;have hvk:=aBo hfk hk;subst hvk;have hvv:=aBo hc.2 hv;subst hvv
     have fin:∀(M':Array MapEntry) (c':Nat),aHX (qR es k v rr) M'->MapKept.Stamped M' c'->Step G h ρ w I (h.set id (.mp (qR es k v rr))) (upd ρ id (ρ id)) { w with heap:=w.heap.setIfInBounds b (.map M' c')} I:=by
      intro M' c' hE' hS';have hbl:b<w.heap.size:=(Bn.1 hb).1;refine d9 r hid trivial (ρ id) rfl rfl rfl smp (fun q hq hne=> ?_) (fun _ hb=>hb) (fun _ hb=>.inl hb) (fun q hq=>.inl hq) (fun _ gen off len a cap hs=>by simp only[slOK,hid]at hs) (fun _ gen q hs=>by simp only[ptOK,hid]at hs) (fun _=> ?_) (hmp:=fun es' _=>⟨⟨_,rfl⟩,rfl⟩)
      ·simp only[Array.getElem?_setIfInBounds];rw[if_neg (fun e=>hne (by rw[hρ,e]))]
      ·simp only[OR,bG];exact⟨b,hρ,hIb,M',c',by simp[hbl],hE',hS'⟩
     rw[cL]at fin
     rcases TB es M.toList 0 rr hE.1 hkat with⟨rfl,hf,hnk⟩|⟨j,e,y,rfl,hje,hjy,hf,hke⟩
     ·refine⟨ρ,_,?_,fin (M.push ⟨dI k,dI v,c⟩) (c+1) ⟨by simp[qR,hE.1],?_⟩ (MapKept.stamped_push hSt hnk)⟩
      ·simp[Instr.mapUpdate,aU hu,MapKept.run_getObj_map hb,MapKept.run_checkKey hku hik,MapKept.run_findKey hku hf,MapKept.run_setObj_map _ hb,Result.andThen]
      ·intro q hq;simp only[qR,Ak,Bf]at hq
       rcases hq with hq|rfl
       ·exact hE.2 q hq
       ·exact⟨hfk,hc.2⟩
     ·simp only[Ag]at hf fin|-;have hjM:M[j]? =some e:=by simpa using hje
      refine⟨ρ,_,?_,fin (M.modify j fun e=> { e with key:=dI k,val:=dI v}) c ⟨?_,?_⟩ (MapKept.stamped_modify hSt j _ (fun _ _=>rfl) (fun e' _ he'=>by rw[hjM]at he';cases he';exact hke.symm))⟩
      ·simp[Instr.mapUpdate,aU hu,MapKept.run_getObj_map hb,MapKept.run_checkKey hku hik,MapKept.run_findKey hku hf,hjM,hke,MapKept.run_keyThatStays hik,MapKept.run_setObj_map _ hb,Result.andThen]
      ·have hjl:=(Aw.1 hjy).1;apply Cr;intro q;have h1:=congrArg (fun l=>l[q]?) hE.1;simp only[Bh]at h1;simp only[qR,Array.toList_modify,Bh,List.getElem?_modify,Cp]
       by_cases hq:j=q
       ·subst hq;simp[hje,hjl]
       ·simp only[hq,if_false];have:(fun(e:MapEntry)=>(e.key,e.val))∘(fun a=>a)=fun(e:MapEntry)=>(e.key,e.val):=rfl
        simpa using h1
      ·intro q hq;simp only[qR]at hq
       rcases Dy hq with hq|rfl
       ·exact hE.2 q hq
       ·exact⟨hfk,hc.2⟩
    ·cases he
   ·cases he
  ·cases he
 ·cases he
theorem aQO{P:Program}{t:TypeId}(r:Rel G h ρ w I):∃ρ' w' u,(Instr.makeMap t none).run P w=.ok u w'/\Step G h ρ w I (h++[.mp []]) ρ' w' I/\AR (h++[.mp []]) ρ' w' I (.mp h.length) u:=by
 have hlt:¬I w.heap.size:=fun hb=>by have:=r.imm _ hb;omega
 refine⟨upd ρ h.length (some w.heap.size),{ w with heap:=w.heap.push (.map #[] 0)},.map (some w.heap.size),by simp[Instr.makeMap,newObj,Sem.run],fH r (Grew.push w _) (.mp []) (some w.heap.size) (fun b hb=>by cases hb;exact Ab _) (fun _=> ?_),?_⟩
 ·simp only[OR,bG];exact⟨_,rfl,hlt,#[],0,by simp,⟨rfl,by simp⟩,MapKept.stamped_empty 0⟩
 ·simp only[AR,mpOK];exact⟨_,rfl,by simp[bG]⟩
theorem aPN{y:Option (A×H)}{r:A×H}(he:O7 y=some r):∃x h1,y=some (x,h1)/\O7 (some (x,h1))=some r:=by
 cases y with
 |none=>cases he
 |some p=>grind
theorem aTO{y:A}{x:A}{h':H}{v:Value}(he:O7 (some (y,h))=some (x,h'))(r:Rel G h ρ w I)(ha:AR h ρ w I y v):Step G h ρ w I h' ρ w I/\AR h' ρ w I x v:=by
 cases y with
 |sl id gen off len=>
  simp only[O7]at he
  split at he
  ·rename_i cs e g hid
   split at he
   ·rename_i hc
    obtain⟨rfl,rfl,rfl,rfl,rfl⟩:=hc;cases he;have s:=aUo r hid;refine⟨s,?_⟩;obtain⟨a,cap,rfl,hs⟩:=ha;refine⟨a,cap,rfl,?_⟩;have hlt:id<h.length:=by grind
    have at_id:(h.set id (.log cs))[id]? =some (.log cs):=by grind
    simp only[slOK,hid]at hs;obtain⟨h1,h2⟩:=hs.2 trivial;simp only[slOK,at_id];refine⟨Ab _,fun _=>⟨h1,?_,fun _=> ?_⟩⟩
    ·grind
    ·grind
   ·cases he
  ·cases he
 |_=>cases he
theorem aQl{b:Builtin}{tys:Array TypeId}{ty:TypeId}{consts:Array Bool}{vs:List A}{x:A}{h':H}{us:List Value}(he:cH E.P h b tys.toList vs=some (x,h'))(r:Rel G h ρ w I)(ha:ARv h ρ w I vs us):
  ∃v ρ' w' I',(builtin b tys ty consts us.toArray).run E.P w=.ok (.value v) w'/\Step G h ρ w I h' ρ' w' I'/\AR h' ρ' w' I' x v:=by
 unfold cH at he
 split at he
 ·rename_i t rest id htys
  obtain⟨v,r0,rfl,h1,h2⟩:=gH ha;simp only[ARv]at h2;subst h2
  have ht:tys[0]? =some t:=by
   have:tys.toList[0]? =some t:=by grind
   simpa using this
  obtain⟨rfl,u,hu,hx⟩:=aSq (ty:=ty) ht he r h1;exact⟨u,ρ,w,I,by simp only[builtin,Sem.run_bind,hu];rfl,.refl r,hx⟩
 ·rename_i t rest a _ htys
  simp only[Bc]at he;obtain⟨x',hb,hh⟩:=he;cases hh;obtain⟨v,r0,rfl,h1,h2⟩:=gH ha;simp only[ARv]at h2;subst h2
  have ht:tys[0]? =some t:=by
   have:tys.toList[0]? =some t:=by grind
   simpa using this
  obtain⟨u,hu,hx⟩:=aXf (P:=E.P) (w:=w) (ty:=ty) ht hb h1;exact⟨u,ρ,w,I,by simp only[builtin,Sem.run_bind,hu];rfl,.refl r,hx⟩
 ·rename_i t u s y htys
  have ht:tys= #[t,u]:=by grind
  subst ht;obtain⟨sv,r0,rfl,h1,h2⟩:=gH ha;obtain⟨xv,r1,rfl,h3,h4⟩:=gH h2;simp only[ARv]at h4;subst h4
  split at he
  ·cases he
  ·cases he
  ·rename_i d hnd hd
   obtain⟨v,ρ',w',I',h5,h6,h7⟩:=aSM (P:=E.P) (ty:=ty) hd (fun k hk=>hnd k hk) he r h1 h3;exact⟨v,ρ',w',I',by simp only[builtin,Sem.run_bind,h5];rfl,h6,h7⟩
 ·cases he
theorem Q9(hE:EnvOK E)(hc:kI G E.P call){thaw:List Nat}{o:Oper}{act:Act}{vs:List A}{x:A}{h':H}(he:evOp E call thaw h o vs=some (x,h'))(r:Rel G h ρ w I)(ha:ARv h ρ w I vs ((opds o.op).map act.eval)):
  MF G E h ρ w I o act x h':=by
 obtain⟨dst,op,type,pos,after,guard⟩:=o
 cases op with
 |move y=>
  simp only[evOp]at he;obtain⟨a,hvs,he2⟩:=fW he;clear he;subst hvs;have he:=he2;clear he2;cases he;exact bF (v:=act.eval y) rfl (.refl r) (qV ha)
 |assign y=>
  simp only[evOp]at he;obtain⟨a,hvs,he2⟩:=fW he;clear he;subst hvs;have he:=he2;clear he2;have hval:AR h ρ w I a (act.eval y):=qV ha;have plain:MF G E h ρ w I { dst,op:=.assign y,type,pos,after,guard} act a h:=bF (v:=act.eval y) rfl (.refl r) hval;unfold MR at he
  split at he
  ·split at he
   ·cases he;exact plain
   ·rename_i e _
    split at he
    ·cases he;have s1:=fH r (Grew.refl w) (.arr [] e 0) none smp (fun _=>by simp[OR,bG])
     refine bF (v:=act.eval _) rfl s1 ?_;simp only[AR,DR]at hval|-;obtain⟨a,hval⟩:=hval;refine⟨a,0,hval,?_⟩;have e:(h++[O.arr [] e 0])[h.length]? =some (.arr [] e 0):=smp;simp only[slOK,e,bG];simp
    ·cases he;have s1:=fH r (Grew.refl w) (.vec [] (e-1000) 0) none smp (fun _=>by simp[OR,bG])
     refine bF (v:=act.eval _) rfl s1 ?_;simp only[AR,DR]at hval|-;obtain⟨a,hval⟩:=hval;refine⟨a,0,hval,?_⟩;have e:(h++[O.vec [] (e-1000) 0])[h.length]? =some (.vec [] (e-1000) 0):=smp;simp only[slOK,e,bG];simp
  ·cases he;exact plain
 |pick c y z=>
  simp only[evOp,RB]at he
  split at he
  ·rename_i b p q
   cases he;obtain⟨h1,h2,h3⟩:=TP ha
   simp only[AR,DR]at h1;refine bF (v:=if b then act.eval y else act.eval z) ?_ (.refl r) ?_
   ·simp only[execOp,Sem.run_bind,h1]
    cases b<;>rfl
   ·cases b
    ·exact h3
    ·exact h2
  ·cases he
 |alloc t=>
  simp only[evOp,Ep]at he;obtain⟨z,hz,he⟩:=he;obtain⟨i,zv,hi,hzv,hrun,hzr⟩:=SD hz;obtain⟨ρ',w',h1,h2,h3⟩:=aRE (P:=E.P) (t:=t) he r (hzr h ρ w I);exact bF (v:=.pointer (some ⟨w.heap.size,0,none⟩)) (by simp[execOp,Instr.alloc,hrun,h1]) h2 h3
 |box t y=>
  simp only[evOp]at he;obtain⟨a,hvs,he2⟩:=fW he;clear he;subst hvs;have he:=he2;clear he2;obtain⟨ρ',w',h1,h2,h3⟩:=aRE (P:=E.P) (t:=t) he r (qV ha);exact bF (v:=.pointer (some ⟨w.heap.size,0,none⟩)) (by simp[execOp,Instr.box,h1]) h2 h3
 |build t parts=>
  simp only[evOp,Bc]at he;obtain⟨a,he,hh⟩:=he;cases hh;obtain⟨u,h1,h2⟩:=aUt (P:=E.P) (ev:=act.eval) he ha;exact bF (v:=u) (by simp only[execOp,Sem.run_bind,h1];rfl) (.refl r) h2
 |buildSlice t len parts=>
  simp only[evOp]at he
  split at he
  ·obtain⟨x1,h1',he1,he2⟩:=aPN he;obtain⟨u,ρ',w',I',h1,h2,h3⟩:=WX (P:=E.P) (ev:=act.eval) he1 r ha;obtain⟨h4,h5⟩:=aTO he2 h2.rel h3;exact bF (v:=u) (by simp only[execOp,Sem.run_bind,h1];rfl) (h2.trans h4) h5
  split at he
  ·obtain⟨u,ρ',w',I',h1,h2,h3⟩:=aOa (P:=E.P) (ev:=act.eval) he r ha;exact bF (v:=u) (by simp only[execOp,Sem.run_bind,h1];rfl) h2 h3
  ·obtain⟨u,ρ',w',I',h1,h2,h3⟩:=WX (P:=E.P) (ev:=act.eval) he r ha;exact bF (v:=u) (by simp only[execOp,Sem.run_bind,h1];rfl) h2 h3
 |load t y=>
  simp only[evOp]at he;obtain⟨a,hvs,he2⟩:=fW he;clear he;subst hvs;have he:=he2;clear he2;simp only[Bc]at he;obtain⟨a',he,hh⟩:=he;cases hh;obtain⟨u,h1,h2⟩:=aPB (P:=E.P) he r (qV ha);exact bF (v:=u) (by simp only[execOp,Sem.run_bind,h1];rfl) (.refl r) h2
 |store t y z=>
  simp only[evOp]at he;obtain⟨a,b,hvs,he2⟩:=nE he;clear he;subst hvs;have he:=he2;clear he2;simp only[Bc]at he;obtain⟨h2,he,hh⟩:=he;cases hh;obtain⟨h3,h4⟩:=AU ha;obtain⟨ρ',w',I',h5,h6⟩:=aTq (P:=E.P) he r h3 h4;intro K Q hK;unfold Oper.wp
  have hrun:(execOp act.eval { dst,op:=.store t y z,type,pos,after,guard}).run E.P w=.ok .skip w':=by
   simp only[execOp,Sem.run_bind,h5];rfl
  rw[hrun,Oper.upon_skip];exact hK undef ρ' w' I' h6 (by simp only[AR,DR])
 |nilCheck y=>
  simp only[evOp]at he;obtain⟨a,hvs,he2⟩:=fW he;clear he;subst hvs;have he:=he2;clear he2;have hval:AR h ρ w I a (act.eval y):=qV ha;unfold vF at he
  split at he
  ·cases he;refine bF (v:=act.eval y) ?_ (.refl r) hval
   simp only[AR]at hval;obtain⟨b,hv,_⟩:=hval;simp only[execOp,hv];rfl
  ·cases he;refine bF (v:=act.eval y) ?_ (.refl r) hval
   simp only[AR,DR]at hval;obtain⟨b,o,hv,_⟩:=hval;simp only[execOp,hv];rfl
  ·cases he;refine bF (v:=act.eval y) ?_ (.refl r) hval
   simp only[AR]at hval;obtain⟨b,hv,_⟩:=hval;simp only[execOp,hv];rfl
  ·cases he;refine bF (v:=act.eval y) ?_ (.refl r) hval
   simp only[AR,DR]at hval;obtain⟨b,hv,_⟩:=hval;simp only[execOp,hv];rfl
  ·cases he
 |binOp bop t y z t2=>
  simp only[evOp]at he;obtain⟨a,b,hvs,he2⟩:=nE he;clear he;subst hvs;have he:=he2;clear he2;obtain⟨h1,h2⟩:=AU ha
  have fin:∀x',(∃u,(do eqGuard bop t y z (act.eval y) (act.eval z);binOp bop t (act.eval y) (act.eval z):Sem Value).run E.P w=.ok u w/\AR h ρ w I x' u)->MF G E h ρ w I { dst,op:=.binOp bop t y z t2,type,pos,after,guard} act x' h:=by
   rintro x' ⟨u,hu,hx⟩;exact bF (v:=u) (by simp only[execOp];rw[Sem.run_bind,hu];rfl) (.refl r) hx
  unfold b6 at he
  split at he
  ·rename_i x' hb
   cases he;exact fin _ (aXh hb h1 h2)
  ·split at he
   ·rename_i x' hb
    cases he;exact fin _ (aWT hb h1 h2)
   ·simp only[Bc]at he;obtain⟨x',hb,hh⟩:=he;cases hh;exact fin _ (aUh hE.eqs hb h1 h2)
 |unOp uop t y=>
  simp only[evOp]at he;obtain⟨a,hvs,he2⟩:=fW he;clear he;subst hvs;have he:=he2;clear he2;simp only[Bc]at he;obtain⟨x',hb,hh⟩:=he;cases hh;obtain⟨u,h1,h2⟩:=aXL (P:=E.P) (w:=w) hb (qV ha);exact bF (v:=u) (by simp only[execOp,Sem.run_bind,h1];rfl) (.refl r) h2
 |convert src dst' y=>
  simp only[evOp]at he;obtain⟨a,hvs,he2⟩:=fW he;clear he;subst hvs;have he:=he2;clear he2;obtain⟨u,ρ',w',h1,h2,h3⟩:=aQ4 (P:=E.P) he r (qV ha);exact bF (v:=u) (by simp only[execOp,Sem.run_bind,h1];rfl) h2 h3
 |makeFunc fn first caps=>
  simp only[evOp,Q8]at he
  split at he
  ·rename_i f
   split at he
   ·rename_i h0
    cases he;have hf:first= #[]:=by simpa using h0
    subst hf;refine bF (v:=.func (.func f) #[] (caps.map act.eval)) (by simp[execOp,Instr.makeFunc]) (.refl r) ?_;simp only[AR];exact⟨_,rfl,by simpa [opds]using ha⟩
   ·cases he
  ·cases he
 |makeSlice t y z=>
  simp only[evOp]at he;obtain⟨a,b,hvs,he2⟩:=nE he;clear he;subst hvs;have he:=he2;clear he2;obtain⟨k,l,hvs,he2⟩:=j4 he;clear he;subst hvs;obtain⟨k',c,hvs,he⟩:=j4 he2;clear he2;subst hvs;obtain⟨h1,h2⟩:=AU ha
  split at he
  ·obtain⟨u,ρ',w',h3,h4,h5⟩:=aQF (P:=E.P) (k:=k) (k':=k') he r;exact bF (v:=u) (by simp only[execOp,Sem.run_bind,wY h1,wY h2,h3];rfl) h4 h5
  ·obtain⟨u,ρ',w',h3,h4,h5⟩:=aLr (P:=E.P) (k:=k) (k':=k') he r;exact bF (v:=u) (by simp only[execOp,Sem.run_bind,wY h1,wY h2,h3];rfl) h4 h5
 |slice t y lo hi mx=>
  simp only[evOp]at he
  cases mx with
  |some m=>simp at he
  |none=>
   simp only[Option.isNone_none,if_true]at he;unfold rF at he
   cases lo with
   |none=>
    cases hi with
    |none=>
     simp only[Cn]at he
     split at he
     ·simp only[Bc]at he;obtain⟨x',hb,hh⟩:=he;cases hh;obtain⟨u,h1,h2⟩:=TZ (P:=E.P) .i64 .i64 hb (qV ha);exact bF (v:=u) (by simp only[execOp,Sem.run_bind,Dh];simp only[optV,Dh]at h1;rw[h1];rfl) (.refl r) h2
     all_goals simp at *
    |some hv=>
     simp only[Cn,Cv]at he
     split at he
     ·simp at *
     ·simp at *
     ·rename_i a k l _ _
      simp only[Bc]at he;obtain⟨x',hb,hh⟩:=he;cases hh;obtain⟨h3,h4⟩:=AU ha;obtain⟨u,h1,h2⟩:=TZ (P:=E.P) .i64 k hb h3;exact bF (v:=u) (by simp only[execOp,Sem.run_bind,Dh,Bb,wY h4];simp only[optV,Dh,Bb]at h1;rw[h1];rfl) (.refl r) h2
     all_goals simp at *
   |some lv=>
    cases hi with
    |none=>
     simp only[Cn,Cv]at he
     split at he
     ·simp at *
     ·rename_i a k l _ _
      simp only[Bc]at he;obtain⟨x',hb,hh⟩:=he;cases hh;obtain⟨h3,h4⟩:=AU ha;obtain⟨u,h1,h2⟩:=TZ (P:=E.P) k .i64 hb h3;exact bF (v:=u) (by simp only[execOp,Sem.run_bind,Dh,Bb,wY h4];simp only[optV,Dh,Bb]at h1;rw[h1];rfl) (.refl r) h2
     all_goals simp at *
    |some hv=>
     simp only[Cv]at he
     split at he
     ·simp at *
     ·simp at *
     ·simp at *
     ·rename_i a k l k' u' _ _
      simp only[Bc]at he;obtain⟨x',hb,hh⟩:=he;cases hh;obtain⟨h3,h4,h5⟩:=TP ha;obtain⟨u,h1,h2⟩:=TZ (P:=E.P) k k' hb h3;exact bF (v:=u) (by simp only[execOp,Sem.run_bind,Dh,Bb,wY h4,wY h5];simp only[optV,Bb]at h1;rw[h1];rfl) (.refl r) h2
     ·simp at *
 |fieldAddr t y f=>
  simp only[evOp]at he;obtain⟨a,hvs,he2⟩:=fW he;clear he;subst hvs;have he:=he2;clear he2;simp only[Ep,Bc]at he;obtain⟨⟨off,ft⟩,hf,x',hb,hh⟩:=he;cases hh;obtain⟨u,h1,h2⟩:=aLz (P:=E.P) (w:=w) hf hb (qV ha);exact bF (v:=u) (by simp only[execOp,Sem.run_bind,h1];rfl) (.refl r) h2
 |field t y f=>
  simp only[evOp]at he;obtain⟨a,hvs,he2⟩:=fW he;clear he;subst hvs;have he:=he2;clear he2;unfold aHu at he
  split at he
  ·rename_i cs off ft hf
   simp only[Bc,Ep]at he;obtain⟨x',⟨b,hb,ho⟩,hh⟩:=he;cases hh;obtain⟨u,h1,h2⟩:=aUz (P:=E.P) (w:=w) hf hb ho (qV ha);exact bF (v:=u) (by simp only[execOp,Sem.run_bind,h1];rfl) (.refl r) h2
  ·cases he
 |indexAddr t y z=>
  simp only[evOp]at he;obtain⟨a,b,hvs,he2⟩:=nE he;clear he;subst hvs;have he:=he2;clear he2;obtain⟨k,i,hvs,he2⟩:=j4 he;clear he;subst hvs;have he:=he2;clear he2;simp only[Bc]at he;obtain⟨x',hb,hh⟩:=he;cases hh;obtain⟨h3,h4⟩:=AU ha;obtain⟨u,h1,h2⟩:=aMF (P:=E.P) (k:=k) hb h3;exact bF (v:=u) (by simp only[execOp,Sem.run_bind,wY h4,h1];rfl) (.refl r) h2
 |index t y z=>
  simp only[evOp]at he;obtain⟨a,b,hvs,he2⟩:=nE he;clear he;subst hvs;have he:=he2;clear he2;obtain⟨k,i,hvs,he2⟩:=j4 he;clear he;subst hvs;have he:=he2;clear he2;simp only[Bc]at he;obtain⟨x',hb,hh⟩:=he;cases hh;obtain⟨h3,h4⟩:=AU ha;obtain⟨u,h1,h2⟩:=aUM (P:=E.P) (w:=w) (k:=k) hb h3;exact bF (v:=u) (by simp only[execOp,Sem.run_bind,wY h4,h1];rfl) (.refl r) h2
 |extract y i=>
  simp only[evOp]at he;obtain⟨a,hvs,he2⟩:=fW he;clear he;subst hvs;have he:=he2;clear he2;unfold zC at he
  split at he
  ·rename_i vs
   simp only[Bc]at he;obtain⟨x',hb,hh⟩:=he;cases hh;have h1:=qV ha;simp only[AR]at h1;obtain⟨C,hC,hv⟩:=h1;obtain⟨u,hu,hx⟩:=((eJ _ _).1 hv).2 i x hb;have hu':C[i]? =some u:=by simpa using hu
   refine bF (v:=u) ?_ (.refl r) hx;simp only[execOp,hC];simp[Instr.extract,hu']
  ·cases he
 |call c=>
  obtain⟨callee,args,tys⟩:=c
  cases callee with
  |value f=>
   simp only[evOp,eK]at he
   split at he
   ·rename_i g asx
    obtain⟨gv,rest,h1,h2,h3⟩:=gH ha;simp only[opds,Aj,List.cons.injEq]at h1;obtain⟨h4,h5⟩:=h1;subst h4;subst h5;obtain⟨k,as',h6,h7⟩:=aQ0 hc he r h2 h3;refine aNX (f:=k) (asx:=as') ?_ h7;simp only[execOp,resolve];have e:(args.map act.eval)=(args.toList.map act.eval).toArray:=by apply Array.toList_inj.1;simp
    rw[e];exact h6
   ·cases he
  |builtin b=>
   simp only[evOp,eK]at he;obtain⟨v,ρ',w',I',h1,h2,h3⟩:=aQl (ty:=type) (consts:=args.map fun|.const _=>true|_=>false) he r ha;refine bF (v:=v) ?_ h2 h3;simp only[execOp,resolve,Sem.run_bind,Sem.run_pure,Result.andThen_ok,invoke];have e:(args.map act.eval)=(args.toList.map act.eval).toArray:=by apply Array.toList_inj.1;simp
   rw[e];exact h1
  |invoke a b=>cases he
 |makeMap t y=>
  simp only[evOp]at he
  split at he
  ·rename_i hn
   have hy:y=none:=by simpa using hn
   subst hy;cases he;obtain⟨ρ',w',u,h1,h2,h3⟩:=aQO (P:=E.P) (t:=t) r;exact bF (v:=u) (by simp only[execOp,Dh,Sem.run_bind,h1];rfl) h2 h3
  ·cases he
 |lookup t y z ok=>
  simp only[evOp]at he;obtain⟨a,b,hvs,he2⟩:=nE he;clear he;subst hvs;have he:=he2;clear he2;obtain⟨h1,h2⟩:=AU ha;obtain⟨rfl,u,h3,h4⟩:=aRs (P:=E.P) he r h1 h2;exact bF (v:=u) (by simp only[execOp,Sem.run_bind,h3];rfl) (.refl r) h4
 |mapUpdate t y z q=>
  simp only[evOp]at he;obtain⟨a,b,c,hvs,he2⟩:=aG9 he;clear he;subst hvs;have he:=he2;clear he2;obtain⟨h1,h2,h3⟩:=TP ha;obtain⟨rfl,ρ',w',h4,h5⟩:=YM (P:=E.P) he r h1 h2 h3;intro K Q hK;unfold Oper.wp
  have hrun:(execOp act.eval { dst,op:=.mapUpdate t y z q,type,pos,after,guard}).run E.P w=.ok .skip w':=by
   simp only[execOp,Sem.run_bind,h4];rfl
  rw[hrun,Oper.upon_skip];exact hK undef ρ' w' I h5 (by simp only[AR,DR])
 |insert t y z q=>
  simp only[evOp]at he;obtain⟨a,b,c,hvs,he2⟩:=aG9 he;clear he;subst hvs;have he:=he2;clear he2;obtain⟨h1,h2,h3⟩:=TP ha;obtain⟨rfl,ρ',w',h4,h5⟩:=YM (P:=E.P) he r h1 h2 h3;intro K Q hK;unfold Oper.wp
  have hrun:(execOp act.eval { dst,op:=.insert t y z q,type,pos,after,guard}).run E.P w=.ok .skip w':=by
   simp only[execOp,Sem.run_bind,h4];rfl
  rw[hrun,Oper.upon_skip];exact hK undef ρ' w' I h5 (by simp only[AR,DR])
 |_=>cases he
end
end Ev
end Go.Proofs.YtppffbehejpglaaGreatDoor
