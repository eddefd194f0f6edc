/-
  Operations that do not change memory, and stores.
-/
import Derived.Test.YtahbdkmimmnadaaGreatDoorEvRun
import Derived.Laws.Strings
import Derived.Laws.Tables
import Derived.Great.BuildSlice
import Derived.Laws.BytesString
import Derived.Lib.ConvBytes
set_option linter.unusedSimpArgs false
set_option linter.unusedVariables false
set_option linter.unusedSectionVars false
namespace Go.Proofs.YtahbdkmimmnadaaGreatDoor
namespace Ev
variable{G:Gnd}
theorem PO{v:Value}{a:A}(he:fY v=some a)(h:H)(ρ:Rho)(w:World)(I:Nat->Prop):AR h ρ w I a v:=by
 unfold fY at he
 split at he<;>first
  |cases he
 all_goals simp only[AR,DR]
 exact⟨none,rfl⟩
theorem Y6:∀ {vs:List Value} {asx:List A},JF vs=some asx->∀(h:H) (ρ:Rho) (w:World) (I:Nat->Prop),ARv h ρ w I asx vs
 | [],asx,he,h,ρ,w,I=>by simp only[JF,Option.some.injEq]at he;subst he;simp only[ARv]
 |v::vs,asx,he,h,ρ,w,I=>by
  simp only[JF]at he
  split at he
  ·rename_i a as' ha has
   cases he;exact⟨v,vs,rfl,PO ha h ρ w I,Y6 has h ρ w I⟩
  ·cases he
theorem aFD{v:Value}{a:A}(he:OK v=some a)(h:H)(ρ:Rho)(w:World)(I:Nat->Prop):AR h ρ w I a v:=by
 unfold OK at he
 split at he
 ·rename_i cs
  simp only[Az]at he;obtain⟨asx,has,rfl⟩:=he;exact⟨cs,rfl,Y6 has h ρ w I⟩
 ·exact PO he h ρ w I
theorem aA5{s:List A}{x:Operand}{a:A}(he:c8 s x=some a){h:H}{ρ:Rho}{w:World}{I:Nat->Prop}{act:Act}(hs:ARv h ρ w I s act.tmps.toList):AR h ρ w I a (act.eval x):=by
 cases x with
 |tmp t=>
  simp only[c8,Option.some.injEq]at he;subst he;simp only[Act.eval];obtain⟨hl,hall⟩:=(eP _ _).1 hs
  rcases Cr t s.length with hlt|hge
  ·obtain⟨v,hv,ha⟩:=hall t s[t] sm;have e1:s.getD t (.d .undef)=s[t]:=by grind
   have e2:act.tmps.getD t undef=v:=by simp_all
   rw[e1,e2];exact ha
  ·have e1:s.getD t (.d .undef)=.d .undef:=by simp[Aa,Cg hge]
   have e2:act.tmps.getD t undef=undef:=by grind
   rw[e1,e2];simp only[AR,DR]
 |const v=>exact aFD he h ρ w I
 |func f=>
  simp only[c8,Option.some.injEq]at he;subst he;exact⟨#[],rfl,by simp only[ARv]⟩
 |global g=>cases he
theorem VG{s:List A}{h:H}{ρ:Rho}{w:World}{I:Nat->Prop}{act:Act}(hs:ARv h ρ w I s act.tmps.toList):∀ {xs:List Operand} {asx:List A},bX s xs=some asx->ARv h ρ w I asx (xs.map act.eval)
 | [],asx,he=>by simp only[bX,Option.some.injEq]at he;subst he;simp only[Al,ARv]
 |x::xs,asx,he=>by
  simp only[bX]at he
  split at he
  ·rename_i a as' ha has
   cases he;exact⟨_,_,rfl,aA5 ha hs,VG hs has⟩
  ·cases he
section shapes
variable{h:H}{ρ:Rho}{w:World}{I:Nat->Prop}
theorem aCd{a:A}{v:Value}(ha:AR h ρ w I a v)(ho:dE a=true):v.oneCell'=true:=by
 cases a with
 |d x=>
  simp only[AR]at ha
  cases x<;>simp only[DR]at ha
  all_goals first
   |(simp[dE]at ho;done)
   |(subst ha;rfl)
   |(obtain⟨_,_,rfl,_⟩:=ha;rfl)
   |(obtain⟨_,rfl,_⟩:=ha;rfl)
   |(obtain⟨_,rfl⟩:=ha;rfl)
 |sl id gen off len=>simp only[AR]at ha;obtain⟨_,_,rfl,_⟩:=ha;rfl
 |ptr id gen off=>simp only[AR]at ha;obtain⟨_,rfl,_⟩:=ha;rfl
 |mp id=>simp only[AR]at ha;obtain⟨_,rfl,_⟩:=ha;rfl
 |clo f caps=>simp only[AR]at ha;obtain⟨_,rfl,_⟩:=ha;rfl
 |agg cs=>simp[dE]at ho
 |tup cs=>simp[dE]at ho
 |junk=>simp[dE]at ho
theorem aMS{v:Value}(ho:v.oneCell'=true):v.cells= #[v]:=by
 cases v<;>first|rfl|simp[Value.oneCell']at ho
theorem aAm{a:A}{v:Value}(ha:AR h ρ w I a v)(ho:(aU a).all dE=true):ARv h ρ w I (aU a) v.cells.toList/\∀u∈v.cells.toList,u.oneCell'=true:=by
 have single:dE a=true->aU a=[a]->ARv h ρ w I (aU a) v.cells.toList/\∀u∈v.cells.toList,u.oneCell'=true:=by
  intro hk hc;have h1:=aCd ha hk;rw[hc,aMS h1];exact⟨by simp only[ARv];exact⟨v,[],rfl,ha,rfl⟩,fun u hu=>by simp at hu;subst hu;exact h1⟩
 cases a with
 |agg cs=>
  obtain⟨C,rfl,hc⟩:=ha;refine⟨hc,fun u hu=> ?_⟩;obtain⟨k,hk,hk'⟩:=Dk hu;obtain⟨hl,hall⟩:=(eP _ _).1 hc
  have hk2:k<cs.length:=by
   have e:(Value.agg C).cells.toList=C.toList:=rfl;simp only[e]at hk;omega
  obtain⟨u',hu',ha'⟩:=hall k cs[k] sm
  have e:u'=u:=by
   have e1:(Value.agg C).cells.toList[k]? =some u:=by grind
   have e2:C.toList[k]? =some u:=e1;rw[hu']at e2;exact Option.some.inj e2
  subst e
  exact aCd ha' (by
   have:=Bh.1 ho cs[k] (by simp[aU]);exact this)
 |d x=>exact single (by simpa [aU]using ho) rfl
 |sl id gen off len=>exact single (by simpa [aU]using ho) rfl
 |ptr id gen off=>exact single (by simpa [aU]using ho) rfl
 |mp id=>exact single (by simpa [aU]using ho) rfl
 |clo f caps=>exact single (by simpa [aU]using ho) rfl
 |tup cs=>exact single (by simpa [aU]using ho) rfl
 |junk=>exact single (by simpa [aU]using ho) rfl
theorem gL{asx:List A}{vs:List Value}(ha:ARv h ρ w I asx vs):asx.length=vs.length:=((eP _ _).1 ha).1
theorem aJc{asx:List A}{vs:List Value}(n:Nat)(ha:ARv h ρ w I asx vs):ARv h ρ w I (asx.drop n) (vs.drop n):=by
 rw[eP]at ha|-;refine⟨by simp[ha.1],fun k a hk=> ?_⟩
 simpa using ha.2 (n+k) a (by simpa using hk)
theorem aII{asx:List A}{vs:List Value}(n:Nat)(ha:ARv h ρ w I asx vs):ARv h ρ w I (asx.take n) (vs.take n):=by
 rw[eP]at ha|-;refine⟨by simp[ha.1],fun k a hk=> ?_⟩;rw[Dh]at hk|-
 split at hk
 ·grind
 ·cases hk
theorem sU{asx bs:List A}{vs us:List Value}(ha:ARv h ρ w I asx vs)(hb:ARv h ρ w I bs us):ARv h ρ w I (asx++bs) (vs++us):=by
 induction asx generalizing vs with
 |nil=>simp only[ARv]at ha;subst ha;simpa using hb
 |cons a asx ih=>
  obtain⟨v,rest,rfl,h1,h2⟩:=ha;exact⟨v,rest++us,rfl,h1,ih h2⟩
theorem aKZ{P:Program}{t:TypeId}{cs:List A}{C:Array Value}{off:Nat}{b:Bool}{x:A}(hb:c7 P t=some b)(he:tB b (P.cellsOf t) (cs.drop off)=some x)(hc:ARv h ρ w I cs C.toList):
  ∃u,(part t C off).run P w=.ok u w/\AR h ρ w I x u:=by
 have hinfo:∃i,P.info? t=some i:=by
  unfold c7 at hb
  cases hu:P.underlying t with
  |none=>grind
  |some d=>exact QJ hu
 obtain⟨i,hi⟩:=hinfo;unfold tB at he
 cases b with
 |true=>
  rw[if_pos rfl]at he
  split at he
  ·cases he;refine⟨.agg (C.extract off (off+P.cellsOf t)),by simp[part,LH hb,cT hi],?_⟩
   refine⟨_,rfl,?_⟩;have:=aII (P.cellsOf t) (aJc off hc);have e:(C.extract off (off+P.cellsOf t)).toList=(C.toList.drop off).take (P.cellsOf t):=by simp_all
   rw[e];exact this
  ·cases he
 |false=>
  rw[Dc]at he;obtain⟨u,hu,hau⟩:=((eP _ _).1 hc).2 off x he;have hu':C[off]? =some u:=by grind
  exact⟨u,by simp[part,LH hb,hu'],hau⟩
theorem aDW{P:Program}{b o:Nat}{f:Field}(hs:P.cellsOf f.type≠0):(fieldPlace ⟨b,o,none⟩ f).run P w=.ok ⟨b,o+f.offset,none⟩ w:=by
 have hi:∃i,P.info? f.type=some i:=by
  cases hi:P.info? f.type with
  |none=>exfalso;apply hs;simp[Program.cellsOf,hi]
  |some i=>grind
 obtain⟨i,hi⟩:=hi;simp[fieldPlace,cT hi,hs,kA]
theorem aKz{a x:A}{off:Nat}{v:Value}(he:sK off a=some x)(ha:AR h ρ w I a v):∃b o,v=.pointer (some ⟨b,o,none⟩)/\AR h ρ w I x (.pointer (some ⟨b,o+off,none⟩)):=by
 cases a with
 |ptr id gen o=>
  simp only[sK,Option.some.injEq]at he;subst he;obtain⟨b,rfl,hp⟩:=ha;exact⟨b,o,rfl,b,rfl,hp⟩
 |d y=>
  cases y with
  |iptr cs=>
   simp only[sK]at he
   split at he
   ·cases he;obtain⟨b,o,rfl,hI,hd⟩:=ha
    exact⟨b,o,rfl,b,o+off,rfl,hI,j6 off hd⟩
   ·cases he
  |_=>simp[sK]at he
 |_=>simp[sK]at he
theorem aJn{P:Program}{t:TypeId}{f off:Nat}{ft:TypeId}{a x:A}{v:Value}(hf:cF P t f=some (off,ft))(he:sK off a=some x)(ha:AR h ρ w I a v):
  ∃u,(Instr.fieldAt t v f).run P w=.ok u w/\AR h ρ w I x u:=by
 unfold cF at hf
 split at hf
 ·rename_i fields hu
  split at hf
  ·rename_i fd hfd
   split at hf
   ·cases hf
   ·rename_i hs
    cases hf;obtain⟨b,o,rfl,hx⟩:=aKz he ha
    refine⟨_,?_,hx⟩;simp[Instr.fieldAt,aR hu,hfd,Instr.sureAddr,aDW (w:=w) hs]
  ·cases hf
 ·cases hf
theorem aPi{P:Program}{t:TypeId}{f off:Nat}{ft:TypeId}{cs:List A}{x:A}{b:Bool}{v:Value}(hf:cF P t f=some (off,ft))(hb:c7 P ft=some b)(he:tB b (P.cellsOf ft) (cs.drop off)=some x)(ha:AR h ρ w I (.agg cs) v):
  ∃u,(Instr.field t v f).run P w=.ok u w/\AR h ρ w I x u:=by
 unfold cF at hf
 split at hf
 ·rename_i fields hu
  split at hf
  ·rename_i fd hfd
   split at hf
   ·cases hf
   ·cases hf;obtain⟨C,rfl,hc⟩:=ha
    obtain⟨u,hu',hx⟩:=aKZ hb he hc;exact⟨u,by simp[Instr.field,aR hu,hfd,asAgg,hu'],hx⟩
  ·cases hf
 ·cases hf
theorem aPK{P:Program}{t:TypeId}{a x:A}{k:IntKind}{i:Int}{v:Value}(he:OL P t a i=some x)(ha:AR h ρ w I a v):
  ∃u,(Instr.index t v (.int k i)).run P w=.ok u w/\AR h ρ w I x u:=by
 unfold OL at he
 split at he
 ·rename_i s hu
  split at he
  ·rename_i h0
   simp only[Az]at he;obtain⟨b,hb,rfl⟩:=he;subst ha;have hlt:=(At.1 hb).1
   have hb2:(⟨s.toArray⟩:ByteArray)[i.toNat]? =some b:=by
    have hsz:i.toNat<(⟨s.toArray⟩:ByteArray).size:=by simpa [ByteArray.size]using hlt
    rw[getElem?_pos (⟨s.toArray⟩:ByteArray) i.toNat hsz];have:(⟨s.toArray⟩:ByteArray)[i.toNat]=s[i.toNat]:=rfl;rw[this,(At.1 hb).2]
   refine⟨.int .u8 b.toNat,?_,by simp only[AR,DR]⟩;simp[Instr.index,asIntOf,aR hu,h0,hb2]
  ·cases he
 ·rename_i n e cs hu
  split at he
  ·rename_i hi
   simp only[Eg]at he;obtain⟨b,hb,he⟩:=he;obtain⟨C,rfl,hc⟩:=ha;obtain⟨u,hu',hx⟩:=aKZ hb he hc
   have hinfo:∃j,P.info? e=some j:=by
    unfold c7 at hb
    cases hu:P.underlying e with
    |none=>grind
    |some d=>exact QJ hu
   obtain⟨j,hj⟩:=hinfo;exact⟨u,by simp[Instr.index,asIntOf,aR hu,hi,cT hj,hu'],hx⟩
  ·cases he
 ·cases he
end shapes
end Ev
end Go.Proofs.YtahbdkmimmnadaaGreatDoor
namespace Go.Proofs.YtahbdkmimmnadaaGreatDoor
namespace Ev
variable{G:Gnd}
section
variable{P:Program}{h:H}{ρ:Rho}{w:World}{I:Nat->Prop}
theorem mQ{e:TypeId}(hp:0<P.cellsOf e):∃i,P.info? e=some i:=by
 cases hi:P.info? e with
 |none=>exfalso;simp[Program.cellsOf,hi]at hp
 |some i=>grind
theorem aI7{t:TypeId}{a x:A}{k:IntKind}{i:Int}{v:Value}(he:oY P h t a i=some x)(ha:AR h ρ w I a v):
  ∃u,(Instr.indexAt t v (.int k i)).run P w=.ok u w/\AR h ρ w I x u:=by
 unfold oY at he
 split at he
 ·rename_i n e hu
  split at he
  ·rename_i hc
   obtain⟨j,hj⟩:=mQ hc.1;obtain⟨b,o,rfl,hx⟩:=aKz he ha;refine⟨_,?_,hx⟩;simp[Instr.indexAt,asIntOf,aR hu,Instr.sureAddr,hc.2,cT hj,kA]
  ·cases he
 ·rename_i e hu
  split at he
  ·rename_i n cs
   split at he
   ·rename_i hc
    obtain⟨j,hj⟩:=mQ hc.1;cases he;simp only[AR,DR]at ha|-;obtain⟨a,cap,rfl,hcap,hcs⟩:=ha
    rcases hcs with hcs|⟨b,o,rfl,hI,hd⟩
    ·subst hcs;simp at hc
    ·refine⟨.pointer (some ⟨b,o+i.toNat*P.cellsOf e,none⟩),?_,b,_,rfl,hI,j6 _ hd⟩;simp[Instr.indexAt,asIntOf,aR hu,hc.2.1,hc.2.2.1,cT hj,kA]
   ·cases he
  ·rename_i id gen off len
   simp only[AR]at ha;obtain⟨a,cap,rfl,hs⟩:=ha
   have run:∀(b:Nat) (esz:Nat),a=some ⟨b,off,none⟩->esz=P.cellsOf e->0<esz->0<=i->i<len->(Instr.indexAt t (.slice a len cap) (.int k i)).run P w=.ok (.pointer (some ⟨b,off+i.toNat*esz,none⟩)) w:=by
    intro b esz ha he hpos h0 h1;subst ha;subst he;obtain⟨j,hj⟩:=mQ hpos;simp[Instr.indexAt,asIntOf,aR hu,h0,h1,cT hj,kA]
   cases hid:h[id]? with
   |none=>rw[hid]at he;cases he
   |some o=>
    rw[hid]at he
    cases o with
    |box cs=>cases he
    |mp es=>cases he
    |void=>cases he
    |arr cs esz g=>
     simp only[]at he
     split at he
     ·rename_i hc
      cases he;simp only[slOK,hid]at hs
      have h2:=(hs.2 hc.1.symm).2;have h1:=(hs.2 hc.1.symm).1
      cases hρ:ρ id with
      |none=>rw[hρ]at h2;simp only[]at h2;omega
      |some b=>
       rw[hρ]at h2
       rcases h2 with h2|h2
       ·omega
       ·exact⟨_,run b esz h2.1 hc.2.1 hc.2.2.1 hc.2.2.2.1 hc.2.2.2.2,by simp only[AR];exact⟨b,rfl,by simp only[ptOK,hid];exact⟨hs.1,fun _=>hρ⟩⟩⟩
     ·cases he
    |vec cs esz g=>
     simp only[]at he
     split at he
     ·rename_i hc
      cases he;simp only[slOK,hid]at hs
      have h2:=(hs.2 hc.1.symm).2;have h1:=(hs.2 hc.1.symm).1
      cases hρ:ρ id with
      |none=>rw[hρ]at h2;simp only[]at h2;omega
      |some b=>
       rw[hρ]at h2
       rcases h2 with h2|h2
       ·omega
       ·exact⟨_,run b esz h2.1 hc.2.1 hc.2.2.1 hc.2.2.2.1 hc.2.2.2.2,by simp only[AR];exact⟨b,rfl,by simp only[ptOK,hid];exact⟨hs.1,fun _=>hρ⟩⟩⟩
     ·cases he
    |ice cs esz g=>
     simp only[]at he
     split at he
     ·rename_i hc
      cases he;simp only[slOK,hid]at hs
      rcases(hs.2 hc.1.symm).2 with h2|⟨_,b,hb,hI,hd⟩
      ·omega
      ·exact⟨_,run b esz hb hc.2.1 hc.2.2.1 hc.2.2.2.1 hc.2.2.2.2,by simp only[AR];exact⟨b,rfl,by simp only[ptOK,hid];exact⟨hs.1,fun _=>⟨hI,hd⟩⟩⟩⟩
     ·cases he
    |log cs=>
     simp only[]at he
     split at he
     ·rename_i hc
      cases he;simp only[slOK,hid]at hs
      rcases(hs.2 hc.1).2.1 with h2|⟨_,b,hb,hI⟩
      ·omega
      ·refine⟨_,run b 1 hb hc.2.2.1.symm om hc.2.2.2.1 hc.2.2.2.2,?_⟩;rw[Bu];simp only[AR];exact⟨b,rfl,by simp only[ptOK,hid];exact⟨hs.1,fun _=>hI⟩⟩
     ·cases he
  ·cases he
 ·cases he
def optV(k:IntKind)(o:Option Int):Option Value:=o.map (.int k)
theorem C6{n cap:Nat}{lo hi:Option Int}{l u:Nat}(isS:Bool)(he:wW n lo hi=some (l,u))(hcap:n<=cap)(k k':IntKind):
  (Instr.sliceBounds isS n cap (optV k lo) (optV k' hi) none).run P w=.ok (l,u,cap) w/\l<=u/\u<=n:=by
 unfold wW at he
 split at he
 ·rename_i hc
  cases he;obtain⟨h1,h2,h3⟩:=hc
  refine⟨?_,by omega,by omega⟩
  cases lo with
  |none=>
   cases hi with
   |none=>simp[Instr.sliceBounds,optV]
   |some b=>
    simp only[Bd,Option.getD_none]at h2 h3;simp[Instr.sliceBounds,optV,Instr.sliceBound,asIntOf,show(0:Int)<=b/\b<=cap from⟨by omega,by omega⟩]
  |some a=>
   cases hi with
   |none=>
    simp[Instr.sliceBounds,optV,Instr.sliceBound,asIntOf,show(0:Int)<=a/\a<=n from⟨h1,h2⟩]
   |some b=>
    simp only[Bd]at h1 h2 h3;obtain⟨a',rfl⟩:=Do h1;obtain⟨b',rfl⟩:=Do (Cy h1 h2);have e1:b'<=cap:=om;have e2:a'<=b':=om;simp[Instr.sliceBounds,optV,Instr.sliceBound,asIntOf,e1,e2]
 ·cases he
theorem P1{t:TypeId}{a x:A}{lo hi:Option Int}{v:Value}(k k':IntKind)(he:jR P h t a lo hi=some x)(ha:AR h ρ w I a v):
  ∃u,(Instr.sliceAt t v (optV k lo) (optV k' hi) none).run P w=.ok u w/\AR h ρ w I x u:=by
 unfold jR at he
 split at he
 ·rename_i s hu
  simp only[Az]at he;obtain⟨⟨l,u⟩,hb,rfl⟩:=he;simp only[AR,DR]at ha|-;subst ha;have hsz:(⟨s.toArray⟩:ByteArray).size=s.length:=by simp[ByteArray.size]
  obtain⟨h1,h2,h3⟩:=C6 (P:=P) (w:=w) false hb (Ad _) k k';rw[<-hsz]at h1;refine⟨.string ((⟨s.toArray⟩:ByteArray).extract l u),by simp only[Instr.sliceAt,Instr.slice,Sem.run_bind,aR hu];simp[aR hu,h1],?_⟩
  congr 1
  have e:((⟨s.toArray⟩:ByteArray).extract l u).data.toList=(s.drop l).take (u-l):=by
   simp[ByteArray.data_extract,List.extract_eq_take_drop]
  cases hx:(⟨s.toArray⟩:ByteArray).extract l u with
  |mk d=>rw[hx]at e;simp only at e;rw[<-e]
 ·rename_i e n cs hu
  split at he
  ·rename_i hpos
   simp only[Az]at he;obtain⟨⟨l,u⟩,hb,rfl⟩:=he;simp only[AR,DR]at ha|-;obtain⟨a,cap,rfl,hcap,hcs⟩:=ha;obtain⟨h1,h2,h3⟩:=C6 (P:=P) (w:=w) true hb hcap k k';obtain⟨j,hj⟩:=mQ hpos;refine⟨.slice (if cap=l then a else a.map (·.add (l*P.cellsOf e))) (u-l) (cap-l),by simp only[Instr.sliceAt,Instr.slice,Sem.run_bind,aR hu];simp[aR hu,h1,cT hj],_,_,rfl,by omega,?_⟩
   rcases hcs with rfl|⟨b,o,rfl,hI,hd⟩
   ·exact .inl sm
   ·by_cases hcl:cap=l
    ·exact .inl (by rw[show u-l=0 from by omega];simp)
    ·refine .inr ⟨b,o+l*P.cellsOf e,by simp[hcl,kA],hI,wI _ (j6 _ hd)⟩
  ·cases he
 ·rename_i e id gen off len hu
  split at he
  ·rename_i cs esz g hid
   split at he
   ·rename_i hc
    simp only[Az]at he;obtain⟨⟨l,u⟩,hb,rfl⟩:=he;simp only[AR]at ha|-;obtain⟨a,cap,rfl,hs⟩:=ha;simp only[slOK,hid]at hs;have h4:=hs.2 hc.1.symm;obtain⟨h1,h2,h3⟩:=C6 (P:=P) (w:=w) true hb h4.1 k k';obtain⟨j,hj⟩:=mQ hc.2.1;refine⟨.slice (if cap=l then a else a.map (·.add (l*P.cellsOf e))) (u-l) (cap-l),by simp only[Instr.sliceAt,Instr.slice,Sem.run_bind,aR hu];simp[aR hu,h1,cT hj],_,_,rfl,?_⟩;simp only[slOK,hid];refine⟨hs.1,fun hg=>⟨by omega,?_⟩⟩;have h5:=h4.2
    cases hρ:ρ id with
    |none=>rw[hρ]at h5;simp only[]at h5|-;omega
    |some b=>
     rw[hρ]at h5;simp only[]at h5|-
     rcases h5 with h5|⟨ha5,hlen,C,E,fz,hC,hcap⟩
     ·exact .inl om
     ·by_cases hcl:cap=l
      ·exact .inl om
      ·have hesz:esz=P.cellsOf e\/l=0:=by
        rcases hc.2.2 with hz|hz
        ·exact .inr om
        ·exact .inl hz
       refine .inr ⟨?_,?_,C,E,fz,hC,?_⟩
       ·rw[if_neg hcl,ha5]
        rcases hesz with hz|hz
        ·simp[kA,hz]
        ·subst hz;simp[kA]
       ·have e1:l*esz+(u-l)*esz=u*esz:=by rw[<-Bw];congr 1;omega
        have e2:u*esz<=len*esz:=Nat.mul_le_mul_right _ h3;omega
       ·have e1:l*esz+(cap-l)*esz=cap*esz:=by rw[<-Bw];congr 1;omega
        omega
   ·cases he
  ·rename_i cs esz g hid
   split at he
   ·rename_i hc
    simp only[Az]at he;obtain⟨⟨l,u⟩,hb,rfl⟩:=he;simp only[AR]at ha|-;obtain⟨a,cap,rfl,hs⟩:=ha;simp only[slOK,hid]at hs;have h4:=hs.2 hc.1.symm;obtain⟨h1,h2,h3⟩:=C6 (P:=P) (w:=w) true hb h4.1 k k';obtain⟨j,hj⟩:=mQ hc.2.1;refine⟨.slice (if cap=l then a else a.map (·.add (l*P.cellsOf e))) (u-l) (cap-l),by simp only[Instr.sliceAt,Instr.slice,Sem.run_bind,aR hu];simp[aR hu,h1,cT hj],_,_,rfl,?_⟩;simp only[slOK,hid];refine⟨hs.1,fun hg=>⟨by omega,?_⟩⟩;have h5:=h4.2
    cases hρ:ρ id with
    |none=>rw[hρ]at h5;simp only[]at h5|-;omega
    |some b=>
     rw[hρ]at h5;simp only[]at h5|-
     rcases h5 with h5|⟨ha5,hlen,C,E,fz,hC,hcap⟩
     ·exact .inl om
     ·by_cases hcl:cap=l
      ·exact .inl om
      ·have hesz:esz=P.cellsOf e\/l=0:=by
        rcases hc.2.2 with hz|hz
        ·exact .inr om
        ·exact .inl hz
       refine .inr ⟨?_,?_,C,E,fz,hC,?_⟩
       ·rw[if_neg hcl,ha5]
        rcases hesz with hz|hz
        ·simp[kA,hz]
        ·subst hz;simp[kA]
       ·have e1:l*esz+(u-l)*esz=u*esz:=by rw[<-Bw];congr 1;omega
        have e2:u*esz<=len*esz:=Nat.mul_le_mul_right _ h3;omega
       ·have e1:l*esz+(cap-l)*esz=cap*esz:=by rw[<-Bw];congr 1;omega
        omega
   ·cases he
  ·rename_i cs hid
   split at he
   ·rename_i hc
    simp only[Az]at he;obtain⟨⟨l,u⟩,hb,rfl⟩:=he;simp only[AR]at ha|-;obtain⟨a,cap,rfl,hs⟩:=ha;simp only[slOK,hid]at hs;obtain⟨h4,h5,h6⟩:=hs.2 hc.1;obtain⟨h1,h2,h3⟩:=C6 (P:=P) (w:=w) true hb h4 k k';obtain⟨j,hj⟩:=mQ (P:=P) (e:=e) om;refine⟨.slice (if cap=l then a else a.map (·.add (l*P.cellsOf e))) (u-l) (cap-l),by simp only[Instr.sliceAt,Instr.slice,Sem.run_bind,aR hu];simp[aR hu,h1,cT hj],_,_,rfl,?_⟩;simp only[slOK,hid];clear hj;refine⟨hs.1,fun _=>⟨by omega,?_,fun hg=> ?_⟩⟩
    ·by_cases hul:u-l=0
     ·exact .inl hul
     ·rcases h5 with h5|⟨h7,b,rfl,h8⟩
      ·omega
      ·refine .inr ⟨Nat.lt_of_le_of_lt (by rw[Dd,Nat.add_sub_cancel' h2];exact Nat.add_le_add_left h3 _) h7,b,?_,h8⟩;rw[if_neg (by intro hcl;apply hul;rw[hcl]at h4;exact Nat.sub_eq_zero_of_le (Bk h3 h4))];simp[kA,hc.2.2]
    ·rcases h6 hg with h7|⟨b,h7,rfl,C,E,fz,h8,h9⟩
     ·exact .inl om
     ·by_cases hcl:cap=l
      ·exact .inl om
      ·refine .inr ⟨b,h7,?_,C,E,fz,h8,by omega⟩;rw[if_neg hcl];simp[kA,hc.2.2]
   ·cases he
  ·cases he
 ·cases he
theorem IJ{op:BinOp}{t:TypeId}{x y:Operand}{a b:Value}(h1:a≠.nilIface)(h2:a.oneCell'=true):(eqGuard op t x y a b).run P w=.ok () w:=by
 cases op<;>cases a<;>first
  |(exact absurd rfl h1)
  |(simp[Value.oneCell']at h2;done)
  |rfl
theorem H1{s:Sem Value}{x:A}(he:(qL s).bind fY=some x):∃u,s.run P w=.ok u w/\AR h ρ w I x u:=by
 cases s with
 |pure v=>
  exact⟨v,rfl,PO he h ρ w I⟩
 |_=>simp[qL]at he
theorem tD(s:List UInt8):(⟨s.toArray⟩:ByteArray).toList=s:=ByteArray.toList_mk s
theorem aSs{op:BinOp}{t:TypeId}{xo yo:Operand}{a b x:A}{u v:Value}(he:aBin op a b=some x)(ha:AR h ρ w I a u)(hb:AR h ρ w I b v):
  ∃r,(do eqGuard op t xo yo u v;binOp op t u v:Sem Value).run P w=.ok r w/\AR h ρ w I x r:=by
 unfold aBin at he
 split at he
 ·-- shl
  simp only[AR,DR]at ha hb;subst ha;subst hb;obtain⟨r,hr,hx⟩:=H1 (P:=P) (w:=w) (h:=h) (ρ:=ρ) (I:=I) he;exact⟨r,by simp only[Sem.run_bind,IJ (a:=.int _ _) sm rfl];simpa [binOp]using hr,hx⟩
 ·simp only[AR,DR]at ha hb;subst ha;subst hb;obtain⟨r,hr,hx⟩:=H1 (P:=P) (w:=w) (h:=h) (ρ:=ρ) (I:=I) he;exact⟨r,by simp only[Sem.run_bind,IJ (a:=.int _ _) sm rfl];simpa [binOp]using hr,hx⟩
 ·rename_i k m k' n hn1 hn2
  simp only[AR,DR]at ha hb;subst ha;subst hb
  split at he
  ·cases he
  ·rename_i hk
   have hk:k=k':=by simpa using hk
   subst hk;have g:=fun op=>IJ (P:=P) (w:=w) (op:=op) (t:=t) (x:=xo) (y:=yo) (a:=.int k m) (b:=.int k n) sm rfl
   have pv:∀(op:BinOp) (s:Sem Value),(qL s).bind fY=some x->binOp op t (.int k m) (.int k n)=s->
     ∃r,(do eqGuard op t xo yo (.int k m) (.int k n);binOp op t (.int k m) (.int k n):Sem Value).run P w=.ok r w/\AR h ρ w I x r:=by
    intro op s hs hb;obtain⟨r,hr,hx⟩:=H1 (P:=P) (w:=w) (h:=h) (ρ:=ρ) (I:=I) hs;exact⟨r,by simp only[Sem.run_bind,g,hb];simpa using hr,hx⟩
   have bv:∀(op:BinOp) (c:Bool),some (A.d (.bool c))=some x->binOp op t (.int k m) (.int k n)=pure (.bool c)->
     ∃r,(do eqGuard op t xo yo (.int k m) (.int k n);binOp op t (.int k m) (.int k n):Sem Value).run P w=.ok r w/\AR h ρ w I x r:=by
    intro op c hs hb;cases hs;exact⟨.bool c,by simp only[Sem.run_bind,g,hb];rfl,by simp only[AR,DR]⟩
   split at he
   ·exact pv _ _ he (by simp[binOp])
   ·exact pv _ _ he (by simp[binOp])
   ·exact pv _ _ he (by simp[binOp])
   ·split at he
    ·cases he
    ·rename_i hz
     cases he;exact⟨.int k (k.wrap (m.tdiv n)),by simp only[Sem.run_bind,g];simp[binOp,Op.intDiv,hz],by simp only[AR,DR]⟩
   ·split at he
    ·cases he
    ·rename_i hz
     cases he;exact⟨.int k (m.tmod n),by simp only[Sem.run_bind,g];simp[binOp,Op.intDiv,hz],by simp only[AR,DR]⟩
   ·exact pv _ _ he (by simp[binOp])
   ·exact pv _ _ he (by simp[binOp])
   ·exact pv _ _ he (by simp[binOp])
   ·exact pv _ _ he (by simp[binOp])
   ·exact bv _ _ he (by simp[binOp,Op.intCmp])
   ·exact bv _ _ he (by simp[binOp,Op.intCmp])
   ·exact bv _ _ he (by simp[binOp,Op.intCmp])
   ·exact bv _ _ he (by simp[binOp,Op.intCmp])
   ·exact bv _ _ he (by simp[binOp,Op.intCmp])
   ·exact bv _ _ he (by simp[binOp,Op.intCmp])
   ·cases he
 ·rename_i a b
  simp only[AR,DR]at ha hb;subst ha;subst hb;have g:=fun op=>IJ (P:=P) (w:=w) (op:=op) (t:=t) (x:=xo) (y:=yo) (a:=.string ⟨a.toArray⟩) (b:=.string ⟨b.toArray⟩) sm rfl
  have bv:∀(op:BinOp) (c:Bool),some (A.d (.bool c))=some x->binOp op t (.string ⟨a.toArray⟩) (.string ⟨b.toArray⟩)=pure (.bool c)->
    ∃r,(do eqGuard op t xo yo (.string ⟨a.toArray⟩) (.string ⟨b.toArray⟩);binOp op t (.string ⟨a.toArray⟩) (.string ⟨b.toArray⟩):Sem Value).run P w=.ok r w/\AR h ρ w I x r:=by
   intro op c hs hb;cases hs;exact⟨.bool c,by simp only[Sem.run_bind,g,hb];rfl,by simp only[AR,DR]⟩
  split at he
  ·split at he
   ·rename_i hle
    cases he;refine⟨.string (⟨a.toArray⟩++⟨b.toArray⟩),?_,?_⟩
    ·have hsz:¬((((⟨a.toArray⟩:ByteArray).size+(⟨b.toArray⟩:ByteArray).size:Nat):Int)>IntKind.i64.max):=by
      have:(⟨a.toArray⟩:ByteArray).size+(⟨b.toArray⟩:ByteArray).size=a.length+b.length:=by simp[ByteArray.size]
      rw[this];unfold bI at hle;simp only[IntKind.max,IntKind.signed,IntKind.bits,if_true];omega
     have hb:binOp .add t (.string ⟨a.toArray⟩) (.string ⟨b.toArray⟩)=pure (.string (⟨a.toArray⟩++⟨b.toArray⟩)):=by
      simp only[binOp,Op.stringOp,if_neg hsz]
     simp only[Sem.run_bind,g,hb]<;>rfl
    ·simp only[AR,DR]
     congr 1
   ·cases he
  ·exact bv _ _ he (by simp only[binOp,Op.stringOp,tD])
  ·exact bv _ _ he (by simp only[binOp,Op.stringOp,tD])
  ·exact bv _ _ he (by simp only[binOp,Op.stringOp,tD])
  ·exact bv _ _ he (by simp only[binOp,Op.stringOp,tD])
  ·exact bv _ _ he (by simp only[binOp,Op.stringOp,tD])
  ·exact bv _ _ he (by simp only[binOp,Op.stringOp,tD])
  ·cases he
 ·cases he
theorem xR{t:TypeId}{a b:Value}{c:Bool}{op:BinOp}{x:A}(hq:∀w,(Op.equal t a b).run P w=.ok c w)(hb:∀op,op=.eql\/op=.neq->binOp op t a b=(match op with|.eql=>do pure (.bool (<-Op.equal t a b))|_=>do pure (.bool (!(<-Op.equal t a b))):Sem Value))
  (he:eqlA op c=some x):∃r,(binOp op t a b).run P w=.ok r w/\AR h ρ w I x r:=by
 unfold eqlA at he
 split at he
 ·cases he;exact⟨.bool c,by rw[hb _ (.inl rfl)];simp[hq],by simp only[AR,DR]⟩
 ·cases he;exact⟨.bool (!c),by rw[hb _ (.inr rfl)];simp[hq],by simp only[AR,DR]⟩
 ·cases he
theorem aSD{op:BinOp}{t:TypeId}{xo yo:Operand}{a b x:A}{u v:Value}(he:aNil P op t a b=some x)(ha:AR h ρ w I a u)(hb:AR h ρ w I b v):
  ∃r,(do eqGuard op t xo yo u v;binOp op t u v:Sem Value).run P w=.ok r w/\AR h ρ w I x r:=by
 have g:∀(a b:Value),a≠.nilIface->a.oneCell'=true->∀x:A,(∃r,(binOp op t a b).run P w=.ok r w/\AR h ρ w I x r)->∃r,(do eqGuard op t xo yo a b;binOp op t a b:Sem Value).run P w=.ok r w/\AR h ρ w I x r:=
  fun a b h1 h2 x ⟨r,hr,hx⟩=>⟨r,by simp only[Sem.run_bind,IJ (op:=op) (t:=t) (x:=xo) (y:=yo) (b:=b) h1 h2];simpa using hr,hx⟩
 unfold aNil at he
 split at he
 ·rename_i a b hu
  simp only[AR,DR]at ha hb;subst ha;subst hb;refine g _ _ sm rfl x (xR (fun w=> ?_) (fun op ho=> ?_) he)
  ·show(Op.equalIn (9999+1) t _ _).run P w=_;generalize 9999=d;simp only[Op.equalIn,Sem.run_bind,aR hu]<;>rfl
  ·rcases ho with rfl|rfl<;>rfl
 ·rename_i e hu
  simp only[AR,DR]at ha hb;subst ha;subst hb;refine g _ _ sm rfl x (xR (fun w=> ?_) (fun op ho=> ?_) he)
  ·show(Op.equalIn (9999+1) t _ _).run P w=_;generalize 9999=d;simp only[Op.equalIn,Sem.run_bind,aR hu]<;>rfl
  ·rcases ho with rfl|rfl<;>rfl
 ·rename_i e cs hu
  simp only[AR,DR]at ha hb;obtain⟨b,o,rfl,_⟩:=hb;subst ha;refine g _ _ sm rfl x (xR (fun w=> ?_) (fun op ho=> ?_) he)
  ·show(Op.equalIn (9999+1) t _ _).run P w=_;generalize 9999=d;simp only[Op.equalIn,Sem.run_bind,aR hu]<;>rfl
  ·rcases ho with rfl|rfl<;>rfl
 ·rename_i e cs hu
  simp only[AR,DR]at ha hb;obtain⟨b,o,rfl,_⟩:=ha;subst hb;refine g _ _ sm rfl x (xR (fun w=> ?_) (fun op ho=> ?_) he)
  ·show(Op.equalIn (9999+1) t _ _).run P w=_;generalize 9999=d;simp only[Op.equalIn,Sem.run_bind,aR hu]<;>rfl
  ·rcases ho with rfl|rfl<;>rfl
 ·rename_i ms t' y hu
  simp only[AR,DR]at ha hb;obtain⟨u',rfl,_⟩:=ha;subst hb;refine g _ _ sm rfl x (xR (fun w=> ?_) (fun op ho=> ?_) he)
  ·show(Op.equalIn (9999+1) t _ _).run P w=_;generalize 9999=d;simp only[Op.equalIn,Sem.run_bind,aR hu]<;>rfl
  ·rcases ho with rfl|rfl<;>rfl
 ·cases he
def aLW(P:Program)(eqs:List (TypeId×Nat)):Prop:=∀t n,eqs.contains (t,n)=true->∀(asx bs:List Int),asx.length=n->bs.length=n->∀w,
 (Op.equal t (.agg (asx.map (Value.int .i64)).toArray) (.agg (bs.map (Value.int .i64)).toArray)).run P w=.ok (asx==bs) w/\
 ∀op x y,(eqGuard op t x y (.agg (asx.map (Value.int .i64)).toArray) (.agg (bs.map (Value.int .i64)).toArray)).run P w=.ok () w
theorem aEm:∀ {xs:List A} {asx:List Int} {vs:List Value},XP xs=some asx->ARv h ρ w I xs vs->vs=asx.map (Value.int .i64)
 | [],asx,vs,he,hv=>by
  simp only[XP,Option.some.injEq]at he;subst he;simp only[ARv]at hv;subst hv;rfl
 |x::xs,asx,vs,he,hv=>by
  obtain⟨v,rest,rfl,hx,hr⟩:=hv;unfold XP at he
  split at he
  ·grind
  ·rename_i n xs' h0
   cases h0;simp only[Az]at he
   obtain⟨as',has,rfl⟩:=he;rw[hx,aEm has hr];rfl
  ·cases he
theorem aOJ{eqs:List (TypeId×Nat)}(hq:aLW P eqs){op:BinOp}{t:TypeId}{xo yo:Operand}{a b x:A}{u v:Value}(he:aHl eqs op t a b=some x)(ha:AR h ρ w I a u)(hb:AR h ρ w I b v):
  ∃r,(do eqGuard op t xo yo u v;binOp op t u v:Sem Value).run P w=.ok r w/\AR h ρ w I x r:=by
 unfold aHl at he
 split at he
 ·rename_i xs ys
  split at he
  ·rename_i asx bs h1 h2
   split at he
   ·rename_i hc
    obtain⟨C,rfl,hC⟩:=ha;obtain⟨D,rfl,hD⟩:=hb;have e1:=aEm h1 hC;have e2:=aEm h2 hD;have e1':C=(asx.map (Value.int .i64)).toArray:=by grind
    have e2':D=(bs.map (Value.int .i64)).toArray:=by grind
    subst e1';subst e2';have q:=fun w=>hq t asx.length hc.1 asx bs rfl hc.2.symm w;obtain⟨r,hr,hx⟩:=xR (P:=P) (w:=w) (h:=h) (ρ:=ρ) (I:=I) (fun w=>(q w).1) (fun op ho=>by rcases ho with rfl|rfl<;>rfl) he;exact⟨r,by simp only[Sem.run_bind,(q w).2];simpa using hr,hx⟩
   ·cases he
  ·cases he
 ·cases he
theorem aS1{op:UnOp}{a x:A}{v:Value}(he:aUn op a=some x)(ha:AR h ρ w I a v):∃r,(Op.unary op v).run P w=.ok r w/\AR h ρ w I x r:=by
 unfold aUn at he
 split at he
 ·simp only[AR,DR]at ha;subst ha;exact H1 he
 ·simp only[AR,DR]at ha;subst ha;exact H1 he
 ·simp only[AR,DR]at ha;subst ha;cases he;exact⟨_,rfl,by simp only[AR,DR]⟩
 ·cases he
theorem aSr{t ty:TypeId}{a x:A}{v:Value}{ts:Array TypeId}(ht:ts[0]? =some t)(he:aLen P t a=some x)(ha:AR h ρ w I a v):∃r,(Builtin.len_ ts ty #[v]).run P w=.ok r w/\AR h ρ w I x r:=by
 unfold aLen at he
 split at he
 ·rename_i s hu
  simp only[AR,DR]at ha;subst ha;cases he;have e:(⟨s.toArray⟩:ByteArray).size=s.length:=by simp[ByteArray.size]
  exact⟨.int .i64 s.length,by simp[Builtin.len_,ht,aR hu,goInt,e],by simp only[AR,DR]⟩
 ·rename_i n e hu
  cases he;exact⟨.int .i64 n,by simp[Builtin.len_,ht,aR hu,goInt],by simp only[AR,DR]⟩
 ·rename_i e hu
  simp only[AR,DR]at ha;obtain⟨a,rfl⟩:=ha;cases he;exact⟨.int .i64 0,by simp[Builtin.len_,ht,aR hu,goInt],by simp only[AR,DR]⟩
 ·rename_i e n cs hu
  simp only[AR,DR]at ha;obtain⟨a,cap,rfl,_⟩:=ha;cases he;exact⟨.int .i64 n,by simp[Builtin.len_,ht,aR hu,goInt],by simp only[AR,DR]⟩
 ·rename_i e id g o n hu
  simp only[AR]at ha;obtain⟨a,cap,rfl,_⟩:=ha;cases he;exact⟨.int .i64 n,by simp[Builtin.len_,ht,aR hu,goInt],by simp only[AR,DR]⟩
 ·cases he
end
end Ev
end Go.Proofs.YtahbdkmimmnadaaGreatDoor
namespace Go.Proofs.YtahbdkmimmnadaaGreatDoor
namespace Ev
variable{G:Gnd}
section
variable{P:Program}{h:H}{ρ:Rho}{w:World}{I:Nat->Prop}
theorem XI:∀(cells:List A) {h:H} {ρ:Rho} {vs:List Value},Rel G h ρ w I->ARv h ρ w I cells vs->
  ∃ρ',Step G h ρ w I (aY h cells).2 ρ' w I/\ARv (aY h cells).2 ρ' w I (aY h cells).1 vs/\∀id,id<h.length->(aY h cells).2[id]? =h[id]?/\ρ' id=ρ id
 | [],h,ρ,vs,r,ha=>⟨ρ,by simp only[aY];exact .refl r,by simpa only[aY]using ha,fun id _=>by simp only[aY];exact⟨trivial,trivial⟩⟩
 |c::cs,h,ρ,vs,r,ha=>by
  obtain⟨v,rest,rfl,hc,hr⟩:=ha
  by_cases hn:c=.d .nils
  ·subst hn;have s1:=fU r (Grew.refl w) (.arr [] 0 0) none sm (fun _=>by simp[OR,bA]);obtain⟨ρ',s2,h2,h3⟩:=XI cs s1.rel (fW s1.ext cs rest hr);simp only[aY];refine⟨ρ',s1.trans s2,?_,fun id hid=> ?_⟩
   ·simp only[ARv];refine⟨v,rest,rfl,?_,h2⟩;refine iY s2.ext _ v ?_;obtain⟨a,rfl⟩:=hc;refine⟨a,0,rfl,?_⟩;have e:(h++[O.arr [] 0 0])[h.length]? =some (.arr [] 0 0):=sm;simp only[slOK,e,bA];simp
   ·have:=h3 id (by simp;omega);rw[this.1,this.2,Be hid,dL ρ none om];exact⟨rfl,rfl⟩
  ·have e1:aY h (c::cs)=(c::(aY h cs).1,(aY h cs).2):=by
    rw[aY.eq_def]
    split
    ·grind
    ·grind
    ·grind
   obtain⟨ρ',s2,h2,h3⟩:=XI cs r hr;rw[e1];exact⟨ρ',s2,by simp only[ARv];exact⟨v,rest,rfl,iY s2.ext c v hc,h2⟩,h3⟩
theorem tC{α:Type}(cs:List α)(off:Nat)(new:List α)(hl:off+new.length<=cs.length)(k:Nat):(bD cs off new)[k]? =if off<=k/\k<off+new.length then new[k-off]? else cs[k]?:=by
 unfold bD
 by_cases h1:k<off
 ·grind
 ·grind
theorem EF{α:Type}(cs:List α)(off:Nat)(new:List α)(hl:off+new.length<=cs.length):(bD cs off new).length=cs.length:=by
 unfold bD;simp;omega
theorem MN{t:TypeId}{b o:Nat}{v:Value}{C:Array Value}{E:TypeId}{fz:Nat×Nat}{i:TypeInfo}(hi:P.info? t=some i)(hs:v.cells.toList.length=P.cellsOf t)(hb:w.heap[b]? =some (.cells C E fz))(hfz:wM C fz)
  (hl:o+v.cells.toList.length<=C.size) (hone:∀u∈v.cells.toList,u.oneCell'=true):
  ∃C':Array Value,(Instr.storeAt t (.pointer (some ⟨b,o,none⟩)) v).run P w=.ok () (cZ w b (.cells C' E fz))/\C'.size=C.size/\
   ∀k:Nat,C'[k]? =if o<=k/\k<o+v.cells.toList.length then v.cells.toList[k-o]? else C[k]?:=by
 obtain⟨C',h1,h2,h3⟩:=yO (P:=P) (o:=o) v.cells.toList 0 C w hb hfz om hone;refine⟨C',?_,h2,fun k=>by simpa using h3 k⟩;have hs':v.cells.size=P.cellsOf t:=by grind
 simp[Instr.storeAt,Instr.sureAddr,storeVar,cT hi,hs',h1]
theorem nM{b:Nat}{o:Obj}:(cZ w b o).os=w.os/\(cZ w b o).tape=w.tape/\(cZ w b o).output=w.output/\(cZ w b o).heap.size=w.heap.size:=by
 simp[cZ]
theorem s9{b:Nat}{C':Array Value}{E:TypeId}{fz:Nat×Nat}(hb:b<w.heap.size)(k:Nat):cellAt (cZ w b (.cells C' E fz)) b k=C'[k]?:=by
 simp[cellAt,eN hb]
theorem dZ{b:Nat}{C:Array Value}{E:TypeId}{fz:Nat×Nat}(hb:w.heap[b]? =some (.cells C E fz))(k:Nat):cellAt w b k=C[k]?:=by
 simp[cellAt,hb]
theorem aPt{t:TypeId}{a x:A}{u v:Value}{h':H}(he:iW P h t a x=some h')(r:Rel G h ρ w I)(ha:AR h ρ w I a u)(hx:AR h ρ w I x v):
  ∃ρ' w' I',(Instr.storeAt t u v).run P w=.ok () w'/\Step G h ρ w I h' ρ' w' I':=by
 unfold iW at he
 split at he
 ·rename_i hc
  obtain⟨hlen,hinfo,hok⟩:=hc;obtain⟨i,hi⟩:=Eh.1 hinfo;obtain⟨hcv,hone⟩:=aAm hx hok;have hvl:v.cells.toList.length=P.cellsOf t:=by rw[<-hlen];exact(gL hcv).symm
  split at he
  ·rename_i id gen off
   simp only[AR]at ha;obtain⟨b,rfl,hp⟩:=ha
   cases hid:h[id]? with
   |none=>rw[hid]at he;cases he
   |some ob=>
    rw[hid]at he;have hlt:id<h.length:=(At.1 hid).1
    cases ob with
    |ice cs esz g=>cases he
    |mp es=>cases he
    |log cs=>cases he
    |void=>cases he
    |box cs=>
     simp only[]at he
     split at he
     ·rename_i hle
      cases he;simp only[ptOK,hid]at hp
      obtain⟨ρ1,s1,hcv1,hkeep⟩:=XI (aU x) r hcv;obtain⟨hid1,hρ1⟩:=hkeep id hlt;rw[hid]at hid1;rw[hp.2]at hρ1;have hO:=s1.rel.obj id _ hid1;simp only[OR]at hO;obtain⟨b',hb',hIb,C,E,fz,hC,hfz,hcs⟩:=hO;rw[hρ1]at hb';cases hb';have hblt:=(Bn.1 hC).1
      have hcsz:cs.length<=C.size:=by
       rcases De cs.length with h0|h0
       ·omega
       ·obtain⟨v0,hv0,_⟩:=hcs (cs.length-1) cs[cs.length-1] sm;rw[dZ hC]at hv0;have:=(Bn.1 hv0).1;omega
      obtain⟨C',h1,h2,h3⟩:=MN (P:=P) (o:=off) hi hvl hC hfz om hone;have hl1:(aY h (aU x)).1.length=P.cellsOf t:=by rw[gL hcv1,hvl]
      obtain⟨f1,f2,f3,f4⟩:=nM (w:=w) (b:=b) (o:=.cells C' E fz)
      have s2:=d8 (o':=.box (bD cs off (aY h (aU x)).1)) (w':=cZ w b (.cells C' E fz)) (I':=I) s1.rel hid1 trivial (ρ1 id) f1 f2 f3 (by rw[f4];exact Ad _)
       (fun k _ hne=>nL (fun e=>hne (by rw[hρ1,e]))) (fun _ hb=>hb) (fun _ hb=>.inl hb) (fun _ hb=>.inl hb)
       (fun _ gen off len a cap hs=>by simp only[slOK,hid1]at hs)
       (fun _ gen b2 hs=>by
        simp only[ptOK,hid1]at hs
        have e:((aY h (aU x)).2.set id (.box (bD cs off (aY h (aU x)).1)))[id]? =some (.box (bD cs off (aY h (aU x)).1)):=by
         have:=(At.1 hid1).1;simp[this]
        simp only[ptOK,e,cO];exact hs)
       (fun ext=>by
        simp only[OR,cO];refine⟨b,hρ1,hIb,C',E,fz,eN hblt,fun j hj=>hfz j om,fun k c hk=> ?_⟩;rw[cO]at ext;rw[tC _ _ _ om]at hk;rw[s9 hblt,h3 k]
        by_cases hin:off<=k/\k<off+P.cellsOf t
        ·rw[if_pos om]at hk;rw[if_pos om];obtain⟨u,hu,hau⟩:=((eP _ _).1 hcv1).2 (k-off) c hk;exact⟨u,hu,iY ext c u hau,hone u (Bo hu)⟩
        ·rw[if_neg om]at hk;rw[if_neg om];obtain⟨u,hu,hau,ho⟩:=hcs k c hk;rw[dZ hC]at hu;exact⟨u,hu,iY ext c u hau,ho⟩)
      rw[cO]at s2;exact⟨ρ1,_,I,h1,s1.trans s2⟩
     ·cases he
    |vec cs esz g=>
     simp only[]at he
     split at he
     ·rename_i hle
      cases he;obtain⟨hg,hle⟩:=hle
      subst hg;simp only[ptOK,hid]at hp;have hρ:=hp.2 trivial;have hO:=r.obj id _ hid;simp only[OR,hρ]at hO;obtain⟨hez,hIb,C,E,fz,hC,hfz,hcs⟩:=hO;have hblt:=(Bn.1 hC).1
      have hcsz:cs.length<=C.size:=by
       rcases De cs.length with h0|h0
       ·omega
       ·obtain⟨v0,hv0,_⟩:=hcs (cs.length-1) cs[cs.length-1] sm;rw[dZ hC]at hv0;have:=(Bn.1 hv0).1;omega
      obtain⟨C',h2,h3,h4⟩:=MN (P:=P) (o:=off) hi hvl hC hfz.1 om hone;obtain⟨f1,f2,f3,f4⟩:=nM (w:=w) (b:=b) (o:=.cells C' E fz);have hset:(h.set id (.vec (bD cs off (aU x)) esz g))[id]? =some (.vec (bD cs off (aU x)) esz g):=by simp[hlt]
      have hsl:=EF cs off (aU x) om
      have s2:=d8 (o':=.vec (bD cs off (aU x)) esz g) (w':=cZ w b (.cells C' E fz)) (I':=I) r hid trivial (ρ id) f1 f2 f3 (by rw[f4];exact Ad _)
       (fun k _ hne=>nL (fun e=>hne (by rw[hρ,e]))) (fun _ hb=>hb) (fun _ hb=>.inl hb) (fun _ hb=>.inl hb)
       (fun _ gen off len a cap hs=>by
        simp only[slOK,hid]at hs;simp only[slOK,hset,cO];refine⟨hs.1,fun hg=>⟨(hs.2 hg).1,?_⟩⟩;have h5:=(hs.2 hg).2;rw[hρ]at h5|-
        rcases h5 with h5|⟨h5,h6,C2,E2,fz2,h7,h8⟩
        ·exact .inl h5
        ·refine .inr ⟨h5,by rw[hsl];exact h6,C',E,fz,eN hblt,?_⟩;rw[hC]at h7;cases h7;rw[h3];exact h8)
       (fun _ gen b2 hs=>by
        simp only[ptOK,hid]at hs;simp only[ptOK,hset,cO];exact hs)
       (fun ext=>by
        simp only[OR,hρ,bA];rw[hρ]at ext;refine⟨hez,hIb,C',E,fz,eN hblt,hfz.keep om,fun k c hk=> ?_⟩;rw[tC _ _ _ om]at hk;rw[s9 hblt,h4 k]
        by_cases hin:off<=k/\k<off+P.cellsOf t
        ·rw[if_pos om]at hk;rw[if_pos om];obtain⟨u,hu,hau⟩:=((eP _ _).1 hcv).2 (k-off) c hk;exact⟨u,hu,iY ext c u hau,hone u (Bo hu)⟩
        ·rw[if_neg om]at hk;rw[if_neg om];obtain⟨u,hu,hau,ho⟩:=hcs k c hk;rw[dZ hC]at hu;exact⟨u,hu,iY ext c u hau,ho⟩)
      rw[cO]at s2;exact⟨ρ,_,I,h2,s2⟩
     ·cases he
    |arr cs0 esz0 g0=>
     simp only[]at he
     split at he
     ·rename_i ds h1 hfr
      split at he
      ·rename_i cs esz g hid1
       split at he
       ·rename_i hle
        cases he;obtain⟨hg,hle⟩:=hle
        subst hg;obtain⟨I1,s1,hds⟩:=aDz hfr r hcv;have hp1:=s1.ext.pt _ _ _ hp;simp only[ptOK,hid1]at hp1;have hρ:=hp1.2 trivial;have hO:=s1.rel.obj id _ hid1;simp only[OR,hρ]at hO;obtain⟨hez,hIb,C,E,fz,hC,hfz,hcs⟩:=hO;have hblt:=(Bn.1 hC).1
        have hcsz:cs.length<=C.size:=by
         rcases De cs.length with h0|h0
         ·omega
         ·obtain⟨v0,hv0,_⟩:=(fX _ _ _).1 hcs (cs.length-1) cs[cs.length-1] sm;rw[dZ hC]at hv0;have:=(Bn.1 hv0).1;omega
        obtain⟨C',h2,h3,h4⟩:=MN (P:=P) (o:=off) hi hvl hC hfz.1 om hone;have hl1:ds.length=P.cellsOf t:=by rw[((iD _ _).1 hds).1,hvl]
        obtain⟨f1,f2,f3,f4⟩:=nM (w:=w) (b:=b) (o:=.cells C' E fz);have hlt1:=(At.1 hid1).1;have hset:(h1.set id (.arr (bD cs off ds) esz g))[id]? =some (.arr (bD cs off ds) esz g):=by simp[hlt1]
        have hsl:=EF cs off ds om
        have s2:=d8 (o':=.arr (bD cs off ds) esz g) (w':=cZ w b (.cells C' E fz)) (I':=I1) s1.rel hid1 trivial (ρ id) f1 f2 f3 (by rw[f4];exact Ad _)
         (fun k _ hne=>nL (fun e=>hne (by rw[hρ,e]))) (fun _ hb=>hb) (fun _ hb=>.inl hb) (fun _ hb=>.inl hb)
         (fun _ gen off len a cap hs=>by
          simp only[slOK,hid1]at hs;simp only[slOK,hset,cO];refine⟨hs.1,fun hg=>⟨(hs.2 hg).1,?_⟩⟩;have h5:=(hs.2 hg).2;rw[hρ]at h5|-
          rcases h5 with h5|⟨h5,h6,C2,E2,fz2,h7,h8⟩
          ·exact .inl h5
          ·refine .inr ⟨h5,by rw[hsl];exact h6,C',E,fz,eN hblt,?_⟩;rw[hC]at h7;cases h7;rw[h3];exact h8)
         (fun _ gen b2 hs=>by
          simp only[ptOK,hid1]at hs;simp only[ptOK,hset,cO];exact hs)
         (fun ext=>by
          simp only[OR,hρ,bA];refine⟨hez,hIb,C',E,fz,eN hblt,hfz.keep om,?_⟩;rw[fX];intro k c hk;rw[tC _ _ _ om]at hk;rw[s9 hblt,Ag,h4 k]
          by_cases hin:off<=k/\k<off+P.cellsOf t
          ·rw[if_pos om]at hk;rw[if_pos om];obtain⟨u,hu,hau⟩:=((iD _ _).1 hds).2 (k-off) c hk;exact⟨u,hu,nR ext.imm c u hau,hone u (Bo hu)⟩
          ·rw[if_neg om]at hk;rw[if_neg om];obtain⟨u,hu,hau,ho⟩:=(fX _ _ _).1 hcs k c hk;rw[dZ hC,Ag]at hu;exact⟨u,hu,nR ext.imm c u hau,ho⟩)
        rw[cO]at s2;exact⟨ρ,_,I1,h2,s1.trans s2⟩
       ·cases he
      ·cases he
     ·cases he
  ·cases he
 ·cases he
theorem aGj(C:Array Value):wM C (0,0):=fun j _ h=>by omega
theorem aJ3{C:Array Value}{E:TypeId}{fz:Nat×Nat}(k:Nat):cellAt { w with heap:=w.heap.push (.cells C E fz)} w.heap.size k=C[k]?:=by
 simp[cellAt]
theorem aOp{t:TypeId}{a x:A}{v:Value}{h':H}(he:aNew h x=some (a,h'))(r:Rel G h ρ w I)(hx:AR h ρ w I x v):
  ∃ρ' w',(newVar t v).run P w=.ok ⟨w.heap.size,0,none⟩ w'/\Step G h ρ w I h' ρ' w' I/\AR h' ρ' w' I a (.pointer (some ⟨w.heap.size,0,none⟩)):=by
 unfold aNew at he
 split at he
 ·rename_i hok
  cases he;obtain⟨hcv,hone⟩:=aAm hx hok
  obtain⟨ρ1,s1,hcv1,hkeep⟩:=XI (aU x) r hcv;have g:Grew G.keeps _ _:=Grew.push w (.cells v.cells t (0,0))
  have s2:=fU s1.rel g (.box (aY h (aU x)).1) (some w.heap.size) (fun b hb=>by cases hb;exact Ad _) (fun ext=>by
   simp only[OR,bA];refine⟨_,rfl,fun hI=> ?_,v.cells,t,(0,0),by simp,aGj _,fun k c hk=> ?_⟩
   ·have:=r.imm _ hI;omega
   ·obtain⟨u,hu,hau⟩:=((eP _ _).1 hcv1).2 k c hk;exact⟨u,by rw[aJ3];simpa using hu,iY ext c u hau,hone u (Bo hu)⟩)
  refine⟨_,_,rfl,s1.trans s2,?_⟩;refine⟨_,rfl,?_⟩;have e:((aY h (aU x)).2++[O.box (aY h (aU x)).1])[(aY h (aU x)).2.length]? =some (.box (aY h (aU x)).1):=sm;simp only[ptOK,e,bA];exact⟨trivial,trivial⟩
 ·cases he
end
end Ev
end Go.Proofs.YtahbdkmimmnadaaGreatDoor
namespace Go.Proofs.YtahbdkmimmnadaaGreatDoor
namespace Ev
variable{G:Gnd}
section
variable{P:Program}{h:H}{ρ:Rho}{w:World}{I:Nat->Prop}
theorem J0{a:A}{v:Value}(ha:AR h ρ w I a v)(hn:xI a=true):ARv h ρ w I (aU a) v.cells.toList:=by
 have single:(∀C,v≠.agg C)->aU a=[a]->ARv h ρ w I (aU a) v.cells.toList:=by
  intro hk hc;have e:v.cells= #[v]:=by cases v<;>first|rfl|exact absurd rfl (hk _)
  rw[hc,e];exact⟨v,[],rfl,ha,rfl⟩
 cases a with
 |agg cs=>
  obtain⟨C,rfl,hc⟩:=ha;exact hc
 |d x=>
  refine single (fun C hC=> ?_) rfl;subst hC;simp only[AR]at ha
  cases x<;>simp only[DR]at ha
  all_goals first
   |(cases ha;done)
   |(obtain⟨_,_,ha,_⟩:=ha;cases ha;done)
   |(obtain⟨_,ha,_⟩:=ha;cases ha;done)
   |(obtain⟨_,ha⟩:=ha;cases ha;done)
 |sl id gen off len=>exact single (fun C hC=>by subst hC;simp only[AR]at ha;obtain⟨_,_,ha,_⟩:=ha;cases ha) rfl
 |ptr id gen off=>exact single (fun C hC=>by subst hC;simp only[AR]at ha;obtain⟨_,ha,_⟩:=ha;cases ha) rfl
 |mp id=>exact single (fun C hC=>by subst hC;simp only[AR]at ha;obtain⟨_,ha,_⟩:=ha;cases ha) rfl
 |clo f caps=>exact single (fun C hC=>by subst hC;simp only[AR]at ha;obtain⟨_,ha,_⟩:=ha;cases ha) rfl
 |tup cs=>exact single (fun C hC=>by subst hC;simp only[AR]at ha;obtain⟨_,ha,_⟩:=ha;cases ha) rfl
 |junk=>simp[xI]at hn
theorem aFO(off:Nat):∀(l:List Value) (k:Nat) (C:Array Value),off+k+l.length<=C.size->
  ((l.zipIdx k).foldl (fun(cs:Array Value) (p:Value×Nat)=>cs.setIfInBounds (off+p.2) p.1) C).toList=bD C.toList (off+k) l
 | [],k,C,_=>by simp[bD]
 |v::l,k,C,hl=>by
  simp only[Ac]at hl;simp only[List.zipIdx_cons,Co];rw[aFO off l (k+1) _ (by simp;omega)];apply Cj;intro j;rw[tC _ _ _ (by simp;omega),tC _ _ _ (by simp;omega)];simp only[Array.toList_setIfInBounds,Ac]
  by_cases e:j=off+k
  ·grind
  ·grind
def P3(h:H)(ρ:Rho)(w:World)(I:Nat->Prop)(aH:Nat->Option (Nat×Nat)):List (Option (Nat×Nat)×A)->List (Nat×Value)->Prop
 | [],qs=>qs=[]
 |(p,a)::ps,qs=>∃i v rest,qs=(i,v)::rest/\aH i=p/\AR h ρ w I a v/\P3 h ρ w I aH ps rest
theorem OF{aH:Nat->Option (Nat×Nat)}:∀(ps:List (Option (Nat×Nat)×A)) (qs:List (Nat×Value)) (cells cells':List A) (C:Array Value),gD cells ps=some cells'->P3 h ρ w I aH ps qs->ARv h ρ w I cells C.toList->
  ∃C',Instr.fill aH C qs=some C'/\ARv h ρ w I cells' C'.toList
 | [],qs,cells,cells',C,he,hp,hc=>by
  simp only[gD,Option.some.injEq]at he;subst he;subst hp;exact⟨C,by simp[Instr.fill],hc⟩
 |(none,a)::ps,qs,cells,cells',C,he,hp,hc=>by simp[gD]at he
 |(some (off,size),a)::ps,qs,cells,cells',C,he,hp,hc=>by
  obtain⟨i,v,rest,rfl,hpl,ha,hr⟩:=hp;simp only[gD]at he
  split at he
  ·rename_i hcond
   obtain⟨hs,hle,hj⟩:=hcond;have hcv:=J0 ha hj;have hvl:v.cells.toList.length=size:=by rw[<-gL hcv,hs]
   have hCl:C.toList.length=cells.length:=(gL hc).symm;have hvs:v.cells.size=size:=by grind
   have hCs:C.size=cells.length:=by grind
   have hf:=aFO off v.cells.toList 0 C om
   obtain⟨C',h1,h2⟩:=OF ps rest _ cells' ((v.cells.toList.zipIdx 0).foldl (fun(cs:Array Value) (p:Value×Nat)=>cs.setIfInBounds (off+p.2) p.1) C) he hr (by
    rw[hf];unfold bD;rw[hvl,<-hs];exact sU (sU (aII off hc) hcv) (aJc (off+(aU a).length) hc))
   refine⟨C',?_,h2⟩;simp only[Instr.fill,hpl];have hcond:(v.cells.size≠size||decide (off+v.cells.size>C.size))=false:=by grind
   simp only[hcond,Ap,if_false];rw[<-h1];rw[<-Array.foldl_toList,Array.toList_zipIdx]
  ·cases he
theorem aA8:∀(ps:List (Option (Nat×Nat)×A)) (cells cells':List A),gD cells ps=some cells'->cells'.length=cells.length
 | [],cells,cells',he=>by simp only[gD,Option.some.injEq]at he;rw[he]
 |(none,_)::_,_,_,he=>by simp[gD]at he
 |(some (off,size),v)::ps,cells,cells',he=>by
  simp only[gD]at he
  split at he
  ·rename_i hc
   rw[aA8 ps _ _ he,EF _ _ _ om]
  ·cases he
theorem run_places'(w:World):∀(fs:List Field),(fs.all fun f=>(P.info? f.type).isSome)=true->(fs.mapM fun f=>Prod.mk f.offset<$>sizeOf f.type).run P w=.ok (fs.map fun f=>(f.offset,P.cellsOf f.type)) w
 | [],_=>by simp
 |f::fs,ha=>by
  simp only[Bp,Aj]at ha;obtain⟨i,hi⟩:=Eh.1 ha.1;have:=run_places' w fs ha.2;simp[List.mapM_cons,cT hi,this]
theorem M3{t:TypeId}{z:A}(he:cX P t=some z):∃i v,P.info? t=some i/\i.zero=some v/\(∀w,(zeroValue t).run P w=.ok v w)/\∀h ρ w I,AR h ρ w I z v:=by
 unfold cX at he
 split at he
 ·rename_i i hi
  simp only[Eg]at he;obtain⟨v,hv,hz⟩:=he;exact⟨i,v,hi,hv,fun w=>by simp[zeroValue,vZ hi,hv],fun h ρ w I=>aFD hz h ρ w I⟩
 ·cases he
theorem aEd{v:Value}{z:A}(he:OK v=some z):xI z=true:=by
 unfold OK at he
 split at he
 ·simp only[Az]at he;obtain⟨_,_,rfl⟩:=he;rfl
 ·unfold fY at he
  split at he<;>first|(cases he;rfl)|cases he
theorem HX{t:TypeId}{z:A}(he:cX P t=some z):xI z=true:=by
 unfold cX at he
 split at he
 ·simp only[Eg]at he;obtain⟨v,_,hz⟩:=he;exact aEd hz
 ·cases he
theorem DB{aH:Nat->Option (Nat×Nat)}:∀(is:List Nat) (asx:List A) (vs:List Value),is.length=asx.length->ARv h ρ w I asx vs->P3 h ρ w I aH ((is.zip asx).map fun(i,v)=>(aH i,v)) (is.zip vs)
 | [],asx,vs,_,_=>by simp[P3]
 |i::is,[],vs,hl,_=>by simp at hl
 |i::is,a::asx,vs,hl,ha=>by
  obtain⟨v,rest,rfl,h1,h2⟩:=ha;exact⟨i,v,_,rfl,rfl,h1,DB is asx rest (by simpa using hl) h2⟩
theorem LY(parts:List (Nat×Operand))(ev:Operand->Value):(parts.map (·.1)).zip ((parts.map (·.2)).map ev)=parts.map fun x=>(x.1,ev x.2):=by grind
theorem aOS{t:TypeId}{parts:Array (Nat×Operand)}{ev:Operand->Value}{asx:List A}{x:A}(he:nS P t ((parts.toList.map (·.1)).zip asx)=some x)(ha:ARv h ρ w I asx ((parts.toList.map (·.2)).map ev)):
  ∃u,(Instr.build t (parts.map fun(i,x)=>(i,ev x))).run P w=.ok u w/\AR h ρ w I x u:=by
 have hl:(parts.toList.map (·.1)).length=asx.length:=by rw[gL ha];simp
 unfold nS at he
 split at he
 ·rename_i z fields hz hu
  split at he
  ·rename_i hall
   simp only[Az]at he;obtain⟨cells,hf,rfl⟩:=he;obtain⟨i,zv,hi,hzv,hrun,hzr⟩:=M3 hz;have hzc:=J0 (hzr h ρ w I) (HX hz);have hp:=DB (h:=h) (ρ:=ρ) (w:=w) (I:=I) (aH:=fun i=>(fields.toList[i]?).map fun f=>(f.offset,P.cellsOf f.type)) _ asx _ hl ha;obtain⟨C',h1,h2⟩:=OF _ _ _ _ _ hf hp hzc;rw[LY]at h1;refine⟨.agg C',?_,by simp only[AR];exact⟨C',rfl,h2⟩⟩;have hpl:=run_places' (P:=P) w fields.toList hall
   have e:(fun(i:Nat)=>(fields.toList[i]?).map fun(f:Field)=>(f.offset,P.cellsOf f.type))=fun(i:Nat)=>(fields[i]?).map fun(f:Field)=>(f.offset,P.cellsOf f.type):=by
    funext i;simp
   rw[e]at h1;simp[Instr.build,aR hu,hrun,Array.mapM_eq_mapM_toList,hpl,h1]
  ·cases he
 ·rename_i z n e hz hu
  split at he
  ·rename_i hinfo
   obtain⟨j,hj⟩:=Eh.1 hinfo;simp only[Az]at he;obtain⟨cells,hf,rfl⟩:=he;obtain⟨i,zv,hi,hzv,hrun,hzr⟩:=M3 hz;have hzc:=J0 (hzr h ρ w I) (HX hz);have hp:=DB (h:=h) (ρ:=ρ) (w:=w) (I:=I) (aH:=fun i=>some (i*P.cellsOf e,P.cellsOf e)) _ asx _ hl ha;obtain⟨C',h1,h2⟩:=OF _ _ _ _ _ hf hp hzc;rw[LY]at h1;refine⟨.agg C',?_,by simp only[AR];exact⟨C',rfl,h2⟩⟩;simp[Instr.build,aR hu,hrun,cT hj,h1]
  ·cases he
 ·cases he
theorem sZ(zs:List Value):∀n,(List.range (n*zs.length)).map (fun i=>zs.toArray[i % zs.toArray.size]!)=(List.replicate n zs).flatten
 |0=>by simp
 |n+1=>by
  rw[Bw,Nat.one_mul,List.range_add,Dp,sZ zs n,List.replicate_succ',List.flatten_append]
  congr 1
  apply Cj;intro k
  rcases Cr k zs.length with hk|hk
  ·have:(n*zs.length+k) % zs.length=k:=by rw[Nat.mul_comm,Nat.mul_add_mod];exact Nat.mod_eq_of_lt hk
   simp[hk,this]
  ·simp[hk]
theorem aAP{zs:List A}{vs:List Value}(hz:ARv h ρ w I zs vs):∀n,ARv h ρ w I (List.replicate n zs).flatten (List.replicate n vs).flatten
 |0=>by simp[ARv]
 |n+1=>by
  exact sU hz (aAP hz n)
theorem GI{e:TypeId}(he:d5 P e=true):∃i z zv,P.info? e=some i/\cX P e=some z/\i.zero=some zv/\(∀w,(zeroValue e).run P w=.ok zv w)/\(∀h ρ w I,ARv h ρ w I (aU z) zv.cells.toList)/\
  zv.cells.size=P.cellsOf e/\(aU z).length=P.cellsOf e/\(aU z).all dE=true/\0<P.cellsOf e/\0<P.bytesOf e/\P.bytesOf e<=1024/\∀u∈zv.cells.toList,u.oneCell'=true:=by
 unfold d5 at he
 split at he
 ·rename_i z hz
  simp only[Aj,decide_eq_true_eq,beq_iff_eq]at he;obtain⟨⟨⟨⟨h1,h2⟩,h3⟩,h4⟩,h5⟩:=he;obtain⟨i,zv,hi,hzv,hrun,hzr⟩:=M3 hz;have hc:=fun h ρ w I=>J0 (hzr h ρ w I) (HX hz);refine⟨i,z,zv,hi,hz,hzv,hrun,hc,?_,h1,h2,h3,h4,h5,(aAm (hzr [] (fun _=>none) default (fun _=>False)) h2).2⟩;have:=gL (hc [] (fun _=>none) default (fun _=>False));rw[h1]at this
  simpa using this.symm
 ·cases he
theorem pM{t e:TypeId}(h:cN P t=some e):P.underlying t=some (.slice e):=by
 unfold cN at h
 split at h
 ·grind
 ·cases h
theorem AY{w':World}{ds:List D}{vs:List Value}{b:Nat}{C:Array Value}{E:TypeId}{fz:Nat×Nat}{l:List Value}(hb:w'.heap[b]? =some (.cells C E fz))(hC:C.toList=vs++l)(hd:DRv w' I ds vs)(hone:∀u∈vs,u.oneCell'=true):DRs w' I ds b 0:=by
 refine zC hd (fun k v hk=> ?_);refine⟨?_,hone v (Bo hk)⟩;rw[Ag,dZ hb];have hlt:=(At.1 hk).1;have:C.toList[k]? =some v:=by grind
 simpa using this
theorem R4{t:TypeId}{len:Nat}{parts:Array (Nat×Operand)}{ev:Operand->Value}{asx:List A}{x:A}{h':H}(he:kP P h t len ((parts.toList.map (·.1)).zip asx)=some (x,h'))(r:Rel G h ρ w I)(ha:ARv h ρ w I asx ((parts.toList.map (·.2)).map ev)):
  ∃u ρ' w' I',(Instr.buildSlice t len (parts.map fun(i,x)=>(i,ev x))).run P w=.ok u w'/\Step G h ρ w I h' ρ' w' I'/\AR h' ρ' w' I' x u:=by
 have hl:(parts.toList.map (·.1)).length=asx.length:=by rw[gL ha];simp
 unfold kP at he
 split at he
 ·rename_i e hel
  have hu:=pM hel
  split at he
  ·rename_i z hz
   split at he
   ·rename_i hc
    obtain⟨i,z',zv,hi,hz',hzv,hrun,hzr,hsz,hzl,hok,hpos,_,_,hone⟩:=GI hc.1;rw[hz]at hz';cases hz'
    split at he
    ·rename_i cells hf
     split at he
     ·rename_i hokc
      split at he
      ·rename_i ds h1 hfr
       cases he;have hzc:=aAP (hzr h ρ w I) len
       have hp:=DB (h:=h) (ρ:=ρ) (w:=w) (I:=I) (aH:=fun i=>some (i*P.cellsOf e,P.cellsOf e)) _ asx _ hl ha
       have hzero:((Array.range (len*P.cellsOf e)).map fun i=>zv.cells[i % zv.cells.size]!).toList=(List.replicate len zv.cells.toList).flatten:=by
        rw[Array.toList_map,Array.toList_range,<-sZ];simp[hsz]
       obtain⟨C',h2,h3⟩:=OF _ _ _ _ ((Array.range (len*P.cellsOf e)).map fun i=>zv.cells[i % zv.cells.size]!) hf hp (by rw[hzero];exact hzc);rw[LY]at h2
       have hones:∀u∈C'.toList,u.oneCell'=true:=by
        intro u hu;obtain⟨k,hk⟩:=List.mem_iff_getElem?.1 hu;have hlk:k<cells.length:=by rw[gL h3];exact(At.1 hk).1
        obtain⟨u',hu',hau⟩:=((eP _ _).1 h3).2 k cells[k] sm;rw[hk]at hu';cases hu';exact aCd hau (Bh.1 hokc _ sm)
       obtain⟨I1,s1,d1⟩:=aDz hfr r h3;have g:Grew G.keeps _ _:=Grew.push w (.cells C' e (0,0));have hnew:({ w with heap:=w.heap.push (.cells C' e (0,0))}:World).heap[w.heap.size]? =some (.cells C' e (0,0)):=sm
       have s2:=fU s1.rel g (.arr ds (P.cellsOf e) 0) (some w.heap.size) (fun b hb=>by cases hb;exact Ad _) (fun ext=>by
        simp only[OR,bA];exact⟨hpos,fun hI=>by have:=s1.rel.imm _ hI;omega,C',e,(0,0),hnew,l9 _ _,AY (l:=[]) hnew sm (oX ext.imm _ _ d1) hones⟩)
       refine⟨.slice (some ⟨w.heap.size,0,none⟩) len len,_,_,I1,?_,s1.trans s2,?_⟩
       ·by_cases h0:len=0
        ·subst h0;have h2':Instr.fill (fun i=>some (i*P.cellsOf e,P.cellsOf e)) #[] (parts.toList.map fun x=>(x.1,ev x.2))=some C':=by simpa [show Array.range 0= #[]from rfl]using h2
         simp[Instr.buildSlice,aR hu,cT hi,show Array.range 0= #[]from rfl,h2',newRow,newObj,Sem.run]
        ·have hne:¬(len*P.cellsOf e=0):=by have:=Nat.mul_pos (show 0<len by omega) hpos;omega
         have hle:¬(2^24<len*P.cellsOf e):=by have:=hc.2;omega
         simp[Instr.buildSlice,aR hu,cT hi,hrun,hle,hne,h2,newRow,newObj,Sem.run]
       ·simp only[AR];refine⟨_,_,rfl,?_⟩;have e1:(h1++[O.arr ds (P.cellsOf e) 0])[h1.length]? =some (.arr ds (P.cellsOf e) 0):=sm
        have hcl:C'.size=len*P.cellsOf e:=by
         have a1:=gL h3;have a2:cells.length=(List.replicate len (aU z)).flatten.length:=aA8 _ _ _ hf;have a3:C'.toList.length=C'.size:=sm;rw[<-a3,<-a1,a2];simp[hzl]
        have hdl:ds.length=len*P.cellsOf e:=by rw[((iD _ _).1 d1).1];simpa using hcl
        simp only[slOK,e1,bA];exact⟨Ad _,fun _=>⟨Ad _,.inr ⟨trivial,by omega,C',e,(0,0),hnew,by omega⟩⟩⟩
      ·cases he
     ·cases he
    ·cases he
   ·cases he
  ·cases he
 ·cases he
end
end Ev
end Go.Proofs.YtahbdkmimmnadaaGreatDoor
namespace Go.Proofs.YtahbdkmimmnadaaGreatDoor
namespace Ev
variable{G:Gnd}
section
variable{P:Program}{h:H}{ρ:Rho}{w:World}{I:Nat->Prop}
theorem VO:∀ {cs:List A} {ds:List D} {vs:List Value},vF cs=some ds->ARv h ρ w I cs vs->DRv w I ds vs
 | [],ds,vs,he,ha=>by
  simp only[vF,Option.some.injEq]at he;subst he;simp only[ARv]at ha;simp only[DRv];exact ha
 |c::cs,ds,vs,he,ha=>by
  obtain⟨v,rest,rfl,h1,h2⟩:=ha;unfold vF at he
  split at he
  ·grind
  ·rename_i x cs' h0
   cases h0;simp only[Az]at he
   obtain⟨ds',hds,rfl⟩:=he;exact⟨v,rest,rfl,h1,VO hds h2⟩
  ·cases he
theorem P9{asx bs:List D}{vs us:List Value}(ha:DRv w I asx vs)(hb:DRv w I bs us):DRv w I (asx++bs) (vs++us):=by
 induction asx generalizing vs with
 |nil=>simp only[DRv]at ha;subst ha;simpa using hb
 |cons a asx ih=>
  obtain⟨v,rest,rfl,h1,h2⟩:=ha;exact⟨v,rest++us,rfl,h1,ih h2⟩
theorem aBe{zs:List D}{vs:List Value}(hz:DRv w I zs vs):∀n,DRv w I (List.replicate n zs).flatten (List.replicate n vs).flatten
 |0=>by simp[DRv]
 |n+1=>by
  exact P9 hz (aBe hz n)
theorem PD{n:Int}(h0:0<=n)(h1:n<=bI):IntKind.i64.wrap n=n:=by
 unfold bI at h1;simp[IntKind.wrap,IntKind.bits,IntKind.signed];omega
theorem aH9{t:TypeId}{k k':IntKind}{l c:Int}{x:A}{h':H}(he:fG P h t l c=some (x,h'))(r:Rel G h ρ w I):
  ∃u ρ' w',(Instr.makeSlice t (.int k l) (.int k' c)).run P w=.ok u w'/\Step G h ρ w I h' ρ' w' I/\AR h' ρ' w' I x u:=by
 unfold fG at he
 split at he
 ·rename_i e hel
  have hu:=pM hel
  split at he
  ·rename_i z hz
   split at he
   ·rename_i zs hzs
    split at he
    ·rename_i hc
     cases he;obtain⟨hel2,h0,hlc,hcm⟩:=hc
     obtain⟨i,z',zv,hi,hz',hzv,hrun,hzr,hsz,hzl,hok,hpos,hb0,hb1,hone⟩:=GI hel2;rw[hz]at hz';cases hz';have hbytes:i.bytes=P.bytesOf e:=by simp[Program.bytesOf,hi]
     obtain⟨l',rfl⟩:=Do h0;obtain⟨c',rfl⟩:=Do (Cy h0 hlc);have hlc':l'<=c':=om;have hcm':c'<=bI:=om;have wl:IntKind.i64.wrap (l':Int)=l':=PD om om;have wc:IntKind.i64.wrap (c':Int)=c':=PD om om;have hd:=fun w I=>VO (h:=[]) (ρ:=fun _=>none) (w:=w) (I:=I) hzs (hzr _ _ w I);have hzsl:zs.length=P.cellsOf e:=by rw[((iD _ _).1 (hd w I)).1];simpa using hsz
     have small:∀n:Nat,n<=bI->¬((P.bytesOf e:Int)*n>2^48):=by
      intro n hn;have h1:P.bytesOf e*n<=1024*bI:=Nat.mul_le_mul hb1 hn;have h2:(1024*bI:Nat)<=2^48:=by unfold bI;omega
      have h3:((P.bytesOf e*n:Nat):Int)<=((2^48:Nat):Int):=by exact_mod_cast Bk h1 h2
      rw[Int.natCast_mul]at h3;have h4:((2^48:Nat):Int)=2^48:=by norm_cast
      omega
     have hcells:((Array.range (c'*P.cellsOf e)).map fun j=>zv.cells[j % zv.cells.size]!).toList=(List.replicate c' zv.cells.toList).flatten:=by
      rw[Array.toList_map,Array.toList_range,<-sZ];simp[hsz]
     let C:Array Value:=(Array.range (c'*P.cellsOf e)).map fun j=>zv.cells[j % zv.cells.size]!
     have g:Grew G.keeps _ _:=Grew.push w (.cells C e (0,0));have hnew:({ w with heap:=w.heap.push (.cells C e (0,0))}:World).heap[w.heap.size]? =some (.cells C e (0,0)):=sm;have hCsz:C.size=c'*P.cellsOf e:=by simp[C]
     have hsplit:C.toList=(List.replicate l' zv.cells.toList).flatten++(List.replicate (c'-l') zv.cells.toList).flatten:=by
      show((Array.range (c'*P.cellsOf e)).map fun j=>zv.cells[j % zv.cells.size]!).toList=_;rw[hcells,<-List.flatten_append,List.replicate_append_replicate]
      congr 2;omega
     have s2:=fU r g (.arr (List.replicate l' zs).flatten (P.cellsOf e) 0) (some w.heap.size) (fun b hb=>by cases hb;exact Ad _) (fun ext=>by
      simp only[OR,bA];refine⟨hpos,fun hI=>by have:=r.imm _ hI;omega,C,e,(0,0),hnew,l9 _ _,AY hnew hsplit (aBe (hd _ _) l') (fun u hu=> ?_)⟩;obtain⟨l1,hl1,hu1⟩:=List.mem_flatten.1 hu;rw[(List.mem_replicate.1 hl1).2]at hu1;exact hone u hu1)
     refine⟨.slice (some ⟨w.heap.size,0,none⟩) l' c',_,_,?_,s2,?_⟩
     ·have nc:=small c' hcm';rw[<-hbytes]at nc;have l0:¬((l':Int)<0):=om;have c0:¬((c':Int)<0):=om;have nc':¬((281474976710656:Int)<(i.bytes:Int)*c'):=om
      rcases De c' with hz0|hz0
      ·subst hz0;have hl0:l'=0:=om;subst hl0;simp[Instr.makeSlice,aR hu,asInt,asIntOf,vZ hi,show IntKind.i64.wrap 0=0 from by decide,cT hi,show Array.range 0= #[]from rfl,newRow,newObj,Sem.run,C]
      ·have hne:¬(c'*P.cellsOf e=0):=by have:=Nat.mul_pos hz0 hpos;omega
       have hll:¬((c':Int)<l'):=om;simp[Instr.makeSlice,aR hu,asInt,asIntOf,vZ hi,wl,wc,nc',hll,l0,c0,cT hi,hne,hrun,newRow,newObj,Sem.run,C]
     ·simp only[AR,Ct];refine⟨_,_,rfl,?_⟩;have e1:(h++[O.arr (List.replicate l' zs).flatten (P.cellsOf e) 0])[h.length]? =some (.arr (List.replicate l' zs).flatten (P.cellsOf e) 0):=sm;have hdl:(List.replicate l' zs).flatten.length=l'*P.cellsOf e:=by simp[hzsl]
      simp only[slOK,e1,bA];exact⟨Ad _,fun _=>⟨hlc',.inr ⟨trivial,by omega,C,e,(0,0),hnew,by omega⟩⟩⟩
    ·cases he
   ·cases he
  ·cases he
 ·cases he
theorem zS{esz:Nat}{x:A}{xv:Value}{n:Nat}{ds:List D}(he:cG h esz x=some (n,ds))(r:Rel G h ρ w I)(hx:AR h ρ w I x xv):
  (∀w',(Builtin.lenOf xv).run P w'=.ok n w')/\ds.length=n*esz/\∃vs,DRv w I ds vs/\(∀u∈vs,u.oneCell'=true)/\∀w':World,w'.heap=w.heap->(Builtin.firstCells esz n xv).run P w'=.ok vs.toArray w':=by
 have mem:∀(cs:List D) (b o cap:Nat),DRs w I cs b o->cs.length=n*esz->xv=.slice (some ⟨b,o,none⟩) n cap->ds=cs->
   (∀w',(Builtin.lenOf xv).run P w'=.ok n w')/\ds.length=n*esz/\∃vs,DRv w I ds vs/\(∀u∈vs,u.oneCell'=true)/\∀w':World,w'.heap=w.heap->(Builtin.firstCells esz n xv).run P w'=.ok vs.toArray w':=by
  intro cs b o cap hd hl hxv hds;subst hxv;subst hds
  obtain⟨vs,h1,h2⟩:=wF (h:=h) (ρ:=ρ) (w:=w) (I:=I) (b:=b) (ds.map .d) o (fun k c hk=>by
   rw[Bb]at hk
   cases hk':ds[k]? with
   |none=>rw[hk']at hk;cases hk
   |some d=>
    rw[hk']at hk;simp at hk;subst hk;obtain⟨u,hu,hdu,ho⟩:=(fX _ _ _).1 hd k d hk';exact⟨u,hu,by simp only[AR];exact hdu,ho⟩)
  rw[nW]at h1;have hvl:vs.length=n*esz:=by rw[<-((iD _ _).1 h1).1,hl]
  refine⟨fun w'=>rfl,hl,vs,h1,fun u hu=> ?_,fun w' hw'=> ?_⟩
  ·obtain⟨k,hk⟩:=List.mem_iff_getElem?.1 hu;exact(h2 k u hk).2
  ·have:=run_loadCells' (P:=P) (w:=w') (b:=b) (o:=o) vs (fun k v hk=>(dX (w:=w) (w':=w') (by rw[hw'])).trans (h2 k v hk).1);rw[hvl]at this
   simpa [Builtin.firstCells]using this
 have nothing:∀(a:Option Addr) (cap:Nat),xv=.slice a 0 cap->n=0->ds=[]->
   (∀w',(Builtin.lenOf xv).run P w'=.ok n w')/\ds.length=n*esz/\∃vs,DRv w I ds vs/\(∀u∈vs,u.oneCell'=true)/\∀w':World,w'.heap=w.heap->(Builtin.firstCells esz n xv).run P w'=.ok vs.toArray w':=by
  intro a cap hxv hn hds;subst hxv;subst hn;subst hds;refine⟨fun w'=>rfl,by simp,[],by simp only[DRv],by simp,fun w' _=> ?_⟩
  cases a<;>simp[Builtin.firstCells,loadCells,loadCellsFrom]
 unfold cG at he
 split at he
 ·cases he;simp only[AR,DR]at hx
  obtain⟨a,rfl⟩:=hx;exact nothing a 0 rfl rfl rfl
 ·rename_i m cs
  split at he
  ·rename_i hl
   cases he;simp only[AR,DR]at hx
   obtain⟨a,cap,rfl,hcap,hc⟩:=hx
   rcases hc with rfl|⟨b,o,rfl,hI,hd⟩
   ·cases a with
    |none=>
     refine⟨fun w'=>rfl,hl,[],by simp only[DRv],by simp,fun w' _=>by simp[Builtin.firstCells]⟩
    |some a=>
     have h0:n*esz=0:=by simpa using hl.symm
     exact⟨fun w'=>rfl,hl,[],by simp only[DRv],by simp,fun w' _=>by simp[Builtin.firstCells,h0,loadCells,loadCellsFrom]⟩
   ·exact mem ds b o cap hd hl rfl rfl
  ·cases he
 ·rename_i s
  split at he
  ·rename_i h1
   cases he;subst h1
   simp only[AR,DR]at hx;subst hx;refine⟨fun w'=>by simp[Builtin.lenOf,ByteArray.size],by simp,s.map fun b=>.int .u8 b.toNat,?_,?_,fun w' _=> ?_⟩
   ·rw[iD];refine⟨by simp,fun k d hk=> ?_⟩;rw[Bb]at hk|-
    cases hs:s[k]? with
    |none=>rw[hs]at hk;cases hk
    |some b=>rw[hs]at hk;simp at hk;subst hk;exact⟨_,rfl,by simp only[DR]⟩
   ·intro u hu;obtain⟨b,_,rfl⟩:=Bf.1 hu;rfl
   ·simp[Builtin.firstCells]
  ·cases he
 ·rename_i id gen off len
  simp only[AR]at hx;obtain⟨a,cap,rfl,hs⟩:=hx
  cases hid:h[id]? with
  |none=>rw[hid]at he;cases he
  |some o=>
   rw[hid]at he
   cases o with
   |box cs=>cases he
   |vec cs e g=>cases he
   |log cs=>cases he
   |mp es=>cases he
   |void=>cases he
   |arr cs e g=>
    simp only[]at he
    split at he
    ·rename_i hc
     cases he;simp only[slOK,hid]at hs
     have h3:=hs.2 hc.1.symm
     rcases De n with h0|h0
     ·subst h0;exact nothing a cap rfl rfl sm
     ·have hO:=r.obj id _ hid;simp only[OR]at hO
      cases hρ:ρ id with
      |none=>rw[hρ]at h3;have:=h3.1;have:=h3.2;simp only[]at this;omega
      |some b=>
       rw[hρ]at hO h3;obtain⟨_,_,C,E,fz,_,_,hd⟩:=hO
       rcases h3.2 with h4|⟨h4,_⟩
       ·have:=h3.1;omega
       ·subst h4;exact mem _ b off cap (by have:=wI (n*esz) (j6 off hd);simpa using this) (by simp;have:=hc.2.2;omega) rfl rfl
    ·cases he
   |ice cs e g=>
    simp only[]at he
    split at he
    ·rename_i hc
     cases he;simp only[slOK,hid]at hs
     have h3:=hs.2 hc.1.symm
     rcases h3.2 with h0|⟨_,b,hb,hI,hd⟩
     ·subst h0;exact nothing a cap rfl rfl sm
     ·subst hb;exact mem _ b off cap (by have:=wI (n*esz) (j6 off hd);simpa using this) (by simp;have:=hc.2.2;omega) rfl rfl
    ·cases he
 ·cases he
theorem aF5(need:Nat):∀(r c:Nat),Builtin.growBy need r c<=max c (2*need+192)
 |0,c=>by simp only[Builtin.growBy];omega
 |r+1,c=>by
  simp only[Builtin.growBy]
  split
  ·omega
  ·have:=aF5 need r (c+(c+768)/4);omega
theorem aQ7{need cap:Nat}(h:cap<need):Builtin.nextslicecap need cap<=2*need+512:=by
 unfold Builtin.nextslicecap
 split
 ·omega
 ·split
  ·omega
  ·have:=aF5 need 4 cap;omega
theorem oK(z:Array Value)(n:Nat):(Builtin.zeroCells z n).toList=(List.replicate n z.toList).flatten:=by
 unfold Builtin.zeroCells;rw[Array.toList_map,Array.toList_range,<-sZ];simp
theorem hZ{t u e:TypeId}{ty:TypeId}{xv:Value}{n:Nat}{vs:List Value}{base:Option Addr}{sLen sCap:Nat}{i:TypeInfo}{d:TypeDesc}
  (hu:P.underlying t=some (.slice e)) (hi:P.info? e=some i) (hd:P.underlying u=some d) (hnd:∀k,d≠.int k) (hx:∀w',(Builtin.lenOf xv).run P w'=.ok n w') (hf:(Builtin.firstCells (P.cellsOf e) n xv).run P w=.ok vs.toArray w)
  (hroom:sLen+n<=sCap) {w':World} (hst:∀a,base=some a->(storeCells (a.add (sLen*P.cellsOf e)) vs).run P w=.ok () w') (hno:base=none->w'=w):
  (Builtin.append_ #[t,u] ty #[.slice base sLen sCap,xv]).run P w=.ok (.slice base (sLen+n) sCap) w':=by
 cases base with
 |none=>
  have:=hno rfl;subst this;simp[Builtin.append_,aR hu,cT hi,aR hd,hx,hroom,hf]
 |some a=>
  have:=hst a rfl;simp[Builtin.append_,aR hu,cT hi,aR hd,hx,hroom,hf,this]
theorem rC{t u e:TypeId}{ty:TypeId}{xv:Value}{n:Nat}{vs old:List Value}{base:Option Addr}{sLen sCap:Nat}{i:TypeInfo}{d:TypeDesc}{zv:Value}
  (hu:P.underlying t=some (.slice e)) (hi:P.info? e=some i) (hd:P.underlying u=some d) (hnd:∀k,d≠.int k) (hx:∀w',(Builtin.lenOf xv).run P w'=.ok n w')
  (hf:∀w':World,w'.heap=w.heap->(Builtin.firstCells (P.cellsOf e) n xv).run P w'=.ok vs.toArray w') (ho:∀w':World,w'.heap=w.heap->(Builtin.firstCells (P.cellsOf e) sLen (.slice base sLen sCap)).run P w'=.ok old.toArray w')
  (hz:∀w',(zeroValue e).run P w'=.ok zv w') (hb0:0<P.bytesOf e) (hb:P.bytesOf e<=1024) (hroom:¬sLen+n<=sCap) (hneed:sLen+n<=bI):
  ∃cap,sLen+n<=cap/\(Builtin.append_ #[t,u] ty #[.slice base sLen sCap,xv]).run P w=
   .ok (.slice (some ⟨w.heap.size,0,none⟩) (sLen+n) cap) (w.drew.alloc (.cells (old.toArray++(vs.toArray++Builtin.zeroCells zv.cells (cap-(sLen+n)))) e)):=by
 have hbytes:i.bytes=P.bytesOf e:=by simp[Program.bytesOf,hi]
 let cap:=(Question.appendCap (sLen+n) sCap e).cut (w.tape w.drawn (.appendCap (sLen+n) sCap e))
 have hcap:sLen+n<=cap:=by simp[cap,Question.cut]
 refine⟨cap,hcap,?_⟩;have h1:¬(((sLen+n:Nat):Int)>IntKind.i64.max/\(false=true\/i.bytes=0)):=by rintro⟨_,h|h⟩<;>first|cases h|omega
 have h2:¬(Builtin.nextslicecap (sLen+n) sCap*i.bytes>2^48):=by
  have a1:=aQ7 (need:=sLen+n) (cap:=sCap) om;have a2:Builtin.nextslicecap (sLen+n) sCap*i.bytes<=(2*bI+512)*1024:=Nat.mul_le_mul om om;unfold bI at a2;omega
 have ho':=ho w.drew rfl;have hf':=hf w.drew rfl;have h1':¬((9223372036854775807:Int)<(sLen:Int)+n/\i.bytes=0):=by rintro⟨_,h⟩;omega
 simp[Builtin.append_,aR hu,cT hi,aR hd,hx,hroom,vZ hi,h1',h2,Question.forced,ho',hf',hz,newRow,newObj,Sem.run,cap]
theorem Grew.drewAlloc{m:Bool}(w:World)(o:Obj):Grew m w (w.drew.alloc o):=(Grew.drew w).trans (Grew.push _ o)
theorem dT(w:World)(o:Obj):(w.drew.alloc o).heap[w.heap.size]? =some o:=by
 show(w.heap.push o)[w.heap.size]? =some o;simp
theorem aLx{t u e:TypeId}{ty:TypeId}{id n:Nat}{cs src:List D}{vs:List Value}{a:Option Addr}{cap:Nat}{xv:Value}{i:TypeInfo}{d:TypeDesc}{zv:Value}
  (hu:P.underlying t=some (.slice e)) (hi:P.info? e=some i) (hd:P.underlying u=some d) (hnd:∀k,d≠.int k) (hlen:∀w',(Builtin.lenOf xv).run P w'=.ok n w')
  (hfirst:∀w':World,w'.heap=w.heap->(Builtin.firstCells (P.cellsOf e) n xv).run P w'=.ok vs.toArray w') (hdv:DRv w I src vs) (hvone:∀u∈vs,u.oneCell'=true) (hsl:src.length=n)
  (hrun:∀w',(zeroValue e).run P w'=.ok zv w') (hb0:0<P.bytesOf e) (hb1:P.bytesOf e<=1024) (hce:P.cellsOf e=1) (hsz:zv.cells.size=1)
  (hid:h[id]? =some (.log cs)) (hneed:cs.length+n<=bI) (r:Rel G h ρ w I) (hs:slOK h ρ w I id (cs.length+1) 0 cs.length a cap):
  ∃v ρ' w' I',(Builtin.append_ #[t,u] ty #[.slice a cs.length cap,xv]).run P w=.ok v w'/\Step G h ρ w I (h.set id (.log (cs++src))) ρ' w' I'/\AR (h.set id (.log (cs++src))) ρ' w' I' (.sl id (cs.length+n+1) 0 (cs.length+n)) v:=by
 simp only[slOK,hid]at hs;obtain⟨hlc,hsl2,hck⟩:=hs.2 om;have hck:=hck trivial;have hlt:id<h.length:=(At.1 hid).1;have hset:∀o,(h.set id o)[id]? =some o:=fun o=>by simp[hlt]
 have hO:=r.obj id _ hid;simp only[OR]at hO;have hvl:vs.length=n:=by rw[<-((iD _ _).1 hdv).1,hsl]
 have hold:∃old:List Value,DRv w I cs old/\(∀u∈old,u.oneCell'=true)/\old.length=cs.length/\(∀b,ρ id=some b->∀(k:Nat) (v:Value),old[k]? =some v->cellAt w b k=some v)/\
   ∀w':World,w'.heap=w.heap->(Builtin.firstCells (P.cellsOf e) cs.length (.slice a cs.length cap)).run P w'=.ok old.toArray w':=by
  cases hρ:ρ id with
  |none=>
   rw[hρ]at hO;simp only at hO;subst hO;exact⟨[],by simp only[DRv],by simp,rfl,fun _ hb=>by simp at hb,fun w' _=>by cases a<;>simp[Builtin.firstCells,loadCells,loadCellsFrom]⟩
  |some b=>
   rw[hρ]at hO;obtain⟨_,C,E,fz,hC,_,hcs⟩:=hO
   obtain⟨vs,h1,h2⟩:=wF (h:=h) (ρ:=ρ) (w:=w) (I:=I) (b:=b) (cs.map .d) 0 (fun k c hk=>by
    rw[Bb]at hk
    cases hk':cs[k]? with
    |none=>rw[hk']at hk;cases hk
    |some d=>
     rw[hk']at hk;simp at hk;subst hk;obtain⟨u,hu,hdu,ho⟩:=(fX _ _ _).1 hcs k d hk';exact⟨u,hu,by simp only[AR];exact hdu,ho⟩)
   rw[nW]at h1;have hvl:vs.length=cs.length:=((iD _ _).1 h1).1.symm;refine⟨vs,h1,fun u hu=> ?_,hvl,fun b' hb' k v hk=> ?_,fun w' hw'=> ?_⟩
   ·obtain⟨k,hk⟩:=List.mem_iff_getElem?.1 hu;exact(h2 k u hk).2
   ·cases hb'
    have:=(h2 k v hk).1
    rwa [Ag]at this
   ·by_cases h0:cs.length=0
    ·have:vs=[]:=Bs.1 om;subst this;rw[h0]
     cases a<;>simp[Builtin.firstCells,loadCells,loadCellsFrom]
    ·rcases hck with hck|⟨b',hb',rfl,_⟩
     ·omega
     ·rw[hρ]at hb'
      cases hb'
      have:=run_loadCells' (P:=P) (w:=w') (b:=b) (o:=0) vs (fun k v hk=>(dX (w:=w) (w':=w') (by rw[hw'])).trans (h2 k v hk).1);rw[hvl]at this
      simpa [Builtin.firstCells,hce]using this
 obtain⟨old,ho1,ho2,ho3,ho5,ho4⟩:=hold;have hnew1:DRv w I (cs++src) (old++vs):=P9 ho1 hdv;have hones:∀u∈old++vs,u.oneCell'=true:=fun u hu=>(Aq.1 hu).elim (ho2 u) (hvone u);have htk:∀gen,gen<=cs.length+1->(cs++src).take (gen-1)=cs.take (gen-1):=fun gen hg=>List.take_append_of_le_length om
 have hslk:∀(rb:Option Nat) (w':World) (I':Nat->Prop),Imm w I w' I'->(∀b,ρ id=some b->rb=some b\/(I' b/\DRs w' I' cs b 0))->
   (n=0->∀b C E fz,ρ id=some b->w.heap[b]? =some (.cells C E fz)->rb=some b/\∃C',w'.heap[b]? =some (.cells C' E fz)/\C'.size=C.size)->
   ∀gen off' len' a' cap',slOK h ρ w I id gen off' len' a' cap'->slOK (h.set id (.log (cs++src))) (upd ρ id rb) w' I' id gen off' len' a' cap':=by
  intro rb w' I' himm hb hz gen off' len' a' cap' hh;simp only[slOK,hid]at hh;simp only[slOK,hset,bA,Ai];refine⟨by omega,fun hg=> ?_⟩;obtain⟨q1,q2,q3⟩:=hh.2 hg;refine⟨q1,?_,fun hgl=> ?_⟩
  ·refine q2.imp (fun x=>x) fun⟨q4,b,q5,q6⟩=>⟨q4,b,q5,?_⟩
   rw[htk gen hh.1]
   rcases q6 with q6|⟨q6,q7⟩
   ·exact(hb b q6).imp (fun x=>x) fun⟨q8,q9⟩=>⟨q8,aEs _ q9⟩
   ·exact .inr ⟨(himm b q6).1,hU himm _ b 0 q6 q7⟩
  ·rcases q3 om with q4|⟨b,q5,q6,C,E,fz,q7,q8⟩
   ·exact .inl q4
   ·obtain⟨z1,C',z2,z3⟩:=hz om b C E fz q5 q7;exact .inr ⟨b,z1,q6,C',E,fz,z2,by omega⟩
 have hptk:∀(rb:Option Nat) (w':World) (I':Nat->Prop),Imm w I w' I'->(∀b,ρ id=some b->rb=some b\/(I' b/\DRs w' I' cs b 0))->
   ∀gen b,ptOK h ρ w I id gen b->ptOK (h.set id (.log (cs++src))) (upd ρ id rb) w' I' id gen b:=by
  intro rb w' I' himm hb gen b hh;simp only[ptOK,hid]at hh;simp only[ptOK,hset,bA,Ai];refine⟨by omega,fun hg=> ?_⟩;rw[htk gen hh.1]
  rcases hh.2 hg with q6|⟨q6,q7⟩
  ·exact(hb b q6).imp (fun x=>x) fun⟨q8,q9⟩=>⟨q8,aEs _ q9⟩
  ·exact .inr ⟨(himm b q6).1,hU himm _ b 0 q6 q7⟩
 by_cases hroom:cs.length+n<=cap
 ·-- in aH
  rcases hck with hcap0|⟨b,hρ,rfl,C2,E2,fz2,hC2,hcapC⟩
  ·have hv0:vs=[]:=Bs.1 om;have hs0:src=[]:=Bs.1 om;have hc0:cs=[]:=Bs.1 om;have hn0:n=0:=om;subst hs0;subst hc0;subst hv0;subst hn0;subst hcap0
   have hsame:h.set id (.log ([]++[]))=h:=by
    apply Cj;intro j;rw[Cu];obtain⟨hl,hee⟩:=At.1 hid
    by_cases e1:id=j
    ·subst e1;simp[hl,hee]
    ·simp[e1]
   rw[hsame];refine⟨_,ρ,w,I,hZ (base:=a) (sLen:=0) (sCap:=0) hu hi hd hnd hlen (hfirst w rfl) (Ad _) (fun b _=>by simp[storeCells]) (fun _=>rfl),.refl r,?_⟩;simp only[AR];refine⟨a,0,rfl,?_⟩;simp only[slOK,hid];exact⟨Ad _,fun _=>⟨Ad _,.inl rfl,fun _=>.inl trivial⟩⟩
  ·rw[hρ]at hO;obtain⟨hIb,C,E,fz,hC,hfz,hcs⟩:=hO;rw[hC2]at hC;cases hC;have hblt:=(Bn.1 hC2).1;obtain⟨C',h1,h2,h3⟩:=yO (P:=P) (o:=cs.length) vs 0 C2 w hC2 hfz.1 om hvone
   have hst:(storeCells (Addr.add ⟨b,0,none⟩ (cs.length*P.cellsOf e)) vs).run P w=.ok () (cZ w b (.cells C' E2 fz2)):=by
    rw[kA,Ag,hce,Bu];exact h1
   obtain⟨f1,f2,f3,f4⟩:=nM (w:=w) (b:=b) (o:=.cells C' E2 fz2)
   have hz:∀b' C E fz,ρ id=some b'->w.heap[b']? =some (.cells C E fz)->ρ id=some b'/\∃C'',(cZ w b (.cells C' E2 fz2)).heap[b']? =some (.cells C'' E fz)/\C''.size=C.size:=by
    intro b' C E fz q1 q2;rw[hρ]at q1;cases q1;rw[hC2]at q2;cases q2;exact⟨hρ,C',eN hblt,h2⟩
   have s1:=d8 (o':=.log (cs++src)) (w':=cZ w b (.cells C' E2 fz2)) (I':=I) r hid trivial (ρ id) f1 f2 f3 (by rw[f4];exact Ad _)
    (fun k _ hne=>nL (fun e=>hne (by rw[hρ,e]))) (fun _ hb=>hb) (fun _ hb=>.inl hb) (fun _ hb=>.inl hb) (fun im=>hslk _ _ _ im (fun _ q=>.inl q) (fun _=>hz)) (fun im=>hptk _ _ _ im (fun _ q=>.inl q)) (fun ext=>by
     simp only[OR,hρ,bA];refine⟨hIb,C',E2,fz2,eN hblt,hfz.keep om,?_⟩;refine zC (oX ext.imm _ _ hnew1) (fun k v hk=>⟨?_,hones v (Bo hk)⟩);rw[Ag,s9 hblt,h3 k]
     by_cases hin:k<cs.length
     ·rw[if_neg om];rw[Be om]at hk;have:=ho5 b hρ k v hk
      rwa [dZ hC2]at this
     ·have hlt2:=(At.1 hk).1;rw[Ai,ho3]at hlt2;rw[if_pos om];rw[Bq om,ho3]at hk;rw[Bm];exact hk)
   rw[cO]at s1;refine⟨_,ρ,_,I,hZ (base:=some ⟨b,0,none⟩) hu hi hd hnd hlen (hfirst w rfl) hroom (fun a ha=>by cases ha;exact hst) (fun hh=>by cases hh),s1,?_⟩;simp only[AR];refine⟨_,_,rfl,?_⟩;simp only[slOK,hset,Ai];exact⟨by omega,fun _=>⟨hroom,.inr ⟨by omega,b,rfl,.inl hρ⟩,fun _=>.inr ⟨b,hρ,rfl,C',E2,fz2,eN hblt,by omega⟩⟩⟩
 ·-- a new row
  obtain⟨ncap,hncap,hrun2⟩:=rC (P:=P) (ty:=ty) (base:=a) (sLen:=cs.length) (sCap:=cap) (old:=old) hu hi hd hnd hlen hfirst ho4 hrun hb0 hb1 hroom hneed;have hC:(old.toArray++(vs.toArray++Builtin.zeroCells zv.cells (ncap-(cs.length+n)))).toList=(old++vs)++(Builtin.zeroCells zv.cells (ncap-(cs.length+n))).toList:=sm
  have hCs:(old.toArray++(vs.toArray++Builtin.zeroCells zv.cells (ncap-(cs.length+n)))).size=ncap:=by
   rw[<-Array.length_toList,hC,Ai,Ai,oK,hvl,ho3];simp[hsz];omega
  have hold:∀b,ρ id=some b->b<w.heap.size:=fun b hb=>(r.own_not_imm ⟨id,_,hb,hid,trivial⟩).2
  have hdI:∀w',Imm w I w' (fun k=>I k\/ρ id=some k)->(∀k,k<w.heap.size->w'.heap[k]? =w.heap[k]?)->∀b,ρ id=some b->(some w.heap.size=some b\/((I b\/ρ id=some b)/\DRs w' (fun k=>I k\/ρ id=some k) cs b 0)):=by
   intro w' him hsm b hb;refine .inr ⟨.inr hb,?_⟩;rw[hb]at hO;obtain⟨_,C,E,fz,_,_,hcs⟩:=hO;exact xU him (fun k _=>dX (hsm b (hold b hb))) hcs
  have s1:=d8 (o':=.log (cs++src)) (w':=w.drew.alloc (.cells (old.toArray++(vs.toArray++Builtin.zeroCells zv.cells (ncap-(cs.length+n)))) e)) (I':=fun k=>I k\/ρ id=some k) r hid trivial (some w.heap.size)
   (Grew.drewAlloc (m:=true) w _).os (Grew.drewAlloc (m:=true) w _).tape (Grew.drewAlloc (m:=true) w _).output (Grew.drewAlloc (m:=true) w _).size (fun k hk _=>(Grew.drewAlloc (m:=true) w _).same k hk) (fun _ hb=>.inl hb)
   (fun b hb=>hb.imp (fun x=>x) fun q=>⟨q,.inr fun q2=>by cases q2;exact Nat.lt_irrefl _ (hold _ q)⟩) (fun b hb=>by cases hb;exact .inr (Ad _))
   (fun im=>hslk _ _ _ im (hdI _ im (Grew.drewAlloc (m:=true) w _).same) (fun q=>by omega)) (fun im=>hptk _ _ _ im (hdI _ im (Grew.drewAlloc (m:=true) w _).same)) (fun ext=>by
    simp only[OR,bA];refine⟨?_,_,e,(0,0),dT w _,l9 _ _,AY (dT w _) hC (oX ext.imm _ _ hnew1) hones⟩;rintro(hI|hI)
    ·have:=r.imm _ hI;omega
    ·exact Nat.lt_irrefl _ (hold _ hI))
  refine⟨_,_,_,_,hrun2,s1,?_⟩;simp only[AR];refine⟨_,_,rfl,?_⟩;simp only[slOK,hset,bA,Ai];exact⟨by omega,fun _=>⟨hncap,.inr ⟨by omega,_,rfl,.inl rfl⟩,fun _=>.inr ⟨_,rfl,rfl,_,e,(0,0),dT w _,by omega⟩⟩⟩
theorem F2{t u:TypeId}{ty:TypeId}{s x y:A}{sv xv:Value}{h':H}{d:TypeDesc}(hd:P.underlying u=some d)(hnd:∀k,d≠.int k)(he:j2 P h t s x=some (y,h'))(r:Rel G h ρ w I)(hs:AR h ρ w I s sv)(hx:AR h ρ w I x xv):
  ∃v ρ' w' I',(Builtin.append_ #[t,u] ty #[sv,xv]).run P w=.ok v w'/\Step G h ρ w I h' ρ' w' I'/\AR h' ρ' w' I' y v:=by
 unfold j2 at he
 split at he
 ·rename_i e hel
  have hu:=pM hel
  split at he
  ·rename_i hok
   obtain⟨i,z,zv,hi,hz,hzv,hrun,hzr,hsz,hzl,_,hpos,hb0,hb1,hone⟩:=GI hok
   split at he
   ·rename_i n src hsrc
    obtain⟨hlen,hsl,vs,hdv,hvone,hfirst⟩:=zS (P:=P) hsrc r hx;have hvl:vs.length=n*P.cellsOf e:=by rw[<-((iD _ _).1 hdv).1,hsl]
    split at he
    ·-- a nil slice
     split at he
     ·rename_i hn
      cases he;simp only[AR,DR]at hs
      obtain⟨a,rfl⟩:=hs
      rcases De n with h0|h0
      ·subst h0;have hv0:vs=[]:=Bs.1 om;have hs0:src=[]:=Bs.1 om;subst hv0;subst hs0;have s1:=fU r (Grew.refl w) (.arr [] (P.cellsOf e) 0) none sm (fun _=>by simp[OR,bA]);refine⟨_,_,w,I,hZ (base:=a) (sLen:=0) (sCap:=0) hu hi hd hnd hlen (hfirst w rfl) (Ad _) (fun b _=>by simp[storeCells]) (fun _=>rfl),s1,?_⟩;simp only[AR];refine⟨a,0,rfl,?_⟩;have e1:(h++[O.arr [] (P.cellsOf e) 0])[h.length]? =some (.arr [] (P.cellsOf e) 0):=sm;simp only[slOK,e1,bA];simp
      ·obtain⟨cap,hcap,hrun2⟩:=rC (P:=P) (ty:=ty) (base:=a) (sLen:=0) (sCap:=0) (old:=[]) hu hi hd hnd hlen hfirst (fun w' _=>by cases a<;>simp[Builtin.firstCells,loadCells,loadCellsFrom]) hrun hb0 hb1 om om;have hC:(((#[]:Array Value)++(vs.toArray++Builtin.zeroCells zv.cells (cap-(0+n))))).toList=vs++(Builtin.zeroCells zv.cells (cap-(0+n))).toList:=sm
       have hCs:((#[]:Array Value)++(vs.toArray++Builtin.zeroCells zv.cells (cap-(0+n)))).size=cap*P.cellsOf e:=by
        rw[<-Array.length_toList,hC,Ai,oK,hvl];simp[hsz];rw[<-Bw];congr 1;omega
       have s1:=fU r (Grew.drewAlloc w _) (.arr src (P.cellsOf e) 0) (some w.heap.size) (fun b hb=>by cases hb;exact Ad _) (fun ext=>by
        simp only[OR,bA];exact⟨hpos,fun hI=>by have:=r.imm _ hI;omega,_,e,(0,0),dT w _,l9 _ _,AY (dT w _) hC (oX ext.imm _ _ hdv) hvone⟩)
       refine⟨_,_,_,I,hrun2,s1,?_⟩;simp only[AR];refine⟨some ⟨w.heap.size,0,none⟩,cap,by simp,?_⟩;have e1:(h++[O.arr src (P.cellsOf e) 0])[h.length]? =some (.arr src (P.cellsOf e) 0):=sm;simp only[slOK,e1,bA];exact⟨Ad _,fun _=>⟨by omega,.inr ⟨trivial,by omega,_,e,(0,0),dT w _,by rw[Ag];exact Nat.le_of_eq hCs.symm⟩⟩⟩
     ·cases he
    ·rename_i id gen off len
     split at he
     ·rename_i cs e0 g hid
      split at he
      ·rename_i hc
       cases he;obtain⟨hg,he0,hoff,hle,hneed⟩:=hc
       subst hg;subst hoff;simp only[AR]at hs;obtain⟨a,cap,rfl,hs⟩:=hs;simp only[slOK,hid]at hs;obtain⟨hlc,hs⟩:=hs.2 trivial;have hlt:id<h.length:=(At.1 hid).1;have hset:∀o,(h.set id o)[id]? =some o:=fun o=>by simp[hlt]
       have hO:=r.obj id _ hid
       have hslk:∀(rb:Option Nat) (w':World),Imm w I w' I->∀gen off' len' a' cap',slOK h ρ w I id gen off' len' a' cap'->slOK (h.set id (.arr (cs.take (len*P.cellsOf e)++src) (P.cellsOf e) (g+1))) (upd ρ id rb) w' I id gen off' len' a' cap':=by
        intro rb w' _ gen off' len' a' cap' hh;simp only[slOK,hid]at hh;simp only[slOK,hset];exact⟨by omega,fun h=>by omega⟩
       have hptk:∀(rb:Option Nat) (w':World),Imm w I w' I->∀gen b,ptOK h ρ w I id gen b->ptOK (h.set id (.arr (cs.take (len*P.cellsOf e)++src) (P.cellsOf e) (g+1))) (upd ρ id rb) w' I id gen b:=by
        intro rb w' _ gen b hh;simp only[ptOK,hid]at hh;simp only[ptOK,hset];exact⟨by omega,fun h=>by omega⟩
       have hold:∃old:List Value,DRv w I (cs.take (len*P.cellsOf e)) old/\(∀u∈old,u.oneCell'=true)/\old.length=len*P.cellsOf e/\
         ∀w':World,w'.heap=w.heap->(Builtin.firstCells (P.cellsOf e) len (.slice a len cap)).run P w'=.ok old.toArray w':=by
        have hsc:cG h (P.cellsOf e) (.sl id g 0 len)=some (len,(cs.drop 0).take (len*P.cellsOf e))\/(e0=0/\len≠0):=by
         simp only[cG,hid]
         by_cases h0:len=0\/e0=P.cellsOf e
         ·left;rw[if_pos ⟨trivial,h0,by omega⟩]
         ·right;omega
        rcases hsc with hsc|⟨hz0,hl0⟩
        ·obtain⟨_,hl2,old,ho1,ho2,ho3⟩:=zS (P:=P) hsc r (show AR h ρ w I (.sl id g 0 len) (.slice a len cap)from by
          simp only[AR,slOK,hid];exact⟨a,cap,rfl,Ad _,fun _=>⟨hlc,hs⟩⟩)
         simp only[Ax]at ho1 hl2;exact⟨old,ho1,ho2,by rw[<-((iD _ _).1 ho1).1,hl2],ho3⟩
        ·exfalso;simp only[OR]at hO
         cases hρ:ρ id with
         |none=>rw[hρ]at hs;simp only[]at hs;omega
         |some b=>rw[hρ]at hO;omega
       obtain⟨old,ho1,ho2,ho3,ho4⟩:=hold;have hnew1:DRv w I (cs.take (len*P.cellsOf e)++src) (old++vs):=P9 ho1 hdv;have hones:∀u∈old++vs,u.oneCell'=true:=fun u hu=>(Aq.1 hu).elim (ho2 u) (hvone u)
       have hlen2:(cs.take (len*P.cellsOf e)++src).length=(len+n)*P.cellsOf e:=by
        rw[Ai,Cv,hsl,Bw];omega
       by_cases hroom:len+n<=cap
       ·-- in aH
        by_cases hcap0:cap=0
        ·have hl0:len=0:=om;have hn0:n=0:=om;subst hcap0;subst hl0;subst hn0;have hv0:vs=[]:=Bs.1 om;have hs0:src=[]:=Bs.1 om;subst hv0;subst hs0
         have s1:=d8 (o':=.arr (cs.take (0*P.cellsOf e)++[]) (P.cellsOf e) (g+1)) (w':=w) (I':=I) r hid trivial (ρ id) rfl rfl rfl (Ad _) (fun _ _ _=>rfl) (fun _ hb=>hb) (fun _ hb=>.inl hb) (fun _ hb=>.inl hb) (hslk _ w) (hptk _ w) (fun ext=>by
          simp only[OR,cO]at hO|-
          cases hρ:ρ id with
          |none=>simp
          |some b=>
           rw[hρ]at hO;obtain⟨hez,h2,C,E,fz,h3,h4,_⟩:=hO;have hee:e0=P.cellsOf e:=om;subst hee;exact⟨hpos,h2,C,E,fz,h3,h4,by simp[DRs]⟩)
         refine⟨_,_,w,I,hZ (base:=a) (sLen:=0) (sCap:=0) hu hi hd hnd hlen (hfirst w rfl) (Ad _) (fun b _=>by simp[storeCells]) (fun _=>rfl),s1,?_⟩;simp only[AR];refine⟨a,0,rfl,?_⟩;simp only[slOK,hset,cO];refine⟨Ad _,fun _=>⟨Ad _,?_⟩⟩
         cases ρ id with
         |none=>exact trivial
         |some b=>exact .inl trivial
        ·simp only[OR]at hO
         cases hρ:ρ id with
         |none=>rw[hρ]at hs;simp only[]at hs;omega
         |some b=>
          rw[hρ]at hs hO;simp only[]at hs hO
          rcases hs with hs|⟨ha,_,C2,E2,fz2,hC2,hcapC⟩
          ·omega
          ·subst ha;obtain⟨hez,hIb,C,E,fz,hC,hfz,hcs⟩:=hO;rw[hC2]at hC;cases hC;have hee:e0=P.cellsOf e:=om;subst hee;have hblt:=(Bn.1 hC2).1
           have hfit:len*P.cellsOf e+vs.length<=C2.size:=by
            have:(len+n)*P.cellsOf e<=cap*P.cellsOf e:=Nat.mul_le_mul_right _ hroom;rw[hvl,<-Bw];omega
           obtain⟨C',h1,h2,h3⟩:=yO (P:=P) (o:=len*P.cellsOf e) vs 0 C2 w hC2 hfz.1 om hvone
           have hst:(storeCells (Addr.add ⟨b,0,none⟩ (len*P.cellsOf e)) vs).run P w=.ok () (cZ w b (.cells C' E2 fz2)):=by
            rw[kA,Ag];exact h1
           obtain⟨f1,f2,f3,f4⟩:=nM (w:=w) (b:=b) (o:=.cells C' E2 fz2)
           have s1:=d8 (o':=.arr (cs.take (len*P.cellsOf e)++src) (P.cellsOf e) (g+1)) (w':=cZ w b (.cells C' E2 fz2)) (I':=I) r hid trivial (ρ id) f1 f2 f3 (by rw[f4];exact Ad _)
            (fun k _ hne=>nL (fun e=>hne (by rw[hρ,e]))) (fun _ hb=>hb) (fun _ hb=>.inl hb) (fun _ hb=>.inl hb) (hslk _ _) (hptk _ _) (fun ext=>by
             simp only[OR,hρ,bA];refine⟨hpos,hIb,C',E2,fz2,eN hblt,hfz.keep om,?_⟩;refine zC (oX ext.imm _ _ hnew1) (fun k v hk=>⟨?_,hones v (Bo hk)⟩);rw[Ag,s9 hblt,h3 k]
             by_cases hin:k<len*P.cellsOf e
             ·rw[if_neg om];rw[Be om]at hk;have hk2:=ho4 w rfl;obtain⟨d0,hd0⟩:∃d0,cs[k]? =some d0:=⟨cs[k],by simp⟩
              obtain⟨u0,hu0,_,_⟩:=(fX _ _ _).1 hcs k d0 hd0;rw[dZ hC2,Ag]at hu0;rw[hu0];have hload:=hk2;simp only[Builtin.firstCells]at hload
              have hvals:∃vs2:List Value,vs2.length=len*P.cellsOf e/\∀(j:Nat) (x:Value),vs2[j]? =some x->cellAt w b (0+j)=some x:=
               ⟨C2.toList.take (len*P.cellsOf e),by simp;omega,fun j x hj=>by
                rw[Ag,dZ hC2];rw[Dh]at hj
                split at hj
                ·simpa using hj
                ·cases hj⟩
              obtain⟨vs2,hv1,hv2⟩:=hvals;have hl2:=run_loadCells' (P:=P) (w:=w) (b:=b) (o:=0) vs2 hv2;rw[hv1,hload]at hl2;have:old=vs2:=by injection hl2 with hl2 _;simpa using hl2
              subst this;have:=hv2 k v hk;rw[dZ hC2,Ag,hu0]at this;exact this
             ·have hlt2:=(At.1 hk).1;rw[Ai,ho3]at hlt2;rw[if_pos om];rw[Bq om,ho3]at hk;rw[Bm];exact hk)
           rw[cO]at s1;refine⟨_,ρ,_,I,hZ (base:=some ⟨b,0,none⟩) hu hi hd hnd hlen (hfirst w rfl) hroom (fun a ha=>by cases ha;exact hst) (fun hh=>by cases hh),s1,?_⟩;simp only[AR];refine⟨_,_,rfl,?_⟩;simp only[slOK,hset,hρ];exact⟨Ad _,fun _=>⟨hroom,.inr ⟨trivial,by omega,C',E2,fz2,eN hblt,by omega⟩⟩⟩
       ·-- a new row
        obtain⟨ncap,hncap,hrun2⟩:=rC (P:=P) (ty:=ty) (base:=a) (sLen:=len) (sCap:=cap) (old:=old) hu hi hd hnd hlen hfirst ho4 hrun hb0 hb1 hroom hneed;have hC:(old.toArray++(vs.toArray++Builtin.zeroCells zv.cells (ncap-(len+n)))).toList=(old++vs)++(Builtin.zeroCells zv.cells (ncap-(len+n))).toList:=sm
        have hCs:(old.toArray++(vs.toArray++Builtin.zeroCells zv.cells (ncap-(len+n)))).size=ncap*P.cellsOf e:=by
         rw[<-Array.length_toList,hC,Ai,Ai,oK,hvl,ho3];simp[hsz];rw[<-Bw,<-Bw];congr 1;omega
        have s1:=d8 (o':=.arr (cs.take (len*P.cellsOf e)++src) (P.cellsOf e) (g+1)) (w':=w.drew.alloc (.cells (old.toArray++(vs.toArray++Builtin.zeroCells zv.cells (ncap-(len+n)))) e)) (I':=I) r hid trivial (some w.heap.size)
         (Grew.drewAlloc (m:=true) w _).os (Grew.drewAlloc (m:=true) w _).tape (Grew.drewAlloc (m:=true) w _).output (Grew.drewAlloc (m:=true) w _).size (fun k hk _=>(Grew.drewAlloc (m:=true) w _).same k hk) (fun _ hb=>hb) (fun _ hb=>.inl hb) (fun b hb=>by cases hb;exact .inr (Ad _)) (hslk _ _) (hptk _ _) (fun ext=>by
          simp only[OR,bA];exact⟨hpos,fun hI=>by have:=r.imm _ hI;omega,_,e,(0,0),dT w _,l9 _ _,AY (dT w _) hC (oX ext.imm _ _ hnew1) hones⟩)
        refine⟨_,_,_,I,hrun2,s1,?_⟩;simp only[AR];refine⟨_,_,rfl,?_⟩;simp only[slOK,hset,bA];exact⟨Ad _,fun _=>⟨hncap,.inr ⟨trivial,by omega,_,e,(0,0),dT w _,by rw[Ag];exact Nat.le_of_eq hCs.symm⟩⟩⟩
      ·cases he
     ·rename_i cs hid
      split at he
      ·rename_i hc
       cases he;obtain⟨rfl,rfl,rfl,hce,hneed⟩:=hc
       simp only[AR]at hs;obtain⟨a,cap,rfl,hs⟩:=hs;exact aLx hu hi hd hnd hlen hfirst hdv hvone (by rw[hsl,hce,Bu]) hrun hb0 hb1 hce (by rw[<-hce];simpa using hsz) hid hneed r hs
      ·cases he
     ·cases he
    ·cases he
   ·cases he
  ·cases he
 ·cases he
theorem aCA{cs:List A}{vs:List Value}{b:Nat}(ha:ARv h ρ w I cs vs)(hc:∀(k:Nat) (v:Value),vs[k]? =some v->cellAt w b k=some v/\v.oneCell'=true):ARs h ρ w I cs b:=by
 intro k c hk;obtain⟨_,hall⟩:=(eP cs vs).1 ha;obtain⟨v,hv,hav⟩:=hall k c hk;exact⟨v,(hc k v hv).1,hav,(hc k v hv).2⟩
theorem aAQ{cs:List A}{vs rest:List Value}{C:Array Value}{E:TypeId}{fz:Nat×Nat}{b:Nat}(hb:w.heap[b]? =some (.cells C E fz))(hC:C.toList=vs++rest)(ha:ARv h ρ w I cs vs)(ho:∀u∈vs,u.oneCell'=true):ARs h ρ w I cs b:=
 aCA ha fun k v hk=>⟨by
  rw[dZ hb,<-Array.getElem?_toList,hC,Be (At.1 hk).1];exact hk,ho v (Bo hk)⟩
theorem YN{esz:Nat}{x:A}{xv:Value}{n:Nat}{asx:List A}(he:pU h esz x=some (n,asx))(r:Rel G h ρ w I)(hx:AR h ρ w I x xv):
  (∀w',(Builtin.lenOf xv).run P w'=.ok n w')/\asx.length=n*esz/\∃vs,ARv h ρ w I asx vs/\(∀u∈vs,u.oneCell'=true)/\∀w':World,w'.heap=w.heap->(Builtin.firstCells esz n xv).run P w'=.ok vs.toArray w':=by
 have plain:(cG h esz x).map (fun r=>(r.1,r.2.map A.d))=some (n,asx)->(∀w',(Builtin.lenOf xv).run P w'=.ok n w')/\asx.length=n*esz/\∃vs,ARv h ρ w I asx vs/\(∀u∈vs,u.oneCell'=true)/\∀w':World,w'.heap=w.heap->(Builtin.firstCells esz n xv).run P w'=.ok vs.toArray w':=by
  intro hh;obtain⟨⟨m,ds⟩,h1,h2⟩:=Az.1 hh;obtain⟨rfl,rfl⟩:=h2;obtain⟨g1,g2,vs,g3,g4,g5⟩:=zS (P:=P) h1 r hx;exact⟨g1,by simpa using g2,vs,(nW ds vs).2 g3,g4,g5⟩
 cases x with
 |sl id gen off len=>
  simp only[pU]at he
  cases hid:h[id]? with
  |none=>grind
  |some o=>
   rw[hid]at he
   cases o with
   |arr cs e g=>grind
   |box cs=>grind
   |ice cs e g=>grind
   |mp es=>grind
   |log cs=>grind
   |void=>grind
   |vec cs e g=>
    simp only[]at he
    split at he
    ·rename_i hc
     cases he;obtain⟨a,cap,rfl,hs⟩:=hx
     simp only[slOK,hid]at hs;have h3:=hs.2 hc.1.symm
     rcases De n with h0|h0
     ·subst h0;refine⟨fun w'=>rfl,by simp,[],by simp[ARv],by simp,fun w' _=> ?_⟩
      cases a<;>simp[Builtin.firstCells,loadCells,loadCellsFrom]
     ·have hO:=r.obj id _ hid;simp only[OR]at hO
      cases hρ:ρ id with
      |none=>grind
      |some b=>
       rw[hρ]at hO h3;obtain⟨_,_,C,E,fz,_,_,hd⟩:=hO
       rcases h3.2 with h4|⟨h4,_⟩
       ·grind
       ·subst h4;have hl:((cs.drop off).take (n*esz)).length=n*esz:=by grind
        obtain⟨vs,h1,h2⟩:=wF (h:=h) (ρ:=ρ) (w:=w) (I:=I) (b:=b) ((cs.drop off).take (n*esz)) off (fun k c hk=>by
         rw[Dh]at hk
         split at hk
         ·exact hd (off+k) c (by simpa using hk)
         ·cases hk)
        have hvl:vs.length=n*esz:=by rw[<-gL h1,hl]
        refine⟨fun w'=>rfl,hl,vs,h1,fun u hu=> ?_,fun w' hw'=> ?_⟩
        ·obtain⟨k,hk⟩:=List.mem_iff_getElem?.1 hu;exact(h2 k u hk).2
        ·have:=run_loadCells' (P:=P) (w:=w') (b:=b) (o:=off) vs (fun k v hk=>(dX (w:=w) (w':=w') (by rw[hw'])).trans (h2 k v hk).1);rw[hvl]at this
         simpa [Builtin.firstCells]using this
    ·cases he
 |_=>simp only[pU]at he;exact plain he
theorem aCk{t u:TypeId}{ty:TypeId}{x y:A}{id gen off len:Nat}{sv xv:Value}{h':H}{d:TypeDesc}(hd:P.underlying u=some d)(hnd:∀k,d≠.int k)(he:oS P h t id gen off len x=some (y,h'))(r:Rel G h ρ w I)(hs:AR h ρ w I (.sl id gen off len) sv)(hx:AR h ρ w I x xv):
  ∃v ρ' w',(Builtin.append_ #[t,u] ty #[sv,xv]).run P w=.ok v w'/\Step G h ρ w I h' ρ' w' I/\AR h' ρ' w' I y v:=by
 unfold oS at he
 split at he
 ·rename_i e hel
  have hu:=pM hel
  split at he
  ·rename_i hok
   obtain⟨i,z,zv,hi,hz,hzv,hrun,hzr,hsz,hzl,_,hpos,hb0,hb1,hone⟩:=GI hok
   split at he
   ·rename_i n src cs e0 g hsrc hid
    obtain⟨hlen,hsl,vs,hdv,hvone,hfirst⟩:=YN (P:=P) hsrc r hx;have hvl:vs.length=n*P.cellsOf e:=by rw[<-gL hdv,hsl]
    split at he
    ·rename_i hc
     cases he;obtain⟨hg,he0,hoff,hle,hneed⟩:=hc
     subst hg;subst hoff;simp only[AR]at hs;obtain⟨a,cap,rfl,hs⟩:=hs;simp only[slOK,hid]at hs;obtain⟨hlc,hs⟩:=hs.2 trivial;have hlt:id<h.length:=(At.1 hid).1;have hset:∀o,(h.set id o)[id]? =some o:=fun o=>by simp[hlt]
     have hO:=r.obj id _ hid
     have hslk:∀(rb:Option Nat) (w':World),Imm w I w' I->∀gen off' len' a' cap',slOK h ρ w I id gen off' len' a' cap'->slOK (h.set id (.vec (cs.take (len*P.cellsOf e)++src) (P.cellsOf e) (g+1))) (upd ρ id rb) w' I id gen off' len' a' cap':=by
      intro rb w' _ gen off' len' a' cap' hh;simp only[slOK,hid]at hh;simp only[slOK,hset];exact⟨by omega,fun h=>by omega⟩
     have hptk:∀(rb:Option Nat) (w':World),Imm w I w' I->∀gen b,ptOK h ρ w I id gen b->ptOK (h.set id (.vec (cs.take (len*P.cellsOf e)++src) (P.cellsOf e) (g+1))) (upd ρ id rb) w' I id gen b:=by
      intro rb w' _ gen b hh;simp only[ptOK,hid]at hh;simp only[ptOK,hset];exact⟨by omega,fun h=>by omega⟩
     have hold:∃old:List Value,ARv h ρ w I (cs.take (len*P.cellsOf e)) old/\(∀u∈old,u.oneCell'=true)/\old.length=len*P.cellsOf e/\
       ∀w':World,w'.heap=w.heap->(Builtin.firstCells (P.cellsOf e) len (.slice a len cap)).run P w'=.ok old.toArray w':=by
      have hsc:pU h (P.cellsOf e) (.sl id g 0 len)=some (len,(cs.drop 0).take (len*P.cellsOf e))\/(e0=0/\len≠0):=by
       simp only[pU,hid]
       by_cases h0:len=0\/e0=P.cellsOf e
       ·left;rw[if_pos ⟨trivial,h0,by omega⟩]
       ·right;omega
      rcases hsc with hsc|⟨hz0,hl0⟩
      ·obtain⟨_,hl2,old,ho1,ho2,ho3⟩:=YN (P:=P) hsc r (show AR h ρ w I (.sl id g 0 len) (.slice a len cap)from by
        simp only[AR,slOK,hid];exact⟨a,cap,rfl,Ad _,fun _=>⟨hlc,hs⟩⟩)
       simp only[Ax]at ho1 hl2;exact⟨old,ho1,ho2,by rw[<-gL ho1,hl2],ho3⟩
      ·exfalso;simp only[OR]at hO
       cases hρ:ρ id with
       |none=>rw[hρ]at hs;simp only[]at hs;omega
       |some b=>rw[hρ]at hO;omega
     obtain⟨old,ho1,ho2,ho3,ho4⟩:=hold;have hnew1:ARv h ρ w I (cs.take (len*P.cellsOf e)++src) (old++vs):=sU ho1 hdv;have hones:∀u∈old++vs,u.oneCell'=true:=fun u hu=>(Aq.1 hu).elim (ho2 u) (hvone u)
     have hlen2:(cs.take (len*P.cellsOf e)++src).length=(len+n)*P.cellsOf e:=by
      rw[Ai,Cv,hsl,Bw];omega
     by_cases hroom:len+n<=cap
     ·-- in aH
      by_cases hcap0:cap=0
      ·have hl0:len=0:=om;have hn0:n=0:=om;subst hcap0;subst hl0;subst hn0;have hv0:vs=[]:=Bs.1 om;have hs0:src=[]:=Bs.1 om;subst hv0;subst hs0
       have s1:=d8 (o':=.vec (cs.take (0*P.cellsOf e)++[]) (P.cellsOf e) (g+1)) (w':=w) (I':=I) r hid trivial (ρ id) rfl rfl rfl (Ad _) (fun _ _ _=>rfl) (fun _ hb=>hb) (fun _ hb=>.inl hb) (fun _ hb=>.inl hb) (hslk _ w) (hptk _ w) (fun ext=>by
        simp only[OR,cO]at hO|-
        cases hρ:ρ id with
        |none=>simp
        |some b=>
         rw[hρ]at hO;obtain⟨hez,h2,C,E,fz,h3,h4,_⟩:=hO;have hee:e0=P.cellsOf e:=om;subst hee;exact⟨hpos,h2,C,E,fz,h3,h4,fun k c hk=>by simp at hk⟩)
       refine⟨_,_,w,hZ (base:=a) (sLen:=0) (sCap:=0) hu hi hd hnd hlen (hfirst w rfl) (Ad _) (fun b _=>by simp[storeCells]) (fun _=>rfl),s1,?_⟩;simp only[AR];refine⟨a,0,rfl,?_⟩;simp only[slOK,hset,cO];refine⟨Ad _,fun _=>⟨Ad _,?_⟩⟩
       cases ρ id with
       |none=>exact trivial
       |some b=>exact .inl trivial
      ·simp only[OR]at hO
       cases hρ:ρ id with
       |none=>rw[hρ]at hs;simp only[]at hs;omega
       |some b=>
        rw[hρ]at hs hO;simp only[]at hs hO
        rcases hs with hs|⟨ha,_,C2,E2,fz2,hC2,hcapC⟩
        ·omega
        ·subst ha;obtain⟨hez,hIb,C,E,fz,hC,hfz,hcs⟩:=hO;rw[hC2]at hC;cases hC;have hee:e0=P.cellsOf e:=om;subst hee;have hblt:=(Bn.1 hC2).1
         have hfit:len*P.cellsOf e+vs.length<=C2.size:=by
          have:(len+n)*P.cellsOf e<=cap*P.cellsOf e:=Nat.mul_le_mul_right _ hroom;rw[hvl,<-Bw];omega
         obtain⟨C',h1,h2,h3⟩:=yO (P:=P) (o:=len*P.cellsOf e) vs 0 C2 w hC2 hfz.1 om hvone
         have hst:(storeCells (Addr.add ⟨b,0,none⟩ (len*P.cellsOf e)) vs).run P w=.ok () (cZ w b (.cells C' E2 fz2)):=by
          rw[kA,Ag];exact h1
         obtain⟨f1,f2,f3,f4⟩:=nM (w:=w) (b:=b) (o:=.cells C' E2 fz2)
         have s1:=d8 (o':=.vec (cs.take (len*P.cellsOf e)++src) (P.cellsOf e) (g+1)) (w':=cZ w b (.cells C' E2 fz2)) (I':=I) r hid trivial (ρ id) f1 f2 f3 (by rw[f4];exact Ad _)
          (fun k _ hne=>nL (fun e=>hne (by rw[hρ,e]))) (fun _ hb=>hb) (fun _ hb=>.inl hb) (fun _ hb=>.inl hb) (hslk _ _) (hptk _ _) (fun ext=>by
           simp only[OR,hρ,bA];refine⟨hpos,hIb,C',E2,fz2,eN hblt,hfz.keep om,?_⟩;rw[hρ]at ext;refine aCA (fW ext _ _ hnew1) (fun k v hk=>⟨?_,hones v (Bo hk)⟩);rw[s9 hblt,h3 k]
           by_cases hin:k<len*P.cellsOf e
           ·rw[if_neg om];rw[Be om]at hk;have hk2:=ho4 w rfl;obtain⟨d0,hd0⟩:∃d0,cs[k]? =some d0:=⟨cs[k],by simp⟩
            obtain⟨u0,hu0,_,_⟩:=hcs k d0 hd0;rw[dZ hC2]at hu0;rw[hu0];have hload:=hk2;simp only[Builtin.firstCells]at hload
            have hvals:∃vs2:List Value,vs2.length=len*P.cellsOf e/\∀(j:Nat) (x:Value),vs2[j]? =some x->cellAt w b (0+j)=some x:=
             ⟨C2.toList.take (len*P.cellsOf e),by simp;omega,fun j x hj=>by
              rw[Ag,dZ hC2];rw[Dh]at hj
              split at hj
              ·simpa using hj
              ·cases hj⟩
            obtain⟨vs2,hv1,hv2⟩:=hvals;have hl2:=run_loadCells' (P:=P) (w:=w) (b:=b) (o:=0) vs2 hv2;rw[hv1,hload]at hl2;have:old=vs2:=by injection hl2 with hl2 _;simpa using hl2
            subst this;have:=hv2 k v hk;rw[dZ hC2,Ag,hu0]at this;exact this
           ·have hlt2:=(At.1 hk).1;rw[Ai,ho3]at hlt2;rw[if_pos om];rw[Bq om,ho3]at hk;rw[Bm];exact hk)
         rw[cO]at s1;refine⟨_,ρ,_,hZ (base:=some ⟨b,0,none⟩) hu hi hd hnd hlen (hfirst w rfl) hroom (fun a ha=>by cases ha;exact hst) (fun hh=>by cases hh),s1,?_⟩;simp only[AR];refine⟨_,_,rfl,?_⟩;simp only[slOK,hset,hρ];exact⟨Ad _,fun _=>⟨hroom,.inr ⟨trivial,by omega,C',E2,fz2,eN hblt,by omega⟩⟩⟩
     ·-- a new row
      obtain⟨ncap,hncap,hrun2⟩:=rC (P:=P) (ty:=ty) (base:=a) (sLen:=len) (sCap:=cap) (old:=old) hu hi hd hnd hlen hfirst ho4 hrun hb0 hb1 hroom hneed;have hC:(old.toArray++(vs.toArray++Builtin.zeroCells zv.cells (ncap-(len+n)))).toList=(old++vs)++(Builtin.zeroCells zv.cells (ncap-(len+n))).toList:=sm
      have hCs:(old.toArray++(vs.toArray++Builtin.zeroCells zv.cells (ncap-(len+n)))).size=ncap*P.cellsOf e:=by
       rw[<-Array.length_toList,hC,Ai,Ai,oK,hvl,ho3];simp[hsz];rw[<-Bw,<-Bw];congr 1;omega
      have s1:=d8 (o':=.vec (cs.take (len*P.cellsOf e)++src) (P.cellsOf e) (g+1)) (w':=w.drew.alloc (.cells (old.toArray++(vs.toArray++Builtin.zeroCells zv.cells (ncap-(len+n)))) e)) (I':=I) r hid trivial (some w.heap.size)
       (Grew.drewAlloc (m:=true) w _).os (Grew.drewAlloc (m:=true) w _).tape (Grew.drewAlloc (m:=true) w _).output (Grew.drewAlloc (m:=true) w _).size (fun k hk _=>(Grew.drewAlloc (m:=true) w _).same k hk) (fun _ hb=>hb) (fun _ hb=>.inl hb) (fun b hb=>by cases hb;exact .inr (Ad _)) (hslk _ _) (hptk _ _) (fun ext=>by
        simp only[OR,bA];exact⟨hpos,fun hI=>by have:=r.imm _ hI;omega,_,e,(0,0),dT w _,l9 _ _,aAQ (dT w _) hC (fW ext _ _ hnew1) hones⟩)
      refine⟨_,_,_,hrun2,s1,?_⟩;simp only[AR];refine⟨_,_,rfl,?_⟩;simp only[slOK,hset,bA];exact⟨Ad _,fun _=>⟨hncap,.inr ⟨trivial,by omega,_,e,(0,0),dT w _,by rw[Ag];exact Nat.le_of_eq hCs.symm⟩⟩⟩
    ·cases he
   ·cases he
  ·cases he
 ·cases he
theorem aGy{h:H}{id e g:Nat}(hem:GV h id=some (e,g)):h[id]? =some (.arr [] e g):=by
 unfold GV at hem
 split at hem
 ·grind
 ·cases hem
theorem aP3{id e g:Nat}(r:Rel G h ρ w I)(hid:h[id]? =some (.arr [] e g)):Step G h ρ w I (h.set id (.vec [] e g)) ρ w I:=by
 have hlt:id<h.length:=by grind
 have at_id:(h.set id (.vec [] e g))[id]? =some (.vec [] e g):=by grind
 have hO:=r.obj id _ hid
 have s:=d8 (o':=.vec [] e g) (w':=w) (I':=I) r hid trivial (ρ id) rfl rfl rfl (Ad _) (fun _ _ _=>rfl) (fun _ hb=>hb) (fun _ hb=>.inl hb) (fun _ hb=>.inl hb)
  (fun _ gen off len a cap hs=>by
   rw[cO];simp only[slOK,hid]at hs;simp only[slOK,at_id];exact hs)
  (fun _ gen b hs=>by
   rw[cO];simp only[ptOK,hid]at hs;simp only[ptOK,at_id];exact hs)
  (fun _=>by
   rw[cO];simp only[OR]at hO|-
   cases hρ:ρ id with
   |none=>trivial
   |some b=>
    rw[hρ]at hO;obtain⟨h1,h2,C,E,fz,h3,h4,_⟩:=hO;exact⟨h1,h2,C,E,fz,h3,h4,fun k c hk=>by simp at hk⟩)
 rw[cO]at s;exact s
theorem aOw{t u:TypeId}{ty:TypeId}{s x y:A}{sv xv:Value}{h':H}{d:TypeDesc}(hd:P.underlying u=some d)(hnd:∀k,d≠.int k)(he:pV P h t s x=some (y,h'))(r:Rel G h ρ w I)(hs:AR h ρ w I s sv)(hx:AR h ρ w I x xv):
  ∃v ρ' w' I',(Builtin.append_ #[t,u] ty #[sv,xv]).run P w=.ok v w'/\Step G h ρ w I h' ρ' w' I'/\AR h' ρ' w' I' y v:=by
 unfold pV at he
 split at he
 ·split at he
  ·obtain⟨v,ρ',w',h1,h2,h3⟩:=aCk hd hnd he r hs hx;exact⟨v,ρ',w',I,h1,h2,h3⟩
  ·split at he
   ·split at he
    ·rename_i e g hem
     have s1:=aP3 r (aGy hem);obtain⟨v,ρ',w',h1,h2,h3⟩:=aCk hd hnd he s1.rel (iY s1.ext _ _ hs) (iY s1.ext _ _ hx);exact⟨v,ρ',w',I,h1,s1.trans h2,h3⟩
    ·exact F2 hd hnd he r hs hx
   ·exact F2 hd hnd he r hs hx
 ·exact F2 hd hnd he r hs hx
theorem aMh{t:TypeId}{k k':IntKind}{l c:Int}{x:A}{h':H}(he:G7 P h t l c=some (x,h'))(r:Rel G h ρ w I):
  ∃u ρ' w',(Instr.makeSlice t (.int k l) (.int k' c)).run P w=.ok u w'/\Step G h ρ w I h' ρ' w' I/\AR h' ρ' w' I x u:=by
 unfold G7 at he
 split at he
 ·rename_i e hel
  have hu:=pM hel
  split at he
  ·rename_i z hz
   split at he
   ·rename_i zs hzs
    split at he
    ·rename_i hc
     cases he;obtain⟨hel2,h0,hlc,hcm⟩:=hc
     obtain⟨i,z',zv,hi,hz',hzv,hrun,hzr,hsz,hzl,hok,hpos,hb0,hb1,hone⟩:=GI hel2;rw[hz]at hz';cases hz';have hbytes:i.bytes=P.bytesOf e:=by simp[Program.bytesOf,hi]
     obtain⟨l',rfl⟩:=Do h0;obtain⟨c',rfl⟩:=Do (Cy h0 hlc);have hlc':l'<=c':=om;have hcm':c'<=bI:=om;have wl:IntKind.i64.wrap (l':Int)=l':=PD om om;have wc:IntKind.i64.wrap (c':Int)=c':=PD om om;have hd:=fun w I=>VO (h:=[]) (ρ:=fun _=>none) (w:=w) (I:=I) hzs (hzr _ _ w I);have hzsl:zs.length=P.cellsOf e:=by rw[((iD _ _).1 (hd w I)).1];simpa using hsz
     have small:∀n:Nat,n<=bI->¬((P.bytesOf e:Int)*n>2^48):=by
      intro n hn;have h1:P.bytesOf e*n<=1024*bI:=Nat.mul_le_mul hb1 hn;have h2:(1024*bI:Nat)<=2^48:=by unfold bI;omega
      have h3:((P.bytesOf e*n:Nat):Int)<=((2^48:Nat):Int):=by exact_mod_cast Bk h1 h2
      rw[Int.natCast_mul]at h3;have h4:((2^48:Nat):Int)=2^48:=by norm_cast
      omega
     have hcells:((Array.range (c'*P.cellsOf e)).map fun j=>zv.cells[j % zv.cells.size]!).toList=(List.replicate c' zv.cells.toList).flatten:=by
      rw[Array.toList_map,Array.toList_range,<-sZ];simp[hsz]
     let C:Array Value:=(Array.range (c'*P.cellsOf e)).map fun j=>zv.cells[j % zv.cells.size]!
     have g:Grew G.keeps _ _:=Grew.push w (.cells C e (0,0));have hnew:({ w with heap:=w.heap.push (.cells C e (0,0))}:World).heap[w.heap.size]? =some (.cells C e (0,0)):=sm;have hCsz:C.size=c'*P.cellsOf e:=by simp[C]
     have hsplit:C.toList=(List.replicate l' zv.cells.toList).flatten++(List.replicate (c'-l') zv.cells.toList).flatten:=by
      show((Array.range (c'*P.cellsOf e)).map fun j=>zv.cells[j % zv.cells.size]!).toList=_;rw[hcells,<-List.flatten_append,List.replicate_append_replicate]
      congr 2;omega
     have s2:=fU r g (.vec ((List.replicate l' zs).flatten.map .d) (P.cellsOf e) 0) (some w.heap.size) (fun b hb=>by cases hb;exact Ad _) (fun ext=>by
      simp only[OR,bA];refine⟨hpos,fun hI=>by have:=r.imm _ hI;omega,C,e,(0,0),hnew,l9 _ _,aAQ hnew hsplit ((nW _ _).2 (aBe (hd _ _) l')) (fun u hu=> ?_)⟩;obtain⟨l1,hl1,hu1⟩:=List.mem_flatten.1 hu;rw[(List.mem_replicate.1 hl1).2]at hu1;exact hone u hu1)
     refine⟨.slice (some ⟨w.heap.size,0,none⟩) l' c',_,_,?_,s2,?_⟩
     ·have nc:=small c' hcm';rw[<-hbytes]at nc;have l0:¬((l':Int)<0):=om;have c0:¬((c':Int)<0):=om;have nc':¬((281474976710656:Int)<(i.bytes:Int)*c'):=om
      rcases De c' with hz0|hz0
      ·subst hz0;have hl0:l'=0:=om;subst hl0;simp[Instr.makeSlice,aR hu,asInt,asIntOf,vZ hi,show IntKind.i64.wrap 0=0 from by decide,cT hi,show Array.range 0= #[]from rfl,newRow,newObj,Sem.run,C]
      ·have hne:¬(c'*P.cellsOf e=0):=by have:=Nat.mul_pos hz0 hpos;omega
       have hll:¬((c':Int)<l'):=om;simp[Instr.makeSlice,aR hu,asInt,asIntOf,vZ hi,wl,wc,nc',hll,l0,c0,cT hi,hne,hrun,newRow,newObj,Sem.run,C]
     ·simp only[AR,Ct];refine⟨_,_,rfl,?_⟩;have e1:(h++[O.vec ((List.replicate l' zs).flatten.map .d) (P.cellsOf e) 0])[h.length]? =some (.vec ((List.replicate l' zs).flatten.map .d) (P.cellsOf e) 0):=sm;have hdl:((List.replicate l' zs).flatten.map A.d).length=l'*P.cellsOf e:=by simp[hzsl]
      simp only[slOK,e1,bA];exact⟨Ad _,fun _=>⟨hlc',.inr ⟨trivial,by omega,C,e,(0,0),hnew,by omega⟩⟩⟩
    ·cases he
   ·cases he
  ·cases he
 ·cases he
theorem aKp{t:TypeId}{len:Nat}{parts:Array (Nat×Operand)}{ev:Operand->Value}{asx:List A}{x:A}{h':H}(he:rS P h t len ((parts.toList.map (·.1)).zip asx)=some (x,h'))(r:Rel G h ρ w I)(ha:ARv h ρ w I asx ((parts.toList.map (·.2)).map ev)):
  ∃u ρ' w' I',(Instr.buildSlice t len (parts.map fun(i,x)=>(i,ev x))).run P w=.ok u w'/\Step G h ρ w I h' ρ' w' I'/\AR h' ρ' w' I' x u:=by
 have hl:(parts.toList.map (·.1)).length=asx.length:=by rw[gL ha];simp
 unfold rS at he
 split at he
 ·rename_i e hel
  have hu:=pM hel
  split at he
  ·rename_i z hz
   split at he
   ·rename_i hc
    obtain⟨i,z',zv,hi,hz',hzv,hrun,hzr,hsz,hzl,hok,hpos,_,_,hone⟩:=GI hc.1;rw[hz]at hz';cases hz'
    split at he
    ·rename_i cells hf
     split at he
     ·rename_i hokc
      ·cases he;have hzc:=aAP (hzr h ρ w I) len
       have hp:=DB (h:=h) (ρ:=ρ) (w:=w) (I:=I) (aH:=fun i=>some (i*P.cellsOf e,P.cellsOf e)) _ asx _ hl ha
       have hzero:((Array.range (len*P.cellsOf e)).map fun i=>zv.cells[i % zv.cells.size]!).toList=(List.replicate len zv.cells.toList).flatten:=by
        rw[Array.toList_map,Array.toList_range,<-sZ];simp[hsz]
       obtain⟨C',h2,h3⟩:=OF _ _ _ _ ((Array.range (len*P.cellsOf e)).map fun i=>zv.cells[i % zv.cells.size]!) hf hp (by rw[hzero];exact hzc);rw[LY]at h2
       have hones:∀u∈C'.toList,u.oneCell'=true:=by
        intro u hu;obtain⟨k,hk⟩:=List.mem_iff_getElem?.1 hu;have hlk:k<cells.length:=by rw[gL h3];exact(At.1 hk).1
        obtain⟨u',hu',hau⟩:=((eP _ _).1 h3).2 k cells[k] sm;rw[hk]at hu';cases hu';exact aCd hau (Bh.1 hokc _ sm)
       have g:Grew G.keeps _ _:=Grew.push w (.cells C' e (0,0));have hnew:({ w with heap:=w.heap.push (.cells C' e (0,0))}:World).heap[w.heap.size]? =some (.cells C' e (0,0)):=sm
       have s2:=fU r g (.vec cells (P.cellsOf e) 0) (some w.heap.size) (fun b hb=>by cases hb;exact Ad _) (fun ext=>by
        simp only[OR,bA];exact⟨hpos,fun hI=>by have:=r.imm _ hI;omega,C',e,(0,0),hnew,l9 _ _,aAQ (rest:=[]) hnew sm (fW ext _ _ h3) hones⟩)
       refine⟨.slice (some ⟨w.heap.size,0,none⟩) len len,_,_,I,?_,s2,?_⟩
       ·by_cases h0:len=0
        ·subst h0;have h2':Instr.fill (fun i=>some (i*P.cellsOf e,P.cellsOf e)) #[] (parts.toList.map fun x=>(x.1,ev x.2))=some C':=by simpa [show Array.range 0= #[]from rfl]using h2
         simp[Instr.buildSlice,aR hu,cT hi,show Array.range 0= #[]from rfl,h2',newRow,newObj,Sem.run]
        ·have hne:¬(len*P.cellsOf e=0):=by have:=Nat.mul_pos (show 0<len by omega) hpos;omega
         have hle:¬(2^24<len*P.cellsOf e):=by have:=hc.2;omega
         simp[Instr.buildSlice,aR hu,cT hi,hrun,hle,hne,h2,newRow,newObj,Sem.run]
       ·simp only[AR];refine⟨_,_,rfl,?_⟩;have e1:(h++[O.vec cells (P.cellsOf e) 0])[h.length]? =some (.vec cells (P.cellsOf e) 0):=sm
        have hcl:C'.size=len*P.cellsOf e:=by
         have a1:=gL h3;have a2:cells.length=(List.replicate len (aU z)).flatten.length:=aA8 _ _ _ hf;have a3:C'.toList.length=C'.size:=sm;rw[<-a3,<-a1,a2];simp[hzl]
        have hdl:cells.length=len*P.cellsOf e:=by rw[gL h3];simpa using hcl
        simp only[slOK,e1,bA];exact⟨Ad _,fun _=>⟨Ad _,.inr ⟨trivial,by omega,C',e,(0,0),hnew,by omega⟩⟩⟩
     ·cases he
    ·cases he
   ·cases he
  ·cases he
 ·cases he
end
end Ev
end Go.Proofs.YtahbdkmimmnadaaGreatDoor
namespace Go.Proofs.YtahbdkmimmnadaaGreatDoor
namespace Ev
variable{G:Gnd}
section
variable{P:Program}{h:H}{ρ:Rho}{w:World}{I:Nat->Prop}
theorem aDi(f:Int->UInt8):∀(ns:List Int) (acc:ByteArray),(ns.foldl (fun r n=>r.push (f n)) acc).data.toList=acc.data.toList++ns.map f
 | [],acc=>by simp
 |n::ns,acc=>by
  simp only[Co,Af];rw[aDi f ns];simp[ByteArray.push]
theorem aET:∀ {ds:List D} {bs:List UInt8} {vs:List Value},H0 ds=some bs->DRv w I ds vs->∃ns:List Int,vs=ns.map (Value.int .u8)/\bs=ns.map fun n=>UInt8.ofNat n.toNat
 | [],bs,vs,he,hd=>by
  simp only[H0,Option.some.injEq]at he;subst he;simp only[DRv]at hd;subst hd;exact⟨[],rfl,rfl⟩
 |d::ds,bs,vs,he,hd=>by
  obtain⟨v,rest,rfl,h1,h2⟩:=hd;unfold H0 at he
  split at he
  ·grind
  ·rename_i n ds' h0
   cases h0;simp only[Az]at he
   obtain⟨bs',hbs,rfl⟩:=he;obtain⟨ns,rfl,rfl⟩:=aET hbs h2;subst h1;exact⟨n::ns,rfl,rfl⟩
  ·cases he
theorem aKs{s:ByteArray}{l:List UInt8}(h:s.data.toList=l):s=⟨l.toArray⟩:=by
 cases s with
 |mk d=>simp only at h;rw[<-h]
theorem aDP(w:World)(e:TypeId)(s:ByteArray):∃fz,(Lib.bytesWorld w e s).heap[w.heap.size]? =some (.cells (Lib.bytesCells w e s) e fz)/\wM (Lib.bytesCells w e s) fz:=by
 refine⟨((Lib.bytesCells w e s).size,(Lib.bytesCells w e s).size+1),?_,fun j hj h=>by simp at h;omega⟩
 have e0:(Lib.bytesWorld w e s).heap[w.heap.size]? =((w.heap.push (.cells (Lib.bytesCells w e s) e)).modify w.heap.size fun
   |.cells c elem (lo,hi)=>.cells c elem (if lo==hi then((Lib.bytesCells w e s).size,(Lib.bytesCells w e s).size+1)else(min lo (Lib.bytesCells w e s).size,max hi ((Lib.bytesCells w e s).size+1)))
   |o=>o)[w.heap.size]?:=rfl
 rw[e0,Array.getElem?_modify,if_pos rfl];simp
theorem aPg{esz:Nat}{x:A}{v:Value}{r:Nat×List D}(he:cG h esz x=some r)(hx:AR h ρ w I x v)(hn:∀s,x≠.d (.str s)):∃a len cap,v=.slice a len cap:=by
 unfold cG at he
 split at he
 ·simp only[AR,DR]at hx;obtain⟨a,rfl⟩:=hx;exact⟨_,_,_,rfl⟩
 ·simp only[AR,DR]at hx;obtain⟨a,cap,rfl,_⟩:=hx;exact⟨_,_,_,rfl⟩
 ·grind
 ·simp only[AR]at hx;obtain⟨a,cap,rfl,_⟩:=hx;exact⟨_,_,_,rfl⟩
 ·cases he
theorem aMl{src dst:TypeId}{a x:A}{v:Value}{h':H}(he:gE P h src dst a=some (x,h'))(r:Rel G h ρ w I)(ha:AR h ρ w I a v):
  ∃u ρ' w',(convert src dst v).run P w=.ok u w'/\Step G h ρ w I h' ρ' w' I/\AR h' ρ' w' I x u:=by
 unfold gE at he
 split at he
 ·rename_i k1 k2 k n hs hd
  cases he;simp only[AR,DR]at ha;subst ha
  exact⟨.int k2 (k2.wrap n),ρ,w,by simp[convert,aR hs,aR hd,Conv.intToInt],.refl r,by simp only[AR,DR]⟩
 ·rename_i k1 k n hs hd
  cases he;simp only[AR,DR]at ha;subst ha
  exact⟨.string (Utf8.encode n),ρ,w,by simp[convert,aR hs,aR hd,Conv.intToString],.refl r,by simp only[AR,DR]⟩
 ·rename_i s hs hd
  cases he;simp only[AR,DR]at ha;subst ha
  exact⟨_,ρ,w,by simp[convert,aR hs,aR hd];rfl,.refl r,by simp only[AR,DR]⟩
 ·rename_i e s hs hd
  split at he
  ·rename_i hm
   have hel:=hm;simp only[if_true]at he;cases he;simp only[AR,DR]at ha;subst ha;have hrun:=Lib.run_convert_string_bytes w src dst e ⟨s.toArray⟩ hs hd hel;obtain⟨fz,hnew,hfz⟩:=aDP w e ⟨s.toArray⟩;have hsz:(⟨s.toArray⟩:ByteArray).size=s.length:=by simp[ByteArray.size]
   have g:Grew G.keeps w (Lib.bytesWorld w e ⟨s.toArray⟩):=by
    refine⟨?_,?_,?_,?_,fun b hb=>Lib.bytesWorld_at_old w e _ b hb,?_⟩
    rotate_right
    ·simp[Lib.bytesWorld,World.freeze,World.alloc,World.drew,-World.alloc_eq,-World.drew_eq]
    ·simp[Lib.bytesWorld,World.freeze,World.alloc,World.drew,-World.alloc_eq,-World.drew_eq]
    ·simp[Lib.bytesWorld,World.freeze,World.alloc,World.drew,-World.alloc_eq,-World.drew_eq]
    ·simp[Lib.bytesWorld,World.freeze,World.alloc,World.drew,-World.alloc_eq,-World.drew_eq]
    ·simp[Lib.bytesWorld,World.freeze,World.alloc,World.drew,-World.alloc_eq,-World.drew_eq]
   have hC:(Lib.bytesCells w e ⟨s.toArray⟩).toList=(s.map fun b=>Value.int .u8 b.toNat)++(Array.replicate (grownCap w (⟨s.toArray⟩:ByteArray).size 0 e-(⟨s.toArray⟩:ByteArray).size) (Value.int .u8 0)).toList:=by
    simp[Lib.bytesCells]
   have s1:=fU r g (.arr (s.map fun b=>.int .u8 b.toNat) 1 0) (some w.heap.size) (fun b hb=>by cases hb;exact Ad _) (fun ext=>by
    simp only[OR,bA];refine⟨by omega,fun hI=>by have:=r.imm _ hI;omega,_,e,fz,hnew,⟨hfz,fun h=>absurd rfl h⟩,AY hnew hC ?_ ?_⟩
    ·rw[iD];refine⟨by simp,fun k d hk=> ?_⟩;rw[Bb]at hk|-
     cases hk':s[k]? with
     |none=>rw[hk']at hk;cases hk
     |some b=>rw[hk']at hk;simp at hk;subst hk;exact⟨_,rfl,by simp only[DR]⟩
    ·intro u hu;obtain⟨b,_,rfl⟩:=Bf.1 hu;rfl)
   have hcap:s.length<=grownCap w (⟨s.toArray⟩:ByteArray).size 0 e:=by rw[hsz];simp[grownCap,Question.cut]
   refine⟨_,_,_,hrun,s1,?_⟩;simp only[AR];rw[hsz];refine⟨_,_,rfl,?_⟩;have e1:(h++[O.arr (s.map fun b=>D.int .u8 b.toNat) 1 0])[h.length]? =some (.arr (s.map fun b=>D.int .u8 b.toNat) 1 0):=sm;simp only[slOK,e1,bA];refine⟨Ad _,fun _=>⟨by rw[<-hsz]at hcap|-;rw[hsz]at hcap;rw[hsz];exact hcap,.inr ⟨trivial,by simp,_,e,fz,hnew,?_⟩⟩⟩;rw[<-Array.length_toList,hC];simp;rw[hsz]at hcap|-;omega
  ·simp at he
 ·cases he
 ·rename_i e hs hd hnos
  split at he
  ·rename_i hm
   have hel:=hm;simp only[if_true]at he
   split at he
   ·rename_i n cs hsc
    simp only[Az]at he;obtain⟨bs,hbs,he⟩:=he;cases he;obtain⟨hlen,hcl,vs,hdv,hone,hfirst⟩:=zS (P:=P) hsc r ha;obtain⟨ns,rfl,rfl⟩:=aET hbs hdv;have hl:=hfirst w rfl;have hln:=hlen w;obtain⟨a,len,cap,rfl⟩:=aPg hsc ha hnos;simp only[Builtin.lenOf,Sem.run_pure,Result.ok.injEq]at hln
    cases a with
    |none=>
     simp only[Builtin.firstCells,Sem.run_pure,Result.ok.injEq]at hl;have:ns=[]:=by have:=hl.1;cases ns with|nil=>rfl|cons=>simp at this
     subst this;exact⟨.string .empty,ρ,w,by simp[convert,aR hs,aR hd,aR hel,Conv.bytesToString],.refl r,by simp only[AR,DR];rfl⟩
    |some a=>
     simp only[Builtin.firstCells,Bu]at hl;rw[<-hln.1]at hl;have:=run_bytesToString (P:=P) w a len cap ns hl;refine⟨_,ρ,w,by simp[convert,aR hs,aR hd,aR hel,this];rfl,.refl r,?_⟩;simp only[AR,DR]
     congr 1
     refine aKs ?_;rw[aDi];simp
   ·cases he
  ·simp at he
 ·cases he
end
end Ev
end Go.Proofs.YtahbdkmimmnadaaGreatDoor
namespace Go.Proofs.YtahbdkmimmnadaaGreatDoor
namespace Ev
variable{G:Gnd}
def j8(G:Gnd)(P:Program)(call:aX):Prop:=∀(f:FuncId) (args:List A) (h:H) (x:A) (h':H),call f args h=some (x,h')->
 (∃ fn, P.funcs[f]? = some fn ∧ fn.body.isNone = false ∧ (fn.name == "runtime.NumGoroutine") = false) ∧
 ∀(ρ:Rho) (w:World) (I:Nat->Prop) (vs:List Value),Rel G h ρ w I->ARv h ρ w I args vs->
  Calls P f vs.toArray w fun e w'=>∃v ρ' I',e=.returned v/\Step G h ρ w I h' ρ' w' I'/\AR h' ρ' w' I' x v
structure EnvOK(E:Env):Prop where
 eqs:aLW E.P E.eqs
 mixed:E.P.follows .mixedOrders=true
section
variable{E:Env}{call:aX}{h:H}{ρ:Rho}{w:World}{I:Nat->Prop}
theorem aPd{x:A}{v:Value}(hp:iA x=true){h':H}{ρ':Rho}{w':World}{I':Nat->Prop}{h2:H}{ρ2:Rho}{w2:World}{I2:Nat->Prop}(ha:AR h' ρ' w' I' x v):AR h2 ρ2 w2 I2 x v:=by
 have scal:∀(x:D) (v:Value),(match x with|.int _ _|.bool _|.str _=>true|_=>false)=true->DR w' I' x v->DR w2 I2 x v:=by
  intro x v hx hd
  cases x<;>first|(simp at hx;done)|(simp only[DR]at hd|-;exact hd)
 cases x with
 |d y=>simp only[AR]at ha|-;exact scal y v (by cases y<;>first|rfl|simp[iA]at hp) ha
 |tup vs=>
  obtain⟨C,rfl,hc⟩:=ha;refine⟨C,rfl,?_⟩;rw[eP]at hc|-;refine⟨hc.1,fun k a hk=> ?_⟩;obtain⟨u,hu,hau⟩:=hc.2 k a hk;refine⟨u,hu,?_⟩;have:=Bh.1 hp a (Bo hk)
  cases a with
  |d y=>simp only[AR]at hau|-;exact scal y u (by cases y<;>first|rfl|simp at this) hau
  |_=>grind
 |_=>simp[iA]at hp
theorem w7{ρ0:Rho}(hi:∀b,I b->b<w.heap.size)(hg:Ground G w I):Rel G [] ρ0 w I:=
 ⟨fun id o ho=>by simp at ho,fun id id' b o o' _ _ ho=>by simp at ho,hi,hg⟩
theorem aJ7{ρ0:Rho}{b:Nat}:¬sW [] ρ0 b:=fun⟨_,_,_,ho,_⟩=>by simp at ho
theorem O2{ρ0:Rho}{I0:Nat->Prop}{h':H}{ρ':Rho}{w':World}{I':Nat->Prop}(s:Step G [] ρ0 w I0 h' ρ' w' I'):Grew G.keeps w w':=
 ⟨s.keep.os,s.keep.tape,s.keep.output,s.keep.size,fun b hb=>s.keep.same b hb aJ7,s.keep.drawn⟩
theorem aPY{ρ0:Rho}{x:A}{v:Value}(ha:AR [] ρ0 w I x v)(h':H)(ρ':Rho):AR h' ρ' w I x v:=
 iY ⟨kV w I,fun _ _ _ _ _ _ hs=>by simp[slOK]at hs,fun _ _ _ hs=>by simp[ptOK]at hs,fun _ _ hs=>by simp[mpOK]at hs⟩ x v ha
theorem aId {P : Program} {f : FuncId} {args : Array Value} {fn : Func} (h1 : P.funcs[f]? = some fn) (h2 : fn.body.isNone = false) (h3 : (fn.name == "runtime.NumGoroutine") = false) : (callFunc f args).run P w = .ok (.enter f args) w := by
 unfold callFunc;simp only[Sem.run_bind,run_program,Result.andThen_ok,h1,h2,h3,Ap,if_false]<;>rfl
theorem aIP{w:World}{I I':Nat->Prop}{d:D}{v:Value}(hd:zU d=true)(h:DR w I d v):DR w I' d v:=by
 cases d with
 |ivs n cs=>
  cases cs with
  |nil=>
   simp only[DR]at h|-;obtain⟨a,cap,h1,h2,_⟩:=h;exact⟨a,cap,h1,h2,.inl trivial⟩
  |cons c cs=>simp[zU]at hd
 |iptr cs=>simp[zU]at hd
 |fn f caps=>simp[zU]at hd
 |ifc t x=>simp[zU]at hd
 |_=>simpa only[DR]using h
theorem aNV{w:World}{I I':Nat->Prop}{cs:List D}{b o:Nat}(hd:cs.all zU=true)(h:DRs w I cs b o):DRs w I' cs b o:=by
 rw[fX]at h|-;intro k d hk;obtain⟨v,h1,h2,h3⟩:=h k d hk;exact⟨v,h1,aIP (Bh.1 hd d (Bo hk)) h2,h3⟩
section rebase
variable{h:H}{ρ:Rho}{w:World}{I I':Nat->Prop}
theorem aPu(hn:h.all nJ=true){id gen off len:Nat}{a:Option Addr}{cap:Nat}(hs:slOK h ρ w I id gen off len a cap):slOK h ρ w I' id gen off len a cap:=by
 unfold slOK at hs|-
 cases hid:h[id]? with
 |none=>grind
 |some o=>
  rw[hid]at hs
  cases o with
  |log cs=>have:=Bh.1 hn _ (Bo hid);simp[nJ]at this
  |ice cs e g=>have:=Bh.1 hn _ (Bo hid);simp[nJ]at this
  |_  =>grind
theorem aOV(hn:h.all nJ=true){id gen b:Nat}(hs:ptOK h ρ w I id gen b):ptOK h ρ w I' id gen b:=by
 unfold ptOK at hs|-
 cases hid:h[id]? with
 |none=>grind
 |some o=>
  rw[hid]at hs
  cases o with
  |log cs=>have:=Bh.1 hn _ (Bo hid);simp[nJ]at this
  |ice cs e g=>have:=Bh.1 hn _ (Bo hid);simp[nJ]at this
  |_  =>grind
mutual
theorem PY(hn:h.all nJ=true):∀(a:A) (v:Value),pE a=true->AR h ρ w I a v->AR h ρ w I' a v
 |.d x,v,hc,hh=>by simp only[pE]at hc;simp only[AR]at hh|-;exact aIP hc hh
 |.sl id gen off len,v,_,hh=>by
  simp only[AR]at hh|-;obtain⟨a,cap,hv,ho⟩:=hh;exact⟨a,cap,hv,aPu hn ho⟩
 |.ptr id gen off,v,_,hh=>by
  simp only[AR]at hh|-;obtain⟨b,hv,ho⟩:=hh;exact⟨b,hv,aOV hn ho⟩
 |.mp id,v,_,hh=>by
  simp only[AR]at hh|-;exact hh
 |.clo f caps,v,hc,hh=>by
  simp only[pE]at hc;simp only[AR]at hh|-;obtain⟨cv,hv,ho⟩:=hh;exact⟨cv,hv,L7 hn caps _ hc ho⟩
 |.agg cs,v,hc,hh=>by
  simp only[pE]at hc;simp only[AR]at hh|-;obtain⟨cv,hv,ho⟩:=hh;exact⟨cv,hv,L7 hn cs _ hc ho⟩
 |.tup cs,v,hc,hh=>by
  simp only[pE]at hc;simp only[AR]at hh|-;obtain⟨cv,hv,ho⟩:=hh;exact⟨cv,hv,L7 hn cs _ hc ho⟩
 |.junk,v,_,_=>by simp only[AR]
theorem L7(hn:h.all nJ=true):∀(asx:List A) (vs:List Value),kT asx=true->ARv h ρ w I asx vs->ARv h ρ w I' asx vs
 | [],vs,_,hh=>by simpa only[ARv]using hh
 |a::asx,vs,hc,hh=>by
  simp only[kT,Aj]at hc;simp only[ARv]at hh|-;obtain⟨v,rest,hv,ha,hr⟩:=hh;exact⟨v,rest,hv,PY hn a v hc.1 ha,L7 hn asx rest hc.2 hr⟩
end
theorem MX:∀ {cs:List A} {k:Nat} {c:A},kT cs=true->cs[k]? =some c->pE c=true
 | [],k,c,_,hk=>by simp at hk
 |a::asx,0,c,hc,hk=>by
  simp only[kT,Aj]at hc;simp at hk;subst hk;exact hc.1
 |a::asx,k+1,c,hc,hk=>by
  simp only[kT,Aj]at hc;exact MX hc.2 (by simpa using hk)
theorem aNl(hn:h.all nJ=true)(hI:∀b,I' b->I b){id:Nat}{o:O}(hid:h[id]? =some o)(ho:OR h ρ w I id o):OR h ρ w I' id o:=by
 have hc:=Bh.1 hn _ (Bo hid)
 cases o with
 |log cs=>simp[nJ]at hc
 |arr cs e g=>
  simp only[OR]at ho|-
  cases hρ:ρ id with
  |none=>grind
  |some b=>
   rw[hρ]at ho;obtain⟨h1,h2,C,E,fz,h3,h4,h5⟩:=ho;exact⟨h1,fun hb=>h2 (hI b hb),C,E,fz,h3,h4,aNV hc h5⟩
 |box cs=>
  obtain⟨b,hρ,h2,C,E,fz,h3,h4,h5⟩:=ho;refine⟨b,hρ,fun hb=>h2 (hI b hb),C,E,fz,h3,h4,fun m c hm=> ?_⟩;obtain⟨v,hv,ha,hk⟩:=h5 m c hm;exact⟨v,hv,PY hn c v (MX hc hm) ha,hk⟩
 |vec cs e g=>
  simp only[OR]at ho|-
  cases hρ:ρ id with
  |none=>grind
  |some b=>
   rw[hρ]at ho;obtain⟨h1,h2,C,E,fz,h3,h4,h5⟩:=ho;refine⟨h1,fun hb=>h2 (hI b hb),C,E,fz,h3,h4,fun m c hm=> ?_⟩;obtain⟨v,hv,ha,hk⟩:=h5 m c hm;exact⟨v,hv,PY hn c v (MX hc hm) ha,hk⟩
 |mp es=>
  obtain⟨b,hρ,h2,M,c,h3,h4⟩:=ho;exact⟨b,hρ,fun hb=>h2 (hI b hb),M,c,h3,h4⟩
 |ice cs e g=>simp only[OR]
 |void=>simp only[OR]
end rebase
theorem aJ9{w w':World}{I I1 I2:Nat->Prop}{ρ0 ρ2:Rho}{h2:H}(s:Step G [] ρ0 w I1 h2 ρ2 w' I2)(hI:∀b,I b->I1 b)(hlt:∀b,I b->b<w.heap.size)(hg:Ground G w I)(hn:h2.all nJ=true):Step G [] ρ0 w I h2 ρ2 w' I:=by
 have up:∀b,I b->I2 b:=fun b hb=>(s.ext.imm b (hI b hb)).1;refine⟨⟨fun id o hid=>aNl hn up hid (s.rel.obj id o hid),s.rel.inj,fun b hb=>Db (hlt b hb) s.keep.size,hg.mono fun b hb=>⟨hb,(s.ext.imm b (hI b hb)).2⟩⟩,⟨fun b hb=>⟨hb,(s.ext.imm b (hI b hb)).2⟩,fun _ _ _ _ _ _ hs=>by simp[slOK]at hs,fun _ _ _ hs=>by simp[ptOK]at hs,fun _ _ hs=>by simp[mpOK]at hs⟩,⟨s.keep.os,s.keep.tape,s.keep.output,s.keep.size,s.keep.same,fun b hb=>.inl hb,s.keep.drawn⟩,s.own,s.len⟩
theorem aO1(hc:j8 G E.P call){f:FuncId}{args:List A}{x:A}{h':H}(he:bV call E.hint h f args=some (x,h')):
  (∃ fn, E.P.funcs[f]? = some fn ∧ fn.body.isNone = false ∧ (fn.name == "runtime.NumGoroutine") = false) ∧
  ∀(ρ:Rho) (w:World) (I:Nat->Prop) (vs:List Value),Rel G h ρ w I->ARv h ρ w I args vs->
   Calls E.P f vs.toArray w fun e w'=>∃v ρ' I',e=.returned v/\Step G h ρ w I h' ρ' w' I'/\AR h' ρ' w' I' x v:=by
 unfold bV at he
 split at he
 ·exact hc f args h x h' he
 ·split at he
  ·rename_i asx h1 hfr
   split at he
   ·rename_i r0 hcall
    split at he
    ·rename_i hp
     cases he;obtain⟨hf,hrun⟩:=hc f asx [] x [] hcall
     refine⟨hf,fun ρ w I vs r ha=> ?_⟩;obtain⟨I1,s1,d1⟩:=IR args h asx h1 hfr ρ w I vs r ha;refine(hrun (fun _=>none) w I1 vs (w7 s1.rel.imm s1.rel.ground) (d1.ar _ _)).mono ?_;rintro e w' ⟨v,ρ',I',rfl,s2,hx⟩;exact⟨v,ρ,I,rfl,K6 r (O2 s2),aPd hp hx⟩
    ·cases he
   ·cases he
  ·cases he
 ·split at he
  ·rename_i asx h1 hfr
   split at he
   ·rename_i r0 h2 hcall
    split at he
    ·rename_i hp
     cases he;simp only[Aj]at hp
     obtain⟨hf,hrun⟩:=hc f asx [] r0 h2 hcall;refine⟨hf,fun ρ w I vs r ha=> ?_⟩;obtain⟨I1,s1,d1⟩:=IR args h asx h1 hfr ρ w I vs r ha;refine(hrun (sub [] ρ) w I1 vs (w7 s1.rel.imm s1.rel.ground) (d1.ar _ _)).mono ?_;rintro e w' ⟨v,ρ',I',rfl,s2,hx⟩;have s2':=aJ9 (I:=I) s2 (fun b hb=>(s1.ext.imm b hb).1) r.imm r.ground hp.2;obtain⟨s3,hren⟩:=FV (ord:=[]) r sm sm (Cw _) (show Step G (pack h []) (sub [] ρ) w I h2 ρ' w' I from s2');simp only[bE]at s3 hren;exact⟨v,_,I,rfl,s3,DL (kV _ _) hren r0 v (PY hp.2 r0 v hp.1 hx)⟩
    ·cases he
   ·cases he
  ·cases he
 ·split at he
  ·rename_i asx h1 hfr
   split at he
   ·rename_i r0 hcall
    cases he;obtain⟨hf,hrun⟩:=hc f asx [] x [] hcall
    refine⟨hf,fun ρ w I vs r ha=> ?_⟩;obtain⟨I1,s1,d1⟩:=IR args h asx h' hfr ρ w I vs r ha;refine(hrun (sub [] ρ) w I1 vs (w7 s1.rel.imm s1.rel.ground) (d1.ar _ _)).mono ?_;rintro e w' ⟨v,ρ',I',rfl,s2,hx⟩;obtain⟨s3,_⟩:=FV (ord:=[]) s1.rel sm sm (Cw _) (show Step G (pack h' []) (sub [] ρ) w I1 [] ρ' w' I' from s2);have e1:bE (back [] (List.length h') (List.length ([]:H))) h' [] []=h':=by simp[bE]
    rw[e1]at s3;exact⟨v,_,I',rfl,s1.trans s3,aPY hx _ _⟩
   ·rename_i r0 h2 _ hcall
    cases he;obtain⟨hf,hrun⟩:=hc f asx [] r0 h2 hcall
    refine⟨hf,fun ρ w I vs r ha=> ?_⟩;obtain⟨I1,s1,d1⟩:=IR args h asx h1 hfr ρ w I vs r ha;refine(hrun (sub [] ρ) w I1 vs (w7 s1.rel.imm s1.rel.ground) (d1.ar _ _)).mono ?_;rintro e w' ⟨v,ρ',I',rfl,s2,hx⟩;obtain⟨s3,hren⟩:=FV (ord:=[]) s1.rel sm sm (Cw _) (show Step G (pack h1 []) (sub [] ρ) w I1 h2 ρ' w' I' from s2);simp only[bE]at s3 hren;exact⟨v,_,I',rfl,s1.trans s3,DL (kV _ _) hren r0 v hx⟩
   ·cases he
  ·cases he
theorem aLy(hc:j8 G E.P call){c:A}{args:List A}{x:A}{h':H}(he:f5 call E.hint h c args=some (x,h')){cv:Value}{vs:List Value}(r:Rel G h ρ w I)(hcv:AR h ρ w I c cv)(ha:ARv h ρ w I args vs):
  ∃f asx,(do let d<-Deferred.ofValue cv vs.toArray;invoke d.target d.args:Sem Next).run E.P w=.ok (.enter f asx) w/\
   Calls E.P f asx w fun e w'=>∃v ρ' I',e=.returned v/\Step G h ρ w I h' ρ' w' I'/\AR h' ρ' w' I' x v:=by
 have key:∀(f:FuncId) (caps:List A) (cap:Array Value),bV call E.hint h f (args++caps)=some (x,h')->ARv h ρ w I caps cap.toList->cv=.func (.func f) #[] cap->
   ∃f asx,(do let d<-Deferred.ofValue cv vs.toArray;invoke d.target d.args:Sem Next).run E.P w=.ok (.enter f asx) w/\
    Calls E.P f asx w fun e w'=>∃v ρ' I',e=.returned v/\Step G h ρ w I h' ρ' w' I'/\AR h' ρ' w' I' x v:=by
  intro f caps cap he hcap hcv;subst hcv;obtain⟨⟨fn,h1,h2,h3⟩,hrun⟩:=aO1 hc he;refine⟨f,(vs++cap.toList).toArray,?_,hrun ρ w I _ r (sU ha hcap)⟩;have:=aId (w:=w) (args:=(vs++cap.toList).toArray) h1 h2 h3;simp only[Deferred.ofValue,Sem.run_bind,Sem.run_pure,Result.andThen_ok,invoke];have e:#[]++vs.toArray++cap=(vs++cap.toList).toArray:=sm;rw[e];exact this
 unfold f5 at he
 split at he
 ·simp only[AR]at hcv;obtain⟨cap,rfl,hcap⟩:=hcv;exact key _ _ cap he hcap rfl
 ·simp only[AR,DR]at hcv;obtain⟨cap,rfl,hcap⟩:=hcv;exact key _ _ cap he ((nW _ _).2 hcap) rfl
 ·cases he
def H5(G:Gnd)(E:Env)(h:H)(ρ:Rho)(w:World)(I:Nat->Prop)(o:Oper)(act:Act)(x:A)(h':H):Prop:=
 ∀(K:Act->World->Prop) (Q:Exit->Act->World->Prop),(∀v ρ' w' I',Step G h ρ w I h' ρ' w' I'->AR h' ρ' w' I' x v->K (act.put o.dst v) w')->o.wp E.P act w K Q
theorem a8{o:Oper}{act:Act}{x:A}{h':H}{v:Value}{ρ':Rho}{w':World}{I':Nat->Prop}(hrun:(execOp act.eval o).run E.P w=.ok (.value v) w')(s:Step G h ρ w I h' ρ' w' I')(hx:AR h' ρ' w' I' x v):H5 G E h ρ w I o act x h':=by
 intro K Q hK;unfold Oper.wp;rw[hrun,Oper.upon_value];exact hK v ρ' w' I' s hx
theorem aJE{o:Oper}{act:Act}{x:A}{h':H}{f:FuncId}{asx:Array Value}(hrun:(execOp act.eval o).run E.P w=.ok (.enter f asx) w)
  (hc:Calls E.P f asx w fun e w'=>∃v ρ' I',e=.returned v/\Step G h ρ w I h' ρ' w' I'/\AR h' ρ' w' I' x v):H5 G E h ρ w I o act x h':=by
 intro K Q hK;unfold Oper.wp;rw[hrun,Oper.upon_enter];refine hc.mono ?_;rintro e w' ⟨v,ρ',I',rfl,s,hx⟩;exact hK v ρ' w' I' s hx
theorem iG{a:A}{asx:List A}{vs:List Value}(ha:ARv h ρ w I (a::asx) vs):∃v rest,vs=v::rest/\AR h ρ w I a v/\ARv h ρ w I asx rest:=by simpa only[ARv]using ha
theorem pA{a:A}{v:Value}(ha:ARv h ρ w I [a] [v]):AR h ρ w I a v:=by
 obtain⟨v',rest,h1,h2,_⟩:=iG ha
 cases h1;exact h2
theorem zE{a b:A}{u v:Value}(ha:ARv h ρ w I [a,b] [u,v]):AR h ρ w I a u/\AR h ρ w I b v:=by
 obtain⟨v',rest,h1,h2,h3⟩:=iG ha
 cases h1;exact⟨h2,pA h3⟩
theorem PS{a b c:A}{u v x:Value}(ha:ARv h ρ w I [a,b,c] [u,v,x]):AR h ρ w I a u/\AR h ρ w I b v/\AR h ρ w I c x:=by
 obtain⟨v',rest,h1,h2,h3⟩:=iG ha
 cases h1;exact⟨h2,zE h3⟩
theorem uK{k:IntKind}{n:Int}{v:Value}(ha:AR h ρ w I (.d (.int k n)) v):v=.int k n:=by simpa only[AR,DR]using ha
theorem gF{vs:List A}{k:A->Option (A×H)}{x:A×H}(he:one vs k=some x):∃a,vs=[a]/\k a=some x:=by
 unfold one at he
 split at he
 ·grind
 ·cases he
theorem mP{vs:List A}{k:A->A->Option (A×H)}{x:A×H}(he:two vs k=some x):∃a b,vs=[a,b]/\k a b=some x:=by
 unfold two at he
 split at he
 ·grind
 ·cases he
theorem aCx{vs:List A}{k:A->A->A->Option (A×H)}{x:A×H}(he:aG1 vs k=some x):∃a b c,vs=[a,b,c]/\k a b c=some x:=by
 unfold aG1 at he
 split at he
 ·grind
 ·cases he
theorem jS{a:A}{k:Int->Option (A×H)}{x:A×H}(he:iH a k=some x):∃kind i,a=.d (.int kind i)/\k i=some x:=by
 unfold iH at he
 split at he
 ·grind
 ·cases he
theorem aKu{d:D}(h:BZ d=true):DR w I d (dS d):=by
 cases d<;>simp_all [BZ,dS,DR]
theorem W5{d:D}{v:Value}(h:BZ d=true)(hd:DR w I d v):v=dS d:=by
 cases d<;>simp_all [BZ,dS,DR]
theorem aFX{P:Program}{t et:TypeId}{kt:TypeDesc}(h:mapT P t=some (kt,et)):∃k0,P.underlying t=some (.map k0 et)/\P.underlying k0=some kt:=by
 unfold mapT at h
 split at h
 ·grind
 ·cases h
theorem aIY{kt:TypeDesc}{k:D}(h:aGY kt k=true):MapKept.IsKey kt (dS k)/\BZ k=true:=by
 cases kt<;>cases k<;>simp_all [aGY,MapKept.IsKey,dS,BZ]
theorem aLw(a b:List UInt8):((⟨a.toArray⟩:ByteArray)==⟨b.toArray⟩)=(a==b):=by
 rw[Bool.eq_iff_iff,MapKept.bytes_beq];simp
theorem ZA{kt:TypeDesc}{a b:D}{r:Bool}(h:aCb kt a b=some r):Instr.sameNow kt (dS a) (dS b)=some r/\(r=true->dS b=dS a):=by
 unfold aCb at h
 split at h
 ·rename_i k x k' y
  split at h
  ·rename_i hk
   subst hk;simp only[Option.some.injEq]at h;subst h;refine⟨by simp[Instr.sameNow,dS],fun hr=> ?_⟩;have:x=y:=by grind
   rw[this]
  ·cases h
 ·rename_i x y
  simp only[Option.some.injEq]at h;subst h;refine⟨by simp[Instr.sameNow,dS,aLw],fun hr=> ?_⟩;have:x=y:=by grind
  rw[this]
 ·cases h
theorem aQh{kt:TypeDesc}{a b:D}(h:aCb kt a b=some false):dS b≠dS a:=by
 unfold aCb at h
 split at h
 ·rename_i k x k' y
  split at h
  ·rename_i hk
   subst hk;intro e;simp only[dS,Value.int.injEq,true_and]at e;subst e;simp at h
  ·cases h
 ·rename_i x y
  intro e;simp only[dS,Value.string.injEq,ByteArray.mk.injEq]at e;have e2:y=x:=by grind
  subst e2;simp at h
 ·cases h
theorem PK{kt:TypeDesc}{k:D}:∀(es:List (D×D)) (l:List MapEntry) (i:Nat) (r:Option Nat),l.map (fun e=>(e.key,e.val))=es.map (fun e=>(dS e.1,dS e.2))->XR kt k es i=some r->
  (r=none/\Instr.findNow kt (dS k) l i=some none/\∀x∈l,x.key≠dS k)\/∃j e x,r=some (i+j)/\l[j]? =some e/\es[j]? =some x/\Instr.findNow kt (dS k) l i=some (some (i+j,e.val))/\e.key=dS k
 | [],l,i,r,hm,h=>by
  have:l=[]:=by simp_all
  subst this;simp only[XR,Option.some.injEq]at h;subst h;exact .inl ⟨rfl,rfl,by simp⟩
 |e::es,[],i,r,hm,h=>by grind
 |e::es,x::l,i,r,hm,h=>by
  simp only[Af,List.cons.injEq,Prod.mk.injEq]at hm;obtain⟨⟨hk,hv⟩,hm⟩:=hm;unfold XR at h
  split at h
  ·rename_i he
   cases h;obtain⟨h1,h2⟩:=ZA he
   exact .inr ⟨0,x,e,rfl,rfl,rfl,by simp[Instr.findNow,hk,h1],by rw[hk];exact h2 rfl⟩
  ·rename_i he
   obtain⟨h1,_⟩:=ZA he
   rcases PK es l (i+1) r hm h with⟨a,b,hn⟩|⟨j,e',x',a,b,c,d,f⟩
   ·refine .inl ⟨a,by simp[Instr.findNow,hk,h1,b],fun y hy=> ?_⟩
    rcases Au.1 hy with rfl|hy
    ·rw[hk];exact aQh he
    ·grind
   ·exact .inr ⟨j+1,e',x',by rw[a];congr 1;omega,by simpa using b,by simpa using c,by simp[Instr.findNow,hk,h1,d];omega,f⟩
  ·cases h
theorem aLK{id:Nat}{v:Value}{es:List (D×D)}(r:Rel G h ρ w I)(ha:AR h ρ w I (.mp id) v)(hid:h[id]? =some (.mp es)):∃b M c,v=.map (some b)/\ρ id=some b/\¬I b/\w.heap[b]? =some (.map M c)/\aEp es M/\MapKept.Stamped M c:=by
 obtain⟨b,hv,hp⟩:=ha;simp only[mpOK,hid]at hp;have hO:=r.obj id _ hid;obtain⟨b',hb',hI,M,c,h1,h2⟩:=hO;rw[hp]at hb';cases hb';exact⟨b,M,c,hv,hp,hI,h1,h2⟩
theorem aNS{P:Program}{t ty:TypeId}{ts:Array TypeId}{id:Nat}{x:A}{v:Value}{h':H}(ht:ts[0]? =some t)(he:M7 P h t id=some (x,h'))(r:Rel G h ρ w I)(ha:AR h ρ w I (.mp id) v):
  h'=h/\∃u,(Builtin.len_ ts ty #[v]).run P w=.ok u w/\AR h ρ w I x u:=by
 unfold M7 at he
 split at he
 ·rename_i kt et es hu hid
  cases he;obtain⟨b,M,c,rfl,_,_,hb,hE,hSt⟩:=aLK r ha hid
  have hl:M.size=es.length:=by
   have:=congrArg List.length hE.1
   simpa using this
  exact⟨rfl,.int .i64 es.length,by simp[Builtin.len_,ht,aR hu,MapKept.run_getObj_map hb,goInt,hl],by simp only[AR,DR]⟩
 ·cases he
theorem aNk{P:Program}{t:TypeId}{ok:Bool}{m k x:A}{vm vk:Value}{h':H}(he:XH P h t ok m k=some (x,h'))(r:Rel G h ρ w I)(hm:AR h ρ w I m vm)(hk:AR h ρ w I k vk):
  h'=h/\∃u,(Instr.lookup t vm vk ok).run P w=.ok u w/\AR h ρ w I x u:=by
 unfold XH at he
 split at he
 ·rename_i kt et id k hmt
  split at he
  ·rename_i es z hid hz
   split at he
   ·rename_i hc
    simp only[Aj]at hc
    split at he
    ·rename_i rr hkat
     cases he;refine⟨rfl,?_⟩
     obtain⟨k0,hu,hku⟩:=aFX hmt;obtain⟨hik,hfk⟩:=aIY hc.1;obtain⟨b,M,c,rfl,_,_,hb,hE,hSt⟩:=aLK r hm hid;simp only[AR]at hk;have hvk:=W5 hfk hk;subst hvk;obtain⟨iz,zv,_,_,hzrun,hzr⟩:=M3 hz;have hzd:=hzr h ρ w I;simp only[AR]at hzd;have hzv:=W5 hc.2 hzd;subst hzv
     rcases PK es M.toList 0 rr hE.1 hkat with⟨rfl,hf,hnk⟩|⟨j,e,y,rfl,hje,hjy,hf,hke⟩
     ·refine⟨if ok then .tuple #[dS z,.bool false]else dS z,?_,?_⟩
      ·simp[Instr.lookup,aR hu,MapKept.run_getObj_map hb,MapKept.run_checkKey hku hik,MapKept.run_findKey hku hf,hzrun,Result.andThen]
      ·cases ok
       ·simp only[NT,S2];exact hzd
       ·simp only[NT,S2,AR,if_true,Option.isSome_none];exact⟨_,rfl,by simp only[ARv,AR];exact⟨_,_,rfl,hzd,_,_,rfl,by simp only[DR],rfl⟩⟩
     ·have hev:e.val=dS y.2:=by
       have h1:=congrArg (fun l=>l[j]?) hE.1;simp only[Bb,hje,hjy,Ay,Option.some.injEq,Prod.mk.injEq]at h1;exact h1.2
      have hyf:=(hE.2 y (Bo hjy)).2;have hget:(es.getD j (z,z)).2=y.2:=by rw[Aa,hjy];rfl
      simp only[Ag]at hf|-;refine⟨if ok then .tuple #[dS y.2,.bool true]else dS y.2,?_,?_⟩
      ·simp[Instr.lookup,aR hu,MapKept.run_getObj_map hb,MapKept.run_checkKey hku hik,MapKept.run_findKey hku hf,hev,Result.andThen]
      ·cases ok
       ·simp only[NT,S2,hget];exact aKu hyf
       ·simp only[NT,S2,AR,if_true,Option.isSome_some,hget];exact⟨_,rfl,by simp only[ARv,AR];exact⟨_,_,rfl,aKu hyf,_,_,rfl,by simp only[DR],rfl⟩⟩
    ·cases he
   ·cases he
  ·cases he
 ·cases he
theorem WZ{P:Program}{t:TypeId}{m k v x:A}{vm vk vv:Value}{h':H}(he:F6 P h t m k v=some (x,h'))(r:Rel G h ρ w I)(hm:AR h ρ w I m vm)(hk:AR h ρ w I k vk)(hv:AR h ρ w I v vv):
  x=.d .undef/\∃ρ' w',(Instr.mapUpdate t vm vk vv).run P w=.ok () w'/\Step G h ρ w I h' ρ' w' I:=by
 unfold F6 at he
 split at he
 ·rename_i kt et id k v hmt
  split at he
  ·rename_i es hid
   split at he
   ·rename_i hc
    simp only[Aj]at hc
    split at he
    ·rename_i rr hkat
     cases he;refine⟨rfl,?_⟩
     obtain⟨k0,hu,hku⟩:=aFX hmt;obtain⟨hik,hfk⟩:=aIY hc.1;obtain⟨b,M,c,rfl,hρ,hIb,hb,hE,hSt⟩:=aLK r hm hid;simp only[AR]at hk hv;have hvk:=W5 hfk hk;subst hvk;have hvv:=W5 hc.2 hv;subst hvv
     have fin:∀(M':Array MapEntry) (c':Nat),aEp (HH es k v rr) M'->MapKept.Stamped M' c'->Step G h ρ w I (h.set id (.mp (HH es k v rr))) (upd ρ id (ρ id)) { w with heap:=w.heap.setIfInBounds b (.map M' c')} I:=by
      intro M' c' hE' hS';have hbl:b<w.heap.size:=(Bn.1 hb).1;refine d8 r hid trivial (ρ id) rfl rfl rfl sm (fun q hq hne=> ?_) (fun _ hb=>hb) (fun _ hb=>.inl hb) (fun q hq=>.inl hq) (fun _ gen off len a cap hs=>by simp only[slOK,hid]at hs) (fun _ gen q hs=>by simp only[ptOK,hid]at hs) (fun _=> ?_) (hmp:=fun es' _=>⟨⟨_,rfl⟩,rfl⟩)
      ·simp only[Array.getElem?_setIfInBounds];rw[if_neg (fun e=>hne (by rw[hρ,e]))]
      ·simp only[OR,bA];exact⟨b,hρ,hIb,M',c',by simp[hbl],hE',hS'⟩
     rw[cO]at fin
     rcases PK es M.toList 0 rr hE.1 hkat with⟨rfl,hf,hnk⟩|⟨j,e,y,rfl,hje,hjy,hf,hke⟩
     ·refine⟨ρ,_,?_,fin (M.push ⟨dS k,dS v,c⟩) (c+1) ⟨by simp[HH,hE.1],?_⟩ (MapKept.stamped_push hSt hnk)⟩
      ·simp[Instr.mapUpdate,aR hu,MapKept.run_getObj_map hb,MapKept.run_checkKey hku hik,MapKept.run_findKey hku hf,MapKept.run_setObj_map _ hb,Result.andThen]
      ·intro q hq;simp only[HH,Aq,Bi]at hq
       rcases hq with hq|rfl
       ·exact hE.2 q hq
       ·exact⟨hfk,hc.2⟩
     ·simp only[Ag]at hf fin|-;have hjM:M[j]? =some e:=by simpa using hje
      refine⟨ρ,_,?_,fin (M.modify j fun e=> { e with key:=dS k,val:=dS v}) c ⟨?_,?_⟩ (MapKept.stamped_modify hSt j _ (fun _ _=>rfl) (fun e' _ he'=>by rw[hjM]at he';cases he';exact hke.symm))⟩
      ·simp[Instr.mapUpdate,aR hu,MapKept.run_getObj_map hb,MapKept.run_checkKey hku hik,MapKept.run_findKey hku hf,hjM,hke,MapKept.run_keyThatStays hik,MapKept.run_setObj_map _ hb,Result.andThen]
      ·have hjl:=(At.1 hjy).1;apply Cj;intro q;have h1:=congrArg (fun l=>l[q]?) hE.1;simp only[Bb]at h1;simp only[HH,Array.toList_modify,Bb,List.getElem?_modify,Cu]
       by_cases hq:j=q
       ·subst hq;simp[hje,hjl]
       ·simp only[hq,if_false];have:(fun(e:MapEntry)=>(e.key,e.val))∘(fun a=>a)=fun(e:MapEntry)=>(e.key,e.val):=rfl
        simpa using h1
      ·intro q hq;simp only[HH]at hq
       rcases Dx hq with hq|rfl
       ·exact hE.2 q hq
       ·exact⟨hfk,hc.2⟩
    ·cases he
   ·cases he
  ·cases he
 ·cases he
theorem aLq{P:Program}{t:TypeId}(r:Rel G h ρ w I):∃ρ' w' u,(Instr.makeMap t none).run P w=.ok u w'/\Step G h ρ w I (h++[.mp []]) ρ' w' I/\AR (h++[.mp []]) ρ' w' I (.mp h.length) u:=by
 have hlt:¬I w.heap.size:=fun hb=>by have:=r.imm _ hb;omega
 refine⟨upd ρ h.length (some w.heap.size),{ w with heap:=w.heap.push (.map #[] 0)},.map (some w.heap.size),by simp[Instr.makeMap,newObj,Sem.run],fU r (Grew.push w _) (.mp []) (some w.heap.size) (fun b hb=>by cases hb;exact Ad _) (fun _=> ?_),?_⟩
 ·simp only[OR,bA];exact⟨_,rfl,hlt,#[],0,by simp,⟨rfl,by simp⟩,MapKept.stamped_empty 0⟩
 ·simp only[AR,mpOK];exact⟨_,rfl,by simp[bA]⟩
theorem aMq{y:Option (A×H)}{r:A×H}(he:W9 y=some r):∃x h1,y=some (x,h1)/\W9 (some (x,h1))=some r:=by
 cases y with
 |none=>cases he
 |some p=>grind
theorem aO4{y:A}{x:A}{h':H}{v:Value}(he:W9 (some (y,h))=some (x,h'))(r:Rel G h ρ w I)(ha:AR h ρ w I y v):Step G h ρ w I h' ρ w I/\AR h' ρ w I x v:=by
 cases y with
 |sl id gen off len=>
  simp only[W9]at he
  split at he
  ·rename_i cs e g hid
   split at he
   ·rename_i hc
    obtain⟨rfl,rfl,rfl,rfl,rfl⟩:=hc;cases he;have s:=aPD r hid;refine⟨s,?_⟩;obtain⟨a,cap,rfl,hs⟩:=ha;refine⟨a,cap,rfl,?_⟩;have hlt:id<h.length:=by grind
    have at_id:(h.set id (.log cs))[id]? =some (.log cs):=by grind
    simp only[slOK,hid]at hs;obtain⟨h1,h2⟩:=hs.2 trivial;simp only[slOK,at_id];refine⟨Ad _,fun _=>⟨h1,?_,fun _=> ?_⟩⟩
    ·grind
    ·grind
   ·cases he
  ·cases he
 |_=>cases he
theorem aLO{b:Builtin}{tys:Array TypeId}{ty:TypeId}{consts:Array Bool}{vs:List A}{x:A}{h':H}{us:List Value}(he:cQ E.P h b tys.toList vs=some (x,h'))(r:Rel G h ρ w I)(ha:ARv h ρ w I vs us):
  ∃v ρ' w' I',(builtin b tys ty consts us.toArray).run E.P w=.ok (.value v) w'/\Step G h ρ w I h' ρ' w' I'/\AR h' ρ' w' I' x v:=by
 unfold cQ at he
 split at he
 ·rename_i t rest id htys
  obtain⟨v,r0,rfl,h1,h2⟩:=iG ha;simp only[ARv]at h2;subst h2
  have ht:tys[0]? =some t:=by
   have:tys.toList[0]? =some t:=by grind
   simpa using this
  obtain⟨rfl,u,hu,hx⟩:=aNS (ty:=ty) ht he r h1;exact⟨u,ρ,w,I,by simp only[builtin,Sem.run_bind,hu];rfl,.refl r,hx⟩
 ·rename_i t rest a _ htys
  simp only[Az]at he;obtain⟨x',hb,hh⟩:=he;cases hh;obtain⟨v,r0,rfl,h1,h2⟩:=iG ha;simp only[ARv]at h2;subst h2
  have ht:tys[0]? =some t:=by
   have:tys.toList[0]? =some t:=by grind
   simpa using this
  obtain⟨u,hu,hx⟩:=aSr (P:=E.P) (w:=w) (ty:=ty) ht hb h1;exact⟨u,ρ,w,I,by simp only[builtin,Sem.run_bind,hu];rfl,.refl r,hx⟩
 ·rename_i t u s y htys
  have ht:tys= #[t,u]:=by grind
  subst ht;obtain⟨sv,r0,rfl,h1,h2⟩:=iG ha;obtain⟨xv,r1,rfl,h3,h4⟩:=iG h2;simp only[ARv]at h4;subst h4
  split at he
  ·cases he
  ·cases he
  ·rename_i d hnd hd
   obtain⟨v,ρ',w',I',h5,h6,h7⟩:=aOw (P:=E.P) (ty:=ty) hd (fun k hk=>hnd k hk) he r h1 h3;exact⟨v,ρ',w',I',by simp only[builtin,Sem.run_bind,h5];rfl,h6,h7⟩
 ·cases he
theorem NM(hE:EnvOK E)(hc:j8 G E.P call){thaw:List Nat}{o:Oper}{act:Act}{vs:List A}{x:A}{h':H}(he:evOp E call thaw h o vs=some (x,h'))(r:Rel G h ρ w I)(ha:ARv h ρ w I vs ((opds o.op).map act.eval)):
  H5 G E h ρ w I o act x h':=by
 obtain⟨dst,op,type,pos,after,guard⟩:=o
 cases op with
 |move y=>
  simp only[evOp]at he;obtain⟨a,hvs,he2⟩:=gF he;clear he;subst hvs;have he:=he2;clear he2;cases he;exact a8 (v:=act.eval y) rfl (.refl r) (pA ha)
 |assign y=>
  simp only[evOp]at he;obtain⟨a,hvs,he2⟩:=gF he;clear he;subst hvs;have he:=he2;clear he2;have hval:AR h ρ w I a (act.eval y):=pA ha;have plain:H5 G E h ρ w I { dst,op:=.assign y,type,pos,after,guard} act a h:=a8 (v:=act.eval y) rfl (.refl r) hval;unfold HJ at he
  split at he
  ·split at he
   ·cases he;exact plain
   ·rename_i e _
    split at he
    ·cases he;have s1:=fU r (Grew.refl w) (.arr [] e 0) none sm (fun _=>by simp[OR,bA])
     refine a8 (v:=act.eval _) rfl s1 ?_;simp only[AR,DR]at hval|-;obtain⟨a,hval⟩:=hval;refine⟨a,0,hval,?_⟩;have e:(h++[O.arr [] e 0])[h.length]? =some (.arr [] e 0):=sm;simp only[slOK,e,bA];simp
    ·cases he;have s1:=fU r (Grew.refl w) (.vec [] (e-1000) 0) none sm (fun _=>by simp[OR,bA])
     refine a8 (v:=act.eval _) rfl s1 ?_;simp only[AR,DR]at hval|-;obtain⟨a,hval⟩:=hval;refine⟨a,0,hval,?_⟩;have e:(h++[O.vec [] (e-1000) 0])[h.length]? =some (.vec [] (e-1000) 0):=sm;simp only[slOK,e,bA];simp
  ·cases he;exact plain
 |pick c y z=>
  simp only[evOp,M9]at he
  split at he
  ·rename_i b p q
   cases he;obtain⟨h1,h2,h3⟩:=PS ha
   simp only[AR,DR]at h1;refine a8 (v:=if b then act.eval y else act.eval z) ?_ (.refl r) ?_
   ·simp only[execOp,Sem.run_bind,h1]
    cases b<;>rfl
   ·cases b
    ·exact h3
    ·exact h2
  ·cases he
 |alloc t=>
  simp only[evOp,Eg]at he;obtain⟨z,hz,he⟩:=he;obtain⟨i,zv,hi,hzv,hrun,hzr⟩:=M3 hz;obtain⟨ρ',w',h1,h2,h3⟩:=aOp (P:=E.P) (t:=t) he r (hzr h ρ w I);exact a8 (v:=.pointer (some ⟨w.heap.size,0,none⟩)) (by simp[execOp,Instr.alloc,hrun,h1]) h2 h3
 |box t y=>
  simp only[evOp]at he;obtain⟨a,hvs,he2⟩:=gF he;clear he;subst hvs;have he:=he2;clear he2;obtain⟨ρ',w',h1,h2,h3⟩:=aOp (P:=E.P) (t:=t) he r (pA ha);exact a8 (v:=.pointer (some ⟨w.heap.size,0,none⟩)) (by simp[execOp,Instr.box,h1]) h2 h3
 |build t parts=>
  simp only[evOp,Az]at he;obtain⟨a,he,hh⟩:=he;cases hh;obtain⟨u,h1,h2⟩:=aOS (P:=E.P) (ev:=act.eval) he ha;exact a8 (v:=u) (by simp only[execOp,Sem.run_bind,h1];rfl) (.refl r) h2
 |buildSlice t len parts=>
  simp only[evOp]at he
  split at he
  ·obtain⟨x1,h1',he1,he2⟩:=aMq he;obtain⟨u,ρ',w',I',h1,h2,h3⟩:=R4 (P:=E.P) (ev:=act.eval) he1 r ha;obtain⟨h4,h5⟩:=aO4 he2 h2.rel h3;exact a8 (v:=u) (by simp only[execOp,Sem.run_bind,h1];rfl) (h2.trans h4) h5
  split at he
  ·obtain⟨u,ρ',w',I',h1,h2,h3⟩:=aKp (P:=E.P) (ev:=act.eval) he r ha;exact a8 (v:=u) (by simp only[execOp,Sem.run_bind,h1];rfl) h2 h3
  ·obtain⟨u,ρ',w',I',h1,h2,h3⟩:=R4 (P:=E.P) (ev:=act.eval) he r ha;exact a8 (v:=u) (by simp only[execOp,Sem.run_bind,h1];rfl) h2 h3
 |load t y=>
  simp only[evOp]at he;obtain⟨a,hvs,he2⟩:=gF he;clear he;subst hvs;have he:=he2;clear he2;simp only[Az]at he;obtain⟨a',he,hh⟩:=he;cases hh;obtain⟨u,h1,h2⟩:=aKR (P:=E.P) he r (pA ha);exact a8 (v:=u) (by simp only[execOp,Sem.run_bind,h1];rfl) (.refl r) h2
 |store t y z=>
  simp only[evOp]at he;obtain⟨a,b,hvs,he2⟩:=mP he;clear he;subst hvs;have he:=he2;clear he2;simp only[Az]at he;obtain⟨h2,he,hh⟩:=he;cases hh;obtain⟨h3,h4⟩:=zE ha;obtain⟨ρ',w',I',h5,h6⟩:=aPt (P:=E.P) he r h3 h4;intro K Q hK;unfold Oper.wp
  have hrun:(execOp act.eval { dst,op:=.store t y z,type,pos,after,guard}).run E.P w=.ok .skip w':=by
   simp only[execOp,Sem.run_bind,h5];rfl
  rw[hrun,Oper.upon_skip];exact hK undef ρ' w' I' h6 (by simp only[AR,DR])
 |nilCheck y=>
  simp only[evOp]at he;obtain⟨a,hvs,he2⟩:=gF he;clear he;subst hvs;have he:=he2;clear he2;have hval:AR h ρ w I a (act.eval y):=pA ha;unfold lU at he
  split at he
  ·cases he;refine a8 (v:=act.eval y) ?_ (.refl r) hval
   simp only[AR]at hval;obtain⟨b,hv,_⟩:=hval;simp only[execOp,hv];rfl
  ·cases he;refine a8 (v:=act.eval y) ?_ (.refl r) hval
   simp only[AR,DR]at hval;obtain⟨b,o,hv,_⟩:=hval;simp only[execOp,hv];rfl
  ·cases he;refine a8 (v:=act.eval y) ?_ (.refl r) hval
   simp only[AR]at hval;obtain⟨b,hv,_⟩:=hval;simp only[execOp,hv];rfl
  ·cases he;refine a8 (v:=act.eval y) ?_ (.refl r) hval
   simp only[AR,DR]at hval;obtain⟨b,hv,_⟩:=hval;simp only[execOp,hv];rfl
  ·cases he
 |binOp bop t y z t2=>
  simp only[evOp]at he;obtain⟨a,b,hvs,he2⟩:=mP he;clear he;subst hvs;have he:=he2;clear he2;obtain⟨h1,h2⟩:=zE ha
  have fin:∀x',(∃u,(do eqGuard bop t y z (act.eval y) (act.eval z);binOp bop t (act.eval y) (act.eval z):Sem Value).run E.P w=.ok u w/\AR h ρ w I x' u)->H5 G E h ρ w I { dst,op:=.binOp bop t y z t2,type,pos,after,guard} act x' h:=by
   rintro x' ⟨u,hu,hx⟩;exact a8 (v:=u) (by simp only[execOp];rw[Sem.run_bind,hu];rfl) (.refl r) hx
  unfold cA at he
  split at he
  ·rename_i x' hb
   cases he;exact fin _ (aSs hb h1 h2)
  ·split at he
   ·rename_i x' hb
    cases he;exact fin _ (aSD hb h1 h2)
   ·simp only[Az]at he;obtain⟨x',hb,hh⟩:=he;cases hh;exact fin _ (aOJ hE.eqs hb h1 h2)
 |unOp uop t y=>
  simp only[evOp]at he;obtain⟨a,hvs,he2⟩:=gF he;clear he;subst hvs;have he:=he2;clear he2;simp only[Az]at he;obtain⟨x',hb,hh⟩:=he;cases hh;obtain⟨u,h1,h2⟩:=aS1 (P:=E.P) (w:=w) hb (pA ha);exact a8 (v:=u) (by simp only[execOp,Sem.run_bind,h1];rfl) (.refl r) h2
 |convert src dst' y=>
  simp only[evOp]at he;obtain⟨a,hvs,he2⟩:=gF he;clear he;subst hvs;have he:=he2;clear he2;obtain⟨u,ρ',w',h1,h2,h3⟩:=aMl (P:=E.P) he r (pA ha);exact a8 (v:=u) (by simp only[execOp,Sem.run_bind,h1];rfl) h2 h3
 |makeFunc fn first caps=>
  simp only[evOp,NK]at he
  split at he
  ·rename_i f
   split at he
   ·rename_i h0
    cases he;have hf:first= #[]:=by simpa using h0
    subst hf;refine a8 (v:=.func (.func f) #[] (caps.map act.eval)) (by simp[execOp,Instr.makeFunc]) (.refl r) ?_;simp only[AR];exact⟨_,rfl,by simpa [opds]using ha⟩
   ·cases he
  ·cases he
 |makeSlice t y z=>
  simp only[evOp]at he;obtain⟨a,b,hvs,he2⟩:=mP he;clear he;subst hvs;have he:=he2;clear he2;obtain⟨k,l,hvs,he2⟩:=jS he;clear he;subst hvs;obtain⟨k',c,hvs,he⟩:=jS he2;clear he2;subst hvs;obtain⟨h1,h2⟩:=zE ha
  split at he
  ·obtain⟨u,ρ',w',h3,h4,h5⟩:=aMh (P:=E.P) (k:=k) (k':=k') he r;exact a8 (v:=u) (by simp only[execOp,Sem.run_bind,uK h1,uK h2,h3];rfl) h4 h5
  ·obtain⟨u,ρ',w',h3,h4,h5⟩:=aH9 (P:=E.P) (k:=k) (k':=k') he r;exact a8 (v:=u) (by simp only[execOp,Sem.run_bind,uK h1,uK h2,h3];rfl) h4 h5
 |slice t y lo hi mx=>
  simp only[evOp]at he
  cases mx with
  |some m=>simp at he
  |none=>
   simp only[Option.isNone_none,if_true]at he;unfold A5 at he
   cases lo with
   |none=>
    cases hi with
    |none=>
     simp only[Option.isSome_none]at he
     split at he
     ·simp only[Az]at he;obtain⟨x',hb,hh⟩:=he;cases hh;obtain⟨u,h1,h2⟩:=P1 (P:=E.P) .i64 .i64 hb (pA ha);exact a8 (v:=u) (by simp only[execOp,Sem.run_bind,Di];simp only[optV,Di]at h1;rw[h1];rfl) (.refl r) h2
     all_goals simp at *
    |some hv=>
     simp only[Option.isSome_none,Option.isSome_some]at he
     split at he
     ·simp at *
     ·simp at *
     ·rename_i a k l _ _
      simp only[Az]at he;obtain⟨x',hb,hh⟩:=he;cases hh;obtain⟨h3,h4⟩:=zE ha;obtain⟨u,h1,h2⟩:=P1 (P:=E.P) .i64 k hb h3;exact a8 (v:=u) (by simp only[execOp,Sem.run_bind,Di,Ay,uK h4];simp only[optV,Di,Ay]at h1;rw[h1];rfl) (.refl r) h2
     all_goals simp at *
   |some lv=>
    cases hi with
    |none=>
     simp only[Option.isSome_none,Option.isSome_some]at he
     split at he
     ·simp at *
     ·rename_i a k l _ _
      simp only[Az]at he;obtain⟨x',hb,hh⟩:=he;cases hh;obtain⟨h3,h4⟩:=zE ha;obtain⟨u,h1,h2⟩:=P1 (P:=E.P) k .i64 hb h3;exact a8 (v:=u) (by simp only[execOp,Sem.run_bind,Di,Ay,uK h4];simp only[optV,Di,Ay]at h1;rw[h1];rfl) (.refl r) h2
     all_goals simp at *
    |some hv=>
     simp only[Option.isSome_some]at he
     split at he
     ·simp at *
     ·simp at *
     ·simp at *
     ·rename_i a k l k' u' _ _
      simp only[Az]at he;obtain⟨x',hb,hh⟩:=he;cases hh;obtain⟨h3,h4,h5⟩:=PS ha;obtain⟨u,h1,h2⟩:=P1 (P:=E.P) k k' hb h3;exact a8 (v:=u) (by simp only[execOp,Sem.run_bind,Di,Ay,uK h4,uK h5];simp only[optV,Ay]at h1;rw[h1];rfl) (.refl r) h2
     ·simp at *
 |fieldAddr t y f=>
  simp only[evOp]at he;obtain⟨a,hvs,he2⟩:=gF he;clear he;subst hvs;have he:=he2;clear he2;simp only[Eg,Az]at he;obtain⟨⟨off,ft⟩,hf,x',hb,hh⟩:=he;cases hh;obtain⟨u,h1,h2⟩:=aJn (P:=E.P) (w:=w) hf hb (pA ha);exact a8 (v:=u) (by simp only[execOp,Sem.run_bind,h1];rfl) (.refl r) h2
 |field t y f=>
  simp only[evOp]at he;obtain⟨a,hvs,he2⟩:=gF he;clear he;subst hvs;have he:=he2;clear he2;unfold aDC at he
  split at he
  ·rename_i cs off ft hf
   simp only[Az,Eg]at he;obtain⟨x',⟨b,hb,ho⟩,hh⟩:=he;cases hh;obtain⟨u,h1,h2⟩:=aPi (P:=E.P) (w:=w) hf hb ho (pA ha);exact a8 (v:=u) (by simp only[execOp,Sem.run_bind,h1];rfl) (.refl r) h2
  ·cases he
 |indexAddr t y z=>
  simp only[evOp]at he;obtain⟨a,b,hvs,he2⟩:=mP he;clear he;subst hvs;have he:=he2;clear he2;obtain⟨k,i,hvs,he2⟩:=jS he;clear he;subst hvs;have he:=he2;clear he2;simp only[Az]at he;obtain⟨x',hb,hh⟩:=he;cases hh;obtain⟨h3,h4⟩:=zE ha;obtain⟨u,h1,h2⟩:=aI7 (P:=E.P) (k:=k) hb h3;exact a8 (v:=u) (by simp only[execOp,Sem.run_bind,uK h4,h1];rfl) (.refl r) h2
 |index t y z=>
  simp only[evOp]at he;obtain⟨a,b,hvs,he2⟩:=mP he;clear he;subst hvs;have he:=he2;clear he2;obtain⟨k,i,hvs,he2⟩:=jS he;clear he;subst hvs;have he:=he2;clear he2;simp only[Az]at he;obtain⟨x',hb,hh⟩:=he;cases hh;obtain⟨h3,h4⟩:=zE ha;obtain⟨u,h1,h2⟩:=aPK (P:=E.P) (w:=w) (k:=k) hb h3;exact a8 (v:=u) (by simp only[execOp,Sem.run_bind,uK h4,h1];rfl) (.refl r) h2
 |extract y i=>
  simp only[evOp]at he;obtain⟨a,hvs,he2⟩:=gF he;clear he;subst hvs;have he:=he2;clear he2;unfold xW at he
  split at he
  ·rename_i vs
   simp only[Az]at he;obtain⟨x',hb,hh⟩:=he;cases hh;have h1:=pA ha;simp only[AR]at h1;obtain⟨C,hC,hv⟩:=h1;obtain⟨u,hu,hx⟩:=((eP _ _).1 hv).2 i x hb;have hu':C[i]? =some u:=by simpa using hu
   refine a8 (v:=u) ?_ (.refl r) hx;simp only[execOp,hC];simp[Instr.extract,hu']
  ·cases he
 |call c=>
  obtain⟨callee,args,tys⟩:=c
  cases callee with
  |value f=>
   simp only[evOp,fQ]at he
   split at he
   ·rename_i g asx
    obtain⟨gv,rest,h1,h2,h3⟩:=iG ha;simp only[opds,Af,List.cons.injEq]at h1;obtain⟨h4,h5⟩:=h1;subst h4;subst h5;obtain⟨k,as',h6,h7⟩:=aLy hc he r h2 h3;refine aJE (f:=k) (asx:=as') ?_ h7;simp only[execOp,resolve];have e:(args.map act.eval)=(args.toList.map act.eval).toArray:=by apply Array.toList_inj.1;simp
    rw[e];exact h6
   ·cases he
  |builtin b=>
   simp only[evOp,fQ]at he;obtain⟨v,ρ',w',I',h1,h2,h3⟩:=aLO (ty:=type) (consts:=args.map fun|.const _=>true|_=>false) he r ha;refine a8 (v:=v) ?_ h2 h3;simp only[execOp,resolve,Sem.run_bind,Sem.run_pure,Result.andThen_ok,invoke];have e:(args.map act.eval)=(args.toList.map act.eval).toArray:=by apply Array.toList_inj.1;simp
   rw[e];exact h1
  |invoke a b=>cases he
 |makeMap t y=>
  simp only[evOp]at he
  split at he
  ·rename_i hn
   have hy:y=none:=by simpa using hn
   subst hy;cases he;obtain⟨ρ',w',u,h1,h2,h3⟩:=aLq (P:=E.P) (t:=t) r;exact a8 (v:=u) (by simp only[execOp,Di,Sem.run_bind,h1];rfl) h2 h3
  ·cases he
 |lookup t y z ok=>
  simp only[evOp]at he;obtain⟨a,b,hvs,he2⟩:=mP he;clear he;subst hvs;have he:=he2;clear he2;obtain⟨h1,h2⟩:=zE ha;obtain⟨rfl,u,h3,h4⟩:=aNk (P:=E.P) he r h1 h2;exact a8 (v:=u) (by simp only[execOp,Sem.run_bind,h3];rfl) (.refl r) h4
 |mapUpdate t y z q=>
  simp only[evOp]at he;obtain⟨a,b,c,hvs,he2⟩:=aCx he;clear he;subst hvs;have he:=he2;clear he2;obtain⟨h1,h2,h3⟩:=PS ha;obtain⟨rfl,ρ',w',h4,h5⟩:=WZ (P:=E.P) he r h1 h2 h3;intro K Q hK;unfold Oper.wp
  have hrun:(execOp act.eval { dst,op:=.mapUpdate t y z q,type,pos,after,guard}).run E.P w=.ok .skip w':=by
   simp only[execOp,Sem.run_bind,h4];rfl
  rw[hrun,Oper.upon_skip];exact hK undef ρ' w' I h5 (by simp only[AR,DR])
 |insert t y z q=>
  simp only[evOp]at he;obtain⟨a,b,c,hvs,he2⟩:=aCx he;clear he;subst hvs;have he:=he2;clear he2;obtain⟨h1,h2,h3⟩:=PS ha;obtain⟨rfl,ρ',w',h4,h5⟩:=WZ (P:=E.P) he r h1 h2 h3;intro K Q hK;unfold Oper.wp
  have hrun:(execOp act.eval { dst,op:=.insert t y z q,type,pos,after,guard}).run E.P w=.ok .skip w':=by
   simp only[execOp,Sem.run_bind,h4];rfl
  rw[hrun,Oper.upon_skip];exact hK undef ρ' w' I h5 (by simp only[AR,DR])
 |_=>cases he
end
end Ev
end Go.Proofs.YtahbdkmimmnadaaGreatDoor
