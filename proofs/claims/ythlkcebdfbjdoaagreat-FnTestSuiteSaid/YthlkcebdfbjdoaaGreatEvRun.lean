/-
  Loads and stores of runs of cells, as the machine carries them out.
-/
import Derived.Test.YthlkcebdfbjdoaaGreatEvFrz
namespace Go.Proofs.YthlkcebdfbjdoaaGreat
namespace Ev
variable{G:Gnd}
theorem OA{P:Program}{t:TypeId}{d:TypeDesc}(h:P.underlying t=some d):∃i,P.info? t=some i:=by
 unfold Program.underlying at h
 split at h
 ·grind
 ·grind
 ·cases h
theorem aU{P:Program}{t:TypeId}{d:TypeDesc}(h:P.underlying t=some d)(w:World):(underlying t).run P w=.ok d w:=by
 simp[underlying,h]
theorem vJ{P:Program}{t:TypeId}{i:TypeInfo}(h:P.info? t=some i)(w:World):(typeInfo t).run P w=.ok i w:=by
 simp[typeInfo,h]
theorem cV{P:Program}{t:TypeId}{i:TypeInfo}(h:P.info? t=some i)(w:World):(sizeOf t).run P w=.ok (P.cellsOf t) w:=by
 simp[sizeOf,vJ h,Program.cellsOf,h]
theorem I5{P:Program}{t:TypeId}{b:Bool}(h:eF P t=some b)(w:World):(isAgg t).run P w=.ok b w:=by
 unfold eF at h
 split at h
 ·rename_i hd;cases h;simp[isAgg,aU hd]
 ·rename_i hd;cases h;simp[isAgg,aU hd]
 ·rename_i d h1 h2 hd
  cases h
  cases d<;>first|(exact absurd rfl (h1 _))|(exact absurd rfl (h2 _ _))|simp[isAgg,aU hd]
 ·cases h
theorem kK(b o n:Nat):Addr.add ⟨b,o,none⟩ n=⟨b,o+n,none⟩:=by
 unfold Addr.add;split
 ·grind
 ·rfl
theorem aEs{P:Program}{w:World}{b o:Nat}:∀(vs:List Value) (i:Nat) (acc:Array Value),(∀(k:Nat) (v:Value),vs[k]? =some v->dA w b (o+i+k)=some v)->
  (loadCellsFrom ⟨b,o,none⟩ i vs.length acc).run P w=.ok (acc++vs.toArray) w
 | [],i,acc,_=>by simp[loadCellsFrom]
 |v::vs,i,acc,h=>by
  have h0:w.cell? ⟨b,o+i,none⟩=some v:=by rw[cell?_eq];simpa using h 0 v (by simp)
  have ih:=aEs (P:=P) (w:=w) (b:=b) (o:=o) vs (i+1) (acc.push v) (fun k u hk=>by
   have:=h (k+1) u (by simpa using hk);rw[<-this];congr 1;omega)
  have e:acc.push v++vs.toArray=acc++(v::vs).toArray:=by simp
  rw[<-e,<-ih];simp only[loadCellsFrom,kK,Ad,Sem.run_bind,run_load];rw[h0];rfl
theorem run_loadCells'{P:Program}{w:World}{b o:Nat}(vs:List Value)(h:∀(k:Nat) (v:Value),vs[k]? =some v->dA w b (o+k)=some v):
  (loadCells ⟨b,o,none⟩ vs.length).run P w=.ok vs.toArray w:=by
 have:=aEs (P:=P) (w:=w) (b:=b) (o:=o) vs 0 #[] (fun k v hk=>by simpa using h k v hk)
 simpa [loadCells]using this
theorem aIZ{h:H}{ρ:Rho}{w:World}{I:Nat->Prop}{a:A}{v:Value}{run:List A}(he:m6 h a=some run)(r:Rel G h ρ w I)(ha:AR h ρ w I a v):
  ∃b o,v=.pointer (some ⟨b,o,none⟩)/\∀(k:Nat) (c:A),run[k]? =some c->∃u,dA w b (o+k)=some u/\AR h ρ w I c u/\u.oneCell'=true:=by
 have data:∀(cs:List D) (b o:Nat),DRs w I cs b 0->∀(k:Nat) (c:A),((cs.drop o).map A.d)[k]? =some c->∃u,dA w b (o+k)=some u/\AR h ρ w I c u/\u.oneCell'=true:=by
  intro cs b o hd k c hk;rw[Bd]at hk
  cases hk':(cs.drop o)[k]? with
  |none=>grind
  |some d=>
   rw[hk']at hk;simp at hk;subst hk;obtain⟨u,hu,hdu,ho⟩:=(fL _ _ _).1 (kF o hd) k d hk';exact⟨u,by simpa using hu,by simp only[AR];exact hdu,ho⟩
 cases a with
 |ptr id gen off=>
  obtain⟨b,rfl,hp⟩:=ha;refine⟨b,off,rfl,?_⟩;simp only[m6]at he
  cases hid:h[id]? with
  |none=>grind
  |some o=>
   rw[hid]at he;have hO:=r.obj id o hid
   cases o with
   |box cs=>
    simp only[Option.some.injEq]at he;subst he;simp only[ptOK,hid]at hp;obtain⟨b',hb',_,_,_,_,_,_,hcs⟩:=hO;rw[hp.2]at hb';cases hb';intro k c hk;exact hcs (off+k) c (by simpa using hk)
   |arr cs esz g=>
    simp only[]at he
    split at he
    ·rename_i hg
     simp only[Option.some.injEq]at he;subst he;simp only[ptOK,hid]at hp;simp only[OR,hp.2 hg.symm]at hO;obtain⟨_,_,_,_,_,_,_,hd⟩:=hO;exact data cs b off hd
    ·cases he
   |vec cs esz g=>
    simp only[]at he
    split at he
    ·rename_i hg
     simp only[Option.some.injEq]at he;subst he;simp only[ptOK,hid]at hp;simp only[OR,hp.2 hg.symm]at hO;obtain⟨_,_,_,_,_,_,_,hcs⟩:=hO;intro k c hk;exact hcs (off+k) c (by simpa using hk)
    ·cases he
   |ice cs esz g=>
    simp only[]at he
    split at he
    ·rename_i hg
     simp only[Option.some.injEq]at he;subst he;simp only[ptOK,hid]at hp;exact data cs b off (hp.2 hg.symm).2
    ·cases he
   |log cs=>
    simp only[]at he
    split at he
    ·rename_i hg
     simp only[Option.some.injEq]at he;subst he;simp only[ptOK,hid]at hp
     have hd:DRs w I (cs.take (gen-1)) b 0:=by
      rcases hp.2 (by omega)with h1|h1
      ·simp only[OR,h1]at hO;obtain⟨_,_,_,_,_,_,hd⟩:=hO;exact aEa _ hd
      ·exact h1.2
     intro k c hk;refine data _ b off hd k c ?_;rw[Bd,Cz]at hk
     split at hk
     ·grind
     ·cases hk
    ·cases he
   |mp es=>grind
   |void=>grind
 |d x=>
  cases x with
  |iptr cs=>
   obtain⟨b,o,rfl,_,hd⟩:=ha;simp only[m6,Option.some.injEq]at he;subst he;refine⟨b,o,rfl,fun k c hk=> ?_⟩;rw[Bd]at hk
   cases hk':cs[k]? with
   |none=>grind
   |some d=>
    rw[hk']at hk;simp at hk;subst hk;obtain⟨u,hu,hdu,ho⟩:=(fL _ _ _).1 hd k d hk';exact⟨u,hu,by simp only[AR];exact hdu,ho⟩
  |_=>simp[m6]at he
 |_=>simp[m6]at he
theorem aQm{h:H}{ρ:Rho}{w:World}{I:Nat->Prop}{b o:Nat}:∀(run:List A),(∀(k:Nat) (c:A),run[k]? =some c->∃u,dA w b (o+k)=some u/\AR h ρ w I c u/\u.oneCell'=true)->
  ∃vs,ARv h ρ w I run vs/\vs.length=run.length/\∀(k:Nat) (v:Value),vs[k]? =some v->dA w b (o+k)=some v:=by
 intro run hc;obtain⟨vs,h1,h2⟩:=vL run o hc;exact⟨vs,h1,((eZ _ _).1 h1).1.symm,fun k v hk=>(h2 k v hk).1⟩
theorem aKd{P:Program}{h:H}{ρ:Rho}{w:World}{I:Nat->Prop}{t:TypeId}{a x:A}{v:Value}(he:BX P h t a=some x)(r:Rel G h ρ w I)(ha:AR h ρ w I a v):
  ∃u,(Instr.loadAt t v).run P w=.ok u w/\AR h ρ w I x u:=by
 unfold BX at he
 split at he
 ·rename_i run b hrun hagg
  obtain⟨bl,o,rfl,hc⟩:=aIZ hrun r ha
  have hinfo:∃i,P.info? t=some i:=by
   unfold eF at hagg
   cases hu:P.underlying t with
   |none=>grind
   |some d=>exact OA hu
  obtain⟨i,hi⟩:=hinfo;unfold tD at he
  cases b with
  |true=>
   rw[if_pos rfl]at he
   split at he
   ·rename_i hle
    cases he
    obtain⟨vs,h1,h2,h3⟩:=aQm (h:=h) (ρ:=ρ) (w:=w) (I:=I) (b:=bl) (o:=o) (run.take (P.cellsOf t)) (fun k c hk=>by
     rw[Cz]at hk
     split at hk
     ·grind
     ·cases hk)
    have hl:vs.length=P.cellsOf t:=by grind
    refine⟨.agg vs.toArray,?_,by simp only[AR];exact⟨vs.toArray,rfl,by simpa using h1⟩⟩;have hload:=run_loadCells' (P:=P) vs h3;rw[hl]at hload;simp[Instr.loadAt,Instr.sureAddr,loadVar,I5 hagg,cV hi,hload]
   ·cases he
  |false=>
   cases run with
   |nil=>grind
   |cons c run=>
    simp at he;subst he;obtain⟨u,hu,hau,_⟩:=hc 0 c (by simp);refine⟨u,?_,hau⟩;have:w.cell? ⟨bl,o,none⟩=some u:=by rw[cell?_eq];simpa using hu
    simp[Instr.loadAt,Instr.sureAddr,loadVar,I5 hagg,this]
 ·cases he
def dB(w:World)(b:Nat)(o:Obj):World:={ w with heap:=w.heap.setIfInBounds b o}
theorem aJu{w:World}{b k:Nat}{C:Array Value}{E:TypeId}{fz:Nat×Nat}(hb:w.heap[b]? =some (.cells C E fz))(v:Value):
  w.setCell ⟨b,k,none⟩ v=dB w b (.cells (C.setIfInBounds k v) E fz):=by
 unfold World.setCell dB
 congr 1
 apply Array.ext_getElem?;intro j;simp only[Ea,Array.getElem?_setIfInBounds]
 by_cases e:b=j
 ·grind
 ·simp[e]
theorem aL3(w:World)(b:Nat)(o o':Obj):dB (dB w b o) b o'=dB w b o':=by
 unfold dB;simp only[World.mk.injEq,and_true];apply Array.ext_getElem?;intro j
 by_cases e:b=j<;>simp[e]
theorem eX{w:World}{b:Nat}{o:Obj}(hb:b<w.heap.size):(dB w b o).heap[b]? =some o:=by
 simp[dB,hb]
theorem nE{w:World}{b k:Nat}{o:Obj}(h:k≠b):(dB w b o).heap[k]? =w.heap[k]?:=by
 simp only[dB,Array.getElem?_setIfInBounds];rw[if_neg (Ne.symm h)]
theorem zJ{P:Program}{b o:Nat}{E:TypeId}{fz:Nat×Nat}:∀(vs:List Value) (i:Nat) (C:Array Value) (w:World),w.heap[b]? =some (.cells C E fz)->vR C fz->o+i+vs.length<=C.size->(∀v∈vs,v.oneCell'=true)->
  ∃C':Array Value,(storeCells ⟨b,o,none⟩ vs i).run P w=.ok () (dB w b (.cells C' E fz))/\C'.size=C.size/\∀k:Nat,C'[k]? =if o+i<=k/\k<o+i+vs.length then vs[k-(o+i)]? else C[k]?
 | [],i,C,w,hb,_,_,_=>by
  refine⟨C,?_,rfl,fun k=> ?_⟩
  ·have:dB w b (.cells C E fz)=w:=by
    unfold dB;obtain⟨hlt,he⟩:=Bg.1 hb;have:w.heap.setIfInBounds b (.cells C E fz)=w.heap:=by grind
    rw[this]
   rw[this];simp[storeCells]
  ·grind
 |v::vs,i,C,w,hb,hfz,hl,hone=>by
  have hlt:=(Bg.1 hb).1;simp only[Ad]at hl;have hk:o+i<C.size:=by omega
  have hcell:w.cell? ⟨b,o+i,none⟩=some C[o+i]:=by rw[cell?_eq];simp[dA,hb,hk]
  have hfr:w.frozen? ⟨b,o+i,none⟩=false:=by
   have:=hfz (o+i) hk;unfold World.frozen?;simp only[hb]
   rcases fz with⟨lo,hi⟩
   simp only[Bool.and_eq_false_iff,decide_eq_false_iff_not];omega
  have hst:(store (Addr.add ⟨b,o,none⟩ i) v).run P w=.ok () (dB w b (.cells (C.setIfInBounds (o+i) v) E fz)):=by
   rw[kK,run_store P w _ v _ (hone v (by simp)),hcell];simp only[hfr];rw[aJu hb];rfl
  obtain⟨C',h1,h2,h3⟩:=zJ (P:=P) (o:=o) vs (i+1) (C.setIfInBounds (o+i) v) (dB w b (.cells (C.setIfInBounds (o+i) v) E fz)) (eX hlt)
   (fun j hj=>hfz j (by simpa using hj)) (by simp;omega) (fun u hu=>hone u (by simp[hu]))
  rw[aL3]at h1;refine⟨C',by simp only[storeCells,Sem.run_bind];rw[hst];simpa using h1,by simpa using h2,fun k=> ?_⟩;rw[h3 k];simp only[Ad]
  by_cases e:k=o+i
  ·grind
  ·grind
end Ev
end Go.Proofs.YthlkcebdfbjdoaaGreat
