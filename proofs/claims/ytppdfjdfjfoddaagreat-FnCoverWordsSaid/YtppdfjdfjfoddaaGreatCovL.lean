/-
  Automata with exchanged aC: plain laws.
-/
import Derived.Test.YtppdfjdfjfoddaaGreatAutH
import Derived.Test.YtppdfjdfjfoddaaGreatWords
import Derived.Test.YtppdfjdfjfoddaaGreatPathY
import Derived.Test.YtppdfjdfjfoddaaGreatAccess
import Derived.Test.YtppdfjdfjfoddaaGreatWrongA
import Derived.Test.YtppdfjdfjfoddaaGreatSortLayX
import Derived.Test.YtppdfjdfjfoddaaGreatNetX
set_option linter.unusedSimpArgs false
set_option linter.unusedVariables false
set_option maxRecDepth 8000
set_option maxHeartbeats 4000000
namespace Go.Proofs.YtppdfjdfjfoddaaGreat
namespace Ev
theorem aPL {al:Int} {rs:List (List Int)} {ac:List Bool} (ha:m5 al = true) (h1:1 ≤ rs.length) (h2:rs.length ≤ 12) (h3:ac.length = rs.length) (hr:∀ r ∈ rs,r.length = (aC al).length ∧ ∀ q ∈ r,0 ≤ q ∧ q < rs.length):gC al rs ac = true:=by
 unfold gC
 simp only [Bool.and_eq_true,decide_eq_true_eq]
 refine ⟨⟨⟨⟨ha,by omega⟩,by omega⟩,by omega⟩,?_⟩
 rw [Option.isNone_iff_eq_none,zK]
 intro i _ hi
 have hi:i < rs.length:=by omega
 obtain ⟨hw,hq⟩:=hr (rs.getD i []) (by rw [List.getD_eq_getElem?_getD,List.getElem?_eq_getElem hi]; exact List.getElem_mem hi)
 unfold kF
 rw [Q3 (by omega)]
 have:seek (badQ rs.length (rs.getD i [])) (rs.getD i []).length 0 = none:=by
  rw [zK]
  intro j _ hj
  have hj:j < (rs.getD i []).length:=by omega
  rw [AV]
  refine hq _ ?_
  generalize rs.getD i [] = r at *
  rw [List.getD_eq_getElem?_getD,List.getElem?_eq_getElem hj]
  exact List.getElem_mem hj
 rw [this]
 rfl
theorem FM {al:Int} {rs:List (List Int)} {ac:List Bool} (h:gC al rs ac = true) {i:Nat} (hi:i < rs.length):(rs.getD i []).length = (aC al).length ∧ ∀ j,j < (aC al).length → 0 ≤ (rs.getD i []).getD j 0 ∧ (rs.getD i []).getD j 0 < rs.length:=by
 have hw:=aD9 (II h) hi
 refine ⟨hw,?_⟩
 intro j hj
 unfold gC at h
 simp only [Bool.and_eq_true] at h
 have hb:=KM h.2 hi
 unfold kF at hb
 rw [Q3 (by omega)] at hb
 have:=KM (p:=badQ rs.length (rs.getD i [])) (n:=(rs.getD i []).length) (by cases hs:seek (badQ rs.length (rs.getD i [])) (rs.getD i []).length 0 with
  | none => rfl
  | some z => rw [hs] at hb; cases hb) (i:=j) (by omega)
 exact AV.1 this
theorem aQm {al:Int} {rs:List (List Int)} {ac:List Bool} (h:gC al rs ac = true) {q l:Int} (hq0:0 ≤ q) (hq1:q < rs.length) (h0:0 ≤ l) (h1:l < 6):0 ≤ goI al rs q l ∧ goI al rs q l < rs.length:=by
 unfold goI
 split
 ·rename_i hb
  exact (FM h (i:=q.toNat) (by omega)).2 _ (AL h0 h1 hb).1
 ·exact ⟨hq0,hq1⟩
theorem aQi {l:Int}:uO l = true ↔ 0 ≤ l ∧ l < 6:=by unfold uO; simp
def stGo (al:Int) (rs:List (List Int)) (w:List UInt8) (q:Int):Int:=w.foldl (fun q b => goI al rs q (ltr b)) q
def nG (al:Int) (rs:List (List Int)) (ac:List Bool) (w:List UInt8):Int:=if gC al rs ac && tG al w then stGo al rs w 0 else -1
theorem aMQ {al:Int} {w:List UInt8} (hw:tG al w = true):m5 al = true ∧ w.length ≤ 50000 ∧ ∀ b ∈ w,okB b = true ∧ iA al (ltr b) = true:=by
 unfold tG at hw
 simp only [Bool.and_eq_true,decide_eq_true_eq] at hw
 refine ⟨hw.1.1,hw.1.2,?_⟩
 intro b hb
 have:=List.all_eq_true.1 hw.2 b hb
 unfold inB at this
 simpa only [Bool.and_eq_true] using this
section
def goS (a:Aut) (v l:Int):Int:=goI a.al a.nx v l
def rowA (a:Aut) (v:Int):List Int:=a.nx.getD v.toNat []
def ordA (a:Aut):List Int:=ordB (goS a) (aC a.al) (a.nx.length + 1) 0 [0]
def idxU (out:List Int) (x:Int):Int:=(out.idxOf x:Nat)
def bL (a:Aut):Aut:=⟨a.al,(ordA a).map fun v => (rowA a v).map (idxU (ordA a)),(ordA a).map fun v => a.ac.getD v.toNat false⟩
theorem aEo {a:Aut} (h:AOK a):∀ v l:Int,0 ≤ v → v < a.nx.length → l ∈ aC a.al → 0 ≤ goS a v l ∧ goS a v l < a.nx.length:=by
 intro v l h0 h1 hl
 have:=jL l hl
 exact YI h h0 h1 this.1 (by omega)
theorem aMj {al:Int} {k:Nat} (hk:k < (aC al).length):kG al (aC al)[k] = k:=by
 obtain ⟨⟨h0,h1⟩,hb⟩:=qT.1 (List.getElem_mem hk)
 obtain ⟨h2,h3⟩:=AL h0 h1 hb
 rw [List.getElem?_eq_getElem h2] at h3
 exact (List.getElem_inj (TL al)).1 (Option.some.inj h3)
theorem YK {a:Aut} (h:AOK a) {v:Int} (h0:0 ≤ v) (h1:v < a.nx.length):(aC a.al).map (goS a v) = rowA a v:=by
 have hl:=(FM h (i:=v.toNat) (by omega)).1
 apply List.ext_getElem
 ·rw [List.length_map]; exact hl.symm
 ·intro k g1 g2
  rw [List.length_map] at g1
  rw [List.getElem_map]
  unfold goS
  rw [YA (qT.1 (List.getElem_mem g1)).2,aMj g1]
  show (rowA a v).getD k 0 = _
  rw [List.getD_eq_getElem?_getD,List.getElem?_eq_getElem g2]
  rfl
theorem tO {a:Aut} (h:AOK a):∃ W,Bfs (goS a) (aC a.al) a.nx.length (ordA a).length [] (ordA a) W:=by
 obtain ⟨_,_,h1,_,_⟩:=eE h
 exact aKW (EW _) (aEo h) _ 0 [0] _ (Bfs.start (by omega)) (by omega) (by omega)
theorem aHP {a:Aut}:∀ (w:List Int) (v u:Int),Path (nxS a) (aC a.al) v w u ↔ (∀ l ∈ w,l ∈ aC a.al) ∧ w.foldl (goS a) v = u
 | [],v,u => by simp [Path]
 | l :: w,v,u => by
  simp only [Path,nxS,List.mem_singleton,exists_eq_left,aHP w,List.foldl_cons,List.forall_mem_cons]
  unfold goS
  exact and_assoc.symm
theorem KE {a:Aut} {st:Int} {w:List Int}:Hits (nxS a) (aC a.al) [0] (glS st) w ↔ (∀ l ∈ w,l ∈ aC a.al) ∧ w.foldl (goS a) 0 = st:=by
 unfold Hits yI glS
 simp only [List.mem_singleton,exists_eq_left,aHP,decide_eq_true_eq]
 constructor
 ·rintro ⟨u,⟨h1,h2⟩,rfl⟩; exact ⟨h1,h2⟩
 ·rintro ⟨h1,h2⟩; exact ⟨st,⟨h1,h2⟩,rfl⟩
section
variable {a:Aut} {W:Nat → List Int}
theorem AC {x:Int} {out:List Int} (hx:x ∈ out):out.getD (out.idxOf x) 0 = x ∧ out.idxOf x < out.length:=by
 have h:=List.idxOf_lt_length_of_mem hx
 refine ⟨?_,h⟩
 rw [List.getD_eq_getElem?_getD,List.getElem?_eq_getElem h,List.getElem_idxOf]; rfl
theorem pS {q:Nat} {out:List Int} (hq:q < out.length):out.getD q 0 ∈ out:=by
 rw [List.getD_eq_getElem?_getD,List.getElem?_eq_getElem hq]
 exact List.getElem_mem hq
theorem JF (h:AOK a) (hB:Bfs (goS a) (aC a.al) a.nx.length (ordA a).length [] (ordA a) W) {q:Nat} (hq:q < (ordA a).length):oneG a ((ordA a).getD q 0) = (W q,true):=by
 refine BV (I5 h _) (.inl ⟨rfl,KE.2 ⟨hB.lts q hq,hB.run q hq⟩,fun x hx => ?_⟩)
 obtain ⟨h1,h2⟩:=KE.1 hx
 obtain ⟨p,hp,e,hs⟩:=hB.least x.length x rfl h1
 have:p = q:=hB.idx hp hq (by rw [e,h2])
 subst this
 exact hs
theorem aQH (h:AOK a) {st:Int} (ho:st ∉ ordA a):oneG a st = ([],false):=by
 obtain ⟨W,hB⟩:=tO h
 refine BV (I5 h _) (.inr ⟨rfl,fun w hw => ?_⟩)
 obtain ⟨h1,h2⟩:=KE.1 hw
 obtain ⟨p,hp,e,_⟩:=hB.least w.length w rfl h1
 rw [h2] at e
 exact ho (e ▸ pS hp)
theorem RY (hB:Bfs (goS a) (aC a.al) a.nx.length (ordA a).length [] (ordA a) W) {v l:Int} (hv:v ∈ ordA a) (hl:l ∈ aC a.al):goS a v l ∈ ordA a:=by
 obtain ⟨e,hq⟩:=AC hv
 obtain ⟨p,hp,e2,_⟩:=hB.clo _ l hq hl (.inl hq)
 rw [e] at e2
 exact e2 ▸ pS hp
theorem aBH (h:AOK a):AOK (bL a):=by
 obtain ⟨W,hB⟩:=tO h
 obtain ⟨b1,b2,b3,b4⟩:=FC h
 have hn:=iF hB.nod hB.rng
 have hp:=hB.pos
 unfold AOK bL
 refine aPL b4 (by rw [List.length_map]; omega) (by rw [List.length_map]; omega) (by rw [List.length_map,List.length_map]) ?_
 intro r hr
 obtain ⟨v,hv,rfl⟩:=List.mem_map.1 hr
 obtain ⟨v0,v1⟩:=hB.rng v hv
 have hrow:=YK h v0 v1
 refine ⟨by rw [List.length_map,← hrow,List.length_map],?_⟩
 intro q hq
 obtain ⟨x,hx,rfl⟩:=List.mem_map.1 hq
 rw [← hrow] at hx
 obtain ⟨l,hl,rfl⟩:=List.mem_map.1 hx
 have:=(AC (RY hB hv hl)).2
 unfold idxU
 rw [List.length_map]
 omega
theorem aTg (h:AOK a) (hB:Bfs (goS a) (aC a.al) a.nx.length (ordA a).length [] (ordA a) W) {q:Nat} (hq:q < (ordA a).length) {l:Int} (hl:l ∈ aC a.al):goS (bL a) q l = idxU (ordA a) (goS a ((ordA a).getD q 0) l):=by
 obtain ⟨⟨h0,h1⟩,hb⟩:=qT.1 hl
 obtain ⟨v0,v1⟩:=hB.rng _ (pS hq)
 obtain ⟨p1,p2⟩:=AL h0 h1 hb
 have hlen:=(FM h (i:=((ordA a).getD q 0).toNat) (by omega)).1
 have e1:((bL a).nx.getD q []) = (rowA a ((ordA a).getD q 0)).map (idxU (ordA a)):=by
  unfold bL
  simp only [List.getD_eq_getElem?_getD,List.getElem?_map,List.getElem?_eq_getElem hq,Option.map_some,Option.getD_some]
 unfold goS
 rw [YA hb,YA (show iA (bL a).al l = true from hb),Int.toNat_natCast,e1]
 show ((rowA a ((ordA a).getD q 0)).map (idxU (ordA a))).getD (kG a.al l) 0 = _
 have hr:kG a.al l < (rowA a ((ordA a).getD q 0)).length:=by unfold rowA; omega
 rw [List.getD_eq_getElem?_getD,List.getElem?_map,List.getElem?_eq_getElem hr,List.getD_eq_getElem?_getD (l:=a.nx.getD _ _)]
 show idxU _ (rowA a ((ordA a).getD q 0))[kG a.al l] = idxU _ ((rowA a ((ordA a).getD q 0))[kG a.al l]?.getD 0)
 rw [List.getElem?_eq_getElem hr]; rfl
theorem aHE (h:AOK a) (hB:Bfs (goS a) (aC a.al) a.nx.length (ordA a).length [] (ordA a) W):∀ (w:List Int) (q:Nat),q < (ordA a).length → (∀ l ∈ w,l ∈ aC a.al) → w.foldl (goS a) ((ordA a).getD q 0) ∈ ordA a ∧ w.foldl (goS (bL a)) (q:Int) = idxU (ordA a) (w.foldl (goS a) ((ordA a).getD q 0))
 | [],q,hq,_ => by
  refine ⟨pS hq,?_⟩
  unfold idxU
  simp only [List.foldl_nil]
  have:=hB.nod.idxOf_getElem q hq
  rw [List.getD_eq_getElem?_getD,List.getElem?_eq_getElem hq,Option.getD_some,this]
 | l :: w,q,hq,hw => by
  have hl:=hw l List.mem_cons_self
  obtain ⟨e,hp⟩:=AC (RY hB (pS hq) hl)
  have ih:=aHE h hB w _ hp fun m hm => hw m (List.mem_cons_of_mem _ hm)
  rw [e] at ih
  simp only [List.foldl_cons]
  rw [aTg h hB hq hl]
  exact ih
theorem aM6 (h:AOK a) (hB:Bfs (goS a) (aC a.al) a.nx.length (ordA a).length [] (ordA a) W) {q:Nat} (hq:q < (ordA a).length):oneG (bL a) q = (W q,true):=by
 rw [← JF h hB hq]
 refine BV (aL8 (fun w => ?_) (I5 (aBH h) q)) (I5 h _)
 rw [KE,KE]
 show (∀ l ∈ w,l ∈ aC a.al) ∧ _ ↔ _
 refine and_congr_right fun hw => ?_
 obtain ⟨h1,h2⟩:=aHE h hB w 0 hB.pos hw
 rw [hB.o0] at h1 h2
 have h3:w.foldl (goS (bL a)) 0 = idxU (ordA a) (w.foldl (goS a) 0):=h2
 rw [h3]
 obtain ⟨e,hp⟩:=AC h1
 unfold idxU
 constructor
 ·intro hh
  have:(ordA a).idxOf (w.foldl (goS a) 0) = q:=by omega
  rw [this] at e
  exact e.symm
 ·intro hh
  rw [hB.idx hp hq (by rw [e,hh])]
end
theorem aF8 {l:Int} (h0:0 ≤ l) (h1:l < 6):(mP l).toNat = (97 + l).toNat:=by
 unfold mP
 rw [UInt8.toNat_ofNat']
 omega
theorem aKA:∀ {u v:List Int},(∀ l ∈ u,0 ≤ l ∧ l < 6) → (∀ l ∈ v,0 ≤ l ∧ l < 6) → uG u v → Op.bytesLess (txt u) (txt v) = true
 | [],_,_,_,h => h.elim
 | _ :: _,[],_,_,h => h.elim
 | a :: u,b :: v,hu,hv,h => by
  have ha:=hu a List.mem_cons_self
  have hb:=hv b List.mem_cons_self
  show Op.bytesLess (mP a :: txt u) (mP b :: txt v) = true
  rw [rO,aF8 ha.1 ha.2,aF8 hb.1 hb.2]
  rcases h with h | ⟨rfl,h⟩
  ·exact .inl (by omega)
  ·exact .inr ⟨rfl,aKA (fun l hl => hu l (List.mem_cons_of_mem _ hl)) (fun l hl => hv l (List.mem_cons_of_mem _ hl)) h⟩
theorem aTe {u v:List Int} (hu:∀ l ∈ u,0 ≤ l ∧ l < 6) (hv:∀ l ∈ v,0 ≤ l ∧ l < 6) (h:slt u v):cmpX (txt u) (txt v) < 0:=by
 rw [P2]
 unfold txt
 rw [List.length_map,List.length_map]
 rcases h with h | ⟨h1,h⟩
 ·exact .inl h
 ·exact .inr ⟨h1,aKA hu hv h⟩
def qD (a:Aut):List Str:=(List.range (ordA a).length).map fun q => txt (oneG a ((ordA a).getD q 0)).1
def lF (a:Aut) (j i:Nat):List Str:=(List.range' i j).filterMap fun q => if (oneG a (q:Nat)).2 = true then some (txt (oneG a (q:Nat)).1) else none
def aCX (l:List Str):List Str:=l.mergeSort leX
section
variable {a:Aut} {W:Nat → List Int}
theorem M1 (h:AOK a) (hB:Bfs (goS a) (aC a.al) a.nx.length (ordA a).length [] (ordA a) W):qD a = (List.range (ordA a).length).map fun q => txt (W q):=by
 unfold qD
 apply List.map_congr_left
 intro q hq
 rw [JF h hB (List.mem_range.1 hq)]
theorem YG (hB:Bfs (goS a) (aC a.al) a.nx.length (ordA a).length [] (ordA a) W) {j k:Nat} (hjk:j < k) (hk:k < (ordA a).length):cmpX (txt (W j)) (txt (W k)) < 0:=by
 have hin:∀ q,q < (ordA a).length → ∀ l ∈ W q,0 ≤ l ∧ l < 6:=fun q hq l hl => by
  have:=jL l (hB.lts q hq l hl); omega
 exact aTe (hin j (by omega)) (hin k hk) (hB.asc j k hjk hk)
theorem aQL (hB:Bfs (goS a) (aC a.al) a.nx.length (ordA a).length [] (ordA a) W) {j k:Nat} (hj:j < (ordA a).length) (hk:k < (ordA a).length) (e:txt (W j) = txt (W k)):j = k:=by
 rcases Nat.lt_trichotomy j k with h | h | h
 ·have:=YG hB h hk; rw [e] at this; exact (QE _ this).elim
 ·exact h
 ·have:=YG hB h hj; rw [e] at this; exact (QE _ this).elim
theorem aOs (hB:Bfs (goS a) (aC a.al) a.nx.length (ordA a).length [] (ordA a) W):((List.range (ordA a).length).map fun q => txt (W q)).Pairwise fun x y => cmpX x y < 0:=by
 rw [List.pairwise_map]
 refine List.Pairwise.imp_of_mem ?_ (List.pairwise_lt_range (n:=(ordA a).length))
 intro j k hj hk hjk
 exact YG hB hjk (List.mem_range.1 hk)
theorem aLy (h:AOK a):aCX (lF a a.nx.length 0) = qD a:=by
 obtain ⟨W,hB⟩:=tO h
 rw [M1 h hB]
 have hasc:=aOs hB
 have hfd:∀ (q:Nat) (b:Str),(if (oneG a (q:Nat)).2 = true then some (txt (oneG a (q:Nat)).1) else none) = some b → ∃ p,p < (ordA a).length ∧ (ordA a).getD p 0 = (q:Int) ∧ b = txt (W p):=by
  intro q b hb
  by_cases hq:(q:Int) ∈ ordA a
  ·obtain ⟨e,hp⟩:=AC hq
   have:=JF h hB hp
   rw [e] at this
   rw [this] at hb
   simp at hb
   exact ⟨_,hp,e,hb.symm⟩
  ·rw [aQH h hq] at hb
   simp at hb
 unfold aCX
 refine ((List.mergeSort_perm _ _).trans ((List.perm_ext_iff_of_nodup ?_ ?_).2 ?_)).eq_of_pairwise (fun x y _ _ h1 h2 => aQq h1 h2) (List.pairwise_mergeSort aPq aO7 _) (hasc.imp aTK)
 ·unfold lF
  refine List.Pairwise.filterMap _ ?_ (List.nodup_range' (s:=0) (n:=a.nx.length))
  intro p q hpq b hb c hc e
  obtain ⟨p1,g1,g2,g3⟩:=hfd p b hb
  obtain ⟨q1,k1,k2,k3⟩:=hfd q c hc
  have:=aQL hB g1 k1 (by rw [← g3,← k3,e])
  subst this
  rw [g2] at k2
  exact hpq (by omega)
 ·exact hasc.imp fun {x y} hxy e => by rw [e] at hxy; exact QE _ hxy
 ·intro b
  unfold lF
  rw [List.mem_filterMap,List.mem_map]
  constructor
  ·rintro ⟨q,hq,hb⟩
   obtain ⟨p,h1,_,h3⟩:=hfd q b hb
   exact ⟨p,List.mem_range.2 h1,h3.symm⟩
  ·rintro ⟨p,hp,rfl⟩
   have hp:=List.mem_range.1 hp
   obtain ⟨v0,v1⟩:=hB.rng _ (pS hp)
   refine ⟨((ordA a).getD p 0).toNat,?_,?_⟩
   ·rw [List.mem_range'_1]; omega
   ·rw [Int.toNat_of_nonneg v0,JF h hB hp,if_pos rfl]
end
end
theorem aEy {R:Type} {L n:Nat} (hn:1 ≤ n) {l:List Int} {x:Int} {q:Nat} (hql:q < l.length) (hl:l.length ≤ 4294967290) (hx:l.getD q 0 = x) (hne:∀ i,i < q → ¬ l.getD i 0 = x) {k:Exit → List A → H → Option R}:∀ (j i m:Nat) (hi:i + j = q) (hm:j < m),
  aO env (aA env L n) L 0 [] (U2 (Z2 (U2 (Z8 (Z1 ([])))))) (vA 0) (Z2 (U2 (Z2 (U8 (U1 ([])))))) m (.d (.ivs l.length (ints l)) :: .d (.int .i64 x) :: Y2 (.d (.int .i64 0) :: .d (.int .i64 ((i:Int))) :: Y8 (Y1 ([])))) [] k
  = k (.exit 0) (.d (.ivs l.length (ints l)) :: .d (.int .i64 x) :: Y2 (.d (.int .i64 0) :: .d (.int .i64 ((q:Int))) :: Y8 (Y1 ([])))) []:=by
 intro j
 induction j with
 | zero =>
  intro i m hi hm
  obtain _ | m:=m; omega
  obtain rfl:i = q:=by omega
  have hc:(i:Int) < l.length:=by omega
  have hi0:(0:Int) ≤ i:=by omega
  rw [LI]
  simp only [GW,Tryz.f43,SLM,simprocAttr]
  simp -implicitDefEqProofs (maxSteps:=2000000) (disch:=try exact Dz) only [↓DN,↓kAsg,↓kRet,UP,simprocAttr,hc,hi0,hx,Int.toNat_natCast]
 | succ j ih =>
  intro i m hi hm
  obtain _ | m:=m; omega
  have hc:(i:Int) < l.length:=by omega
  have hi0:(0:Int) ≤ i:=by omega
  have he:=hne i (by omega)
  have ih':=ih (i + 1) m (by omega) (by omega)
  rw [show ((i + 1:Nat):Int) = (i:Int) + 1 by omega] at ih'
  clear ih
  rw [LI]
  simp only [GW,Tryz.f43,SLM,simprocAttr]
  simp -implicitDefEqProofs (maxSteps:=2000000) (disch:=try exact Dz) only [↓DN,↓kAsg,↓kRet,UP,simprocAttr,hc,hi0,he,Int.toNat_natCast,↓ih']
theorem aTn {l:List Int} {x:Int} {i:Nat} (h:i < l.idxOf x) (hx:x ∈ l):¬ l.getD i 0 = x:=by
 obtain ⟨_,hq⟩:=AC hx
 rw [List.getD_eq_getElem?_getD,List.getElem?_eq_getElem (by omega)]
 intro e
 have e2:l[i]'(by omega) = x:=e
 have:=List.not_of_lt_findIdx (p:=(· == x)) (xs:=l) (i:=i) h
 rw [e2] at this
 simp at this
theorem W6 {L n:Nat} (hn:2 ≤ n) (l:List Int) (x:Int) (hx:x ∈ l) (hl:l.length ≤ 4294967290) (hL:2 ^ 60 ≤ L):aA env L n 43 [.d (.ivs l.length (ints l)),.d (.int .i64 x)] [] = some (.d (.int .i64 (idxU l x)),[]):=by
 obtain ⟨h1,h2⟩:=AC hx
 have loop_c:=fun {R:Type} {n:Nat} {k:Exit → List A → H → Option R} (hn:1 ≤ n) => @aEy R L n hn l x (l.idxOf x) h2 hl h1 (fun i hi => aTn hi hx) k (l.idxOf x) 0 L (by omega) (by omega)
 simp only [Int.natCast_zero] at loop_c
 unfold idxU
 generalize l.idxOf x = q at *
 obtain _ | n:=n; omega
 rw [aID]
 simp only [aAq,Tryz.f43,SLM,simprocAttr]
 simp -implicitDefEqProofs (maxSteps:=2000000) (disch:=try exact Dz) only [↓DN,↓kAsg,↓kRet,UP,simprocAttr,↓loop_c]
theorem rV {R:Type} {L n:Nat} {hq:H} {k:A → H → Option R} (hn:2 ≤ n) (l:List Int) (x:Int) (hx:x ∈ l) (hl:l.length ≤ 4294967290) (hL:2 ^ 60 ≤ L):aL env (aA env L n) hq 43 [.d (.ivs l.length (ints l)),.d (.int .i64 x)] k = k (.d (.int .i64 (idxU l x))) hq :=
 aR rfl (W6 hn l x hx hl hL) rfl (.inl rfl)
theorem rR {R:Type} {L n:Nat} {k:A → Option R} (hn:2 ≤ n) (l:List Int) (x:Int) (hx:x ∈ l) (hl:l.length ≤ 4294967290) (hL:2 ^ 60 ≤ L):bK (aA env L n) 43 [.d (.ivs l.length (ints l)),.d (.int .i64 x)] k = k (.d (.int .i64 (idxU l x))) :=
 fM (W6 hn l x hx hl hL) rfl
theorem o8 {R:Type} {L n:Nat} {hq:H} {k:A → H → Option R} {id0 g0 o0 len0:Nat} {x:Int}:aL env (aA env L n) hq 43 [.sl id0 g0 o0 len0,.d (.int .i64 x)] k = match box (dA hq [.sl id0 g0 o0 len0,.d (.int .i64 x)]) with
  | .mk (some fs) => bK (aA env L n) 43 fs fun r => k r hq
  | _ => none:=aU D0
theorem aBy {R:Type} {L n:Nat} (hn:3 ≤ n) (hL:2 ^ 60 ≤ L) {a:Aut} {i:Nat} {r:List Int} (hr:r.length ≤ 100) {k:Exit → List A → H → Option R}:∀ (j q m:Nat) (o:List Int) (len:Nat) (hq:q + j = r.length) (hm:j < m) (hlen:len = o.length) (ho:o.length + j ≤ 100000),
  aO env (aA env L n) L 0 [] (Z1 (U4 (U2 (Z32 (Z4 ([])))))) (j3 1) (U1 (Z4 (Z2 (U32 (U4 ([])))))) m (Y1 (.ptr 0 0 0 :: .d .nils :: .sl 1 0 0 len :: .d (.int .i64 ((i:Int))) :: .d (.ivs r.length (ints r)) :: .d (.int .i64 ((q:Int))) :: Y32 (Y4 ([])))) [.box [.d (.int .i64 a.al),.d (.ivs a.nx.length (aK a.nx)),.d (.ivs a.ac.length (aH a.ac))],.arr (ints o) 1 0] k
  = k (.exit 2) (Y1 (.ptr 0 0 0 :: .d .nils :: .sl 1 0 0 (rowU o (r.drop q)).length :: .d (.int .i64 ((i:Int))) :: .d (.ivs r.length (ints r)) :: .d (.int .i64 (r.length)) :: Y32 (Y4 ([])))) [.box [.d (.int .i64 a.al),.d (.ivs a.nx.length (aK a.nx)),.d (.ivs a.ac.length (aH a.ac))],.arr (ints (rowU o (r.drop q))) 1 0]:=by
 intro j
 induction j with
 | zero =>
  intro q m o len hq hm hlen ho
  obtain _ | m:=m; omega
  obtain rfl:q = r.length:=by omega
  subst hlen
  rw [yV]
  simp only [yM,Tryz.f42,SLM,simprocAttr]
  simp -implicitDefEqProofs (maxSteps:=2000000) (disch:=try exact Dz) only [↓DN,↓kAsg,↓kRet,UP,simprocAttr,↓kQ,↓oS,↓iB,LA,Int.lt_irrefl]
  rw [List.drop_length]
  rfl
 | succ j ih =>
  intro q m o len hq hm hlen ho
  obtain _ | m:=m; omega
  subst hlen
  have hk:q < r.length:=by omega
  have hc:(q:Int) < r.length:=by omega
  have hq0:(0:Int) ≤ q:=by omega
  have kl_i:=fun {R:Type} {n:Nat} {k:A → Option R} (hn:2 ≤ n) => @oS R L n k hn o (r.getD q 0) (by omega) hL
  have hl4:o.length ≤ 4294967290:=by omega
  rw [dZ hk (d:=0)]
  by_cases h:r.getD q 0 ∈ o
  ·have e:rowU o (r.getD q 0 :: r.drop (q + 1)) = rowU o (r.drop (q + 1)):=by
    unfold rowU
    rw [List.foldl_cons,addU,if_pos h]
   have ih':=ih (q + 1) m o o.length (by omega) (by omega) rfl (by omega)
   rw [show ((q + 1:Nat):Int) = (q:Int) + 1 by omega] at ih'
   rw [e]
   rw [decide_eq_true h] at kl_i
   clear ih
   generalize rowU o (r.drop (q + 1)) = w at *
   rw [yV]
   simp only [yM,Tryz.f42,SLM,simprocAttr]
   simp -implicitDefEqProofs (maxSteps:=2000000) (disch:=try exact Dz) only [↓DN,↓kAsg,↓kRet,UP,simprocAttr,↓kQ,↓iB,LA,hc,hq0,Int.toNat_natCast,↓kl_i,↓ih']
  ·have e:rowU o (r.getD q 0 :: r.drop (q + 1)) = rowU (o ++ [r.getD q 0]) (r.drop (q + 1)):=by
    unfold rowU
    rw [List.foldl_cons,addU,if_neg h]
   have ih':=ih (q + 1) m (o ++ [r.getD q 0]) (o.length + 1) (by omega) (by omega) (by simp) (by simp; omega)
   rw [show ((q + 1:Nat):Int) = (q:Int) + 1 by omega] at ih'
   rw [e]
   rw [decide_eq_false h] at kl_i
   clear ih
   generalize rowU (o ++ [r.getD q 0]) (r.drop (q + 1)) = w at *
   rw [yV]
   simp only [yM,Tryz.f42,SLM,simprocAttr]
   simp -implicitDefEqProofs (maxSteps:=2000000) (disch:=try exact Dz) only [↓DN,↓kAsg,↓kRet,UP,simprocAttr,↓kQ,↓iB,LA,hc,hq0,Int.toNat_natCast,↓kl_i,b9,dQ,bX,eU,List.length_append,↓ih']
theorem aBs {R:Type} {L n:Nat} (hn:3 ≤ n) (hL:2 ^ 60 ≤ L) {a:Aut} (ha:AOK a) {k:Exit → List A → H → Option R}:∀ (j i m:Nat) (o:List Int) (W:Nat → List Int) (len:Nat) (hB:Bfs (goS a) (aC a.al) a.nx.length i [] o W) (hi:i ≤ o.length) (hj:a.nx.length < i + j) (hm:j < m) (hlen:len = o.length),
  aO env (aA env L n) L 0 [] (Z1 (U4 (U2 (Z32 (Z4 ([])))))) (j3 0) (U1 (Z4 (U32 (U4 (U2 ([])))))) m (Y1 (.ptr 0 0 0 :: .d .nils :: .sl 1 0 0 len :: .d (.int .i64 ((i:Int))) :: Y32 (Y4 (Y2 ([]))))) [.box [.d (.int .i64 a.al),.d (.ivs a.nx.length (aK a.nx)),.d (.ivs a.ac.length (aH a.ac))],.arr (ints o) 1 0] k
  = k (.exit 0) (Y1 (.ptr 0 0 0 :: .d .nils :: .sl 1 0 0 (ordB (goS a) (aC a.al) j i o).length :: .d (.int .i64 (((ordB (goS a) (aC a.al) j i o).length:Int))) :: Y32 (Y4 (Y2 ([]))))) [.box [.d (.int .i64 a.al),.d (.ivs a.nx.length (aK a.nx)),.d (.ivs a.ac.length (aH a.ac))],.arr (ints (ordB (goS a) (aC a.al) j i o)) 1 0]:=by
 obtain ⟨sa,wa,a1,a2,a3⟩:=eE ha
 have hal:=sa.1
 have last:∀ (i m:Nat) (o:List Int) (len:Nat),i = o.length → 0 < m → len = o.length → aO env (aA env L n) L 0 [] (Z1 (U4 (U2 (Z32 (Z4 ([])))))) (j3 0) (U1 (Z4 (U32 (U4 (U2 ([])))))) m (Y1 (.ptr 0 0 0 :: .d .nils :: .sl 1 0 0 len :: .d (.int .i64 ((i:Int))) :: Y32 (Y4 (Y2 ([]))))) [.box [.d (.int .i64 a.al),.d (.ivs a.nx.length (aK a.nx)),.d (.ivs a.ac.length (aH a.ac))],.arr (ints o) 1 0] k
  = k (.exit 0) (Y1 (.ptr 0 0 0 :: .d .nils :: .sl 1 0 0 o.length :: .d (.int .i64 ((o.length:Int))) :: Y32 (Y4 (Y2 ([]))))) [.box [.d (.int .i64 a.al),.d (.ivs a.nx.length (aK a.nx)),.d (.ivs a.ac.length (aH a.ac))],.arr (ints o) 1 0]:=by
  intro i m o len hi hm hlen
  obtain _ | m:=m; omega
  subst hi
  subst hlen
  rw [LO]
  simp only [G4,Tryz.f42,SLM,simprocAttr]
  simp -implicitDefEqProofs (maxSteps:=2000000) (disch:=try exact Dz) only [↓DN,↓kAsg,↓kRet,UP,simprocAttr,↓kQ,↓oS,↓iB,LA,Int.lt_irrefl]
 intro j
 induction j with
 | zero =>
  intro i m o W len hB hi hj hm hlen
  have:=iF hB.nod hB.rng
  omega
 | succ j ih =>
  intro i m o W len hB hi hj hm hlen
  unfold ordB
  by_cases hlt:i < o.length
  ·obtain _ | m:=m; omega
   subst hlen
   rw [if_pos hlt]
   obtain ⟨v0,v1⟩:=hB.rng _ (pS hlt)
   have hrm:=YK ha v0 v1
   obtain ⟨W1,h1,h2⟩:=Bfs.row (EW _) (fun l hl => aEo ha _ l v0 v1 hl) (aC a.al) [] o W hB rfl hlt rfl
   rw [hrm] at h1 h2 ⊢
   have hn1:=iF hB.nod hB.rng
   have hrl:=(FM ha (i:=(o.getD i 0).toNat) (by omega)).1
   have hll:=eY a.al
   have loop_c:=fun {R:Type} {n:Nat} {k:Exit → List A → H → Option R} (hn:3 ≤ n) => @aBy R L n hn hL a i (rowA a (o.getD i 0)) (by unfold rowA; omega) k (rowA a (o.getD i 0)).length 0 L o o.length (by omega) (by unfold rowA; omega) rfl (by unfold rowA; omega)
   rw [List.drop_zero] at loop_c
   have ih':=ih (i + 1) m (rowU o (rowA a (o.getD i 0))) W1 _ h1.next (by omega) (by omega) (by omega) rfl
   rw [show ((i + 1:Nat):Int) = (i:Int) + 1 by omega] at ih'
   simp only [Int.natCast_zero] at loop_c
   have hc:(i:Int) < o.length:=by omega
   have hi0:(0:Int) ≤ i:=by omega
   clear ih h1 hB last hrm
   unfold rowA at *
   generalize hv:o.getD i 0 = v at *
   have hk:v.toNat < a.nx.length:=by omega
   generalize rowU o (a.nx.getD v.toNat []) = w at *
   generalize ordB (goS a) (aC a.al) j (i + 1) w = z at *
   rw [LO]
   simp only [G4,Tryz.f42,SLM,simprocAttr]
   simp -implicitDefEqProofs (maxSteps:=2000000) (disch:=try exact Dz) only [↓DN,↓kAsg,↓kRet,UP,simprocAttr,↓kQ,↓oS,↓iB,LA,hc,hi0,hv,v0,v1,b9,dQ,dN,dS,Int.toNat_natCast,↓loop_c,↓ih']
  ·rw [if_neg hlt]
   exact last i m o len (by omega) (by omega) hlen
theorem aIk {L n:Nat} (hn:4 ≤ n) (a:Aut) (ha:AOK a) (hL:2 ^ 60 ≤ L):aA env L n 42 [.agg [.d (.int .i64 a.al),.d (.ivs a.nx.length (aK a.nx)),.d (.ivs a.ac.length (aH a.ac))]] [] = some (.d (.ivs (ordA a).length (ints (ordA a))),[]):=by
 obtain ⟨sa,wa,a1,a2,a3⟩:=eE ha
 have loop_c:=fun {R:Type} {n:Nat} {k:Exit → List A → H → Option R} (hn:3 ≤ n) => @aBs R L n hn hL a ha k (a.nx.length + 1) 0 L [0] (fun _ => []) 1 (Bfs.start (by omega)) (by omega) (by omega) (by omega) rfl
 have e:ints [0] = [.int .i64 0]:=rfl
 have e2:ordB (goS a) (aC a.al) (a.nx.length + 1) 0 [0] = ordA a:=rfl
 rw [e,e2] at loop_c
 simp only [Int.natCast_zero] at loop_c
 obtain ⟨W,hB⟩:=tO ha
 have hl:=iF hB.nod hB.rng
 clear hB
 generalize ordA a = w at *
 have e4:(ints w).take w.length = ints w:=by rw [bX (Nat.le_refl _)]
 obtain _ | n:=n; omega
 rw [aIN]
 simp only [ZL,Tryz.f42,SLM,simprocAttr]
 simp -implicitDefEqProofs (maxSteps:=2000000) (disch:=try exact Dz) only [↓DN,↓kAsg,↓kRet,UP,simprocAttr,↓kQ,↓oS,↓iB,LA,e4,↓loop_c,b9,dQ]
theorem rY {R:Type} {L n:Nat} {hq:H} {k:A → H → Option R} (hn:4 ≤ n) (a:Aut) (ha:AOK a) (hL:2 ^ 60 ≤ L):aL env (aA env L n) hq 42 [.agg [.d (.int .i64 a.al),.d (.ivs a.nx.length (aK a.nx)),.d (.ivs a.ac.length (aH a.ac))]] k = k (.d (.ivs (ordA a).length (ints (ordA a)))) hq :=
 aR rfl (aIk hn a ha hL) rfl (.inr rfl)
def netO (a:Aut) (st:Int):Net:=⟨[],[a],[0],a.al,5,st⟩
theorem aK6 {na v:Int} (h0:0 ≤ v) (h1:v < na):decN [na] v = [v]:=by
 show [v.tmod na] = [v]
 rw [Int.tmod_eq_emod_of_nonneg h0,Int.emod_eq_of_lt h0 h1]
theorem aNT {a:Aut} (ha:AOK a) (st:Int):aB8 (nxS a) (glS st) (aC a.al) a.nx.length 0 = oneG a st:=by
 obtain ⟨_,_,h1,_,_⟩:=eE ha
 refine BV (aP7 (fun v c h0 h1 hc => ?_) (EW _) (by omega) (by omega)) (I5 ha st)
 have:=jL c hc
 exact PY ha h0 h1 (by omega)
theorem aGN {L n:Nat} (hn:11 ≤ n) (hL:2 ^ 60 ≤ L) {a:Aut} (ha:AOK a) (st:Int) :
  aA env L n 45 [.agg [.d .nils,.d (.ivs 1 (eZ [a])),.d (.ivs 1 (ints [0])),.d (.int .i64 a.al),.d (.int .i64 5),.d (.int .i64 st)]] [] = some (.tup [.d (.str (txt (oneG a st).1)),.d (.bool (oneG a st).2)],[]):=by
 obtain ⟨sa,aw,a1,a2,a3⟩:=eE ha
 have hz:JZ (netO a st) = [(a.nx.length:Int)]:=rfl
 rw [← aNT ha st]
 have key:=@aHX L n hn hL 1 (eZ [a]) 5 st a.al 0 [0] [(a.nx.length:Int)] (nxS a) (glS st) a.nx.length (by simp) rfl (by
   intro q hq
   match q,hq with
   | 0,_ => exact ⟨by simp,by simp⟩
   | 1,_ => simp; omega
   | q + 2,hq => simp at hq) (by simp) (by intro z hz; simp at hz; subst hz; omega) (by
   simp only [RM,and_true]
   refine ⟨by omega,by omega,?_⟩
   simp) (by simp [encN]) (by omega) (by omega)
   (fun {n} hn => by
    have:=@VP L n hn (netO a st) (by simp [netO]) (by simp [netO]) (fun x hx => by simp [netO] at hx; subst hx; omega) hL
    exact this)
   (fun v l hv hl {R n hq k} hn => by
    have hl2:=jL l hl
    rw [aK6 (by omega) (by omega)]
    have ga:=YI ha (q:=(v:Int)) (by omega) (by omega) hl2.1 (by omega)
    have hnx:nexG (fun i => [goI a.al a.nx (v:Int) l]) [(a.nx.length:Int)] 1 0 [0] = nxS a v l:=by
     simp [nexG,mulN,nxS]
    rw [← hnx]
    refine aR rfl (@aHy L n hn hL 0 1 1 [] (eZ [a]) (ints [0]) a.al 5 st [(a.nx.length:Int)] [(v:Int)] l (fun i => [goI a.al a.nx (v:Int) l]) (fun i => if i = 0 then 0 else 11) rfl (by simp) (fun t ht {R n hq k} hn => ?_) (fun t ht => ?_) (fun t ht => ?_) (fun t ht c hc => ?_) (by simp) (fun t ht => ?_)) rfl (.inr rfl)
    ·match t,ht with
     | 0,_ => exact aR rfl (P3 hn (netO a st) 0 _ l (Nat.le_refl _) (by simp [netO]) (by simp [netO]) (by simp [netO]) a rfl sa aw (by show (0:Int) ≤ (v:Int); omega) (by show (v:Int) < _; omega) hl2.1 (by omega) hL) rfl (.inr rfl)
     | t + 1,ht => exact absurd ht (by show ¬ (t + 1 < 1); omega)
    ·match t,ht with
     | 0,_ => simp; omega
     | t + 1,ht => exact absurd ht (by show ¬ (t + 1 < 1); omega)
    ·simp
    ·match t,ht with
     | 0,_ => simp at hc; subst hc; simpa using ga
     | t + 1,ht => exact absurd ht (by show ¬ (t + 1 < 1); omega)
    ·match t,ht with
     | 0,_ => simp; omega
     | t + 1,ht => exact absurd ht (by show ¬ (t + 1 < 1); omega))
   (fun v hv {R n k} hn => by
    rw [aK6 (by omega) (by omega)]
    have hg:aHZ (netO a st) [(v:Int)] ((movT (nxS a) (aC a.al) a.nx.length).getD v []) = glS st v:=rfl
    rw [← hg]
    exact fM (aGU (by omega) (netO a st) [(v:Int)] ((movT (nxS a) (aC a.al) a.nx.length).getD v []) rfl (by simp [netO]) (by simp [netO]) (by simp)) rfl)
   (fun v c h0 h1 hc => by
    have:=jL c hc
    exact ⟨by simp [nxS],PY ha h0 h1 (by omega)⟩)
 exact key
theorem MW {L n:Nat} (hn:12 ≤ n) (a:Aut) (st:Int) (hs:a8 a.nx) (hac:a.ac.length ≤ 4294967296) (hL:2 ^ 60 ≤ L):aA env L n 19 [.agg [.d (.int .i64 a.al),.d (.ivs a.nx.length (aK a.nx)),.d (.ivs a.ac.length (aH a.ac))],.d (.int .i64 st)] [] = some (.tup [.d (.str (txt (accG a st).1)),.d (.bool (accG a st).2)],[]):=by
 have hrl:=hs.1
 unfold accG
 cases hv:gC a.al a.nx a.ac with
 | false =>
  simp only [Bool.false_eq_true,if_false,txt,List.map_nil]
  obtain _ | n:=n; omega
  rw [BF]
  simp only [vY,Tryz.f19,SLM,simprocAttr]
  simp -implicitDefEqProofs (maxSteps:=2000000) (disch:=try exact Dz) only [↓DN,↓kAsg,↓kRet,UP,simprocAttr,↓iG,↓LX,↓iI,↓KA,↓gG,↓gJ,↓gN,↓EQ,↓DZ,↓D1,LA,hv]
 | true =>
  simp only [if_true]
  by_cases h1:0 ≤ st ∧ st < a.nx.length
  ·obtain ⟨h1,h2⟩:=h1
   have kc_b:=fun {R:Type} {n:Nat} {k:A → Option R} (hn:11 ≤ n) => fM (call:=aA env L n) (k:=k) (f:=45) (@aGN L n hn hL a hv st) rfl
   simp only [eZ,ints,List.map_cons,List.map_nil] at kc_b
   have kl_b:=fun {R:Type} {n:Nat} {k:A → Option R} (hn:11 ≤ n) => kc_b (R:=R) (n:=n) (k:=k) hn
   have kv_l:=fun {R:Type} {n:Nat} {hq:H} {args:List A} {k:A → H → Option R} => aU (E:=env) (call:=aA env L n) (h:=hq) (k:=k) (args:=args) EP
   clear kc_b
   generalize oneG a st = r at *
   obtain _ | n:=n; omega
   rw [BF]
   simp only [vY,Tryz.f19,SLM,simprocAttr]
   simp -implicitDefEqProofs (maxSteps:=2000000) (disch:=try exact Dz) only [↓DN,↓kAsg,↓kRet,UP,simprocAttr,↓iG,↓LX,↓iI,↓KA,↓gG,↓gJ,↓gN,↓EQ,↓DZ,↓D1,LA,hv,h1,h2,decide_true,Bool.and_self,↓kv_l,↓kl_b]
  ·rw [aS7 hv h1]
   have e3:(decide (0 ≤ st) && decide (st < a.nx.length)) = false:=by
    rw [Bool.and_eq_false_iff,decide_eq_false_iff_not,decide_eq_false_iff_not]; omega
   simp only [txt,List.map_nil]
   obtain _ | n:=n; omega
   rw [BF]
   simp only [vY,Tryz.f19,SLM,simprocAttr]
   simp -implicitDefEqProofs (maxSteps:=2000000) (disch:=try exact Dz) only [↓DN,↓kAsg,↓kRet,UP,simprocAttr,↓iG,↓LX,↓iI,↓KA,↓gG,↓gJ,↓gN,↓EQ,↓DZ,↓D1,LA,hv,e3]
theorem uF {R:Type} {L n:Nat} {hq:H} {k:A → H → Option R} (hn:12 ≤ n) (a:Aut) (st:Int) (hs:a8 a.nx) (hac:a.ac.length ≤ 4294967296) (hL:2 ^ 60 ≤ L):aL env (aA env L n) hq 19 [.agg [.d (.int .i64 a.al),.d (.ivs a.nx.length (aK a.nx)),.d (.ivs a.ac.length (aH a.ac))],.d (.int .i64 st)] k = k (.tup [.d (.str (txt (accG a st).1)),.d (.bool (accG a st).2)]) hq :=
 aR rfl (MW hn a st hs hac hL) rfl (.inl rfl)
theorem uE {R:Type} {L n:Nat} {k:A → Option R} (hn:12 ≤ n) (a:Aut) (st:Int) (hs:a8 a.nx) (hac:a.ac.length ≤ 4294967296) (hL:2 ^ 60 ≤ L):bK (aA env L n) 19 [.agg [.d (.int .i64 a.al),.d (.ivs a.nx.length (aK a.nx)),.d (.ivs a.ac.length (aH a.ac))],.d (.int .i64 st)] k = k (.tup [.d (.str (txt (accG a st).1)),.d (.bool (accG a st).2)]) :=
 fM (MW hn a st hs hac hL) rfl
theorem qX {R:Type} {L n:Nat} {hq:H} {k:A → H → Option R} {id0 g0 o0 len0:Nat} {a:Aut} {st:Int}:aL env (aA env L n) hq 19 [.agg [.d (.int .i64 a.al),.sl id0 g0 o0 len0,.d (.ivs a.ac.length (aH a.ac))],.d (.int .i64 st)] k = match box (dA hq [.agg [.d (.int .i64 a.al),.sl id0 g0 o0 len0,.d (.ivs a.ac.length (aH a.ac))],.d (.int .i64 st)]) with
  | .mk (some fs) => bK (aA env L n) 19 fs fun r => k r hq
  | _ => none:=aU oG
theorem qY {R:Type} {L n:Nat} {hq:H} {k:A → H → Option R} {id1 g1 o1 len1:Nat} {a:Aut} {st:Int}:aL env (aA env L n) hq 19 [.agg [.d (.int .i64 a.al),.d (.ivs a.nx.length (aK a.nx)),.sl id1 g1 o1 len1],.d (.int .i64 st)] k = match box (dA hq [.agg [.d (.int .i64 a.al),.d (.ivs a.nx.length (aK a.nx)),.sl id1 g1 o1 len1],.d (.int .i64 st)]) with
  | .mk (some fs) => bK (aA env L n) 19 fs fun r => k r hq
  | _ => none:=aU oG
theorem q8 {R:Type} {L n:Nat} {hq:H} {k:A → H → Option R} {id1 g1 o1 len1:Nat} {id0 g0 o0 len0:Nat} {a:Aut} {st:Int}:aL env (aA env L n) hq 19 [.agg [.d (.int .i64 a.al),.sl id0 g0 o0 len0,.sl id1 g1 o1 len1],.d (.int .i64 st)] k = match box (dA hq [.agg [.d (.int .i64 a.al),.sl id0 g0 o0 len0,.sl id1 g1 o1 len1],.d (.int .i64 st)]) with
  | .mk (some fs) => bK (aA env L n) 19 fs fun r => k r hq
  | _ => none:=aU oG
theorem aJ3 {f:Int → Int} {r:List Int} {k:Nat} (h:k < r.length):(r.drop k).map f = f (r.getD k 0) :: (r.drop (k + 1)).map f:=by
 rw [dZ h (d:=0)]; rfl
theorem aAI {b:List Bool} {x:Bool}:aH b ++ [.bool x] = aH (b ++ [x]):=by simp [aH]
theorem aDS {R:Type} {L n:Nat} (hn:3 ≤ n) (hL:2 ^ 60 ≤ L) {a:Aut} {o:List Int} {i:Nat} {v:Int} (hio:i < o.length) (hoi:o.getD i 0 = v) (v0:0 ≤ v) (v1:v < a.nx.length) (hr:(rowA a v).length ≤ 100) (ho:o.length ≤ 100) (hal:a.nx.length ≤ 100) (hin:∀ x ∈ rowA a v,x ∈ o) {al2:Int} {d e:Nat} {cn cs2:List D} {k:Exit → List A → H → Option R}:∀ (j q m:Nat) (r:List Int) (len:Nat) (hq:q + j = (rowA a v).length) (hm:j < m) (hlen:len = r.length) (hr2:r.length + j ≤ 1000),
  aO env (aA env L n) L 0 [] (Z1 (U4 (U2 (U1 (Z32 (Z16 (Z8 (Z4 (Z1 ([])))))))))) (nF 1) (U1 (Z4 (Z2 (Z1 (U32 (U16 (U8 (U4 (U1 ([])))))))))) m (Y1 (.ptr 0 0 0 :: .ptr 1 0 0 :: .d (.ivs o.length (ints o)) :: .ptr 2 0 0 :: .d (.int .i64 ((i:Int))) :: .sl 3 0 0 len :: .d (.int .i64 ((q:Int))) :: Y32 (Y16 (Y8 (Y4 (Y1 ([]))))))) [.box [.d (.int .i64 a.al),.d (.ivs a.nx.length (aK a.nx)),.d (.ivs a.ac.length (aH a.ac))],.box [.d (.int .i64 0),.sl 4 0 0 0,.sl 5 0 0 0],.box [.d (.int .i64 al2),.sl 6 0 0 d,.sl 7 0 0 d],.arr (ints r) 1 0,.arr [] 0 0,.arr [] 0 0,.arr cn e 0,.arr cs2 e 0] k
  = k (.exit 2) (Y1 (.ptr 0 0 0 :: .ptr 1 0 0 :: .d (.ivs o.length (ints o)) :: .ptr 2 0 0 :: .d (.int .i64 ((i:Int))) :: .sl 3 0 0 (r ++ ((rowA a v).drop q).map (idxU o)).length :: .d (.int .i64 ((rowA a v).length)) :: Y32 (Y16 (Y8 (Y4 (Y1 ([]))))))) [.box [.d (.int .i64 a.al),.d (.ivs a.nx.length (aK a.nx)),.d (.ivs a.ac.length (aH a.ac))],.box [.d (.int .i64 0),.sl 4 0 0 0,.sl 5 0 0 0],.box [.d (.int .i64 al2),.sl 6 0 0 d,.sl 7 0 0 d],.arr (ints (r ++ ((rowA a v).drop q).map (idxU o))) 1 0,.arr [] 0 0,.arr [] 0 0,.arr cn e 0,.arr cs2 e 0]:=by
 have hio1:(i:Int) < o.length:=by omega
 have hi0:(0:Int) ≤ i:=by omega
 have hvk:v.toNat < a.nx.length:=by omega
 intro j
 induction j with
 | zero =>
  intro q m r len hq hm hlen hr2
  obtain _ | m:=m; omega
  obtain rfl:q = (rowA a v).length:=by omega
  subst hlen
  rw [List.drop_length]
  unfold rowA at *
  rw [MC]
  simp only [JV,Tryz.f18,SLM,simprocAttr]
  simp -implicitDefEqProofs (maxSteps:=2000000) (disch:=try exact Dz) only [↓DN,↓kAsg,↓kRet,UP,simprocAttr,↓rY,↓rV,↓rR,↓o8,LA,hio1,hi0,hoi,v0,v1,Int.toNat_natCast,Int.lt_irrefl,b9,dQ,dN,dS]
 | succ j ih =>
  intro q m r len hq hm hlen hr2
  obtain _ | m:=m; omega
  subst hlen
  have hk:q < (rowA a v).length:=by omega
  have hx:(rowA a v).getD q 0 ∈ o:=hin _ (pS hk)
  have ih':=ih (q + 1) m (r ++ [idxU o ((rowA a v).getD q 0)]) (r.length + 1) (by omega) (by omega) (by simp) (by simp; omega)
  rw [show ((q + 1:Nat):Int) = (q:Int) + 1 by omega] at ih'
  simp only [List.append_assoc,List.singleton_append] at ih'
  rw [aJ3 hk]
  have kc_x:=fun {R:Type} {n:Nat} {hq:H} {k:A → H → Option R} (hn:2 ≤ n) => @rV R L n hq k hn o ((rowA a v).getD q 0) hx (by omega) hL
  have hc:(q:Int) < (rowA a v).length:=by omega
  have hq0:(0:Int) ≤ q:=by omega
  clear ih hx hin
  generalize ((rowA a v).drop (q + 1)).map (idxU o) = w at *
  unfold rowA at *
  have hr100:r.length ≤ 1000:=by omega
  rw [MC]
  simp only [JV,Tryz.f18,SLM,simprocAttr]
  simp -implicitDefEqProofs (maxSteps:=2000000) (disch:=try exact Dz) only [↓DN,↓kAsg,↓kRet,UP,simprocAttr,↓rY,↓rR,↓o8,LA,hio1,hi0,hoi,v0,v1,hc,hq0,Int.toNat_natCast,b9,dQ,dN,dS,↓kc_x,bX,eU,List.length_append,↓ih']
theorem aDf {R:Type} {L n:Nat} (hn:3 ≤ n) (hL:2 ^ 60 ≤ L) {a:Aut} (ha:AOK a) {o:List Int} (ho:o.length ≤ 12) (hor:∀ x ∈ o,0 ≤ x ∧ x < a.nx.length) (hin:∀ v ∈ o,∀ x ∈ rowA a v,x ∈ o) {al2:Int} {k:Exit → List A → H → Option R}:∀ (j i m:Nat) (d:List (List Int)) (b:List Bool) (len e:Nat) (hi:i + j = o.length) (hm:j < m) (hd:d = (o.take i).map fun v => (rowA a v).map (idxU o)) (hb:b = (o.take i).map fun v => a.ac.getD v.toNat false) (hlen:i = len) (he:e = if i = 0 then 0 else 1),
  aO env (aA env L n) L 0 [] (Z1 (U4 (U2 (U1 (Z32 (Z16 (Z8 (Z4 (Z1 ([])))))))))) (nF 0) (U1 (Z4 (Z1 (U32 (U16 (U8 (U4 (U2 (U1 ([])))))))))) m (Y1 (.ptr 0 0 0 :: .ptr 1 0 0 :: .d (.ivs o.length (ints o)) :: .ptr 2 0 0 :: .d (.int .i64 ((i:Int))) :: Y32 (Y16 (Y8 (Y4 (Y2 (Y1 ([])))))))) [.box [.d (.int .i64 a.al),.d (.ivs a.nx.length (aK a.nx)),.d (.ivs a.ac.length (aH a.ac))],.box [.d (.int .i64 0),.sl 3 0 0 0,.sl 4 0 0 0],.box [.d (.int .i64 al2),.sl 5 0 0 len,.sl 6 0 0 len],.arr [] 0 0,.arr [] 0 0,.arr (aK d) e 0,.arr (aH b) e 0] k
  = k (.exit 0) (Y1 (.ptr 0 0 0 :: .ptr 1 0 0 :: .d (.ivs o.length (ints o)) :: .ptr 2 0 0 :: .d (.int .i64 ((o.length:Int))) :: Y32 (Y16 (Y8 (Y4 (Y2 (Y1 ([])))))))) [.box [.d (.int .i64 a.al),.d (.ivs a.nx.length (aK a.nx)),.d (.ivs a.ac.length (aH a.ac))],.box [.d (.int .i64 0),.sl 3 0 0 0,.sl 4 0 0 0],.box [.d (.int .i64 al2),.sl 5 0 0 o.length,.sl 6 0 0 o.length],.arr [] 0 0,.arr [] 0 0,.arr (aK (o.map fun v => (rowA a v).map (idxU o))) (if o.length = 0 then 0 else 1) 0,.arr (aH (o.map fun v => a.ac.getD v.toNat false)) (if o.length = 0 then 0 else 1) 0]:=by
 obtain ⟨sa,wa,a1,a2,a3⟩:=eE ha
 have hal:=sa.1
 intro j
 induction j with
 | zero =>
  intro i m d b len e hi hm hd hb hlen he
  obtain _ | m:=m; omega
  obtain rfl:i = o.length:=by omega
  rw [List.take_length] at hd hb
  subst hd; subst hb; subst hlen; subst he
  rw [BY]
  simp only [CS,Tryz.f18,SLM,simprocAttr]
  simp -implicitDefEqProofs (maxSteps:=2000000) (disch:=try exact Dz) only [↓DN,↓kAsg,↓kRet,UP,simprocAttr,↓rY,↓rV,↓rR,↓o8,LA,Int.lt_irrefl]
 | succ j ih =>
  intro i m d b len e hi hm hd hb hlen he
  obtain _ | m:=m; omega
  subst hlen
  have hio:i < o.length:=by omega
  have hmem:=pS hio
  obtain ⟨v0,v1⟩:=hor _ hmem
  have hin1:=hin _ hmem
  have hrl:=(FM ha (i:=(o.getD i 0).toNat) (by omega)).1
  have hll:=eY a.al
  have htk:o.take (i + 1) = o.take i ++ [o.getD i 0]:=by
   rw [List.take_add_one,List.getElem?_eq_getElem hio,List.getD_eq_getElem?_getD,List.getElem?_eq_getElem hio]; rfl
  have hdl:d.length = i:=by rw [hd,List.length_map,List.length_take]; omega
  have hbl:b.length = i:=by rw [hb,List.length_map,List.length_take]; omega
  have ih':=ih (i + 1) m (d ++ [(rowA a (o.getD i 0)).map (idxU o)]) (b ++ [a.ac.getD (o.getD i 0).toNat false]) (i + 1) 1 (by omega) (by omega) (by rw [htk,hd,List.map_append]; rfl) (by rw [htk,hb,List.map_append]; rfl) rfl (by rw [if_neg (by omega)])
  rw [show ((i + 1:Nat):Int) = (i:Int) + 1 by omega] at ih'
  have loop_c:=fun {R:Type} {n:Nat} {d e:Nat} {cn cs2:List D} {k:Exit → List A → H → Option R} (hn:3 ≤ n) => @aDS R L n hn hL a o i (o.getD i 0) hio rfl v0 v1 (by unfold rowA; omega) (by omega) (by omega) hin1 al2 d e cn cs2 k (rowA a (o.getD i 0)).length 0 L [] 0 (by omega) (by unfold rowA; omega) rfl (by unfold rowA; rw [List.length_nil]; omega)
  rw [List.drop_zero] at loop_c
  simp only [Int.natCast_zero,List.nil_append,qL] at loop_c
  have hc:(i:Int) < o.length:=by omega
  have hi0:(0:Int) ≤ i:=by omega
  have hrl2:((rowA a (o.getD i 0)).map (idxU o)).length ≤ 6:=by rw [List.length_map]; unfold rowA; omega
  clear ih hin hor hin1 hmem hd hb htk
  generalize (rowA a (o.getD i 0)).map (idxU o) = w at *
  generalize rowA a (o.getD i 0) = w0 at *
  generalize hv:o.getD i 0 = v at *
  have hvk:v.toNat < a.nx.length:=by omega
  have hva:v.toNat < a.ac.length:=by omega
  have hva2:v < a.ac.length:=by omega
  have ht:(aK d).take i = aK d:=vO (by omega)
  have ht2:(aH b).take i = aH b:=jF (by omega)
  have hwt:(ints w).take w.length = ints w:=by rw [bX (Nat.le_refl _)]
  have hi12:i ≤ 12:=by omega
  by_cases hz:i = 0
  ·obtain rfl:e = 0:=by rw [he,if_pos hz]
   clear he hz
   rw [BY]
   simp only [CS,Tryz.f18,SLM,simprocAttr]
   simp -implicitDefEqProofs (maxSteps:=2000000) (disch:=try exact Dz) only [↓DN,↓kAsg,↓kRet,UP,simprocAttr,↓rY,↓rV,↓rR,↓o8,LA,hc,hi0,hv,v0,v1,hva2,b9,dQ,dN,dS,Int.toNat_natCast,↓loop_c,ht,ht2,hwt,M6,aAI,↓ih']
  ·obtain rfl:e = 1:=by rw [he,if_neg hz]
   clear he hz
   rw [BY]
   simp only [CS,Tryz.f18,SLM,simprocAttr]
   simp -implicitDefEqProofs (maxSteps:=2000000) (disch:=try exact Dz) only [↓DN,↓kAsg,↓kRet,UP,simprocAttr,↓rY,↓rV,↓rR,↓o8,LA,hc,hi0,hv,v0,v1,hva2,b9,dQ,dN,dS,Int.toNat_natCast,↓loop_c,ht,ht2,hwt,M6,aAI,↓ih']
theorem aJU {L n:Nat} (hn:6 ≤ n) (a:Aut) (ha:AOK a) (hL:2 ^ 60 ≤ L):aA env L n 18 [.agg [.d (.int .i64 a.al),.d (.ivs a.nx.length (aK a.nx)),.d (.ivs a.ac.length (aH a.ac))]] [] = some (.agg [.d (.int .i64 (bL a).al),.d (.ivs (bL a).nx.length (aK (bL a).nx)),.d (.ivs (bL a).ac.length (aH (bL a).ac))],[]):=by
 obtain ⟨sa,wa,a1,a2,a3⟩:=eE ha
 obtain ⟨W,hB⟩:=tO ha
 have hl:=iF hB.nod hB.rng
 have hp:=hB.pos
 have hin:∀ v ∈ ordA a,∀ x ∈ rowA a v,x ∈ ordA a:=by
  intro v hv x hx
  obtain ⟨v0,v1⟩:=hB.rng v hv
  rw [← YK ha v0 v1] at hx
  obtain ⟨l,hl,rfl⟩:=List.mem_map.1 hx
  exact RY hB hv hl
 have loop_c:=fun {R:Type} {n:Nat} {k:Exit → List A → H → Option R} (hn:3 ≤ n) => @aDf R L n hn hL a ha (ordA a) (by omega) hB.rng hin a.al k (ordA a).length 0 L [] [] 0 0 (by omega) (by omega) rfl rfl rfl rfl
 have kc_o:=fun {R:Type} {n:Nat} {hq:H} {k:A → H → Option R} (hn:4 ≤ n) => @rY R L n hq k hn a ha hL
 simp only [Int.natCast_zero,UZ,aE4] at loop_c
 rw [if_neg (by omega)] at loop_c
 have hx1:(bL a).nx.length = (ordA a).length:=List.length_map _
 have hx2:(bL a).ac.length = (ordA a).length:=List.length_map _
 have hx3:(bL a).al = a.al:=rfl
 have e1:((ordA a).map fun v => (rowA a v).map (idxU (ordA a))) = (bL a).nx:=rfl
 have e2:((ordA a).map fun v => a.ac.getD v.toNat false) = (bL a).ac:=rfl
 rw [e1,e2] at loop_c
 rw [hx1,hx2,hx3]
 have ht1:(aK (bL a).nx).take (ordA a).length = aK (bL a).nx:=vO (by omega)
 have ht2:(aH (bL a).ac).take (ordA a).length = aH (bL a).ac:=jF (by omega)
 have hr1:(aK (bL a).nx).length = (ordA a).length:=by rw [sA,hx1]
 have hb1:(aH (bL a).ac).length = (ordA a).length:=by rw [eF,hx2]
 clear hB hin e1 e2
 generalize (bL a).nx = w1 at *
 generalize (bL a).ac = w2 at *
 generalize ordA a = w at *
 obtain _ | n:=n; omega
 rw [aJ4]
 simp only [aCw,Tryz.f18,SLM,simprocAttr]
 simp -implicitDefEqProofs (maxSteps:=2000000) (disch:=try exact Dz) only [↓DN,↓kAsg,↓kRet,UP,simprocAttr,↓rV,↓rR,↓o8,LA,↓kc_o,↓loop_c,ht1,ht2,hr1,hb1,Nat.le_refl]
theorem E7 {R:Type} {L n:Nat} {hq:H} {k:A → H → Option R} (hn:6 ≤ n) (a:Aut) (ha:AOK a) (hL:2 ^ 60 ≤ L):aL env (aA env L n) hq 18 [.agg [.d (.int .i64 a.al),.d (.ivs a.nx.length (aK a.nx)),.d (.ivs a.ac.length (aH a.ac))]] k = k (.agg [.d (.int .i64 (bL a).al),.d (.ivs (bL a).nx.length (aK (bL a).nx)),.d (.ivs (bL a).ac.length (aH (bL a).ac))]) hq :=
 aR rfl (aJU hn a ha hL) rfl (.inr rfl)
def BI (x:Aut) (j i:Nat):List Str:=(List.range' i j).map fun q => txt (accG x (q:Nat)).1
theorem aJA {x:Aut} {j i:Nat}:BI x (j + 1) i = txt (accG x (i:Nat)).1 :: BI x j (i + 1):=by
 simp [BI,List.range'_succ]
theorem aJB {a:Aut} (h:AOK a):BI (bL a) (bL a).nx.length 0 = qD a:=by
 obtain ⟨W,hB⟩:=tO h
 rw [M1 h hB]
 have hx1:(bL a).nx.length = (ordA a).length:=List.length_map _
 unfold BI
 rw [hx1,← List.range_eq_range']
 apply List.map_congr_left
 intro q hq
 unfold accG
 rw [if_pos (show gC (bL a).al (bL a).nx (bL a).ac = true from aBH h),aM6 h hB (List.mem_range.1 hq)]
def BU (a:Aut):List Str:=if gC a.al a.nx a.ac = true then qD a else []
theorem RA {a:Aut} (h:AOK a):1 ≤ (qD a).length ∧ (qD a).length ≤ 12:=by
 obtain ⟨W,hB⟩:=tO h
 obtain ⟨sa,wa,a1,a2,a3⟩:=eE h
 have hl:=iF hB.nod hB.rng
 have hp:=hB.pos
 rw [M1 h hB,List.length_map,List.length_range]
 omega
theorem YX {R:Type} {L n:Nat} (hn:12 ≤ n) (hL:2 ^ 60 ≤ L) {a:Aut} (ha:AOK a) {k:Exit → List A → H → Option R}:∀ (q i m:Nat) (o:List Str) (len:Nat) (hq:i + q = a.nx.length) (hm:q < m) (hlen:len = o.length) (ho:o.length + q ≤ 100000),
  aO env (aA env L n) L 0 [] (Z2 (U4 (Z16 (Z8 (Z2 ([])))))) (p8 0) (U2 (Z4 (U16 (U8 (U2 ([])))))) m (Y2 (.d .nils :: .ptr 0 0 0 :: .sl 1 0 0 len :: .d (.int .i64 ((i:Int))) :: Y16 (Y8 (Y2 ([]))))) [.box [.d (.int .i64 a.al),.d (.ivs a.nx.length (aK a.nx)),.d (.ivs a.ac.length (aH a.ac))],.arr (cR o) 1 0] k
  = k (.exit 0) (Y2 (.d .nils :: .ptr 0 0 0 :: .sl 1 0 0 (o ++ BI a q i).length :: .d (.int .i64 ((a.nx.length:Int))) :: Y16 (Y8 (Y2 ([]))))) [.box [.d (.int .i64 a.al),.d (.ivs a.nx.length (aK a.nx)),.d (.ivs a.ac.length (aH a.ac))],.arr (cR (o ++ BI a q i)) 1 0]:=by
 obtain ⟨sa,wa,a1,a2,a3⟩:=eE ha
 have hac:a.ac.length ≤ 4294967296:=by omega
 have hal:=sa.1
 intro q
 induction q with
 | zero =>
  intro i m o len hq hm hlen ho
  obtain _ | m:=m; omega
  obtain rfl:i = a.nx.length:=by omega
  subst hlen
  have e:BI a 0 a.nx.length = []:=rfl
  rw [e,List.append_nil]
  rw [DO]
  simp only [zC,Tryz.f7,SLM,simprocAttr]
  simp -implicitDefEqProofs (maxSteps:=2000000) (disch:=try exact Dz) only [↓DN,↓kAsg,↓kRet,UP,simprocAttr,↓iG,↓E7,↓uF,↓iI,↓uE,↓gG,↓gJ,↓gN,↓qX,↓qY,↓q8,LA,SE,Int.lt_irrefl]
 | succ q ih =>
  intro i m o len hq hm hlen ho
  obtain _ | m:=m; omega
  subst hlen
  have hc:(i:Int) < a.nx.length:=by omega
  have kc_s:=fun {R:Type} {n:Nat} {hq:H} {k:A → H → Option R} (hn:12 ≤ n) => @uF R L n hq k hn a i sa hac hL
  have ih':=ih (i + 1) m (o ++ [txt (accG a (i:Nat)).1]) (o.length + 1) (by omega) (by omega) (by simp) (by simp; omega)
  rw [show ((i + 1:Nat):Int) = (i:Int) + 1 by omega] at ih'
  simp only [List.append_assoc,List.singleton_append] at ih'
  rw [aJA]
  clear ih
  generalize BI a q (i + 1) = w2 at *
  generalize accG a (i:Nat) = r at *
  obtain ⟨w,b⟩:=r
  simp only at kc_s ih' ⊢
  rw [DO]
  simp only [zC,Tryz.f7,SLM,simprocAttr]
  simp -implicitDefEqProofs (maxSteps:=2000000) (disch:=try exact Dz) only [↓DN,↓kAsg,↓kRet,UP,simprocAttr,↓iG,↓E7,↓iI,↓uE,↓gG,↓gJ,↓gN,↓qX,↓qY,↓q8,LA,SE,hc,↓kc_s,sL,aDW,List.length_append,↓ih']
theorem aD2 {L n:Nat} (hn:13 ≤ n) (a:Aut) (hs:a8 a.nx) (hac:a.ac.length ≤ 4294967296) (hL:2 ^ 60 ≤ L):aA env L n 7 [.agg [.d (.int .i64 a.al),.d (.ivs a.nx.length (aK a.nx)),.d (.ivs a.ac.length (aH a.ac))]] [] = some (.d (.ivs (BU a).length (cR (BU a))),[]):=by
 have hrl:=hs.1
 unfold BU
 cases hv:gC a.al a.nx a.ac with
 | false =>
  simp only [Bool.false_eq_true,if_false,List.length_nil,U9]
  obtain _ | n:=n; omega
  rw [N9]
  simp only [EC,Tryz.f7,SLM,simprocAttr]
  simp -implicitDefEqProofs (maxSteps:=2000000) (disch:=try exact Dz) only [↓DN,↓kAsg,↓kRet,UP,simprocAttr,↓iG,↓E7,↓uF,↓iI,↓uE,↓gG,↓gJ,↓gN,↓qX,↓qY,↓q8,LA,hv]
 | true =>
  have htr:=aBH (a:=a) hv
  obtain ⟨sa,wa,a1,a2,a3⟩:=eE htr
  have hl:=RA (a:=a) hv
  have loop_c:=fun {R:Type} {n:Nat} {k:Exit → List A → H → Option R} (hn:12 ≤ n) => @YX R L n hn hL (bL a) htr k (bL a).nx.length 0 L [] 0 (by omega) (by omega) rfl (by simp; omega)
  rw [List.nil_append,aJB hv] at loop_c
  have kc_t:=fun {R:Type} {n:Nat} {hq:H} {k:A → H → Option R} (hn:6 ≤ n) => @E7 R L n hq k hn a hv hL
  simp only [if_true,Int.natCast_zero,U9] at loop_c ⊢
  have hsn:=sa.1
  clear htr wa
  generalize (bL a) = x at *
  generalize qD a = w at *
  have e4:(cR w).take w.length = cR w:=sL (Nat.le_refl _)
  obtain _ | n:=n; omega
  rw [N9]
  simp only [EC,Tryz.f7,SLM,simprocAttr]
  simp -implicitDefEqProofs (maxSteps:=2000000) (disch:=try exact Dz) only [↓DN,↓kAsg,↓kRet,UP,simprocAttr,↓iG,↓uF,↓iI,↓uE,↓gG,↓gJ,↓gN,↓qX,↓qY,↓q8,LA,SE,hv,e4,↓kc_t,↓loop_c]
theorem nV {R:Type} {L n:Nat} {hq:H} {k:A → H → Option R} (hn:13 ≤ n) (a:Aut) (hs:a8 a.nx) (hac:a.ac.length ≤ 4294967296) (hL:2 ^ 60 ≤ L):aL env (aA env L n) hq 7 [.agg [.d (.int .i64 a.al),.d (.ivs a.nx.length (aK a.nx)),.d (.ivs a.ac.length (aH a.ac))]] k = k (.d (.ivs (BU a).length (cR (BU a)))) hq :=
 aR rfl (aD2 hn a hs hac hL) rfl (.inr rfl)
theorem aC2:∀ l:List Str,FU (cR l) = some l
 | [] => rfl
 | s :: l => by
  show (FU (cR l)).map (s :: ·) = _
  rw [aC2 l]; rfl
theorem aMa {a:Aut} {j i:Nat} (h:(oneG a (i:Nat)).2 = true):lF a (j + 1) i = txt (oneG a (i:Nat)).1 :: lF a j (i + 1):=by
 simp [lF,List.range'_succ,h]
theorem aL0 {a:Aut} {j i:Nat} (h:(oneG a (i:Nat)).2 = false):lF a (j + 1) i = lF a j (i + 1):=by
 simp [lF,List.range'_succ,h]
theorem aMC (l:List Str):(aCX l).length = l.length:=List.length_mergeSort _
theorem aLz {l:List Str} (hl:l.length ≤ 4294967296):LG 16 [.sl 0 0 0 l.length,.clo 16 []] [.arr (cR l) 1 0] = some (.tup [],[.arr (cR (aCX l)) 1 0]):=by
 have h1:True ∧ True ∧ True ∧ (l.length = 0 ∨ True) ∧ l.length ≤ (cR l).length ∧ l.length ≤ cE:=by
  refine ⟨trivial,trivial,trivial,.inr trivial,by rw [vL]; omega,by unfold cE; omega⟩
 have h2:FU ((cR l).take l.length) = some l:=by rw [sL (Nat.le_refl _),aC2]
 have h3:(cR l).drop l.length = []:=by rw [aLW,List.drop_length]; rfl
 simp only [LG,List.getElem?_cons_zero]
 rw [if_pos h1]
 simp only [h2,h3,List.append_nil,List.set_cons_zero]
 rfl
theorem eQ {R:Type} {L n id:Nat} {hq:H} {k:A → H → Option R} (hn:1 ≤ n) (l:List Str) (hi:hq[id]? = some (.arr (cR l) 1 0)) (hl:l.length ≤ 4294967296) :
  aL env (aA env L n) hq 15 [.sl id 0 0 l.length,.clo 16 []] k = k (.tup []) (hq.set id (.arr (cR (aCX l)) 1 0)):=by
 obtain _ | n:=n; omega
 exact XK hi (by simp [idsL,idsA]) jS (by simp [idsA,idsL]) (by rw [xN]; simpa [aF,mapA,aJ] using aLz hl)
theorem ZB {R:Type} {L n:Nat} (hn:9 ≤ n) (hL:2 ^ 60 ≤ L) {a:Aut} (ha:AOK a) {k:Exit → List A → H → Option R}:∀ (q i m:Nat) (o:List Str) (len:Nat) (hq:i + q = a.nx.length) (hm:q < m) (hlen:len = o.length) (ho:o.length + q ≤ 100000),
  aO env (aA env L n) L 0 [0,0,0,2] (Z1 (U2 (U1 (Z8 (U2 (Z16 (Z1 ([])))))))) (qH 0) (U1 (Z2 (Z1 (U8 (Z2 (U16 (U1 ([])))))))) m (Y1 (.ptr 0 0 0 :: .d .nils :: .sl 1 0 0 len :: Y8 (.d (.int .i64 (a.nx.length)) :: .d (.int .i64 ((i:Int))) :: Y16 (Y1 ([]))))) [.box [.d (.int .i64 a.al),.d (.ivs a.nx.length (aK a.nx)),.d (.ivs a.ac.length (aH a.ac))],.arr (cR o) 1 0] k
  = k (.exit 0) (Y1 (.ptr 0 0 0 :: .d .nils :: .sl 1 0 0 (o ++ lF a q i).length :: Y8 (.d (.int .i64 (a.nx.length)) :: .d (.int .i64 ((a.nx.length:Int))) :: Y16 (Y1 ([]))))) [.box [.d (.int .i64 a.al),.d (.ivs a.nx.length (aK a.nx)),.d (.ivs a.ac.length (aH a.ac))],.arr (cR (o ++ lF a q i)) 1 0]:=by
 obtain ⟨sa,wa,a1,a2,a3⟩:=eE ha
 have hac:a.ac.length ≤ 4294967296:=by omega
 have hal:=sa.1
 intro q
 induction q with
 | zero =>
  intro i m o len hq hm hlen ho
  obtain _ | m:=m; omega
  obtain rfl:i = a.nx.length:=by omega
  subst hlen
  have e:lF a 0 a.nx.length = []:=rfl
  rw [e,List.append_nil]
  rw [t6]
  simp only [sI,Tryz.f5,SLM,simprocAttr]
  simp -implicitDefEqProofs (maxSteps:=2000000) (disch:=try exact Dz) only [↓DN,↓kAsg,↓kRet,UP,simprocAttr,↓bN,↓iJ,↓eQ,↓mC,↓bO,↓fJ,↓bD,↓bC,↓bB,↓eH,↓eI,↓eG,LA,SE,Int.lt_irrefl]
 | succ q ih =>
  intro i m o len hq hm hlen ho
  obtain _ | m:=m; omega
  subst hlen
  have hc:(i:Int) < a.nx.length:=by omega
  have kc_s:=fun {R:Type} {n:Nat} {hq:H} {k:A → H → Option R} (hn:9 ≤ n) => @iJ R L n hq k hn a i sa hac hL
  have hacc:accG a (i:Nat) = oneG a (i:Nat):=by unfold accG; exact if_pos ha
  rw [hacc] at kc_s
  cases hb:(oneG a (i:Nat)).2 with
  | false =>
   have ih':=ih (i + 1) m o o.length (by omega) (by omega) rfl (by omega)
   rw [show ((i + 1:Nat):Int) = (i:Int) + 1 by omega] at ih'
   rw [aL0 hb]
   rw [hb] at kc_s
   clear ih
   generalize lF a q (i + 1) = w2 at *
   generalize txt (oneG a (i:Nat)).1 = w at *
   rw [t6]
   simp only [sI,Tryz.f5,SLM,simprocAttr]
   simp -implicitDefEqProofs (maxSteps:=2000000) (disch:=try exact Dz) only [↓DN,↓kAsg,↓kRet,UP,simprocAttr,↓bN,↓eQ,↓mC,↓bO,↓fJ,↓bD,↓bC,↓bB,↓eH,↓eI,↓eG,LA,SE,hc,↓kc_s,↓ih']
  | true =>
   have ih':=ih (i + 1) m (o ++ [txt (oneG a (i:Nat)).1]) (o.length + 1) (by omega) (by omega) (by simp) (by simp; omega)
   rw [show ((i + 1:Nat):Int) = (i:Int) + 1 by omega] at ih'
   simp only [List.append_assoc,List.singleton_append] at ih'
   rw [aMa hb]
   rw [hb] at kc_s
   clear ih
   generalize lF a q (i + 1) = w2 at *
   generalize txt (oneG a (i:Nat)).1 = w at *
   rw [t6]
   simp only [sI,Tryz.f5,SLM,simprocAttr]
   simp -implicitDefEqProofs (maxSteps:=2000000) (disch:=try exact Dz) only [↓DN,↓kAsg,↓kRet,UP,simprocAttr,↓bN,↓eQ,↓mC,↓bO,↓fJ,↓bD,↓bC,↓bB,↓eH,↓eI,↓eG,LA,SE,hc,↓kc_s,sL,aDW,List.length_append,↓ih']
theorem aDj {L n:Nat} (hn:10 ≤ n) (a:Aut) (hv:AOK a) (hL:2 ^ 60 ≤ L):aA env L n 5 [.agg [.d (.int .i64 a.al),.d (.ivs a.nx.length (aK a.nx)),.d (.ivs a.ac.length (aH a.ac))]] [] = some (.sl 0 0 0 (qD a).length,[.arr (cR (qD a)) 1 0]):=by
 obtain ⟨sa,wa,a1,a2,a3⟩:=eE hv
 have hrl:=sa.1
 have hac:a.ac.length ≤ 4294967296:=by omega
 have loop_c:=fun {R:Type} {n:Nat} {k:Exit → List A → H → Option R} (hn:9 ≤ n) => @ZB R L n hn hL a hv k a.nx.length 0 L [] 0 (by omega) (by omega) rfl (by simp; omega)
 rw [List.nil_append] at loop_c
 have hcs:=aLy hv
 have hl:=RA hv
 have hl2:=aMC (lF a a.nx.length 0)
 rw [hcs] at hl2
 have hl3:(lF a a.nx.length 0).length ≤ 4294967296:=by omega
 simp only [Int.natCast_zero,U9] at loop_c
 rw [← hl2] at loop_c
 have kc_q:=fun {R:Type} {n id:Nat} {hq:H} {k:A → H → Option R} (hn:1 ≤ n) (hi:hq[id]? = some (.arr (cR (lF a a.nx.length 0)) 1 0)) => @eQ R L n id hq k hn (lF a a.nx.length 0) hi hl3
 rw [hcs,← hl2] at kc_q
 unfold AOK at hv
 clear hcs
 generalize lF a a.nx.length 0 = w0 at *
 generalize qD a = w at *
 have e4:(cR w).take w.length = cR w:=sL (Nat.le_refl _)
 obtain _ | n:=n; omega
 rw [N5]
 simp only [D3,Tryz.f5,SLM,simprocAttr]
 simp -implicitDefEqProofs (maxSteps:=2000000) (disch:=try exact Dz) only [↓DN,↓kAsg,↓kRet,UP,simprocAttr,↓bN,↓iJ,↓mC,↓bO,↓fJ,↓bD,↓bC,↓bB,↓eH,↓eI,↓eG,LA,SE,hv,e4,↓loop_c,↓kc_q]
theorem WA {L n:Nat} (hn:10 ≤ n) (a:Aut) (hv:gC a.al a.nx a.ac = false) (hs:a8 a.nx) (hac:a.ac.length ≤ 4294967296) (hL:2 ^ 60 ≤ L):aA env L n 5 [.agg [.d (.int .i64 a.al),.d (.ivs a.nx.length (aK a.nx)),.d (.ivs a.ac.length (aH a.ac))]] [] = some (.d (.ivs 0 []),[]):=by
 have hrl:=hs.1
 obtain _ | n:=n; omega
 rw [N5]
 simp only [D3,Tryz.f5,SLM,simprocAttr]
 simp -implicitDefEqProofs (maxSteps:=2000000) (disch:=try exact Dz) only [↓DN,↓kAsg,↓kRet,UP,simprocAttr,↓bN,↓iJ,↓eQ,↓mC,↓bO,↓fJ,↓bD,↓bC,↓bB,↓eH,↓eI,↓eG,LA,SE,hv]
theorem zX {n:Nat} {W:Nat → List Int} {i:Nat} (hi:i < n):((List.range n).map fun q => txt (W q)).getD i [] = txt (W i):=by
 rw [List.getD_eq_getElem?_getD,List.getElem?_map,List.getElem?_range hi]; rfl
theorem aPB {a:Aut} {W:Nat → List Int} (hB:Bfs (goS a) (aC a.al) a.nx.length (ordA a).length [] (ordA a) W):∀ (c i:Nat),i ≤ c → i < (ordA a).length → (W i).length ≤ i:=by
 intro c
 induction c with
 | zero =>
  intro i hi _
  obtain rfl:i = 0:=by omega
  rw [hB.w0]; simp
 | succ c ih =>
  intro i hi hl
  rcases Nat.eq_zero_or_pos i with rfl | h0
  ·rw [hB.w0]; simp
  ·obtain ⟨p,l,hp,_,e,_⟩:=hB.pre i h0 hl
   have:=ih p (by omega) (by omega)
   rw [e,List.length_append]
   simp; omega
theorem aLc {al:Int} (ha:m5 al = true) {w:List Int} (hw:∀ l ∈ w,l ∈ aC al) (hl:w.length ≤ 50000):tG al (txt w) = true ∧ rJ (txt w) = true:=by
 have key:∀ b ∈ txt w,okB b = true ∧ iA al (ltr b) = true:=by
  intro b hb
  obtain ⟨l,hlm,rfl⟩:=List.mem_map.1 hb
  have hb:=jL l (hw l hlm)
  have h2:=(qT.1 (hw l hlm)).2
  unfold okB
  rw [aFm hb.1 hb.2,h2]
  simp [uO]
  omega
 have hlen:(txt w).length = w.length:=by unfold txt; rw [List.length_map]
 constructor
 ·unfold tG
  simp only [Bool.and_eq_true,decide_eq_true_eq,List.all_eq_true]
  refine ⟨⟨ha,by omega⟩,fun b hb => ?_⟩
  unfold inB
  rw [(key b hb).1,(key b hb).2]; rfl
 ·unfold rJ
  simp only [Bool.and_eq_true,decide_eq_true_eq,List.all_eq_true]
  exact ⟨by omega,fun b hb => (key b hb).1⟩
theorem aHO {a:Aut}:∀ (w:List Int) (q:Int),(∀ l ∈ w,l ∈ aC a.al) → stGo a.al a.nx (txt w) q = w.foldl (goS a) q
 | [],_,_ => rfl
 | l :: w,q,h => by
  have hb:=jL l (h l List.mem_cons_self)
  show stGo a.al a.nx (txt w) (goI a.al a.nx q (ltr (mP l))) = _
  rw [aFm hb.1 hb.2,aHO w _ fun m hm => h m (List.mem_cons_of_mem _ hm)]
  rfl
structure CovOK (a:Aut) (l:List Str):Prop where
 len:l.length = (bL a).nx.length
 pos:0 < l.length
 big:l.length ≤ 12
 first:l.getD 0 [] = []
 acc:∀ i,i < l.length → ∃ u,txt u = l.getD i [] ∧ accG a (nG a.al a.nx a.ac (l.getD i [])) = (u,true)
 ok:∀ i,i < l.length → rJ (l.getD i []) = true
 short:∀ i,i < l.length → (l.getD i []).length ≤ 4294967295
 asc:∀ i,i + 1 < l.length → cmpX (l.getD i []) (l.getD (i + 1) []) < 0
theorem aPP {a:Aut} (h:AOK a):CovOK a (qD a):=by
 obtain ⟨W,hB⟩:=tO h
 obtain ⟨a1,a2,a3,ha⟩:=FC h
 have hn:=iF hB.nod hB.rng
 have hp:=hB.pos
 rw [M1 h hB]
 have hl:((List.range (ordA a).length).map fun q => txt (W q)).length = (ordA a).length:=by rw [List.length_map,List.length_range]
 have hw:∀ i,i < (ordA a).length → (W i).length ≤ 12:=fun i hi => by have:=aPB hB i i (Nat.le_refl _) hi; omega
 refine ⟨?_,by omega,by omega,?_,?_,?_,?_,?_⟩
 ·rw [hl]; exact (List.length_map _).symm
 ·rw [zX hp,hB.w0]; rfl
 ·intro i hi
  rw [hl] at hi
  rw [zX hi]
  refine ⟨W i,rfl,?_⟩
  have hst:nG a.al a.nx a.ac (txt (W i)) = (ordA a).getD i 0:=by
   unfold nG
   have:=(aLc ha (hB.lts i hi) (by have:=hw i hi; omega)).1
   rw [show gC a.al a.nx a.ac = true from h,this,aHO _ _ (hB.lts i hi),hB.run i hi]
   rfl
  rw [hst]
  unfold accG
  rw [if_pos (show gC a.al a.nx a.ac = true from h),JF h hB hi]
 ·intro i hi
  rw [hl] at hi
  rw [zX hi]
  exact (aLc ha (hB.lts i hi) (by have:=hw i hi; omega)).2
 ·intro i hi
  rw [hl] at hi
  rw [zX hi]
  have:=hw i hi
  unfold txt
  rw [List.length_map]; omega
 ·intro i hi
  rw [hl] at hi
  rw [zX (by omega),zX hi]
  exact YG hB (by omega) hi
end Ev
end Go.Proofs.YtppdfjdfjfoddaaGreat
