/-
  Automata with exchanged aB: plain laws.
-/
import Derived.Test.YtejmccgfigiadaaGreatAutH
import Derived.Test.YtejmccgfigiadaaGreatWords
import Derived.Test.YtejmccgfigiadaaGreatDistG
import Derived.Test.YtejmccgfigiadaaGreatAccess
import Derived.Test.YtejmccgfigiadaaGreatSortLayX
import Derived.Test.YtejmccgfigiadaaGreatEvDef
import Derived.Test.YtejmccgfigiadaaGreatNetX
import Derived.Test.YtejmccgfigiadaaGreatDraw2
set_option linter.unusedSimpArgs false
set_option linter.unusedVariables false
set_option maxRecDepth 8000
set_option maxHeartbeats 4000000
namespace Go.Proofs.YtejmccgfigiadaaGreat
namespace Ev
theorem aK3 {al:Int} {rs:List (List Int)} {ac:List Bool} (ha:cB al = true) (h1:1 ≤ rs.length) (h2:rs.length ≤ 12) (h3:ac.length = rs.length) (hr:∀ r ∈ rs,r.length = (aB al).length ∧ ∀ q ∈ r,0 ≤ q ∧ q < rs.length):bR al rs ac = true:=by
 unfold bR
 simp only [Bool.and_eq_true,decide_eq_true_eq]
 refine ⟨⟨⟨⟨ha,by omega⟩,by omega⟩,by omega⟩,?_⟩
 rw [Option.isNone_iff_eq_none,oK]
 intro i _ hi
 have hi:i < rs.length:=by omega
 obtain ⟨hw,hq⟩:=hr (rs.getD i []) (by rw [List.getD_eq_getElem?_getD,List.getElem?_eq_getElem hi]; exact List.getElem_mem hi)
 unfold eQ
 rw [JE (by omega)]
 have:seek (badQ rs.length (rs.getD i [])) (rs.getD i []).length 0 = none:=by
  rw [oK]
  intro j _ hj
  have hj:j < (rs.getD i []).length:=by omega
  rw [uJ]
  refine hq _ ?_
  generalize rs.getD i [] = r at *
  rw [List.getD_eq_getElem?_getD,List.getElem?_eq_getElem hj]
  exact List.getElem_mem hj
 rw [this]
 rfl
theorem xR {al:Int} {rs:List (List Int)} {ac:List Bool} (h:bR al rs ac = true) {i:Nat} (hi:i < rs.length):(rs.getD i []).length = (aB al).length ∧ ∀ j,j < (aB al).length → 0 ≤ (rs.getD i []).getD j 0 ∧ (rs.getD i []).getD j 0 < rs.length:=by
 have hw:=YN (lS h) hi
 refine ⟨hw,?_⟩
 intro j hj
 unfold bR at h
 simp only [Bool.and_eq_true] at h
 have hb:=B0 h.2 hi
 unfold eQ at hb
 rw [JE (by omega)] at hb
 have:=B0 (p:=badQ rs.length (rs.getD i [])) (n:=(rs.getD i []).length) (by cases hs:seek (badQ rs.length (rs.getD i [])) (rs.getD i []).length 0 with
  | none => rfl
  | some z => rw [hs] at hb; cases hb) (i:=j) (by omega)
 exact uJ.1 this
theorem SB {al:Int} {rs:List (List Int)} {ac:List Bool} (h:bR al rs ac = true) {q l:Int} (hq0:0 ≤ q) (hq1:q < rs.length) (h0:0 ≤ l) (h1:l < 6):0 ≤ goI al rs q l ∧ goI al rs q l < rs.length:=by
 unfold goI
 split
 ·rename_i hb
  exact (xR h (i:=q.toNat) (by omega)).2 _ (sK h0 h1 hb).1
 ·exact ⟨hq0,hq1⟩
theorem TU {l:Int}:eA l = true ↔ 0 ≤ l ∧ l < 6:=by unfold eA; simp
def stGo (al:Int) (rs:List (List Int)) (w:List UInt8) (q:Int):Int:=w.foldl (fun q b => goI al rs q (ltr b)) q
def uL (al:Int) (rs:List (List Int)) (ac:List Bool) (w:List UInt8):Int:=if bR al rs ac && dK al w then stGo al rs w 0 else -1
theorem k8 {al:Int} {w:List UInt8} (hw:dK al w = true):cB al = true ∧ w.length ≤ 50000 ∧ ∀ b ∈ w,okB b = true ∧ b5 al (ltr b) = true:=by
 unfold dK at hw
 simp only [Bool.and_eq_true,decide_eq_true_eq] at hw
 refine ⟨hw.1.1,hw.1.2,?_⟩
 intro b hb
 have:=List.all_eq_true.1 hw.2 b hb
 unfold inB at this
 simpa only [Bool.and_eq_true] using this
section
def goS (a:Aut) (v l:Int):Int:=goI a.al a.nx v l
def rowA (a:Aut) (v:Int):List Int:=a.nx.getD v.toNat []
def ordA (a:Aut):List Int:=ordB (goS a) (aB a.al) (a.nx.length + 1) 0 [0]
def idxU (out:List Int) (x:Int):Int:=(out.idxOf x:Nat)
def cM (a:Aut):Aut:=⟨a.al,(ordA a).map fun v => (rowA a v).map (idxU (ordA a)),(ordA a).map fun v => a.ac.getD v.toNat false⟩
theorem aGh {a:Aut} (h:AOK a):∀ v l:Int,0 ≤ v → v < a.nx.length → l ∈ aB a.al → 0 ≤ goS a v l ∧ goS a v l < a.nx.length:=by
 intro v l h0 h1 hl
 have:=bZ l hl
 exact kE h h0 h1 this.1 (by omega)
theorem aIf {al:Int} {k:Nat} (hk:k < (aB al).length):fG al (aB al)[k] = k:=by
 obtain ⟨⟨h0,h1⟩,hb⟩:=gL.1 (List.getElem_mem hk)
 obtain ⟨h2,h3⟩:=sK h0 h1 hb
 rw [List.getElem?_eq_getElem h2] at h3
 exact (List.getElem_inj (KI al)).1 (Option.some.inj h3)
theorem aAc {a:Aut} (h:AOK a) {v:Int} (h0:0 ≤ v) (h1:v < a.nx.length):(aB a.al).map (goS a v) = rowA a v:=by
 have hl:=(xR h (i:=v.toNat) (by omega)).1
 apply List.ext_getElem
 ·rw [List.length_map]; exact hl.symm
 ·intro k g1 g2
  rw [List.length_map] at g1
  rw [List.getElem_map]
  unfold goS
  rw [O5 (gL.1 (List.getElem_mem g1)).2,aIf g1]
  show (rowA a v).getD k 0 = _
  rw [List.getD_eq_getElem?_getD,List.getElem?_eq_getElem g2]
  rfl
theorem sS {a:Aut} (h:AOK a):∃ W,Bfs (goS a) (aB a.al) a.nx.length (ordA a).length [] (ordA a) W:=by
 obtain ⟨_,_,h1,_,_⟩:=bD h
 exact aFE (jX _) (aGh h) _ 0 [0] _ (Bfs.start (by omega)) (by omega) (by omega)
theorem aC1 {a:Aut}:∀ (w:List Int) (v u:Int),Path (nxS a) (aB a.al) v w u ↔ (∀ l ∈ w,l ∈ aB a.al) ∧ w.foldl (goS a) v = u
 | [],v,u => by simp [Path]
 | l :: w,v,u => by
  simp only [Path,nxS,List.mem_singleton,exists_eq_left,aC1 w,List.foldl_cons,List.forall_mem_cons]
  unfold goS
  exact and_assoc.symm
theorem BS {a:Aut} {st:Int} {w:List Int}:Hits (nxS a) (aB a.al) [0] (glS st) w ↔ (∀ l ∈ w,l ∈ aB a.al) ∧ w.foldl (goS a) 0 = st:=by
 unfold Hits pD glS
 simp only [List.mem_singleton,exists_eq_left,aC1,decide_eq_true_eq]
 constructor
 ·rintro ⟨u,⟨h1,h2⟩,rfl⟩; exact ⟨h1,h2⟩
 ·rintro ⟨h1,h2⟩; exact ⟨st,⟨h1,h2⟩,rfl⟩
section
variable {a:Aut} {W:Nat → List Int}
theorem vA {x:Int} {out:List Int} (hx:x ∈ out):out.getD (out.idxOf x) 0 = x ∧ out.idxOf x < out.length:=by
 have h:=List.idxOf_lt_length_of_mem hx
 refine ⟨?_,h⟩
 rw [List.getD_eq_getElem?_getD,List.getElem?_eq_getElem h,List.getElem_idxOf]; rfl
theorem oR {q:Nat} {out:List Int} (hq:q < out.length):out.getD q 0 ∈ out:=by
 rw [List.getD_eq_getElem?_getD,List.getElem?_eq_getElem hq]
 exact List.getElem_mem hq
theorem IO (h:AOK a) (hB:Bfs (goS a) (aB a.al) a.nx.length (ordA a).length [] (ordA a) W) {q:Nat} (hq:q < (ordA a).length):oneG a ((ordA a).getD q 0) = (W q,true):=by
 refine nT (zX h _) (.inl ⟨rfl,BS.2 ⟨hB.lts q hq,hB.run q hq⟩,fun x hx => ?_⟩)
 obtain ⟨h1,h2⟩:=BS.1 hx
 obtain ⟨p,hp,e,hs⟩:=hB.least x.length x rfl h1
 have:p = q:=hB.idx hp hq (by rw [e,h2])
 subst this
 exact hs
theorem aJ5 (h:AOK a) {st:Int} (ho:st ∉ ordA a):oneG a st = ([],false):=by
 obtain ⟨W,hB⟩:=sS h
 refine nT (zX h _) (.inr ⟨rfl,fun w hw => ?_⟩)
 obtain ⟨h1,h2⟩:=BS.1 hw
 obtain ⟨p,hp,e,_⟩:=hB.least w.length w rfl h1
 rw [h2] at e
 exact ho (e ▸ oR hp)
theorem IX (hB:Bfs (goS a) (aB a.al) a.nx.length (ordA a).length [] (ordA a) W) {v l:Int} (hv:v ∈ ordA a) (hl:l ∈ aB a.al):goS a v l ∈ ordA a:=by
 obtain ⟨e,hq⟩:=vA hv
 obtain ⟨p,hp,e2,_⟩:=hB.clo _ l hq hl (.inl hq)
 rw [e] at e2
 exact e2 ▸ oR hp
theorem TL (h:AOK a):AOK (cM a):=by
 obtain ⟨W,hB⟩:=sS h
 obtain ⟨b1,b2,b3,b4⟩:=gU h
 have hn:=gR hB.nod hB.rng
 have hp:=hB.pos
 unfold AOK cM
 refine aK3 b4 (by rw [List.length_map]; omega) (by rw [List.length_map]; omega) (by rw [List.length_map,List.length_map]) ?_
 intro r hr
 obtain ⟨v,hv,rfl⟩:=List.mem_map.1 hr
 obtain ⟨v0,v1⟩:=hB.rng v hv
 have hrow:=aAc h v0 v1
 refine ⟨by rw [List.length_map,← hrow,List.length_map],?_⟩
 intro q hq
 obtain ⟨x,hx,rfl⟩:=List.mem_map.1 hq
 rw [← hrow] at hx
 obtain ⟨l,hl,rfl⟩:=List.mem_map.1 hx
 have:=(vA (IX hB hv hl)).2
 unfold idxU
 rw [List.length_map]
 omega
theorem aLV (h:AOK a) (hB:Bfs (goS a) (aB a.al) a.nx.length (ordA a).length [] (ordA a) W) {q:Nat} (hq:q < (ordA a).length) {l:Int} (hl:l ∈ aB a.al):goS (cM a) q l = idxU (ordA a) (goS a ((ordA a).getD q 0) l):=by
 obtain ⟨⟨h0,h1⟩,hb⟩:=gL.1 hl
 obtain ⟨v0,v1⟩:=hB.rng _ (oR hq)
 obtain ⟨p1,p2⟩:=sK h0 h1 hb
 have hlen:=(xR h (i:=((ordA a).getD q 0).toNat) (by omega)).1
 have e1:((cM a).nx.getD q []) = (rowA a ((ordA a).getD q 0)).map (idxU (ordA a)):=by
  unfold cM
  simp only [List.getD_eq_getElem?_getD,List.getElem?_map,List.getElem?_eq_getElem hq,Option.map_some,Option.getD_some]
 unfold goS
 rw [O5 hb,O5 (show b5 (cM a).al l = true from hb),Int.toNat_natCast,e1]
 show ((rowA a ((ordA a).getD q 0)).map (idxU (ordA a))).getD (fG a.al l) 0 = _
 have hr:fG a.al l < (rowA a ((ordA a).getD q 0)).length:=by unfold rowA; omega
 rw [List.getD_eq_getElem?_getD,List.getElem?_map,List.getElem?_eq_getElem hr,List.getD_eq_getElem?_getD (l:=a.nx.getD _ _)]
 show idxU _ (rowA a ((ordA a).getD q 0))[fG a.al l] = idxU _ ((rowA a ((ordA a).getD q 0))[fG a.al l]?.getD 0)
 rw [List.getElem?_eq_getElem hr]; rfl
theorem aDn (h:AOK a) (hB:Bfs (goS a) (aB a.al) a.nx.length (ordA a).length [] (ordA a) W):∀ (w:List Int) (q:Nat),q < (ordA a).length → (∀ l ∈ w,l ∈ aB a.al) → w.foldl (goS a) ((ordA a).getD q 0) ∈ ordA a ∧ w.foldl (goS (cM a)) (q:Int) = idxU (ordA a) (w.foldl (goS a) ((ordA a).getD q 0))
 | [],q,hq,_ => by
  refine ⟨oR hq,?_⟩
  unfold idxU
  simp only [List.foldl_nil]
  have:=hB.nod.idxOf_getElem q hq
  rw [List.getD_eq_getElem?_getD,List.getElem?_eq_getElem hq,Option.getD_some,this]
 | l :: w,q,hq,hw => by
  have hl:=hw l List.mem_cons_self
  obtain ⟨e,hp⟩:=vA (IX hB (oR hq) hl)
  have ih:=aDn h hB w _ hp fun m hm => hw m (List.mem_cons_of_mem _ hm)
  rw [e] at ih
  simp only [List.foldl_cons]
  rw [aLV h hB hq hl]
  exact ih
theorem aIS (h:AOK a) (hB:Bfs (goS a) (aB a.al) a.nx.length (ordA a).length [] (ordA a) W) {q:Nat} (hq:q < (ordA a).length):oneG (cM a) q = (W q,true):=by
 rw [← IO h hB hq]
 refine nT (WO (fun w => ?_) (zX (TL h) q)) (zX h _)
 rw [BS,BS]
 show (∀ l ∈ w,l ∈ aB a.al) ∧ _ ↔ _
 refine and_congr_right fun hw => ?_
 obtain ⟨h1,h2⟩:=aDn h hB w 0 hB.pos hw
 rw [hB.o0] at h1 h2
 have h3:w.foldl (goS (cM a)) 0 = idxU (ordA a) (w.foldl (goS a) 0):=h2
 rw [h3]
 obtain ⟨e,hp⟩:=vA h1
 unfold idxU
 constructor
 ·intro hh
  have:(ordA a).idxOf (w.foldl (goS a) 0) = q:=by omega
  rw [this] at e
  exact e.symm
 ·intro hh
  rw [hB.idx hp hq (by rw [e,hh])]
end
theorem aBx {l:Int} (h0:0 ≤ l) (h1:l < 6):(bY l).toNat = (97 + l).toNat:=by
 unfold bY
 rw [UInt8.toNat_ofNat']
 omega
theorem aGa:∀ {u v:List Int},(∀ l ∈ u,0 ≤ l ∧ l < 6) → (∀ l ∈ v,0 ≤ l ∧ l < 6) → nA u v → Op.bytesLess (txt u) (txt v) = true
 | [],_,_,_,h => h.elim
 | _ :: _,[],_,_,h => h.elim
 | a :: u,b :: v,hu,hv,h => by
  have ha:=hu a List.mem_cons_self
  have hb:=hv b List.mem_cons_self
  show Op.bytesLess (bY a :: txt u) (bY b :: txt v) = true
  rw [kY,aBx ha.1 ha.2,aBx hb.1 hb.2]
  rcases h with h | ⟨rfl,h⟩
  ·exact .inl (by omega)
  ·exact .inr ⟨rfl,aGa (fun l hl => hu l (List.mem_cons_of_mem _ hl)) (fun l hl => hv l (List.mem_cons_of_mem _ hl)) h⟩
theorem aLJ {u v:List Int} (hu:∀ l ∈ u,0 ≤ l ∧ l < 6) (hv:∀ l ∈ v,0 ≤ l ∧ l < 6) (h:slt u v):cmpX (txt u) (txt v) < 0:=by
 rw [zS]
 unfold txt
 rw [List.length_map,List.length_map]
 rcases h with h | ⟨h1,h⟩
 ·exact .inl h
 ·exact .inr ⟨h1,aGa hu hv h⟩
def bU (a:Aut):List Str:=(List.range (ordA a).length).map fun q => txt (oneG a ((ordA a).getD q 0)).1
def fD (a:Aut) (j i:Nat):List Str:=(List.range' i j).filterMap fun q => if (oneG a (q:Nat)).2 = true then some (txt (oneG a (q:Nat)).1) else none
def U7 (l:List Str):List Str:=l.mergeSort leX
section
variable {a:Aut} {W:Nat → List Int}
theorem C8 (h:AOK a) (hB:Bfs (goS a) (aB a.al) a.nx.length (ordA a).length [] (ordA a) W):bU a = (List.range (ordA a).length).map fun q => txt (W q):=by
 unfold bU
 apply List.map_congr_left
 intro q hq
 rw [IO h hB (List.mem_range.1 hq)]
theorem YP (hB:Bfs (goS a) (aB a.al) a.nx.length (ordA a).length [] (ordA a) W) {j k:Nat} (hjk:j < k) (hk:k < (ordA a).length):cmpX (txt (W j)) (txt (W k)) < 0:=by
 have hin:∀ q,q < (ordA a).length → ∀ l ∈ W q,0 ≤ l ∧ l < 6:=fun q hq l hl => by
  have:=bZ l (hB.lts q hq l hl); omega
 exact aLJ (hin j (by omega)) (hin k hk) (hB.asc j k hjk hk)
theorem aKj (hB:Bfs (goS a) (aB a.al) a.nx.length (ordA a).length [] (ordA a) W) {j k:Nat} (hj:j < (ordA a).length) (hk:k < (ordA a).length) (e:txt (W j) = txt (W k)):j = k:=by
 rcases Nat.lt_trichotomy j k with h | h | h
 ·have:=YP hB h hk; rw [e] at this; exact (AB _ this).elim
 ·exact h
 ·have:=YP hB h hj; rw [e] at this; exact (AB _ this).elim
theorem aHT (hB:Bfs (goS a) (aB a.al) a.nx.length (ordA a).length [] (ordA a) W):((List.range (ordA a).length).map fun q => txt (W q)).Pairwise fun x y => cmpX x y < 0:=by
 rw [List.pairwise_map]
 refine List.Pairwise.imp_of_mem ?_ (List.pairwise_lt_range (n:=(ordA a).length))
 intro j k hj hk hjk
 exact YP hB hjk (List.mem_range.1 hk)
theorem aGM (h:AOK a):U7 (fD a a.nx.length 0) = bU a:=by
 obtain ⟨W,hB⟩:=sS h
 rw [C8 h hB]
 have hasc:=aHT hB
 have hfd:∀ (q:Nat) (b:Str),(if (oneG a (q:Nat)).2 = true then some (txt (oneG a (q:Nat)).1) else none) = some b → ∃ p,p < (ordA a).length ∧ (ordA a).getD p 0 = (q:Int) ∧ b = txt (W p):=by
  intro q b hb
  by_cases hq:(q:Int) ∈ ordA a
  ·obtain ⟨e,hp⟩:=vA hq
   have:=IO h hB hp
   rw [e] at this
   rw [this] at hb
   simp at hb
   exact ⟨_,hp,e,hb.symm⟩
  ·rw [aJ5 h hq] at hb
   simp at hb
 unfold U7
 refine ((List.mergeSort_perm _ _).trans ((List.perm_ext_iff_of_nodup ?_ ?_).2 ?_)).eq_of_pairwise (fun x y _ _ h1 h2 => S6 h1 h2) (List.pairwise_mergeSort CT DV _) (hasc.imp aHV)
 ·unfold fD
  refine List.Pairwise.filterMap _ ?_ (List.nodup_range' (s:=0) (n:=a.nx.length))
  intro p q hpq b hb c hc e
  obtain ⟨p1,g1,g2,g3⟩:=hfd p b hb
  obtain ⟨q1,k1,k2,k3⟩:=hfd q c hc
  have:=aKj hB g1 k1 (by rw [← g3,← k3,e])
  subst this
  rw [g2] at k2
  exact hpq (by omega)
 ·exact hasc.imp fun {x y} hxy e => by rw [e] at hxy; exact AB _ hxy
 ·intro b
  unfold fD
  rw [List.mem_filterMap,List.mem_map]
  constructor
  ·rintro ⟨q,hq,hb⟩
   obtain ⟨p,h1,_,h3⟩:=hfd q b hb
   exact ⟨p,List.mem_range.2 h1,h3.symm⟩
  ·rintro ⟨p,hp,rfl⟩
   have hp:=List.mem_range.1 hp
   obtain ⟨v0,v1⟩:=hB.rng _ (oR hp)
   refine ⟨((ordA a).getD p 0).toNat,?_,?_⟩
   ·rw [List.mem_range'_1]; omega
   ·rw [Int.toNat_of_nonneg v0,IO h hB hp,if_pos rfl]
end
end
theorem aKU {a:Aut} {W:Nat → List Int} (hB:Bfs (goS a) (aB a.al) a.nx.length (ordA a).length [] (ordA a) W):∀ (c i:Nat),i ≤ c → i < (ordA a).length → (W i).length ≤ i:=by
 intro c
 induction c with
 | zero =>
  intro i hi _
  obtain rfl:i = 0:=by omega
  rw [hB.w0]; simp
 | succ c ih =>
  intro i hi hl
  rcases Nat.eq_zero_or_pos i with rfl | h0
  ·rw [hB.w0]; simp
  ·obtain ⟨p,l,hp,_,e,_⟩:=hB.pre i h0 hl
   have:=ih p (by omega) (by omega)
   rw [e,List.length_append]
   simp; omega
theorem aMd {al:Int} (ha:cB al = true) {w:List Int} (hw:∀ l ∈ w,l ∈ aB al) (hl:w.length ≤ 50000):dK al (txt w) = true ∧ dD (txt w) = true:=by
 have key:∀ b ∈ txt w,okB b = true ∧ b5 al (ltr b) = true:=by
  intro b hb
  obtain ⟨l,hlm,rfl⟩:=List.mem_map.1 hb
  have hb:=bZ l (hw l hlm)
  have h2:=(gL.1 (hw l hlm)).2
  unfold okB
  rw [aAE hb.1 hb.2,h2]
  simp [eA]
  omega
 have hlen:(txt w).length = w.length:=by unfold txt; rw [List.length_map]
 constructor
 ·unfold dK
  simp only [Bool.and_eq_true,decide_eq_true_eq,List.all_eq_true]
  refine ⟨⟨ha,by omega⟩,fun b hb => ?_⟩
  unfold inB
  rw [(key b hb).1,(key b hb).2]; rfl
 ·unfold dD
  simp only [Bool.and_eq_true,decide_eq_true_eq,List.all_eq_true]
  exact ⟨by omega,fun b hb => (key b hb).1⟩
structure CovOK (a:Aut) (l:List Str):Prop where
 len:l.length = (cM a).nx.length
 pos:0 < l.length
 big:l.length ≤ 12
 first:l.getD 0 [] = []
 acc:∀ i,i < l.length → ∃ u,txt u = l.getD i [] ∧ accG a (uL a.al a.nx a.ac (l.getD i [])) = (u,true)
 ok:∀ i,i < l.length → dD (l.getD i []) = true
 short:∀ i,i < l.length → (l.getD i []).length ≤ 4294967295
 asc:∀ i,i + 1 < l.length → cmpX (l.getD i []) (l.getD (i + 1) []) < 0
section
variable {R:Type} {L n:Nat}
def sepJ (a:Aut) (i:Int):Nat → Nat → List Str → List Str
 | 0,_,o => o
 | q + 1,j,o => if (gN a i j).2 = true ∧ txt (gN a i j).1 ∉ o then sepJ a i q (j + 1) (o ++ [txt (gN a i j).1]) else sepJ a i q (j + 1) o
def sepA (a:Aut):Nat → Nat → List Str → List Str
 | 0,_,o => o
 | q + 1,i,o => sepA a q (i + 1) (sepJ a i (a.nx.length - (i + 1)) (i + 1) o)
def sepW (a:Aut):List Str:=sepA a a.nx.length 0 [[]]
theorem AH {a:Aut} {i:Int}:∀ (q j:Nat) (o:List Str),o.length ≤ (sepJ a i q j o).length ∧ (sepJ a i q j o).length ≤ o.length + q
 | 0,_,o => ⟨Nat.le_refl _,Nat.le_refl _⟩
 | q + 1,j,o => by
  unfold sepJ
  split
  ·have:=AH (a:=a) (i:=i) q (j + 1) (o ++ [txt (gN a i j).1]); simp at this ⊢; omega
  ·have:=AH (a:=a) (i:=i) q (j + 1) o; omega
theorem aDM {a:Aut}:∀ (q i:Nat) (o:List Str),o.length ≤ (sepA a q i o).length ∧ (sepA a q i o).length ≤ o.length + q * a.nx.length
 | 0,_,o => by simp [sepA]
 | q + 1,i,o => by
  unfold sepA
  have h1:=AH (a:=a) (i:=i) (a.nx.length - (i + 1)) (i + 1) o
  have h2:=aDM (a:=a) q (i + 1) (sepJ a i (a.nx.length - (i + 1)) (i + 1) o)
  rw [Nat.succ_mul]
  omega
theorem IR {a:Aut} (h:AOK a):1 ≤ (sepW a).length ∧ (sepW a).length ≤ 145:=by
 obtain ⟨_,_,h1,h2,_⟩:=bD h
 have:=aDM (a:=a) a.nx.length 0 [[]]
 have hm:a.nx.length * a.nx.length ≤ 12 * 12:=Nat.mul_le_mul h2 h2
 unfold sepW
 simp only [List.length_cons,List.length_nil] at this
 omega
theorem AM (hn:12 ≤ n) (hL:2 ^ 60 ≤ L) {a:Aut} (ha:AOK a) {i:Nat} (hi:i < a.nx.length) {k:KE R}:∀ (q j m:Nat) (o:List Str) (len:Nat) (hq:j + q = a.nx.length) (hm:q < m) (hlen:len = o.length) (ho:o.length + q ≤ 100000),
  aF env (aA env L n) L 0 [] Bz29 (cD 1) (U1 (Z4 (Z1 (U32 (U8 (U1 ([]))))))) m (Y1 (.ptr 0 0 0 :: .d .nils :: .sl 1 0 0 len :: nI i :: nI j :: Y32 (Y8 (Y1 ([]))))) [.box [nI a.al,.d (.ivs a.nx.length (rowsD a.nx)),.d (.ivs a.ac.length (bools a.ac))],.arr (aE o) 1 0] k
  = k (.exit 2) (Y1 (.ptr 0 0 0 :: .d .nils :: .sl 1 0 0 (sepJ a i q j o).length :: nI i :: nI (a.nx.length) :: Y32 (Y8 (Y1 ([]))))) [.box [nI a.al,.d (.ivs a.nx.length (rowsD a.nx)),.d (.ivs a.ac.length (bools a.ac))],.arr (aE (sepJ a i q j o)) 1 0]:=by
 obtain ⟨sa,wa,a1,a2,a3⟩:=bD ha
 have hac:a.ac.length ≤ 4294967296:=by omega
 intro q
 induction q with
 | zero =>
  intro j m o len hq hm hlen ho
  obtain _ | m:=m; omega
  obtain rfl:j = a.nx.length:=by omega
  subst hlen
  simp -implicitDefEqProofs (maxSteps:=2000000) (disch:=try exact Dz) only [↓DN,↓kRet,UP,simprocAttr,Int.lt_irrefl,fO,eU,Tryz.f43]
  rfl
 | succ q ih =>
  intro j m o len hq hm hlen ho
  obtain _ | m:=m; omega
  subst hlen
  have hc:(j:Int) < a.nx.length:=by omega
  have kc_s:=@SY L a i j sa hac hL
  have hal:=sa.1
  simp only [sepJ]
  generalize gN a i j = r at *
  obtain ⟨w,b⟩:=r
  simp only at kc_s ⊢
  have kl_i:=@aGC L o (txt w) (by omega) hL
  cases b with
  | false =>
   have ih':=ih (j + 1) m o o.length (by omega) (by omega) rfl (by omega)
   rw [cs1 j] at ih'
   rw [if_neg fun h => by cases h.1]
   clear ih
   simp -implicitDefEqProofs (maxSteps:=2000000) (disch:=try exact Dz) only [↓DN,↓kRet,UP,simprocAttr,hc,↓kc_s,↓ih',fO,eU,Tryz.f43]
  | true =>
   by_cases h:txt w ∈ o
   ·have ih':=ih (j + 1) m o o.length (by omega) (by omega) rfl (by omega)
    rw [cs1 j] at ih'
    rw [if_neg fun h2 => h2.2 h]
    rw [decide_eq_true h] at kl_i
    clear ih
    simp -implicitDefEqProofs (maxSteps:=2000000) (disch:=try exact Dz) only [↓DN,↓kRet,UP,simprocAttr,↓NP,SE,hc,↓kc_s,↓kl_i,↓ih',fO,eU,Tryz.f43]
   ·have ih':=ih (j + 1) m (o ++ [txt w]) (o.length + 1) (by omega) (by omega) (by simp) (by simp; omega)
    rw [cs1 j] at ih'
    rw [if_pos ⟨rfl,h⟩]
    rw [decide_eq_false h] at kl_i
    clear ih
    simp -implicitDefEqProofs (maxSteps:=2000000) (disch:=try exact Dz) only [↓DN,↓kRet,UP,simprocAttr,↓NP,SE,hc,↓kc_s,↓kl_i,jG,↓ih',fO,eU,Tryz.f43]
theorem AN (hn:12 ≤ n) (hL:2 ^ 60 ≤ L) {a:Aut} (ha:AOK a) {k:KE R}:∀ (q i m:Nat) (o:List Str) (len:Nat) (hq:i + q = a.nx.length) (hm:q < m) (hlen:len = o.length) (ho:o.length + q * 12 ≤ 10000),
  aF env (aA env L n) L 0 [] Bz29 (cD 0) (U1 (Z4 (U32 (U8 (U2 ([])))))) m (Y1 (.ptr 0 0 0 :: .d .nils :: .sl 1 0 0 len :: nI i :: Y32 (Y8 (Y2 ([]))))) [.box [nI a.al,.d (.ivs a.nx.length (rowsD a.nx)),.d (.ivs a.ac.length (bools a.ac))],.arr (aE o) 1 0] k
  = k (.exit 0) (Y1 (.ptr 0 0 0 :: .d .nils :: .sl 1 0 0 (sepA a q i o).length :: nI (a.nx.length) :: Y32 (Y8 (Y2 ([]))))) [.box [nI a.al,.d (.ivs a.nx.length (rowsD a.nx)),.d (.ivs a.ac.length (bools a.ac))],.arr (aE (sepA a q i o)) 1 0]:=by
 obtain ⟨sa,wa,a1,a2,a3⟩:=bD ha
 intro q
 induction q with
 | zero =>
  intro i m o len hq hm hlen ho
  obtain _ | m:=m; omega
  obtain rfl:i = a.nx.length:=by omega
  subst hlen
  simp -implicitDefEqProofs (maxSteps:=2000000) (disch:=try exact Dz) only [↓DN,↓kRet,UP,simprocAttr,Int.lt_irrefl,nU,kI,Tryz.f43]
  rfl
 | succ q ih =>
  intro i m o len hq hm hlen ho
  obtain _ | m:=m; omega
  subst hlen
  have hc:(i:Int) < a.nx.length:=by omega
  have loop_c:=fun {R n k} hn => @AM R L n hn hL a ha i (by omega) k (a.nx.length - (i + 1)) (i + 1) L o o.length (by omega) (by omega) rfl (by omega)
  rw [cs1 i] at loop_c
  have hl:=(AH (a:=a) (i:=i) (a.nx.length - (i + 1)) (i + 1) o).2
  have ih':=ih (i + 1) m (sepJ a i (a.nx.length - (i + 1)) (i + 1) o) _ (by omega) (by omega) rfl (by omega)
  rw [cs1 i] at ih'
  simp only [sepA]
  clear ih
  generalize sepJ a i (a.nx.length - (i + 1)) (i + 1) o = w at *
  simp -implicitDefEqProofs (maxSteps:=2000000) (disch:=try exact Dz) only [↓DN,↓kRet,UP,simprocAttr,hc,↓loop_c,↓ih',nU,kI,Tryz.f43]
def sepR (a:Aut):List Str:=if bR a.al a.nx a.ac = true then sepW a else []
theorem tG (hn:13 ≤ n) (a:Aut) (hs:aT a.nx) (hac:a.ac.length ≤ 4294967296) (hL:2 ^ 60 ≤ L):aA env L n 43 [.agg [nI a.al,.d (.ivs a.nx.length (rowsD a.nx)),.d (.ivs a.ac.length (bools a.ac))]] [] = some (.d (.ivs (sepR a).length (aE (sepR a))),[]):=by
 have hrl:=hs.1
 unfold sepR
 cases hv:bR a.al a.nx a.ac with
 | false =>
  simp only [Bool.false_eq_true,if_false,List.length_nil,iI]
  obtain _ | n:=n; omega
  simp -implicitDefEqProofs (maxSteps:=2000000) (disch:=try exact Dz) only [↓DN,↓kAsg,↓kRet,UP,simprocAttr,↓bA,hv,t6,mT,Tryz.f43]
 | true =>
  obtain ⟨sa,wa,a1,a2,a3⟩:=bD hv
  have loop_c:=fun {R n k} hn => @AN R L n hn hL a hv k a.nx.length 0 L [[]] 1 (by omega) (by omega) rfl (by simp; omega)
  have e:aE [[]] = [.str []]:=rfl
  have e2:sepA a a.nx.length 0 [[]] = sepW a:=rfl
  rw [e,e2] at loop_c
  have hl:=IR hv
  simp only [if_true,Int.natCast_zero] at loop_c ⊢
  generalize sepW a = w at *
  have e4:(aE w).take w.length = aE w:=fK (Nat.le_refl _)
  obtain _ | n:=n; omega
  simp -implicitDefEqProofs (maxSteps:=2000000) (disch:=try exact Dz) only [↓DN,↓kAsg,↓kRet,UP,simprocAttr,↓bA,SE,hv,e4,↓loop_c,t6,mT,Tryz.f43]
theorem IT:type_of% fun {L} a hs hac hL => ks fun hn => @tG L _ hn a hs hac hL:=fun {L} a hs hac hL => ks fun hn => @tG L _ hn a hs hac hL
theorem AX (hn:9 ≤ n) (hL:2 ^ 60 ≤ L) {a:Aut} (ha:AOK a) {i:Nat} (hi:i < a.nx.length) {k:KE R}:∀ (q j m:Nat) (o:List Str) (len:Nat) (hq:j + q = a.nx.length) (hm:q < m) (hlen:len = o.length) (ho:o.length + q ≤ 100000),
  aF env (aA env L n) L 0 [] Bz11 (cE 1) (U1 (Z4 (Z1 (U8 (Z2 (U16 (U8 (U4 (U2 (U1 ([]))))))))))) m (Y1 (.ptr 0 0 0 :: .d .nils :: .sl 1 0 0 len :: nI i :: nI j :: Y8 (nI (a.nx.length) :: nI i :: Y16 (Y8 (Y4 (Y2 (Y1 ([])))))))) [.box [nI a.al,.d (.ivs a.nx.length (rowsD a.nx)),.d (.ivs a.ac.length (bools a.ac))],.arr (aE o) 1 0] k
  = k (.exit 2) (Y1 (.ptr 0 0 0 :: .d .nils :: .sl 1 0 0 (sepJ a i q j o).length :: nI i :: nI (a.nx.length) :: Y8 (nI (a.nx.length) :: nI i :: Y16 (Y8 (Y4 (Y2 (Y1 ([])))))))) [.box [nI a.al,.d (.ivs a.nx.length (rowsD a.nx)),.d (.ivs a.ac.length (bools a.ac))],.arr (aE (sepJ a i q j o)) 1 0]:=by
 obtain ⟨sa,wa,a1,a2,a3⟩:=bD ha
 have hac:a.ac.length ≤ 4294967296:=by omega
 intro q
 induction q with
 | zero =>
  intro j m o len hq hm hlen ho
  obtain _ | m:=m; omega
  obtain rfl:j = a.nx.length:=by omega
  subst hlen
  simp -implicitDefEqProofs (maxSteps:=2000000) (disch:=try exact Dz) only [↓DN,↓kRet,UP,simprocAttr,Int.lt_irrefl,e9,eT,Tryz.f31]
  rfl
 | succ q ih =>
  intro j m o len hq hm hlen ho
  obtain _ | m:=m; omega
  subst hlen
  have hc:(j:Int) < a.nx.length:=by omega
  have kc_s:=@SL L a i j sa hac hL
  have hal:=sa.1
  simp only [sepJ]
  generalize gN a i j = r at *
  obtain ⟨w,b⟩:=r
  simp only at kc_s ⊢
  have kl_i:=@r9 L o (txt w) (by omega) hL
  cases b with
  | false =>
   have ih':=ih (j + 1) m o o.length (by omega) (by omega) rfl (by omega)
   rw [cs1 j] at ih'
   rw [if_neg fun h => by cases h.1]
   clear ih
   simp -implicitDefEqProofs (maxSteps:=2000000) (disch:=try exact Dz) only [↓DN,↓kRet,UP,simprocAttr,hc,↓kc_s,↓ih',e9,eT,Tryz.f31]
  | true =>
   by_cases h:txt w ∈ o
   ·have ih':=ih (j + 1) m o o.length (by omega) (by omega) rfl (by omega)
    rw [cs1 j] at ih'
    rw [if_neg fun h2 => h2.2 h]
    rw [decide_eq_true h] at kl_i
    clear ih
    simp -implicitDefEqProofs (maxSteps:=2000000) (disch:=try exact Dz) only [↓DN,↓kRet,UP,simprocAttr,↓hJ,SE,hc,↓kc_s,↓kl_i,↓ih',e9,eT,Tryz.f31]
   ·have ih':=ih (j + 1) m (o ++ [txt w]) (o.length + 1) (by omega) (by omega) (by simp) (by simp; omega)
    rw [cs1 j] at ih'
    rw [if_pos ⟨rfl,h⟩]
    rw [decide_eq_false h] at kl_i
    clear ih
    simp -implicitDefEqProofs (maxSteps:=2000000) (disch:=try exact Dz) only [↓DN,↓kRet,UP,simprocAttr,↓hJ,SE,hc,↓kc_s,↓kl_i,jG,↓ih',e9,eT,Tryz.f31]
theorem CC (hn:9 ≤ n) (hL:2 ^ 60 ≤ L) {a:Aut} (ha:AOK a) {k:KE R}:∀ (q i m:Nat) (o:List Str) (len:Nat) (hq:i + q = a.nx.length) (hm:q < m) (hlen:len = o.length) (ho:o.length + q * 12 ≤ 10000),
  aF env (aA env L n) L 0 [] Bz11 (cE 0) (U1 (Z2 (Z1 (U8 (U2 (Z2 (U16 (U8 (U4 (U2 (U1 ([])))))))))))) m (Y1 (.ptr 0 0 0 :: .d .nils :: .sl 1 0 0 len :: Y8 (Y2 (nI (a.nx.length) :: nI i :: Y16 (Y8 (Y4 (Y2 (Y1 ([]))))))))) [.box [nI a.al,.d (.ivs a.nx.length (rowsD a.nx)),.d (.ivs a.ac.length (bools a.ac))],.arr (aE o) 1 0] k
  = k (.exit 0) (Y1 (.ptr 0 0 0 :: .d .nils :: .sl 1 0 0 (sepA a q i o).length :: Y8 (Y2 (nI (a.nx.length) :: nI (a.nx.length) :: Y16 (Y8 (Y4 (Y2 (Y1 ([]))))))))) [.box [nI a.al,.d (.ivs a.nx.length (rowsD a.nx)),.d (.ivs a.ac.length (bools a.ac))],.arr (aE (sepA a q i o)) 1 0]:=by
 obtain ⟨sa,wa,a1,a2,a3⟩:=bD ha
 intro q
 induction q with
 | zero =>
  intro i m o len hq hm hlen ho
  obtain _ | m:=m; omega
  obtain rfl:i = a.nx.length:=by omega
  subst hlen
  simp -implicitDefEqProofs (maxSteps:=2000000) (disch:=try exact Dz) only [↓DN,↓kRet,UP,simprocAttr,Int.lt_irrefl,oE,kJ,Tryz.f31]
  rfl
 | succ q ih =>
  intro i m o len hq hm hlen ho
  obtain _ | m:=m; omega
  subst hlen
  have hc:(i:Int) < a.nx.length:=by omega
  have loop_c:=fun {R n k} hn => @AX R L n hn hL a ha i (by omega) k (a.nx.length - (i + 1)) (i + 1) L o o.length (by omega) (by omega) rfl (by omega)
  rw [cs1 i] at loop_c
  have hl:=(AH (a:=a) (i:=i) (a.nx.length - (i + 1)) (i + 1) o).2
  have ih':=ih (i + 1) m (sepJ a i (a.nx.length - (i + 1)) (i + 1) o) _ (by omega) (by omega) rfl (by omega)
  rw [cs1 i] at ih'
  simp only [sepA]
  clear ih
  generalize sepJ a i (a.nx.length - (i + 1)) (i + 1) o = w at *
  simp -implicitDefEqProofs (maxSteps:=2000000) (disch:=try exact Dz) only [↓DN,↓kRet,UP,simprocAttr,hc,↓loop_c,↓ih',oE,kJ,Tryz.f31]
theorem IJ (hn:10 ≤ n) (a:Aut) (hv:AOK a) (hL:2 ^ 60 ≤ L):aA env L n 31 [.agg [nI a.al,.d (.ivs a.nx.length (rowsD a.nx)),.d (.ivs a.ac.length (bools a.ac))]] [] = some (.sl 0 0 0 (sepW a).length,[.arr (aE (sepW a)) 1 0]):=by
  obtain ⟨sa,wa,a1,a2,a3⟩:=bD hv
  have hrl:=sa.1
  have hac:a.ac.length ≤ 4294967296:=by omega
  have loop_c:=fun {R n k} hn => @CC R L n hn hL a hv k a.nx.length 0 L [[]] 1 (by omega) (by omega) rfl (by simp; omega)
  have e:aE [[]] = [.str []]:=rfl
  have e2:sepA a a.nx.length 0 [[]] = sepW a:=rfl
  rw [e,e2] at loop_c
  have hl:=IR hv
  unfold AOK at hv
  simp only [Int.natCast_zero] at loop_c ⊢
  generalize sepW a = w at *
  obtain _ | n:=n; omega
  simp -implicitDefEqProofs (maxSteps:=2000000) (disch:=try exact Dz) only [↓DN,↓kAsg,↓kRet,UP,simprocAttr,↓aX,hv,↓loop_c,IF,u6,Tryz.f31]
end
section
theorem NS {α:Type} {p q:α → Bool}:∀ {l:List α},(∀ x ∈ l,p x = true → q x = true) → l.countP p = l.countP q → ∀ x ∈ l,q x = true → p x = true
 | [],_,_,x,hx,_ => by cases hx
 | a :: l,h,he,x,hx,hq => by
  have hle:=List.countP_mono_left (l:=l) (p:=p) (q:=q) fun y hy => h y (List.mem_cons_of_mem _ hy)
  rw [List.countP_cons,List.countP_cons] at he
  have ha:=h a List.mem_cons_self
  cases hpa:p a with
  | true =>
   rw [hpa,ha hpa] at he
   have he2:l.countP p = l.countP q:=by simpa using he
   rcases List.mem_cons.1 hx with rfl | hx
   ·exact hpa
   ·exact NS (fun y hy => h y (List.mem_cons_of_mem _ hy)) he2 x hx hq
  | false =>
   cases hqa:q a with
   | true =>
    rw [hpa,hqa] at he
    simp at he
    omega
   | false =>
    rw [hpa,hqa] at he
    have he2:l.countP p = l.countP q:=by simpa using he
    rcases List.mem_cons.1 hx with rfl | hx
    ·rw [hqa] at hq; cases hq
    ·exact NS (fun y hy => h y (List.mem_cons_of_mem _ hy)) he2 x hx hq
section
variable (go:Int → Int → Int) (ls:List Int) (acc:Int → Bool)
def kH (w:List Int) (q:Int):Int:=w.foldl go q
def gY (k:Nat) (i j:Int):Prop:=∀ w:List Int,(∀ l ∈ w,l ∈ ls) → w.length ≤ k → acc (kH go w i) = acc (kH go w j)
variable {go ls acc}
theorem aGA {k:Nat} {i:Int}:gY go ls acc k i i:=fun _ _ _ => rfl
theorem IW {k:Nat} {i j:Int} (h:gY go ls acc k i j):gY go ls acc k j i:=fun w a b => (h w a b).symm
theorem wI {k:Nat} {i j m:Int} (h:gY go ls acc k i j) (g:gY go ls acc k j m):gY go ls acc k i m:=fun w a b => (h w a b).trans (g w a b)
theorem HS {k m:Nat} {i j:Int} (h:gY go ls acc m i j) (hk:k ≤ m):gY go ls acc k i j:=fun w a b => h w a (Nat.le_trans b hk)
theorem V9 {k:Nat} {i j:Int}:gY go ls acc (k + 1) i j ↔ acc i = acc j ∧ ∀ l ∈ ls,gY go ls acc k (go i l) (go j l):=by
 constructor
 ·intro h
  refine ⟨h [] (by simp) (by simp),fun l hl w hw hk => ?_⟩
  exact h (l :: w) (by intro x hx; rcases List.mem_cons.1 hx with rfl | hx; exact hl; exact hw x hx) (by simp; omega)
 ·rintro ⟨h1,h2⟩ w hw hk
  cases w with
  | nil => exact h1
  | cons l w => exact h2 l (hw l List.mem_cons_self) w (fun x hx => hw x (List.mem_cons_of_mem _ hx)) (by simp at hk; omega)
variable (go ls acc)
open Classical in
noncomputable def repB (k i:Nat):Bool:=decide (∀ j:Nat,j < i → ¬ gY go ls acc k (j:Int) (i:Int))
noncomputable def repC (n k:Nat):Nat:=(List.range n).countP (repB go ls acc k)
variable {go ls acc}
theorem JC {k i:Nat}:repB go ls acc k i = true ↔ ∀ j:Nat,j < i → ¬ gY go ls acc k (j:Int) (i:Int):=by
 unfold repB
 simp
theorem aFq {k:Nat}:∀ i:Nat,∃ r,r ≤ i ∧ repB go ls acc k r = true ∧ gY go ls acc k (r:Int) (i:Int):=by
 intro i
 induction i using Nat.strongRecOn with
 | ind i ih =>
  by_cases h:∃ j:Nat,j < i ∧ gY go ls acc k (j:Int) (i:Int)
  ·obtain ⟨j,hj,ha⟩:=h
   obtain ⟨r,hr,h1,h2⟩:=ih j hj
   exact ⟨r,by omega,h1,wI h2 ha⟩
  ·refine ⟨i,Nat.le_refl _,JC.2 fun j hj ha => h ⟨j,hj,ha⟩,aGA⟩
theorem aDi {k i:Nat} (h:repB go ls acc k i = true):repB go ls acc (k + 1) i = true:=by
 rw [JC] at h ⊢
 exact fun j hj ha => h j hj (HS ha (by omega))
theorem aMz {n k:Nat}:repC go ls acc n k ≤ repC go ls acc n (k + 1):=List.countP_mono_left fun _ _ h => aDi h
theorem aHm {n k:Nat} (he:repC go ls acc n k = repC go ls acc n (k + 1)) {i j:Nat} (hi:i < n) (hj:j < n) (h:gY go ls acc k (i:Int) (j:Int)):gY go ls acc (k + 1) (i:Int) (j:Int):=by
 have key:=NS (l:=List.range n) (fun x _ h => aDi (go:=go) (ls:=ls) (acc:=acc) (k:=k) (i:=x) h) he
 obtain ⟨r,hr,r1,r2⟩:=aFq (go:=go) (ls:=ls) (acc:=acc) (k:=k + 1) i
 obtain ⟨s,hs,s1,s2⟩:=aFq (go:=go) (ls:=ls) (acc:=acc) (k:=k + 1) j
 have r3:=key r (List.mem_range.2 (by omega)) r1
 have s3:=key s (List.mem_range.2 (by omega)) s1
 rw [JC] at r3 s3
 have hrs:gY go ls acc k (r:Int) (s:Int):=wI (HS r2 (by omega)) (wI h (IW (HS s2 (by omega))))
 have e:r = s:=by
  rcases Nat.lt_trichotomy r s with h1 | h1 | h1
  ·exact absurd hrs (s3 r h1)
  ·exact h1
  ·exact absurd (IW hrs) (r3 s h1)
 subst e
 exact wI (IW r2) s2
theorem aLe {n:Nat}:∀ k:Nat,(∀ m,m < k → repC go ls acc n m ≠ repC go ls acc n (m + 1)) → repC go ls acc n 0 + k ≤ repC go ls acc n k
 | 0,_ => Nat.le_refl _
 | k + 1,h => by
  have h1:=aLe (n:=n) k fun m hm => h m (by omega)
  have h2:=aMz (go:=go) (ls:=ls) (acc:=acc) (n:=n) (k:=k)
  have h3:=h k (by omega)
  omega
theorem aFi {n:Nat} (hgo:∀ q l:Int,0 ≤ q → q < n → l ∈ ls → 0 ≤ go q l ∧ go q l < n) {i j:Int} (hi:0 ≤ i ∧ i < n) (hj:0 ≤ j ∧ j < n) {w:List Int} (hw:∀ l ∈ w,l ∈ ls) (hd:acc (kH go w i) ≠ acc (kH go w j)) :
  ∃ v:List Int,(∀ l ∈ v,l ∈ ls) ∧ v.length < n ∧ acc (kH go v i) ≠ acc (kH go v j):=by
 have hn:1 ≤ n:=by omega
 have hle:∀ k,repC go ls acc n k ≤ n:=fun k => by
  have:=List.countP_le_length (p:=repB go ls acc k) (l:=List.range n)
  simpa [repC] using this
 have h0:1 ≤ repC go ls acc n 0:=by
  unfold repC
  rw [Nat.succ_le_iff,List.countP_pos_iff]
  exact ⟨0,List.mem_range.2 (by omega),JC.2 fun j hj => by omega⟩
 obtain ⟨k,hk,he⟩:∃ k,k < n ∧ repC go ls acc n k = repC go ls acc n (k + 1):=by
  apply Classical.byContradiction
  intro hc
  have:=aLe (go:=go) (ls:=ls) (acc:=acc) (n:=n) n fun m hm he => hc ⟨m,hm,he⟩
  have:=hle n
  omega
 have stay:∀ d:Nat,∀ a b:Nat,a < n → b < n → gY go ls acc k (a:Int) (b:Int) → gY go ls acc (k + d) (a:Int) (b:Int):=by
  intro d
  induction d with
  | zero => intro a b _ _ h; exact h
  | succ d ih =>
   intro a b ha hb h
   have h1:=aHm he ha hb h
   rw [V9] at h1
   rw [show k + (d + 1) = (k + d) + 1 by omega,V9]
   refine ⟨h1.1,fun l hl => ?_⟩
   have ga:=hgo a l (by omega) (by omega) hl
   have gb:=hgo b l (by omega) (by omega) hl
   have:=ih (go a l).toNat (go b l).toNat (by omega) (by omega) (by
    rw [Int.toNat_of_nonneg ga.1,Int.toNat_of_nonneg gb.1]
    exact h1.2 l hl)
   rwa [Int.toNat_of_nonneg ga.1,Int.toNat_of_nonneg gb.1] at this
 apply Classical.byContradiction
 intro hc
 have hal:gY go ls acc k ((i.toNat:Nat):Int) ((j.toNat:Nat):Int):=by
  intro v hv hvl
  rw [Int.toNat_of_nonneg hi.1,Int.toNat_of_nonneg hj.1]
  apply Classical.byContradiction
  intro h
  exact hc ⟨v,hv,by omega,h⟩
 have:=stay w.length i.toNat j.toNat (by omega) (by omega) hal w hw (by omega)
 rw [Int.toNat_of_nonneg hi.1,Int.toNat_of_nonneg hj.1] at this
 exact hd this
end
end
def goA (a:Aut) (q l:Int):Int:=goI a.al a.nx q l
def accA (a:Aut) (q:Int):Bool:=a.ac.getD q.toNat false
theorem AA {a:Aut} (h:AOK a):∀ q l:Int,0 ≤ q → q < a.nx.length → l ∈ aB a.al → 0 ≤ goA a q l ∧ goA a q l < a.nx.length:=by
 intro q l h0 h1 hl
 have:=bZ l hl
 exact kE h h0 h1 this.1 (by omega)
theorem CJ {a:Aut} (h:AOK a):∀ (w:List Int) (q:Int),(∀ l ∈ w,l ∈ aB a.al) → 0 ≤ q → q < a.nx.length → 0 ≤ kH (goA a) w q ∧ kH (goA a) w q < a.nx.length
 | [],q,_,h0,h1 => ⟨h0,h1⟩
 | l :: w,q,hw,h0,h1 => by
  have hg:=AA h q l h0 h1 (hw l List.mem_cons_self)
  exact CJ h w _ (fun x hx => hw x (List.mem_cons_of_mem _ hx)) hg.1 hg.2
theorem H8 {x y n:Int} (hn:0 < n) (hx:0 ≤ x) (hy:0 ≤ y) (hy2:y < n):(x * n + y).tdiv n = x ∧ (x * n + y).tmod n = y:=by
 have h0:0 ≤ x * n + y:=by
  have:=Int.mul_nonneg hx (Int.le_of_lt hn)
  omega
 rw [Int.tdiv_eq_ediv_of_nonneg h0,Int.tmod_eq_emod_of_nonneg h0,Int.add_comm,Int.add_mul_ediv_right _ _ (by omega),Int.add_mul_emod_self_right,Int.ediv_eq_zero_of_lt hy hy2,Int.emod_eq_of_lt hy hy2]
 omega
theorem JO {a:Aut} (h:AOK a):∀ (w:List Int) (i j u:Int),0 ≤ i → i < a.nx.length → 0 ≤ j → j < a.nx.length →
  (Path (nxT a a) (aB a.al) (i * a.nx.length + j) w u ↔ (∀ l ∈ w,l ∈ aB a.al) ∧ u = kH (goA a) w i * a.nx.length + kH (goA a) w j)
 | [],i,j,u,_,_,_,_ => by
  simp only [Path,kH,List.foldl_nil]
  constructor
  ·rintro rfl; exact ⟨by simp,rfl⟩
  ·rintro ⟨_,rfl⟩; rfl
 | l :: w,i,j,u,i0,i1,j0,j1 => by
  obtain ⟨e1,e2⟩:=H8 (n:=(a.nx.length:Int)) (by omega) i0 j0 j1
  simp only [Path,nxT,e1,e2,List.mem_singleton,exists_eq_left]
  constructor
  ·rintro ⟨hl,hp⟩
   have gi:=AA h i l i0 i1 hl
   have gj:=AA h j l j0 j1 hl
   obtain ⟨h1,h2⟩:=(JO h w (goA a i l) (goA a j l) u gi.1 gi.2 gj.1 gj.2).1 hp
   refine ⟨?_,h2⟩
   intro x hx
   rcases List.mem_cons.1 hx with rfl | hx
   ·exact hl
   ·exact h1 x hx
  ·rintro ⟨hw,hu⟩
   have hl:=hw l List.mem_cons_self
   have gi:=AA h i l i0 i1 hl
   have gj:=AA h j l j0 j1 hl
   exact ⟨hl,(JO h w (goA a i l) (goA a j l) u gi.1 gi.2 gj.1 gj.2).2 ⟨fun x hx => hw x (List.mem_cons_of_mem _ hx),hu⟩⟩
def aHs (a:Aut) (i j:Int) (w:List Int):Prop:=(∀ l ∈ w,l ∈ aB a.al) ∧ accA a (kH (goA a) w i) ≠ accA a (kH (goA a) w j)
theorem aJ1 {a:Aut} (h:AOK a) {i j:Int} (hi:0 ≤ i ∧ i < a.nx.length) (hj:0 ≤ j ∧ j < a.nx.length) (w:List Int) :
  Hits (nxT a a) (aB a.al) [i * a.nx.length + j] (glT (fun x y => x != y) a a) w ↔ aHs a i j w:=by
 unfold Hits pD aHs
 simp only [List.mem_singleton,exists_eq_left]
 constructor
 ·rintro ⟨u,hp,hg⟩
  obtain ⟨h1,rfl⟩:=(JO h w i j u hi.1 hi.2 hj.1 hj.2).1 hp
  have ri:=CJ h w i h1 hi.1 hi.2
  have rj:=CJ h w j h1 hj.1 hj.2
  obtain ⟨e1,e2⟩:=H8 (n:=(a.nx.length:Int)) (by omega) ri.1 rj.1 rj.2
  refine ⟨h1,?_⟩
  unfold glT at hg
  rw [e1,e2] at hg
  simpa [accA] using hg
 ·rintro ⟨h1,h2⟩
  have ri:=CJ h w i h1 hi.1 hi.2
  have rj:=CJ h w j h1 hj.1 hj.2
  obtain ⟨e1,e2⟩:=H8 (n:=(a.nx.length:Int)) (by omega) ri.1 rj.1 rj.2
  refine ⟨_,(JO h w i j _ hi.1 hi.2 hj.1 hj.2).2 ⟨h1,rfl⟩,?_⟩
  unfold glT
  rw [e1,e2]
  simpa [accA] using h2
theorem aIh {a:Aut} (h:AOK a) {i j:Int} (hi:0 ≤ i ∧ i < a.nx.length) (hj:0 ≤ j ∧ j < a.nx.length):zL (aHs a i j) (gN a i j):=by
 have hok:GN a i j = true:=by
  have h':bR a.al a.nx a.ac = true:=h
  unfold GN
  rw [h']
  simp; omega
 unfold gN
 rw [if_pos hok]
 refine WO (aJ1 h hi hj) ?_
 have hs:=z6 hi hj
 have hr:∀ v c:Int,0 ≤ v → v < ((a.nx.length * a.nx.length:Nat):Int) → c ∈ aB a.al → ∀ m ∈ nxT a a v c,0 ≤ m ∧ m < ((a.nx.length * a.nx.length:Nat):Int):=by
  intro v c h0 h1 hc
  have:=bZ c hc
  rw [Int.natCast_mul] at h1 ⊢
  exact PD h h h0 h1 (by omega)
 refine YZ (jX _) hr (fun n hn => ?_) (by simp)
 simp only [List.mem_singleton] at hn
 subst hn
 rw [Int.natCast_mul]; exact hs
theorem aDr {a:Aut} (h:AOK a) {i j:Int} (hi:0 ≤ i ∧ i < a.nx.length) (hj:0 ≤ j ∧ j < a.nx.length) (h2:(gN a i j).2 = true):(gN a i j).1.length < a.nx.length ∧ ∀ l ∈ (gN a i j).1,l ∈ aB a.al:=by
 rcases aIh h hi hj with ⟨_,hl⟩ | ⟨he,_⟩
 ·obtain ⟨⟨t1,t2⟩,hmin⟩:=hl
  refine ⟨?_,t1⟩
  obtain ⟨v,v1,v2,v3⟩:=aFi (go:=goA a) (ls:=aB a.al) (acc:=accA a) (n:=a.nx.length) (AA h) hi hj t1 t2
  apply Classical.byContradiction
  intro hc
  exact hmin v ⟨v1,v3⟩ (.inl (by omega))
 ·rw [he] at h2; cases h2
theorem aMQ {al:Int} (ha:cB al = true) {w:List Int} (hw:∀ l ∈ w,l ∈ aB al) (hl:w.length ≤ 50000):dK al (txt w) = true:=by
 unfold dK txt
 simp only [Bool.and_eq_true,decide_eq_true_eq,List.length_map,List.all_eq_true,List.mem_map]
 refine ⟨⟨ha,hl⟩,?_⟩
 rintro b ⟨l,hlm,rfl⟩
 have hb:=bZ l (hw l hlm)
 have h2:=(gL.1 (hw l hlm)).2
 unfold inB okB
 rw [aAE hb.1 hb.2,h2]
 simp [eA]
 omega
def XO (a:Aut) (o:List Str):Prop:=o.Nodup ∧ ∀ w ∈ o,w.length < a.nx.length ∧ dK a.al w = true
theorem aAf {a:Aut} (h:AOK a) {i:Nat} (hi:i < a.nx.length):∀ (q j:Nat) (o:List Str),j + q = a.nx.length → XO a o → XO a (sepJ a i q j o)
 | 0,_,o,_,ho => ho
 | q + 1,j,o,hj,ho => by
  unfold sepJ
  split
  ·rename_i hc
   refine aAf h hi q (j + 1) _ (by omega) ⟨?_,fun w hw => ?_⟩
   ·rw [List.nodup_append]
    refine ⟨ho.1,by simp,fun x hx y hy => ?_⟩
    simp only [List.mem_singleton] at hy
    subst hy
    rintro rfl
    exact hc.2 hx
   ·rcases List.mem_append.1 hw with hw | hw
    ·exact ho.2 w hw
    ·simp only [List.mem_singleton] at hw
     subst hw
     obtain ⟨_,_,_,a2,_⟩:=bD h
     obtain ⟨s1,s2⟩:=aDr h (i:=i) (j:=j) (by omega) (by omega) hc.1
     exact ⟨by simpa [txt] using s1,aMQ (gU h).2.2.2 s2 (by omega)⟩
  ·exact aAf h hi q (j + 1) o (by omega) ho
theorem aFz {a:Aut} (h:AOK a):∀ (q i:Nat) (o:List Str),i + q = a.nx.length → XO a o → XO a (sepA a q i o)
 | 0,_,o,_,ho => ho
 | q + 1,i,o,hi,ho => by
  unfold sepA
  exact aFz h q (i + 1) _ (by omega) (aAf h (by omega) _ (i + 1) o (by omega) ho)
theorem aLG {a:Aut} (h:AOK a):XO a (sepW a):=by
 obtain ⟨a1,_,_,ha⟩:=gU h
 refine aFz h _ 0 _ (by omega) ⟨by simp,fun w hw => ?_⟩
 simp only [List.mem_singleton] at hw
 subst hw
 refine ⟨by simp; omega,?_⟩
 unfold dK
 simp [ha]
def Wk (al:Int) (n:Nat) (w:Str):Prop:=w.length ≤ n ∧ ∀ b ∈ w,∃ l ∈ aB al,b = bY l
theorem Wk.app {al:Int} {n m:Nat} {u v:Str} (h:Wk al n u) (g:Wk al m v):Wk al (n + m) (u ++ v):=by
 refine ⟨by rw [List.length_append]; have:=h.1; have:=g.1; omega,fun b hb => ?_⟩
 rcases List.mem_append.1 hb with hb | hb
 ·exact h.2 b hb
 ·exact g.2 b hb
theorem Wk.txt {al:Int} {n:Nat} {w:Str} (h:Wk al n w):∃ u:List Int,w = Ev.txt u ∧ (∀ l ∈ u,l ∈ aB al) ∧ u.length = w.length:=by
 obtain ⟨h1,h2⟩:=h
 clear h1
 induction w with
 | nil => exact ⟨[],rfl,by simp,rfl⟩
 | cons b w ih =>
  obtain ⟨u,e,hu,hl⟩:=ih fun b hb => h2 b (List.mem_cons_of_mem _ hb)
  obtain ⟨l,hlm,e2⟩:=h2 b List.mem_cons_self
  refine ⟨l :: u,by rw [e2,e]; rfl,fun x hx => ?_,by simp [hl]⟩
  rcases List.mem_cons.1 hx with rfl | hx
  ·exact hlm
  ·exact hu x hx
theorem Wk.ok {al:Int} {n:Nat} {w:Str} (ha:cB al = true) (h:Wk al n w) (hn:n ≤ 50000):dK al w = true ∧ dD w = true:=by
 obtain ⟨u,e,hu,hl⟩:=h.txt
 have:=h.1
 rw [e]
 exact aMd ha hu (by omega)
theorem aMn {al:Int} {n:Nat} {u:List Int} (hu:∀ l ∈ u,l ∈ aB al) (hl:u.length ≤ n):Wk al n (txt u):=by
 refine ⟨by unfold txt; rw [List.length_map]; exact hl,fun b hb => ?_⟩
 obtain ⟨l,hlm,rfl⟩:=List.mem_map.1 hb
 exact ⟨l,hu l hlm,rfl⟩
theorem aJk {a:Aut} (h:AOK a):∀ w ∈ bU a,Wk a.al (a.nx.length - 1) w:=by
 obtain ⟨W,hB⟩:=sS h
 have hn:=gR hB.nod hB.rng
 rw [C8 h hB]
 intro w hw
 obtain ⟨i,hi,rfl⟩:=List.mem_map.1 hw
 have hi:=List.mem_range.1 hi
 have:=aKU hB i i (Nat.le_refl _) hi
 exact aMn (hB.lts i hi) (by omega)
theorem aII {a:Aut} (h:AOK a):∀ w ∈ sepW a,Wk a.al (a.nx.length - 1) w:=by
 intro w hw
 obtain ⟨h1,h2⟩:=(aLG h).2 w hw
 refine ⟨by omega,fun b hb => ?_⟩
 unfold dK at h2
 simp only [Bool.and_eq_true,decide_eq_true_eq,List.all_eq_true] at h2
 have hb:=h2.2 b hb
 unfold inB at hb
 simp only [Bool.and_eq_true] at hb
 have h3:=hb.1
 unfold okB eA at h3
 simp only [decide_eq_true_eq] at h3
 refine ⟨ltr b,gL.2 ⟨by omega,hb.2⟩,?_⟩
 exact aI8.symm
theorem aId {al:Int} {k:Nat}:∀ w ∈ midG (aB al) k,Wk al k w:=fun w hw => aAo k w hw
theorem aDf {a:Aut} (h:AOK a) {e:Nat} {c m w:Str} (hc:c ∈ bU a) (hm:m ∈ midG (aB a.al) (e + 1)) (hw:w ∈ sepW a):Wk a.al (2 * a.nx.length + e) (c ++ m ++ w):=by
 obtain ⟨_,_,a1,_,_⟩:=bD h
 have:=((aJk h c hc).app (aId m hm)).app (aII h w hw)
 exact ⟨by have:=this.1; omega,this.2⟩
section
variable {R:Type} {L n:Nat}
theorem YY (hn:1 ≤ n) {l:List Int} {x:Int} {q:Nat} (hql:q < l.length) (hl:l.length ≤ 4294967290) (hx:l.getD q 0 = x) (hne:∀ i,i < q → ¬ l.getD i 0 = x) {k:KE R}:∀ (j i m:Nat) (hi:i + j = q) (hm:j < m),
  aF env (aA env L n) L 0 [] Bz56 (oN 0) (Z2 (U2 (Z2 (U8 (U1 ([])))))) m (.d (.ivs l.length (ints l)) :: nI x :: Y2 (nI 0 :: nI i :: Y8 (Y1 ([])))) [] k
  = k (.exit 0) (.d (.ivs l.length (ints l)) :: nI x :: Y2 (nI 0 :: nI q :: Y8 (Y1 ([])))) []:=by
 intro j
 induction j with
 | zero =>
  intro i m hi hm
  obtain _ | m:=m; omega
  obtain rfl:i = q:=by omega
  have hc:(i:Int) < l.length:=by omega
  have hi0:(0:Int) ≤ i:=by omega
  simp -implicitDefEqProofs (maxSteps:=2000000) (disch:=try exact Dz) only [↓DN,↓kRet,UP,simprocAttr,hc,hi0,hx,A8,yR,Tryz.f125]
 | succ j ih =>
  intro i m hi hm
  obtain _ | m:=m; omega
  have hc:(i:Int) < l.length:=by omega
  have hi0:(0:Int) ≤ i:=by omega
  have he:=hne i (by omega)
  have ih':=ih (i + 1) m (by omega) (by omega)
  rw [cs1 i] at ih'
  clear ih
  simp -implicitDefEqProofs (maxSteps:=2000000) (disch:=try exact Dz) only [↓DN,↓kRet,UP,simprocAttr,hc,hi0,he,↓ih',A8,yR,Tryz.f125]
theorem aLT {l:List Int} {x:Int} {i:Nat} (h:i < l.idxOf x) (hx:x ∈ l):¬ l.getD i 0 = x:=by
 obtain ⟨_,hq⟩:=vA hx
 rw [List.getD_eq_getElem?_getD,List.getElem?_eq_getElem (by omega)]
 intro e
 have e2:l[i]'(by omega) = x:=e
 have:=List.not_of_lt_findIdx (p:=(· == x)) (xs:=l) (i:=i) h
 rw [e2] at this
 simp at this
theorem NU (hn:2 ≤ n) (l:List Int) (x:Int) (hx:x ∈ l) (hl:l.length ≤ 4294967290) (hL:2 ^ 60 ≤ L):aA env L n 125 [.d (.ivs l.length (ints l)),nI x] [] = some (nI (idxU l x),[]):=by
 obtain ⟨h1,h2⟩:=vA hx
 have loop_c:=fun {R n k} hn => @YY R L n hn l x (l.idxOf x) h2 hl h1 (fun i hi => aLT hi hx) k (l.idxOf x) 0 L (by omega) (by omega)
 simp only [Int.natCast_zero] at loop_c
 unfold idxU
 generalize l.idxOf x = q at *
 obtain _ | n:=n; omega
 simp -implicitDefEqProofs (maxSteps:=2000000) (disch:=try exact Dz) only [↓DN,↓kAsg,UP,simprocAttr,↓loop_c,aCO,RM,Tryz.f125]
theorem aDx:type_of% fun {L} l x hx hl hL => ks fun hn => @NU L _ hn l x hx hl hL:=fun {L} l x hx hl hL => ks fun hn => @NU L _ hn l x hx hl hL
theorem SA (hn:3 ≤ n) (hL:2 ^ 60 ≤ L) {a:Aut} {i:Nat} {r:List Int} (hr:r.length ≤ 100) {k:KE R}:∀ (j q m:Nat) (o:List Int) (len:Nat) (hq:q + j = r.length) (hm:j < m) (hlen:len = o.length) (ho:o.length + j ≤ 100000),
  aF env (aA env L n) L 0 [] Bz25 (eL 1) (U1 (Z4 (Z2 (U32 (U4 ([])))))) m (Y1 (.ptr 0 0 0 :: .d .nils :: .sl 1 0 0 len :: nI i :: .d (.ivs r.length (ints r)) :: nI q :: Y32 (Y4 ([])))) [.box [nI a.al,.d (.ivs a.nx.length (rowsD a.nx)),.d (.ivs a.ac.length (bools a.ac))],.arr (ints o) 1 0] k
  = k (.exit 2) (Y1 (.ptr 0 0 0 :: .d .nils :: .sl 1 0 0 (rowU o (r.drop q)).length :: nI i :: .d (.ivs r.length (ints r)) :: nI (r.length) :: Y32 (Y4 ([])))) [.box [nI a.al,.d (.ivs a.nx.length (rowsD a.nx)),.d (.ivs a.ac.length (bools a.ac))],.arr (ints (rowU o (r.drop q))) 1 0]:=by
 intro j
 induction j with
 | zero =>
  intro q m o len hq hm hlen ho
  obtain _ | m:=m; omega
  obtain rfl:q = r.length:=by omega
  subst hlen
  simp -implicitDefEqProofs (maxSteps:=2000000) (disch:=try exact Dz) only [↓DN,↓kRet,UP,simprocAttr,Int.lt_irrefl,rP,qW,Tryz.f124]
  rw [List.drop_length]
  rfl
 | succ j ih =>
  intro q m o len hq hm hlen ho
  obtain _ | m:=m; omega
  subst hlen
  have hk:q < r.length:=by omega
  have hc:(q:Int) < r.length:=by omega
  have hq0:(0:Int) ≤ q:=by omega
  have kl_i:=@aBL L o (r.getD q 0) (by omega) hL
  have hl4:o.length ≤ 4294967290:=by omega
  rw [bK hk (d:=0)]
  by_cases h:r.getD q 0 ∈ o
  ·have e:rowU o (r.getD q 0 :: r.drop (q + 1)) = rowU o (r.drop (q + 1)):=by
    unfold rowU
    rw [List.foldl_cons,addU,if_pos h]
   have ih':=ih (q + 1) m o o.length (by omega) (by omega) rfl (by omega)
   rw [cs1 q] at ih'
   rw [e]
   rw [decide_eq_true h] at kl_i
   clear ih
   generalize rowU o (r.drop (q + 1)) = w at *
   simp -implicitDefEqProofs (maxSteps:=2000000) (disch:=try exact Dz) only [↓DN,↓kRet,UP,simprocAttr,↓wN,hc,hq0,↓kl_i,↓ih',rP,qW,Tryz.f124]
  ·have e:rowU o (r.getD q 0 :: r.drop (q + 1)) = rowU (o ++ [r.getD q 0]) (r.drop (q + 1)):=by
    unfold rowU
    rw [List.foldl_cons,addU,if_neg h]
   have ih':=ih (q + 1) m (o ++ [r.getD q 0]) (o.length + 1) (by omega) (by omega) (by simp) (by simp; omega)
   rw [cs1 q] at ih'
   rw [e]
   rw [decide_eq_false h] at kl_i
   clear ih
   generalize rowU (o ++ [r.getD q 0]) (r.drop (q + 1)) = w at *
   simp -implicitDefEqProofs (maxSteps:=2000000) (disch:=try exact Dz) only [↓DN,↓kRet,UP,simprocAttr,↓wN,hc,hq0,↓kl_i,↓ih',rP,qW,Tryz.f124]
theorem R5 (hn:3 ≤ n) (hL:2 ^ 60 ≤ L) {a:Aut} (ha:AOK a) {k:KE R}:∀ (j i m:Nat) (o:List Int) (W:Nat → List Int) (len:Nat) (hB:Bfs (goS a) (aB a.al) a.nx.length i [] o W) (hi:i ≤ o.length) (hj:a.nx.length < i + j) (hm:j < m) (hlen:len = o.length),
  aF env (aA env L n) L 0 [] Bz25 (eL 0) Bz55 m (Y1 (.ptr 0 0 0 :: .d .nils :: .sl 1 0 0 len :: nI i :: Y32 (Y4 (Y2 ([]))))) [.box [nI a.al,.d (.ivs a.nx.length (rowsD a.nx)),.d (.ivs a.ac.length (bools a.ac))],.arr (ints o) 1 0] k
  = k (.exit 0) (Y1 (.ptr 0 0 0 :: .d .nils :: .sl 1 0 0 (ordB (goS a) (aB a.al) j i o).length :: nI ((ordB (goS a) (aB a.al) j i o).length:Int) :: Y32 (Y4 (Y2 ([]))))) [.box [nI a.al,.d (.ivs a.nx.length (rowsD a.nx)),.d (.ivs a.ac.length (bools a.ac))],.arr (ints (ordB (goS a) (aB a.al) j i o)) 1 0]:=by
 obtain ⟨sa,wa,a1,a2,a3⟩:=bD ha
 have hal:=sa.1
 have last:∀ (i m:Nat) (o:List Int) (len:Nat),i = o.length → 0 < m → len = o.length → aF env (aA env L n) L 0 [] Bz25 (eL 0) Bz55 m (Y1 (.ptr 0 0 0 :: .d .nils :: .sl 1 0 0 len :: nI i :: Y32 (Y4 (Y2 ([]))))) [.box [nI a.al,.d (.ivs a.nx.length (rowsD a.nx)),.d (.ivs a.ac.length (bools a.ac))],.arr (ints o) 1 0] k
  = k (.exit 0) (Y1 (.ptr 0 0 0 :: .d .nils :: .sl 1 0 0 o.length :: nI (o.length:Int) :: Y32 (Y4 (Y2 ([]))))) [.box [nI a.al,.d (.ivs a.nx.length (rowsD a.nx)),.d (.ivs a.ac.length (bools a.ac))],.arr (ints o) 1 0]:=by
  intro i m o len hi hm hlen
  obtain _ | m:=m; omega
  subst hi
  subst hlen
  simp -implicitDefEqProofs (maxSteps:=2000000) (disch:=try exact Dz) only [↓DN,↓kRet,UP,simprocAttr,Int.lt_irrefl,AZ,yN,Tryz.f124]
 intro j
 induction j with
 | zero =>
  intro i m o W len hB hi hj hm hlen
  have:=gR hB.nod hB.rng
  omega
 | succ j ih =>
  intro i m o W len hB hi hj hm hlen
  unfold ordB
  by_cases hlt:i < o.length
  ·obtain _ | m:=m; omega
   subst hlen
   rw [if_pos hlt]
   obtain ⟨v0,v1⟩:=hB.rng _ (oR hlt)
   have hrm:=aAc ha v0 v1
   obtain ⟨W1,h1,h2⟩:=Bfs.row (jX _) (fun l hl => aGh ha _ l v0 v1 hl) (aB a.al) [] o W hB rfl hlt rfl
   rw [hrm] at h1 h2 ⊢
   have hn1:=gR hB.nod hB.rng
   have hrl:=(xR ha (i:=(o.getD i 0).toNat) (by omega)).1
   have hll:=b6 a.al
   have loop_c:=fun {R n k} hn => @SA R L n hn hL a i (rowA a (o.getD i 0)) (by unfold rowA; omega) k (rowA a (o.getD i 0)).length 0 L o o.length (by omega) (by unfold rowA; omega) rfl (by unfold rowA; omega)
   rw [List.drop_zero] at loop_c
   have ih':=ih (i + 1) m (rowU o (rowA a (o.getD i 0))) W1 _ h1.next (by omega) (by omega) (by omega) rfl
   rw [cs1 i] at ih'
   simp only [Int.natCast_zero] at loop_c
   have hc:(i:Int) < o.length:=by omega
   have hi0:(0:Int) ≤ i:=by omega
   clear ih h1 hB last hrm
   unfold rowA at *
   generalize hv:o.getD i 0 = v at *
   have hk:v.toNat < a.nx.length:=by omega
   generalize rowU o (a.nx.getD v.toNat []) = w at *
   generalize ordB (goS a) (aB a.al) j (i + 1) w = z at *
   simp -implicitDefEqProofs (maxSteps:=2000000) (disch:=try exact Dz) only [↓DN,↓kAsg,↓kRet,UP,simprocAttr,LA,hc,hi0,hv,v0,v1,↓loop_c,↓ih',AZ,yN,Tryz.f124]
  ·rw [if_neg hlt]
   exact last i m o len (by omega) (by omega) hlen
theorem NV (hn:4 ≤ n) (a:Aut) (ha:AOK a) (hL:2 ^ 60 ≤ L):aA env L n 124 [.agg [nI a.al,.d (.ivs a.nx.length (rowsD a.nx)),.d (.ivs a.ac.length (bools a.ac))]] [] = some (.d (.ivs (ordA a).length (ints (ordA a))),[]):=by
 obtain ⟨sa,wa,a1,a2,a3⟩:=bD ha
 have loop_c:=fun {R n k} hn => @R5 R L n hn hL a ha k (a.nx.length + 1) 0 L [0] (fun _ => []) 1 (Bfs.start (by omega)) (by omega) (by omega) (by omega) rfl
 have e:ints [0] = [.int .i64 0]:=rfl
 have e2:ordB (goS a) (aB a.al) (a.nx.length + 1) 0 [0] = ordA a:=rfl
 rw [e,e2] at loop_c
 simp only [Int.natCast_zero] at loop_c
 obtain ⟨W,hB⟩:=sS ha
 have hl:=gR hB.nod hB.rng
 clear hB
 generalize ordA a = w at *
 have e4:(ints w).take w.length = ints w:=by rw [dR (Nat.le_refl _)]
 obtain _ | n:=n; omega
 simp -implicitDefEqProofs (maxSteps:=2000000) (disch:=try exact Dz) only [↓DN,↓kAsg,↓kRet,UP,simprocAttr,e4,↓loop_c,aEp,QZ,Tryz.f124]
theorem aDD:type_of% fun {L} a ha hL => ks fun hn => @NV L _ hn a ha hL:=fun {L} a ha hL => ks fun hn => @NV L _ hn a ha hL
end
def netO (a:Aut) (st:Int):Net:=⟨[],[a],[0],a.al,5,st⟩
theorem aFs {na v:Int} (h0:0 ≤ v) (h1:v < na):decN [na] v = [v]:=by
 show [v.tmod na] = [v]
 rw [Int.tmod_eq_emod_of_nonneg h0,Int.emod_eq_of_lt h0 h1]
theorem aH0 {a:Aut} (ha:AOK a) (st:Int):O0 (nxS a) (glS st) (aB a.al) a.nx.length 0 = oneG a st:=by
 obtain ⟨_,_,h1,_,_⟩:=bD ha
 refine nT (aEj (fun v c h0 h1 hc => ?_) (jX _) (by omega) (by omega)) (zX ha st)
 have:=bZ c hc
 exact G1 ha h0 h1 (by omega)
theorem aCi {L n:Nat} (hn:11 ≤ n) (hL:2 ^ 60 ≤ L) {a:Aut} (ha:AOK a) (st:Int) :
  aA env L n 127 [.agg [.d .nils,.d (.ivs 1 (eY [a])),.d (.ivs 1 (ints [0])),nI a.al,nI 5,nI st]] [] = some (.tup [.d (.str (txt (oneG a st).1)),.d (.bool (oneG a st).2)],[]):=by
 obtain ⟨sa,aw,a1,a2,a3⟩:=bD ha
 have hz:HF (netO a st) = [(a.nx.length:Int)]:=rfl
 rw [← aH0 ha st]
 have key:=@MW L n hn hL 1 (eY [a]) 5 st a.al 0 [0] [(a.nx.length:Int)] (nxS a) (glS st) a.nx.length (by simp) rfl (by
   intro q hq
   match q,hq with
   | 0,_ => exact ⟨by simp,by simp⟩
   | 1,_ => simp; omega
   | q + 2,hq => simp at hq) (by simp) (by intro z hz; simp at hz; subst hz; omega) (by
   simp only [JG,and_true]
   refine ⟨by omega,by omega,?_⟩
   simp) (by simp [encN]) (by omega) (by omega)
   (fun {n} hn => by
    have:=@OA L n hn (netO a st) (by simp [netO]) (by simp [netO]) (fun x hx => by simp [netO] at hx; subst hx; omega) hL
    exact this)
   (fun v l hv hl {R n hq k} hn => by
    have hl2:=bZ l hl
    rw [aFs (by omega) (by omega)]
    have ga:=kE ha (q:=(v:Int)) (by omega) (by omega) hl2.1 (by omega)
    have hnx:nexG (fun i => [goI a.al a.nx (v:Int) l]) [(a.nx.length:Int)] 1 0 [0] = nxS a v l:=by
     simp [nexG,mulN,nxS]
    rw [← hnx]
    refine cP rfl (@OO L n hn hL 0 1 1 [] (eY [a]) (ints [0]) a.al 5 st [(a.nx.length:Int)] [(v:Int)] l (fun i => [goI a.al a.nx (v:Int) l]) (fun i => if i = 0 then 0 else 11) rfl (by simp) (fun t ht {R n hq k} hn => ?_) (fun t ht => ?_) (fun t ht => ?_) (fun t ht c hc => ?_) (by simp) (fun t ht => ?_)) rfl (.inr rfl)
    ·match t,ht with
     | 0,_ => exact cP rfl (vY hn (netO a st) 0 _ l (Nat.le_refl _) (by simp [netO]) (by simp [netO]) (by simp [netO]) a rfl sa aw (by show (0:Int) ≤ (v:Int); omega) (by show (v:Int) < _; omega) hl2.1 (by omega) hL) rfl (.inr rfl)
     | t + 1,ht => exact absurd ht (by show ¬ (t + 1 < 1); omega)
    ·match t,ht with
     | 0,_ => simp; omega
     | t + 1,ht => exact absurd ht (by show ¬ (t + 1 < 1); omega)
    ·simp
    ·match t,ht with
     | 0,_ => simp at hc; subst hc; simpa using ga
     | t + 1,ht => exact absurd ht (by show ¬ (t + 1 < 1); omega)
    ·match t,ht with
     | 0,_ => simp; omega
     | t + 1,ht => exact absurd ht (by show ¬ (t + 1 < 1); omega))
   (fun v hv {R n k} hn => by
    rw [aFs (by omega) (by omega)]
    have hg:FR (netO a st) [(v:Int)] ((movT (nxS a) (aB a.al) a.nx.length).getD v []) = glS st v:=rfl
    rw [← hg]
    exact gF (aCh (by omega) (netO a st) [(v:Int)] ((movT (nxS a) (aB a.al) a.nx.length).getD v []) rfl (by simp [netO]) (by simp [netO]) (by simp)) rfl)
   (fun v c h0 h1 hc => by
    have:=bZ c hc
    exact ⟨by simp [nxS],G1 ha h0 h1 (by omega)⟩)
 exact key
theorem DY {L n:Nat} (hn:12 ≤ n) (a:Aut) (st:Int) (hs:aT a.nx) (hac:a.ac.length ≤ 4294967296) (hL:2 ^ 60 ≤ L):aA env L n 85 [.agg [nI a.al,.d (.ivs a.nx.length (rowsD a.nx)),.d (.ivs a.ac.length (bools a.ac))],nI st] [] = some (.tup [.d (.str (txt (accG a st).1)),.d (.bool (accG a st).2)],[]):=by
 have hrl:=hs.1
 unfold accG
 cases hv:bR a.al a.nx a.ac with
 | false =>
  simp only [Bool.false_eq_true,if_false,txt,List.map_nil]
  obtain _ | n:=n; omega
  simp -implicitDefEqProofs (maxSteps:=2000000) (disch:=try exact Dz) only [↓DN,↓kAsg,↓kRet,UP,simprocAttr,↓bA,hv,tH,oW,Tryz.f85]
 | true =>
  simp only [if_true]
  by_cases h1:0 ≤ st ∧ st < a.nx.length
  ·obtain ⟨h1,h2⟩:=h1
   have kc_b:=fun {R:Type} {n:Nat} {k:A → Option R} (hn:11 ≤ n) => gF (call:=aA env L n) (k:=k) (f:=127) (@aCi L n hn hL a hv st) rfl
   simp only [eY,ints,List.map_cons,List.map_nil] at kc_b
   have kl_b:=fun {R:Type} {n:Nat} {k:A → Option R} (hn:11 ≤ n) => kc_b (R:=R) (n:=n) (k:=k) hn
   have kv_l:=fun {R:Type} {n:Nat} {hq:H} {args:List A} {k:KA R} => dM (E:=env) (call:=aA env L n) (h:=hq) (k:=k) (args:=args) HH
   clear kc_b
   generalize oneG a st = r at *
   obtain _ | n:=n; omega
   simp -implicitDefEqProofs (maxSteps:=2000000) (disch:=try exact Dz) only [↓DN,↓kAsg,↓kRet,UP,simprocAttr,↓bA,↓nO,hv,h1,h2,↓kv_l,↓kl_b,tH,oW,Tryz.f85]
  ·rw [aMc hv h1]
   have e3:(decide (0 ≤ st) && decide (st < a.nx.length)) = false:=by
    rw [Bool.and_eq_false_iff,decide_eq_false_iff_not,decide_eq_false_iff_not]; omega
   simp only [txt,List.map_nil]
   obtain _ | n:=n; omega
   simp -implicitDefEqProofs (maxSteps:=2000000) (disch:=try exact Dz) only [↓DN,↓kAsg,↓kRet,UP,simprocAttr,↓bA,↓nO,hv,e3,tH,oW,Tryz.f85]
theorem W9:type_of% fun {L} a st hs hac hL => ks fun hn => @DY L _ hn a st hs hac hL:=fun {L} a st hs hac hL => ks fun hn => @DY L _ hn a st hs hac hL
section
variable {R:Type} {L n:Nat}
theorem aE4 {f:Int → Int} {r:List Int} {k:Nat} (h:k < r.length):(r.drop k).map f = f (r.getD k 0) :: (r.drop (k + 1)).map f:=by
 rw [bK h (d:=0)]; rfl
theorem QR {b:List Bool} {x:Bool}:bools b ++ [.bool x] = bools (b ++ [x]):=by simp [bools]
theorem T9 (hn:3 ≤ n) (hL:2 ^ 60 ≤ L) {a:Aut} {o:List Int} {i:Nat} {v:Int} (hio:i < o.length) (hoi:o.getD i 0 = v) (v0:0 ≤ v) (v1:v < a.nx.length) (hr:(rowA a v).length ≤ 100) (ho:o.length ≤ 100) (hal:a.nx.length ≤ 100) (hin:∀ x ∈ rowA a v,x ∈ o) {al2:Int} {d e:Nat} {cn cs2:List D} {k:KE R}:∀ (j q m:Nat) (r:List Int) (len:Nat) (hq:q + j = (rowA a v).length) (hm:j < m) (hlen:len = r.length) (hr2:r.length + j ≤ 1000),
  aF env (aA env L n) L 0 [] Bz15 (gM 1) (U1 (Z4 (Z2 (Z1 (U32 (U16 (U8 (U4 (U1 ([])))))))))) m (Y1 (.ptr 0 0 0 :: .ptr 1 0 0 :: .d (.ivs o.length (ints o)) :: .ptr 2 0 0 :: nI i :: .sl 3 0 0 len :: nI q :: Y32 (Y16 (Y8 (Y4 (Y1 ([]))))))) [.box [nI a.al,.d (.ivs a.nx.length (rowsD a.nx)),.d (.ivs a.ac.length (bools a.ac))],.box [nI 0,.sl 4 0 0 0,.sl 5 0 0 0],.box [nI al2,.sl 6 0 0 d,.sl 7 0 0 d],.arr (ints r) 1 0,.arr [] 0 0,.arr [] 0 0,.arr cn e 0,.arr cs2 e 0] k
  = k (.exit 2) (Y1 (.ptr 0 0 0 :: .ptr 1 0 0 :: .d (.ivs o.length (ints o)) :: .ptr 2 0 0 :: nI i :: .sl 3 0 0 (r ++ ((rowA a v).drop q).map (idxU o)).length :: nI ((rowA a v).length) :: Y32 (Y16 (Y8 (Y4 (Y1 ([]))))))) [.box [nI a.al,.d (.ivs a.nx.length (rowsD a.nx)),.d (.ivs a.ac.length (bools a.ac))],.box [nI 0,.sl 4 0 0 0,.sl 5 0 0 0],.box [nI al2,.sl 6 0 0 d,.sl 7 0 0 d],.arr (ints (r ++ ((rowA a v).drop q).map (idxU o))) 1 0,.arr [] 0 0,.arr [] 0 0,.arr cn e 0,.arr cs2 e 0]:=by
 have hio1:(i:Int) < o.length:=by omega
 have hi0:(0:Int) ≤ i:=by omega
 have hvk:v.toNat < a.nx.length:=by omega
 intro j
 induction j with
 | zero =>
  intro q m r len hq hm hlen hr2
  obtain _ | m:=m; omega
  obtain rfl:q = (rowA a v).length:=by omega
  subst hlen
  rw [List.drop_length]
  unfold rowA at *
  simp -implicitDefEqProofs (maxSteps:=2000000) (disch:=try exact Dz) only [↓DN,↓kRet,UP,simprocAttr,LA,hio1,hi0,hoi,v0,v1,Int.lt_irrefl,DW,AV,Tryz.f84]
 | succ j ih =>
  intro q m r len hq hm hlen hr2
  obtain _ | m:=m; omega
  subst hlen
  have hk:q < (rowA a v).length:=by omega
  have hx:(rowA a v).getD q 0 ∈ o:=hin _ (oR hk)
  have ih':=ih (q + 1) m (r ++ [idxU o ((rowA a v).getD q 0)]) (r.length + 1) (by omega) (by omega) (by simp) (by simp; omega)
  rw [cs1 q] at ih'
  simp only [List.append_assoc,List.singleton_append] at ih'
  rw [aE4 hk]
  have kc_x:=@aDx L o ((rowA a v).getD q 0) hx (by omega) hL
  have hc:(q:Int) < (rowA a v).length:=by omega
  have hq0:(0:Int) ≤ q:=by omega
  clear ih hx hin
  generalize ((rowA a v).drop (q + 1)).map (idxU o) = w at *
  unfold rowA at *
  have hr100:r.length ≤ 1000:=by omega
  simp -implicitDefEqProofs (maxSteps:=2000000) (disch:=try exact Dz) only [↓DN,↓kRet,UP,simprocAttr,LA,hio1,hi0,hoi,v0,v1,hc,hq0,↓kc_x,↓ih',DW,AV,Tryz.f84]
theorem UU (hn:3 ≤ n) (hL:2 ^ 60 ≤ L) {a:Aut} (ha:AOK a) {o:List Int} (ho:o.length ≤ 12) (hor:∀ x ∈ o,0 ≤ x ∧ x < a.nx.length) (hin:∀ v ∈ o,∀ x ∈ rowA a v,x ∈ o) {al2:Int} {k:KE R}:∀ (j i m:Nat) (d:List (List Int)) (b:List Bool) (len e:Nat) (hi:i + j = o.length) (hm:j < m) (hd:d = (o.take i).map fun v => (rowA a v).map (idxU o)) (hb:b = (o.take i).map fun v => a.ac.getD v.toNat false) (hlen:i = len) (he:e = if i = 0 then 0 else 1),
  aF env (aA env L n) L 0 [] Bz15 (gM 0) (U1 (Z4 (Z1 (U32 (U16 (U8 (U4 (U2 (U1 ([])))))))))) m (Y1 (.ptr 0 0 0 :: .ptr 1 0 0 :: .d (.ivs o.length (ints o)) :: .ptr 2 0 0 :: nI i :: Y32 (Y16 (Y8 (Y4 (Y2 (Y1 ([])))))))) [.box [nI a.al,.d (.ivs a.nx.length (rowsD a.nx)),.d (.ivs a.ac.length (bools a.ac))],.box [nI 0,.sl 3 0 0 0,.sl 4 0 0 0],.box [nI al2,.sl 5 0 0 len,.sl 6 0 0 len],.arr [] 0 0,.arr [] 0 0,.arr (rowsD d) e 0,.arr (bools b) e 0] k
  = k (.exit 0) (Y1 (.ptr 0 0 0 :: .ptr 1 0 0 :: .d (.ivs o.length (ints o)) :: .ptr 2 0 0 :: nI (o.length:Int) :: Y32 (Y16 (Y8 (Y4 (Y2 (Y1 ([])))))))) [.box [nI a.al,.d (.ivs a.nx.length (rowsD a.nx)),.d (.ivs a.ac.length (bools a.ac))],.box [nI 0,.sl 3 0 0 0,.sl 4 0 0 0],.box [nI al2,.sl 5 0 0 o.length,.sl 6 0 0 o.length],.arr [] 0 0,.arr [] 0 0,.arr (rowsD (o.map fun v => (rowA a v).map (idxU o))) (if o.length = 0 then 0 else 1) 0,.arr (bools (o.map fun v => a.ac.getD v.toNat false)) (if o.length = 0 then 0 else 1) 0]:=by
 obtain ⟨sa,wa,a1,a2,a3⟩:=bD ha
 have hal:=sa.1
 intro j
 induction j with
 | zero =>
  intro i m d b len e hi hm hd hb hlen he
  obtain _ | m:=m; omega
  obtain rfl:i = o.length:=by omega
  rw [List.take_length] at hd hb
  subst hd; subst hb; subst hlen; subst he
  simp -implicitDefEqProofs (maxSteps:=2000000) (disch:=try exact Dz) only [↓DN,↓kRet,UP,simprocAttr,Int.lt_irrefl,uI,sX,Tryz.f84]
 | succ j ih =>
  intro i m d b len e hi hm hd hb hlen he
  obtain _ | m:=m; omega
  subst hlen
  have hio:i < o.length:=by omega
  have hmem:=oR hio
  obtain ⟨v0,v1⟩:=hor _ hmem
  have hin1:=hin _ hmem
  have hrl:=(xR ha (i:=(o.getD i 0).toNat) (by omega)).1
  have hll:=b6 a.al
  have htk:o.take (i + 1) = o.take i ++ [o.getD i 0]:=by
   rw [List.take_add_one,List.getElem?_eq_getElem hio,List.getD_eq_getElem?_getD,List.getElem?_eq_getElem hio]; rfl
  have hdl:d.length = i:=by rw [hd,List.length_map,List.length_take]; omega
  have hbl:b.length = i:=by rw [hb,List.length_map,List.length_take]; omega
  have ih':=ih (i + 1) m (d ++ [(rowA a (o.getD i 0)).map (idxU o)]) (b ++ [a.ac.getD (o.getD i 0).toNat false]) (i + 1) 1 (by omega) (by omega) (by rw [htk,hd,List.map_append]; rfl) (by rw [htk,hb,List.map_append]; rfl) rfl (by rw [if_neg (by omega)])
  rw [cs1 i] at ih'
  have loop_c:=fun {R:Type} {n:Nat} {d e:Nat} {cn cs2:List D} {k:KE R} (hn:3 ≤ n) => @T9 R L n hn hL a o i (o.getD i 0) hio rfl v0 v1 (by unfold rowA; omega) (by omega) (by omega) hin1 al2 d e cn cs2 k (rowA a (o.getD i 0)).length 0 L [] 0 (by omega) (by unfold rowA; omega) rfl (by unfold rowA; rw [List.length_nil]; omega)
  rw [List.drop_zero] at loop_c
  simp only [Int.natCast_zero,List.nil_append,rW] at loop_c
  have hc:(i:Int) < o.length:=by omega
  have hi0:(0:Int) ≤ i:=by omega
  have hrl2:((rowA a (o.getD i 0)).map (idxU o)).length ≤ 6:=by rw [List.length_map]; unfold rowA; omega
  clear ih hin hor hin1 hmem hd hb htk
  generalize (rowA a (o.getD i 0)).map (idxU o) = w at *
  generalize rowA a (o.getD i 0) = w0 at *
  generalize hv:o.getD i 0 = v at *
  have hvk:v.toNat < a.nx.length:=by omega
  have hva:v.toNat < a.ac.length:=by omega
  have hva2:v < a.ac.length:=by omega
  have ht:(rowsD d).take i = rowsD d:=wY (by omega)
  have ht2:(bools b).take i = bools b:=HR (by omega)
  have hwt:(ints w).take w.length = ints w:=by rw [dR (Nat.le_refl _)]
  have hi12:i ≤ 12:=by omega
  by_cases hz:i = 0
  ·obtain rfl:e = 0:=by rw [he,if_pos hz]
   clear he hz
   simp -implicitDefEqProofs (maxSteps:=2000000) (disch:=try exact Dz) only [↓DN,↓kAsg,↓kRet,UP,simprocAttr,LA,hc,hi0,hv,v0,hva2,↓loop_c,ht,ht2,hwt,OD,QR,↓ih',uI,sX,Tryz.f84]
  ·obtain rfl:e = 1:=by rw [he,if_neg hz]
   clear he hz
   simp -implicitDefEqProofs (maxSteps:=2000000) (disch:=try exact Dz) only [↓DN,↓kAsg,↓kRet,UP,simprocAttr,LA,hc,hi0,hv,v0,hva2,↓loop_c,ht,ht2,hwt,OD,QR,↓ih',uI,sX,Tryz.f84]
theorem RA (hn:6 ≤ n) (a:Aut) (ha:AOK a) (hL:2 ^ 60 ≤ L):aA env L n 84 [.agg [nI a.al,.d (.ivs a.nx.length (rowsD a.nx)),.d (.ivs a.ac.length (bools a.ac))]] [] = some (.agg [.d (.int .i64 (cM a).al),.d (.ivs (cM a).nx.length (rowsD (cM a).nx)),.d (.ivs (cM a).ac.length (bools (cM a).ac))],[]):=by
 obtain ⟨sa,wa,a1,a2,a3⟩:=bD ha
 obtain ⟨W,hB⟩:=sS ha
 have hl:=gR hB.nod hB.rng
 have hp:=hB.pos
 have hin:∀ v ∈ ordA a,∀ x ∈ rowA a v,x ∈ ordA a:=by
  intro v hv x hx
  obtain ⟨v0,v1⟩:=hB.rng v hv
  rw [← aAc ha v0 v1] at hx
  obtain ⟨l,hl,rfl⟩:=List.mem_map.1 hx
  exact IX hB hv hl
 have loop_c:=fun {R n k} hn => @UU R L n hn hL a ha (ordA a) (by omega) hB.rng hin a.al k (ordA a).length 0 L [] [] 0 0 (by omega) (by omega) rfl rfl rfl rfl
 have kc_o:=@aDD L a ha hL
 simp only [Int.natCast_zero,aBU,aHN] at loop_c
 rw [if_neg (by omega)] at loop_c
 have hx1:(cM a).nx.length = (ordA a).length:=List.length_map _
 have hx2:(cM a).ac.length = (ordA a).length:=List.length_map _
 have hx3:(cM a).al = a.al:=rfl
 have e1:((ordA a).map fun v => (rowA a v).map (idxU (ordA a))) = (cM a).nx:=rfl
 have e2:((ordA a).map fun v => a.ac.getD v.toNat false) = (cM a).ac:=rfl
 rw [e1,e2] at loop_c
 rw [hx1,hx2,hx3]
 have ht1:(rowsD (cM a).nx).take (ordA a).length = rowsD (cM a).nx:=wY (by omega)
 have ht2:(bools (cM a).ac).take (ordA a).length = bools (cM a).ac:=HR (by omega)
 have hr1:(rowsD (cM a).nx).length = (ordA a).length:=by rw [tI,hx1]
 have hb1:(bools (cM a).ac).length = (ordA a).length:=by rw [kM,hx2]
 clear hB hin e1 e2
 generalize (cM a).nx = w1 at *
 generalize (cM a).ac = w2 at *
 generalize ordA a = w at *
 obtain _ | n:=n; omega
 simp -implicitDefEqProofs (maxSteps:=2000000) (disch:=try exact Dz) only [↓DN,↓kAsg,↓kRet,UP,simprocAttr,↓kc_o,↓loop_c,ht1,ht2,hr1,hb1,Nat.le_refl,aFm,VY,Tryz.f84]
theorem aEZ:type_of% fun {L} a ha hL => ks fun hn => @RA L _ hn a ha hL:=fun {L} a ha hL => ks fun hn => @RA L _ hn a ha hL
def tF (x:Aut) (j i:Nat):List Str:=(List.range' i j).map fun q => txt (accG x (q:Nat)).1
theorem aFl {x:Aut} {j i:Nat}:tF x (j + 1) i = txt (accG x (i:Nat)).1 :: tF x j (i + 1):=by
 simp [tF,List.range'_succ]
theorem aEV {a:Aut} (h:AOK a):tF (cM a) (cM a).nx.length 0 = bU a:=by
 obtain ⟨W,hB⟩:=sS h
 rw [C8 h hB]
 have hx1:(cM a).nx.length = (ordA a).length:=List.length_map _
 unfold tF
 rw [hx1,← List.range_eq_range']
 apply List.map_congr_left
 intro q hq
 unfold accG
 rw [if_pos (show bR (cM a).al (cM a).nx (cM a).ac = true from TL h),aIS h hB (List.mem_range.1 hq)]
def LS (a:Aut):List Str:=if bR a.al a.nx a.ac = true then bU a else []
theorem zF {a:Aut} (h:AOK a):1 ≤ (bU a).length ∧ (bU a).length ≤ 12:=by
 obtain ⟨W,hB⟩:=sS h
 obtain ⟨sa,wa,a1,a2,a3⟩:=bD h
 have hl:=gR hB.nod hB.rng
 have hp:=hB.pos
 rw [C8 h hB,List.length_map,List.length_range]
 omega
theorem PY (hn:12 ≤ n) (hL:2 ^ 60 ≤ L) {a:Aut} (ha:AOK a) {k:KE R}:∀ (q i m:Nat) (o:List Str) (len:Nat) (hq:i + q = a.nx.length) (hm:q < m) (hlen:len = o.length) (ho:o.length + q ≤ 100000),
  aF env (aA env L n) L 0 [] Bz52 (jR 0) (U2 (Z4 (U16 (U8 (U2 ([])))))) m (Y2 (.d .nils :: .ptr 0 0 0 :: .sl 1 0 0 len :: nI i :: Y16 (Y8 (Y2 ([]))))) [.box [nI a.al,.d (.ivs a.nx.length (rowsD a.nx)),.d (.ivs a.ac.length (bools a.ac))],.arr (aE o) 1 0] k
  = k (.exit 0) (Y2 (.d .nils :: .ptr 0 0 0 :: .sl 1 0 0 (o ++ tF a q i).length :: nI (a.nx.length:Int) :: Y16 (Y8 (Y2 ([]))))) [.box [nI a.al,.d (.ivs a.nx.length (rowsD a.nx)),.d (.ivs a.ac.length (bools a.ac))],.arr (aE (o ++ tF a q i)) 1 0]:=by
 obtain ⟨sa,wa,a1,a2,a3⟩:=bD ha
 have hac:a.ac.length ≤ 4294967296:=by omega
 have hal:=sa.1
 intro q
 induction q with
 | zero =>
  intro i m o len hq hm hlen ho
  obtain _ | m:=m; omega
  obtain rfl:i = a.nx.length:=by omega
  subst hlen
  have e:tF a 0 a.nx.length = []:=rfl
  rw [e,List.append_nil]
  simp -implicitDefEqProofs (maxSteps:=2000000) (disch:=try exact Dz) only [↓DN,↓kRet,UP,simprocAttr,Int.lt_irrefl,uR,r8,Tryz.f42]
 | succ q ih =>
  intro i m o len hq hm hlen ho
  obtain _ | m:=m; omega
  subst hlen
  have hc:(i:Int) < a.nx.length:=by omega
  have kc_s:=@W9 L a i sa hac hL
  have ih':=ih (i + 1) m (o ++ [txt (accG a (i:Nat)).1]) (o.length + 1) (by omega) (by omega) (by simp) (by simp; omega)
  rw [cs1 i] at ih'
  simp only [List.append_assoc,List.singleton_append] at ih'
  rw [aFl]
  clear ih
  generalize tF a q (i + 1) = w2 at *
  generalize accG a (i:Nat) = r at *
  obtain ⟨w,b⟩:=r
  simp only at kc_s ih' ⊢
  simp -implicitDefEqProofs (maxSteps:=2000000) (disch:=try exact Dz) only [↓DN,↓kRet,UP,simprocAttr,SE,hc,↓kc_s,jG,↓ih',uR,r8,Tryz.f42]
theorem EF (hn:13 ≤ n) (a:Aut) (hs:aT a.nx) (hac:a.ac.length ≤ 4294967296) (hL:2 ^ 60 ≤ L):aA env L n 42 [.agg [nI a.al,.d (.ivs a.nx.length (rowsD a.nx)),.d (.ivs a.ac.length (bools a.ac))]] [] = some (.d (.ivs (LS a).length (aE (LS a))),[]):=by
 have hrl:=hs.1
 unfold LS
 cases hv:bR a.al a.nx a.ac with
 | false =>
  simp only [Bool.false_eq_true,if_false,List.length_nil,iI]
  obtain _ | n:=n; omega
  simp -implicitDefEqProofs (maxSteps:=2000000) (disch:=try exact Dz) only [↓DN,↓kAsg,↓kRet,UP,simprocAttr,↓bA,hv,CQ,vU,Tryz.f42]
 | true =>
  have htr:=TL (a:=a) hv
  obtain ⟨sa,wa,a1,a2,a3⟩:=bD htr
  have hl:=zF (a:=a) hv
  have loop_c:=fun {R n k} hn => @PY R L n hn hL (cM a) htr k (cM a).nx.length 0 L [] 0 (by omega) (by omega) rfl (by simp; omega)
  rw [List.nil_append,aEV hv] at loop_c
  have kc_t:=@aEZ L a hv hL
  simp only [if_true,Int.natCast_zero,iI] at loop_c ⊢
  have hsn:=sa.1
  clear htr wa
  generalize (cM a) = x at *
  generalize bU a = w at *
  have e4:(aE w).take w.length = aE w:=fK (Nat.le_refl _)
  obtain _ | n:=n; omega
  simp -implicitDefEqProofs (maxSteps:=2000000) (disch:=try exact Dz) only [↓DN,↓kAsg,↓kRet,UP,simprocAttr,↓bA,SE,hv,e4,↓kc_t,↓loop_c,CQ,vU,Tryz.f42]
theorem US:type_of% fun {L} a hs hac hL => ks fun hn => @EF L _ hn a hs hac hL:=fun {L} a hs hac hL => ks fun hn => @EF L _ hn a hs hac hL
end
section
variable {R:Type} {L n:Nat}
def midS (ls:List Int) (n:Nat):Nat → Nat → List Str → Nat × List Str
 | 0,i,o => (i,o)
 | j + 1,i,o => if i < o.length ∧ (o.getD i []).length < n then midS ls n j (i + 1) (o ++ chG ls (o.getD i [])) else (i,o)
def midT (n i:Nat) (o:List Str):Prop:=i < o.length ∧ (o.getD i []).length < n
theorem D3 {ls:List Int} {n j i:Nat} {o:List Str} (h:¬ midT n i o):midS ls n j i o = (i,o):=by
 cases j with
 | zero => rfl
 | succ j => exact if_neg h
theorem aFu {ls:List Int} {n j i:Nat} {o:List Str} (h:midT n i o):midS ls n (j + 1) i o = midS ls n j (i + 1) (o ++ chG ls (o.getD i [])):=if_pos h
theorem aCY {ls:List Int} {n:Nat}:∀ (todo pre acc:List Str) (j:Nat),(∀ w ∈ todo,w.length < n) → midS ls n (todo.length + j) pre.length (pre ++ todo ++ acc) = midS ls n j (pre.length + todo.length) (pre ++ todo ++ acc ++ todo.flatMap (chG ls))
 | [],pre,acc,j,_ => by simp
 | w :: todo,pre,acc,j,h => by
  have hg:(pre ++ w :: todo ++ acc).getD pre.length [] = w:=by simp [List.getD_eq_getElem?_getD]
  have hl:pre.length < (pre ++ w :: todo ++ acc).length:=by simp only [List.length_append,List.length_cons]; omega
  rw [show (w :: todo).length + j = (todo.length + j) + 1 by rw [List.length_cons]; omega,aFu ⟨hl,by rw [hg]; exact h w List.mem_cons_self⟩,hg]
  have e1:pre ++ w :: todo ++ acc ++ chG ls w = (pre ++ [w]) ++ todo ++ (acc ++ chG ls w):=by simp
  have e2:pre.length + 1 = (pre ++ [w]).length:=by rw [List.length_append,List.length_singleton]
  rw [e1,e2,aCY todo (pre ++ [w]) (acc ++ chG ls w) j (fun v hv => h v (List.mem_cons_of_mem _ hv))]
  have e3:(pre ++ [w]).length + todo.length = pre.length + (w :: todo).length:=by rw [List.length_append,List.length_singleton,List.length_cons]; omega
  rw [e3]
  simp
theorem aDV {ls:List Int} {n:Nat}:∀ (k:Nat),k ≤ n → ∃ p,midG ls k = p ++ lvG ls k ∧ ∀ j,midS ls n (p.length + j) 0 [[]] = midS ls n j p.length (midG ls k)
 | 0,_ => ⟨[],rfl,fun j => by rw [List.length_nil,Nat.zero_add]; rfl⟩
 | k + 1,hk => by
  obtain ⟨p,h1,h2⟩:=aDV (ls:=ls) (n:=n) k (by omega)
  refine ⟨midG ls k,rfl,fun j => ?_⟩
  rw [show (midG ls k).length = p.length + (lvG ls k).length by rw [h1,List.length_append],Nat.add_assoc,h2,h1]
  have:=aCY (ls:=ls) (n:=n) (lvG ls k) p [] j (fun w hw => by have:=(BL k w hw).1; omega)
  rw [List.append_nil] at this
  rw [this,← List.length_append,← h1]
  rfl
theorem aFU {ls:List Int} {n:Nat}:∀ (s i:Nat) (o:List Str),o.length ≤ (midS ls n s i o).2.length
 | 0,_,_ => Nat.le_refl _
 | s + 1,i,o => by
  unfold midS
  split
  ·have:=aFU (ls:=ls) (n:=n) s (i + 1) (o ++ chG ls (o.getD i []))
   rw [List.length_append] at this; omega
  ·exact Nat.le_refl _
theorem aDl {ls:List Int} {n s:Nat}:∀ (t i:Nat) (o:List Str),midS ls n (t + s) i o = midS ls n s (midS ls n t i o).1 (midS ls n t i o).2
 | 0,i,o => by rw [Nat.zero_add]; rfl
 | t + 1,i,o => by
  by_cases h:midT n i o
  ·have e:∀ u,midS ls n (u + 1) i o = midS ls n u (i + 1) (o ++ chG ls (o.getD i [])):=fun u => if_pos h
   rw [show t + 1 + s = (t + s) + 1 by omega,e,e,aDl t]
  ·rw [D3 h,D3 h]
   exact (D3 h).symm
theorem aLU {ls:List Int} {n:Nat}:∃ i,midS ls n i 0 [[]] = (i,midG ls n) ∧ ¬ midT n i (midG ls n) ∧ i ≤ (midG ls n).length ∧ ∀ t,t ≤ i → (midS ls n t 0 [[]]).2.length ≤ (midG ls n).length:=by
 obtain ⟨p,h1,h2⟩:=aDV (ls:=ls) n (Nat.le_refl _)
 have h0:=h2 0
 rw [Nat.add_zero] at h0
 have h0:midS ls n p.length 0 [[]] = (p.length,midG ls n):=h0
 refine ⟨p.length,h0,?_,by rw [h1,List.length_append]; omega,fun t ht => ?_⟩
 ·rintro ⟨h3,h4⟩
  rw [List.getD_eq_getElem?_getD,List.getElem?_eq_getElem h3] at h4
  have h4:((midG ls n)[p.length]).length < n:=h4
  have h5:(midG ls n)[p.length] ∈ lvG ls n:=by
   have e:(midG ls n)[p.length]? = (lvG ls n)[0]?:=by
    rw [h1,List.getElem?_append_right (Nat.le_refl _),Nat.sub_self]
   rw [List.getElem?_eq_getElem h3] at e
   exact List.mem_of_getElem? e.symm
  have:=(BL n _ h5).1
  omega
 ·have:=aDl (ls:=ls) (n:=n) (s:=p.length - t) t 0 [[]]
  rw [show t + (p.length - t) = p.length by omega,h0] at this
  have h3:=aFU (ls:=ls) (n:=n) (p.length - t) (midS ls n t 0 [[]]).1 (midS ls n t 0 [[]]).2
  rw [← this] at h3
  exact h3
theorem MV (hn:2 ≤ n) (hL:2 ^ 60 ≤ L) {ls:List Int} (hls:∀ l ∈ ls,0 ≤ l ∧ l ≤ 5) (hl:ls.length ≤ 6) {x:Int} {i:Nat} {w:Str} (hw:w.length ≤ 100000) {k:KE R}:∀ (j q m:Nat) (o:List Str) (len:Nat) (hq:q + j = ls.length) (hm:j < m) (hlen:len = o.length) (ho:o.length + j ≤ 100000) (hi:i < o.length) (hg:o.getD i [] = w),
  aF env (aA env L n) L 0 [] Bz9 (dQ 1) (U1 (Z1 (U2 (Z4 (Z1 (U32 (U4 (U2 ([]))))))))) m (Y1 (nI x :: Y2 (.d .nils :: .sl 0 0 0 len :: .d (.ivs ls.length (ints ls)) :: nI i :: nI q :: Y32 (Y4 (Y2 ([])))))) [.arr (aE o) 1 0] k
  = k (.exit 2) (Y1 (nI x :: Y2 (.d .nils :: .sl 0 0 0 (o ++ chG (ls.drop q) w).length :: .d (.ivs ls.length (ints ls)) :: nI i :: nI (ls.length) :: Y32 (Y4 (Y2 ([])))))) [.arr (aE (o ++ chG (ls.drop q) w)) 1 0]:=by
 intro j
 induction j with
 | zero =>
  intro q m o len hq hm hlen ho hi hg
  obtain _ | m:=m; omega
  obtain rfl:q = ls.length:=by omega
  subst hlen
  have e:o ++ chG (ls.drop ls.length) w = o:=by simp [chG]
  rw [e]
  simp -implicitDefEqProofs (maxSteps:=2000000) (disch:=try exact Dz) only [↓DN,↓kRet,UP,simprocAttr,Int.lt_irrefl,xV,tN,Tryz.f44]
 | succ j ih =>
  intro q m o len hq hm hlen ho hi hg
  obtain _ | m:=m; omega
  subst hlen
  have hk:q < ls.length:=by omega
  have hc:(q:Int) < ls.length:=by omega
  have hq0:(0:Int) ≤ q:=by omega
  have hi0:(0:Int) ≤ i:=by omega
  have hi1:(i:Int) < o.length:=by omega
  have hmem:ls.getD q 0 ∈ ls:=by rw [List.getD_eq_getElem?_getD,List.getElem?_eq_getElem hk]; exact List.getElem_mem _
  obtain ⟨b0,b1⟩:=hls _ hmem
  have e:o ++ chG (ls.drop q) w = (o ++ [w ++ [bY (ls.getD q 0)]]) ++ chG (ls.drop (q + 1)) w:=by
   rw [bK hk (d:=0)]; simp [chG]
  have hg2:(o ++ [w ++ [bY (ls.getD q 0)]]).getD i [] = w:=by
   rw [List.getD_eq_getElem?_getD,List.getElem?_append_left hi,← List.getD_eq_getElem?_getD,hg]
  have ih':=ih (q + 1) m (o ++ [w ++ [bY (ls.getD q 0)]]) (o.length + 1) (by omega) (by omega) (by simp) (by simp; omega) (by simp; omega) hg2
  rw [cs1 q] at ih'
  have kc_t:=@FF L (ls.getD q 0) b0 b1
  rw [e]
  clear ih e hg2 hmem hls
  generalize hb:ls.getD q 0 = b at *
  generalize o ++ [w ++ [bY b]] ++ chG (ls.drop (q + 1)) w = z at *
  simp -implicitDefEqProofs (maxSteps:=2000000) (disch:=try exact Dz) only [↓DN,↓kRet,UP,simprocAttr,SE,hc,hq0,hi0,hi1,hb,hg,↓kc_t,jG,Nat.sub_self,↓ih',xV,tN,Tryz.f44]
theorem MT (hn:2 ≤ n) (hL:2 ^ 60 ≤ L) {ls:List Int} (hls:∀ l ∈ ls,0 ≤ l ∧ l ≤ 5) (hl:ls.length ≤ 6) {x:Nat} (hx:x ≤ 1000) {k:KE R}:∀ (j i m:Nat) (o:List Str) (len:Nat) (hm:j < m) (hlen:len = o.length) (ho:o.length ≤ 90000) (hz:∀ t,t ≤ j → (midS ls x t i o).2.length ≤ 90000) (hstop:¬ midT x (midS ls x j i o).1 (midS ls x j i o).2) (hi:i ≤ 90000),
  aF env (aA env L n) L 0 [] Bz9 (dQ 0) Bz34 m (Y1 (nI x :: Y2 (.d .nils :: .sl 0 0 0 len :: .d (.ivs ls.length (ints ls)) :: nI i :: Y32 (Y4 (Y2 (Y1 ([]))))))) [.arr (aE o) 1 0] k
  = k (.exit 0) (Y1 (nI x :: Y2 (.d .nils :: .sl 0 0 0 (midS ls x j i o).2.length :: .d (.ivs ls.length (ints ls)) :: nI ((midS ls x j i o).1:Int) :: Y32 (Y4 (Y2 (Y1 ([]))))))) [.arr (aE (midS ls x j i o).2) 1 0]:=by
 have last:∀ (i m:Nat) (o:List Str) (len:Nat),¬ midT x i o → 0 < m → len = o.length → aF env (aA env L n) L 0 [] Bz9 (dQ 0) Bz34 m (Y1 (nI x :: Y2 (.d .nils :: .sl 0 0 0 len :: .d (.ivs ls.length (ints ls)) :: nI i :: Y32 (Y4 (Y2 (Y1 ([]))))))) [.arr (aE o) 1 0] k
  = k (.exit 0) (Y1 (nI x :: Y2 (.d .nils :: .sl 0 0 0 o.length :: .d (.ivs ls.length (ints ls)) :: nI i :: Y32 (Y4 (Y2 (Y1 ([]))))))) [.arr (aE o) 1 0]:=by
  intro i m o len hs hm hlen
  obtain _ | m:=m; omega
  subst hlen
  have hi0:(0:Int) ≤ i:=by omega
  by_cases hc:(i:Int) < o.length
  ·have hw:¬ (((o.getD i []).length:Nat):Int) < x:=by
    intro h
    exact hs ⟨by omega,by omega⟩
   simp -implicitDefEqProofs (maxSteps:=2000000) (disch:=try exact Dz) only [↓DN,↓kRet,UP,simprocAttr,SE,hc,hi0,hw,oB,nK,Tryz.f44]
  ·simp -implicitDefEqProofs (maxSteps:=2000000) (disch:=try exact Dz) only [↓DN,↓kRet,UP,simprocAttr,hc,oB,nK,Tryz.f44]
 intro j
 induction j with
 | zero =>
  intro i m o len hm hlen ho hz hstop hi
  exact last i m o len hstop hm hlen
 | succ j ih =>
  intro i m o len hm hlen ho hz hstop hi
  by_cases hT:midT x i o
  ·have e:∀ t,midS ls x (t + 1) i o = midS ls x t (i + 1) (o ++ chG ls (o.getD i [])):=fun t => by
    exact aFu hT
   have z1:=hz 1 (by omega)
   rw [e 0] at z1
   have z1:(o ++ chG ls (o.getD i [])).length ≤ 90000:=z1
   have ih':=ih (i + 1) (m - 1) (o ++ chG ls (o.getD i [])) _ (by omega) rfl z1 (fun t ht => by rw [← e]; exact hz (t + 1) (by omega)) (by rw [← e]; exact hstop) (by have:=hT.1; omega)
   rw [cs1 i] at ih'
   rw [e j]
   obtain _ | m:=m; omega
   subst hlen
   have hc:(i:Int) < o.length:=by have:=hT.1; omega
   have hi0:(0:Int) ≤ i:=by omega
   have hw:(((o.getD i []).length:Nat):Int) < x:=by have:=hT.2; omega
   have loop_c:=fun {R n k} hn => @MV R L n hn hL ls hls hl (x:Nat) i (o.getD i []) (by omega) k ls.length 0 L o o.length (by omega) (by omega) rfl (by omega) (by omega) rfl
   rw [List.drop_zero] at loop_c
   simp only [Int.natCast_zero,Nat.add_sub_cancel] at loop_c ih'
   clear ih last hz hstop e z1 hT
   generalize midS ls x j (i + 1) (o ++ chG ls (o.getD i [])) = z at *
   generalize o ++ chG ls (o.getD i []) = o2 at *
   simp -implicitDefEqProofs (maxSteps:=2000000) (disch:=try exact Dz) only [↓DN,↓kAsg,↓kRet,UP,simprocAttr,SE,hc,hi0,hw,↓loop_c,↓ih',oB,nK,Tryz.f44]
  ·rw [D3 hT]
   exact last i m o len hT (by omega) hlen
theorem HC (hn:3 ≤ n) (al:Int) (x:Nat) (hx:x ≤ 3) (hL:2 ^ 60 ≤ L):aA env L n 44 [nI al,nI x] [] = some (.d (.ivs (midG (aB al) x).length (aE (midG (aB al) x))),[]):=by
 obtain ⟨i,h1,h2,h3,h4⟩:=aLU (ls:=aB al) (n:=x)
 have hl:=b6 al
 have hsm:=zO hl x hx
 have loop_c:=fun {R n k} hn => @MT R L n hn hL (aB al) bZ hl x (by omega) k i 0 L [[]] 1 (by omega) rfl (by simp) (fun t ht => by have:=h4 t ht; omega) (by rw [h1]; exact h2) (by omega)
 rw [h1] at loop_c
 have e1:aE [[]] = [.str []]:=rfl
 rw [e1] at loop_c
 simp only [Int.natCast_zero] at loop_c
 clear h1 h2 h3 h4
 generalize midG (aB al) x = w at *
 generalize (i:Int) = i at *
 have e4:(aE w).take w.length = aE w:=fK (Nat.le_refl _)
 obtain _ | n:=n; omega
 simp -implicitDefEqProofs (maxSteps:=2000000) (disch:=try exact Dz) only [↓DN,↓kAsg,↓kRet,UP,simprocAttr,↓gG,SE,e4,↓loop_c,aAh,JY,Tryz.f44]
theorem Y0:type_of% fun {L} al x hx hL => ks fun hn => @HC L _ hn al x hx hL:=fun {L} al x hx hL => ks fun hn => @HC L _ hn al x hx hL
theorem D4 (hn:3 ≤ n) (v w:List UInt8) (hv:dD v = true) (hw:dD w = true) (hL:2 ^ 60 ≤ L):aA env L n 128 [.d (.str v),.d (.str w)] [] = some (.d (.bool (decide (cmpX v w < 0))),[]):=by
 have e:=zS (x:=v) (y:=w)
 have bv:v.length ≤ 50000:=by unfold dD at hv; simp only [Bool.and_eq_true,decide_eq_true_eq] at hv; exact hv.1
 have bw:w.length ≤ 50000:=by unfold dD at hw; simp only [Bool.and_eq_true,decide_eq_true_eq] at hw; exact hw.1
 by_cases h1:(v.length:Int) < w.length
 ·rw [decide_eq_true (e.2 (.inl (by omega)))]
  obtain _ | n:=n; omega
  simp -implicitDefEqProofs (maxSteps:=2000000) (disch:=try exact Dz) only [↓DN,↓kAsg,↓kRet,UP,simprocAttr,↓pA,hv,hw,h1,tU,oP,Tryz.f128]
 ·by_cases h2:(v.length:Int) = w.length
  ·have e2:decide (cmpX v w < 0) = Op.bytesLess v w:=by
    cases hb:Op.bytesLess v w with
    | true => exact decide_eq_true (e.2 (.inr ⟨by omega,hb⟩))
    | false =>
     refine decide_eq_false fun h => ?_
     rcases e.1 h with h | ⟨_,h⟩
     ·omega
     ·rw [hb] at h; cases h
   rw [e2]
   obtain _ | n:=n; omega
   simp -implicitDefEqProofs (maxSteps:=2000000) (disch:=try exact Dz) only [↓DN,↓kAsg,↓kRet,UP,simprocAttr,↓pA,hv,hw,h2,Int.lt_irrefl,tU,oP,Tryz.f128]
  ·rw [decide_eq_false fun h => by rcases e.1 h with h | ⟨h,_⟩ <;> omega]
   obtain _ | n:=n; omega
   simp -implicitDefEqProofs (maxSteps:=2000000) (disch:=try exact Dz) only [↓DN,↓kAsg,↓kRet,UP,simprocAttr,↓pA,hv,hw,h1,h2,tU,oP,Tryz.f128]
theorem V0:type_of% fun {L} v w hv hw hL => ks fun hn => @D4 L _ hn v w hv hw hL:=fun {L} v w hv hw hL => ks fun hn => @D4 L _ hn v w hv hw hL
theorem UZ (hn:4 ≤ n) (hL:2 ^ 60 ≤ L) {l:List Str} {w:Str} (hs:lJ l) (hw:dD w = true) (hok:∀ x ∈ l,dD x = true) (hl:l.length ≤ 10000) {k:KE R}:∀ (j lo hi m:Nat) (hj:hi - lo ≤ j) (hm:j < m) (h1:lo ≤ aV l w) (h2:aV l w ≤ hi) (h3:hi ≤ l.length),
  aF env (aA env L n) L 0 [] Bz46 (mF 0) (Z2 (U2 (Z2 (Z1 (U16 (U4 ([]))))))) m (.d (.ivs l.length (aE l)) :: .d (.str w) :: Y2 (nI 0 :: nI lo :: nI hi :: Y16 (Y4 ([])))) [] k
  = k (.exit 0) (.d (.ivs l.length (aE l)) :: .d (.str w) :: Y2 (nI 0 :: nI (aV l w:Int) :: nI (aV l w:Int) :: Y16 (Y4 ([])))) []:=by
 intro j
 induction j with
 | zero =>
  intro lo hi m hj hm h1 h2 h3
  obtain _ | m:=m; omega
  obtain rfl:lo = aV l w:=by omega
  obtain rfl:hi = aV l w:=by omega
  simp -implicitDefEqProofs (maxSteps:=2000000) (disch:=try exact Dz) only [↓DN,↓kRet,UP,simprocAttr,Int.lt_irrefl,j8,kP,Tryz.f89]
 | succ j ih =>
  intro lo hi m hj hm h1 h2 h3
  obtain _ | m:=m; omega
  by_cases hc:(lo:Int) < hi
  ·obtain ⟨mid,hmid⟩:∃ mid:Nat,mid = (lo + hi) / 2:=⟨_,rfl⟩
   have e1:((lo:Int) + (hi:Int)).tdiv 2 = (mid:Int):=by
    rw [Int.tdiv_eq_ediv_of_nonneg (by omega)]; omega
   have hk:mid < l.length:=by omega
   have hm1:(mid:Int) < l.length:=by omega
   have hm0:(0:Int) ≤ mid:=by omega
   have hx:dD (l.getD mid []) = true:=by
    rw [List.getD_eq_getElem?_getD,List.getElem?_eq_getElem hk]; exact hok _ (List.getElem_mem _)
   have kc_b:=@V0 L (l.getD mid []) w hx hw hL
   have hp:=sB hs w mid hk
   have hg:l[mid] = l.getD mid []:=by rw [List.getD_eq_getElem?_getD,List.getElem?_eq_getElem hk]; rfl
   rw [hg] at hp
   have hlo:(lo:Int) ≤ 10000:=by omega
   have hhi:(hi:Int) ≤ 10000:=by omega
   by_cases hb:cmpX (l.getD mid []) w < 0
   ·have ih':=ih (mid + 1) hi m (by omega) (by omega) (by have:=hp.1 hb; omega) h2 h3
    rw [cs1 mid] at ih'
    rw [decide_eq_true hb] at kc_b
    clear ih hok hp hg hb hx hs
    generalize hgx:l.getD mid [] = x at *
    simp -implicitDefEqProofs (maxSteps:=2000000) (disch:=try exact Dz) only [↓DN,↓kRet,UP,simprocAttr,SE,hc,e1,hm1,hm0,hgx,↓kc_b,↓ih',j8,kP,Tryz.f89]
   ·have ih':=ih lo mid m (by omega) (by omega) h1 (by have:=mt hp.2 hb; omega) (by omega)
    rw [decide_eq_false hb] at kc_b
    clear ih hok hp hg hb hx hs
    generalize hgx:l.getD mid [] = x at *
    simp -implicitDefEqProofs (maxSteps:=2000000) (disch:=try exact Dz) only [↓DN,↓kRet,UP,simprocAttr,SE,hc,e1,hm1,hm0,hgx,↓kc_b,↓ih',j8,kP,Tryz.f89]
  ·obtain rfl:lo = aV l w:=by omega
   obtain rfl:hi = aV l w:=by omega
   clear ih
   simp -implicitDefEqProofs (maxSteps:=2000000) (disch:=try exact Dz) only [↓DN,↓kRet,UP,simprocAttr,hc,j8,kP,Tryz.f89]
theorem JT (hn:5 ≤ n) (l:List Str) (w:List UInt8) (hs:lJ l) (hw:dD w = true) (hok:∀ x ∈ l,dD x = true) (hl:l.length ≤ 10000) (hL:2 ^ 60 ≤ L):aA env L n 89 [.d (.ivs l.length (aE l)),.d (.str w)] [] = some (nI (aV l w),[]):=by
 have loop_c:=fun {R n k} hn => @UZ R L n hn hL l w hs hw hok hl k l.length 0 l.length L (by omega) (by omega) (by omega) aAZ (by omega)
 simp only [Int.natCast_zero] at loop_c
 obtain _ | n:=n; omega
 simp -implicitDefEqProofs (maxSteps:=2000000) (disch:=try exact Dz) only [↓DN,↓kAsg,↓kRet,UP,simprocAttr,↓loop_c,aCo,M4,Tryz.f89]
theorem aCc:type_of% fun {L} l w hs hw hok hl hL => kt fun hn => @JT L _ hn l w hs hw hok hl hL:=fun {L} l w hs hw hok hl hL => kt fun hn => @JT L _ hn l w hs hw hok hl hL
theorem tP {L:Nat} {id0 g0 o0 len0:Nat} {w:List UInt8}:KV L 89 [.sl id0 g0 o0 len0,.d (.str w)]:=fun _ _ _ _ => dM X5
theorem aB8 (hn:1 ≤ n) {l:List Str} {w:Str} {p:Nat} (hl:l.length ≤ 10000) (hp:p ≤ l.length) {k:KE R}:∀ (j i m:Nat) (y:Str) (o:List Str) (len:Nat) (hi:i = p + j) (hil:i ≤ l.length) (hm:j < m) (ho:o = l.take i ++ y :: l.drop i) (hlen:len = l.length + 1),
  aF env (aA env L n) L (1) [] Bz45 (qA 0) (Z2 (U2 (Z2 (Z1 (U32 (U8 ([]))))))) m (.sl 0 1 0 len :: .d (.str w) :: Y2 (.d .nils :: nI p :: nI i :: Y32 (Y8 ([])))) [.arr (aE o) 1 1] k
  = k (.exit 0) (.sl 0 1 0 len :: .d (.str w) :: Y2 (.d .nils :: nI p :: nI p :: Y32 (Y8 ([])))) [.arr (aE (l.take p ++ (if j = 0 then y else l.getD p []) :: l.drop p)) 1 1]:=by
 intro j
 induction j with
 | zero =>
  intro i m y o len hi hil hm ho hlen
  obtain _ | m:=m; omega
  obtain rfl:i = p:=by omega
  rw [if_pos rfl,← ho]
  simp -implicitDefEqProofs (maxSteps:=2000000) (disch:=try exact Dz) only [↓DN,↓kRet,UP,simprocAttr,Int.lt_irrefl,EK,BT,Tryz.f45]
 | succ j ih =>
  intro i m y o len hi hil hm ho hlen
  obtain _ | m:=m; omega
  have hc:(p:Int) < i:=by omega
  have hi0:(0:Int) ≤ i:=by omega
  have hi1:(0:Int) ≤ (i:Int) - 1:=by omega
  have hib:(i:Int) ≤ 10000:=by omega
  have hol:o.length = l.length + 1:=by rw [ho,List.length_append,List.length_take,List.length_cons,List.length_drop]; omega
  have hlo:len = o.length:=by omega
  have hio:i < o.length:=by omega
  have hio1:(i:Int) < o.length:=by omega
  have hio2:(i:Int) - 1 < o.length:=by omega
  have e1:((i:Int) - 1).toNat = i - 1:=by omega
  have hg:o.getD (i - 1) [] = l.getD (i - 1) []:=by
   rw [ho,List.getD_eq_getElem?_getD,List.getElem?_append_left (by rw [List.length_take]; omega),List.getElem?_take,if_pos (by omega),← List.getD_eq_getElem?_getD]
  have hd:l.drop (i - 1) = l.getD (i - 1) [] :: l.drop i:=by
   rw [bK (i:=i - 1) (by omega) (d:=[]),show i - 1 + 1 = i by omega]
  have hset:o.set i (l.getD (i - 1) []) = l.take (i - 1) ++ l.getD (i - 1) [] :: l.drop (i - 1):=by
   rw [ho,List.set_append_right _ _ (by rw [List.length_take]; omega),show i - (l.take i).length = 0 by rw [List.length_take]; omega,List.set_cons_zero,hd]
   have:l.take i = l.take (i - 1) ++ [l.getD (i - 1) []]:=by
    obtain ⟨q,rfl⟩:∃ q,i = q + 1:=⟨i - 1,by omega⟩
    rw [Nat.add_sub_cancel,List.take_add_one,List.getElem?_eq_getElem (by omega),List.getD_eq_getElem?_getD,List.getElem?_eq_getElem (by omega)]; rfl
   rw [this,List.append_assoc]; rfl
  have ih':=ih (i - 1) m (l.getD (i - 1) []) (o.set i (l.getD (i - 1) [])) len (by omega) (by omega) (by omega) hset hlen
  rw [show ((i - 1:Nat):Int) = (i:Int) - 1 by omega] at ih'
  have hy:(if j = 0 then l.getD (i - 1) [] else l.getD p []) = l.getD p []:=by
   split
   ·rw [show i - 1 = p by omega]
   ·rfl
  rw [hy] at ih'
  rw [if_neg (by omega)]
  clear ih hd hset hy ho
  generalize l.take p ++ l.getD p [] :: l.drop p = z at *
  generalize hgx:l.getD (i - 1) [] = x at *
  simp -implicitDefEqProofs (maxSteps:=2000000) (disch:=try exact Dz) only [↓DN,↓kRet,UP,simprocAttr,SE,hc,hi0,hi1,e1,hg,↓ZK,↓ih',EK,BT,Tryz.f45]
theorem aE5 (hn:6 ≤ n) (hL:2 ^ 60 ≤ L) (l:List Str) (w:Str) (hs:lJ l) (hw:dD w = true) (hok:∀ x ∈ l,dD x = true) (hl:l.length ≤ 10000):aA env L n 45 [.sl 0 0 0 l.length,.d (.str w)] [.arr (aE l) 1 0] = some (.sl 0 (if w ∈ l then 0 else 1) 0 (ordW l w).length,[.arr (aE (ordW l w)) 1 (if w ∈ l then 0 else 1)]):=by
 have kl_p:=@aCc L l w hs hw hok hl hL
 have hat:=aIY hs w
 have hle:=aAZ (ws:=l) (w:=w)
 have hp0:(0:Int) ≤ (aV l w:Nat):=by omega
 have ht:(aE l).take l.length = aE l:=fK (Nat.le_refl _)
 unfold ordW
 by_cases hin:w ∈ l
 ·obtain ⟨h1,h2⟩:=hat.2 hin
  have h1:((aV l w:Nat):Int) < l.length:=by omega
  simp only [if_pos hin]
  clear hat hok hs
  generalize aV l w = p at *
  obtain _ | n:=n; omega
  simp -implicitDefEqProofs (maxSteps:=2000000) (disch:=try exact Dz) only [↓DN,↓kAsg,↓kRet,UP,simprocAttr,↓tP,SE,↓kl_p,h1,h2,hp0,FI,zQ,Tryz.f45]
 ·simp only [if_neg hin]
  have hlen:(l.take (aV l w) ++ w :: l.drop (aV l w)).length = l.length + 1:=by
   rw [List.length_append,List.length_take,List.length_cons,List.length_drop]; omega
  rw [hlen]
  have loop_c:=fun {R n k} hn => @aB8 R L n hn l w (aV l w) hl hle k (l.length - aV l w) l.length L [] (l ++ [[]]) (l.length + 1) (by omega) (by omega) (by omega) (by rw [List.take_length,List.drop_length]) rfl
  have hset:∀ y,(l.take (aV l w) ++ y :: l.drop (aV l w)).set (aV l w) w = l.take (aV l w) ++ w :: l.drop (aV l w):=by
   intro y
   rw [List.set_append_right _ _ (by rw [List.length_take]; omega),show aV l w - (l.take (aV l w)).length = 0 by rw [List.length_take]; omega]; rfl
  have hyl:∀ y,(l.take (aV l w) ++ y :: l.drop (aV l w)).length = l.length + 1:=by
   intro y
   rw [List.length_append,List.length_take,List.length_cons,List.length_drop]; omega
  have hset:=hset (if l.length - aV l w = 0 then [] else l.getD (aV l w) [])
  have hyl:=hyl (if l.length - aV l w = 0 then [] else l.getD (aV l w) [])
  have h3:(l.length:Int) + 1 - 1 = l.length:=by omega
  have h4:((l.length + 1:Nat):Int) - 1 = l.length:=by omega
  have hpl:(aV l w:Nat) < l.length + 1:=by omega
  have hpl2:((aV l w:Nat):Int) < (l.length + 1:Nat):=by omega
  by_cases h1:((aV l w:Nat):Int) < l.length
  ·have h2:(l.getD (aV l w) [] == w) = false:=by
    have:¬ l.getD (aV l w) [] = w:=fun h => hin (hat.1 ⟨by omega,h⟩)
    simpa using this
   clear hat hok hs hlen
   generalize l.take (aV l w) ++ (if l.length - aV l w = 0 then [] else l.getD (aV l w) []) :: l.drop (aV l w) = z at *
   generalize l.take (aV l w) ++ w :: l.drop (aV l w) = z2 at *
   generalize aV l w = p at *
   obtain _ | n:=n; omega
   simp -implicitDefEqProofs (maxSteps:=2000000) (disch:=try exact Dz) only [↓DN,↓kAsg,↓kRet,UP,simprocAttr,↓tP,SE,↓kl_p,h1,h2,h4,hp0,ht,hpl2,hset,jG,↓ZK,↓loop_c,FI,zQ,Tryz.f45]
  ·clear hat hok hs hlen
   generalize l.take (aV l w) ++ (if l.length - aV l w = 0 then [] else l.getD (aV l w) []) :: l.drop (aV l w) = z at *
   generalize l.take (aV l w) ++ w :: l.drop (aV l w) = z2 at *
   generalize aV l w = p at *
   obtain _ | n:=n; omega
   simp -implicitDefEqProofs (maxSteps:=2000000) (disch:=try exact Dz) only [↓DN,↓kAsg,↓kRet,UP,simprocAttr,↓tP,SE,↓kl_p,h1,h4,hp0,ht,hpl2,hset,jG,↓ZK,↓loop_c,FI,zQ,Tryz.f45]
structure Sok (o:List Str):Prop where
 s:lJ o
 n:o.length ≤ 3000
 w:∀ x ∈ o,dD x = true
theorem TS {f:Str → List Str → Bool × List Str} {ws:List Str} {P:List Str → Prop} (hf:∀ w ∈ ws,∀ o,P o → (f w o).1 = true → P (f w o).2):∀ (j q:Nat) (o:List Str),q + j = ws.length → P o → (run3 f ws j q o).1 = true → P (run3 f ws j q o).2.2
 | 0,_,_,_,ho,_ => ho
 | j + 1,q,o,hq,ho,h => by
  have hk:q < ws.length:=by omega
  have hm:ws.getD q [] ∈ ws:=by rw [List.getD_eq_getElem?_getD,List.getElem?_eq_getElem hk]; exact List.getElem_mem _
  cases hb:(f (ws.getD q []) o).1 with
  | false => rw [z7 hb] at h; cases h
  | true =>
   rw [vP hb] at h ⊢
   exact TS hf j (q + 1) _ (by omega) (hf _ hm o ho hb) h
theorem aKZ {o:List Str} {w x:Str} (h:x ∈ ordW o w):x ∈ o ∨ x = w:=aEv.1 ((TC (List.Perm.refl o) w).mem_iff.1 h)
theorem aC2 {c m:Str} {ends:List Str} (hw:∀ e ∈ ends,dD (c ++ m ++ e) = true):∀ e ∈ ends,∀ o,Sok o → (endS c m e o).1 = true → Sok (endS c m e o).2:=by
 intro e he o ho h
 unfold endS at h ⊢
 simp only [Bool.not_eq_true',decide_eq_false_iff_not] at h
 refine ⟨aAD ho.s _,Nat.le_of_not_lt h,fun x hx => ?_⟩
 rcases aKZ hx with hx | rfl
 ·exact ho.w x hx
 ·exact hw e he
theorem aC4 {c:Str} {mids ends:List Str} (hw:∀ m ∈ mids,∀ e ∈ ends,dD (c ++ m ++ e) = true):∀ m ∈ mids,∀ o,Sok o → (midZ c ends m o).1 = true → Sok (midZ c ends m o).2 :=
 fun m hm o ho h => TS (aC2 (hw m hm)) ends.length 0 o (by omega) ho h
theorem dX {l:List Str} {k:Nat} (h:k < l.length):l.getD k [] ∈ l:=by
 rw [List.getD_eq_getElem?_getD,List.getElem?_eq_getElem h]; exact List.getElem_mem _
structure Parts (cov mids ends:List Str):Prop where
 w:∀ c ∈ cov,∀ m ∈ mids,∀ e ∈ ends,dD (c ++ m ++ e) = true
 c:∀ c ∈ cov,c.length ≤ 1000
 m:∀ c ∈ mids,c.length ≤ 1000
 e:∀ c ∈ ends,c.length ≤ 1000
 nc:cov.length ≤ 1000
 nm:mids.length ≤ 1000
 ne:ends.length ≤ 1000
theorem aMy {k:KA R} (hn:6 ≤ n) (hL:2 ^ 60 ≤ L) (o:List Str) (w:Str) (ho:Sok o) (hw:dD w = true):aS env (aA env L n) [.arr (aE o) 1 0] 45 [.sl 0 0 0 o.length,.d (.str w)] k = k (.sl 0 (if w ∈ o then 0 else 1) 0 (ordW o w).length) [.arr (aE (ordW o w)) 1 (if w ∈ o then 0 else 1)] :=
 IE (h:=[.arr (aE o) 1 0]) (k:=k) (id:=0) (g2:=if w ∈ o then 0 else 1) (len:=(ordW o w).length) (cs2:=aE (ordW o w)) (e2:=1) rfl rfl yI (aE5 hn hL o w ho.s hw ho.w (by have:=ho.n; omega))
theorem OQ (hn:7 ≤ n) (hL:2 ^ 60 ≤ L) {cov mids ends:List Str} (hP:Parts cov mids ends) {i q:Nat} (hi:i < cov.length) (hq:q < mids.length) {k:KE R}:∀ (j p m:Nat) (o:List Str) (len:Nat) (hp:p + j = ends.length) (hm:j < m) (hlen:len = o.length) (ho:Sok o),
  aF env (aA env L n) L 0 [] Bz8 (cK 2) (U4 (Z8 (Z1 (U32 (U16 (U8 (U2 (U1 ([]))))))))) m (Y4 (.d .nils :: .d (.bool false) :: .d (.ivs cov.length (aE cov)) :: .d (.ivs ends.length (aE ends)) :: .d (.ivs mids.length (aE mids)) :: .sl 0 0 0 len :: nI i :: nI q :: nI p :: Y32 (Y16 (Y8 (Y2 (Y1 ([]))))))) [.arr (aE o) 1 0] k
  = k (if (run3 (endS (cov.getD i []) (mids.getD q [])) ends j p o).1 = true then .exit 4 else .ret) (Y4 (.d .nils :: .d (.bool false) :: .d (.ivs cov.length (aE cov)) :: .d (.ivs ends.length (aE ends)) :: .d (.ivs mids.length (aE mids)) :: .sl 0 0 0 (run3 (endS (cov.getD i []) (mids.getD q [])) ends j p o).2.2.length :: nI i :: nI q :: nI ((run3 (endS (cov.getD i []) (mids.getD q [])) ends j p o).2.1:Int) :: Y32 (Y16 (Y8 (Y2 (Y1 ([]))))))) [.arr (aE (run3 (endS (cov.getD i []) (mids.getD q [])) ends j p o).2.2) 1 0]:=by
 intro j
 induction j with
 | zero =>
  intro p m o len hp hm hlen ho
  obtain _ | m:=m; omega
  obtain rfl:p = ends.length:=by omega
  subst hlen
  have e:∀ f,run3 f ends 0 ends.length o = (true,ends.length,o):=fun _ => rfl
  rw [e]
  simp only [if_true]
  simp -implicitDefEqProofs (maxSteps:=2000000) (disch:=try exact Dz) only [↓DN,↓kRet,UP,simprocAttr,Int.lt_irrefl,oL,m3,Tryz.f13]
 | succ j ih =>
  intro p m o len hp hm hlen ho
  obtain _ | m:=m; omega
  subst hlen
  have hpe:p < ends.length:=by omega
  have hc1:(p:Int) < ends.length:=by omega
  have hc2:(i:Int) < cov.length:=by omega
  have hc3:(q:Int) < mids.length:=by omega
  have hp0:(0:Int) ≤ p:=by omega
  have hi0:(0:Int) ≤ i:=by omega
  have hq0:(0:Int) ≤ q:=by omega
  have hw:=hP.w _ (dX hi) _ (dX hq) _ (dX hpe)
  have hcl:=hP.c _ (dX hi)
  have hml:=hP.m _ (dX hq)
  have hel:=hP.e _ (dX hpe)
  have hcm:(cov.getD i [] ++ mids.getD q []).length ≤ 2000:=by rw [List.length_append]; omega
  have hinv:=aC2 (ends:=ends) (hP.w _ (dX hi) _ (dX hq)) _ (dX hpe) o ho
  have hol:=ho.n
  have hne:=hP.ne
  have kc_p:=fun {R n k} hn => @aMy R L n k hn hL o (cov.getD i [] ++ mids.getD q [] ++ ends.getD p []) ho hw
  have hb:(endS (cov.getD i []) (mids.getD q []) (ends.getD p []) o) = (!decide (3000 < (ordW o (cov.getD i [] ++ mids.getD q [] ++ ends.getD p [])).length),ordW o (cov.getD i [] ++ mids.getD q [] ++ ends.getD p [])):=rfl
  have hz:=(aKu (ws:=o) (w:=cov.getD i [] ++ mids.getD q [] ++ ends.getD p [])).2
  by_cases hb1:3000 < (ordW o (cov.getD i [] ++ mids.getD q [] ++ ends.getD p [])).length
  ·have hb2:(3000:Int) < (ordW o (cov.getD i [] ++ mids.getD q [] ++ ends.getD p [])).length:=by omega
   rw [z7 (by rw [hb,decide_eq_true hb1]; rfl),hb]
   simp only [Bool.false_eq_true,if_false]
   clear ih hinv hb hw ho hP
   generalize (if cov.getD i [] ++ mids.getD q [] ++ ends.getD p [] ∈ o then 0 else 1) = g at *
   generalize ordW o (cov.getD i [] ++ mids.getD q [] ++ ends.getD p []) = o2 at *
   generalize hci:cov.getD i [] = c at *
   generalize hmi:mids.getD q [] = mm at *
   generalize hei:ends.getD p [] = e at *
   simp -implicitDefEqProofs (maxSteps:=2000000) (disch:=try exact Dz) only [↓DN,↓kAsg,↓kRet,UP,simprocAttr,SE,hc1,hc2,hc3,hp0,hi0,hq0,hb2,hci,hmi,hei,↓kc_p,Nat.sub_self,oL,m3,Tryz.f13]
  ·have hb2:¬ (3000:Int) < (ordW o (cov.getD i [] ++ mids.getD q [] ++ ends.getD p [])).length:=by omega
   rw [vP (by rw [hb,decide_eq_false hb1]; rfl),hb]
   have ih':=ih (p + 1) m _ _ (by omega) (by omega) rfl (hinv (by rw [hb,decide_eq_false hb1]; rfl))
   rw [hb] at ih'
   rw [cs1 p] at ih'
   simp only at ih' ⊢
   clear ih hinv hb hw ho hP
   generalize (if cov.getD i [] ++ mids.getD q [] ++ ends.getD p [] ∈ o then 0 else 1) = g at *
   generalize ordW o (cov.getD i [] ++ mids.getD q [] ++ ends.getD p []) = o2 at *
   generalize run3 (endS (cov.getD i []) (mids.getD q [])) ends j (p + 1) o2 = z at *
   generalize hci:cov.getD i [] = c at *
   generalize hmi:mids.getD q [] = mm at *
   generalize hei:ends.getD p [] = e at *
   simp -implicitDefEqProofs (maxSteps:=2000000) (disch:=try exact Dz) only [↓DN,↓kRet,UP,simprocAttr,SE,hc1,hc2,hc3,hp0,hi0,hq0,hb2,hci,hmi,hei,↓kc_p,Nat.sub_self,↓ih',oL,m3,Tryz.f13]
theorem N9 (hn:7 ≤ n) (hL:2 ^ 60 ≤ L) {cov mids ends:List Str} (hP:Parts cov mids ends) {i:Nat} (hi:i < cov.length) {k:KE R}:∀ (j p m:Nat) (o:List Str) (len:Nat) (hp:p + j = mids.length) (hm:j < m) (hlen:len = o.length) (ho:Sok o),
  aF env (aA env L n) L 0 [] Bz8 (cK 1) (U4 (Z8 (U32 (U16 (U8 (U4 ([]))))))) m (Y4 (.d .nils :: .d (.bool false) :: .d (.ivs cov.length (aE cov)) :: .d (.ivs ends.length (aE ends)) :: .d (.ivs mids.length (aE mids)) :: .sl 0 0 0 len :: nI i :: nI p :: Y32 (Y16 (Y8 (Y4 ([])))))) [.arr (aE o) 1 0] k
  = k (if (run3 (midZ (cov.getD i []) ends) mids j p o).1 = true then .exit 2 else .ret) (Y4 (.d .nils :: .d (.bool false) :: .d (.ivs cov.length (aE cov)) :: .d (.ivs ends.length (aE ends)) :: .d (.ivs mids.length (aE mids)) :: .sl 0 0 0 (run3 (midZ (cov.getD i []) ends) mids j p o).2.2.length :: nI i :: nI ((run3 (midZ (cov.getD i []) ends) mids j p o).2.1:Int) :: Y32 (Y16 (Y8 (Y4 ([])))))) [.arr (aE (run3 (midZ (cov.getD i []) ends) mids j p o).2.2) 1 0]:=by
 intro j
 induction j with
 | zero =>
  intro p m o len hp hm hlen ho
  obtain _ | m:=m; omega
  obtain rfl:p = mids.length:=by omega
  subst hlen
  have e:∀ f,run3 f mids 0 mids.length o = (true,mids.length,o):=fun _ => rfl
  rw [e]
  simp only [if_true]
  simp -implicitDefEqProofs (maxSteps:=2000000) (disch:=try exact Dz) only [↓DN,↓kRet,UP,simprocAttr,Int.lt_irrefl,oI,m9,Tryz.f13]
 | succ j ih =>
  intro p m o len hp hm hlen ho
  obtain _ | m:=m; omega
  subst hlen
  have hpm:p < mids.length:=by omega
  have hc1:(p:Int) < mids.length:=by omega
  have hmn:=hP.nm
  have hne:=hP.ne
  have loop_c:=fun {R n k} hn => @OQ R L n hn hL cov mids ends hP i p hi hpm k ends.length 0 L o o.length (by omega) (by omega) rfl ho
  simp only [Int.natCast_zero] at loop_c
  have hinv:=aC4 (fun m hm => hP.w _ (dX hi) m hm) _ (dX hpm) o ho
  have hz:midZ (cov.getD i []) ends (mids.getD p []) o = ((run3 (endS (cov.getD i []) (mids.getD p [])) ends ends.length 0 o).1,(run3 (endS (cov.getD i []) (mids.getD p [])) ends ends.length 0 o).2.2):=rfl
  cases hb:(run3 (endS (cov.getD i []) (mids.getD p [])) ends ends.length 0 o).1 with
  | false =>
   rw [z7 (by rw [hz,hb]),hz]
   rw [hb] at loop_c
   simp only [Bool.false_eq_true,if_false] at loop_c ⊢
   clear ih hinv hz hb ho hP
   generalize run3 (endS (cov.getD i []) (mids.getD p [])) ends ends.length 0 o = z at *
   simp -implicitDefEqProofs (maxSteps:=2000000) (disch:=try exact Dz) only [↓DN,↓kAsg,↓kRet,UP,simprocAttr,hc1,↓loop_c,oI,m9,Tryz.f13]
  | true =>
   rw [vP (by rw [hz,hb]),hz]
   have ih':=ih (p + 1) m _ _ (by omega) (by omega) rfl (hinv (by rw [hz,hb]))
   rw [hz,cs1 p] at ih'
   rw [hb] at loop_c
   simp only [if_true] at loop_c ih' ⊢
   clear ih hinv hz hb ho hP
   generalize run3 (endS (cov.getD i []) (mids.getD p [])) ends ends.length 0 o = z at *
   generalize run3 (midZ (cov.getD i []) ends) mids j (p + 1) z.2.2 = z2 at *
   simp -implicitDefEqProofs (maxSteps:=2000000) (disch:=try exact Dz) only [↓DN,↓kAsg,↓kRet,UP,simprocAttr,hc1,↓loop_c,↓ih',oI,m9,Tryz.f13]
theorem MZ (hn:7 ≤ n) (hL:2 ^ 60 ≤ L) {cov mids ends:List Str} (hP:Parts cov mids ends) {k:KE R}:∀ (j p m:Nat) (o:List Str) (len:Nat) (hp:p + j = cov.length) (hm:j < m) (hlen:len = o.length) (ho:Sok o),
  aF env (aA env L n) L 0 [] Bz8 (cK 0) (U4 (Z4 (Z2 (Z1 (U32 (U16 (U8 (U4 (U1 ([])))))))))) m (Y4 (.d .nils :: .d (.bool false) :: .d (.ivs cov.length (aE cov)) :: .d (.ivs ends.length (aE ends)) :: .d (.ivs mids.length (aE mids)) :: .sl 0 0 0 len :: nI p :: Y32 (Y16 (Y8 (Y4 (Y1 ([]))))))) [.arr (aE o) 1 0] k
  = k (if (run3 (covZ mids ends) cov j p o).1 = true then .exit 0 else .ret) (Y4 (.d .nils :: .d (.bool false) :: .d (.ivs cov.length (aE cov)) :: .d (.ivs ends.length (aE ends)) :: .d (.ivs mids.length (aE mids)) :: .sl 0 0 0 (run3 (covZ mids ends) cov j p o).2.2.length :: nI ((run3 (covZ mids ends) cov j p o).2.1:Int) :: Y32 (Y16 (Y8 (Y4 (Y1 ([]))))))) [.arr (aE (run3 (covZ mids ends) cov j p o).2.2) 1 0]:=by
 intro j
 induction j with
 | zero =>
  intro p m o len hp hm hlen ho
  obtain _ | m:=m; omega
  obtain rfl:p = cov.length:=by omega
  subst hlen
  have e:∀ f,run3 f cov 0 cov.length o = (true,cov.length,o):=fun _ => rfl
  rw [e]
  simp only [if_true]
  simp -implicitDefEqProofs (maxSteps:=2000000) (disch:=try exact Dz) only [↓DN,↓kRet,UP,simprocAttr,Int.lt_irrefl,nZ,m6,Tryz.f13]
 | succ j ih =>
  intro p m o len hp hm hlen ho
  obtain _ | m:=m; omega
  subst hlen
  have hpm:p < cov.length:=by omega
  have hc1:(p:Int) < cov.length:=by omega
  have hmn:=hP.nm
  have hcn:=hP.nc
  have loop_c:=fun {R n k} hn => @N9 R L n hn hL cov mids ends hP p hpm k mids.length 0 L o o.length (by omega) (by omega) rfl ho
  simp only [Int.natCast_zero] at loop_c
  have hinv:(covZ mids ends (cov.getD p []) o).1 = true → Sok (covZ mids ends (cov.getD p []) o).2:=TS (aC4 (fun m hm => hP.w _ (dX hpm) m hm)) mids.length 0 o (by omega) ho
  have hz:covZ mids ends (cov.getD p []) o = ((run3 (midZ (cov.getD p []) ends) mids mids.length 0 o).1,(run3 (midZ (cov.getD p []) ends) mids mids.length 0 o).2.2):=rfl
  cases hb:(run3 (midZ (cov.getD p []) ends) mids mids.length 0 o).1 with
  | false =>
   rw [z7 (by rw [hz,hb]),hz]
   rw [hb] at loop_c
   simp only [Bool.false_eq_true,if_false] at loop_c ⊢
   clear ih hinv hz hb ho hP
   generalize run3 (midZ (cov.getD p []) ends) mids mids.length 0 o = z at *
   simp -implicitDefEqProofs (maxSteps:=2000000) (disch:=try exact Dz) only [↓DN,↓kAsg,↓kRet,UP,simprocAttr,hc1,↓loop_c,nZ,m6,Tryz.f13]
  | true =>
   rw [vP (by rw [hz,hb]),hz]
   have ih':=ih (p + 1) m _ _ (by omega) (by omega) rfl (hinv (by rw [hz,hb]))
   rw [hz,cs1 p] at ih'
   rw [hb] at loop_c
   simp only [if_true] at loop_c ih' ⊢
   clear ih hinv hz hb ho hP
   generalize run3 (midZ (cov.getD p []) ends) mids mids.length 0 o = z at *
   generalize run3 (covZ mids ends) cov j (p + 1) z.2.2 = z2 at *
   simp -implicitDefEqProofs (maxSteps:=2000000) (disch:=try exact Dz) only [↓DN,↓kAsg,↓kRet,UP,simprocAttr,hc1,↓loop_c,↓ih',nZ,m6,Tryz.f13]
def eC (a:Aut) (x:Int):Option (List Str):=if bR a.al a.nx a.ac = true ∧ 0 ≤ x ∧ x ≤ 2 then nY (bU a) (midG (aB a.al) (x.toNat + 1)) (sepW a) else none
theorem aDB {a:Aut} (h:AOK a) {e:Nat} (he:e ≤ 2):Parts (bU a) (midG (aB a.al) (e + 1)) (sepW a):=by
 obtain ⟨_,_,a1,a2,_⟩:=bD h
 have ha:=(gU h).2.2.2
 have h1:=zF h
 have h2:=IR h
 have h3:=zO (b6 a.al) (e + 1) (by omega)
 exact ⟨fun c hc m hm w hw => ((aDf h hc hm hw).ok ha (by omega)).2,fun c hc => by have:=(aJk h c hc).1; omega,fun c hc => by have:=(aId c hc).1; omega,fun c hc => by have:=(aII h c hc).1; omega,by omega,by omega,by omega⟩
theorem GC (hn:15 ≤ n) (a:Aut) (x:Int) (hs:aT a.nx) (hac:a.ac.length ≤ 4294967296) (hL:2 ^ 60 ≤ L):aA env L n 13 [.agg [nI a.al,.d (.ivs a.nx.length (rowsD a.nx)),.d (.ivs a.ac.length (bools a.ac))],nI x] [] = some (.tup [.d (.ivs ((eC a x).getD []).length (aE ((eC a x).getD []))),.d (.bool (eC a x).isSome)],[]):=by
 have hrl:=hs.1
 cases hv:bR a.al a.nx a.ac with
 | false =>
  have e:eC a x = none:=if_neg fun h => by rw [hv] at h; cases h.1
  rw [e]
  simp only [Option.getD_none,Option.isSome_none,List.length_nil,iI]
  obtain _ | n:=n; omega
  simp -implicitDefEqProofs (maxSteps:=2000000) (disch:=try exact Dz) only [↓DN,↓kAsg,↓kRet,UP,simprocAttr,↓bA,hv,kO,i8,Tryz.f13]
 | true =>
  by_cases hx0:x < 0
  ·have e:eC a x = none:=if_neg fun h => by omega
   rw [e]
   simp only [Option.getD_none,Option.isSome_none,List.length_nil,iI]
   obtain _ | n:=n; omega
   simp -implicitDefEqProofs (maxSteps:=2000000) (disch:=try exact Dz) only [↓DN,↓kAsg,↓kRet,UP,simprocAttr,↓bA,hv,hx0,kO,i8,Tryz.f13]
  ·by_cases hx1:2 < x
   ·have e:eC a x = none:=if_neg fun h => by omega
    rw [e]
    simp only [Option.getD_none,Option.isSome_none,List.length_nil,iI]
    obtain _ | n:=n; omega
    simp -implicitDefEqProofs (maxSteps:=2000000) (disch:=try exact Dz) only [↓DN,↓kAsg,↓kRet,UP,simprocAttr,↓bA,hv,hx0,hx1,kO,i8,Tryz.f13]
   ·obtain ⟨e,rfl⟩:∃ e:Nat,x = e:=⟨x.toNat,by omega⟩
    have he:e ≤ 2:=by omega
    have hP:=aDB (a:=a) hv he
    have e1:eC a e = nY (bU a) (midG (aB a.al) (e + 1)) (sepW a):=if_pos ⟨hv,by omega,by omega⟩
    have e2:LS a = bU a:=by unfold LS; exact if_pos hv
    have e3:sepR a = sepW a:=by unfold sepR; exact if_pos hv
    have kc_c:=@US L a hs hac hL
    have kc_w:=@IT L a hs hac hL
    have kc_m:=@Y0 L a.al (e + 1) (by omega) hL
    rw [e2] at kc_c
    rw [e3] at kc_w
    rw [cs1 e] at kc_m
    have hcn:=hP.nc
    have loop_c:=fun {R n k} hn => @MZ R L n hn hL _ _ _ hP k (bU a).length 0 L [] 0 (by omega) (by omega) rfl ⟨List.Pairwise.nil,by simp,by simp⟩
    have hr:=JM (f:=covZ (midG (aB a.al) (e + 1)) (sepW a)) (ws:=bU a) (bU a).length 0 [] (by omega)
    rw [List.drop_zero,aMb] at hr
    have hr:nY (bU a) (midG (aB a.al) (e + 1)) (sepW a) = _:=hr
    rw [e1]
    simp only [Int.natCast_zero,iI] at loop_c
    generalize nY (bU a) (midG (aB a.al) (e + 1)) (sepW a) = S at *
    clear hP e1 e2 e3
    generalize bU a = cov at *
    generalize midG (aB a.al) (e + 1) = mids at *
    generalize sepW a = ends at *
    generalize run3 (covZ mids ends) cov cov.length 0 [] = z at *
    cases hb:z.1 with
    | false =>
     rw [hb,if_neg Bool.false_ne_true] at hr
     rw [hr]
     rw [hb] at loop_c
     simp only [Option.getD_none,Option.isSome_none,List.length_nil,iI,Bool.false_eq_true,if_false] at loop_c ⊢
     obtain _ | n:=n; omega
     simp -implicitDefEqProofs (maxSteps:=2000000) (disch:=try exact Dz) only [↓DN,↓kAsg,↓kRet,UP,simprocAttr,↓bA,hv,hx0,hx1,↓kc_c,↓kc_w,↓kc_m,↓loop_c,kO,i8,Tryz.f13]
    | true =>
     rw [hb,if_pos rfl] at hr
     rw [hr]
     rw [hb] at loop_c
     simp only [Option.getD_some,Option.isSome_some,if_true] at loop_c ⊢
     have e4:(aE z.2.2).take z.2.2.length = aE z.2.2:=fK (Nat.le_refl _)
     obtain _ | n:=n; omega
     simp -implicitDefEqProofs (maxSteps:=2000000) (disch:=try exact Dz) only [↓DN,↓kAsg,↓kRet,UP,simprocAttr,↓bA,SE,hv,hx0,hx1,e4,↓kc_c,↓kc_w,↓kc_m,↓loop_c,kO,i8,Tryz.f13]
theorem GZ:type_of% fun {L} a x hs hac hL => ks fun hn => @GC L _ hn a x hs hac hL:=fun {L} a x hs hac hL => ks fun hn => @GC L _ hn a x hs hac hL
end
end Ev
end Go.Proofs.YtejmccgfigiadaaGreat
