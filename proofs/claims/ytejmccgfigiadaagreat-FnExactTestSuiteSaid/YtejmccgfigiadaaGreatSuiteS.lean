/-
  Automata with exchanged aB: plain laws.
-/
import Derived.Test.YtejmccgfigiadaaGreatAutH
import Derived.Test.YtejmccgfigiadaaGreatWords
import Derived.Test.YtejmccgfigiadaaGreatPathV
import Derived.Test.YtejmccgfigiadaaGreatAccess
import Derived.Test.YtejmccgfigiadaaGreatLeast
import Derived.Test.YtejmccgfigiadaaGreatSortLayX
import Derived.Test.YtejmccgfigiadaaGreatEvDef
import Derived.Test.YtejmccgfigiadaaGreatDistG
import Derived.Test.YtejmccgfigiadaaGreatNetX
import Derived.Test.YtejmccgfigiadaaGreatDraw2
set_option linter.unusedSimpArgs false
set_option linter.unusedVariables false
set_option maxRecDepth 8000
set_option maxHeartbeats 4000000
namespace Go.Proofs.YtejmccgfigiadaaGreat
namespace Ev
theorem aVJ {al:Int} {rs:List (List Int)} {ac:List Bool} (ha:nA al = true) (h1:1 ≤ rs.length) (h2:rs.length ≤ 12) (h3:ac.length = rs.length) (hr:∀ r ∈ rs,r.length = (aB al).length ∧ ∀ q ∈ r,0 ≤ q ∧ q < rs.length):eX al rs ac = true:=by
 unfold eX
 simp only [Bool.and_eq_true,decide_eq_true_eq]
 refine ⟨⟨⟨⟨ha,by omega⟩,by omega⟩,by omega⟩,?_⟩
 rw [Option.isNone_iff_eq_none,xI]
 intro i _ hi
 have hi:i < rs.length:=by omega
 obtain ⟨hw,hq⟩:=hr (rs.getD i []) (by rw [List.getD_eq_getElem?_getD,List.getElem?_eq_getElem hi]; exact List.getElem_mem hi)
 unfold kL
 rw [XQ (by omega)]
 have:seek (badQ rs.length (rs.getD i [])) (rs.getD i []).length 0 = none:=by
  rw [xI]
  intro j _ hj
  have hj:j < (rs.getD i []).length:=by omega
  rw [EO]
  refine hq _ ?_
  generalize rs.getD i [] = r at *
  rw [List.getD_eq_getElem?_getD,List.getElem?_eq_getElem hj]
  exact List.getElem_mem hj
 rw [this]
 rfl
theorem QI {al:Int} {rs:List (List Int)} {ac:List Bool} (h:eX al rs ac = true) {i:Nat} (hi:i < rs.length):(rs.getD i []).length = (aB al).length ∧ ∀ j,j < (aB al).length → 0 ≤ (rs.getD i []).getD j 0 ∧ (rs.getD i []).getD j 0 < rs.length:=by
 have hw:=aIH (DT h) hi
 refine ⟨hw,?_⟩
 intro j hj
 unfold eX at h
 simp only [Bool.and_eq_true] at h
 have hb:=P4 h.2 hi
 unfold kL at hb
 rw [XQ (by omega)] at hb
 have:=P4 (p:=badQ rs.length (rs.getD i [])) (n:=(rs.getD i []).length) (by cases hs:seek (badQ rs.length (rs.getD i [])) (rs.getD i []).length 0 with
  | none => rfl
  | some z => rw [hs] at hb; cases hb) (i:=j) (by omega)
 exact EO.1 this
def stGo (al:Int) (rs:List (List Int)) (w:List UInt8) (q:Int):Int:=w.foldl (fun q b => goI al rs q (ltr b)) q
def aQR (al:Int) (rs:List (List Int)) (ac:List Bool) (w:List UInt8):Int:=if eX al rs ac && EU al w then stGo al rs w 0 else -1
section
def goS (a:Aut) (v l:Int):Int:=goI a.al a.nx v l
def rowA (a:Aut) (v:Int):List Int:=a.nx.getD v.toNat []
def ordA (a:Aut):List Int:=ordB (goS a) (aB a.al) (a.nx.length + 1) 0 [0]
def idxU (out:List Int) (x:Int):Int:=(out.idxOf x:Nat)
def d8 (a:Aut):Aut:=⟨a.al,(ordA a).map fun v => (rowA a v).map (idxU (ordA a)),(ordA a).map fun v => a.ac.getD v.toNat false⟩
theorem aPv {a:Aut} (h:AOK a):∀ v l:Int,0 ≤ v → v < a.nx.length → l ∈ aB a.al → 0 ≤ goS a v l ∧ goS a v l < a.nx.length:=by
 intro v l h0 h1 hl
 have:=eC l hl
 exact r7 h h0 h1 this.1 (by omega)
theorem aSx {al:Int} {k:Nat} (hk:k < (aB al).length):kT al (aB al)[k] = k:=by
 obtain ⟨⟨h0,h1⟩,hb⟩:=nM.1 (List.getElem_mem hk)
 obtain ⟨h2,h3⟩:=JB h0 h1 hb
 rw [List.getElem?_eq_getElem h2] at h3
 exact (List.getElem_inj (YB al)).1 (Option.some.inj h3)
theorem aIc {a:Aut} (h:AOK a) {v:Int} (h0:0 ≤ v) (h1:v < a.nx.length):(aB a.al).map (goS a v) = rowA a v:=by
 have hl:=(QI h (i:=v.toNat) (by omega)).1
 apply List.ext_getElem
 ·rw [List.length_map]; exact hl.symm
 ·intro k g1 g2
  rw [List.length_map] at g1
  rw [List.getElem_map]
  unfold goS
  rw [aCs (nM.1 (List.getElem_mem g1)).2,aSx g1]
  show (rowA a v).getD k 0 = _
  rw [List.getD_eq_getElem?_getD,List.getElem?_eq_getElem g2]
  rfl
theorem C8 {a:Aut} (h:AOK a):∃ W,Bfs (goS a) (aB a.al) a.nx.length (ordA a).length [] (ordA a) W:=by
 obtain ⟨_,_,h1,_,_⟩:=b6 h
 exact aPy (rA _) (aPv h) _ 0 [0] _ (Bfs.start (by omega)) (by omega) (by omega)
theorem aNC {a:Aut}:∀ (w:List Int) (v u:Int),Path (nxS a) (aB a.al) v w u ↔ (∀ l ∈ w,l ∈ aB a.al) ∧ w.foldl (goS a) v = u
 | [],v,u => by simp [Path]
 | l :: w,v,u => by
  simp only [Path,nxS,List.mem_singleton,exists_eq_left,aNC w,List.foldl_cons,List.forall_mem_cons]
  unfold goS
  exact and_assoc.symm
theorem O9 {a:Aut} {st:Int} {w:List Int}:Hits (nxS a) (aB a.al) [0] (glS st) w ↔ (∀ l ∈ w,l ∈ aB a.al) ∧ w.foldl (goS a) 0 = st:=by
 unfold Hits yH glS
 simp only [List.mem_singleton,exists_eq_left,aNC,decide_eq_true_eq]
 constructor
 ·rintro ⟨u,⟨h1,h2⟩,rfl⟩; exact ⟨h1,h2⟩
 ·rintro ⟨h1,h2⟩; exact ⟨st,⟨h1,h2⟩,rfl⟩
section
variable {a:Aut} {W:Nat → List Int}
theorem HR {x:Int} {out:List Int} (hx:x ∈ out):out.getD (out.idxOf x) 0 = x ∧ out.idxOf x < out.length:=by
 have h:=List.idxOf_lt_length_of_mem hx
 refine ⟨?_,h⟩
 rw [List.getD_eq_getElem?_getD,List.getElem?_eq_getElem h,List.getElem_idxOf]; rfl
theorem yK {q:Nat} {out:List Int} (hq:q < out.length):out.getD q 0 ∈ out:=by
 rw [List.getD_eq_getElem?_getD,List.getElem?_eq_getElem hq]
 exact List.getElem_mem hq
theorem W7 (h:AOK a) (hB:Bfs (goS a) (aB a.al) a.nx.length (ordA a).length [] (ordA a) W) {q:Nat} (hq:q < (ordA a).length):oneG a ((ordA a).getD q 0) = (W q,true):=by
 refine wT (M7 h _) (.inl ⟨rfl,O9.2 ⟨hB.lts q hq,hB.run q hq⟩,fun x hx => ?_⟩)
 obtain ⟨h1,h2⟩:=O9.1 hx
 obtain ⟨p,hp,e,hs⟩:=hB.least x.length x rfl h1
 have:p = q:=hB.idx hp hq (by rw [e,h2])
 subst this
 exact hs
theorem aVh (h:AOK a) {st:Int} (ho:st ∉ ordA a):oneG a st = ([],false):=by
 obtain ⟨W,hB⟩:=C8 h
 refine wT (M7 h _) (.inr ⟨rfl,fun w hw => ?_⟩)
 obtain ⟨h1,h2⟩:=O9.1 hw
 obtain ⟨p,hp,e,_⟩:=hB.least w.length w rfl h1
 rw [h2] at e
 exact ho (e ▸ yK hp)
theorem XS (hB:Bfs (goS a) (aB a.al) a.nx.length (ordA a).length [] (ordA a) W) {v l:Int} (hv:v ∈ ordA a) (hl:l ∈ aB a.al):goS a v l ∈ ordA a:=by
 obtain ⟨e,hq⟩:=HR hv
 obtain ⟨p,hp,e2,_⟩:=hB.clo _ l hq hl (.inl hq)
 rw [e] at e2
 exact e2 ▸ yK hp
theorem aEt (h:AOK a):AOK (d8 a):=by
 obtain ⟨W,hB⟩:=C8 h
 obtain ⟨b1,b2,b3,b4⟩:=tK h
 have hn:=nP hB.nod hB.rng
 have hp:=hB.pos
 unfold AOK d8
 refine aVJ b4 (by rw [List.length_map]; omega) (by rw [List.length_map]; omega) (by rw [List.length_map,List.length_map]) ?_
 intro r hr
 obtain ⟨v,hv,rfl⟩:=List.mem_map.1 hr
 obtain ⟨v0,v1⟩:=hB.rng v hv
 have hrow:=aIc h v0 v1
 refine ⟨by rw [List.length_map,← hrow,List.length_map],?_⟩
 intro q hq
 obtain ⟨x,hx,rfl⟩:=List.mem_map.1 hq
 rw [← hrow] at hx
 obtain ⟨l,hl,rfl⟩:=List.mem_map.1 hx
 have:=(HR (XS hB hv hl)).2
 unfold idxU
 rw [List.length_map]
 omega
theorem aYF (h:AOK a) (hB:Bfs (goS a) (aB a.al) a.nx.length (ordA a).length [] (ordA a) W) {q:Nat} (hq:q < (ordA a).length) {l:Int} (hl:l ∈ aB a.al):goS (d8 a) q l = idxU (ordA a) (goS a ((ordA a).getD q 0) l):=by
 obtain ⟨⟨h0,h1⟩,hb⟩:=nM.1 hl
 obtain ⟨v0,v1⟩:=hB.rng _ (yK hq)
 obtain ⟨p1,p2⟩:=JB h0 h1 hb
 have hlen:=(QI h (i:=((ordA a).getD q 0).toNat) (by omega)).1
 have e1:((d8 a).nx.getD q []) = (rowA a ((ordA a).getD q 0)).map (idxU (ordA a)):=by
  unfold d8
  simp only [List.getD_eq_getElem?_getD,List.getElem?_map,List.getElem?_eq_getElem hq,Option.map_some,Option.getD_some]
 unfold goS
 rw [aCs hb,aCs (show iZ (d8 a).al l = true from hb),Int.toNat_natCast,e1]
 show ((rowA a ((ordA a).getD q 0)).map (idxU (ordA a))).getD (kT a.al l) 0 = _
 have hr:kT a.al l < (rowA a ((ordA a).getD q 0)).length:=by unfold rowA; omega
 rw [List.getD_eq_getElem?_getD,List.getElem?_map,List.getElem?_eq_getElem hr,List.getD_eq_getElem?_getD (l:=a.nx.getD _ _)]
 show idxU _ (rowA a ((ordA a).getD q 0))[kT a.al l] = idxU _ ((rowA a ((ordA a).getD q 0))[kT a.al l]?.getD 0)
 rw [List.getElem?_eq_getElem hr]; rfl
theorem aMj (h:AOK a) (hB:Bfs (goS a) (aB a.al) a.nx.length (ordA a).length [] (ordA a) W):∀ (w:List Int) (q:Nat),q < (ordA a).length → (∀ l ∈ w,l ∈ aB a.al) → w.foldl (goS a) ((ordA a).getD q 0) ∈ ordA a ∧ w.foldl (goS (d8 a)) (q:Int) = idxU (ordA a) (w.foldl (goS a) ((ordA a).getD q 0))
 | [],q,hq,_ => by
  refine ⟨yK hq,?_⟩
  unfold idxU
  simp only [List.foldl_nil]
  have:=hB.nod.idxOf_getElem q hq
  rw [List.getD_eq_getElem?_getD,List.getElem?_eq_getElem hq,Option.getD_some,this]
 | l :: w,q,hq,hw => by
  have hl:=hw l List.mem_cons_self
  obtain ⟨e,hp⟩:=HR (XS hB (yK hq) hl)
  have ih:=aMj h hB w _ hp fun m hm => hw m (List.mem_cons_of_mem _ hm)
  rw [e] at ih
  simp only [List.foldl_cons]
  rw [aYF h hB hq hl]
  exact ih
theorem aRq (h:AOK a) (hB:Bfs (goS a) (aB a.al) a.nx.length (ordA a).length [] (ordA a) W) {q:Nat} (hq:q < (ordA a).length):oneG (d8 a) q = (W q,true):=by
 rw [← W7 h hB hq]
 refine wT (aG2 (fun w => ?_) (M7 (aEt h) q)) (M7 h _)
 rw [O9,O9]
 show (∀ l ∈ w,l ∈ aB a.al) ∧ _ ↔ _
 refine and_congr_right fun hw => ?_
 obtain ⟨h1,h2⟩:=aMj h hB w 0 hB.pos hw
 rw [hB.o0] at h1 h2
 have h3:w.foldl (goS (d8 a)) 0 = idxU (ordA a) (w.foldl (goS a) 0):=h2
 rw [h3]
 obtain ⟨e,hp⟩:=HR h1
 unfold idxU
 constructor
 ·intro hh
  have:(ordA a).idxOf (w.foldl (goS a) 0) = q:=by omega
  rw [this] at e
  exact e.symm
 ·intro hh
  rw [hB.idx hp hq (by rw [e,hh])]
end
theorem aJf {l:Int} (h0:0 ≤ l) (h1:l < 6):(dY l).toNat = (97 + l).toNat:=by
 unfold dY
 rw [UInt8.toNat_ofNat']
 omega
theorem aPC:∀ {u v:List Int},(∀ l ∈ u,0 ≤ l ∧ l < 6) → (∀ l ∈ v,0 ≤ l ∧ l < 6) → vZ u v → Op.bytesLess (txt u) (txt v) = true
 | [],_,_,_,h => h.elim
 | _ :: _,[],_,_,h => h.elim
 | a :: u,b :: v,hu,hv,h => by
  have ha:=hu a List.mem_cons_self
  have hb:=hv b List.mem_cons_self
  show Op.bytesLess (dY a :: txt u) (dY b :: txt v) = true
  rw [tA,aJf ha.1 ha.2,aJf hb.1 hb.2]
  rcases h with h | ⟨rfl,h⟩
  ·exact .inl (by omega)
  ·exact .inr ⟨rfl,aPC (fun l hl => hu l (List.mem_cons_of_mem _ hl)) (fun l hl => hv l (List.mem_cons_of_mem _ hl)) h⟩
theorem aX1 {u v:List Int} (hu:∀ l ∈ u,0 ≤ l ∧ l < 6) (hv:∀ l ∈ v,0 ≤ l ∧ l < 6) (h:slt u v):cmpX (txt u) (txt v) < 0:=by
 rw [NG]
 unfold txt
 rw [List.length_map,List.length_map]
 rcases h with h | ⟨h1,h⟩
 ·exact .inl h
 ·exact .inr ⟨h1,aPC hu hv h⟩
def eB (a:Aut):List Str:=(List.range (ordA a).length).map fun q => txt (oneG a ((ordA a).getD q 0)).1
def lG (a:Aut) (j i:Nat):List Str:=(List.range' i j).filterMap fun q => if (oneG a (q:Nat)).2 = true then some (txt (oneG a (q:Nat)).1) else none
def aGf (l:List Str):List Str:=l.mergeSort leX
section
variable {a:Aut} {W:Nat → List Int}
theorem RN (h:AOK a) (hB:Bfs (goS a) (aB a.al) a.nx.length (ordA a).length [] (ordA a) W):eB a = (List.range (ordA a).length).map fun q => txt (W q):=by
 unfold eB
 apply List.map_congr_left
 intro q hq
 rw [W7 h hB (List.mem_range.1 hq)]
theorem aIj (hB:Bfs (goS a) (aB a.al) a.nx.length (ordA a).length [] (ordA a) W) {j k:Nat} (hjk:j < k) (hk:k < (ordA a).length):cmpX (txt (W j)) (txt (W k)) < 0:=by
 have hin:∀ q,q < (ordA a).length → ∀ l ∈ W q,0 ≤ l ∧ l < 6:=fun q hq l hl => by
  have:=eC l (hB.lts q hq l hl); omega
 exact aX1 (hin j (by omega)) (hin k hk) (hB.asc j k hjk hk)
theorem aVu (hB:Bfs (goS a) (aB a.al) a.nx.length (ordA a).length [] (ordA a) W) {j k:Nat} (hj:j < (ordA a).length) (hk:k < (ordA a).length) (e:txt (W j) = txt (W k)):j = k:=by
 rcases Nat.lt_trichotomy j k with h | h | h
 ·have:=aIj hB h hk; rw [e] at this; exact (M4 _ this).elim
 ·exact h
 ·have:=aIj hB h hj; rw [e] at this; exact (M4 _ this).elim
theorem aR3 (hB:Bfs (goS a) (aB a.al) a.nx.length (ordA a).length [] (ordA a) W):((List.range (ordA a).length).map fun q => txt (W q)).Pairwise fun x y => cmpX x y < 0:=by
 rw [List.pairwise_map]
 refine List.Pairwise.imp_of_mem ?_ (List.pairwise_lt_range (n:=(ordA a).length))
 intro j k hj hk hjk
 exact aIj hB hjk (List.mem_range.1 hk)
theorem aPO (h:AOK a):aGf (lG a a.nx.length 0) = eB a:=by
 obtain ⟨W,hB⟩:=C8 h
 rw [RN h hB]
 have hasc:=aR3 hB
 have hfd:∀ (q:Nat) (b:Str),(if (oneG a (q:Nat)).2 = true then some (txt (oneG a (q:Nat)).1) else none) = some b → ∃ p,p < (ordA a).length ∧ (ordA a).getD p 0 = (q:Int) ∧ b = txt (W p):=by
  intro q b hb
  by_cases hq:(q:Int) ∈ ordA a
  ·obtain ⟨e,hp⟩:=HR hq
   have:=W7 h hB hp
   rw [e] at this
   rw [this] at hb
   simp at hb
   exact ⟨_,hp,e,hb.symm⟩
  ·rw [aVh h hq] at hb
   simp at hb
 unfold aGf
 refine ((List.mergeSort_perm _ _).trans ((List.perm_ext_iff_of_nodup ?_ ?_).2 ?_)).eq_of_pairwise (fun x y _ _ h1 h2 => aFl h1 h2) (List.pairwise_mergeSort RQ RL _) (hasc.imp aUV)
 ·unfold lG
  refine List.Pairwise.filterMap _ ?_ (List.nodup_range' (s:=0) (n:=a.nx.length))
  intro p q hpq b hb c hc e
  obtain ⟨p1,g1,g2,g3⟩:=hfd p b hb
  obtain ⟨q1,k1,k2,k3⟩:=hfd q c hc
  have:=aVu hB g1 k1 (by rw [← g3,← k3,e])
  subst this
  rw [g2] at k2
  exact hpq (by omega)
 ·exact hasc.imp fun {x y} hxy e => by rw [e] at hxy; exact M4 _ hxy
 ·intro b
  unfold lG
  rw [List.mem_filterMap,List.mem_map]
  constructor
  ·rintro ⟨q,hq,hb⟩
   obtain ⟨p,h1,_,h3⟩:=hfd q b hb
   exact ⟨p,List.mem_range.2 h1,h3.symm⟩
  ·rintro ⟨p,hp,rfl⟩
   have hp:=List.mem_range.1 hp
   obtain ⟨v0,v1⟩:=hB.rng _ (yK hp)
   refine ⟨((ordA a).getD p 0).toNat,?_,?_⟩
   ·rw [List.mem_range'_1]; omega
   ·rw [Int.toNat_of_nonneg v0,W7 h hB hp,if_pos rfl]
end
end
theorem aVY {a:Aut} {W:Nat → List Int} (hB:Bfs (goS a) (aB a.al) a.nx.length (ordA a).length [] (ordA a) W):∀ (c i:Nat),i ≤ c → i < (ordA a).length → (W i).length ≤ i:=by
 intro c
 induction c with
 | zero =>
  intro i hi _
  obtain rfl:i = 0:=by omega
  rw [hB.w0]; simp
 | succ c ih =>
  intro i hi hl
  rcases Nat.eq_zero_or_pos i with rfl | h0
  ·rw [hB.w0]; simp
  ·obtain ⟨p,l,hp,_,e,_⟩:=hB.pre i h0 hl
   have:=ih p (by omega) (by omega)
   rw [e,List.length_append]
   simp; omega
theorem aYw {al:Int} (ha:nA al = true) {w:List Int} (hw:∀ l ∈ w,l ∈ aB al) (hl:w.length ≤ 50000):EU al (txt w) = true ∧ fN (txt w) = true:=by
 have key:∀ b ∈ txt w,okB b = true ∧ iZ al (ltr b) = true:=by
  intro b hb
  obtain ⟨l,hlm,rfl⟩:=List.mem_map.1 hb
  have hb:=eC l (hw l hlm)
  have h2:=(nM.1 (hw l hlm)).2
  unfold okB
  rw [aKi hb.1 hb.2,h2]
  simp [aCt]
  omega
 have hlen:(txt w).length = w.length:=by unfold txt; rw [List.length_map]
 constructor
 ·unfold EU
  simp only [Bool.and_eq_true,decide_eq_true_eq,List.all_eq_true]
  refine ⟨⟨ha,by omega⟩,fun b hb => ?_⟩
  unfold inB
  rw [(key b hb).1,(key b hb).2]; rfl
 ·unfold fN
  simp only [Bool.and_eq_true,decide_eq_true_eq,List.all_eq_true]
  exact ⟨by omega,fun b hb => (key b hb).1⟩
structure CovOK (a:Aut) (l:List Str):Prop where
 len:l.length = (d8 a).nx.length
 pos:0 < l.length
 big:l.length ≤ 12
 first:l.getD 0 [] = []
 acc:∀ i,i < l.length → ∃ u,txt u = l.getD i [] ∧ accG a (aQR a.al a.nx a.ac (l.getD i [])) = (u,true)
 ok:∀ i,i < l.length → fN (l.getD i []) = true
 short:∀ i,i < l.length → (l.getD i []).length ≤ 4294967295
 asc:∀ i,i + 1 < l.length → cmpX (l.getD i []) (l.getD (i + 1) []) < 0
def sepJ (a:Aut) (i:Int):Nat → Nat → List Str → List Str
 | 0,_,o => o
 | q + 1,j,o => if (iE a i j).2 = true ∧ txt (iE a i j).1 ∉ o then sepJ a i q (j + 1) (o ++ [txt (iE a i j).1]) else sepJ a i q (j + 1) o
def sepA (a:Aut):Nat → Nat → List Str → List Str
 | 0,_,o => o
 | q + 1,i,o => sepA a q (i + 1) (sepJ a i (a.nx.length - (i + 1)) (i + 1) o)
def sepW (a:Aut):List Str:=sepA a a.nx.length 0 [[]]
theorem P6 {a:Aut} {i:Int}:∀ (q j:Nat) (o:List Str),o.length ≤ (sepJ a i q j o).length ∧ (sepJ a i q j o).length ≤ o.length + q
 | 0,_,o => ⟨Nat.le_refl _,Nat.le_refl _⟩
 | q + 1,j,o => by
  unfold sepJ
  split
  ·have:=P6 (a:=a) (i:=i) q (j + 1) (o ++ [txt (iE a i j).1]); simp at this ⊢; omega
  ·have:=P6 (a:=a) (i:=i) q (j + 1) o; omega
theorem aMw {a:Aut}:∀ (q i:Nat) (o:List Str),o.length ≤ (sepA a q i o).length ∧ (sepA a q i o).length ≤ o.length + q * a.nx.length
 | 0,_,o => by simp [sepA]
 | q + 1,i,o => by
  unfold sepA
  have h1:=P6 (a:=a) (i:=i) (a.nx.length - (i + 1)) (i + 1) o
  have h2:=aMw (a:=a) q (i + 1) (sepJ a i (a.nx.length - (i + 1)) (i + 1) o)
  rw [Nat.succ_mul]
  omega
theorem VW {a:Aut} (h:AOK a):1 ≤ (sepW a).length ∧ (sepW a).length ≤ 145:=by
 obtain ⟨_,_,h1,h2,_⟩:=b6 h
 have:=aMw (a:=a) a.nx.length 0 [[]]
 have hm:a.nx.length * a.nx.length ≤ 12 * 12:=Nat.mul_le_mul h2 h2
 unfold sepW
 simp only [List.length_cons,List.length_nil] at this
 omega
theorem OB {R:Type} {L n:Nat} (hn:12 ≤ n) (hL:2 ^ 60 ≤ L) {a:Aut} (ha:AOK a) {i:Nat} (hi:i < a.nx.length) {k:Exit → List A → H → Option R}:∀ (q j m:Nat) (o:List Str) (len:Nat) (hq:j + q = a.nx.length) (hm:q < m) (hlen:len = o.length) (ho:o.length + q ≤ 100000),
  aJ env (aA env L n) L 0 [] Bz28 (eM 1) (U1 (Z4 (Z1 (U32 (U8 (U1 ([]))))))) m (Y1 (.ptr 0 0 0 :: .d .nils :: .sl 1 0 0 len :: nI (i:Int) :: nI (j:Int) :: Y32 (Y8 (Y1 ([]))))) [.box [nI a.al,.d (.ivs a.nx.length (rowsD a.nx)),.d (.ivs a.ac.length (bools a.ac))],.arr (aC o) 1 0] k
  = k (.exit 2) (Y1 (.ptr 0 0 0 :: .d .nils :: .sl 1 0 0 (sepJ a i q j o).length :: nI (i:Int) :: nI (a.nx.length) :: Y32 (Y8 (Y1 ([]))))) [.box [nI a.al,.d (.ivs a.nx.length (rowsD a.nx)),.d (.ivs a.ac.length (bools a.ac))],.arr (aC (sepJ a i q j o)) 1 0]:=by
 obtain ⟨sa,wa,a1,a2,a3⟩:=b6 ha
 have hac:a.ac.length ≤ 4294967296:=by omega
 intro q
 induction q with
 | zero =>
  intro j m o len hq hm hlen ho
  obtain _ | m:=m; omega
  obtain rfl:j = a.nx.length:=by omega
  subst hlen
  rw [lH]
  simp only [kP,Tryz.f43,SLM,simprocAttr]
  simp -implicitDefEqProofs (maxSteps:=2000000) (disch:=try exact Dz) only [↓DN,↓kAsg,↓kRet,UP,simprocAttr,↓aU,↓nB,↓qP,↓aV,↓jA,↓yW,↓aO,↓aN,↓aM,↓hJ,↓g6,↓hM,↓nT,LA,SE,Int.lt_irrefl]
  rfl
 | succ q ih =>
  intro j m o len hq hm hlen ho
  obtain _ | m:=m; omega
  subst hlen
  have hc:(j:Int) < a.nx.length:=by omega
  have kc_s:=@nB L a i j sa hac hL
  have hal:=sa.1
  simp only [sepJ]
  generalize iE a i j = r at *
  obtain ⟨w,b⟩:=r
  simp only at kc_s ⊢
  have kl_i:=@yW L o (txt w) (by omega) hL
  cases b with
  | false =>
   have ih':=ih (j + 1) m o o.length (by omega) (by omega) rfl (by omega)
   rw [show ((j + 1:Nat):Int) = (j:Int) + 1 by omega] at ih'
   rw [if_neg fun h => by cases h.1]
   clear ih
   rw [lH]
   simp only [kP,Tryz.f43,SLM,simprocAttr]
   simp -implicitDefEqProofs (maxSteps:=2000000) (disch:=try exact Dz) only [↓DN,↓kAsg,↓kRet,UP,simprocAttr,↓aU,↓qP,↓aV,↓jA,↓aO,↓aN,↓aM,↓hJ,↓g6,↓hM,↓nT,LA,SE,hc,↓kc_s,↓ih']
  | true =>
   by_cases h:txt w ∈ o
   ·have ih':=ih (j + 1) m o o.length (by omega) (by omega) rfl (by omega)
    rw [show ((j + 1:Nat):Int) = (j:Int) + 1 by omega] at ih'
    rw [if_neg fun h2 => h2.2 h]
    rw [decide_eq_true h] at kl_i
    clear ih
    rw [lH]
    simp only [kP,Tryz.f43,SLM,simprocAttr]
    simp -implicitDefEqProofs (maxSteps:=2000000) (disch:=try exact Dz) only [↓DN,↓kAsg,↓kRet,UP,simprocAttr,↓aU,↓qP,↓aV,↓jA,↓aO,↓aN,↓aM,↓hJ,↓g6,↓hM,↓nT,LA,SE,hc,↓kc_s,↓kl_i,↓ih']
   ·have ih':=ih (j + 1) m (o ++ [txt w]) (o.length + 1) (by omega) (by omega) (by simp) (by simp; omega)
    rw [show ((j + 1:Nat):Int) = (j:Int) + 1 by omega] at ih'
    rw [if_pos ⟨rfl,h⟩]
    rw [decide_eq_false h] at kl_i
    clear ih
    rw [lH]
    simp only [kP,Tryz.f43,SLM,simprocAttr]
    simp -implicitDefEqProofs (maxSteps:=2000000) (disch:=try exact Dz) only [↓DN,↓kAsg,↓kRet,UP,simprocAttr,↓aU,↓qP,↓aV,↓jA,↓aO,↓aN,↓aM,↓hJ,↓g6,↓hM,↓nT,LA,SE,hc,↓kc_s,↓kl_i,gC,qR,List.length_append,↓ih']
theorem O0 {R:Type} {L n:Nat} (hn:12 ≤ n) (hL:2 ^ 60 ≤ L) {a:Aut} (ha:AOK a) {k:Exit → List A → H → Option R}:∀ (q i m:Nat) (o:List Str) (len:Nat) (hq:i + q = a.nx.length) (hm:q < m) (hlen:len = o.length) (ho:o.length + q * 12 ≤ 10000),
  aJ env (aA env L n) L 0 [] Bz28 (eM 0) (U1 (Z4 (U32 (U8 (U2 ([])))))) m (Y1 (.ptr 0 0 0 :: .d .nils :: .sl 1 0 0 len :: nI (i:Int) :: Y32 (Y8 (Y2 ([]))))) [.box [nI a.al,.d (.ivs a.nx.length (rowsD a.nx)),.d (.ivs a.ac.length (bools a.ac))],.arr (aC o) 1 0] k
  = k (.exit 0) (Y1 (.ptr 0 0 0 :: .d .nils :: .sl 1 0 0 (sepA a q i o).length :: nI (a.nx.length) :: Y32 (Y8 (Y2 ([]))))) [.box [nI a.al,.d (.ivs a.nx.length (rowsD a.nx)),.d (.ivs a.ac.length (bools a.ac))],.arr (aC (sepA a q i o)) 1 0]:=by
 obtain ⟨sa,wa,a1,a2,a3⟩:=b6 ha
 intro q
 induction q with
 | zero =>
  intro i m o len hq hm hlen ho
  obtain _ | m:=m; omega
  obtain rfl:i = a.nx.length:=by omega
  subst hlen
  rw [xJ]
  simp only [sR,Tryz.f43,SLM,simprocAttr]
  simp -implicitDefEqProofs (maxSteps:=2000000) (disch:=try exact Dz) only [↓DN,↓kAsg,↓kRet,UP,simprocAttr,↓aU,↓nB,↓qP,↓aV,↓jA,↓yW,↓aO,↓aN,↓aM,↓hJ,↓g6,↓hM,↓nT,LA,SE,Int.lt_irrefl]
  rfl
 | succ q ih =>
  intro i m o len hq hm hlen ho
  obtain _ | m:=m; omega
  subst hlen
  have hc:(i:Int) < a.nx.length:=by omega
  have loop_c:=fun {R:Type} {n:Nat} {k:Exit → List A → H → Option R} (hn:12 ≤ n) => @OB R L n hn hL a ha i (by omega) k (a.nx.length - (i + 1)) (i + 1) L o o.length (by omega) (by omega) rfl (by omega)
  rw [show ((i + 1:Nat):Int) = (i:Int) + 1 by omega] at loop_c
  have hl:=(P6 (a:=a) (i:=i) (a.nx.length - (i + 1)) (i + 1) o).2
  have ih':=ih (i + 1) m (sepJ a i (a.nx.length - (i + 1)) (i + 1) o) _ (by omega) (by omega) rfl (by omega)
  rw [show ((i + 1:Nat):Int) = (i:Int) + 1 by omega] at ih'
  simp only [sepA]
  clear ih
  generalize sepJ a i (a.nx.length - (i + 1)) (i + 1) o = w at *
  rw [xJ]
  simp only [sR,Tryz.f43,SLM,simprocAttr]
  simp -implicitDefEqProofs (maxSteps:=2000000) (disch:=try exact Dz) only [↓DN,↓kAsg,↓kRet,UP,simprocAttr,↓aU,↓nB,↓qP,↓aV,↓jA,↓yW,↓aO,↓aN,↓aM,↓hJ,↓g6,↓hM,↓nT,LA,SE,hc,↓loop_c,↓ih']
def sepR (a:Aut):List Str:=if eX a.al a.nx a.ac = true then sepW a else []
theorem WU {L n:Nat} (hn:13 ≤ n) (a:Aut) (hs:a8 a.nx) (hac:a.ac.length ≤ 4294967296) (hL:2 ^ 60 ≤ L):aA env L n 43 [.agg [nI a.al,.d (.ivs a.nx.length (rowsD a.nx)),.d (.ivs a.ac.length (bools a.ac))]] [] = some (.d (.ivs (sepR a).length (aC (sepR a))),[]):=by
 have hrl:=hs.1
 unfold sepR
 cases hv:eX a.al a.nx a.ac with
 | false =>
  simp only [Bool.false_eq_true,if_false,List.length_nil,oZ]
  obtain _ | n:=n; omega
  rw [DK]
  simp only [vU,Tryz.f43,SLM,simprocAttr]
  simp -implicitDefEqProofs (maxSteps:=2000000) (disch:=try exact Dz) only [↓DN,↓kAsg,↓kRet,UP,simprocAttr,↓aU,↓nB,↓qP,↓aV,↓jA,↓yW,↓aO,↓aN,↓aM,↓hJ,↓g6,↓hM,↓nT,LA,hv]
 | true =>
  obtain ⟨sa,wa,a1,a2,a3⟩:=b6 hv
  have loop_c:=fun {R:Type} {n:Nat} {k:Exit → List A → H → Option R} (hn:12 ≤ n) => @O0 R L n hn hL a hv k a.nx.length 0 L [[]] 1 (by omega) (by omega) rfl (by simp; omega)
  have e:aC [[]] = [.str []]:=rfl
  have e2:sepA a a.nx.length 0 [[]] = sepW a:=rfl
  rw [e,e2] at loop_c
  have hl:=VW hv
  simp only [if_true,Int.natCast_zero] at loop_c ⊢
  generalize sepW a = w at *
  have e4:(aC w).take w.length = aC w:=gC (Nat.le_refl _)
  obtain _ | n:=n; omega
  rw [DK]
  simp only [vU,Tryz.f43,SLM,simprocAttr]
  simp -implicitDefEqProofs (maxSteps:=2000000) (disch:=try exact Dz) only [↓DN,↓kAsg,↓kRet,UP,simprocAttr,↓aU,↓nB,↓qP,↓aV,↓jA,↓yW,↓aO,↓aN,↓aM,↓hJ,↓g6,↓hM,↓nT,LA,SE,hv,e4,↓loop_c]
theorem cZ {L:Nat} (a:Aut) (hs:a8 a.nx) (hac:a.ac.length ≤ 4294967296) (hL:2 ^ 60 ≤ L):KC 13 L 43 [.agg [nI a.al,.d (.ivs a.nx.length (rowsD a.nx)),.d (.ivs a.ac.length (bools a.ac))]] (.d (.ivs (sepR a).length (aC (sepR a)))):=ks rfl (fun hn => WU hn a hs hac hL) rfl (.inr rfl)
theorem OU {R:Type} {L n:Nat} (hn:9 ≤ n) (hL:2 ^ 60 ≤ L) {a:Aut} (ha:AOK a) {i:Nat} (hi:i < a.nx.length) {k:Exit → List A → H → Option R}:∀ (q j m:Nat) (o:List Str) (len:Nat) (hq:j + q = a.nx.length) (hm:q < m) (hlen:len = o.length) (ho:o.length + q ≤ 100000),
  aJ env (aA env L n) L 0 [] Bz13 (eL 1) (U1 (Z4 (Z1 (U8 (Z2 (U16 (U8 (U4 (U2 (U1 ([]))))))))))) m (Y1 (.ptr 0 0 0 :: .d .nils :: .sl 1 0 0 len :: nI (i:Int) :: nI (j:Int) :: Y8 (nI (a.nx.length) :: nI (i:Int) :: Y16 (Y8 (Y4 (Y2 (Y1 ([])))))))) [.box [nI a.al,.d (.ivs a.nx.length (rowsD a.nx)),.d (.ivs a.ac.length (bools a.ac))],.arr (aC o) 1 0] k
  = k (.exit 2) (Y1 (.ptr 0 0 0 :: .d .nils :: .sl 1 0 0 (sepJ a i q j o).length :: nI (i:Int) :: nI (a.nx.length) :: Y8 (nI (a.nx.length) :: nI (i:Int) :: Y16 (Y8 (Y4 (Y2 (Y1 ([])))))))) [.box [nI a.al,.d (.ivs a.nx.length (rowsD a.nx)),.d (.ivs a.ac.length (bools a.ac))],.arr (aC (sepJ a i q j o)) 1 0]:=by
 obtain ⟨sa,wa,a1,a2,a3⟩:=b6 ha
 have hac:a.ac.length ≤ 4294967296:=by omega
 intro q
 induction q with
 | zero =>
  intro j m o len hq hm hlen ho
  obtain _ | m:=m; omega
  obtain rfl:j = a.nx.length:=by omega
  subst hlen
  rw [lM]
  simp only [kO,Tryz.f31,SLM,simprocAttr]
  simp -implicitDefEqProofs (maxSteps:=2000000) (disch:=try exact Dz) only [↓DN,↓kAsg,↓kRet,UP,simprocAttr,↓aX,↓pS,↓dG,↓aY,↓kK,↓e8,↓aR,↓aS,↓aT,↓jB,↓jI,↓jH,↓dC,LA,SE,Int.lt_irrefl]
  rfl
 | succ q ih =>
  intro j m o len hq hm hlen ho
  obtain _ | m:=m; omega
  subst hlen
  have hc:(j:Int) < a.nx.length:=by omega
  have kc_s:=@pS L a i j sa hac hL
  have hal:=sa.1
  simp only [sepJ]
  generalize iE a i j = r at *
  obtain ⟨w,b⟩:=r
  simp only at kc_s ⊢
  have kl_i:=@e8 L o (txt w) (by omega) hL
  cases b with
  | false =>
   have ih':=ih (j + 1) m o o.length (by omega) (by omega) rfl (by omega)
   rw [show ((j + 1:Nat):Int) = (j:Int) + 1 by omega] at ih'
   rw [if_neg fun h => by cases h.1]
   clear ih
   rw [lM]
   simp only [kO,Tryz.f31,SLM,simprocAttr]
   simp -implicitDefEqProofs (maxSteps:=2000000) (disch:=try exact Dz) only [↓DN,↓kAsg,↓kRet,UP,simprocAttr,↓aX,↓dG,↓aY,↓kK,↓aR,↓aS,↓aT,↓jB,↓jI,↓jH,↓dC,LA,SE,hc,↓kc_s,↓ih']
  | true =>
   by_cases h:txt w ∈ o
   ·have ih':=ih (j + 1) m o o.length (by omega) (by omega) rfl (by omega)
    rw [show ((j + 1:Nat):Int) = (j:Int) + 1 by omega] at ih'
    rw [if_neg fun h2 => h2.2 h]
    rw [decide_eq_true h] at kl_i
    clear ih
    rw [lM]
    simp only [kO,Tryz.f31,SLM,simprocAttr]
    simp -implicitDefEqProofs (maxSteps:=2000000) (disch:=try exact Dz) only [↓DN,↓kAsg,↓kRet,UP,simprocAttr,↓aX,↓dG,↓aY,↓kK,↓aR,↓aS,↓aT,↓jB,↓jI,↓jH,↓dC,LA,SE,hc,↓kc_s,↓kl_i,↓ih']
   ·have ih':=ih (j + 1) m (o ++ [txt w]) (o.length + 1) (by omega) (by omega) (by simp) (by simp; omega)
    rw [show ((j + 1:Nat):Int) = (j:Int) + 1 by omega] at ih'
    rw [if_pos ⟨rfl,h⟩]
    rw [decide_eq_false h] at kl_i
    clear ih
    rw [lM]
    simp only [kO,Tryz.f31,SLM,simprocAttr]
    simp -implicitDefEqProofs (maxSteps:=2000000) (disch:=try exact Dz) only [↓DN,↓kAsg,↓kRet,UP,simprocAttr,↓aX,↓dG,↓aY,↓kK,↓aR,↓aS,↓aT,↓jB,↓jI,↓jH,↓dC,LA,SE,hc,↓kc_s,↓kl_i,gC,qR,List.length_append,↓ih']
theorem OT {R:Type} {L n:Nat} (hn:9 ≤ n) (hL:2 ^ 60 ≤ L) {a:Aut} (ha:AOK a) {k:Exit → List A → H → Option R}:∀ (q i m:Nat) (o:List Str) (len:Nat) (hq:i + q = a.nx.length) (hm:q < m) (hlen:len = o.length) (ho:o.length + q * 12 ≤ 10000),
  aJ env (aA env L n) L 0 [] Bz13 (eL 0) (U1 (Z2 (Z1 (U8 (U2 (Z2 (U16 (U8 (U4 (U2 (U1 ([])))))))))))) m (Y1 (.ptr 0 0 0 :: .d .nils :: .sl 1 0 0 len :: Y8 (Y2 (nI (a.nx.length) :: nI (i:Int) :: Y16 (Y8 (Y4 (Y2 (Y1 ([]))))))))) [.box [nI a.al,.d (.ivs a.nx.length (rowsD a.nx)),.d (.ivs a.ac.length (bools a.ac))],.arr (aC o) 1 0] k
  = k (.exit 0) (Y1 (.ptr 0 0 0 :: .d .nils :: .sl 1 0 0 (sepA a q i o).length :: Y8 (Y2 (nI (a.nx.length) :: nI (a.nx.length) :: Y16 (Y8 (Y4 (Y2 (Y1 ([]))))))))) [.box [nI a.al,.d (.ivs a.nx.length (rowsD a.nx)),.d (.ivs a.ac.length (bools a.ac))],.arr (aC (sepA a q i o)) 1 0]:=by
 obtain ⟨sa,wa,a1,a2,a3⟩:=b6 ha
 intro q
 induction q with
 | zero =>
  intro i m o len hq hm hlen ho
  obtain _ | m:=m; omega
  obtain rfl:i = a.nx.length:=by omega
  subst hlen
  rw [xD]
  simp only [sD,Tryz.f31,SLM,simprocAttr]
  simp -implicitDefEqProofs (maxSteps:=2000000) (disch:=try exact Dz) only [↓DN,↓kAsg,↓kRet,UP,simprocAttr,↓aX,↓pS,↓dG,↓aY,↓kK,↓e8,↓aR,↓aS,↓aT,↓jB,↓jI,↓jH,↓dC,LA,SE,Int.lt_irrefl]
  rfl
 | succ q ih =>
  intro i m o len hq hm hlen ho
  obtain _ | m:=m; omega
  subst hlen
  have hc:(i:Int) < a.nx.length:=by omega
  have loop_c:=fun {R:Type} {n:Nat} {k:Exit → List A → H → Option R} (hn:9 ≤ n) => @OU R L n hn hL a ha i (by omega) k (a.nx.length - (i + 1)) (i + 1) L o o.length (by omega) (by omega) rfl (by omega)
  rw [show ((i + 1:Nat):Int) = (i:Int) + 1 by omega] at loop_c
  have hl:=(P6 (a:=a) (i:=i) (a.nx.length - (i + 1)) (i + 1) o).2
  have ih':=ih (i + 1) m (sepJ a i (a.nx.length - (i + 1)) (i + 1) o) _ (by omega) (by omega) rfl (by omega)
  rw [show ((i + 1:Nat):Int) = (i:Int) + 1 by omega] at ih'
  simp only [sepA]
  clear ih
  generalize sepJ a i (a.nx.length - (i + 1)) (i + 1) o = w at *
  rw [xD]
  simp only [sD,Tryz.f31,SLM,simprocAttr]
  simp -implicitDefEqProofs (maxSteps:=2000000) (disch:=try exact Dz) only [↓DN,↓kAsg,↓kRet,UP,simprocAttr,↓aX,↓pS,↓dG,↓aY,↓kK,↓e8,↓aR,↓aS,↓aT,↓jB,↓jI,↓jH,↓dC,LA,SE,hc,↓loop_c,↓ih']
theorem X0 {L n:Nat} (hn:10 ≤ n) (a:Aut) (hv:AOK a) (hL:2 ^ 60 ≤ L):aA env L n 31 [.agg [nI a.al,.d (.ivs a.nx.length (rowsD a.nx)),.d (.ivs a.ac.length (bools a.ac))]] [] = some (.sl 0 0 0 (sepW a).length,[.arr (aC (sepW a)) 1 0]):=by
  obtain ⟨sa,wa,a1,a2,a3⟩:=b6 hv
  have hrl:=sa.1
  have hac:a.ac.length ≤ 4294967296:=by omega
  have loop_c:=fun {R:Type} {n:Nat} {k:Exit → List A → H → Option R} (hn:9 ≤ n) => @OT R L n hn hL a hv k a.nx.length 0 L [[]] 1 (by omega) (by omega) rfl (by simp; omega)
  have e:aC [[]] = [.str []]:=rfl
  have e2:sepA a a.nx.length 0 [[]] = sepW a:=rfl
  rw [e,e2] at loop_c
  have hl:=VW hv
  unfold AOK at hv
  simp only [if_true,Int.natCast_zero] at loop_c ⊢
  generalize sepW a = w at *
  obtain _ | n:=n; omega
  rw [VX]
  simp only [GQ,Tryz.f31,SLM,simprocAttr]
  simp -implicitDefEqProofs (maxSteps:=2000000) (disch:=try exact Dz) only [↓DN,↓kAsg,↓kRet,UP,simprocAttr,↓aX,↓pS,↓dG,↓aY,↓kK,↓e8,↓aR,↓aS,↓aT,↓jB,↓jI,↓jH,↓dC,LA,SE,hv,↓loop_c]
section
theorem aBC {α:Type} {p q:α → Bool}:∀ {l:List α},(∀ x ∈ l,p x = true → q x = true) → l.countP p = l.countP q → ∀ x ∈ l,q x = true → p x = true
 | [],_,_,x,hx,_ => by cases hx
 | a :: l,h,he,x,hx,hq => by
  have hle:=List.countP_mono_left (l:=l) (p:=p) (q:=q) fun y hy => h y (List.mem_cons_of_mem _ hy)
  rw [List.countP_cons,List.countP_cons] at he
  have ha:=h a List.mem_cons_self
  cases hpa:p a with
  | true =>
   rw [hpa,ha hpa] at he
   have he2:l.countP p = l.countP q:=by simpa using he
   rcases List.mem_cons.1 hx with rfl | hx
   ·exact hpa
   ·exact aBC (fun y hy => h y (List.mem_cons_of_mem _ hy)) he2 x hx hq
  | false =>
   cases hqa:q a with
   | true =>
    rw [hpa,hqa] at he
    simp at he
    omega
   | false =>
    rw [hpa,hqa] at he
    have he2:l.countP p = l.countP q:=by simpa using he
    rcases List.mem_cons.1 hx with rfl | hx
    ·rw [hqa] at hq; cases hq
    ·exact aBC (fun y hy => h y (List.mem_cons_of_mem _ hy)) he2 x hx hq
section
variable (go:Int → Int → Int) (ls:List Int) (acc:Int → Bool)
def sX (w:List Int) (q:Int):Int:=w.foldl go q
def oE (k:Nat) (i j:Int):Prop:=∀ w:List Int,(∀ l ∈ w,l ∈ ls) → w.length ≤ k → acc (sX go w i) = acc (sX go w j)
variable {go ls acc}
theorem aPM {k:Nat} {i:Int}:oE go ls acc k i i:=fun _ _ _ => rfl
theorem XZ {k:Nat} {i j:Int} (h:oE go ls acc k i j):oE go ls acc k j i:=fun w a b => (h w a b).symm
theorem IK {k:Nat} {i j m:Int} (h:oE go ls acc k i j) (g:oE go ls acc k j m):oE go ls acc k i m:=fun w a b => (h w a b).trans (g w a b)
theorem VY {k m:Nat} {i j:Int} (h:oE go ls acc m i j) (hk:k ≤ m):oE go ls acc k i j:=fun w a b => h w a (Nat.le_trans b hk)
theorem aHE {k:Nat} {i j:Int}:oE go ls acc (k + 1) i j ↔ acc i = acc j ∧ ∀ l ∈ ls,oE go ls acc k (go i l) (go j l):=by
 constructor
 ·intro h
  refine ⟨h [] (by simp) (by simp),fun l hl w hw hk => ?_⟩
  exact h (l :: w) (by intro x hx; rcases List.mem_cons.1 hx with rfl | hx; exact hl; exact hw x hx) (by simp; omega)
 ·rintro ⟨h1,h2⟩ w hw hk
  cases w with
  | nil => exact h1
  | cons l w => exact h2 l (hw l List.mem_cons_self) w (fun x hx => hw x (List.mem_cons_of_mem _ hx)) (by simp at hk; omega)
variable (go ls acc)
open Classical in
noncomputable def repB (k i:Nat):Bool:=decide (∀ j:Nat,j < i → ¬ oE go ls acc k (j:Int) (i:Int))
noncomputable def repC (n k:Nat):Nat:=(List.range n).countP (repB go ls acc k)
variable {go ls acc}
theorem WJ {k i:Nat}:repB go ls acc k i = true ↔ ∀ j:Nat,j < i → ¬ oE go ls acc k (j:Int) (i:Int):=by
 unfold repB
 simp
theorem aPn {k:Nat}:∀ i:Nat,∃ r,r ≤ i ∧ repB go ls acc k r = true ∧ oE go ls acc k (r:Int) (i:Int):=by
 intro i
 induction i using Nat.strongRecOn with
 | ind i ih =>
  by_cases h:∃ j:Nat,j < i ∧ oE go ls acc k (j:Int) (i:Int)
  ·obtain ⟨j,hj,ha⟩:=h
   obtain ⟨r,hr,h1,h2⟩:=ih j hj
   exact ⟨r,by omega,h1,IK h2 ha⟩
  ·refine ⟨i,Nat.le_refl _,WJ.2 fun j hj ha => h ⟨j,hj,ha⟩,aPM⟩
theorem aNF {k i:Nat} (h:repB go ls acc k i = true):repB go ls acc (k + 1) i = true:=by
 rw [WJ] at h ⊢
 exact fun j hj ha => h j hj (VY ha (by omega))
theorem aZj {n k:Nat}:repC go ls acc n k ≤ repC go ls acc n (k + 1):=List.countP_mono_left fun _ _ h => aNF h
theorem aP2 {n k:Nat} (he:repC go ls acc n k = repC go ls acc n (k + 1)) {i j:Nat} (hi:i < n) (hj:j < n) (h:oE go ls acc k (i:Int) (j:Int)):oE go ls acc (k + 1) (i:Int) (j:Int):=by
 have key:=aBC (l:=List.range n) (fun x _ h => aNF (go:=go) (ls:=ls) (acc:=acc) (k:=k) (i:=x) h) he
 obtain ⟨r,hr,r1,r2⟩:=aPn (go:=go) (ls:=ls) (acc:=acc) (k:=k + 1) i
 obtain ⟨s,hs,s1,s2⟩:=aPn (go:=go) (ls:=ls) (acc:=acc) (k:=k + 1) j
 have r3:=key r (List.mem_range.2 (by omega)) r1
 have s3:=key s (List.mem_range.2 (by omega)) s1
 rw [WJ] at r3 s3
 have hrs:oE go ls acc k (r:Int) (s:Int):=IK (VY r2 (by omega)) (IK h (XZ (VY s2 (by omega))))
 have e:r = s:=by
  rcases Nat.lt_trichotomy r s with h1 | h1 | h1
  ·exact absurd hrs (s3 r h1)
  ·exact h1
  ·exact absurd (XZ hrs) (r3 s h1)
 subst e
 exact IK (XZ r2) s2
theorem aXX {n:Nat}:∀ k:Nat,(∀ m,m < k → repC go ls acc n m ≠ repC go ls acc n (m + 1)) → repC go ls acc n 0 + k ≤ repC go ls acc n k
 | 0,_ => Nat.le_refl _
 | k + 1,h => by
  have h1:=aXX (n:=n) k fun m hm => h m (by omega)
  have h2:=aZj (go:=go) (ls:=ls) (acc:=acc) (n:=n) (k:=k)
  have h3:=h k (by omega)
  omega
theorem aOf {n:Nat} (hgo:∀ q l:Int,0 ≤ q → q < n → l ∈ ls → 0 ≤ go q l ∧ go q l < n) {i j:Int} (hi:0 ≤ i ∧ i < n) (hj:0 ≤ j ∧ j < n) {w:List Int} (hw:∀ l ∈ w,l ∈ ls) (hd:acc (sX go w i) ≠ acc (sX go w j)) :
  ∃ v:List Int,(∀ l ∈ v,l ∈ ls) ∧ v.length < n ∧ acc (sX go v i) ≠ acc (sX go v j):=by
 have hn:1 ≤ n:=by omega
 have hle:∀ k,repC go ls acc n k ≤ n:=fun k => by
  have:=List.countP_le_length (p:=repB go ls acc k) (l:=List.range n)
  simpa [repC] using this
 have h0:1 ≤ repC go ls acc n 0:=by
  unfold repC
  rw [Nat.succ_le_iff,List.countP_pos_iff]
  exact ⟨0,List.mem_range.2 (by omega),WJ.2 fun j hj => by omega⟩
 obtain ⟨k,hk,he⟩:∃ k,k < n ∧ repC go ls acc n k = repC go ls acc n (k + 1):=by
  apply Classical.byContradiction
  intro hc
  have:=aXX (go:=go) (ls:=ls) (acc:=acc) (n:=n) n fun m hm he => hc ⟨m,hm,he⟩
  have:=hle n
  omega
 have stay:∀ d:Nat,∀ a b:Nat,a < n → b < n → oE go ls acc k (a:Int) (b:Int) → oE go ls acc (k + d) (a:Int) (b:Int):=by
  intro d
  induction d with
  | zero => intro a b _ _ h; exact h
  | succ d ih =>
   intro a b ha hb h
   have h1:=aP2 he ha hb h
   rw [aHE] at h1
   rw [show k + (d + 1) = (k + d) + 1 by omega,aHE]
   refine ⟨h1.1,fun l hl => ?_⟩
   have ga:=hgo a l (by omega) (by omega) hl
   have gb:=hgo b l (by omega) (by omega) hl
   have:=ih (go a l).toNat (go b l).toNat (by omega) (by omega) (by
    rw [Int.toNat_of_nonneg ga.1,Int.toNat_of_nonneg gb.1]
    exact h1.2 l hl)
   rwa [Int.toNat_of_nonneg ga.1,Int.toNat_of_nonneg gb.1] at this
 apply Classical.byContradiction
 intro hc
 have hal:oE go ls acc k ((i.toNat:Nat):Int) ((j.toNat:Nat):Int):=by
  intro v hv hvl
  rw [Int.toNat_of_nonneg hi.1,Int.toNat_of_nonneg hj.1]
  apply Classical.byContradiction
  intro h
  exact hc ⟨v,hv,by omega,h⟩
 have:=stay w.length i.toNat j.toNat (by omega) (by omega) hal w hw (by omega)
 rw [Int.toNat_of_nonneg hi.1,Int.toNat_of_nonneg hj.1] at this
 exact hd this
end
end
def goA (a:Aut) (q l:Int):Int:=goI a.al a.nx q l
def accA (a:Aut) (q:Int):Bool:=a.ac.getD q.toNat false
theorem NB {a:Aut} (h:AOK a):∀ q l:Int,0 ≤ q → q < a.nx.length → l ∈ aB a.al → 0 ≤ goA a q l ∧ goA a q l < a.nx.length:=by
 intro q l h0 h1 hl
 have:=eC l hl
 exact r7 h h0 h1 this.1 (by omega)
theorem PO {a:Aut} (h:AOK a):∀ (w:List Int) (q:Int),(∀ l ∈ w,l ∈ aB a.al) → 0 ≤ q → q < a.nx.length → 0 ≤ sX (goA a) w q ∧ sX (goA a) w q < a.nx.length
 | [],q,_,h0,h1 => ⟨h0,h1⟩
 | l :: w,q,hw,h0,h1 => by
  have hg:=NB h q l h0 h1 (hw l List.mem_cons_self)
  exact PO h w _ (fun x hx => hw x (List.mem_cons_of_mem _ hx)) hg.1 hg.2
theorem XJ {x y n:Int} (hn:0 < n) (hx:0 ≤ x) (hy:0 ≤ y) (hy2:y < n):(x * n + y).tdiv n = x ∧ (x * n + y).tmod n = y:=by
 have h0:0 ≤ x * n + y:=by
  have:=Int.mul_nonneg hx (Int.le_of_lt hn)
  omega
 rw [Int.tdiv_eq_ediv_of_nonneg h0,Int.tmod_eq_emod_of_nonneg h0,Int.add_comm,Int.add_mul_ediv_right _ _ (by omega),Int.add_mul_emod_self_right,Int.ediv_eq_zero_of_lt hy hy2,Int.emod_eq_of_lt hy hy2]
 omega
theorem WP {a:Aut} (h:AOK a):∀ (w:List Int) (i j u:Int),0 ≤ i → i < a.nx.length → 0 ≤ j → j < a.nx.length →
  (Path (nxT a a) (aB a.al) (i * a.nx.length + j) w u ↔ (∀ l ∈ w,l ∈ aB a.al) ∧ u = sX (goA a) w i * a.nx.length + sX (goA a) w j)
 | [],i,j,u,_,_,_,_ => by
  simp only [Path,sX,List.foldl_nil]
  constructor
  ·rintro rfl; exact ⟨by simp,rfl⟩
  ·rintro ⟨_,rfl⟩; rfl
 | l :: w,i,j,u,i0,i1,j0,j1 => by
  obtain ⟨e1,e2⟩:=XJ (n:=(a.nx.length:Int)) (by omega) i0 j0 j1
  simp only [Path,nxT,e1,e2,List.mem_singleton,exists_eq_left]
  constructor
  ·rintro ⟨hl,hp⟩
   have gi:=NB h i l i0 i1 hl
   have gj:=NB h j l j0 j1 hl
   obtain ⟨h1,h2⟩:=(WP h w (goA a i l) (goA a j l) u gi.1 gi.2 gj.1 gj.2).1 hp
   refine ⟨?_,h2⟩
   intro x hx
   rcases List.mem_cons.1 hx with rfl | hx
   ·exact hl
   ·exact h1 x hx
  ·rintro ⟨hw,hu⟩
   have hl:=hw l List.mem_cons_self
   have gi:=NB h i l i0 i1 hl
   have gj:=NB h j l j0 j1 hl
   exact ⟨hl,(WP h w (goA a i l) (goA a j l) u gi.1 gi.2 gj.1 gj.2).2 ⟨fun x hx => hw x (List.mem_cons_of_mem _ hx),hu⟩⟩
def aPW (a:Aut) (i j:Int) (w:List Int):Prop:=(∀ l ∈ w,l ∈ aB a.al) ∧ accA a (sX (goA a) w i) ≠ accA a (sX (goA a) w j)
theorem aV5 {a:Aut} (h:AOK a) {i j:Int} (hi:0 ≤ i ∧ i < a.nx.length) (hj:0 ≤ j ∧ j < a.nx.length) (w:List Int) :
  Hits (nxT a a) (aB a.al) [i * a.nx.length + j] (glT (fun x y => x != y) a a) w ↔ aPW a i j w:=by
 unfold Hits yH aPW
 simp only [List.mem_singleton,exists_eq_left]
 constructor
 ·rintro ⟨u,hp,hg⟩
  obtain ⟨h1,rfl⟩:=(WP h w i j u hi.1 hi.2 hj.1 hj.2).1 hp
  have ri:=PO h w i h1 hi.1 hi.2
  have rj:=PO h w j h1 hj.1 hj.2
  obtain ⟨e1,e2⟩:=XJ (n:=(a.nx.length:Int)) (by omega) ri.1 rj.1 rj.2
  refine ⟨h1,?_⟩
  unfold glT at hg
  rw [e1,e2] at hg
  simpa [accA] using hg
 ·rintro ⟨h1,h2⟩
  have ri:=PO h w i h1 hi.1 hi.2
  have rj:=PO h w j h1 hj.1 hj.2
  obtain ⟨e1,e2⟩:=XJ (n:=(a.nx.length:Int)) (by omega) ri.1 rj.1 rj.2
  refine ⟨_,(WP h w i j _ hi.1 hi.2 hj.1 hj.2).2 ⟨h1,rfl⟩,?_⟩
  unfold glT
  rw [e1,e2]
  simpa [accA] using h2
theorem aTt {a:Aut} (h:AOK a) {i j:Int} (hi:0 ≤ i ∧ i < a.nx.length) (hj:0 ≤ j ∧ j < a.nx.length):M0 (aPW a i j) (iE a i j):=by
 have hok:UB a i j = true:=by
  have h':eX a.al a.nx a.ac = true:=h
  unfold UB
  rw [h']
  simp; omega
 unfold iE
 rw [if_pos hok]
 refine aG2 (aV5 h hi hj) ?_
 have hs:=M6 hi hj
 have hr:∀ v c:Int,0 ≤ v → v < ((a.nx.length * a.nx.length:Nat):Int) → c ∈ aB a.al → ∀ m ∈ nxT a a v c,0 ≤ m ∧ m < ((a.nx.length * a.nx.length:Nat):Int):=by
  intro v c h0 h1 hc
  have:=eC c hc
  rw [Int.natCast_mul] at h1 ⊢
  exact aCz h h h0 h1 (by omega)
 refine aIp (rA _) hr (fun n hn => ?_) (by simp)
 simp only [List.mem_singleton] at hn
 subst hn
 rw [Int.natCast_mul]; exact hs
theorem aNK {a:Aut} (h:AOK a) {i j:Int} (hi:0 ≤ i ∧ i < a.nx.length) (hj:0 ≤ j ∧ j < a.nx.length) (h2:(iE a i j).2 = true):(iE a i j).1.length < a.nx.length ∧ ∀ l ∈ (iE a i j).1,l ∈ aB a.al:=by
 rcases aTt h hi hj with ⟨_,hl⟩ | ⟨he,_⟩
 ·obtain ⟨⟨t1,t2⟩,hmin⟩:=hl
  refine ⟨?_,t1⟩
  obtain ⟨v,v1,v2,v3⟩:=aOf (go:=goA a) (ls:=aB a.al) (acc:=accA a) (n:=a.nx.length) (NB h) hi hj t1 t2
  apply Classical.byContradiction
  intro hc
  exact hmin v ⟨v1,v3⟩ (.inl (by omega))
 ·rw [he] at h2; cases h2
theorem aYZ {al:Int} (ha:nA al = true) {w:List Int} (hw:∀ l ∈ w,l ∈ aB al) (hl:w.length ≤ 50000):EU al (txt w) = true:=by
 unfold EU txt
 simp only [Bool.and_eq_true,decide_eq_true_eq,List.length_map,List.all_eq_true,List.mem_map]
 refine ⟨⟨ha,hl⟩,?_⟩
 rintro b ⟨l,hlm,rfl⟩
 have hb:=eC l (hw l hlm)
 have h2:=(nM.1 (hw l hlm)).2
 unfold inB okB
 rw [aKi hb.1 hb.2,h2]
 simp [aCt]
 omega
def aHt (a:Aut) (o:List Str):Prop:=o.Nodup ∧ ∀ w ∈ o,w.length < a.nx.length ∧ EU a.al w = true
theorem aH6 {a:Aut} (h:AOK a) {i:Nat} (hi:i < a.nx.length):∀ (q j:Nat) (o:List Str),j + q = a.nx.length → aHt a o → aHt a (sepJ a i q j o)
 | 0,_,o,_,ho => ho
 | q + 1,j,o,hj,ho => by
  unfold sepJ
  split
  ·rename_i hc
   refine aH6 h hi q (j + 1) _ (by omega) ⟨?_,fun w hw => ?_⟩
   ·rw [List.nodup_append]
    refine ⟨ho.1,by simp,fun x hx y hy => ?_⟩
    simp only [List.mem_singleton] at hy
    subst hy
    rintro rfl
    exact hc.2 hx
   ·rcases List.mem_append.1 hw with hw | hw
    ·exact ho.2 w hw
    ·simp only [List.mem_singleton] at hw
     subst hw
     obtain ⟨_,_,_,a2,_⟩:=b6 h
     obtain ⟨s1,s2⟩:=aNK h (i:=i) (j:=j) (by omega) (by omega) hc.1
     exact ⟨by simpa [txt] using s1,aYZ (tK h).2.2.2 s2 (by omega)⟩
  ·exact aH6 h hi q (j + 1) o (by omega) ho
theorem aPj {a:Aut} (h:AOK a):∀ (q i:Nat) (o:List Str),i + q = a.nx.length → aHt a o → aHt a (sepA a q i o)
 | 0,_,o,_,ho => ho
 | q + 1,i,o,hi,ho => by
  unfold sepA
  exact aPj h q (i + 1) _ (by omega) (aH6 h (by omega) _ (i + 1) o (by omega) ho)
theorem aYx {a:Aut} (h:AOK a):aHt a (sepW a):=by
 obtain ⟨a1,_,_,ha⟩:=tK h
 refine aPj h _ 0 _ (by omega) ⟨by simp,fun w hw => ?_⟩
 simp only [List.mem_singleton] at hw
 subst hw
 refine ⟨by simp; omega,?_⟩
 unfold EU
 simp [ha]
def Wk (al:Int) (n:Nat) (w:Str):Prop:=w.length ≤ n ∧ ∀ b ∈ w,∃ l ∈ aB al,b = dY l
theorem Wk.app {al:Int} {n m:Nat} {u v:Str} (h:Wk al n u) (g:Wk al m v):Wk al (n + m) (u ++ v):=by
 refine ⟨by rw [List.length_append]; have:=h.1; have:=g.1; omega,fun b hb => ?_⟩
 rcases List.mem_append.1 hb with hb | hb
 ·exact h.2 b hb
 ·exact g.2 b hb
theorem Wk.txt {al:Int} {n:Nat} {w:Str} (h:Wk al n w):∃ u:List Int,w = Ev.txt u ∧ (∀ l ∈ u,l ∈ aB al) ∧ u.length = w.length:=by
 obtain ⟨h1,h2⟩:=h
 clear h1
 induction w with
 | nil => exact ⟨[],rfl,by simp,rfl⟩
 | cons b w ih =>
  obtain ⟨u,e,hu,hl⟩:=ih fun b hb => h2 b (List.mem_cons_of_mem _ hb)
  obtain ⟨l,hlm,e2⟩:=h2 b List.mem_cons_self
  refine ⟨l :: u,by rw [e2,e]; rfl,fun x hx => ?_,by simp [hl]⟩
  rcases List.mem_cons.1 hx with rfl | hx
  ·exact hlm
  ·exact hu x hx
theorem Wk.ok {al:Int} {n:Nat} {w:Str} (ha:nA al = true) (h:Wk al n w) (hn:n ≤ 50000):EU al w = true ∧ fN w = true:=by
 obtain ⟨u,e,hu,hl⟩:=h.txt
 have:=h.1
 rw [e]
 exact aYw ha hu (by omega)
theorem aY6 {al:Int} {n:Nat} {u:List Int} (hu:∀ l ∈ u,l ∈ aB al) (hl:u.length ≤ n):Wk al n (txt u):=by
 refine ⟨by unfold txt; rw [List.length_map]; exact hl,fun b hb => ?_⟩
 obtain ⟨l,hlm,rfl⟩:=List.mem_map.1 hb
 exact ⟨l,hu l hlm,rfl⟩
theorem aT1 {a:Aut} (h:AOK a):∀ w ∈ eB a,Wk a.al (a.nx.length - 1) w:=by
 obtain ⟨W,hB⟩:=C8 h
 have hn:=nP hB.nod hB.rng
 rw [RN h hB]
 intro w hw
 obtain ⟨i,hi,rfl⟩:=List.mem_map.1 hw
 have hi:=List.mem_range.1 hi
 have:=aVY hB i i (Nat.le_refl _) hi
 exact aY6 (hB.lts i hi) (by omega)
theorem aUc {a:Aut} (h:AOK a):∀ w ∈ sepW a,Wk a.al (a.nx.length - 1) w:=by
 intro w hw
 obtain ⟨h1,h2⟩:=(aYx h).2 w hw
 refine ⟨by omega,fun b hb => ?_⟩
 unfold EU at h2
 simp only [Bool.and_eq_true,decide_eq_true_eq,List.all_eq_true] at h2
 have hb:=h2.2 b hb
 unfold inB at hb
 simp only [Bool.and_eq_true] at hb
 have h3:=hb.1
 unfold okB aCt at h3
 simp only [Bool.and_eq_true,decide_eq_true_eq] at h3
 refine ⟨ltr b,nM.2 ⟨by omega,hb.2⟩,?_⟩
 exact aSG.symm
theorem aRD {al:Int} {k:Nat}:∀ w ∈ midG (aB al) k,Wk al k w:=fun w hw => aI4 k w hw
theorem aT4 {a:Aut} (h:AOK a) {e:Nat} {c m w:Str} (hc:c ∈ eB a) (hm:m ∈ midG (aB a.al) (e + 1)) (hw:w ∈ sepW a):Wk a.al (2 * a.nx.length + e) (c ++ m ++ w):=by
 obtain ⟨_,_,a1,_,_⟩:=b6 h
 have:=((aT1 h c hc).app (aRD m hm)).app (aUc h w hw)
 exact ⟨by have:=this.1; omega,this.2⟩
theorem aI1 {R:Type} {L n:Nat} (hn:1 ≤ n) {l:List Int} {x:Int} {q:Nat} (hql:q < l.length) (hl:l.length ≤ 4294967290) (hx:l.getD q 0 = x) (hne:∀ i,i < q → ¬ l.getD i 0 = x) {k:Exit → List A → H → Option R}:∀ (j i m:Nat) (hi:i + j = q) (hm:j < m),
  aJ env (aA env L n) L 0 [] Bz58 (xL 0) (Z2 (U2 (Z2 (U8 (U1 ([])))))) m (.d (.ivs l.length (ints l)) :: nI x :: Y2 (nI 0 :: nI (i:Int) :: Y8 (Y1 ([])))) [] k
  = k (.exit 0) (.d (.ivs l.length (ints l)) :: nI x :: Y2 (nI 0 :: nI (q:Int) :: Y8 (Y1 ([])))) []:=by
 intro j
 induction j with
 | zero =>
  intro i m hi hm
  obtain _ | m:=m; omega
  obtain rfl:i = q:=by omega
  have hc:(i:Int) < l.length:=by omega
  have hi0:(0:Int) ≤ i:=by omega
  rw [NU]
  simp only [KQ,Tryz.f125,SLM,simprocAttr]
  simp -implicitDefEqProofs (maxSteps:=2000000) (disch:=try exact Dz) only [↓DN,↓kAsg,↓kRet,UP,simprocAttr,hc,hi0,hx,Int.toNat_natCast]
 | succ j ih =>
  intro i m hi hm
  obtain _ | m:=m; omega
  have hc:(i:Int) < l.length:=by omega
  have hi0:(0:Int) ≤ i:=by omega
  have he:=hne i (by omega)
  have ih':=ih (i + 1) m (by omega) (by omega)
  rw [show ((i + 1:Nat):Int) = (i:Int) + 1 by omega] at ih'
  clear ih
  rw [NU]
  simp only [KQ,Tryz.f125,SLM,simprocAttr]
  simp -implicitDefEqProofs (maxSteps:=2000000) (disch:=try exact Dz) only [↓DN,↓kAsg,↓kRet,UP,simprocAttr,hc,hi0,he,Int.toNat_natCast,↓ih']
theorem aYN {l:List Int} {x:Int} {i:Nat} (h:i < l.idxOf x) (hx:x ∈ l):¬ l.getD i 0 = x:=by
 obtain ⟨_,hq⟩:=HR hx
 rw [List.getD_eq_getElem?_getD,List.getElem?_eq_getElem (by omega)]
 intro e
 have e2:l[i]'(by omega) = x:=e
 have:=List.not_of_lt_findIdx (p:=(· == x)) (xs:=l) (i:=i) h
 rw [e2] at this
 simp at this
theorem aAN {L n:Nat} (hn:2 ≤ n) (l:List Int) (x:Int) (hx:x ∈ l) (hl:l.length ≤ 4294967290) (hL:2 ^ 60 ≤ L):aA env L n 125 [.d (.ivs l.length (ints l)),nI x] [] = some (nI (idxU l x),[]):=by
 obtain ⟨h1,h2⟩:=HR hx
 have loop_c:=fun {R:Type} {n:Nat} {k:Exit → List A → H → Option R} (hn:1 ≤ n) => @aI1 R L n hn l x (l.idxOf x) h2 hl h1 (fun i hi => aYN hi hx) k (l.idxOf x) 0 L (by omega) (by omega)
 simp only [Int.natCast_zero] at loop_c
 unfold idxU
 generalize l.idxOf x = q at *
 obtain _ | n:=n; omega
 rw [aNL]
 simp only [aDi,Tryz.f125,SLM,simprocAttr]
 simp -implicitDefEqProofs (maxSteps:=2000000) (disch:=try exact Dz) only [↓DN,↓kAsg,↓kRet,UP,simprocAttr,↓loop_c]
theorem sL {L:Nat} (l:List Int) (x:Int) (hx:x ∈ l) (hl:l.length ≤ 4294967290) (hL:2 ^ 60 ≤ L):KC 2 L 125 [.d (.ivs l.length (ints l)),nI x] (nI (idxU l x)):=ks rfl (fun hn => aAN hn l x hx hl hL) rfl (.inl rfl)
theorem sS {L:Nat} (l:List Int) (x:Int) (hx:x ∈ l) (hl:l.length ≤ 4294967290) (hL:2 ^ 60 ≤ L):KT 2 L 125 [.d (.ivs l.length (ints l)),nI x] (nI (idxU l x)):=fun hn => bY (aAN hn l x hx hl hL) rfl
theorem pA {L:Nat} {id0 g0 o0 len0:Nat} {x:Int}:KV L 125 [.sl id0 g0 o0 len0,nI x]:=aF HV
theorem aE7 {R:Type} {L n:Nat} (hn:3 ≤ n) (hL:2 ^ 60 ≤ L) {a:Aut} {i:Nat} {r:List Int} (hr:r.length ≤ 100) {k:Exit → List A → H → Option R}:∀ (j q m:Nat) (o:List Int) (len:Nat) (hq:q + j = r.length) (hm:j < m) (hlen:len = o.length) (ho:o.length + j ≤ 100000),
  aJ env (aA env L n) L 0 [] Bz24 (kE 1) (U1 (Z4 (Z2 (U32 (U4 ([])))))) m (Y1 (.ptr 0 0 0 :: .d .nils :: .sl 1 0 0 len :: nI (i:Int) :: .d (.ivs r.length (ints r)) :: nI (q:Int) :: Y32 (Y4 ([])))) [.box [nI a.al,.d (.ivs a.nx.length (rowsD a.nx)),.d (.ivs a.ac.length (bools a.ac))],.arr (ints o) 1 0] k
  = k (.exit 2) (Y1 (.ptr 0 0 0 :: .d .nils :: .sl 1 0 0 (rowU o (r.drop q)).length :: nI (i:Int) :: .d (.ivs r.length (ints r)) :: nI (r.length) :: Y32 (Y4 ([])))) [.box [nI a.al,.d (.ivs a.nx.length (rowsD a.nx)),.d (.ivs a.ac.length (bools a.ac))],.arr (ints (rowU o (r.drop q))) 1 0]:=by
 intro j
 induction j with
 | zero =>
  intro q m o len hq hm hlen ho
  obtain _ | m:=m; omega
  obtain rfl:q = r.length:=by omega
  subst hlen
  rw [BZ]
  simp only [A5,Tryz.f124,SLM,simprocAttr]
  simp -implicitDefEqProofs (maxSteps:=2000000) (disch:=try exact Dz) only [↓DN,↓kAsg,↓kRet,UP,simprocAttr,↓kU,↓oX,↓iG,LA,Int.lt_irrefl]
  rw [List.drop_length]
  rfl
 | succ j ih =>
  intro q m o len hq hm hlen ho
  obtain _ | m:=m; omega
  subst hlen
  have hk:q < r.length:=by omega
  have hc:(q:Int) < r.length:=by omega
  have hq0:(0:Int) ≤ q:=by omega
  have kl_i:=@oX L o (r.getD q 0) (by omega) hL
  have hl4:o.length ≤ 4294967290:=by omega
  rw [dB hk (d:=0)]
  by_cases h:r.getD q 0 ∈ o
  ·have e:rowU o (r.getD q 0 :: r.drop (q + 1)) = rowU o (r.drop (q + 1)):=by
    unfold rowU
    rw [List.foldl_cons,addU,if_pos h]
   have ih':=ih (q + 1) m o o.length (by omega) (by omega) rfl (by omega)
   rw [show ((q + 1:Nat):Int) = (q:Int) + 1 by omega] at ih'
   rw [e]
   rw [decide_eq_true h] at kl_i
   clear ih
   generalize rowU o (r.drop (q + 1)) = w at *
   rw [BZ]
   simp only [A5,Tryz.f124,SLM,simprocAttr]
   simp -implicitDefEqProofs (maxSteps:=2000000) (disch:=try exact Dz) only [↓DN,↓kAsg,↓kRet,UP,simprocAttr,↓kU,↓iG,LA,hc,hq0,Int.toNat_natCast,↓kl_i,↓ih']
  ·have e:rowU o (r.getD q 0 :: r.drop (q + 1)) = rowU (o ++ [r.getD q 0]) (r.drop (q + 1)):=by
    unfold rowU
    rw [List.foldl_cons,addU,if_neg h]
   have ih':=ih (q + 1) m (o ++ [r.getD q 0]) (o.length + 1) (by omega) (by omega) (by simp) (by simp; omega)
   rw [show ((q + 1:Nat):Int) = (q:Int) + 1 by omega] at ih'
   rw [e]
   rw [decide_eq_false h] at kl_i
   clear ih
   generalize rowU (o ++ [r.getD q 0]) (r.drop (q + 1)) = w at *
   rw [BZ]
   simp only [A5,Tryz.f124,SLM,simprocAttr]
   simp -implicitDefEqProofs (maxSteps:=2000000) (disch:=try exact Dz) only [↓DN,↓kAsg,↓kRet,UP,simprocAttr,↓kU,↓iG,LA,hc,hq0,Int.toNat_natCast,↓kl_i,dP,iY,cQ,hU,List.length_append,↓ih']
theorem aEN {R:Type} {L n:Nat} (hn:3 ≤ n) (hL:2 ^ 60 ≤ L) {a:Aut} (ha:AOK a) {k:Exit → List A → H → Option R}:∀ (j i m:Nat) (o:List Int) (W:Nat → List Int) (len:Nat) (hB:Bfs (goS a) (aB a.al) a.nx.length i [] o W) (hi:i ≤ o.length) (hj:a.nx.length < i + j) (hm:j < m) (hlen:len = o.length),
  aJ env (aA env L n) L 0 [] Bz24 (kE 0) Bz57 m (Y1 (.ptr 0 0 0 :: .d .nils :: .sl 1 0 0 len :: nI (i:Int) :: Y32 (Y4 (Y2 ([]))))) [.box [nI a.al,.d (.ivs a.nx.length (rowsD a.nx)),.d (.ivs a.ac.length (bools a.ac))],.arr (ints o) 1 0] k
  = k (.exit 0) (Y1 (.ptr 0 0 0 :: .d .nils :: .sl 1 0 0 (ordB (goS a) (aB a.al) j i o).length :: nI ((ordB (goS a) (aB a.al) j i o).length:Int) :: Y32 (Y4 (Y2 ([]))))) [.box [nI a.al,.d (.ivs a.nx.length (rowsD a.nx)),.d (.ivs a.ac.length (bools a.ac))],.arr (ints (ordB (goS a) (aB a.al) j i o)) 1 0]:=by
 obtain ⟨sa,wa,a1,a2,a3⟩:=b6 ha
 have hal:=sa.1
 have last:∀ (i m:Nat) (o:List Int) (len:Nat),i = o.length → 0 < m → len = o.length → aJ env (aA env L n) L 0 [] Bz24 (kE 0) Bz57 m (Y1 (.ptr 0 0 0 :: .d .nils :: .sl 1 0 0 len :: nI (i:Int) :: Y32 (Y4 (Y2 ([]))))) [.box [nI a.al,.d (.ivs a.nx.length (rowsD a.nx)),.d (.ivs a.ac.length (bools a.ac))],.arr (ints o) 1 0] k
  = k (.exit 0) (Y1 (.ptr 0 0 0 :: .d .nils :: .sl 1 0 0 o.length :: nI (o.length:Int) :: Y32 (Y4 (Y2 ([]))))) [.box [nI a.al,.d (.ivs a.nx.length (rowsD a.nx)),.d (.ivs a.ac.length (bools a.ac))],.arr (ints o) 1 0]:=by
  intro i m o len hi hm hlen
  obtain _ | m:=m; omega
  subst hi
  subst hlen
  rw [N5]
  simp only [KP,Tryz.f124,SLM,simprocAttr]
  simp -implicitDefEqProofs (maxSteps:=2000000) (disch:=try exact Dz) only [↓DN,↓kAsg,↓kRet,UP,simprocAttr,↓kU,↓oX,↓iG,LA,Int.lt_irrefl]
 intro j
 induction j with
 | zero =>
  intro i m o W len hB hi hj hm hlen
  have:=nP hB.nod hB.rng
  omega
 | succ j ih =>
  intro i m o W len hB hi hj hm hlen
  unfold ordB
  by_cases hlt:i < o.length
  ·obtain _ | m:=m; omega
   subst hlen
   rw [if_pos hlt]
   obtain ⟨v0,v1⟩:=hB.rng _ (yK hlt)
   have hrm:=aIc ha v0 v1
   obtain ⟨W1,h1,h2⟩:=Bfs.row (rA _) (fun l hl => aPv ha _ l v0 v1 hl) (aB a.al) [] o W hB rfl hlt rfl
   rw [hrm] at h1 h2 ⊢
   have hn1:=nP hB.nod hB.rng
   have hrl:=(QI ha (i:=(o.getD i 0).toNat) (by omega)).1
   have hll:=eF a.al
   have loop_c:=fun {R:Type} {n:Nat} {k:Exit → List A → H → Option R} (hn:3 ≤ n) => @aE7 R L n hn hL a i (rowA a (o.getD i 0)) (by unfold rowA; omega) k (rowA a (o.getD i 0)).length 0 L o o.length (by omega) (by unfold rowA; omega) rfl (by unfold rowA; omega)
   rw [List.drop_zero] at loop_c
   have ih':=ih (i + 1) m (rowU o (rowA a (o.getD i 0))) W1 _ h1.next (by omega) (by omega) (by omega) rfl
   rw [show ((i + 1:Nat):Int) = (i:Int) + 1 by omega] at ih'
   simp only [Int.natCast_zero] at loop_c
   have hc:(i:Int) < o.length:=by omega
   have hi0:(0:Int) ≤ i:=by omega
   clear ih h1 hB last hrm
   unfold rowA at *
   generalize hv:o.getD i 0 = v at *
   have hk:v.toNat < a.nx.length:=by omega
   generalize rowU o (a.nx.getD v.toNat []) = w at *
   generalize ordB (goS a) (aB a.al) j (i + 1) w = z at *
   rw [N5]
   simp only [KP,Tryz.f124,SLM,simprocAttr]
   simp -implicitDefEqProofs (maxSteps:=2000000) (disch:=try exact Dz) only [↓DN,↓kAsg,↓kRet,UP,simprocAttr,↓kU,↓oX,↓iG,LA,hc,hi0,hv,v0,v1,dP,iY,jQ,kF,Int.toNat_natCast,↓loop_c,↓ih']
  ·rw [if_neg hlt]
   exact last i m o len (by omega) (by omega) hlen
theorem aNA {L n:Nat} (hn:4 ≤ n) (a:Aut) (ha:AOK a) (hL:2 ^ 60 ≤ L):aA env L n 124 [.agg [nI a.al,.d (.ivs a.nx.length (rowsD a.nx)),.d (.ivs a.ac.length (bools a.ac))]] [] = some (.d (.ivs (ordA a).length (ints (ordA a))),[]):=by
 obtain ⟨sa,wa,a1,a2,a3⟩:=b6 ha
 have loop_c:=fun {R:Type} {n:Nat} {k:Exit → List A → H → Option R} (hn:3 ≤ n) => @aEN R L n hn hL a ha k (a.nx.length + 1) 0 L [0] (fun _ => []) 1 (Bfs.start (by omega)) (by omega) (by omega) (by omega) rfl
 have e:ints [0] = [.int .i64 0]:=rfl
 have e2:ordB (goS a) (aB a.al) (a.nx.length + 1) 0 [0] = ordA a:=rfl
 rw [e,e2] at loop_c
 simp only [Int.natCast_zero] at loop_c
 obtain ⟨W,hB⟩:=C8 ha
 have hl:=nP hB.nod hB.rng
 clear hB
 generalize ordA a = w at *
 have e4:(ints w).take w.length = ints w:=by rw [cQ (Nat.le_refl _)]
 obtain _ | n:=n; omega
 rw [aM1]
 simp only [aDy,Tryz.f124,SLM,simprocAttr]
 simp -implicitDefEqProofs (maxSteps:=2000000) (disch:=try exact Dz) only [↓DN,↓kAsg,↓kRet,UP,simprocAttr,↓kU,↓oX,↓iG,LA,e4,↓loop_c,dP,iY]
theorem tF {L:Nat} (a:Aut) (ha:AOK a) (hL:2 ^ 60 ≤ L):KC 4 L 124 [.agg [nI a.al,.d (.ivs a.nx.length (rowsD a.nx)),.d (.ivs a.ac.length (bools a.ac))]] (.d (.ivs (ordA a).length (ints (ordA a)))):=ks rfl (fun hn => aNA hn a ha hL) rfl (.inr rfl)
def netO (a:Aut) (st:Int):Net:=⟨[],[a],[0],a.al,5,st⟩
theorem aOL {na v:Int} (h0:0 ≤ v) (h1:v < na):decN [na] v = [v]:=by
 show [v.tmod na] = [v]
 rw [Int.tmod_eq_emod_of_nonneg h0,Int.emod_eq_of_lt h0 h1]
theorem aSZ {a:Aut} (ha:AOK a) (st:Int):aCm (nxS a) (glS st) (aB a.al) a.nx.length 0 = oneG a st:=by
 obtain ⟨_,_,h1,_,_⟩:=b6 ha
 refine wT (aNO (fun v c h0 h1 hc => ?_) (rA _) (by omega) (by omega)) (M7 ha st)
 have:=eC c hc
 exact UR ha h0 h1 (by omega)
theorem aLh {L n:Nat} (hn:11 ≤ n) (hL:2 ^ 60 ≤ L) {a:Aut} (ha:AOK a) (st:Int) :
  aA env L n 127 [.agg [.d .nils,.d (.ivs 1 (fM [a])),.d (.ivs 1 (ints [0])),nI a.al,nI 5,nI st]] [] = some (.tup [.d (.str (txt (oneG a st).1)),.d (.bool (oneG a st).2)],[]):=by
 obtain ⟨sa,aw,a1,a2,a3⟩:=b6 ha
 have hz:JA (netO a st) = [(a.nx.length:Int)]:=rfl
 rw [← aSZ ha st]
 have key:=@aAZ L n hn hL 1 (fM [a]) 5 st a.al 0 [0] [(a.nx.length:Int)] (nxS a) (glS st) a.nx.length (by simp) rfl (by
   intro q hq
   match q,hq with
   | 0,_ => exact ⟨by simp,by simp⟩
   | 1,_ => simp; omega
   | q + 2,hq => simp at hq) (by simp) (by intro z hz; simp at hz; subst hz; omega) (by
   simp only [R0,and_true]
   refine ⟨by omega,by omega,?_⟩
   simp) (by simp [encN]) (by omega) (by omega)
   (fun {n} hn => by
    have:=@N4 L n hn (netO a st) (by simp [netO]) (by simp [netO]) (fun x hx => by simp [netO] at hx; subst hx; omega) hL
    exact this)
   (fun v l hv hl {R n hq k} hn => by
    have hl2:=eC l hl
    rw [aOL (by omega) (by omega)]
    have ga:=r7 ha (q:=(v:Int)) (by omega) (by omega) hl2.1 (by omega)
    have hnx:nexG (fun i => [goI a.al a.nx (v:Int) l]) [(a.nx.length:Int)] 1 0 [0] = nxS a v l:=by
     simp [nexG,mulN,nxS]
    rw [← hnx]
    refine eO rfl (@aBA L n hn hL 0 1 1 [] (fM [a]) (ints [0]) a.al 5 st [(a.nx.length:Int)] [(v:Int)] l (fun i => [goI a.al a.nx (v:Int) l]) (fun i => if i = 0 then 0 else 11) rfl (by simp) (fun t ht {R n hq k} hn => ?_) (fun t ht => ?_) (fun t ht => ?_) (fun t ht c hc => ?_) (by simp) (fun t ht => ?_)) rfl (.inr rfl)
    ·match t,ht with
     | 0,_ => exact eO rfl (yY hn (netO a st) 0 _ l (Nat.le_refl _) (by simp [netO]) (by simp [netO]) (by simp [netO]) a rfl sa aw (by show (0:Int) ≤ (v:Int); omega) (by show (v:Int) < _; omega) hl2.1 (by omega) hL) rfl (.inr rfl)
     | t + 1,ht => exact absurd ht (by show ¬ (t + 1 < 1); omega)
    ·match t,ht with
     | 0,_ => simp; omega
     | t + 1,ht => exact absurd ht (by show ¬ (t + 1 < 1); omega)
    ·simp
    ·match t,ht with
     | 0,_ => simp at hc; subst hc; simpa using ga
     | t + 1,ht => exact absurd ht (by show ¬ (t + 1 < 1); omega)
    ·match t,ht with
     | 0,_ => simp; omega
     | t + 1,ht => exact absurd ht (by show ¬ (t + 1 < 1); omega))
   (fun v hv {R n k} hn => by
    rw [aOL (by omega) (by omega)]
    have hg:T5 (netO a st) [(v:Int)] ((movT (nxS a) (aB a.al) a.nx.length).getD v []) = glS st v:=rfl
    rw [← hg]
    exact bY (aLr (by omega) (netO a st) [(v:Int)] ((movT (nxS a) (aB a.al) a.nx.length).getD v []) rfl (by simp [netO]) (by simp [netO]) (by simp)) rfl)
   (fun v c h0 h1 hc => by
    have:=eC c hc
    exact ⟨by simp [nxS],UR ha h0 h1 (by omega)⟩)
 exact key
theorem R3 {L n:Nat} (hn:12 ≤ n) (a:Aut) (st:Int) (hs:a8 a.nx) (hac:a.ac.length ≤ 4294967296) (hL:2 ^ 60 ≤ L):aA env L n 85 [.agg [nI a.al,.d (.ivs a.nx.length (rowsD a.nx)),.d (.ivs a.ac.length (bools a.ac))],nI st] [] = some (.tup [.d (.str (txt (accG a st).1)),.d (.bool (accG a st).2)],[]):=by
 have hrl:=hs.1
 unfold accG
 cases hv:eX a.al a.nx a.ac with
 | false =>
  simp only [Bool.false_eq_true,if_false,txt,List.map_nil]
  obtain _ | n:=n; omega
  rw [EG]
  simp only [yZ,Tryz.f85,SLM,simprocAttr]
  simp -implicitDefEqProofs (maxSteps:=2000000) (disch:=try exact Dz) only [↓DN,↓kAsg,↓kRet,UP,simprocAttr,↓aU,↓pU,↓aV,↓pG,↓aO,↓aN,↓aM,↓nJ,↓nF,↓m5,LA,hv]
 | true =>
  simp only [if_true]
  by_cases h1:0 ≤ st ∧ st < a.nx.length
  ·obtain ⟨h1,h2⟩:=h1
   have kc_b:=fun {R:Type} {n:Nat} {k:A → Option R} (hn:11 ≤ n) => bY (call:=aA env L n) (k:=k) (f:=127) (@aLh L n hn hL a hv st) rfl
   simp only [fM,ints,List.map_cons,List.map_nil] at kc_b
   have kl_b:=fun {R:Type} {n:Nat} {k:A → Option R} (hn:11 ≤ n) => kc_b (R:=R) (n:=n) (k:=k) hn
   have kv_l:=fun {R:Type} {n:Nat} {hq:H} {args:List A} {k:A → H → Option R} => aF (E:=env) (call:=aA env L n) (h:=hq) (k:=k) (args:=args) yM
   clear kc_b
   generalize oneG a st = r at *
   obtain _ | n:=n; omega
   rw [EG]
   simp only [yZ,Tryz.f85,SLM,simprocAttr]
   simp -implicitDefEqProofs (maxSteps:=2000000) (disch:=try exact Dz) only [↓DN,↓kAsg,↓kRet,UP,simprocAttr,↓aU,↓pU,↓aV,↓pG,↓aO,↓aN,↓aM,↓nJ,↓nF,↓m5,LA,hv,h1,h2,decide_true,Bool.and_self,↓kv_l,↓kl_b]
  ·rw [aYE hv h1]
   have e3:(decide (0 ≤ st) && decide (st < a.nx.length)) = false:=by
    rw [Bool.and_eq_false_iff,decide_eq_false_iff_not,decide_eq_false_iff_not]; omega
   simp only [txt,List.map_nil]
   obtain _ | n:=n; omega
   rw [EG]
   simp only [yZ,Tryz.f85,SLM,simprocAttr]
   simp -implicitDefEqProofs (maxSteps:=2000000) (disch:=try exact Dz) only [↓DN,↓kAsg,↓kRet,UP,simprocAttr,↓aU,↓pU,↓aV,↓pG,↓aO,↓aN,↓aM,↓nJ,↓nF,↓m5,LA,hv,e3]
theorem wA {L:Nat} (a:Aut) (st:Int) (hs:a8 a.nx) (hac:a.ac.length ≤ 4294967296) (hL:2 ^ 60 ≤ L):KC 12 L 85 [.agg [nI a.al,.d (.ivs a.nx.length (rowsD a.nx)),.d (.ivs a.ac.length (bools a.ac))],nI st] (.tup [.d (.str (txt (accG a st).1)),.d (.bool (accG a st).2)]):=ks rfl (fun hn => R3 hn a st hs hac hL) rfl (.inl rfl)
theorem wK {L:Nat} (a:Aut) (st:Int) (hs:a8 a.nx) (hac:a.ac.length ≤ 4294967296) (hL:2 ^ 60 ≤ L):KT 12 L 85 [.agg [nI a.al,.d (.ivs a.nx.length (rowsD a.nx)),.d (.ivs a.ac.length (bools a.ac))],nI st] (.tup [.d (.str (txt (accG a st).1)),.d (.bool (accG a st).2)]):=fun hn => bY (R3 hn a st hs hac hL) rfl
theorem rP {L:Nat} {id0 g0 o0 len0:Nat} {a:Aut} {st:Int}:KV L 85 [.agg [nI a.al,.sl id0 g0 o0 len0,.d (.ivs a.ac.length (bools a.ac))],nI st]:=aF oJ
theorem r5 {L:Nat} {id1 g1 o1 len1:Nat} {a:Aut} {st:Int}:KV L 85 [.agg [nI a.al,.d (.ivs a.nx.length (rowsD a.nx)),.sl id1 g1 o1 len1],nI st]:=aF oJ
theorem rY {L:Nat} {id1 g1 o1 len1:Nat} {id0 g0 o0 len0:Nat} {a:Aut} {st:Int}:KV L 85 [.agg [nI a.al,.sl id0 g0 o0 len0,.sl id1 g1 o1 len1],nI st]:=aF oJ
theorem aOx {f:Int → Int} {r:List Int} {k:Nat} (h:k < r.length):(r.drop k).map f = f (r.getD k 0) :: (r.drop (k + 1)).map f:=by
 rw [dB h (d:=0)]; rfl
theorem aDr {b:List Bool} {x:Bool}:bools b ++ [.bool x] = bools (b ++ [x]):=by simp [bools]
theorem aHF {R:Type} {L n:Nat} (hn:3 ≤ n) (hL:2 ^ 60 ≤ L) {a:Aut} {o:List Int} {i:Nat} {v:Int} (hio:i < o.length) (hoi:o.getD i 0 = v) (v0:0 ≤ v) (v1:v < a.nx.length) (hr:(rowA a v).length ≤ 100) (ho:o.length ≤ 100) (hal:a.nx.length ≤ 100) (hin:∀ x ∈ rowA a v,x ∈ o) {al2:Int} {d e:Nat} {cn cs2:List D} {k:Exit → List A → H → Option R}:∀ (j q m:Nat) (r:List Int) (len:Nat) (hq:q + j = (rowA a v).length) (hm:j < m) (hlen:len = r.length) (hr2:r.length + j ≤ 1000),
  aJ env (aA env L n) L 0 [] Bz17 (nL 1) (U1 (Z4 (Z2 (Z1 (U32 (U16 (U8 (U4 (U1 ([])))))))))) m (Y1 (.ptr 0 0 0 :: .ptr 1 0 0 :: .d (.ivs o.length (ints o)) :: .ptr 2 0 0 :: nI (i:Int) :: .sl 3 0 0 len :: nI (q:Int) :: Y32 (Y16 (Y8 (Y4 (Y1 ([]))))))) [.box [nI a.al,.d (.ivs a.nx.length (rowsD a.nx)),.d (.ivs a.ac.length (bools a.ac))],.box [nI 0,.sl 4 0 0 0,.sl 5 0 0 0],.box [nI al2,.sl 6 0 0 d,.sl 7 0 0 d],.arr (ints r) 1 0,.arr [] 0 0,.arr [] 0 0,.arr cn e 0,.arr cs2 e 0] k
  = k (.exit 2) (Y1 (.ptr 0 0 0 :: .ptr 1 0 0 :: .d (.ivs o.length (ints o)) :: .ptr 2 0 0 :: nI (i:Int) :: .sl 3 0 0 (r ++ ((rowA a v).drop q).map (idxU o)).length :: nI ((rowA a v).length) :: Y32 (Y16 (Y8 (Y4 (Y1 ([]))))))) [.box [nI a.al,.d (.ivs a.nx.length (rowsD a.nx)),.d (.ivs a.ac.length (bools a.ac))],.box [nI 0,.sl 4 0 0 0,.sl 5 0 0 0],.box [nI al2,.sl 6 0 0 d,.sl 7 0 0 d],.arr (ints (r ++ ((rowA a v).drop q).map (idxU o))) 1 0,.arr [] 0 0,.arr [] 0 0,.arr cn e 0,.arr cs2 e 0]:=by
 have hio1:(i:Int) < o.length:=by omega
 have hi0:(0:Int) ≤ i:=by omega
 have hvk:v.toNat < a.nx.length:=by omega
 intro j
 induction j with
 | zero =>
  intro q m r len hq hm hlen hr2
  obtain _ | m:=m; omega
  obtain rfl:q = (rowA a v).length:=by omega
  subst hlen
  rw [List.drop_length]
  unfold rowA at *
  rw [SD]
  simp only [OI,Tryz.f84,SLM,simprocAttr]
  simp -implicitDefEqProofs (maxSteps:=2000000) (disch:=try exact Dz) only [↓DN,↓kAsg,↓kRet,UP,simprocAttr,↓tF,↓sL,↓sS,↓pA,LA,hio1,hi0,hoi,v0,v1,Int.toNat_natCast,Int.lt_irrefl,dP,iY,jQ,kF]
 | succ j ih =>
  intro q m r len hq hm hlen hr2
  obtain _ | m:=m; omega
  subst hlen
  have hk:q < (rowA a v).length:=by omega
  have hx:(rowA a v).getD q 0 ∈ o:=hin _ (yK hk)
  have ih':=ih (q + 1) m (r ++ [idxU o ((rowA a v).getD q 0)]) (r.length + 1) (by omega) (by omega) (by simp) (by simp; omega)
  rw [show ((q + 1:Nat):Int) = (q:Int) + 1 by omega] at ih'
  simp only [List.append_assoc,List.singleton_append] at ih'
  rw [aOx hk]
  have kc_x:=@sL L o ((rowA a v).getD q 0) hx (by omega) hL
  have hc:(q:Int) < (rowA a v).length:=by omega
  have hq0:(0:Int) ≤ q:=by omega
  clear ih hx hin
  generalize ((rowA a v).drop (q + 1)).map (idxU o) = w at *
  unfold rowA at *
  have hr100:r.length ≤ 1000:=by omega
  rw [SD]
  simp only [OI,Tryz.f84,SLM,simprocAttr]
  simp -implicitDefEqProofs (maxSteps:=2000000) (disch:=try exact Dz) only [↓DN,↓kAsg,↓kRet,UP,simprocAttr,↓tF,↓sS,↓pA,LA,hio1,hi0,hoi,v0,v1,hc,hq0,Int.toNat_natCast,dP,iY,jQ,kF,↓kc_x,cQ,hU,List.length_append,↓ih']
theorem aF2 {R:Type} {L n:Nat} (hn:3 ≤ n) (hL:2 ^ 60 ≤ L) {a:Aut} (ha:AOK a) {o:List Int} (ho:o.length ≤ 12) (hor:∀ x ∈ o,0 ≤ x ∧ x < a.nx.length) (hin:∀ v ∈ o,∀ x ∈ rowA a v,x ∈ o) {al2:Int} {k:Exit → List A → H → Option R}:∀ (j i m:Nat) (d:List (List Int)) (b:List Bool) (len e:Nat) (hi:i + j = o.length) (hm:j < m) (hd:d = (o.take i).map fun v => (rowA a v).map (idxU o)) (hb:b = (o.take i).map fun v => a.ac.getD v.toNat false) (hlen:i = len) (he:e = if i = 0 then 0 else 1),
  aJ env (aA env L n) L 0 [] Bz17 (nL 0) (U1 (Z4 (Z1 (U32 (U16 (U8 (U4 (U2 (U1 ([])))))))))) m (Y1 (.ptr 0 0 0 :: .ptr 1 0 0 :: .d (.ivs o.length (ints o)) :: .ptr 2 0 0 :: nI (i:Int) :: Y32 (Y16 (Y8 (Y4 (Y2 (Y1 ([])))))))) [.box [nI a.al,.d (.ivs a.nx.length (rowsD a.nx)),.d (.ivs a.ac.length (bools a.ac))],.box [nI 0,.sl 3 0 0 0,.sl 4 0 0 0],.box [nI al2,.sl 5 0 0 len,.sl 6 0 0 len],.arr [] 0 0,.arr [] 0 0,.arr (rowsD d) e 0,.arr (bools b) e 0] k
  = k (.exit 0) (Y1 (.ptr 0 0 0 :: .ptr 1 0 0 :: .d (.ivs o.length (ints o)) :: .ptr 2 0 0 :: nI (o.length:Int) :: Y32 (Y16 (Y8 (Y4 (Y2 (Y1 ([])))))))) [.box [nI a.al,.d (.ivs a.nx.length (rowsD a.nx)),.d (.ivs a.ac.length (bools a.ac))],.box [nI 0,.sl 3 0 0 0,.sl 4 0 0 0],.box [nI al2,.sl 5 0 0 o.length,.sl 6 0 0 o.length],.arr [] 0 0,.arr [] 0 0,.arr (rowsD (o.map fun v => (rowA a v).map (idxU o))) (if o.length = 0 then 0 else 1) 0,.arr (bools (o.map fun v => a.ac.getD v.toNat false)) (if o.length = 0 then 0 else 1) 0]:=by
 obtain ⟨sa,wa,a1,a2,a3⟩:=b6 ha
 have hal:=sa.1
 intro j
 induction j with
 | zero =>
  intro i m d b len e hi hm hd hb hlen he
  obtain _ | m:=m; omega
  obtain rfl:i = o.length:=by omega
  rw [List.take_length] at hd hb
  subst hd; subst hb; subst hlen; subst he
  rw [FC]
  simp only [E5,Tryz.f84,SLM,simprocAttr]
  simp -implicitDefEqProofs (maxSteps:=2000000) (disch:=try exact Dz) only [↓DN,↓kAsg,↓kRet,UP,simprocAttr,↓tF,↓sL,↓sS,↓pA,LA,Int.lt_irrefl]
 | succ j ih =>
  intro i m d b len e hi hm hd hb hlen he
  obtain _ | m:=m; omega
  subst hlen
  have hio:i < o.length:=by omega
  have hmem:=yK hio
  obtain ⟨v0,v1⟩:=hor _ hmem
  have hin1:=hin _ hmem
  have hrl:=(QI ha (i:=(o.getD i 0).toNat) (by omega)).1
  have hll:=eF a.al
  have htk:o.take (i + 1) = o.take i ++ [o.getD i 0]:=by
   rw [List.take_add_one,List.getElem?_eq_getElem hio,List.getD_eq_getElem?_getD,List.getElem?_eq_getElem hio]; rfl
  have hdl:d.length = i:=by rw [hd,List.length_map,List.length_take]; omega
  have hbl:b.length = i:=by rw [hb,List.length_map,List.length_take]; omega
  have ih':=ih (i + 1) m (d ++ [(rowA a (o.getD i 0)).map (idxU o)]) (b ++ [a.ac.getD (o.getD i 0).toNat false]) (i + 1) 1 (by omega) (by omega) (by rw [htk,hd,List.map_append]; rfl) (by rw [htk,hb,List.map_append]; rfl) rfl (by rw [if_neg (by omega)])
  rw [show ((i + 1:Nat):Int) = (i:Int) + 1 by omega] at ih'
  have loop_c:=fun {R:Type} {n:Nat} {d e:Nat} {cn cs2:List D} {k:Exit → List A → H → Option R} (hn:3 ≤ n) => @aHF R L n hn hL a o i (o.getD i 0) hio rfl v0 v1 (by unfold rowA; omega) (by omega) (by omega) hin1 al2 d e cn cs2 k (rowA a (o.getD i 0)).length 0 L [] 0 (by omega) (by unfold rowA; omega) rfl (by unfold rowA; rw [List.length_nil]; omega)
  rw [List.drop_zero] at loop_c
  simp only [Int.natCast_zero,List.nil_append,B2] at loop_c
  have hc:(i:Int) < o.length:=by omega
  have hi0:(0:Int) ≤ i:=by omega
  have hrl2:((rowA a (o.getD i 0)).map (idxU o)).length ≤ 6:=by rw [List.length_map]; unfold rowA; omega
  clear ih hin hor hin1 hmem hd hb htk
  generalize (rowA a (o.getD i 0)).map (idxU o) = w at *
  generalize rowA a (o.getD i 0) = w0 at *
  generalize hv:o.getD i 0 = v at *
  have hvk:v.toNat < a.nx.length:=by omega
  have hva:v.toNat < a.ac.length:=by omega
  have hva2:v < a.ac.length:=by omega
  have ht:(rowsD d).take i = rowsD d:=I5 (by omega)
  have ht2:(bools b).take i = bools b:=E7 (by omega)
  have hwt:(ints w).take w.length = ints w:=by rw [cQ (Nat.le_refl _)]
  have hi12:i ≤ 12:=by omega
  by_cases hz:i = 0
  ·obtain rfl:e = 0:=by rw [he,if_pos hz]
   clear he hz
   rw [FC]
   simp only [E5,Tryz.f84,SLM,simprocAttr]
   simp -implicitDefEqProofs (maxSteps:=2000000) (disch:=try exact Dz) only [↓DN,↓kAsg,↓kRet,UP,simprocAttr,↓tF,↓sL,↓sS,↓pA,LA,hc,hi0,hv,v0,v1,hva2,dP,iY,jQ,kF,Int.toNat_natCast,↓loop_c,ht,ht2,hwt,aA5,aDr,↓ih']
  ·obtain rfl:e = 1:=by rw [he,if_neg hz]
   clear he hz
   rw [FC]
   simp only [E5,Tryz.f84,SLM,simprocAttr]
   simp -implicitDefEqProofs (maxSteps:=2000000) (disch:=try exact Dz) only [↓DN,↓kAsg,↓kRet,UP,simprocAttr,↓tF,↓sL,↓sS,↓pA,LA,hc,hi0,hv,v0,v1,hva2,dP,iY,jQ,kF,Int.toNat_natCast,↓loop_c,ht,ht2,hwt,aA5,aDr,↓ih']
theorem aOr {L n:Nat} (hn:6 ≤ n) (a:Aut) (ha:AOK a) (hL:2 ^ 60 ≤ L):aA env L n 84 [.agg [nI a.al,.d (.ivs a.nx.length (rowsD a.nx)),.d (.ivs a.ac.length (bools a.ac))]] [] = some (.agg [.d (.int .i64 (d8 a).al),.d (.ivs (d8 a).nx.length (rowsD (d8 a).nx)),.d (.ivs (d8 a).ac.length (bools (d8 a).ac))],[]):=by
 obtain ⟨sa,wa,a1,a2,a3⟩:=b6 ha
 obtain ⟨W,hB⟩:=C8 ha
 have hl:=nP hB.nod hB.rng
 have hp:=hB.pos
 have hin:∀ v ∈ ordA a,∀ x ∈ rowA a v,x ∈ ordA a:=by
  intro v hv x hx
  obtain ⟨v0,v1⟩:=hB.rng v hv
  rw [← aIc ha v0 v1] at hx
  obtain ⟨l,hl,rfl⟩:=List.mem_map.1 hx
  exact XS hB hv hl
 have loop_c:=fun {R:Type} {n:Nat} {k:Exit → List A → H → Option R} (hn:3 ≤ n) => @aF2 R L n hn hL a ha (ordA a) (by omega) hB.rng hin a.al k (ordA a).length 0 L [] [] 0 0 (by omega) (by omega) rfl rfl rfl rfl
 have kc_o:=@tF L a ha hL
 simp only [Int.natCast_zero,aKu,aSK] at loop_c
 rw [if_neg (by omega)] at loop_c
 have hx1:(d8 a).nx.length = (ordA a).length:=List.length_map _
 have hx2:(d8 a).ac.length = (ordA a).length:=List.length_map _
 have hx3:(d8 a).al = a.al:=rfl
 have e1:((ordA a).map fun v => (rowA a v).map (idxU (ordA a))) = (d8 a).nx:=rfl
 have e2:((ordA a).map fun v => a.ac.getD v.toNat false) = (d8 a).ac:=rfl
 rw [e1,e2] at loop_c
 rw [hx1,hx2,hx3]
 have ht1:(rowsD (d8 a).nx).take (ordA a).length = rowsD (d8 a).nx:=I5 (by omega)
 have ht2:(bools (d8 a).ac).take (ordA a).length = bools (d8 a).ac:=E7 (by omega)
 have hr1:(rowsD (d8 a).nx).length = (ordA a).length:=by rw [DW,hx1]
 have hb1:(bools (d8 a).ac).length = (ordA a).length:=by rw [sU,hx2]
 clear hB hin e1 e2
 generalize (d8 a).nx = w1 at *
 generalize (d8 a).ac = w2 at *
 generalize ordA a = w at *
 obtain _ | n:=n; omega
 rw [aN8]
 simp only [aHS,Tryz.f84,SLM,simprocAttr]
 simp -implicitDefEqProofs (maxSteps:=2000000) (disch:=try exact Dz) only [↓DN,↓kAsg,↓kRet,UP,simprocAttr,↓sL,↓sS,↓pA,LA,↓kc_o,↓loop_c,ht1,ht2,hr1,hb1,Nat.le_refl]
theorem IW {L:Nat} (a:Aut) (ha:AOK a) (hL:2 ^ 60 ≤ L):KC 6 L 84 [.agg [nI a.al,.d (.ivs a.nx.length (rowsD a.nx)),.d (.ivs a.ac.length (bools a.ac))]] (.agg [.d (.int .i64 (d8 a).al),.d (.ivs (d8 a).nx.length (rowsD (d8 a).nx)),.d (.ivs (d8 a).ac.length (bools (d8 a).ac))]):=ks rfl (fun hn => aOr hn a ha hL) rfl (.inr rfl)
def FS (x:Aut) (j i:Nat):List Str:=(List.range' i j).map fun q => txt (accG x (q:Nat)).1
theorem aNV {x:Aut} {j i:Nat}:FS x (j + 1) i = txt (accG x (i:Nat)).1 :: FS x j (i + 1):=by
 simp [FS,List.range'_succ]
theorem aOo {a:Aut} (h:AOK a):FS (d8 a) (d8 a).nx.length 0 = eB a:=by
 obtain ⟨W,hB⟩:=C8 h
 rw [RN h hB]
 have hx1:(d8 a).nx.length = (ordA a).length:=List.length_map _
 unfold FS
 rw [hx1,← List.range_eq_range']
 apply List.map_congr_left
 intro q hq
 unfold accG
 rw [if_pos (show eX (d8 a).al (d8 a).nx (d8 a).ac = true from aEt h),aRq h hB (List.mem_range.1 hq)]
def NP (a:Aut):List Str:=if eX a.al a.nx a.ac = true then eB a else []
theorem MN {a:Aut} (h:AOK a):1 ≤ (eB a).length ∧ (eB a).length ≤ 12:=by
 obtain ⟨W,hB⟩:=C8 h
 obtain ⟨sa,wa,a1,a2,a3⟩:=b6 h
 have hl:=nP hB.nod hB.rng
 have hp:=hB.pos
 rw [RN h hB,List.length_map,List.length_range]
 omega
theorem aCU {R:Type} {L n:Nat} (hn:12 ≤ n) (hL:2 ^ 60 ≤ L) {a:Aut} (ha:AOK a) {k:Exit → List A → H → Option R}:∀ (q i m:Nat) (o:List Str) (len:Nat) (hq:i + q = a.nx.length) (hm:q < m) (hlen:len = o.length) (ho:o.length + q ≤ 100000),
  aJ env (aA env L n) L 0 [] Bz55 (qU 0) (U2 (Z4 (U16 (U8 (U2 ([])))))) m (Y2 (.d .nils :: .ptr 0 0 0 :: .sl 1 0 0 len :: nI (i:Int) :: Y16 (Y8 (Y2 ([]))))) [.box [nI a.al,.d (.ivs a.nx.length (rowsD a.nx)),.d (.ivs a.ac.length (bools a.ac))],.arr (aC o) 1 0] k
  = k (.exit 0) (Y2 (.d .nils :: .ptr 0 0 0 :: .sl 1 0 0 (o ++ FS a q i).length :: nI (a.nx.length:Int) :: Y16 (Y8 (Y2 ([]))))) [.box [nI a.al,.d (.ivs a.nx.length (rowsD a.nx)),.d (.ivs a.ac.length (bools a.ac))],.arr (aC (o ++ FS a q i)) 1 0]:=by
 obtain ⟨sa,wa,a1,a2,a3⟩:=b6 ha
 have hac:a.ac.length ≤ 4294967296:=by omega
 have hal:=sa.1
 intro q
 induction q with
 | zero =>
  intro i m o len hq hm hlen ho
  obtain _ | m:=m; omega
  obtain rfl:i = a.nx.length:=by omega
  subst hlen
  have e:FS a 0 a.nx.length = []:=rfl
  rw [e,List.append_nil]
  rw [G2]
  simp only [BY,Tryz.f42,SLM,simprocAttr]
  simp -implicitDefEqProofs (maxSteps:=2000000) (disch:=try exact Dz) only [↓DN,↓kAsg,↓kRet,UP,simprocAttr,↓aU,↓IW,↓wA,↓aV,↓wK,↓aO,↓aN,↓aM,↓rP,↓r5,↓rY,LA,SE,Int.lt_irrefl]
 | succ q ih =>
  intro i m o len hq hm hlen ho
  obtain _ | m:=m; omega
  subst hlen
  have hc:(i:Int) < a.nx.length:=by omega
  have kc_s:=@wA L a i sa hac hL
  have ih':=ih (i + 1) m (o ++ [txt (accG a (i:Nat)).1]) (o.length + 1) (by omega) (by omega) (by simp) (by simp; omega)
  rw [show ((i + 1:Nat):Int) = (i:Int) + 1 by omega] at ih'
  simp only [List.append_assoc,List.singleton_append] at ih'
  rw [aNV]
  clear ih
  generalize FS a q (i + 1) = w2 at *
  generalize accG a (i:Nat) = r at *
  obtain ⟨w,b⟩:=r
  simp only at kc_s ih' ⊢
  rw [G2]
  simp only [BY,Tryz.f42,SLM,simprocAttr]
  simp -implicitDefEqProofs (maxSteps:=2000000) (disch:=try exact Dz) only [↓DN,↓kAsg,↓kRet,UP,simprocAttr,↓aU,↓IW,↓aV,↓wK,↓aO,↓aN,↓aM,↓rP,↓r5,↓rY,LA,SE,hc,↓kc_s,gC,qR,List.length_append,↓ih']
theorem aG7 {L n:Nat} (hn:13 ≤ n) (a:Aut) (hs:a8 a.nx) (hac:a.ac.length ≤ 4294967296) (hL:2 ^ 60 ≤ L):aA env L n 42 [.agg [nI a.al,.d (.ivs a.nx.length (rowsD a.nx)),.d (.ivs a.ac.length (bools a.ac))]] [] = some (.d (.ivs (NP a).length (aC (NP a))),[]):=by
 have hrl:=hs.1
 unfold NP
 cases hv:eX a.al a.nx a.ac with
 | false =>
  simp only [Bool.false_eq_true,if_false,List.length_nil,oZ]
  obtain _ | n:=n; omega
  rw [Q6]
  simp only [HM,Tryz.f42,SLM,simprocAttr]
  simp -implicitDefEqProofs (maxSteps:=2000000) (disch:=try exact Dz) only [↓DN,↓kAsg,↓kRet,UP,simprocAttr,↓aU,↓IW,↓wA,↓aV,↓wK,↓aO,↓aN,↓aM,↓rP,↓r5,↓rY,LA,hv]
 | true =>
  have htr:=aEt (a:=a) hv
  obtain ⟨sa,wa,a1,a2,a3⟩:=b6 htr
  have hl:=MN (a:=a) hv
  have loop_c:=fun {R:Type} {n:Nat} {k:Exit → List A → H → Option R} (hn:12 ≤ n) => @aCU R L n hn hL (d8 a) htr k (d8 a).nx.length 0 L [] 0 (by omega) (by omega) rfl (by simp; omega)
  rw [List.nil_append,aOo hv] at loop_c
  have kc_t:=@IW L a hv hL
  simp only [if_true,Int.natCast_zero,oZ] at loop_c ⊢
  have hsn:=sa.1
  clear htr wa
  generalize (d8 a) = x at *
  generalize eB a = w at *
  have e4:(aC w).take w.length = aC w:=gC (Nat.le_refl _)
  obtain _ | n:=n; omega
  rw [Q6]
  simp only [HM,Tryz.f42,SLM,simprocAttr]
  simp -implicitDefEqProofs (maxSteps:=2000000) (disch:=try exact Dz) only [↓DN,↓kAsg,↓kRet,UP,simprocAttr,↓aU,↓wA,↓aV,↓wK,↓aO,↓aN,↓aM,↓rP,↓r5,↓rY,LA,SE,hv,e4,↓kc_t,↓loop_c]
theorem eD {L:Nat} (a:Aut) (hs:a8 a.nx) (hac:a.ac.length ≤ 4294967296) (hL:2 ^ 60 ≤ L):KC 13 L 42 [.agg [nI a.al,.d (.ivs a.nx.length (rowsD a.nx)),.d (.ivs a.ac.length (bools a.ac))]] (.d (.ivs (NP a).length (aC (NP a)))):=ks rfl (fun hn => aG7 hn a hs hac hL) rfl (.inr rfl)
def midS (ls:List Int) (n:Nat):Nat → Nat → List Str → Nat × List Str
 | 0,i,o => (i,o)
 | j + 1,i,o => if i < o.length ∧ (o.getD i []).length < n then midS ls n j (i + 1) (o ++ chG ls (o.getD i [])) else (i,o)
def midT (n i:Nat) (o:List Str):Prop:=i < o.length ∧ (o.getD i []).length < n
theorem RP {ls:List Int} {n j i:Nat} {o:List Str} (h:¬ midT n i o):midS ls n j i o = (i,o):=by
 cases j with
 | zero => rfl
 | succ j => exact if_neg h
theorem aON {ls:List Int} {n j i:Nat} {o:List Str} (h:midT n i o):midS ls n (j + 1) i o = midS ls n j (i + 1) (o ++ chG ls (o.getD i [])):=if_pos h
theorem aMr {ls:List Int} {n:Nat}:∀ (todo pre acc:List Str) (j:Nat),(∀ w ∈ todo,w.length < n) → midS ls n (todo.length + j) pre.length (pre ++ todo ++ acc) = midS ls n j (pre.length + todo.length) (pre ++ todo ++ acc ++ todo.flatMap (chG ls))
 | [],pre,acc,j,_ => by simp
 | w :: todo,pre,acc,j,h => by
  have hg:(pre ++ w :: todo ++ acc).getD pre.length [] = w:=by simp [List.getD_eq_getElem?_getD]
  have hl:pre.length < (pre ++ w :: todo ++ acc).length:=by simp only [List.length_append,List.length_cons]; omega
  rw [show (w :: todo).length + j = (todo.length + j) + 1 by rw [List.length_cons]; omega,aON ⟨hl,by rw [hg]; exact h w List.mem_cons_self⟩,hg]
  have e1:pre ++ w :: todo ++ acc ++ chG ls w = (pre ++ [w]) ++ todo ++ (acc ++ chG ls w):=by simp
  have e2:pre.length + 1 = (pre ++ [w]).length:=by rw [List.length_append,List.length_singleton]
  rw [e1,e2,aMr todo (pre ++ [w]) (acc ++ chG ls w) j (fun v hv => h v (List.mem_cons_of_mem _ hv))]
  have e3:(pre ++ [w]).length + todo.length = pre.length + (w :: todo).length:=by rw [List.length_append,List.length_singleton,List.length_cons]; omega
  rw [e3]
  simp
theorem aMB {ls:List Int} {n:Nat}:∀ (k:Nat),k ≤ n → ∃ p,midG ls k = p ++ lvG ls k ∧ ∀ j,midS ls n (p.length + j) 0 [[]] = midS ls n j p.length (midG ls k)
 | 0,_ => ⟨[],rfl,fun j => by rw [List.length_nil,Nat.zero_add]; rfl⟩
 | k + 1,hk => by
  obtain ⟨p,h1,h2⟩:=aMB (ls:=ls) (n:=n) k (by omega)
  refine ⟨midG ls k,rfl,fun j => ?_⟩
  rw [show (midG ls k).length = p.length + (lvG ls k).length by rw [h1,List.length_append],Nat.add_assoc,h2,h1]
  have:=aMr (ls:=ls) (n:=n) (lvG ls k) p [] j (fun w hw => by have:=(OM k w hw).1; omega)
  rw [List.append_nil] at this
  rw [this,← List.length_append,← h1]
  rfl
theorem aOU {ls:List Int} {n:Nat}:∀ (s i:Nat) (o:List Str),o.length ≤ (midS ls n s i o).2.length
 | 0,_,_ => Nat.le_refl _
 | s + 1,i,o => by
  unfold midS
  split
  ·have:=aOU (ls:=ls) (n:=n) s (i + 1) (o ++ chG ls (o.getD i []))
   rw [List.length_append] at this; omega
  ·exact Nat.le_refl _
theorem aNR {ls:List Int} {n s:Nat}:∀ (t i:Nat) (o:List Str),midS ls n (t + s) i o = midS ls n s (midS ls n t i o).1 (midS ls n t i o).2
 | 0,i,o => by rw [Nat.zero_add]; rfl
 | t + 1,i,o => by
  by_cases h:midT n i o
  ·have e:∀ u,midS ls n (u + 1) i o = midS ls n u (i + 1) (o ++ chG ls (o.getD i [])):=fun u => if_pos h
   rw [show t + 1 + s = (t + s) + 1 by omega,e,e,aNR t]
  ·rw [RP h,RP h]
   exact (RP h).symm
theorem aYq {ls:List Int} {n:Nat}:∃ i,midS ls n i 0 [[]] = (i,midG ls n) ∧ ¬ midT n i (midG ls n) ∧ i ≤ (midG ls n).length ∧ ∀ t,t ≤ i → (midS ls n t 0 [[]]).2.length ≤ (midG ls n).length:=by
 obtain ⟨p,h1,h2⟩:=aMB (ls:=ls) n (Nat.le_refl _)
 have h0:=h2 0
 rw [Nat.add_zero] at h0
 have h0:midS ls n p.length 0 [[]] = (p.length,midG ls n):=h0
 refine ⟨p.length,h0,?_,by rw [h1,List.length_append]; omega,fun t ht => ?_⟩
 ·rintro ⟨h3,h4⟩
  rw [List.getD_eq_getElem?_getD,List.getElem?_eq_getElem h3] at h4
  have h4:((midG ls n)[p.length]).length < n:=h4
  have h5:(midG ls n)[p.length] ∈ lvG ls n:=by
   have e:(midG ls n)[p.length]? = (lvG ls n)[0]?:=by
    rw [h1,List.getElem?_append_right (Nat.le_refl _),Nat.sub_self]
   rw [List.getElem?_eq_getElem h3] at e
   exact List.mem_of_getElem? e.symm
  have:=(OM n _ h5).1
  omega
 ·have:=aNR (ls:=ls) (n:=n) (s:=p.length - t) t 0 [[]]
  rw [show t + (p.length - t) = p.length by omega,h0] at this
  have h3:=aOU (ls:=ls) (n:=n) (p.length - t) (midS ls n t 0 [[]]).1 (midS ls n t 0 [[]]).2
  rw [← this] at h3
  exact h3
theorem wU {R:Type} {L n:Nat} (hn:2 ≤ n) (hL:2 ^ 60 ≤ L) {ls:List Int} (hls:∀ l ∈ ls,0 ≤ l ∧ l ≤ 5) (hl:ls.length ≤ 6) {x:Int} {i:Nat} {w:Str} (hw:w.length ≤ 100000) {k:Exit → List A → H → Option R}:∀ (j q m:Nat) (o:List Str) (len:Nat) (hq:q + j = ls.length) (hm:j < m) (hlen:len = o.length) (ho:o.length + j ≤ 100000) (hi:i < o.length) (hg:o.getD i [] = w),
  aJ env (aA env L n) L 0 [] Bz10 (iI 1) (U1 (Z1 (U2 (Z4 (Z1 (U32 (U4 (U2 ([]))))))))) m (Y1 (nI x :: Y2 (.d .nils :: .sl 0 0 0 len :: .d (.ivs ls.length (ints ls)) :: nI (i:Int) :: nI (q:Int) :: Y32 (Y4 (Y2 ([])))))) [.arr (aC o) 1 0] k
  = k (.exit 2) (Y1 (nI x :: Y2 (.d .nils :: .sl 0 0 0 (o ++ chG (ls.drop q) w).length :: .d (.ivs ls.length (ints ls)) :: nI (i:Int) :: nI (ls.length) :: Y32 (Y4 (Y2 ([])))))) [.arr (aC (o ++ chG (ls.drop q) w)) 1 0]:=by
 intro j
 induction j with
 | zero =>
  intro q m o len hq hm hlen ho hi hg
  obtain _ | m:=m; omega
  obtain rfl:q = ls.length:=by omega
  subst hlen
  have e:o ++ chG (ls.drop ls.length) w = o:=by simp [chG]
  rw [e]
  rw [IZ]
  simp only [FI,Tryz.f44,SLM,simprocAttr]
  simp -implicitDefEqProofs (maxSteps:=2000000) (disch:=try exact Dz) only [↓DN,↓kAsg,↓kRet,UP,simprocAttr,↓bF,↓dK,LA,Int.lt_irrefl]
 | succ j ih =>
  intro q m o len hq hm hlen ho hi hg
  obtain _ | m:=m; omega
  subst hlen
  have hk:q < ls.length:=by omega
  have hc:(q:Int) < ls.length:=by omega
  have hq0:(0:Int) ≤ q:=by omega
  have hi0:(0:Int) ≤ i:=by omega
  have hi1:(i:Int) < o.length:=by omega
  have hmem:ls.getD q 0 ∈ ls:=by rw [List.getD_eq_getElem?_getD,List.getElem?_eq_getElem hk]; exact List.getElem_mem _
  obtain ⟨b0,b1⟩:=hls _ hmem
  have e:o ++ chG (ls.drop q) w = (o ++ [w ++ [dY (ls.getD q 0)]]) ++ chG (ls.drop (q + 1)) w:=by
   rw [dB hk (d:=0)]; simp [chG]
  have hg2:(o ++ [w ++ [dY (ls.getD q 0)]]).getD i [] = w:=by
   rw [List.getD_eq_getElem?_getD,List.getElem?_append_left hi,← List.getD_eq_getElem?_getD,hg]
  have ih':=ih (q + 1) m (o ++ [w ++ [dY (ls.getD q 0)]]) (o.length + 1) (by omega) (by omega) (by simp) (by simp; omega) (by simp; omega) hg2
  rw [show ((q + 1:Nat):Int) = (q:Int) + 1 by omega] at ih'
  have kc_t:=@dK L (ls.getD q 0) b0 b1
  rw [e]
  clear ih e hg2 hmem hls
  generalize hb:ls.getD q 0 = b at *
  generalize o ++ [w ++ [dY b]] ++ chG (ls.drop (q + 1)) w = z at *
  rw [IZ]
  simp only [FI,Tryz.f44,SLM,simprocAttr]
  simp -implicitDefEqProofs (maxSteps:=2000000) (disch:=try exact Dz) only [↓DN,↓kAsg,↓kRet,UP,simprocAttr,↓bF,LA,SE,hc,hq0,hi0,hi1,hb,hg,↓kc_t,qR,List.length_append,Int.toNat_natCast,Nat.sub_self,List.range'_zero,↓ih']
theorem aAt {R:Type} {L n:Nat} (hn:2 ≤ n) (hL:2 ^ 60 ≤ L) {ls:List Int} (hls:∀ l ∈ ls,0 ≤ l ∧ l ≤ 5) (hl:ls.length ≤ 6) {x:Nat} (hx:x ≤ 1000) {k:Exit → List A → H → Option R}:∀ (j i m:Nat) (o:List Str) (len:Nat) (hm:j < m) (hlen:len = o.length) (ho:o.length ≤ 90000) (hz:∀ t,t ≤ j → (midS ls x t i o).2.length ≤ 90000) (hstop:¬ midT x (midS ls x j i o).1 (midS ls x j i o).2) (hi:i ≤ 90000),
  aJ env (aA env L n) L 0 [] Bz10 (iI 0) Bz36 m (Y1 (nI x :: Y2 (.d .nils :: .sl 0 0 0 len :: .d (.ivs ls.length (ints ls)) :: nI (i:Int) :: Y32 (Y4 (Y2 (Y1 ([]))))))) [.arr (aC o) 1 0] k
  = k (.exit 0) (Y1 (nI x :: Y2 (.d .nils :: .sl 0 0 0 (midS ls x j i o).2.length :: .d (.ivs ls.length (ints ls)) :: nI ((midS ls x j i o).1:Int) :: Y32 (Y4 (Y2 (Y1 ([]))))))) [.arr (aC (midS ls x j i o).2) 1 0]:=by
 have last:∀ (i m:Nat) (o:List Str) (len:Nat),¬ midT x i o → 0 < m → len = o.length → aJ env (aA env L n) L 0 [] Bz10 (iI 0) Bz36 m (Y1 (nI x :: Y2 (.d .nils :: .sl 0 0 0 len :: .d (.ivs ls.length (ints ls)) :: nI (i:Int) :: Y32 (Y4 (Y2 (Y1 ([]))))))) [.arr (aC o) 1 0] k
  = k (.exit 0) (Y1 (nI x :: Y2 (.d .nils :: .sl 0 0 0 o.length :: .d (.ivs ls.length (ints ls)) :: nI (i:Int) :: Y32 (Y4 (Y2 (Y1 ([]))))))) [.arr (aC o) 1 0]:=by
  intro i m o len hs hm hlen
  obtain _ | m:=m; omega
  subst hlen
  have hi0:(0:Int) ≤ i:=by omega
  by_cases hc:(i:Int) < o.length
  ·have hw:¬ (((o.getD i []).length:Nat):Int) < x:=by
    intro h
    exact hs ⟨by omega,by omega⟩
   rw [wR]
   simp only [vV,Tryz.f44,SLM,simprocAttr]
   simp -implicitDefEqProofs (maxSteps:=2000000) (disch:=try exact Dz) only [↓DN,↓kAsg,↓kRet,UP,simprocAttr,↓bF,↓dK,↓wU,LA,SE,hc,hi0,hw,Int.toNat_natCast]
  ·rw [wR]
   simp only [vV,Tryz.f44,SLM,simprocAttr]
   simp -implicitDefEqProofs (maxSteps:=2000000) (disch:=try exact Dz) only [↓DN,↓kAsg,↓kRet,UP,simprocAttr,↓bF,↓dK,↓wU,LA,SE,hc]
 intro j
 induction j with
 | zero =>
  intro i m o len hm hlen ho hz hstop hi
  exact last i m o len hstop hm hlen
 | succ j ih =>
  intro i m o len hm hlen ho hz hstop hi
  by_cases hT:midT x i o
  ·have e:∀ t,midS ls x (t + 1) i o = midS ls x t (i + 1) (o ++ chG ls (o.getD i [])):=fun t => by
    exact aON hT
   have z1:=hz 1 (by omega)
   rw [e 0] at z1
   have z1:(o ++ chG ls (o.getD i [])).length ≤ 90000:=z1
   have ih':=ih (i + 1) (m - 1) (o ++ chG ls (o.getD i [])) _ (by omega) rfl z1 (fun t ht => by rw [← e]; exact hz (t + 1) (by omega)) (by rw [← e]; exact hstop) (by have:=hT.1; omega)
   rw [show ((i + 1:Nat):Int) = (i:Int) + 1 by omega] at ih'
   rw [e j]
   obtain _ | m:=m; omega
   subst hlen
   have hc:(i:Int) < o.length:=by have:=hT.1; omega
   have hi0:(0:Int) ≤ i:=by omega
   have hw:(((o.getD i []).length:Nat):Int) < x:=by have:=hT.2; omega
   have loop_c:=fun {R:Type} {n:Nat} {k:Exit → List A → H → Option R} (hn:2 ≤ n) => @wU R L n hn hL ls hls hl (x:Nat) i (o.getD i []) (by omega) k ls.length 0 L o o.length (by omega) (by omega) rfl (by omega) (by omega) rfl
   rw [List.drop_zero] at loop_c
   simp only [Int.natCast_zero,Nat.add_sub_cancel] at loop_c ih'
   clear ih last hz hstop e z1 hT
   generalize midS ls x j (i + 1) (o ++ chG ls (o.getD i [])) = z at *
   generalize o ++ chG ls (o.getD i []) = o2 at *
   rw [wR]
   simp only [vV,Tryz.f44,SLM,simprocAttr]
   simp -implicitDefEqProofs (maxSteps:=2000000) (disch:=try exact Dz) only [↓DN,↓kAsg,↓kRet,UP,simprocAttr,↓bF,↓dK,LA,SE,hc,hi0,hw,Int.toNat_natCast,↓loop_c,↓ih']
  ·rw [RP hT]
   exact last i m o len hT (by omega) hlen
theorem aId {L n:Nat} (hn:3 ≤ n) (al:Int) (x:Nat) (hx:x ≤ 3) (hL:2 ^ 60 ≤ L):aA env L n 44 [nI al,nI x] [] = some (.d (.ivs (midG (aB al) x).length (aC (midG (aB al) x))),[]):=by
 obtain ⟨i,h1,h2,h3,h4⟩:=aYq (ls:=aB al) (n:=x)
 have hl:=eF al
 have hsm:=MU hl x hx
 have loop_c:=fun {R:Type} {n:Nat} {k:Exit → List A → H → Option R} (hn:2 ≤ n) => @aAt R L n hn hL (aB al) eC hl x (by omega) k i 0 L [[]] 1 (by omega) rfl (by simp) (fun t ht => by have:=h4 t ht; omega) (by rw [h1]; exact h2) (by omega)
 rw [h1] at loop_c
 have e1:aC [[]] = [.str []]:=rfl
 rw [e1] at loop_c
 simp only [Int.natCast_zero] at loop_c
 clear h1 h2 h3 h4
 generalize midG (aB al) x = w at *
 generalize (i:Int) = i at *
 have e4:(aC w).take w.length = aC w:=gC (Nat.le_refl _)
 obtain _ | n:=n; omega
 rw [aIn]
 simp only [X6,Tryz.f44,SLM,simprocAttr]
 simp -implicitDefEqProofs (maxSteps:=2000000) (disch:=try exact Dz) only [↓DN,↓kAsg,↓kRet,UP,simprocAttr,↓bF,↓dK,LA,SE,e4,↓loop_c]
theorem eT {L:Nat} (al:Int) (x:Nat) (hx:x ≤ 3) (hL:2 ^ 60 ≤ L):KC 3 L 44 [nI al,nI x] (.d (.ivs (midG (aB al) x).length (aC (midG (aB al) x)))):=ks rfl (fun hn => aId hn al x hx hL) rfl (.inr rfl)
theorem aGn {L n:Nat} (hn:3 ≤ n) (v w:List UInt8) (hv:fN v = true) (hw:fN w = true) (hL:2 ^ 60 ≤ L):aA env L n 128 [.d (.str v),.d (.str w)] [] = some (.d (.bool (decide (cmpX v w < 0))),[]):=by
 have e:=NG (x:=v) (y:=w)
 have bv:v.length ≤ 50000:=by unfold fN at hv; simp only [Bool.and_eq_true,decide_eq_true_eq] at hv; exact hv.1
 have bw:w.length ≤ 50000:=by unfold fN at hw; simp only [Bool.and_eq_true,decide_eq_true_eq] at hw; exact hw.1
 by_cases h1:(v.length:Int) < w.length
 ·rw [decide_eq_true (e.2 (.inl (by omega)))]
  obtain _ | n:=n; omega
  rw [EK]
  simp only [yS,Tryz.f128,SLM,simprocAttr]
  simp -implicitDefEqProofs (maxSteps:=2000000) (disch:=try exact Dz) only [↓DN,↓kAsg,↓kRet,UP,simprocAttr,↓IF,hv,hw,h1]
 ·by_cases h2:(v.length:Int) = w.length
  ·have e2:decide (cmpX v w < 0) = Op.bytesLess v w:=by
    cases hb:Op.bytesLess v w with
    | true => exact decide_eq_true (e.2 (.inr ⟨by omega,hb⟩))
    | false =>
     refine decide_eq_false fun h => ?_
     rcases e.1 h with h | ⟨_,h⟩
     ·omega
     ·rw [hb] at h; cases h
   rw [e2]
   obtain _ | n:=n; omega
   rw [EK]
   simp only [yS,Tryz.f128,SLM,simprocAttr]
   simp -implicitDefEqProofs (maxSteps:=2000000) (disch:=try exact Dz) only [↓DN,↓kAsg,↓kRet,UP,simprocAttr,↓IF,hv,hw,h1,h2,Int.lt_irrefl,beq_self_eq_true]
  ·rw [decide_eq_false fun h => by rcases e.1 h with h | ⟨h,_⟩ <;> omega]
   obtain _ | n:=n; omega
   rw [EK]
   simp only [yS,Tryz.f128,SLM,simprocAttr]
   simp -implicitDefEqProofs (maxSteps:=2000000) (disch:=try exact Dz) only [↓DN,↓kAsg,↓kRet,UP,simprocAttr,↓IF,hv,hw,h1,h2]
theorem wM {L:Nat} (v w:List UInt8) (hv:fN v = true) (hw:fN w = true) (hL:2 ^ 60 ≤ L):KC 3 L 128 [.d (.str v),.d (.str w)] (.d (.bool (decide (cmpX v w < 0)))):=ks rfl (fun hn => aGn hn v w hv hw hL) rfl (.inl rfl)
theorem aFN {R:Type} {L n:Nat} (hn:4 ≤ n) (hL:2 ^ 60 ≤ L) {l:List Str} {w:Str} (hs:rV l) (hw:fN w = true) (hok:∀ x ∈ l,fN x = true) (hl:l.length ≤ 10000) {k:Exit → List A → H → Option R}:∀ (j lo hi m:Nat) (hj:hi - lo ≤ j) (hm:j < m) (h1:lo ≤ bH l w) (h2:bH l w ≤ hi) (h3:hi ≤ l.length),
  aJ env (aA env L n) L 0 [] Bz48 (uU 0) (Z2 (U2 (Z2 (Z1 (U16 (U4 ([]))))))) m (.d (.ivs l.length (aC l)) :: .d (.str w) :: Y2 (nI 0 :: nI (lo:Int) :: nI (hi:Int) :: Y16 (Y4 ([])))) [] k
  = k (.exit 0) (.d (.ivs l.length (aC l)) :: .d (.str w) :: Y2 (nI 0 :: nI (bH l w:Int) :: nI (bH l w:Int) :: Y16 (Y4 ([])))) []:=by
 intro j
 induction j with
 | zero =>
  intro lo hi m hj hm h1 h2 h3
  obtain _ | m:=m; omega
  obtain rfl:lo = bH l w:=by omega
  obtain rfl:hi = bH l w:=by omega
  rw [r6]
  simp only [s6,Tryz.f89,SLM,simprocAttr]
  simp -implicitDefEqProofs (maxSteps:=2000000) (disch:=try exact Dz) only [↓DN,↓kAsg,↓kRet,UP,simprocAttr,↓wM,LA,SE,Int.lt_irrefl]
 | succ j ih =>
  intro lo hi m hj hm h1 h2 h3
  obtain _ | m:=m; omega
  by_cases hc:(lo:Int) < hi
  ·obtain ⟨mid,hmid⟩:∃ mid:Nat,mid = (lo + hi) / 2:=⟨_,rfl⟩
   have e1:((lo:Int) + (hi:Int)).tdiv 2 = (mid:Int):=by
    rw [Int.tdiv_eq_ediv_of_nonneg (by omega)]; omega
   have hk:mid < l.length:=by omega
   have hm1:(mid:Int) < l.length:=by omega
   have hm0:(0:Int) ≤ mid:=by omega
   have hx:fN (l.getD mid []) = true:=by
    rw [List.getD_eq_getElem?_getD,List.getElem?_eq_getElem hk]; exact hok _ (List.getElem_mem _)
   have kc_b:=@wM L (l.getD mid []) w hx hw hL
   have hp:=B9 hs w mid hk
   have hg:l[mid] = l.getD mid []:=by rw [List.getD_eq_getElem?_getD,List.getElem?_eq_getElem hk]; rfl
   rw [hg] at hp
   have hlo:(lo:Int) ≤ 10000:=by omega
   have hhi:(hi:Int) ≤ 10000:=by omega
   by_cases hb:cmpX (l.getD mid []) w < 0
   ·have ih':=ih (mid + 1) hi m (by omega) (by omega) (by have:=hp.1 hb; omega) h2 h3
    rw [show ((mid + 1:Nat):Int) = (mid:Int) + 1 by omega] at ih'
    rw [decide_eq_true hb] at kc_b
    clear ih hok hp hg hb hx hs
    generalize hgx:l.getD mid [] = x at *
    rw [r6]
    simp only [s6,Tryz.f89,SLM,simprocAttr]
    simp -implicitDefEqProofs (maxSteps:=2000000) (disch:=try exact Dz) only [↓DN,↓kAsg,↓kRet,UP,simprocAttr,LA,SE,hc,e1,hm1,hm0,hgx,Int.toNat_natCast,↓kc_b,↓ih']
   ·have ih':=ih lo mid m (by omega) (by omega) h1 (by have:=mt hp.2 hb; omega) (by omega)
    rw [decide_eq_false hb] at kc_b
    clear ih hok hp hg hb hx hs
    generalize hgx:l.getD mid [] = x at *
    rw [r6]
    simp only [s6,Tryz.f89,SLM,simprocAttr]
    simp -implicitDefEqProofs (maxSteps:=2000000) (disch:=try exact Dz) only [↓DN,↓kAsg,↓kRet,UP,simprocAttr,LA,SE,hc,e1,hm1,hm0,hgx,Int.toNat_natCast,↓kc_b,↓ih']
  ·obtain rfl:lo = bH l w:=by omega
   obtain rfl:hi = bH l w:=by omega
   clear ih
   rw [r6]
   simp only [s6,Tryz.f89,SLM,simprocAttr]
   simp -implicitDefEqProofs (maxSteps:=2000000) (disch:=try exact Dz) only [↓DN,↓kAsg,↓kRet,UP,simprocAttr,↓wM,LA,SE,hc]
theorem YS {L n:Nat} (hn:5 ≤ n) (l:List Str) (w:List UInt8) (hs:rV l) (hw:fN w = true) (hok:∀ x ∈ l,fN x = true) (hl:l.length ≤ 10000) (hL:2 ^ 60 ≤ L):aA env L n 89 [.d (.ivs l.length (aC l)),.d (.str w)] [] = some (nI (bH l w),[]):=by
 have loop_c:=fun {R:Type} {n:Nat} {k:Exit → List A → H → Option R} (hn:4 ≤ n) => @aFN R L n hn hL l w hs hw hok hl k l.length 0 l.length L (by omega) (by omega) (by omega) aKy (by omega)
 simp only [Int.natCast_zero] at loop_c
 obtain _ | n:=n; omega
 rw [aLl]
 simp only [aAC,Tryz.f89,SLM,simprocAttr]
 simp -implicitDefEqProofs (maxSteps:=2000000) (disch:=try exact Dz) only [↓DN,↓kAsg,↓kRet,UP,simprocAttr,↓wM,LA,SE,↓loop_c]
theorem u4 {L:Nat} (l:List Str) (w:List UInt8) (hs:rV l) (hw:fN w = true) (hok:∀ x ∈ l,fN x = true) (hl:l.length ≤ 10000) (hL:2 ^ 60 ≤ L):KC 5 L 89 [.d (.ivs l.length (aC l)),.d (.str w)] (nI (bH l w)):=ks rfl (fun hn => YS hn l w hs hw hok hl hL) rfl (.inl rfl)
theorem K9 {L:Nat} (l:List Str) (w:List UInt8) (hs:rV l) (hw:fN w = true) (hok:∀ x ∈ l,fN x = true) (hl:l.length ≤ 10000) (hL:2 ^ 60 ≤ L):KT 5 L 89 [.d (.ivs l.length (aC l)),.d (.str w)] (nI (bH l w)):=fun hn => bY (YS hn l w hs hw hok hl hL) rfl
theorem qS {L:Nat} {id0 g0 o0 len0:Nat} {w:List UInt8}:KV L 89 [.sl id0 g0 o0 len0,.d (.str w)]:=aF ET
theorem aLg {R:Type} {L n:Nat} (hn:1 ≤ n) {l:List Str} {w:Str} {p:Nat} (hl:l.length ≤ 10000) (hp:p ≤ l.length) {k:Exit → List A → H → Option R}:∀ (j i m:Nat) (y:Str) (o:List Str) (len:Nat) (hi:i = p + j) (hil:i ≤ l.length) (hm:j < m) (ho:o = l.take i ++ y :: l.drop i) (hlen:len = l.length + 1),
  aJ env (aA env L n) L (1) [] Bz47 (AS 0) (Z2 (U2 (Z2 (Z1 (U32 (U8 ([]))))))) m (.sl 0 1 0 len :: .d (.str w) :: Y2 (.d .nils :: nI (p:Int) :: nI (i:Int) :: Y32 (Y8 ([])))) [.arr (aC o) 1 1] k
  = k (.exit 0) (.sl 0 1 0 len :: .d (.str w) :: Y2 (.d .nils :: nI (p:Int) :: nI (p:Int) :: Y32 (Y8 ([])))) [.arr (aC (l.take p ++ (if j = 0 then y else l.getD p []) :: l.drop p)) 1 1]:=by
 intro j
 induction j with
 | zero =>
  intro i m y o len hi hil hm ho hlen
  obtain _ | m:=m; omega
  obtain rfl:i = p:=by omega
  rw [if_pos rfl,← ho]
  rw [RW]
  simp only [OG,Tryz.f45,SLM,simprocAttr]
  simp -implicitDefEqProofs (maxSteps:=2000000) (disch:=try exact Dz) only [↓DN,↓kAsg,↓kRet,UP,simprocAttr,↓u4,↓K9,↓qS,LA,SE,Int.lt_irrefl]
 | succ j ih =>
  intro i m y o len hi hil hm ho hlen
  obtain _ | m:=m; omega
  have hc:(p:Int) < i:=by omega
  have hi0:(0:Int) ≤ i:=by omega
  have hi1:(0:Int) ≤ (i:Int) - 1:=by omega
  have hib:(i:Int) ≤ 10000:=by omega
  have hol:o.length = l.length + 1:=by rw [ho,List.length_append,List.length_take,List.length_cons,List.length_drop]; omega
  have hlo:len = o.length:=by omega
  have hio:i < o.length:=by omega
  have hio1:(i:Int) < o.length:=by omega
  have hio2:(i:Int) - 1 < o.length:=by omega
  have e1:((i:Int) - 1).toNat = i - 1:=by omega
  have hg:o.getD (i - 1) [] = l.getD (i - 1) []:=by
   rw [ho,List.getD_eq_getElem?_getD,List.getElem?_append_left (by rw [List.length_take]; omega),List.getElem?_take,if_pos (by omega),← List.getD_eq_getElem?_getD]
  have hd:l.drop (i - 1) = l.getD (i - 1) [] :: l.drop i:=by
   rw [dB (i:=i - 1) (by omega) (d:=[]),show i - 1 + 1 = i by omega]
  have hset:o.set i (l.getD (i - 1) []) = l.take (i - 1) ++ l.getD (i - 1) [] :: l.drop (i - 1):=by
   rw [ho,List.set_append_right _ _ (by rw [List.length_take]; omega),show i - (l.take i).length = 0 by rw [List.length_take]; omega,List.set_cons_zero,hd]
   have:l.take i = l.take (i - 1) ++ [l.getD (i - 1) []]:=by
    obtain ⟨q,rfl⟩:∃ q,i = q + 1:=⟨i - 1,by omega⟩
    rw [Nat.add_sub_cancel,List.take_add_one,List.getElem?_eq_getElem (by omega),List.getD_eq_getElem?_getD,List.getElem?_eq_getElem (by omega)]; rfl
   rw [this,List.append_assoc]; rfl
  have ih':=ih (i - 1) m (l.getD (i - 1) []) (o.set i (l.getD (i - 1) [])) len (by omega) (by omega) (by omega) hset hlen
  rw [show ((i - 1:Nat):Int) = (i:Int) - 1 by omega] at ih'
  have hy:(if j = 0 then l.getD (i - 1) [] else l.getD p []) = l.getD p []:=by
   split
   ·rw [show i - 1 = p by omega]
   ·rfl
  rw [hy] at ih'
  rw [if_neg (by omega)]
  clear ih hd hset hy ho
  generalize l.take p ++ l.getD p [] :: l.drop p = z at *
  generalize hgx:l.getD (i - 1) [] = x at *
  rw [RW]
  simp only [OG,Tryz.f45,SLM,simprocAttr]
  simp -implicitDefEqProofs (maxSteps:=2000000) (disch:=try exact Dz) only [↓DN,↓kAsg,↓kRet,UP,simprocAttr,↓u4,↓K9,↓qS,LA,SE,hc,hi0,hi1,hib,hio1,hio2,e1,hg,hgx,↓aCE,Int.toNat_natCast,↓ih']
theorem aN7 {L n:Nat} (hn:6 ≤ n) (hL:2 ^ 60 ≤ L) (l:List Str) (w:Str) (hs:rV l) (hw:fN w = true) (hok:∀ x ∈ l,fN x = true) (hl:l.length ≤ 10000):aA env L n 45 [.sl 0 0 0 l.length,.d (.str w)] [.arr (aC l) 1 0] = some (.sl 0 (if w ∈ l then 0 else 1) 0 (ordW l w).length,[.arr (aC (ordW l w)) 1 (if w ∈ l then 0 else 1)]):=by
 have kl_p:=@K9 L l w hs hw hok hl hL
 have hat:=aTG hs w
 have hle:=aKy (ws:=l) (w:=w)
 have hp0:(0:Int) ≤ (bH l w:Nat):=by omega
 have ht:(aC l).take l.length = aC l:=gC (Nat.le_refl _)
 unfold ordW
 by_cases hin:w ∈ l
 ·obtain ⟨h1,h2⟩:=hat.2 hin
  have h1:((bH l w:Nat):Int) < l.length:=by omega
  simp only [if_pos hin]
  clear hat hok hs
  generalize bH l w = p at *
  obtain _ | n:=n; omega
  rw [ST]
  simp only [MI,Tryz.f45,SLM,simprocAttr]
  simp -implicitDefEqProofs (maxSteps:=2000000) (disch:=try exact Dz) only [↓DN,↓kAsg,↓kRet,UP,simprocAttr,↓u4,↓qS,LA,SE,↓kl_p,h1,h2,hp0,Int.toNat_natCast,beq_self_eq_true]
 ·simp only [if_neg hin]
  have hlen:(l.take (bH l w) ++ w :: l.drop (bH l w)).length = l.length + 1:=by
   rw [List.length_append,List.length_take,List.length_cons,List.length_drop]; omega
  rw [hlen]
  have loop_c:=fun {R:Type} {n:Nat} {k:Exit → List A → H → Option R} (hn:1 ≤ n) => @aLg R L n hn l w (bH l w) hl hle k (l.length - bH l w) l.length L [] (l ++ [[]]) (l.length + 1) (by omega) (by omega) (by omega) (by rw [List.take_length,List.drop_length]) rfl
  have hset:∀ y,(l.take (bH l w) ++ y :: l.drop (bH l w)).set (bH l w) w = l.take (bH l w) ++ w :: l.drop (bH l w):=by
   intro y
   rw [List.set_append_right _ _ (by rw [List.length_take]; omega),show bH l w - (l.take (bH l w)).length = 0 by rw [List.length_take]; omega]; rfl
  have hyl:∀ y,(l.take (bH l w) ++ y :: l.drop (bH l w)).length = l.length + 1:=by
   intro y
   rw [List.length_append,List.length_take,List.length_cons,List.length_drop]; omega
  have hset:=hset (if l.length - bH l w = 0 then [] else l.getD (bH l w) [])
  have hyl:=hyl (if l.length - bH l w = 0 then [] else l.getD (bH l w) [])
  have h3:(l.length:Int) + 1 - 1 = l.length:=by omega
  have h4:((l.length + 1:Nat):Int) - 1 = l.length:=by omega
  have hpl:(bH l w:Nat) < l.length + 1:=by omega
  have hpl2:((bH l w:Nat):Int) < (l.length + 1:Nat):=by omega
  by_cases h1:((bH l w:Nat):Int) < l.length
  ·have h2:(l.getD (bH l w) [] == w) = false:=by
    have:¬ l.getD (bH l w) [] = w:=fun h => hin (hat.1 ⟨by omega,h⟩)
    simpa using this
   clear hat hok hs hlen
   generalize l.take (bH l w) ++ (if l.length - bH l w = 0 then [] else l.getD (bH l w) []) :: l.drop (bH l w) = z at *
   generalize l.take (bH l w) ++ w :: l.drop (bH l w) = z2 at *
   generalize bH l w = p at *
   obtain _ | n:=n; omega
   rw [ST]
   simp only [MI,Tryz.f45,SLM,simprocAttr]
   simp -implicitDefEqProofs (maxSteps:=2000000) (disch:=try exact Dz) only [↓DN,↓kAsg,↓kRet,UP,simprocAttr,↓u4,↓qS,LA,SE,↓kl_p,h1,h2,Bool.false_eq_true,h3,h4,hp0,ht,hpl,hpl2,hset,hyl,qR,↓aCE,↓loop_c,Int.toNat_natCast,List.length_append]
  ·clear hat hok hs hlen
   generalize l.take (bH l w) ++ (if l.length - bH l w = 0 then [] else l.getD (bH l w) []) :: l.drop (bH l w) = z at *
   generalize l.take (bH l w) ++ w :: l.drop (bH l w) = z2 at *
   generalize bH l w = p at *
   obtain _ | n:=n; omega
   rw [ST]
   simp only [MI,Tryz.f45,SLM,simprocAttr]
   simp -implicitDefEqProofs (maxSteps:=2000000) (disch:=try exact Dz) only [↓DN,↓kAsg,↓kRet,UP,simprocAttr,↓u4,↓qS,LA,SE,↓kl_p,h1,h3,h4,hp0,ht,hpl,hpl2,hset,hyl,qR,↓aCE,↓loop_c,Int.toNat_natCast,List.length_append]
structure Sok (o:List Str):Prop where
 s:rV o
 n:o.length ≤ 3000
 w:∀ x ∈ o,fN x = true
theorem aFi {f:Str → List Str → Bool × List Str} {ws:List Str} {P:List Str → Prop} (hf:∀ w ∈ ws,∀ o,P o → (f w o).1 = true → P (f w o).2):∀ (j q:Nat) (o:List Str),q + j = ws.length → P o → (run3 f ws j q o).1 = true → P (run3 f ws j q o).2.2
 | 0,_,_,_,ho,_ => ho
 | j + 1,q,o,hq,ho,h => by
  have hk:q < ws.length:=by omega
  have hm:ws.getD q [] ∈ ws:=by rw [List.getD_eq_getElem?_getD,List.getElem?_eq_getElem hk]; exact List.getElem_mem _
  cases hb:(f (ws.getD q []) o).1 with
  | false => rw [M8 hb] at h; cases h
  | true =>
   rw [HD hb] at h ⊢
   exact aFi hf j (q + 1) _ (by omega) (hf _ hm o ho hb) h
theorem aVD {o:List Str} {w x:Str} (h:x ∈ ordW o w):x ∈ o ∨ x = w:=aNG.1 ((aEn (List.Perm.refl o) w).mem_iff.1 h)
theorem aMV {c m:Str} {ends:List Str} (hw:∀ e ∈ ends,fN (c ++ m ++ e) = true):∀ e ∈ ends,∀ o,Sok o → (endS c m e o).1 = true → Sok (endS c m e o).2:=by
 intro e he o ho h
 unfold endS at h ⊢
 simp only [Bool.not_eq_true',decide_eq_false_iff_not] at h
 refine ⟨aKb ho.s _,Nat.le_of_not_lt h,fun x hx => ?_⟩
 rcases aVD hx with hx | rfl
 ·exact ho.w x hx
 ·exact hw e he
theorem aLZ {c:Str} {mids ends:List Str} (hw:∀ m ∈ mids,∀ e ∈ ends,fN (c ++ m ++ e) = true):∀ m ∈ mids,∀ o,Sok o → (midZ c ends m o).1 = true → Sok (midZ c ends m o).2 :=
 fun m hm o ho h => aFi (aMV (hw m hm)) ends.length 0 o (by omega) ho h
theorem kA {l:List Str} {k:Nat} (h:k < l.length):l.getD k [] ∈ l:=by
 rw [List.getD_eq_getElem?_getD,List.getElem?_eq_getElem h]; exact List.getElem_mem _
structure Parts (cov mids ends:List Str):Prop where
 w:∀ c ∈ cov,∀ m ∈ mids,∀ e ∈ ends,fN (c ++ m ++ e) = true
 c:∀ c ∈ cov,c.length ≤ 1000
 m:∀ c ∈ mids,c.length ≤ 1000
 e:∀ c ∈ ends,c.length ≤ 1000
 nc:cov.length ≤ 1000
 nm:mids.length ≤ 1000
 ne:ends.length ≤ 1000
theorem aZk {R:Type} {L n:Nat} {k:A → H → Option R} (hn:6 ≤ n) (hL:2 ^ 60 ≤ L) (o:List Str) (w:Str) (ho:Sok o) (hw:fN w = true):aW env (aA env L n) [.arr (aC o) 1 0] 45 [.sl 0 0 0 o.length,.d (.str w)] k = k (.sl 0 (if w ∈ o then 0 else 1) 0 (ordW o w).length) [.arr (aC (ordW o w)) 1 (if w ∈ o then 0 else 1)] :=
 V3 (h:=[.arr (aC o) 1 0]) (k:=k) (id:=0) (g2:=if w ∈ o then 0 else 1) (len:=(ordW o w).length) (cs2:=aC (ordW o w)) (e2:=1) rfl rfl KW (aN7 hn hL o w ho.s hw ho.w (by have:=ho.n; omega))
theorem aAD {R:Type} {L n:Nat} (hn:7 ≤ n) (hL:2 ^ 60 ≤ L) {cov mids ends:List Str} (hP:Parts cov mids ends) {i q:Nat} (hi:i < cov.length) (hq:q < mids.length) {k:Exit → List A → H → Option R}:∀ (j p m:Nat) (o:List Str) (len:Nat) (hp:p + j = ends.length) (hm:j < m) (hlen:len = o.length) (ho:Sok o),
  aJ env (aA env L n) L 0 [] Bz8 (eR 2) (U4 (Z8 (Z1 (U32 (U16 (U8 (U2 (U1 ([]))))))))) m (Y4 (.d .nils :: .d (.bool false) :: .d (.ivs cov.length (aC cov)) :: .d (.ivs ends.length (aC ends)) :: .d (.ivs mids.length (aC mids)) :: .sl 0 0 0 len :: nI (i:Int) :: nI (q:Int) :: nI (p:Int) :: Y32 (Y16 (Y8 (Y2 (Y1 ([]))))))) [.arr (aC o) 1 0] k
  = k (if (run3 (endS (cov.getD i []) (mids.getD q [])) ends j p o).1 = true then .exit 4 else .ret) (Y4 (.d .nils :: .d (.bool false) :: .d (.ivs cov.length (aC cov)) :: .d (.ivs ends.length (aC ends)) :: .d (.ivs mids.length (aC mids)) :: .sl 0 0 0 (run3 (endS (cov.getD i []) (mids.getD q [])) ends j p o).2.2.length :: nI (i:Int) :: nI (q:Int) :: nI ((run3 (endS (cov.getD i []) (mids.getD q [])) ends j p o).2.1:Int) :: Y32 (Y16 (Y8 (Y2 (Y1 ([]))))))) [.arr (aC (run3 (endS (cov.getD i []) (mids.getD q [])) ends j p o).2.2) 1 0]:=by
 intro j
 induction j with
 | zero =>
  intro p m o len hp hm hlen ho
  obtain _ | m:=m; omega
  obtain rfl:p = ends.length:=by omega
  subst hlen
  have e:∀ f,run3 f ends 0 ends.length o = (true,ends.length,o):=fun _ => rfl
  rw [e]
  simp only [if_true]
  rw [xF]
  simp only [vY,Tryz.f13,SLM,simprocAttr]
  simp -implicitDefEqProofs (maxSteps:=2000000) (disch:=try exact Dz) only [↓DN,↓kAsg,↓kRet,UP,simprocAttr,↓aU,↓eD,↓cZ,↓eT,↓aV,↓aO,↓aN,↓aM,LA,SE,Int.lt_irrefl]
 | succ j ih =>
  intro p m o len hp hm hlen ho
  obtain _ | m:=m; omega
  subst hlen
  have hpe:p < ends.length:=by omega
  have hc1:(p:Int) < ends.length:=by omega
  have hc2:(i:Int) < cov.length:=by omega
  have hc3:(q:Int) < mids.length:=by omega
  have hp0:(0:Int) ≤ p:=by omega
  have hi0:(0:Int) ≤ i:=by omega
  have hq0:(0:Int) ≤ q:=by omega
  have hw:=hP.w _ (kA hi) _ (kA hq) _ (kA hpe)
  have hcl:=hP.c _ (kA hi)
  have hml:=hP.m _ (kA hq)
  have hel:=hP.e _ (kA hpe)
  have hcm:(cov.getD i [] ++ mids.getD q []).length ≤ 2000:=by rw [List.length_append]; omega
  have hinv:=aMV (ends:=ends) (hP.w _ (kA hi) _ (kA hq)) _ (kA hpe) o ho
  have hol:=ho.n
  have hne:=hP.ne
  have kc_p:=fun {R:Type} {n:Nat} {k:A → H → Option R} (hn:6 ≤ n) => @aZk R L n k hn hL o (cov.getD i [] ++ mids.getD q [] ++ ends.getD p []) ho hw
  have hb:(endS (cov.getD i []) (mids.getD q []) (ends.getD p []) o) = (!decide (3000 < (ordW o (cov.getD i [] ++ mids.getD q [] ++ ends.getD p [])).length),ordW o (cov.getD i [] ++ mids.getD q [] ++ ends.getD p [])):=rfl
  have hz:=(aVr (ws:=o) (w:=cov.getD i [] ++ mids.getD q [] ++ ends.getD p [])).2
  by_cases hb1:3000 < (ordW o (cov.getD i [] ++ mids.getD q [] ++ ends.getD p [])).length
  ·have hb2:(3000:Int) < (ordW o (cov.getD i [] ++ mids.getD q [] ++ ends.getD p [])).length:=by omega
   rw [M8 (by rw [hb,decide_eq_true hb1]; rfl),hb]
   simp only [Bool.false_eq_true,if_false]
   clear ih hinv hb hw ho hP
   generalize (if cov.getD i [] ++ mids.getD q [] ++ ends.getD p [] ∈ o then 0 else 1) = g at *
   generalize ordW o (cov.getD i [] ++ mids.getD q [] ++ ends.getD p []) = o2 at *
   generalize hci:cov.getD i [] = c at *
   generalize hmi:mids.getD q [] = mm at *
   generalize hei:ends.getD p [] = e at *
   rw [xF]
   simp only [vY,Tryz.f13,SLM,simprocAttr]
   simp -implicitDefEqProofs (maxSteps:=2000000) (disch:=try exact Dz) only [↓DN,↓kAsg,↓kRet,UP,simprocAttr,↓aU,↓eD,↓cZ,↓eT,↓aV,↓aO,↓aN,↓aM,LA,SE,hc1,hc2,hc3,hp0,hi0,hq0,hb2,hci,hmi,hei,↓kc_p,Int.toNat_natCast,Nat.sub_self,List.range'_zero]
  ·have hb2:¬ (3000:Int) < (ordW o (cov.getD i [] ++ mids.getD q [] ++ ends.getD p [])).length:=by omega
   rw [HD (by rw [hb,decide_eq_false hb1]; rfl),hb]
   have ih':=ih (p + 1) m _ _ (by omega) (by omega) rfl (hinv (by rw [hb,decide_eq_false hb1]; rfl))
   rw [hb] at ih'
   rw [show ((p + 1:Nat):Int) = (p:Int) + 1 by omega] at ih'
   simp only at ih' ⊢
   clear ih hinv hb hw ho hP
   generalize (if cov.getD i [] ++ mids.getD q [] ++ ends.getD p [] ∈ o then 0 else 1) = g at *
   generalize ordW o (cov.getD i [] ++ mids.getD q [] ++ ends.getD p []) = o2 at *
   generalize run3 (endS (cov.getD i []) (mids.getD q [])) ends j (p + 1) o2 = z at *
   generalize hci:cov.getD i [] = c at *
   generalize hmi:mids.getD q [] = mm at *
   generalize hei:ends.getD p [] = e at *
   rw [xF]
   simp only [vY,Tryz.f13,SLM,simprocAttr]
   simp -implicitDefEqProofs (maxSteps:=2000000) (disch:=try exact Dz) only [↓DN,↓kAsg,↓kRet,UP,simprocAttr,↓aU,↓eD,↓cZ,↓eT,↓aV,↓aO,↓aN,↓aM,LA,SE,hc1,hc2,hc3,hp0,hi0,hq0,hb2,hci,hmi,hei,↓kc_p,Int.toNat_natCast,Nat.sub_self,List.range'_zero,↓ih']
theorem aBS {R:Type} {L n:Nat} (hn:7 ≤ n) (hL:2 ^ 60 ≤ L) {cov mids ends:List Str} (hP:Parts cov mids ends) {i:Nat} (hi:i < cov.length) {k:Exit → List A → H → Option R}:∀ (j p m:Nat) (o:List Str) (len:Nat) (hp:p + j = mids.length) (hm:j < m) (hlen:len = o.length) (ho:Sok o),
  aJ env (aA env L n) L 0 [] Bz8 (eR 1) (U4 (Z8 (U32 (U16 (U8 (U4 ([]))))))) m (Y4 (.d .nils :: .d (.bool false) :: .d (.ivs cov.length (aC cov)) :: .d (.ivs ends.length (aC ends)) :: .d (.ivs mids.length (aC mids)) :: .sl 0 0 0 len :: nI (i:Int) :: nI (p:Int) :: Y32 (Y16 (Y8 (Y4 ([])))))) [.arr (aC o) 1 0] k
  = k (if (run3 (midZ (cov.getD i []) ends) mids j p o).1 = true then .exit 2 else .ret) (Y4 (.d .nils :: .d (.bool false) :: .d (.ivs cov.length (aC cov)) :: .d (.ivs ends.length (aC ends)) :: .d (.ivs mids.length (aC mids)) :: .sl 0 0 0 (run3 (midZ (cov.getD i []) ends) mids j p o).2.2.length :: nI (i:Int) :: nI ((run3 (midZ (cov.getD i []) ends) mids j p o).2.1:Int) :: Y32 (Y16 (Y8 (Y4 ([])))))) [.arr (aC (run3 (midZ (cov.getD i []) ends) mids j p o).2.2) 1 0]:=by
 intro j
 induction j with
 | zero =>
  intro p m o len hp hm hlen ho
  obtain _ | m:=m; omega
  obtain rfl:p = mids.length:=by omega
  subst hlen
  have e:∀ f,run3 f mids 0 mids.length o = (true,mids.length,o):=fun _ => rfl
  rw [e]
  simp only [if_true]
  rw [xE]
  simp only [wJ,Tryz.f13,SLM,simprocAttr]
  simp -implicitDefEqProofs (maxSteps:=2000000) (disch:=try exact Dz) only [↓DN,↓kAsg,↓kRet,UP,simprocAttr,↓aU,↓eD,↓cZ,↓eT,↓aV,↓aO,↓aN,↓aM,LA,SE,Int.lt_irrefl]
 | succ j ih =>
  intro p m o len hp hm hlen ho
  obtain _ | m:=m; omega
  subst hlen
  have hpm:p < mids.length:=by omega
  have hc1:(p:Int) < mids.length:=by omega
  have hmn:=hP.nm
  have hne:=hP.ne
  have loop_c:=fun {R:Type} {n:Nat} {k:Exit → List A → H → Option R} (hn:7 ≤ n) => @aAD R L n hn hL cov mids ends hP i p hi hpm k ends.length 0 L o o.length (by omega) (by omega) rfl ho
  simp only [Int.natCast_zero] at loop_c
  have hinv:=aLZ (fun m hm => hP.w _ (kA hi) m hm) _ (kA hpm) o ho
  have hz:midZ (cov.getD i []) ends (mids.getD p []) o = ((run3 (endS (cov.getD i []) (mids.getD p [])) ends ends.length 0 o).1,(run3 (endS (cov.getD i []) (mids.getD p [])) ends ends.length 0 o).2.2):=rfl
  cases hb:(run3 (endS (cov.getD i []) (mids.getD p [])) ends ends.length 0 o).1 with
  | false =>
   rw [M8 (by rw [hz,hb]),hz]
   rw [hb] at loop_c
   simp only [Bool.false_eq_true,if_false] at loop_c ⊢
   clear ih hinv hz hb ho hP
   generalize run3 (endS (cov.getD i []) (mids.getD p [])) ends ends.length 0 o = z at *
   rw [xE]
   simp only [wJ,Tryz.f13,SLM,simprocAttr]
   simp -implicitDefEqProofs (maxSteps:=2000000) (disch:=try exact Dz) only [↓DN,↓kAsg,↓kRet,UP,simprocAttr,↓aU,↓eD,↓cZ,↓eT,↓aV,↓aO,↓aN,↓aM,LA,SE,hc1,↓loop_c]
  | true =>
   rw [HD (by rw [hz,hb]),hz]
   have ih':=ih (p + 1) m _ _ (by omega) (by omega) rfl (hinv (by rw [hz,hb]))
   rw [hz,show ((p + 1:Nat):Int) = (p:Int) + 1 by omega] at ih'
   rw [hb] at loop_c
   simp only [if_true] at loop_c ih' ⊢
   clear ih hinv hz hb ho hP
   generalize run3 (endS (cov.getD i []) (mids.getD p [])) ends ends.length 0 o = z at *
   generalize run3 (midZ (cov.getD i []) ends) mids j (p + 1) z.2.2 = z2 at *
   rw [xE]
   simp only [wJ,Tryz.f13,SLM,simprocAttr]
   simp -implicitDefEqProofs (maxSteps:=2000000) (disch:=try exact Dz) only [↓DN,↓kAsg,↓kRet,UP,simprocAttr,↓aU,↓eD,↓cZ,↓eT,↓aV,↓aO,↓aN,↓aM,LA,SE,hc1,↓loop_c,↓ih']
theorem aB7 {R:Type} {L n:Nat} (hn:7 ≤ n) (hL:2 ^ 60 ≤ L) {cov mids ends:List Str} (hP:Parts cov mids ends) {k:Exit → List A → H → Option R}:∀ (j p m:Nat) (o:List Str) (len:Nat) (hp:p + j = cov.length) (hm:j < m) (hlen:len = o.length) (ho:Sok o),
  aJ env (aA env L n) L 0 [] Bz8 (eR 0) (U4 (Z4 (Z2 (Z1 (U32 (U16 (U8 (U4 (U1 ([])))))))))) m (Y4 (.d .nils :: .d (.bool false) :: .d (.ivs cov.length (aC cov)) :: .d (.ivs ends.length (aC ends)) :: .d (.ivs mids.length (aC mids)) :: .sl 0 0 0 len :: nI (p:Int) :: Y32 (Y16 (Y8 (Y4 (Y1 ([]))))))) [.arr (aC o) 1 0] k
  = k (if (run3 (covZ mids ends) cov j p o).1 = true then .exit 0 else .ret) (Y4 (.d .nils :: .d (.bool false) :: .d (.ivs cov.length (aC cov)) :: .d (.ivs ends.length (aC ends)) :: .d (.ivs mids.length (aC mids)) :: .sl 0 0 0 (run3 (covZ mids ends) cov j p o).2.2.length :: nI ((run3 (covZ mids ends) cov j p o).2.1:Int) :: Y32 (Y16 (Y8 (Y4 (Y1 ([]))))))) [.arr (aC (run3 (covZ mids ends) cov j p o).2.2) 1 0]:=by
 intro j
 induction j with
 | zero =>
  intro p m o len hp hm hlen ho
  obtain _ | m:=m; omega
  obtain rfl:p = cov.length:=by omega
  subst hlen
  have e:∀ f,run3 f cov 0 cov.length o = (true,cov.length,o):=fun _ => rfl
  rw [e]
  simp only [if_true]
  rw [xX]
  simp only [wF,Tryz.f13,SLM,simprocAttr]
  simp -implicitDefEqProofs (maxSteps:=2000000) (disch:=try exact Dz) only [↓DN,↓kAsg,↓kRet,UP,simprocAttr,↓aU,↓eD,↓cZ,↓eT,↓aV,↓aO,↓aN,↓aM,LA,SE,Int.lt_irrefl]
 | succ j ih =>
  intro p m o len hp hm hlen ho
  obtain _ | m:=m; omega
  subst hlen
  have hpm:p < cov.length:=by omega
  have hc1:(p:Int) < cov.length:=by omega
  have hmn:=hP.nm
  have hcn:=hP.nc
  have loop_c:=fun {R:Type} {n:Nat} {k:Exit → List A → H → Option R} (hn:7 ≤ n) => @aBS R L n hn hL cov mids ends hP p hpm k mids.length 0 L o o.length (by omega) (by omega) rfl ho
  simp only [Int.natCast_zero] at loop_c
  have hinv:(covZ mids ends (cov.getD p []) o).1 = true → Sok (covZ mids ends (cov.getD p []) o).2:=aFi (aLZ (fun m hm => hP.w _ (kA hpm) m hm)) mids.length 0 o (by omega) ho
  have hz:covZ mids ends (cov.getD p []) o = ((run3 (midZ (cov.getD p []) ends) mids mids.length 0 o).1,(run3 (midZ (cov.getD p []) ends) mids mids.length 0 o).2.2):=rfl
  cases hb:(run3 (midZ (cov.getD p []) ends) mids mids.length 0 o).1 with
  | false =>
   rw [M8 (by rw [hz,hb]),hz]
   rw [hb] at loop_c
   simp only [Bool.false_eq_true,if_false] at loop_c ⊢
   clear ih hinv hz hb ho hP
   generalize run3 (midZ (cov.getD p []) ends) mids mids.length 0 o = z at *
   rw [xX]
   simp only [wF,Tryz.f13,SLM,simprocAttr]
   simp -implicitDefEqProofs (maxSteps:=2000000) (disch:=try exact Dz) only [↓DN,↓kAsg,↓kRet,UP,simprocAttr,↓aU,↓eD,↓cZ,↓eT,↓aV,↓aO,↓aN,↓aM,LA,SE,hc1,↓loop_c]
  | true =>
   rw [HD (by rw [hz,hb]),hz]
   have ih':=ih (p + 1) m _ _ (by omega) (by omega) rfl (hinv (by rw [hz,hb]))
   rw [hz,show ((p + 1:Nat):Int) = (p:Int) + 1 by omega] at ih'
   rw [hb] at loop_c
   simp only [if_true] at loop_c ih' ⊢
   clear ih hinv hz hb ho hP
   generalize run3 (midZ (cov.getD p []) ends) mids mids.length 0 o = z at *
   generalize run3 (covZ mids ends) cov j (p + 1) z.2.2 = z2 at *
   rw [xX]
   simp only [wF,Tryz.f13,SLM,simprocAttr]
   simp -implicitDefEqProofs (maxSteps:=2000000) (disch:=try exact Dz) only [↓DN,↓kAsg,↓kRet,UP,simprocAttr,↓aU,↓eD,↓cZ,↓eT,↓aV,↓aO,↓aN,↓aM,LA,SE,hc1,↓loop_c,↓ih']
def lS (a:Aut) (x:Int):Option (List Str):=if eX a.al a.nx a.ac = true ∧ 0 ≤ x ∧ x ≤ 2 then EI (eB a) (midG (aB a.al) (x.toNat + 1)) (sepW a) else none
theorem aNn {a:Aut} (h:AOK a) {e:Nat} (he:e ≤ 2):Parts (eB a) (midG (aB a.al) (e + 1)) (sepW a):=by
 obtain ⟨_,_,a1,a2,_⟩:=b6 h
 have ha:=(tK h).2.2.2
 have h1:=MN h
 have h2:=VW h
 have h3:=MU (eF a.al) (e + 1) (by omega)
 exact ⟨fun c hc m hm w hw => ((aT4 h hc hm hw).ok ha (by omega)).2,fun c hc => by have:=(aT1 h c hc).1; omega,fun c hc => by have:=(aRD c hc).1; omega,fun c hc => by have:=(aUc h c hc).1; omega,by omega,by omega,by omega⟩
theorem G4 {L n:Nat} (hn:15 ≤ n) (a:Aut) (x:Int) (hs:a8 a.nx) (hac:a.ac.length ≤ 4294967296) (hL:2 ^ 60 ≤ L):aA env L n 13 [.agg [nI a.al,.d (.ivs a.nx.length (rowsD a.nx)),.d (.ivs a.ac.length (bools a.ac))],nI x] [] = some (.tup [.d (.ivs ((lS a x).getD []).length (aC ((lS a x).getD []))),.d (.bool (lS a x).isSome)],[]):=by
 have hrl:=hs.1
 cases hv:eX a.al a.nx a.ac with
 | false =>
  have e:lS a x = none:=if_neg fun h => by rw [hv] at h; cases h.1
  rw [e]
  simp only [Option.getD_none,Option.isSome_none,List.length_nil,oZ]
  obtain _ | n:=n; omega
  rw [sY]
  simp only [qA,Tryz.f13,SLM,simprocAttr]
  simp -implicitDefEqProofs (maxSteps:=2000000) (disch:=try exact Dz) only [↓DN,↓kAsg,↓kRet,UP,simprocAttr,↓aU,↓eD,↓cZ,↓eT,↓aV,↓aO,↓aN,↓aM,LA,SE,hv]
 | true =>
  by_cases hx0:x < 0
  ·have e:lS a x = none:=if_neg fun h => by omega
   rw [e]
   simp only [Option.getD_none,Option.isSome_none,List.length_nil,oZ]
   obtain _ | n:=n; omega
   rw [sY]
   simp only [qA,Tryz.f13,SLM,simprocAttr]
   simp -implicitDefEqProofs (maxSteps:=2000000) (disch:=try exact Dz) only [↓DN,↓kAsg,↓kRet,UP,simprocAttr,↓aU,↓eD,↓cZ,↓eT,↓aV,↓aO,↓aN,↓aM,LA,SE,hv,hx0]
  ·by_cases hx1:2 < x
   ·have e:lS a x = none:=if_neg fun h => by omega
    rw [e]
    simp only [Option.getD_none,Option.isSome_none,List.length_nil,oZ]
    obtain _ | n:=n; omega
    rw [sY]
    simp only [qA,Tryz.f13,SLM,simprocAttr]
    simp -implicitDefEqProofs (maxSteps:=2000000) (disch:=try exact Dz) only [↓DN,↓kAsg,↓kRet,UP,simprocAttr,↓aU,↓eD,↓cZ,↓eT,↓aV,↓aO,↓aN,↓aM,LA,SE,hv,hx0,hx1]
   ·obtain ⟨e,rfl⟩:∃ e:Nat,x = e:=⟨x.toNat,by omega⟩
    have he:e ≤ 2:=by omega
    have hP:=aNn (a:=a) hv he
    have e1:lS a e = EI (eB a) (midG (aB a.al) (e + 1)) (sepW a):=if_pos ⟨hv,by omega,by omega⟩
    have e2:NP a = eB a:=by unfold NP; exact if_pos hv
    have e3:sepR a = sepW a:=by unfold sepR; exact if_pos hv
    have kc_c:=@eD L a hs hac hL
    have kc_w:=@cZ L a hs hac hL
    have kc_m:=@eT L a.al (e + 1) (by omega) hL
    rw [e2] at kc_c
    rw [e3] at kc_w
    rw [show ((e + 1:Nat):Int) = (e:Int) + 1 by omega] at kc_m
    have hcn:=hP.nc
    have loop_c:=fun {R:Type} {n:Nat} {k:Exit → List A → H → Option R} (hn:7 ≤ n) => @aB7 R L n hn hL _ _ _ hP k (eB a).length 0 L [] 0 (by omega) (by omega) rfl ⟨List.Pairwise.nil,by simp,by simp⟩
    have hr:=WA (f:=covZ (midG (aB a.al) (e + 1)) (sepW a)) (ws:=eB a) (eB a).length 0 [] (by omega)
    rw [List.drop_zero,aYB] at hr
    have hr:EI (eB a) (midG (aB a.al) (e + 1)) (sepW a) = _:=hr
    rw [e1]
    simp only [Int.natCast_zero,oZ] at loop_c
    generalize EI (eB a) (midG (aB a.al) (e + 1)) (sepW a) = S at *
    clear hP e1 e2 e3
    generalize eB a = cov at *
    generalize midG (aB a.al) (e + 1) = mids at *
    generalize sepW a = ends at *
    generalize run3 (covZ mids ends) cov cov.length 0 [] = z at *
    cases hb:z.1 with
    | false =>
     rw [hb,if_neg Bool.false_ne_true] at hr
     rw [hr]
     rw [hb] at loop_c
     simp only [Option.getD_none,Option.isSome_none,List.length_nil,oZ,Bool.false_eq_true,if_false] at loop_c ⊢
     obtain _ | n:=n; omega
     rw [sY]
     simp only [qA,Tryz.f13,SLM,simprocAttr]
     simp -implicitDefEqProofs (maxSteps:=2000000) (disch:=try exact Dz) only [↓DN,↓kAsg,↓kRet,UP,simprocAttr,↓aU,↓aV,↓aO,↓aN,↓aM,LA,SE,hv,hx0,hx1,↓kc_c,↓kc_w,↓kc_m,↓loop_c]
    | true =>
     rw [hb,if_pos rfl] at hr
     rw [hr]
     rw [hb] at loop_c
     simp only [Option.getD_some,Option.isSome_some,if_true] at loop_c ⊢
     have e4:(aC z.2.2).take z.2.2.length = aC z.2.2:=gC (Nat.le_refl _)
     obtain _ | n:=n; omega
     rw [sY]
     simp only [qA,Tryz.f13,SLM,simprocAttr]
     simp -implicitDefEqProofs (maxSteps:=2000000) (disch:=try exact Dz) only [↓DN,↓kAsg,↓kRet,UP,simprocAttr,↓aU,↓aV,↓aO,↓aN,↓aM,LA,SE,hv,hx0,hx1,e4,↓kc_c,↓kc_w,↓kc_m,↓loop_c]
theorem aIZ {L:Nat} (a:Aut) (x:Int) (hs:a8 a.nx) (hac:a.ac.length ≤ 4294967296) (hL:2 ^ 60 ≤ L):KC 15 L 13 [.agg [nI a.al,.d (.ivs a.nx.length (rowsD a.nx)),.d (.ivs a.ac.length (bools a.ac))],nI x] (.tup [.d (.ivs ((lS a x).getD []).length (aC ((lS a x).getD []))),.d (.bool (lS a x).isSome)]):=ks rfl (fun hn => G4 hn a x hs hac hL) rfl (.inr rfl)
end Ev
end Go.Proofs.YtejmccgfigiadaaGreat
