/-
  Automata with exchanged aC: plain laws.
-/
import Derived.Test.YtppdfjdfjfoddaaAutH
import Derived.Test.YtppdfjdfjfoddaaWords
import Derived.Test.YtppdfjdfjfoddaaPathY
import Derived.Test.YtppdfjdfjfoddaaAccess
import Derived.Test.YtppdfjdfjfoddaaWrongA
import Derived.Test.YtppdfjdfjfoddaaSortLayX
import Derived.Test.YtppdfjdfjfoddaaNetX
import Derived.Test.YtppdfjdfjfoddaaLeast
set_option linter.unusedSimpArgs false
set_option linter.unusedVariables false
set_option maxRecDepth 8000
set_option maxHeartbeats 4000000
namespace Go.Proofs.Ytppdfjdfjfoddaa
namespace Ev
theorem aOr {al : Int} {rs : List (List Int)} {ac : List Bool} (ha : o8 al = true) (h1 : 1 ≤ rs.length) (h2 : rs.length ≤ 12) (h3 : ac.length = rs.length) (hr : ∀ r ∈ rs,r.length = (aC al).length ∧ ∀ q ∈ r,0 ≤ q ∧ q < rs.length) : iK al rs ac = true := by
 unfold iK
 simp only [Bool.and_eq_true,decide_eq_true_eq]
 refine ⟨⟨⟨⟨ha,by omega⟩,by omega⟩,by omega⟩,?_⟩
 rw [Option.isNone_iff_eq_none,t7]
 intro i _ hi
 have hi : i < rs.length := by omega
 obtain ⟨hw,hq⟩ := hr (rs.getD i []) (by rw [List.getD_eq_getElem?_getD,List.getElem?_eq_getElem hi]; exact List.getElem_mem hi)
 unfold jX
 rw [P6 (by omega)]
 have : seek (badQ rs.length (rs.getD i [])) (rs.getD i []).length 0 = none := by
  rw [t7]
  intro j _ hj
  have hj : j < (rs.getD i []).length := by omega
  rw [zT]
  refine hq _ ?_
  generalize rs.getD i [] = r at *
  rw [List.getD_eq_getElem?_getD,List.getElem?_eq_getElem hj]
  exact List.getElem_mem hj
 rw [this]
 rfl
theorem MB {al : Int} {rs : List (List Int)} {ac : List Bool} (h : iK al rs ac = true) {i : Nat} (hi : i < rs.length) : (rs.getD i []).length = (aC al).length ∧ ∀ j,j < (aC al).length → 0 ≤ (rs.getD i []).getD j 0 ∧ (rs.getD i []).getD j 0 < rs.length := by
 have hw := aDB (PR h) hi
 refine ⟨hw,?_⟩
 intro j hj
 unfold iK at h
 simp only [Bool.and_eq_true] at h
 have hb := I9 h.2 hi
 unfold jX at hb
 rw [P6 (by omega)] at hb
 have := I9 (p := badQ rs.length (rs.getD i [])) (n := (rs.getD i []).length) (by cases hs : seek (badQ rs.length (rs.getD i [])) (rs.getD i []).length 0 with
  | none => rfl
  | some z => rw [hs] at hb; cases hb) (i := j) (by omega)
 exact zT.1 this
def stGo (al : Int) (rs : List (List Int)) (w : List UInt8) (q : Int) : Int := w.foldl (fun q b => goI al rs q (ltr b)) q
def aKp (al : Int) (rs : List (List Int)) (ac : List Bool) (w : List UInt8) : Int := if iK al rs ac && aSw al w then stGo al rs w 0 else -1
section
def goS (a : Aut) (v l : Int) : Int := goI a.al a.nx v l
def rowA (a : Aut) (v : Int) : List Int := a.nx.getD v.toNat []
def ordA (a : Aut) : List Int := ordB (goS a) (aC a.al) (a.nx.length + 1) 0 [0]
def idxU (out : List Int) (x : Int) : Int := (out.idxOf x : Nat)
def dZ (a : Aut) : Aut := ⟨a.al,(ordA a).map fun v => (rowA a v).map (idxU (ordA a)),(ordA a).map fun v => a.ac.getD v.toNat false⟩
theorem aJj {a : Aut} (h : AOK a) : ∀ v l : Int,0 ≤ v → v < a.nx.length → l ∈ aC a.al → 0 ≤ goS a v l ∧ goS a v l < a.nx.length := by
 intro v l h0 h1 hl
 have := mO l hl
 exact WX h h0 h1 this.1 (by omega)
theorem aLQ {al : Int} {k : Nat} (hk : k < (aC al).length) : j5 al (aC al)[k] = k := by
 obtain ⟨⟨h0,h1⟩,hb⟩ := sT.1 (List.getElem_mem hk)
 obtain ⟨h2,h3⟩ := E7 h0 h1 hb
 rw [List.getElem?_eq_getElem h2] at h3
 exact (List.getElem_inj (RI al)).1 (Option.some.inj h3)
theorem aDm {a : Aut} (h : AOK a) {v : Int} (h0 : 0 ≤ v) (h1 : v < a.nx.length) : (aC a.al).map (goS a v) = rowA a v := by
 have hl := (MB h (i := v.toNat) (by omega)).1
 apply List.ext_getElem
 ·rw [List.length_map]; exact hl.symm
 ·intro k g1 g2
  rw [List.length_map] at g1
  rw [List.getElem_map]
  unfold goS
  rw [WO (sT.1 (List.getElem_mem g1)).2,aLQ g1]
  show (rowA a v).getD k 0 = _
  rw [List.getD_eq_getElem?_getD,List.getElem?_eq_getElem g2]
  rfl
theorem y8 {a : Aut} (h : AOK a) : ∃ W,Bfs (goS a) (aC a.al) a.nx.length (ordA a).length [] (ordA a) W := by
 obtain ⟨_,_,h1,_,_⟩ := gX h
 exact aJo (EC _) (aJj h) _ 0 [0] _ (Bfs.start (by omega)) (by omega) (by omega)
theorem aGW {a : Aut} : ∀ (w : List Int) (v u : Int),Path (nxS a) (aC a.al) v w u ↔ (∀ l ∈ w,l ∈ aC a.al) ∧ w.foldl (goS a) v = u
 | [],v,u => by simp [Path]
 | l :: w,v,u => by
  simp only [Path,nxS,List.mem_singleton,exists_eq_left,aGW w,List.foldl_cons,List.forall_mem_cons]
  unfold goS
  exact and_assoc.symm
theorem IM {a : Aut} {st : Int} {w : List Int} : Hits (nxS a) (aC a.al) [0] (glS st) w ↔ (∀ l ∈ w,l ∈ aC a.al) ∧ w.foldl (goS a) 0 = st := by
 unfold Hits x6 glS
 simp only [List.mem_singleton,exists_eq_left,aGW,decide_eq_true_eq]
 constructor
 ·rintro ⟨u,⟨h1,h2⟩,rfl⟩; exact ⟨h1,h2⟩
 ·rintro ⟨h1,h2⟩; exact ⟨st,⟨h1,h2⟩,rfl⟩
section
variable {a : Aut} {W : Nat → List Int}
theorem DC {x : Int} {out : List Int} (hx : x ∈ out) : out.getD (out.idxOf x) 0 = x ∧ out.idxOf x < out.length := by
 have h := List.idxOf_lt_length_of_mem hx
 refine ⟨?_,h⟩
 rw [List.getD_eq_getElem?_getD,List.getElem?_eq_getElem h,List.getElem_idxOf]; rfl
theorem u3 {q : Nat} {out : List Int} (hq : q < out.length) : out.getD q 0 ∈ out := by
 rw [List.getD_eq_getElem?_getD,List.getElem?_eq_getElem hq]
 exact List.getElem_mem hq
theorem P7 (h : AOK a) (hB : Bfs (goS a) (aC a.al) a.nx.length (ordA a).length [] (ordA a) W) {q : Nat} (hq : q < (ordA a).length) : oneG a ((ordA a).getD q 0) = (W q,true) := by
 refine zR (H3 h _) (.inl ⟨rfl,IM.2 ⟨hB.lts q hq,hB.run q hq⟩,fun x hx => ?_⟩)
 obtain ⟨h1,h2⟩ := IM.1 hx
 obtain ⟨p,hp,e,hs⟩ := hB.least x.length x rfl h1
 have : p = q := hB.idx hp hq (by rw [e,h2])
 subst this
 exact hs
theorem aO1 (h : AOK a) {st : Int} (ho : st ∉ ordA a) : oneG a st = ([],false) := by
 obtain ⟨W,hB⟩ := y8 h
 refine zR (H3 h _) (.inr ⟨rfl,fun w hw => ?_⟩)
 obtain ⟨h1,h2⟩ := IM.1 hw
 obtain ⟨p,hp,e,_⟩ := hB.least w.length w rfl h1
 rw [h2] at e
 exact ho (e ▸ u3 hp)
theorem PX (hB : Bfs (goS a) (aC a.al) a.nx.length (ordA a).length [] (ordA a) W) {v l : Int} (hv : v ∈ ordA a) (hl : l ∈ aC a.al) : goS a v l ∈ ordA a := by
 obtain ⟨e,hq⟩ := DC hv
 obtain ⟨p,hp,e2,_⟩ := hB.clo _ l hq hl (.inl hq)
 rw [e] at e2
 exact e2 ▸ u3 hp
theorem aAO (h : AOK a) : AOK (dZ a) := by
 obtain ⟨W,hB⟩ := y8 h
 obtain ⟨b1,b2,b3,b4⟩ := aES h
 have hn := oA hB.nod hB.rng
 have hp := hB.pos
 unfold AOK dZ
 refine aOr b4 (by rw [List.length_map]; omega) (by rw [List.length_map]; omega) (by rw [List.length_map,List.length_map]) ?_
 intro r hr
 obtain ⟨v,hv,rfl⟩ := List.mem_map.1 hr
 obtain ⟨v0,v1⟩ := hB.rng v hv
 have hrow := aDm h v0 v1
 refine ⟨by rw [List.length_map,← hrow,List.length_map],?_⟩
 intro q hq
 obtain ⟨x,hx,rfl⟩ := List.mem_map.1 hq
 rw [← hrow] at hx
 obtain ⟨l,hl,rfl⟩ := List.mem_map.1 hx
 have := (DC (PX hB hv hl)).2
 unfold idxU
 rw [List.length_map]
 omega
theorem aRu (h : AOK a) (hB : Bfs (goS a) (aC a.al) a.nx.length (ordA a).length [] (ordA a) W) {q : Nat} (hq : q < (ordA a).length) {l : Int} (hl : l ∈ aC a.al) : goS (dZ a) q l = idxU (ordA a) (goS a ((ordA a).getD q 0) l) := by
 obtain ⟨⟨h0,h1⟩,hb⟩ := sT.1 hl
 obtain ⟨v0,v1⟩ := hB.rng _ (u3 hq)
 obtain ⟨p1,p2⟩ := E7 h0 h1 hb
 have hlen := (MB h (i := ((ordA a).getD q 0).toNat) (by omega)).1
 have e1 : ((dZ a).nx.getD q []) = (rowA a ((ordA a).getD q 0)).map (idxU (ordA a)) := by
  unfold dZ
  simp only [List.getD_eq_getElem?_getD,List.getElem?_map,List.getElem?_eq_getElem hq,Option.map_some,Option.getD_some]
 unfold goS
 rw [WO hb,WO (show iZ (dZ a).al l = true from hb),Int.toNat_natCast,e1]
 show ((rowA a ((ordA a).getD q 0)).map (idxU (ordA a))).getD (j5 a.al l) 0 = _
 have hr : j5 a.al l < (rowA a ((ordA a).getD q 0)).length := by unfold rowA; omega
 rw [List.getD_eq_getElem?_getD,List.getElem?_map,List.getElem?_eq_getElem hr,List.getD_eq_getElem?_getD (l := a.nx.getD _ _)]
 show idxU _ (rowA a ((ordA a).getD q 0))[j5 a.al l] = idxU _ ((rowA a ((ordA a).getD q 0))[j5 a.al l]?.getD 0)
 rw [List.getElem?_eq_getElem hr]; rfl
theorem aG1 (h : AOK a) (hB : Bfs (goS a) (aC a.al) a.nx.length (ordA a).length [] (ordA a) W) : ∀ (w : List Int) (q : Nat),q < (ordA a).length → (∀ l ∈ w,l ∈ aC a.al) → w.foldl (goS a) ((ordA a).getD q 0) ∈ ordA a ∧ w.foldl (goS (dZ a)) (q : Int) = idxU (ordA a) (w.foldl (goS a) ((ordA a).getD q 0))
 | [],q,hq,_ => by
  refine ⟨u3 hq,?_⟩
  unfold idxU
  simp only [List.foldl_nil]
  have := hB.nod.idxOf_getElem q hq
  rw [List.getD_eq_getElem?_getD,List.getElem?_eq_getElem hq,Option.getD_some,this]
 | l :: w,q,hq,hw => by
  have hl := hw l List.mem_cons_self
  obtain ⟨e,hp⟩ := DC (PX hB (u3 hq) hl)
  have ih := aG1 h hB w _ hp fun m hm => hw m (List.mem_cons_of_mem _ hm)
  rw [e] at ih
  simp only [List.foldl_cons]
  rw [aRu h hB hq hl]
  exact ih
theorem aN0 (h : AOK a) (hB : Bfs (goS a) (aC a.al) a.nx.length (ordA a).length [] (ordA a) W) {q : Nat} (hq : q < (ordA a).length) : oneG (dZ a) q = (W q,true) := by
 rw [← P7 h hB hq]
 refine zR (aKS (fun w => ?_) (H3 (aAO h) q)) (H3 h _)
 rw [IM,IM]
 show (∀ l ∈ w,l ∈ aC a.al) ∧ _ ↔ _
 refine and_congr_right fun hw => ?_
 obtain ⟨h1,h2⟩ := aG1 h hB w 0 hB.pos hw
 rw [hB.o0] at h1 h2
 have h3 : w.foldl (goS (dZ a)) 0 = idxU (ordA a) (w.foldl (goS a) 0) := h2
 rw [h3]
 obtain ⟨e,hp⟩ := DC h1
 unfold idxU
 constructor
 ·intro hh
  have : (ordA a).idxOf (w.foldl (goS a) 0) = q := by omega
  rw [this] at e
  exact e.symm
 ·intro hh
  rw [hB.idx hp hq (by rw [e,hh])]
end
theorem aD5 {l : Int} (h0 : 0 ≤ l) (h1 : l < 6) : (m8 l).toNat = (97 + l).toNat := by
 unfold m8
 rw [UInt8.toNat_ofNat']
 omega
theorem aJF : ∀ {u v : List Int},(∀ l ∈ u,0 ≤ l ∧ l < 6) → (∀ l ∈ v,0 ≤ l ∧ l < 6) → tH u v → Op.bytesLess (txt u) (txt v) = true
 | [],_,_,_,h => h.elim
 | _ :: _,[],_,_,h => h.elim
 | a :: u,b :: v,hu,hv,h => by
  have ha := hu a List.mem_cons_self
  have hb := hv b List.mem_cons_self
  show Op.bytesLess (m8 a :: txt u) (m8 b :: txt v) = true
  rw [rD,aD5 ha.1 ha.2,aD5 hb.1 hb.2]
  rcases h with h | ⟨rfl,h⟩
  ·exact .inl (by omega)
  ·exact .inr ⟨rfl,aJF (fun l hl => hu l (List.mem_cons_of_mem _ hl)) (fun l hl => hv l (List.mem_cons_of_mem _ hl)) h⟩
theorem aR0 {u v : List Int} (hu : ∀ l ∈ u,0 ≤ l ∧ l < 6) (hv : ∀ l ∈ v,0 ≤ l ∧ l < 6) (h : slt u v) : cmpX (txt u) (txt v) < 0 := by
 rw [OL]
 unfold txt
 rw [List.length_map,List.length_map]
 rcases h with h | ⟨h1,h⟩
 ·exact .inl h
 ·exact .inr ⟨h1,aJF hu hv h⟩
def pE (a : Aut) : List Str := (List.range (ordA a).length).map fun q => txt (oneG a ((ordA a).getD q 0)).1
def kP (a : Aut) (j i : Nat) : List Str := (List.range' i j).filterMap fun q => if (oneG a (q : Nat)).2 = true then some (txt (oneG a (q : Nat)).1) else none
def aA3 (l : List Str) : List Str := l.mergeSort leX
section
variable {a : Aut} {W : Nat → List Int}
theorem M1 (h : AOK a) (hB : Bfs (goS a) (aC a.al) a.nx.length (ordA a).length [] (ordA a) W) : pE a = (List.range (ordA a).length).map fun q => txt (W q) := by
 unfold pE
 apply List.map_congr_left
 intro q hq
 rw [P7 h hB (List.mem_range.1 hq)]
theorem aDH (hB : Bfs (goS a) (aC a.al) a.nx.length (ordA a).length [] (ordA a) W) {j k : Nat} (hjk : j < k) (hk : k < (ordA a).length) : cmpX (txt (W j)) (txt (W k)) < 0 := by
 have hin : ∀ q,q < (ordA a).length → ∀ l ∈ W q,0 ≤ l ∧ l < 6 := fun q hq l hl => by
  have := mO l (hB.lts q hq l hl); omega
 exact aR0 (hin j (by omega)) (hin k hk) (hB.asc j k hjk hk)
theorem aOH (hB : Bfs (goS a) (aC a.al) a.nx.length (ordA a).length [] (ordA a) W) {j k : Nat} (hj : j < (ordA a).length) (hk : k < (ordA a).length) (e : txt (W j) = txt (W k)) : j = k := by
 rcases Nat.lt_trichotomy j k with h | h | h
 ·have := aDH hB h hk; rw [e] at this; exact (PA _ this).elim
 ·exact h
 ·have := aDH hB h hj; rw [e] at this; exact (PA _ this).elim
theorem aM7 (hB : Bfs (goS a) (aC a.al) a.nx.length (ordA a).length [] (ordA a) W) : ((List.range (ordA a).length).map fun q => txt (W q)).Pairwise fun x y => cmpX x y < 0 := by
 rw [List.pairwise_map]
 refine List.Pairwise.imp_of_mem ?_ (List.pairwise_lt_range (n := (ordA a).length))
 intro j k hj hk hjk
 exact aDH hB hjk (List.mem_range.1 hk)
theorem aKo (h : AOK a) : aA3 (kP a a.nx.length 0) = pE a := by
 obtain ⟨W,hB⟩ := y8 h
 rw [M1 h hB]
 have hasc := aM7 hB
 have hfd : ∀ (q : Nat) (b : Str),(if (oneG a (q : Nat)).2 = true then some (txt (oneG a (q : Nat)).1) else none) = some b → ∃ p,p < (ordA a).length ∧ (ordA a).getD p 0 = (q : Int) ∧ b = txt (W p) := by
  intro q b hb
  by_cases hq : (q : Int) ∈ ordA a
  ·obtain ⟨e,hp⟩ := DC hq
   have := P7 h hB hp
   rw [e] at this
   rw [this] at hb
   simp at hb
   exact ⟨_,hp,e,hb.symm⟩
  ·rw [aO1 h hq] at hb
   simp at hb
 unfold aA3
 refine ((List.mergeSort_perm _ _).trans ((List.perm_ext_iff_of_nodup ?_ ?_).2 ?_)).eq_of_pairwise (fun x y _ _ h1 h2 => aPj h1 h2) (List.pairwise_mergeSort aMw aN7 _) (hasc.imp aSg)
 ·unfold kP
  refine List.Pairwise.filterMap _ ?_ (List.nodup_range' (s := 0) (n := a.nx.length))
  intro p q hpq b hb c hc e
  obtain ⟨p1,g1,g2,g3⟩ := hfd p b hb
  obtain ⟨q1,k1,k2,k3⟩ := hfd q c hc
  have := aOH hB g1 k1 (by rw [← g3,← k3,e])
  subst this
  rw [g2] at k2
  exact hpq (by omega)
 ·exact hasc.imp fun {x y} hxy e => by rw [e] at hxy; exact PA _ hxy
 ·intro b
  unfold kP
  rw [List.mem_filterMap,List.mem_map]
  constructor
  ·rintro ⟨q,hq,hb⟩
   obtain ⟨p,h1,_,h3⟩ := hfd q b hb
   exact ⟨p,List.mem_range.2 h1,h3.symm⟩
  ·rintro ⟨p,hp,rfl⟩
   have hp := List.mem_range.1 hp
   obtain ⟨v0,v1⟩ := hB.rng _ (u3 hp)
   refine ⟨((ordA a).getD p 0).toNat,?_,?_⟩
   ·rw [List.mem_range'_1]; omega
   ·rw [Int.toNat_of_nonneg v0,P7 h hB hp,if_pos rfl]
end
end
theorem aDd {R : Type} {L n : Nat} (hn : 1 ≤ n) {l : List Int} {x : Int} {q : Nat} (hql : q < l.length) (hl : l.length ≤ 4294967290) (hx : l.getD q 0 = x) (hne : ∀ i,i < q → ¬ l.getD i 0 = x) {k : Exit → List A → H → Option R} : ∀ (j i m : Nat) (hi : i + j = q) (hm : j < m),
  aO env (aA env L n) L 0 [] (U2 (Z2 (U2 (Z8 (Z1 ([])))))) (uI 0) (Z2 (U2 (Z2 (U8 (U1 ([])))))) m (.d (.ivs l.length (ints l)) :: .d (.int .i64 x) :: Y2 (.d (.int .i64 0) :: .d (.int .i64 ((i : Int))) :: Y8 (Y1 ([])))) [] k
  = k (.exit 0) (.d (.ivs l.length (ints l)) :: .d (.int .i64 x) :: Y2 (.d (.int .i64 0) :: .d (.int .i64 ((q : Int))) :: Y8 (Y1 ([])))) [] := by
 intro j
 induction j with
 | zero =>
  intro i m hi hm
  obtain _ | m := m; omega
  obtain rfl : i = q := by omega
  have hc : (i : Int) < l.length := by omega
  have hi0 : (0 : Int) ≤ i := by omega
  rw [JN]
  simp only [F0,Try.f95,SLM,simprocAttr]
  simp -implicitDefEqProofs (maxSteps := 2000000) (disch := try exact Dz) only [↓DN,↓kAsg,↓kRet,UP,simprocAttr,hc,hi0,hx,Int.toNat_natCast]
 | succ j ih =>
  intro i m hi hm
  obtain _ | m := m; omega
  have hc : (i : Int) < l.length := by omega
  have hi0 : (0 : Int) ≤ i := by omega
  have he := hne i (by omega)
  have ih' := ih (i + 1) m (by omega) (by omega)
  rw [show ((i + 1 : Nat) : Int) = (i : Int) + 1 by omega] at ih'
  clear ih
  rw [JN]
  simp only [F0,Try.f95,SLM,simprocAttr]
  simp -implicitDefEqProofs (maxSteps := 2000000) (disch := try exact Dz) only [↓DN,↓kAsg,↓kRet,UP,simprocAttr,hc,hi0,he,Int.toNat_natCast,↓ih']
theorem aRA {l : List Int} {x : Int} {i : Nat} (h : i < l.idxOf x) (hx : x ∈ l) : ¬ l.getD i 0 = x := by
 obtain ⟨_,hq⟩ := DC hx
 rw [List.getD_eq_getElem?_getD,List.getElem?_eq_getElem (by omega)]
 intro e
 have e2 : l[i]'(by omega) = x := e
 have := List.not_of_lt_findIdx (p := (· == x)) (xs := l) (i := i) h
 rw [e2] at this
 simp at this
theorem U0 {L n : Nat} (hn : 2 ≤ n) (l : List Int) (x : Int) (hx : x ∈ l) (hl : l.length ≤ 4294967290) (hL : 2 ^ 60 ≤ L) : aA env L n 95 [.d (.ivs l.length (ints l)),.d (.int .i64 x)] [] = some (.d (.int .i64 (idxU l x)),[]) := by
 obtain ⟨h1,h2⟩ := DC hx
 have loop_c := fun {R : Type} {n : Nat} {k : Exit → List A → H → Option R} (hn : 1 ≤ n) => @aDd R L n hn l x (l.idxOf x) h2 hl h1 (fun i hi => aRA hi hx) k (l.idxOf x) 0 L (by omega) (by omega)
 simp only [Int.natCast_zero] at loop_c
 unfold idxU
 generalize l.idxOf x = q at *
 obtain _ | n := n; omega
 rw [aGJ]
 simp only [Y7,Try.f95,SLM,simprocAttr]
 simp -implicitDefEqProofs (maxSteps := 2000000) (disch := try exact Dz) only [↓DN,↓kAsg,↓kRet,UP,simprocAttr,↓loop_c]
theorem rB {R : Type} {L n : Nat} {hq : H} {k : A → H → Option R} (hn : 2 ≤ n) (l : List Int) (x : Int) (hx : x ∈ l) (hl : l.length ≤ 4294967290) (hL : 2 ^ 60 ≤ L) : aM env (aA env L n) hq 95 [.d (.ivs l.length (ints l)),.d (.int .i64 x)] k = k (.d (.int .i64 (idxU l x))) hq :=
 aX rfl (U0 hn l x hx hl hL) rfl (.inl rfl)
theorem rA {R : Type} {L n : Nat} {k : A → Option R} (hn : 2 ≤ n) (l : List Int) (x : Int) (hx : x ∈ l) (hl : l.length ≤ 4294967290) (hL : 2 ^ 60 ≤ L) : bH (aA env L n) 95 [.d (.ivs l.length (ints l)),.d (.int .i64 x)] k = k (.d (.int .i64 (idxU l x))) :=
 fB (U0 hn l x hx hl hL) rfl
theorem oJ {R : Type} {L n : Nat} {hq : H} {k : A → H → Option R} {id0 g0 o0 len0 : Nat} {x : Int} : aM env (aA env L n) hq 95 [.sl id0 g0 o0 len0,.d (.int .i64 x)] k = match box (c7 hq [.sl id0 g0 o0 len0,.d (.int .i64 x)]) with
  | .mk (some fs) => bH (aA env L n) 95 fs fun r => k r hq
  | _ => none := aW C1
theorem aAk {R : Type} {L n : Nat} (hn : 3 ≤ n) (hL : 2 ^ 60 ≤ L) {a : Aut} {i : Nat} {r : List Int} (hr : r.length ≤ 100) {k : Exit → List A → H → Option R} : ∀ (j q m : Nat) (o : List Int) (len : Nat) (hq : q + j = r.length) (hm : j < m) (hlen : len = o.length) (ho : o.length + j ≤ 100000),
  aO env (aA env L n) L 0 [] (Z1 (U4 (U2 (Z32 (Z4 ([])))))) (jP 1) (U1 (Z4 (Z2 (U32 (U4 ([])))))) m (Y1 (.ptr 0 0 0 :: .d .nils :: .sl 1 0 0 len :: .d (.int .i64 ((i : Int))) :: .d (.ivs r.length (ints r)) :: .d (.int .i64 ((q : Int))) :: Y32 (Y4 ([])))) [.box [.d (.int .i64 a.al),.d (.ivs a.nx.length (aK a.nx)),.d (.ivs a.ac.length (aJ a.ac))],.arr (ints o) 1 0] k
  = k (.exit 2) (Y1 (.ptr 0 0 0 :: .d .nils :: .sl 1 0 0 (rowU o (r.drop q)).length :: .d (.int .i64 ((i : Int))) :: .d (.ivs r.length (ints r)) :: .d (.int .i64 (r.length)) :: Y32 (Y4 ([])))) [.box [.d (.int .i64 a.al),.d (.ivs a.nx.length (aK a.nx)),.d (.ivs a.ac.length (aJ a.ac))],.arr (ints (rowU o (r.drop q))) 1 0] := by
 intro j
 induction j with
 | zero =>
  intro q m o len hq hm hlen ho
  obtain _ | m := m; omega
  obtain rfl : q = r.length := by omega
  subst hlen
  rw [yR]
  simp only [xQ,Try.f94,SLM,simprocAttr]
  simp -implicitDefEqProofs (maxSteps := 2000000) (disch := try exact Dz) only [↓DN,↓kAsg,↓kRet,UP,simprocAttr,↓j8,↓oB,↓gW,LA,Int.lt_irrefl]
  rw [List.drop_length]
  rfl
 | succ j ih =>
  intro q m o len hq hm hlen ho
  obtain _ | m := m; omega
  subst hlen
  have hk : q < r.length := by omega
  have hc : (q : Int) < r.length := by omega
  have hq0 : (0 : Int) ≤ q := by omega
  have kl_i := fun {R : Type} {n : Nat} {k : A → Option R} (hn : 2 ≤ n) => @oB R L n k hn o (r.getD q 0) (by omega) hL
  have hl4 : o.length ≤ 4294967290 := by omega
  rw [d4 hk (d := 0)]
  by_cases h : r.getD q 0 ∈ o
  ·have e : rowU o (r.getD q 0 :: r.drop (q + 1)) = rowU o (r.drop (q + 1)) := by
    unfold rowU
    rw [List.foldl_cons,addU,if_pos h]
   have ih' := ih (q + 1) m o o.length (by omega) (by omega) rfl (by omega)
   rw [show ((q + 1 : Nat) : Int) = (q : Int) + 1 by omega] at ih'
   rw [e]
   rw [decide_eq_true h] at kl_i
   clear ih
   generalize rowU o (r.drop (q + 1)) = w at *
   rw [yR]
   simp only [xQ,Try.f94,SLM,simprocAttr]
   simp -implicitDefEqProofs (maxSteps := 2000000) (disch := try exact Dz) only [↓DN,↓kAsg,↓kRet,UP,simprocAttr,↓j8,↓gW,LA,hc,hq0,Int.toNat_natCast,↓kl_i,↓ih']
  ·have e : rowU o (r.getD q 0 :: r.drop (q + 1)) = rowU (o ++ [r.getD q 0]) (r.drop (q + 1)) := by
    unfold rowU
    rw [List.foldl_cons,addU,if_neg h]
   have ih' := ih (q + 1) m (o ++ [r.getD q 0]) (o.length + 1) (by omega) (by omega) (by simp) (by simp; omega)
   rw [show ((q + 1 : Nat) : Int) = (q : Int) + 1 by omega] at ih'
   rw [e]
   rw [decide_eq_false h] at kl_i
   clear ih
   generalize rowU (o ++ [r.getD q 0]) (r.drop (q + 1)) = w at *
   rw [yR]
   simp only [xQ,Try.f94,SLM,simprocAttr]
   simp -implicitDefEqProofs (maxSteps := 2000000) (disch := try exact Dz) only [↓DN,↓kAsg,↓kRet,UP,simprocAttr,↓j8,↓gW,LA,hc,hq0,Int.toNat_natCast,↓kl_i,cS,d6,b9,fO,List.length_append,↓ih']
theorem aAN {R : Type} {L n : Nat} (hn : 3 ≤ n) (hL : 2 ^ 60 ≤ L) {a : Aut} (ha : AOK a) {k : Exit → List A → H → Option R} : ∀ (j i m : Nat) (o : List Int) (W : Nat → List Int) (len : Nat) (hB : Bfs (goS a) (aC a.al) a.nx.length i [] o W) (hi : i ≤ o.length) (hj : a.nx.length < i + j) (hm : j < m) (hlen : len = o.length),
  aO env (aA env L n) L 0 [] (Z1 (U4 (U2 (Z32 (Z4 ([])))))) (jP 0) (U1 (Z4 (U32 (U4 (U2 ([])))))) m (Y1 (.ptr 0 0 0 :: .d .nils :: .sl 1 0 0 len :: .d (.int .i64 ((i : Int))) :: Y32 (Y4 (Y2 ([]))))) [.box [.d (.int .i64 a.al),.d (.ivs a.nx.length (aK a.nx)),.d (.ivs a.ac.length (aJ a.ac))],.arr (ints o) 1 0] k
  = k (.exit 0) (Y1 (.ptr 0 0 0 :: .d .nils :: .sl 1 0 0 (ordB (goS a) (aC a.al) j i o).length :: .d (.int .i64 (((ordB (goS a) (aC a.al) j i o).length : Int))) :: Y32 (Y4 (Y2 ([]))))) [.box [.d (.int .i64 a.al),.d (.ivs a.nx.length (aK a.nx)),.d (.ivs a.ac.length (aJ a.ac))],.arr (ints (ordB (goS a) (aC a.al) j i o)) 1 0] := by
 obtain ⟨sa,wa,a1,a2,a3⟩ := gX ha
 have hal := sa.1
 have last : ∀ (i m : Nat) (o : List Int) (len : Nat),i = o.length → 0 < m → len = o.length → aO env (aA env L n) L 0 [] (Z1 (U4 (U2 (Z32 (Z4 ([])))))) (jP 0) (U1 (Z4 (U32 (U4 (U2 ([])))))) m (Y1 (.ptr 0 0 0 :: .d .nils :: .sl 1 0 0 len :: .d (.int .i64 ((i : Int))) :: Y32 (Y4 (Y2 ([]))))) [.box [.d (.int .i64 a.al),.d (.ivs a.nx.length (aK a.nx)),.d (.ivs a.ac.length (aJ a.ac))],.arr (ints o) 1 0] k
  = k (.exit 0) (Y1 (.ptr 0 0 0 :: .d .nils :: .sl 1 0 0 o.length :: .d (.int .i64 ((o.length : Int))) :: Y32 (Y4 (Y2 ([]))))) [.box [.d (.int .i64 a.al),.d (.ivs a.nx.length (aK a.nx)),.d (.ivs a.ac.length (aJ a.ac))],.arr (ints o) 1 0] := by
  intro i m o len hi hm hlen
  obtain _ | m := m; omega
  subst hi
  subst hlen
  rw [JG]
  simp only [FR,Try.f94,SLM,simprocAttr]
  simp -implicitDefEqProofs (maxSteps := 2000000) (disch := try exact Dz) only [↓DN,↓kAsg,↓kRet,UP,simprocAttr,↓j8,↓oB,↓gW,LA,Int.lt_irrefl]
 intro j
 induction j with
 | zero =>
  intro i m o W len hB hi hj hm hlen
  have := oA hB.nod hB.rng
  omega
 | succ j ih =>
  intro i m o W len hB hi hj hm hlen
  unfold ordB
  by_cases hlt : i < o.length
  ·obtain _ | m := m; omega
   subst hlen
   rw [if_pos hlt]
   obtain ⟨v0,v1⟩ := hB.rng _ (u3 hlt)
   have hrm := aDm ha v0 v1
   obtain ⟨W1,h1,h2⟩ := Bfs.row (EC _) (fun l hl => aJj ha _ l v0 v1 hl) (aC a.al) [] o W hB rfl hlt rfl
   rw [hrm] at h1 h2 ⊢
   have hn1 := oA hB.nod hB.rng
   have hrl := (MB ha (i := (o.getD i 0).toNat) (by omega)).1
   have hll := eZ a.al
   have loop_c := fun {R : Type} {n : Nat} {k : Exit → List A → H → Option R} (hn : 3 ≤ n) => @aAk R L n hn hL a i (rowA a (o.getD i 0)) (by unfold rowA; omega) k (rowA a (o.getD i 0)).length 0 L o o.length (by omega) (by unfold rowA; omega) rfl (by unfold rowA; omega)
   rw [List.drop_zero] at loop_c
   have ih' := ih (i + 1) m (rowU o (rowA a (o.getD i 0))) W1 _ h1.next (by omega) (by omega) (by omega) rfl
   rw [show ((i + 1 : Nat) : Int) = (i : Int) + 1 by omega] at ih'
   simp only [Int.natCast_zero] at loop_c
   have hc : (i : Int) < o.length := by omega
   have hi0 : (0 : Int) ≤ i := by omega
   clear ih h1 hB last hrm
   unfold rowA at *
   generalize hv : o.getD i 0 = v at *
   have hk : v.toNat < a.nx.length := by omega
   generalize rowU o (a.nx.getD v.toNat []) = w at *
   generalize ordB (goS a) (aC a.al) j (i + 1) w = z at *
   rw [JG]
   simp only [FR,Try.f94,SLM,simprocAttr]
   simp -implicitDefEqProofs (maxSteps := 2000000) (disch := try exact Dz) only [↓DN,↓kAsg,↓kRet,UP,simprocAttr,↓j8,↓oB,↓gW,LA,hc,hi0,hv,v0,v1,cS,d6,dH,dK,Int.toNat_natCast,↓loop_c,↓ih']
  ·rw [if_neg hlt]
   exact last i m o len (by omega) (by omega) hlen
theorem aHQ {L n : Nat} (hn : 4 ≤ n) (a : Aut) (ha : AOK a) (hL : 2 ^ 60 ≤ L) : aA env L n 94 [.agg [.d (.int .i64 a.al),.d (.ivs a.nx.length (aK a.nx)),.d (.ivs a.ac.length (aJ a.ac))]] [] = some (.d (.ivs (ordA a).length (ints (ordA a))),[]) := by
 obtain ⟨sa,wa,a1,a2,a3⟩ := gX ha
 have loop_c := fun {R : Type} {n : Nat} {k : Exit → List A → H → Option R} (hn : 3 ≤ n) => @aAN R L n hn hL a ha k (a.nx.length + 1) 0 L [0] (fun _ => []) 1 (Bfs.start (by omega)) (by omega) (by omega) (by omega) rfl
 have e : ints [0] = [.int .i64 0] := rfl
 have e2 : ordB (goS a) (aC a.al) (a.nx.length + 1) 0 [0] = ordA a := rfl
 rw [e,e2] at loop_c
 simp only [Int.natCast_zero] at loop_c
 obtain ⟨W,hB⟩ := y8 ha
 have hl := oA hB.nod hB.rng
 clear hB
 generalize ordA a = w at *
 have e4 : (ints w).take w.length = ints w := by rw [b9 (Nat.le_refl _)]
 obtain _ | n := n; omega
 rw [aGK]
 simp only [YY,Try.f94,SLM,simprocAttr]
 simp -implicitDefEqProofs (maxSteps := 2000000) (disch := try exact Dz) only [↓DN,↓kAsg,↓kRet,UP,simprocAttr,↓j8,↓oB,↓gW,LA,e4,↓loop_c,cS,d6]
theorem qS {R : Type} {L n : Nat} {hq : H} {k : A → H → Option R} (hn : 4 ≤ n) (a : Aut) (ha : AOK a) (hL : 2 ^ 60 ≤ L) : aM env (aA env L n) hq 94 [.agg [.d (.int .i64 a.al),.d (.ivs a.nx.length (aK a.nx)),.d (.ivs a.ac.length (aJ a.ac))]] k = k (.d (.ivs (ordA a).length (ints (ordA a)))) hq :=
 aX rfl (aHQ hn a ha hL) rfl (.inr rfl)
def netO (a : Aut) (st : Int) : Net := ⟨[],[a],[0],a.al,5,st⟩
theorem aJH {na v : Int} (h0 : 0 ≤ v) (h1 : v < na) : decN [na] v = [v] := by
 show [v.tmod na] = [v]
 rw [Int.tmod_eq_emod_of_nonneg h0,Int.emod_eq_of_lt h0 h1]
theorem aNl {a : Aut} (ha : AOK a) (st : Int) : aBO (nxS a) (glS st) (aC a.al) a.nx.length 0 = oneG a st := by
 obtain ⟨_,_,h1,_,_⟩ := gX ha
 refine zR (aOA (fun v c h0 h1 hc => ?_) (EC _) (by omega) (by omega)) (H3 ha st)
 have := mO c hc
 exact N6 ha h0 h1 (by omega)
theorem aFS {L n : Nat} (hn : 11 ≤ n) (hL : 2 ^ 60 ≤ L) {a : Aut} (ha : AOK a) (st : Int) :
  aA env L n 86 [.agg [.d .nils,.d (.ivs 1 (eO [a])),.d (.ivs 1 (ints [0])),.d (.int .i64 a.al),.d (.int .i64 5),.d (.int .i64 st)]] [] = some (.tup [.d (.str (txt (oneG a st).1)),.d (.bool (oneG a st).2)],[]) := by
 obtain ⟨sa,aw,a1,a2,a3⟩ := gX ha
 have hz : KK (netO a st) = [(a.nx.length : Int)] := rfl
 rw [← aNl ha st]
 have key := @aHB L n hn hL 1 (eO [a]) 5 st a.al 0 [0] [(a.nx.length : Int)] (nxS a) (glS st) a.nx.length (by simp) rfl (by
   intro q hq
   match q,hq with
   | 0,_ => exact ⟨by simp,by simp⟩
   | 1,_ => simp; omega
   | q + 2,hq => simp at hq) (by simp) (by intro z hz; simp at hz; subst hz; omega) (by
   simp only [PU,and_true]
   refine ⟨by omega,by omega,?_⟩
   simp) (by simp [encN]) (by omega) (by omega)
   (fun {n} hn => by
    have := @VT L n hn (netO a st) (by simp [netO]) (by simp [netO]) (fun x hx => by simp [netO] at hx; subst hx; omega) hL
    exact this)
   (fun v l hv hl {R n hq k} hn => by
    have hl2 := mO l hl
    rw [aJH (by omega) (by omega)]
    have ga := WX ha (q := (v : Int)) (by omega) (by omega) hl2.1 (by omega)
    have hnx : nexG (fun i => [goI a.al a.nx (v : Int) l]) [(a.nx.length : Int)] 1 0 [0] = nxS a v l := by
     simp [nexG,mulN,nxS]
    rw [← hnx]
    refine aX rfl (@aF9 L n hn hL 0 1 1 [] (eO [a]) (ints [0]) a.al 5 st [(a.nx.length : Int)] [(v : Int)] l (fun i => [goI a.al a.nx (v : Int) l]) (fun i => if i = 0 then 0 else 11) rfl (by simp) (fun t ht {R n hq k} hn => ?_) (fun t ht => ?_) (fun t ht => ?_) (fun t ht c hc => ?_) (by simp) (fun t ht => ?_)) rfl (.inr rfl)
    ·match t,ht with
     | 0,_ => exact aX rfl (OA hn (netO a st) 0 _ l (Nat.le_refl _) (by simp [netO]) (by simp [netO]) (by simp [netO]) a rfl sa aw (by show (0 : Int) ≤ (v : Int); omega) (by show (v : Int) < _; omega) hl2.1 (by omega) hL) rfl (.inr rfl)
     | t + 1,ht => exact absurd ht (by show ¬ (t + 1 < 1); omega)
    ·match t,ht with
     | 0,_ => simp; omega
     | t + 1,ht => exact absurd ht (by show ¬ (t + 1 < 1); omega)
    ·simp
    ·match t,ht with
     | 0,_ => simp at hc; subst hc; simpa using ga
     | t + 1,ht => exact absurd ht (by show ¬ (t + 1 < 1); omega)
    ·match t,ht with
     | 0,_ => simp; omega
     | t + 1,ht => exact absurd ht (by show ¬ (t + 1 < 1); omega))
   (fun v hv {R n k} hn => by
    rw [aJH (by omega) (by omega)]
    have hg : aGu (netO a st) [(v : Int)] ((movT (nxS a) (aC a.al) a.nx.length).getD v []) = glS st v := rfl
    rw [← hg]
    exact fB (aFJ (by omega) (netO a st) [(v : Int)] ((movT (nxS a) (aC a.al) a.nx.length).getD v []) rfl (by simp [netO]) (by simp [netO]) (by simp)) rfl)
   (fun v c h0 h1 hc => by
    have := mO c hc
    exact ⟨by simp [nxS],N6 ha h0 h1 (by omega)⟩)
 exact key
theorem MP {L n : Nat} (hn : 12 ≤ n) (a : Aut) (st : Int) (hs : a7 a.nx) (hac : a.ac.length ≤ 4294967296) (hL : 2 ^ 60 ≤ L) : aA env L n 70 [.agg [.d (.int .i64 a.al),.d (.ivs a.nx.length (aK a.nx)),.d (.ivs a.ac.length (aJ a.ac))],.d (.int .i64 st)] [] = some (.tup [.d (.str (txt (accG a st).1)),.d (.bool (accG a st).2)],[]) := by
 have hrl := hs.1
 unfold accG
 cases hv : iK a.al a.nx a.ac with
 | false =>
  simp only [Bool.false_eq_true,if_false,txt,List.map_nil]
  obtain _ | n := n; omega
  rw [BK]
  simp only [u5,Try.f70,SLM,simprocAttr]
  simp -implicitDefEqProofs (maxSteps := 2000000) (disch := try exact Dz) only [↓DN,↓kAsg,↓kRet,UP,simprocAttr,↓hG,↓KP,↓hM,↓IW,↓f0,↓fZ,↓fW,↓C5,↓DV,↓DB,LA,hv]
 | true =>
  simp only [if_true]
  by_cases h1 : 0 ≤ st ∧ st < a.nx.length
  ·obtain ⟨h1,h2⟩ := h1
   have kc_b := fun {R : Type} {n : Nat} {k : A → Option R} (hn : 11 ≤ n) => fB (call := aA env L n) (k := k) (f := 86) (@aFS L n hn hL a hv st) rfl
   simp only [eO,ints,List.map_cons,List.map_nil] at kc_b
   have kl_b := fun {R : Type} {n : Nat} {k : A → Option R} (hn : 11 ≤ n) => kc_b (R := R) (n := n) (k := k) hn
   have kv_l := fun {R : Type} {n : Nat} {hq : H} {args : List A} {k : A → H → Option R} => aW (E := env) (call := aA env L n) (h := hq) (k := k) (args := args) CY
   clear kc_b
   generalize oneG a st = r at *
   obtain _ | n := n; omega
   rw [BK]
   simp only [u5,Try.f70,SLM,simprocAttr]
   simp -implicitDefEqProofs (maxSteps := 2000000) (disch := try exact Dz) only [↓DN,↓kAsg,↓kRet,UP,simprocAttr,↓hG,↓KP,↓hM,↓IW,↓f0,↓fZ,↓fW,↓C5,↓DV,↓DB,LA,hv,h1,h2,decide_true,Bool.and_self,↓kv_l,↓kl_b]
  ·rw [aRi hv h1]
   have e3 : (decide (0 ≤ st) && decide (st < a.nx.length)) = false := by
    rw [Bool.and_eq_false_iff,decide_eq_false_iff_not,decide_eq_false_iff_not]; omega
   simp only [txt,List.map_nil]
   obtain _ | n := n; omega
   rw [BK]
   simp only [u5,Try.f70,SLM,simprocAttr]
   simp -implicitDefEqProofs (maxSteps := 2000000) (disch := try exact Dz) only [↓DN,↓kAsg,↓kRet,UP,simprocAttr,↓hG,↓KP,↓hM,↓IW,↓f0,↓fZ,↓fW,↓C5,↓DV,↓DB,LA,hv,e3]
theorem tC {R : Type} {L n : Nat} {hq : H} {k : A → H → Option R} (hn : 12 ≤ n) (a : Aut) (st : Int) (hs : a7 a.nx) (hac : a.ac.length ≤ 4294967296) (hL : 2 ^ 60 ≤ L) : aM env (aA env L n) hq 70 [.agg [.d (.int .i64 a.al),.d (.ivs a.nx.length (aK a.nx)),.d (.ivs a.ac.length (aJ a.ac))],.d (.int .i64 st)] k = k (.tup [.d (.str (txt (accG a st).1)),.d (.bool (accG a st).2)]) hq :=
 aX rfl (MP hn a st hs hac hL) rfl (.inl rfl)
theorem tN {R : Type} {L n : Nat} {k : A → Option R} (hn : 12 ≤ n) (a : Aut) (st : Int) (hs : a7 a.nx) (hac : a.ac.length ≤ 4294967296) (hL : 2 ^ 60 ≤ L) : bH (aA env L n) 70 [.agg [.d (.int .i64 a.al),.d (.ivs a.nx.length (aK a.nx)),.d (.ivs a.ac.length (aJ a.ac))],.d (.int .i64 st)] k = k (.tup [.d (.str (txt (accG a st).1)),.d (.bool (accG a st).2)]) :=
 fB (MP hn a st hs hac hL) rfl
theorem qB {R : Type} {L n : Nat} {hq : H} {k : A → H → Option R} {id0 g0 o0 len0 : Nat} {a : Aut} {st : Int} : aM env (aA env L n) hq 70 [.agg [.d (.int .i64 a.al),.sl id0 g0 o0 len0,.d (.ivs a.ac.length (aJ a.ac))],.d (.int .i64 st)] k = match box (c7 hq [.agg [.d (.int .i64 a.al),.sl id0 g0 o0 len0,.d (.ivs a.ac.length (aJ a.ac))],.d (.int .i64 st)]) with
  | .mk (some fs) => bH (aA env L n) 70 fs fun r => k r hq
  | _ => none := aW nS
theorem pZ {R : Type} {L n : Nat} {hq : H} {k : A → H → Option R} {id1 g1 o1 len1 : Nat} {a : Aut} {st : Int} : aM env (aA env L n) hq 70 [.agg [.d (.int .i64 a.al),.d (.ivs a.nx.length (aK a.nx)),.sl id1 g1 o1 len1],.d (.int .i64 st)] k = match box (c7 hq [.agg [.d (.int .i64 a.al),.d (.ivs a.nx.length (aK a.nx)),.sl id1 g1 o1 len1],.d (.int .i64 st)]) with
  | .mk (some fs) => bH (aA env L n) 70 fs fun r => k r hq
  | _ => none := aW nS
theorem qC {R : Type} {L n : Nat} {hq : H} {k : A → H → Option R} {id1 g1 o1 len1 : Nat} {id0 g0 o0 len0 : Nat} {a : Aut} {st : Int} : aM env (aA env L n) hq 70 [.agg [.d (.int .i64 a.al),.sl id0 g0 o0 len0,.sl id1 g1 o1 len1],.d (.int .i64 st)] k = match box (c7 hq [.agg [.d (.int .i64 a.al),.sl id0 g0 o0 len0,.sl id1 g1 o1 len1],.d (.int .i64 st)]) with
  | .mk (some fs) => bH (aA env L n) 70 fs fun r => k r hq
  | _ => none := aW nS
theorem aIv {f : Int → Int} {r : List Int} {k : Nat} (h : k < r.length) : (r.drop k).map f = f (r.getD k 0) :: (r.drop (k + 1)).map f := by
 rw [d4 h (d := 0)]; rfl
theorem YW {b : List Bool} {x : Bool} : aJ b ++ [.bool x] = aJ (b ++ [x]) := by simp [aJ]
theorem aBo {R : Type} {L n : Nat} (hn : 3 ≤ n) (hL : 2 ^ 60 ≤ L) {a : Aut} {o : List Int} {i : Nat} {v : Int} (hio : i < o.length) (hoi : o.getD i 0 = v) (v0 : 0 ≤ v) (v1 : v < a.nx.length) (hr : (rowA a v).length ≤ 100) (ho : o.length ≤ 100) (hal : a.nx.length ≤ 100) (hin : ∀ x ∈ rowA a v,x ∈ o) {al2 : Int} {d e : Nat} {cn cs2 : List D} {k : Exit → List A → H → Option R} : ∀ (j q m : Nat) (r : List Int) (len : Nat) (hq : q + j = (rowA a v).length) (hm : j < m) (hlen : len = r.length) (hr2 : r.length + j ≤ 1000),
  aO env (aA env L n) L 0 [] (Z1 (U4 (U2 (U1 (Z32 (Z16 (Z8 (Z4 (Z1 ([])))))))))) (mR 1) (U1 (Z4 (Z2 (Z1 (U32 (U16 (U8 (U4 (U1 ([])))))))))) m (Y1 (.ptr 0 0 0 :: .ptr 1 0 0 :: .d (.ivs o.length (ints o)) :: .ptr 2 0 0 :: .d (.int .i64 ((i : Int))) :: .sl 3 0 0 len :: .d (.int .i64 ((q : Int))) :: Y32 (Y16 (Y8 (Y4 (Y1 ([]))))))) [.box [.d (.int .i64 a.al),.d (.ivs a.nx.length (aK a.nx)),.d (.ivs a.ac.length (aJ a.ac))],.box [.d (.int .i64 0),.sl 4 0 0 0,.sl 5 0 0 0],.box [.d (.int .i64 al2),.sl 6 0 0 d,.sl 7 0 0 d],.arr (ints r) 1 0,.arr [] 0 0,.arr [] 0 0,.arr cn e 0,.arr cs2 e 0] k
  = k (.exit 2) (Y1 (.ptr 0 0 0 :: .ptr 1 0 0 :: .d (.ivs o.length (ints o)) :: .ptr 2 0 0 :: .d (.int .i64 ((i : Int))) :: .sl 3 0 0 (r ++ ((rowA a v).drop q).map (idxU o)).length :: .d (.int .i64 ((rowA a v).length)) :: Y32 (Y16 (Y8 (Y4 (Y1 ([]))))))) [.box [.d (.int .i64 a.al),.d (.ivs a.nx.length (aK a.nx)),.d (.ivs a.ac.length (aJ a.ac))],.box [.d (.int .i64 0),.sl 4 0 0 0,.sl 5 0 0 0],.box [.d (.int .i64 al2),.sl 6 0 0 d,.sl 7 0 0 d],.arr (ints (r ++ ((rowA a v).drop q).map (idxU o))) 1 0,.arr [] 0 0,.arr [] 0 0,.arr cn e 0,.arr cs2 e 0] := by
 have hio1 : (i : Int) < o.length := by omega
 have hi0 : (0 : Int) ≤ i := by omega
 have hvk : v.toNat < a.nx.length := by omega
 intro j
 induction j with
 | zero =>
  intro q m r len hq hm hlen hr2
  obtain _ | m := m; omega
  obtain rfl : q = (rowA a v).length := by omega
  subst hlen
  rw [List.drop_length]
  unfold rowA at *
  rw [MF]
  simp only [JD,Try.f69,SLM,simprocAttr]
  simp -implicitDefEqProofs (maxSteps := 2000000) (disch := try exact Dz) only [↓DN,↓kAsg,↓kRet,UP,simprocAttr,↓qS,↓rB,↓rA,↓oJ,LA,hio1,hi0,hoi,v0,v1,Int.toNat_natCast,Int.lt_irrefl,cS,d6,dH,dK]
 | succ j ih =>
  intro q m r len hq hm hlen hr2
  obtain _ | m := m; omega
  subst hlen
  have hk : q < (rowA a v).length := by omega
  have hx : (rowA a v).getD q 0 ∈ o := hin _ (u3 hk)
  have ih' := ih (q + 1) m (r ++ [idxU o ((rowA a v).getD q 0)]) (r.length + 1) (by omega) (by omega) (by simp) (by simp; omega)
  rw [show ((q + 1 : Nat) : Int) = (q : Int) + 1 by omega] at ih'
  simp only [List.append_assoc,List.singleton_append] at ih'
  rw [aIv hk]
  have kc_x := fun {R : Type} {n : Nat} {hq : H} {k : A → H → Option R} (hn : 2 ≤ n) => @rB R L n hq k hn o ((rowA a v).getD q 0) hx (by omega) hL
  have hc : (q : Int) < (rowA a v).length := by omega
  have hq0 : (0 : Int) ≤ q := by omega
  clear ih hx hin
  generalize ((rowA a v).drop (q + 1)).map (idxU o) = w at *
  unfold rowA at *
  have hr100 : r.length ≤ 1000 := by omega
  rw [MF]
  simp only [JD,Try.f69,SLM,simprocAttr]
  simp -implicitDefEqProofs (maxSteps := 2000000) (disch := try exact Dz) only [↓DN,↓kAsg,↓kRet,UP,simprocAttr,↓qS,↓rA,↓oJ,LA,hio1,hi0,hoi,v0,v1,hc,hq0,Int.toNat_natCast,cS,d6,dH,dK,↓kc_x,b9,fO,List.length_append,↓ih']
theorem aCs {R : Type} {L n : Nat} (hn : 3 ≤ n) (hL : 2 ^ 60 ≤ L) {a : Aut} (ha : AOK a) {o : List Int} (ho : o.length ≤ 12) (hor : ∀ x ∈ o,0 ≤ x ∧ x < a.nx.length) (hin : ∀ v ∈ o,∀ x ∈ rowA a v,x ∈ o) {al2 : Int} {k : Exit → List A → H → Option R} : ∀ (j i m : Nat) (d : List (List Int)) (b : List Bool) (len e : Nat) (hi : i + j = o.length) (hm : j < m) (hd : d = (o.take i).map fun v => (rowA a v).map (idxU o)) (hb : b = (o.take i).map fun v => a.ac.getD v.toNat false) (hlen : i = len) (he : e = if i = 0 then 0 else 1),
  aO env (aA env L n) L 0 [] (Z1 (U4 (U2 (U1 (Z32 (Z16 (Z8 (Z4 (Z1 ([])))))))))) (mR 0) (U1 (Z4 (Z1 (U32 (U16 (U8 (U4 (U2 (U1 ([])))))))))) m (Y1 (.ptr 0 0 0 :: .ptr 1 0 0 :: .d (.ivs o.length (ints o)) :: .ptr 2 0 0 :: .d (.int .i64 ((i : Int))) :: Y32 (Y16 (Y8 (Y4 (Y2 (Y1 ([])))))))) [.box [.d (.int .i64 a.al),.d (.ivs a.nx.length (aK a.nx)),.d (.ivs a.ac.length (aJ a.ac))],.box [.d (.int .i64 0),.sl 3 0 0 0,.sl 4 0 0 0],.box [.d (.int .i64 al2),.sl 5 0 0 len,.sl 6 0 0 len],.arr [] 0 0,.arr [] 0 0,.arr (aK d) e 0,.arr (aJ b) e 0] k
  = k (.exit 0) (Y1 (.ptr 0 0 0 :: .ptr 1 0 0 :: .d (.ivs o.length (ints o)) :: .ptr 2 0 0 :: .d (.int .i64 ((o.length : Int))) :: Y32 (Y16 (Y8 (Y4 (Y2 (Y1 ([])))))))) [.box [.d (.int .i64 a.al),.d (.ivs a.nx.length (aK a.nx)),.d (.ivs a.ac.length (aJ a.ac))],.box [.d (.int .i64 0),.sl 3 0 0 0,.sl 4 0 0 0],.box [.d (.int .i64 al2),.sl 5 0 0 o.length,.sl 6 0 0 o.length],.arr [] 0 0,.arr [] 0 0,.arr (aK (o.map fun v => (rowA a v).map (idxU o))) (if o.length = 0 then 0 else 1) 0,.arr (aJ (o.map fun v => a.ac.getD v.toNat false)) (if o.length = 0 then 0 else 1) 0] := by
 obtain ⟨sa,wa,a1,a2,a3⟩ := gX ha
 have hal := sa.1
 intro j
 induction j with
 | zero =>
  intro i m d b len e hi hm hd hb hlen he
  obtain _ | m := m; omega
  obtain rfl : i = o.length := by omega
  rw [List.take_length] at hd hb
  subst hd; subst hb; subst hlen; subst he
  rw [A3]
  simp only [BT,Try.f69,SLM,simprocAttr]
  simp -implicitDefEqProofs (maxSteps := 2000000) (disch := try exact Dz) only [↓DN,↓kAsg,↓kRet,UP,simprocAttr,↓qS,↓rB,↓rA,↓oJ,LA,Int.lt_irrefl]
 | succ j ih =>
  intro i m d b len e hi hm hd hb hlen he
  obtain _ | m := m; omega
  subst hlen
  have hio : i < o.length := by omega
  have hmem := u3 hio
  obtain ⟨v0,v1⟩ := hor _ hmem
  have hin1 := hin _ hmem
  have hrl := (MB ha (i := (o.getD i 0).toNat) (by omega)).1
  have hll := eZ a.al
  have htk : o.take (i + 1) = o.take i ++ [o.getD i 0] := by
   rw [List.take_add_one,List.getElem?_eq_getElem hio,List.getD_eq_getElem?_getD,List.getElem?_eq_getElem hio]; rfl
  have hdl : d.length = i := by rw [hd,List.length_map,List.length_take]; omega
  have hbl : b.length = i := by rw [hb,List.length_map,List.length_take]; omega
  have ih' := ih (i + 1) m (d ++ [(rowA a (o.getD i 0)).map (idxU o)]) (b ++ [a.ac.getD (o.getD i 0).toNat false]) (i + 1) 1 (by omega) (by omega) (by rw [htk,hd,List.map_append]; rfl) (by rw [htk,hb,List.map_append]; rfl) rfl (by rw [if_neg (by omega)])
  rw [show ((i + 1 : Nat) : Int) = (i : Int) + 1 by omega] at ih'
  have loop_c := fun {R : Type} {n : Nat} {d e : Nat} {cn cs2 : List D} {k : Exit → List A → H → Option R} (hn : 3 ≤ n) => @aBo R L n hn hL a o i (o.getD i 0) hio rfl v0 v1 (by unfold rowA; omega) (by omega) (by omega) hin1 al2 d e cn cs2 k (rowA a (o.getD i 0)).length 0 L [] 0 (by omega) (by unfold rowA; omega) rfl (by unfold rowA; rw [List.length_nil]; omega)
  rw [List.drop_zero] at loop_c
  simp only [Int.natCast_zero,List.nil_append,rU] at loop_c
  have hc : (i : Int) < o.length := by omega
  have hi0 : (0 : Int) ≤ i := by omega
  have hrl2 : ((rowA a (o.getD i 0)).map (idxU o)).length ≤ 6 := by rw [List.length_map]; unfold rowA; omega
  clear ih hin hor hin1 hmem hd hb htk
  generalize (rowA a (o.getD i 0)).map (idxU o) = w at *
  generalize rowA a (o.getD i 0) = w0 at *
  generalize hv : o.getD i 0 = v at *
  have hvk : v.toNat < a.nx.length := by omega
  have hva : v.toNat < a.ac.length := by omega
  have hva2 : v < a.ac.length := by omega
  have ht : (aK d).take i = aK d := E8 (by omega)
  have ht2 : (aJ b).take i = aJ b := kU (by omega)
  have hwt : (ints w).take w.length = ints w := by rw [b9 (Nat.le_refl _)]
  have hi12 : i ≤ 12 := by omega
  by_cases hz : i = 0
  ·obtain rfl : e = 0 := by rw [he,if_pos hz]
   clear he hz
   rw [A3]
   simp only [BT,Try.f69,SLM,simprocAttr]
   simp -implicitDefEqProofs (maxSteps := 2000000) (disch := try exact Dz) only [↓DN,↓kAsg,↓kRet,UP,simprocAttr,↓qS,↓rB,↓rA,↓oJ,LA,hc,hi0,hv,v0,v1,hva2,cS,d6,dH,dK,Int.toNat_natCast,↓loop_c,ht,ht2,hwt,V9,YW,↓ih']
  ·obtain rfl : e = 1 := by rw [he,if_neg hz]
   clear he hz
   rw [A3]
   simp only [BT,Try.f69,SLM,simprocAttr]
   simp -implicitDefEqProofs (maxSteps := 2000000) (disch := try exact Dz) only [↓DN,↓kAsg,↓kRet,UP,simprocAttr,↓qS,↓rB,↓rA,↓oJ,LA,hc,hi0,hv,v0,v1,hva2,cS,d6,dH,dK,Int.toNat_natCast,↓loop_c,ht,ht2,hwt,V9,YW,↓ih']
theorem aIH {L n : Nat} (hn : 6 ≤ n) (a : Aut) (ha : AOK a) (hL : 2 ^ 60 ≤ L) : aA env L n 69 [.agg [.d (.int .i64 a.al),.d (.ivs a.nx.length (aK a.nx)),.d (.ivs a.ac.length (aJ a.ac))]] [] = some (.agg [.d (.int .i64 (dZ a).al),.d (.ivs (dZ a).nx.length (aK (dZ a).nx)),.d (.ivs (dZ a).ac.length (aJ (dZ a).ac))],[]) := by
 obtain ⟨sa,wa,a1,a2,a3⟩ := gX ha
 obtain ⟨W,hB⟩ := y8 ha
 have hl := oA hB.nod hB.rng
 have hp := hB.pos
 have hin : ∀ v ∈ ordA a,∀ x ∈ rowA a v,x ∈ ordA a := by
  intro v hv x hx
  obtain ⟨v0,v1⟩ := hB.rng v hv
  rw [← aDm ha v0 v1] at hx
  obtain ⟨l,hl,rfl⟩ := List.mem_map.1 hx
  exact PX hB hv hl
 have loop_c := fun {R : Type} {n : Nat} {k : Exit → List A → H → Option R} (hn : 3 ≤ n) => @aCs R L n hn hL a ha (ordA a) (by omega) hB.rng hin a.al k (ordA a).length 0 L [] [] 0 0 (by omega) (by omega) rfl rfl rfl rfl
 have kc_o := fun {R : Type} {n : Nat} {hq : H} {k : A → H → Option R} (hn : 4 ≤ n) => @qS R L n hq k hn a ha hL
 simp only [Int.natCast_zero,aFb,aL2] at loop_c
 rw [if_neg (by omega)] at loop_c
 have hx1 : (dZ a).nx.length = (ordA a).length := List.length_map _
 have hx2 : (dZ a).ac.length = (ordA a).length := List.length_map _
 have hx3 : (dZ a).al = a.al := rfl
 have e1 : ((ordA a).map fun v => (rowA a v).map (idxU (ordA a))) = (dZ a).nx := rfl
 have e2 : ((ordA a).map fun v => a.ac.getD v.toNat false) = (dZ a).ac := rfl
 rw [e1,e2] at loop_c
 rw [hx1,hx2,hx3]
 have ht1 : (aK (dZ a).nx).take (ordA a).length = aK (dZ a).nx := E8 (by omega)
 have ht2 : (aJ (dZ a).ac).take (ordA a).length = aJ (dZ a).ac := kU (by omega)
 have hr1 : (aK (dZ a).nx).length = (ordA a).length := by rw [tP,hx1]
 have hb1 : (aJ (dZ a).ac).length = (ordA a).length := by rw [eI,hx2]
 clear hB hin e1 e2
 generalize (dZ a).nx = w1 at *
 generalize (dZ a).ac = w2 at *
 generalize ordA a = w at *
 obtain _ | n := n; omega
 rw [aIu]
 simp only [aCT,Try.f69,SLM,simprocAttr]
 simp -implicitDefEqProofs (maxSteps := 2000000) (disch := try exact Dz) only [↓DN,↓kAsg,↓kRet,UP,simprocAttr,↓rB,↓rA,↓oJ,LA,↓kc_o,↓loop_c,ht1,ht2,hr1,hb1,Nat.le_refl]
theorem D4 {R : Type} {L n : Nat} {hq : H} {k : A → H → Option R} (hn : 6 ≤ n) (a : Aut) (ha : AOK a) (hL : 2 ^ 60 ≤ L) : aM env (aA env L n) hq 69 [.agg [.d (.int .i64 a.al),.d (.ivs a.nx.length (aK a.nx)),.d (.ivs a.ac.length (aJ a.ac))]] k = k (.agg [.d (.int .i64 (dZ a).al),.d (.ivs (dZ a).nx.length (aK (dZ a).nx)),.d (.ivs (dZ a).ac.length (aJ (dZ a).ac))]) hq :=
 aX rfl (aIH hn a ha hL) rfl (.inr rfl)
def AY (x : Aut) (j i : Nat) : List Str := (List.range' i j).map fun q => txt (accG x (q : Nat)).1
theorem aIn {x : Aut} {j i : Nat} : AY x (j + 1) i = txt (accG x (i : Nat)).1 :: AY x j (i + 1) := by
 simp [AY,List.range'_succ]
theorem aIZ {a : Aut} (h : AOK a) : AY (dZ a) (dZ a).nx.length 0 = pE a := by
 obtain ⟨W,hB⟩ := y8 h
 rw [M1 h hB]
 have hx1 : (dZ a).nx.length = (ordA a).length := List.length_map _
 unfold AY
 rw [hx1,← List.range_eq_range']
 apply List.map_congr_left
 intro q hq
 unfold accG
 rw [if_pos (show iK (dZ a).al (dZ a).nx (dZ a).ac = true from aAO h),aN0 h hB (List.mem_range.1 hq)]
def BW (a : Aut) : List Str := if iK a.al a.nx a.ac = true then pE a else []
theorem QH {a : Aut} (h : AOK a) : 1 ≤ (pE a).length ∧ (pE a).length ≤ 12 := by
 obtain ⟨W,hB⟩ := y8 h
 obtain ⟨sa,wa,a1,a2,a3⟩ := gX h
 have hl := oA hB.nod hB.rng
 have hp := hB.pos
 rw [M1 h hB,List.length_map,List.length_range]
 omega
theorem XE {R : Type} {L n : Nat} (hn : 12 ≤ n) (hL : 2 ^ 60 ≤ L) {a : Aut} (ha : AOK a) {k : Exit → List A → H → Option R} : ∀ (q i m : Nat) (o : List Str) (len : Nat) (hq : i + q = a.nx.length) (hm : q < m) (hlen : len = o.length) (ho : o.length + q ≤ 100000),
  aO env (aA env L n) L 0 [] (Z2 (U4 (Z16 (Z8 (Z2 ([])))))) (pM 0) (U2 (Z4 (U16 (U8 (U2 ([])))))) m (Y2 (.d .nils :: .ptr 0 0 0 :: .sl 1 0 0 len :: .d (.int .i64 ((i : Int))) :: Y16 (Y8 (Y2 ([]))))) [.box [.d (.int .i64 a.al),.d (.ivs a.nx.length (aK a.nx)),.d (.ivs a.ac.length (aJ a.ac))],.arr (bT o) 1 0] k
  = k (.exit 0) (Y2 (.d .nils :: .ptr 0 0 0 :: .sl 1 0 0 (o ++ AY a q i).length :: .d (.int .i64 ((a.nx.length : Int))) :: Y16 (Y8 (Y2 ([]))))) [.box [.d (.int .i64 a.al),.d (.ivs a.nx.length (aK a.nx)),.d (.ivs a.ac.length (aJ a.ac))],.arr (bT (o ++ AY a q i)) 1 0] := by
 obtain ⟨sa,wa,a1,a2,a3⟩ := gX ha
 have hac : a.ac.length ≤ 4294967296 := by omega
 have hal := sa.1
 intro q
 induction q with
 | zero =>
  intro i m o len hq hm hlen ho
  obtain _ | m := m; omega
  obtain rfl : i = a.nx.length := by omega
  subst hlen
  have e : AY a 0 a.nx.length = [] := rfl
  rw [e,List.append_nil]
  rw [B9]
  simp only [yB,Try.f29,SLM,simprocAttr]
  simp -implicitDefEqProofs (maxSteps := 2000000) (disch := try exact Dz) only [↓DN,↓kAsg,↓kRet,UP,simprocAttr,↓hG,↓D4,↓tC,↓hM,↓tN,↓f0,↓fZ,↓fW,↓qB,↓pZ,↓qC,LA,SE,Int.lt_irrefl]
 | succ q ih =>
  intro i m o len hq hm hlen ho
  obtain _ | m := m; omega
  subst hlen
  have hc : (i : Int) < a.nx.length := by omega
  have kc_s := fun {R : Type} {n : Nat} {hq : H} {k : A → H → Option R} (hn : 12 ≤ n) => @tC R L n hq k hn a i sa hac hL
  have ih' := ih (i + 1) m (o ++ [txt (accG a (i : Nat)).1]) (o.length + 1) (by omega) (by omega) (by simp) (by simp; omega)
  rw [show ((i + 1 : Nat) : Int) = (i : Int) + 1 by omega] at ih'
  simp only [List.append_assoc,List.singleton_append] at ih'
  rw [aIn]
  clear ih
  generalize AY a q (i + 1) = w2 at *
  generalize accG a (i : Nat) = r at *
  obtain ⟨w,b⟩ := r
  simp only at kc_s ih' ⊢
  rw [B9]
  simp only [yB,Try.f29,SLM,simprocAttr]
  simp -implicitDefEqProofs (maxSteps := 2000000) (disch := try exact Dz) only [↓DN,↓kAsg,↓kRet,UP,simprocAttr,↓hG,↓D4,↓hM,↓tN,↓f0,↓fZ,↓fW,↓qB,↓pZ,↓qC,LA,SE,hc,↓kc_s,rP,aB9,List.length_append,↓ih']
theorem aBi {L n : Nat} (hn : 13 ≤ n) (a : Aut) (hs : a7 a.nx) (hac : a.ac.length ≤ 4294967296) (hL : 2 ^ 60 ≤ L) : aA env L n 29 [.agg [.d (.int .i64 a.al),.d (.ivs a.nx.length (aK a.nx)),.d (.ivs a.ac.length (aJ a.ac))]] [] = some (.d (.ivs (BW a).length (bT (BW a))),[]) := by
 have hrl := hs.1
 unfold BW
 cases hv : iK a.al a.nx a.ac with
 | false =>
  simp only [Bool.false_eq_true,if_false,List.length_nil,TS]
  obtain _ | n := n; omega
  rw [MQ]
  simp only [C6,Try.f29,SLM,simprocAttr]
  simp -implicitDefEqProofs (maxSteps := 2000000) (disch := try exact Dz) only [↓DN,↓kAsg,↓kRet,UP,simprocAttr,↓hG,↓D4,↓tC,↓hM,↓tN,↓f0,↓fZ,↓fW,↓qB,↓pZ,↓qC,LA,hv]
 | true =>
  have htr := aAO (a := a) hv
  obtain ⟨sa,wa,a1,a2,a3⟩ := gX htr
  have hl := QH (a := a) hv
  have loop_c := fun {R : Type} {n : Nat} {k : Exit → List A → H → Option R} (hn : 12 ≤ n) => @XE R L n hn hL (dZ a) htr k (dZ a).nx.length 0 L [] 0 (by omega) (by omega) rfl (by simp; omega)
  rw [List.nil_append,aIZ hv] at loop_c
  have kc_t := fun {R : Type} {n : Nat} {hq : H} {k : A → H → Option R} (hn : 6 ≤ n) => @D4 R L n hq k hn a hv hL
  simp only [if_true,Int.natCast_zero,TS] at loop_c ⊢
  have hsn := sa.1
  clear htr wa
  generalize (dZ a) = x at *
  generalize pE a = w at *
  have e4 : (bT w).take w.length = bT w := rP (Nat.le_refl _)
  obtain _ | n := n; omega
  rw [MQ]
  simp only [C6,Try.f29,SLM,simprocAttr]
  simp -implicitDefEqProofs (maxSteps := 2000000) (disch := try exact Dz) only [↓DN,↓kAsg,↓kRet,UP,simprocAttr,↓hG,↓tC,↓hM,↓tN,↓f0,↓fZ,↓fW,↓qB,↓pZ,↓qC,LA,SE,hv,e4,↓kc_t,↓loop_c]
theorem m6 {R : Type} {L n : Nat} {hq : H} {k : A → H → Option R} (hn : 13 ≤ n) (a : Aut) (hs : a7 a.nx) (hac : a.ac.length ≤ 4294967296) (hL : 2 ^ 60 ≤ L) : aM env (aA env L n) hq 29 [.agg [.d (.int .i64 a.al),.d (.ivs a.nx.length (aK a.nx)),.d (.ivs a.ac.length (aJ a.ac))]] k = k (.d (.ivs (BW a).length (bT (BW a)))) hq :=
 aX rfl (aBi hn a hs hac hL) rfl (.inr rfl)
theorem aBC : ∀ l : List Str,FD (bT l) = some l
 | [] => rfl
 | s :: l => by
  show (FD (bT l)).map (s :: ·) = _
  rw [aBC l]; rfl
theorem aKB {a : Aut} {j i : Nat} (h : (oneG a (i : Nat)).2 = true) : kP a (j + 1) i = txt (oneG a (i : Nat)).1 :: kP a j (i + 1) := by
 simp [kP,List.range'_succ,h]
theorem aKh {a : Aut} {j i : Nat} (h : (oneG a (i : Nat)).2 = false) : kP a (j + 1) i = kP a j (i + 1) := by
 simp [kP,List.range'_succ,h]
theorem aMt (l : List Str) : (aA3 l).length = l.length := List.length_mergeSort _
theorem aKM {l : List Str} (hl : l.length ≤ 4294967296) : IK 73 [.sl 0 0 0 l.length,.clo 73 []] [.arr (bT l) 1 0] = some (.tup [],[.arr (bT (aA3 l)) 1 0]) := by
 have h1 : True ∧ True ∧ True ∧ (l.length = 0 ∨ True) ∧ l.length ≤ (bT l).length ∧ l.length ≤ b5 := by
  refine ⟨trivial,trivial,trivial,.inr trivial,by rw [t8]; omega,by unfold b5; omega⟩
 have h2 : FD ((bT l).take l.length) = some l := by rw [rP (Nat.le_refl _),aBC]
 have h3 : (bT l).drop l.length = [] := by rw [aKz,List.drop_length]; rfl
 simp only [IK,List.getElem?_cons_zero]
 rw [if_pos h1]
 simp only [h2,h3,List.append_nil,List.set_cons_zero]
 rfl
theorem eH {R : Type} {L n id : Nat} {hq : H} {k : A → H → Option R} (hn : 1 ≤ n) (l : List Str) (hi : hq[id]? = some (.arr (bT l) 1 0)) (hl : l.length ≤ 4294967296) :
  aM env (aA env L n) hq 72 [.sl id 0 0 l.length,.clo 73 []] k = k (.tup []) (hq.set id (.arr (bT (aA3 l)) 1 0)) := by
 obtain _ | n := n; omega
 exact TB hi (by simp [idsL,idsA]) jF (by simp [idsA,idsL]) (by rw [wD]; simpa [aG,mapA,aI] using aKM hl)
theorem XQ {R : Type} {L n : Nat} (hn : 9 ≤ n) (hL : 2 ^ 60 ≤ L) {a : Aut} (ha : AOK a) {k : Exit → List A → H → Option R} : ∀ (q i m : Nat) (o : List Str) (len : Nat) (hq : i + q = a.nx.length) (hm : q < m) (hlen : len = o.length) (ho : o.length + q ≤ 100000),
  aO env (aA env L n) L 0 [0,0,0,2] (Z1 (U2 (U1 (Z8 (U2 (Z16 (Z1 ([])))))))) (pG 0) (U1 (Z2 (Z1 (U8 (Z2 (U16 (U1 ([])))))))) m (Y1 (.ptr 0 0 0 :: .d .nils :: .sl 1 0 0 len :: Y8 (.d (.int .i64 (a.nx.length)) :: .d (.int .i64 ((i : Int))) :: Y16 (Y1 ([]))))) [.box [.d (.int .i64 a.al),.d (.ivs a.nx.length (aK a.nx)),.d (.ivs a.ac.length (aJ a.ac))],.arr (bT o) 1 0] k
  = k (.exit 0) (Y1 (.ptr 0 0 0 :: .d .nils :: .sl 1 0 0 (o ++ kP a q i).length :: Y8 (.d (.int .i64 (a.nx.length)) :: .d (.int .i64 ((a.nx.length : Int))) :: Y16 (Y1 ([]))))) [.box [.d (.int .i64 a.al),.d (.ivs a.nx.length (aK a.nx)),.d (.ivs a.ac.length (aJ a.ac))],.arr (bT (o ++ kP a q i)) 1 0] := by
 obtain ⟨sa,wa,a1,a2,a3⟩ := gX ha
 have hac : a.ac.length ≤ 4294967296 := by omega
 have hal := sa.1
 intro q
 induction q with
 | zero =>
  intro i m o len hq hm hlen ho
  obtain _ | m := m; omega
  obtain rfl : i = a.nx.length := by omega
  subst hlen
  have e : kP a 0 a.nx.length = [] := rfl
  rw [e,List.append_nil]
  rw [s7]
  simp only [rR,Try.f30,SLM,simprocAttr]
  simp -implicitDefEqProofs (maxSteps := 2000000) (disch := try exact Dz) only [↓DN,↓kAsg,↓kRet,UP,simprocAttr,↓hJ,↓tF,↓eH,↓sL,↓hU,↓pC,↓f5,↓gA,↓fX,↓nP,↓nR,↓nK,LA,SE,Int.lt_irrefl]
 | succ q ih =>
  intro i m o len hq hm hlen ho
  obtain _ | m := m; omega
  subst hlen
  have hc : (i : Int) < a.nx.length := by omega
  have kc_s := fun {R : Type} {n : Nat} {hq : H} {k : A → H → Option R} (hn : 9 ≤ n) => @tF R L n hq k hn a i sa hac hL
  have hacc : accG a (i : Nat) = oneG a (i : Nat) := by unfold accG; exact if_pos ha
  rw [hacc] at kc_s
  cases hb : (oneG a (i : Nat)).2 with
  | false =>
   have ih' := ih (i + 1) m o o.length (by omega) (by omega) rfl (by omega)
   rw [show ((i + 1 : Nat) : Int) = (i : Int) + 1 by omega] at ih'
   rw [aKh hb]
   rw [hb] at kc_s
   clear ih
   generalize kP a q (i + 1) = w2 at *
   generalize txt (oneG a (i : Nat)).1 = w at *
   rw [s7]
   simp only [rR,Try.f30,SLM,simprocAttr]
   simp -implicitDefEqProofs (maxSteps := 2000000) (disch := try exact Dz) only [↓DN,↓kAsg,↓kRet,UP,simprocAttr,↓hJ,↓eH,↓sL,↓hU,↓pC,↓f5,↓gA,↓fX,↓nP,↓nR,↓nK,LA,SE,hc,↓kc_s,↓ih']
  | true =>
   have ih' := ih (i + 1) m (o ++ [txt (oneG a (i : Nat)).1]) (o.length + 1) (by omega) (by omega) (by simp) (by simp; omega)
   rw [show ((i + 1 : Nat) : Int) = (i : Int) + 1 by omega] at ih'
   simp only [List.append_assoc,List.singleton_append] at ih'
   rw [aKB hb]
   rw [hb] at kc_s
   clear ih
   generalize kP a q (i + 1) = w2 at *
   generalize txt (oneG a (i : Nat)).1 = w at *
   rw [s7]
   simp only [rR,Try.f30,SLM,simprocAttr]
   simp -implicitDefEqProofs (maxSteps := 2000000) (disch := try exact Dz) only [↓DN,↓kAsg,↓kRet,UP,simprocAttr,↓hJ,↓eH,↓sL,↓hU,↓pC,↓f5,↓gA,↓fX,↓nP,↓nR,↓nK,LA,SE,hc,↓kc_s,rP,aB9,List.length_append,↓ih']
theorem aBQ {L n : Nat} (hn : 10 ≤ n) (a : Aut) (hv : AOK a) (hL : 2 ^ 60 ≤ L) : aA env L n 30 [.agg [.d (.int .i64 a.al),.d (.ivs a.nx.length (aK a.nx)),.d (.ivs a.ac.length (aJ a.ac))]] [] = some (.sl 0 0 0 (pE a).length,[.arr (bT (pE a)) 1 0]) := by
 obtain ⟨sa,wa,a1,a2,a3⟩ := gX hv
 have hrl := sa.1
 have hac : a.ac.length ≤ 4294967296 := by omega
 have loop_c := fun {R : Type} {n : Nat} {k : Exit → List A → H → Option R} (hn : 9 ≤ n) => @XQ R L n hn hL a hv k a.nx.length 0 L [] 0 (by omega) (by omega) rfl (by simp; omega)
 rw [List.nil_append] at loop_c
 have hcs := aKo hv
 have hl := QH hv
 have hl2 := aMt (kP a a.nx.length 0)
 rw [hcs] at hl2
 have hl3 : (kP a a.nx.length 0).length ≤ 4294967296 := by omega
 simp only [Int.natCast_zero,TS] at loop_c
 rw [← hl2] at loop_c
 have kc_q := fun {R : Type} {n id : Nat} {hq : H} {k : A → H → Option R} (hn : 1 ≤ n) (hi : hq[id]? = some (.arr (bT (kP a a.nx.length 0)) 1 0)) => @eH R L n id hq k hn (kP a a.nx.length 0) hi hl3
 rw [hcs,← hl2] at kc_q
 unfold AOK at hv
 clear hcs
 generalize kP a a.nx.length 0 = w0 at *
 generalize pE a = w at *
 have e4 : (bT w).take w.length = bT w := rP (Nat.le_refl _)
 obtain _ | n := n; omega
 rw [K6]
 simp only [DQ,Try.f30,SLM,simprocAttr]
 simp -implicitDefEqProofs (maxSteps := 2000000) (disch := try exact Dz) only [↓DN,↓kAsg,↓kRet,UP,simprocAttr,↓hJ,↓tF,↓sL,↓hU,↓pC,↓f5,↓gA,↓fX,↓nP,↓nR,↓nK,LA,SE,hv,e4,↓loop_c,↓kc_q]
theorem TX {L n : Nat} (hn : 10 ≤ n) (a : Aut) (hv : iK a.al a.nx a.ac = false) (hs : a7 a.nx) (hac : a.ac.length ≤ 4294967296) (hL : 2 ^ 60 ≤ L) : aA env L n 30 [.agg [.d (.int .i64 a.al),.d (.ivs a.nx.length (aK a.nx)),.d (.ivs a.ac.length (aJ a.ac))]] [] = some (.d (.ivs 0 []),[]) := by
 have hrl := hs.1
 obtain _ | n := n; omega
 rw [K6]
 simp only [DQ,Try.f30,SLM,simprocAttr]
 simp -implicitDefEqProofs (maxSteps := 2000000) (disch := try exact Dz) only [↓DN,↓kAsg,↓kRet,UP,simprocAttr,↓hJ,↓tF,↓eH,↓sL,↓hU,↓pC,↓f5,↓gA,↓fX,↓nP,↓nR,↓nK,LA,SE,hv]
def aQN (l : List Str) : Prop := (∀ i,i < l.length → (l.getD i []).length ≤ i) ∧ ∀ i,0 < i → i < l.length → ∃ p b,p < i ∧ l.getD i [] = l.getD p [] ++ [b]
theorem V6 {n : Nat} {W : Nat → List Int} {i : Nat} (hi : i < n) : ((List.range n).map fun q => txt (W q)).getD i [] = txt (W i) := by
 rw [List.getD_eq_getElem?_getD,List.getElem?_map,List.getElem?_range hi]; rfl
theorem aOt {a : Aut} {W : Nat → List Int} (hB : Bfs (goS a) (aC a.al) a.nx.length (ordA a).length [] (ordA a) W) : ∀ (c i : Nat),i ≤ c → i < (ordA a).length → (W i).length ≤ i := by
 intro c
 induction c with
 | zero =>
  intro i hi _
  obtain rfl : i = 0 := by omega
  rw [hB.w0]; simp
 | succ c ih =>
  intro i hi hl
  rcases Nat.eq_zero_or_pos i with rfl | h0
  ·rw [hB.w0]; simp
  ·obtain ⟨p,l,hp,_,e,_⟩ := hB.pre i h0 hl
   have := ih p (by omega) (by omega)
   rw [e,List.length_append]
   simp; omega
theorem aLn {a : Aut} (h : AOK a) : aQN (pE a) := by
 obtain ⟨W,hB⟩ := y8 h
 rw [M1 h hB]
 constructor
 ·intro i hi
  rw [List.length_map,List.length_range] at hi
  rw [V6 hi]
  unfold txt
  rw [List.length_map]
  exact aOt hB i i (Nat.le_refl _) hi
 ·intro i h0 hi
  rw [List.length_map,List.length_range] at hi
  obtain ⟨p,l,hp,_,e,_⟩ := hB.pre i h0 hi
  refine ⟨p,m8 l,hp,?_⟩
  rw [V6 hi,V6 (by omega),e]
  unfold txt
  rw [List.map_append]; rfl
structure CovOK (a : Aut) (l : List Str) : Prop where
 len : l.length = (dZ a).nx.length
 pos : 0 < l.length
 big : l.length ≤ 12
 first : l.getD 0 [] = []
 acc : ∀ i,i < l.length → ∃ u,txt u = l.getD i [] ∧ accG a (aKp a.al a.nx a.ac (l.getD i [])) = (u,true)
 ok : ∀ i,i < l.length → aR8 (l.getD i []) = true
 short : ∀ i,i < l.length → (l.getD i []).length ≤ 4294967295
 asc : ∀ i,i + 1 < l.length → cmpX (l.getD i []) (l.getD (i + 1) []) < 0
theorem aJ3 {h : H} {g len : Nat} {cs : List D} {u : Int} (h0 : 0 ≤ u) (h1 : u ≤ len) : gS env.P (.arr cs 1 g :: h) 40 (.sl 0 g 0 len) none (some u) = some (.sl 0 g 0 u.toNat) := aHY rfl h0 h1
theorem UZ {R : Type} {L n : Nat} (hn : 6 ≤ n) (hL : 2 ^ 60 ≤ L) {l : List Str} (hl : l.length ≤ 100000) (hok : aQN l) {k : Exit → List A → H → Option R} : ∀ (j i m : Nat) (hi : i + j = l.length) (hp : 0 < i) (hm : j < m),
  aO env (aA env L n) L 0 [] (Z2 (U1 (Z1 (U2 (Z32 (Z8 (Z1 ([])))))))) (mG 0) (U2 (Z1 (U1 (Z2 (U32 (U8 (U1 ([])))))))) m (Y2 (.d (.bool false) :: Y1 (.sl 0 0 0 l.length :: .d (.int .i64 ((i : Int))) :: Y32 (Y8 (Y1 ([])))))) [.arr (bT l) 1 0] k
  = k (.exit 0) (Y2 (.d (.bool false) :: Y1 (.sl 0 0 0 l.length :: .d (.int .i64 (l.length)) :: Y32 (Y8 (Y1 ([])))))) [.arr (bT l) 1 0] := by
 intro j
 induction j with
 | zero =>
  intro i m hi hp hm
  obtain _ | m := m; omega
  obtain rfl : i = l.length := by omega
  rw [rZ]
  simp only [qD,Try.f7,SLM,simprocAttr]
  simp -implicitDefEqProofs (maxSteps := 2000000) (disch := try exact Dz) only [↓DN,↓kAsg,↓kRet,UP,simprocAttr,↓m6,↓qU,↓qQ,↓q8,↓q9,↓oD,↓oG,↓oH,↓oI,SE,Int.lt_irrefl]
 | succ j ih =>
  intro i m hi hp hm
  obtain _ | m := m; omega
  have hc : (i : Int) < l.length := by omega
  have hk : i < l.length := by omega
  have hi0 : (0 : Int) ≤ i := by omega
  have hi1 : (i : Int) ≤ l.length := by omega
  obtain ⟨p,b,hpi,he⟩ := hok.2 i hp hk
  have hlen := hok.1 i hk
  have hmem : l.getD p [] ∈ l.take i := by
   rw [List.getD_eq_getElem?_getD,List.getElem?_eq_getElem (by omega)]
   have : (l.take i)[p]'(by rw [List.length_take]; omega) = l[p]'(by omega) := List.getElem_take
   show l[p]'(by omega) ∈ _
   rw [← this]
   exact List.getElem_mem _
  have e5 : bT (l.take i) = (bT l).take i := by simp [bT,List.map_take]
  have e6 : (l.take i).length = i := by rw [List.length_take]; omega
  have kl_i := fun {R : Type} {n : Nat} {k : A → Option R} (hn : 2 ≤ n) => @q9 R L n k hn (l.take i) (l.getD p []) (by omega) hL
  rw [e5,e6,decide_eq_true hmem] at kl_i
  have ih' := ih (i + 1) m (by omega) (by omega) (by omega)
  rw [show ((i + 1 : Nat) : Int) = (i : Int) + 1 by omega] at ih'
  rw [he] at hlen
  have hne : (l.getD p [] ++ [b] == []) = false := by simp
  have hsl : (l.getD p [] ++ [b]).length = (l.getD p []).length + 1 := by simp
  have hu : (l.getD p []).length ≤ 100000 := by omega
  have htk : ((l.getD p [] ++ [b])).take ((((l.getD p []).length + 1 : Nat) : Int) - 1).toNat = l.getD p [] := by
   rw [show ((((l.getD p []).length + 1 : Nat) : Int) - 1).toNat = (l.getD p []).length by omega]
   simp
  clear ih hok hmem hlen
  generalize l.getD p [] = u at *
  rw [rZ]
  simp only [qD,Try.f7,SLM,simprocAttr]
  simp -implicitDefEqProofs (maxSteps := 2000000) (disch := try exact Dz) only [↓DN,↓kAsg,↓kRet,UP,simprocAttr,↓m6,↓qU,↓qQ,↓q8,↓oD,↓oG,↓oH,↓oI,SE,hc,hi0,hi1,he,hne,hsl,hu,htk,↓kl_i,↓aJ3,Int.toNat_natCast,↓ih']
theorem aJY {R : Type} {L n m : Nat} {k : Exit → List A → H → Option R} (hm : 0 < m) :
  aO env (aA env L n) L 0 [] (Z2 (U1 (Z1 (U2 (Z32 (Z8 (Z1 ([])))))))) (mG 0) (U2 (Z1 (U1 (Z2 (U32 (U8 (U1 ([])))))))) m (Y2 (.d (.bool false) :: Y1 (.d (.ivs 0 []) :: .d (.int .i64 1) :: Y32 (Y8 (Y1 ([])))))) [] k
  = k (.exit 0) (Y2 (.d (.bool false) :: Y1 (.d (.ivs 0 []) :: .d (.int .i64 1) :: Y32 (Y8 (Y1 ([])))))) [] := by
 obtain _ | m := m; omega
 rw [rZ]
 simp only [qD,Try.f7,SLM,simprocAttr]
 simp -implicitDefEqProofs (maxSteps := 2000000) (disch := try exact Dz) only [↓DN,↓kAsg,↓kRet,UP,simprocAttr,↓m6,↓qU,↓qQ,↓q8,↓q9,↓oD,↓oG,↓oH,↓oI,SE]
theorem aAw {L n : Nat} (hn : 30 ≤ n) (c : List UInt8) (hL : 2 ^ 60 ≤ L) : aA env L n 7 [.d (.ivs c.length (bL c))] [] = some (.d (.bool true),[]) := by
 by_cases hsz : (1048576 : Int) < c.length
 ·obtain _ | n := n; omega
  rw [yN]
  simp only [tG,Try.f7,SLM,simprocAttr]
  simp -implicitDefEqProofs (maxSteps := 2000000) (disch := try exact Dz) only [↓DN,↓kAsg,↓kRet,UP,simprocAttr,↓m6,↓qU,↓qQ,↓q8,↓q9,↓oD,↓oG,↓oH,↓oI,hsz]
 ·obtain ⟨al,nx,ac,b,kd⟩ := XH c (by omega)
  have hs := b.short (by omega)
  have ha := b.a
  have ha2 : ac.length ≤ 4294967296 := by omega
  unfold autD at kd
  cases hv : iK al nx ac with
  | false =>
   have kc_1 := fun {R : Type} {n : Nat} {hq : H} {k : A → H → Option R} (hn : 10 ≤ n) => aFM (h := hq) (k := k) rfl p9 (TX (L := L) hn ⟨al,nx,ac⟩ hv hs ha2 hL)
   have kc_2 := fun {R : Type} {n : Nat} {hq : H} {k : A → H → Option R} (hn : 13 ≤ n) => @m6 R L n hq k hn ⟨al,nx,ac⟩ hs ha2 hL
   have hr : BW ⟨al,nx,ac⟩ = [] := by unfold BW; rw [hv]; rfl
   have kc_3 := fun {R : Type} {n : Nat} {hq : H} {k : A → H → Option R} (hn : 2 ≤ n) => @qU R L n hq k hn [] (by simp) hL
   have es : bT [] = [] := rfl
   rw [hr] at kc_2
   simp only [List.length_nil,es] at kc_2 kc_3
   obtain _ | n := n; omega
   rw [yN]
   simp only [tG,Try.f7,SLM,simprocAttr]
   simp -implicitDefEqProofs (maxSteps := 2000000) (disch := try exact Dz) only [↓DN,↓kAsg,↓kRet,UP,simprocAttr,↓qQ,↓q8,↓q9,↓oD,↓oG,↓oH,↓oI,LA,SE,hsz,↓kd,↓kc_1,↓kc_2,↓kc_3,↓aJY]
  | true =>
   have hok : AOK ⟨al,nx,ac⟩ := hv
   have kc_1 := fun {R : Type} {n : Nat} {hq : H} {k : A → H → Option R} (hn : 10 ≤ n) => aId (h := hq) (k := k) rfl p9 (aBQ (L := L) hn ⟨al,nx,ac⟩ hok hL)
   have kc_2 := fun {R : Type} {n : Nat} {hq : H} {k : A → H → Option R} (hn : 13 ≤ n) => @m6 R L n hq k hn ⟨al,nx,ac⟩ hs ha2 hL
   have hr : BW ⟨al,nx,ac⟩ = pE ⟨al,nx,ac⟩ := by unfold BW; rw [hv]; rfl
   have hso := aLn hok
   have hln := QH hok
   rw [hr] at kc_2
   generalize pE ⟨al,nx,ac⟩ = l at *
   have loop_a := fun {R : Type} {n : Nat} {k : Exit → List A → H → Option R} (hn : 6 ≤ n) => @UZ R L n hn hL l (by omega) hso k (l.length - 1) 1 L (by omega) (by omega) (by omega)
   have e1 : ((1 : Nat) : Int) = 1 := rfl
   simp only [e1] at loop_a
   clear hso
   obtain _ | n := n; omega
   rw [yN]
   simp only [tG,Try.f7,SLM,simprocAttr]
   simp -implicitDefEqProofs (maxSteps := 2000000) (disch := try exact Dz) only [↓DN,↓kAsg,↓kRet,UP,simprocAttr,↓qU,↓qQ,↓q8,↓q9,↓oD,↓oG,↓oH,↓oI,LA,SE,hsz,↓kd,↓kc_1,↓kc_2,↓loop_a]
end Ev
end Go.Proofs.Ytppdfjdfjfoddaa
