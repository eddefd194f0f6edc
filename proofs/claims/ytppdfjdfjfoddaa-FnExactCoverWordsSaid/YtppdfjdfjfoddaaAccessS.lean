/-
  Automata with exchanged x3: plain laws.
-/
import Derived.Test.YtppdfjdfjfoddaaAutH
import Derived.Test.YtppdfjdfjfoddaaWords
import Derived.Test.YtppdfjdfjfoddaaPathY
import Derived.Test.YtppdfjdfjfoddaaAccess
import Derived.Test.YtppdfjdfjfoddaaLeast
import Derived.Test.YtppdfjdfjfoddaaSortLayX
import Derived.Test.YtppdfjdfjfoddaaNetX
set_option linter.unusedSimpArgs false
set_option linter.unusedVariables false
set_option maxRecDepth 8000
set_option maxHeartbeats 4000000
namespace Go.Proofs.Ytppdfjdfjfoddaa
namespace Ev
theorem x1yx {al : Int} {rs : List (List Int)} {ac : List Bool} (ha : xbz al = true) (h1 : 1 ≤ rs.length) (h2 : rs.length ≤ 12) (h3 : ac.length = rs.length) (hr : ∀ r ∈ rs,r.length = (x3 al).length ∧ ∀ q ∈ r,0 ≤ q ∧ q < rs.length) : x5e al rs ac = true := by
 unfold x5e
 simp only [Bool.and_eq_true,decide_eq_true_eq]
 refine ⟨⟨⟨⟨ha,by omega⟩,by omega⟩,by omega⟩,?_⟩
 rw [Option.isNone_iff_eq_none,xiu]
 intro i _ hi
 have hi : i < rs.length := by omega
 obtain ⟨hw,hq⟩ := hr (rs.getD i []) (by rw [List.getD_eq_getElem?_getD,List.getElem?_eq_getElem hi]; exact List.getElem_mem hi)
 unfold x6q
 rw [x105 (by omega)]
 have : seek (badQ rs.length (rs.getD i [])) (rs.getD i []).length 0 = none := by
  rw [xiu]
  intro j _ hj
  have hj : j < (rs.getD i []).length := by omega
  rw [xk6]
  refine hq _ ?_
  generalize rs.getD i [] = r at *
  rw [List.getD_eq_getElem?_getD,List.getElem?_eq_getElem hj]
  exact List.getElem_mem hj
 rw [this]
 rfl
theorem xvb {al : Int} {rs : List (List Int)} {ac : List Bool} (h : x5e al rs ac = true) {i : Nat} (hi : i < rs.length) : (rs.getD i []).length = (x3 al).length ∧ ∀ j,j < (x3 al).length → 0 ≤ (rs.getD i []).getD j 0 ∧ (rs.getD i []).getD j 0 < rs.length := by
 have hw := x1fe (xz1 h) hi
 refine ⟨hw,?_⟩
 intro j hj
 unfold x5e at h
 simp only [Bool.and_eq_true] at h
 have hb := xt1 h.2 hi
 unfold x6q at hb
 rw [x105 (by omega)] at hb
 have := xt1 (p := badQ rs.length (rs.getD i [])) (n := (rs.getD i []).length) (by cases hs : seek (badQ rs.length (rs.getD i [])) (rs.getD i []).length 0 with
  | none => rfl
  | some z => rw [hs] at hb; cases hb) (i := j) (by omega)
 exact xk6.1 this
section
def goS (a : Aut) (v l : Int) : Int := goI a.al a.nx v l
def rowA (a : Aut) (v : Int) : List Int := a.nx.getD v.toNat []
def ordA (a : Aut) : List Int := ordB (goS a) (x3 a.al) (a.nx.length + 1) 0 [0]
def idxU (out : List Int) (x : Int) : Int := (out.idxOf x : Nat)
def x2x (a : Aut) : Aut := ⟨a.al,(ordA a).map fun v => (rowA a v).map (idxU (ordA a)),(ordA a).map fun v => a.ac.getD v.toNat false⟩
theorem x1pn {a : Aut} (h : AOK a) : ∀ v l : Int,0 ≤ v → v < a.nx.length → l ∈ x3 a.al → 0 ≤ goS a v l ∧ goS a v l < a.nx.length := by
 intro v l h0 h1 hl
 have := x8u l hl
 exact x15j h h0 h1 this.1 (by omega)
theorem x1uk {al : Int} {k : Nat} (hk : k < (x3 al).length) : x6v al (x3 al)[k] = k := by
 obtain ⟨⟨h0,h1⟩,hb⟩ := xdl.1 (List.getElem_mem hk)
 obtain ⟨h2,h3⟩ := xnx h0 h1 hb
 rw [List.getElem?_eq_getElem h2] at h3
 exact (List.getElem_inj (x10h al)).1 (Option.some.inj h3)
theorem x1fh {a : Aut} (h : AOK a) {v : Int} (h0 : 0 ≤ v) (h1 : v < a.nx.length) : (x3 a.al).map (goS a v) = rowA a v := by
 have hl := (xvb h (i := v.toNat) (by omega)).1
 apply List.ext_getElem
 ·rw [List.length_map]; exact hl.symm
 ·intro k g1 g2
  rw [List.length_map] at g1
  rw [List.getElem_map]
  unfold goS
  rw [x15c (xdl.1 (List.getElem_mem g1)).2,x1uk g1]
  show (rowA a v).getD k 0 = _
  rw [List.getD_eq_getElem?_getD,List.getElem?_eq_getElem g2]
  rfl
theorem xmu {a : Aut} (h : AOK a) : ∃ W,Bfs (goS a) (x3 a.al) a.nx.length (ordA a).length [] (ordA a) W := by
 obtain ⟨_,_,h1,_,_⟩ := x54 h
 exact x1pr (xnb _) (x1pn h) _ 0 [0] _ (Bfs.start (by omega)) (by omega) (by omega)
theorem x1l9 {a : Aut} : ∀ (w : List Int) (v u : Int),Path (nxS a) (x3 a.al) v w u ↔ (∀ l ∈ w,l ∈ x3 a.al) ∧ w.foldl (goS a) v = u
 | [],v,u => by simp [Path]
 | l :: w,v,u => by
  simp only [Path,nxS,List.mem_singleton,exists_eq_left,x1l9 w,List.foldl_cons,List.forall_mem_cons]
  unfold goS
  exact and_assoc.symm
theorem xti {a : Aut} {st : Int} {w : List Int} : Hits (nxS a) (x3 a.al) [0] (glS st) w ↔ (∀ l ∈ w,l ∈ x3 a.al) ∧ w.foldl (goS a) 0 = st := by
 unfold Hits xhi glS
 simp only [List.mem_singleton,exists_eq_left,x1l9,decide_eq_true_eq]
 constructor
 ·rintro ⟨u,⟨h1,h2⟩,rfl⟩; exact ⟨h1,h2⟩
 ·rintro ⟨h1,h2⟩; exact ⟨st,⟨h1,h2⟩,rfl⟩
section
variable {a : Aut} {W : Nat → List Int}
theorem xmp {x : Int} {out : List Int} (hx : x ∈ out) : out.getD (out.idxOf x) 0 = x ∧ out.idxOf x < out.length := by
 have h := List.idxOf_lt_length_of_mem hx
 refine ⟨?_,h⟩
 rw [List.getD_eq_getElem?_getD,List.getElem?_eq_getElem h,List.getElem_idxOf]; rfl
theorem xfk {q : Nat} {out : List Int} (hq : q < out.length) : out.getD q 0 ∈ out := by
 rw [List.getD_eq_getElem?_getD,List.getElem?_eq_getElem hq]
 exact List.getElem_mem hq
theorem xza (h : AOK a) (hB : Bfs (goS a) (x3 a.al) a.nx.length (ordA a).length [] (ordA a) W) {q : Nat} (hq : q < (ordA a).length) : oneG a ((ordA a).getD q 0) = (W q,true) := by
 refine xkf (xrb h _) (.inl ⟨rfl,xti.2 ⟨hB.lts q hq,hB.run q hq⟩,fun x hx => ?_⟩)
 obtain ⟨h1,h2⟩ := xti.1 hx
 obtain ⟨p,hp,e,hs⟩ := hB.least x.length x rfl h1
 have : p = q := hB.idx hp hq (by rw [e,h2])
 subst this
 exact hs
theorem x1zt (h : AOK a) {st : Int} (ho : st ∉ ordA a) : oneG a st = ([],false) := by
 obtain ⟨W,hB⟩ := xmu h
 refine xkf (xrb h _) (.inr ⟨rfl,fun w hw => ?_⟩)
 obtain ⟨h1,h2⟩ := xti.1 hw
 obtain ⟨p,hp,e,_⟩ := hB.least w.length w rfl h1
 rw [h2] at e
 exact ho (e ▸ xfk hp)
theorem xyw (hB : Bfs (goS a) (x3 a.al) a.nx.length (ordA a).length [] (ordA a) W) {v l : Int} (hv : v ∈ ordA a) (hl : l ∈ x3 a.al) : goS a v l ∈ ordA a := by
 obtain ⟨e,hq⟩ := xmp hv
 obtain ⟨p,hp,e2,_⟩ := hB.clo _ l hq hl (.inl hq)
 rw [e] at e2
 exact e2 ▸ xfk hp
theorem x195 (h : AOK a) : AOK (x2x a) := by
 obtain ⟨W,hB⟩ := xmu h
 obtain ⟨b1,b2,b3,b4⟩ := x1gc h
 have hn := x9v hB.nod hB.rng
 have hp := hB.pos
 unfold AOK x2x
 refine x1yx b4 (by rw [List.length_map]; omega) (by rw [List.length_map]; omega) (by rw [List.length_map,List.length_map]) ?_
 intro r hr
 obtain ⟨v,hv,rfl⟩ := List.mem_map.1 hr
 obtain ⟨v0,v1⟩ := hB.rng v hv
 have hrow := x1fh h v0 v1
 refine ⟨by rw [List.length_map,← hrow,List.length_map],?_⟩
 intro q hq
 obtain ⟨x,hx,rfl⟩ := List.mem_map.1 hq
 rw [← hrow] at hx
 obtain ⟨l,hl,rfl⟩ := List.mem_map.1 hx
 have := (xmp (xyw hB hv hl)).2
 unfold idxU
 rw [List.length_map]
 omega
theorem x22z (h : AOK a) (hB : Bfs (goS a) (x3 a.al) a.nx.length (ordA a).length [] (ordA a) W) {q : Nat} (hq : q < (ordA a).length) {l : Int} (hl : l ∈ x3 a.al) : goS (x2x a) q l = idxU (ordA a) (goS a ((ordA a).getD q 0) l) := by
 obtain ⟨⟨h0,h1⟩,hb⟩ := xdl.1 hl
 obtain ⟨v0,v1⟩ := hB.rng _ (xfk hq)
 obtain ⟨p1,p2⟩ := xnx h0 h1 hb
 have hlen := (xvb h (i := ((ordA a).getD q 0).toNat) (by omega)).1
 have e1 : ((x2x a).nx.getD q []) = (rowA a ((ordA a).getD q 0)).map (idxU (ordA a)) := by
  unfold x2x
  simp only [List.getD_eq_getElem?_getD,List.getElem?_map,List.getElem?_eq_getElem hq,Option.map_some,Option.getD_some]
 unfold goS
 rw [x15c hb,x15c (show x6e (x2x a).al l = true from hb),Int.toNat_natCast,e1]
 show ((rowA a ((ordA a).getD q 0)).map (idxU (ordA a))).getD (x6v a.al l) 0 = _
 have hr : x6v a.al l < (rowA a ((ordA a).getD q 0)).length := by unfold rowA; omega
 rw [List.getD_eq_getElem?_getD,List.getElem?_map,List.getElem?_eq_getElem hr,List.getD_eq_getElem?_getD (l := a.nx.getD _ _)]
 show idxU _ (rowA a ((ordA a).getD q 0))[x6v a.al l] = idxU _ ((rowA a ((ordA a).getD q 0))[x6v a.al l]?.getD 0)
 rw [List.getElem?_eq_getElem hr]; rfl
theorem x1lq (h : AOK a) (hB : Bfs (goS a) (x3 a.al) a.nx.length (ordA a).length [] (ordA a) W) : ∀ (w : List Int) (q : Nat),q < (ordA a).length → (∀ l ∈ w,l ∈ x3 a.al) → w.foldl (goS a) ((ordA a).getD q 0) ∈ ordA a ∧ w.foldl (goS (x2x a)) (q : Int) = idxU (ordA a) (w.foldl (goS a) ((ordA a).getD q 0))
 | [],q,hq,_ => by
  refine ⟨xfk hq,?_⟩
  unfold idxU
  simp only [List.foldl_nil]
  have := hB.nod.idxOf_getElem q hq
  rw [List.getD_eq_getElem?_getD,List.getElem?_eq_getElem hq,Option.getD_some,this]
 | l :: w,q,hq,hw => by
  have hl := hw l List.mem_cons_self
  obtain ⟨e,hp⟩ := xmp (xyw hB (xfk hq) hl)
  have ih := x1lq h hB w _ hp fun m hm => hw m (List.mem_cons_of_mem _ hm)
  rw [e] at ih
  simp only [List.foldl_cons]
  rw [x22z h hB hq hl]
  exact ih
theorem x1x9 (h : AOK a) (hB : Bfs (goS a) (x3 a.al) a.nx.length (ordA a).length [] (ordA a) W) {q : Nat} (hq : q < (ordA a).length) : oneG (x2x a) q = (W q,true) := by
 rw [← xza h hB hq]
 refine xkf (x1qy (fun w => ?_) (xrb (x195 h) q)) (xrb h _)
 rw [xti,xti]
 show (∀ l ∈ w,l ∈ x3 a.al) ∧ _ ↔ _
 refine and_congr_right fun hw => ?_
 obtain ⟨h1,h2⟩ := x1lq h hB w 0 hB.pos hw
 rw [hB.o0] at h1 h2
 have h3 : w.foldl (goS (x2x a)) 0 = idxU (ordA a) (w.foldl (goS a) 0) := h2
 rw [h3]
 obtain ⟨e,hp⟩ := xmp h1
 unfold idxU
 constructor
 ·intro hh
  have : (ordA a).idxOf (w.foldl (goS a) 0) = q := by omega
  rw [this] at e
  exact e.symm
 ·intro hh
  rw [hB.idx hp hq (by rw [e,hh])]
end
theorem x1iz {l : Int} (h0 : 0 ≤ l) (h1 : l < 6) : (x9q l).toNat = (97 + l).toNat := by
 unfold x9q
 rw [UInt8.toNat_ofNat']
 omega
theorem x1q7 : ∀ {u v : List Int},(∀ l ∈ u,0 ≤ l ∧ l < 6) → (∀ l ∈ v,0 ≤ l ∧ l < 6) → xdz u v → Op.bytesLess (txt u) (txt v) = true
 | [],_,_,_,h => h.elim
 | _ :: _,[],_,_,h => h.elim
 | a :: u,b :: v,hu,hv,h => by
  have ha := hu a List.mem_cons_self
  have hb := hv b List.mem_cons_self
  show Op.bytesLess (x9q a :: txt u) (x9q b :: txt v) = true
  rw [xbt,x1iz ha.1 ha.2,x1iz hb.1 hb.2]
  rcases h with h | ⟨rfl,h⟩
  ·exact .inl (by omega)
  ·exact .inr ⟨rfl,x1q7 (fun l hl => hu l (List.mem_cons_of_mem _ hl)) (fun l hl => hv l (List.mem_cons_of_mem _ hl)) h⟩
theorem x23l {u v : List Int} (hu : ∀ l ∈ u,0 ≤ l ∧ l < 6) (hv : ∀ l ∈ v,0 ≤ l ∧ l < 6) (h : slt u v) : cmpX (txt u) (txt v) < 0 := by
 rw [xxy]
 unfold txt
 rw [List.length_map,List.length_map]
 rcases h with h | ⟨h1,h⟩
 ·exact .inl h
 ·exact .inr ⟨h1,x1q7 hu hv h⟩
def xc3 (a : Aut) : List Str := (List.range (ordA a).length).map fun q => txt (oneG a ((ordA a).getD q 0)).1
def x7m (a : Aut) (j i : Nat) : List Str := (List.range' i j).filterMap fun q => if (oneG a (q : Nat)).2 = true then some (txt (oneG a (q : Nat)).1) else none
def x1bo (l : List Str) : List Str := l.mergeSort leX
section
variable {a : Aut} {W : Nat → List Int}
theorem x13s (h : AOK a) (hB : Bfs (goS a) (x3 a.al) a.nx.length (ordA a).length [] (ordA a) W) : xc3 a = (List.range (ordA a).length).map fun q => txt (W q) := by
 unfold xc3
 apply List.map_congr_left
 intro q hq
 rw [xza h hB (List.mem_range.1 hq)]
theorem x1ey (hB : Bfs (goS a) (x3 a.al) a.nx.length (ordA a).length [] (ordA a) W) {j k : Nat} (hjk : j < k) (hk : k < (ordA a).length) : cmpX (txt (W j)) (txt (W k)) < 0 := by
 have hin : ∀ q,q < (ordA a).length → ∀ l ∈ W q,0 ≤ l ∧ l < 6 := fun q hq l hl => by
  have := x8u l (hB.lts q hq l hl); omega
 exact x23l (hin j (by omega)) (hin k hk) (hB.asc j k hjk hk)
theorem x1za (hB : Bfs (goS a) (x3 a.al) a.nx.length (ordA a).length [] (ordA a) W) {j k : Nat} (hj : j < (ordA a).length) (hk : k < (ordA a).length) (e : txt (W j) = txt (W k)) : j = k := by
 rcases Nat.lt_trichotomy j k with h | h | h
 ·have := x1ey hB h hk; rw [e] at this; exact (xx4 _ this).elim
 ·exact h
 ·have := x1ey hB h hj; rw [e] at this; exact (xx4 _ this).elim
theorem x1uz (hB : Bfs (goS a) (x3 a.al) a.nx.length (ordA a).length [] (ordA a) W) : ((List.range (ordA a).length).map fun q => txt (W q)).Pairwise fun x y => cmpX x y < 0 := by
 rw [List.pairwise_map]
 refine List.Pairwise.imp_of_mem ?_ (List.pairwise_lt_range (n := (ordA a).length))
 intro j k hj hk hjk
 exact x1ey hB hjk (List.mem_range.1 hk)
theorem x1qv (h : AOK a) : x1bo (x7m a a.nx.length 0) = xc3 a := by
 obtain ⟨W,hB⟩ := xmu h
 rw [x13s h hB]
 have hasc := x1uz hB
 have hfd : ∀ (q : Nat) (b : Str),(if (oneG a (q : Nat)).2 = true then some (txt (oneG a (q : Nat)).1) else none) = some b → ∃ p,p < (ordA a).length ∧ (ordA a).getD p 0 = (q : Int) ∧ b = txt (W p) := by
  intro q b hb
  by_cases hq : (q : Int) ∈ ordA a
  ·obtain ⟨e,hp⟩ := xmp hq
   have := xza h hB hp
   rw [e] at this
   rw [this] at hb
   simp at hb
   exact ⟨_,hp,e,hb.symm⟩
  ·rw [x1zt h hq] at hb
   simp at hb
 unfold x1bo
 refine ((List.mergeSort_perm _ _).trans ((List.perm_ext_iff_of_nodup ?_ ?_).2 ?_)).eq_of_pairwise (fun x y _ _ h1 h2 => x1yj h1 h2) (List.pairwise_mergeSort x1vc x1vo _) (hasc.imp x24h)
 ·unfold x7m
  refine List.Pairwise.filterMap _ ?_ (List.nodup_range' (s := 0) (n := a.nx.length))
  intro p q hpq b hb c hc e
  obtain ⟨p1,g1,g2,g3⟩ := hfd p b hb
  obtain ⟨q1,k1,k2,k3⟩ := hfd q c hc
  have := x1za hB g1 k1 (by rw [← g3,← k3,e])
  subst this
  rw [g2] at k2
  exact hpq (by omega)
 ·exact hasc.imp fun {x y} hxy e => by rw [e] at hxy; exact xx4 _ hxy
 ·intro b
  unfold x7m
  rw [List.mem_filterMap,List.mem_map]
  constructor
  ·rintro ⟨q,hq,hb⟩
   obtain ⟨p,h1,_,h3⟩ := hfd q b hb
   exact ⟨p,List.mem_range.2 h1,h3.symm⟩
  ·rintro ⟨p,hp,rfl⟩
   have hp := List.mem_range.1 hp
   obtain ⟨v0,v1⟩ := hB.rng _ (xfk hp)
   refine ⟨((ordA a).getD p 0).toNat,?_,?_⟩
   ·rw [List.mem_range'_1]; omega
   ·rw [Int.toNat_of_nonneg v0,xza h hB hp,if_pos rfl]
end
end
theorem x1fa {R : Type} {L n : Nat} (hn : 1 ≤ n) {l : List Int} {x : Int} {q : Nat} (hql : q < l.length) (hl : l.length ≤ 4294967290) (hx : l.getD q 0 = x) (hne : ∀ i,i < q → ¬ l.getD i 0 = x) {k : Exit → List A → H → Option R} : ∀ (j i m : Nat) (hi : i + j = q) (hm : j < m),
  xc env (x2 env L n) L 0 [] (U2 (Z2 (U2 (Z8 (Z1 ([])))))) (xem 0) (Z2 (U2 (Z2 (U8 (U1 ([])))))) m (.d (.ivs l.length (ints l)) :: .d (.int .i64 x) :: Y2 (.d (.int .i64 0) :: .d (.int .i64 ((i : Int))) :: Y8 (Y1 ([])))) [] k
  = k (.exit 0) (.d (.ivs l.length (ints l)) :: .d (.int .i64 x) :: Y2 (.d (.int .i64 0) :: .d (.int .i64 ((q : Int))) :: Y8 (Y1 ([])))) [] := by
 intro j
 induction j with
 | zero =>
  intro i m hi hm
  obtain _ | m := m; omega
  obtain rfl : i = q := by omega
  have hc : (i : Int) < l.length := by omega
  have hi0 : (0 : Int) ≤ i := by omega
  rw [xs4]
  simp only [xps,Try.f95,SLM,simprocAttr]
  simp -implicitDefEqProofs (maxSteps := 2000000) (disch := first | assumption | exact ⟨by kernel_rfl⟩ | omega | (simp only [GT,LN] <;> omega) | fail) only [↓DN,↓kAsg,↓kRet,UP,simprocAttr,hc,hi0,hx,Int.toNat_natCast]
 | succ j ih =>
  intro i m hi hm
  obtain _ | m := m; omega
  have hc : (i : Int) < l.length := by omega
  have hi0 : (0 : Int) ≤ i := by omega
  have he := hne i (by omega)
  have ih' := ih (i + 1) m (by omega) (by omega)
  rw [show ((i + 1 : Nat) : Int) = (i : Int) + 1 by omega] at ih'
  clear ih
  rw [xs4]
  simp only [xps,Try.f95,SLM,simprocAttr]
  simp -implicitDefEqProofs (maxSteps := 2000000) (disch := first | assumption | exact ⟨by kernel_rfl⟩ | omega | (simp only [GT,LN] <;> omega) | fail) only [↓DN,↓kAsg,↓kRet,UP,simprocAttr,hc,hi0,he,Int.toNat_natCast,↓ih']
theorem x23p {l : List Int} {x : Int} {i : Nat} (h : i < l.idxOf x) (hx : x ∈ l) : ¬ l.getD i 0 = x := by
 obtain ⟨_,hq⟩ := xmp hx
 rw [List.getD_eq_getElem?_getD,List.getElem?_eq_getElem (by omega)]
 intro e
 have e2 : l[i]'(by omega) = x := e
 have := List.not_of_lt_findIdx (p := (· == x)) (xs := l) (i := i) h
 rw [e2] at this
 simp at this
theorem x133 {L n : Nat} (hn : 2 ≤ n) (l : List Int) (x : Int) (hx : x ∈ l) (hl : l.length ≤ 4294967290) (hL : 2 ^ 60 ≤ L) : x2 env L n 95 [.d (.ivs l.length (ints l)),.d (.int .i64 x)] [] = some (.d (.int .i64 (idxU l x)),[]) := by
 obtain ⟨h1,h2⟩ := xmp hx
 have loop_c := fun {R : Type} {n : Nat} {k : Exit → List A → H → Option R} (hn : 1 ≤ n) => @x1fa R L n hn l x (l.idxOf x) h2 hl h1 (fun i hi => x23p hi hx) k (l.idxOf x) 0 L (by omega) (by omega)
 simp only [Int.natCast_zero] at loop_c
 unfold idxU
 generalize l.idxOf x = q at *
 obtain _ | n := n; omega
 rw [x1l8]
 simp only [x17y,Try.f95,SLM,simprocAttr]
 simp -implicitDefEqProofs (maxSteps := 2000000) (disch := first | assumption | exact ⟨by kernel_rfl⟩ | omega | (simp only [GT,LN] <;> omega) | fail) only [↓DN,↓kAsg,↓kRet,UP,simprocAttr,↓loop_c]
theorem xc6 {R : Type} {L n : Nat} {hq : H} {k : A → H → Option R} (hn : 2 ≤ n) (l : List Int) (x : Int) (hx : x ∈ l) (hl : l.length ≤ 4294967290) (hL : 2 ^ 60 ≤ L) : x4 env (x2 env L n) hq 95 [.d (.ivs l.length (ints l)),.d (.int .i64 x)] k = k (.d (.int .i64 (idxU l x))) hq :=
 xh rfl (x133 hn l x hx hl hL) rfl (.inl rfl)
theorem xbr {R : Type} {L n : Nat} {k : A → Option R} (hn : 2 ≤ n) (l : List Int) (x : Int) (hx : x ∈ l) (hl : l.length ≤ 4294967290) (hL : 2 ^ 60 ≤ L) : xk (x2 env L n) 95 [.d (.ivs l.length (ints l)),.d (.int .i64 x)] k = k (.d (.int .i64 (idxU l x))) :=
 x2c (x133 hn l x hx hl hL) rfl
theorem xa1 {R : Type} {L n : Nat} {hq : H} {k : A → H → Option R} {id0 g0 o0 len0 : Nat} {x : Int} : x4 env (x2 env L n) hq 95 [.sl id0 g0 o0 len0,.d (.int .i64 x)] k = match box (xw hq [.sl id0 g0 o0 len0,.d (.int .i64 x)]) with
  | .mk (some fs) => xk (x2 env L n) 95 fs fun r => k r hq
  | _ => none := x9 xmk
theorem x19u {R : Type} {L n : Nat} (hn : 3 ≤ n) (hL : 2 ^ 60 ≤ L) {a : Aut} {i : Nat} {r : List Int} (hr : r.length ≤ 100) {k : Exit → List A → H → Option R} : ∀ (j q m : Nat) (o : List Int) (len : Nat) (hq : q + j = r.length) (hm : j < m) (hlen : len = o.length) (ho : o.length + j ≤ 100000),
  xc env (x2 env L n) L 0 [] (Z1 (U4 (U2 (Z32 (Z4 ([])))))) (x6k 1) (U1 (Z4 (Z2 (U32 (U4 ([])))))) m (Y1 (.ptr 0 0 0 :: .d .nils :: .sl 1 0 0 len :: .d (.int .i64 ((i : Int))) :: .d (.ivs r.length (ints r)) :: .d (.int .i64 ((q : Int))) :: Y32 (Y4 ([])))) [.box [.d (.int .i64 a.al),.d (.ivs a.nx.length (rowsD a.nx)),.d (.ivs a.ac.length (bools a.ac))],.arr (ints o) 1 0] k
  = k (.exit 2) (Y1 (.ptr 0 0 0 :: .d .nils :: .sl 1 0 0 (rowU o (r.drop q)).length :: .d (.int .i64 ((i : Int))) :: .d (.ivs r.length (ints r)) :: .d (.int .i64 (r.length)) :: Y32 (Y4 ([])))) [.box [.d (.int .i64 a.al),.d (.ivs a.nx.length (rowsD a.nx)),.d (.ivs a.ac.length (bools a.ac))],.arr (ints (rowU o (r.drop q))) 1 0] := by
 intro j
 induction j with
 | zero =>
  intro q m o len hq hm hlen ho
  obtain _ | m := m; omega
  obtain rfl : q = r.length := by omega
  subst hlen
  rw [xic]
  simp only [xhj,Try.f94,SLM,simprocAttr]
  simp -implicitDefEqProofs (maxSteps := 2000000) (disch := first | assumption | exact ⟨by kernel_rfl⟩ | omega | (simp only [GT,LN] <;> omega) | fail) only [↓DN,↓kAsg,↓kRet,UP,simprocAttr,↓x71,↓x9s,↓x52,LA,Int.lt_irrefl]
  rw [List.drop_length]
  rfl
 | succ j ih =>
  intro q m o len hq hm hlen ho
  obtain _ | m := m; omega
  subst hlen
  have hk : q < r.length := by omega
  have hc : (q : Int) < r.length := by omega
  have hq0 : (0 : Int) ≤ q := by omega
  have kl_i := fun {R : Type} {n : Nat} {k : A → Option R} (hn : 2 ≤ n) => @x9s R L n k hn o (r.getD q 0) (by omega) hL
  have hl4 : o.length ≤ 4294967290 := by omega
  rw [x2k hk (d := 0)]
  by_cases h : r.getD q 0 ∈ o
  ·have e : rowU o (r.getD q 0 :: r.drop (q + 1)) = rowU o (r.drop (q + 1)) := by
    unfold rowU
    rw [List.foldl_cons,addU,if_pos h]
   have ih' := ih (q + 1) m o o.length (by omega) (by omega) rfl (by omega)
   rw [show ((q + 1 : Nat) : Int) = (q : Int) + 1 by omega] at ih'
   rw [e]
   rw [decide_eq_true h] at kl_i
   clear ih
   generalize rowU o (r.drop (q + 1)) = w at *
   rw [xic]
   simp only [xhj,Try.f94,SLM,simprocAttr]
   simp -implicitDefEqProofs (maxSteps := 2000000) (disch := first | assumption | exact ⟨by kernel_rfl⟩ | omega | (simp only [GT,LN] <;> omega) | fail) only [↓DN,↓kAsg,↓kRet,UP,simprocAttr,↓x71,↓x52,LA,hc,hq0,Int.toNat_natCast,↓kl_i,↓ih']
  ·have e : rowU o (r.getD q 0 :: r.drop (q + 1)) = rowU (o ++ [r.getD q 0]) (r.drop (q + 1)) := by
    unfold rowU
    rw [List.foldl_cons,addU,if_neg h]
   have ih' := ih (q + 1) m (o ++ [r.getD q 0]) (o.length + 1) (by omega) (by omega) (by simp) (by simp; omega)
   rw [show ((q + 1 : Nat) : Int) = (q : Int) + 1 by omega] at ih'
   rw [e]
   rw [decide_eq_false h] at kl_i
   clear ih
   generalize rowU (o ++ [r.getD q 0]) (r.drop (q + 1)) = w at *
   rw [xic]
   simp only [xhj,Try.f94,SLM,simprocAttr]
   simp -implicitDefEqProofs (maxSteps := 2000000) (disch := first | assumption | exact ⟨by kernel_rfl⟩ | omega | (simp only [GT,LN] <;> omega) | fail) only [↓DN,↓kAsg,↓kRet,UP,simprocAttr,↓x71,↓x52,LA,hc,hq0,Int.toNat_natCast,↓kl_i,x2m,x5m,x23,x53,List.length_append,↓ih']
theorem x18f {R : Type} {L n : Nat} (hn : 3 ≤ n) (hL : 2 ^ 60 ≤ L) {a : Aut} (ha : AOK a) {k : Exit → List A → H → Option R} : ∀ (j i m : Nat) (o : List Int) (W : Nat → List Int) (len : Nat) (hB : Bfs (goS a) (x3 a.al) a.nx.length i [] o W) (hi : i ≤ o.length) (hj : a.nx.length < i + j) (hm : j < m) (hlen : len = o.length),
  xc env (x2 env L n) L 0 [] (Z1 (U4 (U2 (Z32 (Z4 ([])))))) (x6k 0) (U1 (Z4 (U32 (U4 (U2 ([])))))) m (Y1 (.ptr 0 0 0 :: .d .nils :: .sl 1 0 0 len :: .d (.int .i64 ((i : Int))) :: Y32 (Y4 (Y2 ([]))))) [.box [.d (.int .i64 a.al),.d (.ivs a.nx.length (rowsD a.nx)),.d (.ivs a.ac.length (bools a.ac))],.arr (ints o) 1 0] k
  = k (.exit 0) (Y1 (.ptr 0 0 0 :: .d .nils :: .sl 1 0 0 (ordB (goS a) (x3 a.al) j i o).length :: .d (.int .i64 (((ordB (goS a) (x3 a.al) j i o).length : Int))) :: Y32 (Y4 (Y2 ([]))))) [.box [.d (.int .i64 a.al),.d (.ivs a.nx.length (rowsD a.nx)),.d (.ivs a.ac.length (bools a.ac))],.arr (ints (ordB (goS a) (x3 a.al) j i o)) 1 0] := by
 obtain ⟨sa,wa,a1,a2,a3⟩ := x54 ha
 have hal := sa.1
 have last : ∀ (i m : Nat) (o : List Int) (len : Nat),i = o.length → 0 < m → len = o.length → xc env (x2 env L n) L 0 [] (Z1 (U4 (U2 (Z32 (Z4 ([])))))) (x6k 0) (U1 (Z4 (U32 (U4 (U2 ([])))))) m (Y1 (.ptr 0 0 0 :: .d .nils :: .sl 1 0 0 len :: .d (.int .i64 ((i : Int))) :: Y32 (Y4 (Y2 ([]))))) [.box [.d (.int .i64 a.al),.d (.ivs a.nx.length (rowsD a.nx)),.d (.ivs a.ac.length (bools a.ac))],.arr (ints o) 1 0] k
  = k (.exit 0) (Y1 (.ptr 0 0 0 :: .d .nils :: .sl 1 0 0 o.length :: .d (.int .i64 ((o.length : Int))) :: Y32 (Y4 (Y2 ([]))))) [.box [.d (.int .i64 a.al),.d (.ivs a.nx.length (rowsD a.nx)),.d (.ivs a.ac.length (bools a.ac))],.arr (ints o) 1 0] := by
  intro i m o len hi hm hlen
  obtain _ | m := m; omega
  subst hi
  subst hlen
  rw [xsi]
  simp only [xp9,Try.f94,SLM,simprocAttr]
  simp -implicitDefEqProofs (maxSteps := 2000000) (disch := first | assumption | exact ⟨by kernel_rfl⟩ | omega | (simp only [GT,LN] <;> omega) | fail) only [↓DN,↓kAsg,↓kRet,UP,simprocAttr,↓x71,↓x9s,↓x52,LA,Int.lt_irrefl]
 intro j
 induction j with
 | zero =>
  intro i m o W len hB hi hj hm hlen
  have := x9v hB.nod hB.rng
  omega
 | succ j ih =>
  intro i m o W len hB hi hj hm hlen
  unfold ordB
  by_cases hlt : i < o.length
  ·obtain _ | m := m; omega
   subst hlen
   rw [if_pos hlt]
   obtain ⟨v0,v1⟩ := hB.rng _ (xfk hlt)
   have hrm := x1fh ha v0 v1
   obtain ⟨W1,h1,h2⟩ := Bfs.row (xnb _) (fun l hl => x1pn ha _ l v0 v1 hl) (x3 a.al) [] o W hB rfl hlt rfl
   rw [hrm] at h1 h2 ⊢
   have hn1 := x9v hB.nod hB.rng
   have hrl := (xvb ha (i := (o.getD i 0).toNat) (by omega)).1
   have hll := x6j a.al
   have loop_c := fun {R : Type} {n : Nat} {k : Exit → List A → H → Option R} (hn : 3 ≤ n) => @x19u R L n hn hL a i (rowA a (o.getD i 0)) (by unfold rowA; omega) k (rowA a (o.getD i 0)).length 0 L o o.length (by omega) (by unfold rowA; omega) rfl (by unfold rowA; omega)
   rw [List.drop_zero] at loop_c
   have ih' := ih (i + 1) m (rowU o (rowA a (o.getD i 0))) W1 _ h1.next (by omega) (by omega) (by omega) rfl
   rw [show ((i + 1 : Nat) : Int) = (i : Int) + 1 by omega] at ih'
   simp only [Int.natCast_zero] at loop_c
   have hc : (i : Int) < o.length := by omega
   have hi0 : (0 : Int) ≤ i := by omega
   clear ih h1 hB last hrm
   unfold rowA at *
   generalize hv : o.getD i 0 = v at *
   have hk : v.toNat < a.nx.length := by omega
   generalize rowU o (a.nx.getD v.toNat []) = w at *
   generalize ordB (goS a) (x3 a.al) j (i + 1) w = z at *
   rw [xsi]
   simp only [xp9,Try.f94,SLM,simprocAttr]
   simp -implicitDefEqProofs (maxSteps := 2000000) (disch := first | assumption | exact ⟨by kernel_rfl⟩ | omega | (simp only [GT,LN] <;> omega) | fail) only [↓DN,↓kAsg,↓kRet,UP,simprocAttr,↓x71,↓x9s,↓x52,LA,hc,hi0,hv,v0,v1,x2m,x5m,x60,x6l,Int.toNat_natCast,↓loop_c,↓ih']
  ·rw [if_neg hlt]
   exact last i m o len (by omega) (by omega) hlen
theorem x1lc {L n : Nat} (hn : 4 ≤ n) (a : Aut) (ha : AOK a) (hL : 2 ^ 60 ≤ L) : x2 env L n 94 [.agg [.d (.int .i64 a.al),.d (.ivs a.nx.length (rowsD a.nx)),.d (.ivs a.ac.length (bools a.ac))]] [] = some (.d (.ivs (ordA a).length (ints (ordA a))),[]) := by
 obtain ⟨sa,wa,a1,a2,a3⟩ := x54 ha
 have loop_c := fun {R : Type} {n : Nat} {k : Exit → List A → H → Option R} (hn : 3 ≤ n) => @x18f R L n hn hL a ha k (a.nx.length + 1) 0 L [0] (fun _ => []) 1 (Bfs.start (by omega)) (by omega) (by omega) (by omega) rfl
 have e : ints [0] = [.int .i64 0] := rfl
 have e2 : ordB (goS a) (x3 a.al) (a.nx.length + 1) 0 [0] = ordA a := rfl
 rw [e,e2] at loop_c
 simp only [Int.natCast_zero] at loop_c
 obtain ⟨W,hB⟩ := xmu ha
 have hl := x9v hB.nod hB.rng
 clear hB
 generalize ordA a = w at *
 have e4 : (ints w).take w.length = ints w := by rw [x23 (Nat.le_refl _)]
 obtain _ | n := n; omega
 rw [x1kz]
 simp only [x172,Try.f94,SLM,simprocAttr]
 simp -implicitDefEqProofs (maxSteps := 2000000) (disch := first | assumption | exact ⟨by kernel_rfl⟩ | omega | (simp only [GT,LN] <;> omega) | fail) only [↓DN,↓kAsg,↓kRet,UP,simprocAttr,↓x71,↓x9s,↓x52,LA,e4,↓loop_c,x2m,x5m]
theorem xce {R : Type} {L n : Nat} {hq : H} {k : A → H → Option R} (hn : 4 ≤ n) (a : Aut) (ha : AOK a) (hL : 2 ^ 60 ≤ L) : x4 env (x2 env L n) hq 94 [.agg [.d (.int .i64 a.al),.d (.ivs a.nx.length (rowsD a.nx)),.d (.ivs a.ac.length (bools a.ac))]] k = k (.d (.ivs (ordA a).length (ints (ordA a)))) hq :=
 xh rfl (x1lc hn a ha hL) rfl (.inr rfl)
def netO (a : Aut) (st : Int) : Net := ⟨[],[a],[0],a.al,5,st⟩
theorem x1pk {na v : Int} (h0 : 0 ≤ v) (h1 : v < na) : decN [na] v = [v] := by
 show [v.tmod na] = [v]
 rw [Int.tmod_eq_emod_of_nonneg h0,Int.emod_eq_of_lt h0 h1]
theorem x1ui {a : Aut} (ha : AOK a) (st : Int) : x1bh (nxS a) (glS st) (x3 a.al) a.nx.length 0 = oneG a st := by
 obtain ⟨_,_,h1,_,_⟩ := x54 ha
 refine xkf (x1zc (fun v c h0 h1 hc => ?_) (xnb _) (by omega) (by omega)) (xrb ha st)
 have := x8u c hc
 exact xxl ha h0 h1 (by omega)
theorem x1ji {L n : Nat} (hn : 11 ≤ n) (hL : 2 ^ 60 ≤ L) {a : Aut} (ha : AOK a) (st : Int) :
  x2 env L n 86 [.agg [.d .nils,.d (.ivs 1 (x3l [a])),.d (.ivs 1 (ints [0])),.d (.int .i64 a.al),.d (.int .i64 5),.d (.int .i64 st)]] [] = some (.tup [.d (.str (txt (oneG a st).1)),.d (.bool (oneG a st).2)],[]) := by
 obtain ⟨sa,aw,a1,a2,a3⟩ := x54 ha
 have hz : xs3 (netO a st) = [(a.nx.length : Int)] := rfl
 rw [← x1ui ha st]
 have key := @x1jw L n hn hL 1 (x3l [a]) 5 st a.al 0 [0] [(a.nx.length : Int)] (nxS a) (glS st) a.nx.length (by simp) rfl (by
   intro q hq
   match q,hq with
   | 0,_ => exact ⟨by simp,by simp⟩
   | 1,_ => simp; omega
   | q + 2,hq => simp at hq) (by simp) (by intro z hz; simp at hz; subst hz; omega) (by
   simp only [xzr,and_true]
   refine ⟨by omega,by omega,?_⟩
   simp) (by simp [encN]) (by omega) (by omega)
   (fun {n} hn => by
    have := @x13l L n hn (netO a st) (by simp [netO]) (by simp [netO]) (fun x hx => by simp [netO] at hx; subst hx; omega) hL
    exact this)
   (fun v l hv hl {R n hq k} hn => by
    have hl2 := x8u l hl
    rw [x1pk (by omega) (by omega)]
    have ga := x15j ha (q := (v : Int)) (by omega) (by omega) hl2.1 (by omega)
    have hnx : nexG (fun i => [goI a.al a.nx (v : Int) l]) [(a.nx.length : Int)] 1 0 [0] = nxS a v l := by
     simp [nexG,mulN,nxS]
    rw [← hnx]
    refine xh rfl (@x1kv L n hn hL 0 1 1 [] (x3l [a]) (ints [0]) a.al 5 st [(a.nx.length : Int)] [(v : Int)] l (fun i => [goI a.al a.nx (v : Int) l]) (fun i => if i = 0 then 0 else 11) rfl (by simp) (fun t ht {R n hq k} hn => ?_) (fun t ht => ?_) (fun t ht => ?_) (fun t ht c hc => ?_) (by simp) (fun t ht => ?_)) rfl (.inr rfl)
    ·match t,ht with
     | 0,_ => exact xh rfl (xwy hn (netO a st) 0 _ l (Nat.le_refl _) (by simp [netO]) (by simp [netO]) (by simp [netO]) a rfl sa aw (by show (0 : Int) ≤ (v : Int); omega) (by show (v : Int) < _; omega) hl2.1 (by omega) hL) rfl (.inr rfl)
     | t + 1,ht => exact absurd ht (by show ¬ (t + 1 < 1); omega)
    ·match t,ht with
     | 0,_ => simp; omega
     | t + 1,ht => exact absurd ht (by show ¬ (t + 1 < 1); omega)
    ·simp
    ·match t,ht with
     | 0,_ => simp at hc; subst hc; simpa using ga
     | t + 1,ht => exact absurd ht (by show ¬ (t + 1 < 1); omega)
    ·match t,ht with
     | 0,_ => simp; omega
     | t + 1,ht => exact absurd ht (by show ¬ (t + 1 < 1); omega))
   (fun v hv {R n k} hn => by
    rw [x1pk (by omega) (by omega)]
    have hg : x1kr (netO a st) [(v : Int)] ((movT (nxS a) (x3 a.al) a.nx.length).getD v []) = glS st v := rfl
    rw [← hg]
    exact x2c (x1jh (by omega) (netO a st) [(v : Int)] ((movT (nxS a) (x3 a.al) a.nx.length).getD v []) rfl (by simp [netO]) (by simp [netO]) (by simp)) rfl)
   (fun v c h0 h1 hc => by
    have := x8u c hc
    exact ⟨by simp [nxS],xxl ha h0 h1 (by omega)⟩)
 exact key
theorem xuq {L n : Nat} (hn : 12 ≤ n) (a : Aut) (st : Int) (hs : xp a.nx) (hac : a.ac.length ≤ 4294967296) (hL : 2 ^ 60 ≤ L) : x2 env L n 70 [.agg [.d (.int .i64 a.al),.d (.ivs a.nx.length (rowsD a.nx)),.d (.ivs a.ac.length (bools a.ac))],.d (.int .i64 st)] [] = some (.tup [.d (.str (txt (accG a st).1)),.d (.bool (accG a st).2)],[]) := by
 have hrl := hs.1
 unfold accG
 cases hv : x5e a.al a.nx a.ac with
 | false =>
  simp only [Bool.false_eq_true,if_false,txt,List.map_nil]
  obtain _ | n := n; omega
  rw [xkp]
  simp only [xfl,Try.f70,SLM,simprocAttr]
  simp -implicitDefEqProofs (maxSteps := 2000000) (disch := first | assumption | exact ⟨by kernel_rfl⟩ | omega | (simp only [GT,LN] <;> omega) | fail) only [↓DN,↓kAsg,↓kRet,UP,simprocAttr,↓x5b,↓xtg,↓x5c,↓xts,↓x4d,↓x4a,↓x4c,↓xme,↓xm8,↓xmd,LA,hv]
 | true =>
  simp only [if_true]
  by_cases h1 : 0 ≤ st ∧ st < a.nx.length
  ·obtain ⟨h1,h2⟩ := h1
   have kc_b := fun {R : Type} {n : Nat} {k : A → Option R} (hn : 11 ≤ n) => x2c (call := x2 env L n) (k := k) (f := 86) (@x1ji L n hn hL a hv st) rfl
   simp only [x3l,ints,List.map_cons,List.map_nil] at kc_b
   have kl_b := fun {R : Type} {n : Nat} {k : A → Option R} (hn : 11 ≤ n) => kc_b (R := R) (n := n) (k := k) hn
   have kv_l := fun {R : Type} {n : Nat} {hq : H} {args : List A} {k : A → H → Option R} => x9 (E := env) (call := x2 env L n) (h := hq) (k := k) (args := args) xn7
   clear kc_b
   generalize oneG a st = r at *
   obtain _ | n := n; omega
   rw [xkp]
   simp only [xfl,Try.f70,SLM,simprocAttr]
   simp -implicitDefEqProofs (maxSteps := 2000000) (disch := first | assumption | exact ⟨by kernel_rfl⟩ | omega | (simp only [GT,LN] <;> omega) | fail) only [↓DN,↓kAsg,↓kRet,UP,simprocAttr,↓x5b,↓xtg,↓x5c,↓xts,↓x4d,↓x4a,↓x4c,↓xme,↓xm8,↓xmd,LA,hv,h1,h2,decide_true,Bool.and_self,↓kv_l,↓kl_b]
  ·rw [x237 hv h1]
   have e3 : (decide (0 ≤ st) && decide (st < a.nx.length)) = false := by
    rw [Bool.and_eq_false_iff,decide_eq_false_iff_not,decide_eq_false_iff_not]; omega
   simp only [txt,List.map_nil]
   obtain _ | n := n; omega
   rw [xkp]
   simp only [xfl,Try.f70,SLM,simprocAttr]
   simp -implicitDefEqProofs (maxSteps := 2000000) (disch := first | assumption | exact ⟨by kernel_rfl⟩ | omega | (simp only [GT,LN] <;> omega) | fail) only [↓DN,↓kAsg,↓kRet,UP,simprocAttr,↓x5b,↓xtg,↓x5c,↓xts,↓x4d,↓x4a,↓x4c,↓xme,↓xm8,↓xmd,LA,hv,e3]
theorem xe3 {R : Type} {L n : Nat} {hq : H} {k : A → H → Option R} (hn : 12 ≤ n) (a : Aut) (st : Int) (hs : xp a.nx) (hac : a.ac.length ≤ 4294967296) (hL : 2 ^ 60 ≤ L) : x4 env (x2 env L n) hq 70 [.agg [.d (.int .i64 a.al),.d (.ivs a.nx.length (rowsD a.nx)),.d (.ivs a.ac.length (bools a.ac))],.d (.int .i64 st)] k = k (.tup [.d (.str (txt (accG a st).1)),.d (.bool (accG a st).2)]) hq :=
 xh rfl (xuq hn a st hs hac hL) rfl (.inl rfl)
theorem xdy {R : Type} {L n : Nat} {k : A → Option R} (hn : 12 ≤ n) (a : Aut) (st : Int) (hs : xp a.nx) (hac : a.ac.length ≤ 4294967296) (hL : 2 ^ 60 ≤ L) : xk (x2 env L n) 70 [.agg [.d (.int .i64 a.al),.d (.ivs a.nx.length (rowsD a.nx)),.d (.ivs a.ac.length (bools a.ac))],.d (.int .i64 st)] k = k (.tup [.d (.str (txt (accG a st).1)),.d (.bool (accG a st).2)]) :=
 x2c (xuq hn a st hs hac hL) rfl
theorem xbm {R : Type} {L n : Nat} {hq : H} {k : A → H → Option R} {id0 g0 o0 len0 : Nat} {a : Aut} {st : Int} : x4 env (x2 env L n) hq 70 [.agg [.d (.int .i64 a.al),.sl id0 g0 o0 len0,.d (.ivs a.ac.length (bools a.ac))],.d (.int .i64 st)] k = match box (xw hq [.agg [.d (.int .i64 a.al),.sl id0 g0 o0 len0,.d (.ivs a.ac.length (bools a.ac))],.d (.int .i64 st)]) with
  | .mk (some fs) => xk (x2 env L n) 70 fs fun r => k r hq
  | _ => none := x9 x9h
theorem xbj {R : Type} {L n : Nat} {hq : H} {k : A → H → Option R} {id1 g1 o1 len1 : Nat} {a : Aut} {st : Int} : x4 env (x2 env L n) hq 70 [.agg [.d (.int .i64 a.al),.d (.ivs a.nx.length (rowsD a.nx)),.sl id1 g1 o1 len1],.d (.int .i64 st)] k = match box (xw hq [.agg [.d (.int .i64 a.al),.d (.ivs a.nx.length (rowsD a.nx)),.sl id1 g1 o1 len1],.d (.int .i64 st)]) with
  | .mk (some fs) => xk (x2 env L n) 70 fs fun r => k r hq
  | _ => none := x9 x9h
theorem xbo {R : Type} {L n : Nat} {hq : H} {k : A → H → Option R} {id1 g1 o1 len1 : Nat} {id0 g0 o0 len0 : Nat} {a : Aut} {st : Int} : x4 env (x2 env L n) hq 70 [.agg [.d (.int .i64 a.al),.sl id0 g0 o0 len0,.sl id1 g1 o1 len1],.d (.int .i64 st)] k = match box (xw hq [.agg [.d (.int .i64 a.al),.sl id0 g0 o0 len0,.sl id1 g1 o1 len1],.d (.int .i64 st)]) with
  | .mk (some fs) => xk (x2 env L n) 70 fs fun r => k r hq
  | _ => none := x9 x9h
end Ev
end Go.Proofs.Ytppdfjdfjfoddaa
