/-
  A search that visits words in shortlex order finds the first word that leads to a goal: plain laws.
-/
import Derived.Test.YtppdfjdfjfoddaaLeast
import Derived.Test.YtppdfjdfjfoddaaMemD
import Derived.Test.YtppdfjdfjfoddaaDrawR
set_option linter.unusedSimpArgs false
set_option linter.unusedVariables false
set_option maxRecDepth 8000
set_option maxHeartbeats 4000000
namespace Go.Proofs.Ytppdfjdfjfoddaa
namespace Ev
section
structure PStep where
 par : Int
 lt : Int
 ns : List Int
instance : Inhabited PStep := ⟨⟨0,0,[]⟩⟩
def visG (gl : Int → Bool) : List Int → List Bool → List Int → Bool → List Bool × List Int × Bool
 | [],s,f,b => (s,f,b)
 | n :: ns,s,f,b => if s.getD n.toNat false = true then visG gl ns s f b else visG gl ns (s.set n.toNat true) (f ++ [n]) (b || gl n)
def addP (st : List PStep) (p l : Int) (f : List Int) : List PStep := if f = [] then st else st ++ [⟨p,l,f⟩]
def flat (nx : Int → Int → List Int) (ns : List Int) (l : Int) : List Int := ns.flatMap fun n => nx n l
def ltG (nx : Int → Int → List Int) (gl : Int → Bool) (ns : List Int) (p : Int) : List Int → List Bool × List PStep → Bool × List Bool × List PStep
 | [],q => (false,q)
 | l :: ls,q =>
  if (visG gl (flat nx ns l) q.1 [] false).2.2 = true then (true,(visG gl (flat nx ns l) q.1 [] false).1,addP q.2 p l (visG gl (flat nx ns l) q.1 [] false).2.1)
  else ltG nx gl ns p ls ((visG gl (flat nx ns l) q.1 [] false).1,addP q.2 p l (visG gl (flat nx ns l) q.1 [] false).2.1)
def outG (nx : Int → Int → List Int) (gl : Int → Bool) (ls : List Int) : Nat → Nat → List Bool × List PStep → Bool × List Bool × List PStep
 | 0,_,q => (false,q)
 | j + 1,i,q => if i < q.2.length then
   (if (ltG nx gl (q.2.getD i default).ns i ls q).1 = true then ltG nx gl (q.2.getD i default).ns i ls q
    else outG nx gl ls j (i + 1) (ltG nx gl (q.2.getD i default).ns i ls q).2)
  else (false,q)
def kD (st : List PStep) : Nat → Nat → List Int
 | 0,_ => []
 | j + 1,i => if 0 ≤ (st.getD i default).par then kD st j (st.getD i default).par.toNat ++ [(st.getD i default).lt] else []
def QW (nx : Int → Int → List Int) (gl : Int → Bool) (ls start : List Int) (size : Nat) : List Int × Bool :=
 if (visG gl start (List.replicate size false) [] false).2.2 = true then ([],true)
 else if (outG nx gl ls (size + 1) 0 ((visG gl start (List.replicate size false) [] false).1,addP [] (-1) 0 (visG gl start (List.replicate size false) [] false).2.1)).1 = true then
  (kD (outG nx gl ls (size + 1) 0 ((visG gl start (List.replicate size false) [] false).1,addP [] (-1) 0 (visG gl start (List.replicate size false) [] false).2.1)).2.2
   (outG nx gl ls (size + 1) 0 ((visG gl start (List.replicate size false) [] false).1,addP [] (-1) 0 (visG gl start (List.replicate size false) [] false).2.1)).2.2.length
   ((outG nx gl ls (size + 1) 0 ((visG gl start (List.replicate size false) [] false).1,addP [] (-1) 0 (visG gl start (List.replicate size false) [] false).2.1)).2.2.length - 1),true)
 else ([],false)
def Sn (s : List Bool) (n : Int) : Prop := s.getD n.toNat false = true
theorem aSs {s : List Bool} {n m : Int} (h0 : 0 ≤ n) (h1 : n < s.length) (hm : 0 ≤ m) : Sn (s.set n.toNat true) m ↔ m = n ∨ Sn s m := by
 unfold Sn
 rw [List.getD_eq_getElem?_getD,List.getD_eq_getElem?_getD,List.getElem?_set]
 by_cases h : n.toNat = m.toNat
 ·have : m = n := by omega
  subst this
  simp [show m.toNat < s.length by omega]
 ·have : m ≠ n := by omega
  simp [h,this]
structure Vis (gl : Int → Bool) (ns : List Int) (s : List Bool) (f : List Int) (b : Bool) (r : List Bool × List Int × Bool) : Prop where
 seen : ∀ m,0 ≤ m → (Sn r.1 m ↔ Sn s m ∨ m ∈ ns)
 new : ∀ m,m ∈ r.2.1 ↔ m ∈ f ∨ (m ∈ ns ∧ ¬ Sn s m)
 hit : r.2.2 = true ↔ b = true ∨ ∃ m,m ∈ ns ∧ ¬ Sn s m ∧ gl m = true
 cnt : r.2.1.length + r.1.count false = f.length + s.count false
 len : r.1.length = s.length
theorem aCG : ∀ {s : List Bool} {k : Nat},s.getD k false = false → k < s.length → (s.set k true).count false + 1 = s.count false
 | [],k,h,hk => by simp at hk
 | b :: s,0,h,hk => by
  simp at h
  subst h
  simp
 | b :: s,k + 1,h,hk => by
  have ih := aCG (s := s) (k := k) (by simpa using h) (by simpa using hk)
  simp only [List.set_cons_succ,List.count_cons]
  omega
theorem aB4 (gl : Int → Bool) : ∀ (ns : List Int) (s : List Bool) (f : List Int) (b : Bool),(∀ n ∈ ns,0 ≤ n ∧ n < s.length) → Vis gl ns s f b (visG gl ns s f b)
 | [],s,f,b,_ => ⟨by simp [visG],by simp [visG],by simp [visG],rfl,rfl⟩
 | n :: ns,s,f,b,h => by
  have h2 := h n List.mem_cons_self
  unfold visG
  split
  ·rename_i h1
   have ih := aB4 gl ns s f b fun m hm => h m (List.mem_cons_of_mem _ hm)
   refine ⟨fun m hm => ?_,fun m => ?_,?_,ih.cnt,ih.len⟩
   ·rw [ih.seen m hm]
    constructor
    ·rintro (k | k)
     ·exact .inl k
     ·exact .inr (List.mem_cons_of_mem _ k)
    ·rintro (k | k)
     ·exact .inl k
     ·rcases List.mem_cons.1 k with rfl | k
      ·exact .inl h1
      ·exact .inr k
   ·rw [ih.new m]
    constructor
    ·rintro (k | ⟨k,k2⟩)
     ·exact .inl k
     ·exact .inr ⟨List.mem_cons_of_mem _ k,k2⟩
    ·rintro (k | ⟨k,k2⟩)
     ·exact .inl k
     ·rcases List.mem_cons.1 k with rfl | k
      ·exact (k2 h1).elim
      ·exact .inr ⟨k,k2⟩
   ·rw [ih.hit]
    constructor
    ·rintro (k | ⟨m,k,k2⟩)
     ·exact .inl k
     ·exact .inr ⟨m,List.mem_cons_of_mem _ k,k2⟩
    ·rintro (k | ⟨m,k,k2⟩)
     ·exact .inl k
     ·rcases List.mem_cons.1 k with rfl | k
      ·exact (k2.1 h1).elim
      ·exact .inr ⟨m,k,k2⟩
  ·rename_i h1
   have ih := aB4 gl ns (s.set n.toNat true) (f ++ [n]) (b || gl n) fun m hm => by simpa using h m (List.mem_cons_of_mem _ hm)
   have hpos : ∀ m ∈ ns,0 ≤ m := fun m hm => (h m (List.mem_cons_of_mem _ hm)).1
   have hs := fun {m : Int} (hm : 0 ≤ m) => aSs (s := s) (n := n) (m := m) h2.1 h2.2 hm
   refine ⟨fun m hm => ?_,fun m => ?_,?_,?_,?_⟩
   ·rw [ih.seen m hm,hs hm,List.mem_cons]
    constructor
    ·rintro ((k | k) | k)
     ·exact .inr (.inl k)
     ·exact .inl k
     ·exact .inr (.inr k)
    ·rintro (k | k | k)
     ·exact .inl (.inr k)
     ·exact .inl (.inl k)
     ·exact .inr k
   ·rw [ih.new m,List.mem_append,List.mem_singleton,List.mem_cons]
    constructor
    ·rintro ((k | rfl) | ⟨k,k2⟩)
     ·exact .inl k
     ·exact .inr ⟨.inl rfl,h1⟩
     ·rw [hs (hpos m k)] at k2
      exact .inr ⟨.inr k,fun h3 => k2 (.inr h3)⟩
    ·rintro (k | ⟨rfl | k,k2⟩)
     ·exact .inl (.inl k)
     ·exact .inl (.inr rfl)
     ·by_cases hmn : m = n
      ·exact .inl (.inr hmn)
      ·refine .inr ⟨k,fun h3 => ?_⟩
       rw [hs (hpos m k)] at h3
       rcases h3 with h3 | h3
       ·exact hmn h3
       ·exact k2 h3
   ·rw [ih.hit,Bool.or_eq_true]
    constructor
    ·rintro ((k | k) | ⟨m,k,k2,k3⟩)
     ·exact .inl k
     ·exact .inr ⟨n,List.mem_cons_self,h1,k⟩
     ·rw [hs (hpos m k)] at k2
      exact .inr ⟨m,List.mem_cons_of_mem _ k,fun h3 => k2 (.inr h3),k3⟩
    ·rintro (k | ⟨m,k,k2,k3⟩)
     ·exact .inl (.inl k)
     ·by_cases hmn : m = n
      ·subst hmn; exact .inl (.inr k3)
      ·rcases List.mem_cons.1 k with k | k
       ·exact (hmn k).elim
       ·refine .inr ⟨m,k,fun h3 => ?_,k3⟩
        rw [hs (hpos m k)] at h3
        rcases h3 with h3 | h3
        ·exact hmn h3
        ·exact k2 h3
   ·have := aCG (s := s) (k := n.toNat) (by simpa using h1) (by omega)
    have hc := ih.cnt
    simp only [List.length_append,List.length_cons,List.length_nil] at hc
    omega
   ·have := ih.len
    simpa using this
section
variable {nx : Int → Int → List Int} {gl : Int → Bool} {ls start : List Int} {size : Nat}
def Asc (l : List Int) : Prop := l.Pairwise (· < ·)
structure Mid (nx : Int → Int → List Int) (gl : Int → Bool) (ls start : List Int) (size : Nat) (i : Nat) (ds : List Int) (s : List Bool) (st : List PStep) (W : Nat → List Int) : Prop where
 len : s.length = size
 room : st.length + s.count false ≤ size
 wide : ∀ k,k < st.length → (st.getD k default).ns.length ≤ size
 par0 : ∀ k,k < st.length → ((st.getD k default).par < 0 ∧ W k = []) ∨ (∃ p : Nat,(st.getD k default).par = p ∧ p < k ∧ (p < i ∨ p = i ∧ (st.getD k default).lt ∈ ds) ∧ W k = W p ++ [(st.getD k default).lt])
 nodes : ∀ k,k < st.length → ∀ n ∈ (st.getD k default).ns,x6 nx ls start (W k) n ∧ Sn s n ∧ (0 ≤ n ∧ n < size)
 all : ∀ n,0 ≤ n → Sn s n → ∃ k,k < st.length ∧ n ∈ (st.getD k default).ns
 asc : ∀ j k,j < k → k < st.length → slt (W j) (W k)
 least : ∀ k,k < st.length → ∀ n ∈ (st.getD k default).ns,∀ w,x6 nx ls start w n → ¬ slt w (W k)
 none : ∀ n,0 ≤ n → Sn s n → gl n = false
 begun : ∀ n ∈ start,Sn s n
 done : ∀ k,k < st.length → ∀ p ∈ (st.getD k default).ns,∀ l ∈ ls,(k < i ∨ k = i ∧ l ∈ ds) → ∀ m ∈ nx p l,Sn s m
theorem KT {n : Int} : x6 nx ls start [] n ↔ n ∈ start := by
 unfold x6 Path
 constructor
 ·rintro ⟨s,h,rfl⟩; exact h
 ·intro h; exact ⟨n,h,rfl⟩
theorem P8 {w : List Int} {l n : Int} : x6 nx ls start (w ++ [l]) n ↔ l ∈ ls ∧ ∃ m,x6 nx ls start w m ∧ n ∈ nx m l := by
 unfold x6
 constructor
 ·rintro ⟨s,h,k⟩
  obtain ⟨h1,m,h2,h3⟩ := aD6.1 k
  exact ⟨h1,m,⟨s,h,h2⟩,h3⟩
 ·rintro ⟨h1,m,⟨s,h,h2⟩,h3⟩
  exact ⟨s,h,aD6.2 ⟨h1,m,h2,h3⟩⟩
theorem QP (w : List Int) : w = [] ∨ ∃ u l,w = u ++ [l] := by
 rcases List.eq_nil_or_concat w with h | ⟨u,l,h⟩
 ·exact .inl h
 ·exact .inr ⟨u,l,by simpa using h⟩
theorem aKx {i : Nat} {ds : List Int} {l : Int} {rs : List Int} {s : List Bool} {st : List PStep} {W : Nat → List Int} (hm : Mid nx gl ls start size i ds s st W) (hi : i < st.length) (hls : ls = ds ++ l :: rs) (ha : Asc ls) (hnx : ∀ p c : Int,0 ≤ p → p < size → c ∈ ls → ∀ m ∈ nx p c,0 ≤ m ∧ m < size) (hst : ∀ n ∈ start,0 ≤ n ∧ n < size) :
  ∀ (q : Nat) (w : List Int),w.length = q → slt w (W i ++ [l]) → ∀ n,x6 nx ls start w n → Sn s n ∧ (0 ≤ n ∧ n < size) := by
 intro q
 induction q with
 | zero =>
  intro w hw hlt n hc
  have : w = [] := List.length_eq_zero_iff.1 hw
  subst this
  have := KT.1 hc
  exact ⟨hm.begun n this,hst n this⟩
 | succ q ih =>
  intro w hw hlt n hc
  rcases QP w with rfl | ⟨u,c,rfl⟩
  ·simp at hw
  obtain ⟨hcl,p,hp,hn⟩ := P8.1 hc
  have hul : u.length = q := by simpa using hw
  have hu : slt u (W i ++ [l]) := K7 (.inl (by simp)) hlt
  obtain ⟨hps,hpr⟩ := ih u hul hu p hp
  refine ⟨?_,hnx p c hpr.1 hpr.2 hcl n hn⟩
  obtain ⟨k,hk,hpk⟩ := hm.all p hpr.1 hps
  have hle := hm.least k hk p hpk u hp
  have h2 := QY.1 hlt
  refine hm.done k hk p hpk c hcl ?_ n hn
  rcases Nat.lt_trichotomy k i with h | h | h
  ·exact .inl h
  ·subst h
   refine .inr ⟨rfl,?_⟩
   rcases h2 with h2 | ⟨_,h2⟩
   ·exact (hle h2).elim
   ·rw [hls] at hcl ha
    rcases List.mem_append.1 hcl with h3 | h3
    ·exact h3
    ·exfalso
     rcases List.mem_cons.1 h3 with h4 | h4
     ·omega
     ·have h5 := List.pairwise_append.1 ha
      have := (List.pairwise_cons.1 h5.2.1).1 c h4
      omega
  ·exfalso
   have h3 := hm.asc i k h hk
   rcases h2 with h2 | ⟨h2,_⟩
   ·exact hle (K7 h2 h3)
   ·subst h2
    exact hle h3
theorem oM {α : Type} {l m : List α} {i : Nat} {d : α} (h : i < l.length) : (l ++ m).getD i d = l.getD i d := by
 rw [List.getD_eq_getElem?_getD,List.getD_eq_getElem?_getD,List.getElem?_append_left h]
theorem TT {α : Type} {l : List α} {x d : α} : (l ++ [x]).getD l.length d = x := by
 rw [List.getD_eq_getElem?_getD,List.getElem?_append_right (Nat.le_refl _)]; simp
theorem aRE {i : Nat} {ds : List Int} {s : List Bool} {st : List PStep} {W : Nat → List Int} (hm : Mid nx gl ls start size i ds s st W) : ∀ (j k : Nat),k < j → k < st.length → kD st j k = W k := by
 intro j
 induction j with
 | zero => intro k hk; omega
 | succ j ih =>
  intro k hk hl
  unfold kD
  rcases hm.par0 k hl with ⟨h1,h2⟩ | ⟨p,h1,h2,_,h3⟩
  ·rw [if_neg (by omega),h2]
  ·rw [if_pos (by omega),h1,Int.toNat_natCast,ih p (by omega) (by omega),h3]
theorem aPh {i : Nat} {ds : List Int} {l : Int} {rs : List Int} {s : List Bool} {st : List PStep} {W : Nat → List Int} (hm : Mid nx gl ls start size i ds s st W) (hi : i < st.length) (hls : ls = ds ++ l :: rs) (ha : Asc ls) (hnx : ∀ p c : Int,0 ≤ p → p < size → c ∈ ls → ∀ m ∈ nx p c,0 ≤ m ∧ m < size) (hst : ∀ n ∈ start,0 ≤ n ∧ n < size) :
  ((visG gl (flat nx (st.getD i default).ns l) s [] false).2.2 = true → WN (Hits nx ls start gl) (W i ++ [l]) ∧ (visG gl (flat nx (st.getD i default).ns l) s [] false).2.1 ≠ []) ∧
  ((visG gl (flat nx (st.getD i default).ns l) s [] false).2.2 ≠ true → ∃ W',Mid nx gl ls start size i (ds ++ [l]) (visG gl (flat nx (st.getD i default).ns l) s [] false).1 (addP st i l (visG gl (flat nx (st.getD i default).ns l) s [] false).2.1) W') := by
 have hll : l ∈ ls := by rw [hls]; simp
 have hreach : ∀ n ∈ flat nx (st.getD i default).ns l,x6 nx ls start (W i ++ [l]) n ∧ (0 ≤ n ∧ n < size) := by
  intro n hn
  obtain ⟨p,hp,hpn⟩ := List.mem_flatMap.1 hn
  obtain ⟨h1,_,h3⟩ := hm.nodes i hi p hp
  exact ⟨P8.2 ⟨hll,p,h1,hpn⟩,hnx p l h3.1 h3.2 hll n hpn⟩
 have hv := aB4 gl (flat nx (st.getD i default).ns l) s [] false fun n hn => by rw [hm.len]; exact (hreach n hn).2
 have hbef := fun w => aKx hm hi hls ha hnx hst w.length w rfl
 generalize hns : flat nx (st.getD i default).ns l = ns at *
 generalize hr : visG gl ns s [] false = r at *
 obtain ⟨s2,f,b⟩ := r
 have v1 := hv.seen
 have v2 : ∀ m,m ∈ f ↔ m ∈ ns ∧ ¬ Sn s m := fun m => by have := hv.new m; simpa using this
 have v3 : b = true ↔ ∃ m,m ∈ ns ∧ ¬ Sn s m ∧ gl m = true := by have := hv.hit; simpa using this
 have v4 : f.length + s2.count false = s.count false := by have := hv.cnt; simpa using this
 have v5 : s2.length = s.length := hv.len
 simp only at v1 ⊢
 constructor
 ·intro hb
  obtain ⟨m,h1,h2,h3⟩ := v3.1 hb
  refine ⟨⟨⟨m,(hreach m h1).1,h3⟩,?_⟩,?_⟩
  ·rintro x ⟨u,hu,hg⟩ hlt
   obtain ⟨k1,k2⟩ := hbef x hlt u hu
   rw [hm.none u k2.1 k1] at hg
   cases hg
  ·intro hf
   have := (v2 m).2 ⟨h1,h2⟩
   rw [hf] at this
   cases this
 ·intro hb
  have hnone : ∀ n,0 ≤ n → Sn s2 n → gl n = false := by
   intro n hn hs
   rcases (v1 n hn).1 hs with h | h
   ·exact hm.none n hn h
   ·by_cases hs0 : Sn s n
    ·exact hm.none n hn hs0
    ·cases hg : gl n with
     | false => rfl
     | true => exact (hb (v3.2 ⟨n,h,hs0,hg⟩)).elim
  have hsn : ∀ n,0 ≤ n → Sn s n → Sn s2 n := fun n hn h => (v1 n hn).2 (.inl h)
  have hdone : ∀ p ∈ (st.getD i default).ns,∀ m ∈ nx p l,Sn s2 m := by
   intro p hp m hmm
   have : m ∈ ns := by rw [← hns]; exact List.mem_flatMap.2 ⟨p,hp,hmm⟩
   exact (v1 m (hreach m this).2.1).2 (.inr this)
  unfold addP
  by_cases hf : f = []
  ·rw [if_pos hf]
   subst hf
   refine ⟨W,⟨by rw [v5,hm.len],by have := hm.room; simp at v4; omega,hm.wide,?_,?_,?_,hm.asc,hm.least,hnone,?_,?_⟩⟩
   ·intro k hk
    rcases hm.par0 k hk with h | ⟨p,h1,h2,h3,h4⟩
    ·exact .inl h
    ·refine .inr ⟨p,h1,h2,?_,h4⟩
     rcases h3 with h3 | ⟨h3,h5⟩
     ·exact .inl h3
     ·exact .inr ⟨h3,List.mem_append_left _ h5⟩
   ·intro k hk n hn
    obtain ⟨h1,h2,h3⟩ := hm.nodes k hk n hn
    exact ⟨h1,hsn n h3.1 h2,h3⟩
   ·intro n hn hs
    rcases (v1 n hn).1 hs with h | h
    ·exact hm.all n hn h
    ·by_cases hs0 : Sn s n
     ·exact hm.all n hn hs0
     ·have := (v2 n).2 ⟨h,hs0⟩
      cases this
   ·intro n hn
    exact hsn n (hst n hn).1 (hm.begun n hn)
   ·intro k hk p hp c hc hor m hmm
    have hpr := (hm.nodes k hk p hp).2.2
    have hmr := hnx p c hpr.1 hpr.2 hc m hmm
    rcases hor with h | ⟨h,h2⟩
    ·exact hsn m hmr.1 (hm.done k hk p hp c hc (.inl h) m hmm)
    ·rcases List.mem_append.1 h2 with h3 | h3
     ·exact hsn m hmr.1 (hm.done k hk p hp c hc (.inr ⟨h,h3⟩) m hmm)
     ·simp at h3
      subst h3; subst h
      exact hdone p hp m hmm
  ·rw [if_neg hf]
   have hfl : 0 < f.length := List.length_pos_iff.2 hf
   refine ⟨fun k => if k = st.length then W i ++ [l] else W k,?_⟩
   have hold : ∀ k,k < st.length → (st ++ [(⟨i,l,f⟩ : PStep)]).getD k default = st.getD k default := fun k hk => oM hk
   have hnew : (st ++ [(⟨i,l,f⟩ : PStep)]).getD st.length default = ⟨i,l,f⟩ := TT
   have hlen : (st ++ [(⟨i,l,f⟩ : PStep)]).length = st.length + 1 := by simp
   have hmax : ∀ k,k < st.length → slt (W k) (W i ++ [l]) := by
    intro k hk
    rcases hm.par0 k hk with ⟨_,h⟩ | ⟨p,h1,h2,h3,h4⟩
    ·rw [h]; exact .inl (by simp)
    ·rw [h4,QY]
     rcases h3 with h3 | ⟨h3,h5⟩
     ·exact .inl (hm.asc p i h3 hi)
     ·subst h3
      refine .inr ⟨rfl,?_⟩
      rw [hls] at ha
      have h6 := List.pairwise_append.1 ha
      exact h6.2.2 _ h5 l List.mem_cons_self
   refine ⟨by rw [v5,hm.len],by have := hm.room; rw [hlen]; omega,?_,?_,?_,?_,?_,?_,hnone,?_,?_⟩
   ·intro k hk
    rw [hlen] at hk
    by_cases h : k < st.length
    ·rw [hold k h]; exact hm.wide k h
    ·obtain rfl : k = st.length := by omega
     rw [hnew]
     have := List.count_le_length (a := false) (l := s)
     have := hm.len
     show f.length ≤ size
     omega
   ·intro k hk
    rw [hlen] at hk
    by_cases h : k < st.length
    ·rw [hold k h]
     simp only [show k ≠ st.length by omega,if_false]
     rcases hm.par0 k h with h0 | ⟨p,h1,h2,h3,h4⟩
     ·exact .inl h0
     ·refine .inr ⟨p,h1,h2,?_,?_⟩
      ·rcases h3 with h3 | ⟨h3,h5⟩
       ·exact .inl h3
       ·exact .inr ⟨h3,List.mem_append_left _ h5⟩
      ·rw [if_neg (by omega)]; exact h4
    ·obtain rfl : k = st.length := by omega
     rw [hnew]
     refine .inr ⟨i,rfl,hi,.inr ⟨rfl,by simp⟩,?_⟩
     simp only [if_true]
     rw [if_neg (by omega)]
   ·intro k hk n hn
    rw [hlen] at hk
    by_cases h : k < st.length
    ·rw [hold k h] at hn
     obtain ⟨h1,h2,h3⟩ := hm.nodes k h n hn
     simp only [show k ≠ st.length by omega,if_false]
     exact ⟨h1,hsn n h3.1 h2,h3⟩
    ·obtain rfl : k = st.length := by omega
     rw [hnew] at hn
     have h1 := ((v2 n).1 hn).1
     have h2 := hreach n h1
     simp only [if_true]
     exact ⟨h2.1,(v1 n h2.2.1).2 (.inr h1),h2.2⟩
   ·intro n hn hs
    by_cases hs0 : Sn s n
    ·obtain ⟨k,hk,h1⟩ := hm.all n hn hs0
     exact ⟨k,by omega,by rw [hold k hk]; exact h1⟩
    ·rcases (v1 n hn).1 hs with h | h
     ·exact (hs0 h).elim
     ·exact ⟨st.length,by omega,by rw [hnew]; exact (v2 n).2 ⟨h,hs0⟩⟩
   ·intro j k hjk hk
    rw [hlen] at hk
    by_cases h : k < st.length
    ·simp only [show k ≠ st.length by omega,show j ≠ st.length by omega,if_false]
     exact hm.asc j k hjk h
    ·obtain rfl : k = st.length := by omega
     simp only [show j ≠ st.length by omega,if_false,if_true]
     exact hmax j hjk
   ·intro k hk n hn w hw
    rw [hlen] at hk
    by_cases h : k < st.length
    ·rw [hold k h] at hn
     simp only [show k ≠ st.length by omega,if_false]
     exact hm.least k h n hn w hw
    ·obtain rfl : k = st.length := by omega
     rw [hnew] at hn
     simp only [if_true]
     intro hlt
     exact ((v2 n).1 hn).2 (hbef w hlt n hw).1
   ·intro n hn
    exact hsn n (hst n hn).1 (hm.begun n hn)
   ·intro k hk p hp c hc hor m hmm
    rw [hlen] at hk
    by_cases h : k < st.length
    ·rw [hold k h] at hp
     have hpr := (hm.nodes k h p hp).2.2
     have hmr := hnx p c hpr.1 hpr.2 hc m hmm
     rcases hor with h1 | ⟨h1,h2⟩
     ·exact hsn m hmr.1 (hm.done k h p hp c hc (.inl h1) m hmm)
     ·rcases List.mem_append.1 h2 with h3 | h3
      ·exact hsn m hmr.1 (hm.done k h p hp c hc (.inr ⟨h1,h3⟩) m hmm)
      ·simp at h3
       subst h3; subst h1
       exact hdone p hp m hmm
    ·exfalso
     omega
theorem aIs {i : Nat} (ha : Asc ls) (hnx : ∀ p c : Int,0 ≤ p → p < size → c ∈ ls → ∀ m ∈ nx p c,0 ≤ m ∧ m < size) (hst : ∀ n ∈ start,0 ≤ n ∧ n < size) {ns : List Int} : ∀ (rs ds : List Int) (s : List Bool) (st : List PStep) (W : Nat → List Int),Mid nx gl ls start size i ds s st W → i < st.length → ls = ds ++ rs → ns = (st.getD i default).ns →
  ((ltG nx gl ns i rs (s,st)).1 = true → WN (Hits nx ls start gl) (kD (ltG nx gl ns i rs (s,st)).2.2 (ltG nx gl ns i rs (s,st)).2.2.length ((ltG nx gl ns i rs (s,st)).2.2.length - 1))) ∧
  ((ltG nx gl ns i rs (s,st)).1 ≠ true → st.length ≤ (ltG nx gl ns i rs (s,st)).2.2.length ∧ ∃ W',Mid nx gl ls start size (i + 1) [] (ltG nx gl ns i rs (s,st)).2.1 (ltG nx gl ns i rs (s,st)).2.2 W') := by
 intro rs
 induction rs with
 | nil =>
  intro ds s st W hm hi hls hns
  simp only [List.append_nil] at hls
  subst hls
  refine ⟨fun h => by simp [ltG] at h,fun _ => ⟨Nat.le_refl _,W,hm.len,hm.room,hm.wide,?_,hm.nodes,hm.all,hm.asc,hm.least,hm.none,hm.begun,?_⟩⟩
  ·intro k hk
   rcases hm.par0 k hk with h0 | ⟨p,h1,h2,h3,h4⟩
   ·exact .inl h0
   ·exact .inr ⟨p,h1,h2,.inl (by omega),h4⟩
  ·intro k hk p hp l hl hor m hmm
   rcases hor with h | ⟨_,h⟩
   ·exact hm.done k hk p hp l hl (by by_cases hki : k = i; exact .inr ⟨hki,hl⟩; exact .inl (by omega)) m hmm
   ·cases h
 | cons l rs ih =>
  intro ds s st W hm hi hls hns
  obtain ⟨h1,h2⟩ := aPh hm hi hls ha hnx hst
  rw [← hns] at h1 h2
  simp only [ltG]
  by_cases hb : (visG gl (flat nx ns l) s [] false).2.2 = true
  ·simp only [hb,if_true]
   refine ⟨fun _ => ?_,fun h => (h rfl).elim⟩
   obtain ⟨k1,k2⟩ := h1 hb
   unfold addP
   rw [if_neg k2]
   simp only [List.length_append,List.length_cons,List.length_nil,Nat.zero_add,Nat.add_sub_cancel]
   have hw : kD (st ++ [⟨i,l,(visG gl (flat nx ns l) s [] false).2.1⟩]) (st.length + 1) st.length = W i ++ [l] := by
    unfold kD
    rw [TT]
    simp only [Int.toNat_natCast]
    rw [if_pos (by omega)]
    congr 1
    have hpre : ∀ (j k : Nat),k < j → k < st.length → ∀ x,kD (st ++ [x]) j k = kD st j k := by
     intro j
     induction j with
     | zero => intro k hk; omega
     | succ j ihj =>
      intro k hk hl x
      unfold kD
      rw [oM hl]
      rcases hm.par0 k hl with ⟨h1,h2⟩ | ⟨p,h1,h2,_,h3⟩
      ·rw [if_neg (by omega),if_neg (by omega)]
      ·rw [if_pos (by omega),if_pos (by omega),h1,Int.toNat_natCast,ihj p (by omega) (by omega)]
    rw [hpre _ _ hi hi,aRE hm _ _ hi hi]
   rw [hw]
   exact k1
  ·simp only [hb,if_false]
   obtain ⟨W',hm'⟩ := h2 hb
   have hle : st.length ≤ (addP st i l (visG gl (flat nx ns l) s [] false).2.1).length := by
    unfold addP; split <;> simp
   have hget : ns = ((addP st i l (visG gl (flat nx ns l) s [] false).2.1).getD i default).ns := by
    rw [hns]
    unfold addP
    split
    ·rfl
    ·rw [oM hi]
   obtain ⟨g1,g2⟩ := ih (ds ++ [l]) _ _ W' hm' (by omega) (by rw [hls]; simp) hget
   exact ⟨g1,fun h => ⟨Nat.le_trans hle (g2 h).1,(g2 h).2⟩⟩
theorem aK3 (ha : Asc ls) (hnx : ∀ p c : Int,0 ≤ p → p < size → c ∈ ls → ∀ m ∈ nx p c,0 ≤ m ∧ m < size) (hst : ∀ n ∈ start,0 ≤ n ∧ n < size) : ∀ (j i : Nat) (s : List Bool) (st : List PStep) (W : Nat → List Int),Mid nx gl ls start size i [] s st W → i ≤ st.length → size + 1 ≤ i + j →
  ((outG nx gl ls j i (s,st)).1 = true → WN (Hits nx ls start gl) (kD (outG nx gl ls j i (s,st)).2.2 (outG nx gl ls j i (s,st)).2.2.length ((outG nx gl ls j i (s,st)).2.2.length - 1))) ∧
  ((outG nx gl ls j i (s,st)).1 ≠ true → ∀ w,¬ Hits nx ls start gl w) := by
 have fin : ∀ (i : Nat) (s : List Bool) (st : List PStep) (W : Nat → List Int),Mid nx gl ls start size i [] s st W → ¬ i < st.length → ∀ w,¬ Hits nx ls start gl w := by
  intro i s st W hm hi w
  have key : ∀ (q : Nat) (w : List Int),w.length = q → ∀ n,x6 nx ls start w n → Sn s n ∧ (0 ≤ n ∧ n < size) := by
   intro q
   induction q with
   | zero =>
    intro w hw n hc
    have : w = [] := List.length_eq_zero_iff.1 hw
    subst this
    have := KT.1 hc
    exact ⟨hm.begun n this,hst n this⟩
   | succ q ih =>
    intro w hw n hc
    rcases QP w with rfl | ⟨u,c,rfl⟩
    ·simp at hw
    obtain ⟨hcl,p,hp,hn⟩ := P8.1 hc
    obtain ⟨h1,h2⟩ := ih u (by simpa using hw) p hp
    obtain ⟨k,hk,hpk⟩ := hm.all p h2.1 h1
    exact ⟨hm.done k hk p hpk c hcl (.inl (by omega)) n hn,hnx p c h2.1 h2.2 hcl n hn⟩
  rintro ⟨u,hu,hg⟩
  obtain ⟨h1,h2⟩ := key w.length w rfl u hu
  rw [hm.none u h2.1 h1] at hg
  cases hg
 intro j
 induction j with
 | zero =>
  intro i s st W hm hi hj
  have := hm.room
  exfalso; omega
 | succ j ih =>
  intro i s st W hm hi hj
  simp only [outG]
  by_cases hlt : i < st.length
  ·simp only [hlt,if_true]
   obtain ⟨h1,h2⟩ := aIs (ns := (st.getD i default).ns) ha hnx hst ls [] s st W hm hlt rfl rfl
   by_cases hb : (ltG nx gl (st.getD i default).ns i ls (s,st)).1 = true
   ·simp only [hb,if_true]
    exact ⟨fun _ => h1 hb,fun h => (h rfl).elim⟩
   ·simp only [hb,if_false]
    obtain ⟨h3,W',hm'⟩ := h2 hb
    exact ih (i + 1) _ _ W' hm' (Nat.le_trans hlt h3) (by omega)
  ·rw [if_neg hlt]
   exact ⟨fun h => Bool.noConfusion h,fun _ => fin i s st W hm hlt⟩
theorem aRd (ha : Asc ls) (hnx : ∀ p c : Int,0 ≤ p → p < size → c ∈ ls → ∀ m ∈ nx p c,0 ≤ m ∧ m < size) (hst : ∀ n ∈ start,0 ≤ n ∧ n < size) (hne : start ≠ []) : LY (Hits nx ls start gl) (QW nx gl ls start size) := by
 have hz : ∀ n,¬ Sn (List.replicate size false) n := by
  intro n
  unfold Sn
  rw [List.getD_eq_getElem?_getD,List.getElem?_replicate]
  split <;> simp
 have hv := aB4 gl start (List.replicate size false) [] false fun n hn => by simpa using hst n hn
 unfold QW
 generalize visG gl start (List.replicate size false) [] false = r at *
 obtain ⟨s2,f,b⟩ := r
 have v1 : ∀ m,0 ≤ m → (Sn s2 m ↔ m ∈ start) := fun m hm => by have := hv.seen m hm; simp only [hz,false_or] at this; exact this
 have v2 : ∀ m,m ∈ f ↔ m ∈ start := fun m => by have := hv.new m; simpa [hz] using this
 have v3 : b = true ↔ ∃ m,m ∈ start ∧ gl m = true := by have := hv.hit; simpa [hz] using this
 have v4 : f.length + s2.count false = size := by have := hv.cnt; simpa using this
 have v5 : s2.length = size := by have := hv.len; simpa using this
 simp only
 by_cases hb : b = true
 ·rw [if_pos hb]
  obtain ⟨m,h1,h2⟩ := v3.1 hb
  refine .inl ⟨rfl,⟨m,KT.2 h1,h2⟩,fun x _ hx => ?_⟩
  rcases hx with hx | ⟨hx,hy⟩
  ·simp at hx
  ·have : x = [] := List.length_eq_zero_iff.1 (by simpa using hx)
   subst this
   exact hy
 ·rw [if_neg hb]
  have hf : f ≠ [] := by
   intro h
   apply hne
   cases start with
   | nil => rfl
   | cons a az =>
    have := (v2 a).2 List.mem_cons_self
    rw [h] at this; cases this
  have hfl : 0 < f.length := List.length_pos_iff.2 hf
  have hst1 : addP [] (-1) 0 f = [⟨-1,0,f⟩] := by unfold addP; rw [if_neg hf]; rfl
  rw [hst1]
  have hm : Mid nx gl ls start size 0 [] s2 [⟨-1,0,f⟩] (fun _ => []) := by
   refine ⟨v5,by simp; omega,?_,?_,?_,?_,?_,?_,?_,?_,?_⟩
   ·intro k hk
    obtain rfl : k = 0 := by simpa using hk
    show f.length ≤ size
    omega
   ·intro k hk
    obtain rfl : k = 0 := by simpa using hk
    exact .inl ⟨by show (-1 : Int) < 0; decide,rfl⟩
   ·intro k hk n hn
    obtain rfl : k = 0 := by simpa using hk
    have h1 := (v2 n).1 hn
    have h2 := hst n h1
    exact ⟨KT.2 h1,(v1 n h2.1).2 h1,h2⟩
   ·intro n hn hs
    exact ⟨0,by simp,(v2 n).2 ((v1 n hn).1 hs)⟩
   ·intro j k hjk hk
    simp at hk
    omega
   ·intro k hk n hn w hw hlt
    rcases hlt with h | ⟨h,h2⟩
    ·simp at h
    ·have : w = [] := List.length_eq_zero_iff.1 (by simpa using h)
     subst this
     exact h2
   ·intro n hn hs
    cases hg : gl n with
    | false => rfl
    | true => exact (hb (v3.2 ⟨n,(v1 n hn).1 hs,hg⟩)).elim
   ·intro n hn
    exact (v1 n (hst n hn).1).2 hn
   ·intro k hk p hp l hl hor m hmm
    obtain rfl : k = 0 := by simpa using hk
    rcases hor with h | ⟨_,h⟩
    ·omega
    ·cases h
  obtain ⟨g1,g2⟩ := aK3 ha hnx hst (size + 1) 0 s2 [⟨-1,0,f⟩] _ hm (by simp) (by omega)
  by_cases ho : (outG nx gl ls (size + 1) 0 (s2,[⟨-1,0,f⟩])).1 = true
  ·rw [if_pos ho]
   exact .inl ⟨rfl,g1 ho⟩
  ·rw [if_neg ho]
   exact .inr ⟨rfl,g2 ho⟩
end
end
def badQ (n : Int) (r : List Int) (i : Nat) : Bool := !(decide (0 ≤ r.getD i 0) && decide (r.getD i 0 < n))
def xC (w n : Int) (r : List Int) : Bool := !decide ((r.length : Int) = w) || (seek (badQ n r) r.length 0).isSome
def jX (w n : Int) (rs : List (List Int)) (i : Nat) : Bool := xC w n (rs.getD i [])
def iK (al : Int) (rs : List (List Int)) (ac : List Bool) : Bool :=
 o8 al && decide ((1 : Int) ≤ rs.length) && decide ((rs.length : Int) ≤ 12) && decide ((ac.length : Int) = rs.length) && (seek (jX (aC al).length rs.length rs) rs.length 0).isNone
theorem aF7 {w n : Int} {r : List Int} (h : ¬ (r.length : Int) = w) : xC w n r = true := by
 unfold xC
 rw [decide_eq_false h]
 rfl
theorem P6 {w n : Int} {r : List Int} (h : (r.length : Int) = w) : xC w n r = (seek (badQ n r) r.length 0).isSome := by
 unfold xC
 rw [decide_eq_true h]
 rfl
theorem MN {n : Int} {r : List Int} {i : Nat} : badQ n r i = true ↔ ¬ (0 ≤ r.getD i 0 ∧ r.getD i 0 < n) := by
 unfold badQ
 simp only [Bool.not_eq_true',Bool.and_eq_false_iff,decide_eq_false_iff_not]
 omega
theorem zT {n : Int} {r : List Int} {i : Nat} : badQ n r i = false ↔ (0 ≤ r.getD i 0 ∧ r.getD i 0 < n) := by
 unfold badQ
 simp only [Bool.not_eq_false',Bool.and_eq_true,decide_eq_true_eq]
theorem BF {R : Type} {L nn : Nat} (hn : 1 ≤ nn) {n : Int} {r : List Int} (hl : r.length ≤ 4294967296) {k : Exit → List A → H → Option R} : ∀ (j : Nat) (i : Int) (m : Nat) (h0 : 0 ≤ i) (hi : i + j = r.length) (hm : j < m),
  aO env (aA env L nn) L 0 [] (U1 (Z1 (U1 (Z2 (Z1 (U2 (Z16 (Z4 (Z2 (Z1 ([]))))))))))) (BQ 0) (Z1 (U1 (Z1 (U2 (U1 (Z2 (U16 (U4 (U2 (U1 ([]))))))))))) m (.d (.ivs r.length (ints r)) :: Y1 (.d (.int .i64 n) :: Y2 (Y1 (.d (.bool false) :: .d (.int .i64 i) :: Y16 (Y4 (Y2 (Y1 ([])))))))) [] k
  = match seek (badQ n r) j i.toNat with
   | none => k (.exit 0) (.d (.ivs r.length (ints r)) :: Y1 (.d (.int .i64 n) :: Y2 (Y1 (.d (.bool false) :: .d (.int .i64 (r.length)) :: Y16 (Y4 (Y2 (Y1 ([])))))))) []
   | some q => k .ret (.d (.ivs r.length (ints r)) :: Y1 (.d (.int .i64 n) :: Y2 (Y1 (.d (.bool false) :: .d (.int .i64 q) :: Y16 (Y4 (Y2 (Y1 ([])))))))) [] := by
 intro j
 induction j with
 | zero =>
  intro i m h0 hi hm
  obtain _ | m := m; omega
  obtain rfl : i = r.length := by omega
  rw [vH]
  simp only [xJ,Try.f80,SLM,simprocAttr]
  simp -implicitDefEqProofs (maxSteps := 2000000) (disch := try exact Dz) only [↓DN,↓kAsg,↓kRet,UP,simprocAttr,LA,Int.lt_irrefl]
  rfl
 | succ j ih =>
  intro i m h0 hi hm
  obtain _ | m := m; omega
  have hc : i < r.length := by omega
  have hk : i.toNat < r.length := by omega
  have e1 : (i + 1).toNat = i.toNat + 1 := by omega
  have e3 : ((i.toNat : Nat) : Int) = i := by omega
  by_cases h1 : r.getD i.toNat 0 < 0
  ·have hb : badQ n r i.toNat = true := by rw [MN]; omega
   rw [pU hb]
   rw [vH]
   simp only [xJ,Try.f80,SLM,simprocAttr]
   simp -implicitDefEqProofs (maxSteps := 2000000) (disch := try exact Dz) only [↓DN,↓kAsg,↓kRet,UP,simprocAttr,LA,cS,d6,hc,h1,e3]
  ·by_cases h2 : n ≤ r.getD i.toNat 0
   ·have hb : badQ n r i.toNat = true := by rw [MN]; omega
    rw [pU hb]
    rw [vH]
    simp only [xJ,Try.f80,SLM,simprocAttr]
    simp -implicitDefEqProofs (maxSteps := 2000000) (disch := try exact Dz) only [↓DN,↓kAsg,↓kRet,UP,simprocAttr,LA,cS,d6,hc,h1,h2,e3]
   ·have hb : badQ n r i.toNat = false := by rw [zT]; omega
    rw [uU hb]
    rw [vH]
    simp only [xJ,Try.f80,SLM,simprocAttr]
    simp -implicitDefEqProofs (maxSteps := 2000000) (disch := try exact Dz) only [↓DN,↓kAsg,↓kRet,UP,simprocAttr,LA,cS,d6,hc,h1,h2,↓ih,e1]
theorem aCn {L n : Nat} (hn : 2 ≤ n) (r : List Int) (w q : Int) (hl : r.length ≤ 4294967296) (hL : 2 ^ 60 ≤ L) : aA env L n 80 [.d (.ivs r.length (ints r)),.d (.int .i64 w),.d (.int .i64 q)] [] = some (.d (.bool (!xC w q r)),[]) := by
 unfold xC
 by_cases h1 : (r.length : Int) = w
 ·have loop_a := fun {R : Type} {n : Nat} (hn : 1 ≤ n) {k : Exit → List A → H → Option R} => BF (R := R) (L := L) (nn := n) hn (n := q) hl (k := k) r.length 0 L (by omega) (by omega) (by omega)
  simp only [Int.toNat_zero] at loop_a
  cases hs : seek (badQ q r) r.length 0 with
  | none =>
   rw [hs] at loop_a
   obtain _ | n := n; omega
   rw [QF]
   simp only [LS,Try.f80,SLM,simprocAttr]
   simp -implicitDefEqProofs (maxSteps := 2000000) (disch := try exact Dz) only [↓DN,↓kAsg,↓kRet,UP,simprocAttr,↓BF,LA,h1,↓loop_a,hs]
  | some z =>
   rw [hs] at loop_a
   obtain _ | n := n; omega
   rw [QF]
   simp only [LS,Try.f80,SLM,simprocAttr]
   simp -implicitDefEqProofs (maxSteps := 2000000) (disch := try exact Dz) only [↓DN,↓kAsg,↓kRet,UP,simprocAttr,↓BF,LA,h1,↓loop_a,hs]
 ·obtain _ | n := n; omega
  rw [QF]
  simp only [LS,Try.f80,SLM,simprocAttr]
  simp -implicitDefEqProofs (maxSteps := 2000000) (disch := try exact Dz) only [↓DN,↓kAsg,↓kRet,UP,simprocAttr,↓BF,LA,h1]
theorem nT {R : Type} {L n : Nat} {hq : H} {k : A → H → Option R} (hn : 2 ≤ n) (r : List Int) (w q : Int) (hl : r.length ≤ 4294967296) (hL : 2 ^ 60 ≤ L) : aM env (aA env L n) hq 80 [.d (.ivs r.length (ints r)),.d (.int .i64 w),.d (.int .i64 q)] k = k (.d (.bool (!xC w q r))) hq :=
 aX rfl (aCn hn r w q hl hL) rfl (.inl rfl)
theorem nX {R : Type} {L n : Nat} {k : A → Option R} (hn : 2 ≤ n) (r : List Int) (w q : Int) (hl : r.length ≤ 4294967296) (hL : 2 ^ 60 ≤ L) : bH (aA env L n) 80 [.d (.ivs r.length (ints r)),.d (.int .i64 w),.d (.int .i64 q)] k = k (.d (.bool (!xC w q r))) :=
 fB (aCn hn r w q hl hL) rfl
theorem kZ {R : Type} {L n : Nat} {hq : H} {k : A → H → Option R} {id0 g0 o0 len0 : Nat} {w q : Int} : aM env (aA env L n) hq 80 [.sl id0 g0 o0 len0,.d (.int .i64 w),.d (.int .i64 q)] k = match box (c7 hq [.sl id0 g0 o0 len0,.d (.int .i64 w),.d (.int .i64 q)]) with
  | .mk (some fs) => bH (aA env L n) 80 fs fun r => k r hq
  | _ => none := aW KD
theorem fV {R : Type} {L n : Nat} (hL : 2 ^ 60 ≤ L) (hn : 3 ≤ n) {al : Int} {rs : List (List Int)} {ac : List Bool} (hs : a7 rs) {k : Exit → List A → H → Option R} : ∀ (j : Nat) (i : Int) (m : Nat) (h0 : 0 ≤ i) (hi : i + j = rs.length) (hm : j < m),
  aO env (aA env L n) L 0 [] (Z1 (U4 (Z32 (Z4 (Z2 (Z1 ([]))))))) (mB 0) (U1 (Z4 (U32 (U4 (U2 (U1 ([]))))))) m (Y1 (.ptr 0 0 0 :: .d (.bool false) :: .d (.int .i64 (rs.length)) :: .d (.int .i64 i) :: Y32 (Y4 (Y2 (Y1 ([])))))) [.box [.d (.int .i64 al),.d (.ivs rs.length (aK rs)),.d (.ivs ac.length (aJ ac))]] k
  = match seek (jX (aC al).length rs.length rs) j i.toNat with
   | none => k (.exit 0) (Y1 (.ptr 0 0 0 :: .d (.bool false) :: .d (.int .i64 (rs.length)) :: .d (.int .i64 (rs.length)) :: Y32 (Y4 (Y2 (Y1 ([])))))) [.box [.d (.int .i64 al),.d (.ivs rs.length (aK rs)),.d (.ivs ac.length (aJ ac))]]
   | some q => k .ret (Y1 (.ptr 0 0 0 :: .d (.bool false) :: .d (.int .i64 (rs.length)) :: .d (.int .i64 q) :: Y32 (Y4 (Y2 (Y1 ([])))))) [.box [.d (.int .i64 al),.d (.ivs rs.length (aK rs)),.d (.ivs ac.length (aJ ac))]] := by
 intro j
 have hrl := hs.1
 have hll := eZ al
 induction j with
 | zero =>
  intro i m h0 hi hm
  obtain _ | m := m; omega
  obtain rfl : i = rs.length := by omega
  rw [o6]
  simp only [nW,Try.f41,SLM,simprocAttr]
  simp -implicitDefEqProofs (maxSteps := 2000000) (disch := try exact Dz) only [↓DN,↓kAsg,↓kRet,UP,simprocAttr,↓hZ,↓aV,↓nT,↓nX,↓kZ,LA,Int.lt_irrefl]
  rfl
 | succ j ih =>
  intro i m h0 hi hm
  obtain _ | m := m; omega
  have hc : i < rs.length := by omega
  have hk : i.toNat < rs.length := by omega
  have hrow := rM hs hk
  have e1 : (i + 1).toNat = i.toNat + 1 := by omega
  have e3 : ((i.toNat : Nat) : Int) = i := by omega
  cases hb : jX (aC al).length rs.length rs i.toNat with
  | true =>
   rw [pU hb]
   unfold jX at hb
   rw [o6]
   simp only [nW,Try.f41,SLM,simprocAttr]
   simp -implicitDefEqProofs (maxSteps := 2000000) (disch := try exact Dz) only [↓DN,↓kAsg,↓kRet,UP,simprocAttr,↓hZ,↓aV,↓nT,↓nX,↓kZ,LA,dH,dK,hc,hb,e3]
  | false =>
   rw [uU hb]
   unfold jX at hb
   rw [o6]
   simp only [nW,Try.f41,SLM,simprocAttr]
   simp -implicitDefEqProofs (maxSteps := 2000000) (disch := try exact Dz) only [↓DN,↓kAsg,↓kRet,UP,simprocAttr,↓hZ,↓aV,↓nT,↓nX,↓kZ,LA,dH,dK,hc,hb,↓ih,e1]
theorem CS {L n : Nat} (hn : 4 ≤ n) (al : Int) (rs : List (List Int)) (ac : List Bool) (hs : a7 rs) (ha : ac.length ≤ 4294967296) (hL : 2 ^ 60 ≤ L) : aA env L n 41 [.agg [.d (.int .i64 al),.d (.ivs rs.length (aK rs)),.d (.ivs ac.length (aJ ac))]] [] = some (.d (.bool (iK al rs ac)),[]) := by
 have hrl := hs.1
 have loop_a := fun {R : Type} {n : Nat} (hn : 3 ≤ n) {k : Exit → List A → H → Option R} => fV (R := R) (L := L) hL hn (al := al) (ac := ac) hs (k := k) rs.length 0 L (by omega) (by omega) (by omega)
 simp only [Int.toNat_zero] at loop_a
 unfold iK
 cases hq : o8 al with
 | false =>
  obtain _ | n := n; omega
  rw [jL]
  simp only [iN,Try.f41,SLM,simprocAttr]
  simp -implicitDefEqProofs (maxSteps := 2000000) (disch := try exact Dz) only [↓DN,↓kAsg,↓kRet,UP,simprocAttr,↓hZ,↓aV,↓nT,↓nX,↓kZ,↓fV,LA,hq,Bool.false_and]
 | true =>
  by_cases h1 : (1 : Int) ≤ rs.length
  ·have n1 : ¬ (rs.length : Int) < 1 := by omega
   by_cases h2 : (rs.length : Int) ≤ 12
   ·have n2 : ¬ (12 : Int) < rs.length := by omega
    by_cases h3 : (ac.length : Int) = rs.length
    ·cases hk : seek (jX (aC al).length rs.length rs) rs.length 0 with
     | none =>
      rw [hk] at loop_a
      obtain _ | n := n; omega
      rw [jL]
      simp only [iN,Try.f41,SLM,simprocAttr]
      simp -implicitDefEqProofs (maxSteps := 2000000) (disch := try exact Dz) only [↓DN,↓kAsg,↓kRet,UP,simprocAttr,↓hZ,↓aV,↓nT,↓nX,↓kZ,↓fV,LA,hq,h1,n1,h2,n2,h3,hk,↓loop_a]
     | some z =>
      rw [hk] at loop_a
      obtain _ | n := n; omega
      rw [jL]
      simp only [iN,Try.f41,SLM,simprocAttr]
      simp -implicitDefEqProofs (maxSteps := 2000000) (disch := try exact Dz) only [↓DN,↓kAsg,↓kRet,UP,simprocAttr,↓hZ,↓aV,↓nT,↓nX,↓kZ,↓fV,LA,hq,h1,n1,h2,n2,h3,hk,↓loop_a,Bool.and_false]
    ·obtain _ | n := n; omega
     rw [jL]
     simp only [iN,Try.f41,SLM,simprocAttr]
     simp -implicitDefEqProofs (maxSteps := 2000000) (disch := try exact Dz) only [↓DN,↓kAsg,↓kRet,UP,simprocAttr,↓hZ,↓aV,↓nT,↓nX,↓kZ,↓fV,LA,hq,h1,n1,h2,n2,h3,Bool.false_and,Bool.and_false]
   ·have n2 : (12 : Int) < rs.length := by omega
    obtain _ | n := n; omega
    rw [jL]
    simp only [iN,Try.f41,SLM,simprocAttr]
    simp -implicitDefEqProofs (maxSteps := 2000000) (disch := try exact Dz) only [↓DN,↓kAsg,↓kRet,UP,simprocAttr,↓hZ,↓aV,↓nT,↓nX,↓kZ,↓fV,LA,hq,h1,n1,h2,n2,Bool.false_and,Bool.and_false]
  ·have n1 : (rs.length : Int) < 1 := by omega
   obtain _ | n := n; omega
   rw [jL]
   simp only [iN,Try.f41,SLM,simprocAttr]
   simp -implicitDefEqProofs (maxSteps := 2000000) (disch := try exact Dz) only [↓DN,↓kAsg,↓kRet,UP,simprocAttr,↓hZ,↓aV,↓nT,↓nX,↓kZ,↓fV,LA,hq,h1,n1,Bool.false_and,Bool.and_false]
theorem hG {R : Type} {L n : Nat} {hq : H} {k : A → H → Option R} (hn : 4 ≤ n) (al : Int) (rs : List (List Int)) (ac : List Bool) (hs : a7 rs) (ha : ac.length ≤ 4294967296) (hL : 2 ^ 60 ≤ L) : aM env (aA env L n) hq 41 [.agg [.d (.int .i64 al),.d (.ivs rs.length (aK rs)),.d (.ivs ac.length (aJ ac))]] k = k (.d (.bool (iK al rs ac))) hq :=
 aX rfl (CS hn al rs ac hs ha hL) rfl (.inl rfl)
theorem hM {R : Type} {L n : Nat} {k : A → Option R} (hn : 4 ≤ n) (al : Int) (rs : List (List Int)) (ac : List Bool) (hs : a7 rs) (ha : ac.length ≤ 4294967296) (hL : 2 ^ 60 ≤ L) : bH (aA env L n) 41 [.agg [.d (.int .i64 al),.d (.ivs rs.length (aK rs)),.d (.ivs ac.length (aJ ac))]] k = k (.d (.bool (iK al rs ac))) :=
 fB (CS hn al rs ac hs ha hL) rfl
theorem f0 {R : Type} {L n : Nat} {hq : H} {k : A → H → Option R} {id0 g0 o0 len0 : Nat} {al : Int} {ac : List Bool} : aM env (aA env L n) hq 41 [.agg [.d (.int .i64 al),.sl id0 g0 o0 len0,.d (.ivs ac.length (aJ ac))]] k = match box (c7 hq [.agg [.d (.int .i64 al),.sl id0 g0 o0 len0,.d (.ivs ac.length (aJ ac))]]) with
  | .mk (some fs) => bH (aA env L n) 41 fs fun r => k r hq
  | _ => none := aW kA
theorem fZ {R : Type} {L n : Nat} {hq : H} {k : A → H → Option R} {id1 g1 o1 len1 : Nat} {al : Int} {rs : List (List Int)} : aM env (aA env L n) hq 41 [.agg [.d (.int .i64 al),.d (.ivs rs.length (aK rs)),.sl id1 g1 o1 len1]] k = match box (c7 hq [.agg [.d (.int .i64 al),.d (.ivs rs.length (aK rs)),.sl id1 g1 o1 len1]]) with
  | .mk (some fs) => bH (aA env L n) 41 fs fun r => k r hq
  | _ => none := aW kA
theorem fW {R : Type} {L n : Nat} {hq : H} {k : A → H → Option R} {id1 g1 o1 len1 : Nat} {id0 g0 o0 len0 : Nat} {al : Int} : aM env (aA env L n) hq 41 [.agg [.d (.int .i64 al),.sl id0 g0 o0 len0,.sl id1 g1 o1 len1]] k = match box (c7 hq [.agg [.d (.int .i64 al),.sl id0 g0 o0 len0,.sl id1 g1 o1 len1]]) with
  | .mk (some fs) => bH (aA env L n) 41 fs fun r => k r hq
  | _ => none := aW kA
theorem cX {R : Type} {L n : Nat} (hL : 2 ^ 60 ≤ L) (hn : 3 ≤ n) {al q w : Int} {rs : List (List Int)} {ac : List Bool} (hs : a7 rs) {r : List Int} (hr : r.length ≤ 4294967296) {k : Exit → List A → H → Option R} : ∀ (j : Nat) (i : Int) (m : Nat) (h0 : 0 ≤ i) (hi : i + j = r.length) (hm : j < m),
  aO env (aA env L n) L 0 [] (Z1 (U2 (U1 (Z32 (Z2 (U2 (U1 (Z4 (Z2 (Z1 (U2 (U1 (Z8 (Z4 (Z2 ([])))))))))))))))) (eK 1) (U1 (Z2 (Z1 (U32 (U2 (Z2 (Z1 (U4 (U2 (U1 (Z2 (Z1 (U8 (U4 (U2 ([])))))))))))))))) m (Y1 (.ptr 0 0 0 :: .d (.bool false) :: .d (.int .i64 w) :: Y32 (Y2 (.d (.ivs rs.length (aK rs)) :: .d (.int .i64 (rs.length)) :: .d (.int .i64 q) :: Y4 (Y2 (Y1 (.d (.ivs r.length (ints r)) :: .d (.int .i64 (r.length)) :: .d (.int .i64 i) :: Y8 (Y4 (Y2 ([])))))))))) [.box [.d (.int .i64 al),.d (.ivs rs.length (aK rs)),.d (.ivs ac.length (aJ ac))]] k
  = match seek (badQ rs.length r) j i.toNat with
   | none => k (.exit 2) (Y1 (.ptr 0 0 0 :: .d (.bool false) :: .d (.int .i64 w) :: Y32 (Y2 (.d (.ivs rs.length (aK rs)) :: .d (.int .i64 (rs.length)) :: .d (.int .i64 q) :: Y4 (Y2 (Y1 (.d (.ivs r.length (ints r)) :: .d (.int .i64 (r.length)) :: .d (.int .i64 (r.length)) :: Y8 (Y4 (Y2 ([])))))))))) [.box [.d (.int .i64 al),.d (.ivs rs.length (aK rs)),.d (.ivs ac.length (aJ ac))]]
   | some z => k .ret (Y1 (.ptr 0 0 0 :: .d (.bool false) :: .d (.int .i64 w) :: Y32 (Y2 (.d (.ivs rs.length (aK rs)) :: .d (.int .i64 (rs.length)) :: .d (.int .i64 q) :: Y4 (Y2 (Y1 (.d (.ivs r.length (ints r)) :: .d (.int .i64 (r.length)) :: .d (.int .i64 z) :: Y8 (Y4 (Y2 ([])))))))))) [.box [.d (.int .i64 al),.d (.ivs rs.length (aK rs)),.d (.ivs ac.length (aJ ac))]] := by
 intro j
 have hrl := hs.1
 induction j with
 | zero =>
  intro i m h0 hi hm
  obtain _ | m := m; omega
  obtain rfl : i = r.length := by omega
  rw [lT]
  simp only [kV,Try.f15,SLM,simprocAttr]
  simp -implicitDefEqProofs (maxSteps := 2000000) (disch := try exact Dz) only [↓DN,↓kAsg,↓kRet,UP,simprocAttr,↓dQ,↓bX,LA,Int.lt_irrefl]
  rfl
 | succ j ih =>
  intro i m h0 hi hm
  obtain _ | m := m; omega
  have hc : i < r.length := by omega
  have hk : i.toNat < r.length := by omega
  have e1 : (i + 1).toNat = i.toNat + 1 := by omega
  have e3 : ((i.toNat : Nat) : Int) = i := by omega
  by_cases h1 : r.getD i.toNat 0 < 0
  ·have hb : badQ rs.length r i.toNat = true := by rw [MN]; omega
   rw [pU hb]
   rw [lT]
   simp only [kV,Try.f15,SLM,simprocAttr]
   simp -implicitDefEqProofs (maxSteps := 2000000) (disch := try exact Dz) only [↓DN,↓kAsg,↓kRet,UP,simprocAttr,↓dQ,↓bX,LA,cS,d6,hc,h1,e3]
  ·by_cases h2 : (rs.length : Int) ≤ r.getD i.toNat 0
   ·have hb : badQ rs.length r i.toNat = true := by rw [MN]; omega
    rw [pU hb]
    rw [lT]
    simp only [kV,Try.f15,SLM,simprocAttr]
    simp -implicitDefEqProofs (maxSteps := 2000000) (disch := try exact Dz) only [↓DN,↓kAsg,↓kRet,UP,simprocAttr,↓dQ,↓bX,LA,cS,d6,hc,h1,h2,e3]
   ·have hb : badQ rs.length r i.toNat = false := by rw [zT]; omega
    rw [uU hb]
    rw [lT]
    simp only [kV,Try.f15,SLM,simprocAttr]
    simp -implicitDefEqProofs (maxSteps := 2000000) (disch := try exact Dz) only [↓DN,↓kAsg,↓kRet,UP,simprocAttr,↓dQ,↓bX,LA,cS,d6,hc,h1,h2,↓ih,e1]
theorem eQ {R : Type} {L n : Nat} (hL : 2 ^ 60 ≤ L) (hn : 3 ≤ n) {al : Int} {rs : List (List Int)} {ac : List Bool} (hs : a7 rs) {k : Exit → List A → H → Option R} : ∀ (j : Nat) (i : Int) (m : Nat) (h0 : 0 ≤ i) (hi : i + j = rs.length) (hm : j < m),
  aO env (aA env L n) L 0 [] (Z1 (U2 (U1 (Z32 (Z2 (U2 (U1 (Z4 (Z2 (Z1 (U2 (U1 (Z8 (Z4 (Z2 ([])))))))))))))))) (eK 0) (U1 (Z2 (Z1 (U32 (U2 (Z2 (Z1 (U16 (U8 ([])))))))))) m (Y1 (.ptr 0 0 0 :: .d (.bool false) :: .d (.int .i64 ((aC al).length)) :: Y32 (Y2 (.d (.ivs rs.length (aK rs)) :: .d (.int .i64 (rs.length)) :: .d (.int .i64 i) :: Y16 (Y8 ([])))))) [.box [.d (.int .i64 al),.d (.ivs rs.length (aK rs)),.d (.ivs ac.length (aJ ac))]] k
  = match seek (jX (aC al).length rs.length rs) j i.toNat with
   | none => k (.exit 0) (Y1 (.ptr 0 0 0 :: .d (.bool false) :: .d (.int .i64 ((aC al).length)) :: Y32 (Y2 (.d (.ivs rs.length (aK rs)) :: .d (.int .i64 (rs.length)) :: .d (.int .i64 (rs.length)) :: Y16 (Y8 ([])))))) [.box [.d (.int .i64 al),.d (.ivs rs.length (aK rs)),.d (.ivs ac.length (aJ ac))]]
   | some q => k .ret (Y1 (.ptr 0 0 0 :: .d (.bool false) :: .d (.int .i64 ((aC al).length)) :: Y32 (Y2 (.d (.ivs rs.length (aK rs)) :: .d (.int .i64 (rs.length)) :: .d (.int .i64 q) :: Y16 (Y8 ([])))))) [.box [.d (.int .i64 al),.d (.ivs rs.length (aK rs)),.d (.ivs ac.length (aJ ac))]] := by
 intro j
 have hrl := hs.1
 have hll := eZ al
 induction j with
 | zero =>
  intro i m h0 hi hm
  obtain _ | m := m; omega
  obtain rfl : i = rs.length := by omega
  rw [lS]
  simp only [kR,Try.f15,SLM,simprocAttr]
  simp -implicitDefEqProofs (maxSteps := 2000000) (disch := try exact Dz) only [↓DN,↓kAsg,↓kRet,UP,simprocAttr,↓dQ,↓bX,↓cX,LA,Int.lt_irrefl]
  rfl
 | succ j ih =>
  intro i m h0 hi hm
  obtain _ | m := m; omega
  have hc : i < rs.length := by omega
  have hk : i.toNat < rs.length := by omega
  have hrow := rM hs hk
  have e1 : (i + 1).toNat = i.toNat + 1 := by omega
  have e3 : ((i.toNat : Nat) : Int) = i := by omega
  have loop_a := fun {R : Type} {k : Exit → List A → H → Option R} => cX (R := R) (n := n) (L := L) hL hn (al := al) (q := i) (w := (aC al).length) (ac := ac) hs hrow (k := k) (rs.getD i.toNat []).length 0 L (by omega) (by omega) (by omega)
  simp only [Int.toNat_zero] at loop_a
  cases hb : jX (aC al).length rs.length rs i.toNat with
  | true =>
   rw [pU hb]
   unfold jX at hb
   by_cases hw : ((rs.getD i.toNat []).length : Int) = (aC al).length
   ·have hwd : decide (((rs.getD i.toNat []).length : Int) = (aC al).length) = true := decide_eq_true hw
    cases hz : seek (badQ rs.length (rs.getD i.toNat [])) (rs.getD i.toNat []).length 0 with
    | none => rw [P6 hw,hz] at hb; cases hb
    | some z =>
     rw [hz] at loop_a
     clear ih hb
     rw [lS]
     simp only [kR,Try.f15,SLM,simprocAttr]
     simp -implicitDefEqProofs (maxSteps := 2000000) (disch := try exact Dz) only [↓DN,↓kAsg,↓kRet,UP,simprocAttr,↓dQ,↓bX,↓cX,LA,dH,dK,hc,hwd,↓loop_a,e3]
   ·clear ih hb loop_a
    rw [lS]
    simp only [kR,Try.f15,SLM,simprocAttr]
    simp -implicitDefEqProofs (maxSteps := 2000000) (disch := try exact Dz) only [↓DN,↓kAsg,↓kRet,UP,simprocAttr,↓dQ,↓bX,↓cX,LA,dH,dK,hc,hw,e3]
  | false =>
   rw [uU hb]
   unfold jX at hb
   by_cases hw : ((rs.getD i.toNat []).length : Int) = (aC al).length
   ·have hwd : decide (((rs.getD i.toNat []).length : Int) = (aC al).length) = true := decide_eq_true hw
    cases hz : seek (badQ rs.length (rs.getD i.toNat [])) (rs.getD i.toNat []).length 0 with
    | none =>
     rw [hz] at loop_a
     clear hb
     rw [lS]
     simp only [kR,Try.f15,SLM,simprocAttr]
     simp -implicitDefEqProofs (maxSteps := 2000000) (disch := try exact Dz) only [↓DN,↓kAsg,↓kRet,UP,simprocAttr,↓dQ,↓bX,↓cX,LA,dH,dK,hc,hwd,↓loop_a,↓ih,e1]
    | some z => rw [P6 hw,hz] at hb; cases hb
   ·rw [aF7 hw] at hb; cases hb
theorem B7 {L n : Nat} (hn : 4 ≤ n) (al : Int) (rs : List (List Int)) (ac : List Bool) (hs : a7 rs) (ha : ac.length ≤ 4294967296) (hL : 2 ^ 60 ≤ L) : aA env L n 15 [.agg [.d (.int .i64 al),.d (.ivs rs.length (aK rs)),.d (.ivs ac.length (aJ ac))]] [] = some (.d (.bool (iK al rs ac)),[]) := by
 have hrl := hs.1
 have hll := eZ al
 have loop_a := fun {R : Type} {n : Nat} (hn : 3 ≤ n) {k : Exit → List A → H → Option R} => eQ (R := R) (L := L) hL hn (al := al) (ac := ac) hs (k := k) rs.length 0 L (by omega) (by omega) (by omega)
 simp only [Int.toNat_zero] at loop_a
 unfold iK
 cases hq : o8 al with
 | false =>
  obtain _ | n := n; omega
  rw [jN]
  simp only [iO,Try.f15,SLM,simprocAttr]
  simp -implicitDefEqProofs (maxSteps := 2000000) (disch := try exact Dz) only [↓DN,↓kAsg,↓kRet,UP,simprocAttr,↓dQ,↓bX,↓eQ,↓cX,LA,hq,Bool.false_and]
 | true =>
  by_cases h1 : (1 : Int) ≤ rs.length
  ·have n1 : ¬ (rs.length : Int) < 1 := by omega
   by_cases h2 : (rs.length : Int) ≤ 12
   ·have n2 : ¬ (12 : Int) < rs.length := by omega
    by_cases h3 : (ac.length : Int) = rs.length
    ·cases hk : seek (jX (aC al).length rs.length rs) rs.length 0 with
     | none =>
      rw [hk] at loop_a
      obtain _ | n := n; omega
      rw [jN]
      simp only [iO,Try.f15,SLM,simprocAttr]
      simp -implicitDefEqProofs (maxSteps := 2000000) (disch := try exact Dz) only [↓DN,↓kAsg,↓kRet,UP,simprocAttr,↓dQ,↓bX,↓eQ,↓cX,LA,hq,h1,n1,h2,n2,h3,hk,↓loop_a]
     | some z =>
      rw [hk] at loop_a
      obtain _ | n := n; omega
      rw [jN]
      simp only [iO,Try.f15,SLM,simprocAttr]
      simp -implicitDefEqProofs (maxSteps := 2000000) (disch := try exact Dz) only [↓DN,↓kAsg,↓kRet,UP,simprocAttr,↓dQ,↓bX,↓eQ,↓cX,LA,hq,h1,n1,h2,n2,h3,hk,↓loop_a,Bool.and_false]
    ·obtain _ | n := n; omega
     rw [jN]
     simp only [iO,Try.f15,SLM,simprocAttr]
     simp -implicitDefEqProofs (maxSteps := 2000000) (disch := try exact Dz) only [↓DN,↓kAsg,↓kRet,UP,simprocAttr,↓dQ,↓bX,↓eQ,↓cX,LA,hq,h1,n1,h2,n2,h3,Bool.false_and,Bool.and_false]
   ·have n2 : (12 : Int) < rs.length := by omega
    obtain _ | n := n; omega
    rw [jN]
    simp only [iO,Try.f15,SLM,simprocAttr]
    simp -implicitDefEqProofs (maxSteps := 2000000) (disch := try exact Dz) only [↓DN,↓kAsg,↓kRet,UP,simprocAttr,↓dQ,↓bX,↓eQ,↓cX,LA,hq,h1,n1,h2,n2,Bool.false_and,Bool.and_false]
  ·have n1 : (rs.length : Int) < 1 := by omega
   obtain _ | n := n; omega
   rw [jN]
   simp only [iO,Try.f15,SLM,simprocAttr]
   simp -implicitDefEqProofs (maxSteps := 2000000) (disch := try exact Dz) only [↓DN,↓kAsg,↓kRet,UP,simprocAttr,↓dQ,↓bX,↓eQ,↓cX,LA,hq,h1,n1,Bool.false_and,Bool.and_false]
theorem hJ {R : Type} {L n : Nat} {hq : H} {k : A → H → Option R} (hn : 4 ≤ n) (al : Int) (rs : List (List Int)) (ac : List Bool) (hs : a7 rs) (ha : ac.length ≤ 4294967296) (hL : 2 ^ 60 ≤ L) : aM env (aA env L n) hq 15 [.agg [.d (.int .i64 al),.d (.ivs rs.length (aK rs)),.d (.ivs ac.length (aJ ac))]] k = k (.d (.bool (iK al rs ac))) hq :=
 aX rfl (B7 hn al rs ac hs ha hL) rfl (.inl rfl)
theorem hU {R : Type} {L n : Nat} {k : A → Option R} (hn : 4 ≤ n) (al : Int) (rs : List (List Int)) (ac : List Bool) (hs : a7 rs) (ha : ac.length ≤ 4294967296) (hL : 2 ^ 60 ≤ L) : bH (aA env L n) 15 [.agg [.d (.int .i64 al),.d (.ivs rs.length (aK rs)),.d (.ivs ac.length (aJ ac))]] k = k (.d (.bool (iK al rs ac))) :=
 fB (B7 hn al rs ac hs ha hL) rfl
theorem f5 {R : Type} {L n : Nat} {hq : H} {k : A → H → Option R} {id0 g0 o0 len0 : Nat} {al : Int} {ac : List Bool} : aM env (aA env L n) hq 15 [.agg [.d (.int .i64 al),.sl id0 g0 o0 len0,.d (.ivs ac.length (aJ ac))]] k = match box (c7 hq [.agg [.d (.int .i64 al),.sl id0 g0 o0 len0,.d (.ivs ac.length (aJ ac))]]) with
  | .mk (some fs) => bH (aA env L n) 15 fs fun r => k r hq
  | _ => none := aW kC
theorem gA {R : Type} {L n : Nat} {hq : H} {k : A → H → Option R} {id1 g1 o1 len1 : Nat} {al : Int} {rs : List (List Int)} : aM env (aA env L n) hq 15 [.agg [.d (.int .i64 al),.d (.ivs rs.length (aK rs)),.sl id1 g1 o1 len1]] k = match box (c7 hq [.agg [.d (.int .i64 al),.d (.ivs rs.length (aK rs)),.sl id1 g1 o1 len1]]) with
  | .mk (some fs) => bH (aA env L n) 15 fs fun r => k r hq
  | _ => none := aW kC
theorem fX {R : Type} {L n : Nat} {hq : H} {k : A → H → Option R} {id1 g1 o1 len1 : Nat} {id0 g0 o0 len0 : Nat} {al : Int} : aM env (aA env L n) hq 15 [.agg [.d (.int .i64 al),.sl id0 g0 o0 len0,.sl id1 g1 o1 len1]] k = match box (c7 hq [.agg [.d (.int .i64 al),.sl id0 g0 o0 len0,.sl id1 g1 o1 len1]]) with
  | .mk (some fs) => bH (aA env L n) 15 fs fun r => k r hq
  | _ => none := aW kC
end Ev
end Go.Proofs.Ytppdfjdfjfoddaa
