/-
  Automata with exchanged aD: plain laws.
-/
import Derived.Test.YtppdfjdfjfoddaaDoorAutH
import Derived.Test.YtppdfjdfjfoddaaDoorWords
import Derived.Test.YtppdfjdfjfoddaaDoorPathY
import Derived.Test.YtppdfjdfjfoddaaDoorEvPrim
import Derived.Test.YtppdfjdfjfoddaaDoorAccess
import Derived.Test.YtppdfjdfjfoddaaDoorWrongA
import Derived.Tactics
set_option linter.unusedSimpArgs false
set_option linter.unusedVariables false
namespace Go.Proofs.YtppdfjdfjfoddaaDoor
namespace Ev
theorem XF {al:Int} {rs:List (List Int)} {ac:List Bool} (h:kM al rs ac = true) {i:Nat} (hi:i < rs.length):(rs.getD i []).length = (aD al).length ∧ ∀ j,j < (aD al).length → 0 ≤ (rs.getD i []).getD j 0 ∧ (rs.getD i []).getD j 0 < rs.length:=by
 have hw:=aEi (AV h) hi
 refine ⟨hw,?_⟩
 intro j hj
 unfold kM at h
 simp only [Bool.and_eq_true] at h
 have hb:=JG h.2 hi
 unfold mA at hb
 rw [aA8 (by omega)] at hb
 have:=JG (p:=badQ rs.length (rs.getD i [])) (n:=(rs.getD i []).length) (by cases hs:seek (badQ rs.length (rs.getD i [])) (rs.getD i []).length 0 with
  | none => rfl
  | some z => rw [hs] at hb; cases hb) (i:=j) (by omega)
 exact H5.1 this
theorem aHY {l:Int}:aGO l = true ↔ 0 ≤ l ∧ l < 6:=by unfold aGO; simp
def stGo (al:Int) (rs:List (List Int)) (w:List UInt8) (q:Int):Int:=w.foldl (fun q b => goI al rs q (ltr b)) q
theorem VW {al:Int} {w:List UInt8} (hw:u4 al w = true):pA al = true ∧ w.length ≤ 50000 ∧ ∀ b ∈ w,okB b = true ∧ iM al (ltr b) = true:=by
 unfold u4 at hw
 simp only [Bool.and_eq_true,decide_eq_true_eq] at hw
 refine ⟨hw.1.1,hw.1.2,?_⟩
 intro b hb
 have:=List.all_eq_true.1 hw.2 b hb
 unfold inB at this
 simpa only [Bool.and_eq_true] using this

section
def goS (a:Aut) (v l:Int):Int:=goI a.al a.nx v l
def rowA (a:Aut) (v:Int):List Int:=a.nx.getD v.toNat []
theorem aKC {a:Aut} (h:AOK a):∀ v l:Int,0 ≤ v → v < a.nx.length → l ∈ aD a.al → 0 ≤ goS a v l ∧ goS a v l < a.nx.length:=by
 intro v l h0 h1 hl
 have:=lX l hl
 exact wM h h0 h1 this.1 (by omega)
theorem aLS {al:Int} {k:Nat} (hk:k < (aD al).length):m9 al (aD al)[k] = k:=by
 obtain ⟨⟨h0,h1⟩,hb⟩:=qT.1 (List.getElem_mem hk)
 obtain ⟨h2,h3⟩:=FN h0 h1 hb
 rw [List.getElem?_eq_getElem h2] at h3
 exact (List.getElem_inj (S7 al)).1 (Option.some.inj h3)
theorem aKm {a:Aut} (h:AOK a) {v:Int} (h0:0 ≤ v) (h1:v < a.nx.length):(aD a.al).map (goS a v) = rowA a v:=by
 have hl:=(XF h (i:=v.toNat) (by omega)).1
 apply List.ext_getElem
 ·rw [List.length_map]; exact hl.symm
 ·intro k g1 g2
  rw [List.length_map] at g1
  rw [List.getElem_map]
  unfold goS
  rw [aD7 (qT.1 (List.getElem_mem g1)).2,aLS g1]
  show (rowA a v).getD k 0 = _
  rw [List.getD_eq_getElem?_getD,List.getElem?_eq_getElem g2]
  rfl
section
variable {a:Aut} {W:Nat → List Int}
theorem aSo {q:Nat} {out:List Int} (hq:q < out.length):out.getD q 0 ∈ out:=by
 rw [List.getD_eq_getElem?_getD,List.getElem?_eq_getElem hq]
 exact List.getElem_mem hq
end
section
variable {a:Aut} {W:Nat → List Int}
end
end
section
theorem M8 {α:Type} [DecidableEq α]:∀ {l m:List α},l.Nodup → (∀ x ∈ l,x ∈ m) → l.length ≤ m.length
 | [],m,_,_ => by simp
 | a :: l,m,h,hs => by
  obtain ⟨h1,h2⟩:=List.nodup_cons.1 h
  have ha:a ∈ m:=hs a List.mem_cons_self
  have:=M8 (l:=l) (m:=m.erase a) h2 fun x hx => by
   have hne:x ≠ a:=by rintro rfl; exact h1 hx
   exact (List.mem_erase_of_ne hne).2 (hs x (List.mem_cons_of_mem _ hx))
  rw [List.length_erase_of_mem ha] at this
  have hp:0 < m.length:=List.length_pos_of_mem ha
  simp only [List.length_cons]
  omega
section
variable {α β:Type} [DecidableEq α] [DecidableEq β]
abbrev idxG (o:List α) (x:α):Nat:=o.idxOf x
theorem aF5 (o:List α) (x y:α):idxG (y :: o) x = if y = x then 0 else idxG o x + 1:=by
 unfold idxG
 rw [List.idxOf_cons]
 by_cases h:y = x
 ·simp [h]
 ·have h2:(y == x) = false:=by rw [beq_eq_false_iff_ne]; exact h
  rw [h2,if_neg h]; rfl
theorem aSg {o:List α} {x:α} (h:x ∈ o):idxG o x < o.length:=List.idxOf_lt_length_of_mem h
def addG (o:List α) (x:α):List α:=if x ∈ o then o else o ++ [x]
def bG (l:List α):List α:=l.foldl addG []
def numL (l:List α):List Int:=l.map fun x => ((bG l).idxOf x:Nat)
theorem qR (l:List α) (x:α):bG (l ++ [x]) = addG (bG l) x:=by
 unfold bG
 rw [List.foldl_append]; rfl
theorem aPk {o:List α} {x y:α}:y ∈ addG o x ↔ y ∈ o ∨ y = x:=by
 unfold addG
 split
 ·constructor
  ·exact .inl
  ·rintro (h | rfl)
   ·exact h
   ·assumption
 ·simp
omit [DecidableEq α] in
theorem aGM (l:List α):l = [] ∨ ∃ u x,l = u ++ [x]:=by
 rcases List.eq_nil_or_concat l with h | ⟨u,x,h⟩
 ·exact .inl h
 ·exact .inr ⟨u,x,by rw [h]; simp⟩
theorem aLc:∀ (c:Nat) (l:List α),l.length = c → ∀ x,x ∈ bG l ↔ x ∈ l:=by
 intro c
 induction c with
 | zero =>
  intro l hl x
  have:l = []:=List.length_eq_zero_iff.1 hl
  subst this
  simp [bG]
 | succ c ih =>
  intro l hl x
  rcases aGM l with rfl | ⟨u,y,rfl⟩
  ·simp at hl
  ·rw [qR,aPk,ih u (by simpa using hl) x]; simp
theorem eH {l:List α} {x:α}:x ∈ bG l ↔ x ∈ l:=aLc _ l rfl x
theorem aGv:∀ (c:Nat) (l:List α),l.length = c → (bG l).Nodup:=by
 intro c
 induction c with
 | zero =>
  intro l hl
  have:l = []:=List.length_eq_zero_iff.1 hl
  subst this
  simp [bG]
 | succ c ih =>
  intro l hl
  rcases aGM l with rfl | ⟨u,y,rfl⟩
  ·simp at hl
  ·rw [qR]
   have h:=ih u (by simpa using hl)
   unfold addG
   split
   ·exact h
   ·rename_i hin
    rw [List.nodup_append]
    refine ⟨h,by simp,fun a ha b hb => ?_⟩
    simp only [List.mem_singleton] at hb
    subst hb
    rintro rfl
    exact hin ha
theorem JU (l:List α):(bG l).Nodup:=aGv _ l rfl
theorem SS (l:List α):(bG l).length ≤ l.length:=M8 (JU l) fun x hx => eH.1 hx
theorem RR (l:List α):(numL l).length = l.length:=List.length_map _
theorem KN {l:List α} {i:Nat} (hi:i < l.length):(numL l).getD i 0 = ((bG l).idxOf l[i]:Nat):=by
 unfold numL
 rw [List.getD_eq_getElem?_getD,List.getElem?_map,List.getElem?_eq_getElem hi]; rfl
theorem aLi {l:List α} {x:α} (h:x ∈ l):(bG l).idxOf x < (bG l).length:=List.idxOf_lt_length_of_mem (eH.2 h)
theorem aPO {l:List α} {i:Nat} (hi:i < l.length):0 ≤ (numL l).getD i 0 ∧ (numL l).getD i 0 < (bG l).length:=by
 rw [KN hi]
 have:=aLi (List.getElem_mem hi)
 omega
theorem aSN {l:List α} {x y:α} (hx:x ∈ l) (h:l.idxOf x = l.idxOf y) (hy:y ∈ l):x = y:=by
 have h1:=List.getElem_idxOf (List.idxOf_lt_length_of_mem hx)
 have h2:=List.getElem_idxOf (List.idxOf_lt_length_of_mem hy)
 rw [← h1,← h2]
 simp only [h]
theorem aKb {l:List α} {i j:Nat} (hi:i < l.length) (hj:j < l.length):(numL l).getD i 0 = (numL l).getD j 0 ↔ l[i] = l[j]:=by
 rw [KN hi,KN hj]
 constructor
 ·intro h
  exact aSN (eH.2 (List.getElem_mem hi)) (by omega) (eH.2 (List.getElem_mem hj))
 ·intro h; rw [h]
theorem NL (l:List α) (x:α):numL (l ++ [x]) = numL l ++ [((idxG (addG (bG l) x) x:Nat):Int)]:=by
 unfold numL
 rw [qR,List.map_append]
 congr 1
 apply List.map_congr_left
 intro y hy
 have hy2:=eH.2 hy
 unfold addG
 split
 ·rfl
 ·rw [List.idxOf_append,if_pos hy2]
theorem aBv (o:List α) (x:α):(addG o x).idxOf x = if x ∈ o then o.idxOf x else o.length:=by
 unfold addG
 by_cases h:x ∈ o
 ·rw [if_pos h,if_pos h]
 ·rw [if_neg h,if_neg h,List.idxOf_append,if_neg h]; simp
theorem aR2 {o:List α} {x:α} (h:x ∈ o):addG o x = o:=if_pos h
theorem aID {o:List α} {x:α} (h:x ∉ o):addG o x = o ++ [x]:=if_neg h
theorem aPA {o:List α} {x:α} (h:x ∉ o):idxG (o ++ [x]) x = o.length:=by
 have:=aBv o x
 rw [if_neg h,aID h] at this
 exact this
theorem aHI (o:List α) (x:α):(addG o x).length = if x ∈ o then o.length else o.length + 1:=by
 unfold addG
 split <;> simp
def aGN (l:List α) (m:List β):Prop:=l.length = m.length ∧ ∀ i j (hi:i < l.length) (hj:j < l.length) (hi':i < m.length) (hj':j < m.length),l[i] = l[j] ↔ m[i] = m[j]
theorem aLH:∀ (c:Nat) (l:List α) (m:List β),l.length = c → aGN l m → numL l = numL m ∧ (bG l).length = (bG m).length:=by
 intro c
 induction c with
 | zero =>
  intro l m hl h
  have h1:l = []:=List.length_eq_zero_iff.1 hl
  have h2:m = []:=List.length_eq_zero_iff.1 (by rw [← h.1,hl])
  subst h1; subst h2
  simp [numL,bG]
 | succ c ih =>
  intro l m hl h
  rcases aGM l with rfl | ⟨u,x,rfl⟩
  ·simp at hl
  rcases aGM m with rfl | ⟨v,y,rfl⟩
  ·have:=h.1; simp at this
  obtain ⟨h1,h2⟩:=h
  have hlen:u.length = v.length:=by simpa using h1
  have hs:aGN u v:=⟨hlen,fun i j hi hj hi' hj' => by
   have:=h2 i j (by simp; omega) (by simp; omega) (by simp; omega) (by simp; omega)
   rw [List.getElem_append_left hi,List.getElem_append_left hj,List.getElem_append_left hi',List.getElem_append_left hj'] at this
   exact this⟩
  obtain ⟨e1,e2⟩:=ih u v (by simpa using hl) hs
  have hat:∀ i (hi:i < u.length) (hi':i < v.length),u[i] = x ↔ v[i] = y:=fun i hi hi' => by
   have:=h2 i u.length (by simp; omega) (by simp) (by simp; omega) (by simp; omega)
   rw [List.getElem_append_left hi,List.getElem_append_left hi'] at this
   have e1:(u ++ [x])[u.length]'(by simp) = x:=by simp
   have e2:(v ++ [y])[u.length]'(by simp; omega) = y:=by simp [hlen]
   rw [e1,e2] at this
   exact this
  have hmem:x ∈ u ↔ y ∈ v:=by
   constructor
   ·intro hx
    obtain ⟨i,hi,e⟩:=List.getElem_of_mem hx
    rw [← (hat i hi (by omega)).1 e]
    exact List.getElem_mem _
   ·intro hy
    obtain ⟨i,hi,e⟩:=List.getElem_of_mem hy
    rw [← (hat i (by omega) hi).2 e]
    exact List.getElem_mem _
  have hidx:(addG (bG u) x).idxOf x = (addG (bG v) y).idxOf y:=by
   rw [aBv,aBv]
   by_cases hx:x ∈ u
   ·have hy:=hmem.1 hx
    rw [if_pos (eH.2 hx),if_pos (eH.2 hy)]
    obtain ⟨i,hi,e⟩:=List.getElem_of_mem hx
    have e':=(hat i hi (by omega)).1 e
    have k1:=KN hi
    have k2:=KN (l:=v) (i:=i) (by omega)
    rw [e] at k1
    rw [e'] at k2
    rw [e1] at k1
    omega
   ·have hy:¬ y ∈ v:=fun hy => hx (hmem.2 hy)
    rw [if_neg fun hh => hx (eH.1 hh),if_neg fun hh => hy (eH.1 hh),e2]
  refine ⟨by rw [NL,NL,e1]; show _ = _ ++ [(((addG (bG v) y).idxOf y:Nat):Int)]; rw [← hidx],?_⟩
  rw [qR,qR,aHI,aHI,e2]
  by_cases hx:x ∈ u
  ·rw [if_pos (eH.2 hx),if_pos (eH.2 (hmem.1 hx))]
  ·rw [if_neg fun hh => hx (eH.1 hh),if_neg fun hh => hx (hmem.2 (eH.1 hh))]
theorem aAJ {l:List α} {m:List β} (h:aGN l m):numL l = numL m ∧ (bG l).length = (bG m).length:=aLH _ l m rfl h
theorem aLA {l:List α} {f:α → β} (h:(bG l).length ≤ (bG (l.map f)).length) {x y:α} (hx:x ∈ l) (hy:y ∈ l) (e:f x = f y):x = y:=by
 apply Classical.byContradiction
 intro hne
 have hy2:=eH.2 hy
 have hx2:=eH.2 hx
 have hs:∀ z ∈ bG (l.map f),z ∈ ((bG l).erase y).map f:=by
  intro z hz
  obtain ⟨w,hw,rfl⟩:=List.mem_map.1 (eH.1 hz)
  by_cases hwy:w = y
  ·subst hwy
   exact List.mem_map.2 ⟨x,(List.mem_erase_of_ne hne).2 hx2,e⟩
  ·exact List.mem_map.2 ⟨w,(List.mem_erase_of_ne hwy).2 (eH.2 hw),rfl⟩
 have h1:=M8 (JU (l.map f)) hs
 rw [List.length_map,List.length_erase_of_mem hy2] at h1
 have hp:0 < (bG l).length:=List.length_pos_of_mem hy2
 omega
theorem TV (l:List α) (f:α → β):(bG (l.map f)).length ≤ (bG l).length:=by
 have h1:=M8 (l:=bG (l.map f)) (m:=(bG l).map f) (JU (l.map f)) fun z hz => by
  obtain ⟨w,hw,rfl⟩:=List.mem_map.1 (eH.1 hz)
  exact List.mem_map.2 ⟨w,eH.2 hw,rfl⟩
 rw [List.length_map] at h1
 exact h1
end
end
end Ev
end Go.Proofs.YtppdfjdfjfoddaaDoor
