/-
  The exact laws' own functions, at automata: sizes, marks, what is held, copies.
-/
import Derived.Test.YtejmccgfigiadaaGreatBlock
import Derived.Test.YtejmccgfigiadaaGreatSortLayX
import Derived.Test.YtejmccgfigiadaaGreatAutoL
import Derived.Tactics
set_option linter.unusedSimpArgs false
set_option linter.unusedVariables false
set_option maxRecDepth 8000
set_option maxHeartbeats 4000000
namespace Go.Proofs.YtejmccgfigiadaaGreat
namespace Ev
def rowsLen (rs:List (List Int)):Prop:=rs.length ≤ 9223372036854775807 ∧ ∀ r ∈ rs,r.length ≤ 9223372036854775807
theorem aPF {rs:List (List Int)} (h:rowsLen rs) {k:Nat} (hk:k < rs.length):(rs.getD k []).length ≤ 9223372036854775807:=by
 rw [List.getD_eq_getElem?_getD,List.getElem?_eq_getElem hk]
 exact h.2 _ (List.getElem_mem hk)
def szN (left:Int) (n:Nat):Int:=if left < n then -1 else left - n
def kQ:List (List Int) → Int → Int
 | [],l => l
 | r :: rs,l => if l < r.length then -1 else kQ rs (l - r.length)
def szAt:List (List Int) → Int → Nat
 | [],_ => 0
 | r :: rs,l => if l < r.length then 0 else szAt rs (l - r.length) + 1
def szSS (rs:List (List Int)) (left:Int):Int:=if left < rs.length then -1 else kQ rs (left - rs.length)
def szA (rs:List (List Int)) (ac:List Bool) (left:Int):Int:=if szSS rs left < 0 then -1 else szN (szSS rs left) ac.length
theorem aFT:∀ (rs:List (List Int)) (l:Int),kQ rs l < 0 → 0 ≤ l → kQ rs l = -1
 | [],l,h,h0 => by simp only [kQ] at h; omega
 | r :: rs,l,h,h0 => by
  simp only [kQ] at h ⊢
  split
  ·rfl
  ·rename_i hc
   rw [if_neg hc] at h
   exact aFT rs _ h (by omega)
theorem aA2:∀ (rs:List (List Int)) (l:Int),0 ≤ l → kQ rs l ≤ l
 | [],l,h => by simp [kQ]
 | r :: rs,l,h => by
  simp only [kQ]
  split
  ·omega
  ·have:=aA2 rs (l - r.length) (by omega); omega
theorem aGE:∀ (rs:List (List Int)) (l:Int),0 ≤ kQ rs l → ∀ r ∈ rs,(r.length:Int) ≤ l
 | [],l,h,r,hr => by cases hr
 | q :: rs,l,h,r,hr => by
  simp only [kQ] at h
  split at h
  ·omega
  ·rename_i hc
   rcases List.mem_cons.1 hr with h1 | h1
   ·subst h1; omega
   ·have:=aGE rs _ h r h1; omega
theorem aKM {L n:Nat} (hn:1 ≤ n) (l:List Int) (left:Int) (hl:l.length ≤ 9223372036854775807) (h0:0 ≤ left) (h1:left ≤ 4294967296):aA env L n 80 [.d (.ivs l.length (ints l)),nI left] [] = some (nI (szN left l.length),[]):=by
 unfold szN
 by_cases h:left < l.length
 ·have h2:left - (l.length:Int) < 0:=by omega
  obtain _ | n:=n; omega
  rw [aJt]
  simp only [aFq,Tryz.f80,SLM,simprocAttr]
  simp -implicitDefEqProofs (maxSteps:=2000000) (disch:=try exact Dz) only [↓DN,↓kAsg,↓kRet,UP,simprocAttr,LA,h,h2]
 ·have h2:¬ left - (l.length:Int) < 0:=by omega
  obtain _ | n:=n; omega
  rw [aJt]
  simp only [aFq,Tryz.f80,SLM,simprocAttr]
  simp -implicitDefEqProofs (maxSteps:=2000000) (disch:=try exact Dz) only [↓DN,↓kAsg,↓kRet,UP,simprocAttr,LA,h,h2]
theorem CK {L:Nat} (l:List Int) (left:Int) (hl:l.length ≤ 9223372036854775807) (h0:0 ≤ left) (h1:left ≤ 4294967296):KC 1 L 80 [.d (.ivs l.length (ints l)),nI left] (nI (szN left l.length)):=ks rfl (fun hn => aKM hn l left hl h0 h1) rfl (.inl rfl)
theorem CE {L:Nat} (l:List Int) (left:Int) (hl:l.length ≤ 9223372036854775807) (h0:0 ≤ left) (h1:left ≤ 4294967296):KT 1 L 80 [.d (.ivs l.length (ints l)),nI left] (nI (szN left l.length)):=fun hn => bY (aKM hn l left hl h0 h1) rfl
theorem vA {L:Nat} {id0 g0 o0 len0:Nat} {left:Int}:KV L 80 [.sl id0 g0 o0 len0,nI left]:=aF TB
theorem aHR {L n:Nat} (hn:1 ≤ n) (l:List Bool) (left:Int) (hl:l.length ≤ 9223372036854775807) (h0:0 ≤ left) (h1:left ≤ 4294967296):aA env L n 40 [.d (.ivs l.length (bools l)),nI left] [] = some (nI (szN left l.length),[]):=by
 unfold szN
 by_cases h:left < l.length
 ·have h2:left - (l.length:Int) < 0:=by omega
  obtain _ | n:=n; omega
  rw [aFZ]
  simp only [aA0,Tryz.f40,SLM,simprocAttr]
  simp -implicitDefEqProofs (maxSteps:=2000000) (disch:=try exact Dz) only [↓DN,↓kAsg,↓kRet,UP,simprocAttr,LA,h,h2]
 ·have h2:¬ left - (l.length:Int) < 0:=by omega
  obtain _ | n:=n; omega
  rw [aFZ]
  simp only [aA0,Tryz.f40,SLM,simprocAttr]
  simp -implicitDefEqProofs (maxSteps:=2000000) (disch:=try exact Dz) only [↓DN,↓kAsg,↓kRet,UP,simprocAttr,LA,h,h2]
theorem XE {L:Nat} (l:List Bool) (left:Int) (hl:l.length ≤ 9223372036854775807) (h0:0 ≤ left) (h1:left ≤ 4294967296):KC 1 L 40 [.d (.ivs l.length (bools l)),nI left] (nI (szN left l.length)):=ks rfl (fun hn => aHR hn l left hl h0 h1) rfl (.inl rfl)
theorem XR {L:Nat} (l:List Bool) (left:Int) (hl:l.length ≤ 9223372036854775807) (h0:0 ≤ left) (h1:left ≤ 4294967296):KT 1 L 40 [.d (.ivs l.length (bools l)),nI left] (nI (szN left l.length)):=fun hn => bY (aHR hn l left hl h0 h1) rfl
theorem PQ {L:Nat} {id0 g0 o0 len0:Nat} {left:Int}:KV L 40 [.sl id0 g0 o0 len0,nI left]:=aF PS
theorem PY {R:Type} {L n:Nat} (hn:2 ≤ n) {rs:List (List Int)} (hs:rowsLen rs) {k:Exit → List A → H → Option R}:∀ (i left:Int) (m:Nat) (h0:0 ≤ i) (hi:i ≤ rs.length) (hm:(rs.length:Int) - i < m) (hl0:0 ≤ left) (hl1:left ≤ 4294967296),
  aJ env (aA env L n) L 0 [] Bz19 (D4 0) Bz53 m (.d (.ivs rs.length (rowsD rs)) :: nI left :: Y2 (nI 0 :: nI i :: Y16 (Y4 (Y1 ([]))))) [] k
  = if kQ (rs.drop i.toNat) left < 0 then k .ret (.d (.ivs rs.length (rowsD rs)) :: nI (-1) :: Y2 (nI (-1) :: nI (i + szAt (rs.drop i.toNat) left) :: Y16 (Y4 (Y1 ([]))))) [] else k (.exit 0) (.d (.ivs rs.length (rowsD rs)) :: nI (kQ (rs.drop i.toNat) left) :: Y2 (nI 0 :: nI (rs.length) :: Y16 (Y4 (Y1 ([]))))) []:=by
 intro i left m h0 hi hm hl0 hl1
 have hrl:=hs.1
 obtain ⟨j,hj⟩:∃ j:Nat,(j:Int) = (rs.length:Int) - i:=⟨((rs.length:Int) - i).toNat,by omega⟩
 induction j generalizing i left m with
 | zero =>
  obtain _ | m:=m; omega
  obtain rfl:i = rs.length:=by omega
  have e0:¬ left < 0:=by omega
  rw [G3]
  simp only [IQ,Tryz.f39,SLM,simprocAttr]
  simp -implicitDefEqProofs (maxSteps:=2000000) (disch:=try exact Dz) only [↓DN,↓kAsg,↓kRet,UP,simprocAttr,↓CK,↓CE,↓vA,LA,Int.lt_irrefl]
  simp only [Int.toNat_natCast,List.drop_length,kQ,e0,if_false]
 | succ j ih =>
  obtain _ | m:=m; omega
  have hc:i < rs.length:=by omega
  have hk:i.toNat < rs.length:=by omega
  have hrow:=aPF hs hk
  have e1:(i + 1).toNat = i.toNat + 1:=by omega
  rw [dB hk (d:=[])]
  by_cases hz:left < (rs.getD i.toNat []).length
  ·have hz1:szN left (rs.getD i.toNat []).length = -1:=by unfold szN; rw [if_pos hz]
   rw [G3]
   simp only [IQ,Tryz.f39,SLM,simprocAttr]
   simp -implicitDefEqProofs (maxSteps:=2000000) (disch:=try exact Dz) only [↓DN,↓kAsg,↓kRet,UP,simprocAttr,↓CK,↓CE,↓vA,LA,jQ,kF,hc,hz1]
   simp only [kQ,szAt,hz,if_true,Int.natCast_zero,Int.add_zero]
   rfl
  ·have hz1:szN left (rs.getD i.toNat []).length = left - (rs.getD i.toNat []).length:=by unfold szN; rw [if_neg hz]
   have hz2:¬ left - ((rs.getD i.toNat []).length:Int) < 0:=by omega
   rw [G3]
   simp only [IQ,Tryz.f39,SLM,simprocAttr]
   simp -implicitDefEqProofs (maxSteps:=2000000) (disch:=try exact Dz) only [↓DN,↓kAsg,↓kRet,UP,simprocAttr,↓CK,↓CE,↓vA,LA,jQ,kF,hc,hz1,hz2,↓ih]
   simp only [kQ,szAt,hz,if_false,e1,Int.natCast_add,Int.add_assoc,Int.add_comm 1]
   rfl
theorem aGC {L n:Nat} (hn:3 ≤ n) (rs:List (List Int)) (left:Int) (hs:rowsLen rs) (h0:0 ≤ left) (h1:left ≤ 4294967296) (hL:2 ^ 60 ≤ L):aA env L n 39 [.d (.ivs rs.length (rowsD rs)),nI left] [] = some (nI (szSS rs left),[]):=by
 have hrl:=hs.1
 unfold szSS
 by_cases h:left < rs.length
 ·have h2:left - (rs.length:Int) < 0:=by omega
  obtain _ | n:=n; omega
  rw [V1]
  simp only [SG,Tryz.f39,SLM,simprocAttr]
  simp -implicitDefEqProofs (maxSteps:=2000000) (disch:=try exact Dz) only [↓DN,↓kAsg,↓kRet,UP,simprocAttr,↓CK,↓CE,↓vA,↓PY,LA,h,h2]
 ·have h2:¬ left - (rs.length:Int) < 0:=by omega
  by_cases h3:kQ rs (left - rs.length) < 0
  ·have h4:=aFT _ _ h3 (by omega)
   obtain _ | n:=n; omega
   rw [V1]
   simp only [SG,Tryz.f39,SLM,simprocAttr]
   simp -implicitDefEqProofs (maxSteps:=2000000) (disch:=try exact Dz) only [↓DN,↓kAsg,↓kRet,UP,simprocAttr,↓CK,↓CE,↓vA,↓PY,LA,h,h2,h3,h4,Int.toNat_zero,List.drop_zero]
  ·obtain _ | n:=n; omega
   rw [V1]
   simp only [SG,Tryz.f39,SLM,simprocAttr]
   simp -implicitDefEqProofs (maxSteps:=2000000) (disch:=try exact Dz) only [↓DN,↓kAsg,↓kRet,UP,simprocAttr,↓CK,↓CE,↓vA,↓PY,LA,h,h2,h3,Int.toNat_zero,List.drop_zero]
theorem XK {L:Nat} (rs:List (List Int)) (left:Int) (hs:rowsLen rs) (h0:0 ≤ left) (h1:left ≤ 4294967296) (hL:2 ^ 60 ≤ L):KC 3 L 39 [.d (.ivs rs.length (rowsD rs)),nI left] (nI (szSS rs left)):=ks rfl (fun hn => aGC hn rs left hs h0 h1 hL) rfl (.inl rfl)
theorem WX {L:Nat} (rs:List (List Int)) (left:Int) (hs:rowsLen rs) (h0:0 ≤ left) (h1:left ≤ 4294967296) (hL:2 ^ 60 ≤ L):KT 3 L 39 [.d (.ivs rs.length (rowsD rs)),nI left] (nI (szSS rs left)):=fun hn => bY (aGC hn rs left hs h0 h1 hL) rfl
theorem N7 {L:Nat} {id0 g0 o0 len0:Nat} {left:Int}:KV L 39 [.sl id0 g0 o0 len0,nI left]:=aF N0
theorem TT {L n:Nat} (hn:4 ≤ n) (al:Int) (rs:List (List Int)) (ac:List Bool) (left:Int) (hs:rowsLen rs) (ha:ac.length ≤ 9223372036854775807) (h0:0 ≤ left) (h1:left ≤ 4294967296) (hL:2 ^ 60 ≤ L):aA env L n 12 [.agg [nI al,.d (.ivs rs.length (rowsD rs)),.d (.ivs ac.length (bools ac))],nI left] [] = some (nI (szA rs ac left),[]):=by
 unfold szA
 by_cases h:szSS rs left < 0
 ·obtain _ | n:=n; omega
  rw [HK]
  simp only [A9,Tryz.f12,SLM,simprocAttr]
  simp -implicitDefEqProofs (maxSteps:=2000000) (disch:=try exact Dz) only [↓DN,↓kAsg,↓kRet,UP,simprocAttr,↓XK,↓XE,↓WX,↓XR,↓N7,↓PQ,LA,h]
 ·have h5:szSS rs left ≤ left:=by
   unfold szSS at h ⊢
   split
   ·omega
   ·have:=aA2 rs (left - rs.length) (by omega); omega
  have h6:0 ≤ szSS rs left:=by omega
  have h7:szSS rs left ≤ 4294967296:=by omega
  clear h5
  by_cases h2:szN (szSS rs left) ac.length < 0
  ·have h3:szN (szSS rs left) ac.length = -1:=by
    unfold szN at h2 ⊢
    split
    ·rfl
    ·rename_i hc; rw [if_neg hc] at h2; omega
   obtain _ | n:=n; omega
   rw [HK]
   simp only [A9,Tryz.f12,SLM,simprocAttr]
   simp -implicitDefEqProofs (maxSteps:=2000000) (disch:=try exact Dz) only [↓DN,↓kAsg,↓kRet,UP,simprocAttr,↓XK,↓XE,↓WX,↓XR,↓N7,↓PQ,LA,h,h2,h3]
  ·obtain _ | n:=n; omega
   rw [HK]
   simp only [A9,Tryz.f12,SLM,simprocAttr]
   simp -implicitDefEqProofs (maxSteps:=2000000) (disch:=try exact Dz) only [↓DN,↓kAsg,↓kRet,UP,simprocAttr,↓XK,↓XE,↓WX,↓XR,↓N7,↓PQ,LA,h,h2]
theorem H0 {L:Nat} (al:Int) (rs:List (List Int)) (ac:List Bool) (left:Int) (hs:rowsLen rs) (ha:ac.length ≤ 9223372036854775807) (h0:0 ≤ left) (h1:left ≤ 4294967296) (hL:2 ^ 60 ≤ L):KC 4 L 12 [.agg [nI al,.d (.ivs rs.length (rowsD rs)),.d (.ivs ac.length (bools ac))],nI left] (nI (szA rs ac left)):=ks rfl (fun hn => TT hn al rs ac left hs ha h0 h1 hL) rfl (.inl rfl)
theorem HN {L:Nat} (al:Int) (rs:List (List Int)) (ac:List Bool) (left:Int) (hs:rowsLen rs) (ha:ac.length ≤ 9223372036854775807) (h0:0 ≤ left) (h1:left ≤ 4294967296) (hL:2 ^ 60 ≤ L):KT 4 L 12 [.agg [nI al,.d (.ivs rs.length (rowsD rs)),.d (.ivs ac.length (bools ac))],nI left] (nI (szA rs ac left)):=fun hn => bY (TT hn al rs ac left hs ha h0 h1 hL) rfl
theorem BX {L:Nat} {id0 g0 o0 len0:Nat} {al:Int} {ac:List Bool} {left:Int}:KV L 12 [.agg [nI al,.sl id0 g0 o0 len0,.d (.ivs ac.length (bools ac))],nI left]:=aF pM
theorem BS {L:Nat} {id1 g1 o1 len1:Nat} {al:Int} {rs:List (List Int)} {left:Int}:KV L 12 [.agg [nI al,.d (.ivs rs.length (rowsD rs)),.sl id1 g1 o1 len1],nI left]:=aF pM
theorem BJ {L:Nat} {id1 g1 o1 len1:Nat} {id0 g0 o0 len0:Nat} {al:Int} {left:Int}:KV L 12 [.agg [nI al,.sl id0 g0 o0 len0,.sl id1 g1 o1 len1],nI left]:=aF pM
theorem aKr {rs:List (List Int)} {ac:List Bool} (h:¬ szA rs ac 1048576 < 0):rs.length ≤ 1048576 ∧ (∀ r ∈ rs,r.length ≤ 1048576) ∧ ac.length ≤ 1048576:=by
 unfold szA at h
 split at h
 ·omega
 ·rename_i h1
  unfold szSS at h h1
  split at h1
  ·omega
  ·rename_i h2
   rw [if_neg h2] at h
   have h3:=aA2 rs (1048576 - rs.length) (by omega)
   unfold szN at h
   split at h
   ·omega
   ·refine ⟨by omega,fun r hr => ?_,by omega⟩
    have:=aGE rs (1048576 - rs.length) (by omega) r hr
    omega
def J5:Nat → Int → List Bool
 | 0,_ => []
 | j + 1,k => decide (k.tmod 3 = 0) :: J5 j (k + 1)
def oN:List (List Int) → Int → List (List Int)
 | [],_ => []
 | r :: rs,k => xU r.length k :: oN rs (k + r.length)
def aG:List (List Int) → Nat
 | [] => 0
 | r :: rs => r.length + aG rs
theorem MK:∀ (rs:List (List Int)) (k:Int),(oN rs k).length = rs.length
 | [],_ => rfl
 | r :: rs,k => by simp [oN,MK rs]
theorem S7:∀ (rs:List (List Int)) (k:Int),(oN rs k).map List.length = rs.map List.length
 | [],_ => rfl
 | r :: rs,k => by simp [oN,S7 rs,aFU]
section
theorem aJu {h:H}:∀ (n:Nat) (todo acc:List Nat),(∀ i ∈ todo,i ∈ acc) → aD n h todo acc = acc
 | 0,_,_,_ => rfl
 | n + 1,[],_,_ => rfl
 | n + 1,i :: todo,acc,hs => by
  have hc:acc.contains i = true:=by simpa using hs i (by simp)
  simp only [aD,hc,if_true]
  exact aJu n todo acc fun j hj => hs j (by simp [hj])
mutual
theorem aSv {nf:Nat} {h:H}:∀ a:A,(∀ i ∈ idsA a,i < nf) → dM nf h a = a
 | .d x,_ => by simp only [dM]
 | .sl id gen off len,hi => by simp only [dM,EJ]; rw [if_pos (hi id (by simp [idsA]))]
 | .ptr id gen off,hi => by simp only [dM,VQ]; rw [if_pos (hi id (by simp [idsA]))]
 | .mp id,hi => by simp only [dM]
 | .clo g caps,hi => by simp only [dM]; rw [uA caps (by simpa only [idsA] using hi)]
 | .agg cs,hi => by simp only [dM]; rw [uA cs (by simpa only [idsA] using hi)]
 | .tup cs,hi => by simp only [dM]; rw [uA cs (by simpa only [idsA] using hi)]
 | .junk,_ => by simp only [dM]
theorem uA {nf:Nat} {h:H}:∀ xs:List A,(∀ i ∈ idsL xs,i < nf) → dD nf h xs = xs
 | [],_ => by simp only [dD]
 | a :: xs,hi => by
  simp only [idsL,List.mem_append] at hi
  simp only [dD]
  rw [aSv a fun i h => hi i (.inl h),uA xs fun i h => hi i (.inr h)]
end
theorem aBg {nf:Nat} {h:H}:∀ (os:H) (i:Nat),i + os.length ≤ nf → (∀ o ∈ os,∀ j ∈ kJ o,j < nf) → gF nf h i os = os
 | [],_,_,_ => by simp only [gF]
 | o :: os,i,hl,hk => by
  simp only [List.length_cons] at hl
  simp only [gF]
  rw [aBg os (i + 1) (by omega) fun o ho => hk o (by simp [ho])]
  congr 1
  have hko:=hk o (by simp)
  cases o with
  | arr cs e g => simp only [cW]; rw [if_pos (by omega)]
  | ice cs e g => simp only [cW]; rw [if_pos (by omega)]
  | box cs => simp only [cW]; rw [uA cs hko]
  | vec cs e g => simp only [cW]; rw [uA cs hko,if_pos (by omega)]
  | log cs => simp only [cW]
  | mp es => simp only [cW]
  | void => simp only [cW]
theorem aJ5 {n i:Nat} (h:i < n):aH (List.range n) i = some i:=by
 rw [List.range_eq_range']
 have:=zW n 0 i h
 simpa using this
theorem aVC {f:Nat → Option Nat} {o:O} (h:∀ i ∈ kJ o,f i = some i):mapO f o = o:=by
 cases o with
 | box cs => simp only [mapO]; rw [qW cs h]
 | vec cs e g => simp only [mapO]; rw [qW cs h]
 | _ => rfl
theorem aVm {h h2:H} (hk:∀ o ∈ h,∀ j ∈ kJ o,j < h.length):pack (h ++ h2) (List.range h.length) = h:=by
 apply List.ext_getElem?
 intro i
 rw [XC]
 by_cases hi:i < h.length
 ·rw [List.getElem?_range hi]
  simp only [Option.map_some,List.getD_eq_getElem?_getD,List.getElem?_append_left hi,List.getElem?_eq_getElem hi,Option.getD_some]
  rw [aVC fun j hj => aJ5 (hk _ (List.getElem_mem hi) j hj)]
 ·rw [List.getElem?_eq_none (by simpa using hi),List.getElem?_eq_none (by omega)]
  rfl
theorem MR:∀ {h:H} {i:Nat},i ∈ jG h → ∃ o ∈ h,i ∈ kJ o
 | [],i,hi => by simp [jG] at hi
 | o :: h,i,hi => by
  cases o with
  | box cs =>
   simp only [jG,List.mem_append] at hi
   rcases hi with hi | hi
   ·exact ⟨.box cs,by simp,hi⟩
   ·obtain ⟨o,ho,hk⟩:=MR hi; exact ⟨o,by simp [ho],hk⟩
  | vec cs e g =>
   simp only [jG,List.mem_append] at hi
   rcases hi with hi | hi
   ·exact ⟨.vec cs e g,by simp,hi⟩
   ·obtain ⟨o,ho,hk⟩:=MR hi; exact ⟨o,by simp [ho],hk⟩
  | _ =>
   simp only [jG] at hi
   obtain ⟨o,ho,hk⟩:=MR hi
   exact ⟨o,by simp [ho],hk⟩
section
variable {h h2:H} {nf:Nat} (hn:nf = h.length) (hk:∀ o ∈ h,∀ j ∈ kJ o,j < nf)
include hn hk
theorem aKe {ids:List Nat} (hi:∀ i ∈ ids,i < nf):eV nf (h ++ h2) ids = List.range nf:=by
 unfold eV
 subst hn
 rw [List.take_left]
 apply aJu
 intro i hm
 rw [List.mem_range]
 rcases List.mem_append.1 hm with h1 | h1
 ·obtain ⟨o,ho,hj⟩:=MR h1
  exact hk o ho i hj
 ·exact hi i h1
theorem aKA {s:List A} (hi:∀ i ∈ idsL s,i < nf):trim nf (h ++ h2) (List.range nf) s = (s,h):=by
 unfold trim
 subst hn
 rw [aVm hk,qW s fun i h1 => aJ5 (hi i h1),uA s hi]
 unfold mO
 rw [aBg h 0 (by omega) hk]
theorem aNI {ids:List Nat} (hi:∀ i ∈ ids,i < nf):eV nf h ids = List.range nf:=by
 have:=aKe (h2:=[]) hn hk hi
 rwa [List.append_nil] at this
theorem aL0 {s:List A} (hi:∀ i ∈ idsL s,i < nf):trim nf h (List.range nf) s = (s,h):=by
 have:=aKA (h2:=[]) hn hk hi
 rwa [List.append_nil] at this
theorem aYO {m:List Bool} {s:List A} (hi:∀ i ∈ idsL (tidy m s),i < nf):gc nf m s h = (tidy m s,h):=by
 unfold gc
 rw [aNI hn hk hi,aL0 hn hk hi]
end
theorem aKU {d:List (List Int)}:∀ o ∈ a6 d,kJ o = []:=by
 intro o ho
 simp only [a6,List.mem_map] at ho
 obtain ⟨r,_,rfl⟩:=ho
 rfl
theorem aHZ {b:Nat} {rs d:List (List Int)} {nf:Nat} (hb:b + rs.length ≤ nf):∀ o ∈ (O.vec (aQ b rs ++ aZ 0) 1 0 :: a6 d),∀ j ∈ kJ o,j < nf:=by
 intro o ho j hj
 rcases List.mem_cons.1 ho with h1 | h1
 ·subst h1
  simp only [kJ,kN,kZ,mE,List.append_nil,List.mem_range'_1] at hj
  omega
 ·rw [aKU o h1] at hj; cases hj
theorem aOH {b:Nat} {rs d:List (List Int)} {cs:List D} {nf:Nat} (hb:b + rs.length ≤ nf):∀ o ∈ (O.vec (aQ b rs ++ aZ 0) 1 0 :: .arr cs 1 0 :: a6 d),∀ j ∈ kJ o,j < nf:=by
 intro o ho j hj
 rcases List.mem_cons.1 ho with h1 | h1
 ·subst h1
  simp only [kJ,kN,kZ,mE,List.append_nil,List.mem_range'_1] at hj
  omega
 ·rcases List.mem_cons.1 h1 with h2 | h2
  ·subst h2; cases hj
  ·rw [aKU o h2] at hj; cases hj
theorem aLz {rs d:List (List Int)} {nf:Nat} {m:List Bool} {s:List A} (hl:d.length = rs.length) (hn:nf = rs.length + 1):gc nf m s (.vec (aQ 1 rs ++ aZ 0) 1 0 :: a6 d) = match box (tidy m s) with
  | .mk s1 => if idsL s1 = [0] then (s1,.vec (aQ 1 rs ++ aZ 0) 1 0 :: a6 d) else gcO nf m s (.vec (aQ 1 rs ++ aZ 0) 1 0 :: a6 d)
  | .no => ([],[]):=by
 simp only [box]
 split
 ·rename_i hc
  exact aYO (by simp [cB,hl,hn]) (aHZ (by omega)) (by rw [hc]; intro i hi; simp at hi; omega)
 ·rfl
theorem aYX {rs:List (List Int)} {m:List Bool} {s:List A}:gc (O.vec (aQ 1 rs ++ aZ 0) 1 0 :: a6 rs).length m s (.vec (aQ 1 rs ++ aZ 0) 1 0 :: a6 rs) = match box (tidy m s) with
  | .mk s1 => if idsL s1 = [0] then (s1,.vec (aQ 1 rs ++ aZ 0) 1 0 :: a6 rs) else gcO (O.vec (aQ 1 rs ++ aZ 0) 1 0 :: a6 rs).length m s (.vec (aQ 1 rs ++ aZ 0) 1 0 :: a6 rs)
  | .no => ([],[]):=aLz rfl (by simp [cB])
theorem aYp {rs d:List (List Int)} {nf:Nat} {ids:List Nat} (hl:d.length = rs.length) (hn:nf = rs.length + 1):eV nf (.vec (aQ 1 rs ++ aZ 0) 1 0 :: a6 d) ids = if ids = [] then List.range nf else aLA nf (.vec (aQ 1 rs ++ aZ 0) 1 0 :: a6 d) ids:=by
 split
 ·rename_i h; subst h
  exact aNI (by simp [cB,hl,hn]) (aHZ (by omega)) (by simp)
 ·rfl
theorem aYs {rs d:List (List Int)} {nf n2:Nat} {s:List A} (hl:d.length = rs.length) (hn:nf = rs.length + 1) (hn2:n2 = rs.length + 1):trim nf (.vec (aQ 1 rs ++ aZ 0) 1 0 :: a6 d) (List.range n2) s = if idsL s = [] then (s,.vec (aQ 1 rs ++ aZ 0) 1 0 :: a6 d) else aLy nf (.vec (aQ 1 rs ++ aZ 0) 1 0 :: a6 d) (List.range n2) s:=by
 obtain rfl:n2 = nf:=by omega
 split
 ·rename_i h
  exact aL0 (by simp [cB,hl,hn]) (aHZ (by omega)) (by simp [h])
 ·rfl
theorem aX8 {rs d:List (List Int)} {cs:List D} {p:H} {nf:Nat} {ids:List Nat} (hl:d.length = rs.length) (hn:nf = rs.length + 2):eV nf (.vec (aQ 2 rs ++ aZ 0) 1 0 :: .arr cs 1 0 :: (a6 d ++ p)) ids = if ids = [] then List.range nf else aLA nf (.vec (aQ 2 rs ++ aZ 0) 1 0 :: .arr cs 1 0 :: (a6 d ++ p)) ids:=by
 split
 ·rename_i h; subst h
  exact aKe (h:=.vec (aQ 2 rs ++ aZ 0) 1 0 :: .arr cs 1 0 :: a6 d) (h2:=p) (by simp [cB,hl,hn]) (aOH (by omega)) (by simp)
 ·rfl
theorem aYm {rs d:List (List Int)} {cs:List D} {p:H} {nf n2:Nat} {s:List A} (hl:d.length = rs.length) (hn:nf = rs.length + 2) (hn2:n2 = rs.length + 2):trim nf (.vec (aQ 2 rs ++ aZ 0) 1 0 :: .arr cs 1 0 :: (a6 d ++ p)) (List.range n2) s = if idsL s = [] then (s,.vec (aQ 2 rs ++ aZ 0) 1 0 :: .arr cs 1 0 :: a6 d) else aLy nf (.vec (aQ 2 rs ++ aZ 0) 1 0 :: .arr cs 1 0 :: (a6 d ++ p)) (List.range n2) s:=by
 obtain rfl:n2 = nf:=by omega
 split
 ·rename_i h
  exact aKA (h:=.vec (aQ 2 rs ++ aZ 0) 1 0 :: .arr cs 1 0 :: a6 d) (h2:=p) (by simp [cB,hl,hn]) (aOH (by omega)) (by simp [h])
 ·rfl
theorem aMS {d:List (List Int)} {o:O} {p:H} {k:Nat} (h:k = d.length):(a6 d ++ o :: p)[k]? = some o:=by
 rw [List.getElem?_append_right (by rw [cB]; omega),cB,h,Nat.sub_self]
 rfl
theorem aJP {b k:Nat}:∀ {rs:List (List Int)} {b k:Nat},k < rs.length → ((aQ b rs ++ aZ 0).drop k).head? = some (.sl (b + k) 0 0 (rs.getD k []).length)
 | [],b,k,h => by simp at h
 | r :: rs,b,0,h => by simp [aQ]
 | r :: rs,b,k + 1,h => by
  simp only [aQ,List.cons_append,List.drop_succ_cons]
  rw [aJP (b:=b) (k:=k) (by simpa using h)]
  simp only [List.getD_cons_succ]
  congr 2
  omega
theorem aPI {rs:List (List Int)} {k:Nat} (h:k < rs.length):((aQ 1 rs ++ aZ 0).drop k).head? = some (.sl (k + 1) 0 0 (rs.getD k []).length):=by
 rw [aJP (b:=0) (k:=0) h,Nat.add_comm]
theorem aEL {d:List (List Int)} {k:Nat} (h:k < d.length):(a6 d)[k]? = some (.arr (ints (d.getD k [])) 1 0):=by
 rw [List.getD_eq_getElem?_getD,List.getElem?_eq_getElem h]
 exact qM (List.getElem?_eq_getElem h)
theorem aUD {d:List (List Int)} {k:Nat} {r:List Int}:(a6 d).set k (.arr (ints r) 1 0) = a6 (d.set k r):=by
 unfold a6
 rw [List.map_set]
 rfl
theorem T0 {R:Type} {L n nf:Nat} (hn:2 ≤ n) (hL:2 ^ 60 ≤ L) {rs:List (List Int)} (hs:a8 rs) (hnf:nf = rs.length + 1) {k:Exit → List A → H → Option R}:∀ (i c:Int) (m:Nat) (d:List (List Int)) (len:Nat) (h0:0 ≤ i) (hi:i ≤ rs.length) (hm:(rs.length:Int) - i < m) (hd:d.length = rs.length) (hd2:d.drop i.toNat = rs.drop i.toNat) (hlen:len = rs.length) (hc0:0 ≤ c) (hc1:c + aG (rs.drop i.toNat) ≤ 100000000000),
  aJ env (aA env L n) L (nf) [] Bz12 (sP 0) Bz32 m (.sl 0 0 0 len :: nI c :: Y2 (nI 0 :: nI i :: Y8 (Y4 (Y1 ([]))))) (.vec (aQ 1 rs ++ aZ 0) 1 0 :: a6 d) k
  = k (.exit 0) (.sl 0 0 0 rs.length :: nI (c + aG (rs.drop i.toNat)) :: Y2 (nI 0 :: nI (rs.length) :: Y8 (Y4 (Y1 ([]))))) (.vec (aQ 1 rs ++ aZ 0) 1 0 :: a6 (d.take i.toNat ++ oN (rs.drop i.toNat) c)):=by
 intro i c m d len h0 hi hm hd hd2 hlen hc0 hc1
 have hrl:=hs.1
 obtain ⟨j,hj⟩:∃ j:Nat,(j:Int) = (rs.length:Int) - i:=⟨((rs.length:Int) - i).toNat,by omega⟩
 induction j generalizing i c m d len with
 | zero =>
  obtain _ | m:=m; omega
  obtain rfl:i = rs.length:=by omega
  have e1:d.take rs.length = d:=List.take_of_length_le (by omega)
  rw [PT]
  simp only [K6,Tryz.f55,SLM,simprocAttr]
  simp -implicitDefEqProofs (maxSteps:=2000000) (disch:=try exact Dz) only [↓DN,↓kAsg,↓kRet,UP,simprocAttr,↓SR,LA,Int.lt_irrefl,↓aLz,hlen]
  simp only [Int.toNat_natCast,List.drop_length,oN,List.append_nil,e1,aG,Int.natCast_zero,Int.add_zero]
 | succ j ih =>
  obtain _ | m:=m; omega
  subst hlen
  have hc:i < rs.length:=by omega
  have hk:i.toNat < rs.length:=by omega
  have hkd:i.toNat < d.length:=by omega
  have hrow:=BU hs hk
  have e1:(i + 1).toNat = i.toNat + 1:=by omega
  have e2:=dB hk (d:=([]:List Int))
  have e3:=dB hkd (d:=([]:List Int))
  rw [e2,e3,List.cons.injEq] at hd2
  rw [e2,aG] at hc1
  have hg:(O.vec (aQ 1 rs ++ aZ 0) 1 0 :: a6 d)[i.toNat + 1]? = some (.arr (ints (rs.getD i.toNat [])) 1 0):=by rw [List.getElem?_cons_succ,aEL hkd,hd2.1]
  have hset:(d.set i.toNat (xU (rs.getD i.toNat []).length c)).length = rs.length:=by simp [hd]
  have hset2:(d.set i.toNat (xU (rs.getD i.toNat []).length c)).drop (i + 1).toNat = rs.drop (i + 1).toNat:=by
   rw [e1,← hd2.2,List.drop_set_of_lt (by omega)]
  have hq0:0 ≤ c + ((rs.getD i.toNat []).length:Int):=by omega
  have hq1:c + ((rs.getD i.toNat []).length:Int) + aG (rs.drop (i + 1).toNat) ≤ 100000000000:=by rw [e1]; omega
  have hq2:c ≤ 100000000000:=by omega
  rw [PT]
  simp only [K6,Tryz.f55,SLM,simprocAttr]
  simp -implicitDefEqProofs (maxSteps:=2000000) (disch:=try exact Dz) only [↓DN,↓kAsg,↓kRet,UP,simprocAttr,↓SR,LA,jQ,kF,hc,aPI,aUD,↓aLz,↓ih,List.getElem?_cons_succ,List.set_cons_succ]
  rw [e1,e2,CS hkd]
  simp only [oN,aG,Int.natCast_add,Int.add_assoc]
theorem aBv {R:Type} {L n nf m:Nat} (hn:2 ≤ n) (hL:2 ^ 60 ≤ L) {rs:List (List Int)} (hs:a8 rs) (hnf:nf = rs.length + 1) {k:Exit → List A → H → Option R} (c:Int) (hm:rs.length < m) (hc0:0 ≤ c) (hc1:c + aG rs ≤ 100000000000) :
  aJ env (aA env L n) L (nf) [] Bz12 (sP 0) Bz32 m (.sl 0 0 0 rs.length :: nI c :: Y2 (nI 0 :: nI 0 :: Y8 (Y4 (Y1 ([]))))) (.vec (aQ 1 rs ++ aZ 0) 1 0 :: a6 rs) k
  = k (.exit 0) (.sl 0 0 0 rs.length :: nI (c + aG rs) :: Y2 (nI 0 :: nI (rs.length) :: Y8 (Y4 (Y1 ([]))))) (.vec (aQ 1 rs ++ aZ 0) 1 0 :: a6 (oN rs c)):=by
 have h:=T0 (R:=R) (L:=L) (n:=n) hn hL hs hnf (k:=k) 0 c m rs rs.length (by omega) (by omega) (by omega) rfl rfl rfl hc0 (by simpa using hc1)
 simpa using h
theorem aM5 {L n:Nat} (hn:3 ≤ n) (rs:List (List Int)) (c:Int) (hs:a8 rs) (hc0:0 ≤ c) (hc1:c + aG rs ≤ 100000000000) (hL:2 ^ 60 ≤ L):aA env L n 55 [.sl 0 0 0 rs.length,nI c] (.vec (aQ 1 rs ++ aZ 0) 1 0 :: a6 rs) = some (nI (c + aG rs),.vec (aQ 1 rs ++ aZ 0) 1 0 :: a6 (oN rs c)):=by
 have hrl:=hs.1
 have hml:=MK rs c
 have hro:=cB rs
 obtain _ | n:=n; omega
 rw [aMl]
 simp only [aC3,Tryz.f55,SLM,simprocAttr]
 simp -implicitDefEqProofs (maxSteps:=2000000) (disch:=try exact Dz) only [↓DN,↓kAsg,↓kRet,UP,simprocAttr,↓SR,↓T0,LA,cB,↓aLz,↓aYX,↓aBv,↓aYp,↓aYs,hml]
theorem aIs {R:Type} {L n:Nat} {k:Exit → List A → H → Option R}:∀ (i c:Int) (m:Nat) (o:List Bool) (len:Nat) (h0:0 ≤ i) (hi:i ≤ len) (hm:(len:Int) - i < m) (ho:o.length = len) (hl:len ≤ 4294967296) (hc0:0 ≤ c) (hc1:c + ((len:Int) - i) ≤ 1000000000000),
  aJ env (aA env L n) L 1 [] Bz41 (x5 0) (Z2 (U2 (Z2 (U8 (U4 (U2 (U1 ([])))))))) m (.sl 0 0 0 len :: nI c :: Y2 (nI 0 :: nI i :: Y8 (Y4 (Y2 (Y1 ([])))))) [.arr (bools o) 1 0] k
  = k (.exit 0) (.sl 0 0 0 len :: nI (c + ((len:Int) - i)) :: Y2 (nI 0 :: nI len :: Y8 (Y4 (Y2 (Y1 ([])))))) [.arr (bools (o.take i.toNat ++ J5 ((len:Int) - i).toNat c)) 1 0]:=by
 intro i c m o len h0 hi hm ho hl hc0 hc1
 obtain ⟨j,hj⟩:∃ j:Nat,(j:Int) = (len:Int) - i:=⟨((len:Int) - i).toNat,by omega⟩
 induction j generalizing i c m o len with
 | zero =>
  obtain _ | m:=m; omega
  obtain rfl:i = len:=by omega
  rw [OY]
  simp only [LE,Tryz.f56,SLM,simprocAttr]
  simp -implicitDefEqProofs (maxSteps:=2000000) (disch:=try exact Dz) only [↓DN,↓kAsg,↓kRet,UP,simprocAttr,LA,Int.lt_irrefl]
  have e1:o.take len = o:=List.take_of_length_le (by omega)
  have e2:((len:Int) - len).toNat = 0:=by omega
  simp only [Int.toNat_natCast,e1,e2,J5,List.append_nil]
  congr 3
  simp
 | succ j ih =>
  obtain _ | m:=m; omega
  have hc:i < len:=by omega
  have hk:i.toNat < o.length:=by omega
  have e1:(i + 1).toNat = i.toNat + 1:=by omega
  have e2:((len:Int) - i).toNat = j + 1:=by omega
  have e3:((len:Int) - (i + 1)).toNat = j:=by omega
  rw [OY]
  simp only [LE,Tryz.f56,SLM,simprocAttr]
  simp -implicitDefEqProofs (maxSteps:=2000000) (disch:=try exact Dz) only [↓DN,↓kAsg,↓kRet,UP,simprocAttr,LA,hc,aCo,N8,↓aM8,↓ih]
  have e4:c + 1 + ((len:Int) - (i + 1)) = c + ((len:Int) - i):=by omega
  rw [e1,e2,e3,CS hk,e4]
  simp only [J5]
theorem aNh {L n:Nat} (hn:1 ≤ n) (o:List Bool) (c:Int) (hl:o.length ≤ 4294967296) (hc0:0 ≤ c) (hc1:c ≤ 100000000000) (hL:2 ^ 60 ≤ L):aA env L n 56 [.sl 0 0 0 o.length,nI c] [.arr (bools o) 1 0] = some (nI (c + o.length),[.arr (bools (J5 o.length c)) 1 0]):=by
 obtain _ | n:=n; omega
 rw [aLC]
 simp only [aDd,Tryz.f56,SLM,simprocAttr]
 simp -implicitDefEqProofs (maxSteps:=2000000) (disch:=try exact Dz) only [↓DN,↓kAsg,↓kRet,UP,simprocAttr,↓aIs,LA,Int.toNat_zero,Int.sub_zero,Int.toNat_natCast,List.take_zero,List.nil_append]
theorem aNM {R:Type} {L n id:Nat} {hq:H} {k:A → H → Option R} (hn:1 ≤ n) (o:List Bool) (c:Int) (hi:hq[id]? = some (.arr (bools o) 1 0)) (hl:o.length ≤ 4294967296) (hc0:0 ≤ c) (hc1:c ≤ 100000000000) (hL:2 ^ 60 ≤ L):aW env (aA env L n) hq 56 [.sl id 0 0 o.length,nI c] k = k (nI (c + o.length)) (hq.set id (.arr (bools (J5 o.length c)) 1 0)) :=
 CJ hi (by simp [idsL,idsA]) IC rfl (by simpa [aP,mapA,aH] using aNh hn o c hl hc0 hc1 hL)
theorem aNJ {R:Type} {L n:Nat} {k:A → H → Option R} {p:H} (hn:3 ≤ n) (rs:List (List Int)) (cs:List D) (c:Int) (hs:a8 rs) (hc0:0 ≤ c) (hc1:c + aG rs ≤ 100000000000) (hL:2 ^ 60 ≤ L):aW env (aA env L n) (.vec (aQ 2 rs ++ aZ 0) 1 0 :: .arr cs 1 0 :: (a6 rs ++ p)) 55 [.sl 0 0 0 rs.length,nI c] k = k (nI (c + aG rs)) (.vec (aQ 2 rs ++ aZ 0) 1 0 :: .arr cs 1 0 :: (a6 (oN rs c) ++ p)):=by
 have hml:=MK rs c
 have hrl:=hs.1
 have hids:idsL [A.sl 0 0 0 rs.length,nI c] = [0]:=by simp [idsL,idsA]
 have hk0:kids (.vec (aQ 2 rs ++ aZ 0) 1 0 :: .arr cs 1 0 :: (a6 rs ++ p)) 0 = List.range' 2 rs.length:=by
  simp only [kids,List.getElem?_cons_zero,kN,kZ,mE,List.append_nil]
 have hleaf:∀ i ∈ List.range' 2 rs.length,∃ r:List Int,(O.vec (aQ 2 rs ++ aZ 0) 1 0 :: .arr cs 1 0 :: (a6 rs ++ p))[i]? = some (.arr (ints r) 1 0):=by
  intro i hi
  simp only [List.mem_range'_1] at hi
  obtain ⟨j,rfl⟩:∃ j,i = j + 2:=⟨i - 2,by omega⟩
  have hj:j < rs.length:=by omega
  exact ⟨rs[j],by rw [List.getElem?_cons_succ,List.getElem?_cons_succ,List.getElem?_append_left (by rw [cB]; exact hj)]; exact qM (List.getElem?_eq_getElem hj)⟩
 have hr:aD aI (.vec (aQ 2 rs ++ aZ 0) 1 0 :: .arr cs 1 0 :: (a6 rs ++ p)) [0] [] = [0] ++ List.range' 2 rs.length:=by
  refine JW (P:=[0]) (T:=List.range' 2 rs.length) ?_ ?_ ?_ ?_ ?_ ?_
  ·simp [hk0]
  ·intro i hi
   obtain ⟨r,hr⟩:=hleaf i hi
   simp only [kids,hr]
  ·intro k hk; simp at hk; subst hk; simp
  ·simp only [List.cons_append,List.nil_append,List.nodup_cons]
   exact ⟨by simp,List.nodup_range'⟩
  ·intro i hi
   simp only [List.cons_append,List.nil_append,List.mem_cons] at hi
   rcases hi with rfl | hi
   ·exact ⟨_,rfl,by simp⟩
   ·obtain ⟨r,hr⟩:=hleaf i hi
    exact ⟨_,hr,by simp⟩
  ·simp only [List.length_append,List.length_cons,List.length_nil,List.length_range',aI]; omega
 have hpl:∀ i,i < rs.length → aH ([0] ++ List.range' 2 rs.length) (2 + i) = some (1 + i):=by
  intro i hi
  rw [aJJ (by simp),zW _ _ _ hi]
  simp
 have hp:pack (.vec (aQ 2 rs ++ aZ 0) 1 0 :: .arr cs 1 0 :: (a6 rs ++ p)) ([0] ++ List.range' 2 rs.length) = .vec (aQ 1 rs ++ aZ 0) 1 0 :: a6 rs:=by
  simp only [pack,List.map_append,List.map_cons,List.map_nil,List.cons_append,List.nil_append,List.getD_cons_zero]
  have e1:=HA (rs:=rs) (f:=aH ([0] ++ List.range' 2 rs.length)) (b:=2) (d:=1) hpl
  simp only [List.cons_append,List.nil_append] at e1
  rw [e1]
  congr 1
  exact JX fun i r hr => by
   rw [show 2 + i = i + 2 by omega,List.getElem?_cons_succ,List.getElem?_cons_succ,List.getElem?_append_left (by rw [cB]; exact oW hr)]; exact qM hr
 have hcl:closed (.vec (aQ 2 rs ++ aZ 0) 1 0 :: .arr cs 1 0 :: (a6 rs ++ p)) ([0] ++ List.range' 2 rs.length) [0] = true:=by
  simp only [closed,Bool.and_eq_true,List.all_eq_true,List.contains_eq_mem,decide_eq_true_eq]
  refine ⟨by simp,fun i hi => ?_⟩
  simp only [List.cons_append,List.nil_append,List.mem_cons] at hi
  rcases hi with rfl | hi
  ·simp only [List.getElem?_cons_zero,List.all_eq_true,decide_eq_true_eq,kN,kZ,mE,List.append_nil]
   intro j hj; simpa using Or.inr (by simpa using hj)
  ·obtain ⟨r,hr⟩:=hleaf i hi
   simp only [hr]
 have hmap:aP (aH ([0] ++ List.range' 2 rs.length)) [A.sl 0 0 0 rs.length,nI c] = [A.sl 0 0 0 rs.length,nI c]:=rfl
 have hnd:([0] ++ List.range' 2 rs.length).Nodup:=by
  simp only [List.cons_append,List.nil_append,List.nodup_cons]
  exact ⟨by simp,List.nodup_range'⟩
 have hlt:∀ i ∈ [0] ++ List.range' 2 rs.length,i < (O.vec (aQ 2 rs ++ aZ 0) 1 0 :: .arr cs 1 0 :: (a6 rs ++ p)).length:=by
  rw [← hr]; exact j2 aI _ _ [] (by simp)
 have hlen:(O.vec (aQ 1 rs ++ aZ 0) 1 0 :: a6 (oN rs c)).length = ([0] ++ List.range' 2 rs.length).length:=by
  simp [cB,hml]
 unfold aW
 rw [hids,hr,hp,hmap]
 unfold dX
 rw [HE]
 simp only [aM5 hn rs c hs hc0 hc1 hL,hcl,hlen,Nat.le_refl,and_self,if_true,mapA]
 congr 1
 apply List.ext_getElem?
 intro i
 rw [rE _ _ _ _ _ hnd hlt (by omega)]
 have hbk:∀ j,j < rs.length + 1 → back ([0] ++ List.range' 2 rs.length) (O.vec (aQ 2 rs ++ aZ 0) 1 0 :: .arr cs 1 0 :: (a6 rs ++ p)).length ([0] ++ List.range' 2 rs.length).length j = ([0] ++ List.range' 2 rs.length)[j]?:=by
  intro j hj
  unfold back
  rw [if_pos (by simp; omega)]
 match i with
 | 0 =>
  simp only [List.cons_append,List.nil_append,aH,if_true,List.getElem?_cons_zero,Option.map_some]
  rw [HA (d:=2) fun i hi => by
   have:=hbk (1 + i) (by omega)
   simp only [List.cons_append,List.nil_append] at this
   rw [this,Nat.add_comm 1,List.getElem?_cons_succ,List.getElem?_range' hi]
   simp]
 | 1 =>
  have:aH ([0] ++ List.range' 2 rs.length) 1 = none:=qQ (by simp)
  rw [this]
  simp
 | i + 2 =>
  simp only [List.getElem?_cons_succ]
  by_cases hi:i < rs.length
  ·have:=hpl i hi
   rw [show 2 + i = i + 2 by omega,show 1 + i = i + 1 by omega] at this
   rw [this]
   simp only [List.getElem?_cons_succ]
   rw [List.getElem?_append_left (by rw [cB]; omega),aEL (by omega)]
   rfl
  ·have:aH ([0] ++ List.range' 2 rs.length) (i + 2) = none:=qQ (by simp; omega)
   rw [this]
   simp only [List.length_cons,List.length_append,cB,List.getElem?_cons_succ]
   rw [List.getElem?_append_right (by rw [cB]; omega),List.getElem?_append_right (by rw [cB]; omega),cB,cB,hml]
   split
   ·rfl
   ·rw [List.getElem?_eq_none (by simp [cB,hml]; omega),List.getElem?_eq_none (by omega)]
    rfl
theorem aFd {L n:Nat} (hn:4 ≤ n) (al:Int) (rs:List (List Int)) (ac:List Bool) (c:Int) (hs:a8 rs) (ha:ac.length ≤ 4294967296) (hc0:0 ≤ c) (hc1:c + aG rs ≤ 100000000000) (hL:2 ^ 60 ≤ L):aA env L n 18 [autA 0 al rs.length ac.length,nI c] (autO 0 rs ac) = some (nI (c + aG rs + ac.length),autO 0 (oN rs c) (J5 ac.length (c + aG rs))):=by
 have hml:=MK rs c
 have hrf:aQ 2 (oN rs c) = aQ 2 rs:=aHQ (S7 rs c)
 have h1:0 ≤ c + (aG rs:Int):=by omega
 have hro:=cB rs
 unfold autO autA
 rw [hrf]
 have en1:∀ {o:O} {p:H},(a6 rs ++ o :: p)[rs.length]? = some o:=aMS rfl
 have en2:∀ {o:O} {p:H},(a6 (oN rs c) ++ o :: p)[rs.length]? = some o:=aMS hml.symm
 obtain _ | n:=n; omega
 rw [aEC]
 simp only [R2,Tryz.f18,SLM,simprocAttr]
 simp -implicitDefEqProofs (maxSteps:=2000000) (disch:=try exact Dz) only [↓DN,↓kAsg,↓kRet,UP,simprocAttr,↓aNJ,↓aNM,LA,cB,↓aX8,↓aYm,hml,en1,en2]
theorem aMU {L n:Nat} (hn:4 ≤ n) {h:H} {v:Nat} {al:Int} {rs:List (List Int)} {ac:List Bool} (k0:Has h v rs ac) {c:Int} (hs:a8 rs) (ha:ac.length ≤ 4294967296) (hc0:0 ≤ c) (hc1:c + aG rs ≤ 100000000000) (hL:2 ^ 60 ≤ L) :
  ∃ h',(∀ (R:Type) (k:A → H → Option R),aW env (aA env L n) h 18 [autA v al rs.length ac.length,nI c] k = k (nI (c + aG rs + ac.length)) h') ∧ h'.length = h.length ∧ Has h' v (oN rs c) (J5 ac.length (c + aG rs)) ∧ (∀ i,i < v ∨ v + 2 + rs.length ≤ i → h'[i]? = h[i]?) ∧ wgt h' ≤ wgt h :=
 aQM w9 k0 hs.1 (aFd hn al rs ac c hs ha hc0 hc1 hL) (S7 rs c)
end
section
theorem aBP {h:H}:∀ (os:H) (i:Nat),gF 0 h i os = os.map (cW 0 h 0)
 | [],_ => rfl
 | o :: os,i => by
  simp only [gF,List.map_cons,aBP os (i + 1)]
  cases o <;> simp [cW]
theorem aJa {h:H} {rs:List (List Int)}:(a6 rs).map (cW 0 h 0) = a6 rs:=by
 simp [a6,cW]
theorem WI {nf:Nat} {h:H}:∀ (xs ys:List A),dD nf h (xs ++ ys) = dD nf h xs ++ dD nf h ys
 | [],ys => by simp [dD]
 | x :: xs,ys => by simp [dD,WI xs ys]
theorem aA1 {h:H}:∀ {rs:List (List Int)} {b:Nat},(∀ i,i < rs.length → fO h (b + i) = some 0) → dD 0 h (aQ b rs) = aQ b rs
 | [],b,_ => by simp [aQ,dD]
 | r :: rs,b,hh => by
  have h0:=hh 0 (by simp)
  simp only [Nat.add_zero] at h0
  simp only [aQ,dD,dM,EJ,Nat.not_lt_zero,if_false,h0,if_true]
  rw [aA1 (rs:=rs) (b:=b + 1) fun i hi => by
   rw [show b + 1 + i = b + (i + 1) by omega]
   exact hh (i + 1) (by simp; omega)]
theorem aME {rs:List (List Int)} {p:H} {i:Nat} (h:i < rs.length):fO (a6 rs ++ p) i = some 0:=by
 unfold fO
 rw [List.getElem?_append_left (by rw [cB]; exact h),aEL h]
theorem MQ {o:O} {h:H} {i:Nat}:fO (o :: h) (i + 1) = fO h i:=by
 unfold fO
 rw [List.getElem?_cons_succ]
theorem aMY {f:Nat → Option Nat} {h:H} {b:Nat} {rs:List (List Int)} (hh:∀ (i:Nat) (r:List Int),rs[i]? = some r → h[b + i]? = some (.arr (ints r) 1 0)):(List.range' b rs.length).map (fun i => mapO f (h.getD i default)) = a6 rs:=JX hh
theorem aOO {rs:List (List Int)} {p:H} {i:Nat} {r:List Int} (h:rs[i]? = some r):(a6 rs ++ p)[i]? = some (.arr (ints r) 1 0):=by
 rw [List.getElem?_append_left (by rw [cB]; exact oW h)]
 exact qM h
section
variable {x0 x1:D} {k z:Nat} {cs cr:List D} {d:List (List Int)} {p:H}
theorem WZ {h:H} {i:Nat} {r:List D} {e g:Nat} (hr:h[i]? = some (.arr r e g)):kids h i = []:=by simp only [kids,hr]
mutual
theorem aU8 {f g:Nat → Option Nat}:∀ a:A,(∀ i ∈ idsA a,f i = g i) → mapA f a = mapA g a
 | .d x,_ => by simp only [mapA]
 | .sl id gen off len,hi => by simp only [mapA,hi id (by simp [idsA])]
 | .ptr id gen off,hi => by simp only [mapA,hi id (by simp [idsA])]
 | .mp id,hi => by simp only [mapA,hi id (by simp [idsA])]
 | .clo q caps,hi => by simp only [mapA]; rw [I8 caps (by simpa only [idsA] using hi)]
 | .agg cs,hi => by simp only [mapA]; rw [I8 cs (by simpa only [idsA] using hi)]
 | .tup cs,hi => by simp only [mapA]; rw [I8 cs (by simpa only [idsA] using hi)]
 | .junk,_ => by simp only [mapA]
theorem I8 {f g:Nat → Option Nat}:∀ xs:List A,(∀ i ∈ idsL xs,f i = g i) → aP f xs = aP g xs
 | [],_ => by simp only [aP]
 | a :: xs,hi => by
  simp only [idsL,List.mem_append] at hi
  simp only [aP]
  rw [aU8 a fun i h => hi i (.inl h),I8 xs fun i h => hi i (.inr h)]
end
mutual
theorem aYy {f:Nat → Option Nat}:∀ a:A,z0A a = true → z0A (mapA f a) = true
 | .d x,_ => by simp only [mapA,z0A]
 | .sl id gen off len,hz => by simp only [mapA]; cases f id <;> first | rfl | exact hz
 | .ptr id gen off,hz => by simp only [mapA]; cases f id <;> first | rfl | exact hz
 | .mp id,hz => by simp only [mapA]; cases f id <;> first | rfl | exact hz
 | .clo q caps,hz => by simp only [mapA,z0A] at hz ⊢; exact aAG caps hz
 | .agg cs,hz => by simp only [mapA,z0A] at hz ⊢; exact aAG cs hz
 | .tup cs,hz => by simp only [mapA,z0A] at hz ⊢; exact aAG cs hz
 | .junk,_ => by simp only [mapA,z0A]
theorem aAG {f:Nat → Option Nat}:∀ xs:List A,z0As xs = true → z0As (aP f xs) = true
 | [],_ => by simp only [aP,z0As]
 | a :: xs,hz => by
  simp only [z0As,Bool.and_eq_true] at hz
  simp only [aP,z0As,Bool.and_eq_true]
  exact ⟨aYy a hz.1,aAG xs hz.2⟩
end
theorem aEj {L0:List Nat} {b n:Nat} (h0:L0.Nodup) (hlt:∀ i ∈ L0,¬ (b ≤ i ∧ i < b + n)):(L0 ++ List.range' b n).Nodup:=by
 rw [List.nodup_append]
 refine ⟨h0,List.nodup_range',fun i hi j hj e => ?_⟩
 rw [List.mem_range'_1] at hj
 subst e
 exact hlt _ hi hj
end
end
def aCn (n:Nat):List Nat:=[7,n + 8] ++ (List.range' 8 n ++ [])
def UU (n:Nat) (ids:List Nat):Bool:=decide (ids = [7,n + 8])
theorem aUf {n:Nat} {ke0:Nat} (he0:ke0 = n + 8):UU n [7,ke0] = true:=by subst he0; simp [UU]
def NA (n i:Nat):Option Nat:=if i = 7 then some 0 else if i = n + 8 then some 1 else none
theorem aJS {n:Nat}:NA n 7 = some (0):=by unfold NA; repeat (first | rfl | rw [if_pos rfl] | rw [if_neg (by omega)])
theorem aHo {n k:Nat} (h:k = n + 8):NA n k = some (1):=by subst h; unfold NA; repeat (first | rfl | rw [if_pos rfl] | rw [if_neg (by omega)])
theorem aV8 {o0 o1 o2 o3 o4 o5 o6:O} {cs:List D} {d:List (List Int)} (hl:d.length ≤ 4294967296) {ids:List Nat}:eV 0 (o0 :: o1 :: o2 :: o3 :: o4 :: o5 :: o6 :: .vec (aQ 8 d ++ aZ 0) 1 0 :: (a6 d ++ [.arr cs 1 0])) ids = if UU d.length ids = true then aCn d.length else aLA 0 (o0 :: o1 :: o2 :: o3 :: o4 :: o5 :: o6 :: .vec (aQ 8 d ++ aZ 0) 1 0 :: (a6 d ++ [.arr cs 1 0])) ids:=by
 split
 ·rename_i hc
  have hc:ids = [7,d.length + 8]:=by simpa [UU] using hc
  subst hc
  obtain ⟨h,hh⟩:∃ h:H,o0 :: o1 :: o2 :: o3 :: o4 :: o5 :: o6 :: .vec (aQ 8 d ++ aZ 0) 1 0 :: (a6 d ++ [.arr cs 1 0]) = h:=⟨_,rfl⟩
  conv => lhs; rw [hh]
  have g7:h[7]? = some (.vec (aQ 8 d ++ aZ 0) 1 0):=by rw [← hh]; rfl
  have gr:∀ (i:Nat) (r:List Int),d[i]? = some r → h[8 + i]? = some (.arr (ints r) 1 0):=by
   intro i r hr
   rw [← hh,show 8 + i = i + 1 + 1 + 1 + 1 + 1 + 1 + 1 + 1 by omega]
   simp only [List.getElem?_cons_succ]
   exact aOO hr
  have ge0:h[d.length + 8]? = some (.arr cs 1 0):=by
   rw [← hh,show d.length + 8 = d.length + 1 + 1 + 1 + 1 + 1 + 1 + 1 + 1 by omega]
   simp only [List.getElem?_cons_succ]
   rw [List.getElem?_append_right (by rw [cB]; omega),cB,show d.length - d.length = 0 by omega]
   rfl
  have k7:kids h (7) = List.range' 8 d.length:=by simp [kids,g7,kN,kZ,mE,idsL,idsA]
  have ke0:kids h (d.length + 8) = []:=WZ ge0
  have leaf:∀ i ∈ List.range' 8 d.length,∃ r:List Int,h[i]? = some (.arr (ints r) 1 0):=by
   intro i hi
   rw [List.mem_range'_1] at hi
   obtain ⟨j,rfl⟩:∃ j,i = 8 + j:=⟨i - 8,by omega⟩
   exact ⟨d[j]'(by omega),gr j _ (List.getElem?_eq_getElem (by omega))⟩
  have hr:aD aI h [7,d.length + 8] [] = [7] ++ ([d.length + 8] ++ (List.range' 8 d.length ++ [])):=by
   refine JW ?_ ?_ ?_ ?_ ?_ ?_
   ·simp [k7]
   ·intro i hi
    rcases List.mem_append.1 hi with h1 | h1
    ·simp only [List.mem_cons,List.not_mem_nil,or_false] at h1
     rcases h1 with rfl
     ·exact ke0
    ·rcases List.mem_append.1 h1 with h2 | h2
     ·obtain ⟨r,hr⟩:=leaf i h2; exact WZ hr
     ·cases h2
   ·intro q hq
    simp only [List.length_cons,List.length_nil] at hq
    have:q = 0:=by omega
    rcases this with rfl <;> simp [k7]
   ·rw [← List.append_assoc,← List.append_assoc]
    rw [List.append_nil]
    exact aEj (by simp) (by intro i hi; simp at hi; omega)
   ·intro i hi
    simp only [List.cons_append,List.nil_append,List.mem_cons,List.mem_append,List.not_mem_nil,or_false] at hi
    rcases hi with rfl | rfl | hi
    ·exact ⟨_,g7,by simp⟩
    ·exact ⟨_,ge0,by simp⟩
    ·obtain ⟨r,hr⟩:=leaf i hi; exact ⟨_,hr,by simp⟩
   ·simp only [List.length_append,List.length_cons,List.length_nil,List.length_range',aI]; omega
  generalize hord:[7] ++ ([d.length + 8] ++ (List.range' 8 d.length ++ [])) = ord at hr
  have pk:∀ i j,ord[j]? = some i → aH ord i = some j:=fun i j h1 => qZ (by rw [← hr]; exact fE aI h _ [] (by simp)) h1
  have p7:=pk (7) 0 (by rw [← hord]; rfl)
  have pe0:=pk (d.length + 8) 1 (by rw [← hord]; rfl)
  have pr:∀ i,i < d.length → aH ord (8 + i) = some (2 + i):=fun i hi => pk _ _ (by
   rw [← hord,show 2 + i = i + 1 + 1 by omega]
   simp only [List.cons_append,List.nil_append,List.getElem?_cons_succ]
   first | rw [List.getElem?_append_left (by simpa using hi),List.getElem?_range' hi] | rw [List.append_nil,List.getElem?_range' hi]
   simp <;> omega)
  have hpk:pack h ord = .vec (aQ 2 d ++ aZ 0) 1 0 :: .arr cs 1 0 :: a6 d:=by
   have e1:pack h ord = ([7,d.length + 8]:List Nat).map (fun i => mapO (aH ord) (h.getD i default)) ++ ((List.range' 8 d.length).map (fun i => mapO (aH ord) (h.getD i default)) ++ ([]:List Nat).map (fun i => mapO (aH ord) (h.getD i default))):=by
    unfold pack
    conv => lhs; arg 2; rw [← hord]
    rw [← List.map_append,← List.map_append]
    rfl
   have hrf:aP (aH ord) (aQ 8 d) = aQ 2 d:=R6 (c:=0) pr
   have hni:aP (aH ord) (aZ 0) = aZ 0:=rfl
   rw [e1,aMY gr]
   simp only [List.map_cons,List.map_nil,List.getD_eq_getElem?_getD,g7,ge0,Option.getD_some]
   simp only [mapO,aP,mapA,J2,hrf,hni,p7,pe0,List.cons_append,List.nil_append,List.append_nil]
  have hgr:∀ i,i < d.length → fO (O.vec (aQ 2 d ++ aZ 0) 1 0 :: .arr cs 1 0 :: a6 d) (2 + i) = some 0:=by
   intro i hi
   rw [show 2 + i = i + 1 + 1 by omega]
   simp only [MQ]
   have:=aME (p:=[]) hi; rwa [List.append_nil] at this
  have hcm:mO 0 (O.vec (aQ 2 d ++ aZ 0) 1 0 :: .arr cs 1 0 :: a6 d) = .vec (aQ 2 d ++ aZ 0) 1 0 :: .arr cs 1 0 :: a6 d:=by
   have hrf:dD 0 (O.vec (aQ 2 d ++ aZ 0) 1 0 :: .arr cs 1 0 :: a6 d) (aQ 2 d) = aQ 2 d:=aA1 hgr
   have hni:∀ h:H,dD 0 h (aZ 0) = aZ 0:=fun _ => rfl
   have gS:∀ (o:O) (h:H) (i:Nat),fO (o :: h) (i + 1) = fO h i:=fun _ _ _ => MQ
   obtain ⟨hp,hq⟩:∃ hp:H,O.vec (aQ 2 d ++ aZ 0) 1 0 :: .arr cs 1 0 :: a6 d = hp:=⟨_,rfl⟩
   rw [hq] at hrf
   conv => lhs; rw [hq]
   unfold mO
   rw [aBP]
   have q0:fO hp 0 = some 0:=by rw [← hq]; rfl
   have q1:fO hp 1 = some 0:=by rw [← hq]; rfl
   conv => lhs; arg 2; rw [← hq]
   simp only [List.map_cons,List.map_append,List.map_nil,cW,dD,dM,EJ,WI,hrf,hni,aJa,q0,q1,Nat.not_lt_zero,if_false,if_true]
  rw [xY]
  unfold aI at hr
  rw [hr,← hord]
  rfl
 ·rfl
theorem aVH {o0 o1 o2 o3 o4 o5 o6:O} {cs:List D} {d:List (List Int)} (hl:d.length ≤ 4294967296) {s:List A}:trim 0 (o0 :: o1 :: o2 :: o3 :: o4 :: o5 :: o6 :: .vec (aQ 8 d ++ aZ 0) 1 0 :: (a6 d ++ [.arr cs 1 0])) (aCn d.length) s = if UU d.length (idsL s) = true ∧ z0As s = true then (aP (NA d.length) s,.vec (aQ 2 d ++ aZ 0) 1 0 :: .arr cs 1 0 :: a6 d) else aLy 0 (o0 :: o1 :: o2 :: o3 :: o4 :: o5 :: o6 :: .vec (aQ 8 d ++ aZ 0) 1 0 :: (a6 d ++ [.arr cs 1 0])) (aCn d.length) s:=by
 split
 ·rename_i hc
  obtain ⟨hids,hz⟩:=hc
  have hids:idsL s = [7,d.length + 8]:=by simpa [UU] using hids
  obtain ⟨h,hh⟩:∃ h:H,o0 :: o1 :: o2 :: o3 :: o4 :: o5 :: o6 :: .vec (aQ 8 d ++ aZ 0) 1 0 :: (a6 d ++ [.arr cs 1 0]) = h:=⟨_,rfl⟩
  conv => lhs; rw [hh]
  have g7:h[7]? = some (.vec (aQ 8 d ++ aZ 0) 1 0):=by rw [← hh]; rfl
  have gr:∀ (i:Nat) (r:List Int),d[i]? = some r → h[8 + i]? = some (.arr (ints r) 1 0):=by
   intro i r hr
   rw [← hh,show 8 + i = i + 1 + 1 + 1 + 1 + 1 + 1 + 1 + 1 by omega]
   simp only [List.getElem?_cons_succ]
   exact aOO hr
  have ge0:h[d.length + 8]? = some (.arr cs 1 0):=by
   rw [← hh,show d.length + 8 = d.length + 1 + 1 + 1 + 1 + 1 + 1 + 1 + 1 by omega]
   simp only [List.getElem?_cons_succ]
   rw [List.getElem?_append_right (by rw [cB]; omega),cB,show d.length - d.length = 0 by omega]
   rfl
  have k7:kids h (7) = List.range' 8 d.length:=by simp [kids,g7,kN,kZ,mE,idsL,idsA]
  have ke0:kids h (d.length + 8) = []:=WZ ge0
  have leaf:∀ i ∈ List.range' 8 d.length,∃ r:List Int,h[i]? = some (.arr (ints r) 1 0):=by
   intro i hi
   rw [List.mem_range'_1] at hi
   obtain ⟨j,rfl⟩:∃ j,i = 8 + j:=⟨i - 8,by omega⟩
   exact ⟨d[j]'(by omega),gr j _ (List.getElem?_eq_getElem (by omega))⟩
  have hr:aD aI h [7,d.length + 8] [] = [7] ++ ([d.length + 8] ++ (List.range' 8 d.length ++ [])):=by
   refine JW ?_ ?_ ?_ ?_ ?_ ?_
   ·simp [k7]
   ·intro i hi
    rcases List.mem_append.1 hi with h1 | h1
    ·simp only [List.mem_cons,List.not_mem_nil,or_false] at h1
     rcases h1 with rfl
     ·exact ke0
    ·rcases List.mem_append.1 h1 with h2 | h2
     ·obtain ⟨r,hr⟩:=leaf i h2; exact WZ hr
     ·cases h2
   ·intro q hq
    simp only [List.length_cons,List.length_nil] at hq
    have:q = 0:=by omega
    rcases this with rfl <;> simp [k7]
   ·rw [← List.append_assoc,← List.append_assoc]
    rw [List.append_nil]
    exact aEj (by simp) (by intro i hi; simp at hi; omega)
   ·intro i hi
    simp only [List.cons_append,List.nil_append,List.mem_cons,List.mem_append,List.not_mem_nil,or_false] at hi
    rcases hi with rfl | rfl | hi
    ·exact ⟨_,g7,by simp⟩
    ·exact ⟨_,ge0,by simp⟩
    ·obtain ⟨r,hr⟩:=leaf i hi; exact ⟨_,hr,by simp⟩
   ·simp only [List.length_append,List.length_cons,List.length_nil,List.length_range',aI]; omega
  generalize hord:[7] ++ ([d.length + 8] ++ (List.range' 8 d.length ++ [])) = ord at hr
  have pk:∀ i j,ord[j]? = some i → aH ord i = some j:=fun i j h1 => qZ (by rw [← hr]; exact fE aI h _ [] (by simp)) h1
  have p7:=pk (7) 0 (by rw [← hord]; rfl)
  have pe0:=pk (d.length + 8) 1 (by rw [← hord]; rfl)
  have pr:∀ i,i < d.length → aH ord (8 + i) = some (2 + i):=fun i hi => pk _ _ (by
   rw [← hord,show 2 + i = i + 1 + 1 by omega]
   simp only [List.cons_append,List.nil_append,List.getElem?_cons_succ]
   first | rw [List.getElem?_append_left (by simpa using hi),List.getElem?_range' hi] | rw [List.append_nil,List.getElem?_range' hi]
   simp <;> omega)
  have hpk:pack h ord = .vec (aQ 2 d ++ aZ 0) 1 0 :: .arr cs 1 0 :: a6 d:=by
   have e1:pack h ord = ([7,d.length + 8]:List Nat).map (fun i => mapO (aH ord) (h.getD i default)) ++ ((List.range' 8 d.length).map (fun i => mapO (aH ord) (h.getD i default)) ++ ([]:List Nat).map (fun i => mapO (aH ord) (h.getD i default))):=by
    unfold pack
    conv => lhs; arg 2; rw [← hord]
    rw [← List.map_append,← List.map_append]
    rfl
   have hrf:aP (aH ord) (aQ 8 d) = aQ 2 d:=R6 (c:=0) pr
   have hni:aP (aH ord) (aZ 0) = aZ 0:=rfl
   rw [e1,aMY gr]
   simp only [List.map_cons,List.map_nil,List.getD_eq_getElem?_getD,g7,ge0,Option.getD_some]
   simp only [mapO,aP,mapA,J2,hrf,hni,p7,pe0,List.cons_append,List.nil_append,List.append_nil]
  have hgr:∀ i,i < d.length → fO (O.vec (aQ 2 d ++ aZ 0) 1 0 :: .arr cs 1 0 :: a6 d) (2 + i) = some 0:=by
   intro i hi
   rw [show 2 + i = i + 1 + 1 by omega]
   simp only [MQ]
   have:=aME (p:=[]) hi; rwa [List.append_nil] at this
  have hcm:mO 0 (O.vec (aQ 2 d ++ aZ 0) 1 0 :: .arr cs 1 0 :: a6 d) = .vec (aQ 2 d ++ aZ 0) 1 0 :: .arr cs 1 0 :: a6 d:=by
   have hrf:dD 0 (O.vec (aQ 2 d ++ aZ 0) 1 0 :: .arr cs 1 0 :: a6 d) (aQ 2 d) = aQ 2 d:=aA1 hgr
   have hni:∀ h:H,dD 0 h (aZ 0) = aZ 0:=fun _ => rfl
   have gS:∀ (o:O) (h:H) (i:Nat),fO (o :: h) (i + 1) = fO h i:=fun _ _ _ => MQ
   obtain ⟨hp,hq⟩:∃ hp:H,O.vec (aQ 2 d ++ aZ 0) 1 0 :: .arr cs 1 0 :: a6 d = hp:=⟨_,rfl⟩
   rw [hq] at hrf
   conv => lhs; rw [hq]
   unfold mO
   rw [aBP]
   have q0:fO hp 0 = some 0:=by rw [← hq]; rfl
   have q1:fO hp 1 = some 0:=by rw [← hq]; rfl
   conv => lhs; arg 2; rw [← hq]
   simp only [List.map_cons,List.map_append,List.map_nil,cW,dD,dM,EJ,WI,hrf,hni,aJa,q0,q1,Nat.not_lt_zero,if_false,if_true]
  have hoo:aCn d.length = ord:=by rw [← hord]; rfl
  unfold trim
  rw [hoo,hpk,hcm]
  have hz2:dD 0 (O.vec (aQ 2 d ++ aZ 0) 1 0 :: .arr cs 1 0 :: a6 d) (aP (aH ord) s) = aP (aH ord) s:=by
   exact qG (aE4 (by simp [z0O,z0As,z0A,aFs,aCi,aBf,aMN])) _ (aAG _ hz)
  have hmp:aP (aH ord) s = aP (NA d.length) s:=by
   apply I8
   rw [hids]
   intro i hi
   simp only [List.mem_cons,List.not_mem_nil,or_false] at hi
   rcases hi with rfl | rfl
   ·rw [p7,aJS]
   ·rw [pe0,aHo rfl]
  rw [hz2,hmp]
 ·rfl
theorem aOj {b n:Nat} {rs:List (List Int)} (hn:n = rs.length + 1):((O.vec (aQ 1 rs ++ aZ 0) 1 0 :: a6 rs).map (mapO (back [] 0 n))).map (mapO (back [] b n)) = .vec (aQ (b + 1) rs ++ aZ 0) 1 0 :: a6 rs:=by
 subst hn
 simp only [List.map_cons,aNl]
 rw [HA (f:=back [] 0 (rs.length + 1)) (b:=1) (d:=1) fun i hi => by rw [t6 (by omega),Nat.zero_add]]
 rw [HA (f:=back [] b (rs.length + 1)) (b:=1) (d:=b + 1) fun i hi => by rw [t6 (by omega)]; congr 1; omega]
theorem aQD {R:Type} {L n:Nat} {hq:H} {k:A → H → Option R} (hn:4 ≤ n) (rs:List (List Int)) (hs:a8 rs) (hL:2 ^ 60 ≤ L):aW env (aA env L n) hq 46 [.d (.ivs rs.length (rowsD rs))] k = k (.sl hq.length 0 0 rs.length) (hq ++ (.vec (aQ (hq.length + 1) rs ++ aZ 0) 1 0 :: a6 rs)):=by
 rw [RF rfl QB (aQo hn rs hs hL),cB,aOj rfl]
 simp only [mapA,t6 (b:=0) (n:=rs.length + 1) (i:=0) (by omega),t6 (b:=hq.length) (n:=rs.length + 1) (i:=0) (by omega),Nat.add_zero]
theorem aIX {L n:Nat} (hn:5 ≤ n) (al:Int) (rs:List (List Int)) (ac:List Bool) (hs:a8 rs) (ha:ac.length ≤ 4294967296) (hL:2 ^ 60 ≤ L):aA env L n 14 [.agg [nI al,.d (.ivs rs.length (rowsD rs)),.d (.ivs ac.length (bools ac))]] [] = some (autA 0 al rs.length ac.length,autO 0 rs ac):=by
 have hrl:=hs.1
 unfold autA autO
 obtain _ | n:=n; omega
 rw [aIr]
 simp only [YZ,Tryz.f14,SLM,simprocAttr]
 simp -implicitDefEqProofs (maxSteps:=2000000) (disch:=try exact Dz) only [↓DN,↓kAsg,↓kRet,UP,simprocAttr,↓aQD,↓aPN,LA,cB,↓aV8,↓aVH,z0As,z0A,eq_self,aUf,aJS,aHo]
section
section
variable {h:H} {a b c d:O}
theorem XU:(h ++ [a,b,c])[h.length + 1 + 1]? = some c:=by
 rw [List.getElem?_append_right (by omega),show h.length + 1 + 1 - h.length = 2 by omega]
 rfl
theorem aNb:(h ++ [a,b,c]).set (h.length + 1 + 1) d = h ++ [a,b,d]:=by
 rw [List.set_append_right _ _ (by omega),show h.length + 1 + 1 - h.length = 2 by omega]
 rfl
theorem aLI:(h ++ [a,b,c]).length = h.length + 3:=by simp
end
def aG9 (n:Nat) (bad:List (Nat × Nat)) (ops:List Oper):Bool:=(List.range n).all fun j => (List.range j).all fun i => ((MJ ops []).getD j 0).testBit i || bad.contains (i,j)
theorem aND {ops:List Oper} {cs:List Foot} (n:Nat) (bad:List (Nat × Nat)) (hn:cs.length = n) (hm:aG9 n bad ops = true) (hb:∀ p ∈ bad,qX (cs.getD p.1 {}) (cs.getD p.2 {}) = false):nR ops cs = true:=by
 unfold nR
 rw [hn]
 unfold aG9 at hm
 simp only [List.all_eq_true] at hm ⊢
 intro j hj i hi
 have:=hm j hj i hi
 rcases Bool.or_eq_true_iff.1 this with h1 | h1
 ·rw [h1]; rfl
 ·have h2:=hb (i,j) (by simpa using h1)
  simp only at h2
  rw [h2]
  simp
theorem aMR {a b:Foot} (ha:a.ro = true) (hb:b.ro = true):qX a b = false:=by
 unfold qX
 rw [ha,hb]
 rfl
section
variable {L n:Nat} {h:H} {al:Int} {rs:List (List Int)} {ac:List Bool}
theorem wgt3 {a b:O} {cs:List A} (ha:kJ a = []) (hb:kJ b = []):wgt (h ++ [a,b,.box cs]) = wgt h + (idsL cs).length:=by
 rw [l7]
 cases a <;> cases b <;> simp_all [wgt,kJ]
theorem CL (hn:5 ≤ n) (hs:a8 rs) (ha:ac.length ≤ 4294967296) (hL:2 ^ 60 ≤ L):∀ {R:Type} {k:A → H → Option R},aW env (aA env L n) h 14 [.agg [nI al,.d (.ivs rs.length (rowsD rs)),.d (.ivs ac.length (bools ac))]] k = k (autA h.length al rs.length ac.length) (h ++ autO h.length rs ac):=by
 intro R k
 have hne:autO 0 rs ac = .vec (aQ 2 rs ++ aZ 0) 1 0 :: (.arr (bools ac) 1 0 :: a6 rs):=rfl
 have he:=aIX hn al rs ac hs ha hL
 rw [hne] at he
 rw [RF rfl pJ he]
 have hl:(O.arr (bools ac) 1 0 :: a6 rs).length + 1 = rs.length + 2:=by simp [cB]
 rw [hl,← hne,aMZ rfl]
 have h2:(autO 0 rs ac).map (mapO (back [] h.length (rs.length + 2))) = autO h.length rs ac:=aMZ rfl
 rw [h2]
 rw [aEl (a:=0) (b:=0) (t6 (by omega)) (t6 (by omega)),aEl (a:=0) (b:=h.length) (t6 (by omega)) (t6 (by omega))]
theorem aUT {args:List A} (hn:6 ≤ n) (hs:a8 rs) (ha:ac.length ≤ 4294967296) (hr:rdAs h args = some [autD al rs ac,autD al rs ac]) (hw:(idsL args).length + wgt h ≤ 1099511627776) (hL:2 ^ 60 ≤ L):∀ {R:Type} {k:A → H → Option R},aW env (aA env L n) h 17 args k = k (.d (.bool true)) h:=by
 intro R k
 rw [XY bX hr hw]
 exact UC hn al rs ac hs ha hL
theorem rd2 {a b x y:A} (ha:rdA h a = some x) (hb:rdA h b = some y):rdAs h [a,b] = some [x,y]:=by
 simp only [rdAs,ha,hb]
end
end
def ltr (b:UInt8):Int:=(b.toNat:Int) - 97
def dY (l:Int):UInt8:=UInt8.ofNat (97 + l).toNat
theorem aYC {b:UInt8}:IntKind.i64.wrap ((b.toNat:Int) - 97) = ltr b:=FT (by omega) (by have:=toNat_lt b; omega)
theorem aJ6 {l:Int} (h0:0 ≤ l) (h:l ≤ 5):IntKind.u8.wrap (97 + l) = ((dY l).toNat:Int):=by
 rw [aZt (by omega) (by omega)]
 unfold dY
 rw [UInt8.toNat_ofNat']
 omega
theorem aUP {L n:Nat} (hn:1 ≤ n) (s:List UInt8) (i:Int) (h0:0 ≤ i) (h:i < s.length):aA env L n 164 [.d (.str s),nI i] [] = some (nI (ltr (s.getD i.toNat 0)),[]):=by
 obtain _ | n:=n; omega
 rw [aUR]
 simp only [aNe,Tryz.f164,SLM,simprocAttr]
 simp -implicitDefEqProofs (maxSteps:=2000000) (disch:=try exact Dz) only [↓DN,↓kAsg,↓kRet,UP,simprocAttr,WN,↓aI0,aEu,aYC]
theorem xZ {L:Nat} (s:List UInt8) (i:Int) (h0:0 ≤ i) (h:i < s.length):KC 1 L 164 [.d (.str s),nI i] (nI (ltr (s.getD i.toNat 0))):=ks rfl (fun hn => aUP hn s i h0 h) rfl (.inl rfl)
theorem aFH {L n:Nat} (hn:1 ≤ n) (l:Int) (h0:0 ≤ l) (h:l ≤ 5):aA env L n 92 [nI l] [] = some (.d (.int .u8 (dY l).toNat),[]):=by
 have e:IntKind.u8.wrap (97 + l) = ((dY l).toNat:Int):=aJ6 h0 h
 obtain _ | n:=n; omega
 rw [aHk]
 simp only [TX,Tryz.f92,SLM,simprocAttr]
 simp -implicitDefEqProofs (maxSteps:=2000000) (disch:=try exact Dz) only [↓DN,↓kAsg,↓kRet,UP,simprocAttr,↓aIv,e]
theorem gW {L:Nat} (l:Int) (h0:0 ≤ l) (h:l ≤ 5):KC 1 L 92 [nI l] (.d (.int .u8 (dY l).toNat)):=ks rfl (fun hn => aFH hn l h0 h) rfl (.inl rfl)
def okB (b:UInt8):Bool:=aCt (ltr b)
def fN (s:List UInt8):Bool:=decide (s.length ≤ 50000) && s.all okB
def upTo {α:Type} (p:α → Bool) (l:List α) (i:Nat):Int:=(i:Int) + ((l.drop i).takeWhile p).length
theorem aVB {α:Type} {p:α → Bool} {l:List α}:upTo p l l.length = l.length:=by
 unfold upTo; simp
theorem aTV {α:Type} {p:α → Bool} {l:List α} {i:Nat} {d:α} (h:i < l.length) (hp:p (l.getD i d) = false):upTo p l i = i:=by
 unfold upTo
 rw [List.getD_eq_getElem?_getD,List.getElem?_eq_getElem h] at hp
 simp only [Option.getD_some] at hp
 rw [List.drop_eq_getElem_cons h,List.takeWhile_cons,hp]
 simp
theorem aYk {α:Type} {p:α → Bool} {l:List α} {i:Nat} {d:α} (h:i < l.length) (hp:p (l.getD i d) = true):upTo p l i = upTo p l (i + 1):=by
 unfold upTo
 rw [List.getD_eq_getElem?_getD,List.getElem?_eq_getElem h] at hp
 simp only [Option.getD_some] at hp
 rw [List.drop_eq_getElem_cons h,List.takeWhile_cons,hp]
 simp; omega
theorem aWi {α:Type} {p:α → Bool} {l:List α} {i:Nat} {d:α} (h:i < l.length) (hp:p (l.getD i d) = false):(l.drop i).all p = false:=by
 rw [List.getD_eq_getElem?_getD,List.getElem?_eq_getElem h] at hp
 simp only [Option.getD_some] at hp
 rw [List.drop_eq_getElem_cons h,List.all_cons,hp]
 rfl
theorem aYR {α:Type} {p:α → Bool} {l:List α} {i:Nat} {d:α} (h:i < l.length) (hp:p (l.getD i d) = true):(l.drop i).all p = (l.drop (i + 1)).all p:=by
 rw [List.getD_eq_getElem?_getD,List.getElem?_eq_getElem h] at hp
 simp only [Option.getD_some] at hp
 rw [List.drop_eq_getElem_cons h,List.all_cons,hp]
 rfl
theorem B7 {R:Type} {L n:Nat} (hn:1 ≤ n) {s:List UInt8} (hs:s.length < 4294967296) {k:Exit → List A → H → Option R}:∀ (i:Int) (m:Nat) (h0:0 ≤ i) (hi:i ≤ s.length) (hm:(s.length:Int) - i < m),
  aJ env (aA env L n) L 0 [] Bz50 (tH 0) (Z1 (U1 (Z2 (U16 (U2 (U1 ([]))))))) m (.d (.str s) :: Y1 (.d (.bool false) :: nI i :: Y16 (Y2 (Y1 ([]))))) [] k
  = if (s.drop i.toNat).all okB then k (.exit 0) (.d (.str s) :: Y1 (.d (.bool false) :: nI (upTo okB s i.toNat) :: Y16 (Y2 (Y1 ([]))))) [] else k .ret (.d (.str s) :: Y1 (.d (.bool false) :: nI (upTo okB s i.toNat) :: Y16 (Y2 (Y1 ([]))))) []:=by
 intro i m h0 hi hm
 obtain ⟨j,hj⟩:∃ j:Nat,(j:Int) = (s.length:Int) - i:=⟨((s.length:Int) - i).toNat,by omega⟩
 induction j generalizing i m with
 | zero =>
  obtain _ | m:=m; omega
  obtain rfl:i = s.length:=by omega
  rw [qB]
  simp only [qK,Tryz.f161,SLM,simprocAttr]
  simp -implicitDefEqProofs (maxSteps:=2000000) (disch:=try exact Dz) only [↓DN,↓kAsg,↓kRet,UP,simprocAttr,↓xZ,rB,Int.lt_irrefl]
  simp only [Int.toNat_natCast,List.drop_length,List.all_nil,if_true,aVB]
 | succ j ih =>
  obtain _ | m:=m; omega
  have hc:i < s.length:=by omega
  have hk:i.toNat < s.length:=by omega
  have e1:(i + 1).toNat = i.toNat + 1:=by omega
  cases hb:okB (s.getD i.toNat 0) with
  | true =>
   have hb':=hb
   unfold okB aCt at hb'
   simp only [decide_eq_true_eq] at hb'
   have n1:¬ ltr (s.getD i.toNat 0) < 0:=by omega
   have n2:¬ 6 ≤ ltr (s.getD i.toNat 0):=by omega
   rw [qB]
   simp only [qK,Tryz.f161,SLM,simprocAttr]
   simp -implicitDefEqProofs (maxSteps:=2000000) (disch:=try exact Dz) only [↓DN,↓kAsg,↓kRet,UP,simprocAttr,rB,hc,↓xZ,n1,n2,↓ih]
   rw [e1,aYR hk hb,aYk hk hb]
  | false =>
   have hb':=hb
   unfold okB aCt at hb'
   simp only [decide_eq_false_iff_not] at hb'
   rw [aWi hk hb,aTV hk hb]
   by_cases n1:ltr (s.getD i.toNat 0) < 0
   ·rw [qB]
    simp only [qK,Tryz.f161,SLM,simprocAttr]
    simp -implicitDefEqProofs (maxSteps:=2000000) (disch:=try exact Dz) only [↓DN,↓kAsg,↓kRet,UP,simprocAttr,rB,hc,↓xZ,n1]
    rw [Int.toNat_of_nonneg h0]
   ·have n2:6 ≤ ltr (s.getD i.toNat 0):=by omega
    rw [qB]
    simp only [qK,Tryz.f161,SLM,simprocAttr]
    simp -implicitDefEqProofs (maxSteps:=2000000) (disch:=try exact Dz) only [↓DN,↓kAsg,↓kRet,UP,simprocAttr,rB,hc,↓xZ,n1,n2]
    rw [Int.toNat_of_nonneg h0]
theorem YV {α:Type} {p:α → Bool} {l:List α}:(l.drop (0:Int).toNat).all p = l.all p:=by simp
theorem aIO {L n:Nat} (hn:2 ≤ n) (s:List UInt8) (hL:2 ^ 60 ≤ L):aA env L n 161 [.d (.str s)] [] = some (.d (.bool (fN s)),[]):=by
 unfold fN
 by_cases hs:s.length ≤ 50000
 ·have hs':¬ (50000:Int) < s.length:=by omega
  cases ha:s.all okB with
  | true =>
   obtain _ | n:=n; omega
   rw [ID]
   simp only [A7,Tryz.f161,SLM,simprocAttr]
   simp -implicitDefEqProofs (maxSteps:=2000000) (disch:=try exact Dz) only [↓DN,↓kAsg,↓kRet,UP,simprocAttr,↓xZ,rB,hs',↓B7,YV,ha]
   simp [hs]
  | false =>
   obtain _ | n:=n; omega
   rw [ID]
   simp only [A7,Tryz.f161,SLM,simprocAttr]
   simp -implicitDefEqProofs (maxSteps:=2000000) (disch:=try exact Dz) only [↓DN,↓kAsg,↓kRet,UP,simprocAttr,↓xZ,rB,hs',↓B7,YV,ha]
   all_goals simp
 ·have hs':(50000:Int) < s.length:=by omega
  obtain _ | n:=n; omega
  rw [ID]
  simp only [A7,Tryz.f161,SLM,simprocAttr]
  simp -implicitDefEqProofs (maxSteps:=2000000) (disch:=try exact Dz) only [↓DN,↓kAsg,↓kRet,UP,simprocAttr,↓xZ,↓B7,rB,hs']
  simp [hs]
theorem IF {L:Nat} (s:List UInt8) (hL:2 ^ 60 ≤ L):KC 2 L 161 [.d (.str s)] (.d (.bool (fN s))):=ks rfl (fun hn => aIO hn s hL) rfl (.inl rfl)
def inB (a:Int) (b:UInt8):Bool:=okB b && iZ a (ltr b)
def EU (a:Int) (s:List UInt8):Bool:=nA a && decide (s.length ≤ 50000) && s.all (inB a)
theorem aVq {α:Type} {l:List α} {k:Nat} {d:α} (h:k < l.length):l.getD k d ∈ l:=by
 rw [List.getD_eq_getElem?_getD,List.getElem?_eq_getElem h]; exact List.getElem_mem h
def aC (l:List (List UInt8)):List D:=l.map .str
theorem iC {l:List (List UInt8)}:(aC l).length = l.length:=by simp [aC]
theorem aGU {l:List (List UInt8)} {k:Nat} (h:k < l.length):(((aC l).drop k).map A.d).head? = some (.d (.str (l.getD k []))):=by
 rw [List.head?_map,List.head?_drop,aC,List.getElem?_map,List.getD_eq_getElem?_getD,List.getElem?_eq_getElem h]
 rfl
abbrev Str:=List UInt8
theorem gC {l:List Str} {k:Nat} (h:l.length ≤ k):(aC l).take k = aC l:=List.take_of_length_le (by rw [iC]; exact h)
theorem qR {l:List Str} {v:Str}:aC l ++ [.str v] = aC (l ++ [v]):=by simp [aC]
theorem oZ:aC [] = []:=rfl
theorem aSM {l:List Str} {k:Nat} {v:Str} (h:k < l.length):eQ (aC l) k [.str v] = aC (l.set k v):=FM _ l k v h
theorem aQn {l:List Str} {k:Nat}:(aC l).drop k = aC (l.drop k):=by simp [aC]
theorem SE:type_of% (AI @iC (AI @gC @aGU)) :=
 ⟨@iC,@gC,@aGU⟩
theorem aZe:env.P.cellsOf 9 = 1:=kr
theorem aY0:(env.P.info? 9).isSome = true:=kr
theorem aCE {h:H} {g e k:Nat} {l:List Str} {b:Str} (hk:k < l.length):nW env.P (.arr (aC l) e g :: h) 9 (.ptr 0 g k) (.d (.str b)) = some (.arr (aC (l.set k b)) e g :: h):=by
 rw [uD (id:=0) rfl aZe aY0 rfl (by rw [iC]; exact hk),aSM hk]
 rfl
def digB (k:Int):UInt8:=UInt8.ofNat (48 + (k.tmod 10).toNat)
def digT:Nat → Int → Str → Str
 | 0,_,o => o
 | j + 1,k,o => if 0 < k then digT j (k.tdiv 10) (digB k :: o) else o
def IM (k:Int):Str:=if k ≤ 0 then [109,48] else 109 :: digT 20 k []
theorem aVQ {k:Int} (h:0 ≤ k):IntKind.u8.wrap (48 + k.tmod 10) = ((digB k).toNat:Int):=by
 have h1:0 ≤ k.tmod 10 ∧ k.tmod 10 < 10:=by
  rw [Int.tmod_eq_emod_of_nonneg h]; omega
 unfold digB
 generalize k.tmod 10 = r at *
 obtain ⟨m,rfl⟩:∃ m:Nat,r = m:=⟨r.toNat,by omega⟩
 have hm:m < 10:=by omega
 match m,hm with
 | 0,_ => rfl
 | 1,_ => rfl
 | 2,_ => rfl
 | 3,_ => rfl
 | 4,_ => rfl
 | 5,_ => rfl
 | 6,_ => rfl
 | 7,_ => rfl
 | 8,_ => rfl
 | 9,_ => rfl
 | m + 10,h => omega
def kEnd:Nat → Int → Int
 | 0,k => k
 | j + 1,k => if 0 < k then kEnd j (k.tdiv 10) else k
theorem X8 {R:Type} {L n:Nat} (hn:1 ≤ n) {k:Exit → List A → H → Option R}:∀ (j:Nat) (q:Int) (m:Nat) (o:Str) (h0:0 ≤ q) (hb:q ≤ 1000000000000) (hq:q < 10 ^ j) (hj:j ≤ 20) (hm:j < m) (ho:o.length + j ≤ 1000),
  aJ env (aA env L n) L 0 [] (U1 (Z1 (U2 (Z16 ([]))))) (zZ 0) (Z1 (U1 (Z2 (U16 ([]))))) m (nI q :: Y1 (.d (.str ([])) :: .d (.str o) :: Y16 ([]))) [] k
  = k (.exit 0) (nI (kEnd j q) :: Y1 (.d (.str ([])) :: .d (.str ((digT j q o))) :: Y16 ([]))) []:=by
 intro j
 induction j with
 | zero =>
  intro q m o h0 hb hq hj hm ho
  obtain _ | m:=m; omega
  obtain rfl:q = 0:=by simp at hq; omega
  rw [D6]
  simp only [FL,Tryz.f57,SLM,simprocAttr]
  simp -implicitDefEqProofs (maxSteps:=2000000) (disch:=try exact Dz) only [↓DN,↓kAsg,↓kRet,UP,simprocAttr]
  rfl
 | succ j ih =>
  intro q m o h0 hb hq hj hm ho
  obtain _ | m:=m; omega
  simp only [kEnd,digT]
  by_cases hp:0 < q
  ·have t0:0 ≤ q.tdiv 10:=Int.tdiv_nonneg h0 (by omega)
   have t2:q.tdiv 10 ≤ q:=by
    rw [Int.tdiv_eq_ediv_of_nonneg h0]; omega
   have t1:q.tdiv 10 < 10 ^ j:=by
    rw [Int.tdiv_eq_ediv_of_nonneg h0]
    refine Int.ediv_lt_of_lt_mul (by omega) ?_
    rw [Int.pow_succ] at hq; exact hq
   have ih':=ih (q.tdiv 10) m (digB q :: o) t0 (by omega) t1 (by omega) (by omega) (by simp; omega)
   have e:=aVQ h0
   have e2:[D.int .u8 ((digB q).toNat:Int)] = dA [digB q]:=rfl
   have r1:0 ≤ q.tmod 10 ∧ q.tmod 10 < 10:=by rw [Int.tmod_eq_emod_of_nonneg h0]; omega
   obtain ⟨r1,r2⟩:=r1
   have e3:IntKind.i64.wrap (q.tdiv 10) = q.tdiv 10:=FT (by omega) (by omega)
   clear ih hq
   simp only [if_pos hp]
   rw [D6]
   simp only [FL,Tryz.f57,SLM,simprocAttr]
   simp -implicitDefEqProofs (maxSteps:=2000000) (disch:=try exact Dz) only [↓DN,↓kAsg,↓kRet,UP,simprocAttr,hp,e,e2,e3,↓HH,List.cons_append,List.nil_append,↓ih']
  ·simp only [if_neg hp]
   clear ih hq
   rw [D6]
   simp only [FL,Tryz.f57,SLM,simprocAttr]
   simp -implicitDefEqProofs (maxSteps:=2000000) (disch:=try exact Dz) only [↓DN,↓kAsg,↓kRet,UP,simprocAttr,hp]
theorem aOd {L n:Nat} (hn:2 ≤ n) (q:Int) (hb:q ≤ 1000000000000) (hL:2 ^ 60 ≤ L):aA env L n 57 [nI q] [] = some (.d (.str (IM q)),[]):=by
 unfold IM
 by_cases h:q ≤ 0
 ·simp only [if_pos h]
  obtain _ | n:=n; omega
  rw [aDP]
  simp only [V7,Tryz.f57,SLM,simprocAttr]
  simp -implicitDefEqProofs (maxSteps:=2000000) (disch:=try exact Dz) only [↓DN,↓kAsg,↓kRet,UP,simprocAttr,↓X8,h]
 ·simp only [if_neg h]
  have loop_c:=fun {R:Type} {n:Nat} {k:Exit → List A → H → Option R} (hn:1 ≤ n) => @X8 R L n hn k 20 q L [] (by omega) hb (by omega) (by omega) (by omega) (by simp)
  have hl:(digT 20 q []).length ≤ 20:=by
   have key:∀ (j:Nat) (q:Int) (o:Str),(digT j q o).length ≤ o.length + j:=by
    intro j
    induction j with
    | zero => intro q o; exact Nat.le_refl _
    | succ j ih =>
     intro q o
     unfold digT
     split
     ·have:=ih (q.tdiv 10) (digB q :: o); simp at this ⊢; omega
     ·omega
   simpa using key 20 q []
  generalize digT 20 q [] = w at *
  obtain _ | n:=n; omega
  rw [aDP]
  simp only [V7,Tryz.f57,SLM,simprocAttr]
  simp -implicitDefEqProofs (maxSteps:=2000000) (disch:=try exact Dz) only [↓DN,↓kAsg,↓kRet,UP,simprocAttr,h,↓loop_c,List.cons_append,List.nil_append]
theorem oY {L:Nat} (q:Int) (hb:q ≤ 1000000000000) (hL:2 ^ 60 ≤ L):KC 2 L 57 [nI q] (.d (.str (IM q))):=ks rfl (fun hn => aOd hn q hb hL) rfl (.inl rfl)
def pK (c:Int):Nat → List Str
 | 0 => []
 | j + 1 => IM c :: pK (c + 1) j
theorem yV:∀ (j:Nat) (c:Int),(pK c j).length = j
 | 0,_ => rfl
 | j + 1,c => by simp [pK,yV j]
theorem aHj:∀ (j:Nat) (c:Int) (i:Nat),i < j → (pK c j).getD i [] = IM (c + i)
 | 0,_,_,h => by omega
 | j + 1,c,0,_ => by simp [pK]
 | j + 1,c,i + 1,h => by
  have:=aHj j (c + 1) i (by omega)
  simp only [pK,List.getD_cons_succ,this]
  congr 1; omega
theorem aFj {R:Type} {L n:Nat} (hn:3 ≤ n) (hL:2 ^ 60 ≤ L) {z:Nat} (hz:z ≤ 16777216) {k:Exit → List A → H → Option R}:∀ (j i m:Nat) (c:Int) (o:List Str) (len:Nat) (hi:i + j = z) (hm:j < m) (ho:o.length = z) (hlen:len = z) (hc0:0 ≤ c) (hc1:c + j ≤ 1000000000000),
  aJ env (aA env L n) L (1) [] Bz31 (pC 0) Bz54 m (.sl 0 0 0 len :: nI c :: Y2 (nI 0 :: nI (i:Int) :: Y8 (Y4 (Y2 ([]))))) [.arr (aC o) 1 0] k
  = k (.exit 0) (.sl 0 0 0 len :: nI (c + j) :: Y2 (nI 0 :: nI (z:Int) :: Y8 (Y4 (Y2 ([]))))) [.arr (aC (o.take i ++ pK c j)) 1 0]:=by
 intro j
 induction j with
 | zero =>
  intro i m c o len hi hm ho hlen hc0 hc1
  obtain _ | m:=m; omega
  obtain rfl:i = z:=by omega
  subst hlen
  have e:o.take len = o:=List.take_of_length_le (by omega)
  rw [xC]
  simp only [wO,Tryz.f19,SLM,simprocAttr]
  simp -implicitDefEqProofs (maxSteps:=2000000) (disch:=try exact Dz) only [↓DN,↓kAsg,↓kRet,UP,simprocAttr,↓oY,SE,Int.lt_irrefl]
  simp [pK,e]
 | succ j ih =>
  intro i m c o len hi hm ho hlen hc0 hc1
  obtain _ | m:=m; omega
  subst hlen
  have hk:i < o.length:=by omega
  have hc:(i:Int) < len:=by omega
  have hi0:(0:Int) ≤ i:=by omega
  have ih':=ih (i + 1) m (c + 1) (o.set i (IM c)) len (by omega) (by omega) (by simpa using ho) rfl (by omega) (by omega)
  rw [show ((i + 1:Nat):Int) = (i:Int) + 1 by omega,CS hk,show c + 1 + (j:Int) = c + ((j + 1:Nat):Int) by omega] at ih'
  have hcb:c ≤ 1000000000000:=by omega
  simp only [pK]
  clear ih
  rw [xC]
  simp only [wO,Tryz.f19,SLM,simprocAttr]
  simp -implicitDefEqProofs (maxSteps:=2000000) (disch:=try exact Dz) only [↓DN,↓kAsg,↓kRet,UP,simprocAttr,↓oY,SE,hc,hi0,hcb,Int.toNat_natCast,↓aCE,↓ih']
theorem aIA {L n:Nat} (hn:4 ≤ n) (hL:2 ^ 60 ≤ L) (l:List Str) (hl:l.length ≤ 16777216):aA env L n 19 [.sl 0 0 0 l.length,nI 1] [.arr (aC l) 1 0] = some (nI (1 + l.length),[.arr (aC (pK 1 l.length)) 1 0]):=by
 have loop_c:=fun {R:Type} {n:Nat} {k:Exit → List A → H → Option R} (hn:3 ≤ n) => @aFj R L n hn hL l.length hl k l.length 0 L 1 l l.length (by omega) (by omega) rfl rfl (by omega) (by omega)
 simp only [Int.natCast_zero,List.take_zero,List.nil_append] at loop_c
 obtain _ | n:=n; omega
 rw [VP]
 simp only [K3,Tryz.f19,SLM,simprocAttr]
 simp -implicitDefEqProofs (maxSteps:=2000000) (disch:=try exact Dz) only [↓DN,↓kAsg,↓kRet,UP,simprocAttr,↓oY,SE,↓loop_c]
theorem aES {R:Type} {L n:Nat} (hn:3 ≤ n) (hL:2 ^ 60 ≤ L) {z:Nat} (hz:z ≤ 16777216) {l:List Str} (hll:l.length = z) {k:Exit → List A → H → Option R}:∀ (j i m:Nat) (c:Int) (hi:i + j = z) (hm:j < m) (hc0:0 ≤ c) (hc1:c + j ≤ 1000000000000) (hg:∀ q,q < j → l.getD (i + q) [] = IM (c + q)),
  aJ env (aA env L n) L 0 [] (U2 (Z2 (U2 (Z16 ([]))))) (sC 0) (Z2 (U2 (Z2 (U16 ([]))))) m (.d (.ivs l.length (aC l)) :: nI c :: Y2 (nI 0 :: nI (i:Int) :: Y16 ([]))) [] k
  = k (.exit 0) (.d (.ivs l.length (aC l)) :: nI (c + j) :: Y2 (nI 0 :: nI (z:Int) :: Y16 ([]))) []:=by
 intro j
 induction j with
 | zero =>
  intro i m c hi hm hc0 hc1 hg
  obtain _ | m:=m; omega
  obtain rfl:i = z:=by omega
  subst hll
  rw [JV]
  simp only [EX,Tryz.f20,SLM,simprocAttr]
  simp -implicitDefEqProofs (maxSteps:=2000000) (disch:=try exact Dz) only [↓DN,↓kAsg,↓kRet,UP,simprocAttr,↓oY,SE,Int.lt_irrefl]
  all_goals simp
 | succ j ih =>
  intro i m c hi hm hc0 hc1 hg
  obtain _ | m:=m; omega
  subst hll
  have hk:i < l.length:=by omega
  have hc:(i:Int) < l.length:=by omega
  have hi0:(0:Int) ≤ i:=by omega
  have hg0:=hg 0 (by omega)
  simp only [Nat.add_zero,Int.natCast_zero,Int.add_zero] at hg0
  have ih':=ih (i + 1) m (c + 1) (by omega) (by omega) (by omega) (by omega) (fun q hq => by
   have:=hg (q + 1) (by omega)
   rw [show i + 1 + q = i + (q + 1) by omega,this]; congr 1; omega)
  rw [show ((i + 1:Nat):Int) = (i:Int) + 1 by omega,show c + 1 + (j:Int) = c + ((j + 1:Nat):Int) by omega] at ih'
  have hcb:c ≤ 1000000000000:=by omega
  clear ih hg
  rw [JV]
  simp only [EX,Tryz.f20,SLM,simprocAttr]
  simp -implicitDefEqProofs (maxSteps:=2000000) (disch:=try exact Dz) only [↓DN,↓kAsg,↓kRet,UP,simprocAttr,↓oY,SE,hc,hi0,hcb,hg0,Int.toNat_natCast,bne_self_eq_false,↓ih']
theorem HQ {L n:Nat} (hn:4 ≤ n) (l:List Str) (hl:l.length ≤ 16777216) (hg:∀ q:Nat,q < l.length → l.getD q [] = IM (1 + q)) (hL:2 ^ 60 ≤ L):aA env L n 20 [.d (.ivs l.length (aC l)),nI 1] [] = some (nI (1 + l.length),[]):=by
 have loop_c:=fun {R:Type} {n:Nat} {k:Exit → List A → H → Option R} (hn:3 ≤ n) => @aES R L n hn hL l.length hl l rfl k l.length 0 L 1 (by omega) (by omega) (by omega) (by omega) (fun q hq => by rw [Nat.zero_add]; exact hg q hq)
 simp only [Int.natCast_zero] at loop_c
 clear hg
 obtain _ | n:=n; omega
 rw [aIU]
 simp only [X5,Tryz.f20,SLM,simprocAttr]
 simp -implicitDefEqProofs (maxSteps:=2000000) (disch:=try exact Dz) only [↓DN,↓kAsg,↓kRet,UP,simprocAttr,↓oY,SE,↓loop_c]
theorem aH9 {L:Nat} (l:List Str) (hl:l.length ≤ 16777216) (hg:∀ q:Nat,q < l.length → l.getD q [] = IM (1 + q)) (hL:2 ^ 60 ≤ L):KC 4 L 20 [.d (.ivs l.length (aC l)),nI 1] (nI (1 + l.length)):=ks rfl (fun hn => HQ hn l hl hg hL) rfl (.inl rfl)
theorem aIQ {L:Nat} (l:List Str) (hl:l.length ≤ 16777216) (hg:∀ q:Nat,q < l.length → l.getD q [] = IM (1 + q)) (hL:2 ^ 60 ≤ L):KT 4 L 20 [.d (.ivs l.length (aC l)),nI 1] (nI (1 + l.length)):=fun hn => bY (HQ hn l hl hg hL) rfl
theorem aEr {L:Nat} {id0 g0 o0 len0:Nat} :KV L 20 [.sl id0 g0 o0 len0,nI 1]:=aF uI
theorem aIy {R:Type} {L n:Nat} (hn:1 ≤ n) {l:List Str} (hl:l.length ≤ 4294967296) {k:Exit → List A → H → Option R}:∀ (i:Int) (m:Nat) (h0:0 ≤ i) (hi:i ≤ l.length) (hm:(l.length:Int) - i < m),
  aJ env (aA env L n) L 0 [] Bz9 (w8 0) Bz35 m (.d (.ivs l.length (aC l)) :: .d (.ivs l.length (aC l)) :: Y2 (.d (.bool false) :: nI i :: Y16 (Y4 ([])))) [] k
  = k (.exit 0) (.d (.ivs l.length (aC l)) :: .d (.ivs l.length (aC l)) :: Y2 (.d (.bool false) :: nI (l.length) :: Y16 (Y4 ([])))) []:=by
 intro i m h0 hi hm
 obtain ⟨j,hj⟩:∃ j:Nat,(j:Int) = (l.length:Int) - i:=⟨((l.length:Int) - i).toNat,by omega⟩
 induction j generalizing i m with
 | zero =>
  obtain _ | m:=m; omega
  obtain rfl:i = l.length:=by omega
  rw [PM]
  simp only [LI,Tryz.f16,SLM,simprocAttr]
  simp -implicitDefEqProofs (maxSteps:=2000000) (disch:=try exact Dz) only [↓DN,↓kAsg,↓kRet,UP,simprocAttr,SE,Int.lt_irrefl]
 | succ j ih =>
  obtain _ | m:=m; omega
  have hc:i < l.length:=by omega
  have hk:i.toNat < l.length:=by omega
  rw [PM]
  simp only [LI,Tryz.f16,SLM,simprocAttr]
  simp -implicitDefEqProofs (maxSteps:=2000000) (disch:=try exact Dz) only [↓DN,↓kAsg,↓kRet,UP,simprocAttr,SE,hc,bne_self_eq_false,↓ih]
theorem N2 {L n:Nat} (hn:2 ≤ n) (l:List Str) (hl:l.length ≤ 4294967296) (hL:2 ^ 60 ≤ L):aA env L n 16 [.d (.ivs l.length (aC l)),.d (.ivs l.length (aC l))] [] = some (.d (.bool true),[]):=by
 obtain _ | n:=n; omega
 rw [aNP]
 simp only [aEc,Tryz.f16,SLM,simprocAttr]
 simp -implicitDefEqProofs (maxSteps:=2000000) (disch:=try exact Dz) only [↓DN,↓kAsg,↓kRet,UP,simprocAttr,↓aIy,SE]
theorem aNd {L:Nat} (l:List Str) (hl:l.length ≤ 4294967296) (hL:2 ^ 60 ≤ L):KC 2 L 16 [.d (.ivs l.length (aC l)),.d (.ivs l.length (aC l))] (.d (.bool true)):=ks rfl (fun hn => N2 hn l hl hL) rfl (.inl rfl)
theorem aLS {L:Nat} (l:List Str) (hl:l.length ≤ 4294967296) (hL:2 ^ 60 ≤ L):KT 2 L 16 [.d (.ivs l.length (aC l)),.d (.ivs l.length (aC l))] (.d (.bool true)):=fun hn => bY (N2 hn l hl hL) rfl
theorem aIw {L:Nat} {id0 g0 o0 len0:Nat} {l:List Str}:KV L 16 [.sl id0 g0 o0 len0,.d (.ivs l.length (aC l))]:=aF o8
theorem aIi {L:Nat} {id1 g1 o1 len1:Nat} {l:List Str}:KV L 16 [.d (.ivs l.length (aC l)),.sl id1 g1 o1 len1]:=aF o8
theorem aH7 {L:Nat} {id1 g1 o1 len1:Nat} {id0 g0 o0 len0:Nat} :KV L 16 [.sl id0 g0 o0 len0,.sl id1 g1 o1 len1]:=aF o8
def nN (l:List Str) (v:Str) (i:Nat):Bool:=decide (l.getD i [] = v)
theorem aKF {l:List Str} {v:Str}:(seek (nN l v) l.length 0).isSome = decide (v ∈ l):=by
 have h:(seek (nN l v) l.length 0).isSome = true ↔ v ∈ l:=by
  constructor
  ·intro h
   cases hs:seek (nN l v) l.length 0 with
   | none => rw [hs] at h; cases h
   | some r =>
    obtain ⟨h1,h2,h3,_⟩:=R1 hs
    unfold nN at h3
    rw [decide_eq_true_eq] at h3
    rw [← h3]
    exact aVq (by omega)
  ·intro h
   obtain ⟨i,hi,rfl⟩:=List.getElem_of_mem h
   cases hs:seek (nN l l[i]) l.length 0 with
   | some r => rfl
   | none =>
    have:=xI.1 hs i (by omega) (by omega)
    unfold nN at this
    rw [List.getD_eq_getElem?_getD,List.getElem?_eq_getElem hi] at this
    simp at this
 cases hb:(seek (nN l v) l.length 0).isSome with
 | true => rw [decide_eq_true (h.1 hb)]
 | false => rw [decide_eq_false fun hv => by rw [h.2 hv] at hb; cases hb]
theorem aNo {R:Type} {L n:Nat} (hn:1 ≤ n) {l:List Str} {v:Str} (hl:l.length ≤ 4294967296) {k:Exit → List A → H → Option R}:∀ (j i m:Nat) (hi:i + j = l.length) (hm:j < m),
  aJ env (aA env L n) L 0 [] Bz26 (F0 0) Bz59 m (.d (.ivs l.length (aC l)) :: .d (.str v) :: Y2 (.d (.bool false) :: nI (i:Int) :: Y8 (Y4 ([])))) [] k
  = match seek (nN l v) j i with
   | none => k (.exit 0) (.d (.ivs l.length (aC l)) :: .d (.str v) :: Y2 (.d (.bool false) :: nI (l.length) :: Y8 (Y4 ([])))) []
   | some q => k .ret (.d (.ivs l.length (aC l)) :: .d (.str v) :: Y2 (.d (.bool true) :: nI (q:Int) :: Y8 (Y4 ([])))) []:=by
 intro j
 induction j with
 | zero =>
  intro i m hi hm
  obtain _ | m:=m; omega
  obtain rfl:i = l.length:=by omega
  rw [G9]
  simp only [IL,Tryz.f87,SLM,simprocAttr]
  simp -implicitDefEqProofs (maxSteps:=2000000) (disch:=try exact Dz) only [↓DN,↓kAsg,↓kRet,UP,simprocAttr,SE,Int.lt_irrefl]
  rfl
 | succ j ih =>
  intro i m hi hm
  obtain _ | m:=m; omega
  have hc:(i:Int) < l.length:=by omega
  have hk:i < l.length:=by omega
  have hi0:(0:Int) ≤ i:=by omega
  by_cases h1:l.getD i [] = v
  ·have hb:nN l v i = true:=by unfold nN; rw [decide_eq_true h1]
   rw [pE hb]
   clear ih
   rw [G9]
   simp only [IL,Tryz.f87,SLM,simprocAttr]
   simp -implicitDefEqProofs (maxSteps:=2000000) (disch:=try exact Dz) only [↓DN,↓kAsg,↓kRet,UP,simprocAttr,SE,hc,hi0,h1,Int.toNat_natCast,beq_self_eq_true]
  ·have hb:nN l v i = false:=by unfold nN; rw [decide_eq_false h1]
   rw [uK hb]
   have ih':=ih (i + 1) m (by omega) (by omega)
   rw [show ((i + 1:Nat):Int) = (i:Int) + 1 by omega] at ih'
   have h2:(l.getD i [] == v) = false:=by simpa using h1
   clear ih
   rw [G9]
   simp only [IL,Tryz.f87,SLM,simprocAttr]
   simp -implicitDefEqProofs (maxSteps:=2000000) (disch:=try exact Dz) only [↓DN,↓kAsg,↓kRet,UP,simprocAttr,SE,hc,hi0,h2,Int.toNat_natCast,↓ih']
theorem aFP {L n:Nat} (hn:2 ≤ n) (l:List Str) (v:List UInt8) (hl:l.length ≤ 4294967296) (hL:2 ^ 60 ≤ L):aA env L n 87 [.d (.ivs l.length (aC l)),.d (.str v)] [] = some (.d (.bool (decide (v ∈ l))),[]):=by
 have loop_c:=fun {R:Type} {n:Nat} {k:Exit → List A → H → Option R} (hn:1 ≤ n) => @aNo R L n hn l v hl k l.length 0 L (by omega) (by omega)
 rw [← aKF]
 simp only [Int.natCast_zero] at loop_c
 cases hs:seek (nN l v) l.length 0 with
 | none =>
  rw [hs] at loop_c
  simp only [Option.isSome_none]
  obtain _ | n:=n; omega
  rw [aGo]
  simp only [aBh,Tryz.f87,SLM,simprocAttr]
  simp -implicitDefEqProofs (maxSteps:=2000000) (disch:=try exact Dz) only [↓DN,↓kAsg,↓kRet,UP,simprocAttr,SE,↓loop_c]
 | some q =>
  rw [hs] at loop_c
  simp only [Option.isSome_some]
  obtain _ | n:=n; omega
  rw [aGo]
  simp only [aBh,Tryz.f87,SLM,simprocAttr]
  simp -implicitDefEqProofs (maxSteps:=2000000) (disch:=try exact Dz) only [↓DN,↓kAsg,↓kRet,UP,simprocAttr,SE,↓loop_c]
theorem qP {L:Nat} (l:List Str) (v:List UInt8) (hl:l.length ≤ 4294967296) (hL:2 ^ 60 ≤ L):KC 2 L 87 [.d (.ivs l.length (aC l)),.d (.str v)] (.d (.bool (decide (v ∈ l)))):=ks rfl (fun hn => aFP hn l v hl hL) rfl (.inl rfl)
theorem yW {L:Nat} (l:List Str) (v:List UInt8) (hl:l.length ≤ 4294967296) (hL:2 ^ 60 ≤ L):KT 2 L 87 [.d (.ivs l.length (aC l)),.d (.str v)] (.d (.bool (decide (v ∈ l)))):=fun hn => bY (aFP hn l v hl hL) rfl
theorem nT {L:Nat} {id0 g0 o0 len0:Nat} {v:List UInt8}:KV L 87 [.sl id0 g0 o0 len0,.d (.str v)]:=aF O5
theorem DB {R:Type} {L n:Nat} (hn:1 ≤ n) {l:List Str} {v:Str} {i5:A} (hl:l.length ≤ 4294967296) {k:Exit → List A → H → Option R}:∀ (j i m:Nat) (hi:i + j = l.length) (hm:j < m),
  aJ env (aA env L n) L 0 [] Bz43 (fR 0) (Z2 (U2 (Z1 (U2 (Z2 (U8 (U2 ([])))))))) m (.d (.ivs l.length (aC l)) :: .d (.str v) :: Y2 (nI 0 :: Y2 (nI (l.length) :: nI (i:Int) :: Y8 (Y2 ([]))))) [] k
  = match seek (nN l v) j i with
   | none => k (.exit 0) (.d (.ivs l.length (aC l)) :: .d (.str v) :: Y2 (nI 0 :: Y2 (nI (l.length) :: nI (l.length) :: Y8 (Y2 ([]))))) []
   | some q => k .ret (.d (.ivs l.length (aC l)) :: .d (.str v) :: Y2 (nI (q:Int) :: Y2 (nI (l.length) :: nI (q:Int) :: Y8 (Y2 ([]))))) []:=by
 intro j
 induction j with
 | zero =>
  intro i m hi hm
  obtain _ | m:=m; omega
  obtain rfl:i = l.length:=by omega
  rw [kD]
  simp only [iO,Tryz.f110,SLM,simprocAttr]
  simp -implicitDefEqProofs (maxSteps:=2000000) (disch:=try exact Dz) only [↓DN,↓kAsg,↓kRet,UP,simprocAttr,SE,Int.lt_irrefl]
  rfl
 | succ j ih =>
  intro i m hi hm
  obtain _ | m:=m; omega
  have hc:(i:Int) < l.length:=by omega
  have hk:i < l.length:=by omega
  have hi0:(0:Int) ≤ i:=by omega
  by_cases h1:l.getD i [] = v
  ·have hb:nN l v i = true:=by unfold nN; rw [decide_eq_true h1]
   rw [pE hb]
   clear ih
   rw [kD]
   simp only [iO,Tryz.f110,SLM,simprocAttr]
   simp -implicitDefEqProofs (maxSteps:=2000000) (disch:=try exact Dz) only [↓DN,↓kAsg,↓kRet,UP,simprocAttr,SE,hc,hi0,h1,Int.toNat_natCast,beq_self_eq_true]
  ·have hb:nN l v i = false:=by unfold nN; rw [decide_eq_false h1]
   rw [uK hb]
   have ih':=ih (i + 1) m (by omega) (by omega)
   rw [show ((i + 1:Nat):Int) = (i:Int) + 1 by omega] at ih'
   have h2:(v == l.getD i []) = false:=by simpa using fun h => h1 h.symm
   clear ih
   rw [kD]
   simp only [iO,Tryz.f110,SLM,simprocAttr]
   simp -implicitDefEqProofs (maxSteps:=2000000) (disch:=try exact Dz) only [↓DN,↓kAsg,↓kRet,UP,simprocAttr,SE,hc,hi0,h2,Int.toNat_natCast,↓ih']
def VN (l:List Str) (v:Str):Int:=match seek (nN l v) l.length 0 with | none => -1 | some q => q
theorem rO {L n:Nat} (hn:2 ≤ n) (l:List Str) (v:List UInt8) (hl:l.length ≤ 4294967296) (hL:2 ^ 60 ≤ L):aA env L n 110 [.d (.ivs l.length (aC l)),.d (.str v)] [] = some (nI (VN l v),[]):=by
 have loop_c:=fun {R:Type} {n:Nat} {k:Exit → List A → H → Option R} (hn:1 ≤ n) => @DB R L n hn l v (.junk) hl k l.length 0 L (by omega) (by omega)
 simp only [Int.natCast_zero] at loop_c
 unfold VN
 cases hs:seek (nN l v) l.length 0 with
 | none =>
  rw [hs] at loop_c
  simp only
  obtain _ | n:=n; omega
  rw [rJ]
  simp only [m9,Tryz.f110,SLM,simprocAttr]
  simp -implicitDefEqProofs (maxSteps:=2000000) (disch:=try exact Dz) only [↓DN,↓kAsg,↓kRet,UP,simprocAttr,SE,↓loop_c]
 | some q =>
  rw [hs] at loop_c
  simp only
  obtain _ | n:=n; omega
  rw [rJ]
  simp only [m9,Tryz.f110,SLM,simprocAttr]
  simp -implicitDefEqProofs (maxSteps:=2000000) (disch:=try exact Dz) only [↓DN,↓kAsg,↓kRet,UP,simprocAttr,SE,↓loop_c]
theorem F5 {L:Nat} (l:List Str) (v:List UInt8) (hl:l.length ≤ 4294967296) (hL:2 ^ 60 ≤ L):KC 2 L 110 [.d (.ivs l.length (aC l)),.d (.str v)] (nI (VN l v)):=ks rfl (fun hn => rO hn l v hl hL) rfl (.inl rfl)
theorem F4 {L:Nat} (l:List Str) (v:List UInt8) (hl:l.length ≤ 4294967296) (hL:2 ^ 60 ≤ L):KT 2 L 110 [.d (.ivs l.length (aC l)),.d (.str v)] (nI (VN l v)):=fun hn => bY (rO hn l v hl hL) rfl
theorem DC {L:Nat} {id0 g0 o0 len0:Nat} {v:List UInt8}:KV L 110 [.sl id0 g0 o0 len0,.d (.str v)]:=aF k6
theorem aQA {l:List Str} {v:Str}:decide (0 ≤ VN l v) = decide (v ∈ l):=by
 rw [← aKF]
 unfold VN
 cases seek (nN l v) l.length 0 with
 | none => rfl
 | some q => simp
theorem pI {L n:Nat} (hn:3 ≤ n) (l:List Str) (v:List UInt8) (hl:l.length ≤ 4294967296) (hL:2 ^ 60 ≤ L):aA env L n 71 [.d (.ivs l.length (aC l)),.d (.str v)] [] = some (.d (.bool (decide (v ∈ l))),[]):=by
 rw [← aQA]
 obtain _ | n:=n; omega
 rw [BM]
 simp only [pX,Tryz.f71,SLM,simprocAttr]
 simp -implicitDefEqProofs (maxSteps:=2000000) (disch:=try exact Dz) only [↓DN,↓kAsg,↓kRet,UP,simprocAttr,↓F5,↓F4,↓DC,SE]
theorem dG {L:Nat} (l:List Str) (v:List UInt8) (hl:l.length ≤ 4294967296) (hL:2 ^ 60 ≤ L):KC 3 L 71 [.d (.ivs l.length (aC l)),.d (.str v)] (.d (.bool (decide (v ∈ l)))):=ks rfl (fun hn => pI hn l v hl hL) rfl (.inl rfl)
theorem e8 {L:Nat} (l:List Str) (v:List UInt8) (hl:l.length ≤ 4294967296) (hL:2 ^ 60 ≤ L):KT 3 L 71 [.d (.ivs l.length (aC l)),.d (.str v)] (.d (.bool (decide (v ∈ l)))):=fun hn => bY (pI hn l v hl hL) rfl
theorem dC {L:Nat} {id0 g0 o0 len0:Nat} {v:List UInt8}:KV L 71 [.sl id0 g0 o0 len0,.d (.str v)]:=aF jZ
section
theorem aAJ:∀ (rs:List (List Int)) (l:Int),0 ≤ kQ rs l → (aG rs:Int) ≤ l
 | [],l,h => by simpa [kQ,aG] using h
 | r :: rs,l,h => by
  simp only [kQ] at h
  split at h
  ·omega
  ·have:=aAJ rs _ h
   simp only [aG]
   omega
theorem aKS {rs:List (List Int)} {ac:List Bool} (h:¬ szA rs ac 1048576 < 0):aG rs ≤ 1048576:=by
 unfold szA at h
 split at h
 ·omega
 ·rename_i h1
  unfold szSS at h1
  split at h1
  ·omega
  ·have:=aAJ rs (1048576 - rs.length) (by omega)
   omega
theorem xM {al:Int} {rs:List (List Int)} {ac:List Bool}:idsA (autD al rs ac) = []:=rfl
theorem aM0 {E:Env} {f:FuncId} {h:H} {ord:List Nat} (hm:(E.hint f).mode = 1):rW E f h h ord = some (h,{ ids:=ord,ro:=true }):=by
 unfold rW
 rw [hm]
 simp
theorem aKP {E:Env} {f:FuncId} {h t:H} (hm:(E.hint f).mode = 2):rW E f h (h ++ t) [] = some (h ++ t,{ ids:=List.range' h.length t.length,ro:=false }):=by
 unfold rW
 rw [hm]
 simp [wrC]
theorem m7 {h h2:H} {i:Nat} {o:O} (hi:h[i]? = some o):(h ++ h2)[i]? = some o:=by
 rw [List.getElem?_append_left (oW hi)]; exact hi
theorem XA {a:A} {i n k:Nat} (hi:idsA a = [i]) (h:i < n):qX { ids:=idsA a } { ids:=List.range' n k,ro:=false } = false:=by
 rw [hi]
 unfold qX
 simp only [Bool.not_true,Bool.false_and,Bool.not_false,Bool.true_and,Bool.false_or,List.any_eq_false,List.mem_range'_1,List.contains_iff_mem,List.mem_singleton]
 intro x hx
 omega
theorem OE {h:H} {id:Nat} {l:List Str} (hi:h[id]? = some (.arr (aC l) 1 0)):rdA h (.sl id 0 0 l.length) = some (.d (.ivs l.length (aC l))):=by
 have e:(aC l).take l.length = aC l:=gC (Nat.le_refl _)
 simp [rdA,rd1,rd0,hi,iC,e]
theorem aPQ (l:List Str):kG (.arr (aC l) 1 0) = true:=by
 have key:∀ l:List Str,(l.map D.str).all x7 = true:=by
  intro l
  induction l with
  | nil => rfl
  | cons s l ih => simp only [List.map_cons,List.all_cons,ih,Bool.and_true]; rfl
 simp only [kG]
 exact key l
theorem aGz:∀ {h:H} {i:Nat} {o:O},i < h.length → kJ o = [] → wgt (h.set i o) ≤ wgt h
 | [],i,o,hi,_ => by simp at hi
 | x :: h,0,o,_,ho => by
  have e1:=l7 [o] h
  have e2:=l7 [x] h
  have e3:wgt [o] = 0:=by
   cases o <;> simp [wgt,kJ] at ho ⊢ <;> simp [ho]
  simp only [List.set_cons_zero]
  simp only [List.cons_append,List.nil_append] at e1 e2
  omega
 | x :: h,i + 1,o,hi,ho => by
  have ih:=aGz (h:=h) (i:=i) (o:=o) (by simpa using hi) ho
  have e1:=l7 [x] (h.set i o)
  have e2:=l7 [x] h
  simp only [List.set_cons_succ]
  simp only [List.cons_append,List.nil_append] at e1 e2
  omega
theorem aBm {R:Type} {L n m:Nat} {k:Exit → List A → H → Option R}:aJ env (aA env L n) L (0) [] Bz31 (pC 0) Bz54 (m + 1) (.d (.ivs 0 []) :: nI 1 :: Y2 (nI 0 :: nI 0 :: Y8 (Y4 (Y2 ([]))))) [] k = k (.exit 0) (.d (.ivs 0 []) :: nI 1 :: Y2 (nI 0 :: nI 0 :: Y8 (Y4 (Y2 ([]))))) []:=by
 rw [xC]
 simp only [wO,Tryz.f19,SLM,simprocAttr]
 simp -implicitDefEqProofs (maxSteps:=2000000) (disch:=try exact Dz) only [↓DN,↓kAsg,↓kRet,UP,simprocAttr,↓oY,Int.lt_irrefl]
theorem aCL {L n:Nat} (hn:4 ≤ n) (hL:2 ^ 60 ≤ L):aA env L n 19 [.d (.ivs 0 []),nI 1] [] = some (nI 1,[]):=by
 have loop_c:=fun {R:Type} {n:Nat} {k:Exit → List A → H → Option R} => @aBm R L n (L - 1) k
 rw [show L - 1 + 1 = L by omega] at loop_c
 obtain _ | n:=n; omega
 rw [VP]
 simp only [K3,Tryz.f19,SLM,simprocAttr]
 simp -implicitDefEqProofs (maxSteps:=2000000) (disch:=try exact Dz) only [↓DN,↓kAsg,↓kRet,UP,simprocAttr,↓oY,↓loop_c]
section
variable {L n:Nat} {h:H}
theorem ND {l:List Str} {args:List A} (hn:2 ≤ n) (hl:l.length ≤ 4294967296) (hr:rdAs h args = some [.d (.ivs l.length (aC l)),.d (.ivs l.length (aC l))]) (hw:(idsL args).length + wgt h ≤ 1099511627776) (hL:2 ^ 60 ≤ L):∀ {R:Type} {k:A → H → Option R},aW env (aA env L n) h 16 args k = k (.d (.bool true)) h:=by
 intro R k
 rw [XY o8 hr hw]
 exact bY (N2 hn l hl hL) rfl
theorem QT {l:List Str} {args:List A} (hn:4 ≤ n) (hl:l.length ≤ 16777216) (hr:rdAs h args = some [.d (.ivs l.length (aC (pK 1 l.length))),nI 1]) (hw:(idsL args).length + wgt h ≤ 1099511627776) (hL:2 ^ 60 ≤ L):∀ {R:Type} {k:A → H → Option R},aW env (aA env L n) h 20 args k = k (nI (1 + l.length)) h:=by
 intro R k
 rw [XY uI hr hw]
 have:=HQ hn (pK 1 l.length) (by rw [yV]; exact hl) (fun q hq => by rw [yV] at hq; exact aHj _ _ _ hq) hL
 rw [yV] at this
 exact bY this rfl
end
end
section
def vZ:List Int → List Int → Prop
 | a :: x,b :: y => a < b ∨ a = b ∧ vZ x y
 | _,_ => False
def slt (x y:List Int):Prop:=x.length < y.length ∨ x.length = y.length ∧ vZ x y
theorem aJC:∀ x:List Int,¬ vZ x x
 | [],h => h
 | a :: x,h => by
  rcases h with h | ⟨_,h⟩
  ·omega
  ·exact aJC x h
theorem aDG:∀ {x y z:List Int},vZ x y → vZ y z → vZ x z
 | [],_,_,h,_ => h.elim
 | _ :: _,[],_,h,_ => h.elim
 | _ :: _,_ :: _,[],_,h => h.elim
 | a :: x,b :: y,c :: z,h,k => by
  rcases h with h | ⟨rfl,h⟩
  ·rcases k with k | ⟨rfl,k⟩
   ·exact .inl (by omega)
   ·exact .inl h
  ·rcases k with k | ⟨rfl,k⟩
   ·exact .inl k
   ·exact .inr ⟨rfl,aDG h k⟩
theorem aKT:∀ {x y:List Int},x.length = y.length → x = y ∨ vZ x y ∨ vZ y x
 | [],[],_ => .inl rfl
 | [],_ :: _,h => by simp at h
 | _ :: _,[],h => by simp at h
 | a :: x,b :: y,h => by
  rcases Int.lt_trichotomy a b with h1 | h1 | h1
  ·exact .inr (.inl (.inl h1))
  ·subst h1
   rcases aKT (x:=x) (y:=y) (by simpa using h) with h2 | h2 | h2
   ·exact .inl (by rw [h2])
   ·exact .inr (.inl (.inr ⟨rfl,h2⟩))
   ·exact .inr (.inr (.inr ⟨rfl,h2⟩))
  ·exact .inr (.inr (.inl h1))
theorem aH0 (x:List Int):¬ slt x x:=by
 intro h
 rcases h with h | ⟨_,h⟩
 ·omega
 ·exact aJC x h
theorem QO {x y z:List Int} (h:slt x y) (k:slt y z):slt x z:=by
 rcases h with h | ⟨h1,h⟩ <;> rcases k with k | ⟨k1,k⟩
 ·exact .inl (by omega)
 ·exact .inl (by omega)
 ·exact .inl (by omega)
 ·exact .inr ⟨by omega,aDG h k⟩
theorem aO0 (x y:List Int):x = y ∨ slt x y ∨ slt y x:=by
 rcases Nat.lt_trichotomy x.length y.length with h | h | h
 ·exact .inr (.inl (.inl h))
 ·rcases aKT h with k | k | k
  ·exact .inl k
  ·exact .inr (.inl (.inr ⟨h,k⟩))
  ·exact .inr (.inr (.inr ⟨h.symm,k⟩))
 ·exact .inr (.inr (.inl h))
theorem ML:∀ {u v:List Int} {a b:Int},u.length = v.length → (vZ (u ++ [a]) (v ++ [b]) ↔ vZ u v ∨ u = v ∧ a < b)
 | [],[],a,b,_ => by simp [vZ]
 | [],_ :: _,a,b,h => by simp at h
 | _ :: _,[],a,b,h => by simp at h
 | x :: u,y :: v,a,b,h => by
  have ih:=ML (u:=u) (v:=v) (a:=a) (b:=b) (by simpa using h)
  simp only [List.cons_append,vZ,ih,List.cons.injEq]
  constructor
  ·rintro (k | ⟨rfl,k | ⟨rfl,k⟩⟩)
   ·exact .inl (.inl k)
   ·exact .inl (.inr ⟨rfl,k⟩)
   ·exact .inr ⟨⟨rfl,rfl⟩,k⟩
  ·rintro ((k | ⟨rfl,k⟩) | ⟨⟨rfl,rfl⟩,k⟩)
   ·exact .inl k
   ·exact .inr ⟨rfl,.inl k⟩
   ·exact .inr ⟨rfl,.inr ⟨rfl,k⟩⟩
theorem XW {u v:List Int} {a b:Int}:slt (u ++ [a]) (v ++ [b]) ↔ slt u v ∨ u = v ∧ a < b:=by
 unfold slt
 simp only [List.length_append,List.length_cons,List.length_nil]
 constructor
 ·rintro (h | ⟨h,k⟩)
  ·exact .inl (.inl (by omega))
  ·have hl:u.length = v.length:=by omega
   rcases (ML hl).1 k with k | k
   ·exact .inl (.inr ⟨hl,k⟩)
   ·exact .inr k
 ·rintro ((h | ⟨h,k⟩) | ⟨rfl,k⟩)
  ·exact .inl (by omega)
  ·exact .inr ⟨by omega,(ML h).2 (.inl k)⟩
  ·exact .inr ⟨rfl,(ML rfl).2 (.inr ⟨rfl,k⟩)⟩
def Path (nx:Int → Int → List Int) (ls:List Int):Int → List Int → Int → Prop
 | v,[],u => v = u
 | v,l :: w,u => l ∈ ls ∧ ∃ m ∈ nx v l,Path nx ls m w u
section
variable {nx:Int → Int → List Int} {ls:List Int}
theorem aLM:∀ {x y:List Int} {v u:Int},Path nx ls v (x ++ y) u ↔ ∃ m,Path nx ls v x m ∧ Path nx ls m y u
 | [],y,v,u => by simp [Path]
 | l :: x,y,v,u => by
  simp only [List.cons_append,Path,aLM (x:=x)]
  constructor
  ·rintro ⟨h,m,hm,q,h1,h2⟩
   exact ⟨q,⟨h,m,hm,h1⟩,h2⟩
  ·rintro ⟨q,⟨h,m,hm,h1⟩,h2⟩
   exact ⟨h,m,hm,q,h1,h2⟩
theorem aJF {w:List Int} {l v u:Int}:Path nx ls v (w ++ [l]) u ↔ l ∈ ls ∧ ∃ m,Path nx ls v w m ∧ u ∈ nx m l:=by
 rw [aLM]
 simp only [Path]
 constructor
 ·rintro ⟨m,h1,h2,q,h3,rfl⟩
  exact ⟨h2,m,h1,h3⟩
 ·rintro ⟨h2,m,h1,h3⟩
  exact ⟨m,h1,h2,u,h3,rfl⟩
def yH (nx:Int → Int → List Int) (ls start w:List Int) (u:Int):Prop:=∃ s ∈ start,Path nx ls s w u
def Hits (nx:Int → Int → List Int) (ls start:List Int) (gl:Int → Bool) (w:List Int):Prop:=∃ u,yH nx ls start w u ∧ gl u = true
def aCH (P:List Int → Prop) (w:List Int):Prop:=P w ∧ ∀ x,P x → ¬ slt x w
theorem aNg {P:List Int → Prop} {x y:List Int} (hx:aCH P x) (hy:aCH P y):x = y:=by
 rcases aO0 x y with h | h | h
 ·exact h
 ·exact (hy.2 x hx.1 h).elim
 ·exact (hx.2 y hy.1 h).elim
def M0 (P:List Int → Prop) (r:List Int × Bool):Prop:=(r.2 = true ∧ aCH P r.1) ∨ (r = ([],false) ∧ ∀ w,¬ P w)
theorem wT {P:List Int → Prop} {r q:List Int × Bool} (hr:M0 P r) (hq:M0 P q):r = q:=by
 rcases hr with ⟨h1,h2⟩ | ⟨h1,h2⟩ <;> rcases hq with ⟨k1,k2⟩ | ⟨k1,k2⟩
 ·obtain ⟨a,b⟩:=r
  obtain ⟨c,d⟩:=q
  simp only at h1 k1 h2 k2
  subst h1; subst k1
  rw [aNg h2 k2]
 ·exact (k2 _ h2.1).elim
 ·exact (h2 _ k2.1).elim
 ·rw [h1,k1]
theorem aG2 {P Q:List Int → Prop} {r:List Int × Bool} (h:∀ w,P w ↔ Q w) (hr:M0 P r):M0 Q r:=by
 have:P = Q:=funext fun w => propext (h w)
 rw [← this]; exact hr
end
end
end Ev
end Go.Proofs.YtejmccgfigiadaaGreat
