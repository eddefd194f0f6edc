/-
  The exact laws' own functions, at automata: sizes, marks, what is held, copies.
-/
import Derived.Test.YtejmccgfigiadaaGreatBlock
import Derived.Test.YtejmccgfigiadaaGreatSortLayX
import Derived.Test.YtejmccgfigiadaaGreatAutoL
import Derived.Tactics
set_option linter.unusedSimpArgs false
set_option linter.unusedVariables false
set_option maxRecDepth 8000
set_option maxHeartbeats 4000000
namespace Go.Proofs.YtejmccgfigiadaaGreat
namespace Ev
section
variable {R:Type} {L n:Nat}
def rowsLen (rs:List (List Int)):Prop:=rs.length ≤ 9223372036854775807 ∧ ∀ r ∈ rs,r.length ≤ 9223372036854775807
theorem aR5 {rs:List (List Int)} (h:rowsLen rs) {k:Nat} (hk:k < rs.length):(rs.getD k []).length ≤ 9223372036854775807:=by
 rw [List.getD_eq_getElem?_getD,List.getElem?_eq_getElem hk]
 exact h.2 _ (List.getElem_mem hk)
def szN (left:Int) (n:Nat):Int:=if left < n then -1 else left - n
def lD:List (List Int) → Int → Int
 | [],l => l
 | r :: rs,l => if l < r.length then -1 else lD rs (l - r.length)
def szAt:List (List Int) → Int → Nat
 | [],_ => 0
 | r :: rs,l => if l < r.length then 0 else szAt rs (l - r.length) + 1
def szSS (rs:List (List Int)) (left:Int):Int:=if left < rs.length then -1 else lD rs (left - rs.length)
def szA (rs:List (List Int)) (ac:List Bool) (left:Int):Int:=if szSS rs left < 0 then -1 else szN (szSS rs left) ac.length
theorem aHA:∀ (rs:List (List Int)) (l:Int),lD rs l < 0 → 0 ≤ l → lD rs l = -1
 | [],l,h,h0 => by simp only [lD] at h; omega
 | r :: rs,l,h,h0 => by
  simp only [lD] at h ⊢
  split
  ·rfl
  ·rename_i hc
   rw [if_neg hc] at h
   exact aHA rs _ h (by omega)
theorem aC8:∀ (rs:List (List Int)) (l:Int),0 ≤ l → lD rs l ≤ l
 | [],l,h => by simp [lD]
 | r :: rs,l,h => by
  simp only [lD]
  split
  ·omega
  ·have:=aC8 rs (l - r.length) (by omega); omega
theorem aJJ:∀ (rs:List (List Int)) (l:Int),0 ≤ lD rs l → ∀ r ∈ rs,(r.length:Int) ≤ l
 | [],l,h,r,hr => by cases hr
 | q :: rs,l,h,r,hr => by
  simp only [lD] at h
  split at h
  ·omega
  ·rename_i hc
   rcases List.mem_cons.1 hr with h1 | h1
   ·subst h1; omega
   ·have:=aJJ rs _ h r h1; omega
theorem WQ (hn:1 ≤ n) (l:List Int) (left:Int) (hl:l.length ≤ 9223372036854775807) (h0:0 ≤ left) (h1:left ≤ 4294967296):aA env L n 80 [.d (.ivs l.length (ints l)),nI left] [] = some (nI (szN left l.length),[]):=by
 unfold szN
 by_cases h:left < l.length
 ·have h2:left - (l.length:Int) < 0:=by omega
  obtain _ | n:=n; omega
  simp -implicitDefEqProofs (maxSteps:=2000000) (disch:=try exact Dz) only [↓DN,↓kAsg,↓kRet,UP,simprocAttr,LA,h,h2,aLo,aHc,Tryz.f80]
 ·have h2:¬ left - (l.length:Int) < 0:=by omega
  obtain _ | n:=n; omega
  simp -implicitDefEqProofs (maxSteps:=2000000) (disch:=try exact Dz) only [↓DN,↓kAsg,↓kRet,UP,simprocAttr,LA,h,h2,aLo,aHc,Tryz.f80]
theorem EN:type_of% fun {L} l left hl h0 h1 => ks fun hn => @WQ L _ hn l left hl h0 h1:=fun {L} l left hl h0 h1 => ks fun hn => @WQ L _ hn l left hl h0 h1
theorem E9:type_of% fun {L} l left hl h0 h1 => kt fun hn => @WQ L _ hn l left hl h0 h1:=fun {L} l left hl h0 h1 => kt fun hn => @WQ L _ hn l left hl h0 h1
theorem xM {L:Nat} {id0 g0 o0 len0:Nat} {left:Int}:KV L 80 [.sl id0 g0 o0 len0,nI left]:=fun _ _ _ _ => aC XH
theorem P3 (hn:1 ≤ n) (l:List Bool) (left:Int) (hl:l.length ≤ 9223372036854775807) (h0:0 ≤ left) (h1:left ≤ 4294967296):aA env L n 40 [.d (.ivs l.length (bools l)),nI left] [] = some (nI (szN left l.length),[]):=by
 unfold szN
 by_cases h:left < l.length
 ·have h2:left - (l.length:Int) < 0:=by omega
  obtain _ | n:=n; omega
  simp -implicitDefEqProofs (maxSteps:=2000000) (disch:=try exact Dz) only [↓DN,↓kAsg,↓kRet,UP,simprocAttr,LA,h,h2,aIz,aEf,Tryz.f40]
 ·have h2:¬ left - (l.length:Int) < 0:=by omega
  obtain _ | n:=n; omega
  simp -implicitDefEqProofs (maxSteps:=2000000) (disch:=try exact Dz) only [↓DN,↓kAsg,↓kRet,UP,simprocAttr,LA,h,h2,aIz,aEf,Tryz.f40]
theorem aBd:type_of% fun {L} l left hl h0 h1 => ks fun hn => @P3 L _ hn l left hl h0 h1:=fun {L} l left hl h0 h1 => ks fun hn => @P3 L _ hn l left hl h0 h1
theorem aAG:type_of% fun {L} l left hl h0 h1 => kt fun hn => @P3 L _ hn l left hl h0 h1:=fun {L} l left hl h0 h1 => kt fun hn => @P3 L _ hn l left hl h0 h1
theorem S6 {L:Nat} {id0 g0 o0 len0:Nat} {left:Int}:KV L 40 [.sl id0 g0 o0 len0,nI left]:=fun _ _ _ _ => aC TU
theorem RG (hn:2 ≤ n) {rs:List (List Int)} (hs:rowsLen rs) {k:KE R}:∀ (i left:Int) (m:Nat) (h0:0 ≤ i) (hi:i ≤ rs.length) (hm:(rs.length:Int) - i < m) (hl0:0 ≤ left) (hl1:left ≤ 4294967296),
  aF env (aA env L n) L 0 [] Bz17 (FK 0) Bz53 m (.d (.ivs rs.length (rowsD rs)) :: nI left :: Y2 (nI 0 :: nI i :: Y16 (Y4 (Y1 ([]))))) [] k
  = if lD (rs.drop i.toNat) left < 0 then k .ret (.d (.ivs rs.length (rowsD rs)) :: nI (-1) :: Y2 (nI (-1) :: nI (i + szAt (rs.drop i.toNat) left) :: Y16 (Y4 (Y1 ([]))))) [] else k (.exit 0) (.d (.ivs rs.length (rowsD rs)) :: nI (lD (rs.drop i.toNat) left) :: Y2 (nI 0 :: nI (rs.length) :: Y16 (Y4 (Y1 ([]))))) []:=by
 intro i left m h0 hi hm hl0 hl1
 have hrl:=hs.1
 obtain ⟨j,hj⟩:∃ j:Nat,(j:Int) = (rs.length:Int) - i:=⟨((rs.length:Int) - i).toNat,by omega⟩
 induction j generalizing i left m with
 | zero =>
  obtain _ | m:=m; omega
  obtain rfl:i = rs.length:=by omega
  have e0:¬ left < 0:=by omega
  simp -implicitDefEqProofs (maxSteps:=2000000) (disch:=try exact Dz) only [↓DN,↓kAsg,↓kRet,UP,simprocAttr,↓EN,↓E9,↓xM,LA,Int.lt_irrefl,J8,LO,Tryz.f39]
  simp only [Int.toNat_natCast,List.drop_length,lD,e0,if_false]
 | succ j ih =>
  obtain _ | m:=m; omega
  have hc:i < rs.length:=by omega
  have hk:i.toNat < rs.length:=by omega
  have hrow:=aR5 hs hk
  have e1:(i + 1).toNat = i.toNat + 1:=by omega
  rw [dC hk (d:=[])]
  by_cases hz:left < (rs.getD i.toNat []).length
  ·have hz1:szN left (rs.getD i.toNat []).length = -1:=by unfold szN; rw [if_pos hz]
   simp -implicitDefEqProofs (maxSteps:=2000000) (disch:=try exact Dz) only [↓DN,↓kAsg,↓kRet,UP,simprocAttr,↓EN,↓E9,↓xM,LA,k8,lS,hc,hz1,J8,LO,Tryz.f39]
   simp only [lD,szAt,hz,if_true,Int.natCast_zero,Int.add_zero]
   rfl
  ·have hz1:szN left (rs.getD i.toNat []).length = left - (rs.getD i.toNat []).length:=by unfold szN; rw [if_neg hz]
   have hz2:¬ left - ((rs.getD i.toNat []).length:Int) < 0:=by omega
   simp -implicitDefEqProofs (maxSteps:=2000000) (disch:=try exact Dz) only [↓DN,↓kAsg,↓kRet,UP,simprocAttr,↓EN,↓E9,↓xM,LA,k8,lS,hc,hz1,hz2,↓ih,J8,LO,Tryz.f39]
   simp only [lD,szAt,hz,if_false,e1,Int.natCast_add,Int.add_assoc,Int.add_comm 1]
   rfl
theorem PW (hn:3 ≤ n) (rs:List (List Int)) (left:Int) (hs:rowsLen rs) (h0:0 ≤ left) (h1:left ≤ 4294967296) (hL:2 ^ 60 ≤ L):aA env L n 39 [.d (.ivs rs.length (rowsD rs)),nI left] [] = some (nI (szSS rs left),[]):=by
 have hrl:=hs.1
 unfold szSS
 by_cases h:left < rs.length
 ·have h2:left - (rs.length:Int) < 0:=by omega
  obtain _ | n:=n; omega
  simp -implicitDefEqProofs (maxSteps:=2000000) (disch:=try exact Dz) only [↓DN,↓kAsg,↓kRet,UP,simprocAttr,↓EN,↓E9,↓xM,↓RG,LA,h,h2,aAl,WS,Tryz.f39]
 ·have h2:¬ left - (rs.length:Int) < 0:=by omega
  by_cases h3:lD rs (left - rs.length) < 0
  ·have h4:=aHA _ _ h3 (by omega)
   obtain _ | n:=n; omega
   simp -implicitDefEqProofs (maxSteps:=2000000) (disch:=try exact Dz) only [↓DN,↓kAsg,↓kRet,UP,simprocAttr,↓EN,↓E9,↓xM,↓RG,LA,h,h2,h3,h4,Int.toNat_zero,List.drop_zero,aAl,WS,Tryz.f39]
  ·obtain _ | n:=n; omega
   simp -implicitDefEqProofs (maxSteps:=2000000) (disch:=try exact Dz) only [↓DN,↓kAsg,↓kRet,UP,simprocAttr,↓EN,↓E9,↓xM,↓RG,LA,h,h2,h3,Int.toNat_zero,List.drop_zero,aAl,WS,Tryz.f39]
theorem aA6:type_of% fun {L} rs left hs h0 h1 hL => ks fun hn => @PW L _ hn rs left hs h0 h1 hL:=fun {L} rs left hs h0 h1 hL => ks fun hn => @PW L _ hn rs left hs h0 h1 hL
theorem aAN:type_of% fun {L} rs left hs h0 h1 hL => kt fun hn => @PW L _ hn rs left hs h0 h1 hL:=fun {L} rs left hs h0 h1 hL => kt fun hn => @PW L _ hn rs left hs h0 h1 hL
theorem RS {L:Nat} {id0 g0 o0 len0:Nat} {left:Int}:KV L 39 [.sl id0 g0 o0 len0,nI left]:=fun _ _ _ _ => aC SA
theorem AK (hn:4 ≤ n) (al:Int) (rs:List (List Int)) (ac:List Bool) (left:Int) (hs:rowsLen rs) (ha:ac.length ≤ 9223372036854775807) (h0:0 ≤ left) (h1:left ≤ 4294967296) (hL:2 ^ 60 ≤ L):aA env L n 12 [.agg [nI al,.d (.ivs rs.length (rowsD rs)),.d (.ivs ac.length (bools ac))],nI left] [] = some (nI (szA rs ac left),[]):=by
 unfold szA
 by_cases h:szSS rs left < 0
 ·obtain _ | n:=n; omega
  simp -implicitDefEqProofs (maxSteps:=2000000) (disch:=try exact Dz) only [↓DN,↓kAsg,↓kRet,UP,simprocAttr,↓aA6,↓aBd,↓aAN,↓aAG,↓RS,↓S6,LA,h,KB,C6,Tryz.f12]
 ·have h5:szSS rs left ≤ left:=by
   unfold szSS at h ⊢
   split
   ·omega
   ·have:=aC8 rs (left - rs.length) (by omega); omega
  have h6:0 ≤ szSS rs left:=by omega
  have h7:szSS rs left ≤ 4294967296:=by omega
  clear h5
  by_cases h2:szN (szSS rs left) ac.length < 0
  ·have h3:szN (szSS rs left) ac.length = -1:=by
    unfold szN at h2 ⊢
    split
    ·rfl
    ·rename_i hc; rw [if_neg hc] at h2; omega
   obtain _ | n:=n; omega
   simp -implicitDefEqProofs (maxSteps:=2000000) (disch:=try exact Dz) only [↓DN,↓kAsg,↓kRet,UP,simprocAttr,↓aA6,↓aBd,↓aAN,↓aAG,↓RS,↓S6,LA,h,h2,h3,KB,C6,Tryz.f12]
  ·obtain _ | n:=n; omega
   simp -implicitDefEqProofs (maxSteps:=2000000) (disch:=try exact Dz) only [↓DN,↓kAsg,↓kRet,UP,simprocAttr,↓aA6,↓aBd,↓aAN,↓aAG,↓RS,↓S6,LA,h,h2,KB,C6,Tryz.f12]
theorem K6:type_of% fun {L} al rs ac left hs ha h0 h1 hL => ks fun hn => @AK L _ hn al rs ac left hs ha h0 h1 hL:=fun {L} al rs ac left hs ha h0 h1 hL => ks fun hn => @AK L _ hn al rs ac left hs ha h0 h1 hL
theorem KQ:type_of% fun {L} al rs ac left hs ha h0 h1 hL => kt fun hn => @AK L _ hn al rs ac left hs ha h0 h1 hL:=fun {L} al rs ac left hs ha h0 h1 hL => kt fun hn => @AK L _ hn al rs ac left hs ha h0 h1 hL
theorem DX {L:Nat} {id0 g0 o0 len0:Nat} {al:Int} {ac:List Bool} {left:Int}:KV L 12 [.agg [nI al,.sl id0 g0 o0 len0,.d (.ivs ac.length (bools ac))],nI left]:=fun _ _ _ _ => aC rL
theorem EC {L:Nat} {id1 g1 o1 len1:Nat} {al:Int} {rs:List (List Int)} {left:Int}:KV L 12 [.agg [nI al,.d (.ivs rs.length (rowsD rs)),.sl id1 g1 o1 len1],nI left]:=fun _ _ _ _ => aC rL
theorem DK {L:Nat} {id1 g1 o1 len1:Nat} {id0 g0 o0 len0:Nat} {al:Int} {left:Int}:KV L 12 [.agg [nI al,.sl id0 g0 o0 len0,.sl id1 g1 o1 len1],nI left]:=fun _ _ _ _ => aC rL
theorem aSK {rs:List (List Int)} {ac:List Bool} (h:¬ szA rs ac 1048576 < 0):rs.length ≤ 1048576 ∧ (∀ r ∈ rs,r.length ≤ 1048576) ∧ ac.length ≤ 1048576:=by
 unfold szA at h
 split at h
 ·omega
 ·rename_i h1
  unfold szSS at h h1
  split at h1
  ·omega
  ·rename_i h2
   rw [if_neg h2] at h
   have h3:=aC8 rs (1048576 - rs.length) (by omega)
   unfold szN at h
   split at h
   ·omega
   ·refine ⟨by omega,fun r hr => ?_,by omega⟩
    have:=aJJ rs (1048576 - rs.length) (by omega) r hr
    omega
def aL:List (List Int) → Nat
 | [] => 0
 | r :: rs => r.length + aL rs
end
section
section
variable {h h2:H} {nf:Nat} (hn:nf = h.length) (hk:∀ o ∈ h,∀ j ∈ aM5 o,j < nf)
include hn hk
end
theorem aXE {d:List (List Int)} {k:Nat} (h:k < d.length):(bR d)[k]? = some (.arr (ints (d.getD k [])) 1 0):=by
 rw [List.getD_eq_getElem?_getD,List.getElem?_eq_getElem h]
 exact M8 (List.getElem?_eq_getElem h)
end
section
theorem aDG {h:H}:∀ (os:H) (i:Nat),jV 0 h i os = os.map (dI 0 h 0)
 | [],_ => rfl
 | o :: os,i => by
  simp only [jV,List.map_cons,aDG os (i + 1)]
  cases o <;> simp [dI]
theorem aMm {h:H} {rs:List (List Int)}:(bR rs).map (dI 0 h 0) = bR rs:=by
 simp [bR,dI]
theorem aAn {nf:Nat} {h:H}:∀ (xs ys:List A),dL nf h (xs ++ ys) = dL nf h xs ++ dL nf h ys
 | [],ys => by simp [dL]
 | x :: xs,ys => by simp [dL,aAn xs ys]
theorem aCG {h:H}:∀ {rs:List (List Int)} {b:Nat},(∀ i,i < rs.length → fN h (b + i) = some 0) → dL 0 h (bD b rs) = bD b rs
 | [],b,_ => by simp [bD,dL]
 | r :: rs,b,hh => by
  have h0:=hh 0 (by simp)
  simp only [Nat.add_zero] at h0
  simp only [bD,dL,eM,NN,Nat.not_lt_zero,if_false,h0,if_true]
  rw [aCG (rs:=rs) (b:=b + 1) fun i hi => by
   rw [show b + 1 + i = b + (i + 1) by omega]
   exact hh (i + 1) (by simp; omega)]
theorem aOv {rs:List (List Int)} {p:H} {i:Nat} (h:i < rs.length):fN (bR rs ++ p) i = some 0:=by
 unfold fN
 rw [List.getElem?_append_left (by rw [oY]; exact h),aXE h]
theorem P0 {o:O} {h:H} {i:Nat}:fN (o :: h) (i + 1) = fN h i:=by
 unfold fN
 rw [List.getElem?_cons_succ]
theorem aOk {f:Nat → Option Nat} {h:H} {b:Nat} {rs:List (List Int)} (hh:∀ (i:Nat) (r:List Int),rs[i]? = some r → h[b + i]? = some (.arr (ints r) 1 0)):(List.range' b rs.length).map (fun i => mapO f (h.getD i default)) = bR rs:=aEt hh
theorem aQt {rs:List (List Int)} {p:H} {i:Nat} {r:List Int} (h:rs[i]? = some r):(bR rs ++ p)[i]? = some (.arr (ints r) 1 0):=by
 rw [List.getElem?_append_left (by rw [oY]; exact vI h)]
 exact M8 h
section
variable {x0 x1:D} {k z:Nat} {cs cr:List D} {d:List (List Int)} {p:H}
theorem aAh {h:H} {i:Nat} {r:List D} {e g:Nat} (hr:h[i]? = some (.arr r e g)):kids h i = []:=by simp only [kids,hr]
mutual
theorem aXd {f g:Nat → Option Nat}:∀ a:A,(∀ i ∈ idsA a,f i = g i) → mapA f a = mapA g a
 | .d x,_ => by simp only [mapA]
 | .sl id gen off len,hi => by simp only [mapA,hi id (by simp [idsA])]
 | .ptr id gen off,hi => by simp only [mapA,hi id (by simp [idsA])]
 | .mp id,hi => by simp only [mapA,hi id (by simp [idsA])]
 | .clo q caps,hi => by simp only [mapA]; rw [MV caps (by simpa only [idsA] using hi)]
 | .agg cs,hi => by simp only [mapA]; rw [MV cs (by simpa only [idsA] using hi)]
 | .tup cs,hi => by simp only [mapA]; rw [MV cs (by simpa only [idsA] using hi)]
 | .junk,_ => by simp only [mapA]
theorem MV {f g:Nat → Option Nat}:∀ xs:List A,(∀ i ∈ idsL xs,f i = g i) → aW f xs = aW g xs
 | [],_ => by simp only [aW]
 | a :: xs,hi => by
  simp only [idsL,List.mem_append] at hi
  simp only [aW]
  rw [aXd a fun i h => hi i (.inl h),MV xs fun i h => hi i (.inr h)]
end
mutual
theorem aZS {f:Nat → Option Nat}:∀ a:A,z0A a = true → z0A (mapA f a) = true
 | .d x,_ => by simp only [mapA,z0A]
 | .sl id gen off len,hz => by simp only [mapA]; cases f id <;> first | rfl | exact hz
 | .ptr id gen off,hz => by simp only [mapA]; cases f id <;> first | rfl | exact hz
 | .mp id,hz => by simp only [mapA]; cases f id <;> first | rfl | exact hz
 | .clo q caps,hz => by simp only [mapA,z0A] at hz ⊢; exact aCT caps hz
 | .agg cs,hz => by simp only [mapA,z0A] at hz ⊢; exact aCT cs hz
 | .tup cs,hz => by simp only [mapA,z0A] at hz ⊢; exact aCT cs hz
 | .junk,_ => by simp only [mapA,z0A]
theorem aCT {f:Nat → Option Nat}:∀ xs:List A,z0As xs = true → z0As (aW f xs) = true
 | [],_ => by simp only [aW,z0As]
 | a :: xs,hz => by
  simp only [z0As,Bool.and_eq_true] at hz
  simp only [aW,z0As,Bool.and_eq_true]
  exact ⟨aZS a hz.1,aCT xs hz.2⟩
end
theorem aFB {L0:List Nat} {b n:Nat} (h0:L0.Nodup) (hlt:∀ i ∈ L0,¬ (b ≤ i ∧ i < b + n)):(L0 ++ List.range' b n).Nodup:=by
 rw [List.nodup_append]
 refine ⟨h0,List.nodup_range',fun i hi j hj e => ?_⟩
 rw [List.mem_range'_1] at hj
 subst e
 exact hlt _ hi hj
end
end
def aEG (n:Nat):List Nat:=[7,n + 8] ++ (List.range' 8 n ++ [])
def YN (n:Nat) (ids:List Nat):Bool:=decide (ids = [7,n + 8])
theorem aUo {n:Nat} {ke0:Nat} (he0:ke0 = n + 8):YN n [7,ke0] = true:=by subst he0; simp [YN]
def QN (n i:Nat):Option Nat:=if i = 7 then some 0 else if i = n + 8 then some 1 else none
theorem aL5 {n:Nat}:QN n 7 = some (0):=by unfold QN; repeat (first | rfl | rw [if_pos rfl] | rw [if_neg (by omega)])
theorem aIZ {n k:Nat} (h:k = n + 8):QN n k = some (1):=by subst h; unfold QN; repeat (first | rfl | rw [if_pos rfl] | rw [if_neg (by omega)])
theorem aXq {o0 o1 o2 o3 o4 o5 o6:O} {cs:List D} {d:List (List Int)} (hl:d.length ≤ 4294967296) {ids:List Nat}:iF 0 (o0 :: o1 :: o2 :: o3 :: o4 :: o5 :: o6 :: .vec (bD 8 d ++ bM 0) 1 0 :: (bR d ++ [.arr cs 1 0])) ids = if YN d.length ids = true then aEG d.length else aZs 0 (o0 :: o1 :: o2 :: o3 :: o4 :: o5 :: o6 :: .vec (bD 8 d ++ bM 0) 1 0 :: (bR d ++ [.arr cs 1 0])) ids:=by
 split
 ·rename_i hc
  have hc:ids = [7,d.length + 8]:=by simpa [YN] using hc
  subst hc
  obtain ⟨h,hh⟩:∃ h:H,o0 :: o1 :: o2 :: o3 :: o4 :: o5 :: o6 :: .vec (bD 8 d ++ bM 0) 1 0 :: (bR d ++ [.arr cs 1 0]) = h:=⟨_,rfl⟩
  conv => lhs; rw [hh]
  have g7:h[7]? = some (.vec (bD 8 d ++ bM 0) 1 0):=by rw [← hh]; rfl
  have gr:∀ (i:Nat) (r:List Int),d[i]? = some r → h[8 + i]? = some (.arr (ints r) 1 0):=by
   intro i r hr
   rw [← hh,show 8 + i = i + 1 + 1 + 1 + 1 + 1 + 1 + 1 + 1 by omega]
   simp only [List.getElem?_cons_succ]
   exact aQt hr
  have ge0:h[d.length + 8]? = some (.arr cs 1 0):=by
   rw [← hh,show d.length + 8 = d.length + 1 + 1 + 1 + 1 + 1 + 1 + 1 + 1 by omega]
   simp only [List.getElem?_cons_succ]
   rw [List.getElem?_append_right (by rw [oY]; omega),oY,show d.length - d.length = 0 by omega]
   rfl
  have k7:kids h (7) = List.range' 8 d.length:=by simp [kids,g7,y2,EG,E8,idsL,idsA]
  have ke0:kids h (d.length + 8) = []:=aAh ge0
  have leaf:∀ i ∈ List.range' 8 d.length,∃ r:List Int,h[i]? = some (.arr (ints r) 1 0):=by
   intro i hi
   rw [List.mem_range'_1] at hi
   obtain ⟨j,rfl⟩:∃ j,i = 8 + j:=⟨i - 8,by omega⟩
   exact ⟨d[j]'(by omega),gr j _ (List.getElem?_eq_getElem (by omega))⟩
  have hr:aE aK h [7,d.length + 8] [] = [7] ++ ([d.length + 8] ++ (List.range' 8 d.length ++ [])):=by
   refine aDg ?_ ?_ ?_ ?_ ?_ ?_
   ·simp [k7]
   ·intro i hi
    rcases List.mem_append.1 hi with h1 | h1
    ·simp only [List.mem_cons,List.not_mem_nil,or_false] at h1
     rcases h1 with rfl
     ·exact ke0
    ·rcases List.mem_append.1 h1 with h2 | h2
     ·obtain ⟨r,hr⟩:=leaf i h2; exact aAh hr
     ·cases h2
   ·intro q hq
    simp only [List.length_cons,List.length_nil] at hq
    have:q = 0:=by omega
    rcases this with rfl <;> simp [k7]
   ·rw [← List.append_assoc,← List.append_assoc]
    rw [List.append_nil]
    exact aFB (by simp) (by intro i hi; simp at hi; omega)
   ·intro i hi
    simp only [List.cons_append,List.nil_append,List.mem_cons,List.mem_append,List.not_mem_nil,or_false] at hi
    rcases hi with rfl | rfl | hi
    ·exact ⟨_,g7,by simp⟩
    ·exact ⟨_,ge0,by simp⟩
    ·obtain ⟨r,hr⟩:=leaf i hi; exact ⟨_,hr,by simp⟩
   ·simp only [List.length_append,List.length_cons,List.length_nil,List.length_range',aK]; omega
  generalize hord:[7] ++ ([d.length + 8] ++ (List.range' 8 d.length ++ [])) = ord at hr
  have pk:∀ i j,ord[j]? = some i → aN ord i = some j:=fun i j h1 => tB (by rw [← hr]; exact gQ aK h _ [] (by simp)) h1
  have p7:=pk (7) 0 (by rw [← hord]; rfl)
  have pe0:=pk (d.length + 8) 1 (by rw [← hord]; rfl)
  have pr:∀ i,i < d.length → aN ord (8 + i) = some (2 + i):=fun i hi => pk _ _ (by
   rw [← hord,show 2 + i = i + 1 + 1 by omega]
   simp only [List.cons_append,List.nil_append,List.getElem?_cons_succ]
   first | rw [List.getElem?_append_left (by simpa using hi),List.getElem?_range' hi] | rw [List.append_nil,List.getElem?_range' hi]
   simp <;> omega)
  have hpk:pack h ord = .vec (bD 2 d ++ bM 0) 1 0 :: .arr cs 1 0 :: bR d:=by
   have e1:pack h ord = ([7,d.length + 8]:List Nat).map (fun i => mapO (aN ord) (h.getD i default)) ++ ((List.range' 8 d.length).map (fun i => mapO (aN ord) (h.getD i default)) ++ ([]:List Nat).map (fun i => mapO (aN ord) (h.getD i default))):=by
    unfold pack
    conv => lhs; arg 2; rw [← hord]
    rw [← List.map_append,← List.map_append]
    rfl
   have hrf:aW (aN ord) (bD 8 d) = bD 2 d:=U6 (c:=0) pr
   have hni:aW (aN ord) (bM 0) = bM 0:=rfl
   rw [e1,aOk gr]
   simp only [List.map_cons,List.map_nil,List.getD_eq_getElem?_getD,g7,ge0,Option.getD_some]
   simp only [mapO,aW,mapA,NT,hrf,hni,p7,pe0,List.cons_append,List.nil_append,List.append_nil]
  have hgr:∀ i,i < d.length → fN (O.vec (bD 2 d ++ bM 0) 1 0 :: .arr cs 1 0 :: bR d) (2 + i) = some 0:=by
   intro i hi
   rw [show 2 + i = i + 1 + 1 by omega]
   simp only [P0]
   have:=aOv (p:=[]) hi; rwa [List.append_nil] at this
  have hcm:oN 0 (O.vec (bD 2 d ++ bM 0) 1 0 :: .arr cs 1 0 :: bR d) = .vec (bD 2 d ++ bM 0) 1 0 :: .arr cs 1 0 :: bR d:=by
   have hrf:dL 0 (O.vec (bD 2 d ++ bM 0) 1 0 :: .arr cs 1 0 :: bR d) (bD 2 d) = bD 2 d:=aCG hgr
   have hni:∀ h:H,dL 0 h (bM 0) = bM 0:=fun _ => rfl
   have gS:∀ (o:O) (h:H) (i:Nat),fN (o :: h) (i + 1) = fN h i:=fun _ _ _ => P0
   obtain ⟨hp,hq⟩:∃ hp:H,O.vec (bD 2 d ++ bM 0) 1 0 :: .arr cs 1 0 :: bR d = hp:=⟨_,rfl⟩
   rw [hq] at hrf
   conv => lhs; rw [hq]
   unfold oN
   rw [aDG]
   have q0:fN hp 0 = some 0:=by rw [← hq]; rfl
   have q1:fN hp 1 = some 0:=by rw [← hq]; rfl
   conv => lhs; arg 2; rw [← hq]
   simp only [List.map_cons,List.map_append,List.map_nil,dI,dL,eM,NN,aAn,hrf,hni,aMm,q0,q1,Nat.not_lt_zero,if_false,if_true]
  rw [zT]
  unfold aK at hr
  rw [hr,← hord]
  rfl
 ·rfl
theorem aXe {o0 o1 o2 o3 o4 o5 o6:O} {cs:List D} {d:List (List Int)} (hl:d.length ≤ 4294967296) {s:List A}:trim 0 (o0 :: o1 :: o2 :: o3 :: o4 :: o5 :: o6 :: .vec (bD 8 d ++ bM 0) 1 0 :: (bR d ++ [.arr cs 1 0])) (aEG d.length) s = if YN d.length (idsL s) = true ∧ z0As s = true then (aW (QN d.length) s,.vec (bD 2 d ++ bM 0) 1 0 :: .arr cs 1 0 :: bR d) else aYU 0 (o0 :: o1 :: o2 :: o3 :: o4 :: o5 :: o6 :: .vec (bD 8 d ++ bM 0) 1 0 :: (bR d ++ [.arr cs 1 0])) (aEG d.length) s:=by
 split
 ·rename_i hc
  obtain ⟨hids,hz⟩:=hc
  have hids:idsL s = [7,d.length + 8]:=by simpa [YN] using hids
  obtain ⟨h,hh⟩:∃ h:H,o0 :: o1 :: o2 :: o3 :: o4 :: o5 :: o6 :: .vec (bD 8 d ++ bM 0) 1 0 :: (bR d ++ [.arr cs 1 0]) = h:=⟨_,rfl⟩
  conv => lhs; rw [hh]
  have g7:h[7]? = some (.vec (bD 8 d ++ bM 0) 1 0):=by rw [← hh]; rfl
  have gr:∀ (i:Nat) (r:List Int),d[i]? = some r → h[8 + i]? = some (.arr (ints r) 1 0):=by
   intro i r hr
   rw [← hh,show 8 + i = i + 1 + 1 + 1 + 1 + 1 + 1 + 1 + 1 by omega]
   simp only [List.getElem?_cons_succ]
   exact aQt hr
  have ge0:h[d.length + 8]? = some (.arr cs 1 0):=by
   rw [← hh,show d.length + 8 = d.length + 1 + 1 + 1 + 1 + 1 + 1 + 1 + 1 by omega]
   simp only [List.getElem?_cons_succ]
   rw [List.getElem?_append_right (by rw [oY]; omega),oY,show d.length - d.length = 0 by omega]
   rfl
  have k7:kids h (7) = List.range' 8 d.length:=by simp [kids,g7,y2,EG,E8,idsL,idsA]
  have ke0:kids h (d.length + 8) = []:=aAh ge0
  have leaf:∀ i ∈ List.range' 8 d.length,∃ r:List Int,h[i]? = some (.arr (ints r) 1 0):=by
   intro i hi
   rw [List.mem_range'_1] at hi
   obtain ⟨j,rfl⟩:∃ j,i = 8 + j:=⟨i - 8,by omega⟩
   exact ⟨d[j]'(by omega),gr j _ (List.getElem?_eq_getElem (by omega))⟩
  have hr:aE aK h [7,d.length + 8] [] = [7] ++ ([d.length + 8] ++ (List.range' 8 d.length ++ [])):=by
   refine aDg ?_ ?_ ?_ ?_ ?_ ?_
   ·simp [k7]
   ·intro i hi
    rcases List.mem_append.1 hi with h1 | h1
    ·simp only [List.mem_cons,List.not_mem_nil,or_false] at h1
     rcases h1 with rfl
     ·exact ke0
    ·rcases List.mem_append.1 h1 with h2 | h2
     ·obtain ⟨r,hr⟩:=leaf i h2; exact aAh hr
     ·cases h2
   ·intro q hq
    simp only [List.length_cons,List.length_nil] at hq
    have:q = 0:=by omega
    rcases this with rfl <;> simp [k7]
   ·rw [← List.append_assoc,← List.append_assoc]
    rw [List.append_nil]
    exact aFB (by simp) (by intro i hi; simp at hi; omega)
   ·intro i hi
    simp only [List.cons_append,List.nil_append,List.mem_cons,List.mem_append,List.not_mem_nil,or_false] at hi
    rcases hi with rfl | rfl | hi
    ·exact ⟨_,g7,by simp⟩
    ·exact ⟨_,ge0,by simp⟩
    ·obtain ⟨r,hr⟩:=leaf i hi; exact ⟨_,hr,by simp⟩
   ·simp only [List.length_append,List.length_cons,List.length_nil,List.length_range',aK]; omega
  generalize hord:[7] ++ ([d.length + 8] ++ (List.range' 8 d.length ++ [])) = ord at hr
  have pk:∀ i j,ord[j]? = some i → aN ord i = some j:=fun i j h1 => tB (by rw [← hr]; exact gQ aK h _ [] (by simp)) h1
  have p7:=pk (7) 0 (by rw [← hord]; rfl)
  have pe0:=pk (d.length + 8) 1 (by rw [← hord]; rfl)
  have pr:∀ i,i < d.length → aN ord (8 + i) = some (2 + i):=fun i hi => pk _ _ (by
   rw [← hord,show 2 + i = i + 1 + 1 by omega]
   simp only [List.cons_append,List.nil_append,List.getElem?_cons_succ]
   first | rw [List.getElem?_append_left (by simpa using hi),List.getElem?_range' hi] | rw [List.append_nil,List.getElem?_range' hi]
   simp <;> omega)
  have hpk:pack h ord = .vec (bD 2 d ++ bM 0) 1 0 :: .arr cs 1 0 :: bR d:=by
   have e1:pack h ord = ([7,d.length + 8]:List Nat).map (fun i => mapO (aN ord) (h.getD i default)) ++ ((List.range' 8 d.length).map (fun i => mapO (aN ord) (h.getD i default)) ++ ([]:List Nat).map (fun i => mapO (aN ord) (h.getD i default))):=by
    unfold pack
    conv => lhs; arg 2; rw [← hord]
    rw [← List.map_append,← List.map_append]
    rfl
   have hrf:aW (aN ord) (bD 8 d) = bD 2 d:=U6 (c:=0) pr
   have hni:aW (aN ord) (bM 0) = bM 0:=rfl
   rw [e1,aOk gr]
   simp only [List.map_cons,List.map_nil,List.getD_eq_getElem?_getD,g7,ge0,Option.getD_some]
   simp only [mapO,aW,mapA,NT,hrf,hni,p7,pe0,List.cons_append,List.nil_append,List.append_nil]
  have hgr:∀ i,i < d.length → fN (O.vec (bD 2 d ++ bM 0) 1 0 :: .arr cs 1 0 :: bR d) (2 + i) = some 0:=by
   intro i hi
   rw [show 2 + i = i + 1 + 1 by omega]
   simp only [P0]
   have:=aOv (p:=[]) hi; rwa [List.append_nil] at this
  have hcm:oN 0 (O.vec (bD 2 d ++ bM 0) 1 0 :: .arr cs 1 0 :: bR d) = .vec (bD 2 d ++ bM 0) 1 0 :: .arr cs 1 0 :: bR d:=by
   have hrf:dL 0 (O.vec (bD 2 d ++ bM 0) 1 0 :: .arr cs 1 0 :: bR d) (bD 2 d) = bD 2 d:=aCG hgr
   have hni:∀ h:H,dL 0 h (bM 0) = bM 0:=fun _ => rfl
   have gS:∀ (o:O) (h:H) (i:Nat),fN (o :: h) (i + 1) = fN h i:=fun _ _ _ => P0
   obtain ⟨hp,hq⟩:∃ hp:H,O.vec (bD 2 d ++ bM 0) 1 0 :: .arr cs 1 0 :: bR d = hp:=⟨_,rfl⟩
   rw [hq] at hrf
   conv => lhs; rw [hq]
   unfold oN
   rw [aDG]
   have q0:fN hp 0 = some 0:=by rw [← hq]; rfl
   have q1:fN hp 1 = some 0:=by rw [← hq]; rfl
   conv => lhs; arg 2; rw [← hq]
   simp only [List.map_cons,List.map_append,List.map_nil,dI,dL,eM,NN,aAn,hrf,hni,aMm,q0,q1,Nat.not_lt_zero,if_false,if_true]
  have hoo:aEG d.length = ord:=by rw [← hord]; rfl
  unfold trim
  rw [hoo,hpk,hcm]
  have hz2:dL 0 (O.vec (bD 2 d ++ bM 0) 1 0 :: .arr cs 1 0 :: bR d) (aW (aN ord) s) = aW (aN ord) s:=by
   exact sZ (aHa (by simp [z0O,z0As,z0A,aG6,aCH,aD4,aOB])) _ (aCT _ hz)
  have hmp:aW (aN ord) s = aW (QN d.length) s:=by
   apply MV
   rw [hids]
   intro i hi
   simp only [List.mem_cons,List.not_mem_nil,or_false] at hi
   rcases hi with rfl | rfl
   ·rw [p7,aL5]
   ·rw [pe0,aIZ rfl]
  rw [hz2,hmp]
 ·rfl
theorem aPP {b n:Nat} {rs:List (List Int)} (hn:n = rs.length + 1):((O.vec (bD 1 rs ++ bM 0) 1 0 :: bR rs).map (mapO (back [] 0 n))).map (mapO (back [] b n)) = .vec (bD (b + 1) rs ++ bM 0) 1 0 :: bR rs:=by
 subst hn
 simp only [List.map_cons,aNK]
 rw [aJ1 (f:=back [] 0 (rs.length + 1)) (b:=1) (d:=1) fun i hi => by rw [wY (by omega),Nat.zero_add]]
 rw [aJ1 (f:=back [] b (rs.length + 1)) (b:=1) (d:=b + 1) fun i hi => by rw [wY (by omega)]; congr 1; omega]
theorem aRB {R:Type} {L n:Nat} {hq:H} {k:KA R} (hn:4 ≤ n) (rs:List (List Int)) (hs:bH rs) (hL:2 ^ 60 ≤ L):bC env (aA env L n) hq 46 [.d (.ivs rs.length (rowsD rs))] k = k (.sl hq.length 0 0 rs.length) (hq ++ (.vec (bD (hq.length + 1) rs ++ bM 0) 1 0 :: bR rs)):=by
 rw [T6 rfl SD (aRp hn rs hs hL),oY,aPP rfl]
 simp only [mapA,wY (b:=0) (n:=rs.length + 1) (i:=0) (by omega),wY (b:=hq.length) (n:=rs.length + 1) (i:=0) (by omega),Nat.add_zero]
theorem aKf {L n:Nat} (hn:5 ≤ n) (al:Int) (rs:List (List Int)) (ac:List Bool) (hs:bH rs) (ha:ac.length ≤ 4294967296) (hL:2 ^ 60 ≤ L):aA env L n 14 [.agg [nI al,.d (.ivs rs.length (rowsD rs)),.d (.ivs ac.length (bools ac))]] [] = some (autA 0 al rs.length ac.length,autO 0 rs ac):=by
 have hrl:=hs.1
 unfold autA autO
 obtain _ | n:=n; omega
 simp -implicitDefEqProofs (maxSteps:=2000000) (disch:=try exact Dz) only [↓DN,↓kAsg,↓kRet,UP,simprocAttr,↓aRB,↓aRz,LA,oY,↓aXq,↓aXe,z0As,z0A,eq_self,aUo,aL5,aIZ,aKj,aBu,Tryz.f14]
section
section
variable {h:H} {a b c d:O}
theorem aGv:(h ++ [a,b,c])[h.length + 1 + 1]? = some c:=by
 rw [List.getElem?_append_right (by omega),show h.length + 1 + 1 - h.length = 2 by omega]
 rfl
theorem aWz:(h ++ [a,b,c]).set (h.length + 1 + 1) d = h ++ [a,b,d]:=by
 rw [List.set_append_right _ _ (by omega),show h.length + 1 + 1 - h.length = 2 by omega]
 rfl
theorem KH:(h ++ [a,b,c]).length = h.length + 3:=by simp
end
def aJz (n:Nat) (bad:List (Nat × Nat)) (ops:List Oper):Bool:=(List.range n).all fun j => (List.range j).all fun i => ((F1 ops []).getD j 0).testBit i || bad.contains (i,j)
theorem aPd {ops:List Oper} {cs:List Foot} (n:Nat) (bad:List (Nat × Nat)) (hn:cs.length = n) (hm:aJz n bad ops = true) (hb:∀ p ∈ bad,iM (cs.getD p.1 {}) (cs.getD p.2 {}) = false):qO ops cs = true:=by
 unfold qO
 rw [hn]
 unfold aJz at hm
 simp only [List.all_eq_true] at hm ⊢
 intro j hj i hi
 have:=hm j hj i hi
 rcases Bool.or_eq_true_iff.1 this with h1 | h1
 ·rw [h1]; rfl
 ·have h2:=hb (i,j) (by simpa using h1)
  simp only at h2
  rw [h2]
  simp
theorem SG {a b:Foot} (ha:a.ro = true) (hb:b.ro = true):iM a b = false:=by
 unfold iM
 rw [ha,hb]
 rfl
section
variable {L n:Nat} {h:H} {al:Int} {rs:List (List Int)} {ac:List Bool}
theorem wgt3 {a b:O} {cs:List A} (ha:aM5 a = []) (hb:aM5 b = []):wgt (h ++ [a,b,.box cs]) = wgt h + (idsL cs).length:=by
 rw [EO]
 cases a <;> cases b <;> simp_all [wgt,aM5]
theorem QS (hn:5 ≤ n) (hs:bH rs) (ha:ac.length ≤ 4294967296) (hL:2 ^ 60 ≤ L):∀ {R:Type} {k:KA R},bC env (aA env L n) h 14 [.agg [nI al,.d (.ivs rs.length (rowsD rs)),.d (.ivs ac.length (bools ac))]] k = k (autA h.length al rs.length ac.length) (h ++ autO h.length rs ac):=by
 intro R k
 have hne:autO 0 rs ac = .vec (bD 2 rs ++ bM 0) 1 0 :: (.arr (bools ac) 1 0 :: bR rs):=rfl
 have he:=aKf hn al rs ac hs ha hL
 rw [hne] at he
 rw [T6 rfl lM he]
 have hl:(O.arr (bools ac) 1 0 :: bR rs).length + 1 = rs.length + 2:=by simp [oY]
 rw [hl,← hne,aNn rfl]
 have h2:(autO 0 rs ac).map (mapO (back [] h.length (rs.length + 2))) = autO h.length rs ac:=aNn rfl
 rw [h2]
 rw [aN7 (a:=0) (b:=0) (wY (by omega)) (wY (by omega)),aN7 (a:=0) (b:=h.length) (wY (by omega)) (wY (by omega))]
theorem aUL {args:List A} (hn:6 ≤ n) (hs:bH rs) (ha:ac.length ≤ 4294967296) (hr:rdAs h args = some [autD al rs ac,autD al rs ac]) (hw:(idsL args).length + wgt h ≤ 1099511627776) (hL:2 ^ 60 ≤ L):∀ {R:Type} {k:KA R},bC env (aA env L n) h 17 args k = k (.d (.bool true)) h:=by
 intro R k
 rw [aAH bZ hr hw]
 exact KY hn al rs ac hs ha hL
theorem rd2 {a b x y:A} (ha:rdA h a = some x) (hb:rdA h b = some y):rdAs h [a,b] = some [x,y]:=by
 simp only [rdAs,ha,hb]
end
end
section
variable {R:Type} {L n:Nat}
def ltr (b:UInt8):Int:=(b.toNat:Int) - 97
def eE (l:Int):UInt8:=UInt8.ofNat (97 + l).toNat
theorem aQz {b:UInt8}:IntKind.i64.wrap ((b.toNat:Int) - 97) = ltr b:=L6 (by omega) (by have:=toNat_lt b; omega)
theorem aL8 {l:Int} (h0:0 ≤ l) (h:l ≤ 5):IntKind.u8.wrap (97 + l) = ((eE l).toNat:Int):=by
 rw [a0T (by omega) (by omega)]
 unfold eE
 rw [UInt8.toNat_ofNat']
 omega
theorem aMr (hn:1 ≤ n) (s:List UInt8) (i:Int) (h0:0 ≤ i) (h:i < s.length):aA env L n 164 [.d (.str s),nI i] [] = some (nI (ltr (s.getD i.toNat 0)),[]):=by
 obtain _ | n:=n; omega
 simp -implicitDefEqProofs (maxSteps:=2000000) (disch:=try exact Dz) only [↓DN,↓kAsg,↓kRet,UP,simprocAttr,QK,↓ZL,aAu,aQz,aSX,aOr,Tryz.f164]
theorem lV:type_of% fun {L} s i h0 h => ks fun hn => @aMr L _ hn s i h0 h:=fun {L} s i h0 h => ks fun hn => @aMr L _ hn s i h0 h
theorem aBk (hn:1 ≤ n) (s:List UInt8) (i:Int) (h0:0 ≤ i) (h:i < s.length):aA env L n 66 [.d (.str s),nI i] [] = some (nI (if kL (ltr (s.getD i.toNat 0)) then ltr (s.getD i.toNat 0) else -1),[]):=by
 obtain _ | n:=n; omega
 simp -implicitDefEqProofs (maxSteps:=2000000) (disch:=try exact Dz) only [↓DN,↓kAsg,↓kRet,UP,simprocAttr,QK,↓ZL,aAu,aQz,aM0,aD0,Tryz.f66]
 generalize ltr (s.getD i.toNat 0) = v
 unfold kL
 by_cases h1:v < 0
 ·have h2:¬ 0 ≤ v:=by omega
  simp [h1,h2]
 ·have h2:0 ≤ v:=by omega
  by_cases h3:6 ≤ v
  ·have h4:¬ v < 6:=by omega
   simp [h1,h2,h3,h4]
  ·have h4:v < 6:=by omega
   simp [h1,h2,h3,h4]
theorem gE:type_of% fun {L} s i h0 h => ks fun hn => @aBk L _ hn s i h0 h:=fun {L} s i h0 h => ks fun hn => @aBk L _ hn s i h0 h
theorem VM (hn:1 ≤ n) (l:Int) (h0:0 ≤ l) (h:l ≤ 5):aA env L n 92 [nI l] [] = some (.d (.int .u8 (eE l).toNat),[]):=by
 have e:IntKind.u8.wrap (97 + l) = ((eE l).toNat:Int):=aL8 h0 h
 obtain _ | n:=n; omega
 simp -implicitDefEqProofs (maxSteps:=2000000) (disch:=try exact Dz) only [↓DN,↓kAsg,↓kRet,UP,simprocAttr,↓aKD,e,aHz,aAb,Tryz.f92]
theorem gZ:type_of% fun {L} l h0 h => ks fun hn => @VM L _ hn l h0 h:=fun {L} l h0 h => ks fun hn => @VM L _ hn l h0 h
def okB (b:UInt8):Bool:=kL (ltr b)
def gM (s:List UInt8):Bool:=decide (s.length ≤ 50000) && s.all okB
def upTo {α:Type} (p:α → Bool) (l:List α) (i:Nat):Int:=(i:Int) + ((l.drop i).takeWhile p).length
theorem aOm {α:Type} {p:α → Bool} {l:List α}:upTo p l l.length = l.length:=by
 unfold upTo; simp
theorem aL7 {α:Type} {p:α → Bool} {l:List α} {i:Nat} {d:α} (h:i < l.length) (hp:p (l.getD i d) = false):upTo p l i = i:=by
 unfold upTo
 rw [List.getD_eq_getElem?_getD,List.getElem?_eq_getElem h] at hp
 simp only [Option.getD_some] at hp
 rw [List.drop_eq_getElem_cons h,List.takeWhile_cons,hp]
 simp
theorem aQI {α:Type} {p:α → Bool} {l:List α} {i:Nat} {d:α} (h:i < l.length) (hp:p (l.getD i d) = true):upTo p l i = upTo p l (i + 1):=by
 unfold upTo
 rw [List.getD_eq_getElem?_getD,List.getElem?_eq_getElem h] at hp
 simp only [Option.getD_some] at hp
 rw [List.drop_eq_getElem_cons h,List.takeWhile_cons,hp]
 simp; omega
theorem aOL {α:Type} {p:α → Bool} {l:List α} {i:Nat} {d:α} (h:i < l.length) (hp:p (l.getD i d) = false):(l.drop i).all p = false:=by
 rw [List.getD_eq_getElem?_getD,List.getElem?_eq_getElem h] at hp
 simp only [Option.getD_some] at hp
 rw [List.drop_eq_getElem_cons h,List.all_cons,hp]
 rfl
theorem aVT {α:Type} {p:α → Bool} {l:List α} {i:Nat} {d:α} (h:i < l.length) (hp:p (l.getD i d) = true):(l.drop i).all p = (l.drop (i + 1)).all p:=by
 rw [List.getD_eq_getElem?_getD,List.getElem?_eq_getElem h] at hp
 simp only [Option.getD_some] at hp
 rw [List.drop_eq_getElem_cons h,List.all_cons,hp]
 rfl
theorem DG (hn:1 ≤ n) {s:List UInt8} (hs:s.length < 4294967296) {k:KE R}:∀ (i:Int) (m:Nat) (h0:0 ≤ i) (hi:i ≤ s.length) (hm:(s.length:Int) - i < m),
  aF env (aA env L n) L 0 [] Bz50 (uB 0) (Z1 (U1 (Z2 (U16 (U2 (U1 ([]))))))) m (.d (.str s) :: Y1 (.d (.bool false) :: nI i :: Y16 (Y2 (Y1 ([]))))) [] k
  = if (s.drop i.toNat).all okB then k (.exit 0) (.d (.str s) :: Y1 (.d (.bool false) :: nI (upTo okB s i.toNat) :: Y16 (Y2 (Y1 ([]))))) [] else k .ret (.d (.str s) :: Y1 (.d (.bool false) :: nI (upTo okB s i.toNat) :: Y16 (Y2 (Y1 ([]))))) []:=by
 intro i m h0 hi hm
 obtain ⟨j,hj⟩:∃ j:Nat,(j:Int) = (s.length:Int) - i:=⟨((s.length:Int) - i).toNat,by omega⟩
 induction j generalizing i m with
 | zero =>
  obtain _ | m:=m; omega
  obtain rfl:i = s.length:=by omega
  simp -implicitDefEqProofs (maxSteps:=2000000) (disch:=try exact Dz) only [↓DN,↓kAsg,↓kRet,UP,simprocAttr,↓lV,gK,Int.lt_irrefl,sX,sN,Tryz.f161]
  simp only [Int.toNat_natCast,List.drop_length,List.all_nil,if_true,aOm]
 | succ j ih =>
  obtain _ | m:=m; omega
  have hc:i < s.length:=by omega
  have hk:i.toNat < s.length:=by omega
  have e1:(i + 1).toNat = i.toNat + 1:=by omega
  cases hb:okB (s.getD i.toNat 0) with
  | true =>
   have hb':=hb
   unfold okB kL at hb'
   simp only [decide_eq_true_eq] at hb'
   have n1:¬ ltr (s.getD i.toNat 0) < 0:=by omega
   have n2:¬ 6 ≤ ltr (s.getD i.toNat 0):=by omega
   simp -implicitDefEqProofs (maxSteps:=2000000) (disch:=try exact Dz) only [↓DN,↓kAsg,↓kRet,UP,simprocAttr,gK,hc,↓lV,n1,n2,↓ih,sX,sN,Tryz.f161]
   rw [e1,aVT hk hb,aQI hk hb]
  | false =>
   have hb':=hb
   unfold okB kL at hb'
   simp only [decide_eq_false_iff_not] at hb'
   rw [aOL hk hb,aL7 hk hb]
   by_cases n1:ltr (s.getD i.toNat 0) < 0
   ·simp -implicitDefEqProofs (maxSteps:=2000000) (disch:=try exact Dz) only [↓DN,↓kAsg,↓kRet,UP,simprocAttr,gK,hc,↓lV,n1,sX,sN,Tryz.f161]
    rw [Int.toNat_of_nonneg h0]
   ·have n2:6 ≤ ltr (s.getD i.toNat 0):=by omega
    simp -implicitDefEqProofs (maxSteps:=2000000) (disch:=try exact Dz) only [↓DN,↓kAsg,↓kRet,UP,simprocAttr,gK,hc,↓lV,n1,n2,sX,sN,Tryz.f161]
    rw [Int.toNat_of_nonneg h0]
theorem CU {α:Type} {p:α → Bool} {l:List α}:(l.drop (0:Int).toNat).all p = l.all p:=by simp
theorem ZY (hn:2 ≤ n) (s:List UInt8) (hL:2 ^ 60 ≤ L):aA env L n 161 [.d (.str s)] [] = some (.d (.bool (gM s)),[]):=by
 unfold gM
 by_cases hs:s.length ≤ 50000
 ·have hs':¬ (50000:Int) < s.length:=by omega
  cases ha:s.all okB with
  | true =>
   obtain _ | n:=n; omega
   simp -implicitDefEqProofs (maxSteps:=2000000) (disch:=try exact Dz) only [↓DN,↓kAsg,↓kRet,UP,simprocAttr,↓lV,gK,hs',↓DG,CU,ha,LG,CY,Tryz.f161]
   simp [hs]
  | false =>
   obtain _ | n:=n; omega
   simp -implicitDefEqProofs (maxSteps:=2000000) (disch:=try exact Dz) only [↓DN,↓kAsg,↓kRet,UP,simprocAttr,↓lV,gK,hs',↓DG,CU,ha,LG,CY,Tryz.f161]
   all_goals simp
 ·have hs':(50000:Int) < s.length:=by omega
  obtain _ | n:=n; omega
  simp -implicitDefEqProofs (maxSteps:=2000000) (disch:=try exact Dz) only [↓DN,↓kAsg,↓kRet,UP,simprocAttr,↓lV,↓DG,gK,hs',LG,CY,Tryz.f161]
  simp [hs]
theorem qQ:type_of% fun {L} s hL => ks fun hn => @ZY L _ hn s hL:=fun {L} s hL => ks fun hn => @ZY L _ hn s hL
def inB (a:Int) (b:UInt8):Bool:=okB b && eB a (ltr b)
def hY (a:Int) (s:List UInt8):Bool:=eK a && decide (s.length ≤ 50000) && s.all (inB a)
theorem aTb {a:Int} {b:UInt8}:(decide (0 ≤ (if kL (ltr b) then ltr b else -1)) && eB a (if kL (ltr b) then ltr b else -1)) = inB a b:=by
 unfold inB okB
 cases h:kL (ltr b) with
 | true =>
  have:=FB.1 h
  have h2:0 ≤ ltr b:=by omega
  simp [h2]
 | false => simp
theorem tV (hn:1 ≤ n) {s:List UInt8} {a:Int} (hs:s.length < 4294967296) {k:KE R}:∀ (i:Int) (m:Nat) (h0:0 ≤ i) (hi:i ≤ s.length) (hm:(s.length:Int) - i < m),
  aF env (aA env L n) L 0 [] Bz36 (sQ 0) (Z2 (U2 (Z1 (U8 (U2 (Z2 (U8 (U1 ([]))))))))) m (.d (.str s) :: nI a :: Y2 (.d (.bool false) :: Y8 (Y2 (nI (s.length) :: nI i :: Y8 (Y1 ([])))))) [] k
  = if (s.drop i.toNat).all (inB a) then k (.exit 0) (.d (.str s) :: nI a :: Y2 (.d (.bool false) :: Y8 (Y2 (nI (s.length) :: nI (upTo (inB a) s i.toNat) :: Y8 (Y1 ([])))))) [] else k .ret (.d (.str s) :: nI a :: Y2 (.d (.bool false) :: Y8 (Y2 (nI (s.length) :: nI (upTo (inB a) s i.toNat) :: Y8 (Y1 ([])))))) []:=by
 intro i m h0 hi hm
 obtain ⟨j,hj⟩:∃ j:Nat,(j:Int) = (s.length:Int) - i:=⟨((s.length:Int) - i).toNat,by omega⟩
 induction j generalizing i m with
 | zero =>
  obtain _ | m:=m; omega
  obtain rfl:i = s.length:=by omega
  simp -implicitDefEqProofs (maxSteps:=2000000) (disch:=try exact Dz) only [↓DN,↓kAsg,↓kRet,UP,simprocAttr,↓b6,↓gE,↓rE,gK,Int.lt_irrefl,xY,wG,Tryz.f28]
  simp only [Int.toNat_natCast,List.drop_length,List.all_nil,if_true,aOm]
 | succ j ih =>
  obtain _ | m:=m; omega
  have hc:i < s.length:=by omega
  have hk:i.toNat < s.length:=by omega
  have e1:(i + 1).toNat = i.toNat + 1:=by omega
  cases hb:inB a (s.getD i.toNat 0) with
  | true =>
   simp -implicitDefEqProofs (maxSteps:=2000000) (disch:=try exact Dz) only [↓DN,↓kAsg,↓kRet,UP,simprocAttr,↓b6,gK,hc,↓gE,↓rE,aTb,hb,↓ih,xY,wG,Tryz.f28]
   rw [e1,aVT hk hb,aQI hk hb]
  | false =>
   rw [aOL hk hb,aL7 hk hb]
   simp -implicitDefEqProofs (maxSteps:=2000000) (disch:=try exact Dz) only [↓DN,↓kAsg,↓kRet,UP,simprocAttr,↓b6,gK,hc,↓gE,↓rE,aTb,hb,xY,wG,Tryz.f28]
   rw [Int.toNat_of_nonneg h0]
theorem VG (hn:2 ≤ n) (s:List UInt8) (a:Int) (hL:2 ^ 60 ≤ L):aA env L n 28 [.d (.str s),nI a] [] = some (.d (.bool (hY a s)),[]):=by
 unfold hY
 cases hal:eK a with
 | false =>
  obtain _ | n:=n; omega
  simp -implicitDefEqProofs (maxSteps:=2000000) (disch:=try exact Dz) only [↓DN,↓kAsg,↓kRet,UP,simprocAttr,↓gE,↓rE,↓tV,gK,↓b6,hal,yM,uF,Tryz.f28]
  all_goals rfl
 | true =>
  by_cases hs:s.length ≤ 50000
  ·have hs':¬ (50000:Int) < s.length:=by omega
   cases ha:s.all (inB a) with
   | true =>
    obtain _ | n:=n; omega
    simp -implicitDefEqProofs (maxSteps:=2000000) (disch:=try exact Dz) only [↓DN,↓kAsg,↓kRet,UP,simprocAttr,↓gE,↓rE,gK,↓b6,hal,hs',↓tV,CU,ha,yM,uF,Tryz.f28]
    simp [hs]
   | false =>
    obtain _ | n:=n; omega
    simp -implicitDefEqProofs (maxSteps:=2000000) (disch:=try exact Dz) only [↓DN,↓kAsg,↓kRet,UP,simprocAttr,↓gE,↓rE,gK,↓b6,hal,hs',↓tV,CU,ha,yM,uF,Tryz.f28]
    all_goals simp
  ·have hs':(50000:Int) < s.length:=by omega
   obtain _ | n:=n; omega
   simp -implicitDefEqProofs (maxSteps:=2000000) (disch:=try exact Dz) only [↓DN,↓kAsg,↓kRet,UP,simprocAttr,↓gE,↓rE,↓tV,gK,↓b6,hal,hs',yM,uF,Tryz.f28]
   simp [hs]
theorem sI:type_of% fun {L} s a hL => ks fun hn => @VG L _ hn s a hL:=fun {L} s a hL => ks fun hn => @VG L _ hn s a hL
theorem a0u {α:Type} {p:α → Bool} {l:List α} {d:α} (ha:l.all p = true) {i:Nat} (h:i < l.length):p (l.getD i d) = true:=by
 rw [List.getD_eq_getElem?_getD,List.getElem?_eq_getElem h]
 exact List.all_eq_true.1 ha _ (List.getElem_mem h)
end
theorem aXw {α:Type} {l:List α} {k:Nat} {d:α} (h:k < l.length):l.getD k d ∈ l:=by
 rw [List.getD_eq_getElem?_getD,List.getElem?_eq_getElem h]; exact List.getElem_mem h
def aJ (l:List (List UInt8)):List D:=l.map .str
theorem j6 {l:List (List UInt8)}:(aJ l).length = l.length:=by simp [aJ]
theorem aHy {l:List (List UInt8)} {k:Nat} (h:k < l.length):(((aJ l).drop k).map A.d).head? = some (.d (.str (l.getD k []))):=by
 rw [List.head?_map,List.head?_drop,aJ,List.getElem?_map,List.getD_eq_getElem?_getD,List.getElem?_eq_getElem h]
 rfl
section
variable {R:Type} {L n:Nat}
abbrev Str:=List UInt8
theorem iH {l:List Str} {k:Nat} (h:l.length ≤ k):(aJ l).take k = aJ l:=List.take_of_length_le (by rw [j6]; exact h)
theorem sS {l:List Str} {v:Str}:aJ l ++ [.str v] = aJ (l ++ [v]):=by simp [aJ]
theorem qK:aJ [] = []:=rfl
theorem aSZ {l:List Str} {k:Nat} {v:Str} (h:k < l.length):eQ (aJ l) k [.str v] = aJ (l.set k v):=GA _ l k v h
theorem aRn {l:List Str} {k:Nat}:(aJ l).drop k = aJ (l.drop k):=by simp [aJ]
theorem SE:type_of% (AI @j6 (AI @iH @aHy)) :=
 ⟨@j6,@iH,@aHy⟩
theorem a0e:env.P.cellsOf 9 = 1:=kr
theorem a0x:(env.P.info? 9).isSome = true:=kr
theorem aKi {h:H} {g e k:Nat} {l:List Str} {b:Str} (hk:k < l.length):oX env.P (.arr (aJ l) e g :: h) 9 (.ptr 0 g k) (.d (.str b)) = some (.arr (aJ (l.set k b)) e g :: h):=by
 rw [vY (id:=0) rfl a0e a0x rfl (by rw [j6]; exact hk),aSZ hk]
 rfl
def oP (l:List Str) (v:Str) (i:Nat):Bool:=decide (l.getD i [] = v)
theorem aML {l:List Str} {v:Str}:(seek (oP l v) l.length 0).isSome = decide (v ∈ l):=by
 have h:(seek (oP l v) l.length 0).isSome = true ↔ v ∈ l:=by
  constructor
  ·intro h
   cases hs:seek (oP l v) l.length 0 with
   | none => rw [hs] at h; cases h
   | some r =>
    obtain ⟨h1,h2,h3,_⟩:=V3 hs
    unfold oP at h3
    rw [decide_eq_true_eq] at h3
    rw [← h3]
    exact aXw (by omega)
  ·intro h
   obtain ⟨i,hi,rfl⟩:=List.getElem_of_mem h
   cases hs:seek (oP l l[i]) l.length 0 with
   | some r => rfl
   | none =>
    have:=y6.1 hs i (by omega) (by omega)
    unfold oP at this
    rw [List.getD_eq_getElem?_getD,List.getElem?_eq_getElem hi] at this
    simp at this
 cases hb:(seek (oP l v) l.length 0).isSome with
 | true => rw [decide_eq_true (h.1 hb)]
 | false => rw [decide_eq_false fun hv => by rw [h.2 hv] at hb; cases hb]
theorem aOA (hn:1 ≤ n) {l:List Str} {v:Str} (hl:l.length ≤ 4294967296) {k:KE R}:∀ (j i m:Nat) (hi:i + j = l.length) (hm:j < m),
  aF env (aA env L n) L 0 [] Bz28 (GE 0) Bz59 m (.d (.ivs l.length (aJ l)) :: .d (.str v) :: Y2 (.d (.bool false) :: nI i :: Y8 (Y4 ([])))) [] k
  = match seek (oP l v) j i with
   | none => k (.exit 0) (.d (.ivs l.length (aJ l)) :: .d (.str v) :: Y2 (.d (.bool false) :: nI (l.length) :: Y8 (Y4 ([])))) []
   | some q => k .ret (.d (.ivs l.length (aJ l)) :: .d (.str v) :: Y2 (.d (.bool true) :: nI q :: Y8 (Y4 ([])))) []:=by
 intro j
 induction j with
 | zero =>
  intro i m hi hm
  obtain _ | m:=m; omega
  obtain rfl:i = l.length:=by omega
  simp -implicitDefEqProofs (maxSteps:=2000000) (disch:=try exact Dz) only [↓DN,↓kAsg,↓kRet,UP,simprocAttr,SE,Int.lt_irrefl,J9,LT,Tryz.f87]
  rfl
 | succ j ih =>
  intro i m hi hm
  obtain _ | m:=m; omega
  have hc:(i:Int) < l.length:=by omega
  have hk:i < l.length:=by omega
  have hi0:(0:Int) ≤ i:=by omega
  by_cases h1:l.getD i [] = v
  ·have hb:oP l v i = true:=by unfold oP; rw [decide_eq_true h1]
   rw [oC hb]
   clear ih
   simp -implicitDefEqProofs (maxSteps:=2000000) (disch:=try exact Dz) only [↓DN,↓kAsg,↓kRet,UP,simprocAttr,SE,hc,hi0,h1,Int.toNat_natCast,beq_self_eq_true,J9,LT,Tryz.f87]
  ·have hb:oP l v i = false:=by unfold oP; rw [decide_eq_false h1]
   rw [rA hb]
   have ih':=ih (i + 1) m (by omega) (by omega)
   rw [cs1 i] at ih'
   have h2:(l.getD i [] == v) = false:=by simpa using h1
   clear ih
   simp -implicitDefEqProofs (maxSteps:=2000000) (disch:=try exact Dz) only [↓DN,↓kAsg,↓kRet,UP,simprocAttr,SE,hc,hi0,h2,Int.toNat_natCast,↓ih',J9,LT,Tryz.f87]
theorem P8 (hn:2 ≤ n) (l:List Str) (v:List UInt8) (hl:l.length ≤ 4294967296) (hL:2 ^ 60 ≤ L):aA env L n 87 [.d (.ivs l.length (aJ l)),.d (.str v)] [] = some (.d (.bool (decide (v ∈ l))),[]):=by
 have loop_c:=fun {R n k} hn => @aOA R L n hn l v hl k l.length 0 L (by omega) (by omega)
 rw [← aML]
 simp only [Int.natCast_zero] at loop_c
 cases hs:seek (oP l v) l.length 0 with
 | none =>
  rw [hs] at loop_c
  simp only [Option.isSome_none]
  obtain _ | n:=n; omega
  simp -implicitDefEqProofs (maxSteps:=2000000) (disch:=try exact Dz) only [↓DN,↓kAsg,↓kRet,UP,simprocAttr,SE,↓loop_c,aJE,aCO,Tryz.f87]
 | some q =>
  rw [hs] at loop_c
  simp only [Option.isSome_some]
  obtain _ | n:=n; omega
  simp -implicitDefEqProofs (maxSteps:=2000000) (disch:=try exact Dz) only [↓DN,↓kAsg,↓kRet,UP,simprocAttr,SE,↓loop_c,aJE,aCO,Tryz.f87]
theorem sL:type_of% fun {L} l v hl hL => ks fun hn => @P8 L _ hn l v hl hL:=fun {L} l v hl hL => ks fun hn => @P8 L _ hn l v hl hL
theorem AH:type_of% fun {L} l v hl hL => kt fun hn => @P8 L _ hn l v hl hL:=fun {L} l v hl hL => kt fun hn => @P8 L _ hn l v hl hL
theorem pA {L:Nat} {id0 g0 o0 len0:Nat} {v:List UInt8}:KV L 87 [.sl id0 g0 o0 len0,.d (.str v)]:=fun _ _ _ _ => aC Q5
theorem FF (hn:1 ≤ n) {l:List Str} {v:Str} {i5:A} (hl:l.length ≤ 4294967296) {k:KE R}:∀ (j i m:Nat) (hi:i + j = l.length) (hm:j < m),
  aF env (aA env L n) L 0 [] Bz43 (fQ 0) (Z2 (U2 (Z1 (U2 (Z2 (U8 (U2 ([])))))))) m (.d (.ivs l.length (aJ l)) :: .d (.str v) :: Y2 (nI 0 :: Y2 (nI (l.length) :: nI i :: Y8 (Y2 ([]))))) [] k
  = match seek (oP l v) j i with
   | none => k (.exit 0) (.d (.ivs l.length (aJ l)) :: .d (.str v) :: Y2 (nI 0 :: Y2 (nI (l.length) :: nI (l.length) :: Y8 (Y2 ([]))))) []
   | some q => k .ret (.d (.ivs l.length (aJ l)) :: .d (.str v) :: Y2 (nI q :: Y2 (nI (l.length) :: nI q :: Y8 (Y2 ([]))))) []:=by
 intro j
 induction j with
 | zero =>
  intro i m hi hm
  obtain _ | m:=m; omega
  obtain rfl:i = l.length:=by omega
  simp -implicitDefEqProofs (maxSteps:=2000000) (disch:=try exact Dz) only [↓DN,↓kAsg,↓kRet,UP,simprocAttr,SE,Int.lt_irrefl,lE,i7,Tryz.f110]
  rfl
 | succ j ih =>
  intro i m hi hm
  obtain _ | m:=m; omega
  have hc:(i:Int) < l.length:=by omega
  have hk:i < l.length:=by omega
  have hi0:(0:Int) ≤ i:=by omega
  by_cases h1:l.getD i [] = v
  ·have hb:oP l v i = true:=by unfold oP; rw [decide_eq_true h1]
   rw [oC hb]
   clear ih
   simp -implicitDefEqProofs (maxSteps:=2000000) (disch:=try exact Dz) only [↓DN,↓kAsg,↓kRet,UP,simprocAttr,SE,hc,hi0,h1,Int.toNat_natCast,beq_self_eq_true,lE,i7,Tryz.f110]
  ·have hb:oP l v i = false:=by unfold oP; rw [decide_eq_false h1]
   rw [rA hb]
   have ih':=ih (i + 1) m (by omega) (by omega)
   rw [cs1 i] at ih'
   have h2:(v == l.getD i []) = false:=by simpa using fun h => h1 h.symm
   clear ih
   simp -implicitDefEqProofs (maxSteps:=2000000) (disch:=try exact Dz) only [↓DN,↓kAsg,↓kRet,UP,simprocAttr,SE,hc,hi0,h2,Int.toNat_natCast,↓ih',lE,i7,Tryz.f110]
def aJx (l:List Str) (v:Str):Int:=match seek (oP l v) l.length 0 with | none => -1 | some q => q
theorem jK (hn:2 ≤ n) (l:List Str) (v:List UInt8) (hl:l.length ≤ 4294967296) (hL:2 ^ 60 ≤ L):aA env L n 110 [.d (.ivs l.length (aJ l)),.d (.str v)] [] = some (nI (aJx l v),[]):=by
 have loop_c:=fun {R n k} hn => @FF R L n hn l v (.junk) hl k l.length 0 L (by omega) (by omega)
 simp only [Int.natCast_zero] at loop_c
 unfold aJx
 cases hs:seek (oP l v) l.length 0 with
 | none =>
  rw [hs] at loop_c
  simp only
  obtain _ | n:=n; omega
  simp -implicitDefEqProofs (maxSteps:=2000000) (disch:=try exact Dz) only [↓DN,↓kAsg,↓kRet,UP,simprocAttr,SE,↓loop_c,tI,oF,Tryz.f110]
 | some q =>
  rw [hs] at loop_c
  simp only
  obtain _ | n:=n; omega
  simp -implicitDefEqProofs (maxSteps:=2000000) (disch:=try exact Dz) only [↓DN,↓kAsg,↓kRet,UP,simprocAttr,SE,↓loop_c,tI,oF,Tryz.f110]
theorem IN:type_of% fun {L} l v hl hL => ks fun hn => @jK L _ hn l v hl hL:=fun {L} l v hl hL => ks fun hn => @jK L _ hn l v hl hL
theorem IO:type_of% fun {L} l v hl hL => kt fun hn => @jK L _ hn l v hl hL:=fun {L} l v hl hL => kt fun hn => @jK L _ hn l v hl hL
theorem FG {L:Nat} {id0 g0 o0 len0:Nat} {v:List UInt8}:KV L 110 [.sl id0 g0 o0 len0,.d (.str v)]:=fun _ _ _ _ => aC l7
theorem aRJ {l:List Str} {v:Str}:decide (0 ≤ aJx l v) = decide (v ∈ l):=by
 rw [← aML]
 unfold aJx
 cases seek (oP l v) l.length 0 with
 | none => rfl
 | some q => simp
theorem iI (hn:3 ≤ n) (l:List Str) (v:List UInt8) (hl:l.length ≤ 4294967296) (hL:2 ^ 60 ≤ L):aA env L n 71 [.d (.ivs l.length (aJ l)),.d (.str v)] [] = some (.d (.bool (decide (v ∈ l))),[]):=by
 rw [← aRJ]
 obtain _ | n:=n; omega
 simp -implicitDefEqProofs (maxSteps:=2000000) (disch:=try exact Dz) only [↓DN,↓kAsg,↓kRet,UP,simprocAttr,↓IN,↓IO,↓FG,SE,DV,rZ,Tryz.f71]
theorem dD:type_of% fun {L} l v hl hL => ks fun hn => @iI L _ hn l v hl hL:=fun {L} l v hl hL => ks fun hn => @iI L _ hn l v hl hL
theorem e8:type_of% fun {L} l v hl hL => kt fun hn => @iI L _ hn l v hl hL:=fun {L} l v hl hL => kt fun hn => @iI L _ hn l v hl hL
theorem dA {L:Nat} {id0 g0 o0 len0:Nat} {v:List UInt8}:KV L 71 [.sl id0 g0 o0 len0,.d (.str v)]:=fun _ _ _ _ => aC kW
end
section
theorem aOx {al:Int} {rs:List (List Int)} {ac:List Bool}:idsA (autD al rs ac) = []:=rfl
theorem aGu {E:Env} {f:FuncId} {h:H} {ord:List Nat} (hm:(E.hint f).mode = 1):qI E f h h ord = some (h,{ ids:=ord,ro:=true }):=by
 unfold qI
 rw [hm]
 simp
theorem VV {E:Env} {f:FuncId} {h t:H} (hm:(E.hint f).mode = 2):qI E f h (h ++ t) [] = some (h ++ t,{ ids:=List.range' h.length t.length,ro:=false }):=by
 unfold qI
 rw [hm]
 simp [wrC]
theorem jU {h h2:H} {i:Nat} {o:O} (hi:h[i]? = some o):(h ++ h2)[i]? = some o:=by
 rw [List.getElem?_append_left (vI hi)]; exact hi
theorem zQ {a:A} {i n k:Nat} (hi:idsA a = [i]) (h:i < n):iM { ids:=idsA a } { ids:=List.range' n k,ro:=false } = false:=by
 rw [hi]
 unfold iM
 simp only [Bool.not_true,Bool.false_and,Bool.not_false,Bool.true_and,Bool.false_or,List.any_eq_false,List.mem_range'_1,List.contains_iff_mem,List.mem_singleton]
 intro x hx
 omega
section
variable {L n:Nat} {h:H}
end
end
section
def yB:List Int → List Int → Prop
 | a :: x,b :: y => a < b ∨ a = b ∧ yB x y
 | _,_ => False
def slt (x y:List Int):Prop:=x.length < y.length ∨ x.length = y.length ∧ yB x y
theorem aMe:∀ x:List Int,¬ yB x x
 | [],h => h
 | a :: x,h => by
  rcases h with h | ⟨_,h⟩
  ·omega
  ·exact aMe x h
theorem aFX:∀ {x y z:List Int},yB x y → yB y z → yB x z
 | [],_,_,h,_ => h.elim
 | _ :: _,[],_,h,_ => h.elim
 | _ :: _,_ :: _,[],_,h => h.elim
 | a :: x,b :: y,c :: z,h,k => by
  rcases h with h | ⟨rfl,h⟩
  ·rcases k with k | ⟨rfl,k⟩
   ·exact .inl (by omega)
   ·exact .inl h
  ·rcases k with k | ⟨rfl,k⟩
   ·exact .inl k
   ·exact .inr ⟨rfl,aFX h k⟩
theorem aLT:∀ {x y:List Int},x.length = y.length → x = y ∨ yB x y ∨ yB y x
 | [],[],_ => .inl rfl
 | [],_ :: _,h => by simp at h
 | _ :: _,[],h => by simp at h
 | a :: x,b :: y,h => by
  rcases Int.lt_trichotomy a b with h1 | h1 | h1
  ·exact .inr (.inl (.inl h1))
  ·subst h1
   rcases aLT (x:=x) (y:=y) (by simpa using h) with h2 | h2 | h2
   ·exact .inl (by rw [h2])
   ·exact .inr (.inl (.inr ⟨rfl,h2⟩))
   ·exact .inr (.inr (.inr ⟨rfl,h2⟩))
  ·exact .inr (.inr (.inl h1))
theorem aKF (x:List Int):¬ slt x x:=by
 intro h
 rcases h with h | ⟨_,h⟩
 ·omega
 ·exact aMe x h
theorem V4 {x y z:List Int} (h:slt x y) (k:slt y z):slt x z:=by
 rcases h with h | ⟨h1,h⟩ <;> rcases k with k | ⟨k1,k⟩
 ·exact .inl (by omega)
 ·exact .inl (by omega)
 ·exact .inl (by omega)
 ·exact .inr ⟨by omega,aFX h k⟩
theorem aQP (x y:List Int):x = y ∨ slt x y ∨ slt y x:=by
 rcases Nat.lt_trichotomy x.length y.length with h | h | h
 ·exact .inr (.inl (.inl h))
 ·rcases aLT h with k | k | k
  ·exact .inl k
  ·exact .inr (.inl (.inr ⟨h,k⟩))
  ·exact .inr (.inr (.inr ⟨h.symm,k⟩))
 ·exact .inr (.inr (.inl h))
theorem QJ:∀ {u v:List Int} {a b:Int},u.length = v.length → (yB (u ++ [a]) (v ++ [b]) ↔ yB u v ∨ u = v ∧ a < b)
 | [],[],a,b,_ => by simp [yB]
 | [],_ :: _,a,b,h => by simp at h
 | _ :: _,[],a,b,h => by simp at h
 | x :: u,y :: v,a,b,h => by
  have ih:=QJ (u:=u) (v:=v) (a:=a) (b:=b) (by simpa using h)
  simp only [List.cons_append,yB,ih,List.cons.injEq]
  constructor
  ·rintro (k | ⟨rfl,k | ⟨rfl,k⟩⟩)
   ·exact .inl (.inl k)
   ·exact .inl (.inr ⟨rfl,k⟩)
   ·exact .inr ⟨⟨rfl,rfl⟩,k⟩
  ·rintro ((k | ⟨rfl,k⟩) | ⟨⟨rfl,rfl⟩,k⟩)
   ·exact .inl k
   ·exact .inr ⟨rfl,.inl k⟩
   ·exact .inr ⟨rfl,.inr ⟨rfl,k⟩⟩
theorem aBb {u v:List Int} {a b:Int}:slt (u ++ [a]) (v ++ [b]) ↔ slt u v ∨ u = v ∧ a < b:=by
 unfold slt
 simp only [List.length_append,List.length_cons,List.length_nil]
 constructor
 ·rintro (h | ⟨h,k⟩)
  ·exact .inl (.inl (by omega))
  ·have hl:u.length = v.length:=by omega
   rcases (QJ hl).1 k with k | k
   ·exact .inl (.inr ⟨hl,k⟩)
   ·exact .inr k
 ·rintro ((h | ⟨h,k⟩) | ⟨rfl,k⟩)
  ·exact .inl (by omega)
  ·exact .inr ⟨by omega,(QJ h).2 (.inl k)⟩
  ·exact .inr ⟨rfl,(QJ rfl).2 (.inr ⟨rfl,k⟩)⟩
def Path (nx:Int → Int → List Int) (ls:List Int):Int → List Int → Int → Prop
 | v,[],u => v = u
 | v,l :: w,u => l ∈ ls ∧ ∃ m ∈ nx v l,Path nx ls m w u
section
variable {nx:Int → Int → List Int} {ls:List Int}
theorem aPa:∀ {x y:List Int} {v u:Int},Path nx ls v (x ++ y) u ↔ ∃ m,Path nx ls v x m ∧ Path nx ls m y u
 | [],y,v,u => by simp [Path]
 | l :: x,y,v,u => by
  simp only [List.cons_append,Path,aPa (x:=x)]
  constructor
  ·rintro ⟨h,m,hm,q,h1,h2⟩
   exact ⟨q,⟨h,m,hm,h1⟩,h2⟩
  ·rintro ⟨q,⟨h,m,hm,h1⟩,h2⟩
   exact ⟨h,m,hm,q,h1,h2⟩
theorem aK3 {w:List Int} {l v u:Int}:Path nx ls v (w ++ [l]) u ↔ l ∈ ls ∧ ∃ m,Path nx ls v w m ∧ u ∈ nx m l:=by
 rw [aPa]
 simp only [Path]
 constructor
 ·rintro ⟨m,h1,h2,q,h3,rfl⟩
  exact ⟨h2,m,h1,h3⟩
 ·rintro ⟨h2,m,h1,h3⟩
  exact ⟨m,h1,h2,u,h3,rfl⟩
def AO (nx:Int → Int → List Int) (ls start w:List Int) (u:Int):Prop:=∃ s ∈ start,Path nx ls s w u
def Hits (nx:Int → Int → List Int) (ls start:List Int) (gl:Int → Bool) (w:List Int):Prop:=∃ u,AO nx ls start w u ∧ gl u = true
def aEv (P:List Int → Prop) (w:List Int):Prop:=P w ∧ ∀ x,P x → ¬ slt x w
theorem aOE {P:List Int → Prop} {x y:List Int} (hx:aEv P x) (hy:aEv P y):x = y:=by
 rcases aQP x y with h | h | h
 ·exact h
 ·exact (hy.2 x hx.1 h).elim
 ·exact (hx.2 y hy.1 h).elim
def P5 (P:List Int → Prop) (r:List Int × Bool):Prop:=(r.2 = true ∧ aEv P r.1) ∨ (r = ([],false) ∧ ∀ w,¬ P w)
theorem zN {P:List Int → Prop} {r q:List Int × Bool} (hr:P5 P r) (hq:P5 P q):r = q:=by
 rcases hr with ⟨h1,h2⟩ | ⟨h1,h2⟩ <;> rcases hq with ⟨k1,k2⟩ | ⟨k1,k2⟩
 ·obtain ⟨a,b⟩:=r
  obtain ⟨c,d⟩:=q
  simp only at h1 k1 h2 k2
  subst h1; subst k1
  rw [aOE h2 k2]
 ·exact (k2 _ h2.1).elim
 ·exact (h2 _ k2.1).elim
 ·rw [h1,k1]
theorem aJM {P Q:List Int → Prop} {r:List Int × Bool} (h:∀ w,P w ↔ Q w) (hr:P5 P r):P5 Q r:=by
 have:P = Q:=funext fun w => propext (h w)
 rw [← this]; exact hr
end
end
section
structure PStep where
 par:Int
 lt:Int
 ns:List Int
instance:Inhabited PStep:=⟨⟨0,0,[]⟩⟩
def visG (gl:Int → Bool):List Int → List Bool → List Int → Bool → List Bool × List Int × Bool
 | [],s,f,b => (s,f,b)
 | n :: ns,s,f,b => if s.getD n.toNat false = true then visG gl ns s f b else visG gl ns (s.set n.toNat true) (f ++ [n]) (b || gl n)
def addP (st:List PStep) (p l:Int) (f:List Int):List PStep:=if f = [] then st else st ++ [⟨p,l,f⟩]
def flat (nx:Int → Int → List Int) (ns:List Int) (l:Int):List Int:=ns.flatMap fun n => nx n l
def ltG (nx:Int → Int → List Int) (gl:Int → Bool) (ns:List Int) (p:Int):List Int → List Bool × List PStep → Bool × List Bool × List PStep
 | [],q => (false,q)
 | l :: ls,q =>
  if (visG gl (flat nx ns l) q.1 [] false).2.2 = true then (true,(visG gl (flat nx ns l) q.1 [] false).1,addP q.2 p l (visG gl (flat nx ns l) q.1 [] false).2.1)
  else ltG nx gl ns p ls ((visG gl (flat nx ns l) q.1 [] false).1,addP q.2 p l (visG gl (flat nx ns l) q.1 [] false).2.1)
def outG (nx:Int → Int → List Int) (gl:Int → Bool) (ls:List Int):Nat → Nat → List Bool × List PStep → Bool × List Bool × List PStep
 | 0,_,q => (false,q)
 | j + 1,i,q => if i < q.2.length then
   (if (ltG nx gl (q.2.getD i default).ns i ls q).1 = true then ltG nx gl (q.2.getD i default).ns i ls q
    else outG nx gl ls j (i + 1) (ltG nx gl (q.2.getD i default).ns i ls q).2)
  else (false,q)
def l4 (st:List PStep):Nat → Nat → List Int
 | 0,_ => []
 | j + 1,i => if 0 ≤ (st.getD i default).par then l4 st j (st.getD i default).par.toNat ++ [(st.getD i default).lt] else []
def QI (nx:Int → Int → List Int) (gl:Int → Bool) (ls start:List Int) (size:Nat):List Int × Bool :=
 if (visG gl start (List.replicate size false) [] false).2.2 = true then ([],true)
 else if (outG nx gl ls (size + 1) 0 ((visG gl start (List.replicate size false) [] false).1,addP [] (-1) 0 (visG gl start (List.replicate size false) [] false).2.1)).1 = true then
  (l4 (outG nx gl ls (size + 1) 0 ((visG gl start (List.replicate size false) [] false).1,addP [] (-1) 0 (visG gl start (List.replicate size false) [] false).2.1)).2.2
   (outG nx gl ls (size + 1) 0 ((visG gl start (List.replicate size false) [] false).1,addP [] (-1) 0 (visG gl start (List.replicate size false) [] false).2.1)).2.2.length
   ((outG nx gl ls (size + 1) 0 ((visG gl start (List.replicate size false) [] false).1,addP [] (-1) 0 (visG gl start (List.replicate size false) [] false).2.1)).2.2.length - 1),true)
 else ([],false)
def Sn (s:List Bool) (n:Int):Prop:=s.getD n.toNat false = true
theorem a0F {s:List Bool} {n m:Int} (h0:0 ≤ n) (h1:n < s.length) (hm:0 ≤ m):Sn (s.set n.toNat true) m ↔ m = n ∨ Sn s m:=by
 unfold Sn
 rw [List.getD_eq_getElem?_getD,List.getD_eq_getElem?_getD,List.getElem?_set]
 by_cases h:n.toNat = m.toNat
 ·have:m = n:=by omega
  subst this
  simp [show m.toNat < s.length by omega]
 ·have:m ≠ n:=by omega
  simp [h,this]
structure Vis (gl:Int → Bool) (ns:List Int) (s:List Bool) (f:List Int) (b:Bool) (r:List Bool × List Int × Bool):Prop where
 seen:∀ m,0 ≤ m → (Sn r.1 m ↔ Sn s m ∨ m ∈ ns)
 new:∀ m,m ∈ r.2.1 ↔ m ∈ f ∨ (m ∈ ns ∧ ¬ Sn s m)
 hit:r.2.2 = true ↔ b = true ∨ ∃ m,m ∈ ns ∧ ¬ Sn s m ∧ gl m = true
 cnt:r.2.1.length + r.1.count false = f.length + s.count false
 len:r.1.length = s.length
theorem aJF:∀ {s:List Bool} {k:Nat},s.getD k false = false → k < s.length → (s.set k true).count false + 1 = s.count false
 | [],k,h,hk => by simp at hk
 | b :: s,0,h,hk => by
  simp at h
  subst h
  simp
 | b :: s,k + 1,h,hk => by
  have ih:=aJF (s:=s) (k:=k) (by simpa using h) (by simpa using hk)
  simp only [List.set_cons_succ,List.count_cons]
  omega
theorem aJV (gl:Int → Bool):∀ (ns:List Int) (s:List Bool) (f:List Int) (b:Bool),(∀ n ∈ ns,0 ≤ n ∧ n < s.length) → Vis gl ns s f b (visG gl ns s f b)
 | [],s,f,b,_ => ⟨by simp [visG],by simp [visG],by simp [visG],rfl,rfl⟩
 | n :: ns,s,f,b,h => by
  have h2:=h n List.mem_cons_self
  unfold visG
  split
  ·rename_i h1
   have ih:=aJV gl ns s f b fun m hm => h m (List.mem_cons_of_mem _ hm)
   refine ⟨fun m hm => ?_,fun m => ?_,?_,ih.cnt,ih.len⟩
   ·rw [ih.seen m hm]
    constructor
    ·rintro (k | k)
     ·exact .inl k
     ·exact .inr (List.mem_cons_of_mem _ k)
    ·rintro (k | k)
     ·exact .inl k
     ·rcases List.mem_cons.1 k with rfl | k
      ·exact .inl h1
      ·exact .inr k
   ·rw [ih.new m]
    constructor
    ·rintro (k | ⟨k,k2⟩)
     ·exact .inl k
     ·exact .inr ⟨List.mem_cons_of_mem _ k,k2⟩
    ·rintro (k | ⟨k,k2⟩)
     ·exact .inl k
     ·rcases List.mem_cons.1 k with rfl | k
      ·exact (k2 h1).elim
      ·exact .inr ⟨k,k2⟩
   ·rw [ih.hit]
    constructor
    ·rintro (k | ⟨m,k,k2⟩)
     ·exact .inl k
     ·exact .inr ⟨m,List.mem_cons_of_mem _ k,k2⟩
    ·rintro (k | ⟨m,k,k2⟩)
     ·exact .inl k
     ·rcases List.mem_cons.1 k with rfl | k
      ·exact (k2.1 h1).elim
      ·exact .inr ⟨m,k,k2⟩
  ·rename_i h1
   have ih:=aJV gl ns (s.set n.toNat true) (f ++ [n]) (b || gl n) fun m hm => by simpa using h m (List.mem_cons_of_mem _ hm)
   have hpos:∀ m ∈ ns,0 ≤ m:=fun m hm => (h m (List.mem_cons_of_mem _ hm)).1
   have hs:=fun {m:Int} (hm:0 ≤ m) => a0F (s:=s) (n:=n) (m:=m) h2.1 h2.2 hm
   refine ⟨fun m hm => ?_,fun m => ?_,?_,?_,?_⟩
   ·rw [ih.seen m hm,hs hm,List.mem_cons]
    constructor
    ·rintro ((k | k) | k)
     ·exact .inr (.inl k)
     ·exact .inl k
     ·exact .inr (.inr k)
    ·rintro (k | k | k)
     ·exact .inl (.inr k)
     ·exact .inl (.inl k)
     ·exact .inr k
   ·rw [ih.new m,List.mem_append,List.mem_singleton,List.mem_cons]
    constructor
    ·rintro ((k | rfl) | ⟨k,k2⟩)
     ·exact .inl k
     ·exact .inr ⟨.inl rfl,h1⟩
     ·rw [hs (hpos m k)] at k2
      exact .inr ⟨.inr k,fun h3 => k2 (.inr h3)⟩
    ·rintro (k | ⟨rfl | k,k2⟩)
     ·exact .inl (.inl k)
     ·exact .inl (.inr rfl)
     ·by_cases hmn:m = n
      ·exact .inl (.inr hmn)
      ·refine .inr ⟨k,fun h3 => ?_⟩
       rw [hs (hpos m k)] at h3
       rcases h3 with h3 | h3
       ·exact hmn h3
       ·exact k2 h3
   ·rw [ih.hit,Bool.or_eq_true]
    constructor
    ·rintro ((k | k) | ⟨m,k,k2,k3⟩)
     ·exact .inl k
     ·exact .inr ⟨n,List.mem_cons_self,h1,k⟩
     ·rw [hs (hpos m k)] at k2
      exact .inr ⟨m,List.mem_cons_of_mem _ k,fun h3 => k2 (.inr h3),k3⟩
    ·rintro (k | ⟨m,k,k2,k3⟩)
     ·exact .inl (.inl k)
     ·by_cases hmn:m = n
      ·subst hmn; exact .inl (.inr k3)
      ·rcases List.mem_cons.1 k with k | k
       ·exact (hmn k).elim
       ·refine .inr ⟨m,k,fun h3 => ?_,k3⟩
        rw [hs (hpos m k)] at h3
        rcases h3 with h3 | h3
        ·exact hmn h3
        ·exact k2 h3
   ·have:=aJF (s:=s) (k:=n.toNat) (by simpa using h1) (by omega)
    have hc:=ih.cnt
    simp only [List.length_append,List.length_cons,List.length_nil] at hc
    omega
   ·have:=ih.len
    simpa using this
section
variable {nx:Int → Int → List Int} {gl:Int → Bool} {ls start:List Int} {size:Nat}
def Asc (l:List Int):Prop:=l.Pairwise (· < ·)
structure Mid (nx:Int → Int → List Int) (gl:Int → Bool) (ls start:List Int) (size:Nat) (i:Nat) (ds:List Int) (s:List Bool) (st:List PStep) (W:Nat → List Int):Prop where
 len:s.length = size
 room:st.length + s.count false ≤ size
 wide:∀ k,k < st.length → (st.getD k default).ns.length ≤ size
 par0:∀ k,k < st.length → ((st.getD k default).par < 0 ∧ W k = []) ∨ (∃ p:Nat,(st.getD k default).par = p ∧ p < k ∧ (p < i ∨ p = i ∧ (st.getD k default).lt ∈ ds) ∧ W k = W p ++ [(st.getD k default).lt])
 nodes:∀ k,k < st.length → ∀ n ∈ (st.getD k default).ns,AO nx ls start (W k) n ∧ Sn s n ∧ (0 ≤ n ∧ n < size)
 all:∀ n,0 ≤ n → Sn s n → ∃ k,k < st.length ∧ n ∈ (st.getD k default).ns
 asc:∀ j k,j < k → k < st.length → slt (W j) (W k)
 least:∀ k,k < st.length → ∀ n ∈ (st.getD k default).ns,∀ w,AO nx ls start w n → ¬ slt w (W k)
 none:∀ n,0 ≤ n → Sn s n → gl n = false
 begun:∀ n ∈ start,Sn s n
 done:∀ k,k < st.length → ∀ p ∈ (st.getD k default).ns,∀ l ∈ ls,(k < i ∨ k = i ∧ l ∈ ds) → ∀ m ∈ nx p l,Sn s m
theorem WR {n:Int}:AO nx ls start [] n ↔ n ∈ start:=by
 unfold AO Path
 constructor
 ·rintro ⟨s,h,rfl⟩; exact h
 ·intro h; exact ⟨n,h,rfl⟩
theorem aA7 {w:List Int} {l n:Int}:AO nx ls start (w ++ [l]) n ↔ l ∈ ls ∧ ∃ m,AO nx ls start w m ∧ n ∈ nx m l:=by
 unfold AO
 constructor
 ·rintro ⟨s,h,k⟩
  obtain ⟨h1,m,h2,h3⟩:=aK3.1 k
  exact ⟨h1,m,⟨s,h,h2⟩,h3⟩
 ·rintro ⟨h1,m,⟨s,h,h2⟩,h3⟩
  exact ⟨s,h,aK3.2 ⟨h1,m,h2,h3⟩⟩
theorem aAp (w:List Int):w = [] ∨ ∃ u l,w = u ++ [l]:=by
 rcases List.eq_nil_or_concat w with h | ⟨u,l,h⟩
 ·exact .inl h
 ·exact .inr ⟨u,l,by simpa using h⟩
theorem aRV {i:Nat} {ds:List Int} {l:Int} {rs:List Int} {s:List Bool} {st:List PStep} {W:Nat → List Int} (hm:Mid nx gl ls start size i ds s st W) (hi:i < st.length) (hls:ls = ds ++ l :: rs) (ha:Asc ls) (hnx:∀ p c:Int,0 ≤ p → p < size → c ∈ ls → ∀ m ∈ nx p c,0 ≤ m ∧ m < size) (hst:∀ n ∈ start,0 ≤ n ∧ n < size) :
  ∀ (q:Nat) (w:List Int),w.length = q → slt w (W i ++ [l]) → ∀ n,AO nx ls start w n → Sn s n ∧ (0 ≤ n ∧ n < size):=by
 intro q
 induction q with
 | zero =>
  intro w hw hlt n hc
  have:w = []:=List.length_eq_zero_iff.1 hw
  subst this
  have:=WR.1 hc
  exact ⟨hm.begun n this,hst n this⟩
 | succ q ih =>
  intro w hw hlt n hc
  rcases aAp w with rfl | ⟨u,c,rfl⟩
  ·simp at hw
  obtain ⟨hcl,p,hp,hn⟩:=aA7.1 hc
  have hul:u.length = q:=by simpa using hw
  have hu:slt u (W i ++ [l]):=V4 (.inl (by simp)) hlt
  obtain ⟨hps,hpr⟩:=ih u hul hu p hp
  refine ⟨?_,hnx p c hpr.1 hpr.2 hcl n hn⟩
  obtain ⟨k,hk,hpk⟩:=hm.all p hpr.1 hps
  have hle:=hm.least k hk p hpk u hp
  have h2:=aBb.1 hlt
  refine hm.done k hk p hpk c hcl ?_ n hn
  rcases Nat.lt_trichotomy k i with h | h | h
  ·exact .inl h
  ·subst h
   refine .inr ⟨rfl,?_⟩
   rcases h2 with h2 | ⟨_,h2⟩
   ·exact (hle h2).elim
   ·rw [hls] at hcl ha
    rcases List.mem_append.1 hcl with h3 | h3
    ·exact h3
    ·exfalso
     rcases List.mem_cons.1 h3 with h4 | h4
     ·omega
     ·have h5:=List.pairwise_append.1 ha
      have:=(List.pairwise_cons.1 h5.2.1).1 c h4
      omega
  ·exfalso
   have h3:=hm.asc i k h hk
   rcases h2 with h2 | ⟨h2,_⟩
   ·exact hle (V4 h2 h3)
   ·subst h2
    exact hle h3
theorem rK {α:Type} {l m:List α} {i:Nat} {d:α} (h:i < l.length):(l ++ m).getD i d = l.getD i d:=by
 rw [List.getD_eq_getElem?_getD,List.getD_eq_getElem?_getD,List.getElem?_append_left h]
theorem aC6 {α:Type} {l:List α} {x d:α}:(l ++ [x]).getD l.length d = x:=by
 rw [List.getD_eq_getElem?_getD,List.getElem?_append_right (Nat.le_refl _)]; simp
theorem aZZ {i:Nat} {ds:List Int} {s:List Bool} {st:List PStep} {W:Nat → List Int} (hm:Mid nx gl ls start size i ds s st W):∀ (j k:Nat),k < j → k < st.length → l4 st j k = W k:=by
 intro j
 induction j with
 | zero => intro k hk; omega
 | succ j ih =>
  intro k hk hl
  unfold l4
  rcases hm.par0 k hl with ⟨h1,h2⟩ | ⟨p,h1,h2,_,h3⟩
  ·rw [if_neg (by omega),h2]
  ·rw [if_pos (by omega),h1,Int.toNat_natCast,ih p (by omega) (by omega),h3]
theorem aW4 {i:Nat} {ds:List Int} {l:Int} {rs:List Int} {s:List Bool} {st:List PStep} {W:Nat → List Int} (hm:Mid nx gl ls start size i ds s st W) (hi:i < st.length) (hls:ls = ds ++ l :: rs) (ha:Asc ls) (hnx:∀ p c:Int,0 ≤ p → p < size → c ∈ ls → ∀ m ∈ nx p c,0 ≤ m ∧ m < size) (hst:∀ n ∈ start,0 ≤ n ∧ n < size) :
  ((visG gl (flat nx (st.getD i default).ns l) s [] false).2.2 = true → aEv (Hits nx ls start gl) (W i ++ [l]) ∧ (visG gl (flat nx (st.getD i default).ns l) s [] false).2.1 ≠ []) ∧
  ((visG gl (flat nx (st.getD i default).ns l) s [] false).2.2 ≠ true → ∃ W',Mid nx gl ls start size i (ds ++ [l]) (visG gl (flat nx (st.getD i default).ns l) s [] false).1 (addP st i l (visG gl (flat nx (st.getD i default).ns l) s [] false).2.1) W'):=by
 have hll:l ∈ ls:=by rw [hls]; simp
 have hreach:∀ n ∈ flat nx (st.getD i default).ns l,AO nx ls start (W i ++ [l]) n ∧ (0 ≤ n ∧ n < size):=by
  intro n hn
  obtain ⟨p,hp,hpn⟩:=List.mem_flatMap.1 hn
  obtain ⟨h1,_,h3⟩:=hm.nodes i hi p hp
  exact ⟨aA7.2 ⟨hll,p,h1,hpn⟩,hnx p l h3.1 h3.2 hll n hpn⟩
 have hv:=aJV gl (flat nx (st.getD i default).ns l) s [] false fun n hn => by rw [hm.len]; exact (hreach n hn).2
 have hbef:=fun w => aRV hm hi hls ha hnx hst w.length w rfl
 generalize hns:flat nx (st.getD i default).ns l = ns at *
 generalize hr:visG gl ns s [] false = r at *
 obtain ⟨s2,f,b⟩:=r
 have v1:=hv.seen
 have v2:∀ m,m ∈ f ↔ m ∈ ns ∧ ¬ Sn s m:=fun m => by have:=hv.new m; simpa using this
 have v3:b = true ↔ ∃ m,m ∈ ns ∧ ¬ Sn s m ∧ gl m = true:=by have:=hv.hit; simpa using this
 have v4:f.length + s2.count false = s.count false:=by have:=hv.cnt; simpa using this
 have v5:s2.length = s.length:=hv.len
 simp only at v1 ⊢
 constructor
 ·intro hb
  obtain ⟨m,h1,h2,h3⟩:=v3.1 hb
  refine ⟨⟨⟨m,(hreach m h1).1,h3⟩,?_⟩,?_⟩
  ·rintro x ⟨u,hu,hg⟩ hlt
   obtain ⟨k1,k2⟩:=hbef x hlt u hu
   rw [hm.none u k2.1 k1] at hg
   cases hg
  ·intro hf
   have:=(v2 m).2 ⟨h1,h2⟩
   rw [hf] at this
   cases this
 ·intro hb
  have hnone:∀ n,0 ≤ n → Sn s2 n → gl n = false:=by
   intro n hn hs
   rcases (v1 n hn).1 hs with h | h
   ·exact hm.none n hn h
   ·by_cases hs0:Sn s n
    ·exact hm.none n hn hs0
    ·cases hg:gl n with
     | false => rfl
     | true => exact (hb (v3.2 ⟨n,h,hs0,hg⟩)).elim
  have hsn:∀ n,0 ≤ n → Sn s n → Sn s2 n:=fun n hn h => (v1 n hn).2 (.inl h)
  have hdone:∀ p ∈ (st.getD i default).ns,∀ m ∈ nx p l,Sn s2 m:=by
   intro p hp m hmm
   have:m ∈ ns:=by rw [← hns]; exact List.mem_flatMap.2 ⟨p,hp,hmm⟩
   exact (v1 m (hreach m this).2.1).2 (.inr this)
  unfold addP
  by_cases hf:f = []
  ·rw [if_pos hf]
   subst hf
   refine ⟨W,⟨by rw [v5,hm.len],by have:=hm.room; simp at v4; omega,hm.wide,?_,?_,?_,hm.asc,hm.least,hnone,?_,?_⟩⟩
   ·intro k hk
    rcases hm.par0 k hk with h | ⟨p,h1,h2,h3,h4⟩
    ·exact .inl h
    ·refine .inr ⟨p,h1,h2,?_,h4⟩
     rcases h3 with h3 | ⟨h3,h5⟩
     ·exact .inl h3
     ·exact .inr ⟨h3,List.mem_append_left _ h5⟩
   ·intro k hk n hn
    obtain ⟨h1,h2,h3⟩:=hm.nodes k hk n hn
    exact ⟨h1,hsn n h3.1 h2,h3⟩
   ·intro n hn hs
    rcases (v1 n hn).1 hs with h | h
    ·exact hm.all n hn h
    ·by_cases hs0:Sn s n
     ·exact hm.all n hn hs0
     ·have:=(v2 n).2 ⟨h,hs0⟩
      cases this
   ·intro n hn
    exact hsn n (hst n hn).1 (hm.begun n hn)
   ·intro k hk p hp c hc hor m hmm
    have hpr:=(hm.nodes k hk p hp).2.2
    have hmr:=hnx p c hpr.1 hpr.2 hc m hmm
    rcases hor with h | ⟨h,h2⟩
    ·exact hsn m hmr.1 (hm.done k hk p hp c hc (.inl h) m hmm)
    ·rcases List.mem_append.1 h2 with h3 | h3
     ·exact hsn m hmr.1 (hm.done k hk p hp c hc (.inr ⟨h,h3⟩) m hmm)
     ·simp at h3
      subst h3; subst h
      exact hdone p hp m hmm
  ·rw [if_neg hf]
   have hfl:0 < f.length:=List.length_pos_iff.2 hf
   refine ⟨fun k => if k = st.length then W i ++ [l] else W k,?_⟩
   have hold:∀ k,k < st.length → (st ++ [(⟨i,l,f⟩:PStep)]).getD k default = st.getD k default:=fun k hk => rK hk
   have hnew:(st ++ [(⟨i,l,f⟩:PStep)]).getD st.length default = ⟨i,l,f⟩:=aC6
   have hlen:(st ++ [(⟨i,l,f⟩:PStep)]).length = st.length + 1:=by simp
   have hmax:∀ k,k < st.length → slt (W k) (W i ++ [l]):=by
    intro k hk
    rcases hm.par0 k hk with ⟨_,h⟩ | ⟨p,h1,h2,h3,h4⟩
    ·rw [h]; exact .inl (by simp)
    ·rw [h4,aBb]
     rcases h3 with h3 | ⟨h3,h5⟩
     ·exact .inl (hm.asc p i h3 hi)
     ·subst h3
      refine .inr ⟨rfl,?_⟩
      rw [hls] at ha
      have h6:=List.pairwise_append.1 ha
      exact h6.2.2 _ h5 l List.mem_cons_self
   refine ⟨by rw [v5,hm.len],by have:=hm.room; rw [hlen]; omega,?_,?_,?_,?_,?_,?_,hnone,?_,?_⟩
   ·intro k hk
    rw [hlen] at hk
    by_cases h:k < st.length
    ·rw [hold k h]; exact hm.wide k h
    ·obtain rfl:k = st.length:=by omega
     rw [hnew]
     have:=List.count_le_length (a:=false) (l:=s)
     have:=hm.len
     show f.length ≤ size
     omega
   ·intro k hk
    rw [hlen] at hk
    by_cases h:k < st.length
    ·rw [hold k h]
     simp only [show k ≠ st.length by omega,if_false]
     rcases hm.par0 k h with h0 | ⟨p,h1,h2,h3,h4⟩
     ·exact .inl h0
     ·refine .inr ⟨p,h1,h2,?_,?_⟩
      ·rcases h3 with h3 | ⟨h3,h5⟩
       ·exact .inl h3
       ·exact .inr ⟨h3,List.mem_append_left _ h5⟩
      ·rw [if_neg (by omega)]; exact h4
    ·obtain rfl:k = st.length:=by omega
     rw [hnew]
     refine .inr ⟨i,rfl,hi,.inr ⟨rfl,by simp⟩,?_⟩
     simp only [if_true]
     rw [if_neg (by omega)]
   ·intro k hk n hn
    rw [hlen] at hk
    by_cases h:k < st.length
    ·rw [hold k h] at hn
     obtain ⟨h1,h2,h3⟩:=hm.nodes k h n hn
     simp only [show k ≠ st.length by omega,if_false]
     exact ⟨h1,hsn n h3.1 h2,h3⟩
    ·obtain rfl:k = st.length:=by omega
     rw [hnew] at hn
     have h1:=((v2 n).1 hn).1
     have h2:=hreach n h1
     simp only [if_true]
     exact ⟨h2.1,(v1 n h2.2.1).2 (.inr h1),h2.2⟩
   ·intro n hn hs
    by_cases hs0:Sn s n
    ·obtain ⟨k,hk,h1⟩:=hm.all n hn hs0
     exact ⟨k,by omega,by rw [hold k hk]; exact h1⟩
    ·rcases (v1 n hn).1 hs with h | h
     ·exact (hs0 h).elim
     ·exact ⟨st.length,by omega,by rw [hnew]; exact (v2 n).2 ⟨h,hs0⟩⟩
   ·intro j k hjk hk
    rw [hlen] at hk
    by_cases h:k < st.length
    ·simp only [show k ≠ st.length by omega,show j ≠ st.length by omega,if_false]
     exact hm.asc j k hjk h
    ·obtain rfl:k = st.length:=by omega
     simp only [show j ≠ st.length by omega,if_false,if_true]
     exact hmax j hjk
   ·intro k hk n hn w hw
    rw [hlen] at hk
    by_cases h:k < st.length
    ·rw [hold k h] at hn
     simp only [show k ≠ st.length by omega,if_false]
     exact hm.least k h n hn w hw
    ·obtain rfl:k = st.length:=by omega
     rw [hnew] at hn
     simp only [if_true]
     intro hlt
     exact ((v2 n).1 hn).2 (hbef w hlt n hw).1
   ·intro n hn
    exact hsn n (hst n hn).1 (hm.begun n hn)
   ·intro k hk p hp c hc hor m hmm
    rw [hlen] at hk
    by_cases h:k < st.length
    ·rw [hold k h] at hp
     have hpr:=(hm.nodes k h p hp).2.2
     have hmr:=hnx p c hpr.1 hpr.2 hc m hmm
     rcases hor with h1 | ⟨h1,h2⟩
     ·exact hsn m hmr.1 (hm.done k h p hp c hc (.inl h1) m hmm)
     ·rcases List.mem_append.1 h2 with h3 | h3
      ·exact hsn m hmr.1 (hm.done k h p hp c hc (.inr ⟨h1,h3⟩) m hmm)
      ·simp at h3
       subst h3; subst h1
       exact hdone p hp m hmm
    ·exfalso
     omega
theorem aPt {i:Nat} (ha:Asc ls) (hnx:∀ p c:Int,0 ≤ p → p < size → c ∈ ls → ∀ m ∈ nx p c,0 ≤ m ∧ m < size) (hst:∀ n ∈ start,0 ≤ n ∧ n < size) {ns:List Int}:∀ (rs ds:List Int) (s:List Bool) (st:List PStep) (W:Nat → List Int),Mid nx gl ls start size i ds s st W → i < st.length → ls = ds ++ rs → ns = (st.getD i default).ns →
  ((ltG nx gl ns i rs (s,st)).1 = true → aEv (Hits nx ls start gl) (l4 (ltG nx gl ns i rs (s,st)).2.2 (ltG nx gl ns i rs (s,st)).2.2.length ((ltG nx gl ns i rs (s,st)).2.2.length - 1))) ∧
  ((ltG nx gl ns i rs (s,st)).1 ≠ true → st.length ≤ (ltG nx gl ns i rs (s,st)).2.2.length ∧ ∃ W',Mid nx gl ls start size (i + 1) [] (ltG nx gl ns i rs (s,st)).2.1 (ltG nx gl ns i rs (s,st)).2.2 W'):=by
 intro rs
 induction rs with
 | nil =>
  intro ds s st W hm hi hls hns
  simp only [List.append_nil] at hls
  subst hls
  refine ⟨fun h => by simp [ltG] at h,fun _ => ⟨Nat.le_refl _,W,hm.len,hm.room,hm.wide,?_,hm.nodes,hm.all,hm.asc,hm.least,hm.none,hm.begun,?_⟩⟩
  ·intro k hk
   rcases hm.par0 k hk with h0 | ⟨p,h1,h2,h3,h4⟩
   ·exact .inl h0
   ·exact .inr ⟨p,h1,h2,.inl (by omega),h4⟩
  ·intro k hk p hp l hl hor m hmm
   rcases hor with h | ⟨_,h⟩
   ·exact hm.done k hk p hp l hl (by by_cases hki:k = i; exact .inr ⟨hki,hl⟩; exact .inl (by omega)) m hmm
   ·cases h
 | cons l rs ih =>
  intro ds s st W hm hi hls hns
  obtain ⟨h1,h2⟩:=aW4 hm hi hls ha hnx hst
  rw [← hns] at h1 h2
  simp only [ltG]
  by_cases hb:(visG gl (flat nx ns l) s [] false).2.2 = true
  ·simp only [hb,if_true]
   refine ⟨fun _ => ?_,fun h => (h rfl).elim⟩
   obtain ⟨k1,k2⟩:=h1 hb
   unfold addP
   rw [if_neg k2]
   simp only [List.length_append,List.length_cons,List.length_nil,Nat.zero_add,Nat.add_sub_cancel]
   have hw:l4 (st ++ [⟨i,l,(visG gl (flat nx ns l) s [] false).2.1⟩]) (st.length + 1) st.length = W i ++ [l]:=by
    unfold l4
    rw [aC6]
    simp only [Int.toNat_natCast]
    rw [if_pos (by omega)]
    congr 1
    have hpre:∀ (j k:Nat),k < j → k < st.length → ∀ x,l4 (st ++ [x]) j k = l4 st j k:=by
     intro j
     induction j with
     | zero => intro k hk; omega
     | succ j ihj =>
      intro k hk hl x
      unfold l4
      rw [rK hl]
      rcases hm.par0 k hl with ⟨h1,h2⟩ | ⟨p,h1,h2,_,h3⟩
      ·rw [if_neg (by omega),if_neg (by omega)]
      ·rw [if_pos (by omega),if_pos (by omega),h1,Int.toNat_natCast,ihj p (by omega) (by omega)]
    rw [hpre _ _ hi hi,aZZ hm _ _ hi hi]
   rw [hw]
   exact k1
  ·simp only [hb,if_false]
   obtain ⟨W',hm'⟩:=h2 hb
   have hle:st.length ≤ (addP st i l (visG gl (flat nx ns l) s [] false).2.1).length:=by
    unfold addP; split <;> simp
   have hget:ns = ((addP st i l (visG gl (flat nx ns l) s [] false).2.1).getD i default).ns:=by
    rw [hns]
    unfold addP
    split
    ·rfl
    ·rw [rK hi]
   obtain ⟨g1,g2⟩:=ih (ds ++ [l]) _ _ W' hm' (by omega) (by rw [hls]; simp) hget
   exact ⟨g1,fun h => ⟨Nat.le_trans hle (g2 h).1,(g2 h).2⟩⟩
theorem aWl (ha:Asc ls) (hnx:∀ p c:Int,0 ≤ p → p < size → c ∈ ls → ∀ m ∈ nx p c,0 ≤ m ∧ m < size) (hst:∀ n ∈ start,0 ≤ n ∧ n < size):∀ (j i:Nat) (s:List Bool) (st:List PStep) (W:Nat → List Int),Mid nx gl ls start size i [] s st W → i ≤ st.length → size + 1 ≤ i + j →
  ((outG nx gl ls j i (s,st)).1 = true → aEv (Hits nx ls start gl) (l4 (outG nx gl ls j i (s,st)).2.2 (outG nx gl ls j i (s,st)).2.2.length ((outG nx gl ls j i (s,st)).2.2.length - 1))) ∧
  ((outG nx gl ls j i (s,st)).1 ≠ true → ∀ w,¬ Hits nx ls start gl w):=by
 have fin:∀ (i:Nat) (s:List Bool) (st:List PStep) (W:Nat → List Int),Mid nx gl ls start size i [] s st W → ¬ i < st.length → ∀ w,¬ Hits nx ls start gl w:=by
  intro i s st W hm hi w
  have key:∀ (q:Nat) (w:List Int),w.length = q → ∀ n,AO nx ls start w n → Sn s n ∧ (0 ≤ n ∧ n < size):=by
   intro q
   induction q with
   | zero =>
    intro w hw n hc
    have:w = []:=List.length_eq_zero_iff.1 hw
    subst this
    have:=WR.1 hc
    exact ⟨hm.begun n this,hst n this⟩
   | succ q ih =>
    intro w hw n hc
    rcases aAp w with rfl | ⟨u,c,rfl⟩
    ·simp at hw
    obtain ⟨hcl,p,hp,hn⟩:=aA7.1 hc
    obtain ⟨h1,h2⟩:=ih u (by simpa using hw) p hp
    obtain ⟨k,hk,hpk⟩:=hm.all p h2.1 h1
    exact ⟨hm.done k hk p hpk c hcl (.inl (by omega)) n hn,hnx p c h2.1 h2.2 hcl n hn⟩
  rintro ⟨u,hu,hg⟩
  obtain ⟨h1,h2⟩:=key w.length w rfl u hu
  rw [hm.none u h2.1 h1] at hg
  cases hg
 intro j
 induction j with
 | zero =>
  intro i s st W hm hi hj
  have:=hm.room
  exfalso; omega
 | succ j ih =>
  intro i s st W hm hi hj
  simp only [outG]
  by_cases hlt:i < st.length
  ·simp only [hlt,if_true]
   obtain ⟨h1,h2⟩:=aPt (ns:=(st.getD i default).ns) ha hnx hst ls [] s st W hm hlt rfl rfl
   by_cases hb:(ltG nx gl (st.getD i default).ns i ls (s,st)).1 = true
   ·simp only [hb,if_true]
    exact ⟨fun _ => h1 hb,fun h => (h rfl).elim⟩
   ·simp only [hb,if_false]
    obtain ⟨h3,W',hm'⟩:=h2 hb
    exact ih (i + 1) _ _ W' hm' (Nat.le_trans hlt h3) (by omega)
  ·rw [if_neg hlt]
   exact ⟨fun h => Bool.noConfusion h,fun _ => fin i s st W hm hlt⟩
theorem aKg (ha:Asc ls) (hnx:∀ p c:Int,0 ≤ p → p < size → c ∈ ls → ∀ m ∈ nx p c,0 ≤ m ∧ m < size) (hst:∀ n ∈ start,0 ≤ n ∧ n < size) (hne:start ≠ []):P5 (Hits nx ls start gl) (QI nx gl ls start size):=by
 have hz:∀ n,¬ Sn (List.replicate size false) n:=by
  intro n
  unfold Sn
  rw [List.getD_eq_getElem?_getD,List.getElem?_replicate]
  split <;> simp
 have hv:=aJV gl start (List.replicate size false) [] false fun n hn => by simpa using hst n hn
 unfold QI
 generalize visG gl start (List.replicate size false) [] false = r at *
 obtain ⟨s2,f,b⟩:=r
 have v1:∀ m,0 ≤ m → (Sn s2 m ↔ m ∈ start):=fun m hm => by have:=hv.seen m hm; simp only [hz,false_or] at this; exact this
 have v2:∀ m,m ∈ f ↔ m ∈ start:=fun m => by have:=hv.new m; simpa [hz] using this
 have v3:b = true ↔ ∃ m,m ∈ start ∧ gl m = true:=by have:=hv.hit; simpa [hz] using this
 have v4:f.length + s2.count false = size:=by have:=hv.cnt; simpa using this
 have v5:s2.length = size:=by have:=hv.len; simpa using this
 simp only
 by_cases hb:b = true
 ·rw [if_pos hb]
  obtain ⟨m,h1,h2⟩:=v3.1 hb
  refine .inl ⟨rfl,⟨m,WR.2 h1,h2⟩,fun x _ hx => ?_⟩
  rcases hx with hx | ⟨hx,hy⟩
  ·simp at hx
  ·have:x = []:=List.length_eq_zero_iff.1 (by simpa using hx)
   subst this
   exact hy
 ·rw [if_neg hb]
  have hf:f ≠ []:=by
   intro h
   apply hne
   cases start with
   | nil => rfl
   | cons a az =>
    have:=(v2 a).2 List.mem_cons_self
    rw [h] at this; cases this
  have hfl:0 < f.length:=List.length_pos_iff.2 hf
  have hst1:addP [] (-1) 0 f = [⟨-1,0,f⟩]:=by unfold addP; rw [if_neg hf]; rfl
  rw [hst1]
  have hm:Mid nx gl ls start size 0 [] s2 [⟨-1,0,f⟩] (fun _ => []):=by
   refine ⟨v5,by simp; omega,?_,?_,?_,?_,?_,?_,?_,?_,?_⟩
   ·intro k hk
    obtain rfl:k = 0:=by simpa using hk
    show f.length ≤ size
    omega
   ·intro k hk
    obtain rfl:k = 0:=by simpa using hk
    exact .inl ⟨by show (-1:Int) < 0; decide,rfl⟩
   ·intro k hk n hn
    obtain rfl:k = 0:=by simpa using hk
    have h1:=(v2 n).1 hn
    have h2:=hst n h1
    exact ⟨WR.2 h1,(v1 n h2.1).2 h1,h2⟩
   ·intro n hn hs
    exact ⟨0,by simp,(v2 n).2 ((v1 n hn).1 hs)⟩
   ·intro j k hjk hk
    simp at hk
    omega
   ·intro k hk n hn w hw hlt
    rcases hlt with h | ⟨h,h2⟩
    ·simp at h
    ·have:w = []:=List.length_eq_zero_iff.1 (by simpa using h)
     subst this
     exact h2
   ·intro n hn hs
    cases hg:gl n with
    | false => rfl
    | true => exact (hb (v3.2 ⟨n,(v1 n hn).1 hs,hg⟩)).elim
   ·intro n hn
    exact (v1 n (hst n hn).1).2 hn
   ·intro k hk p hp l hl hor m hmm
    obtain rfl:k = 0:=by simpa using hk
    rcases hor with h | ⟨_,h⟩
    ·omega
    ·cases h
  obtain ⟨g1,g2⟩:=aWl ha hnx hst (size + 1) 0 s2 [⟨-1,0,f⟩] _ hm (by simp) (by omega)
  by_cases ho:(outG nx gl ls (size + 1) 0 (s2,[⟨-1,0,f⟩])).1 = true
  ·rw [if_pos ho]
   exact .inl ⟨rfl,g1 ho⟩
  ·rw [if_neg ho]
   exact .inr ⟨rfl,g2 ho⟩
end
end
theorem aLc {l:Int} (h0:0 ≤ l) (h:l ≤ 5):ltr (eE l) = l:=by
 unfold ltr eE
 rw [UInt8.toNat_ofNat']
 omega
theorem aSw {b:UInt8}:eE (ltr b) = b:=by
 have:=toNat_lt b
 unfold ltr eE
 have:(97 + ((b.toNat:Int) - 97)).toNat = b.toNat:=by omega
 rw [this]
 simp
def swp (l:List UInt8) (i j:Nat):List UInt8:=(l.set i (l.getD j 0)).set j (l.getD i 0)
theorem KP (l:List UInt8) (i j:Nat):(swp l i j).length = l.length:=by simp [swp]
theorem aZW {l:List UInt8} {i j:Nat} (hi:i < l.length) (hj:j < l.length) {b:UInt8} (h:b ∈ swp l i j):b ∈ l:=by
 unfold swp at h
 have key:∀ {l':List UInt8} {k:Nat} {v b:UInt8},b ∈ l'.set k v → b ∈ l' ∨ b = v:=fun h => List.mem_or_eq_of_mem_set h
 have at':∀ {k:Nat},k < l.length → l.getD k 0 ∈ l:=fun hk => by
  rw [List.getD_eq_getElem?_getD,List.getElem?_eq_getElem hk]; exact List.getElem_mem hk
 rcases key h with h | h
 ·rcases key h with h | h
  ·exact h
  ·rw [h]; exact at' hj
 ·rw [h]; exact at' hi
def revG:Nat → Int → Int → List UInt8 → Int × Int × List UInt8
 | 0,i,j,l => (i,j,l)
 | q + 1,i,j,l => if i < j then revG q (i + 1) (j - 1) (swp l i.toNat j.toNat) else (i,j,l)
theorem aHF:∀ (q:Nat) (i j:Int) (l:List UInt8),0 ≤ i → j < l.length → (revG q i j l).2.2.length = l.length ∧ ∀ b ∈ (revG q i j l).2.2,b ∈ l
 | 0,i,j,l,_,_ => ⟨rfl,fun b h => h⟩
 | q + 1,i,j,l,h0,h1 => by
  unfold revG
  split
  ·rename_i hlt
   have ih:=aHF q (i + 1) (j - 1) (swp l i.toNat j.toNat) (by omega) (by rw [KP]; omega)
   rw [KP] at ih
   exact ⟨ih.1,fun b hb => aZW (by omega) (by omega) (ih.2 b hb)⟩
  ·exact ⟨rfl,fun b h => h⟩
theorem aZM {call:b7} {thaw:List Nat} {dst:Option Tmp} {x y:Operand} {g k:Nat} {l:List UInt8} {b:UInt8} (hk:k < l.length):memD env call thaw dst (.store 5 x y) [.arr (dB l) 1 g] [.ptr 0 g k,.d (.int .u8 (b.toNat:Int))] = some (.d .undef,[.arr (dB (l.set k b)) 1 g],{ ids:=[0],ro:=false,wr:=[0] }):=by
 have hst:=aWA (h:=[]) (g:=g) (e:=1) (b:=b) hk
 have e1:aE aK [O.arr (dB l) 1 g] (idsL [.ptr 0 g k,.d (.int .u8 (b.toNat:Int))]) [] = [0]:=rfl
 have e2:pack [O.arr (dB l) 1 g] [0] = [O.arr (dB l) 1 g]:=rfl
 have e3:aW (aN [0]) [.ptr 0 g k,.d (.int .u8 (b.toNat:Int))] = [.ptr 0 g k,.d (.int .u8 (b.toNat:Int))]:=rfl
 unfold memD
 rw [e1]
 simp only [box]
 rw [e2,e3]
 simp only [evOp,m3,two,hst,Option.map_some]
 rfl
theorem aWZ {R:Type} {L n g:Nat} {k:KE R}:∀ (q:Nat) (i j:Int) (m:Nat) (l:List UInt8) (len:Nat) (h0:0 ≤ i) (hj:j < l.length) (hq:j - i < q) (hm:q < m) (hl:len = l.length) (hs:l.length ≤ 2147483648) (hj0:-1 ≤ j),
  aF env (aA env L n) L 1 [] Bz34 (fE 0) Bz56 m (.sl 0 g 0 len :: Y1 (nI i :: nI j :: Y16 (Y8 ([])))) [.arr (dB l) 1 g] k
  = k (.exit 0) (.sl 0 g 0 len :: Y1 (nI ((revG q i j l).1) :: nI ((revG q i j l).2.1) :: Y16 (Y8 ([])))) [.arr (dB (revG q i j l).2.2) 1 g]:=by
 intro q
 induction q with
 | zero =>
  intro i j m l len h0 hj hq hm hl hs hj0
  obtain _ | m:=m; omega
  have hc:¬ i < j:=by omega
  simp -implicitDefEqProofs (maxSteps:=2000000) (disch:=try exact Dz) only [↓DN,↓kAsg,↓kRet,UP,simprocAttr,hc,l8,kO,Tryz.f174]
  rfl
 | succ q ih =>
  intro i j m l len h0 hj hq hm hl hs hj0
  obtain _ | m:=m; omega
  by_cases hc:i < j
  ·have hi1:i < (len:Int):=by omega
   have hj1:j < (len:Int):=by omega
   have hi2:i.toNat < l.length:=by omega
   have hj2:j.toNat < l.length:=by omega
   have hj3:j.toNat < (l.set i.toNat (l.getD j.toNat 0)).length:=by rw [List.length_set]; exact hj2
   have hj4:(0:Int) ≤ j:=by omega
   have ih':=ih (i + 1) (j - 1) m (swp l i.toNat j.toNat) len (by omega) (by rw [KP]; omega) (by omega) (by omega) (by rw [KP]; exact hl) (by rw [KP]; exact hs) (by omega)
   unfold swp at ih'
   simp -implicitDefEqProofs (maxSteps:=2000000) (disch:=try exact Dz) only [↓DN,↓kAsg,↓kRet,UP,simprocAttr,hc,YO,aEE,XF,↓aZM,↓ih',l8,kO,Tryz.f174]
   simp only [revG,hc,if_true,swp]
  ·simp -implicitDefEqProofs (maxSteps:=2000000) (disch:=try exact Dz) only [↓DN,↓kAsg,↓kRet,UP,simprocAttr,hc,l8,kO,Tryz.f174]
   simp only [revG,hc,if_false]
theorem a0H {L n g:Nat} (hn:1 ≤ n) (l:List UInt8) (hs:l.length ≤ 2147483648) (hL:2 ^ 60 ≤ L):aA env L n 174 [.sl 0 g 0 l.length] [.arr (dB l) 1 g] = some (.tup [],[.arr (dB (revG (l.length + 1) 0 ((l.length:Int) - 1) l).2.2) 1 g]):=by
 have lp:∀ {R:Type} {n:Nat} {k:KE R},aF env (aA env L n) L 1 [] Bz34 (fE 0) Bz56 L (.sl 0 g 0 l.length :: Y1 (nI 0 :: nI ((l.length:Int) - 1) :: Y16 (Y8 ([])))) [.arr (dB l) 1 g] k
  = k (.exit 0) (.sl 0 g 0 l.length :: Y1 (nI ((revG (l.length + 1) 0 ((l.length:Int) - 1) l).1) :: nI ((revG (l.length + 1) 0 ((l.length:Int) - 1) l).2.1) :: Y16 (Y8 ([])))) [.arr (dB (revG (l.length + 1) 0 ((l.length:Int) - 1) l).2.2) 1 g] :=
  fun {R n k} => aWZ (l.length + 1) 0 _ L l l.length (Int.le_refl _) (by omega) (by omega) (by omega) rfl hs (by omega)
 have loop_a:=@lp
 obtain _ | n:=n; omega
 simp -implicitDefEqProofs (maxSteps:=2000000) (disch:=try exact Dz) only [↓DN,↓kAsg,↓kRet,UP,simprocAttr,↓loop_a,M5,xF,Tryz.f174]
theorem a0E {R:Type} {L n id g:Nat} {hq:H} {k:KA R} (hn:1 ≤ n) (l:List UInt8) (hi:hq[id]? = some (.arr (dB l) 1 g)) (hs:l.length ≤ 2147483648) (hL:2 ^ 60 ≤ L):bC env (aA env L n) hq 174 [.sl id g 0 l.length] k = k (.tup []) (hq.set id (.arr (dB (revG (l.length + 1) 0 ((l.length:Int) - 1) l).2.2) 1 g)) :=
 aDE hi (by simp [idsL,idsA]) nM rfl (by simpa [aW,mapA,aN] using a0H hn l hs hL)
section
variable {R:Type} {L n:Nat}
def visF:List Int → List Bool → List Int → List Bool × List Int
 | [],s,f => (s,f)
 | n :: ns,s,f => if s.getD n.toNat false = true then visF ns s f else visF ns (s.set n.toNat true) (f ++ [n])
def mN (s:List Bool):Nat:=s.count false
theorem aGH:∀ (ns:List Int) (s:List Bool) (f:List Int),(visF ns s f).1.length = s.length
 | [],s,f => rfl
 | n :: ns,s,f => by
  unfold visF
  split
  ·exact aGH ns s f
  ·rw [aGH ns]; simp
theorem aF9:∀ {s:List Bool} {k:Nat},s.getD k false = false → k < s.length → mN (s.set k true) + 1 = mN s
 | [],k,h,hk => by simp at hk
 | b :: s,0,h,hk => by
  simp at h
  subst h
  simp [mN]
 | b :: s,k + 1,h,hk => by
  have ih:=aF9 (s:=s) (k:=k) (by simpa using h) (by simpa using hk)
  simp only [mN] at ih ⊢
  simp only [List.set_cons_succ,List.count_cons]
  omega
theorem RP:∀ (ns:List Int) (s:List Bool) (f:List Int),(∀ n ∈ ns,0 ≤ n ∧ n < s.length) → (visF ns s f).2.length + mN (visF ns s f).1 = f.length + mN s
 | [],s,f,h => rfl
 | n :: ns,s,f,h => by
  unfold visF
  split
  ·exact RP ns s f fun m hm => h m (List.mem_cons_of_mem _ hm)
  ·rename_i h1
   have h2:=h n List.mem_cons_self
   rw [RP ns _ _ fun m hm => by simpa using h m (List.mem_cons_of_mem _ hm)]
   have:=aF9 (s:=s) (k:=n.toNat) (by simpa using h1) (by omega)
   simp only [List.length_append,List.length_cons,List.length_nil]
   omega
theorem aHn:∀ (ns:List Int) (s:List Bool) (f:List Int) (x:Int),x ∈ (visF ns s f).2 → x ∈ f ∨ x ∈ ns
 | [],s,f,x,h => .inl h
 | n :: ns,s,f,x,h => by
  unfold visF at h
  split at h
  ·rcases aHn ns s f x h with h | h
   ·exact .inl h
   ·exact .inr (List.mem_cons_of_mem _ h)
  ·rcases aHn ns _ _ x h with h | h
   ·rcases List.mem_append.1 h with h | h
    ·exact .inl h
    ·simp at h; subst h; exact .inr List.mem_cons_self
   ·exact .inr (List.mem_cons_of_mem _ h)
theorem aDY (s:List Bool):mN s ≤ s.length:=List.count_le_length
structure PGood (I:Int → Prop) (size:Nat) (s:List Bool) (st:List PStep):Prop where
 len:s.length = size
 node:∀ p ∈ st,∀ n ∈ p.ns,I n
 room:st.length + mN s ≤ size
 wide:∀ p ∈ st,p.ns.length ≤ size
theorem aRQ {I:Int → Prop} {size:Nat} {s:List Bool} {st:List PStep} (h:PGood I size s st) {ns:List Int} (hI:∀ n ∈ ns,I n) (hr:∀ n,I n → 0 ≤ n ∧ n < size) (p l:Int) :
  PGood I size (visF ns s []).1 (addP st p l (visF ns s []).2) ∧ (addP st p l (visF ns s []).2).length + mN (visF ns s []).1 ≤ st.length + mN s ∧ st.length ≤ (addP st p l (visF ns s []).2).length:=by
 have hc:=RP ns s [] fun n hn => by
  have:=hr n (hI n hn)
  rw [h.len]; exact this
 have hm:=aHn ns s []
 have hl:=aGH ns s []
 have hu:=aDY s
 rw [h.len] at hu
 have hroom:=h.room
 simp only [List.length_nil,Nat.zero_add] at hc
 unfold addP
 split
 ·rename_i hf
  rw [hf] at hc
  simp only [List.length_nil,Nat.zero_add] at hc
  exact ⟨⟨by rw [hl,h.len],h.node,by omega,h.wide⟩,by omega,by omega⟩
 ·rename_i hf
  have hpos:0 < (visF ns s []).2.length:=List.length_pos_iff.2 hf
  refine ⟨⟨by rw [hl,h.len],?_,by simp only [List.length_append,List.length_cons,List.length_nil]; omega,?_⟩,by simp only [List.length_append,List.length_cons,List.length_nil]; omega,by simp⟩
  ·intro q hq n hn
   rcases List.mem_append.1 hq with hq | hq
   ·exact h.node q hq n hn
   ·simp at hq
    subst hq
    rcases hm n hn with h1 | h1
    ·cases h1
    ·exact hI n h1
  ·intro q hq
   rcases List.mem_append.1 hq with hq | hq
   ·exact h.wide q hq
   ·simp at hq
    subst hq
    show (visF ns s []).2.length ≤ size
    omega
theorem IL (gl:Int → Bool):∀ (ns:List Int) (s:List Bool) (f:List Int) (b:Bool),(visG gl ns s f b).1 = (visF ns s f).1 ∧ (visG gl ns s f b).2.1 = (visF ns s f).2
 | [],s,f,b => ⟨rfl,rfl⟩
 | n :: ns,s,f,b => by
  unfold visG visF
  split
  ·exact IL gl ns s f b
  ·exact IL gl ns _ _ _
theorem WY {I:Int → Prop} {gl:Int → Bool} {size:Nat} {s:List Bool} {st:List PStep} (h:PGood I size s st) {ns:List Int} (hI:∀ n ∈ ns,I n) (hr:∀ n,I n → 0 ≤ n ∧ n < size) (p l:Int) :
  PGood I size (visG gl ns s [] false).1 (addP st p l (visG gl ns s [] false).2.1) ∧ (addP st p l (visG gl ns s [] false).2.1).length + mN (visG gl ns s [] false).1 ≤ st.length + mN s ∧ st.length ≤ (addP st p l (visG gl ns s [] false).2.1).length:=by
 obtain ⟨e1,e2⟩:=IL gl ns s [] false
 rw [e1,e2]
 exact aRQ h hI hr p l
theorem aBA {I:Int → Prop} {gl:Int → Bool} {size:Nat} {nx:Int → Int → List Int} {ns:List Int} {p:Int} (hr:∀ n,I n → 0 ≤ n ∧ n < size) (hn:∀ n ∈ ns,I n):∀ (ls:List Int) (q:List Bool × List PStep),(∀ n m,I n → m ∈ ls → ∀ y ∈ nx n m,I y) → PGood I size q.1 q.2 →
  PGood I size (ltG nx gl ns p ls q).2.1 (ltG nx gl ns p ls q).2.2 ∧ (ltG nx gl ns p ls q).2.2.length + mN (ltG nx gl ns p ls q).2.1 ≤ q.2.length + mN q.1 ∧ q.2.length ≤ (ltG nx gl ns p ls q).2.2.length
 | [],q,hx,h => ⟨h,Nat.le_refl _,Nat.le_refl _⟩
 | l :: ls,q,hx,h => by
  have hI:∀ m ∈ flat nx ns l,I m:=by
   intro m hm
   obtain ⟨n,h1,h2⟩:=List.mem_flatMap.1 hm
   exact hx n l (hn n h1) List.mem_cons_self m h2
  obtain ⟨g1,g2,g3⟩:=WY (gl:=gl) h hI hr p l
  unfold ltG
  split
  ·exact ⟨g1,g2,g3⟩
  ·obtain ⟨k1,k2,k3⟩:=aBA (gl:=gl) (p:=p) hr hn ls (_,_) (fun n m h1 h2 => hx n m h1 (List.mem_cons_of_mem _ h2)) g1
   exact ⟨k1,Nat.le_trans k2 g2,Nat.le_trans g3 k3⟩
def dM:List PStep → List D
 | [] => []
 | p :: l => .int .i64 p.par :: .int .i64 p.lt :: .ivs p.ns.length (ints p.ns) :: dM l
theorem C1:∀ {l:List PStep},(dM l).length = l.length * 3
 | [] => rfl
 | p :: l => by simp only [dM,List.length_cons,C1 (l:=l)]; omega
theorem aJi:∀ {a b:List PStep},dM a ++ dM b = dM (a ++ b)
 | [],b => rfl
 | p :: a,b => by simp only [dM,List.cons_append,aJi (a:=a)]
theorem aSj {l:List PStep} {p t:Int} {ns:List Int} {z:Nat} (h:z = ns.length):dM l ++ [.int .i64 p,.int .i64 t,.ivs z (ints ns)] = dM (l ++ [⟨p,t,ns⟩]):=by
 subst h
 rw [← aJi]; rfl
theorem LP:∀ {l:List PStep} {k:Nat},(dM l).drop (k * 3) = dM (l.drop k)
 | l,0 => by simp
 | [],k + 1 => by simp [dM]
 | p :: l,k + 1 => by
  rw [Nat.add_mul,Nat.one_mul]
  simp only [dM,List.drop_succ_cons]
  exact LP
theorem aAk {l:List PStep} {k:Nat} (h:l.length ≤ k):(dM l).take (k * 3) = dM l:=List.take_of_length_le (by rw [C1]; omega)
theorem aGh {l:List PStep} {k:Nat} (h:k < l.length):(((dM l).drop (k * 3 + 2)).map A.d).head? = some (.d (.ivs (l.getD k default).ns.length (ints (l.getD k default).ns))):=by
 rw [← List.drop_drop,LP,dC h (d:=default)]
 rfl
def eZ (l:List Bool):List D:=l.map .bool
theorem zL {l:List Bool}:(eZ l).length = l.length:=by simp [eZ]
theorem aJw {l:List Bool} {k:Nat} (h:k < l.length):(((eZ l).drop k).map A.d).head? = some (.d (.bool (l.getD k false))):=by
 rw [List.head?_map,List.head?_drop,eZ,List.getElem?_map,List.getD_eq_getElem?_getD,List.getElem?_eq_getElem h]
 rfl
theorem aHS {l:List Bool} {k:Nat} (h:l.length ≤ k):(eZ l).take k = eZ l:=List.take_of_length_le (by rw [zL]; exact h)
theorem aLl {l:List Bool} {k:Nat} {v:Bool} (h:k < l.length):eQ (eZ l) k [.bool v] = eZ (l.set k v):=GA _ l k v h
theorem aCF {a b c:O} {h:H} {g e k:Nat} {l:List Bool} {v:Bool} (hk:k < l.length):oX env.P (a :: b :: c :: .arr (eZ l) e g :: h) 4 (.ptr 3 g k) (.d (.bool v)) = some (a :: b :: c :: .arr (eZ (l.set k v)) e g :: h):=by
 rw [vY (id:=3) rfl MK aNv rfl (by rw [zL]; exact hk),aLl hk]; rfl
theorem aD2 {a b c d:O} {h:H} {g e k:Nat} {l:List Bool} {v:Bool} (hk:k < l.length):oX env.P (a :: b :: c :: d :: .arr (eZ l) e g :: h) 4 (.ptr 4 g k) (.d (.bool v)) = some (a :: b :: c :: d :: .arr (eZ (l.set k v)) e g :: h):=by
 rw [vY (id:=4) rfl MK aNv rfl (by rw [zL]; exact hk),aLl hk]; rfl
theorem rng4:List.range 4 = [0,1,2,3]:=rfl
theorem rng5:List.range 5 = [0,1,2,3,4]:=rfl
theorem rng6:List.range 6 = [0,1,2,3,4,5]:=rfl
theorem LK:bX env.P 76 = some false:=kr
theorem PE:type_of% (AI rng4 (AI rng5 (AI rng6 (AI @C1 (AI @aAk (AI @aGh (AI @zL (AI @aJw @aHS)))))))) :=
 ⟨rng4,rng5,rng6,@C1,@aAk,@aGh,@zL,@aJw,@aHS⟩
theorem aVV (hn:3 ≤ n) (hL:2 ^ 60 ≤ L) {I:Int → Prop} {gl:Int → Bool} {gf:FuncId} {caps:List D} {size:Nat} {p l:Int} {ns:List Int} {sc:List D} {se sg sn:Nat} (kc_g:∀ {R:Type} {n:Nat} {hq:H} {k:KA R} (x:Int),2 ≤ n → I x → bC env (aA env L n) hq gf (nI x :: caps.map A.d) k = k (.d (.bool (gl x))) hq) (hI:∀ x ∈ ns,I x) (hr:∀ x,I x → 0 ≤ x ∧ x < size) (hsz:size ≤ 4294967296) (hnl:ns.length ≤ 4294967290) {k:KE R}:∀ (j i m:Nat) (seen:List Bool) (f:List Int) (b:Bool) (len:Nat) (hi:i + j = ns.length) (hm:j < m) (hs:seen.length = size) (hf:f.length ≤ i) (hlen:len = f.length),
  aF env (aA env L n) L (5) (W8 (W2 [2])) Bz7 (m5 0) Bz19 m (nI p :: nI l :: Y1 (.ptr 0 0 0 :: .ptr 1 0 0 :: .ptr 2 0 0 :: Y2 (Y1 (.d (.bool false) :: .sl 5 0 0 len :: .d (.bool b) :: Y2 (.d (.ivs ns.length (ints ns)) :: nI (ns.length) :: nI i :: Y32 (Y1 ([]))))))) [.box [.sl 3 0 0 size],.box [.d (.fn gf caps)],.box [.sl 4 sg 0 sn],.arr (eZ seen) 1 0,.arr sc se sg,.arr (ints f) 1 0] k
  = k (.exit 0) (nI p :: nI l :: Y1 (.ptr 0 0 0 :: .ptr 1 0 0 :: .ptr 2 0 0 :: Y2 (Y1 (.d (.bool false) :: .sl 5 0 0 (visG gl (ns.drop i) seen f b).2.1.length :: .d (.bool (((visG gl (ns.drop i) seen f b).2.2))) :: Y2 (.d (.ivs ns.length (ints ns)) :: nI (ns.length) :: nI (ns.length) :: Y32 (Y1 ([]))))))) [.box [.sl 3 0 0 size],.box [.d (.fn gf caps)],.box [.sl 4 sg 0 sn],.arr (eZ (visG gl (ns.drop i) seen f b).1) 1 0,.arr sc se sg,.arr (ints (visG gl (ns.drop i) seen f b).2.1) 1 0]:=by
 intro j
 induction j with
 | zero =>
  intro i m seen f b len hi hm hs hf hlen
  obtain _ | m:=m; omega
  obtain rfl:i = ns.length:=by omega
  subst hlen
  simp -implicitDefEqProofs (maxSteps:=2000000) (disch:=try exact Dz) only [↓DN,↓kAsg,↓kRet,UP,simprocAttr,PE,LK,Int.lt_irrefl,dT,d8,Tryz.f151]
  simp only [List.drop_length,visG]
 | succ j ih =>
  intro i m seen f b len hi hm hs hf hlen
  obtain _ | m:=m; omega
  subst hlen
  have hc:(i:Int) < ns.length:=by omega
  have hk:i < ns.length:=by omega
  have hmem:ns.getD i 0 ∈ ns:=by rw [List.getD_eq_getElem?_getD,List.getElem?_eq_getElem hk]; exact List.getElem_mem hk
  have hIx:=hI _ hmem
  obtain ⟨b1,b2⟩:=hr _ hIx
  have b3:(ns.getD i 0).toNat < seen.length:=by omega
  have e4:((i + 1:Nat):Int) = (i:Int) + 1:=by omega
  rw [dC hk (d:=0)]
  cases hb:seen.getD (ns.getD i 0).toNat false with
  | true =>
   have ih':=ih (i + 1) m seen f b f.length (by omega) (by omega) hs (by omega) rfl
   rw [e4] at ih'
   clear ih hmem
   simp -implicitDefEqProofs (maxSteps:=2000000) (disch:=try exact Dz) only [↓DN,↓kAsg,↓kRet,UP,simprocAttr,PE,LK,hc,b1,b2,hb,Int.toNat_natCast,↓ih',dT,d8,Tryz.f151]
   simp only [visG,hb,if_true]
  | false =>
   cases b with
   | true =>
    have ih':=ih (i + 1) m (seen.set (ns.getD i 0).toNat true) (f ++ [ns.getD i 0]) true (f.length + 1) (by omega) (by omega) (by simp [hs]) (by simp; omega) (by simp)
    rw [e4] at ih'
    clear ih hmem
    simp -implicitDefEqProofs (maxSteps:=2000000) (disch:=try exact Dz) only [↓DN,↓kAsg,↓kRet,UP,simprocAttr,PE,LK,hc,b1,b2,hb,Int.toNat_natCast,↓aCF,cC,g9,List.length_append,↓ih',dT,d8,Tryz.f151]
    simp only [visG,hb,Bool.false_eq_true,if_false,Bool.true_or]
   | false =>
    cases hg:gl (ns.getD i 0) with
    | true =>
     have ih':=ih (i + 1) m (seen.set (ns.getD i 0).toNat true) (f ++ [ns.getD i 0]) true (f.length + 1) (by omega) (by omega) (by simp [hs]) (by simp; omega) (by simp)
     rw [e4] at ih'
     clear ih hmem
     simp -implicitDefEqProofs (maxSteps:=2000000) (disch:=try exact Dz) only [↓DN,↓kAsg,↓kRet,UP,simprocAttr,PE,LK,hc,b1,b2,hb,hg,Int.toNat_natCast,↓aCF,↓kc_g,cC,g9,List.length_append,↓ih',dT,d8,Tryz.f151]
     simp only [visG,hb,hg,Bool.false_eq_true,if_false,Bool.or_true]
    | false =>
     have ih':=ih (i + 1) m (seen.set (ns.getD i 0).toNat true) (f ++ [ns.getD i 0]) false (f.length + 1) (by omega) (by omega) (by simp [hs]) (by simp; omega) (by simp)
     rw [e4] at ih'
     clear ih hmem
     simp -implicitDefEqProofs (maxSteps:=2000000) (disch:=try exact Dz) only [↓DN,↓kAsg,↓kRet,UP,simprocAttr,PE,LK,hc,b1,b2,hb,hg,Int.toNat_natCast,↓aCF,↓kc_g,cC,g9,List.length_append,↓ih',dT,d8,Tryz.f151]
     simp only [visG,hb,hg,Bool.false_eq_true,if_false,Bool.or_false]
theorem aUZ (hn:3 ≤ n) (hL:2 ^ 60 ≤ L) {I:Int → Prop} {gl:Int → Bool} {gf:FuncId} {caps:List D} {size:Nat} {p l:Int} {ns:List Int} {sc:List D} {se sg sn:Nat} (kc_g:∀ {R:Type} {n:Nat} {hq:H} {k:KA R} (x:Int),2 ≤ n → I x → bC env (aA env L n) hq gf (nI x :: caps.map A.d) k = k (.d (.bool (gl x))) hq) (hI:∀ x ∈ ns,I x) (hr:∀ x,I x → 0 ≤ x ∧ x < size) (hsz:size ≤ 4294967296) (hnl:ns.length ≤ 4294967290) {k:KE R}:∀ (j i m:Nat) (seen:List Bool) (f:List Int) (b:Bool) (len:Nat) (hi:i + j = ns.length) (hm:j < m) (hs:seen.length = size) (hf:f.length ≤ i) (hlen:len = f.length),
  aF env (aA env L n) L (6) (W8 (W2 [2])) Bz7 (m5 0) Bz19 m (nI p :: nI l :: Y1 (.ptr 0 0 0 :: .ptr 1 0 0 :: .ptr 2 0 0 :: Y2 (Y1 (.d (.bool false) :: .sl 6 0 0 len :: .d (.bool b) :: Y2 (.sl 3 0 0 ns.length :: nI (ns.length) :: nI i :: Y32 (Y1 ([]))))))) [.box [.sl 4 0 0 size],.box [.d (.fn gf caps)],.box [.sl 5 sg 0 sn],.arr (ints ns) 1 0,.arr (eZ seen) 1 0,.arr sc se sg,.arr (ints f) 1 0] k
  = k (.exit 0) (nI p :: nI l :: Y1 (.ptr 0 0 0 :: .ptr 1 0 0 :: .ptr 2 0 0 :: Y2 (Y1 (.d (.bool false) :: .sl 6 0 0 (visG gl (ns.drop i) seen f b).2.1.length :: .d (.bool (((visG gl (ns.drop i) seen f b).2.2))) :: Y2 (.sl 3 0 0 ns.length :: nI (ns.length) :: nI (ns.length) :: Y32 (Y1 ([]))))))) [.box [.sl 4 0 0 size],.box [.d (.fn gf caps)],.box [.sl 5 sg 0 sn],.arr (ints ns) 1 0,.arr (eZ (visG gl (ns.drop i) seen f b).1) 1 0,.arr sc se sg,.arr (ints (visG gl (ns.drop i) seen f b).2.1) 1 0]:=by
 intro j
 induction j with
 | zero =>
  intro i m seen f b len hi hm hs hf hlen
  obtain _ | m:=m; omega
  obtain rfl:i = ns.length:=by omega
  subst hlen
  simp -implicitDefEqProofs (maxSteps:=2000000) (disch:=try exact Dz) only [↓DN,↓kAsg,↓kRet,UP,simprocAttr,PE,LK,Int.lt_irrefl,dT,d8,Tryz.f151]
  simp only [List.drop_length,visG]
 | succ j ih =>
  intro i m seen f b len hi hm hs hf hlen
  obtain _ | m:=m; omega
  subst hlen
  have hc:(i:Int) < ns.length:=by omega
  have hk:i < ns.length:=by omega
  have hmem:ns.getD i 0 ∈ ns:=by rw [List.getD_eq_getElem?_getD,List.getElem?_eq_getElem hk]; exact List.getElem_mem hk
  have hIx:=hI _ hmem
  obtain ⟨b1,b2⟩:=hr _ hIx
  have b3:(ns.getD i 0).toNat < seen.length:=by omega
  have e4:((i + 1:Nat):Int) = (i:Int) + 1:=by omega
  rw [dC hk (d:=0)]
  cases hb:seen.getD (ns.getD i 0).toNat false with
  | true =>
   have ih':=ih (i + 1) m seen f b f.length (by omega) (by omega) hs (by omega) rfl
   rw [e4] at ih'
   clear ih hmem
   simp -implicitDefEqProofs (maxSteps:=2000000) (disch:=try exact Dz) only [↓DN,↓kAsg,↓kRet,UP,simprocAttr,PE,LK,hc,b1,b2,hb,Int.toNat_natCast,↓ih',dT,d8,Tryz.f151]
   simp only [visG,hb,if_true]
  | false =>
   cases b with
   | true =>
    have ih':=ih (i + 1) m (seen.set (ns.getD i 0).toNat true) (f ++ [ns.getD i 0]) true (f.length + 1) (by omega) (by omega) (by simp [hs]) (by simp; omega) (by simp)
    rw [e4] at ih'
    clear ih hmem
    simp -implicitDefEqProofs (maxSteps:=2000000) (disch:=try exact Dz) only [↓DN,↓kAsg,↓kRet,UP,simprocAttr,PE,LK,hc,b1,b2,hb,Int.toNat_natCast,↓aD2,cC,g9,List.length_append,↓ih',dT,d8,Tryz.f151]
    simp only [visG,hb,Bool.false_eq_true,if_false,Bool.true_or]
   | false =>
    cases hg:gl (ns.getD i 0) with
    | true =>
     have ih':=ih (i + 1) m (seen.set (ns.getD i 0).toNat true) (f ++ [ns.getD i 0]) true (f.length + 1) (by omega) (by omega) (by simp [hs]) (by simp; omega) (by simp)
     rw [e4] at ih'
     clear ih hmem
     simp -implicitDefEqProofs (maxSteps:=2000000) (disch:=try exact Dz) only [↓DN,↓kAsg,↓kRet,UP,simprocAttr,PE,LK,hc,b1,b2,hb,hg,Int.toNat_natCast,↓aD2,↓kc_g,cC,g9,List.length_append,↓ih',dT,d8,Tryz.f151]
     simp only [visG,hb,hg,Bool.false_eq_true,if_false,Bool.or_true]
    | false =>
     have ih':=ih (i + 1) m (seen.set (ns.getD i 0).toNat true) (f ++ [ns.getD i 0]) false (f.length + 1) (by omega) (by omega) (by simp [hs]) (by simp; omega) (by simp)
     rw [e4] at ih'
     clear ih hmem
     simp -implicitDefEqProofs (maxSteps:=2000000) (disch:=try exact Dz) only [↓DN,↓kAsg,↓kRet,UP,simprocAttr,PE,LK,hc,b1,b2,hb,hg,Int.toNat_natCast,↓aD2,↓kc_g,cC,g9,List.length_append,↓ih',dT,d8,Tryz.f151]
     simp only [visG,hb,hg,Bool.false_eq_true,if_false,Bool.or_false]
theorem aZI (hn:4 ≤ n) (hL:2 ^ 60 ≤ L) {I:Int → Prop} {gl:Int → Bool} {gf:FuncId} {caps:List D} {size:Nat} {p l:Int} {ns:List Int} (kc_g:∀ {R:Type} {n:Nat} {hq:H} {k:KA R} (x:Int),2 ≤ n → I x → bC env (aA env L n) hq gf (nI x :: caps.map A.d) k = k (.d (.bool (gl x))) hq) (hI:∀ x ∈ ns,I x) (hr:∀ x,I x → 0 ≤ x ∧ x < size) (hsz:size ≤ 4294967290) (hnl:ns.length ≤ 4294967290) (seen:List Bool) (hs:seen.length = size) (r:List Bool × List Int × Bool) (he:visG gl ns seen [] false = r) (hpos:(0:Int) < r.2.1.length) :
  aA env L n 151 [nI p,nI l,.d (.ivs ns.length (ints ns)),.ptr 0 0 0,.ptr 1 0 0,.ptr 2 0 0] [.box [.sl 3 0 0 size],.box [.d (.fn gf caps)],.box [.sl 4 0 0 0],.arr (eZ seen) 1 0,.arr [] 0 0]
  = some (.d (.bool r.2.2),[.box [.sl 3 0 0 size],.box [.d (.fn gf caps)],.box [.sl 4 1 0 1],.arr (eZ r.1) 1 0,.arr (dM [⟨p,l,r.2.1⟩]) 3 1]):=by
 have loop_c:=fun {R:Type} {n:Nat} (hn:3 ≤ n) {k:KE R} => @aVV R L n hn hL I gl gf caps size p l ns [] 0 0 0 (fun {R n hq k} => kc_g) hI hr (by omega) hnl k ns.length 0 L seen [] false 0 (by omega) (by omega) hs (by simp) rfl
 simp only [List.drop_zero,he,DJ,Int.natCast_zero] at loop_c
 have hb:r.2.1.length ≤ size:=by
  have h1:=RP ns seen [] fun x hx => by rw [hs]; exact hr x (hI x hx)
  have h2:=aDY seen
  rw [← (IL gl ns seen [] false).1,← (IL gl ns seen [] false).2,he] at h1
  simp only [List.length_nil,Nat.zero_add] at h1
  omega
 have et:(ints r.2.1).take r.2.1.length = ints r.2.1:=cC (Nat.le_refl _)
 obtain _ | n:=n; omega
 simp -implicitDefEqProofs (maxSteps:=2000000) (disch:=try exact Dz) only [↓DN,↓kAsg,↓kRet,UP,simprocAttr,PE,↓loop_c,hpos,et,BQ,vQ,Tryz.f151]
 rfl
theorem aZ2 (hn:4 ≤ n) (hL:2 ^ 60 ≤ L) {I:Int → Prop} {gl:Int → Bool} {gf:FuncId} {caps:List D} {size:Nat} {p l:Int} {ns:List Int} (kc_g:∀ {R:Type} {n:Nat} {hq:H} {k:KA R} (x:Int),2 ≤ n → I x → bC env (aA env L n) hq gf (nI x :: caps.map A.d) k = k (.d (.bool (gl x))) hq) (hI:∀ x ∈ ns,I x) (hr:∀ x,I x → 0 ≤ x ∧ x < size) (hsz:size ≤ 4294967290) (hnl:ns.length ≤ 4294967290) (seen:List Bool) (hs:seen.length = size) (st:List PStep) (hst:st.length ≤ 4294967290) (r:List Bool × List Int × Bool) (he:visG gl ns seen [] false = r) :
  aA env L n 151 [nI p,nI l,.sl 3 0 0 ns.length,.ptr 0 0 0,.ptr 1 0 0,.ptr 2 0 0] [.box [.sl 4 0 0 size],.box [.d (.fn gf caps)],.box [.sl 5 0 0 st.length],.arr (ints ns) 1 0,.arr (eZ seen) 1 0,.arr (dM st) 3 0]
  = some (.d (.bool r.2.2),[.box [.sl 4 0 0 size],.box [.d (.fn gf caps)],.box [.sl 5 (if r.2.1 = [] then 0 else 1) 0 (addP st p l r.2.1).length],.arr (ints ns) 1 0,.arr (eZ r.1) 1 0,.arr (dM (addP st p l r.2.1)) 3 (if r.2.1 = [] then 0 else 1)]):=by
 have loop_c:=fun {R:Type} {n:Nat} (hn:3 ≤ n) {k:KE R} => @aUZ R L n hn hL I gl gf caps size p l ns (dM st) 3 0 st.length (fun {R n hq k} => kc_g) hI hr (by omega) hnl k ns.length 0 L seen [] false 0 (by omega) (by omega) hs (by simp) rfl
 simp only [List.drop_zero,he,DJ,Int.natCast_zero] at loop_c
 have hb:r.2.1.length ≤ size:=by
  have h1:=RP ns seen [] fun x hx => by rw [hs]; exact hr x (hI x hx)
  have h2:=aDY seen
  rw [← (IL gl ns seen [] false).1,← (IL gl ns seen [] false).2,he] at h1
  simp only [List.length_nil,Nat.zero_add] at h1
  omega
 have et:(ints r.2.1).take r.2.1.length = ints r.2.1:=cC (Nat.le_refl _)
 have es:(dM st).take (st.length * 3) = dM st:=aAk (Nat.le_refl _)
 unfold addP
 by_cases hf:r.2.1 = []
 ·rw [if_pos hf,if_pos hf]
  have hz:r.2.1.length = 0:=by rw [hf]; rfl
  rw [hz] at loop_c
  obtain _ | n:=n; omega
  simp -implicitDefEqProofs (maxSteps:=2000000) (disch:=try exact Dz) only [↓DN,↓kAsg,↓kRet,UP,simprocAttr,PE,↓loop_c,Int.natCast_zero,Int.lt_irrefl,BQ,vQ,Tryz.f151]
 ·rw [if_neg hf,if_neg hf]
  have hpos:(0:Int) < r.2.1.length:=by have:=List.length_pos_iff.2 hf; omega
  obtain _ | n:=n; omega
  simp -implicitDefEqProofs (maxSteps:=2000000) (disch:=try exact Dz) only [↓DN,↓kAsg,↓kRet,UP,simprocAttr,PE,↓loop_c,hpos,et,es,aSj,List.length_append,BQ,vQ,Tryz.f151]
end
section
variable {R:Type} {L n:Nat}
theorem aXs {st:List PStep} {p l:Int} {f:List Int} {i:Nat} (h:i < st.length):(addP st p l f).getD i default = st.getD i default:=by
 unfold addP
 split
 ·rfl
 ·exact rK h
theorem aXh {nx:Int → Int → List Int} {l:Int}:flat nx [] l = []:=rfl
theorem aLp {nx:Int → Int → List Int} {n l:Int} {ns:List Int}:flat nx (n :: ns) l = nx n l ++ flat nx ns l:=rfl
theorem aNl {nx:Int → Int → List Int} {c:Int} (hw:∀ x c,(nx x c).length ≤ 64):∀ ns:List Int,(flat nx ns c).length ≤ 64 * ns.length
 | [] => by simp [flat]
 | x :: ns => by simp only [aLp,List.length_append,List.length_cons]; have:=hw x c; have:=aNl (c:=c) hw ns; omega
def ltI (nx:Int → Int → List Int) (gl:Int → Bool) (ns:List Int) (p:Int):List Int → List Bool × List PStep → Nat
 | [],_ => 0
 | l :: ls,q => if (visG gl (flat nx ns l) q.1 [] false).2.2 = true then 0 else ltI nx gl ns p ls ((visG gl (flat nx ns l) q.1 [] false).1,addP q.2 p l (visG gl (flat nx ns l) q.1 [] false).2.1) + 1
def outI (nx:Int → Int → List Int) (gl:Int → Bool) (ls:List Int):Nat → Nat → List Bool × List PStep → Nat
 | 0,i,_ => i
 | j + 1,i,q => if i < q.2.length then
   (if (ltG nx gl (q.2.getD i default).ns i ls q).1 = true then i
    else outI nx gl ls j (i + 1) (ltG nx gl (q.2.getD i default).ns i ls q).2)
  else i
def txt (w:List Int):List UInt8:=w.map eE
def aEI (st:List PStep):List UInt8:=txt (l4 st st.length (st.length - 1))
theorem aAs {R:Type} {E:Env} {call:b7} {h:H} {f:FuncId} {args:List A} {len:Nat} {k:KA R} {id e g e2 g2:Nat} {cs cs2:List D} (hi:h[id]? = some (.arr cs e g)) (hid:idsL args = [id]) (hm:(E.hint f).mode = 0) (he:call f (aW (aN [id]) args) [.arr cs e g] = some (.sl 0 g2 0 len,[.arr cs2 e2 g2])) :
  bC E call h f args k = k (.sl id g2 0 len) (h.set id (.arr cs2 e2 g2)):=by
 have hre:aE aK h [id] [] = [id]:=by
  have e1:aE aK h [id] [] = match h[id]? with
   | some (.box cs) => aE (aK - 1) h ([] ++ idsL cs) ([] ++ [id])
   | some (.vec cs _ _) => aE (aK - 1) h ([] ++ idsL cs) ([] ++ [id])
   | some .void => aE (aK - 1) h [] []
   | some _ => aE (aK - 1) h [] ([] ++ [id])
   | none => aE (aK - 1) h [] []:=rfl
  rw [e1,hi]; rfl
 have hpk:pack h [id] = [.arr cs e g]:=by
  simp only [pack,List.map_cons,List.map_nil,List.getD_eq_getElem?_getD,hi]; rfl
 unfold bC
 rw [hid,hre,hpk]
 have hc:eO call E.hint [.arr cs e g] f (aW (aN [id]) args) = some (.sl 0 g2 0 len,[.arr cs2 e2 g2]):=by
  unfold eO; rw [hm]; exact he
 rw [hc]
 have hcl:closed h [id] [id] = true:=by
  simp only [closed,List.all_cons,List.all_nil,hi]; simp
 have hb:back [id] h.length 1 0 = some id:=rfl
 simp only [List.length_cons,List.length_nil,Nat.le_refl,hcl,and_self,if_true,mapA,Nat.zero_add,hb]
 simp only [b9,mapO,List.map_nil,List.append_nil]
theorem aQ6 (hn:4 ≤ n) (hL:2 ^ 60 ≤ L) {I:Int → Prop} {nf:FuncId} {caps:List D} {gb:D} {size:Nat} {nx:Int → Int → List Int} {ls ns:List Int} {sc:List D} {seen:List Bool} {sn ii q:Nat} {c:Int}
  (kc_n:∀ {R:Type} {n id:Nat} {hq:H} {k:KA R} (x c:Int) (o:List Int),4 ≤ n → I x → 0 ≤ c → c < 6 → o.length ≤ 2147483648 → hq[id]? = some (.arr (ints o) 1 0) → bC env (aA env L n) hq nf (nI x :: nI c :: .sl id 0 0 o.length :: caps.map A.d) k = k (.sl id (nx x c).length 0 (o ++ nx x c).length) (hq.set id (.arr (ints (o ++ nx x c)) 1 (nx x c).length)))
  (hI:∀ x ∈ ns,I x) (hw:∀ x c,(nx x c).length ≤ 64) (hc0:0 ≤ c) (hc6:c < 6) (hnl:ns.length ≤ 16777216) {k:KE R}:∀ (j i m:Nat) (o:List Int) (len:Nat) (hi:i + j = ns.length) (hm:j < m) (ho:o.length ≤ 64 * i) (hlen:len = o.length),
  aF env (aA env L n) L 0 (W16 (W2 [2])) Bz2 (eY 2) (U2 (Z2 (U4 (U2 (Z2 (U1 (Z2 (Z1 (U1 (Z2 (U8 (U4 (U2 (Z2 (Z1 (U4 (U2 (U1 (Z2 (Z1 (U16 (U1 ([]))))))))))))))))))))))) m (Y2 (.d (.ivs ls.length (ints ls)) :: .d (.fn nf caps) :: Y4 (Y2 (.d (.str []) :: .d (.bool false) :: Y1 (.ptr 0 0 0 :: .clo 151 [.ptr 1 0 0,.ptr 2 0 0,.ptr 0 0 0] :: nI ii :: Y1 (nI c :: .sl 3 0 0 len :: Y8 (Y4 (Y2 (.d (.ivs ls.length (ints ls)) :: nI (ls.length) :: nI q :: Y4 (Y2 (Y1 (.d (.ivs ns.length (ints ns)) :: nI (ns.length) :: nI i :: Y16 (Y1 ([])))))))))))))) [.box [.sl 4 0 0 sn],.box [.sl 5 0 0 size],.box [.d gb],.arr (ints o) 1 0,.arr sc 3 0,.arr (eZ seen) 1 0] k
  = k (.exit 4) (Y2 (.d (.ivs ls.length (ints ls)) :: .d (.fn nf caps) :: Y4 (Y2 (.d (.str []) :: .d (.bool false) :: Y1 (.ptr 0 0 0 :: .clo 151 [.ptr 1 0 0,.ptr 2 0 0,.ptr 0 0 0] :: nI ii :: Y1 (nI c :: .sl 3 0 0 (o ++ flat nx (ns.drop i) c).length :: Y8 (Y4 (Y2 (.d (.ivs ls.length (ints ls)) :: nI (ls.length) :: nI q :: Y4 (Y2 (Y1 (.d (.ivs ns.length (ints ns)) :: nI (ns.length) :: nI (ns.length) :: Y16 (Y1 ([])))))))))))))) [.box [.sl 4 0 0 sn],.box [.sl 5 0 0 size],.box [.d gb],.arr (ints (o ++ flat nx (ns.drop i) c)) 1 0,.arr sc 3 0,.arr (eZ seen) 1 0]:=by
 intro j
 induction j with
 | zero =>
  intro i m o len hi hm ho hlen
  obtain _ | m:=m; omega
  obtain rfl:i = ns.length:=by omega
  subst hlen
  simp -implicitDefEqProofs (maxSteps:=2000000) (disch:=try exact Dz) only [↓DN,↓kAsg,↓kRet,UP,simprocAttr,PE,Int.lt_irrefl,ND,HJ,Tryz.f119]
  simp only [List.drop_length,aXh,List.append_nil,List.length_nil,Nat.add_zero]
 | succ j ih =>
  intro i m o len hi hm ho hlen
  obtain _ | m:=m; omega
  subst hlen
  have hc:(i:Int) < ns.length:=by omega
  have hk:i < ns.length:=by omega
  have hmem:ns.getD i 0 ∈ ns:=by rw [List.getD_eq_getElem?_getD,List.getElem?_eq_getElem hk]; exact List.getElem_mem hk
  have hIx:=hI _ hmem
  have hww:=hw (ns.getD i 0) c
  have hob:o.length ≤ 2147483648:=by omega
  have e4:((i + 1:Nat):Int) = (i:Int) + 1:=by omega
  have ih':=ih (i + 1) m (o ++ nx (ns.getD i 0) c) (o.length + (nx (ns.getD i 0) c).length) (by omega) (by omega) (by rw [List.length_append]; omega) (by rw [List.length_append])
  rw [e4] at ih'
  rw [dC hk (d:=0)]
  simp only [aLp,← List.append_assoc]
  have kc_m:=fun {R:Type} {n id:Nat} {hq:H} {k:KA R} (h4:4 ≤ n) (hg:hq[id]? = some (.arr (ints o) 1 0)) => @kc_n R n id hq k (ns.getD i 0) c o h4 hIx hc0 hc6 hob hg
  clear ih hmem kc_n
  generalize nx (ns.getD i 0) c = w at *
  simp -implicitDefEqProofs (maxSteps:=2000000) (disch:=try exact Dz) only [↓DN,↓kAsg,↓kRet,UP,simprocAttr,PE,hc,Int.toNat_natCast,↓kc_m,↓ih',List.length_append,ND,HJ,Tryz.f119]
theorem aCI:∀ (ns:List Int) (s:List Bool) (f:List Int),f.length ≤ (visF ns s f).2.length
 | [],s,f => Nat.le_refl _
 | n :: ns,s,f => by
  unfold visF
  split
  ·exact aCI ns s f
  ·have:=aCI ns (s.set n.toNat true) (f ++ [n])
   simp only [List.length_append,List.length_cons,List.length_nil] at this
   omega
theorem aO7 {ns:List Int} {size:Nat} (h:ns ≠ []):0 < (visF ns (List.replicate size false) []).2.length:=by
 cases ns with
 | nil => exact absurd rfl h
 | cons n ns =>
  have e:(List.replicate size false).getD n.toNat false = false:=by
   rw [List.getD_eq_getElem?_getD,List.getElem?_replicate]
   split <;> rfl
  unfold visF
  rw [e]
  have:=aCI ns ((List.replicate size false).set n.toNat true) ([] ++ [n])
  simp only [List.length_append,List.length_cons,List.length_nil] at this
  simp only [Bool.false_eq_true,if_false]
  omega
theorem aZx {k:KA R} (hn:4 ≤ n) (hL:2 ^ 60 ≤ L) {I:Int → Prop} {gl:Int → Bool} {gf:FuncId} {caps:List D} {size:Nat} {p l:Int} {ns:List Int} (kc_g:∀ {R:Type} {n:Nat} {hq:H} {k:KA R} (x:Int),2 ≤ n → I x → bC env (aA env L n) hq gf (nI x :: caps.map A.d) k = k (.d (.bool (gl x))) hq) (hI:∀ x ∈ ns,I x) (hr:∀ x,I x → 0 ≤ x ∧ x < size) (hsz:size ≤ 4294967290) (hnl:ns.length ≤ 4294967290) (hne:ns ≠ []) :
  IC env (aA env L n) [.box [.d (.fn gf caps)],.arr (eZ (List.replicate size false)) 1 0,.arr [] 0 0,.box [.sl 1 0 0 size],.arr [] 0 0,.box [.sl 4 0 0 0]] 151 [.ptr 3 0 0,.ptr 0 0 0,.ptr 5 0 0] [nI p,nI l,.d (.ivs ns.length (ints ns))] k
  = k (.d (.bool (visG gl ns (List.replicate size false) [] false).2.2)) [.box [.d (.fn gf caps)],.arr (eZ (visG gl ns (List.replicate size false) [] false).1) 1 0,.arr [] 0 0,.box [.sl 1 0 0 size],.arr (dM [⟨p,l,(visG gl ns (List.replicate size false) [] false).2.1⟩]) 3 1,.box [.sl 4 1 0 1]]:=by
 have he:=aZI (gl:=gl) (p:=p) (l:=l) hn hL (fun {R n hq k} => kc_g) hI hr hsz hnl (List.replicate size false) (by simp) _ rfl (by have:=aO7 (size:=size) hne; rw [(IL gl ns _ [] false).2]; omega)
 unfold IC
 generalize List.replicate size false = sz at *
 generalize hh:[O.box [.d (.fn gf caps)],.arr (eZ sz) 1 0,.arr [] 0 0,.box [.sl 1 0 0 size],.arr [] 0 0,.box [.sl 4 0 0 0]] = h
 have hre:aE aK h (idsL [A.ptr 3 0 0,.ptr 0 0 0,.ptr 5 0 0] ++ idsL [A.d (.int .i64 p),nI l,.d (.ivs ns.length (ints ns))]) [] = [3,0,5,1,4]:=by subst hh; rfl
 have hpk:pack h [3,0,5,1,4] = [.box [.sl 3 0 0 size],.box [.d (.fn gf caps)],.box [.sl 4 0 0 0],.arr (eZ sz) 1 0,.arr [] 0 0]:=by subst hh; rfl
 have hma:aW (aN [3,0,5,1,4]) [A.d (.int .i64 p),nI l,.d (.ivs ns.length (ints ns))] ++ aW (aN [3,0,5,1,4]) [A.ptr 3 0 0,.ptr 0 0 0,.ptr 5 0 0] = [nI p,nI l,.d (.ivs ns.length (ints ns)),.ptr 0 0 0,.ptr 1 0 0,.ptr 2 0 0]:=rfl
 have hca:∀ h f args,eO (aA env L n) env.hint h f args = if (env.hint f).mode = 0 then aA env L n f args h else eO (aA env L n) env.hint h f args:=by
  intro h f args
  split
  ·rename_i hm
   unfold eO; rw [hm]; rfl
  ·rfl
 rw [hre,hpk,hma,hca,if_pos rT,he]
 have hcl:closed h [3,0,5,1,4] (idsL [A.ptr 3 0 0,.ptr 0 0 0,.ptr 5 0 0] ++ idsL [A.d (.int .i64 p),nI l,.d (.ivs ns.length (ints ns))]) = true:=by subst hh; rfl
 subst hh
 simp only [hcl,List.length_cons,List.length_nil,Nat.le_refl,and_self,if_true]
 rfl
def gV (r:List Bool × List Int × Bool):Nat:=if r.2.1 = [] then 0 else 1
theorem a0b {k:KA R} (hn:4 ≤ n) (hL:2 ^ 60 ≤ L) {I:Int → Prop} {gl:Int → Bool} {gf:FuncId} {caps:List D} {size:Nat} {p l:Int} {ns:List Int} (kc_g:∀ {R:Type} {n:Nat} {hq:H} {k:KA R} (x:Int),2 ≤ n → I x → bC env (aA env L n) hq gf (nI x :: caps.map A.d) k = k (.d (.bool (gl x))) hq) (hI:∀ x ∈ ns,I x) (hr:∀ x,I x → 0 ≤ x ∧ x < size) (hsz:size ≤ 4294967290) (hnl:ns.length ≤ 4294967290) (seen:List Bool) (hs:seen.length = size) (st:List PStep) (hst:st.length ≤ 4294967290) :
  IC env (aA env L n) [.box [.sl 4 0 0 st.length],.box [.sl 5 0 0 size],.box [.d (.fn gf caps)],.arr (ints ns) 1 0,.arr (dM st) 3 0,.arr (eZ seen) 1 0] 151 [.ptr 1 0 0,.ptr 2 0 0,.ptr 0 0 0] [nI p,nI l,.sl 3 0 0 ns.length] k
  = k (.d (.bool (visG gl ns seen [] false).2.2)) [.box [.sl 4 (gV (visG gl ns seen [] false)) 0 (addP st p l (visG gl ns seen [] false).2.1).length],.box [.sl 5 0 0 size],.box [.d (.fn gf caps)],.arr (ints ns) 1 0,.arr (dM (addP st p l (visG gl ns seen [] false).2.1)) 3 (gV (visG gl ns seen [] false)),.arr (eZ (visG gl ns seen [] false).1) 1 0]:=by
 have he:=aZ2 (gl:=gl) (p:=p) (l:=l) hn hL (fun {R n hq k} => kc_g) hI hr hsz hnl seen hs st hst _ rfl
 unfold IC
 generalize hh:[O.box [.sl 4 0 0 st.length],.box [.sl 5 0 0 size],.box [.d (.fn gf caps)],.arr (ints ns) 1 0,.arr (dM st) 3 0,.arr (eZ seen) 1 0] = h
 have hre:aE aK h (idsL [A.ptr 1 0 0,.ptr 2 0 0,.ptr 0 0 0] ++ idsL [A.d (.int .i64 p),nI l,.sl 3 0 0 ns.length]) [] = [1,2,0,3,5,4]:=by subst hh; rfl
 have hpk:pack h [1,2,0,3,5,4] = [.box [.sl 4 0 0 size],.box [.d (.fn gf caps)],.box [.sl 5 0 0 st.length],.arr (ints ns) 1 0,.arr (eZ seen) 1 0,.arr (dM st) 3 0]:=by subst hh; rfl
 have hma:aW (aN [1,2,0,3,5,4]) [A.d (.int .i64 p),nI l,.sl 3 0 0 ns.length] ++ aW (aN [1,2,0,3,5,4]) [A.ptr 1 0 0,.ptr 2 0 0,.ptr 0 0 0] = [nI p,nI l,.sl 3 0 0 ns.length,.ptr 0 0 0,.ptr 1 0 0,.ptr 2 0 0]:=rfl
 have hca:∀ h f args,eO (aA env L n) env.hint h f args = if (env.hint f).mode = 0 then aA env L n f args h else eO (aA env L n) env.hint h f args:=by
  intro h f args
  split
  ·rename_i hm
   unfold eO; rw [hm]; rfl
  ·rfl
 rw [hre,hpk,hma,hca,if_pos rT,he]
 have hcl:closed h [1,2,0,3,5,4] (idsL [A.ptr 1 0 0,.ptr 2 0 0,.ptr 0 0 0] ++ idsL [A.d (.int .i64 p),nI l,.sl 3 0 0 ns.length]) = true:=by subst hh; rfl
 subst hh
 simp only [hcl,List.length_cons,List.length_nil,Nat.le_refl,and_self,if_true]
 rfl
end
def chG (ls:List Int) (w:Str):List Str:=ls.map fun l => w ++ [eE l]
def lvG (ls:List Int):Nat → List Str
 | 0 => [[]]
 | k + 1 => (lvG ls k).flatMap (chG ls)
def midG (ls:List Int):Nat → List Str
 | 0 => [[]]
 | k + 1 => midG ls k ++ lvG ls (k + 1)
theorem aQb {ls:List Int} {w:Str}:(chG ls w).length = ls.length:=by simp [chG]
theorem aEH {ls:List Int}:∀ k,(lvG ls k).length = ls.length ^ k
 | 0 => rfl
 | k + 1 => by
  have e:∀ l:List Str,(l.flatMap (chG ls)).length = l.length * ls.length:=by
   intro l
   induction l with
   | nil => simp
   | cons a l ih => rw [List.flatMap_cons,List.length_append,ih,aQb,List.length_cons,Nat.add_mul]; omega
  show ((lvG ls k).flatMap (chG ls)).length = _
  rw [e,aEH k,Nat.pow_succ]
theorem R1 {ls:List Int}:∀ k,∀ w ∈ lvG ls k,w.length = k ∧ ∀ b ∈ w,∃ l ∈ ls,b = eE l
 | 0,w,h => by
  obtain rfl:w = []:=by simpa [lvG] using h
  exact ⟨rfl,by simp⟩
 | k + 1,w,h => by
  obtain ⟨v,hv,hw⟩:=List.mem_flatMap.1 h
  obtain ⟨l,hl,rfl⟩:=List.mem_map.1 hw
  obtain ⟨h1,h2⟩:=R1 k v hv
  refine ⟨by simp [h1],fun b hb => ?_⟩
  rcases List.mem_append.1 hb with hb | hb
  ·exact h2 b hb
  ·exact ⟨l,hl,by simpa using hb⟩
theorem aK5 {ls:List Int}:∀ k,∀ w ∈ midG ls k,w.length ≤ k ∧ ∀ b ∈ w,∃ l ∈ ls,b = eE l
 | 0,w,h => by
  obtain rfl:w = []:=by simpa [midG] using h
  exact ⟨Nat.le_refl _,by simp⟩
 | k + 1,w,h => by
  rcases List.mem_append.1 h with h | h
  ·obtain ⟨h1,h2⟩:=aK5 k w h
   exact ⟨by omega,h2⟩
  ·obtain ⟨h1,h2⟩:=R1 (k + 1) w h
   exact ⟨by omega,h2⟩
theorem aTz {ls:List Int}:∀ k,∃ p,midG ls k = p ++ lvG ls k
 | 0 => ⟨[],rfl⟩
 | k + 1 => ⟨midG ls k,rfl⟩
theorem PZ {ls:List Int} (hl:ls.length ≤ 6):∀ k,k ≤ 3 → (midG ls k).length ≤ 259:=by
 have h1:ls.length ^ 1 ≤ 6 ^ 1:=Nat.pow_le_pow_left hl 1
 have h2:ls.length ^ 2 ≤ 6 ^ 2:=Nat.pow_le_pow_left hl 2
 have h3:ls.length ^ 3 ≤ 6 ^ 3:=Nat.pow_le_pow_left hl 3
 intro k hk
 rcases (show k = 0 ∨ k = 1 ∨ k = 2 ∨ k = 3 by omega) with rfl | rfl | rfl | rfl
 ·simp [midG]
 ·simp only [midG,List.length_append,aEH,List.length_singleton,Nat.zero_add,Nat.reduceAdd]; omega
 ·simp only [midG,List.length_append,aEH,List.length_singleton,Nat.zero_add,Nat.reduceAdd]; omega
 ·simp only [midG,List.length_append,aEH,List.length_singleton,Nat.zero_add,Nat.reduceAdd]; omega
def insW (ws:List Str) (w:Str):List Str:=if w ∈ ws then ws else ws ++ [w]
def e9 (ws l:List Str):List Str:=l.foldl insW ws
def bG (ws:List Str) (w:Str):Nat:=ws.countP fun x => decide (cmpX x w < 0)
def ordW (ws:List Str) (w:Str):List Str:=if w ∈ ws then ws else ws.take (bG ws w) ++ w :: ws.drop (bG ws w)
def m2 (ws l:List Str):List Str:=l.foldl ordW ws
def wD (ws:List Str):Prop:=ws.Pairwise fun x y => cmpX x y < 0
theorem aVQ {ws:List Str}:e9 ws [] = ws:=rfl
theorem aAO {ws l:List Str} {w:Str}:e9 ws (w :: l) = e9 (insW ws w) l:=rfl
theorem aUC {ws l m:List Str}:e9 ws (l ++ m) = e9 (e9 ws l) m:=by simp [e9]
theorem aFS {ws l:List Str} {w:Str}:m2 ws (w :: l) = m2 (ordW ws w) l:=rfl
theorem aRo {ws l m:List Str}:m2 ws (l ++ m) = m2 (m2 ws l) m:=by simp [m2]
theorem aQf {ws:List Str} {w:Str}:ws.length ≤ (insW ws w).length ∧ (insW ws w).length ≤ ws.length + 1:=by
 unfold insW; split <;> simp
theorem aHt:∀ {l ws:List Str},ws.length ≤ (e9 ws l).length ∧ (e9 ws l).length ≤ ws.length + l.length
 | [],ws => ⟨Nat.le_refl _,Nat.le_refl _⟩
 | w :: l,ws => by
  have h1:=aQf (ws:=ws) (w:=w)
  have h2:=aHt (l:=l) (ws:=insW ws w)
  rw [aAO,List.length_cons]
  omega
theorem aOb {ws:List Str} {w x:Str}:x ∈ insW ws w ↔ x ∈ ws ∨ x = w:=by
 unfold insW
 split
 ·rename_i h
  exact ⟨.inl,fun h2 => h2.elim (fun h => h) fun h2 => by rw [h2]; exact h⟩
 ·simp
theorem aCR {x:Str}:∀ {l ws:List Str},x ∈ e9 ws l ↔ x ∈ ws ∨ x ∈ l
 | [],ws => by simp [aVQ]
 | w :: l,ws => by
  rw [aAO,aCR,aOb,List.mem_cons]
  constructor
  ·rintro ((h | h) | h)
   ·exact .inl h
   ·exact .inr (.inl h)
   ·exact .inr (.inr h)
  ·rintro (h | h | h)
   ·exact .inl (.inl h)
   ·exact .inl (.inr h)
   ·exact .inr h
theorem EY:∀ {ws:List Str} (_:wD ws) (w:Str) (i:Nat) (h:i < ws.length),cmpX ws[i] w < 0 ↔ i < bG ws w
 | [],_,_,_,h => by simp at h
 | a :: ws,hs,w,i,h => by
  obtain ⟨h1,h2⟩:=List.pairwise_cons.1 hs
  unfold bG
  rw [List.countP_cons]
  by_cases ha:cmpX a w < 0
  ·rw [if_pos (by simpa using ha)]
   cases i with
   | zero => simp [ha]
   | succ i =>
    have:=EY h2 w i (by simpa using h)
    unfold bG at this
    rw [List.getElem_cons_succ,this]; omega
  ·have h0:bG ws w = 0:=by
    unfold bG
    rw [List.countP_eq_zero]
    intro x hx
    have:=h1 x hx
    simp only [decide_eq_true_eq]
    exact fun h3 => ha (y1 this h3)
   rw [if_neg (by simpa using ha)]
   unfold bG at h0
   rw [h0]
   cases i with
   | zero => simpa using ha
   | succ i =>
    rw [List.getElem_cons_succ]
    have:=h1 (ws[i]'(by simpa using h)) (List.getElem_mem _)
    constructor
    ·intro h3; exact (ha (y1 this h3)).elim
    ·intro h3; omega
theorem aMc {ws:List Str} {w:Str}:bG ws w ≤ ws.length:=List.countP_le_length
theorem aSS {ws:List Str} (hs:wD ws) (w:Str):(bG ws w < ws.length ∧ ws.getD (bG ws w) [] = w) ↔ w ∈ ws:=by
 constructor
 ·rintro ⟨h1,h2⟩
  rw [List.getD_eq_getElem?_getD,List.getElem?_eq_getElem h1] at h2
  have h2:ws[bG ws w] = w:=h2
  rw [← h2]
  exact List.getElem_mem _
 ·intro hm
  obtain ⟨i,hi,rfl⟩:=List.getElem_of_mem hm
  have h1:¬ i < bG ws ws[i]:=fun h => QR _ ((EY hs _ i hi).2 h)
  have h2:¬ bG ws ws[i] < i:=fun h => by
   have h3:=List.pairwise_iff_getElem.1 hs (bG ws ws[i]) i (by omega) hi h
   have:=(EY hs ws[i] (bG ws ws[i]) (by omega)).1 h3
   omega
  have e:bG ws ws[i] = i:=by omega
  refine ⟨by omega,?_⟩
  rw [e,List.getD_eq_getElem?_getD,List.getElem?_eq_getElem hi]
  rfl
theorem aKZ {ws:List Str} (hs:wD ws) (w:Str):wD (ordW ws w):=by
 unfold ordW
 split
 ·exact hs
 ·rename_i hn
  have lt1:∀ x ∈ ws.take (bG ws w),cmpX x w < 0:=by
   intro x hx
   obtain ⟨i,hi,rfl⟩:=List.getElem_of_mem hx
   rw [List.length_take] at hi
   rw [List.getElem_take]
   exact (EY hs w i (by omega)).2 (by omega)
  have lt2:∀ x ∈ ws.drop (bG ws w),cmpX w x < 0:=by
   intro x hx
   obtain ⟨i,hi,rfl⟩:=List.getElem_of_mem hx
   rw [List.length_drop] at hi
   rw [List.getElem_drop]
   have h1:¬ cmpX ws[bG ws w + i] w < 0:=fun h => by
    have:=(EY hs w (bG ws w + i) (by omega)).1 h
    omega
   rcases Y7 w ws[bG ws w + i] with h | h | h
   ·exact (hn (by rw [h]; exact List.getElem_mem _)).elim
   ·exact h
   ·exact (h1 h).elim
  unfold wD
  rw [List.pairwise_append]
  refine ⟨hs.sublist (List.take_sublist _ _),List.pairwise_cons.2 ⟨lt2,hs.sublist (List.drop_sublist _ _)⟩,fun x hx y hy => ?_⟩
  rcases List.mem_cons.1 hy with rfl | hy
  ·exact lt1 x hx
  ·exact y1 (lt1 x hx) (lt2 y hy)
theorem XK:∀ {l ws:List Str},wD ws → wD (m2 ws l)
 | [],_,h => h
 | w :: l,ws,h => by rw [aFS]; exact XK (l:=l) (ws:=ordW ws w) (aKZ h w)
theorem aHj {ws vs:List Str} (h:ws.Perm vs) (w:Str):(ordW ws w).Perm (insW vs w):=by
 unfold ordW insW
 by_cases hm:w ∈ ws
 ·rw [if_pos hm,if_pos (h.mem_iff.1 hm)]; exact h
 ·rw [if_neg hm,if_neg fun h2 => hm (h.mem_iff.2 h2)]
  refine List.perm_middle.trans ?_
  rw [List.take_append_drop]
  refine (h.cons w).trans ?_
  exact (List.perm_append_singleton w vs).symm
theorem LM:∀ {l ws vs:List Str},ws.Perm vs → (m2 ws l).Perm (e9 vs l)
 | [],_,_,h => h
 | w :: l,ws,vs,h => by rw [aFS,aAO]; exact LM (l:=l) (aHj h w)
theorem aWx {ws:List Str} {w:Str}:ws.length ≤ (ordW ws w).length ∧ (ordW ws w).length ≤ ws.length + 1:=by
 have h:=(aHj (List.Perm.refl ws) w).length_eq
 have:=aQf (ws:=ws) (w:=w)
 omega
theorem aRT {l ws:List Str}:ws.length ≤ (m2 ws l).length:=by
 have h:=(LM (l:=l) (List.Perm.refl ws)).length_eq
 have:=(aHt (l:=l) (ws:=ws)).1
 omega
theorem aWF {l:List Str} (h:wD l):l.Pairwise fun x y => leX x y = true:=h.imp fun h => aUa h
theorem aRL {l m:List Str} (hl:wD l) (h:m.Perm l):m.mergeSort leX = l:=by
 refine ((List.mergeSort_perm m leX).trans h).eq_of_pairwise (fun x y _ _ h1 h2 => aG9 h1 h2) ?_ (aWF hl)
 exact List.pairwise_mergeSort V2 UQ _
def endL (c m:Str) (ends:List Str):List Str:=ends.map fun e => c ++ m ++ e
def midL (c:Str) (mids ends:List Str):List Str:=mids.flatMap fun m => endL c m ends
def covL (cov mids ends:List Str):List Str:=cov.flatMap fun c => midL c mids ends
def optF (f:Str → List Str → Bool × List Str):List Str → List Str → Option (List Str)
 | [],o => some o
 | w :: l,o => if (f w o).1 = true then optF f l (f w o).2 else none
def run3 (f:Str → List Str → Bool × List Str) (ws:List Str):Nat → Nat → List Str → Bool × Nat × List Str
 | 0,q,o => (true,q,o)
 | j + 1,q,o => if (f (ws.getD q []) o).1 = true then run3 f ws j (q + 1) (f (ws.getD q []) o).2 else (false,q,(f (ws.getD q []) o).2)
theorem aAV {f:Str → List Str → Bool × List Str} {ws:List Str}:∀ (j q:Nat) (o:List Str),q + j = ws.length → optF f (ws.drop q) o = if (run3 f ws j q o).1 = true then some (run3 f ws j q o).2.2 else none
 | 0,q,o,h => by
  obtain rfl:q = ws.length:=by omega
  rw [List.drop_length]; rfl
 | j + 1,q,o,h => by
  have hq:q < ws.length:=by omega
  have e:ws.drop q = ws.getD q [] :: ws.drop (q + 1):=by
   rw [List.drop_eq_getElem_cons hq,List.getD_eq_getElem?_getD,List.getElem?_eq_getElem hq]; rfl
  rw [e]
  unfold optF run3
  by_cases hf:(f (ws.getD q []) o).1 = true
  ·rw [if_pos hf,if_pos hf,aAV j (q + 1) _ (by omega)]
  ·rw [if_neg hf,if_neg hf,if_neg Bool.false_ne_true]
theorem KI {f:Str → List Str → Bool × List Str} {ws:List Str} {j q:Nat} {o:List Str} (h:(f (ws.getD q []) o).1 = true):run3 f ws (j + 1) q o = run3 f ws j (q + 1) (f (ws.getD q []) o).2:=if_pos h
theorem QX {f:Str → List Str → Bool × List Str} {ws:List Str} {j q:Nat} {o:List Str} (h:(f (ws.getD q []) o).1 = false):run3 f ws (j + 1) q o = (false,q,(f (ws.getD q []) o).2):=if_neg (by rw [h]; exact Bool.false_ne_true)
theorem QV {f:Str → List Str → Bool × List Str} {g:Str → List Str} {ins:List Str → List Str → List Str} (h0:∀ o,ins o [] = o) (happ:∀ o l m,ins o (l ++ m) = ins (ins o l) m) (hle:∀ o l,o.length ≤ (ins o l).length)
  (hf:∀ w o,o.length ≤ 3000 → if 3000 < (ins o (g w)).length then (f w o).1 = false else f w o = (true,ins o (g w))):∀ (ws o:List Str),o.length ≤ 3000 → optF f ws o = if 3000 < (ins o (ws.flatMap g)).length then none else some (ins o (ws.flatMap g))
 | [],o,h => by
  rw [List.flatMap_nil,h0,if_neg (by omega)]; rfl
 | w :: ws,o,h => by
  have hw:=hf w o h
  rw [List.flatMap_cons,happ]
  unfold optF
  by_cases hc:3000 < (ins o (g w)).length
  ·rw [if_pos hc] at hw
   rw [hw,if_neg Bool.false_ne_true,if_pos]
   have:=hle (ins o (g w)) (ws.flatMap g)
   omega
  ·rw [if_neg hc] at hw
   rw [hw,if_pos rfl]
   exact QV h0 happ hle hf ws _ (Nat.le_of_not_lt hc)
theorem aEg {f:Str → List Str → Bool × List Str} {ws o z:List Str} (h:optF f ws o = if 3000 < z.length then none else some z):if 3000 < z.length then (run3 f ws ws.length 0 o).1 = false else ((run3 f ws ws.length 0 o).1,(run3 f ws ws.length 0 o).2.2) = (true,z):=by
 have e:=aAV (f:=f) (ws:=ws) ws.length 0 o (by omega)
 rw [List.drop_zero,h] at e
 by_cases hc:3000 < z.length
 ·rw [if_pos hc] at e ⊢
  cases hb:(run3 f ws ws.length 0 o).1 with
  | false => rfl
  | true => rw [hb,if_pos rfl] at e; cases e
 ·rw [if_neg hc] at e ⊢
  cases hb:(run3 f ws ws.length 0 o).1 with
  | false => rw [hb,if_neg Bool.false_ne_true] at e; cases e
  | true => rw [hb,if_pos rfl] at e; injection e with e; rw [e]
def midF (c:Str) (ends:List Str) (m:Str) (o:List Str):Bool × List Str:=(!decide (3000 < (e9 o (endL c m ends)).length),e9 o (endL c m ends))
def covF (mids ends:List Str) (c:Str) (o:List Str):Bool × List Str:=((run3 (midF c ends) mids mids.length 0 o).1,(run3 (midF c ends) mids mids.length 0 o).2.2)
def endS (c m:Str) (e:Str) (o:List Str):Bool × List Str:=(!decide (3000 < (ordW o (c ++ m ++ e)).length),ordW o (c ++ m ++ e))
def midZ (c:Str) (ends:List Str) (m:Str) (o:List Str):Bool × List Str:=((run3 (endS c m) ends ends.length 0 o).1,(run3 (endS c m) ends ends.length 0 o).2.2)
def covZ (mids ends:List Str) (c:Str) (o:List Str):Bool × List Str:=((run3 (midZ c ends) mids mids.length 0 o).1,(run3 (midZ c ends) mids mids.length 0 o).2.2)
theorem aQD {cov mids ends:List Str}:optF (covF mids ends) cov [] = if 3000 < (e9 [] (covL cov mids ends)).length then none else some (e9 [] (covL cov mids ends)):=by
 have ok:(∀ o,e9 o [] = o) ∧ (∀ o l m,e9 o (l ++ m) = e9 (e9 o l) m) ∧ ∀ o l,o.length ≤ (e9 o l).length:=⟨fun _ => rfl,fun _ _ _ => aUC,fun _ _ => aHt.1⟩
 refine QV ok.1 ok.2.1 ok.2.2 (fun c o ho => aEg (QV ok.1 ok.2.1 ok.2.2 (fun m o ho => ?_) mids o ho)) cov [] (by simp)
 unfold midF
 split <;> simp [*]
theorem a0a {cov mids ends:List Str}:optF (covZ mids ends) cov [] = if 3000 < (m2 [] (covL cov mids ends)).length then none else some (m2 [] (covL cov mids ends)):=by
 have ok:(∀ o,m2 o [] = o) ∧ (∀ o l m,m2 o (l ++ m) = m2 (m2 o l) m) ∧ ∀ o l,o.length ≤ (m2 o l).length:=⟨fun _ => rfl,fun _ _ _ => aRo,fun _ _ => aRT⟩
 refine QV ok.1 ok.2.1 ok.2.2 (fun c o ho => aEg (QV ok.1 ok.2.1 ok.2.2 (fun m o ho => aEg ?_) mids o ho)) cov [] (by simp)
 have e:endL c m ends = ends.flatMap fun e => [c ++ m ++ e]:=by unfold endL; induction ends with
  | nil => rfl
  | cons x l ih => simp only [List.map_cons,List.flatMap_cons,ih,List.singleton_append]
 rw [e]
 refine QV ok.1 ok.2.1 ok.2.2 (fun e o ho => ?_) ends o ho
 have e1:m2 o [c ++ m ++ e] = ordW o (c ++ m ++ e):=rfl
 unfold endS
 rw [e1]
 split <;> rename_i hc <;> simp only [hc,decide_true,decide_false,Bool.not_true,Bool.not_false]
def y5 (cov mids ends:List Str):Option (List Str):=if 3000 < (m2 [] (covL cov mids ends)).length then none else some (m2 [] (covL cov mids ends))
theorem aRh {cov mids ends:List Str}:(optF (covF mids ends) cov []).map (fun ws => ws.mergeSort leX) = y5 cov mids ends:=by
 rw [aQD]
 unfold y5
 have hp:=LM (l:=covL cov mids ends) (List.Perm.refl [])
 rw [hp.length_eq]
 split
 ·rfl
 ·rw [Option.map_some,aRL (XK List.Pairwise.nil) hp.symm]
theorem aWu {cov mids ends l:List Str} (h:y5 cov mids ends = some l) (x:Str):x ∈ l ↔ ∃ c ∈ cov,∃ m ∈ mids,∃ e ∈ ends,x = c ++ m ++ e:=by
 unfold y5 at h
 split at h
 ·cases h
 ·cases h
  rw [(LM (l:=covL cov mids ends) (List.Perm.refl [])).mem_iff,aCR]
  simp only [List.not_mem_nil,false_or,covL,midL,endL,List.mem_flatMap,List.mem_map]
  constructor
  ·rintro ⟨c,hc,m,hm,e,he,rfl⟩; exact ⟨c,hc,m,hm,e,he,rfl⟩
  ·rintro ⟨c,hc,m,hm,e,he,rfl⟩; exact ⟨c,hc,m,hm,e,he,rfl⟩
theorem aXI {cov mids ends l:List Str} (h:y5 cov mids ends = some l):wD l ∧ l.length ≤ 3000:=by
 unfold y5 at h
 split at h
 ·cases h
 ·cases h
  exact ⟨XK List.Pairwise.nil,by omega⟩
theorem aGU {R:Type} {L n:Nat} (hn:1 ≤ n) {a:Int} {k:KE R}:∀ (i:Int) (m:Nat) (l:List Int) (len:Nat) (h0:0 ≤ i) (hi:i ≤ 6) (hm:6 - i < m) (hl:len = l.length) (hlen:(l.length:Int) ≤ i),
  aF env (aA env L n) L 0 [] Bz42 (u1 0) (Z1 (U1 (Z2 (Z1 (U8 (U4 (U1 ([])))))))) m (nI a :: Y1 (.d .nils :: .sl 0 0 0 len :: nI i :: Y8 (Y4 (Y1 ([]))))) [.arr (ints l) 1 0] k
  = k (.exit 0) (nI a :: Y1 (.d .nils :: .sl 0 0 0 (len + ((yX (6 - i).toNat).filter (eB a)).length) :: nI 6 :: Y8 (Y4 (Y1 ([]))))) [.arr (ints (l ++ (yX (6 - i).toNat).filter (eB a))) 1 0]:=by
 intro i m l len h0 hi hm hl hlen
 obtain ⟨j,hj⟩:∃ j:Nat,(j:Int) = (6:Int) - i:=⟨((6:Int) - i).toNat,by omega⟩
 induction j generalizing i m l len with
 | zero =>
  obtain _ | m:=m; omega
  obtain rfl:i = 6:=by omega
  simp -implicitDefEqProofs (maxSteps:=2000000) (disch:=try exact Dz) only [↓DN,↓kAsg,↓kRet,UP,simprocAttr,↓mK,zA,yE,Tryz.f83]
  simp only [yX,List.filter_nil,List.append_nil,List.length_nil,Nat.add_zero]
 | succ j ih =>
  obtain _ | m:=m; omega
  have hc:i < 6:=by omega
  have e1:(6 - i).toNat = j + 1:=by omega
  have e2:(6 - (i + 1)).toNat = j:=by omega
  have hr:yX (j + 1) = i :: yX j:=by simp only [yX]; congr 1; omega
  rw [e1,hr,List.filter_cons]
  cases hb:eB a i with
  | true =>
   simp -implicitDefEqProofs (maxSteps:=2000000) (disch:=try exact Dz) only [↓DN,↓kAsg,↓kRet,UP,simprocAttr,↓mK,↓ih,hc,hb,e2,zA,yE,Tryz.f83]
   simp only [List.append_assoc,List.cons_append,List.nil_append,Nat.add_assoc,Nat.add_comm 1]
  | false =>
   simp -implicitDefEqProofs (maxSteps:=2000000) (disch:=try exact Dz) only [↓DN,↓kAsg,↓kRet,UP,simprocAttr,↓mK,↓ih,hc,hb,e2,zA,yE,Tryz.f83]
theorem a0w:yX (6 - (0:Int)).toNat = [0,1,2,3,4,5]:=rfl
theorem ZA {L n:Nat} (hn:2 ≤ n) (a:Int) (hL:2 ^ 60 ≤ L):aA env L n 83 [nI a] [] = some (.d (.ivs (aB a).length (ints (aB a))),[]):=by
 unfold aB
 rw [← a0w]
 obtain _ | n:=n; omega
 simp -implicitDefEqProofs (maxSteps:=2000000) (disch:=try exact Dz) only [↓DN,↓kAsg,↓kRet,UP,simprocAttr,↓mK,aWM,↓aGU,aKz,aBZ,Tryz.f83]
theorem bA:type_of% fun {L} a hL => ks fun hn => @ZA L _ hn a hL:=fun {L} a hL => ks fun hn => @ZA L _ hn a hL
end Ev
end Go.Proofs.YtejmccgfigiadaaGreat
