/-
  Valid automata; where a letter leads: the functions of the program and of the reference, at data.
-/
import Derived.Test.YtejmccgfigiadaaGreatLett
set_option linter.unusedSimpArgs false
set_option linter.unusedVariables false
set_option maxRecDepth 8000
set_option maxHeartbeats 4000000
namespace Go.Proofs.YtejmccgfigiadaaGreat
namespace Ev
section
variable {R:Type} {L n:Nat}
def badQ (n:Int) (r:List Int) (i:Nat):Bool:=!(decide (0 ≤ r.getD i 0) && decide (r.getD i 0 < n))
def MT (w n:Int) (r:List Int):Bool:=!decide ((r.length:Int) = w) || (seek (badQ n r) r.length 0).isSome
def lI (w n:Int) (rs:List (List Int)) (i:Nat):Bool:=MT w n (rs.getD i [])
def dU (al:Int) (rs:List (List Int)) (ac:List Bool):Bool :=
 eK al && decide ((1:Int) ≤ rs.length) && decide ((rs.length:Int) ≤ 12) && decide ((ac.length:Int) = rs.length) && (seek (lI (aB al).length rs.length rs) rs.length 0).isNone
theorem aOF {w n:Int} {r:List Int} (h:¬ (r.length:Int) = w):MT w n r = true:=by
 unfold MT
 rw [decide_eq_false h]
 rfl
theorem aBc {w n:Int} {r:List Int} (h:(r.length:Int) = w):MT w n r = (seek (badQ n r) r.length 0).isSome:=by
 unfold MT
 rw [decide_eq_true h]
 rfl
theorem VF {n:Int} {r:List Int} {i:Nat}:badQ n r i = true ↔ ¬ (0 ≤ r.getD i 0 ∧ r.getD i 0 < n):=by
 unfold badQ
 simp only [Bool.not_eq_true',Bool.and_eq_false_iff,decide_eq_false_iff_not]
 omega
theorem GH {n:Int} {r:List Int} {i:Nat}:badQ n r i = false ↔ (0 ≤ r.getD i 0 ∧ r.getD i 0 < n):=by
 unfold badQ
 simp only [Bool.not_eq_false',Bool.and_eq_true,decide_eq_true_eq]
theorem GO {R:Type} {L nn:Nat} (hn:1 ≤ nn) {n:Int} {r:List Int} (hl:r.length ≤ 4294967296) {k:KE R}:∀ (j:Nat) (i:Int) (m:Nat) (h0:0 ≤ i) (hi:i + j = r.length) (hm:j < m),
  aF env (aA env L nn) L 0 [] Bz29 (HD 0) (Z1 (U1 (Z1 (U2 (U1 (Z2 (U16 (U4 (U2 (U1 ([]))))))))))) m (.d (.ivs r.length (ints r)) :: Y1 (nI n :: Y2 (Y1 (.d (.bool false) :: nI i :: Y16 (Y4 (Y2 (Y1 ([])))))))) [] k
  = match seek (badQ n r) j i.toNat with
   | none => k (.exit 0) (.d (.ivs r.length (ints r)) :: Y1 (nI n :: Y2 (Y1 (.d (.bool false) :: nI (r.length) :: Y16 (Y4 (Y2 (Y1 ([])))))))) []
   | some q => k .ret (.d (.ivs r.length (ints r)) :: Y1 (nI n :: Y2 (Y1 (.d (.bool false) :: nI q :: Y16 (Y4 (Y2 (Y1 ([])))))))) []:=by
 intro j
 induction j with
 | zero =>
  intro i m h0 hi hm
  obtain _ | m:=m; omega
  obtain rfl:i = r.length:=by omega
  simp -implicitDefEqProofs (maxSteps:=2000000) (disch:=try exact Dz) only [↓DN,↓kAsg,↓kRet,UP,simprocAttr,LA,Int.lt_irrefl,AZ,B2,Tryz.f82]
  rfl
 | succ j ih =>
  intro i m h0 hi hm
  obtain _ | m:=m; omega
  have hc:i < r.length:=by omega
  have hk:i.toNat < r.length:=by omega
  have e1:(i + 1).toNat = i.toNat + 1:=by omega
  have e3:((i.toNat:Nat):Int) = i:=by omega
  by_cases h1:r.getD i.toNat 0 < 0
  ·have hb:badQ n r i.toNat = true:=by rw [VF]; omega
   rw [oC hb]
   simp -implicitDefEqProofs (maxSteps:=2000000) (disch:=try exact Dz) only [↓DN,↓kAsg,↓kRet,UP,simprocAttr,LA,dP,jJ,hc,h1,e3,AZ,B2,Tryz.f82]
  ·by_cases h2:n ≤ r.getD i.toNat 0
   ·have hb:badQ n r i.toNat = true:=by rw [VF]; omega
    rw [oC hb]
    simp -implicitDefEqProofs (maxSteps:=2000000) (disch:=try exact Dz) only [↓DN,↓kAsg,↓kRet,UP,simprocAttr,LA,dP,jJ,hc,h1,h2,e3,AZ,B2,Tryz.f82]
   ·have hb:badQ n r i.toNat = false:=by rw [GH]; omega
    rw [rA hb]
    simp -implicitDefEqProofs (maxSteps:=2000000) (disch:=try exact Dz) only [↓DN,↓kAsg,↓kRet,UP,simprocAttr,LA,dP,jJ,hc,h1,h2,↓ih,e1,AZ,B2,Tryz.f82]
theorem P2 (hn:2 ≤ n) (r:List Int) (w q:Int) (hl:r.length ≤ 4294967296) (hL:2 ^ 60 ≤ L):aA env L n 82 [.d (.ivs r.length (ints r)),nI w,nI q] [] = some (.d (.bool (!MT w q r)),[]):=by
 unfold MT
 by_cases h1:(r.length:Int) = w
 ·have loop_a:=fun {R:Type} {n:Nat} (hn:1 ≤ n) {k:KE R} => GO (R:=R) (L:=L) (nn:=n) hn (n:=q) hl (k:=k) r.length 0 L (by omega) (by omega) (by omega)
  simp only [Int.toNat_zero] at loop_a
  cases hs:seek (badQ q r) r.length 0 with
  | none =>
   rw [hs] at loop_a
   obtain _ | n:=n; omega
   simp -implicitDefEqProofs (maxSteps:=2000000) (disch:=try exact Dz) only [↓DN,↓kAsg,↓kRet,UP,simprocAttr,↓GO,LA,h1,↓loop_a,hs,aA8,VR,Tryz.f82]
  | some z =>
   rw [hs] at loop_a
   obtain _ | n:=n; omega
   simp -implicitDefEqProofs (maxSteps:=2000000) (disch:=try exact Dz) only [↓DN,↓kAsg,↓kRet,UP,simprocAttr,↓GO,LA,h1,↓loop_a,hs,aA8,VR,Tryz.f82]
 ·obtain _ | n:=n; omega
  simp -implicitDefEqProofs (maxSteps:=2000000) (disch:=try exact Dz) only [↓DN,↓kAsg,↓kRet,UP,simprocAttr,↓GO,LA,h1,aA8,VR,Tryz.f82]
theorem qH:type_of% fun {L} r w q hl hL => ks fun hn => @P2 L _ hn r w q hl hL:=fun {L} r w q hl hL => ks fun hn => @P2 L _ hn r w q hl hL
theorem qG:type_of% fun {L} r w q hl hL => kt fun hn => @P2 L _ hn r w q hl hL:=fun {L} r w q hl hL => kt fun hn => @P2 L _ hn r w q hl hL
theorem mV {L:Nat} {id0 g0 o0 len0:Nat} {w q:Int}:KV L 82 [.sl id0 g0 o0 len0,nI w,nI q]:=fun _ _ _ _ => aC TJ
theorem gG (hL:2 ^ 60 ≤ L) (hn:3 ≤ n) {al:Int} {rs:List (List Int)} {ac:List Bool} (hs:bH rs) {k:KE R}:∀ (j:Nat) (i:Int) (m:Nat) (h0:0 ≤ i) (hi:i + j = rs.length) (hm:j < m),
  aF env (aA env L n) L 0 [] Bz46 (nS 0) (U1 (Z4 (U32 (U4 (U2 (U1 ([]))))))) m (Y1 (.ptr 0 0 0 :: .d (.bool false) :: nI (rs.length) :: nI i :: Y32 (Y4 (Y2 (Y1 ([])))))) [.box [nI al,.d (.ivs rs.length (rowsD rs)),.d (.ivs ac.length (bools ac))]] k
  = match seek (lI (aB al).length rs.length rs) j i.toNat with
   | none => k (.exit 0) (Y1 (.ptr 0 0 0 :: .d (.bool false) :: nI (rs.length) :: nI (rs.length) :: Y32 (Y4 (Y2 (Y1 ([])))))) [.box [nI al,.d (.ivs rs.length (rowsD rs)),.d (.ivs ac.length (bools ac))]]
   | some q => k .ret (Y1 (.ptr 0 0 0 :: .d (.bool false) :: nI (rs.length) :: nI q :: Y32 (Y4 (Y2 (Y1 ([])))))) [.box [nI al,.d (.ivs rs.length (rowsD rs)),.d (.ivs ac.length (bools ac))]]:=by
 intro j
 have hrl:=hs.1
 have hll:=eF al
 induction j with
 | zero =>
  intro i m h0 hi hm
  obtain _ | m:=m; omega
  obtain rfl:i = rs.length:=by omega
  simp -implicitDefEqProofs (maxSteps:=2000000) (disch:=try exact Dz) only [↓DN,↓kAsg,↓kRet,UP,simprocAttr,↓gR,↓bA,↓qH,↓qG,↓mV,LA,Int.lt_irrefl,r8,qE,Tryz.f41]
  rfl
 | succ j ih =>
  intro i m h0 hi hm
  obtain _ | m:=m; omega
  have hc:i < rs.length:=by omega
  have hk:i.toNat < rs.length:=by omega
  have hrow:=KD hs hk
  have e1:(i + 1).toNat = i.toNat + 1:=by omega
  have e3:((i.toNat:Nat):Int) = i:=by omega
  cases hb:lI (aB al).length rs.length rs i.toNat with
  | true =>
   rw [oC hb]
   unfold lI at hb
   simp -implicitDefEqProofs (maxSteps:=2000000) (disch:=try exact Dz) only [↓DN,↓kAsg,↓kRet,UP,simprocAttr,↓gR,↓bA,↓qH,↓qG,↓mV,LA,k8,lS,hc,hb,e3,r8,qE,Tryz.f41]
  | false =>
   rw [rA hb]
   unfold lI at hb
   simp -implicitDefEqProofs (maxSteps:=2000000) (disch:=try exact Dz) only [↓DN,↓kAsg,↓kRet,UP,simprocAttr,↓gR,↓bA,↓qH,↓qG,↓mV,LA,k8,lS,hc,hb,↓ih,e1,r8,qE,Tryz.f41]
theorem rU (hn:4 ≤ n) (al:Int) (rs:List (List Int)) (ac:List Bool) (hs:bH rs) (ha:ac.length ≤ 4294967296) (hL:2 ^ 60 ≤ L):aA env L n 41 [.agg [nI al,.d (.ivs rs.length (rowsD rs)),.d (.ivs ac.length (bools ac))]] [] = some (.d (.bool (dU al rs ac)),[]):=by
 have hrl:=hs.1
 have loop_a:=fun {R:Type} {n:Nat} (hn:3 ≤ n) {k:KE R} => gG (R:=R) (L:=L) hL hn (al:=al) (ac:=ac) hs (k:=k) rs.length 0 L (by omega) (by omega) (by omega)
 simp only [Int.toNat_zero] at loop_a
 unfold dU
 cases hq:eK al with
 | false =>
  obtain _ | n:=n; omega
  simp -implicitDefEqProofs (maxSteps:=2000000) (disch:=try exact Dz) only [↓DN,↓kAsg,↓kRet,UP,simprocAttr,↓gR,↓bA,↓qH,↓qG,↓mV,↓gG,LA,hq,Bool.false_and,lA,jL,Tryz.f41]
 | true =>
  by_cases h1:(1:Int) ≤ rs.length
  ·have n1:¬ (rs.length:Int) < 1:=by omega
   by_cases h2:(rs.length:Int) ≤ 12
   ·have n2:¬ (12:Int) < rs.length:=by omega
    by_cases h3:(ac.length:Int) = rs.length
    ·cases hk:seek (lI (aB al).length rs.length rs) rs.length 0 with
     | none =>
      rw [hk] at loop_a
      obtain _ | n:=n; omega
      simp -implicitDefEqProofs (maxSteps:=2000000) (disch:=try exact Dz) only [↓DN,↓kAsg,↓kRet,UP,simprocAttr,↓gR,↓bA,↓qH,↓qG,↓mV,↓gG,LA,hq,h1,n1,h2,n2,h3,hk,↓loop_a,lA,jL,Tryz.f41]
     | some z =>
      rw [hk] at loop_a
      obtain _ | n:=n; omega
      simp -implicitDefEqProofs (maxSteps:=2000000) (disch:=try exact Dz) only [↓DN,↓kAsg,↓kRet,UP,simprocAttr,↓gR,↓bA,↓qH,↓qG,↓mV,↓gG,LA,hq,h1,n1,h2,n2,h3,hk,↓loop_a,Bool.and_false,lA,jL,Tryz.f41]
    ·obtain _ | n:=n; omega
     simp -implicitDefEqProofs (maxSteps:=2000000) (disch:=try exact Dz) only [↓DN,↓kAsg,↓kRet,UP,simprocAttr,↓gR,↓bA,↓qH,↓qG,↓mV,↓gG,LA,hq,h1,n1,h2,n2,h3,Bool.false_and,Bool.and_false,lA,jL,Tryz.f41]
   ·have n2:(12:Int) < rs.length:=by omega
    obtain _ | n:=n; omega
    simp -implicitDefEqProofs (maxSteps:=2000000) (disch:=try exact Dz) only [↓DN,↓kAsg,↓kRet,UP,simprocAttr,↓gR,↓bA,↓qH,↓qG,↓mV,↓gG,LA,hq,h1,n1,h2,n2,Bool.false_and,Bool.and_false,lA,jL,Tryz.f41]
  ·have n1:(rs.length:Int) < 1:=by omega
   obtain _ | n:=n; omega
   simp -implicitDefEqProofs (maxSteps:=2000000) (disch:=try exact Dz) only [↓DN,↓kAsg,↓kRet,UP,simprocAttr,↓gR,↓bA,↓qH,↓qG,↓mV,↓gG,LA,hq,h1,n1,Bool.false_and,Bool.and_false,lA,jL,Tryz.f41]
theorem aU:type_of% fun {L} al rs ac hs ha hL => ks fun hn => @rU L _ hn al rs ac hs ha hL:=fun {L} al rs ac hs ha hL => ks fun hn => @rU L _ hn al rs ac hs ha hL
theorem aV:type_of% fun {L} al rs ac hs ha hL => kt fun hn => @rU L _ hn al rs ac hs ha hL:=fun {L} al rs ac hs ha hL => kt fun hn => @rU L _ hn al rs ac hs ha hL
theorem aO {L:Nat} {id0 g0 o0 len0:Nat} {al:Int} {ac:List Bool}:KV L 41 [.agg [nI al,.sl id0 g0 o0 len0,.d (.ivs ac.length (bools ac))]]:=fun _ _ _ _ => aC lQ
theorem aP {L:Nat} {id1 g1 o1 len1:Nat} {al:Int} {rs:List (List Int)}:KV L 41 [.agg [nI al,.d (.ivs rs.length (rowsD rs)),.sl id1 g1 o1 len1]]:=fun _ _ _ _ => aC lQ
theorem aQ {L:Nat} {id1 g1 o1 len1:Nat} {id0 g0 o0 len0:Nat} {al:Int}:KV L 41 [.agg [nI al,.sl id0 g0 o0 len0,.sl id1 g1 o1 len1]]:=fun _ _ _ _ => aC lQ
theorem c8 (hL:2 ^ 60 ≤ L) (hn:3 ≤ n) {al q w:Int} {rs:List (List Int)} {ac:List Bool} (hs:bH rs) {r:List Int} (hr:r.length ≤ 4294967296) {k:KE R}:∀ (j:Nat) (i:Int) (m:Nat) (h0:0 ≤ i) (hi:i + j = r.length) (hm:j < m),
  aF env (aA env L n) L 0 [] Bz6 (fD 1) (U1 (Z2 (Z1 (U32 (U2 (Z2 (Z1 (U4 (U2 (U1 (Z2 (Z1 (U8 (U4 (U2 ([])))))))))))))))) m (Y1 (.ptr 0 0 0 :: .d (.bool false) :: nI w :: Y32 (Y2 (.d (.ivs rs.length (rowsD rs)) :: nI (rs.length) :: nI q :: Y4 (Y2 (Y1 (.d (.ivs r.length (ints r)) :: nI (r.length) :: nI i :: Y8 (Y4 (Y2 ([])))))))))) [.box [nI al,.d (.ivs rs.length (rowsD rs)),.d (.ivs ac.length (bools ac))]] k
  = match seek (badQ rs.length r) j i.toNat with
   | none => k (.exit 2) (Y1 (.ptr 0 0 0 :: .d (.bool false) :: nI w :: Y32 (Y2 (.d (.ivs rs.length (rowsD rs)) :: nI (rs.length) :: nI q :: Y4 (Y2 (Y1 (.d (.ivs r.length (ints r)) :: nI (r.length) :: nI (r.length) :: Y8 (Y4 (Y2 ([])))))))))) [.box [nI al,.d (.ivs rs.length (rowsD rs)),.d (.ivs ac.length (bools ac))]]
   | some z => k .ret (Y1 (.ptr 0 0 0 :: .d (.bool false) :: nI w :: Y32 (Y2 (.d (.ivs rs.length (rowsD rs)) :: nI (rs.length) :: nI q :: Y4 (Y2 (Y1 (.d (.ivs r.length (ints r)) :: nI (r.length) :: nI z :: Y8 (Y4 (Y2 ([])))))))))) [.box [nI al,.d (.ivs rs.length (rowsD rs)),.d (.ivs ac.length (bools ac))]]:=by
 intro j
 have hrl:=hs.1
 induction j with
 | zero =>
  intro i m h0 hi hm
  obtain _ | m:=m; omega
  obtain rfl:i = r.length:=by omega
  simp -implicitDefEqProofs (maxSteps:=2000000) (disch:=try exact Dz) only [↓DN,↓kAsg,↓kRet,UP,simprocAttr,↓b6,↓bE,LA,Int.lt_irrefl,nO,mU,Tryz.f48]
  rfl
 | succ j ih =>
  intro i m h0 hi hm
  obtain _ | m:=m; omega
  have hc:i < r.length:=by omega
  have hk:i.toNat < r.length:=by omega
  have e1:(i + 1).toNat = i.toNat + 1:=by omega
  have e3:((i.toNat:Nat):Int) = i:=by omega
  by_cases h1:r.getD i.toNat 0 < 0
  ·have hb:badQ rs.length r i.toNat = true:=by rw [VF]; omega
   rw [oC hb]
   simp -implicitDefEqProofs (maxSteps:=2000000) (disch:=try exact Dz) only [↓DN,↓kAsg,↓kRet,UP,simprocAttr,↓b6,↓bE,LA,dP,jJ,hc,h1,e3,nO,mU,Tryz.f48]
  ·by_cases h2:(rs.length:Int) ≤ r.getD i.toNat 0
   ·have hb:badQ rs.length r i.toNat = true:=by rw [VF]; omega
    rw [oC hb]
    simp -implicitDefEqProofs (maxSteps:=2000000) (disch:=try exact Dz) only [↓DN,↓kAsg,↓kRet,UP,simprocAttr,↓b6,↓bE,LA,dP,jJ,hc,h1,h2,e3,nO,mU,Tryz.f48]
   ·have hb:badQ rs.length r i.toNat = false:=by rw [GH]; omega
    rw [rA hb]
    simp -implicitDefEqProofs (maxSteps:=2000000) (disch:=try exact Dz) only [↓DN,↓kAsg,↓kRet,UP,simprocAttr,↓b6,↓bE,LA,dP,jJ,hc,h1,h2,↓ih,e1,nO,mU,Tryz.f48]
theorem fI (hL:2 ^ 60 ≤ L) (hn:3 ≤ n) {al:Int} {rs:List (List Int)} {ac:List Bool} (hs:bH rs) {k:KE R}:∀ (j:Nat) (i:Int) (m:Nat) (h0:0 ≤ i) (hi:i + j = rs.length) (hm:j < m),
  aF env (aA env L n) L 0 [] Bz6 (fD 0) (U1 (Z2 (Z1 (U32 (U2 (Z2 (Z1 (U16 (U8 ([])))))))))) m (Y1 (.ptr 0 0 0 :: .d (.bool false) :: nI ((aB al).length) :: Y32 (Y2 (.d (.ivs rs.length (rowsD rs)) :: nI (rs.length) :: nI i :: Y16 (Y8 ([])))))) [.box [nI al,.d (.ivs rs.length (rowsD rs)),.d (.ivs ac.length (bools ac))]] k
  = match seek (lI (aB al).length rs.length rs) j i.toNat with
   | none => k (.exit 0) (Y1 (.ptr 0 0 0 :: .d (.bool false) :: nI ((aB al).length) :: Y32 (Y2 (.d (.ivs rs.length (rowsD rs)) :: nI (rs.length) :: nI (rs.length) :: Y16 (Y8 ([])))))) [.box [nI al,.d (.ivs rs.length (rowsD rs)),.d (.ivs ac.length (bools ac))]]
   | some q => k .ret (Y1 (.ptr 0 0 0 :: .d (.bool false) :: nI ((aB al).length) :: Y32 (Y2 (.d (.ivs rs.length (rowsD rs)) :: nI (rs.length) :: nI q :: Y16 (Y8 ([])))))) [.box [nI al,.d (.ivs rs.length (rowsD rs)),.d (.ivs ac.length (bools ac))]]:=by
 intro j
 have hrl:=hs.1
 have hll:=eF al
 induction j with
 | zero =>
  intro i m h0 hi hm
  obtain _ | m:=m; omega
  obtain rfl:i = rs.length:=by omega
  simp -implicitDefEqProofs (maxSteps:=2000000) (disch:=try exact Dz) only [↓DN,↓kAsg,↓kRet,UP,simprocAttr,↓b6,↓bE,↓c8,LA,Int.lt_irrefl,nQ,mZ,Tryz.f48]
  rfl
 | succ j ih =>
  intro i m h0 hi hm
  obtain _ | m:=m; omega
  have hc:i < rs.length:=by omega
  have hk:i.toNat < rs.length:=by omega
  have hrow:=KD hs hk
  have e1:(i + 1).toNat = i.toNat + 1:=by omega
  have e3:((i.toNat:Nat):Int) = i:=by omega
  have loop_a:=fun {R:Type} {k:KE R} => c8 (R:=R) (n:=n) (L:=L) hL hn (al:=al) (q:=i) (w:=(aB al).length) (ac:=ac) hs hrow (k:=k) (rs.getD i.toNat []).length 0 L (by omega) (by omega) (by omega)
  simp only [Int.toNat_zero] at loop_a
  cases hb:lI (aB al).length rs.length rs i.toNat with
  | true =>
   rw [oC hb]
   unfold lI at hb
   by_cases hw:((rs.getD i.toNat []).length:Int) = (aB al).length
   ·have hwd:decide (((rs.getD i.toNat []).length:Int) = (aB al).length) = true:=decide_eq_true hw
    cases hz:seek (badQ rs.length (rs.getD i.toNat [])) (rs.getD i.toNat []).length 0 with
    | none => rw [aBc hw,hz] at hb; cases hb
    | some z =>
     rw [hz] at loop_a
     clear ih hb
     simp -implicitDefEqProofs (maxSteps:=2000000) (disch:=try exact Dz) only [↓DN,↓kAsg,↓kRet,UP,simprocAttr,↓b6,↓bE,↓c8,LA,k8,lS,hc,hwd,↓loop_a,e3,nQ,mZ,Tryz.f48]
   ·clear ih hb loop_a
    simp -implicitDefEqProofs (maxSteps:=2000000) (disch:=try exact Dz) only [↓DN,↓kAsg,↓kRet,UP,simprocAttr,↓b6,↓bE,↓c8,LA,k8,lS,hc,hw,e3,nQ,mZ,Tryz.f48]
  | false =>
   rw [rA hb]
   unfold lI at hb
   by_cases hw:((rs.getD i.toNat []).length:Int) = (aB al).length
   ·have hwd:decide (((rs.getD i.toNat []).length:Int) = (aB al).length) = true:=decide_eq_true hw
    cases hz:seek (badQ rs.length (rs.getD i.toNat [])) (rs.getD i.toNat []).length 0 with
    | none =>
     rw [hz] at loop_a
     clear hb
     simp -implicitDefEqProofs (maxSteps:=2000000) (disch:=try exact Dz) only [↓DN,↓kAsg,↓kRet,UP,simprocAttr,↓b6,↓bE,↓c8,LA,k8,lS,hc,hwd,↓loop_a,↓ih,e1,nQ,mZ,Tryz.f48]
    | some z => rw [aBc hw,hz] at hb; cases hb
   ·rw [aOF hw] at hb; cases hb
theorem rV (hn:4 ≤ n) (al:Int) (rs:List (List Int)) (ac:List Bool) (hs:bH rs) (ha:ac.length ≤ 4294967296) (hL:2 ^ 60 ≤ L):aA env L n 48 [.agg [nI al,.d (.ivs rs.length (rowsD rs)),.d (.ivs ac.length (bools ac))]] [] = some (.d (.bool (dU al rs ac)),[]):=by
 have hrl:=hs.1
 have hll:=eF al
 have loop_a:=fun {R:Type} {n:Nat} (hn:3 ≤ n) {k:KE R} => fI (R:=R) (L:=L) hL hn (al:=al) (ac:=ac) hs (k:=k) rs.length 0 L (by omega) (by omega) (by omega)
 simp only [Int.toNat_zero] at loop_a
 unfold dU
 cases hq:eK al with
 | false =>
  obtain _ | n:=n; omega
  simp -implicitDefEqProofs (maxSteps:=2000000) (disch:=try exact Dz) only [↓DN,↓kAsg,↓kRet,UP,simprocAttr,↓b6,↓bE,↓fI,↓c8,LA,hq,Bool.false_and,k5,jR,Tryz.f48]
 | true =>
  by_cases h1:(1:Int) ≤ rs.length
  ·have n1:¬ (rs.length:Int) < 1:=by omega
   by_cases h2:(rs.length:Int) ≤ 12
   ·have n2:¬ (12:Int) < rs.length:=by omega
    by_cases h3:(ac.length:Int) = rs.length
    ·cases hk:seek (lI (aB al).length rs.length rs) rs.length 0 with
     | none =>
      rw [hk] at loop_a
      obtain _ | n:=n; omega
      simp -implicitDefEqProofs (maxSteps:=2000000) (disch:=try exact Dz) only [↓DN,↓kAsg,↓kRet,UP,simprocAttr,↓b6,↓bE,↓fI,↓c8,LA,hq,h1,n1,h2,n2,h3,hk,↓loop_a,k5,jR,Tryz.f48]
     | some z =>
      rw [hk] at loop_a
      obtain _ | n:=n; omega
      simp -implicitDefEqProofs (maxSteps:=2000000) (disch:=try exact Dz) only [↓DN,↓kAsg,↓kRet,UP,simprocAttr,↓b6,↓bE,↓fI,↓c8,LA,hq,h1,n1,h2,n2,h3,hk,↓loop_a,Bool.and_false,k5,jR,Tryz.f48]
    ·obtain _ | n:=n; omega
     simp -implicitDefEqProofs (maxSteps:=2000000) (disch:=try exact Dz) only [↓DN,↓kAsg,↓kRet,UP,simprocAttr,↓b6,↓bE,↓fI,↓c8,LA,hq,h1,n1,h2,n2,h3,Bool.false_and,Bool.and_false,k5,jR,Tryz.f48]
   ·have n2:(12:Int) < rs.length:=by omega
    obtain _ | n:=n; omega
    simp -implicitDefEqProofs (maxSteps:=2000000) (disch:=try exact Dz) only [↓DN,↓kAsg,↓kRet,UP,simprocAttr,↓b6,↓bE,↓fI,↓c8,LA,hq,h1,n1,h2,n2,Bool.false_and,Bool.and_false,k5,jR,Tryz.f48]
  ·have n1:(rs.length:Int) < 1:=by omega
   obtain _ | n:=n; omega
   simp -implicitDefEqProofs (maxSteps:=2000000) (disch:=try exact Dz) only [↓DN,↓kAsg,↓kRet,UP,simprocAttr,↓b6,↓bE,↓fI,↓c8,LA,hq,h1,n1,Bool.false_and,Bool.and_false,k5,jR,Tryz.f48]
theorem aT:type_of% fun {L} al rs ac hs ha hL => ks fun hn => @rV L _ hn al rs ac hs ha hL:=fun {L} al rs ac hs ha hL => ks fun hn => @rV L _ hn al rs ac hs ha hL
theorem aS:type_of% fun {L} al rs ac hs ha hL => kt fun hn => @rV L _ hn al rs ac hs ha hL:=fun {L} al rs ac hs ha hL => kt fun hn => @rV L _ hn al rs ac hs ha hL
theorem aG {L:Nat} {id0 g0 o0 len0:Nat} {al:Int} {ac:List Bool}:KV L 48 [.agg [nI al,.sl id0 g0 o0 len0,.d (.ivs ac.length (bools ac))]]:=fun _ _ _ _ => aC lY
theorem aI {L:Nat} {id1 g1 o1 len1:Nat} {al:Int} {rs:List (List Int)}:KV L 48 [.agg [nI al,.d (.ivs rs.length (rowsD rs)),.sl id1 g1 o1 len1]]:=fun _ _ _ _ => aC lY
theorem aH {L:Nat} {id1 g1 o1 len1:Nat} {id0 g0 o0 len0:Nat} {al:Int}:KV L 48 [.agg [nI al,.sl id0 g0 o0 len0,.sl id1 g1 o1 len1]]:=fun _ _ _ _ => aC lY
end
section
variable {R:Type} {L n:Nat}
def mM (a l:Int):Nat:=((aB a).filter fun m => decide (m < l)).length
def goI (al:Int) (rs:List (List Int)) (q l:Int):Int:=if eB al l = true then (rs.getD q.toNat []).getD (mM al l) 0 else q
theorem six {l:Int} (h0:0 ≤ l) (h1:l < 6):l = 0 ∨ l = 1 ∨ l = 2 ∨ l = 3 ∨ l = 4 ∨ l = 5:=by omega
theorem E1 {a l:Int} (h0:0 ≤ l) (h1:l < 6) (hb:eB a l = true):mM a l < (aB a).length ∧ (aB a)[mM a l]? = some l:=by
 unfold mM aB
 generalize eB a = p at *
 rcases six h0 h1 with rfl | rfl | rfl | rfl | rfl | rfl <;>
  cases h0':p 0 <;> cases h1':p 1 <;> cases h2':p 2 <;> cases h3':p 3 <;> cases h4':p 4 <;> cases h5':p 5 <;> simp_all [List.filter]
theorem oO {a l:Int}:l ∈ aB a ↔ (0 ≤ l ∧ l < 6) ∧ eB a l = true:=by
 unfold aB
 rw [List.mem_filter]
 constructor
 ·rintro ⟨h1,h2⟩
  simp at h1
  exact ⟨by omega,h2⟩
 ·rintro ⟨h1,h2⟩
  refine ⟨?_,h2⟩
  rcases six h1.1 h1.2 with rfl | rfl | rfl | rfl | rfl | rfl <;> simp
theorem aBs (a:Int):(aB a).Nodup:=by
 unfold aB
 exact List.Nodup.sublist List.filter_sublist (by decide)
def DB (q:Nat):Nat → Nat → List Int → List Int
 | 0,_,t => t
 | j + 1,i,t => DB q j (i + 1) (t.set (q * 6 + i) q)
def AT (q:Nat) (row:List Int):List Int → Nat → List Int → List Int
 | [],_,t => t
 | l :: ls,i,t => AT q row ls (i + 1) (t.set (q * 6 + l.toNat) (row.getD i 0))
def A3 (ls:List Int):List (List Int) → Nat → List Int → List Int
 | [],_,t => t
 | r :: rs,q,t => A3 ls rs (q + 1) (AT q r ls 0 (DB q 6 0 t))
def xC (al:Int) (rs:List (List Int)):List Int:=A3 (aB al) rs 0 (List.replicate (rs.length * 6) 0)
theorem EM:∀ (j q i:Nat) (t:List Int),(DB q j i t).length = t.length
 | 0,_,_,_ => rfl
 | j + 1,q,i,t => by simp [DB,EM j]
theorem U0:∀ (ls:List Int) (q i:Nat) (row t:List Int),(AT q row ls i t).length = t.length
 | [],_,_,_,_ => rfl
 | l :: ls,q,i,row,t => by simp [AT,U0 ls]
theorem WC:∀ (rs:List (List Int)) (ls:List Int) (q:Nat) (t:List Int),(A3 ls rs q t).length = t.length
 | [],_,_,_ => rfl
 | r :: rs,ls,q,t => by simp [A3,WC rs,U0,EM]
theorem qF (al:Int) (rs:List (List Int)):(xC al rs).length = rs.length * 6:=by simp [xC,WC]
theorem aGF {t:List Int} {k p:Nat} {v:Int}:(t.set k v).getD p 0 = if p = k ∧ k < t.length then v else t.getD p 0:=by
 simp only [List.getD_eq_getElem?_getD,List.getElem?_set]
 by_cases h:k = p
 ·subst h
  by_cases h2:k < t.length
  ·simp [h2]
  ·simp [h2]
 ·have h':¬ p = k:=fun e => h e.symm
  simp [h,h']
theorem aDB:∀ (j q i:Nat) (t:List Int) (p:Nat),q * 6 + i + j ≤ t.length → (DB q j i t).getD p 0 = if q * 6 + i ≤ p ∧ p < q * 6 + i + j then (q:Int) else t.getD p 0
 | 0,q,i,t,p,h => by
  simp only [DB]
  rw [if_neg (by omega)]
 | j + 1,q,i,t,p,h => by
  simp only [DB]
  rw [aDB j q (i + 1) _ p (by simp; omega),aGF]
  by_cases h1:q * 6 + (i + 1) ≤ p ∧ p < q * 6 + (i + 1) + j
  ·rw [if_pos h1,if_pos (by omega)]
  ·rw [if_neg h1]
   by_cases h2:p = q * 6 + i
   ·rw [if_pos ⟨h2,by omega⟩,if_pos (by omega)]
   ·rw [if_neg (by omega),if_neg (by omega)]
theorem C4:∀ (ls:List Int) (q i:Nat) (row t:List Int) (p:Nat),(∀ l ∈ ls,p ≠ q * 6 + l.toNat) → (AT q row ls i t).getD p 0 = t.getD p 0
 | [],_,_,_,_,_,_ => rfl
 | l :: ls,q,i,row,t,p,h => by
  simp only [AT]
  rw [C4 ls q (i + 1) row _ p fun m hm => h m (by simp [hm]),aGF,if_neg]
  intro hc
  exact h l (by simp) hc.1
theorem aEc:∀ (ls:List Int) (q i:Nat) (row t:List Int) (k:Nat) (l:Int),ls[k]? = some l → ls.Nodup → (∀ m ∈ ls,0 ≤ m) → q * 6 + l.toNat < t.length → (AT q row ls i t).getD (q * 6 + l.toNat) 0 = row.getD (i + k) 0
 | l' :: ls,q,i,row,t,0,l,h,hn,hp,hl => by
  simp only [List.getElem?_cons_zero,Option.some.injEq] at h
  subst h
  simp only [AT]
  rw [C4,aGF,if_pos ⟨rfl,hl⟩,Nat.add_zero]
  intro m hm hc
  have h1:m = l':=by
   have h2:=hp m (by simp [hm])
   have h3:=hp l' (by simp)
   omega
  subst h1
  exact (List.nodup_cons.1 hn).1 hm
 | l' :: ls,q,i,row,t,k + 1,l,h,hn,hp,hl => by
  simp only [AT]
  rw [aEc ls q (i + 1) row _ k l (by simpa using h) (List.nodup_cons.1 hn).2 (fun m hm => hp m (by simp [hm])) (by simpa using hl)]
  congr 1
  omega
theorem aPq {a:Int}:∀ m ∈ aB a,0 ≤ m:=fun m hm => (oO.1 hm).1.1
theorem aLZ {a:Int}:∀ (rs:List (List Int)) (q0:Nat) (t:List Int) (q l:Nat),l < 6 → (q0 + rs.length) * 6 ≤ t.length →
  (A3 (aB a) rs q0 t).getD (q * 6 + l) 0 = if q0 ≤ q ∧ q < q0 + rs.length then (if eB a l = true then (rs.getD (q - q0) []).getD (mM a l) 0 else (q:Int)) else t.getD (q * 6 + l) 0
 | [],q0,t,q,l,hl,ht => by
  simp only [A3]
  rw [if_neg (by simp only [List.length_nil]; omega)]
 | r :: rs,q0,t,q,l,hl,ht => by
  simp only [List.length_cons] at ht ⊢
  simp only [A3]
  rw [aLZ rs (q0 + 1) _ q l hl (by rw [U0,EM]; omega)]
  by_cases h1:q0 + 1 ≤ q ∧ q < q0 + 1 + rs.length
  ·rw [if_pos h1,if_pos (show q0 ≤ q ∧ q < q0 + (rs.length + 1) by omega)]
   obtain ⟨d,hd⟩:∃ d,q - q0 = d + 1:=⟨q - q0 - 1,by omega⟩
   rw [hd,List.getD_cons_succ,show q - (q0 + 1) = d by omega]
  ·rw [if_neg h1]
   by_cases h2:q = q0
   ·subst h2
    rw [if_pos (show q ≤ q ∧ q < q + (rs.length + 1) by omega),Nat.sub_self,List.getD_cons_zero]
    by_cases hb:eB a l = true
    ·rw [if_pos hb]
     have hp:=E1 (a:=a) (l:=l) (by omega) (by omega) hb
     have hg:=aEc (aB a) q 0 r (DB q 6 0 t) (mM a l) l hp.2 (aBs a) aPq (by rw [EM]; simp; omega)
     rw [Int.toNat_natCast] at hg
     rw [hg,Nat.zero_add]
    ·rw [if_neg hb,C4,aDB _ _ _ _ _ (by omega),if_pos (by omega)]
     intro m hm hc
     have hm2:=oO.1 hm
     have:m = l:=by omega
     subst this
     exact hb hm2.2
   ·rw [if_neg (show ¬ (q0 ≤ q ∧ q < q0 + (rs.length + 1)) by omega),C4,aDB _ _ _ _ _ (by omega),if_neg (by omega)]
    intro m hm hc
    have hm2:=oO.1 hm
    omega
theorem aR4 {al:Int} {rs:List (List Int)} {q l:Int} (h0:0 ≤ q) (h1:q < rs.length) (h2:0 ≤ l) (h3:l < 6):(xC al rs).getD (q.toNat * 6 + l.toNat) 0 = goI al rs q l:=by
 unfold xC goI
 rw [aLZ rs 0 _ q.toNat l.toNat (by omega) (by simp)]
 rw [if_pos (by omega),Nat.sub_zero,show ((l.toNat:Nat):Int) = l by omega,show ((q.toNat:Nat):Int) = q by omega]
theorem aEM {al:Int} {rs:List (List Int)} {q l:Int} (h0:0 ≤ q) (h1:q < rs.length) (h2:0 ≤ l) (h3:l < 6):((((ints (xC al rs)).drop (q.toNat * 6)).drop l.toNat).map A.d).head? = some (nI (goI al rs q l)):=by
 rw [List.drop_drop,aEo (by rw [qF]; omega),aR4 h0 h1 h2 h3]
theorem u_t6:env.P.underlying 111 = some (.slice 113):=kr
theorem u_a6:env.P.underlying 113 = some (.array 6 3):=kr
theorem c_a6:env.P.cellsOf 113 = 6:=kr
theorem aLh:∀ n:Nat,(List.replicate n [D.int .i64 0,.int .i64 0,.int .i64 0,.int .i64 0,.int .i64 0,.int .i64 0]).flatten = ints (List.replicate (n * 6) 0)
 | 0 => rfl
 | n + 1 => by
  rw [List.replicate_succ,List.flatten_cons,aLh n,Nat.succ_mul]
  simp [ints,List.replicate_succ]
theorem aZC {n:Int} {h:H} (h0:0 ≤ n) (h1:n ≤ 4294967296):kP env.P h 111 n n = some (.sl h.length 0 0 n.toNat,h ++ [.arr (ints (List.replicate (n.toNat * 6) 0)) 6 0]):=by
 have hm:n ≤ (cA:Nat):=by unfold cA; omega
 have he:bP env.P 111 = some 113:=kr
 have hz:bW env.P 113 = some (.agg [nI 0,nI 0,nI 0,nI 0,nI 0,nI 0]):=kr
 have hok:bU env.P 113 = true:=kr
 simp only [kP,he,hz,a6,z7,Option.map_some,hok,h0,hm,c_a6,Int.le_refl,and_self,if_true,aLh]
theorem oE (hn:1 ≤ n) {al q:Int} {rs:List (List Int)} (hs:bH rs) {r:List Int} (hq0:0 ≤ q) (hq1:q < rs.length) {k:KE R}:∀ (j:Nat) (i:Int) (m:Nat) (t:List Int) (len:Nat) (h0:0 ≤ i) (hi:i + j = 6) (hm:j < m) (ht:t.length = rs.length * 6) (hlen:len = rs.length),
  aF env (aA env L n) L 0 [] Bz3 (gJ 1) (U2 (Z4 (Z1 (U8 (U2 (U1 (Z2 (Z1 (U4 (Z1 (U16 (U8 (U4 ([])))))))))))))) m (Y2 (.d .nils :: .sl 0 0 0 len :: .d (.ivs (aB al).length (ints (aB al))) :: nI q :: .d (.ivs r.length (ints r)) :: Y8 (Y2 (Y1 (.d (.ivs rs.length (rowsD rs)) :: nI (rs.length) :: nI q :: Y4 (nI i :: Y16 (Y8 (Y4 ([]))))))))) [.arr (ints t) 6 0] k
  = k (.exit 2) (Y2 (.d .nils :: .sl 0 0 0 rs.length :: .d (.ivs (aB al).length (ints (aB al))) :: nI q :: .d (.ivs r.length (ints r)) :: Y8 (Y2 (Y1 (.d (.ivs rs.length (rowsD rs)) :: nI (rs.length) :: nI q :: Y4 (nI 6 :: Y16 (Y8 (Y4 ([]))))))))) [.arr (ints (DB q.toNat j i.toNat t)) 6 0]:=by
 intro j
 have hrl:=hs.1
 induction j with
 | zero =>
  intro i m t len h0 hi hm ht hlen
  obtain _ | m:=m; omega
  obtain rfl:i = 6:=by omega
  simp -implicitDefEqProofs (maxSteps:=2000000) (disch:=try exact Dz) only [↓DN,↓kAsg,↓kRet,UP,simprocAttr,↓bE,LA,Int.lt_irrefl,hlen,S8,OD,Tryz.f117]
  rfl
 | succ j ih =>
  intro i m t len h0 hi hm ht hlen
  obtain _ | m:=m; omega
  subst hlen
  have hc:i < 6:=by omega
  have hk:q.toNat * 6 + i.toNat < t.length:=by omega
  have e1:(i + 1).toNat = i.toNat + 1:=by omega
  have e2:((q.toNat:Nat):Int) = q:=by omega
  simp -implicitDefEqProofs (maxSteps:=2000000) (disch:=try exact Dz) only [↓DN,↓kAsg,↓kRet,UP,simprocAttr,↓bE,LA,hc,hq1,u_t6,u_a6,c_a6,U7,jJ,↓KN,↓ih,S8,OD,Tryz.f117]
  rw [e1]
  simp only [DB,e2]
theorem aPF {t:List Int} {k:Nat} {v:Int} (h:k < t.length):List.take k (ints t) ++ [.int .i64 v] ++ List.drop (k + 1) (ints t) = ints (t.set k v):=aGX h
theorem aNh {a:Int} {i:Nat} (h:i < (aB a).length):(aB a).drop i = (aB a).getD i 0 :: (aB a).drop (i + 1):=dC h
theorem wO (hn:1 ≤ n) {al q:Int} {rs:List (List Int)} (hs:bH rs) {r:List Int} (hr:r.length ≤ 4294967296) (hrl2:(aB al).length ≤ r.length) (hq0:0 ≤ q) (hq1:q < rs.length) {k:KE R}:∀ (j:Nat) (i:Int) (m:Nat) (t:List Int) (len:Nat) (h0:0 ≤ i) (hi:i + j = (aB al).length) (hm:j < m) (ht:t.length = rs.length * 6) (hlen:len = rs.length),
  aF env (aA env L n) L 0 [] Bz3 (gJ 2) (U2 (Z4 (Z1 (U8 (U2 (U1 (Z2 (Z1 (U4 (Z1 (U8 (U1 (Z2 (Z1 (U16 ([])))))))))))))))) m (Y2 (.d .nils :: .sl 0 0 0 len :: .d (.ivs (aB al).length (ints (aB al))) :: nI q :: .d (.ivs r.length (ints r)) :: Y8 (Y2 (Y1 (.d (.ivs rs.length (rowsD rs)) :: nI (rs.length) :: nI q :: Y4 (nI 6 :: Y8 (Y1 (.d (.ivs (aB al).length (ints (aB al))) :: nI ((aB al).length) :: nI i :: Y16 ([]))))))))) [.arr (ints t) 6 0] k
  = k (.exit 4) (Y2 (.d .nils :: .sl 0 0 0 rs.length :: .d (.ivs (aB al).length (ints (aB al))) :: nI q :: .d (.ivs r.length (ints r)) :: Y8 (Y2 (Y1 (.d (.ivs rs.length (rowsD rs)) :: nI (rs.length) :: nI q :: Y4 (nI 6 :: Y8 (Y1 (.d (.ivs (aB al).length (ints (aB al))) :: nI ((aB al).length) :: nI ((aB al).length) :: Y16 ([]))))))))) [.arr (ints (AT q.toNat r ((aB al).drop i.toNat) i.toNat t)) 6 0]:=by
 intro j
 have hrl:=hs.1
 have hll:=eF al
 induction j with
 | zero =>
  intro i m t len h0 hi hm ht hlen
  obtain _ | m:=m; omega
  obtain rfl:i = (aB al).length:=by omega
  simp -implicitDefEqProofs (maxSteps:=2000000) (disch:=try exact Dz) only [↓DN,↓kAsg,↓kRet,UP,simprocAttr,↓bE,↓oE,LA,Int.lt_irrefl,hlen,TI,N3,Tryz.f117]
  simp only [Int.toNat_natCast,List.drop_length,AT]
 | succ j ih =>
  intro i m t len h0 hi hm ht hlen
  obtain _ | m:=m; omega
  subst hlen
  have hc:i < (aB al).length:=by omega
  have hk1:i.toNat < (aB al).length:=by omega
  have hk2:i.toNat < r.length:=by omega
  have hv:=aWD eD hk1
  have hv6:(aB al).getD i.toNat 0 < 6:=by omega
  have hv0:=hv.1
  have hk:q.toNat * 6 + ((aB al).getD i.toNat 0).toNat < t.length:=by omega
  have e1:(i + 1).toNat = i.toNat + 1:=by omega
  simp -implicitDefEqProofs (maxSteps:=2000000) (disch:=try exact Dz) only [↓DN,↓kAsg,↓kRet,UP,simprocAttr,↓bE,↓oE,LA,hc,hq1,dP,u_t6,u_a6,c_a6,U7,jJ,↓KN,aPF,↓ih,TI,N3,Tryz.f117]
  rw [aNh hk1,e1]
  simp only [AT]
def D4 (w:Nat) (rs:List (List Int)):Prop:=∀ r ∈ rs,r.length = w
theorem aJ9 {w:Nat} {rs:List (List Int)} (h:D4 w rs) {k:Nat} (hk:k < rs.length):(rs.getD k []).length = w:=by
 rw [List.getD_eq_getElem?_getD,List.getElem?_eq_getElem hk]
 exact h _ (List.getElem_mem hk)
theorem RA (hL:2 ^ 60 ≤ L) (hn:1 ≤ n) {al:Int} {rs:List (List Int)} (hs:bH rs) (hw:D4 (aB al).length rs) {k:KE R}:∀ (j:Nat) (i:Int) (m:Nat) (t:List Int) (len:Nat) (h0:0 ≤ i) (hi:i + j = rs.length) (hm:j < m) (ht:t.length = rs.length * 6) (hlen:len = rs.length),
  aF env (aA env L n) L 0 [] Bz3 (gJ 0) (U2 (Z2 (Z1 (U8 (U4 (U1 (Z2 (Z1 (U32 (U1 ([]))))))))))) m (Y2 (.d .nils :: .sl 0 0 0 len :: .d (.ivs (aB al).length (ints (aB al))) :: Y8 (Y4 (Y1 (.d (.ivs rs.length (rowsD rs)) :: nI (rs.length) :: nI i :: Y32 (Y1 ([]))))))) [.arr (ints t) 6 0] k
  = k (.exit 0) (Y2 (.d .nils :: .sl 0 0 0 rs.length :: .d (.ivs (aB al).length (ints (aB al))) :: Y8 (Y4 (Y1 (.d (.ivs rs.length (rowsD rs)) :: nI (rs.length) :: nI (rs.length) :: Y32 (Y1 ([]))))))) [.arr (ints (A3 (aB al) (rs.drop i.toNat) i.toNat t)) 6 0]:=by
 intro j
 have hrl:=hs.1
 have hll:=eF al
 induction j with
 | zero =>
  intro i m t len h0 hi hm ht hlen
  obtain _ | m:=m; omega
  obtain rfl:i = rs.length:=by omega
  simp -implicitDefEqProofs (maxSteps:=2000000) (disch:=try exact Dz) only [↓DN,↓kAsg,↓kRet,UP,simprocAttr,↓bE,↓oE,↓wO,LA,Int.lt_irrefl,hlen,T1,NY,Tryz.f117]
  simp only [Int.toNat_natCast,List.drop_length,A3]
 | succ j ih =>
  intro i m t len h0 hi hm ht hlen
  obtain _ | m:=m; omega
  subst hlen
  have hc:i < rs.length:=by omega
  have hk:i.toNat < rs.length:=by omega
  have hrow:=KD hs hk
  have hrw:=aJ9 hw hk
  have e1:(i + 1).toNat = i.toNat + 1:=by omega
  have loop_a1:=fun {R:Type} {k:KE R} => oE (R:=R) (L:=L) (n:=n) hn (al:=al) (q:=i) (r:=rs.getD i.toNat []) hs h0 hc (k:=k) 6 0 L t rs.length (by omega) (by omega) (by omega) ht rfl
  have loop_a2:=fun {R:Type} {k:KE R} => wO (R:=R) (L:=L) (n:=n) hn (al:=al) (q:=i) hs (r:=rs.getD i.toNat []) hrow (by omega) h0 hc (k:=k) (aB al).length 0 L (DB i.toNat 6 0 t) rs.length (by omega) (by omega) (by omega) (by rw [EM]; exact ht) rfl
  simp only [Int.toNat_zero,List.drop_zero] at loop_a1 loop_a2
  have ht2:(AT i.toNat (rs.getD i.toNat []) (aB al) 0 (DB i.toNat 6 0 t)).length = rs.length * 6:=by rw [U0,EM]; exact ht
  clear hrw
  simp -implicitDefEqProofs (maxSteps:=2000000) (disch:=try exact Dz) only [↓DN,↓kAsg,↓kRet,UP,simprocAttr,↓bE,↓oE,↓wO,LA,hc,dP,k8,lS,↓loop_a1,↓loop_a2,↓ih,T1,NY,Tryz.f117]
  rw [dC hk (d:=[]),e1]
  simp only [A3]
theorem aEb (hn:3 ≤ n) (al:Int) (rs:List (List Int)) (z:Nat) (cs:List D) (hs:bH rs) (hw:D4 (aB al).length rs) (hL:2 ^ 60 ≤ L):aA env L n 117 [.agg [nI al,.d (.ivs rs.length (rowsD rs)),.d (.ivs z cs)]] [] = some (.d (.ivs rs.length (ints (xC al rs))),[]):=by
 have hrl:=hs.1
 have loop_a:=fun {R:Type} {n:Nat} (hn:1 ≤ n) {k:KE R} => RA (R:=R) (L:=L) (n:=n) hL hn (al:=al) hs hw (k:=k) rs.length 0 L (List.replicate (rs.length * 6) 0) rs.length (by omega) (by omega) (by omega) (by simp) rfl
 simp only [Int.toNat_zero,List.drop_zero] at loop_a
 have htl:(xC al rs).length = rs.length * 6:=qF al rs
 have htl2:rs.length * 6 ≤ (A3 (aB al) rs 0 (List.replicate (rs.length * 6) 0)).length:=by rw [WC]; simp
 have htk:(ints (A3 (aB al) rs 0 (List.replicate (rs.length * 6) 0))).take (rs.length * 6) = ints (A3 (aB al) rs 0 (List.replicate (rs.length * 6) 0)):=cC (by rw [WC]; simp)
 unfold xC
 obtain _ | n:=n; omega
 simp -implicitDefEqProofs (maxSteps:=2000000) (disch:=try exact Dz) only [↓DN,↓kAsg,↓kRet,UP,simprocAttr,↓bE,↓RA,↓oE,↓wO,LA,dP,k8,lS,u_t6,u_a6,c_a6,↓aZC,↓loop_a,htk,dS,htl2,aNX,aFm,Tryz.f117]
theorem rB:type_of% fun {L} al rs z cs hs hw hL => ks fun hn => @aEb L _ hn al rs z cs hs hw hL:=fun {L} al rs z cs hs hw hL => ks fun hn => @aEb L _ hn al rs z cs hs hw hL
end
section
variable {R:Type} {L n:Nat}
def cntB (a:Int):Nat → Int → Nat
 | 0,_ => 0
 | j + 1,i => (if eB a i = true then 1 else 0) + cntB a j (i + 1)
theorem aQ3 {a l:Int} (h0:0 ≤ l) (h1:l < 6):cntB a l.toNat 0 = mM a l:=by
 unfold mM aB
 generalize hp:eB a = p
 have e:∀ i,eB a i = p i:=fun i => by rw [hp]
 rcases six h0 h1 with rfl | rfl | rfl | rfl | rfl | rfl <;>
  simp only [cntB,e,show (0:Int).toNat = 0 from rfl,show (1:Int).toNat = 1 from rfl,show (2:Int).toNat = 2 from rfl,show (3:Int).toNat = 3 from rfl,show (4:Int).toNat = 4 from rfl,show (5:Int).toNat = 5 from rfl,Int.zero_add,Int.reduceAdd] <;>
  cases h0':p 0 <;> cases h1':p 1 <;> cases h2':p 2 <;> cases h3':p 3 <;> cases h4':p 4 <;> cases h5':p 5 <;> simp_all [List.filter]
theorem XV (hn:1 ≤ n) {a l:Int} (hl:l < 6) {k:KE R}:∀ (j:Nat) (i c:Int) (m:Nat) (h0:0 ≤ i) (hi:i + j = l) (hm:j < m) (hc0:0 ≤ c) (hc1:c ≤ i),
  aF env (aA env L n) L 0 [] Bz44 (AB 0) (Z2 (U2 (Z2 (Z1 (U8 (U2 (U1 ([])))))))) m (nI a :: nI l :: Y2 (nI 0 :: nI c :: nI i :: Y8 (Y2 (Y1 ([]))))) [] k
  = k (.exit 0) (nI a :: nI l :: Y2 (nI 0 :: nI (c + cntB a j i) :: nI l :: Y8 (Y2 (Y1 ([]))))) []:=by
 intro j
 induction j with
 | zero =>
  intro i c m h0 hi hm hc0 hc1
  obtain _ | m:=m; omega
  obtain rfl:i = l:=by omega
  simp -implicitDefEqProofs (maxSteps:=2000000) (disch:=try exact Dz) only [↓DN,↓kAsg,↓kRet,UP,simprocAttr,↓mK,Int.lt_irrefl,DT,DC,Tryz.f179]
  simp only [cntB,Int.natCast_zero,Int.add_zero]
 | succ j ih =>
  intro i c m h0 hi hm hc0 hc1
  obtain _ | m:=m; omega
  have hc:i < l:=by omega
  cases hb:eB a i with
  | true =>
   have e:c + 1 + (cntB a j (i + 1):Int) = c + cntB a (j + 1) i:=by simp only [cntB,hb,if_true]; omega
   simp -implicitDefEqProofs (maxSteps:=2000000) (disch:=try exact Dz) only [↓DN,↓kAsg,↓kRet,UP,simprocAttr,↓mK,hc,hb,↓ih,DT,DC,Tryz.f179]
   rw [e]
  | false =>
   have e:c + (cntB a j (i + 1):Int) = c + cntB a (j + 1) i:=by simp only [cntB,hb,Bool.false_eq_true,if_false]; omega
   simp -implicitDefEqProofs (maxSteps:=2000000) (disch:=try exact Dz) only [↓DN,↓kAsg,↓kRet,UP,simprocAttr,↓mK,hc,hb,↓ih,DT,DC,Tryz.f179]
   rw [e]
theorem aDI (hn:2 ≤ n) (a l:Int) (h0:0 ≤ l) (h1:l < 6) (hL:2 ^ 60 ≤ L):aA env L n 179 [nI a,nI l] [] = some (nI (mM a l),[]):=by
 have loop_a:=fun {R:Type} {n:Nat} (hn:1 ≤ n) {k:KE R} => XV (R:=R) (L:=L) hn (a:=a) h1 (k:=k) l.toNat 0 0 L (by omega) (by omega) (by omega) (by omega) (by omega)
 rw [aQ3 h0 h1] at loop_a
 obtain _ | n:=n; omega
 simp -implicitDefEqProofs (maxSteps:=2000000) (disch:=try exact Dz) only [↓DN,↓kAsg,↓kRet,UP,simprocAttr,↓mK,↓XV,↓loop_a,Int.zero_add,aPg,aFN,Tryz.f179]
theorem aD3:type_of% fun {L} a l h0 h1 hL => ks fun hn => @aDI L _ hn a l h0 h1 hL:=fun {L} a l h0 h1 hL => ks fun hn => @aDI L _ hn a l h0 h1 hL
theorem aZU {al q l:Int} {rs:List (List Int)} (h:eB al l = false):goI al rs q l = q:=by
 unfold goI; rw [h]; rfl
theorem aEC {al q l:Int} {rs:List (List Int)} (h:eB al l = true):goI al rs q l = (rs.getD q.toNat []).getD (mM al l) 0:=by
 unfold goI; rw [if_pos h]
theorem V7 (hn:3 ≤ n) (al q l:Int) (rs:List (List Int)) (z:Nat) (cs:List D) (hs:bH rs) (hw:D4 (aB al).length rs) (hq0:0 ≤ q) (hq1:q < rs.length) (h0:0 ≤ l) (h1:l < 6) (hL:2 ^ 60 ≤ L):aA env L n 163 [.agg [nI al,.d (.ivs rs.length (rowsD rs)),.d (.ivs z cs)],nI q,nI l] [] = some (nI (goI al rs q l),[]):=by
 have hrl:=hs.1
 have hk:q.toNat < rs.length:=by omega
 have hrow:=KD hs hk
 have hrw:=aJ9 hw hk
 cases hb:eB al l with
 | false =>
  rw [aZU hb]
  clear hrw
  obtain _ | n:=n; omega
  simp -implicitDefEqProofs (maxSteps:=2000000) (disch:=try exact Dz) only [↓DN,↓kAsg,↓kRet,UP,simprocAttr,↓mK,↓aD3,LA,hb,aMD,aHu,Tryz.f163]
 | true =>
  rw [aEC hb]
  have hp:=(E1 h0 h1 hb).1
  have hp2:mM al l < (rs.getD q.toNat []).length:=by omega
  have hp3:(mM al l:Int) < (rs.getD q.toNat []).length:=by omega
  have hp4:((mM al l:Nat):Int).toNat = mM al l:=Int.toNat_natCast _
  clear hrw hp
  obtain _ | n:=n; omega
  simp -implicitDefEqProofs (maxSteps:=2000000) (disch:=try exact Dz) only [↓DN,↓kAsg,↓kRet,UP,simprocAttr,↓mK,↓aD3,LA,hb,dP,k8,lS,jJ,hp4,aMD,aHu,Tryz.f163]
theorem UC:type_of% fun {L} al q l rs z cs hs hw hq0 hq1 h0 h1 hL => ks fun hn => @V7 L _ hn al q l rs z cs hs hw hq0 hq1 h0 h1 hL:=fun {L} al q l rs z cs hs hw hq0 hq1 h0 h1 hL => ks fun hn => @V7 L _ hn al q l rs z cs hs hw hq0 hq1 h0 h1 hL
theorem VJ:type_of% fun {L} al q l rs z cs hs hw hq0 hq1 h0 h1 hL => kt fun hn => @V7 L _ hn al q l rs z cs hs hw hq0 hq1 h0 h1 hL:=fun {L} al q l rs z cs hs hw hq0 hq1 h0 h1 hL => kt fun hn => @V7 L _ hn al q l rs z cs hs hw hq0 hq1 h0 h1 hL
theorem LX {L:Nat} {id0 g0 o0 len0:Nat} {al q l:Int} {z:Nat} {cs:List D}:KV L 163 [.agg [nI al,.sl id0 g0 o0 len0,.d (.ivs z cs)],nI q,nI l]:=fun _ _ _ _ => aC CB
theorem L1 {L:Nat} {id1 g1 o1 len1:Nat} {al q l:Int} {rs:List (List Int)}:KV L 163 [.agg [nI al,.d (.ivs rs.length (rowsD rs)),.sl id1 g1 o1 len1],nI q,nI l]:=fun _ _ _ _ => aC CB
theorem L4 {L:Nat} {id1 g1 o1 len1:Nat} {id0 g0 o0 len0:Nat} {al q l:Int}:KV L 163 [.agg [nI al,.sl id0 g0 o0 len0,.sl id1 g1 o1 len1],nI q,nI l]:=fun _ _ _ _ => aC CB
theorem aDS {l:List (List Int)} {r:List Int} {z:Nat} (h:z = r.length):rowsD l ++ [.ivs z (ints r)] = rowsD (l ++ [r]):=by
 subst h
 simp [rowsD,rowD]
theorem aLw:rowsD [] = []:=rfl
theorem aTZ:bools [] = []:=rfl
end
section
def VC (mvs:List (List Int)) (dist:List Int) (d:Int):Bool:=mvs.any fun r => r.any fun m => decide (dist.getD m.toNat 0 = d)
def fP (tab:List (List (List Int))) (d:Int):Nat → Nat → List Int × Bool → List Int × Bool
 | 0,_,q => q
 | j + 1,i,q => if q.1.getD i 0 < 0 ∧ VC (tab.getD i []) q.1 (d - 1) = true then fP tab d j (i + 1) (q.1.set i d,true) else fP tab d j (i + 1) q
def fK (tab:List (List (List Int))):Nat → Int → List Int → List Int
 | 0,_,dist => dist
 | j + 1,d,dist => if (fP tab d dist.length 0 (dist,false)).2 = true then fK tab j (d + 1) (fP tab d dist.length 0 (dist,false)).1 else (fP tab d dist.length 0 (dist,false)).1
def addC (dist:List Int) (d:Int):List Int → List Int → List Int
 | [],out => out
 | m :: ms,out => if dist.getD m.toNat 0 = d ∧ m ∉ out then addC dist d ms (out ++ [m]) else addC dist d ms out
def bS (tab:List (List (List Int))) (dist:List Int) (k:Nat) (d:Int):List Int → List Int → List Int
 | [],out => out
 | v :: vs,out => bS tab dist k d vs (addC dist d ((tab.getD v.toNat []).getD k []) out)
def aAI (tab:List (List (List Int))) (dist:List Int) (at_:List Int) (d:Int):Nat → Nat → Nat × List Int
 | 0,k => (k,[])
 | j + 1,k => if bS tab dist k d at_ [] = [] then aAI tab dist at_ d j (k + 1) else (k,bS tab dist k d at_ [])
def uN (tab:List (List (List Int))) (dist:List Int) (ls:List Int):Nat → List Int → List Int
 | 0,_ => []
 | d + 1,at_ => ls.getD (aAI tab dist at_ d (ls.length + 1) 0).1 0 :: uN tab dist ls d (aAI tab dist at_ d (ls.length + 1) 0).2
def aI2 (tab:List (List (List Int))) (ls:List Int) (dist:List Int) (s:Int):List Int × Bool :=
 if dist.getD s.toNat 0 < 0 then ([],false) else (uN tab dist ls (dist.getD s.toNat 0).toNat [s],true)
section
variable {nx:Int → Int → List Int} {gl:Int → Bool} {ls:List Int} {aL:Nat} {tab:List (List (List Int))}
def Away (nx:Int → Int → List Int) (ls:List Int) (gl:Int → Bool) (v:Int) (d:Nat):Prop:=∃ w g,w.length = d ∧ Path nx ls v w g ∧ gl g = true
def Far (nx:Int → Int → List Int) (ls:List Int) (gl:Int → Bool) (v:Int) (d:Nat):Prop:=Away nx ls gl v d ∧ ∀ e,e < d → ¬ Away nx ls gl v e
theorem aDU {v:Int}:Away nx ls gl v 0 ↔ gl v = true:=by
 constructor
 ·rintro ⟨w,g,h1,h2,h3⟩
  have:w = []:=List.length_eq_zero_iff.1 h1
  subst this
  rw [show v = g from h2]; exact h3
 ·intro h; exact ⟨[],v,rfl,rfl,h⟩
theorem VN {v:Int} {d:Nat}:Away nx ls gl v (d + 1) ↔ ∃ l ∈ ls,∃ m ∈ nx v l,Away nx ls gl m d:=by
 constructor
 ·rintro ⟨w,g,h1,h2,h3⟩
  cases w with
  | nil => simp at h1
  | cons l w =>
   obtain ⟨hl,m,hm,hp⟩:=h2
   exact ⟨l,hl,m,hm,w,g,by simpa using h1,hp,h3⟩
 ·rintro ⟨l,hl,m,hm,w,g,h1,h2,h3⟩
  exact ⟨l :: w,g,by simp [h1],⟨hl,m,hm,h2⟩,h3⟩
theorem QM {v:Int} {d e:Nat} (h:Far nx ls gl v d) (k:Far nx ls gl v e):d = e:=by
 rcases Nat.lt_trichotomy d e with h1 | h1 | h1
 ·exact (k.2 d h1 h.1).elim
 ·exact h1
 ·exact (h.2 e h1 k.1).elim
theorem aWG {v:Int}:∀ {d:Nat},Away nx ls gl v d → ∃ e,e ≤ d ∧ Far nx ls gl v e:=by
 intro d
 induction d using Nat.strongRecOn with
 | _ d ih =>
  intro h
  by_cases hd:∃ e,e < d ∧ Away nx ls gl v e
  ·obtain ⟨e,h1,h2⟩:=hd
   obtain ⟨f,h3,h4⟩:=ih e h1 h2
   exact ⟨f,by omega,h4⟩
  ·exact ⟨d,Nat.le_refl _,h,fun e he ha => hd ⟨e,he,ha⟩⟩
theorem aA2 {v:Int} {d:Nat} (h:Far nx ls gl v (d + 1)):∃ l ∈ ls,∃ m ∈ nx v l,Far nx ls gl m d:=by
 obtain ⟨l,hl,m,hm,ha⟩:=VN.1 h.1
 refine ⟨l,hl,m,hm,ha,fun e he h2 => ?_⟩
 exact h.2 (e + 1) (by omega) (VN.2 ⟨l,hl,m,hm,h2⟩)
structure Tab (nx:Int → Int → List Int) (ls:List Int) (aL:Nat) (tab:List (List (List Int))):Prop where
 len:tab.length = aL
 row:∀ v:Nat,v < aL → tab.getD v [] = ls.map (nx v)
 rng:∀ v c:Int,0 ≤ v → v < aL → c ∈ ls → ∀ m ∈ nx v c,0 ≤ m ∧ m < aL
def aJQ (nx:Int → Int → List Int) (ls:List Int) (gl:Int → Bool) (aL:Nat) (dist:List Int) (d:Nat):Prop :=
 dist.length = aL ∧ ∀ i:Nat,i < aL → (∃ k:Nat,k ≤ d ∧ dist.getD i 0 = k ∧ Far nx ls gl i k) ∨ (dist.getD i 0 = -1 ∧ ∀ e,e ≤ d → ¬ Away nx ls gl i e)
theorem aDT {dist:List Int} {d:Nat} (h:aJQ nx ls gl aL dist d) {v:Int} {k:Nat} (h0:0 ≤ v) (h1:v < aL) (hk:k ≤ d):dist.getD v.toNat 0 = k ↔ Far nx ls gl v k:=by
 have hv:((v.toNat:Nat):Int) = v:=by omega
 rcases h.2 v.toNat (by omega) with ⟨e,h2,h3,h4⟩ | ⟨h3,h4⟩
 ·rw [hv] at h4
  constructor
  ·intro h5
   have:e = k:=by omega
   rw [← this]; exact h4
  ·intro h5
   rw [h3,QM h4 h5]
 ·rw [hv] at h4
  constructor
  ·intro h5; omega
  ·intro h5; exact (h4 k hk h5.1).elim
theorem aWY (ht:Tab nx ls aL tab) {dist old:List Int} {d:Nat} (hk:aJQ nx ls gl aL old d) {v:Nat} (hv:v < aL) (hs:∀ i:Nat,i < aL → (dist.getD i 0 = d ↔ old.getD i 0 = d)) :
  VC (tab.getD v []) dist d = true ↔ ∃ l ∈ ls,∃ m ∈ nx v l,Far nx ls gl m d:=by
 unfold VC
 rw [ht.row v hv]
 simp only [List.any_map,List.any_eq_true,Function.comp,decide_eq_true_eq]
 constructor
 ·rintro ⟨l,hl,m,hm,h⟩
  have hr:=ht.rng v l (by omega) (by omega) hl m hm
  rw [hs m.toNat (by omega)] at h
  exact ⟨l,hl,m,hm,(aDT hk hr.1 hr.2 (Nat.le_refl _)).1 h⟩
 ·rintro ⟨l,hl,m,hm,h⟩
  have hr:=ht.rng v l (by omega) (by omega) hl m hm
  refine ⟨l,hl,m,hm,?_⟩
  rw [hs m.toNat (by omega)]
  exact (aDT hk hr.1 hr.2 (Nat.le_refl _)).2 h
theorem aMp {α:Type} {l:List α} {i j:Nat} {x d:α} (h:i < l.length):(l.set i x).getD j d = if i = j then x else l.getD j d:=by
 rw [List.getD_eq_getElem?_getD,List.getElem?_set,List.getD_eq_getElem?_getD]
 by_cases hij:i = j
 ·subst hij; simp [h]
 ·simp [hij]
open Classical in
theorem a0j (ht:Tab nx ls aL tab) {old:List Int} {d:Nat} (hk:aJQ nx ls gl aL old d):∀ (j i:Nat) (q:List Int × Bool),i + j = aL → q.1.length = aL → (∀ x:Nat,x < aL → q.1.getD x 0 = if x < i ∧ Far nx ls gl x (d + 1) then ((d + 1:Nat):Int) else old.getD x 0) → (q.2 = true ↔ ∃ x:Nat,x < i ∧ Far nx ls gl x (d + 1)) →
  (fP tab ((d + 1:Nat):Int) j i q).1.length = aL ∧ (∀ x:Nat,x < aL → (fP tab ((d + 1:Nat):Int) j i q).1.getD x 0 = if Far nx ls gl x (d + 1) then ((d + 1:Nat):Int) else old.getD x 0) ∧ ((fP tab ((d + 1:Nat):Int) j i q).2 = true ↔ ∃ x:Nat,x < aL ∧ Far nx ls gl x (d + 1)):=by
 intro j
 induction j with
 | zero =>
  intro i q hi hl hq hb
  obtain rfl:i = aL:=by omega
  refine ⟨hl,fun x hx => ?_,hb⟩
  have:=hq x hx
  simp only [hx,true_and] at this
  exact this
 | succ j ih =>
  intro i q hi hl hq hb
  have hit:i < aL:=by omega
  have e1:((d + 1:Nat):Int) - 1 = (d:Int):=by omega
  have hqi:q.1.getD i 0 = old.getD i 0:=by
   rw [hq i hit,if_neg (by omega)]
  have hnear:=aWY ht hk hit (dist:=q.1) fun x hx => by
   rw [hq x hx]
   split
   ·rename_i h
    constructor
    ·intro h2; omega
    ·intro h2
     have:=(aDT hk (v:=(x:Int)) (by omega) (by omega) (Nat.le_refl d)).1 (by simpa using h2)
     have:=QM h.2 this
     omega
   ·exact Iff.rfl
  have hfar:(q.1.getD i 0 < 0 ∧ VC (tab.getD i []) q.1 (((d + 1:Nat):Int) - 1) = true) ↔ Far nx ls gl i (d + 1):=by
   rw [e1,hnear,hqi]
   constructor
   ·rintro ⟨h1,l,hl,m,hm,h2⟩
    rcases hk.2 i hit with ⟨k,_,h3,_⟩ | ⟨_,h4⟩
    ·omega
    ·exact ⟨VN.2 ⟨l,hl,m,hm,h2.1⟩,fun e he => h4 e (by omega)⟩
   ·intro h
    refine ⟨?_,aA2 h⟩
    rcases hk.2 i hit with ⟨k,h2,h3,h4⟩ | ⟨h3,_⟩
    ·have:=QM h h4
     omega
    ·omega
  unfold fP
  by_cases hc:Far nx ls gl i (d + 1)
  ·rw [if_pos (hfar.2 hc)]
   refine ih (i + 1) _ (by omega) (by simpa using hl) (fun x hx => ?_) ?_
   ·simp only
    rw [aMp (by omega)]
    by_cases hix:i = x
    ·subst hix
     rw [if_pos rfl,if_pos ⟨by omega,hc⟩]
    ·rw [if_neg hix,hq x hx]
     by_cases hxi:x < i
     ·simp only [hxi,show x < i + 1 by omega,true_and]
     ·simp only [hxi,show ¬ x < i + 1 by omega,false_and,if_false]
   ·simp only [true_iff]
    exact ⟨i,by omega,hc⟩
  ·rw [if_neg (fun h => hc (hfar.1 h))]
   refine ih (i + 1) q (by omega) hl (fun x hx => ?_) ?_
   ·rw [hq x hx]
    by_cases hix:i = x
    ·subst hix
     simp only [hc,and_false,if_false]
    ·by_cases hxi:x < i
     ·simp only [hxi,show x < i + 1 by omega,true_and]
     ·simp only [hxi,show ¬ x < i + 1 by omega,false_and,if_false]
   ·rw [hb]
    constructor
    ·rintro ⟨x,h1,h2⟩; exact ⟨x,by omega,h2⟩
    ·rintro ⟨x,h1,h2⟩
     by_cases hix:x = i
     ·subst hix; exact (hc h2).elim
     ·exact ⟨x,by omega,h2⟩
def Full (nx:Int → Int → List Int) (ls:List Int) (gl:Int → Bool) (aL:Nat) (dist:List Int):Prop :=
 dist.length = aL ∧ ∀ i:Nat,i < aL → (∃ k:Nat,dist.getD i 0 = k ∧ Far nx ls gl i k) ∨ (dist.getD i 0 = -1 ∧ ∀ e,¬ Away nx ls gl i e)
theorem aB0:∀ {l:List Int} {i:Nat} {x:Int},l.getD i 0 < 0 → i < l.length → 0 ≤ x → (l.set i x).countP (· < 0) + 1 = l.countP (· < 0)
 | [],i,x,h,hi,hx => by simp at hi
 | a :: l,0,x,h,hi,hx => by
  simp at h
  simp only [List.set_cons_zero,List.countP_cons]
  simp [h,show ¬ x < 0 by omega]
 | a :: l,i + 1,x,h,hi,hx => by
  have ih:=aB0 (l:=l) (i:=i) (x:=x) (by simpa using h) (by simpa using hi) hx
  simp only [List.set_cons_succ,List.countP_cons]
  omega
theorem aED {d:Int} (hd:0 ≤ d):∀ (j i:Nat) (q:List Int × Bool),i + j = q.1.length → (fP tab d j i q).1.countP (· < 0) ≤ q.1.countP (· < 0) ∧ ((fP tab d j i q).2 = true → q.2 = true ∨ (fP tab d j i q).1.countP (· < 0) < q.1.countP (· < 0))
 | 0,i,q,h => ⟨Nat.le_refl _,fun h => .inl h⟩
 | j + 1,i,q,h => by
  unfold fP
  split
  ·rename_i hc
   have h1:=aB0 (l:=q.1) (i:=i) (x:=d) hc.1 (by omega) hd
   obtain ⟨h2,h3⟩:=aED hd j (i + 1) (q.1.set i d,true) (by simp; omega)
   simp only at h2
   exact ⟨by omega,fun _ => .inr (by omega)⟩
  ·exact aED hd j (i + 1) q (by omega)
open Classical in
theorem aVK (ht:Tab nx ls aL tab):∀ (j d:Nat) (dist:List Int),aJQ nx ls gl aL dist d → dist.countP (· < 0) < j → Full nx ls gl aL (fK tab j ((d + 1:Nat):Int) dist)
 | 0,d,dist,hk,hj => by omega
 | j + 1,d,dist,hk,hj => by
  have h0:∀ x:Nat,x < aL → dist.getD x 0 = if x < 0 ∧ Far nx ls gl x (d + 1) then ((d + 1:Nat):Int) else dist.getD x 0:=fun x hx => by
   rw [if_neg (by omega)]
  obtain ⟨h1,h2,h3⟩:=a0j ht hk aL 0 (dist,false) (by omega) hk.1 h0 (by simp)
  have hc:=aED (tab:=tab) (d:=((d + 1:Nat):Int)) (by omega) dist.length 0 (dist,false) (by simp)
  unfold fK
  rw [← hk.1] at h1 h2 h3
  generalize fP tab ((d + 1:Nat):Int) dist.length 0 (dist,false) = r at *
  rw [hk.1] at h1 h2 h3
  split
  ·rename_i hb
   have hlt:=hc.2 hb
   simp only [Bool.false_eq_true,false_or] at hlt
   refine aVK ht j (d + 1) r.1 ⟨h1,fun i hi => ?_⟩ (by omega)
   rw [h2 i hi]
   split
   ·rename_i hf
    exact .inl ⟨d + 1,Nat.le_refl _,rfl,hf⟩
   ·rename_i hf
    rcases hk.2 i hi with ⟨k,g1,g2,g3⟩ | ⟨g1,g2⟩
    ·exact .inl ⟨k,by omega,g2,g3⟩
    ·refine .inr ⟨g1,fun e he ha => ?_⟩
     by_cases hed:e = d + 1
     ·subst hed
      exact hf ⟨ha,fun e' he' => g2 e' (by omega)⟩
     ·exact g2 e (by omega) ha
  ·rename_i hb
   have hno:∀ i:Nat,i < aL → ¬ Far nx ls gl i (d + 1):=fun i hi hf => hb (h3.2 ⟨i,hi,hf⟩)
   have hnone:∀ e:Nat,∀ i:Nat,i < aL → d < e → ¬ Far nx ls gl i e:=by
    intro e
    induction e with
    | zero => intro i hi he; omega
    | succ e ih =>
     intro i hi he hf
     by_cases hed:e = d
     ·subst hed; exact hno i hi hf
     ·obtain ⟨l,hl,m,hm,hfm⟩:=aA2 hf
      have hr:=ht.rng i l (by omega) (by omega) hl m hm
      refine ih m.toNat (by omega) (by omega) ?_
      rw [show ((m.toNat:Nat):Int) = m by omega]; exact hfm
   refine ⟨h1,fun i hi => ?_⟩
   rw [h2 i hi,if_neg (hno i hi)]
   rcases hk.2 i hi with ⟨k,g1,g2,g3⟩ | ⟨g1,g2⟩
   ·exact .inl ⟨k,g2,g3⟩
   ·refine .inr ⟨g1,fun e ha => ?_⟩
    obtain ⟨f,h4,h5⟩:=aWG ha
    by_cases hfd:f ≤ d
    ·exact g2 f hfd h5.1
    ·exact hnone f i hi (by omega) h5
theorem aHb {dist:List Int} {d:Int}:∀ (ms out:List Int) (x:Int),x ∈ addC dist d ms out ↔ x ∈ out ∨ (x ∈ ms ∧ dist.getD x.toNat 0 = d)
 | [],out,x => by simp [addC]
 | m :: ms,out,x => by
  unfold addC
  split
  ·rename_i h
   rw [aHb ms,List.mem_append,List.mem_singleton,List.mem_cons]
   constructor
   ·rintro ((k | rfl) | k)
    ·exact .inl k
    ·exact .inr ⟨.inl rfl,h.1⟩
    ·exact .inr ⟨.inr k.1,k.2⟩
   ·rintro (k | ⟨rfl | k,k2⟩)
    ·exact .inl (.inl k)
    ·exact .inl (.inr rfl)
    ·exact .inr ⟨k,k2⟩
  ·rename_i h
   rw [aHb ms,List.mem_cons]
   constructor
   ·rintro (k | k)
    ·exact .inl k
    ·exact .inr ⟨.inr k.1,k.2⟩
   ·rintro (k | ⟨rfl | k,k2⟩)
    ·exact .inl k
    ·by_cases hx:x ∈ out
     ·exact .inl hx
     ·exact (h ⟨k2,hx⟩).elim
    ·exact .inr ⟨k,k2⟩
theorem aAi {dist:List Int} {k:Nat} {d:Int}:∀ (vs out:List Int) (x:Int),x ∈ bS tab dist k d vs out ↔ x ∈ out ∨ (∃ v ∈ vs,x ∈ (tab.getD v.toNat []).getD k [] ∧ dist.getD x.toNat 0 = d)
 | [],out,x => by simp [bS]
 | v :: vs,out,x => by
  unfold bS
  rw [aAi vs,aHb]
  constructor
  ·rintro ((h | h) | ⟨u,h1,h2⟩)
   ·exact .inl h
   ·exact .inr ⟨v,List.mem_cons_self,h⟩
   ·exact .inr ⟨u,List.mem_cons_of_mem _ h1,h2⟩
  ·rintro (h | ⟨u,h1,h2⟩)
   ·exact .inl (.inl h)
   ·rcases List.mem_cons.1 h1 with rfl | h1
    ·exact .inl (.inr h2)
    ·exact .inr ⟨u,h1,h2⟩
theorem aKI {dist at_:List Int} {d:Int}:∀ (j k:Nat),(∃ e,k ≤ e ∧ e < k + j ∧ bS tab dist e d at_ [] ≠ []) → ∃ e,k ≤ e ∧ e < k + j ∧ aAI tab dist at_ d j k = (e,bS tab dist e d at_ []) ∧ bS tab dist e d at_ [] ≠ [] ∧ ∀ f,k ≤ f → f < e → bS tab dist f d at_ [] = []
 | 0,k,⟨e,h1,h2,_⟩ => by omega
 | j + 1,k,⟨e,h1,h2,h3⟩ => by
  unfold aAI
  split
  ·rename_i hc
   have hek:e ≠ k:=fun h => h3 (h ▸ hc)
   obtain ⟨f,g1,g2,g3,g4,g5⟩:=aKI j (k + 1) ⟨e,by omega,by omega,h3⟩
   refine ⟨f,by omega,by omega,g3,g4,fun x hx1 hx2 => ?_⟩
   by_cases hxk:x = k
   ·subst hxk; exact hc
   ·exact g5 x (by omega) hx2
  ·rename_i hc
   exact ⟨k,Nat.le_refl _,by omega,rfl,hc,fun f h h' => by omega⟩
theorem TW {dist:List Int} (h:Full nx ls gl aL dist) {v:Int} {k:Nat} (h0:0 ≤ v) (h1:v < aL):dist.getD v.toNat 0 = k ↔ Far nx ls gl v k:=by
 have hv:((v.toNat:Nat):Int) = v:=by omega
 rcases h.2 v.toNat (by omega) with ⟨e,h3,h4⟩ | ⟨h3,h4⟩
 ·rw [hv] at h4
  constructor
  ·intro h5
   have:e = k:=by omega
   rw [← this]; exact h4
  ·intro h5
   rw [h3,QM h4 h5]
 ·rw [hv] at h4
  constructor
  ·intro h5; omega
  ·intro h5; exact (h4 k h5.1).elim
theorem aEz (ht:Tab nx ls aL tab) {v:Int} {k:Nat} (h0:0 ≤ v) (h1:v < aL) (hk:k < ls.length):(tab.getD v.toNat []).getD k [] = nx v (ls.getD k 0):=by
 rw [ht.row v.toNat (by omega),show ((v.toNat:Nat):Int) = v by omega,List.getD_eq_getElem?_getD,List.getElem?_map,List.getElem?_eq_getElem hk,List.getD_eq_getElem?_getD,List.getElem?_eq_getElem hk]
 rfl
theorem aKy:∀ {l:List Int} {i j:Nat},l.Pairwise (· < ·) → i < j → j < l.length → l.getD i 0 < l.getD j 0
 | [],i,j,_,_,h => by simp at h
 | a :: l,0,j + 1,h,_,hj => by
  have hj':j < l.length:=by simpa using hj
  have:=(List.pairwise_cons.1 h).1 (l.getD j 0) (by rw [List.getD_eq_getElem?_getD,List.getElem?_eq_getElem hj']; exact List.getElem_mem hj')
  simpa using this
 | a :: l,i + 1,j + 1,h,hij,hj => by
  have:=aKy (List.pairwise_cons.1 h).2 (i:=i) (j:=j) (by omega) (by simpa using hj)
  simpa using this
theorem aUy (ht:Tab nx ls aL tab) {dist:List Int} (hf:Full nx ls gl aL dist) (ha:ls.Pairwise (· < ·)):∀ (d:Nat) (at_:List Int),(∀ v ∈ at_,(0 ≤ v ∧ v < aL) ∧ Far nx ls gl v d) → at_ ≠ [] →
  (uN tab dist ls d at_).length = d ∧ (∃ v ∈ at_,∃ g,Path nx ls v (uN tab dist ls d at_) g ∧ gl g = true) ∧ ∀ w v g,v ∈ at_ → w.length = d → Path nx ls v w g → gl g = true → ¬ yB w (uN tab dist ls d at_):=by
 intro d
 induction d with
 | zero =>
  intro at_ hat hne
  refine ⟨rfl,?_,fun w v g _ hw _ _ h => ?_⟩
  ·cases at_ with
   | nil => exact (hne rfl).elim
   | cons v vs =>
    have:=(hat v List.mem_cons_self).2
    exact ⟨v,List.mem_cons_self,v,rfl,aDU.1 this.1⟩
  ·have:w = []:=List.length_eq_zero_iff.1 hw
   subst this
   exact h
 | succ d ih =>
  intro at_ hat hne
  have hmem:∀ k x,k < ls.length → (x ∈ bS tab dist k d at_ [] ↔ ∃ v ∈ at_,x ∈ nx v (ls.getD k 0) ∧ Far nx ls gl x d):=by
   intro k x hk
   rw [aAi]
   simp only [List.not_mem_nil,false_or]
   constructor
   ·rintro ⟨v,hv,h1,h2⟩
    have hr:=(hat v hv).1
    rw [aEz ht hr.1 hr.2 hk] at h1
    have hl:ls.getD k 0 ∈ ls:=by rw [List.getD_eq_getElem?_getD,List.getElem?_eq_getElem hk]; exact List.getElem_mem hk
    have hx:=ht.rng v _ hr.1 hr.2 hl x h1
    exact ⟨v,hv,h1,(TW hf hx.1 hx.2).1 h2⟩
   ·rintro ⟨v,hv,h1,h2⟩
    have hr:=(hat v hv).1
    have hl:ls.getD k 0 ∈ ls:=by rw [List.getD_eq_getElem?_getD,List.getElem?_eq_getElem hk]; exact List.getElem_mem hk
    have hx:=ht.rng v _ hr.1 hr.2 hl x h1
    exact ⟨v,hv,by rw [aEz ht hr.1 hr.2 hk]; exact h1,(TW hf hx.1 hx.2).2 h2⟩
  have hidx:∀ l ∈ ls,∃ k,k < ls.length ∧ ls.getD k 0 = l:=by
   intro l hl
   obtain ⟨k,hk,h⟩:=List.getElem_of_mem hl
   exact ⟨k,hk,by rw [List.getD_eq_getElem?_getD,List.getElem?_eq_getElem hk,h]; rfl⟩
  obtain ⟨v0,hv0⟩:∃ v,v ∈ at_:=by
   cases at_ with
   | nil => exact (hne rfl).elim
   | cons v vs => exact ⟨v,List.mem_cons_self⟩
  obtain ⟨l0,hl0,m0,hm0,hfm0⟩:=aA2 (hat v0 hv0).2
  obtain ⟨k0,hk0,e0⟩:=hidx l0 hl0
  have hne0:bS tab dist k0 d at_ [] ≠ []:=by
   intro h
   have:=(hmem k0 m0 hk0).2 ⟨v0,hv0,by rw [e0]; exact hm0,hfm0⟩
   rw [h] at this; cases this
  obtain ⟨e,_,h2,h3,h4,h5⟩:=aKI (tab:=tab) (dist:=dist) (at_:=at_) (d:=d) (ls.length + 1) 0 ⟨k0,by omega,by omega,hne0⟩
  have hel:e < ls.length:=by
   apply Nat.lt_of_not_le
   intro h
   by_cases he0:k0 < e
   ·exact hne0 (h5 k0 (by omega) he0)
   ·omega
  have hel2:ls.getD e 0 ∈ ls:=by rw [List.getD_eq_getElem?_getD,List.getElem?_eq_getElem hel]; exact List.getElem_mem hel
  unfold uN
  rw [h3]
  simp only
  have hat2:∀ x ∈ bS tab dist e d at_ [],(0 ≤ x ∧ x < aL) ∧ Far nx ls gl x d:=by
   intro x hx
   obtain ⟨v,hv,g1,g2⟩:=(hmem e x hel).1 hx
   have hr:=(hat v hv).1
   exact ⟨ht.rng v _ hr.1 hr.2 hel2 x g1,g2⟩
  obtain ⟨i1,⟨m,hm,g,i2,i3⟩,i4⟩:=ih _ hat2 h4
  refine ⟨by simp [i1],?_,?_⟩
  ·obtain ⟨v,hv,g1,g2⟩:=(hmem e m hel).1 hm
   exact ⟨v,hv,g,⟨hel2,m,g1,i2⟩,i3⟩
  ·intro w v g' hv hw hp hg hlt
   cases w with
   | nil => simp at hw
   | cons l w =>
    obtain ⟨hl,m',hm',hp'⟩:=hp
    have hfm:Far nx ls gl m' d:=by
     refine ⟨⟨w,g',by simpa using hw,hp',hg⟩,fun x hx hax => ?_⟩
     exact (hat v hv).2.2 (x + 1) (by omega) (VN.2 ⟨l,hl,m',hm',hax⟩)
    obtain ⟨k,hk,ek⟩:=hidx l hl
    have hmc:m' ∈ bS tab dist k d at_ []:=(hmem k m' hk).2 ⟨v,hv,by rw [ek]; exact hm',hfm⟩
    have hke:e ≤ k:=by
     apply Nat.le_of_not_lt
     intro h
     rw [h5 k (by omega) h] at hmc; cases hmc
    rcases hlt with h | ⟨h,h'⟩
    ·by_cases hek:e = k
     ·subst hek; omega
     ·have:=aKy ha (i:=e) (j:=k) (by omega) hk
      omega
    ·have:e = k:=by
      apply Nat.le_antisymm hke
      apply Nat.le_of_not_lt
      intro hc
      have:=aKy ha (i:=e) (j:=k) hc hk
      omega
     subst this
     exact i4 w m' g' hmc (by simpa using hw) hp' hg h'
theorem aW2 (ht:Tab nx ls aL tab) {dist:List Int} (hf:Full nx ls gl aL dist) (ha:ls.Pairwise (· < ·)) {s:Int} (h0:0 ≤ s) (h1:s < aL):P5 (Hits nx ls [s] gl) (aI2 tab ls dist s):=by
 have hv:((s.toNat:Nat):Int) = s:=by omega
 unfold aI2
 rcases hf.2 s.toNat (by omega) with ⟨k,h2,h3⟩ | ⟨h2,h3⟩
 ·rw [hv] at h3
  rw [h2,if_neg (by omega),Int.toNat_natCast]
  obtain ⟨i1,⟨v,hv1,g,i2,i3⟩,i4⟩:=aUy ht hf ha k [s] (fun v hv => by simp at hv; subst hv; exact ⟨⟨h0,h1⟩,h3⟩) (by simp)
  have:v = s:=by simpa using hv1
  subst this
  refine .inl ⟨rfl,⟨g,⟨v,by simp,i2⟩,i3⟩,?_⟩
  rintro x ⟨u,⟨y,hy,hp⟩,hg⟩ hlt
  have:y = v:=by simpa using hy
  subst this
  have hlt':slt x (uN tab dist ls k [y]):=hlt
  rcases hlt' with h | ⟨h,h'⟩
  ·exact h3.2 x.length (by omega) ⟨x,u,rfl,hp,hg⟩
  ·exact i4 x y u (by simp) (by omega) hp hg h'
 ·rw [hv] at h3
  rw [h2,if_pos (by omega)]
  refine .inr ⟨rfl,?_⟩
  rintro w ⟨u,⟨y,hy,hp⟩,hg⟩
  have:y = s:=by simpa using hy
  subst this
  exact h3 w.length ⟨w,u,rfl,hp,hg⟩
end
end
end Ev
end Go.Proofs.YtejmccgfigiadaaGreat
