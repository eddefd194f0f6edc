/-
  Letters and alphabets: what the small functions give.
-/
import Derived.Test.YtppdfjdfjfoddaaDoorLib
import Derived.Test.YtppdfjdfjfoddaaDoorVec
set_option linter.unusedSimpArgs false
set_option maxRecDepth 8000
set_option linter.unusedVariables false
set_option maxHeartbeats 4000000
namespace Go.Proofs.YtppdfjdfjfoddaaDoor
namespace Ev
def fQ (l x y:Int):Int:=if l = x then y else if l = y then x else l
def bL (x:Int):Bool:=decide (0 ≤ x ∧ x < 6)
def eS (x:Int):Bool:=decide (0 ≤ x ∧ x ≤ 63)
theorem aBc {L n:Nat} (hn:1 ≤ n) (a:Int):aA env L n 55 [.d (.int .i64 a)] [] = some (.d (.bool (eS a)),[]):=by
 obtain _ | n:=n; omega
 rw [aAm]
 simp only [NB,Tryd.f55,SLM,simprocAttr]
 simp -implicitDefEqProofs (maxSteps:=2000000) (disch:=try exact Dz) only [↓DN,↓kAsg,↓kRet,UP,simprocAttr]
 by_cases h:0 ≤ a <;> simp [h,eS]
theorem dN {R:Type} {L n:Nat} {hq:H} {k:A → H → Option R} (hn:1 ≤ n) (a:Int):aL env (aA env L n) hq 55 [.d (.int .i64 a)] k = k (.d (.bool (eS a))) hq :=
 aV rfl (aBc hn a) rfl (.inl rfl)
theorem aCS {L n:Nat} (hn:1 ≤ n) (a:Int):aA env L n 38 [.d (.int .i64 a)] [] = some (.d (.bool (bL a)),[]):=by
 obtain _ | n:=n; omega
 rw [aCw]
 simp only [Q0,Tryd.f38,SLM,simprocAttr]
 simp -implicitDefEqProofs (maxSteps:=2000000) (disch:=try exact Dz) only [↓DN,↓kAsg,↓kRet,UP,simprocAttr]
 by_cases h:0 ≤ a <;> simp [h,bL]
theorem dV {R:Type} {L n:Nat} {hq:H} {k:A → H → Option R} (hn:1 ≤ n) (a:Int):aL env (aA env L n) hq 38 [.d (.int .i64 a)] k = k (.d (.bool (bL a))) hq :=
 aV rfl (aCS hn a) rfl (.inl rfl)
theorem aBH {L n:Nat} (hn:1 ≤ n) (a:Int):aA env L n 27 [.d (.int .i64 a)] [] = some (.d (.bool (eS a)),[]):=by
 obtain _ | n:=n; omega
 rw [aBV]
 simp only [OP,Tryd.f27,SLM,simprocAttr]
 simp -implicitDefEqProofs (maxSteps:=2000000) (disch:=try exact Dz) only [↓DN,↓kAsg,↓kRet,UP,simprocAttr]
 by_cases h:0 ≤ a <;> simp [h,eS]
theorem b7 {R:Type} {L n:Nat} {hq:H} {k:A → H → Option R} (hn:1 ≤ n) (a:Int):aL env (aA env L n) hq 27 [.d (.int .i64 a)] k = k (.d (.bool (eS a))) hq :=
 aV rfl (aBH hn a) rfl (.inl rfl)
theorem aEN {L n:Nat} (hn:1 ≤ n) (a:Int):aA env L n 33 [.d (.int .i64 a)] [] = some (.d (.bool (bL a)),[]):=by
 obtain _ | n:=n; omega
 rw [aEY]
 simp only [UF,Tryd.f33,SLM,simprocAttr]
 simp -implicitDefEqProofs (maxSteps:=2000000) (disch:=try exact Dz) only [↓DN,↓kAsg,↓kRet,UP,simprocAttr]
 by_cases h:0 ≤ a <;> simp [h,bL]
theorem eE {R:Type} {L n:Nat} {hq:H} {k:A → H → Option R} (hn:1 ≤ n) (a:Int):aL env (aA env L n) hq 33 [.d (.int .i64 a)] k = k (.d (.bool (bL a))) hq :=
 aV rfl (aEN hn a) rfl (.inl rfl)
theorem aFl {L n:Nat} (hn:1 ≤ n) (l x y:Int):aA env L n 42 [.d (.int .i64 l),.d (.int .i64 x),.d (.int .i64 y)] [] = some (.d (.int .i64 (fQ l x y)),[]):=by
 obtain _ | n:=n; omega
 rw [aGa]
 simp only [YE,Tryd.f42,SLM,simprocAttr]
 simp -implicitDefEqProofs (maxSteps:=2000000) (disch:=try exact Dz) only [↓DN,↓kAsg,↓kRet,UP,simprocAttr]
 unfold fQ
 split
 ·rfl
 ·split <;> rfl
theorem eV {R:Type} {L n:Nat} {hq:H} {k:A → H → Option R} (hn:1 ≤ n) (l x y:Int):aL env (aA env L n) hq 42 [.d (.int .i64 l),.d (.int .i64 x),.d (.int .i64 y)] k = k (.d (.int .i64 (fQ l x y))) hq :=
 aV rfl (aFl hn l x y) rfl (.inl rfl)
theorem aFi {L n:Nat} (hn:1 ≤ n) (l x y:Int):aA env L n 37 [.d (.int .i64 l),.d (.int .i64 x),.d (.int .i64 y)] [] = some (.d (.int .i64 (fQ l x y)),[]):=by
 obtain _ | n:=n; omega
 rw [aGX]
 simp only [W4,Tryd.f37,SLM,simprocAttr]
 simp -implicitDefEqProofs (maxSteps:=2000000) (disch:=try exact Dz) only [↓DN,↓kAsg,↓kRet,UP,simprocAttr]
 unfold fQ
 split
 ·rfl
 ·split <;> rfl
theorem eW {R:Type} {L n:Nat} {hq:H} {k:A → H → Option R} (hn:1 ≤ n) (l x y:Int):aL env (aA env L n) hq 37 [.d (.int .i64 l),.d (.int .i64 x),.d (.int .i64 y)] k = k (.d (.int .i64 (fQ l x y))) hq :=
 aV rfl (aFi hn l x y) rfl (.inl rfl)
def d9 (a i:Int):Bool:=decide ((a.fdiv (2 ^ (min i.toNat 64))) % 2 = 1)
def bitI (n:Int):Int:=IntKind.i64.wrap (1 * 2 ^ (min n.toNat 64))
theorem toNat_ofInt (x:Int):((BitVec.ofInt 64 x).toNat:Int) = x % 18446744073709551616:=by
 rw [BitVec.toNat_ofInt]
 omega
theorem aFH (x:Int):iAnd .i64 x 1 = x % 2:=by
 unfold iAnd
 have h1:(BitVec.ofInt IntKind.i64.bits x &&& BitVec.ofInt IntKind.i64.bits 1).toNat = (BitVec.ofInt 64 x).toNat % 2:=by
  change (BitVec.ofInt 64 x &&& BitVec.ofInt 64 1).toNat = _
  rw [BitVec.toNat_and]
  exact Nat.and_one_is_mod _
 rw [h1]
 have h2:=toNat_ofInt x
 rw [HG (by omega) (by omega)]
 omega
theorem aAZ:IntKind.i64.bits = 64:=rfl
theorem aJH {L n:Nat} (hn:1 ≤ n) (a i:Int) (hi:0 ≤ i) (hi2:i ≤ 9223372036854775807):aA env L n 62 [.d (.int .i64 a),.d (.int .i64 i)] [] = some (.d (.bool (d9 a i)),[]):=by
 obtain _ | n:=n; omega
 rw [aIO]
 simp only [aEC,Tryd.f62,SLM,simprocAttr]
 simp -implicitDefEqProofs (maxSteps:=2000000) (disch:=try exact Dz) only [↓DN,↓kAsg,↓kRet,UP,simprocAttr,↓QT,aKZ,aFH,aAZ]
 rfl
theorem gB {R:Type} {L n:Nat} {hq:H} {k:A → H → Option R} (hn:1 ≤ n) (a i:Int) (hi:0 ≤ i) (hi2:i ≤ 9223372036854775807):aL env (aA env L n) hq 62 [.d (.int .i64 a),.d (.int .i64 i)] k = k (.d (.bool (d9 a i))) hq :=
 aV rfl (aJH hn a i hi hi2) rfl (.inl rfl)
theorem aOq {L n:Nat} (hn:1 ≤ n) (a i:Int):aA env L n 59 [.d (.int .i64 a),.d (.int .i64 i)] [] = some (.d (.bool (decide (0 ≤ i) && d9 a i)),[]):=by
 obtain _ | n:=n; omega
 rw [aOg]
 simp only [aIb,Tryd.f59,SLM,simprocAttr]
 simp -implicitDefEqProofs (maxSteps:=2000000) (disch:=try exact Dz) only [↓DN,↓kAsg,↓kRet,UP,simprocAttr,aFH,aAZ]
 by_cases h:0 ≤ i <;> simp [h,d9]
theorem P0 {R:Type} {L n:Nat} {hq:H} {k:A → H → Option R} (hn:1 ≤ n) (a i:Int):aL env (aA env L n) hq 59 [.d (.int .i64 a),.d (.int .i64 i)] k = k (.d (.bool (decide (0 ≤ i) && d9 a i))) hq :=
 aV rfl (aOq hn a i) rfl (.inl rfl)
theorem aJv {L n:Nat} (hn:1 ≤ n) (i:Int) (hi:0 ≤ i) (hi2:i ≤ 9223372036854775807):aA env L n 63 [.d (.int .i64 i)] [] = some (.d (.int .i64 (bitI i)),[]):=by
 obtain _ | n:=n; omega
 rw [aJd]
 simp only [aDf,Tryd.f63,SLM,simprocAttr]
 simp -implicitDefEqProofs (maxSteps:=2000000) (disch:=try exact Dz) only [↓DN,↓kAsg,↓kRet,UP,simprocAttr,↓QT,aKZ,aAZ]
 rfl
theorem uB {R:Type} {L n:Nat} {hq:H} {k:A → H → Option R} (hn:1 ≤ n) (i:Int) (hi:0 ≤ i) (hi2:i ≤ 9223372036854775807):aL env (aA env L n) hq 63 [.d (.int .i64 i)] k = k (.d (.int .i64 (bitI i))) hq :=
 aV rfl (aJv hn i hi hi2) rfl (.inl rfl)
def aE (a:Int):List Int:=[0,1,2,3,4,5].filter (d9 a)
def aBj (x y:Int) (out l:Int):Int:=iOr .i64 out (bitI (fQ l x y))
def b5 (a x y:Int):Int:=if eS a && bL x && bL y then (aE a).foldl (aBj x y) 0 else -1
theorem EW {l x y:Int} (hl:0 ≤ l) (hx:0 ≤ x) (hy:0 ≤ y):0 ≤ fQ l x y:=by
 unfold fQ; split
 ·exact hy
 ·split <;> assumption
theorem PT {l x y b:Int} (hl:l ≤ b) (hx:x ≤ b) (hy:y ≤ b):fQ l x y ≤ b:=by
 unfold fQ; split
 ·exact hy
 ·split <;> assumption
def oE:Nat → List Int
 | 0 => []
 | j + 1 => (6 - ((j + 1:Nat):Int)) :: oE j
theorem lR {R:Type} {L n:Nat} (hn:2 ≤ n) {a x y:Int} (hx:0 ≤ x) (hx6:x ≤ 5) (hy:0 ≤ y) (hy6:y ≤ 5) {k:Exit → List A → H → Option R}:∀ (j:Nat) (i out:Int) (m:Nat),i + j = 6 → 0 ≤ i → j < m →
  aU env (aA env L n) L 0 [] (U2 (U1 (Z2 (Z1 (U2 (U1 (Z16 (Z8 (Z4 ([])))))))))) (k9 0) (Z2 (Z1 (U2 (U1 (Z2 (Z1 (U16 (U8 (U4 ([])))))))))) m (.d (.int .i64 a) :: .d (.int .i64 x) :: .d (.int .i64 y) :: Y2 (Y1 (.d (.int .i64 0) :: .d (.int .i64 out) :: .d (.int .i64 i) :: Y16 (Y8 (Y4 ([])))))) [] k
  = k (.exit 0) (.d (.int .i64 a) :: .d (.int .i64 x) :: .d (.int .i64 y) :: Y2 (Y1 (.d (.int .i64 0) :: .d (.int .i64 (((oE j).filter (d9 a)).foldl (aBj x y) out)) :: .d (.int .i64 6) :: Y16 (Y8 (Y4 ([])))))) []:=by
 intro j
 induction j with
 | zero =>
  intro i out m hi h0 hm
  obtain _ | m:=m; omega
  obtain rfl:i = 6:=by omega
  rw [yP]
  simp only [s5,Tryd.f39,SLM,simprocAttr]
  simp -implicitDefEqProofs (maxSteps:=2000000) (disch:=try exact Dz) only [↓DN,↓kAsg,↓kRet,UP,simprocAttr,↓dN,↓dV,↓gB,↓eV,↓uB]
  rfl
 | succ j ih =>
  intro i out m hi h0 hm
  obtain _ | m:=m; omega
  have hc:i < 6:=by omega
  have hs1:=EW h0 hx hy
  have hs2:=PT (b:=5) (by omega:i ≤ 5) hx6 hy6
  rw [yP]
  simp only [s5,Tryd.f39,SLM,simprocAttr]
  simp -implicitDefEqProofs (maxSteps:=2000000) (disch:=try exact Dz) only [↓DN,↓kAsg,↓kRet,UP,simprocAttr,↓dN,↓dV,↓gB,↓uB,↓eV,↓ih,hc,HG]
  have hr:oE (j + 1) = i :: oE j:=by simp only [oE]; congr 1; omega
  rw [hr,List.filter_cons]
  cases d9 a i <;> rfl
theorem lI {R:Type} {L n m:Nat} (hn:2 ≤ n) {a x y:Int} (hx:0 ≤ x) (hx6:x ≤ 5) (hy:0 ≤ y) (hy6:y ≤ 5) {k:Exit → List A → H → Option R} (hm:6 < m) :
  aU env (aA env L n) L 0 [] (U2 (U1 (Z2 (Z1 (U2 (U1 (Z16 (Z8 (Z4 ([])))))))))) (k9 0) (Z2 (Z1 (U2 (U1 (Z2 (Z1 (U16 (U8 (U4 ([])))))))))) m (.d (.int .i64 a) :: .d (.int .i64 x) :: .d (.int .i64 y) :: Y2 (Y1 (.d (.int .i64 0) :: .d (.int .i64 0) :: .d (.int .i64 0) :: Y16 (Y8 (Y4 ([])))))) [] k
  = k (.exit 0) (.d (.int .i64 a) :: .d (.int .i64 x) :: .d (.int .i64 y) :: Y2 (Y1 (.d (.int .i64 0) :: .d (.int .i64 ((aE a).foldl (aBj x y) 0)) :: .d (.int .i64 6) :: Y16 (Y8 (Y4 ([])))))) [] :=
 lR hn hx hx6 hy hy6 6 0 0 m rfl (by omega) hm
theorem gY {x:Int}:bL x = true ↔ 0 ≤ x ∧ x ≤ 5:=by
 unfold bL; simp; omega
theorem WF {L n:Nat} (hn:3 ≤ n) (a x y:Int) (hL:2 ^ 60 ≤ L):aA env L n 39 [.d (.int .i64 a),.d (.int .i64 x),.d (.int .i64 y)] [] = some (.d (.int .i64 (b5 a x y)),[]):=by
 unfold b5
 cases ha:eS a with
 | false =>
  obtain _ | n:=n; omega
  rw [pQ]
  simp only [nZ,Tryd.f39,SLM,simprocAttr]
  simp -implicitDefEqProofs (maxSteps:=2000000) (disch:=try exact Dz) only [↓DN,↓kAsg,↓kRet,UP,simprocAttr,↓dV,↓gB,↓eV,↓uB,↓lR,↓lI,↓dN,ha,Bool.false_and]
 | true =>
  cases hx:bL x with
  | false =>
   obtain _ | n:=n; omega
   rw [pQ]
   simp only [nZ,Tryd.f39,SLM,simprocAttr]
   simp -implicitDefEqProofs (maxSteps:=2000000) (disch:=try exact Dz) only [↓DN,↓kAsg,↓kRet,UP,simprocAttr,↓gB,↓eV,↓uB,↓lR,↓lI,↓dN,↓dV,ha,hx,Bool.false_and,Bool.and_false]
  | true =>
   cases hy:bL y with
   | false =>
    obtain _ | n:=n; omega
    rw [pQ]
    simp only [nZ,Tryd.f39,SLM,simprocAttr]
    simp -implicitDefEqProofs (maxSteps:=2000000) (disch:=try exact Dz) only [↓DN,↓kAsg,↓kRet,UP,simprocAttr,↓gB,↓eV,↓uB,↓lR,↓lI,↓dN,↓dV,ha,hx,hy,Bool.and_false]
   | true =>
    have bx:=gY.1 hx
    have by':=gY.1 hy
    obtain _ | n:=n; omega
    rw [pQ]
    simp only [nZ,Tryd.f39,SLM,simprocAttr]
    simp -implicitDefEqProofs (maxSteps:=2000000) (disch:=try exact Dz) only [↓DN,↓kAsg,↓kRet,UP,simprocAttr,↓gB,↓eV,↓uB,↓lR,↓dN,↓dV,ha,hx,hy,Bool.and_self,↓lI]
theorem f8 {R:Type} {L n:Nat} {hq:H} {k:A → H → Option R} (hn:3 ≤ n) (a x y:Int) (hL:2 ^ 60 ≤ L):aL env (aA env L n) hq 39 [.d (.int .i64 a),.d (.int .i64 x),.d (.int .i64 y)] k = k (.d (.int .i64 (b5 a x y))) hq :=
 aV rfl (WF hn a x y hL) rfl (.inl rfl)
theorem IL {R:Type} {L n:Nat} (hn:1 ≤ n) {a:Int} {k:Exit → List A → H → Option R}:∀ (j:Nat) (i:Int) (l:List Int) (len m:Nat),i + j = 6 → 0 ≤ i → j < m → len = l.length → l.length + j < 100 →
  aU env (aA env L n) L 0 [0,0,0,2] (U1 (Z1 (U2 (Z1 (U1 (Z8 (Z2 (Z1 ([]))))))))) (nX 0) (Z1 (U1 (Z2 (U1 (Z1 (U8 (U2 (U1 ([]))))))))) m (.d (.int .i64 a) :: Y1 (.d .nils :: .sl 0 0 0 len :: Y1 (.d (.int .i64 i) :: Y8 (Y2 (Y1 ([])))))) [.arr (ints l) 1 0] k
  = k (.exit 0) (.d (.int .i64 a) :: Y1 (.d .nils :: .sl 0 0 0 (len + ((oE j).filter (d9 a)).length) :: Y1 (.d (.int .i64 6) :: Y8 (Y2 (Y1 ([])))))) [.arr (ints (l ++ (oE j).filter (d9 a))) 1 0]:=by
 intro j
 induction j with
 | zero =>
  intro i l len m hi h0 hm hl hlen
  obtain _ | m:=m; omega
  obtain rfl:i = 6:=by omega
  rw [tQ]
  simp only [sU,Tryd.f28,SLM,simprocAttr]
  simp -implicitDefEqProofs (maxSteps:=2000000) (disch:=try exact Dz) only [↓DN,↓kAsg,↓kRet,UP,simprocAttr,↓P0]
  simp only [oE,List.filter_nil,List.append_nil,List.length_nil,Nat.add_zero]
 | succ j ih =>
  intro i l len m hi h0 hm hl hlen
  obtain _ | m:=m; omega
  have hc:i < 6:=by omega
  have hr:oE (j + 1) = i :: oE j:=by simp only [oE]; congr 1; omega
  rw [hr,List.filter_cons]
  cases hb:d9 a i with
  | true =>
   rw [tQ]
   simp only [sU,Tryd.f28,SLM,simprocAttr]
   simp -implicitDefEqProofs (maxSteps:=2000000) (disch:=try exact Dz) only [↓DN,↓kAsg,↓kRet,UP,simprocAttr,↓P0,↓ih,hc,hb,h0,cY,gZ]
   try simp only [List.append_assoc,List.cons_append,List.nil_append,Nat.add_assoc,Nat.add_comm 1]
  | false =>
   rw [tQ]
   simp only [sU,Tryd.f28,SLM,simprocAttr]
   simp -implicitDefEqProofs (maxSteps:=2000000) (disch:=try exact Dz) only [↓DN,↓kAsg,↓kRet,UP,simprocAttr,↓P0,↓ih,hc,hb,h0]
theorem PK {R:Type} {L n m:Nat} (hn:1 ≤ n) {a:Int} {k:Exit → List A → H → Option R} (hm:6 < m) :
  aU env (aA env L n) L 0 [0,0,0,2] (U1 (Z1 (U2 (Z1 (U1 (Z8 (Z2 (Z1 ([]))))))))) (nX 0) (Z1 (U1 (Z2 (U1 (Z1 (U8 (U2 (U1 ([]))))))))) m (.d (.int .i64 a) :: Y1 (.d .nils :: .sl 0 0 0 0 :: Y1 (.d (.int .i64 0) :: Y8 (Y2 (Y1 ([])))))) [.arr [] 1 0] k
  = k (.exit 0) (.d (.int .i64 a) :: Y1 (.d .nils :: .sl 0 0 0 (aE a).length :: Y1 (.d (.int .i64 6) :: Y8 (Y2 (Y1 ([])))))) [.arr (ints (aE a)) 1 0]:=by
 have h:=IL (R:=R) (L:=L) hn (a:=a) (k:=k) 6 0 [] 0 m rfl (by omega) hm rfl (by simp)
 simp only [Nat.zero_add,List.nil_append] at h
 exact h
theorem eP (a:Int):(aE a).length ≤ 6:=by
 unfold aE
 exact List.length_filter_le _ _
theorem aCk {L n:Nat} (hn:2 ≤ n) (a:Int) (hL:2 ^ 60 ≤ L):aA env L n 28 [.d (.int .i64 a)] [] = some (.d (.ivs (aE a).length (ints (aE a))),[]):=by
 obtain _ | n:=n; omega
 rw [aCF]
 simp only [QJ,Tryd.f28,SLM,simprocAttr]
 simp -implicitDefEqProofs (maxSteps:=2000000) (disch:=try exact Dz) only [↓DN,↓kAsg,↓kRet,UP,simprocAttr,↓P0,↓IL,↓PK,dQ,cY]
theorem aQ {R:Type} {L n:Nat} {hq:H} {k:A → H → Option R} (hn:2 ≤ n) (a:Int) (hL:2 ^ 60 ≤ L):aL env (aA env L n) hq 28 [.d (.int .i64 a)] k = k (.d (.ivs (aE a).length (ints (aE a)))) hq :=
 aV rfl (aCk hn a hL) rfl (.inr rfl)
theorem aMI {α:Type} {d:α} {l:List α} {j:Nat} {i:Int} (hi:i = (l.length:Int) - ((j + 1:Nat):Int)) (hj:j + 1 ≤ l.length):l.drop (l.length - (j + 1)) = l.getD i.toNat d :: l.drop (l.length - j):=by
 have hp:i.toNat = l.length - (j + 1):=by omega
 rw [hp,List.drop_eq_getElem_cons (by omega),List.getD_eq_getElem?_getD,List.getElem?_eq_getElem (by omega)]
 congr 2
 omega
theorem P2 {l:List Int} {P:Int → Prop} (h:∀ v ∈ l,P v) {k:Nat} (hk:k < l.length):P (l.getD k 0):=by
 rw [List.getD_eq_getElem?_getD,List.getElem?_eq_getElem hk]
 exact h _ (List.getElem_mem hk)
theorem pA {a:Int}:∀ v ∈ aE a,0 ≤ v ∧ v ≤ 5:=by
 intro v hv
 have:=(List.mem_filter.1 hv).1
 simp at this
 omega
theorem lP {R:Type} {L n:Nat} (hn:2 ≤ n) {x y:Int} (hx:0 ≤ x) (hy:0 ≤ y) {l:List Int} (hl:∀ v ∈ l,0 ≤ v ∧ v ≤ 5) (hlen:l.length < 100) {k:Exit → List A → H → Option R}:∀ (j:Nat) (i out:Int) (m:Nat),i = (l.length:Int) - (j:Int) → j ≤ l.length → j < m →
  aU env (aA env L n) L 0 [] (Z1 (U2 (Z2 (Z1 (U2 (Z16 (U2 (U1 (Z8 (Z4 ([]))))))))))) (kY 0) (U1 (Z2 (U2 (U1 (Z2 (U16 (Z2 (Z1 (U8 (U4 ([]))))))))))) m (Y1 (.d (.int .i64 x) :: .d (.int .i64 y) :: Y2 (Y1 (.d (.int .i64 0) :: .d (.int .i64 out) :: Y16 (.d (.ivs l.length (ints l)) :: .d (.int .i64 l.length) :: .d (.int .i64 i) :: Y8 (Y4 ([]))))))) [] k
  = k (.exit 0) (Y1 (.d (.int .i64 x) :: .d (.int .i64 y) :: Y2 (Y1 (.d (.int .i64 0) :: .d (.int .i64 ((l.drop (l.length - j)).foldl (aBj x y) out)) :: Y16 (.d (.ivs l.length (ints l)) :: .d (.int .i64 l.length) :: .d (.int .i64 l.length) :: Y8 (Y4 ([]))))))) []:=by
 intro j
 induction j with
 | zero =>
  intro i out m hi hj hm
  obtain _ | m:=m; omega
  obtain rfl:i = l.length:=by omega
  rw [yB]
  simp only [s8,Tryd.f35,SLM,simprocAttr]
  simp -implicitDefEqProofs (maxSteps:=2000000) (disch:=try exact Dz) only [↓DN,↓kAsg,↓kRet,UP,simprocAttr,↓b7,↓eE,↓aQ,↓eW,Int.lt_irrefl]
  simp only [Nat.sub_zero,List.drop_length,List.foldl_nil]
 | succ j ih =>
  intro i out m hi hj hm
  obtain _ | m:=m; omega
  have hc:i < l.length:=by omega
  have h0:0 ≤ i:=by omega
  have hk:i.toNat < l.length:=by omega
  have hv:=P2 hl hk
  have hs1:=EW hv.1 hx hy
  rw [yB]
  simp only [s8,Tryd.f35,SLM,simprocAttr]
  simp -implicitDefEqProofs (maxSteps:=2000000) (disch:=try exact Dz) only [↓DN,↓kAsg,↓kRet,UP,simprocAttr,↓b7,↓eE,↓aQ,↓eW,↓ih,hc,dL,KW,dY,dQ,LT,aAZ]
  rw [aMI (d:=0) hi hj]
  rfl
theorem lK {R:Type} {L n m:Nat} (hn:2 ≤ n) {x y:Int} (hx:0 ≤ x) (hy:0 ≤ y) {l:List Int} (hl:∀ v ∈ l,0 ≤ v ∧ v ≤ 5) (hlen:l.length < 100) (hm:l.length < m) {k:Exit → List A → H → Option R} :
  aU env (aA env L n) L 0 [] (Z1 (U2 (Z2 (Z1 (U2 (Z16 (U2 (U1 (Z8 (Z4 ([]))))))))))) (kY 0) (U1 (Z2 (U2 (U1 (Z2 (U16 (Z2 (Z1 (U8 (U4 ([]))))))))))) m (Y1 (.d (.int .i64 x) :: .d (.int .i64 y) :: Y2 (Y1 (.d (.int .i64 0) :: .d (.int .i64 0) :: Y16 (.d (.ivs l.length (ints l)) :: .d (.int .i64 l.length) :: .d (.int .i64 0) :: Y8 (Y4 ([]))))))) [] k
  = k (.exit 0) (Y1 (.d (.int .i64 x) :: .d (.int .i64 y) :: Y2 (Y1 (.d (.int .i64 0) :: .d (.int .i64 (l.foldl (aBj x y) 0)) :: Y16 (.d (.ivs l.length (ints l)) :: .d (.int .i64 l.length) :: .d (.int .i64 l.length) :: Y8 (Y4 ([]))))))) []:=by
 have h:=lP (R:=R) (L:=L) hn hx hy hl hlen (k:=k) l.length 0 0 m (by omega) (Nat.le_refl _) hm
 simpa only [Nat.sub_self,List.drop_zero] using h
theorem WA {L n:Nat} (hn:3 ≤ n) (a x y:Int) (hL:2 ^ 60 ≤ L):aA env L n 35 [.d (.int .i64 a),.d (.int .i64 x),.d (.int .i64 y)] [] = some (.d (.int .i64 (b5 a x y)),[]):=by
 unfold b5
 cases ha:eS a with
 | false =>
  obtain _ | n:=n; omega
  rw [pN]
  simp only [n5,Tryd.f35,SLM,simprocAttr]
  simp -implicitDefEqProofs (maxSteps:=2000000) (disch:=try exact Dz) only [↓DN,↓kAsg,↓kRet,UP,simprocAttr,↓eE,↓aQ,↓eW,↓lP,↓lK,↓b7,ha,Bool.false_and]
 | true =>
  cases hx:bL x with
  | false =>
   obtain _ | n:=n; omega
   rw [pN]
   simp only [n5,Tryd.f35,SLM,simprocAttr]
   simp -implicitDefEqProofs (maxSteps:=2000000) (disch:=try exact Dz) only [↓DN,↓kAsg,↓kRet,UP,simprocAttr,↓aQ,↓eW,↓lP,↓lK,↓b7,↓eE,ha,hx,Bool.false_and,Bool.and_false]
  | true =>
   cases hy:bL y with
   | false =>
    obtain _ | n:=n; omega
    rw [pN]
    simp only [n5,Tryd.f35,SLM,simprocAttr]
    simp -implicitDefEqProofs (maxSteps:=2000000) (disch:=try exact Dz) only [↓DN,↓kAsg,↓kRet,UP,simprocAttr,↓aQ,↓eW,↓lP,↓lK,↓b7,↓eE,ha,hx,hy,Bool.and_false]
   | true =>
    have bx:=gY.1 hx
    have by':=gY.1 hy
    have hin:=pA (a:=a)
    have hll:=eP a
    obtain _ | n:=n; omega
    rw [pN]
    simp only [n5,Tryd.f35,SLM,simprocAttr]
    simp -implicitDefEqProofs (maxSteps:=2000000) (disch:=try exact Dz) only [↓DN,↓kAsg,↓kRet,UP,simprocAttr,↓eW,↓lP,↓b7,↓eE,↓aQ,ha,hx,hy,Bool.and_self,dL,↓lK]
theorem gA {R:Type} {L n:Nat} {hq:H} {k:A → H → Option R} (hn:3 ≤ n) (a x y:Int) (hL:2 ^ 60 ≤ L):aL env (aA env L n) hq 35 [.d (.int .i64 a),.d (.int .i64 x),.d (.int .i64 y)] k = k (.d (.int .i64 (b5 a x y))) hq :=
 aV rfl (WA hn a x y hL) rfl (.inl rfl)
structure Edge where
 fr:Int
 lt:Int
 to:Int
 deriving DecidableEq,Inhabited
theorem nB {α:Type} {l:List α} {i:Nat} {d:α} (h:i < l.length):l.drop i = l.getD i d :: l.drop (i + 1):=by
 rw [List.drop_eq_getElem_cons h,List.getD_eq_getElem?_getD,List.getElem?_eq_getElem h]
 rfl
def seek (p:Nat → Bool):Nat → Nat → Option Nat
 | 0,_ => none
 | j + 1,i => if p i = true then some i else seek p j (i + 1)
theorem LF {p:Nat → Bool}:∀ {j i:Nat},seek p j i = none ↔ ∀ k,i ≤ k → k < i + j → p k = false
 | 0,i => by simp only [seek,true_iff]; intro k h1 h2; omega
 | j + 1,i => by
  simp only [seek]
  by_cases hp:p i = true
  ·rw [if_pos hp]
   simp only [false_iff,reduceCtorEq]
   intro h
   have:=h i (Nat.le_refl _) (by omega)
   rw [hp] at this; cases this
  ·rw [if_neg hp,LF]
   constructor
   ·intro h k h1 h2
    by_cases e:k = i
    ·subst e; simpa using hp
    ·exact h k (by omega) (by omega)
   ·intro h k h1 h2; exact h k (by omega) (by omega)
theorem CY {p:Nat → Bool} {j i:Nat} (h:p i = true):seek p (j + 1) i = some i:=by simp [seek,h]
theorem O8 {p:Nat → Bool} {j i:Nat} (h:p i = false):seek p (j + 1) i = seek p j (i + 1):=by simp [seek,h]
structure Sys where
 al:Int
 st:Int
 es:List Edge
 deriving DecidableEq,Inhabited
theorem aKI {R:Type} {E:Env} {call:a7} {h:H} {f:FuncId} {args:List A} {r:A} {k:A → H → Option R} {id e g e2 g2:Nat} {cs cs2:List D} (hi:h[id]? = some (.arr cs e g)) (hid:idsL args = [id]) (hm:(E.hint f).mode = 0) (hr:idsA r = []) (he:call f (aH (aK [id]) args) [.arr cs e g] = some (r,[.arr cs2 e2 g2])) :
  aL E call h f args k = k r (h.set id (.arr cs2 e2 g2)):=by
 have hre:aF aG h [id] [] = [id]:=by
  have e1:aF aG h [id] [] = match h[id]? with
   | some (.box cs) => aF (aG - 1) h ([] ++ idsL cs) ([] ++ [id])
   | some (.vec cs _ _) => aF (aG - 1) h ([] ++ idsL cs) ([] ++ [id])
   | some .void => aF (aG - 1) h [] []
   | some _ => aF (aG - 1) h [] ([] ++ [id])
   | none => aF (aG - 1) h [] []:=rfl
  rw [e1,hi]; rfl
 have hpk:pack h [id] = [.arr cs e g]:=by
  simp only [pack,List.map_cons,List.map_nil,List.getD_eq_getElem?_getD,hi]; rfl
 unfold aL
 rw [hid,hre,hpk]
 have hc:dO call E.hint [.arr cs e g] f (aH (aK [id]) args) = some (r,[.arr cs2 e2 g2]):=by
  unfold dO; rw [hm]; exact he
 rw [hc]
 have hcl:closed h [id] [id] = true:=by
  simp only [closed,List.all_cons,List.all_nil,hi]; simp
 simp only [List.length_cons,List.length_nil,Nat.le_refl,hcl,and_self,if_true,tU r hr]
 simp only [bG,mapO,List.map_nil,List.append_nil]
structure Aut where
 al:Int
 nx:List (List Int)
 ac:List Bool
 deriving DecidableEq,Inhabited
def rowD (r:List Int):D:=.ivs r.length (ints r)
def aC (rs:List (List Int)):List D:=rs.map rowD
def aB (l:List Bool):List D:=l.map .bool
theorem mZ {l:List (List Int)}:(aC l).length = l.length:=by simp [aC]
theorem d7 {l:List Bool}:(aB l).length = l.length:=by simp [aB]
theorem iU {l:List Bool} {k:Nat} (h:l.length ≤ k):(aB l).take k = aB l:=List.take_of_length_le (by rw [d7]; exact h)
theorem aBs {l:List Bool} {k:Nat} (h:k < l.length):(((aB l).drop k).map A.d).head? = some (.d (.bool (l.getD k false))):=by
 rw [List.head?_map,List.head?_drop,aB,List.getElem?_map,List.getD_eq_getElem?_getD,List.getElem?_eq_getElem h]
 rfl
theorem aJ6 {l:List Bool} {k:Nat} {v:Bool} (h:k < l.length):bS (aB l) k [.bool v] = aB (l.set k v):=GX _ l k v h
theorem UH {l:List (List Int)} {k:Nat} (h:k < l.length):(((aC l).drop k).map A.d).head? = some (.d (.ivs (l.getD k []).length (ints (l.getD k [])))):=by
 rw [List.head?_map,List.head?_drop,aC,List.getElem?_map,List.getD_eq_getElem?_getD,List.getElem?_eq_getElem h]
 rfl
theorem nT {l:List (List Int)} {k:Nat} (h:l.length ≤ k):(aC l).take k = aC l:=List.take_of_length_le (by rw [mZ]; exact h)
theorem LA:type_of% (AI @mZ (AI @d7 (AI @iU (AI @aBs (AI @UH @nT))))) :=
 ⟨@mZ,@d7,@iU,@aBs,@UH,@nT⟩
theorem dZ:env.P.underlying 23 = some (.slice 32):=by kernel_rfl
theorem eN:env.P.cellsOf 32 = 1:=by kernel_rfl
theorem M4 (rs:List (List Int)) (r:List Int):aJ rs ++ [.arr (ints r) 1 0] = aJ (rs ++ [r]):=aJE rs r
def aX (rs:List (List Int)):Prop:=rs.length ≤ 4294967296 ∧ ∀ r ∈ rs,r.length ≤ 4294967296
theorem tB {rs:List (List Int)} (h:aX rs) {k:Nat} (hk:k < rs.length):(rs.getD k []).length ≤ 4294967296:=by
 rw [List.getD_eq_getElem?_getD,List.getElem?_eq_getElem hk]
 exact h.2 _ (List.getElem_mem hk)
theorem yH:env.P.underlying 24 = some (.slice 4):=by kernel_rfl
end Ev
end Go.Proofs.YtppdfjdfjfoddaaDoor
