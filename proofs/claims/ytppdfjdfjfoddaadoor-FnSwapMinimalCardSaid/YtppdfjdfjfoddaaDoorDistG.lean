/-
  Automata with exchanged aE, the program's way, when the result is data.
-/
import Derived.Test.YtppdfjdfjfoddaaDoorAutH
import Derived.Test.YtppdfjdfjfoddaaDoorBlock
import Derived.Test.YtppdfjdfjfoddaaDoorWords
import Derived.Tactics
set_option linter.unusedSimpArgs false
set_option linter.unusedVariables false
set_option maxRecDepth 8000
set_option maxHeartbeats 4000000
namespace Go.Proofs.YtppdfjdfjfoddaaDoor
namespace Ev
theorem vV {R:Type} {L n:Nat} (hn:4 ≤ n) (hL:2 ^ 60 ≤ L) {al al2 x y q:Int} {rs:List (List Int)} {z d e:Nat} {cs2 cn:List D} (hs:aX rs) (hq0:0 ≤ q) (hq1:q < rs.length) (hx0:0 ≤ x) (hx1:x ≤ 5) (hy0:0 ≤ y) (hy1:y ≤ 5) {ls:List Int} (hls:∀ v ∈ ls,0 ≤ v ∧ v ≤ 5) (hll:ls.length ≤ 6) {k:Exit → List A → H → Option R}:∀ (j:Nat) (i:Int) (m:Nat) (r:List Int) (len:Nat) (h0:0 ≤ i) (hi:i + j = ls.length) (hm:j < m) (hr:r.length ≤ 6 - j) (hlen:len = r.length),
  aU env (aA env L n) L 0 [0,0,0,0,0,0,0,0,0,0,0,2] (Z1 (U2 (Z2 (Z1 (U4 (U2 (Z16 (Z8 (Z4 (Z1 (U2 (Z4 (U2 (U1 (Z16 (Z8 ([]))))))))))))))))) (fL 1) (U1 (Z2 (U2 (U1 (Z4 (Z2 (U16 (U8 (U4 (U1 (Z2 (U4 (Z2 (Z1 (U16 (U8 ([]))))))))))))))))) m (Y1 (.d (.int .i64 x) :: .d (.int .i64 y) :: Y2 (Y1 (.ptr 0 0 0 :: .d (.bool false) :: .d (.ivs rs.length (ints (iZ al rs))) :: .ptr 1 0 0 :: .d (.int .i64 q) :: .sl 2 0 0 len :: Y16 (Y8 (Y4 (Y1 (.d (.int .i64 (rs.length)) :: .d (.int .i64 q) :: Y4 (.d (.ivs ls.length (ints ls)) :: .d (.int .i64 (ls.length)) :: .d (.int .i64 i) :: Y16 (Y8 ([]))))))))))) [.box [.d (.int .i64 0),.sl 3 0 0 0,.sl 4 0 0 0],.box [.d (.int .i64 al2),.sl 5 0 0 d,.sl 6 0 0 z],.arr (ints r) 1 0,.arr [] 0 0,.arr [] 0 0,.arr cn e 0,.arr cs2 1 0] k
  = k (.exit 2) (Y1 (.d (.int .i64 x) :: .d (.int .i64 y) :: Y2 (Y1 (.ptr 0 0 0 :: .d (.bool false) :: .d (.ivs rs.length (ints (iZ al rs))) :: .ptr 1 0 0 :: .d (.int .i64 q) :: .sl 2 0 0 (r.length + (kS al rs x y (ls.drop i.toNat) q).length) :: Y16 (Y8 (Y4 (Y1 (.d (.int .i64 (rs.length)) :: .d (.int .i64 q) :: Y4 (.d (.ivs ls.length (ints ls)) :: .d (.int .i64 (ls.length)) :: .d (.int .i64 (ls.length)) :: Y16 (Y8 ([]))))))))))) [.box [.d (.int .i64 0),.sl 3 0 0 0,.sl 4 0 0 0],.box [.d (.int .i64 al2),.sl 5 0 0 d,.sl 6 0 0 z],.arr (ints (r ++ kS al rs x y (ls.drop i.toNat) q)) 1 0,.arr [] 0 0,.arr [] 0 0,.arr cn e 0,.arr cs2 1 0]:=by
 intro j
 have hrl:=hs.1
 have htl:=nL al rs
 induction j with
 | zero =>
  intro i m r len h0 hi hm hr hlen
  obtain _ | m:=m; omega
  obtain rfl:i = ls.length:=by omega
  rw [vK]
  simp only [sD,Tryd.f13,SLM,simprocAttr]
  simp -implicitDefEqProofs (maxSteps:=2000000) (disch:=try exact Dz) only [↓DN,↓kAsg,↓kRet,UP,simprocAttr,↓dB,↓eE,↓fO,↓gA,↓aQ,↓eW,↓dA,↓cT,↓cR,↓cS,LA,Int.lt_irrefl,hlen]
  simp only [Int.toNat_natCast,List.drop_length,kS,List.map_nil,List.append_nil,List.length_nil,Nat.add_zero]
 | succ j ih =>
  intro i m r len h0 hi hm hr hlen
  obtain _ | m:=m; omega
  subst hlen
  have hc:i < ls.length:=by omega
  have hk:i.toNat < ls.length:=by omega
  have hv:=P2 hls hk
  have hs1:=EW hv.1 hx0 hy0
  have hs2:=PT (b:=5) hv.2 hx1 hy1
  have hs3:fQ (ls.getD i.toNat 0) x y < 6:=by omega
  have e1:(i + 1).toNat = i.toNat + 1:=by omega
  have hrr:(r ++ [goI al rs q (fQ (ls.getD i.toNat 0) x y)]).length ≤ 6 - j:=by simp; omega
  have hr6:r.length ≤ 6:=by omega
  have hcl:(fQ (ls.getD i.toNat 0) x y).toNat ≤ (List.drop (q.toNat * 6) (ints (iZ al rs))).length:=by rw [List.length_drop,dQ,htl]; omega
  clear hv
  rw [vK]
  simp only [sD,Tryd.f13,SLM,simprocAttr]
  simp -implicitDefEqProofs (maxSteps:=2000000) (disch:=try exact Dz) only [↓DN,↓kAsg,↓kRet,UP,simprocAttr,↓dB,↓eE,↓fO,↓gA,↓aQ,↓eW,↓dA,↓cT,↓cR,↓cS,LA,hc,dL,dY,u_t6,u_a6,c_a6,KW,VM,htl,cY,gZ,List.length_append,Nat.sub_self,↓ih]
  rw [aFY hk,e1]
  simp only [List.append_assoc,List.cons_append,List.nil_append,List.length_append,List.length_cons,List.length_nil,Nat.add_assoc,Nat.add_comm 1,Nat.zero_add]
theorem M1 {R:Type} {L n:Nat} (hn:4 ≤ n) (hL:2 ^ 60 ≤ L) {al al2 x y:Int} {rs:List (List Int)} {z:Nat} {cs2:List D} (hs:aX rs) (hx0:0 ≤ x) (hx1:x ≤ 5) (hy0:0 ≤ y) (hy1:y ≤ 5) {ls:List Int} (hle:ls = aE al2) (hls:∀ v ∈ ls,0 ≤ v ∧ v ≤ 5) (hll:ls.length ≤ 6) (ha2:eS al2 = true) {k:Exit → List A → H → Option R}:∀ (j:Nat) (i:Int) (m:Nat) (d:List (List Int)) (len e:Nat) (h0:0 ≤ i) (hi:i + j = rs.length) (hm:j < m) (hd:(d.length:Int) ≤ i) (hlen:len = d.length) (he:e = eR d),
  aU env (aA env L n) L 0 [0,0,0,0,0,0,0,0,0,0,0,2] (Z1 (U2 (Z2 (Z1 (U4 (U2 (Z16 (Z8 (Z4 (Z1 (U2 (Z4 (U2 (U1 (Z16 (Z8 ([]))))))))))))))))) (fL 0) (U1 (Z2 (U2 (U1 (Z4 (U16 (U8 (U4 (U2 (U1 (Z2 (U16 (U8 (U4 (U2 (U1 ([]))))))))))))))))) m (Y1 (.d (.int .i64 x) :: .d (.int .i64 y) :: Y2 (Y1 (.ptr 0 0 0 :: .d (.bool false) :: .d (.ivs rs.length (ints (iZ al rs))) :: .ptr 1 0 0 :: Y16 (Y8 (Y4 (Y2 (Y1 (.d (.int .i64 (rs.length)) :: .d (.int .i64 i) :: Y16 (Y8 (Y4 (Y2 (Y1 ([])))))))))))))) [.box [.d (.int .i64 0),.sl 2 0 0 0,.sl 3 0 0 0],.box [.d (.int .i64 al2),.sl 4 0 0 len,.sl 5 0 0 z],.arr [] 0 0,.arr [] 0 0,.arr (aC d) e 0,.arr cs2 1 0] k
  = k (.exit 0) (Y1 (.d (.int .i64 x) :: .d (.int .i64 y) :: Y2 (Y1 (.ptr 0 0 0 :: .d (.bool false) :: .d (.ivs rs.length (ints (iZ al rs))) :: .ptr 1 0 0 :: Y16 (Y8 (Y4 (Y2 (Y1 (.d (.int .i64 (rs.length)) :: .d (.int .i64 (rs.length)) :: Y16 (Y8 (Y4 (Y2 (Y1 ([])))))))))))))) [.box [.d (.int .i64 0),.sl 2 0 0 0,.sl 3 0 0 0],.box [.d (.int .i64 al2),.sl 4 0 0 (d ++ fD al rs x y ls i.toNat j).length,.sl 5 0 0 z],.arr [] 0 0,.arr [] 0 0,.arr (aC (d ++ fD al rs x y ls i.toNat j)) (eR (d ++ fD al rs x y ls i.toNat j)) 0,.arr cs2 1 0]:=by
 intro j
 have hrl:=hs.1
 induction j with
 | zero =>
  intro i m d len e h0 hi hm hd hlen he
  obtain _ | m:=m; omega
  obtain rfl:i = rs.length:=by omega
  subst hlen
  subst he
  have e1:fD al rs x y ls (rs.length:Int).toNat 0 = []:=rfl
  rw [e1,List.append_nil]
  rw [pC]
  simp only [oC,Tryd.f13,SLM,simprocAttr]
  simp -implicitDefEqProofs (maxSteps:=2000000) (disch:=try exact Dz) only [↓DN,↓kAsg,↓kRet,UP,simprocAttr,↓dB,↓eE,↓fO,↓gA,↓aQ,↓eW,↓dA,↓cT,↓cR,↓cS,↓vV,LA,Int.lt_irrefl]
 | succ j ih =>
  intro i m d len e h0 hi hm hd hlen he
  obtain _ | m:=m; omega
  subst hlen
  have hc:i < rs.length:=by omega
  have hk:i.toNat < rs.length:=by omega
  have e1:(i + 1).toNat = i.toNat + 1:=by omega
  have e2:((i.toNat:Nat):Int) = i:=by omega
  have loop_a:=fun {R:Type} {k:Exit → List A → H → Option R} => vV (R:=R) (L:=L) (n:=n) hn hL (al:=al) (al2:=al2) (q:=i) (z:=z) (cs2:=cs2) (cn:=aC d) (e:=e) (d:=d.length) hs h0 hc hx0 hx1 hy0 hy1 hls hll (k:=k) ls.length 0 L [] 0 (by omega) (by omega) (by omega) (by simp) rfl
  simp only [Int.toNat_zero,List.drop_zero,List.nil_append,List.length_nil,Nat.zero_add,qS] at loop_a
  have hd2:((d ++ [kS al rs x y ls i]).length:Int) ≤ i + 1:=by simp; omega
  have hd3:d.length ≤ 4294967295:=by omega
  have ht:(aC d).take d.length = aC d:=nT (Nat.le_refl _)
  have hrw:(kS al rs x y ls i).length ≤ 6:=by rw [U3]; exact hll
  have he2:1 = eR (d ++ [kS al rs x y ls i]):=CO.symm
  have hl2:d.length + 1 = (d ++ [kS al rs x y ls i]).length:=by simp
  rw [XM,e2]
  subst hle
  rcases aA2 d with h1 | h1
  ·have he0:e = 0:=by omega
   subst he0
   rw [pC]
   simp only [oC,Tryd.f13,SLM,simprocAttr]
   simp -implicitDefEqProofs (maxSteps:=2000000) (disch:=try exact Dz) only [↓DN,↓kAsg,↓kRet,UP,simprocAttr,↓dB,↓eE,↓fO,↓gA,↓aQ,↓eW,↓dA,↓cT,↓cR,↓cS,LA,hc,dL,dY,dZ,eN,↓loop_a,ht,tN,List.length_append,CO,dQ,cY,↓ih]
   rw [e1]
   simp only [List.append_assoc,List.cons_append,List.nil_append,List.length_append,List.length_cons,List.length_nil,Nat.add_assoc,Nat.add_comm 1,Nat.zero_add]
  ·have he0:e = 1:=by omega
   subst he0
   rw [pC]
   simp only [oC,Tryd.f13,SLM,simprocAttr]
   simp -implicitDefEqProofs (maxSteps:=2000000) (disch:=try exact Dz) only [↓DN,↓kAsg,↓kRet,UP,simprocAttr,↓dB,↓eE,↓fO,↓gA,↓aQ,↓eW,↓dA,↓cT,↓cR,↓cS,LA,hc,dL,dY,dZ,eN,↓loop_a,ht,tN,List.length_append,CO,dQ,cY,↓ih]
   rw [e1]
   simp only [List.append_assoc,List.cons_append,List.nil_append,List.length_append,List.length_cons,List.length_nil,Nat.add_assoc,Nat.add_comm 1,Nat.zero_add]
theorem aCr {l:List Bool} (hl:l.length ≤ 4294967296):JY 1 [.d (.ivs l.length (aB l))] [] = some (.sl 0 0 0 l.length,[.arr (aB l) 1 0]):=by
 have h2:cX [] 1 (.d (.ivs l.length (aB l))) = some (l.length,aB l):=by
  simp only [cX,d7,Nat.mul_one,if_true]
 have h3:l.length ≤ bW:=by unfold bW; omega
 simp only [JY,h2,h3,if_true]
 rfl
theorem aIX {R:Type} {E:Env} {call:a7} {h h2:H} {f:FuncId} {args:List A} {r:A} {k:A → H → Option R} (hs:args.all DI = true) (hm:(E.hint f).mode = 0) (hc:call f args [] = some (r,h2)) :
  aL E call h f args k = k (mapA (back [] h.length h2.length) r) (h ++ h2.map (mapO (back [] h.length h2.length))):=by
 have hid:=GM hs
 unfold aL
 rw [hid,P4,mK _ hid]
 have hpk:pack h [] = []:=rfl
 rw [hpk]
 unfold dO
 rw [hm,hc]
 simp only [List.length_nil,Nat.zero_le,true_and,closed,List.all_nil,Bool.and_self,if_true,bG]
theorem j9 {R:Type} {L n:Nat} {hq:H} {k:A → H → Option R} (hn:1 ≤ n) (l:List Bool) (hl:l.length ≤ 4294967296) :
  aL env (aA env L n) hq 36 [.d (.ivs l.length (aB l))] k = k (.sl hq.length 0 0 l.length) (hq ++ [.arr (aB l) 1 0]):=by
 obtain _ | n:=n; omega
 rw [aIX rfl m4 (by rw [ED]; exact aCr hl)]
 simp [mapA,back,mapO]
theorem TV {L n:Nat} (hn:6 ≤ n) (al x y:Int) (rs:List (List Int)) (ac:List Bool) (hs:aX rs) (ha:ac.length ≤ 4294967296) (hL:2 ^ 60 ≤ L):aA env L n 13 [.agg [.d (.int .i64 al),.d (.ivs rs.length (aC rs)),.d (.ivs ac.length (aB ac))],.d (.int .i64 x),.d (.int .i64 y)] [] = some (.tup [.agg [.d (.int .i64 (n9 al x y (eO al rs ac x y))),.d (.ivs (kP al rs x y (eO al rs ac x y)).length (aC (kP al rs x y (eO al rs ac x y)))),.d (.ivs (kR ac (eO al rs ac x y)).length (aB (kR ac (eO al rs ac x y))))],.d (.bool (eO al rs ac x y))],[]):=by
 have hrl:=hs.1
 unfold eO
 cases hv:jB al rs ac with
 | false =>
  obtain _ | n:=n; omega
  rw [o7]
  simp only [nJ,Tryd.f13,SLM,simprocAttr]
  simp -implicitDefEqProofs (maxSteps:=2000000) (disch:=try exact Dz) only [↓DN,↓kAsg,↓kRet,UP,simprocAttr,↓dB,↓eE,↓fO,↓gA,↓j9,↓aQ,↓eW,↓dA,↓cT,↓cR,↓cS,LA,hv,Bool.false_and,n9,kP,kR,Bool.false_eq_true,if_false,List.length_nil,lD,nV]
 | true =>
  cases hx:bL x with
  | false =>
   obtain _ | n:=n; omega
   rw [o7]
   simp only [nJ,Tryd.f13,SLM,simprocAttr]
   simp -implicitDefEqProofs (maxSteps:=2000000) (disch:=try exact Dz) only [↓DN,↓kAsg,↓kRet,UP,simprocAttr,↓dB,↓eE,↓fO,↓gA,↓j9,↓aQ,↓eW,↓dA,↓cT,↓cR,↓cS,LA,hv,hx,Bool.false_and,Bool.and_false,n9,kP,kR,Bool.false_eq_true,if_false,List.length_nil,lD,nV]
  | true =>
   cases hy:bL y with
   | false =>
    obtain _ | n:=n; omega
    rw [o7]
    simp only [nJ,Tryd.f13,SLM,simprocAttr]
    simp -implicitDefEqProofs (maxSteps:=2000000) (disch:=try exact Dz) only [↓DN,↓kAsg,↓kRet,UP,simprocAttr,↓dB,↓eE,↓fO,↓gA,↓j9,↓aQ,↓eW,↓dA,↓cT,↓cR,↓cS,LA,hv,hx,hy,Bool.false_and,Bool.and_false,n9,kP,kR,Bool.false_eq_true,if_false,List.length_nil,lD,nV]
   | true =>
    have bx:=gY.1 hx
    have by':=gY.1 hy
    have hw:=y3 hv
    have hll:=eP (b5 al x y)
    have hal:=(mT hv).2.2.2
    have loop_a:=fun {R:Type} {n:Nat} (hn:4 ≤ n) {k:Exit → List A → H → Option R} => M1 (R:=R) (L:=L) (n:=n) hn hL (al:=al) (al2:=b5 al x y) (z:=ac.length) (cs2:=aB ac) hs bx.1 bx.2 by'.1 by'.2 (ls:=aE (b5 al x y)) rfl pA hll (K0 hal hx hy) (k:=k) rs.length 0 L [] 0 0 (by omega) (by omega) (by omega) (by simp) rfl rfl
    simp only [Int.toNat_zero,List.nil_append,lD] at loop_a
    have hrn:(fD al rs x y (aE (b5 al x y)) 0 rs.length).length = rs.length:=rA
    have htk:∀ z,z = rs.length → (aC (fD al rs x y (aE (b5 al x y)) 0 rs.length)).take z = aC (fD al rs x y (aE (b5 al x y)) 0 rs.length):=fun z hz => nT (by rw [hrn]; omega)
    have htk2:=htk rs.length rfl
    have hbt:(aB ac).take ac.length = aB ac:=iU (Nat.le_refl _)
    rcases aA2 (fD al rs x y (aE (b5 al x y)) 0 rs.length) with h1 | h1
    ·have hlen:=mT hv
     have:eR (fD al rs x y (aE (b5 al x y)) 0 rs.length) = 1:=by
      unfold eR
      rw [if_neg (by intro hc; rw [hc] at hrn; simp at hrn; omega)]
     omega
    ·obtain _ | n:=n; omega
     rw [o7]
     simp only [nJ,Tryd.f13,SLM,simprocAttr]
     simp -implicitDefEqProofs (maxSteps:=2000000) (disch:=try exact Dz) only [↓DN,↓kAsg,↓kRet,UP,simprocAttr,↓dB,↓eE,↓fO,↓gA,↓j9,↓aQ,↓eW,↓dA,↓cT,↓cR,↓cS,LA,hv,hx,hy,Bool.and_self,↓loop_a,h1,hrn,htk2,hbt,n9,kP,kR,if_true,d7,mZ]
theorem tJ {R:Type} {L n:Nat} {hq:H} {k:A → H → Option R} (hn:6 ≤ n) (al x y:Int) (rs:List (List Int)) (ac:List Bool) (hs:aX rs) (ha:ac.length ≤ 4294967296) (hL:2 ^ 60 ≤ L):aL env (aA env L n) hq 13 [.agg [.d (.int .i64 al),.d (.ivs rs.length (aC rs)),.d (.ivs ac.length (aB ac))],.d (.int .i64 x),.d (.int .i64 y)] k = k (.tup [.agg [.d (.int .i64 (n9 al x y (eO al rs ac x y))),.d (.ivs (kP al rs x y (eO al rs ac x y)).length (aC (kP al rs x y (eO al rs ac x y)))),.d (.ivs (kR ac (eO al rs ac x y)).length (aB (kR ac (eO al rs ac x y))))],.d (.bool (eO al rs ac x y))]) hq :=
 aV rfl (TV hn al x y rs ac hs ha hL) rfl (.inr rfl)
section
def wH:List Int → List Int → Prop
 | a :: x,b :: y => a < b ∨ a = b ∧ wH x y
 | _,_ => False
def slt (x y:List Int):Prop:=x.length < y.length ∨ x.length = y.length ∧ wH x y
theorem aDZ:∀ x:List Int,¬ wH x x
 | [],h => h
 | a :: x,h => by
  rcases h with h | ⟨_,h⟩
  ·omega
  ·exact aDZ x h
theorem YH:∀ {x y z:List Int},wH x y → wH y z → wH x z
 | [],_,_,h,_ => h.elim
 | _ :: _,[],_,h,_ => h.elim
 | _ :: _,_ :: _,[],_,h => h.elim
 | a :: x,b :: y,c :: z,h,k => by
  rcases h with h | ⟨rfl,h⟩
  ·rcases k with k | ⟨rfl,k⟩
   ·exact .inl (by omega)
   ·exact .inl h
  ·rcases k with k | ⟨rfl,k⟩
   ·exact .inl k
   ·exact .inr ⟨rfl,YH h k⟩
theorem aEj:∀ {x y:List Int},x.length = y.length → x = y ∨ wH x y ∨ wH y x
 | [],[],_ => .inl rfl
 | [],_ :: _,h => by simp at h
 | _ :: _,[],h => by simp at h
 | a :: x,b :: y,h => by
  rcases Int.lt_trichotomy a b with h1 | h1 | h1
  ·exact .inr (.inl (.inl h1))
  ·subst h1
   rcases aEj (x:=x) (y:=y) (by simpa using h) with h2 | h2 | h2
   ·exact .inl (by rw [h2])
   ·exact .inr (.inl (.inr ⟨rfl,h2⟩))
   ·exact .inr (.inr (.inr ⟨rfl,h2⟩))
  ·exact .inr (.inr (.inl h1))
theorem aCB (x:List Int):¬ slt x x:=by
 intro h
 rcases h with h | ⟨_,h⟩
 ·omega
 ·exact aDZ x h
theorem MB {x y z:List Int} (h:slt x y) (k:slt y z):slt x z:=by
 rcases h with h | ⟨h1,h⟩ <;> rcases k with k | ⟨k1,k⟩
 ·exact .inl (by omega)
 ·exact .inl (by omega)
 ·exact .inl (by omega)
 ·exact .inr ⟨by omega,YH h k⟩
theorem aQk (x y:List Int):x = y ∨ slt x y ∨ slt y x:=by
 rcases Nat.lt_trichotomy x.length y.length with h | h | h
 ·exact .inr (.inl (.inl h))
 ·rcases aEj h with k | k | k
  ·exact .inl k
  ·exact .inr (.inl (.inr ⟨h,k⟩))
  ·exact .inr (.inr (.inr ⟨h.symm,k⟩))
 ·exact .inr (.inr (.inl h))
theorem GP:∀ {u v:List Int} {a b:Int},u.length = v.length → (wH (u ++ [a]) (v ++ [b]) ↔ wH u v ∨ u = v ∧ a < b)
 | [],[],a,b,_ => by simp [wH]
 | [],_ :: _,a,b,h => by simp at h
 | _ :: _,[],a,b,h => by simp at h
 | x :: u,y :: v,a,b,h => by
  have ih:=GP (u:=u) (v:=v) (a:=a) (b:=b) (by simpa using h)
  simp only [List.cons_append,wH,ih,List.cons.injEq]
  constructor
  ·rintro (k | ⟨rfl,k | ⟨rfl,k⟩⟩)
   ·exact .inl (.inl k)
   ·exact .inl (.inr ⟨rfl,k⟩)
   ·exact .inr ⟨⟨rfl,rfl⟩,k⟩
  ·rintro ((k | ⟨rfl,k⟩) | ⟨⟨rfl,rfl⟩,k⟩)
   ·exact .inl k
   ·exact .inr ⟨rfl,.inl k⟩
   ·exact .inr ⟨rfl,.inr ⟨rfl,k⟩⟩
theorem PD {u v:List Int} {a b:Int}:slt (u ++ [a]) (v ++ [b]) ↔ slt u v ∨ u = v ∧ a < b:=by
 unfold slt
 simp only [List.length_append,List.length_cons,List.length_nil]
 constructor
 ·rintro (h | ⟨h,k⟩)
  ·exact .inl (.inl (by omega))
  ·have hl:u.length = v.length:=by omega
   rcases (GP hl).1 k with k | k
   ·exact .inl (.inr ⟨hl,k⟩)
   ·exact .inr k
 ·rintro ((h | ⟨h,k⟩) | ⟨rfl,k⟩)
  ·exact .inl (by omega)
  ·exact .inr ⟨by omega,(GP h).2 (.inl k)⟩
  ·exact .inr ⟨rfl,(GP rfl).2 (.inr ⟨rfl,k⟩)⟩
def Path (nx:Int → Int → List Int) (ls:List Int):Int → List Int → Int → Prop
 | v,[],u => v = u
 | v,l :: w,u => l ∈ ls ∧ ∃ m ∈ nx v l,Path nx ls m w u
section
variable {nx:Int → Int → List Int} {ls:List Int}
theorem aGE:∀ {x y:List Int} {v u:Int},Path nx ls v (x ++ y) u ↔ ∃ m,Path nx ls v x m ∧ Path nx ls m y u
 | [],y,v,u => by simp [Path]
 | l :: x,y,v,u => by
  simp only [List.cons_append,Path,aGE (x:=x)]
  constructor
  ·rintro ⟨h,m,hm,q,h1,h2⟩
   exact ⟨q,⟨h,m,hm,h1⟩,h2⟩
  ·rintro ⟨q,⟨h,m,hm,h1⟩,h2⟩
   exact ⟨h,m,hm,q,h1,h2⟩
theorem aDV {w:List Int} {l v u:Int}:Path nx ls v (w ++ [l]) u ↔ l ∈ ls ∧ ∃ m,Path nx ls v w m ∧ u ∈ nx m l:=by
 rw [aGE]
 simp only [Path]
 constructor
 ·rintro ⟨m,h1,h2,q,h3,rfl⟩
  exact ⟨h2,m,h1,h3⟩
 ·rintro ⟨h2,m,h1,h3⟩
  exact ⟨m,h1,h2,u,h3,rfl⟩
def AH (nx:Int → Int → List Int) (ls start w:List Int) (u:Int):Prop:=∃ s ∈ start,Path nx ls s w u
def Hits (nx:Int → Int → List Int) (ls start:List Int) (gl:Int → Bool) (w:List Int):Prop:=∃ u,AH nx ls start w u ∧ gl u = true
def VG (P:List Int → Prop) (w:List Int):Prop:=P w ∧ ∀ x,P x → ¬ slt x w
def aOY (P:List Int → Prop) (r:List Int × Bool):Prop:=(r.2 = true ∧ VG P r.1) ∨ (r = ([],false) ∧ ∀ w,¬ P w)
end
end
section
structure PStep where
 par:Int
 lt:Int
 ns:List Int
instance:Inhabited PStep:=⟨⟨0,0,[]⟩⟩
def visG (gl:Int → Bool):List Int → List Bool → List Int → Bool → List Bool × List Int × Bool
 | [],s,f,b => (s,f,b)
 | n :: ns,s,f,b => if s.getD n.toNat false = true then visG gl ns s f b else visG gl ns (s.set n.toNat true) (f ++ [n]) (b || gl n)
def addP (st:List PStep) (p l:Int) (f:List Int):List PStep:=if f = [] then st else st ++ [⟨p,l,f⟩]
def flat (nx:Int → Int → List Int) (ns:List Int) (l:Int):List Int:=ns.flatMap fun n => nx n l
def ltG (nx:Int → Int → List Int) (gl:Int → Bool) (ns:List Int) (p:Int):List Int → List Bool × List PStep → Bool × List Bool × List PStep
 | [],q => (false,q)
 | l :: ls,q =>
  if (visG gl (flat nx ns l) q.1 [] false).2.2 = true then (true,(visG gl (flat nx ns l) q.1 [] false).1,addP q.2 p l (visG gl (flat nx ns l) q.1 [] false).2.1)
  else ltG nx gl ns p ls ((visG gl (flat nx ns l) q.1 [] false).1,addP q.2 p l (visG gl (flat nx ns l) q.1 [] false).2.1)
def outG (nx:Int → Int → List Int) (gl:Int → Bool) (ls:List Int):Nat → Nat → List Bool × List PStep → Bool × List Bool × List PStep
 | 0,_,q => (false,q)
 | j + 1,i,q => if i < q.2.length then
   (if (ltG nx gl (q.2.getD i default).ns i ls q).1 = true then ltG nx gl (q.2.getD i default).ns i ls q
    else outG nx gl ls j (i + 1) (ltG nx gl (q.2.getD i default).ns i ls q).2)
  else (false,q)
def j8 (st:List PStep):Nat → Nat → List Int
 | 0,_ => []
 | j + 1,i => if 0 ≤ (st.getD i default).par then j8 st j (st.getD i default).par.toNat ++ [(st.getD i default).lt] else []
def P8 (nx:Int → Int → List Int) (gl:Int → Bool) (ls start:List Int) (size:Nat):List Int × Bool :=
 if (visG gl start (List.replicate size false) [] false).2.2 = true then ([],true)
 else if (outG nx gl ls (size + 1) 0 ((visG gl start (List.replicate size false) [] false).1,addP [] (-1) 0 (visG gl start (List.replicate size false) [] false).2.1)).1 = true then
  (j8 (outG nx gl ls (size + 1) 0 ((visG gl start (List.replicate size false) [] false).1,addP [] (-1) 0 (visG gl start (List.replicate size false) [] false).2.1)).2.2
   (outG nx gl ls (size + 1) 0 ((visG gl start (List.replicate size false) [] false).1,addP [] (-1) 0 (visG gl start (List.replicate size false) [] false).2.1)).2.2.length
   ((outG nx gl ls (size + 1) 0 ((visG gl start (List.replicate size false) [] false).1,addP [] (-1) 0 (visG gl start (List.replicate size false) [] false).2.1)).2.2.length - 1),true)
 else ([],false)
def Sn (s:List Bool) (n:Int):Prop:=s.getD n.toNat false = true
theorem aRK {s:List Bool} {n m:Int} (h0:0 ≤ n) (h1:n < s.length) (hm:0 ≤ m):Sn (s.set n.toNat true) m ↔ m = n ∨ Sn s m:=by
 unfold Sn
 rw [List.getD_eq_getElem?_getD,List.getD_eq_getElem?_getD,List.getElem?_set]
 by_cases h:n.toNat = m.toNat
 ·have:m = n:=by omega
  subst this
  simp [show m.toNat < s.length by omega]
 ·have:m ≠ n:=by omega
  simp [h,this]
structure Vis (gl:Int → Bool) (ns:List Int) (s:List Bool) (f:List Int) (b:Bool) (r:List Bool × List Int × Bool):Prop where
 seen:∀ m,0 ≤ m → (Sn r.1 m ↔ Sn s m ∨ m ∈ ns)
 new:∀ m,m ∈ r.2.1 ↔ m ∈ f ∨ (m ∈ ns ∧ ¬ Sn s m)
 hit:r.2.2 = true ↔ b = true ∨ ∃ m,m ∈ ns ∧ ¬ Sn s m ∧ gl m = true
 cnt:r.2.1.length + r.1.count false = f.length + s.count false
 len:r.1.length = s.length
theorem aBo:∀ {s:List Bool} {k:Nat},s.getD k false = false → k < s.length → (s.set k true).count false + 1 = s.count false
 | [],k,h,hk => by simp at hk
 | b :: s,0,h,hk => by
  simp at h
  subst h
  simp
 | b :: s,k + 1,h,hk => by
  have ih:=aBo (s:=s) (k:=k) (by simpa using h) (by simpa using hk)
  simp only [List.set_cons_succ,List.count_cons]
  omega
theorem aCc (gl:Int → Bool):∀ (ns:List Int) (s:List Bool) (f:List Int) (b:Bool),(∀ n ∈ ns,0 ≤ n ∧ n < s.length) → Vis gl ns s f b (visG gl ns s f b)
 | [],s,f,b,_ => ⟨by simp [visG],by simp [visG],by simp [visG],rfl,rfl⟩
 | n :: ns,s,f,b,h => by
  have h2:=h n List.mem_cons_self
  unfold visG
  split
  ·rename_i h1
   have ih:=aCc gl ns s f b fun m hm => h m (List.mem_cons_of_mem _ hm)
   refine ⟨fun m hm => ?_,fun m => ?_,?_,ih.cnt,ih.len⟩
   ·rw [ih.seen m hm]
    constructor
    ·rintro (k | k)
     ·exact .inl k
     ·exact .inr (List.mem_cons_of_mem _ k)
    ·rintro (k | k)
     ·exact .inl k
     ·rcases List.mem_cons.1 k with rfl | k
      ·exact .inl h1
      ·exact .inr k
   ·rw [ih.new m]
    constructor
    ·rintro (k | ⟨k,k2⟩)
     ·exact .inl k
     ·exact .inr ⟨List.mem_cons_of_mem _ k,k2⟩
    ·rintro (k | ⟨k,k2⟩)
     ·exact .inl k
     ·rcases List.mem_cons.1 k with rfl | k
      ·exact (k2 h1).elim
      ·exact .inr ⟨k,k2⟩
   ·rw [ih.hit]
    constructor
    ·rintro (k | ⟨m,k,k2⟩)
     ·exact .inl k
     ·exact .inr ⟨m,List.mem_cons_of_mem _ k,k2⟩
    ·rintro (k | ⟨m,k,k2⟩)
     ·exact .inl k
     ·rcases List.mem_cons.1 k with rfl | k
      ·exact (k2.1 h1).elim
      ·exact .inr ⟨m,k,k2⟩
  ·rename_i h1
   have ih:=aCc gl ns (s.set n.toNat true) (f ++ [n]) (b || gl n) fun m hm => by simpa using h m (List.mem_cons_of_mem _ hm)
   have hpos:∀ m ∈ ns,0 ≤ m:=fun m hm => (h m (List.mem_cons_of_mem _ hm)).1
   have hs:=fun {m:Int} (hm:0 ≤ m) => aRK (s:=s) (n:=n) (m:=m) h2.1 h2.2 hm
   refine ⟨fun m hm => ?_,fun m => ?_,?_,?_,?_⟩
   ·rw [ih.seen m hm,hs hm,List.mem_cons]
    constructor
    ·rintro ((k | k) | k)
     ·exact .inr (.inl k)
     ·exact .inl k
     ·exact .inr (.inr k)
    ·rintro (k | k | k)
     ·exact .inl (.inr k)
     ·exact .inl (.inl k)
     ·exact .inr k
   ·rw [ih.new m,List.mem_append,List.mem_singleton,List.mem_cons]
    constructor
    ·rintro ((k | rfl) | ⟨k,k2⟩)
     ·exact .inl k
     ·exact .inr ⟨.inl rfl,h1⟩
     ·rw [hs (hpos m k)] at k2
      exact .inr ⟨.inr k,fun h3 => k2 (.inr h3)⟩
    ·rintro (k | ⟨rfl | k,k2⟩)
     ·exact .inl (.inl k)
     ·exact .inl (.inr rfl)
     ·by_cases hmn:m = n
      ·exact .inl (.inr hmn)
      ·refine .inr ⟨k,fun h3 => ?_⟩
       rw [hs (hpos m k)] at h3
       rcases h3 with h3 | h3
       ·exact hmn h3
       ·exact k2 h3
   ·rw [ih.hit,Bool.or_eq_true]
    constructor
    ·rintro ((k | k) | ⟨m,k,k2,k3⟩)
     ·exact .inl k
     ·exact .inr ⟨n,List.mem_cons_self,h1,k⟩
     ·rw [hs (hpos m k)] at k2
      exact .inr ⟨m,List.mem_cons_of_mem _ k,fun h3 => k2 (.inr h3),k3⟩
    ·rintro (k | ⟨m,k,k2,k3⟩)
     ·exact .inl (.inl k)
     ·by_cases hmn:m = n
      ·subst hmn; exact .inl (.inr k3)
      ·rcases List.mem_cons.1 k with k | k
       ·exact (hmn k).elim
       ·refine .inr ⟨m,k,fun h3 => ?_,k3⟩
        rw [hs (hpos m k)] at h3
        rcases h3 with h3 | h3
        ·exact hmn h3
        ·exact k2 h3
   ·have:=aBo (s:=s) (k:=n.toNat) (by simpa using h1) (by omega)
    have hc:=ih.cnt
    simp only [List.length_append,List.length_cons,List.length_nil] at hc
    omega
   ·have:=ih.len
    simpa using this
section
variable {nx:Int → Int → List Int} {gl:Int → Bool} {ls start:List Int} {size:Nat}
def Asc (l:List Int):Prop:=l.Pairwise (· < ·)
structure Mid (nx:Int → Int → List Int) (gl:Int → Bool) (ls start:List Int) (size:Nat) (i:Nat) (ds:List Int) (s:List Bool) (st:List PStep) (W:Nat → List Int):Prop where
 len:s.length = size
 room:st.length + s.count false ≤ size
 wide:∀ k,k < st.length → (st.getD k default).ns.length ≤ size
 par0:∀ k,k < st.length → ((st.getD k default).par < 0 ∧ W k = []) ∨ (∃ p:Nat,(st.getD k default).par = p ∧ p < k ∧ (p < i ∨ p = i ∧ (st.getD k default).lt ∈ ds) ∧ W k = W p ++ [(st.getD k default).lt])
 nodes:∀ k,k < st.length → ∀ n ∈ (st.getD k default).ns,AH nx ls start (W k) n ∧ Sn s n ∧ (0 ≤ n ∧ n < size)
 all:∀ n,0 ≤ n → Sn s n → ∃ k,k < st.length ∧ n ∈ (st.getD k default).ns
 asc:∀ j k,j < k → k < st.length → slt (W j) (W k)
 least:∀ k,k < st.length → ∀ n ∈ (st.getD k default).ns,∀ w,AH nx ls start w n → ¬ slt w (W k)
 none:∀ n,0 ≤ n → Sn s n → gl n = false
 begun:∀ n ∈ start,Sn s n
 done:∀ k,k < st.length → ∀ p ∈ (st.getD k default).ns,∀ l ∈ ls,(k < i ∨ k = i ∧ l ∈ ds) → ∀ m ∈ nx p l,Sn s m
theorem KU {n:Int}:AH nx ls start [] n ↔ n ∈ start:=by
 unfold AH Path
 constructor
 ·rintro ⟨s,h,rfl⟩; exact h
 ·intro h; exact ⟨n,h,rfl⟩
theorem QA {w:List Int} {l n:Int}:AH nx ls start (w ++ [l]) n ↔ l ∈ ls ∧ ∃ m,AH nx ls start w m ∧ n ∈ nx m l:=by
 unfold AH
 constructor
 ·rintro ⟨s,h,k⟩
  obtain ⟨h1,m,h2,h3⟩:=aDV.1 k
  exact ⟨h1,m,⟨s,h,h2⟩,h3⟩
 ·rintro ⟨h1,m,⟨s,h,h2⟩,h3⟩
  exact ⟨s,h,aDV.2 ⟨h1,m,h2,h3⟩⟩
theorem PH (w:List Int):w = [] ∨ ∃ u l,w = u ++ [l]:=by
 rcases List.eq_nil_or_concat w with h | ⟨u,l,h⟩
 ·exact .inl h
 ·exact .inr ⟨u,l,by simpa using h⟩
theorem aJy {i:Nat} {ds:List Int} {l:Int} {rs:List Int} {s:List Bool} {st:List PStep} {W:Nat → List Int} (hm:Mid nx gl ls start size i ds s st W) (hi:i < st.length) (hls:ls = ds ++ l :: rs) (ha:Asc ls) (hnx:∀ p c:Int,0 ≤ p → p < size → c ∈ ls → ∀ m ∈ nx p c,0 ≤ m ∧ m < size) (hst:∀ n ∈ start,0 ≤ n ∧ n < size) :
  ∀ (q:Nat) (w:List Int),w.length = q → slt w (W i ++ [l]) → ∀ n,AH nx ls start w n → Sn s n ∧ (0 ≤ n ∧ n < size):=by
 intro q
 induction q with
 | zero =>
  intro w hw hlt n hc
  have:w = []:=List.length_eq_zero_iff.1 hw
  subst this
  have:=KU.1 hc
  exact ⟨hm.begun n this,hst n this⟩
 | succ q ih =>
  intro w hw hlt n hc
  rcases PH w with rfl | ⟨u,c,rfl⟩
  ·simp at hw
  obtain ⟨hcl,p,hp,hn⟩:=QA.1 hc
  have hul:u.length = q:=by simpa using hw
  have hu:slt u (W i ++ [l]):=MB (.inl (by simp)) hlt
  obtain ⟨hps,hpr⟩:=ih u hul hu p hp
  refine ⟨?_,hnx p c hpr.1 hpr.2 hcl n hn⟩
  obtain ⟨k,hk,hpk⟩:=hm.all p hpr.1 hps
  have hle:=hm.least k hk p hpk u hp
  have h2:=PD.1 hlt
  refine hm.done k hk p hpk c hcl ?_ n hn
  rcases Nat.lt_trichotomy k i with h | h | h
  ·exact .inl h
  ·subst h
   refine .inr ⟨rfl,?_⟩
   rcases h2 with h2 | ⟨_,h2⟩
   ·exact (hle h2).elim
   ·rw [hls] at hcl ha
    rcases List.mem_append.1 hcl with h3 | h3
    ·exact h3
    ·exfalso
     rcases List.mem_cons.1 h3 with h4 | h4
     ·omega
     ·have h5:=List.pairwise_append.1 ha
      have:=(List.pairwise_cons.1 h5.2.1).1 c h4
      omega
  ·exfalso
   have h3:=hm.asc i k h hk
   rcases h2 with h2 | ⟨h2,_⟩
   ·exact hle (MB h2 h3)
   ·subst h2
    exact hle h3
theorem nG {α:Type} {l m:List α} {i:Nat} {d:α} (h:i < l.length):(l ++ m).getD i d = l.getD i d:=by
 rw [List.getD_eq_getElem?_getD,List.getD_eq_getElem?_getD,List.getElem?_append_left h]
theorem VD {α:Type} {l:List α} {x d:α}:(l ++ [x]).getD l.length d = x:=by
 rw [List.getD_eq_getElem?_getD,List.getElem?_append_right (Nat.le_refl _)]; simp
theorem aQ2 {i:Nat} {ds:List Int} {s:List Bool} {st:List PStep} {W:Nat → List Int} (hm:Mid nx gl ls start size i ds s st W):∀ (j k:Nat),k < j → k < st.length → j8 st j k = W k:=by
 intro j
 induction j with
 | zero => intro k hk; omega
 | succ j ih =>
  intro k hk hl
  unfold j8
  rcases hm.par0 k hl with ⟨h1,h2⟩ | ⟨p,h1,h2,_,h3⟩
  ·rw [if_neg (by omega),h2]
  ·rw [if_pos (by omega),h1,Int.toNat_natCast,ih p (by omega) (by omega),h3]
theorem aOm {i:Nat} {ds:List Int} {l:Int} {rs:List Int} {s:List Bool} {st:List PStep} {W:Nat → List Int} (hm:Mid nx gl ls start size i ds s st W) (hi:i < st.length) (hls:ls = ds ++ l :: rs) (ha:Asc ls) (hnx:∀ p c:Int,0 ≤ p → p < size → c ∈ ls → ∀ m ∈ nx p c,0 ≤ m ∧ m < size) (hst:∀ n ∈ start,0 ≤ n ∧ n < size) :
  ((visG gl (flat nx (st.getD i default).ns l) s [] false).2.2 = true → VG (Hits nx ls start gl) (W i ++ [l]) ∧ (visG gl (flat nx (st.getD i default).ns l) s [] false).2.1 ≠ []) ∧
  ((visG gl (flat nx (st.getD i default).ns l) s [] false).2.2 ≠ true → ∃ W',Mid nx gl ls start size i (ds ++ [l]) (visG gl (flat nx (st.getD i default).ns l) s [] false).1 (addP st i l (visG gl (flat nx (st.getD i default).ns l) s [] false).2.1) W'):=by
 have hll:l ∈ ls:=by rw [hls]; simp
 have hreach:∀ n ∈ flat nx (st.getD i default).ns l,AH nx ls start (W i ++ [l]) n ∧ (0 ≤ n ∧ n < size):=by
  intro n hn
  obtain ⟨p,hp,hpn⟩:=List.mem_flatMap.1 hn
  obtain ⟨h1,_,h3⟩:=hm.nodes i hi p hp
  exact ⟨QA.2 ⟨hll,p,h1,hpn⟩,hnx p l h3.1 h3.2 hll n hpn⟩
 have hv:=aCc gl (flat nx (st.getD i default).ns l) s [] false fun n hn => by rw [hm.len]; exact (hreach n hn).2
 have hbef:=fun w => aJy hm hi hls ha hnx hst w.length w rfl
 generalize hns:flat nx (st.getD i default).ns l = ns at *
 generalize hr:visG gl ns s [] false = r at *
 obtain ⟨s2,f,b⟩:=r
 have v1:=hv.seen
 have v2:∀ m,m ∈ f ↔ m ∈ ns ∧ ¬ Sn s m:=fun m => by have:=hv.new m; simpa using this
 have v3:b = true ↔ ∃ m,m ∈ ns ∧ ¬ Sn s m ∧ gl m = true:=by have:=hv.hit; simpa using this
 have v4:f.length + s2.count false = s.count false:=by have:=hv.cnt; simpa using this
 have v5:s2.length = s.length:=hv.len
 simp only at v1 ⊢
 constructor
 ·intro hb
  obtain ⟨m,h1,h2,h3⟩:=v3.1 hb
  refine ⟨⟨⟨m,(hreach m h1).1,h3⟩,?_⟩,?_⟩
  ·rintro x ⟨u,hu,hg⟩ hlt
   obtain ⟨k1,k2⟩:=hbef x hlt u hu
   rw [hm.none u k2.1 k1] at hg
   cases hg
  ·intro hf
   have:=(v2 m).2 ⟨h1,h2⟩
   rw [hf] at this
   cases this
 ·intro hb
  have hnone:∀ n,0 ≤ n → Sn s2 n → gl n = false:=by
   intro n hn hs
   rcases (v1 n hn).1 hs with h | h
   ·exact hm.none n hn h
   ·by_cases hs0:Sn s n
    ·exact hm.none n hn hs0
    ·cases hg:gl n with
     | false => rfl
     | true => exact (hb (v3.2 ⟨n,h,hs0,hg⟩)).elim
  have hsn:∀ n,0 ≤ n → Sn s n → Sn s2 n:=fun n hn h => (v1 n hn).2 (.inl h)
  have hdone:∀ p ∈ (st.getD i default).ns,∀ m ∈ nx p l,Sn s2 m:=by
   intro p hp m hmm
   have:m ∈ ns:=by rw [← hns]; exact List.mem_flatMap.2 ⟨p,hp,hmm⟩
   exact (v1 m (hreach m this).2.1).2 (.inr this)
  unfold addP
  by_cases hf:f = []
  ·rw [if_pos hf]
   subst hf
   refine ⟨W,⟨by rw [v5,hm.len],by have:=hm.room; simp at v4; omega,hm.wide,?_,?_,?_,hm.asc,hm.least,hnone,?_,?_⟩⟩
   ·intro k hk
    rcases hm.par0 k hk with h | ⟨p,h1,h2,h3,h4⟩
    ·exact .inl h
    ·refine .inr ⟨p,h1,h2,?_,h4⟩
     rcases h3 with h3 | ⟨h3,h5⟩
     ·exact .inl h3
     ·exact .inr ⟨h3,List.mem_append_left _ h5⟩
   ·intro k hk n hn
    obtain ⟨h1,h2,h3⟩:=hm.nodes k hk n hn
    exact ⟨h1,hsn n h3.1 h2,h3⟩
   ·intro n hn hs
    rcases (v1 n hn).1 hs with h | h
    ·exact hm.all n hn h
    ·by_cases hs0:Sn s n
     ·exact hm.all n hn hs0
     ·have:=(v2 n).2 ⟨h,hs0⟩
      cases this
   ·intro n hn
    exact hsn n (hst n hn).1 (hm.begun n hn)
   ·intro k hk p hp c hc hor m hmm
    have hpr:=(hm.nodes k hk p hp).2.2
    have hmr:=hnx p c hpr.1 hpr.2 hc m hmm
    rcases hor with h | ⟨h,h2⟩
    ·exact hsn m hmr.1 (hm.done k hk p hp c hc (.inl h) m hmm)
    ·rcases List.mem_append.1 h2 with h3 | h3
     ·exact hsn m hmr.1 (hm.done k hk p hp c hc (.inr ⟨h,h3⟩) m hmm)
     ·simp at h3
      subst h3; subst h
      exact hdone p hp m hmm
  ·rw [if_neg hf]
   have hfl:0 < f.length:=List.length_pos_iff.2 hf
   refine ⟨fun k => if k = st.length then W i ++ [l] else W k,?_⟩
   have hold:∀ k,k < st.length → (st ++ [(⟨i,l,f⟩:PStep)]).getD k default = st.getD k default:=fun k hk => nG hk
   have hnew:(st ++ [(⟨i,l,f⟩:PStep)]).getD st.length default = ⟨i,l,f⟩:=VD
   have hlen:(st ++ [(⟨i,l,f⟩:PStep)]).length = st.length + 1:=by simp
   have hmax:∀ k,k < st.length → slt (W k) (W i ++ [l]):=by
    intro k hk
    rcases hm.par0 k hk with ⟨_,h⟩ | ⟨p,h1,h2,h3,h4⟩
    ·rw [h]; exact .inl (by simp)
    ·rw [h4,PD]
     rcases h3 with h3 | ⟨h3,h5⟩
     ·exact .inl (hm.asc p i h3 hi)
     ·subst h3
      refine .inr ⟨rfl,?_⟩
      rw [hls] at ha
      have h6:=List.pairwise_append.1 ha
      exact h6.2.2 _ h5 l List.mem_cons_self
   refine ⟨by rw [v5,hm.len],by have:=hm.room; rw [hlen]; omega,?_,?_,?_,?_,?_,?_,hnone,?_,?_⟩
   ·intro k hk
    rw [hlen] at hk
    by_cases h:k < st.length
    ·rw [hold k h]; exact hm.wide k h
    ·obtain rfl:k = st.length:=by omega
     rw [hnew]
     have:=List.count_le_length (a:=false) (l:=s)
     have:=hm.len
     show f.length ≤ size
     omega
   ·intro k hk
    rw [hlen] at hk
    by_cases h:k < st.length
    ·rw [hold k h]
     simp only [show k ≠ st.length by omega,if_false]
     rcases hm.par0 k h with h0 | ⟨p,h1,h2,h3,h4⟩
     ·exact .inl h0
     ·refine .inr ⟨p,h1,h2,?_,?_⟩
      ·rcases h3 with h3 | ⟨h3,h5⟩
       ·exact .inl h3
       ·exact .inr ⟨h3,List.mem_append_left _ h5⟩
      ·rw [if_neg (by omega)]; exact h4
    ·obtain rfl:k = st.length:=by omega
     rw [hnew]
     refine .inr ⟨i,rfl,hi,.inr ⟨rfl,by simp⟩,?_⟩
     simp only [if_true]
     rw [if_neg (by omega)]
   ·intro k hk n hn
    rw [hlen] at hk
    by_cases h:k < st.length
    ·rw [hold k h] at hn
     obtain ⟨h1,h2,h3⟩:=hm.nodes k h n hn
     simp only [show k ≠ st.length by omega,if_false]
     exact ⟨h1,hsn n h3.1 h2,h3⟩
    ·obtain rfl:k = st.length:=by omega
     rw [hnew] at hn
     have h1:=((v2 n).1 hn).1
     have h2:=hreach n h1
     simp only [if_true]
     exact ⟨h2.1,(v1 n h2.2.1).2 (.inr h1),h2.2⟩
   ·intro n hn hs
    by_cases hs0:Sn s n
    ·obtain ⟨k,hk,h1⟩:=hm.all n hn hs0
     exact ⟨k,by omega,by rw [hold k hk]; exact h1⟩
    ·rcases (v1 n hn).1 hs with h | h
     ·exact (hs0 h).elim
     ·exact ⟨st.length,by omega,by rw [hnew]; exact (v2 n).2 ⟨h,hs0⟩⟩
   ·intro j k hjk hk
    rw [hlen] at hk
    by_cases h:k < st.length
    ·simp only [show k ≠ st.length by omega,show j ≠ st.length by omega,if_false]
     exact hm.asc j k hjk h
    ·obtain rfl:k = st.length:=by omega
     simp only [show j ≠ st.length by omega,if_false,if_true]
     exact hmax j hjk
   ·intro k hk n hn w hw
    rw [hlen] at hk
    by_cases h:k < st.length
    ·rw [hold k h] at hn
     simp only [show k ≠ st.length by omega,if_false]
     exact hm.least k h n hn w hw
    ·obtain rfl:k = st.length:=by omega
     rw [hnew] at hn
     simp only [if_true]
     intro hlt
     exact ((v2 n).1 hn).2 (hbef w hlt n hw).1
   ·intro n hn
    exact hsn n (hst n hn).1 (hm.begun n hn)
   ·intro k hk p hp c hc hor m hmm
    rw [hlen] at hk
    by_cases h:k < st.length
    ·rw [hold k h] at hp
     have hpr:=(hm.nodes k h p hp).2.2
     have hmr:=hnx p c hpr.1 hpr.2 hc m hmm
     rcases hor with h1 | ⟨h1,h2⟩
     ·exact hsn m hmr.1 (hm.done k h p hp c hc (.inl h1) m hmm)
     ·rcases List.mem_append.1 h2 with h3 | h3
      ·exact hsn m hmr.1 (hm.done k h p hp c hc (.inr ⟨h1,h3⟩) m hmm)
      ·simp at h3
       subst h3; subst h1
       exact hdone p hp m hmm
    ·exfalso
     omega
theorem aHi {i:Nat} (ha:Asc ls) (hnx:∀ p c:Int,0 ≤ p → p < size → c ∈ ls → ∀ m ∈ nx p c,0 ≤ m ∧ m < size) (hst:∀ n ∈ start,0 ≤ n ∧ n < size) {ns:List Int}:∀ (rs ds:List Int) (s:List Bool) (st:List PStep) (W:Nat → List Int),Mid nx gl ls start size i ds s st W → i < st.length → ls = ds ++ rs → ns = (st.getD i default).ns →
  ((ltG nx gl ns i rs (s,st)).1 = true → VG (Hits nx ls start gl) (j8 (ltG nx gl ns i rs (s,st)).2.2 (ltG nx gl ns i rs (s,st)).2.2.length ((ltG nx gl ns i rs (s,st)).2.2.length - 1))) ∧
  ((ltG nx gl ns i rs (s,st)).1 ≠ true → st.length ≤ (ltG nx gl ns i rs (s,st)).2.2.length ∧ ∃ W',Mid nx gl ls start size (i + 1) [] (ltG nx gl ns i rs (s,st)).2.1 (ltG nx gl ns i rs (s,st)).2.2 W'):=by
 intro rs
 induction rs with
 | nil =>
  intro ds s st W hm hi hls hns
  simp only [List.append_nil] at hls
  subst hls
  refine ⟨fun h => by simp [ltG] at h,fun _ => ⟨Nat.le_refl _,W,hm.len,hm.room,hm.wide,?_,hm.nodes,hm.all,hm.asc,hm.least,hm.none,hm.begun,?_⟩⟩
  ·intro k hk
   rcases hm.par0 k hk with h0 | ⟨p,h1,h2,h3,h4⟩
   ·exact .inl h0
   ·exact .inr ⟨p,h1,h2,.inl (by omega),h4⟩
  ·intro k hk p hp l hl hor m hmm
   rcases hor with h | ⟨_,h⟩
   ·exact hm.done k hk p hp l hl (by by_cases hki:k = i; exact .inr ⟨hki,hl⟩; exact .inl (by omega)) m hmm
   ·cases h
 | cons l rs ih =>
  intro ds s st W hm hi hls hns
  obtain ⟨h1,h2⟩:=aOm hm hi hls ha hnx hst
  rw [← hns] at h1 h2
  simp only [ltG]
  by_cases hb:(visG gl (flat nx ns l) s [] false).2.2 = true
  ·simp only [hb,if_true]
   refine ⟨fun _ => ?_,fun h => (h rfl).elim⟩
   obtain ⟨k1,k2⟩:=h1 hb
   unfold addP
   rw [if_neg k2]
   simp only [List.length_append,List.length_cons,List.length_nil,Nat.zero_add,Nat.add_sub_cancel]
   have hw:j8 (st ++ [⟨i,l,(visG gl (flat nx ns l) s [] false).2.1⟩]) (st.length + 1) st.length = W i ++ [l]:=by
    unfold j8
    rw [VD]
    simp only [Int.toNat_natCast]
    rw [if_pos (by omega)]
    congr 1
    have hpre:∀ (j k:Nat),k < j → k < st.length → ∀ x,j8 (st ++ [x]) j k = j8 st j k:=by
     intro j
     induction j with
     | zero => intro k hk; omega
     | succ j ihj =>
      intro k hk hl x
      unfold j8
      rw [nG hl]
      rcases hm.par0 k hl with ⟨h1,h2⟩ | ⟨p,h1,h2,_,h3⟩
      ·rw [if_neg (by omega),if_neg (by omega)]
      ·rw [if_pos (by omega),if_pos (by omega),h1,Int.toNat_natCast,ihj p (by omega) (by omega)]
    rw [hpre _ _ hi hi,aQ2 hm _ _ hi hi]
   rw [hw]
   exact k1
  ·simp only [hb,if_false]
   obtain ⟨W',hm'⟩:=h2 hb
   have hle:st.length ≤ (addP st i l (visG gl (flat nx ns l) s [] false).2.1).length:=by
    unfold addP; split <;> simp
   have hget:ns = ((addP st i l (visG gl (flat nx ns l) s [] false).2.1).getD i default).ns:=by
    rw [hns]
    unfold addP
    split
    ·rfl
    ·rw [nG hi]
   obtain ⟨g1,g2⟩:=ih (ds ++ [l]) _ _ W' hm' (by omega) (by rw [hls]; simp) hget
   exact ⟨g1,fun h => ⟨Nat.le_trans hle (g2 h).1,(g2 h).2⟩⟩
theorem aMi (ha:Asc ls) (hnx:∀ p c:Int,0 ≤ p → p < size → c ∈ ls → ∀ m ∈ nx p c,0 ≤ m ∧ m < size) (hst:∀ n ∈ start,0 ≤ n ∧ n < size):∀ (j i:Nat) (s:List Bool) (st:List PStep) (W:Nat → List Int),Mid nx gl ls start size i [] s st W → i ≤ st.length → size + 1 ≤ i + j →
  ((outG nx gl ls j i (s,st)).1 = true → VG (Hits nx ls start gl) (j8 (outG nx gl ls j i (s,st)).2.2 (outG nx gl ls j i (s,st)).2.2.length ((outG nx gl ls j i (s,st)).2.2.length - 1))) ∧
  ((outG nx gl ls j i (s,st)).1 ≠ true → ∀ w,¬ Hits nx ls start gl w):=by
 have fin:∀ (i:Nat) (s:List Bool) (st:List PStep) (W:Nat → List Int),Mid nx gl ls start size i [] s st W → ¬ i < st.length → ∀ w,¬ Hits nx ls start gl w:=by
  intro i s st W hm hi w
  have key:∀ (q:Nat) (w:List Int),w.length = q → ∀ n,AH nx ls start w n → Sn s n ∧ (0 ≤ n ∧ n < size):=by
   intro q
   induction q with
   | zero =>
    intro w hw n hc
    have:w = []:=List.length_eq_zero_iff.1 hw
    subst this
    have:=KU.1 hc
    exact ⟨hm.begun n this,hst n this⟩
   | succ q ih =>
    intro w hw n hc
    rcases PH w with rfl | ⟨u,c,rfl⟩
    ·simp at hw
    obtain ⟨hcl,p,hp,hn⟩:=QA.1 hc
    obtain ⟨h1,h2⟩:=ih u (by simpa using hw) p hp
    obtain ⟨k,hk,hpk⟩:=hm.all p h2.1 h1
    exact ⟨hm.done k hk p hpk c hcl (.inl (by omega)) n hn,hnx p c h2.1 h2.2 hcl n hn⟩
  rintro ⟨u,hu,hg⟩
  obtain ⟨h1,h2⟩:=key w.length w rfl u hu
  rw [hm.none u h2.1 h1] at hg
  cases hg
 intro j
 induction j with
 | zero =>
  intro i s st W hm hi hj
  have:=hm.room
  exfalso; omega
 | succ j ih =>
  intro i s st W hm hi hj
  simp only [outG]
  by_cases hlt:i < st.length
  ·simp only [hlt,if_true]
   obtain ⟨h1,h2⟩:=aHi (ns:=(st.getD i default).ns) ha hnx hst ls [] s st W hm hlt rfl rfl
   by_cases hb:(ltG nx gl (st.getD i default).ns i ls (s,st)).1 = true
   ·simp only [hb,if_true]
    exact ⟨fun _ => h1 hb,fun h => (h rfl).elim⟩
   ·simp only [hb,if_false]
    obtain ⟨h3,W',hm'⟩:=h2 hb
    exact ih (i + 1) _ _ W' hm' (Nat.le_trans hlt h3) (by omega)
  ·rw [if_neg hlt]
   exact ⟨fun h => Bool.noConfusion h,fun _ => fin i s st W hm hlt⟩
theorem aQg (ha:Asc ls) (hnx:∀ p c:Int,0 ≤ p → p < size → c ∈ ls → ∀ m ∈ nx p c,0 ≤ m ∧ m < size) (hst:∀ n ∈ start,0 ≤ n ∧ n < size) (hne:start ≠ []):aOY (Hits nx ls start gl) (P8 nx gl ls start size):=by
 have hz:∀ n,¬ Sn (List.replicate size false) n:=by
  intro n
  unfold Sn
  rw [List.getD_eq_getElem?_getD,List.getElem?_replicate]
  split <;> simp
 have hv:=aCc gl start (List.replicate size false) [] false fun n hn => by simpa using hst n hn
 unfold P8
 generalize visG gl start (List.replicate size false) [] false = r at *
 obtain ⟨s2,f,b⟩:=r
 have v1:∀ m,0 ≤ m → (Sn s2 m ↔ m ∈ start):=fun m hm => by have:=hv.seen m hm; simp only [hz,false_or] at this; exact this
 have v2:∀ m,m ∈ f ↔ m ∈ start:=fun m => by have:=hv.new m; simpa [hz] using this
 have v3:b = true ↔ ∃ m,m ∈ start ∧ gl m = true:=by have:=hv.hit; simpa [hz] using this
 have v4:f.length + s2.count false = size:=by have:=hv.cnt; simpa using this
 have v5:s2.length = size:=by have:=hv.len; simpa using this
 simp only
 by_cases hb:b = true
 ·rw [if_pos hb]
  obtain ⟨m,h1,h2⟩:=v3.1 hb
  refine .inl ⟨rfl,⟨m,KU.2 h1,h2⟩,fun x _ hx => ?_⟩
  rcases hx with hx | ⟨hx,hy⟩
  ·simp at hx
  ·have:x = []:=List.length_eq_zero_iff.1 (by simpa using hx)
   subst this
   exact hy
 ·rw [if_neg hb]
  have hf:f ≠ []:=by
   intro h
   apply hne
   cases start with
   | nil => rfl
   | cons a az =>
    have:=(v2 a).2 List.mem_cons_self
    rw [h] at this; cases this
  have hfl:0 < f.length:=List.length_pos_iff.2 hf
  have hst1:addP [] (-1) 0 f = [⟨-1,0,f⟩]:=by unfold addP; rw [if_neg hf]; rfl
  rw [hst1]
  have hm:Mid nx gl ls start size 0 [] s2 [⟨-1,0,f⟩] (fun _ => []):=by
   refine ⟨v5,by simp; omega,?_,?_,?_,?_,?_,?_,?_,?_,?_⟩
   ·intro k hk
    obtain rfl:k = 0:=by simpa using hk
    show f.length ≤ size
    omega
   ·intro k hk
    obtain rfl:k = 0:=by simpa using hk
    exact .inl ⟨by show (-1:Int) < 0; decide,rfl⟩
   ·intro k hk n hn
    obtain rfl:k = 0:=by simpa using hk
    have h1:=(v2 n).1 hn
    have h2:=hst n h1
    exact ⟨KU.2 h1,(v1 n h2.1).2 h1,h2⟩
   ·intro n hn hs
    exact ⟨0,by simp,(v2 n).2 ((v1 n hn).1 hs)⟩
   ·intro j k hjk hk
    simp at hk
    omega
   ·intro k hk n hn w hw hlt
    rcases hlt with h | ⟨h,h2⟩
    ·simp at h
    ·have:w = []:=List.length_eq_zero_iff.1 (by simpa using h)
     subst this
     exact h2
   ·intro n hn hs
    cases hg:gl n with
    | false => rfl
    | true => exact (hb (v3.2 ⟨n,(v1 n hn).1 hs,hg⟩)).elim
   ·intro n hn
    exact (v1 n (hst n hn).1).2 hn
   ·intro k hk p hp l hl hor m hmm
    obtain rfl:k = 0:=by simpa using hk
    rcases hor with h | ⟨_,h⟩
    ·omega
    ·cases h
  obtain ⟨g1,g2⟩:=aMi ha hnx hst (size + 1) 0 s2 [⟨-1,0,f⟩] _ hm (by simp) (by omega)
  by_cases ho:(outG nx gl ls (size + 1) 0 (s2,[⟨-1,0,f⟩])).1 = true
  ·rw [if_pos ho]
   exact .inl ⟨rfl,g1 ho⟩
  ·rw [if_neg ho]
   exact .inr ⟨rfl,g2 ho⟩
end
end
section
def addC (dist:List Int) (d:Int):List Int → List Int → List Int
 | [],out => out
 | m :: ms,out => if dist.getD m.toNat 0 = d ∧ m ∉ out then addC dist d ms (out ++ [m]) else addC dist d ms out
def aFX (tab:List (List (List Int))) (dist:List Int) (k:Nat) (d:Int):List Int → List Int → List Int
 | [],out => out
 | v :: vs,out => aFX tab dist k d vs (addC dist d ((tab.getD v.toNat []).getD k []) out)
section
variable {nx:Int → Int → List Int} {gl:Int → Bool} {ls:List Int} {KM:Nat} {tab:List (List (List Int))}
structure Tab (nx:Int → Int → List Int) (ls:List Int) (KM:Nat) (tab:List (List (List Int))):Prop where
 len:tab.length = KM
 row:∀ v:Nat,v < KM → tab.getD v [] = ls.map (nx v)
 rng:∀ v c:Int,0 ≤ v → v < KM → c ∈ ls → ∀ m ∈ nx v c,0 ≤ m ∧ m < KM
end
end
end Ev
end Go.Proofs.YtppdfjdfjfoddaaDoor
