/-
  Where a word leads from a state, as the laws tell it; classes of valid automata.
-/
import Derived.Test.YtppdfjdfjfoddaaDoorClassW
set_option linter.unusedSimpArgs false
set_option linter.unusedVariables false
set_option maxRecDepth 8000
set_option maxHeartbeats 4000000
namespace Go.Proofs.YtppdfjdfjfoddaaDoor
namespace Ev
theorem YY {L n:Nat} (hn:7 ≤ n) (a:Aut) (ha:AOK a) (hL:2 ^ 60 ≤ L):aA env L n 10 [.agg [.d (.int .i64 a.al),.d (.ivs a.nx.length (aJ a.nx)),.d (.ivs a.ac.length (aK a.ac))]] [] = some (.d (.ivs (lS a).length (ints (lS a))),[]):=by
 obtain ⟨sa,wa,a1,a2,a3⟩:=dU ha
 have hrl:=sa.1
 have hac:a.ac.length ≤ 4294967296:=by omega
 have kc_t:=fun {R:Type} {n:Nat} {hq:H} {k:A → H → Option R} (hn:6 ≤ n) => @aDY R L n hq k hn a ha hL
 unfold AOK at ha
 generalize lS a = w at *
 obtain _ | n:=n; omega
 rw [YZ]
 simp only [ME,Tryd.f10,SLM,simprocAttr]
 simp -implicitDefEqProofs (maxSteps:=2000000) (disch:=try exact Dz) only [↓DN,↓kAsg,↓kRet,UP,simprocAttr,↓a7,↓a6,↓aT,↓aU,↓aV,LA,ha,↓kc_t]
theorem eR {R:Type} {L n:Nat} {hq:H} {k:A → H → Option R} (hn:7 ≤ n) (a:Aut) (ha:AOK a) (hL:2 ^ 60 ≤ L):aL env (aA env L n) hq 10 [.agg [.d (.int .i64 a.al),.d (.ivs a.nx.length (aJ a.nx)),.d (.ivs a.ac.length (aK a.ac))]] k = k (.d (.ivs (lS a).length (ints (lS a)))) hq :=
 a5 rfl (YY hn a ha hL) rfl (.inr rfl)
theorem aP0 {L n:Nat} (hn:1 ≤ n) (a i:Int) (hi:0 ≤ i) (hi2:i ≤ 9223372036854775807):aA env L n 30 [.d (.int .i64 a),.d (.int .i64 i)] [] = some (.d (.bool (iM a i)),[]):=by
 obtain _ | n:=n; omega
 rw [aO4]
 simp only [aJX,Tryd.f30,SLM,simprocAttr]
 simp -implicitDefEqProofs (maxSteps:=2000000) (disch:=try exact Dz) only [↓DN,↓kAsg,↓kRet,UP,simprocAttr,↓ST,aNP,aAO,aIv]
 rfl
theorem EH {R:Type} {L n:Nat} {hq:H} {k:A → H → Option R} (hn:1 ≤ n) (a i:Int) (hi:0 ≤ i) (hi2:i ≤ 9223372036854775807):aL env (aA env L n) hq 30 [.d (.int .i64 a),.d (.int .i64 i)] k = k (.d (.bool (iM a i))) hq :=
 a5 rfl (aP0 hn a i hi hi2) rfl (.inl rfl)
theorem aGG {R:Type} {L n:Nat} (hn:2 ≤ n) {al:Int} {nx:List (List Int)} {z:Nat} {cs:List D} {st:Int} {w:Str} {i:Nat} {l:Int} (hi:i < w.length) (hl:ltr (w.getD i 0) = l) (hl6:l < 6) {k:Exit → List A → H → Option R}:∀ (j:Nat) (c p:Int) (m:Nat) (h0:0 ≤ c) (hj:c + j = l) (hm:j < m) (hp0:0 ≤ p) (hp1:p ≤ c),
  aO env (aA env L n) L 0 [] (Z1 (U2 (U1 (Z2 (U4 (Z16 (Z8 (Z4 (Z2 ([])))))))))) (qG 1) (U1 (Z2 (Z1 (U2 (Z4 (U16 (U8 (U4 (U2 ([])))))))))) m (Y1 (.d (.int .i64 st) :: .d (.str w) :: .ptr 0 0 0 :: Y2 (.d (.int .i64 0) :: .d (.int .i64 ((i:Int))) :: .d (.int .i64 p) :: .d (.int .i64 c) :: Y16 (Y8 (Y4 (Y2 ([]))))))) [.box [.d (.int .i64 al),.d (.ivs nx.length (aJ nx)),.d (.ivs z cs)]] k
  = k (.exit 2) (Y1 (.d (.int .i64 st) :: .d (.str w) :: .ptr 0 0 0 :: Y2 (.d (.int .i64 0) :: .d (.int .i64 ((i:Int))) :: .d (.int .i64 ((p + cntB al j c))) :: .d (.int .i64 l) :: Y16 (Y8 (Y4 (Y2 ([]))))))) [.box [.d (.int .i64 al),.d (.ivs nx.length (aJ nx)),.d (.ivs z cs)]]:=by
 have hik:(i:Int) < w.length:=by omega
 have hi0:(0:Int) ≤ i:=by omega
 intro j
 induction j with
 | zero =>
  intro c p m h0 hj hm hp0 hp1
  obtain _ | m:=m; omega
  obtain rfl:c = l:=by omega
  have e:p + ((cntB al 0 c:Nat):Int) = p:=by simp [cntB]
  rw [e]
  rw [GU]
  simp only [H9,Tryd.f11,SLM,simprocAttr]
  simp -implicitDefEqProofs (maxSteps:=2000000) (disch:=try exact Dz) only [↓DN,↓kAsg,↓kRet,UP,simprocAttr,↓EH,LA,hik,hi0,aDS,hl,Int.toNat_natCast,Int.lt_irrefl]
 | succ j ih =>
  intro c p m h0 hj hm hp0 hp1
  obtain _ | m:=m; omega
  have hc:c < l:=by omega
  cases hb:iM al c with
  | true =>
   have e:p + ((cntB al (j + 1) c:Nat):Int) = p + 1 + (cntB al j (c + 1):Nat):=by simp only [cntB,hb,if_true]; omega
   have ih':=ih (c + 1) (p + 1) m (by omega) (by omega) (by omega) (by omega) (by omega)
   rw [e]
   clear ih
   rw [GU]
   simp only [H9,Tryd.f11,SLM,simprocAttr]
   simp -implicitDefEqProofs (maxSteps:=2000000) (disch:=try exact Dz) only [↓DN,↓kAsg,↓kRet,UP,simprocAttr,↓EH,LA,hik,hi0,aDS,hl,hc,hb,Int.toNat_natCast,↓ih']
  | false =>
   have e:p + ((cntB al (j + 1) c:Nat):Int) = p + (cntB al j (c + 1):Nat):=by simp only [cntB,hb,Bool.false_eq_true,if_false]; omega
   have ih':=ih (c + 1) p m (by omega) (by omega) (by omega) (by omega) (by omega)
   rw [e]
   clear ih
   rw [GU]
   simp only [H9,Tryd.f11,SLM,simprocAttr]
   simp -implicitDefEqProofs (maxSteps:=2000000) (disch:=try exact Dz) only [↓DN,↓kAsg,↓kRet,UP,simprocAttr,↓EH,LA,hik,hi0,aDS,hl,hc,hb,Int.toNat_natCast,↓ih']
theorem aGC {R:Type} {L n:Nat} (hn:2 ≤ n) (hL:2 ^ 60 ≤ L) {a:Aut} (ha:AOK a) {w:Str} (hw:u4 a.al w = true) {k:Exit → List A → H → Option R}:∀ (j i m:Nat) (st:Int) (hi:i + j = w.length) (hm:j < m) (s0:0 ≤ st) (s1:st < a.nx.length),
  aO env (aA env L n) L 0 [] (Z1 (U2 (U1 (Z2 (U4 (Z16 (Z8 (Z4 (Z2 ([])))))))))) (qG 0) (U1 (Z2 (Z1 (U2 (Z2 (U32 ([]))))))) m (Y1 (.d (.int .i64 st) :: .d (.str w) :: .ptr 0 0 0 :: Y2 (.d (.int .i64 0) :: .d (.int .i64 ((i:Int))) :: Y32 ([])))) [.box [.d (.int .i64 a.al),.d (.ivs a.nx.length (aJ a.nx)),.d (.ivs a.ac.length (aK a.ac))]] k
  = k (.exit 0) (Y1 (.d (.int .i64 ((stGo a.al a.nx (w.drop i) st))) :: .d (.str w) :: .ptr 0 0 0 :: Y2 (.d (.int .i64 0) :: .d (.int .i64 ((w.length:Int))) :: Y32 ([])))) [.box [.d (.int .i64 a.al),.d (.ivs a.nx.length (aJ a.nx)),.d (.ivs a.ac.length (aK a.ac))]]:=by
 obtain ⟨sa,wa,a1,a2,a3⟩:=dU ha
 have hal:=sa.1
 obtain ⟨hia,hwl,hin⟩:=VW hw
 intro j
 induction j with
 | zero =>
  intro i m st hi hm s0 s1
  obtain _ | m:=m; omega
  obtain rfl:i = w.length:=by omega
  have e:stGo a.al a.nx (w.drop w.length) st = st:=by rw [List.drop_length]; rfl
  rw [e]
  rw [UI]
  simp only [RH,Tryd.f11,SLM,simprocAttr]
  simp -implicitDefEqProofs (maxSteps:=2000000) (disch:=try exact Dz) only [↓DN,↓kAsg,↓kRet,UP,simprocAttr,↓EH,LA,Int.lt_irrefl]
 | succ j ih =>
  intro i m st hi hm s0 s1
  obtain _ | m:=m; omega
  have hk:i < w.length:=by omega
  have hik:(i:Int) < w.length:=by omega
  have hi0:(0:Int) ≤ i:=by omega
  have hb:w.getD i 0 ∈ w:=by rw [List.getD_eq_getElem?_getD,List.getElem?_eq_getElem hk]; exact List.getElem_mem hk
  obtain ⟨hb1,hb2⟩:=hin _ hb
  obtain ⟨l0,l1⟩:=aHY.1 hb1
  obtain ⟨g0,g1⟩:=wM ha (q:=st) s0 s1 l0 l1
  obtain ⟨p1,p2⟩:=FN l0 l1 hb2
  have hrow:=(XF ha (i:=st.toNat) (by omega)).1
  have hll:=eZ a.al
  have hgo:=aD7 (rs:=a.nx) (q:=st) hb2
  have e1:stGo a.al a.nx (w.drop i) st = stGo a.al a.nx (w.drop (i + 1)) (goI a.al a.nx st (ltr (w.getD i 0))):=by
   rw [eS hk (d:=0)]; rfl
  have ih':=ih (i + 1) m (goI a.al a.nx st (ltr (w.getD i 0))) (by omega) (by omega) g0 g1
  rw [show ((i + 1:Nat):Int) = (i:Int) + 1 by omega] at ih'
  have loop_c:=fun {R:Type} {n:Nat} {k:Exit → List A → H → Option R} (hn:2 ≤ n) => @aGG R L n hn a.al a.nx a.ac.length (aK a.ac) st w i (ltr (w.getD i 0)) hk rfl l1 k (ltr (w.getD i 0)).toNat 0 0 L (by omega) (by omega) (by omega) (by omega) (by omega)
  rw [aCw l0 l1,Int.zero_add] at loop_c
  rw [e1]
  rw [hgo] at ih' ⊢
  have hpr:(m9 a.al (ltr (w.getD i 0)):Int) < (a.nx.getD st.toNat []).length:=by omega
  clear ih hb hb1 hb2 p2 hin e1 hgo
  generalize m9 a.al (ltr (w.getD i 0)) = p at *
  generalize ltr (w.getD i 0) = l at *
  rw [UI]
  simp only [RH,Tryd.f11,SLM,simprocAttr]
  simp -implicitDefEqProofs (maxSteps:=2000000) (disch:=try exact Dz) only [↓DN,↓kAsg,↓kRet,UP,simprocAttr,↓EH,LA,hik,hi0,s0,s1,hpr,dW,d9,d7,eD,Int.toNat_natCast,↓loop_c,↓ih']
theorem aGd {L n:Nat} (hn:3 ≤ n) (a:Aut) (ha:AOK a) (w:List UInt8) (hw:u4 a.al w = true) (st:Int) (s0:0 ≤ st) (s1:st < a.nx.length) (hL:2 ^ 60 ≤ L):aA env L n 11 [.agg [.d (.int .i64 a.al),.d (.ivs a.nx.length (aJ a.nx)),.d (.ivs a.ac.length (aK a.ac))],.d (.int .i64 st),.d (.str w)] [] = some (.d (.int .i64 (stGo a.al a.nx w st)),[]):=by
 have hwl:=(VW hw).2.1
 have loop_c:=fun {R:Type} {n:Nat} {k:Exit → List A → H → Option R} (hn:2 ≤ n) => @aGC R L n hn hL a ha w hw k w.length 0 L st (by omega) (by omega) s0 s1
 simp only [Int.natCast_zero,List.drop_zero] at loop_c
 obtain _ | n:=n; omega
 rw [aLF]
 simp only [aHy,Tryd.f11,SLM,simprocAttr]
 simp -implicitDefEqProofs (maxSteps:=2000000) (disch:=try exact Dz) only [↓DN,↓kAsg,↓kRet,UP,simprocAttr,↓EH,LA,↓loop_c]
theorem mR {R:Type} {L n:Nat} {hq:H} {k:A → H → Option R} (hn:3 ≤ n) (a:Aut) (ha:AOK a) (w:List UInt8) (hw:u4 a.al w = true) (st:Int) (s0:0 ≤ st) (s1:st < a.nx.length) (hL:2 ^ 60 ≤ L):aL env (aA env L n) hq 11 [.agg [.d (.int .i64 a.al),.d (.ivs a.nx.length (aJ a.nx)),.d (.ivs a.ac.length (aK a.ac))],.d (.int .i64 st),.d (.str w)] k = k (.d (.int .i64 (stGo a.al a.nx w st))) hq :=
 a5 rfl (aGd hn a ha w hw st s0 s1 hL) rfl (.inl rfl)
theorem nT {R:Type} {L n:Nat} {k:A → Option R} (hn:3 ≤ n) (a:Aut) (ha:AOK a) (w:List UInt8) (hw:u4 a.al w = true) (st:Int) (s0:0 ≤ st) (s1:st < a.nx.length) (hL:2 ^ 60 ≤ L):bL (aA env L n) 11 [.agg [.d (.int .i64 a.al),.d (.ivs a.nx.length (aJ a.nx)),.d (.ivs a.ac.length (aK a.ac))],.d (.int .i64 st),.d (.str w)] k = k (.d (.int .i64 (stGo a.al a.nx w st))) :=
 fR (aGd hn a ha w hw st s0 s1 hL) rfl
theorem kC {R:Type} {L n:Nat} {hq:H} {k:A → H → Option R} {id0 g0 o0 len0:Nat} {a:Aut} {w:List UInt8} {st:Int}:aL env (aA env L n) hq 11 [.agg [.d (.int .i64 a.al),.sl id0 g0 o0 len0,.d (.ivs a.ac.length (aK a.ac))],.d (.int .i64 st),.d (.str w)] k = match box (cZ hq [.agg [.d (.int .i64 a.al),.sl id0 g0 o0 len0,.d (.ivs a.ac.length (aK a.ac))],.d (.int .i64 st),.d (.str w)]) with
  | .mk (some fs) => bL (aA env L n) 11 fs fun r => k r hq
  | _ => none:=aW xQ
theorem kI {R:Type} {L n:Nat} {hq:H} {k:A → H → Option R} {id1 g1 o1 len1:Nat} {a:Aut} {w:List UInt8} {st:Int}:aL env (aA env L n) hq 11 [.agg [.d (.int .i64 a.al),.d (.ivs a.nx.length (aJ a.nx)),.sl id1 g1 o1 len1],.d (.int .i64 st),.d (.str w)] k = match box (cZ hq [.agg [.d (.int .i64 a.al),.d (.ivs a.nx.length (aJ a.nx)),.sl id1 g1 o1 len1],.d (.int .i64 st),.d (.str w)]) with
  | .mk (some fs) => bL (aA env L n) 11 fs fun r => k r hq
  | _ => none:=aW xQ
theorem kH {R:Type} {L n:Nat} {hq:H} {k:A → H → Option R} {id1 g1 o1 len1:Nat} {id0 g0 o0 len0:Nat} {a:Aut} {w:List UInt8} {st:Int}:aL env (aA env L n) hq 11 [.agg [.d (.int .i64 a.al),.sl id0 g0 o0 len0,.sl id1 g1 o1 len1],.d (.int .i64 st),.d (.str w)] k = match box (cZ hq [.agg [.d (.int .i64 a.al),.sl id0 g0 o0 len0,.sl id1 g1 o1 len1],.d (.int .i64 st),.d (.str w)]) with
  | .mk (some fs) => bL (aA env L n) 11 fs fun r => k r hq
  | _ => none:=aW xQ
end Ev
end Go.Proofs.YtppdfjdfjfoddaaDoor
