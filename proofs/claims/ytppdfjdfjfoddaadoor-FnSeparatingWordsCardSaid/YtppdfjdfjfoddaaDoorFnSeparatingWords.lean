/-
  The law: separating words separate.
-/
import Derived.Test.YtppdfjdfjfoddaaDoorAutF
import Derived.Test.YtppdfjdfjfoddaaDoorAgFrom
set_option linter.unusedSimpArgs false
set_option linter.unusedVariables false
set_option maxRecDepth 8000
set_option maxHeartbeats 4000000
namespace Go.Proofs.YtppdfjdfjfoddaaDoor
namespace Ev
theorem LR {R:Type} {L n:Nat} (hn:6 ≤ n) (hL:2 ^ 60 ≤ L) {a:Aut} (ha:AOK a) {l:List Str} (hl:l.length ≤ 100000) (hok:OD a l) {cl:List Int} {i j:Nat} (hi:i < a.nx.length) (hj:j < a.nx.length) {k:Exit → List A → H → Option R}:∀ (c p m:Nat) (b:Bool) (hp:p + c = l.length) (hm:c < m),
  aO env (aA env L n) L 0 [] (Z2 (U8 (Z32 (Z32 (Z16 (Z4 (Z2 (Z1 ([]))))))))) (c7 2) (U2 (Z8 (U32 (U32 (U16 (U4 (U2 (U1 ([]))))))))) m (Y2 (.d (.bool false) :: .ptr 0 0 0 :: .sl 1 0 0 l.length :: .d (.ivs a.nx.length (ints cl)) :: .d (.int .i64 ((i:Int))) :: .d (.int .i64 ((j:Int))) :: .d (.bool b) :: .d (.int .i64 ((p:Int))) :: Y32 (Y32 (Y16 (Y4 (Y2 (Y1 ([])))))))) [.box [.d (.int .i64 a.al),.d (.ivs a.nx.length (aJ a.nx)),.d (.ivs a.ac.length (aK a.ac))],.arr (bV l) 1 0] k
  = k (.exit 4) (Y2 (.d (.bool false) :: .ptr 0 0 0 :: .sl 1 0 0 l.length :: .d (.ivs a.nx.length (ints cl)) :: .d (.int .i64 ((i:Int))) :: .d (.int .i64 ((j:Int))) :: .d (.bool ((b || (l.drop p).any (difW a i j)))) :: .d (.int .i64 ((l.length:Int))) :: Y32 (Y32 (Y16 (Y4 (Y2 (Y1 ([])))))))) [.box [.d (.int .i64 a.al),.d (.ivs a.nx.length (aJ a.nx)),.d (.ivs a.ac.length (aK a.ac))],.arr (bV l) 1 0]:=by
 obtain ⟨sa,wa,a1,a2,a3⟩:=dU ha
 have hal:=sa.1
 intro c
 induction c with
 | zero =>
  intro p m b hp hm
  obtain _ | m:=m; omega
  obtain rfl:p = l.length:=by omega
  have e:(b || (l.drop l.length).any (difW a i j)) = b:=by rw [List.drop_length]; simp
  rw [e]
  rw [pE]
  simp only [n9,Tryd.f3,SLM,simprocAttr]
  simp -implicitDefEqProofs (maxSteps:=2000000) (disch:=try exact Dz) only [↓DN,↓kAsg,↓kRet,UP,simprocAttr,↓dY,↓jJ,↓a7,↓eR,↓mR,↓jK,↓a6,↓nT,↓gQ,↓gR,↓gU,↓aT,↓aU,↓aV,↓kC,↓kI,↓kH,LA,SE,Int.lt_irrefl]
 | succ c ih =>
  intro p m b hp hm
  obtain _ | m:=m; omega
  have hk:p < l.length:=by omega
  have hkc:(p:Int) < l.length:=by omega
  have hp0:(0:Int) ≤ p:=by omega
  have hmem:l.getD p [] ∈ l:=by rw [List.getD_eq_getElem?_getD,List.getElem?_eq_getElem hk]; exact List.getElem_mem hk
  have hwi:=(hok.2 _ hmem).2
  have hany:(l.drop p).any (difW a i j) = (difW a i j (l.getD p []) || (l.drop (p + 1)).any (difW a i j)):=by
   rw [eS hk (d:=[])]; rfl
  rw [hany]
  cases b with
  | true =>
   have ih':=ih (p + 1) m true (by omega) (by omega)
   rw [show ((p + 1:Nat):Int) = (p:Int) + 1 by omega] at ih'
   simp only [Bool.true_or] at ih' ⊢
   clear ih hany
   rw [pE]
   simp only [n9,Tryd.f3,SLM,simprocAttr]
   simp -implicitDefEqProofs (maxSteps:=2000000) (disch:=try exact Dz) only [↓DN,↓kAsg,↓kRet,UP,simprocAttr,↓dY,↓jJ,↓a7,↓eR,↓mR,↓jK,↓a6,↓nT,↓gQ,↓gR,↓gU,↓aT,↓aU,↓aV,↓kC,↓kI,↓kH,LA,SE,hkc,hp0,Int.toNat_natCast,↓ih']
  | false =>
   have ih':=ih (p + 1) m (difW a i j (l.getD p [])) (by omega) (by omega)
   rw [show ((p + 1:Nat):Int) = (p:Int) + 1 by omega] at ih'
   simp only [Bool.false_or] at ih' ⊢
   have hlets:=aEG hwi
   have r1:=zG ha ((l.getD p []).map ltr) (i:Int) hlets (by omega) (by omega)
   have r2:=zG ha ((l.getD p []).map ltr) (j:Int) hlets (by omega) (by omega)
   have q1:0 ≤ stGo a.al a.nx (l.getD p []) i ∧ stGo a.al a.nx (l.getD p []) i < a.nx.length:=by rw [MA]; exact r1
   have q2:0 ≤ stGo a.al a.nx (l.getD p []) j ∧ stGo a.al a.nx (l.getD p []) j < a.nx.length:=by rw [MA]; exact r2
   obtain ⟨q10,q11⟩:=q1
   obtain ⟨q20,q21⟩:=q2
   have q12:stGo a.al a.nx (l.getD p []) i < a.ac.length:=by omega
   have q22:stGo a.al a.nx (l.getD p []) j < a.ac.length:=by omega
   have kc_1:=fun {R:Type} {n:Nat} {hq:H} {k:A → H → Option R} (hn:3 ≤ n) => @mR R L n hq k hn a ha (l.getD p []) hwi i (by omega) (by omega) hL
   have kc_2:=fun {R:Type} {n:Nat} {hq:H} {k:A → H → Option R} (hn:3 ≤ n) => @mR R L n hq k hn a ha (l.getD p []) hwi j (by omega) (by omega) hL
   unfold difW acQ at *
   clear ih hany hlets r1 r2 hmem hwi hok
   generalize hw:l.getD p [] = w at *
   generalize stGo a.al a.nx w i = x at *
   generalize stGo a.al a.nx w j = y at *
   generalize hax:a.ac.getD x.toNat false = bx at *
   generalize hay:a.ac.getD y.toNat false = by' at *
   rw [pE]
   simp only [n9,Tryd.f3,SLM,simprocAttr]
   simp -implicitDefEqProofs (maxSteps:=2000000) (disch:=try exact Dz) only [↓DN,↓kAsg,↓kRet,UP,simprocAttr,↓dY,↓jJ,↓a7,↓eR,↓jK,↓a6,↓nT,↓gQ,↓gR,↓gU,↓aT,↓aU,↓aV,↓kC,↓kI,↓kH,LA,SE,hkc,hp0,hw,hax,hay,q10,q12,q20,q22,Nat.sub_self,List.range'_zero,Int.toNat_natCast,↓kc_1,↓kc_2,A0,↓ih']
theorem J6 {R:Type} {L n:Nat} (hn:6 ≤ n) (hL:2 ^ 60 ≤ L) {a:Aut} (ha:AOK a) {l:List Str} (hl:l.length ≤ 100000) (hok:OD a l) {cl:List Int} (hcl:cl.length = a.nx.length) {i:Nat} (hi:i < a.nx.length) (hs:∀ j,j < i → l.any (difW a i j) = !decide (cl.getD i 0 = cl.getD j 0)) {k:Exit → List A → H → Option R}:∀ (c j m:Nat) (hj:j + c = i) (hm:c < m),
  aO env (aA env L n) L 0 [] (Z2 (U8 (Z32 (Z32 (Z16 (Z4 (Z2 (Z1 ([]))))))))) (c7 1) (U2 (Z4 (Z2 (U32 (U32 (U16 (U8 (U1 ([]))))))))) m (Y2 (.d (.bool false) :: .ptr 0 0 0 :: .sl 1 0 0 l.length :: .d (.ivs a.nx.length (ints cl)) :: .d (.int .i64 ((i:Int))) :: .d (.int .i64 ((j:Int))) :: Y32 (Y32 (Y16 (Y8 (Y1 ([]))))))) [.box [.d (.int .i64 a.al),.d (.ivs a.nx.length (aJ a.nx)),.d (.ivs a.ac.length (aK a.ac))],.arr (bV l) 1 0] k
  = k (.exit 2) (Y2 (.d (.bool false) :: .ptr 0 0 0 :: .sl 1 0 0 l.length :: .d (.ivs a.nx.length (ints cl)) :: .d (.int .i64 ((i:Int))) :: .d (.int .i64 ((i:Int))) :: Y32 (Y32 (Y16 (Y8 (Y1 ([]))))))) [.box [.d (.int .i64 a.al),.d (.ivs a.nx.length (aJ a.nx)),.d (.ivs a.ac.length (aK a.ac))],.arr (bV l) 1 0]:=by
 obtain ⟨sa,wa,a1,a2,a3⟩:=dU ha
 have hal:=sa.1
 intro c
 induction c with
 | zero =>
  intro j m hj hm
  obtain _ | m:=m; omega
  obtain rfl:j = i:=by omega
  rw [pK]
  simp only [oA,Tryd.f3,SLM,simprocAttr]
  simp -implicitDefEqProofs (maxSteps:=2000000) (disch:=try exact Dz) only [↓DN,↓kAsg,↓kRet,UP,simprocAttr,↓dY,↓jJ,↓a7,↓eR,↓mR,↓jK,↓a6,↓nT,↓gQ,↓gR,↓gU,↓aT,↓aU,↓aV,↓kC,↓kI,↓kH,LA,SE,Int.lt_irrefl]
 | succ c ih =>
  intro j m hj hm
  obtain _ | m:=m; omega
  have hji:(j:Int) < i:=by omega
  have hj0:(0:Int) ≤ j:=by omega
  have hi0:(0:Int) ≤ i:=by omega
  have hic:(i:Int) < cl.length:=by omega
  have hjc:(j:Int) < cl.length:=by omega
  have hsj:=hs j (by omega)
  have eft:(false == true) = false:=rfl
  have etf:(true == false) = false:=rfl
  have loop_c:=fun {R:Type} {n:Nat} {k:Exit → List A → H → Option R} (hn:6 ≤ n) => @LR R L n hn hL a ha l hl hok cl i j hi (by omega) k l.length 0 L false (by omega) (by omega)
  rw [List.drop_zero,Bool.false_or,hsj] at loop_c
  simp only [Int.natCast_zero] at loop_c
  have ih':=ih (j + 1) m (by omega) (by omega)
  rw [show ((j + 1:Nat):Int) = (j:Int) + 1 by omega] at ih'
  clear ih hs hsj hok
  by_cases he:cl.getD i 0 = cl.getD j 0
  ·rw [decide_eq_true he] at loop_c
   simp only [Bool.not_true] at loop_c
   rw [pK]
   simp only [oA,Tryd.f3,SLM,simprocAttr]
   simp -implicitDefEqProofs (maxSteps:=2000000) (disch:=try exact Dz) only [↓DN,↓kAsg,↓kRet,UP,simprocAttr,↓dY,↓jJ,↓a7,↓eR,↓mR,↓jK,↓a6,↓nT,↓gQ,↓gR,↓gU,↓aT,↓aU,↓aV,↓kC,↓kI,↓kH,LA,SE,hji,hj0,hi0,hic,hjc,hcl,he,decide_true,beq_self_eq_true,eft,Bool.false_eq_true,if_false,dW,d9,Int.toNat_natCast,↓loop_c,↓ih']
  ·rw [decide_eq_false he] at loop_c
   simp only [Bool.not_false] at loop_c
   rw [pK]
   simp only [oA,Tryd.f3,SLM,simprocAttr]
   simp -implicitDefEqProofs (maxSteps:=2000000) (disch:=try exact Dz) only [↓DN,↓kAsg,↓kRet,UP,simprocAttr,↓dY,↓jJ,↓a7,↓eR,↓mR,↓jK,↓a6,↓nT,↓gQ,↓gR,↓gU,↓aT,↓aU,↓aV,↓kC,↓kI,↓kH,LA,SE,hji,hj0,hi0,hic,hjc,hcl,he,decide_false,etf,Bool.false_eq_true,if_false,dW,d9,Int.toNat_natCast,↓loop_c,↓ih']
theorem JC {R:Type} {L n:Nat} (hn:6 ≤ n) (hL:2 ^ 60 ≤ L) {a:Aut} (ha:AOK a) {l:List Str} (hl:l.length ≤ 100000) (hok:OD a l) {cl:List Int} (hcl:cl.length = a.nx.length) (hs:∀ i j,j < i → i < a.nx.length → l.any (difW a (i:Nat) (j:Nat)) = !decide (cl.getD i 0 = cl.getD j 0)) {k:Exit → List A → H → Option R}:∀ (c i m:Nat) (hi:i + c = a.nx.length) (hm:c < m),
  aO env (aA env L n) L 0 [] (Z2 (U8 (Z32 (Z32 (Z16 (Z4 (Z2 (Z1 ([]))))))))) (c7 0) (U2 (Z4 (Z1 (U32 (U32 (U16 (U8 (U2 ([]))))))))) m (Y2 (.d (.bool false) :: .ptr 0 0 0 :: .sl 1 0 0 l.length :: .d (.ivs a.nx.length (ints cl)) :: .d (.int .i64 ((i:Int))) :: Y32 (Y32 (Y16 (Y8 (Y2 ([]))))))) [.box [.d (.int .i64 a.al),.d (.ivs a.nx.length (aJ a.nx)),.d (.ivs a.ac.length (aK a.ac))],.arr (bV l) 1 0] k
  = k (.exit 0) (Y2 (.d (.bool false) :: .ptr 0 0 0 :: .sl 1 0 0 l.length :: .d (.ivs a.nx.length (ints cl)) :: .d (.int .i64 ((a.nx.length:Int))) :: Y32 (Y32 (Y16 (Y8 (Y2 ([]))))))) [.box [.d (.int .i64 a.al),.d (.ivs a.nx.length (aJ a.nx)),.d (.ivs a.ac.length (aK a.ac))],.arr (bV l) 1 0]:=by
 obtain ⟨sa,wa,a1,a2,a3⟩:=dU ha
 have hal:=sa.1
 intro c
 induction c with
 | zero =>
  intro i m hi hm
  obtain _ | m:=m; omega
  obtain rfl:i = a.nx.length:=by omega
  rw [uX]
  simp only [r8,Tryd.f3,SLM,simprocAttr]
  simp -implicitDefEqProofs (maxSteps:=2000000) (disch:=try exact Dz) only [↓DN,↓kAsg,↓kRet,UP,simprocAttr,↓dY,↓jJ,↓a7,↓eR,↓mR,↓jK,↓a6,↓nT,↓gQ,↓gR,↓gU,↓aT,↓aU,↓aV,↓kC,↓kI,↓kH,LA,SE,Int.lt_irrefl]
 | succ c ih =>
  intro i m hi hm
  obtain _ | m:=m; omega
  have hin:(i:Int) < a.nx.length:=by omega
  have hi0:(0:Int) ≤ i:=by omega
  have loop_c:=fun {R:Type} {n:Nat} {k:Exit → List A → H → Option R} (hn:6 ≤ n) => @J6 R L n hn hL a ha l hl hok cl hcl i (by omega) (fun j hj => hs i j hj (by omega)) k i 0 L (by omega) (by omega)
  simp only [Int.natCast_zero] at loop_c
  have ih':=ih (i + 1) m (by omega) (by omega)
  rw [show ((i + 1:Nat):Int) = (i:Int) + 1 by omega] at ih'
  clear ih hs hok
  rw [uX]
  simp only [r8,Tryd.f3,SLM,simprocAttr]
  simp -implicitDefEqProofs (maxSteps:=2000000) (disch:=try exact Dz) only [↓DN,↓kAsg,↓kRet,UP,simprocAttr,↓dY,↓jJ,↓a7,↓eR,↓mR,↓jK,↓a6,↓nT,↓gQ,↓gR,↓gU,↓aT,↓aU,↓aV,↓kC,↓kI,↓kH,LA,SE,hin,hi0,Int.toNat_natCast,↓loop_c,↓ih']
theorem R7 {L n:Nat} (hn:30 ≤ n) (c:List UInt8) (hL:2 ^ 60 ≤ L):aA env L n 3 [.d (.ivs c.length (bQ c))] [] = some (.d (.bool true),[]):=by
 by_cases hsz:(1048576:Int) < c.length
 ·obtain _ | n:=n; omega
  rw [tB]
  simp only [pR,Tryd.f3,SLM,simprocAttr]
  simp -implicitDefEqProofs (maxSteps:=2000000) (disch:=try exact Dz) only [↓DN,↓kAsg,↓kRet,UP,simprocAttr,↓dY,↓jJ,↓a7,↓eR,↓mR,↓jK,↓a6,↓nT,↓gQ,↓gR,↓gU,↓aT,↓aU,↓aV,↓kC,↓kI,↓kH,hsz]
 ·obtain ⟨al,nx,ac,b,kd⟩:=O5 c (by omega)
  have hs:=b.short (by omega)
  have ha:=b.a
  have ha2:ac.length ≤ 4294967296:=by omega
  have hrl:=hs.1
  unfold autD at kd
  cases hv:kM al nx ac with
  | false =>
   have kc_1:=fun {R:Type} {n:Nat} {hq:H} {k:A → H → Option R} (hn:10 ≤ n) => aGw (h:=hq) (k:=k) rfl nP (MQ (L:=L) hn ⟨al,nx,ac⟩ hv hs ha2 hL)
   have kc_2:=fun {R:Type} {n:Nat} {hq:H} {k:A → H → Option R} (hn:13 ≤ n) => @dY R L n hq k hn ⟨al,nx,ac⟩ hs ha2 hL
   have hr:sepR ⟨al,nx,ac⟩ = []:=by unfold sepR; rw [hv]; rfl
   have kc_3:=fun {R:Type} {n:Nat} {hq:H} {k:A → H → Option R} (hn:2 ≤ n) => @jJ R L n hq k hn [] (by simp) hL
   have es:bV [] = []:=rfl
   rw [hr] at kc_2
   simp only [List.length_nil,es] at kc_2 kc_3
   obtain _ | n:=n; omega
   rw [tB]
   simp only [pR,Tryd.f3,SLM,simprocAttr]
   simp -implicitDefEqProofs (maxSteps:=2000000) (disch:=try exact Dz) only [↓DN,↓kAsg,↓kRet,UP,simprocAttr,↓a7,↓eR,↓mR,↓jK,↓a6,↓nT,↓gQ,↓gR,↓gU,↓aT,↓aU,↓aV,↓kC,↓kI,↓kH,LA,SE,hsz,hv,↓kd,↓kc_1,↓kc_2,↓kc_3]
  | true =>
   have hok:AOK ⟨al,nx,ac⟩:=hv
   have kc_1:=fun {R:Type} {n:Nat} {hq:H} {k:A → H → Option R} (hn:10 ≤ n) => aIX (h:=hq) (k:=k) rfl nP (RV (L:=L) hn ⟨al,nx,ac⟩ hok hL)
   have kc_2:=fun {R:Type} {n:Nat} {hq:H} {k:A → H → Option R} (hn:13 ≤ n) => @dY R L n hq k hn ⟨al,nx,ac⟩ hs ha2 hL
   have kc_t:=fun {R:Type} {n:Nat} {hq:H} {k:A → H → Option R} (hn:7 ≤ n) => @eR R L n hq k hn ⟨al,nx,ac⟩ hok hL
   have hr:sepR ⟨al,nx,ac⟩ = sepW ⟨al,nx,ac⟩:=by unfold sepR; rw [hv]; rfl
   have hso:=aKg hok
   have hln:=aA4 hok
   have hf:=aLb (a:=⟨al,nx,ac⟩)
   have hcls:=fun (i j:Nat) (hj:j < i) (hi:i < nx.length) => aLD hok (i:=i) (j:=j) hj hi
   have hcln:=aEW hok
   rw [hr] at kc_2
   rw [hcln] at kc_t
   generalize sepW ⟨al,nx,ac⟩ = l at *
   generalize lS ⟨al,nx,ac⟩ = cl at *
   have loop_a:=fun {R:Type} {n:Nat} {k:Exit → List A → H → Option R} (hn:6 ≤ n) => @JC R L n hn hL ⟨al,nx,ac⟩ hok l (by omega) hso cl hcln hcls k nx.length 0 L (by simp) (by omega)
   simp only [Int.natCast_zero] at loop_a
   have hl0:(0:Int) < l.length:=by omega
   have hf2:(List.map A.d (bV l)).head? = some (.d (.str [])):=by
    cases l with
    | nil => simp at hl0
    | cons s l => simp at hf; subst hf; rfl
   clear hso hcls
   obtain _ | n:=n; omega
   rw [tB]
   simp only [pR,Tryd.f3,SLM,simprocAttr]
   simp -implicitDefEqProofs (maxSteps:=2000000) (disch:=try exact Dz) only [↓DN,↓kAsg,↓kRet,UP,simprocAttr,↓jJ,↓a7,↓mR,↓jK,↓a6,↓nT,↓gQ,↓gR,↓gU,↓aT,↓aU,↓aV,↓kC,↓kI,↓kH,LA,SE,hsz,hv,hl0,hf2,↓kd,↓kc_1,↓kc_2,↓kc_t,↓loop_a,beq_self_eq_true]
end Ev
end Go.Proofs.YtppdfjdfjfoddaaDoor
