/-
  The words that cover, walked: the program's.
-/
import Derived.Test.YtejmccgfigiadaaGreatSuiteS
import Derived.Test.YtejmccgfigiadaaGreatSortLayX
import Derived.Test.YtejmccgfigiadaaGreatLeast
set_option linter.unusedSimpArgs false
set_option linter.unusedVariables false
set_option maxRecDepth 8000
set_option maxHeartbeats 4000000
namespace Go.Proofs.YtejmccgfigiadaaGreat
namespace Ev
theorem aHa:∀ l:List Str,KG (aC l) = some l
 | [] => rfl
 | s :: l => by
  show (KG (aC l)).map (s :: ·) = _
  rw [aHa l]; rfl
theorem aQF {a:Aut} {j i:Nat} (h:(oneG a (i:Nat)).2 = true):lG a (j + 1) i = txt (oneG a (i:Nat)).1 :: lG a j (i + 1):=by
 simp [lG,List.range'_succ,h]
theorem aQd {a:Aut} {j i:Nat} (h:(oneG a (i:Nat)).2 = false):lG a (j + 1) i = lG a j (i + 1):=by
 simp [lG,List.range'_succ,h]
theorem aUM (l:List Str):(aGf l).length = l.length:=List.length_mergeSort _
theorem aQy {l:List Str} (hl:l.length ≤ 4294967296):N3 52 [.sl 0 0 0 l.length,.clo 52 []] [.arr (aC l) 1 0] = some (.tup [],[.arr (aC (aGf l)) 1 0]):=by
 have h1:True ∧ True ∧ True ∧ (l.length = 0 ∨ True) ∧ l.length ≤ (aC l).length ∧ l.length ≤ b7:=by
  refine ⟨trivial,trivial,trivial,.inr trivial,by rw [iC]; omega,by unfold b7; omega⟩
 have h2:KG ((aC l).take l.length) = some l:=by rw [gC (Nat.le_refl _),aHa]
 have h3:(aC l).drop l.length = []:=by rw [aQn,List.drop_length]; rfl
 simp only [N3,List.getElem?_cons_zero]
 rw [if_pos h1]
 simp only [h2,h3,List.append_nil,List.set_cons_zero]
 rfl
theorem iA {R:Type} {L n id:Nat} {hq:H} {k:A → H → Option R} (hn:1 ≤ n) (l:List Str) (hi:hq[id]? = some (.arr (aC l) 1 0)) (hl:l.length ≤ 4294967296) :
  aW env (aA env L n) hq 69 [.sl id 0 0 l.length,.clo 52 []] k = k (.tup []) (hq.set id (.arr (aC (aGf l)) 1 0)):=by
 obtain _ | n:=n; omega
 exact CJ hi (by simp [idsL,idsA]) j3 (by simp [idsA,idsL]) (by rw [zJ]; simpa [aP,mapA,aH] using aQy hl)
theorem aC0 {R:Type} {L n:Nat} (hn:9 ≤ n) (hL:2 ^ 60 ≤ L) {a:Aut} (ha:AOK a) {k:Exit → List A → H → Option R}:∀ (q i m:Nat) (o:List Str) (len:Nat) (hq:i + q = a.nx.length) (hm:q < m) (hlen:len = o.length) (ho:o.length + q ≤ 100000),
  aJ env (aA env L n) L 0 [0,0,0,2] Bz38 (qL 0) (U1 (Z2 (Z1 (U8 (Z2 (U16 (U1 ([])))))))) m (Y1 (.ptr 0 0 0 :: .d .nils :: .sl 1 0 0 len :: Y8 (nI (a.nx.length) :: nI (i:Int) :: Y16 (Y1 ([]))))) [.box [nI a.al,.d (.ivs a.nx.length (rowsD a.nx)),.d (.ivs a.ac.length (bools a.ac))],.arr (aC o) 1 0] k
  = k (.exit 0) (Y1 (.ptr 0 0 0 :: .d .nils :: .sl 1 0 0 (o ++ lG a q i).length :: Y8 (nI (a.nx.length) :: nI (a.nx.length:Int) :: Y16 (Y1 ([]))))) [.box [nI a.al,.d (.ivs a.nx.length (rowsD a.nx)),.d (.ivs a.ac.length (bools a.ac))],.arr (aC (o ++ lG a q i)) 1 0]:=by
 obtain ⟨sa,wa,a1,a2,a3⟩:=b6 ha
 have hac:a.ac.length ≤ 4294967296:=by omega
 have hal:=sa.1
 intro q
 induction q with
 | zero =>
  intro i m o len hq hm hlen ho
  obtain _ | m:=m; omega
  obtain rfl:i = a.nx.length:=by omega
  subst hlen
  have e:lG a 0 a.nx.length = []:=rfl
  rw [e,List.append_nil]
  rw [vR]
  simp only [tY,Tryz.f30,SLM,simprocAttr]
  simp -implicitDefEqProofs (maxSteps:=2000000) (disch:=try exact Dz) only [↓DN,↓kAsg,↓kRet,UP,simprocAttr,↓aX,↓DX,↓iA,↓dQ,↓aY,↓vW,↓aR,↓aS,↓aT,↓rZ,↓rX,↓rR,LA,SE,Int.lt_irrefl]
 | succ q ih =>
  intro i m o len hq hm hlen ho
  obtain _ | m:=m; omega
  subst hlen
  have hc:(i:Int) < a.nx.length:=by omega
  have kc_s:=@DX L a i sa hac hL
  have hacc:accG a (i:Nat) = oneG a (i:Nat):=by unfold accG; exact if_pos ha
  rw [hacc] at kc_s
  cases hb:(oneG a (i:Nat)).2 with
  | false =>
   have ih':=ih (i + 1) m o o.length (by omega) (by omega) rfl (by omega)
   rw [show ((i + 1:Nat):Int) = (i:Int) + 1 by omega] at ih'
   rw [aQd hb]
   rw [hb] at kc_s
   clear ih
   generalize lG a q (i + 1) = w2 at *
   generalize txt (oneG a (i:Nat)).1 = w at *
   rw [vR]
   simp only [tY,Tryz.f30,SLM,simprocAttr]
   simp -implicitDefEqProofs (maxSteps:=2000000) (disch:=try exact Dz) only [↓DN,↓kAsg,↓kRet,UP,simprocAttr,↓aX,↓iA,↓dQ,↓aY,↓vW,↓aR,↓aS,↓aT,↓rZ,↓rX,↓rR,LA,SE,hc,↓kc_s,↓ih']
  | true =>
   have ih':=ih (i + 1) m (o ++ [txt (oneG a (i:Nat)).1]) (o.length + 1) (by omega) (by omega) (by simp) (by simp; omega)
   rw [show ((i + 1:Nat):Int) = (i:Int) + 1 by omega] at ih'
   simp only [List.append_assoc,List.singleton_append] at ih'
   rw [aQF hb]
   rw [hb] at kc_s
   clear ih
   generalize lG a q (i + 1) = w2 at *
   generalize txt (oneG a (i:Nat)).1 = w at *
   rw [vR]
   simp only [tY,Tryz.f30,SLM,simprocAttr]
   simp -implicitDefEqProofs (maxSteps:=2000000) (disch:=try exact Dz) only [↓DN,↓kAsg,↓kRet,UP,simprocAttr,↓aX,↓iA,↓dQ,↓aY,↓vW,↓aR,↓aS,↓aT,↓rZ,↓rX,↓rR,LA,SE,hc,↓kc_s,gC,qR,List.length_append,↓ih']
theorem aHV {L n:Nat} (hn:10 ≤ n) (a:Aut) (hv:AOK a) (hL:2 ^ 60 ≤ L):aA env L n 30 [.agg [nI a.al,.d (.ivs a.nx.length (rowsD a.nx)),.d (.ivs a.ac.length (bools a.ac))]] [] = some (.sl 0 0 0 (eB a).length,[.arr (aC (eB a)) 1 0]):=by
 obtain ⟨sa,wa,a1,a2,a3⟩:=b6 hv
 have hrl:=sa.1
 have hac:a.ac.length ≤ 4294967296:=by omega
 have loop_c:=fun {R:Type} {n:Nat} {k:Exit → List A → H → Option R} (hn:9 ≤ n) => @aC0 R L n hn hL a hv k a.nx.length 0 L [] 0 (by omega) (by omega) rfl (by simp; omega)
 rw [List.nil_append] at loop_c
 have hcs:=aPO hv
 have hl:=MN hv
 have hl2:=aUM (lG a a.nx.length 0)
 rw [hcs] at hl2
 have hl3:(lG a a.nx.length 0).length ≤ 4294967296:=by omega
 simp only [Int.natCast_zero,oZ] at loop_c
 rw [← hl2] at loop_c
 have kc_q:=fun {R:Type} {n id:Nat} {hq:H} {k:A → H → Option R} (hn:1 ≤ n) (hi:hq[id]? = some (.arr (aC (lG a a.nx.length 0)) 1 0)) => @iA R L n id hq k hn (lG a a.nx.length 0) hi hl3
 rw [hcs,← hl2] at kc_q
 unfold AOK at hv
 clear hcs
 generalize lG a a.nx.length 0 = w0 at *
 generalize eB a = w at *
 have e4:(aC w).take w.length = aC w:=gC (Nat.le_refl _)
 obtain _ | n:=n; omega
 rw [aHU]
 simp only [UJ,Tryz.f30,SLM,simprocAttr]
 simp -implicitDefEqProofs (maxSteps:=2000000) (disch:=try exact Dz) only [↓DN,↓kAsg,↓kRet,UP,simprocAttr,↓aX,↓DX,↓dQ,↓aY,↓vW,↓aR,↓aS,↓aT,↓rZ,↓rX,↓rR,LA,SE,hv,e4,↓loop_c,↓kc_q]
theorem aP5 {R:Type} {E:Env} {call:b5} {h h2:H} {f:FuncId} {args:List A} {r:A} {k:A → H → Option R} (hs:args.all yC = true) (hm:(E.hint f).mode = 3) (hc:call f args [] = some (r,h2)) (hcl:(pO r && h2.all kG) = true) :
  aW E call h f args k = k (mapA (back [] h.length h2.length) r) (h ++ h2.map (mapO (back [] h.length h2.length))):=by
 have hcall:dX call E.hint [] f args = some (mapA (back [] 0 h2.length) r,h2.map (mapO (back [] 0 h2.length))):=by
  unfold dX
  rw [hm]
  simp only [vB hs,hc,hcl,if_true,List.length_nil,List.nil_append]
 unfold aW
 rw [uC hs,W5,uP _ (uC hs)]
 have:pack h [] = []:=rfl
 rw [this,hcall]
 have hb:∀ i,(back [] 0 h2.length i).bind (back [] h.length h2.length) = back [] h.length h2.length i:=by
  intro i
  unfold back
  simp only [List.length_nil,Nat.not_lt_zero,if_false,Nat.sub_zero,Nat.zero_add]
  split
  ·rename_i hi; simp [hi]
  ·rfl
 simp only [List.length_nil,Nat.zero_le,true_and,closed,List.all_nil,Bool.and_self,if_true,bJ,List.length_map]
 rw [aAQ hb,List.map_map]
 congr 2
 apply List.map_congr_left
 intro o _
 exact SH hb o
theorem aQB (l:List Str):kG (.arr (aC l) 1 0) = true:=by
 simp only [kG,aC,List.all_map,List.all_eq_true]
 intro x _
 rfl
theorem aDL {R:Type} {E:Env} {call:b5} {h:H} {f:FuncId} {args:List A} {l:List Str} {k:A → H → Option R} (hs:args.all yC = true) (hm:(E.hint f).mode = 3) (hc:call f args [] = some (.sl 0 0 0 l.length,[.arr (aC l) 1 0])) :
  aW E call h f args k = k (.sl h.length 0 0 l.length) (h ++ [.arr (aC l) 1 0]):=by
 rw [aP5 hs hm hc (by simp only [pO,List.all_cons,List.all_nil,aQB,Bool.and_self])]
 simp [mapA,back,mapO]
theorem aPY {l:Int} {h:H}:eK env.P h 5 21 (.d (.int .u8 ((dY l).toNat:Int))) = some (.d (.int .i32 ((dY l).toNat:Int)),h):=by
 have e:IntKind.i32.wrap ((dY l).toNat:Int) = ((dY l).toNat:Int):=IntWalk.i32_in _ (by have:=toNat_lt (dY l); constructor <;> omega)
 have hu:env.P.underlying 21 = some (.int .i32):=kr
 rw [kR aCq hu,e]
theorem aQx {l:Int} (h0:0 ≤ l) (h5:l ≤ 5) {h:H}:eK env.P h 21 9 (.d (.int .i32 ((dY l).toNat:Int))) = some (.d (.str [dY l]),h):=by
 have hu:env.P.underlying 21 = some (.int .i32):=kr
 have hs:env.P.underlying 9 = some .string:=kr
 have e:(Utf8.encode ((dY l).toNat:Int)).data.toList = [dY l]:=by
  rcases (show l = 0 ∨ l = 1 ∨ l = 2 ∨ l = 3 ∨ l = 4 ∨ l = 5 by omega) with rfl | rfl | rfl | rfl | rfl | rfl <;> kernel_rfl
 unfold eK
 rw [hu,hs]
 simp only [e]
theorem aAn {R:Type} {L n:Nat} (hn:2 ≤ n) (hL:2 ^ 60 ≤ L) {ls:List Int} (hls:∀ l ∈ ls,0 ≤ l ∧ l ≤ 5) (hl:ls.length ≤ 6) {al x:Int} {f e c p:Nat} {w:Str} (hw:w.length ≤ 100000) {k:Exit → List A → H → Option R}:∀ (j q m:Nat) (o:List Str) (len g:Nat) (hq:q + j = ls.length) (hm:j < m) (hlen:len = o.length) (hg:g = o.length + 1) (ho:o.length + j ≤ 100000),
  aJ env (aA env L n) L 0 (W8 (W4 [2002])) Bz4 (eW 2) (Z2 (U2 (Z4 (U1 (Z1 (U8 (U4 (Z2 (Z1 (U4 (Z2 (Z1 (U16 ([])))))))))))))) m (nI al :: nI x :: Y2 (.d .nils :: .sl 0 g 0 len :: nI (f:Int) :: nI (e:Int) :: Y1 (.d (.str w) :: Y8 (Y4 (.sl 0 (e + 1) f c :: nI (c:Int) :: nI (p:Int) :: Y4 (.d (.ivs ls.length (ints ls)) :: nI (ls.length:Int) :: nI (q:Int) :: Y16 ([]))))))) [.log (aC o)] k
  = k (.exit 4) (nI al :: nI x :: Y2 (.d .nils :: .sl 0 ((o ++ chG (ls.drop q) w).length + 1) 0 (o ++ chG (ls.drop q) w).length :: nI (f:Int) :: nI (e:Int) :: Y1 (.d (.str w) :: Y8 (Y4 (.sl 0 (e + 1) f c :: nI (c:Int) :: nI (p:Int) :: Y4 (.d (.ivs ls.length (ints ls)) :: nI (ls.length:Int) :: nI (ls.length:Int) :: Y16 ([]))))))) [.log (aC (o ++ chG (ls.drop q) w))]:=by
 intro j
 induction j with
 | zero =>
  intro q m o len g hq hm hlen hg ho
  obtain _ | m:=m; omega
  obtain rfl:q = ls.length:=by omega
  subst hlen; subst hg
  have e:o ++ chG (ls.drop ls.length) w = o:=by simp [chG]
  rw [e]
  rw [JC]
  simp only [DM,Tryz.f49,SLM,simprocAttr]
  simp -implicitDefEqProofs (maxSteps:=2000000) (disch:=try exact Dz) only [↓DN,↓kAsg,↓kRet,UP,simprocAttr,↓bI,↓gW,LA,SE,Int.lt_irrefl]
 | succ j ih =>
  intro q m o len g hq hm hlen hg ho
  obtain _ | m:=m; omega
  subst hlen; subst hg
  have hk:q < ls.length:=by omega
  have hc:(q:Int) < ls.length:=by omega
  have hq0:(0:Int) ≤ q:=by omega
  have hmem:ls.getD q 0 ∈ ls:=by rw [List.getD_eq_getElem?_getD,List.getElem?_eq_getElem hk]; exact List.getElem_mem _
  obtain ⟨b0,b1⟩:=hls _ hmem
  have e:o ++ chG (ls.drop q) w = (o ++ [w ++ [dY (ls.getD q 0)]]) ++ chG (ls.drop (q + 1)) w:=by
   rw [dB hk (d:=0)]; simp [chG]
  have ih':=ih (q + 1) m (o ++ [w ++ [dY (ls.getD q 0)]]) (o.length + 1) (o.length + 1 + 1) (by omega) (by omega) (by simp) (by simp) (by simp; omega)
  rw [show ((q + 1:Nat):Int) = (q:Int) + 1 by omega] at ih'
  rw [e]
  clear ih e hmem hls
  generalize hb:ls.getD q 0 = b at *
  have kc_t:=@gW L b b0 b1
  have conv_r:=fun {h:H} => @aQx b b0 b1 h
  generalize o ++ [w ++ [dY b]] ++ chG (ls.drop (q + 1)) w = z at *
  have hol:(aC o).length = o.length:=iC
  rw [JC]
  simp only [DM,Tryz.f49,SLM,simprocAttr]
  simp -implicitDefEqProofs (maxSteps:=2000000) (disch:=try exact Dz) only [↓DN,↓kAsg,↓kRet,UP,simprocAttr,↓bI,LA,SE,hc,hq0,hb,hol,↓kc_t,↓aPY,↓conv_r,qR,List.length_append,Int.toNat_natCast,Nat.sub_self,List.range'_zero,↓ih']
theorem aBw {R:Type} {L n:Nat} (hn:2 ≤ n) (hL:2 ^ 60 ≤ L) {al x:Int} {f e c:Nat} {vs:List Str} (hv:vs.length = c) (hvw:∀ w ∈ vs,w.length ≤ 100000) (hfe:f + c = e) (he:e ≤ 1000000000) {k:Exit → List A → H → Option R}:∀ (j p m:Nat) (o:List Str) (len g:Nat) (hp:p + j = c) (hm:j < m) (hlen:len = o.length) (hg:g = o.length + 1) (ho:o.length + 6 * j ≤ 90000) (hoe:e ≤ o.length) (hod:∀ i,i < c → o.getD (f + i) [] = vs.getD i []),
  aJ env (aA env L n) L 0 (W8 (W4 [2002])) Bz4 (eW 1) (Z2 (U2 (Z4 (U8 (U4 (U2 (Z2 (Z1 (U16 (U4 (U2 (U1 ([]))))))))))))) m (nI al :: nI x :: Y2 (.d .nils :: .sl 0 g 0 len :: nI (f:Int) :: nI (e:Int) :: Y8 (Y4 (Y2 (.sl 0 (e + 1) f c :: nI (c:Int) :: nI (p:Int) :: Y16 (Y4 (Y2 (Y1 ([]))))))))) [.log (aC o)] k
  = k (.exit 2) (nI al :: nI x :: Y2 (.d .nils :: .sl 0 ((o ++ (vs.drop p).flatMap (chG (aB al))).length + 1) 0 (o ++ (vs.drop p).flatMap (chG (aB al))).length :: nI (f:Int) :: nI (e:Int) :: Y8 (Y4 (Y2 (.sl 0 (e + 1) f c :: nI (c:Int) :: nI (c:Int) :: Y16 (Y4 (Y2 (Y1 ([]))))))))) [.log (aC (o ++ (vs.drop p).flatMap (chG (aB al))))]:=by
 have hl6:=eF al
 intro j
 induction j with
 | zero =>
  intro p m o len g hp hm hlen hg ho hoe hod
  obtain _ | m:=m; omega
  obtain rfl:p = c:=by omega
  subst hlen; subst hg
  have e:o ++ (vs.drop p).flatMap (chG (aB al)) = o:=by rw [List.drop_of_length_le (by omega)]; simp
  rw [e]
  rw [JJ]
  simp only [E4,Tryz.f49,SLM,simprocAttr]
  simp -implicitDefEqProofs (maxSteps:=2000000) (disch:=try exact Dz) only [↓DN,↓kAsg,↓kRet,UP,simprocAttr,↓bI,↓gW,LA,SE,Int.lt_irrefl]
 | succ j ih =>
  intro p m o len g hp hm hlen hg ho hoe hod
  obtain _ | m:=m; omega
  subst hlen; subst hg
  have hk:p < vs.length:=by omega
  have hc:(p:Int) < c:=by omega
  have hp0:(0:Int) ≤ p:=by omega
  have hw:=hvw _ (kA hk)
  have hgd:(((aC o).drop (f + p)).take 1) = [.str (vs.getD p [])]:=by
   have:=hod p (by omega)
   have hlt:f + p < o.length:=by omega
   have h1:(aC o).drop (f + p) = .str (o.getD (f + p) []) :: (aC o).drop (f + p + 1):=by
    rw [List.drop_eq_getElem_cons (by rw [iC]; exact hlt)]
    congr 1
    simp [aC,List.getD_eq_getElem?_getD,List.getElem?_eq_getElem hlt]
   rw [h1,this]; rfl
  have loop_c:=fun {R:Type} {n:Nat} {k:Exit → List A → H → Option R} (hn:2 ≤ n) => @aAn R L n hn hL (aB al) eC hl6 al x f e c p (vs.getD p []) hw k (aB al).length 0 L o o.length (o.length + 1) (by omega) (by omega) rfl rfl (by omega)
  rw [List.drop_zero] at loop_c
  simp only [Int.natCast_zero] at loop_c
  have hcl:(chG (aB al) (vs.getD p [])).length ≤ 6:=by rw [aOX]; exact hl6
  have he2:o ++ (vs.drop p).flatMap (chG (aB al)) = (o ++ chG (aB al) (vs.getD p [])) ++ (vs.drop (p + 1)).flatMap (chG (aB al)):=by
   rw [dB hk (d:=[]),List.flatMap_cons,List.append_assoc]
  have ih':=ih (p + 1) m (o ++ chG (aB al) (vs.getD p [])) _ _ (by omega) (by omega) rfl rfl (by rw [List.length_append]; omega) (by rw [List.length_append]; omega) (fun i hi => by
   rw [← hod i hi,List.getD_eq_getElem?_getD,List.getElem?_append_left (by omega),← List.getD_eq_getElem?_getD])
  rw [show ((p + 1:Nat):Int) = (p:Int) + 1 by omega] at ih'
  rw [he2]
  have hol:(aC o).length = o.length:=iC
  have hg0:0 < e + 1:=by omega
  have hg1:e + 1 ≤ o.length + 1:=by omega
  clear ih he2 hod hvw
  generalize vs.getD p [] = w at *
  generalize o ++ chG (aB al) w ++ (vs.drop (p + 1)).flatMap (chG (aB al)) = z at *
  generalize o ++ chG (aB al) w = o2 at *
  have hf1:f + p + 1 < e + 1:=by omega
  rw [JJ]
  simp only [E4,Tryz.f49,SLM,simprocAttr]
  simp -implicitDefEqProofs (maxSteps:=2000000) (disch:=try exact Dz) only [↓DN,↓kAsg,↓kRet,UP,simprocAttr,↓bI,↓gW,LA,SE,hc,hp0,hol,hgd,hg0,hg1,hf1,↓loop_c,Int.toNat_natCast,↓ih']
theorem aUU {o:List Str} {f c:Nat} (hf:f ≤ o.length) (hc:o.length - f = c):iP env.P [.log (aC o)] 27 (.sl 0 (o.length + 1) 0 o.length) (some (f:Int)) (some (o.length:Int)) = some (.sl 0 (o.length + 1) f c):=by
 have hu:env.P.underlying 27 = some (.slice 9):=kr
 have hs:env.P.cellsOf 9 = 1:=kr
 have hb:tD o.length (some (f:Int)) (some (o.length:Int)) = some (f,o.length):=by
  unfold tD
  simp only [Option.getD_some]
  rw [if_pos ⟨by omega,by omega,by omega⟩]; simp
 have h1:0 < o.length + 1 ∧ o.length + 1 ≤ (aC o).length + 1 ∧ True:=⟨by omega,by rw [iC]; omega,trivial⟩
 simp only [iP,hu,List.getElem?_cons_zero,hs,hb,Option.map_some,hc,Nat.zero_add]
 rw [if_pos h1]
theorem aAj {R:Type} {L n:Nat} (hn:3 ≤ n) (hL:2 ^ 60 ≤ L) {al:Int} {k:Exit → List A → H → Option R}:∀ (j t m:Nat) (o:List Str) (len g f:Nat) (ht:t + j ≤ 3) (hm:j < m) (hlen:len = o.length) (hg:g = o.length + 1) (ho:o = midG (aB al) t) (hf:f + (lvG (aB al) t).length = o.length),
  aJ env (aA env L n) L 0 (W8 (W4 [2002])) Bz4 (eW 0) (Z2 (U2 (Z2 (Z1 (U32 (U8 (U1 ([])))))))) m (nI al :: nI (j:Int) :: Y2 (.d .nils :: .sl 0 g 0 len :: nI (f:Int) :: Y32 (Y8 (Y1 ([]))))) [.log (aC o)] k
  = k (.exit 0) (nI al :: nI 0 :: Y2 (.d .nils :: .sl 0 ((midG (aB al) (t + j)).length + 1) 0 (midG (aB al) (t + j)).length :: nI (((midG (aB al) (t + j)).length - (lvG (aB al) (t + j)).length:Nat):Int) :: Y32 (Y8 (Y1 ([]))))) [.log (aC (midG (aB al) (t + j)))]:=by
 have hl6:=eF al
 intro j
 induction j with
 | zero =>
  intro t m o len g f ht hm hlen hg ho hf
  obtain _ | m:=m; omega
  subst hlen; subst hg
  rw [show t + 0 = t from rfl,← ho,show o.length - (lvG (aB al) t).length = f by omega]
  clear ho hf
  rw [JZ]
  simp only [DI,Tryz.f49,SLM,simprocAttr]
  simp -implicitDefEqProofs (maxSteps:=2000000) (disch:=try exact Dz) only [↓DN,↓kAsg,↓kRet,UP,simprocAttr,↓bI,↓gW,LA,SE,Int.lt_irrefl]
 | succ j ih =>
  intro t m o len g f ht hm hlen hg ho hf
  obtain _ | m:=m; omega
  subst hlen; subst hg
  have hs:=MU hl6 t (by omega)
  have hs2:=MU hl6 (t + 1) (by omega)
  have hsp:midG (aB al) (t + 1) = o ++ lvG (aB al) (t + 1):=by rw [ho]; rfl
  have hol:o.length ≤ 259:=by rw [ho]; exact hs
  obtain ⟨p,hp⟩:=aSL (ls:=aB al) t
  rw [← ho] at hp
  have hpl:p.length = f:=by have:=congrArg List.length hp; rw [List.length_append] at this; omega
  have hod:∀ i,i < (lvG (aB al) t).length → o.getD (f + i) [] = (lvG (aB al) t).getD i []:=by
   intro i hi
   rw [hp,List.getD_eq_getElem?_getD,List.getElem?_append_right (by omega),show f + i - p.length = i by omega,← List.getD_eq_getElem?_getD]
  have loop_c:=fun {R:Type} {n:Nat} {k:Exit → List A → H → Option R} (hn:2 ≤ n) => @aBw R L n hn hL al ((j + 1:Nat):Int) f o.length (lvG (aB al) t).length (lvG (aB al) t) rfl (fun w hw => by have:=(OM t w hw).1; omega) hf (by omega) k (lvG (aB al) t).length 0 L o o.length (o.length + 1) (by omega) (by omega) rfl rfl (by omega) (by omega) hod
  rw [List.drop_zero] at loop_c
  have e1:o ++ (lvG (aB al) t).flatMap (chG (aB al)) = midG (aB al) (t + 1):=by rw [hsp]; rfl
  rw [e1] at loop_c
  have ih':=ih (t + 1) m (midG (aB al) (t + 1)) _ _ o.length (by omega) (by omega) rfl rfl rfl (by rw [hsp,List.length_append])
  rw [show t + 1 + j = t + (j + 1) by omega] at ih'
  have e2:((j + 1:Nat):Int) - 1 = (j:Int):=by omega
  have hj1:(0:Int) < ((j + 1:Nat):Int):=by omega
  have hj2:((j + 1:Nat):Int) ≤ 3:=by omega
  simp only [Int.natCast_zero] at loop_c
  have hfo:(f:Int) ≤ o.length:=by omega
  have hf0:(0:Int) ≤ f:=by omega
  have hsub:o.length - f = (lvG (aB al) t).length:=by omega
  have hol2:(aC o).length = o.length:=iC
  have hfn:f ≤ o.length:=by omega
  clear ih hod hp hsp e1 ho
  generalize midG (aB al) (t + 1) = o2 at *
  generalize (midG (aB al) (t + (j + 1))).length - (lvG (aB al) (t + (j + 1))).length = zf at *
  generalize midG (aB al) (t + (j + 1)) = z at *
  generalize (lvG (aB al) t).length = c at *
  generalize ((j + 1:Nat):Int) = x at *
  have conv_s:=@aUU o f c hfn hsub
  rw [JZ]
  simp only [DI,Tryz.f49,SLM,simprocAttr]
  simp -implicitDefEqProofs (maxSteps:=2000000) (disch:=try exact Dz) only [↓DN,↓kAsg,↓kRet,UP,simprocAttr,↓bI,↓gW,LA,SE,hj1,↓conv_s,e2,hfo,hf0,hsub,hol2,↓loop_c,Int.toNat_natCast,Nat.zero_add,↓ih']
theorem aIT {L n:Nat} (hn:4 ≤ n) (al:Int) (x:Nat) (hx:x ≤ 3) (hL:2 ^ 60 ≤ L):aA env L n 49 [nI al,nI x] [] = some (.d (.ivs (midG (aB al) x).length (aC (midG (aB al) x))),[]):=by
 have loop_c:=fun {R:Type} {n:Nat} {k:Exit → List A → H → Option R} (hn:3 ≤ n) => @aAj R L n hn hL al k x 0 L [[]] 1 2 0 (by omega) (by omega) rfl rfl rfl rfl
 have e1:aC [[]] = [.str []]:=rfl
 rw [e1,Nat.zero_add] at loop_c
 simp only [Int.natCast_zero] at loop_c
 generalize (midG (aB al) x).length - (lvG (aB al) x).length = f at *
 generalize midG (aB al) x = w at *
 have e4:(aC w).take w.length = aC w:=gC (Nat.le_refl _)
 have hol2:(aC w).length = w.length:=iC
 obtain _ | n:=n; omega
 rw [aIb]
 simp only [ZO,Tryz.f49,SLM,simprocAttr]
 simp -implicitDefEqProofs (maxSteps:=2000000) (disch:=try exact Dz) only [↓DN,↓kAsg,↓kRet,UP,simprocAttr,↓bI,↓gW,LA,SE,e4,hol2,↓loop_c,Nat.le_refl]
theorem jS {L:Nat} (al:Int) (x:Nat) (hx:x ≤ 3) (hL:2 ^ 60 ≤ L):KC 4 L 49 [nI al,nI x] (.d (.ivs (midG (aB al) x).length (aC (midG (aB al) x)))):=ks rfl (fun hn => aIT hn al x hx hL) rfl (.inr rfl)
def setS (o:List Str):List (D × D):=o.map fun w => (.str w,.bool true)
theorem PZ {o:List Str}:(setS o).length = o.length:=List.length_map _
theorem aKz:∀ o:List Str,KM (setS o) = some o
 | [] => rfl
 | w :: o => by
  show (KM (setS o)).map (w :: ·) = _
  rw [aKz o]; rfl
theorem aLX {x:Str}:∀ (o:List Str) (pre:List (D × D)),∃ r,IO .string (.str x) (setS o) pre.length = some r ∧ AW (pre ++ setS o) (.str x) (.bool true) r = pre ++ setS (insW o x)
 | [],pre => ⟨none,rfl,by simp [AW,setS,insW]⟩
 | y :: o,pre => by
  by_cases h:x = y
  ·subst h
   refine ⟨some pre.length,by simp [setS,IO,WY],?_⟩
   have e:insW (x :: o) x = x :: o:=if_pos List.mem_cons_self
   rw [e]
   show (pre ++ (D.str x,D.bool true) :: setS o).set pre.length (.str x,.bool true) = pre ++ (D.str x,D.bool true) :: setS o
   rw [List.set_append_right _ _ (Nat.le_refl _),Nat.sub_self,List.set_cons_zero]
  ·obtain ⟨r,h1,h2⟩:=aLX (x:=x) o (pre ++ [(.str y,.bool true)])
   have hb:(x == y) = false:=by simpa using h
   have e:insW (y :: o) x = y :: insW o x:=by
    unfold insW
    by_cases hm:x ∈ o
    ·rw [if_pos hm,if_pos (List.mem_cons_of_mem _ hm)]
    ·rw [if_neg hm,if_neg fun h3 => (List.mem_cons.1 h3).elim h hm]; rfl
   refine ⟨r,?_,?_⟩
   ·rw [List.length_append,List.length_singleton] at h1
    simp only [setS,List.map_cons,IO,WY,hb]
    exact h1
   ·rw [e]
    rw [List.append_assoc,List.append_assoc] at h2
    exact h2
theorem map_set:mapT env.P 64 = some (.string,4):=kr
theorem aTm:env.P.underlying 64 = some (.map 9 4):=kr
theorem aYu {T:H} {o:List Str} {x:Str}:tT env.P (.mp (setS o) :: T) 64 (.mp 0) (.d (.str x)) (.d (.bool true)) = some (.d .undef,.mp (setS (insW o x)) :: T):=by
 obtain ⟨r,h1,h2⟩:=aLX (x:=x) o []
 have h1:IO .string (.str x) (setS o) 0 = some r:=h1
 have h2:AW (setS o) (.str x) (.bool true) r = setS (insW o x):=h2
 unfold tT
 simp only [map_set,List.getElem?_cons_zero,aHs,FY,Bool.and_self,if_true,h1,h2,List.set_cons_zero]
theorem aOG {T:H} {o:List Str}:y0 env.P (.mp (setS o) :: T) 64 0 = some (nI (o.length:Int),.mp (setS o) :: T):=by
 have hu:=aTm
 unfold y0
 simp only [hu,List.getElem?_cons_zero,PZ]
theorem aVj {R:Type} {s:List A} {k:A → Option R}:kv s (.const .nilFunc) k = k (.d .nilfn):=rfl
theorem aMF {L n:Nat} (hn:1 ≤ n) {es:List (D × D)}:aA env L n 51 [.mp 0] [.mp es] = some (.clo 94 [.ptr 1 0 0],[.mp es,.box [.mp 0]]):=by
 obtain _ | n:=n; omega
 rw [tN]
 simp only [mB,Tryz.f51,SLM,simprocAttr]
 simp -implicitDefEqProofs (maxSteps:=2000000) (disch:=try exact Dz) only [↓DN,↓kAsg,↓kRet,UP,simprocAttr,↓aVj]
theorem aYI {R:Type} {L n:Nat} {es:List (D × D)} {x y:O} {k:A → H → Option R} (hn:1 ≤ n):aW env (aA env L n) [.mp es,x,y] 51 [.mp 0] k = k (.clo 94 [.ptr 3 0 0]) [.mp es,x,y,.box [.mp 0]]:=by
 have hre:aD aI [.mp es,x,y] (idsL [.mp 0]) [] = [0]:=rfl
 have hpk:pack [.mp es,x,y] [0] = [.mp es]:=rfl
 have hma:aP (aH [0]) [.mp 0] = [.mp 0]:=rfl
 have hc:dX (aA env L n) env.hint [.mp es] 51 [.mp 0] = some (.clo 94 [.ptr 1 0 0],[.mp es,.box [.mp 0]]):=by
  unfold dX
  rw [gI]
  exact aMF hn
 unfold aW
 rw [hre,hpk,hma,hc]
 rfl
theorem aNU {o:List Str} (h0:0 < o.length) (h1:o.length ≤ 4294967296) (hw:∀ s ∈ o,s.length ≤ 4294967296):HG 94 52 [.clo 94 [.ptr 0 0 0],.clo 52 []] [.box [.mp 1],.mp (setS o)] = some (.sl 2 0 0 o.length,[.box [.mp 1],.mp (setS o),.arr (aC (o.mergeSort leX)) 1 0]):=by
 have h2:o.all (fun s => decide (s.length ≤ b7)) = true:=List.all_eq_true.2 fun s hs => decide_eq_true (hw s hs)
 have h3:True ∧ True ∧ True ∧ True ∧ 0 < (setS o).length ∧ (setS o).length ≤ b7:=by
  rw [PZ]; exact ⟨trivial,trivial,trivial,trivial,h0,h1⟩
 simp only [HG,List.getElem?_cons_zero,List.getElem?_cons_succ,aKz,h2,if_true]
 rw [if_pos h3,PZ]
 rfl
theorem aUw {R:Type} {L n:Nat} {o:List Str} {x y:O} {k:A → H → Option R} (hn:1 ≤ n) (h0:0 < o.length) (h1:o.length ≤ 4294967296) (hw:∀ s ∈ o,s.length ≤ 4294967296):aW env (aA env L n) [.mp (setS o),x,y,.box [.mp 0]] 50 [.clo 94 [.ptr 3 0 0],.clo 52 []] k = k (.sl 4 0 0 o.length) [.mp (setS o),x,y,.box [.mp 0],.arr (aC (o.mergeSort leX)) 1 0]:=by
 obtain _ | n:=n; omega
 have hre:aD aI [.mp (setS o),x,y,.box [.mp 0]] (idsL [.clo 94 [.ptr 3 0 0],.clo 52 []]) [] = [3,0]:=rfl
 have hpk:pack [.mp (setS o),x,y,.box [.mp 0]] [3,0] = [.box [.mp 1],.mp (setS o)]:=rfl
 have hma:aP (aH [3,0]) [.clo 94 [.ptr 3 0 0],.clo 52 []] = [.clo 94 [.ptr 0 0 0],.clo 52 []]:=rfl
 have hc:dX (aA env L (n + 1)) env.hint [.box [.mp 1],.mp (setS o)] 50 [.clo 94 [.ptr 0 0 0],.clo 52 []] = some (.sl 2 0 0 o.length,[.box [.mp 1],.mp (setS o),.arr (aC (o.mergeSort leX)) 1 0]):=by
  unfold dX
  rw [mL]
  show aA env L (n + 1) _ _ _ = _
  rw [F3]
  exact aNU h0 h1 hw
 unfold aW
 rw [hre,hpk,hma,hc]
 rfl
theorem aBb {R:Type} {L n:Nat} (hn:1 ≤ n) (hL:2 ^ 60 ≤ L) {cov mids ends:List Str} (hP:Parts cov mids ends) {i q:Nat} {c mm:Str} (hc:c.length ≤ 1000) (hmm:mm.length ≤ 1000) {k:Exit → List A → H → Option R}:∀ (j p m:Nat) (o:List Str) (hp:p + j = ends.length) (hm:j < m),
  aJ env (aA env L n) L 0 [] Bz1 (eS 2) (U4 (Z4 (Z1 (U1 (Z1 (U1 (Z1 (U16 (U4 (U2 (Z2 (Z1 (U2 (U1 (Z2 (Z1 (U2 (U1 (Z2 (Z1 (U16 (U2 ([]))))))))))))))))))))))) m (Y4 (.d .nils :: .d (.bool false) :: .mp 0 :: .d (.ivs mids.length (aC mids)) :: .sl 1 0 0 ends.length :: Y1 (.d (.str c) :: Y1 (.d (.str mm) :: Y16 (Y4 (Y2 (.sl 2 0 0 cov.length :: nI (cov.length) :: nI (i:Int) :: Y2 (Y1 (.d (.ivs mids.length (aC mids)) :: nI (mids.length) :: nI (q:Int) :: Y2 (Y1 (.sl 1 0 0 ends.length :: nI (ends.length) :: nI (p:Int) :: Y16 (Y2 ([]))))))))))))) [.mp (setS o),.arr (aC ends) 1 0,.arr (aC cov) 1 0] k
  = k (.exit 4) (Y4 (.d .nils :: .d (.bool false) :: .mp 0 :: .d (.ivs mids.length (aC mids)) :: .sl 1 0 0 ends.length :: Y1 (.d (.str c) :: Y1 (.d (.str mm) :: Y16 (Y4 (Y2 (.sl 2 0 0 cov.length :: nI (cov.length) :: nI (i:Int) :: Y2 (Y1 (.d (.ivs mids.length (aC mids)) :: nI (mids.length) :: nI (q:Int) :: Y2 (Y1 (.sl 1 0 0 ends.length :: nI (ends.length) :: nI (ends.length) :: Y16 (Y2 ([]))))))))))))) [.mp (setS (fB o (endL c mm (ends.drop p)))),.arr (aC ends) 1 0,.arr (aC cov) 1 0]:=by
 have hne:=hP.ne
 intro j
 induction j with
 | zero =>
  intro p m o hp hm
  obtain _ | m:=m; omega
  obtain rfl:p = ends.length:=by omega
  have e:fB o (endL c mm (ends.drop ends.length)) = o:=by rw [List.drop_length]; rfl
  rw [e]
  rw [IY]
  simp only [D9,Tryz.f15,SLM,simprocAttr]
  simp -implicitDefEqProofs (maxSteps:=2000000) (disch:=try exact Dz) only [↓DN,↓kAsg,↓kRet,UP,simprocAttr,↓aX,↓jS,↓dQ,↓aY,↓aR,↓aS,↓aT,LA,SE,Int.lt_irrefl]
 | succ j ih =>
  intro p m o hp hm
  obtain _ | m:=m; omega
  have hk:p < ends.length:=by omega
  have hc1:(p:Int) < ends.length:=by omega
  have hp0:(0:Int) ≤ p:=by omega
  have hel:=hP.e _ (kA hk)
  have hcm:(c ++ mm).length ≤ 2000:=by rw [List.length_append]; omega
  have e:fB o (endL c mm (ends.drop p)) = fB (insW o (c ++ mm ++ ends.getD p [])) (endL c mm (ends.drop (p + 1))):=by
   rw [dB hk (d:=[])]; rfl
  have ih':=ih (p + 1) m (insW o (c ++ mm ++ ends.getD p [])) (by omega) (by omega)
  rw [show ((p + 1:Nat):Int) = (p:Int) + 1 by omega] at ih'
  rw [e]
  clear ih e hP
  generalize hei:ends.getD p [] = w at *
  generalize fB (insW o (c ++ mm ++ w)) (endL c mm (ends.drop (p + 1))) = z at *
  rw [IY]
  simp only [D9,Tryz.f15,SLM,simprocAttr]
  simp -implicitDefEqProofs (maxSteps:=2000000) (disch:=try exact Dz) only [↓DN,↓kAsg,↓kRet,UP,simprocAttr,↓aX,↓jS,↓dQ,↓aY,↓aR,↓aS,↓aT,LA,SE,hc1,hp0,hei,aYu,Int.toNat_natCast,↓ih']
theorem aCb {R:Type} {L n:Nat} (hn:1 ≤ n) (hL:2 ^ 60 ≤ L) {cov mids ends:List Str} (hP:Parts cov mids ends) {i:Nat} {c:Str} (hc:c.length ≤ 1000) {k:Exit → List A → H → Option R}:∀ (j p m:Nat) (o:List Str) (hp:p + j = mids.length) (hm:j < m),
  aJ env (aA env L n) L 0 [] Bz1 (eS 1) (U4 (Z4 (Z1 (U1 (Z1 (U16 (U8 (Z2 (Z1 (U2 (U1 (Z2 (Z1 (U16 (U8 ([])))))))))))))))) m (Y4 (.d .nils :: .d (.bool false) :: .mp 0 :: .d (.ivs mids.length (aC mids)) :: .sl 1 0 0 ends.length :: Y1 (.d (.str c) :: Y16 (Y8 (.sl 2 0 0 cov.length :: nI (cov.length) :: nI (i:Int) :: Y2 (Y1 (.d (.ivs mids.length (aC mids)) :: nI (mids.length) :: nI (p:Int) :: Y16 (Y8 ([]))))))))) [.mp (setS o),.arr (aC ends) 1 0,.arr (aC cov) 1 0] k
  = k (if (run3 (midF c ends) mids j p o).1 = true then .exit 2 else .ret) (Y4 (.d .nils :: .d (.bool false) :: .mp 0 :: .d (.ivs mids.length (aC mids)) :: .sl 1 0 0 ends.length :: Y1 (.d (.str c) :: Y16 (Y8 (.sl 2 0 0 cov.length :: nI (cov.length) :: nI (i:Int) :: Y2 (Y1 (.d (.ivs mids.length (aC mids)) :: nI (mids.length) :: nI ((run3 (midF c ends) mids j p o).2.1:Int) :: Y16 (Y8 ([]))))))))) [.mp (setS (run3 (midF c ends) mids j p o).2.2),.arr (aC ends) 1 0,.arr (aC cov) 1 0]:=by
 have hne:=hP.ne
 have hnm:=hP.nm
 intro j
 induction j with
 | zero =>
  intro p m o hp hm
  obtain _ | m:=m; omega
  obtain rfl:p = mids.length:=by omega
  have e:∀ f,run3 f mids 0 mids.length o = (true,mids.length,o):=fun _ => rfl
  rw [e]
  simp only [if_true]
  rw [wV]
  simp only [wD,Tryz.f15,SLM,simprocAttr]
  simp -implicitDefEqProofs (maxSteps:=2000000) (disch:=try exact Dz) only [↓DN,↓kAsg,↓kRet,UP,simprocAttr,↓aX,↓jS,↓dQ,↓aY,↓aR,↓aS,↓aT,LA,SE,Int.lt_irrefl]
 | succ j ih =>
  intro p m o hp hm
  obtain _ | m:=m; omega
  have hk:p < mids.length:=by omega
  have hc1:(p:Int) < mids.length:=by omega
  have hp0:(0:Int) ≤ p:=by omega
  have hml:=hP.m _ (kA hk)
  have loop_c:=fun {R:Type} {n:Nat} {k:Exit → List A → H → Option R} (hn:1 ≤ n) => @aBb R L n hn hL cov mids ends hP i p c (mids.getD p []) hc hml k ends.length 0 L o (by omega) (by omega)
  rw [List.drop_zero] at loop_c
  simp only [Int.natCast_zero] at loop_c
  have hz:midF c ends (mids.getD p []) o = (!decide (3000 < (fB o (endL c (mids.getD p []) ends)).length),fB o (endL c (mids.getD p []) ends)):=rfl
  by_cases hb1:3000 < (fB o (endL c (mids.getD p []) ends)).length
  ·have hb2:(3000:Int) < (fB o (endL c (mids.getD p []) ends)).length:=by omega
   rw [M8 (by rw [hz,decide_eq_true hb1]; rfl),hz]
   simp only [Bool.false_eq_true,if_false]
   clear ih hz hP
   generalize hei:mids.getD p [] = w at *
   generalize fB o (endL c w ends) = z at *
   rw [wV]
   simp only [wD,Tryz.f15,SLM,simprocAttr]
   simp -implicitDefEqProofs (maxSteps:=2000000) (disch:=try exact Dz) only [↓DN,↓kAsg,↓kRet,UP,simprocAttr,↓aX,↓jS,↓dQ,↓aY,↓aR,↓aS,↓aT,LA,SE,hc1,hp0,hei,hb2,aOG,PZ,↓loop_c,Int.toNat_natCast]
  ·have hb2:¬ (3000:Int) < (fB o (endL c (mids.getD p []) ends)).length:=by omega
   rw [HD (by rw [hz,decide_eq_false hb1]; rfl),hz]
   have ih':=ih (p + 1) m (fB o (endL c (mids.getD p []) ends)) (by omega) (by omega)
   rw [show ((p + 1:Nat):Int) = (p:Int) + 1 by omega] at ih'
   simp only
   clear ih hz hP
   generalize hei:mids.getD p [] = w at *
   generalize fB o (endL c w ends) = z at *
   generalize run3 (midF c ends) mids j (p + 1) z = z2 at *
   rw [wV]
   simp only [wD,Tryz.f15,SLM,simprocAttr]
   simp -implicitDefEqProofs (maxSteps:=2000000) (disch:=try exact Dz) only [↓DN,↓kAsg,↓kRet,UP,simprocAttr,↓aX,↓jS,↓dQ,↓aY,↓aR,↓aS,↓aT,LA,SE,hc1,hp0,hei,hb2,aOG,PZ,↓loop_c,Int.toNat_natCast,↓ih']
theorem aBi {R:Type} {L n:Nat} (hn:1 ≤ n) (hL:2 ^ 60 ≤ L) {cov mids ends:List Str} (hP:Parts cov mids ends) {k:Exit → List A → H → Option R}:∀ (j p m:Nat) (o:List Str) (hp:p + j = cov.length) (hm:j < m),
  aJ env (aA env L n) L 0 [] Bz1 (eS 0) (U4 (Z4 (Z1 (U16 (U8 (U2 (Z2 (Z1 (U16 (U8 (U4 (U2 ([]))))))))))))) m (Y4 (.d .nils :: .d (.bool false) :: .mp 0 :: .d (.ivs mids.length (aC mids)) :: .sl 1 0 0 ends.length :: Y16 (Y8 (Y2 (.sl 2 0 0 cov.length :: nI (cov.length) :: nI (p:Int) :: Y16 (Y8 (Y4 (Y2 ([]))))))))) [.mp (setS o),.arr (aC ends) 1 0,.arr (aC cov) 1 0] k
  = k (if (run3 (covF mids ends) cov j p o).1 = true then .exit 0 else .ret) (Y4 (.d .nils :: .d (.bool false) :: .mp 0 :: .d (.ivs mids.length (aC mids)) :: .sl 1 0 0 ends.length :: Y16 (Y8 (Y2 (.sl 2 0 0 cov.length :: nI (cov.length) :: nI ((run3 (covF mids ends) cov j p o).2.1:Int) :: Y16 (Y8 (Y4 (Y2 ([]))))))))) [.mp (setS (run3 (covF mids ends) cov j p o).2.2),.arr (aC ends) 1 0,.arr (aC cov) 1 0]:=by
 have hne:=hP.ne
 have hnm:=hP.nm
 have hnc:=hP.nc
 intro j
 induction j with
 | zero =>
  intro p m o hp hm
  obtain _ | m:=m; omega
  obtain rfl:p = cov.length:=by omega
  have e:∀ f,run3 f cov 0 cov.length o = (true,cov.length,o):=fun _ => rfl
  rw [e]
  simp only [if_true]
  rw [w4]
  simp only [wL,Tryz.f15,SLM,simprocAttr]
  simp -implicitDefEqProofs (maxSteps:=2000000) (disch:=try exact Dz) only [↓DN,↓kAsg,↓kRet,UP,simprocAttr,↓aX,↓jS,↓dQ,↓aY,↓aR,↓aS,↓aT,LA,SE,Int.lt_irrefl]
 | succ j ih =>
  intro p m o hp hm
  obtain _ | m:=m; omega
  have hk:p < cov.length:=by omega
  have hc1:(p:Int) < cov.length:=by omega
  have hp0:(0:Int) ≤ p:=by omega
  have hcl:=hP.c _ (kA hk)
  have loop_c:=fun {R:Type} {n:Nat} {k:Exit → List A → H → Option R} (hn:1 ≤ n) => @aCb R L n hn hL cov mids ends hP p (cov.getD p []) hcl k mids.length 0 L o (by omega) (by omega)
  simp only [Int.natCast_zero] at loop_c
  have hz:covF mids ends (cov.getD p []) o = ((run3 (midF (cov.getD p []) ends) mids mids.length 0 o).1,(run3 (midF (cov.getD p []) ends) mids mids.length 0 o).2.2):=rfl
  cases hb:(run3 (midF (cov.getD p []) ends) mids mids.length 0 o).1 with
  | false =>
   rw [M8 (by rw [hz,hb]),hz]
   rw [hb] at loop_c
   simp only [Bool.false_eq_true,if_false] at loop_c ⊢
   clear ih hz hb hP
   generalize hei:cov.getD p [] = w at *
   generalize run3 (midF w ends) mids mids.length 0 o = z at *
   rw [w4]
   simp only [wL,Tryz.f15,SLM,simprocAttr]
   simp -implicitDefEqProofs (maxSteps:=2000000) (disch:=try exact Dz) only [↓DN,↓kAsg,↓kRet,UP,simprocAttr,↓aX,↓jS,↓dQ,↓aY,↓aR,↓aS,↓aT,LA,SE,hc1,hp0,hei,↓loop_c,Int.toNat_natCast]
  | true =>
   rw [HD (by rw [hz,hb]),hz]
   have ih':=ih (p + 1) m (run3 (midF (cov.getD p []) ends) mids mids.length 0 o).2.2 (by omega) (by omega)
   rw [show ((p + 1:Nat):Int) = (p:Int) + 1 by omega] at ih'
   rw [hb] at loop_c
   simp only [if_true] at loop_c ⊢
   clear ih hz hb hP
   generalize hei:cov.getD p [] = w at *
   generalize run3 (midF w ends) mids mids.length 0 o = z at *
   generalize run3 (covF mids ends) cov j (p + 1) z.2.2 = z2 at *
   rw [w4]
   simp only [wL,Tryz.f15,SLM,simprocAttr]
   simp -implicitDefEqProofs (maxSteps:=2000000) (disch:=try exact Dz) only [↓DN,↓kAsg,↓kRet,UP,simprocAttr,↓aX,↓jS,↓dQ,↓aY,↓aR,↓aS,↓aT,LA,SE,hc1,hp0,hei,↓loop_c,Int.toNat_natCast,↓ih']
theorem aRG {a:Aut} (h:AOK a) {e:Nat} (he:e ≤ 2):0 < (fB [] (covL (eB a) (midG (aB a.al) (e + 1)) (sepW a))).length ∧ ∀ s ∈ fB [] (covL (eB a) (midG (aB a.al) (e + 1)) (sepW a)),s.length ≤ 4294967296:=by
 obtain ⟨_,_,a1,a2,_⟩:=b6 h
 have key:∀ s,s ∈ fB [] (covL (eB a) (midG (aB a.al) (e + 1)) (sepW a)) ↔ ∃ c ∈ eB a,∃ m ∈ midG (aB a.al) (e + 1),∃ w ∈ sepW a,s = c ++ m ++ w:=by
  intro s
  rw [aKY]
  simp only [List.not_mem_nil,false_or,covL,midL,endL,List.mem_flatMap,List.mem_map]
  constructor
  ·rintro ⟨c,hc,m,hm,e,he,rfl⟩; exact ⟨c,hc,m,hm,e,he,rfl⟩
  ·rintro ⟨c,hc,m,hm,e,he,rfl⟩; exact ⟨c,hc,m,hm,e,he,rfl⟩
 constructor
 ·have h1:=MN h
  have h2:=VW h
  have h3:∀ k,[] ∈ midG (aB a.al) k:=by
   intro k
   induction k with
   | zero => simp [midG]
   | succ k ih => exact List.mem_append.2 (.inl ih)
  exact List.length_pos_of_mem ((key _).2 ⟨_,kA (k:=0) (by omega),_,h3 _,_,kA (k:=0) (by omega),rfl⟩)
 ·intro s hs
  obtain ⟨c,hc,m,hm,w,hw,rfl⟩:=(key s).1 hs
  have:=(aT4 h hc hm hw).1
  omega
theorem aHW {L n:Nat} (hn:15 ≤ n) (a:Aut) (hv:AOK a) (e:Nat) (he:e ≤ 2) (hL:2 ^ 60 ≤ L):aA env L n 15 [.agg [nI a.al,.d (.ivs a.nx.length (rowsD a.nx)),.d (.ivs a.ac.length (bools a.ac))],nI (e:Int)] [] = match lS a e with
  | some l => some (.tup [.sl 0 0 0 l.length,.d (.bool true)],[.arr (aC l) 1 0])
  | none => some (.tup [.d (.ivs 0 []),.d (.bool false)],[]):=by
 obtain ⟨sa,wa,a1,a2,a3⟩:=b6 hv
 have hrl:=sa.1
 have hP:=aNn hv he
 have e1:lS a e = EI (eB a) (midG (aB a.al) (e + 1)) (sepW a):=if_pos ⟨hv,by omega,by omega⟩
 rw [e1]
 have kc_c:=fun {R:Type} {n:Nat} {hq:H} {k:A → H → Option R} (hn:10 ≤ n) => aDL (h:=hq) (k:=k) rfl zL (aHV (L:=L) hn a hv hL)
 have kc_w:=fun {R:Type} {n:Nat} {hq:H} {k:A → H → Option R} (hn:10 ≤ n) => aDL (h:=hq) (k:=k) rfl rH (X0 (L:=L) hn a hv hL)
 have kc_m:=@jS L a.al (e + 1) (by omega) hL
 rw [show ((e + 1:Nat):Int) = (e:Int) + 1 by omega] at kc_m
 have hcn:=hP.nc
 have loop_c:=fun {R:Type} {n:Nat} {k:Exit → List A → H → Option R} (hn:1 ≤ n) => @aBi R L n hn hL _ _ _ hP k (eB a).length 0 L [] (by omega) (by omega)
 have es:setS [] = []:=rfl
 rw [es] at loop_c
 have hr:=WA (f:=covF (midG (aB a.al) (e + 1)) (sepW a)) (ws:=eB a) (eB a).length 0 [] (by omega)
 rw [List.drop_zero] at hr
 have hs:=aQw (cov:=eB a) (mids:=midG (aB a.al) (e + 1)) (ends:=sepW a)
 rw [hr] at hs
 rw [aPD] at hr
 obtain ⟨f1,f2⟩:=aRG hv he
 have he0:(0:Int) ≤ e:=by omega
 have hx0:¬ (e:Int) < 0:=by omega
 have hx1:¬ 2 < (e:Int):=by omega
 have hve:eX a.al a.nx a.ac = true:=hv
 simp only [Int.natCast_zero] at loop_c
 rw [← hs]
 have hac:a.ac.length ≤ 4294967296:=by omega
 clear hs e1 hP wa
 generalize fB [] (covL (eB a) (midG (aB a.al) (e + 1)) (sepW a)) = S at *
 generalize eB a = cov at *
 generalize midG (aB a.al) (e + 1) = mids at *
 generalize sepW a = ends at *
 generalize run3 (covF mids ends) cov cov.length 0 [] = z at *
 cases hb:z.1 with
 | false =>
  rw [hb] at loop_c
  simp only [Option.map_none,Bool.false_eq_true,if_false] at loop_c ⊢
  obtain _ | n:=n; omega
  rw [sW]
  simp only [p8,Tryz.f15,SLM,simprocAttr]
  simp -implicitDefEqProofs (maxSteps:=2000000) (disch:=try exact Dz) only [↓DN,↓kAsg,↓kRet,UP,simprocAttr,↓aX,↓dQ,↓aY,↓aR,↓aS,↓aT,LA,SE,hve,hx0,hx1,↓kc_c,↓kc_w,↓kc_m,↓loop_c]
 | true =>
  rw [hb] at loop_c hr
  simp only [if_true] at loop_c hr ⊢
  have hS:S = z.2.2 ∧ S.length ≤ 3000:=by
   split at hr
   ·cases hr
   ·injection hr with hr; exact ⟨hr,by omega⟩
  obtain ⟨rfl,hS2⟩:=hS
  have kc_q:=fun {R:Type} {n:Nat} {x y:O} {k:A → H → Option R} (hn:1 ≤ n) => @aUw R L n z.2.2 x y k hn f1 (by omega) f2
  have hml:(z.2.2.mergeSort leX).length = z.2.2.length:=List.length_mergeSort _
  rw [← hml] at kc_q
  simp only [Option.map_some]
  clear hr f1 f2
  generalize z.2.2.mergeSort leX = l at *
  have e4:(aC l).take l.length = aC l:=gC (Nat.le_refl _)
  obtain _ | n:=n; omega
  rw [sW]
  simp only [p8,Tryz.f15,SLM,simprocAttr]
  simp -implicitDefEqProofs (maxSteps:=2000000) (disch:=try exact Dz) only [↓DN,↓kAsg,↓kRet,UP,simprocAttr,↓aX,↓dQ,↓aY,↓aR,↓aS,↓aT,LA,SE,hve,hx0,hx1,e4,↓kc_c,↓kc_w,↓kc_m,↓aYI,↓kc_q,↓loop_c]
theorem aH1 {L n:Nat} (hn:15 ≤ n) (a:Aut) (x:Int) (hs:a8 a.nx) (hac:a.ac.length ≤ 4294967296) (hv:¬ (eX a.al a.nx a.ac = true ∧ 0 ≤ x ∧ x ≤ 2)) (hL:2 ^ 60 ≤ L):aA env L n 15 [.agg [nI a.al,.d (.ivs a.nx.length (rowsD a.nx)),.d (.ivs a.ac.length (bools a.ac))],nI x] [] = some (.tup [.d (.ivs 0 []),.d (.bool false)],[]):=by
 have hrl:=hs.1
 cases hve:eX a.al a.nx a.ac with
 | false =>
  obtain _ | n:=n; omega
  rw [sW]
  simp only [p8,Tryz.f15,SLM,simprocAttr]
  simp -implicitDefEqProofs (maxSteps:=2000000) (disch:=try exact Dz) only [↓DN,↓kAsg,↓kRet,UP,simprocAttr,↓aX,↓dQ,↓aY,↓aR,↓aS,↓aT,LA,SE,hve]
 | true =>
  by_cases hx0:x < 0
  ·obtain _ | n:=n; omega
   rw [sW]
   simp only [p8,Tryz.f15,SLM,simprocAttr]
   simp -implicitDefEqProofs (maxSteps:=2000000) (disch:=try exact Dz) only [↓DN,↓kAsg,↓kRet,UP,simprocAttr,↓aX,↓dQ,↓aY,↓aR,↓aS,↓aT,LA,SE,hve,hx0]
  ·have hx1:2 < x:=by
    apply Classical.byContradiction
    intro h
    exact hv ⟨hve,by omega,by omega⟩
   obtain _ | n:=n; omega
   rw [sW]
   simp only [p8,Tryz.f15,SLM,simprocAttr]
   simp -implicitDefEqProofs (maxSteps:=2000000) (disch:=try exact Dz) only [↓DN,↓kAsg,↓kRet,UP,simprocAttr,↓aX,↓dQ,↓aY,↓aR,↓aS,↓aT,LA,SE,hve,hx0,hx1]
theorem T7 {L n:Nat} (hn:15 ≤ n) (a:Aut) (x:Int) (hs:a8 a.nx) (hac:a.ac.length ≤ 4294967296) (hL:2 ^ 60 ≤ L):aA env L n 15 [.agg [nI a.al,.d (.ivs a.nx.length (rowsD a.nx)),.d (.ivs a.ac.length (bools a.ac))],nI x] [] = match lS a x with
  | some l => some (.tup [.sl 0 0 0 l.length,.d (.bool true)],[.arr (aC l) 1 0])
  | none => some (.tup [.d (.ivs 0 []),.d (.bool false)],[]):=by
 by_cases hv:eX a.al a.nx a.ac = true ∧ 0 ≤ x ∧ x ≤ 2
 ·obtain ⟨e,rfl⟩:∃ e:Nat,x = e:=⟨x.toNat,by omega⟩
  exact aHW hn a hv.1 e (by omega) hL
 ·rw [aH1 hn a x hs hac hv hL,show lS a x = none from if_neg hv]
theorem aKo {R:Type} {E:Env} {call:b5} {h:H} {f:FuncId} {k:A → H → Option R} {args fs:List A} {l:List Str} {b:Bool} (hm:(E.hint f).mode = 3) (hr:rdAs h args = some fs) (hw:(idsL args).length + wgt h ≤ 1099511627776)
  (hc:call f fs [] = some (.tup [.sl 0 0 0 l.length,.d (.bool b)],[.arr (aC l) 1 0])):aW E call h f args k = k (.tup [.sl h.length 0 0 l.length,.d (.bool b)]) (h ++ [.arr (aC l) 1 0]):=by
 rw [aKf hm hr hw hc (by rw [List.all_cons,aPQ]; rfl)]
 simp [mapA,aP,back,mapO]
theorem aRT {R:Type} {E:Env} {call:b5} {h:H} {f:FuncId} {k:A → H → Option R} {args fs:List A} {x:D} {b:Bool} (hm:(E.hint f).mode = 3) (hr:rdAs h args = some fs) (hw:(idsL args).length + wgt h ≤ 1099511627776)
  (hc:call f fs [] = some (.tup [.d x,.d (.bool b)],[])) (hx:x7 x = true):aW E call h f args k = k (.tup [.d x,.d (.bool b)]) h:=by
 rw [aKf hm hr hw hc (by simp only [pO,oB,hx,List.all_nil,Bool.and_true]; rfl)]
 simp [mapA,aP]
theorem aPG {a:Aut} {x:Int} {l:List Str} (h:lS a x = some l):l.length ≤ 3000:=by
 unfold lS at h
 split at h
 ·exact (aVM h).2
 ·cases h
theorem aAi {L n:Nat} (hn:30 ≤ n) (al:Int) (rs:List (List Int)) (ac:List Bool) (x:Int) (l:List Str) (hlen:rowsLen rs) (hla:ac.length ≤ 9223372036854775807) (hsz:¬ szA rs ac 1048576 < 0) (hok:lS ⟨al,rs,ac⟩ x = some l) (hL:2 ^ 60 ≤ L):aA env L n 3 [.agg [nI al,.d (.ivs (List.length rs) (rowsD rs)),.d (.ivs (List.length ac) (bools ac))],nI x] [] = some (.d (.bool true),[]):=by
 obtain ⟨hr20,hc20,ha20⟩:=aKr hsz
 have hs:a8 rs:=⟨by omega,fun r hr => by have:=hc20 r hr; omega⟩
 have ha:ac.length ≤ 4294967296:=by omega
 have ht1:=aKS hsz
 have hS:=G4 (L:=L) (n:=n - 1) (by omega) ⟨al,rs,ac⟩ x hs ha hL
 have hI:=T7 (L:=L) (n:=n - 1) (by omega) ⟨al,rs,ac⟩ x hs ha hL
 rw [hok] at hS hI
 have hwl:=aPG hok
 simp only [Option.getD_some,Option.isSome_some] at hS
 simp only at hS hI
 have hG1:Has (O.box [nI al,.d (.ivs (List.length rs) (rowsD rs)),.d (.ivs (List.length ac) (bools ac))] :: autO 1 rs ac) 1 rs ac:=CF (h:=[O.box [nI al,.d (.ivs (List.length rs) (rowsD rs)),.d (.ivs (List.length ac) (bools ac))]])
 have wG1:wgt (O.box [nI al,.d (.ivs (List.length rs) (rowsD rs)),.d (.ivs (List.length ac) (bools ac))] :: autO 1 rs ac) ≤ 1048576:=by
  have:=l7 [O.box [nI al,.d (.ivs (List.length rs) (rowsD rs)),.d (.ivs (List.length ac) (bools ac))]] (autO 1 rs ac)
  rw [CB] at this
  have h2:wgt [O.box [nI al,.d (.ivs (List.length rs) (rowsD rs)),.d (.ivs (List.length ac) (bools ac))]] = 0:=by simp [wgt,idsL,idsA]
  have h3:(O.box [nI al,.d (.ivs (List.length rs) (rowsD rs)),.d (.ivs (List.length ac) (bools ac))] :: autO 1 rs ac) = [O.box [nI al,.d (.ivs (List.length rs) (rowsD rs)),.d (.ivs (List.length ac) (bools ac))]] ++ autO 1 rs ac:=rfl
  rw [h3]; omega
 have kc_1:∀ {R:Type} {k:A → H → Option R},aW env (aA env L (n - 1)) [O.box [nI al,.d (.ivs (List.length rs) (rowsD rs)),.d (.ivs (List.length ac) (bools ac))]] 14 [.agg [nI al,.d (.ivs (List.length rs) (rowsD rs)),.d (.ivs (List.length ac) (bools ac))]] k = k (.agg [nI al,.sl 1 0 0 rs.length,.sl (1 + 1) 0 0 ac.length]) (O.box [nI al,.d (.ivs (List.length rs) (rowsD rs)),.d (.ivs (List.length ac) (bools ac))] :: autO 1 rs ac):=fun {R k} => CL (h:=[O.box [nI al,.d (.ivs (List.length rs) (rowsD rs)),.d (.ivs (List.length ac) (bools ac))]]) (by omega) hs ha hL
 have hrd1:rdAs (O.box [nI al,.d (.ivs (List.length rs) (rowsD rs)),.d (.ivs (List.length ac) (bools ac))] :: autO 1 rs ac) [.agg [nI al,.sl 1 0 0 rs.length,.sl (1 + 1) 0 0 ac.length],nI x] = some [.agg [nI al,.d (.ivs (List.length rs) (rowsD rs)),.d (.ivs (List.length ac) (bools ac))],nI x]:=by
  have h1:=CZ (al:=al) hG1
  simp only [rdAs,show A.agg [nI al,.sl 1 0 0 rs.length,.sl (1 + 1) 0 0 ac.length] = autA 1 al rs.length ac.length from rfl,h1,oP]; rfl
 obtain ⟨H1,c2,l1,w1,s1⟩:=aHB (call:=aA env L (n - 1)) tZ hrd1 (by simp [idsL,uF,xM,idsA]; omega) hS (by simp [idsA,idsL])
 have kc_2:∀ {R:Type} {k:A → H → Option R},aW env (aA env L (n - 1)) (O.box [nI al,.d (.ivs (List.length rs) (rowsD rs)),.d (.ivs (List.length ac) (bools ac))] :: autO 1 rs ac) 13 [.agg [nI al,.sl 1 0 0 rs.length,.sl (1 + 1) 0 0 ac.length],nI x] k = k (.tup [.d (.ivs l.length (aC l)),.d (.bool true)]) H1:=fun {R k} => c2 R k
 have b1_0:H1[0]? = some (.box [nI al,.d (.ivs (List.length rs) (rowsD rs)),.d (.ivs (List.length ac) (bools ac))]):=by
  have r1:=aA8 hG1 (by omega)
  have hid1:idsL [A.agg [nI al,.sl 1 0 0 rs.length,.sl (1 + 1) 0 0 ac.length],nI x] = [1,1 + 1]:=by simp [idsL,idsA]
  rw [hid1,r1] at s1
  rw [s1 0 (by rw [List.mem_range'_1]; omega)]; rfl
 have hp0:0 < H1.length:=by rw [l1]; exact Nat.succ_pos _
 clear s1 c2 hG1 hrd1
 obtain ⟨v1,hv1⟩:∃ v,v = List.length H1:=⟨_,rfl⟩
 obtain ⟨H2,hH2⟩:∃ H,H = H1 ++ autO v1 rs ac:=⟨_,rfl⟩
 have kc_3:∀ {R:Type} {k:A → H → Option R},aW env (aA env L (n - 1)) H1 14 [.agg [nI al,.d (.ivs (List.length rs) (rowsD rs)),.d (.ivs (List.length ac) (bools ac))]] k = k (.agg [nI al,.sl v1 0 0 rs.length,.sl (v1 + 1) 0 0 ac.length]) H2:=by intro R k; rw [hH2,hv1]; exact CL (by omega) hs ha hL
 have gv1:Has H2 v1 rs ac:=by rw [hH2,hv1]; exact CF
 have lH2:H2.length = List.length H1 + rs.length + 2:=by rw [hH2,List.length_append,xQ]; omega
 have wH2:wgt H2 ≤ wgt H1 + 1048576:=by rw [hH2,l7,CB]; omega
 have b2_0:H2[0]? = some (.box [nI al,.d (.ivs (List.length rs) (rowsD rs)),.d (.ivs (List.length ac) (bools ac))]):=by rw [hH2]; exact m7 b1_0
 have wE2:wgt (H2 ++ [O.arr [] 0 0,O.arr [] 0 0,O.box [nI al,.sl v1 0 0 rs.length,.sl (v1 + 1) 0 0 ac.length]]) ≤ wgt H2 + 2:=by rw [wgt3 rfl rfl]; simp [idsL,idsA]
 have gE2:Has (H2 ++ [O.arr [] 0 0,O.arr [] 0 0,O.box [nI al,.sl v1 0 0 rs.length,.sl (v1 + 1) 0 0 ac.length]]) v1 rs ac:=T1 gv1
 have hrdg:∀ {h:H} {v:Nat},Has h v rs ac → rdAs h [.agg [nI al,.sl v 0 0 rs.length,.sl (v + 1) 0 0 ac.length],nI x] = some [.agg [nI al,.d (.ivs (List.length rs) (rowsD rs)),.d (.ivs (List.length ac) (bools ac))],nI x]:=by
  intro h v g
  have h1:=CZ (al:=al) g
  simp only [rdAs,show A.agg [nI al,.sl v 0 0 rs.length,.sl (v + 1) 0 0 ac.length] = autA v al rs.length ac.length from rfl,h1,oP]; rfl
 obtain ⟨vg,hvg⟩:∃ v,v = List.length (H2 ++ [O.arr [] 0 0,O.arr [] 0 0,O.box [nI al,.sl v1 0 0 rs.length,.sl (v1 + 1) 0 0 ac.length]]):=⟨_,rfl⟩
 obtain ⟨H3,hH3⟩:∃ H,H = (H2 ++ [O.arr [] 0 0,O.arr [] 0 0,O.box [nI al,.sl v1 0 0 rs.length,.sl (v1 + 1) 0 0 ac.length]]) ++ [O.arr (aC l) 1 0]:=⟨_,rfl⟩
 have kc_4:∀ {R:Type} {k:A → H → Option R},aW env (aA env L (n - 1)) (H2 ++ [O.arr [] 0 0,O.arr [] 0 0,O.box [nI al,.sl v1 0 0 rs.length,.sl (v1 + 1) 0 0 ac.length]]) 15 [.agg [nI al,.sl v1 0 0 rs.length,.sl (v1 + 1) 0 0 ac.length],nI x] k = k (.tup [.sl vg 0 0 l.length,.d (.bool true)]) H3:=by intro R k; rw [hH3,hvg]; exact aKo nE (hrdg gE2) (by simp [idsL,uF,xM,idsA]; omega) hI
 have gvg:H3[vg]? = some (.arr (aC l) 1 0):=by rw [hH3,hvg]; simp
 have lH3:H3.length = List.length (H2 ++ [O.arr [] 0 0,O.arr [] 0 0,O.box [nI al,.sl v1 0 0 rs.length,.sl (v1 + 1) 0 0 ac.length]]) + 1:=by rw [hH3]; simp
 have wH3:wgt H3 ≤ wgt (H2 ++ [O.arr [] 0 0,O.arr [] 0 0,O.box [nI al,.sl v1 0 0 rs.length,.sl (v1 + 1) 0 0 ac.length]]):=by rw [hH3,l7]; simp [wgt]
 have b3_0:H3[0]? = some (.box [nI al,.d (.ivs (List.length rs) (rowsD rs)),.d (.ivs (List.length ac) (bools ac))]):=by rw [hH3]; exact (m7 (m7 b2_0))
 have b3_x:H3[H2.length + 1 + 1]? = some (.box [nI al,.sl v1 0 0 rs.length,.sl (v1 + 1) 0 0 ac.length]):=by rw [hH3]; exact (m7 XU)
 have gE3x:Has H3 v1 rs ac:=by rw [hH3]; exact T1 gE2
 have kc_5:∀ {R:Type} {k:A → H → Option R},aW env (aA env L (n - 1)) H3 16 [.sl vg 0 0 l.length,.d (.ivs l.length (aC l))] k = k (.d (.bool true)) H3:=fun {R k} => ND (by omega) (by omega) (rd2 (OE gvg) oP) (by simp [idsL,idsA]; omega) hL
 obtain ⟨vt,hvt⟩:∃ v,v = List.length H3:=⟨_,rfl⟩
 obtain ⟨H4,hH4⟩:∃ H,H = H3 ++ autO vt rs ac:=⟨_,rfl⟩
 have kc_6:∀ {R:Type} {k:A → H → Option R},aW env (aA env L (n - 1)) H3 14 [.agg [nI al,.d (.ivs (List.length rs) (rowsD rs)),.d (.ivs (List.length ac) (bools ac))]] k = k (.agg [nI al,.sl vt 0 0 rs.length,.sl (vt + 1) 0 0 ac.length]) H4:=by intro R k; rw [hH4,hvt]; exact CL (by omega) hs ha hL
 have gvt:Has H4 vt rs ac:=by rw [hH4,hvt]; exact CF
 have lH4:H4.length = List.length H3 + rs.length + 2:=by rw [hH4,List.length_append,xQ]; omega
 have wH4:wgt H4 ≤ wgt H3 + 1048576:=by rw [hH4,l7,CB]; omega
 obtain ⟨fA,hfA⟩:∃ f:Foot,f = { ids:=List.range' (List.length H3) (autO vt rs ac).length,ro:=false }:=⟨_,rfl⟩
 have st_f6:rW env 14 H3 H4 [] = some (H4,fA):=by rw [hfA,hH4]; exact aKP pJ
 have st_f7:∀ {ord:List Nat},rW env 17 H4 H4 ord = some (H4,{ ids:=ord,ro:=true }):=fun {ord} => aM0 bX
 obtain ⟨ord7,hord7⟩:∃ l,l = aD aI H4 (idsL [.agg [nI al,.sl v1 0 0 rs.length,.sl (v1 + 1) 0 0 ac.length],.agg [nI al,.sl vt 0 0 rs.length,.sl (vt + 1) 0 0 ac.length]]) []:=⟨_,rfl⟩
 have st_r7:aD aI H4 (idsL [.agg [nI al,.sl v1 0 0 rs.length,.sl (v1 + 1) 0 0 ac.length],.agg [nI al,.sl vt 0 0 rs.length,.sl (vt + 1) 0 0 ac.length]]) [] = ord7:=hord7.symm
 have gH4x:Has H4 v1 rs ac:=by rw [hH4]; exact T1 gE3x
 have kc_7:∀ {R:Type} {k:A → H → Option R},aW env (aA env L (n - 1)) H4 17 [.agg [nI al,.sl v1 0 0 rs.length,.sl (v1 + 1) 0 0 ac.length],.agg [nI al,.sl vt 0 0 rs.length,.sl (vt + 1) 0 0 ac.length]] k = k (.d (.bool true)) H4:=fun {R k} => aUT (by omega) hs ha (rd2 (CZ gH4x) (CZ gvt)) (by simp [idsL,uF,xM,idsA]; omega) hL
 simp only [aLI] at lH2 lH3 lH4 hv1 hvt hvg
 have hclash:∀ (ops:List Oper) (p q:Foot),aG9 5 [(0,1),(0,2),(1,2)] ops = true → nR ops ([] ++ [{ ids:=idsA (A.ptr (H2.length + 2) 0 0) }] ++ [{ ids:=idsA (A.ptr 0 0 0) }] ++ [fA] ++ [p] ++ [q]) = true:=by
  intro ops p q hm
  refine aND 5 [(0,1),(0,2),(1,2)] rfl hm ?_
  intro z hz
  simp only [List.mem_cons,List.not_mem_nil,or_false] at hz
  rcases hz with rfl | rfl | rfl
  ·exact aMR rfl rfl
  ·show qX { ids:=idsA (A.ptr (H2.length + 2) 0 0) } fA = false; rw [hfA]; exact XA rfl (by omega)
  ·show qX { ids:=idsA (A.ptr 0 0 0) } fA = false; rw [hfA]; exact XA rfl (by omega)
 have b4_0:H4[0]? = some (.box [nI al,.d (.ivs (List.length rs) (rowsD rs)),.d (.ivs (List.length ac) (bools ac))]):=by rw [hH4]; exact m7 b3_0
 have b4_x:H4[H2.length + 1 + 1]? = some (.box [nI al,.sl v1 0 0 rs.length,.sl (v1 + 1) 0 0 ac.length]):=by rw [hH4]; exact m7 b3_x
 have b4_g:H4[vg]? = some (.arr (aC l) 1 0):=by rw [hH4]; exact m7 gvg
 obtain ⟨H5,c8,l5,gH5x,s5,w5⟩:=aMU (L:=L) (n:=n - 1) (by omega) (al:=al) gH4x (c:=1) hs ha (by omega) (by omega) hL
 have kc_8:∀ {R:Type} {k:A → H → Option R},aW env (aA env L (n - 1)) H4 18 [.agg [nI al,.sl v1 0 0 rs.length,.sl (v1 + 1) 0 0 ac.length],nI 1] k = k (nI (1 + aG rs + ac.length)) H5:=fun {R k} => c8 R k
 have b5_0:H5[0]? = some (.box [nI al,.d (.ivs (List.length rs) (rowsD rs)),.d (.ivs (List.length ac) (bools ac))]):=by rw [s5 0 (.inl (by omega))]; exact b4_0
 have b5_g:H5[vg]? = some (.arr (aC l) 1 0):=by rw [s5 _ (.inr (by omega))]; exact b4_g
 have kc_9:∀ {R:Type} {k:A → H → Option R},aW env (aA env L (n - 1)) H5 16 [.sl vg 0 0 l.length,.d (.ivs l.length (aC l))] k = k (.d (.bool true)) H5:=fun {R k} => ND (by omega) (by omega) (rd2 (OE b5_g) oP) (by simp [idsL,idsA]; omega) hL
 obtain ⟨H6,hH6⟩:∃ H,H = H5.set vg (.arr (aC (pK 1 l.length)) 1 0):=⟨_,rfl⟩
 have kc_10:∀ {R:Type} {k:A → H → Option R},aW env (aA env L (n - 1)) H5 19 [.sl vg 0 0 l.length,nI 1] k = k (nI (1 + l.length)) H6:=by
  intro R k
  rw [hH6]
  refine CJ (id:=vg) b5_g (by simp [idsL,idsA]) BP rfl ?_
  have hpl:aH [vg] vg = some 0:=by simp [aH]
  simp only [aP,mapA,hpl]
  exact aIA (by omega) hL l (by omega)
 have vgl:vg < H5.length:=by omega
 have b6_0:H6[0]? = some (.box [nI al,.d (.ivs (List.length rs) (rowsD rs)),.d (.ivs (List.length ac) (bools ac))]):=by rw [hH6,List.getElem?_set_ne (by omega)]; exact b5_0
 have b6_g:H6[vg]? = some (.arr (aC (pK 1 l.length)) 1 0):=by rw [hH6,List.getElem?_set_self vgl]
 have w6:wgt H6 ≤ wgt H5:=by rw [hH6]; exact aGz vgl rfl
 have l6:H6.length = H5.length:=by rw [hH6]; simp
 have kc_11:∀ {R:Type} {k:A → H → Option R},aW env (aA env L (n - 1)) H6 20 [.sl vg 0 0 l.length,nI 1] k = k (nI (1 + l.length)) H6:=by
  intro R k
  have hr:=OE b6_g
  rw [yV] at hr
  exact QT (by omega) (by omega) (rd2 hr oP) (by simp [idsL,idsA]; omega) hL
 obtain ⟨vu,hvu⟩:∃ v,v = List.length H6:=⟨_,rfl⟩
 obtain ⟨H7,hH7⟩:∃ H,H = H6 ++ autO vu rs ac:=⟨_,rfl⟩
 have kc_12:∀ {R:Type} {k:A → H → Option R},aW env (aA env L (n - 1)) H6 14 [.agg [nI al,.d (.ivs (List.length rs) (rowsD rs)),.d (.ivs (List.length ac) (bools ac))]] k = k (.agg [nI al,.sl vu 0 0 rs.length,.sl (vu + 1) 0 0 ac.length]) H7:=by intro R k; rw [hH7,hvu]; exact CL (by omega) hs ha hL
 have gvu:Has H7 vu rs ac:=by rw [hH7,hvu]; exact CF
 have lH7:H7.length = List.length H6 + rs.length + 2:=by rw [hH7,List.length_append,xQ]; omega
 have wH7:wgt H7 ≤ wgt H6 + 1048576:=by rw [hH7,l7,CB]; omega
 obtain ⟨vh,hvh⟩:∃ v,v = List.length H7:=⟨_,rfl⟩
 obtain ⟨H8,hH8⟩:∃ H,H = H7 ++ [O.arr (aC l) 1 0]:=⟨_,rfl⟩
 have kc_13:∀ {R:Type} {k:A → H → Option R},aW env (aA env L (n - 1)) H7 15 [.agg [nI al,.sl vu 0 0 rs.length,.sl (vu + 1) 0 0 ac.length],nI x] k = k (.tup [.sl vh 0 0 l.length,.d (.bool true)]) H8:=by intro R k; rw [hH8,hvh]; exact aKo nE (hrdg gvu) (by simp [idsL,uF,xM,idsA]; omega) hI
 have gvh:H8[vh]? = some (.arr (aC l) 1 0):=by rw [hH8,hvh]; simp
 have lH8:H8.length = List.length H7 + 1:=by rw [hH8]; simp
 have wH8:wgt H8 ≤ wgt H7:=by rw [hH8,l7]; simp [wgt]
 have b8_g:H8[vg]? = some (.arr (aC (pK 1 l.length)) 1 0):=by rw [hH8,hH7]; exact m7 (m7 b6_g)
 have kc_14:∀ {R:Type} {k:A → H → Option R},aW env (aA env L (n - 1)) H8 16 [.sl vh 0 0 l.length,.d (.ivs l.length (aC l))] k = k (.d (.bool true)) H8:=fun {R k} => ND (by omega) (by omega) (rd2 (OE gvh) oP) (by simp [idsL,idsA]; omega) hL
 have kc_15:∀ {R:Type} {k:A → H → Option R},aW env (aA env L (n - 1)) H8 20 [.sl vg 0 0 l.length,nI 1] k = k (nI (1 + l.length)) H8:=by
  intro R k
  have hr:=OE b8_g
  rw [yV] at hr
  exact QT (by omega) (by omega) (rd2 hr oP) (by simp [idsL,idsA]; omega) hL
 have p1:¬ (1:Int) + aG rs + ac.length < 0:=by omega
 have p2:¬ (1:Int) + l.length < 0:=by omega
 have hll:ac.length ≤ 9223372036854775807:=by omega
 clear hH2 hH3 hH4 hH7 hH8 hv1 hvt hvu lH2 lH3 lH4 lH7 lH8 gv1 gE2 gE3x gvt gH4x gH5x gvu s5 c8 w1 wG1 wE2 w5 wH2 wH3 wH4 wH7 wH8 l1 l5 hfA hord7 hS hI hrdg hvg hvh gvg gvh b8_g b4_g b5_g b6_g hH6 w6 l6 vgl
 obtain _ | n:=n; omega
 simp only [Nat.add_sub_cancel] at kc_1 kc_2 kc_3 kc_4 kc_5 kc_6 kc_7 kc_8 kc_9 kc_10 kc_11 kc_12 kc_13 kc_14 kc_15
 have n1:1 ≤ n + 1:=by omega
 have hclash:=fun ops p q h => aJg (hclash ops p q h)
 obtain _ | n:=n; omega
 rw [vO]
 simp only [qF,Tryz.f3,SLM,simprocAttr]
 simp -implicitDefEqProofs (maxSteps:=2000000) (disch:=first | assumption | (refine Shut.mk ?_; exact hclash _ _ _ kr) | (refine Shut.mk ?_; kernel_rfl) | omega | (simp only [GT]; done) | (simp only [LN] <;> omega) | fail) only [↓DN,↓kAsg,↓kRet,UP,simprocAttr,↓H0,↓HN,↓BX,↓BS,↓BJ,LA,hsz,p1,p2,↓kc_1,↓kc_2,↓kc_3,↓kc_4,↓kc_5,↓kc_6,↓kc_7,↓kc_8,↓kc_9,↓kc_10,↓kc_11,↓kc_12,↓kc_13,↓kc_14,↓kc_15,↓st_f6,↓st_f7,↓st_r7,b1_0,b2_0,b3_0,b3_x,b4_x,b5_0,b6_0,List.append_assoc,List.cons_append,List.nil_append,XU,aNb,beq_self_eq_true,bne_self_eq_false]
theorem aAe {L n:Nat} (hn:30 ≤ n) (al:Int) (rs:List (List Int)) (ac:List Bool) (x:Int) (hlen:rowsLen rs) (hla:ac.length ≤ 9223372036854775807) (hsz:¬ szA rs ac 1048576 < 0) (hok:lS ⟨al,rs,ac⟩ x = none) (hL:2 ^ 60 ≤ L):aA env L n 3 [.agg [nI al,.d (.ivs (List.length rs) (rowsD rs)),.d (.ivs (List.length ac) (bools ac))],nI x] [] = some (.d (.bool true),[]):=by
 obtain ⟨hr20,hc20,ha20⟩:=aKr hsz
 have hs:a8 rs:=⟨by omega,fun r hr => by have:=hc20 r hr; omega⟩
 have ha:ac.length ≤ 4294967296:=by omega
 have ht1:=aKS hsz
 have hS:=G4 (L:=L) (n:=n - 1) (by omega) ⟨al,rs,ac⟩ x hs ha hL
 have hI:=T7 (L:=L) (n:=n - 1) (by omega) ⟨al,rs,ac⟩ x hs ha hL
 rw [hok] at hS hI
 simp only [Option.getD_none,Option.isSome_none,List.length_nil,oZ] at hS
 simp only at hS hI
 have hG1:Has (O.box [nI al,.d (.ivs (List.length rs) (rowsD rs)),.d (.ivs (List.length ac) (bools ac))] :: autO 1 rs ac) 1 rs ac:=CF (h:=[O.box [nI al,.d (.ivs (List.length rs) (rowsD rs)),.d (.ivs (List.length ac) (bools ac))]])
 have wG1:wgt (O.box [nI al,.d (.ivs (List.length rs) (rowsD rs)),.d (.ivs (List.length ac) (bools ac))] :: autO 1 rs ac) ≤ 1048576:=by
  have:=l7 [O.box [nI al,.d (.ivs (List.length rs) (rowsD rs)),.d (.ivs (List.length ac) (bools ac))]] (autO 1 rs ac)
  rw [CB] at this
  have h2:wgt [O.box [nI al,.d (.ivs (List.length rs) (rowsD rs)),.d (.ivs (List.length ac) (bools ac))]] = 0:=by simp [wgt,idsL,idsA]
  have h3:(O.box [nI al,.d (.ivs (List.length rs) (rowsD rs)),.d (.ivs (List.length ac) (bools ac))] :: autO 1 rs ac) = [O.box [nI al,.d (.ivs (List.length rs) (rowsD rs)),.d (.ivs (List.length ac) (bools ac))]] ++ autO 1 rs ac:=rfl
  rw [h3]; omega
 have kc_1:∀ {R:Type} {k:A → H → Option R},aW env (aA env L (n - 1)) [O.box [nI al,.d (.ivs (List.length rs) (rowsD rs)),.d (.ivs (List.length ac) (bools ac))]] 14 [.agg [nI al,.d (.ivs (List.length rs) (rowsD rs)),.d (.ivs (List.length ac) (bools ac))]] k = k (.agg [nI al,.sl 1 0 0 rs.length,.sl (1 + 1) 0 0 ac.length]) (O.box [nI al,.d (.ivs (List.length rs) (rowsD rs)),.d (.ivs (List.length ac) (bools ac))] :: autO 1 rs ac):=fun {R k} => CL (h:=[O.box [nI al,.d (.ivs (List.length rs) (rowsD rs)),.d (.ivs (List.length ac) (bools ac))]]) (by omega) hs ha hL
 have hrd1:rdAs (O.box [nI al,.d (.ivs (List.length rs) (rowsD rs)),.d (.ivs (List.length ac) (bools ac))] :: autO 1 rs ac) [.agg [nI al,.sl 1 0 0 rs.length,.sl (1 + 1) 0 0 ac.length],nI x] = some [.agg [nI al,.d (.ivs (List.length rs) (rowsD rs)),.d (.ivs (List.length ac) (bools ac))],nI x]:=by
  have h1:=CZ (al:=al) hG1
  simp only [rdAs,show A.agg [nI al,.sl 1 0 0 rs.length,.sl (1 + 1) 0 0 ac.length] = autA 1 al rs.length ac.length from rfl,h1,oP]; rfl
 obtain ⟨H1,c2,l1,w1,s1⟩:=aHB (call:=aA env L (n - 1)) tZ hrd1 (by simp [idsL,uF,xM,idsA]; omega) hS (by simp [idsA,idsL])
 have kc_2:∀ {R:Type} {k:A → H → Option R},aW env (aA env L (n - 1)) (O.box [nI al,.d (.ivs (List.length rs) (rowsD rs)),.d (.ivs (List.length ac) (bools ac))] :: autO 1 rs ac) 13 [.agg [nI al,.sl 1 0 0 rs.length,.sl (1 + 1) 0 0 ac.length],nI x] k = k (.tup [.d (.ivs 0 []),.d (.bool false)]) H1:=fun {R k} => c2 R k
 have b1_0:H1[0]? = some (.box [nI al,.d (.ivs (List.length rs) (rowsD rs)),.d (.ivs (List.length ac) (bools ac))]):=by
  have r1:=aA8 hG1 (by omega)
  have hid1:idsL [A.agg [nI al,.sl 1 0 0 rs.length,.sl (1 + 1) 0 0 ac.length],nI x] = [1,1 + 1]:=by simp [idsL,idsA]
  rw [hid1,r1] at s1
  rw [s1 0 (by rw [List.mem_range'_1]; omega)]; rfl
 have hp0:0 < H1.length:=by rw [l1]; exact Nat.succ_pos _
 clear s1 c2 hG1 hrd1
 obtain ⟨v1,hv1⟩:∃ v,v = List.length H1:=⟨_,rfl⟩
 obtain ⟨H2,hH2⟩:∃ H,H = H1 ++ autO v1 rs ac:=⟨_,rfl⟩
 have kc_3:∀ {R:Type} {k:A → H → Option R},aW env (aA env L (n - 1)) H1 14 [.agg [nI al,.d (.ivs (List.length rs) (rowsD rs)),.d (.ivs (List.length ac) (bools ac))]] k = k (.agg [nI al,.sl v1 0 0 rs.length,.sl (v1 + 1) 0 0 ac.length]) H2:=by intro R k; rw [hH2,hv1]; exact CL (by omega) hs ha hL
 have gv1:Has H2 v1 rs ac:=by rw [hH2,hv1]; exact CF
 have lH2:H2.length = List.length H1 + rs.length + 2:=by rw [hH2,List.length_append,xQ]; omega
 have wH2:wgt H2 ≤ wgt H1 + 1048576:=by rw [hH2,l7,CB]; omega
 have b2_0:H2[0]? = some (.box [nI al,.d (.ivs (List.length rs) (rowsD rs)),.d (.ivs (List.length ac) (bools ac))]):=by rw [hH2]; exact m7 b1_0
 have wE2:wgt (H2 ++ [O.arr [] 0 0,O.arr [] 0 0,O.box [nI al,.sl v1 0 0 rs.length,.sl (v1 + 1) 0 0 ac.length]]) ≤ wgt H2 + 2:=by rw [wgt3 rfl rfl]; simp [idsL,idsA]
 have gE2:Has (H2 ++ [O.arr [] 0 0,O.arr [] 0 0,O.box [nI al,.sl v1 0 0 rs.length,.sl (v1 + 1) 0 0 ac.length]]) v1 rs ac:=T1 gv1
 have hrdg:∀ {h:H} {v:Nat},Has h v rs ac → rdAs h [.agg [nI al,.sl v 0 0 rs.length,.sl (v + 1) 0 0 ac.length],nI x] = some [.agg [nI al,.d (.ivs (List.length rs) (rowsD rs)),.d (.ivs (List.length ac) (bools ac))],nI x]:=by
  intro h v g
  have h1:=CZ (al:=al) g
  simp only [rdAs,show A.agg [nI al,.sl v 0 0 rs.length,.sl (v + 1) 0 0 ac.length] = autA v al rs.length ac.length from rfl,h1,oP]; rfl
 obtain ⟨H3,hH3⟩:∃ H,H = (H2 ++ [O.arr [] 0 0,O.arr [] 0 0,O.box [nI al,.sl v1 0 0 rs.length,.sl (v1 + 1) 0 0 ac.length]]):=⟨_,rfl⟩
 have kc_4:∀ {R:Type} {k:A → H → Option R},aW env (aA env L (n - 1)) (H2 ++ [O.arr [] 0 0,O.arr [] 0 0,O.box [nI al,.sl v1 0 0 rs.length,.sl (v1 + 1) 0 0 ac.length]]) 15 [.agg [nI al,.sl v1 0 0 rs.length,.sl (v1 + 1) 0 0 ac.length],nI x] k = k (.tup [.d (.ivs 0 []),.d (.bool false)]) H3:=by intro R k; rw [hH3]; exact aRT nE (hrdg gE2) (by simp [idsL,uF,xM,idsA]; omega) hI rfl
 have lH3:H3.length = List.length (H2 ++ [O.arr [] 0 0,O.arr [] 0 0,O.box [nI al,.sl v1 0 0 rs.length,.sl (v1 + 1) 0 0 ac.length]]):=by rw [hH3]
 have wH3:wgt H3 ≤ wgt (H2 ++ [O.arr [] 0 0,O.arr [] 0 0,O.box [nI al,.sl v1 0 0 rs.length,.sl (v1 + 1) 0 0 ac.length]]):=by rw [hH3]; exact Nat.le_refl _
 have b3_0:H3[0]? = some (.box [nI al,.d (.ivs (List.length rs) (rowsD rs)),.d (.ivs (List.length ac) (bools ac))]):=by rw [hH3]; exact (m7 b2_0)
 have b3_x:H3[H2.length + 1 + 1]? = some (.box [nI al,.sl v1 0 0 rs.length,.sl (v1 + 1) 0 0 ac.length]):=by rw [hH3]; exact XU
 have gE3x:Has H3 v1 rs ac:=by rw [hH3]; exact gE2
 have kc_5:∀ {R:Type} {k:A → H → Option R},aW env (aA env L (n - 1)) H3 16 [.d (.ivs 0 []),.d (.ivs 0 [])] k = k (.d (.bool true)) H3:=fun {R k} => ND (l:=[]) (by omega) (by simp) (rd2 oP oP) (by simp [idsL,idsA]; omega) hL
 obtain ⟨vt,hvt⟩:∃ v,v = List.length H3:=⟨_,rfl⟩
 obtain ⟨H4,hH4⟩:∃ H,H = H3 ++ autO vt rs ac:=⟨_,rfl⟩
 have kc_6:∀ {R:Type} {k:A → H → Option R},aW env (aA env L (n - 1)) H3 14 [.agg [nI al,.d (.ivs (List.length rs) (rowsD rs)),.d (.ivs (List.length ac) (bools ac))]] k = k (.agg [nI al,.sl vt 0 0 rs.length,.sl (vt + 1) 0 0 ac.length]) H4:=by intro R k; rw [hH4,hvt]; exact CL (by omega) hs ha hL
 have gvt:Has H4 vt rs ac:=by rw [hH4,hvt]; exact CF
 have lH4:H4.length = List.length H3 + rs.length + 2:=by rw [hH4,List.length_append,xQ]; omega
 have wH4:wgt H4 ≤ wgt H3 + 1048576:=by rw [hH4,l7,CB]; omega
 obtain ⟨fA,hfA⟩:∃ f:Foot,f = { ids:=List.range' (List.length H3) (autO vt rs ac).length,ro:=false }:=⟨_,rfl⟩
 have st_f6:rW env 14 H3 H4 [] = some (H4,fA):=by rw [hfA,hH4]; exact aKP pJ
 have st_f7:∀ {ord:List Nat},rW env 17 H4 H4 ord = some (H4,{ ids:=ord,ro:=true }):=fun {ord} => aM0 bX
 obtain ⟨ord7,hord7⟩:∃ l,l = aD aI H4 (idsL [.agg [nI al,.sl v1 0 0 rs.length,.sl (v1 + 1) 0 0 ac.length],.agg [nI al,.sl vt 0 0 rs.length,.sl (vt + 1) 0 0 ac.length]]) []:=⟨_,rfl⟩
 have st_r7:aD aI H4 (idsL [.agg [nI al,.sl v1 0 0 rs.length,.sl (v1 + 1) 0 0 ac.length],.agg [nI al,.sl vt 0 0 rs.length,.sl (vt + 1) 0 0 ac.length]]) [] = ord7:=hord7.symm
 have gH4x:Has H4 v1 rs ac:=by rw [hH4]; exact T1 gE3x
 have kc_7:∀ {R:Type} {k:A → H → Option R},aW env (aA env L (n - 1)) H4 17 [.agg [nI al,.sl v1 0 0 rs.length,.sl (v1 + 1) 0 0 ac.length],.agg [nI al,.sl vt 0 0 rs.length,.sl (vt + 1) 0 0 ac.length]] k = k (.d (.bool true)) H4:=fun {R k} => aUT (by omega) hs ha (rd2 (CZ gH4x) (CZ gvt)) (by simp [idsL,uF,xM,idsA]; omega) hL
 simp only [aLI] at lH2 lH3 lH4 hv1 hvt
 have hclash:∀ (ops:List Oper) (p q:Foot),aG9 5 [(0,1),(0,2),(1,2)] ops = true → nR ops ([] ++ [{ ids:=idsA (A.ptr (H2.length + 2) 0 0) }] ++ [{ ids:=idsA (A.ptr 0 0 0) }] ++ [fA] ++ [p] ++ [q]) = true:=by
  intro ops p q hm
  refine aND 5 [(0,1),(0,2),(1,2)] rfl hm ?_
  intro z hz
  simp only [List.mem_cons,List.not_mem_nil,or_false] at hz
  rcases hz with rfl | rfl | rfl
  ·exact aMR rfl rfl
  ·show qX { ids:=idsA (A.ptr (H2.length + 2) 0 0) } fA = false; rw [hfA]; exact XA rfl (by omega)
  ·show qX { ids:=idsA (A.ptr 0 0 0) } fA = false; rw [hfA]; exact XA rfl (by omega)
 have b4_0:H4[0]? = some (.box [nI al,.d (.ivs (List.length rs) (rowsD rs)),.d (.ivs (List.length ac) (bools ac))]):=by rw [hH4]; exact m7 b3_0
 have b4_x:H4[H2.length + 1 + 1]? = some (.box [nI al,.sl v1 0 0 rs.length,.sl (v1 + 1) 0 0 ac.length]):=by rw [hH4]; exact m7 b3_x
 obtain ⟨H5,c8,l5,gH5x,s5,w5⟩:=aMU (L:=L) (n:=n - 1) (by omega) (al:=al) gH4x (c:=1) hs ha (by omega) (by omega) hL
 have kc_8:∀ {R:Type} {k:A → H → Option R},aW env (aA env L (n - 1)) H4 18 [.agg [nI al,.sl v1 0 0 rs.length,.sl (v1 + 1) 0 0 ac.length],nI 1] k = k (nI (1 + aG rs + ac.length)) H5:=fun {R k} => c8 R k
 have b5_0:H5[0]? = some (.box [nI al,.d (.ivs (List.length rs) (rowsD rs)),.d (.ivs (List.length ac) (bools ac))]):=by rw [s5 0 (.inl (by omega))]; exact b4_0
 have kc_9:∀ {R:Type} {k:A → H → Option R},aW env (aA env L (n - 1)) H5 16 [.d (.ivs 0 []),.d (.ivs 0 [])] k = k (.d (.bool true)) H5:=fun {R k} => ND (l:=[]) (by omega) (by simp) (rd2 oP oP) (by simp [idsL,idsA]; omega) hL
 have kc_10:∀ {R:Type} {k:A → H → Option R},aW env (aA env L (n - 1)) H5 19 [.d (.ivs 0 []),nI 1] k = k (nI 1) H5:=fun {R k} => eO rfl (aCL (by omega) hL) rfl (.inl rfl)
 have kc_11:∀ {R:Type} {k:A → H → Option R},aW env (aA env L (n - 1)) H5 20 [.d (.ivs 0 []),nI 1] k = k (nI 1) H5:=by
  intro R k
  have:=QT (L:=L) (n:=n - 1) (h:=H5) (R:=R) (k:=k) (l:=[]) (args:=[.d (.ivs 0 []),nI 1]) (by omega) (by simp) (rd2 oP oP) (by simp [idsL,idsA]; omega) hL
  simpa using this
 obtain ⟨vu,hvu⟩:∃ v,v = List.length H5:=⟨_,rfl⟩
 obtain ⟨H7,hH7⟩:∃ H,H = H5 ++ autO vu rs ac:=⟨_,rfl⟩
 have kc_12:∀ {R:Type} {k:A → H → Option R},aW env (aA env L (n - 1)) H5 14 [.agg [nI al,.d (.ivs (List.length rs) (rowsD rs)),.d (.ivs (List.length ac) (bools ac))]] k = k (.agg [nI al,.sl vu 0 0 rs.length,.sl (vu + 1) 0 0 ac.length]) H7:=by intro R k; rw [hH7,hvu]; exact CL (by omega) hs ha hL
 have gvu:Has H7 vu rs ac:=by rw [hH7,hvu]; exact CF
 have lH7:H7.length = List.length H5 + rs.length + 2:=by rw [hH7,List.length_append,xQ]; omega
 have wH7:wgt H7 ≤ wgt H5 + 1048576:=by rw [hH7,l7,CB]; omega
 obtain ⟨H8,hH8⟩:∃ H,H = H7:=⟨_,rfl⟩
 have kc_13:∀ {R:Type} {k:A → H → Option R},aW env (aA env L (n - 1)) H7 15 [.agg [nI al,.sl vu 0 0 rs.length,.sl (vu + 1) 0 0 ac.length],nI x] k = k (.tup [.d (.ivs 0 []),.d (.bool false)]) H8:=by intro R k; rw [hH8]; exact aRT nE (hrdg gvu) (by simp [idsL,uF,xM,idsA]; omega) hI rfl
 have lH8:H8.length = List.length H7:=by rw [hH8]
 have wH8:wgt H8 ≤ wgt H7:=by rw [hH8]; exact Nat.le_refl _
 have kc_14:∀ {R:Type} {k:A → H → Option R},aW env (aA env L (n - 1)) H8 16 [.d (.ivs 0 []),.d (.ivs 0 [])] k = k (.d (.bool true)) H8:=fun {R k} => ND (l:=[]) (by omega) (by simp) (rd2 oP oP) (by simp [idsL,idsA]; omega) hL
 have kc_15:∀ {R:Type} {k:A → H → Option R},aW env (aA env L (n - 1)) H8 20 [.d (.ivs 0 []),nI 1] k = k (nI 1) H8:=by
  intro R k
  have:=QT (L:=L) (n:=n - 1) (h:=H8) (R:=R) (k:=k) (l:=[]) (args:=[.d (.ivs 0 []),nI 1]) (by omega) (by simp) (rd2 oP oP) (by simp [idsL,idsA]; omega) hL
  simpa using this
 have p1:¬ (1:Int) + aG rs + ac.length < 0:=by omega
 have hll:ac.length ≤ 9223372036854775807:=by omega
 clear hH2 hH3 hH4 hH7 hH8 hv1 hvt hvu lH2 lH3 lH4 lH7 lH8 gv1 gE2 gE3x gvt gH4x gH5x gvu s5 c8 w1 wG1 wE2 w5 wH2 wH3 wH4 wH7 wH8 l1 l5 hfA hord7 hS hI hrdg
 obtain _ | n:=n; omega
 simp only [Nat.add_sub_cancel] at kc_1 kc_2 kc_3 kc_4 kc_5 kc_6 kc_7 kc_8 kc_9 kc_10 kc_11 kc_12 kc_13 kc_14 kc_15
 have n1:1 ≤ n + 1:=by omega
 have hclash:=fun ops p q h => aJg (hclash ops p q h)
 obtain _ | n:=n; omega
 rw [vO]
 simp only [qF,Tryz.f3,SLM,simprocAttr]
 simp -implicitDefEqProofs (maxSteps:=2000000) (disch:=first | assumption | (refine Shut.mk ?_; exact hclash _ _ _ kr) | (refine Shut.mk ?_; kernel_rfl) | omega | (simp only [GT]; done) | (simp only [LN] <;> omega) | fail) only [↓DN,↓kAsg,↓kRet,UP,simprocAttr,↓H0,↓HN,↓BX,↓BS,↓BJ,LA,hsz,p1,↓kc_1,↓kc_2,↓kc_3,↓kc_4,↓kc_5,↓kc_6,↓kc_7,↓kc_8,↓kc_9,↓kc_10,↓kc_11,↓kc_12,↓kc_13,↓kc_14,↓kc_15,↓st_f6,↓st_f7,↓st_r7,b1_0,b2_0,b3_0,b3_x,b4_x,b5_0,b5_0,List.append_assoc,List.cons_append,List.nil_append,XU,aNb,beq_self_eq_true,bne_self_eq_false]
theorem ZW {L n:Nat} (hn:30 ≤ n) (al:Int) (rs:List (List Int)) (ac:List Bool) (hlen:rowsLen rs) (hla:ac.length ≤ 9223372036854775807) (x:Int) (hL:2 ^ 60 ≤ L):aA env L n 3 [.agg [nI al,.d (.ivs (List.length rs) (rowsD rs)),.d (.ivs (List.length ac) (bools ac))],nI x] [] = some (.d (.bool true),[]):=by
 by_cases hsz:szA rs ac 1048576 < 0
 ·obtain _ | n:=n; omega
  rw [vO]
  simp only [qF,Tryz.f3,SLM,simprocAttr]
  simp -implicitDefEqProofs (maxSteps:=2000000) (disch:=try exact Dz) only [↓DN,↓kAsg,↓kRet,UP,simprocAttr,↓H0,↓aIZ,↓aNd,↓aH8,↓aH9,↓HN,↓aLS,↓UC,↓aIQ,↓BX,↓BS,↓BJ,↓aIw,↓aIi,↓aH7,↓aEs,↓aCP,↓aCQ,↓aC1,↓aCR,↓aCX,↓aCT,↓aEJ,↓aEk,↓aFk,↓aFc,↓aEZ,↓aEE,↓aE5,↓aFx,↓aEr,LA,hsz]
 ·cases hok:lS ⟨al,rs,ac⟩ x with
  | some l => exact aAi hn al rs ac x l hlen hla hsz hok hL
  | none => exact aAe hn al rs ac x hlen hla hsz hok hL
end Ev
end Go.Proofs.YtejmccgfigiadaaGreat
