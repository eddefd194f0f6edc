/-
  The words that cover, walked: the program's.
-/
import Derived.Test.YtejmccgfigiadaaGreatSuiteS
import Derived.Test.YtejmccgfigiadaaGreatSortLayX
import Derived.Test.YtejmccgfigiadaaGreatDistG
import Derived.Test.YtejmccgfigiadaaGreatWords
import Derived.Test.YtejmccgfigiadaaGreatAccess
set_option linter.unusedSimpArgs false
set_option linter.unusedVariables false
set_option maxRecDepth 8000
set_option maxHeartbeats 4000000
namespace Go.Proofs.YtejmccgfigiadaaGreat
namespace Ev
theorem UL:∀ l:List Str,xG (aE l) = some l
 | [] => rfl
 | s :: l => by
  show (xG (aE l)).map (s :: ·) = _
  rw [UL l]; rfl
theorem aGV {a:Aut} {j i:Nat} (h:(oneG a (i:Nat)).2 = true):fD a (j + 1) i = txt (oneG a (i:Nat)).1 :: fD a j (i + 1):=by
 simp [fD,List.range'_succ,h]
theorem aGG {a:Aut} {j i:Nat} (h:(oneG a (i:Nat)).2 = false):fD a (j + 1) i = fD a j (i + 1):=by
 simp [fD,List.range'_succ,h]
theorem aID (l:List Str):(U7 l).length = l.length:=List.length_mergeSort _
theorem aHH {l:List Str} (hl:l.length ≤ 4294967296):CF 52 [.sl 0 0 0 l.length,.clo 52 []] [.arr (aE l) 1 0] = some (.tup [],[.arr (aE (U7 l)) 1 0]):=by
 have h1:True ∧ True ∧ True ∧ (l.length = 0 ∨ True) ∧ l.length ≤ (aE l).length ∧ l.length ≤ bF:=by
  refine ⟨trivial,trivial,trivial,.inr trivial,by rw [dZ]; omega,by unfold bF; omega⟩
 have h2:xG ((aE l).take l.length) = some l:=by rw [fK (Nat.le_refl _),UL]
 have h3:(aE l).drop l.length = []:=by rw [aGm,List.drop_length]; rfl
 simp only [CF,List.getElem?_cons_zero]
 rw [if_pos h1]
 simp only [h2,h3,List.append_nil,List.set_cons_zero]
 rfl
theorem rG {R:Type} {L n id:Nat} {hq:H} {k:KA R} (hn:1 ≤ n) (l:List Str) (hi:hq[id]? = some (.arr (aE l) 1 0)) (hl:l.length ≤ 4294967296) :
  aS env (aA env L n) hq 69 [.sl id 0 0 l.length,.clo 52 []] k = k (.tup []) (hq.set id (.arr (aE (U7 l)) 1 0)):=by
 obtain _ | n:=n; omega
 exact L6 hi (by simp [idsL,idsA]) p8 (by simp [idsA,idsL]) (by rw [p3]; simpa [aM,mapA,aJ] using aHH hl)
theorem PR {R:Type} {L n:Nat} (hn:9 ≤ n) (hL:2 ^ 60 ≤ L) {a:Aut} (ha:AOK a) {k:KE R}:∀ (q i m:Nat) (o:List Str) (len:Nat) (hq:i + q = a.nx.length) (hm:q < m) (hlen:len = o.length) (ho:o.length + q ≤ 100000),
  aF env (aA env L n) L 0 [0,0,0,2] Bz38 (jD 0) (U1 (Z2 (Z1 (U8 (Z2 (U16 (U1 ([])))))))) m (Y1 (.ptr 0 0 0 :: .d .nils :: .sl 1 0 0 len :: Y8 (nI (a.nx.length) :: nI i :: Y16 (Y1 ([]))))) [.box [nI a.al,.d (.ivs a.nx.length (rowsD a.nx)),.d (.ivs a.ac.length (bools a.ac))],.arr (aE o) 1 0] k
  = k (.exit 0) (Y1 (.ptr 0 0 0 :: .d .nils :: .sl 1 0 0 (o ++ fD a q i).length :: Y8 (nI (a.nx.length) :: nI (a.nx.length:Int) :: Y16 (Y1 ([]))))) [.box [nI a.al,.d (.ivs a.nx.length (rowsD a.nx)),.d (.ivs a.ac.length (bools a.ac))],.arr (aE (o ++ fD a q i)) 1 0]:=by
 obtain ⟨sa,wa,a1,a2,a3⟩:=bD ha
 have hac:a.ac.length ≤ 4294967296:=by omega
 have hal:=sa.1
 intro q
 induction q with
 | zero =>
  intro i m o len hq hm hlen ho
  obtain _ | m:=m; omega
  obtain rfl:i = a.nx.length:=by omega
  subst hlen
  have e:fD a 0 a.nx.length = []:=rfl
  rw [e,List.append_nil]
  simp -implicitDefEqProofs (maxSteps:=2000000) (disch:=try exact Dz) only [↓DN,↓kRet,UP,simprocAttr,Int.lt_irrefl,mZ,l3,Tryz.f30]
 | succ q ih =>
  intro i m o len hq hm hlen ho
  obtain _ | m:=m; omega
  subst hlen
  have hc:(i:Int) < a.nx.length:=by omega
  have kc_s:=@UJ L a i sa hac hL
  have hacc:accG a (i:Nat) = oneG a (i:Nat):=by unfold accG; exact if_pos ha
  rw [hacc] at kc_s
  cases hb:(oneG a (i:Nat)).2 with
  | false =>
   have ih':=ih (i + 1) m o o.length (by omega) (by omega) rfl (by omega)
   rw [cs1 i] at ih'
   rw [aGG hb]
   rw [hb] at kc_s
   clear ih
   generalize fD a q (i + 1) = w2 at *
   generalize txt (oneG a (i:Nat)).1 = w at *
   simp -implicitDefEqProofs (maxSteps:=2000000) (disch:=try exact Dz) only [↓DN,↓kRet,UP,simprocAttr,hc,↓kc_s,↓ih',mZ,l3,Tryz.f30]
  | true =>
   have ih':=ih (i + 1) m (o ++ [txt (oneG a (i:Nat)).1]) (o.length + 1) (by omega) (by omega) (by simp) (by simp; omega)
   rw [cs1 i] at ih'
   simp only [List.append_assoc,List.singleton_append] at ih'
   rw [aGV hb]
   rw [hb] at kc_s
   clear ih
   generalize fD a q (i + 1) = w2 at *
   generalize txt (oneG a (i:Nat)).1 = w at *
   simp -implicitDefEqProofs (maxSteps:=2000000) (disch:=try exact Dz) only [↓DN,↓kRet,UP,simprocAttr,SE,hc,↓kc_s,jG,↓ih',mZ,l3,Tryz.f30]
theorem VO {L n:Nat} (hn:10 ≤ n) (a:Aut) (hv:AOK a) (hL:2 ^ 60 ≤ L):aA env L n 30 [.agg [nI a.al,.d (.ivs a.nx.length (rowsD a.nx)),.d (.ivs a.ac.length (bools a.ac))]] [] = some (.sl 0 0 0 (bU a).length,[.arr (aE (bU a)) 1 0]):=by
 obtain ⟨sa,wa,a1,a2,a3⟩:=bD hv
 have hrl:=sa.1
 have hac:a.ac.length ≤ 4294967296:=by omega
 have loop_c:=fun {R n k} hn => @PR R L n hn hL a hv k a.nx.length 0 L [] 0 (by omega) (by omega) rfl (by simp; omega)
 rw [List.nil_append] at loop_c
 have hcs:=aGM hv
 have hl:=zF hv
 have hl2:=aID (fD a a.nx.length 0)
 rw [hcs] at hl2
 have hl3:(fD a a.nx.length 0).length ≤ 4294967296:=by omega
 simp only [Int.natCast_zero,iI] at loop_c
 rw [← hl2] at loop_c
 have kc_q:=fun {R:Type} {n id:Nat} {hq:H} {k:KA R} (hn:1 ≤ n) (hi:hq[id]? = some (.arr (aE (fD a a.nx.length 0)) 1 0)) => @rG R L n id hq k hn (fD a a.nx.length 0) hi hl3
 rw [hcs,← hl2] at kc_q
 unfold AOK at hv
 clear hcs
 generalize fD a a.nx.length 0 = w0 at *
 generalize bU a = w at *
 have e4:(aE w).take w.length = aE w:=fK (Nat.le_refl _)
 obtain _ | n:=n; omega
 simp -implicitDefEqProofs (maxSteps:=2000000) (disch:=try exact Dz) only [↓DN,↓kAsg,↓kRet,UP,simprocAttr,↓aX,hv,↓loop_c,↓kc_q,XD,GR,Tryz.f30]
theorem I4 {R:Type} {E:Env} {call:bE} {h h2:H} {f:FuncId} {args:List A} {r:A} {k:KA R} (hs:args.all lZ = true) (hm:(E.hint f).mode = 3) (hc:call f args [] = some (r,h2)) (hcl:(jA r && h2.all f9) = true) :
  aS E call h f args k = k (mapA (back [] h.length h2.length) r) (h ++ h2.map (mapO (back [] h.length h2.length))):=by
 have hcall:cC call E.hint [] f args = some (mapA (back [] 0 h2.length) r,h2.map (mapO (back [] 0 h2.length))):=by
  unfold cC
  rw [hm]
  simp only [mO hs,hc,hcl,if_true,List.length_nil,List.nil_append]
 unfold aS
 rw [lM hs,I5,l7 _ (lM hs)]
 have:pack h [] = []:=rfl
 rw [this,hcall]
 have hb:∀ i,(back [] 0 h2.length i).bind (back [] h.length h2.length) = back [] h.length h2.length i:=by
  intro i
  unfold back
  simp only [List.length_nil,Nat.not_lt_zero,if_false,Nat.sub_zero,Nat.zero_add]
  split
  ·rename_i hi; simp [hi]
  ·rfl
 simp only [List.length_nil,Nat.zero_le,true_and,closed,List.all_nil,Bool.and_self,if_true,bG,List.length_map]
 rw [aB3 hb,List.map_map]
 congr 2
 apply List.map_congr_left
 intro o _
 exact aI4 hb o
theorem U0 (l:List Str):f9 (.arr (aE l) 1 0) = true:=by
 simp only [f9,aE,List.all_map,List.all_eq_true]
 intro x _
 rfl
theorem QE {R:Type} {E:Env} {call:bE} {h:H} {f:FuncId} {args:List A} {l:List Str} {k:KA R} (hs:args.all lZ = true) (hm:(E.hint f).mode = 3) (hc:call f args [] = some (.sl 0 0 0 l.length,[.arr (aE l) 1 0])) :
  aS E call h f args k = k (.sl h.length 0 0 l.length) (h ++ [.arr (aE l) 1 0]):=by
 rw [I4 hs hm hc (by simp only [jA,List.all_cons,List.all_nil,U0,Bool.and_self])]
 simp [mapA,back,mapO]
section
variable {R:Type} {L n:Nat}
theorem aHv {l:Int} {h:H}:eD env.P h 5 21 (.d (.int .u8 ((bY l).toNat:Int))) = some (.d (.int .i32 ((bY l).toNat:Int)),h):=by
 have e:IntKind.i32.wrap ((bY l).toNat:Int) = ((bY l).toNat:Int):=IntWalk.i32_in _ (by have:=toNat_lt (bY l); constructor <;> omega)
 have hu:env.P.underlying 21 = some (.int .i32):=kr
 rw [wU PC hu,e]
theorem aHF {l:Int} (h0:0 ≤ l) (h5:l ≤ 5) {h:H}:eD env.P h 21 9 (.d (.int .i32 ((bY l).toNat:Int))) = some (.d (.str [bY l]),h):=by
 have hu:env.P.underlying 21 = some (.int .i32):=kr
 have hs:env.P.underlying 9 = some .string:=kr
 have e:(Utf8.encode ((bY l).toNat:Int)).data.toList = [bY l]:=by
  rcases (show l = 0 ∨ l = 1 ∨ l = 2 ∨ l = 3 ∨ l = 4 ∨ l = 5 by omega) with rfl | rfl | rfl | rfl | rfl | rfl <;> kernel_rfl
 unfold eD
 rw [hu,hs]
 simp only [e]
theorem NB (hn:2 ≤ n) (hL:2 ^ 60 ≤ L) {ls:List Int} (hls:∀ l ∈ ls,0 ≤ l ∧ l ≤ 5) (hl:ls.length ≤ 6) {al x:Int} {f e c p:Nat} {w:Str} (hw:w.length ≤ 100000) {k:KE R}:∀ (j q m:Nat) (o:List Str) (len g:Nat) (hq:q + j = ls.length) (hm:j < m) (hlen:len = o.length) (hg:g = o.length + 1) (ho:o.length + j ≤ 100000),
  aF env (aA env L n) L 0 (W8 (W4 [2002])) Bz4 (cI 2) (Z2 (U2 (Z4 (U1 (Z1 (U8 (U4 (Z2 (Z1 (U4 (Z2 (Z1 (U16 ([])))))))))))))) m (nI al :: nI x :: Y2 (.d .nils :: .sl 0 g 0 len :: nI f :: nI e :: Y1 (.d (.str w) :: Y8 (Y4 (.sl 0 (e + 1) f c :: nI c :: nI p :: Y4 (.d (.ivs ls.length (ints ls)) :: nI (ls.length:Int) :: nI q :: Y16 ([]))))))) [.log (aE o)] k
  = k (.exit 4) (nI al :: nI x :: Y2 (.d .nils :: .sl 0 ((o ++ chG (ls.drop q) w).length + 1) 0 (o ++ chG (ls.drop q) w).length :: nI f :: nI e :: Y1 (.d (.str w) :: Y8 (Y4 (.sl 0 (e + 1) f c :: nI c :: nI p :: Y4 (.d (.ivs ls.length (ints ls)) :: nI (ls.length:Int) :: nI (ls.length:Int) :: Y16 ([]))))))) [.log (aE (o ++ chG (ls.drop q) w))]:=by
 intro j
 induction j with
 | zero =>
  intro q m o len g hq hm hlen hg ho
  obtain _ | m:=m; omega
  obtain rfl:q = ls.length:=by omega
  subst hlen; subst hg
  have e:o ++ chG (ls.drop ls.length) w = o:=by simp [chG]
  rw [e]
  simp -implicitDefEqProofs (maxSteps:=2000000) (disch:=try exact Dz) only [↓DN,↓kRet,UP,simprocAttr,Int.lt_irrefl,w4,s6,Tryz.f49]
 | succ j ih =>
  intro q m o len g hq hm hlen hg ho
  obtain _ | m:=m; omega
  subst hlen; subst hg
  have hk:q < ls.length:=by omega
  have hc:(q:Int) < ls.length:=by omega
  have hq0:(0:Int) ≤ q:=by omega
  have hmem:ls.getD q 0 ∈ ls:=by rw [List.getD_eq_getElem?_getD,List.getElem?_eq_getElem hk]; exact List.getElem_mem _
  obtain ⟨b0,b1⟩:=hls _ hmem
  have e:o ++ chG (ls.drop q) w = (o ++ [w ++ [bY (ls.getD q 0)]]) ++ chG (ls.drop (q + 1)) w:=by
   rw [bK hk (d:=0)]; simp [chG]
  have ih':=ih (q + 1) m (o ++ [w ++ [bY (ls.getD q 0)]]) (o.length + 1) (o.length + 1 + 1) (by omega) (by omega) (by simp) (by simp) (by simp; omega)
  rw [cs1 q] at ih'
  rw [e]
  clear ih e hmem hls
  generalize hb:ls.getD q 0 = b at *
  have kc_t:=@DD L b b0 b1
  have conv_r:=fun {h:H} => @aHF b b0 b1 h
  generalize o ++ [w ++ [bY b]] ++ chG (ls.drop (q + 1)) w = z at *
  have hol:(aE o).length = o.length:=dZ
  simp -implicitDefEqProofs (maxSteps:=2000000) (disch:=try exact Dz) only [↓DN,↓kRet,UP,simprocAttr,hc,hq0,hb,hol,↓kc_t,↓aHv,↓conv_r,jG,↓ih',w4,s6,Tryz.f49]
theorem N5 (hn:2 ≤ n) (hL:2 ^ 60 ≤ L) {al x:Int} {f e c:Nat} {vs:List Str} (hv:vs.length = c) (hvw:∀ w ∈ vs,w.length ≤ 100000) (hfe:f + c = e) (he:e ≤ 1000000000) {k:KE R}:∀ (j p m:Nat) (o:List Str) (len g:Nat) (hp:p + j = c) (hm:j < m) (hlen:len = o.length) (hg:g = o.length + 1) (ho:o.length + 6 * j ≤ 90000) (hoe:e ≤ o.length) (hod:∀ i,i < c → o.getD (f + i) [] = vs.getD i []),
  aF env (aA env L n) L 0 (W8 (W4 [2002])) Bz4 (cI 1) (Z2 (U2 (Z4 (U8 (U4 (U2 (Z2 (Z1 (U16 (U4 (U2 (U1 ([]))))))))))))) m (nI al :: nI x :: Y2 (.d .nils :: .sl 0 g 0 len :: nI f :: nI e :: Y8 (Y4 (Y2 (.sl 0 (e + 1) f c :: nI c :: nI p :: Y16 (Y4 (Y2 (Y1 ([]))))))))) [.log (aE o)] k
  = k (.exit 2) (nI al :: nI x :: Y2 (.d .nils :: .sl 0 ((o ++ (vs.drop p).flatMap (chG (aB al))).length + 1) 0 (o ++ (vs.drop p).flatMap (chG (aB al))).length :: nI f :: nI e :: Y8 (Y4 (Y2 (.sl 0 (e + 1) f c :: nI c :: nI c :: Y16 (Y4 (Y2 (Y1 ([]))))))))) [.log (aE (o ++ (vs.drop p).flatMap (chG (aB al))))]:=by
 have hl6:=b6 al
 intro j
 induction j with
 | zero =>
  intro p m o len g hp hm hlen hg ho hoe hod
  obtain _ | m:=m; omega
  obtain rfl:p = c:=by omega
  subst hlen; subst hg
  have e:o ++ (vs.drop p).flatMap (chG (aB al)) = o:=by rw [List.drop_of_length_le (by omega)]; simp
  rw [e]
  simp -implicitDefEqProofs (maxSteps:=2000000) (disch:=try exact Dz) only [↓DN,↓kRet,UP,simprocAttr,Int.lt_irrefl,xT,s9,Tryz.f49]
 | succ j ih =>
  intro p m o len g hp hm hlen hg ho hoe hod
  obtain _ | m:=m; omega
  subst hlen; subst hg
  have hk:p < vs.length:=by omega
  have hc:(p:Int) < c:=by omega
  have hp0:(0:Int) ≤ p:=by omega
  have hw:=hvw _ (dX hk)
  have hgd:(((aE o).drop (f + p)).take 1) = [.str (vs.getD p [])]:=by
   have:=hod p (by omega)
   have hlt:f + p < o.length:=by omega
   have h1:(aE o).drop (f + p) = .str (o.getD (f + p) []) :: (aE o).drop (f + p + 1):=by
    rw [List.drop_eq_getElem_cons (by rw [dZ]; exact hlt)]
    congr 1
    simp [aE,List.getD_eq_getElem?_getD,List.getElem?_eq_getElem hlt]
   rw [h1,this]; rfl
  have loop_c:=fun {R n k} hn => @NB R L n hn hL (aB al) bZ hl6 al x f e c p (vs.getD p []) hw k (aB al).length 0 L o o.length (o.length + 1) (by omega) (by omega) rfl rfl (by omega)
  rw [List.drop_zero] at loop_c
  simp only [Int.natCast_zero] at loop_c
  have hcl:(chG (aB al) (vs.getD p [])).length ≤ 6:=by rw [aFA]; exact hl6
  have he2:o ++ (vs.drop p).flatMap (chG (aB al)) = (o ++ chG (aB al) (vs.getD p [])) ++ (vs.drop (p + 1)).flatMap (chG (aB al)):=by
   rw [bK hk (d:=[]),List.flatMap_cons,List.append_assoc]
  have ih':=ih (p + 1) m (o ++ chG (aB al) (vs.getD p [])) _ _ (by omega) (by omega) rfl rfl (by rw [List.length_append]; omega) (by rw [List.length_append]; omega) (fun i hi => by
   rw [← hod i hi,List.getD_eq_getElem?_getD,List.getElem?_append_left (by omega),← List.getD_eq_getElem?_getD])
  rw [cs1 p] at ih'
  rw [he2]
  have hol:(aE o).length = o.length:=dZ
  have hg0:0 < e + 1:=by omega
  have hg1:e + 1 ≤ o.length + 1:=by omega
  clear ih he2 hod hvw
  generalize vs.getD p [] = w at *
  generalize o ++ chG (aB al) w ++ (vs.drop (p + 1)).flatMap (chG (aB al)) = z at *
  generalize o ++ chG (aB al) w = o2 at *
  have hf1:f + p + 1 < e + 1:=by omega
  simp -implicitDefEqProofs (maxSteps:=2000000) (disch:=try exact Dz) only [↓DN,↓kRet,UP,simprocAttr,↓iL,hc,hp0,hol,hgd,hg0,hg1,hf1,↓loop_c,↓ih',xT,s9,Tryz.f49]
theorem aJI {o:List Str} {f c:Nat} (hf:f ≤ o.length) (hc:o.length - f = c):iR env.P [.log (aE o)] 27 (.sl 0 (o.length + 1) 0 o.length) (some (f:Int)) (some (o.length:Int)) = some (.sl 0 (o.length + 1) f c):=by
 have hu:env.P.underlying 27 = some (.slice 9):=kr
 have hs:env.P.cellsOf 9 = 1:=kr
 have hb:oS o.length (some (f:Int)) (some (o.length:Int)) = some (f,o.length):=by
  unfold oS
  simp only [Option.getD_some]
  rw [if_pos ⟨by omega,by omega,by omega⟩]; simp
 have h1:0 < o.length + 1 ∧ o.length + 1 ≤ (aE o).length + 1 ∧ True:=⟨by omega,by rw [dZ]; omega,trivial⟩
 simp only [iR,hu,List.getElem?_cons_zero,hs,hb,Option.map_some,hc,Nat.zero_add]
 rw [if_pos h1]
theorem NL (hn:3 ≤ n) (hL:2 ^ 60 ≤ L) {al:Int} {k:KE R}:∀ (j t m:Nat) (o:List Str) (len g f:Nat) (ht:t + j ≤ 3) (hm:j < m) (hlen:len = o.length) (hg:g = o.length + 1) (ho:o = midG (aB al) t) (hf:f + (lvG (aB al) t).length = o.length),
  aF env (aA env L n) L 0 (W8 (W4 [2002])) Bz4 (cI 0) (Z2 (U2 (Z2 (Z1 (U32 (U8 (U1 ([])))))))) m (nI al :: nI j :: Y2 (.d .nils :: .sl 0 g 0 len :: nI f :: Y32 (Y8 (Y1 ([]))))) [.log (aE o)] k
  = k (.exit 0) (nI al :: nI 0 :: Y2 (.d .nils :: .sl 0 ((midG (aB al) (t + j)).length + 1) 0 (midG (aB al) (t + j)).length :: nI (((midG (aB al) (t + j)).length - (lvG (aB al) (t + j)).length:Nat):Int) :: Y32 (Y8 (Y1 ([]))))) [.log (aE (midG (aB al) (t + j)))]:=by
 have hl6:=b6 al
 intro j
 induction j with
 | zero =>
  intro t m o len g f ht hm hlen hg ho hf
  obtain _ | m:=m; omega
  subst hlen; subst hg
  rw [show t + 0 = t from rfl,← ho,show o.length - (lvG (aB al) t).length = f by omega]
  clear ho hf
  simp -implicitDefEqProofs (maxSteps:=2000000) (disch:=try exact Dz) only [↓DN,↓kRet,UP,simprocAttr,Int.lt_irrefl,xQ,tB,Tryz.f49]
 | succ j ih =>
  intro t m o len g f ht hm hlen hg ho hf
  obtain _ | m:=m; omega
  subst hlen; subst hg
  have hs:=zO hl6 t (by omega)
  have hs2:=zO hl6 (t + 1) (by omega)
  have hsp:midG (aB al) (t + 1) = o ++ lvG (aB al) (t + 1):=by rw [ho]; rfl
  have hol:o.length ≤ 259:=by rw [ho]; exact hs
  obtain ⟨p,hp⟩:=aJL (ls:=aB al) t
  rw [← ho] at hp
  have hpl:p.length = f:=by have:=congrArg List.length hp; rw [List.length_append] at this; omega
  have hod:∀ i,i < (lvG (aB al) t).length → o.getD (f + i) [] = (lvG (aB al) t).getD i []:=by
   intro i hi
   rw [hp,List.getD_eq_getElem?_getD,List.getElem?_append_right (by omega),show f + i - p.length = i by omega,← List.getD_eq_getElem?_getD]
  have loop_c:=fun {R n k} hn => @N5 R L n hn hL al ((j + 1:Nat):Int) f o.length (lvG (aB al) t).length (lvG (aB al) t) rfl (fun w hw => by have:=(BL t w hw).1; omega) hf (by omega) k (lvG (aB al) t).length 0 L o o.length (o.length + 1) (by omega) (by omega) rfl rfl (by omega) (by omega) hod
  rw [List.drop_zero] at loop_c
  have e1:o ++ (lvG (aB al) t).flatMap (chG (aB al)) = midG (aB al) (t + 1):=by rw [hsp]; rfl
  rw [e1] at loop_c
  have ih':=ih (t + 1) m (midG (aB al) (t + 1)) _ _ o.length (by omega) (by omega) rfl rfl rfl (by rw [hsp,List.length_append])
  rw [show t + 1 + j = t + (j + 1) by omega] at ih'
  have e2:((j + 1:Nat):Int) - 1 = (j:Int):=by omega
  have hj1:(0:Int) < ((j + 1:Nat):Int):=by omega
  have hj2:((j + 1:Nat):Int) ≤ 3:=by omega
  simp only [Int.natCast_zero] at loop_c
  have hfo:(f:Int) ≤ o.length:=by omega
  have hf0:(0:Int) ≤ f:=by omega
  have hsub:o.length - f = (lvG (aB al) t).length:=by omega
  have hol2:(aE o).length = o.length:=dZ
  have hfn:f ≤ o.length:=by omega
  clear ih hod hp hsp e1 ho
  generalize midG (aB al) (t + 1) = o2 at *
  generalize (midG (aB al) (t + (j + 1))).length - (lvG (aB al) (t + (j + 1))).length = zf at *
  generalize midG (aB al) (t + (j + 1)) = z at *
  generalize (lvG (aB al) t).length = c at *
  generalize ((j + 1:Nat):Int) = x at *
  have conv_s:=@aJI o f c hfn hsub
  simp -implicitDefEqProofs (maxSteps:=2000000) (disch:=try exact Dz) only [↓DN,↓kRet,UP,simprocAttr,hj1,↓conv_s,e2,↓loop_c,↓ih',xQ,tB,Tryz.f49]
theorem FP (hn:4 ≤ n) (al:Int) (x:Nat) (hx:x ≤ 3) (hL:2 ^ 60 ≤ L):aA env L n 49 [nI al,nI x] [] = some (.d (.ivs (midG (aB al) x).length (aE (midG (aB al) x))),[]):=by
 have loop_c:=fun {R n k} hn => @NL R L n hn hL al k x 0 L [[]] 1 2 0 (by omega) (by omega) rfl rfl rfl rfl
 have e1:aE [[]] = [.str []]:=rfl
 rw [e1,Nat.zero_add] at loop_c
 simp only [Int.natCast_zero] at loop_c
 generalize (midG (aB al) x).length - (lvG (aB al) x).length = f at *
 generalize midG (aB al) x = w at *
 have e4:(aE w).take w.length = aE w:=fK (Nat.le_refl _)
 have hol2:(aE w).length = w.length:=dZ
 obtain _ | n:=n; omega
 simp -implicitDefEqProofs (maxSteps:=2000000) (disch:=try exact Dz) only [↓DN,↓kAsg,↓kRet,UP,simprocAttr,e4,hol2,↓loop_c,Nat.le_refl,ZO,KX,Tryz.f49]
theorem Y9:type_of% fun {L} al x hx hL => ks fun hn => @FP L _ hn al x hx hL:=fun {L} al x hx hL => ks fun hn => @FP L _ hn al x hx hL
def setS (o:List Str):List (D × D):=o.map fun w => (.str w,.bool true)
theorem I7 {o:List Str}:(setS o).length = o.length:=List.length_map _
theorem aBO:∀ o:List Str,xL (setS o) = some o
 | [] => rfl
 | w :: o => by
  show (xL (setS o)).map (w :: ·) = _
  rw [aBO o]; rfl
theorem aEf {x:Str}:∀ (o:List Str) (pre:List (D × D)),∃ r,wM .string (.str x) (setS o) pre.length = some r ∧ qP (pre ++ setS o) (.str x) (.bool true) r = pre ++ setS (insW o x)
 | [],pre => ⟨none,rfl,by simp [qP,setS,insW]⟩
 | y :: o,pre => by
  by_cases h:x = y
  ·subst h
   refine ⟨some pre.length,by simp [setS,wM,HO],?_⟩
   have e:insW (x :: o) x = x :: o:=if_pos List.mem_cons_self
   rw [e]
   show (pre ++ (D.str x,D.bool true) :: setS o).set pre.length (.str x,.bool true) = pre ++ (D.str x,D.bool true) :: setS o
   rw [List.set_append_right _ _ (Nat.le_refl _),Nat.sub_self,List.set_cons_zero]
  ·obtain ⟨r,h1,h2⟩:=aEf (x:=x) o (pre ++ [(.str y,.bool true)])
   have hb:(x == y) = false:=by simpa using h
   have e:insW (y :: o) x = y :: insW o x:=by
    unfold insW
    by_cases hm:x ∈ o
    ·rw [if_pos hm,if_pos (List.mem_cons_of_mem _ hm)]
    ·rw [if_neg hm,if_neg fun h3 => (List.mem_cons.1 h3).elim h hm]; rfl
   refine ⟨r,?_,?_⟩
   ·rw [List.length_append,List.length_singleton] at h1
    simp only [setS,List.map_cons,wM,HO,hb]
    exact h1
   ·rw [e]
    rw [List.append_assoc,List.append_assoc] at h2
    exact h2
theorem map_set:mapT env.P 64 = some (.string,4):=kr
theorem aL4 {T:H} {o:List Str} {x:Str}:lO env.P (.mp (setS o) :: T) 64 (.mp 0) (.d (.str x)) (.d (.bool true)) = some (.d .undef,.mp (setS (insW o x)) :: T):=by
 obtain ⟨r,h1,h2⟩:=aEf (x:=x) o []
 have h1:wM .string (.str x) (setS o) 0 = some r:=h1
 have h2:qP (setS o) (.str x) (.bool true) r = setS (insW o x):=h2
 unfold lO
 simp only [map_set,List.getElem?_cons_zero,UF,tW,Bool.and_self,if_true,h1,h2,List.set_cons_zero]
theorem aJ3 {R:Type} {s:List A} {k:A → Option R}:kv s (.const .nilFunc) k = k (.d .nilfn):=rfl
theorem aDw (hn:1 ≤ n) {es:List (D × D)}:aA env L n 51 [.mp 0] [.mp es] = some (.clo 94 [.ptr 1 0 0],[.mp es,.box [.mp 0]]):=by
 obtain _ | n:=n; omega
 simp -implicitDefEqProofs (maxSteps:=2000000) (disch:=try exact Dz) only [↓DN,↓kAsg,↓kRet,UP,simprocAttr,↓aJ3,l4,fX,Tryz.f51]
theorem aLW {es:List (D × D)} {x y:O} {k:KA R} (hn:1 ≤ n):aS env (aA env L n) [.mp es,x,y] 51 [.mp 0] k = k (.clo 94 [.ptr 3 0 0]) [.mp es,x,y,.box [.mp 0]]:=by
 have hre:aD aG [.mp es,x,y] (idsL [.mp 0]) [] = [0]:=rfl
 have hpk:pack [.mp es,x,y] [0] = [.mp es]:=rfl
 have hma:aM (aJ [0]) [.mp 0] = [.mp 0]:=rfl
 have hc:cC (aA env L n) env.hint [.mp es] 51 [.mp 0] = some (.clo 94 [.ptr 1 0 0],[.mp es,.box [.mp 0]]):=by
  unfold cC
  rw [kL]
  exact aDw hn
 unfold aS
 rw [hre,hpk,hma,hc]
 rfl
theorem aFa {o:List Str} (h0:0 < o.length) (h1:o.length ≤ 4294967296) (hw:∀ s ∈ o,s.length ≤ 4294967296):vH 94 52 [.clo 94 [.ptr 0 0 0],.clo 52 []] [.box [.mp 1],.mp (setS o)] = some (.sl 2 0 0 o.length,[.box [.mp 1],.mp (setS o),.arr (aE (o.mergeSort leX)) 1 0]):=by
 have h2:o.all (fun s => decide (s.length ≤ bF)) = true:=List.all_eq_true.2 fun s hs => decide_eq_true (hw s hs)
 have h3:True ∧ True ∧ True ∧ True ∧ 0 < (setS o).length ∧ (setS o).length ≤ bF:=by
  rw [I7]; exact ⟨trivial,trivial,trivial,trivial,h0,h1⟩
 simp only [vH,List.getElem?_cons_zero,List.getElem?_cons_succ,aBO,h2,if_true]
 rw [if_pos h3,I7]
 rfl
theorem aHJ {o:List Str} {x y:O} {k:KA R} (hn:1 ≤ n) (h0:0 < o.length) (h1:o.length ≤ 4294967296) (hw:∀ s ∈ o,s.length ≤ 4294967296):aS env (aA env L n) [.mp (setS o),x,y,.box [.mp 0]] 50 [.clo 94 [.ptr 3 0 0],.clo 52 []] k = k (.sl 4 0 0 o.length) [.mp (setS o),x,y,.box [.mp 0],.arr (aE (o.mergeSort leX)) 1 0]:=by
 obtain _ | n:=n; omega
 have hre:aD aG [.mp (setS o),x,y,.box [.mp 0]] (idsL [.clo 94 [.ptr 3 0 0],.clo 52 []]) [] = [3,0]:=rfl
 have hpk:pack [.mp (setS o),x,y,.box [.mp 0]] [3,0] = [.box [.mp 1],.mp (setS o)]:=rfl
 have hma:aM (aJ [3,0]) [.clo 94 [.ptr 3 0 0],.clo 52 []] = [.clo 94 [.ptr 0 0 0],.clo 52 []]:=rfl
 have hc:cC (aA env L (n + 1)) env.hint [.box [.mp 1],.mp (setS o)] 50 [.clo 94 [.ptr 0 0 0],.clo 52 []] = some (.sl 2 0 0 o.length,[.box [.mp 1],.mp (setS o),.arr (aE (o.mergeSort leX)) 1 0]):=by
  unfold cC
  rw [uO]
  show aA env L (n + 1) _ _ _ = _
  rw [uN]
  exact aFa h0 h1 hw
 unfold aS
 rw [hre,hpk,hma,hc]
 rfl
theorem ND (hn:1 ≤ n) (hL:2 ^ 60 ≤ L) {cov mids ends:List Str} (hP:Parts cov mids ends) {i q:Nat} {c mm:Str} (hc:c.length ≤ 1000) (hmm:mm.length ≤ 1000) {k:KE R}:∀ (j p m:Nat) (o:List Str) (hp:p + j = ends.length) (hm:j < m),
  aF env (aA env L n) L 0 [] Bz1 (cH 2) (U4 (Z4 (Z1 (U1 (Z1 (U1 (Z1 (U16 (U4 (U2 (Z2 (Z1 (U2 (U1 (Z2 (Z1 (U2 (U1 (Z2 (Z1 (U16 (U2 ([]))))))))))))))))))))))) m (Y4 (.d .nils :: .d (.bool false) :: .mp 0 :: .d (.ivs mids.length (aE mids)) :: .sl 1 0 0 ends.length :: Y1 (.d (.str c) :: Y1 (.d (.str mm) :: Y16 (Y4 (Y2 (.sl 2 0 0 cov.length :: nI (cov.length) :: nI i :: Y2 (Y1 (.d (.ivs mids.length (aE mids)) :: nI (mids.length) :: nI q :: Y2 (Y1 (.sl 1 0 0 ends.length :: nI (ends.length) :: nI p :: Y16 (Y2 ([]))))))))))))) [.mp (setS o),.arr (aE ends) 1 0,.arr (aE cov) 1 0] k
  = k (.exit 4) (Y4 (.d .nils :: .d (.bool false) :: .mp 0 :: .d (.ivs mids.length (aE mids)) :: .sl 1 0 0 ends.length :: Y1 (.d (.str c) :: Y1 (.d (.str mm) :: Y16 (Y4 (Y2 (.sl 2 0 0 cov.length :: nI (cov.length) :: nI i :: Y2 (Y1 (.d (.ivs mids.length (aE mids)) :: nI (mids.length) :: nI q :: Y2 (Y1 (.sl 1 0 0 ends.length :: nI (ends.length) :: nI (ends.length) :: Y16 (Y2 ([]))))))))))))) [.mp (setS (cL o (endL c mm (ends.drop p)))),.arr (aE ends) 1 0,.arr (aE cov) 1 0]:=by
 have hne:=hP.ne
 intro j
 induction j with
 | zero =>
  intro p m o hp hm
  obtain _ | m:=m; omega
  obtain rfl:p = ends.length:=by omega
  have e:cL o (endL c mm (ends.drop ends.length)) = o:=by rw [List.drop_length]; rfl
  rw [e]
  simp -implicitDefEqProofs (maxSteps:=2000000) (disch:=try exact Dz) only [↓DN,↓kRet,UP,simprocAttr,Int.lt_irrefl,xN,uF,Tryz.f15]
 | succ j ih =>
  intro p m o hp hm
  obtain _ | m:=m; omega
  have hk:p < ends.length:=by omega
  have hc1:(p:Int) < ends.length:=by omega
  have hp0:(0:Int) ≤ p:=by omega
  have hel:=hP.e _ (dX hk)
  have hcm:(c ++ mm).length ≤ 2000:=by rw [List.length_append]; omega
  have e:cL o (endL c mm (ends.drop p)) = cL (insW o (c ++ mm ++ ends.getD p [])) (endL c mm (ends.drop (p + 1))):=by
   rw [bK hk (d:=[])]; rfl
  have ih':=ih (p + 1) m (insW o (c ++ mm ++ ends.getD p [])) (by omega) (by omega)
  rw [cs1 p] at ih'
  rw [e]
  clear ih e hP
  generalize hei:ends.getD p [] = w at *
  generalize cL (insW o (c ++ mm ++ w)) (endL c mm (ends.drop (p + 1))) = z at *
  simp -implicitDefEqProofs (maxSteps:=2000000) (disch:=try exact Dz) only [↓DN,↓kRet,UP,simprocAttr,SE,hc1,hp0,hei,aL4,↓ih',xN,uF,Tryz.f15]
theorem NG (hn:1 ≤ n) (hL:2 ^ 60 ≤ L) {cov mids ends:List Str} (hP:Parts cov mids ends) {i:Nat} {c:Str} (hc:c.length ≤ 1000) {k:KE R}:∀ (j p m:Nat) (o:List Str) (hp:p + j = mids.length) (hm:j < m),
  aF env (aA env L n) L 0 [] Bz1 (cH 1) (U4 (Z4 (Z1 (U1 (Z1 (U16 (U8 (Z2 (Z1 (U2 (U1 (Z2 (Z1 (U16 (U8 ([])))))))))))))))) m (Y4 (.d .nils :: .d (.bool false) :: .mp 0 :: .d (.ivs mids.length (aE mids)) :: .sl 1 0 0 ends.length :: Y1 (.d (.str c) :: Y16 (Y8 (.sl 2 0 0 cov.length :: nI (cov.length) :: nI i :: Y2 (Y1 (.d (.ivs mids.length (aE mids)) :: nI (mids.length) :: nI p :: Y16 (Y8 ([]))))))))) [.mp (setS o),.arr (aE ends) 1 0,.arr (aE cov) 1 0] k
  = k (if (run3 (midF c ends) mids j p o).1 = true then .exit 2 else .ret) (Y4 (.d .nils :: .d (.bool false) :: .mp 0 :: .d (.ivs mids.length (aE mids)) :: .sl 1 0 0 ends.length :: Y1 (.d (.str c) :: Y16 (Y8 (.sl 2 0 0 cov.length :: nI (cov.length) :: nI i :: Y2 (Y1 (.d (.ivs mids.length (aE mids)) :: nI (mids.length) :: nI ((run3 (midF c ends) mids j p o).2.1:Int) :: Y16 (Y8 ([]))))))))) [.mp (setS (run3 (midF c ends) mids j p o).2.2),.arr (aE ends) 1 0,.arr (aE cov) 1 0]:=by
 have hne:=hP.ne
 have hnm:=hP.nm
 intro j
 induction j with
 | zero =>
  intro p m o hp hm
  obtain _ | m:=m; omega
  obtain rfl:p = mids.length:=by omega
  have e:∀ f,run3 f mids 0 mids.length o = (true,mids.length,o):=fun _ => rfl
  rw [e]
  simp only [if_true]
  simp -implicitDefEqProofs (maxSteps:=2000000) (disch:=try exact Dz) only [↓DN,↓kRet,UP,simprocAttr,Int.lt_irrefl,n9,nB,Tryz.f15]
 | succ j ih =>
  intro p m o hp hm
  obtain _ | m:=m; omega
  have hk:p < mids.length:=by omega
  have hc1:(p:Int) < mids.length:=by omega
  have hp0:(0:Int) ≤ p:=by omega
  have hml:=hP.m _ (dX hk)
  have loop_c:=fun {R n k} hn => @ND R L n hn hL cov mids ends hP i p c (mids.getD p []) hc hml k ends.length 0 L o (by omega) (by omega)
  rw [List.drop_zero] at loop_c
  simp only [Int.natCast_zero] at loop_c
  have hz:midF c ends (mids.getD p []) o = (!decide (3000 < (cL o (endL c (mids.getD p []) ends)).length),cL o (endL c (mids.getD p []) ends)):=rfl
  by_cases hb1:3000 < (cL o (endL c (mids.getD p []) ends)).length
  ·have hb2:(3000:Int) < (cL o (endL c (mids.getD p []) ends)).length:=by omega
   rw [z7 (by rw [hz,decide_eq_true hb1]; rfl),hz]
   simp only [Bool.false_eq_true,if_false]
   clear ih hz hP
   generalize hei:mids.getD p [] = w at *
   generalize cL o (endL c w ends) = z at *
   simp -implicitDefEqProofs (maxSteps:=2000000) (disch:=try exact Dz) only [↓DN,↓kAsg,↓kRet,UP,simprocAttr,SE,hc1,hp0,hei,hb2,I7,↓loop_c,n9,nB,Tryz.f15]
  ·have hb2:¬ (3000:Int) < (cL o (endL c (mids.getD p []) ends)).length:=by omega
   rw [vP (by rw [hz,decide_eq_false hb1]; rfl),hz]
   have ih':=ih (p + 1) m (cL o (endL c (mids.getD p []) ends)) (by omega) (by omega)
   rw [cs1 p] at ih'
   simp only
   clear ih hz hP
   generalize hei:mids.getD p [] = w at *
   generalize cL o (endL c w ends) = z at *
   generalize run3 (midF c ends) mids j (p + 1) z = z2 at *
   simp -implicitDefEqProofs (maxSteps:=2000000) (disch:=try exact Dz) only [↓DN,↓kRet,UP,simprocAttr,SE,hc1,hp0,hei,hb2,I7,↓loop_c,↓ih',n9,nB,Tryz.f15]
theorem N1 (hn:1 ≤ n) (hL:2 ^ 60 ≤ L) {cov mids ends:List Str} (hP:Parts cov mids ends) {k:KE R}:∀ (j p m:Nat) (o:List Str) (hp:p + j = cov.length) (hm:j < m),
  aF env (aA env L n) L 0 [] Bz1 (cH 0) (U4 (Z4 (Z1 (U16 (U8 (U2 (Z2 (Z1 (U16 (U8 (U4 (U2 ([]))))))))))))) m (Y4 (.d .nils :: .d (.bool false) :: .mp 0 :: .d (.ivs mids.length (aE mids)) :: .sl 1 0 0 ends.length :: Y16 (Y8 (Y2 (.sl 2 0 0 cov.length :: nI (cov.length) :: nI p :: Y16 (Y8 (Y4 (Y2 ([]))))))))) [.mp (setS o),.arr (aE ends) 1 0,.arr (aE cov) 1 0] k
  = k (if (run3 (covF mids ends) cov j p o).1 = true then .exit 0 else .ret) (Y4 (.d .nils :: .d (.bool false) :: .mp 0 :: .d (.ivs mids.length (aE mids)) :: .sl 1 0 0 ends.length :: Y16 (Y8 (Y2 (.sl 2 0 0 cov.length :: nI (cov.length) :: nI ((run3 (covF mids ends) cov j p o).2.1:Int) :: Y16 (Y8 (Y4 (Y2 ([]))))))))) [.mp (setS (run3 (covF mids ends) cov j p o).2.2),.arr (aE ends) 1 0,.arr (aE cov) 1 0]:=by
 have hne:=hP.ne
 have hnm:=hP.nm
 have hnc:=hP.nc
 intro j
 induction j with
 | zero =>
  intro p m o hp hm
  obtain _ | m:=m; omega
  obtain rfl:p = cov.length:=by omega
  have e:∀ f,run3 f cov 0 cov.length o = (true,cov.length,o):=fun _ => rfl
  rw [e]
  simp only [if_true]
  simp -implicitDefEqProofs (maxSteps:=2000000) (disch:=try exact Dz) only [↓DN,↓kRet,UP,simprocAttr,Int.lt_irrefl,oH,nJ,Tryz.f15]
 | succ j ih =>
  intro p m o hp hm
  obtain _ | m:=m; omega
  have hk:p < cov.length:=by omega
  have hc1:(p:Int) < cov.length:=by omega
  have hp0:(0:Int) ≤ p:=by omega
  have hcl:=hP.c _ (dX hk)
  have loop_c:=fun {R n k} hn => @NG R L n hn hL cov mids ends hP p (cov.getD p []) hcl k mids.length 0 L o (by omega) (by omega)
  simp only [Int.natCast_zero] at loop_c
  have hz:covF mids ends (cov.getD p []) o = ((run3 (midF (cov.getD p []) ends) mids mids.length 0 o).1,(run3 (midF (cov.getD p []) ends) mids mids.length 0 o).2.2):=rfl
  cases hb:(run3 (midF (cov.getD p []) ends) mids mids.length 0 o).1 with
  | false =>
   rw [z7 (by rw [hz,hb]),hz]
   rw [hb] at loop_c
   simp only [Bool.false_eq_true,if_false] at loop_c ⊢
   clear ih hz hb hP
   generalize hei:cov.getD p [] = w at *
   generalize run3 (midF w ends) mids mids.length 0 o = z at *
   simp -implicitDefEqProofs (maxSteps:=2000000) (disch:=try exact Dz) only [↓DN,↓kRet,UP,simprocAttr,SE,hc1,hp0,hei,↓loop_c,oH,nJ,Tryz.f15]
  | true =>
   rw [vP (by rw [hz,hb]),hz]
   have ih':=ih (p + 1) m (run3 (midF (cov.getD p []) ends) mids mids.length 0 o).2.2 (by omega) (by omega)
   rw [cs1 p] at ih'
   rw [hb] at loop_c
   simp only [if_true] at loop_c ⊢
   clear ih hz hb hP
   generalize hei:cov.getD p [] = w at *
   generalize run3 (midF w ends) mids mids.length 0 o = z at *
   generalize run3 (covF mids ends) cov j (p + 1) z.2.2 = z2 at *
   simp -implicitDefEqProofs (maxSteps:=2000000) (disch:=try exact Dz) only [↓DN,↓kRet,UP,simprocAttr,SE,hc1,hp0,hei,↓loop_c,↓ih',oH,nJ,Tryz.f15]
theorem aHX {a:Aut} (h:AOK a) {e:Nat} (he:e ≤ 2):0 < (cL [] (covL (bU a) (midG (aB a.al) (e + 1)) (sepW a))).length ∧ ∀ s ∈ cL [] (covL (bU a) (midG (aB a.al) (e + 1)) (sepW a)),s.length ≤ 4294967296:=by
 obtain ⟨_,_,a1,a2,_⟩:=bD h
 have key:∀ s,s ∈ cL [] (covL (bU a) (midG (aB a.al) (e + 1)) (sepW a)) ↔ ∃ c ∈ bU a,∃ m ∈ midG (aB a.al) (e + 1),∃ w ∈ sepW a,s = c ++ m ++ w:=by
  intro s
  rw [OL]
  simp only [List.not_mem_nil,false_or,covL,midL,endL,List.mem_flatMap,List.mem_map]
  constructor
  ·rintro ⟨c,hc,m,hm,e,he,rfl⟩; exact ⟨c,hc,m,hm,e,he,rfl⟩
  ·rintro ⟨c,hc,m,hm,e,he,rfl⟩; exact ⟨c,hc,m,hm,e,he,rfl⟩
 constructor
 ·have h1:=zF h
  have h2:=IR h
  have h3:∀ k,[] ∈ midG (aB a.al) k:=by
   intro k
   induction k with
   | zero => simp [midG]
   | succ k ih => exact List.mem_append.2 (.inl ih)
  exact List.length_pos_of_mem ((key _).2 ⟨_,dX (k:=0) (by omega),_,h3 _,_,dX (k:=0) (by omega),rfl⟩)
 ·intro s hs
  obtain ⟨c,hc,m,hm,w,hw,rfl⟩:=(key s).1 hs
  have:=(aDf h hc hm hw).1
  omega
theorem XB (hn:15 ≤ n) (a:Aut) (hv:AOK a) (e:Nat) (he:e ≤ 2) (hL:2 ^ 60 ≤ L):aA env L n 15 [.agg [nI a.al,.d (.ivs a.nx.length (rowsD a.nx)),.d (.ivs a.ac.length (bools a.ac))],nI e] [] = match eC a e with
  | some l => some (.tup [.sl 0 0 0 l.length,.d (.bool true)],[.arr (aE l) 1 0])
  | none => some (.tup [.d (.ivs 0 []),.d (.bool false)],[]):=by
 obtain ⟨sa,wa,a1,a2,a3⟩:=bD hv
 have hrl:=sa.1
 have hP:=aDB hv he
 have e1:eC a e = nY (bU a) (midG (aB a.al) (e + 1)) (sepW a):=if_pos ⟨hv,by omega,by omega⟩
 rw [e1]
 have kc_c:=fun {R:Type} {n:Nat} {hq:H} {k:KA R} (hn:10 ≤ n) => QE (h:=hq) (k:=k) rfl PL (VO (L:=L) hn a hv hL)
 have kc_w:=fun {R:Type} {n:Nat} {hq:H} {k:KA R} (hn:10 ≤ n) => QE (h:=hq) (k:=k) rfl FB (IJ (L:=L) hn a hv hL)
 have kc_m:=@Y9 L a.al (e + 1) (by omega) hL
 rw [cs1 e] at kc_m
 have hcn:=hP.nc
 have loop_c:=fun {R n k} hn => @N1 R L n hn hL _ _ _ hP k (bU a).length 0 L [] (by omega) (by omega)
 have es:setS [] = []:=rfl
 rw [es] at loop_c
 have hr:=JM (f:=covF (midG (aB a.al) (e + 1)) (sepW a)) (ws:=bU a) (bU a).length 0 [] (by omega)
 rw [List.drop_zero] at hr
 have hs:=aGY (cov:=bU a) (mids:=midG (aB a.al) (e + 1)) (ends:=sepW a)
 rw [hr] at hs
 rw [aFN] at hr
 obtain ⟨f1,f2⟩:=aHX hv he
 have he0:(0:Int) ≤ e:=by omega
 have hx0:¬ (e:Int) < 0:=by omega
 have hx1:¬ 2 < (e:Int):=by omega
 have hve:bR a.al a.nx a.ac = true:=hv
 simp only [Int.natCast_zero] at loop_c
 rw [← hs]
 have hac:a.ac.length ≤ 4294967296:=by omega
 clear hs e1 hP wa
 generalize cL [] (covL (bU a) (midG (aB a.al) (e + 1)) (sepW a)) = S at *
 generalize bU a = cov at *
 generalize midG (aB a.al) (e + 1) = mids at *
 generalize sepW a = ends at *
 generalize run3 (covF mids ends) cov cov.length 0 [] = z at *
 cases hb:z.1 with
 | false =>
  rw [hb] at loop_c
  simp only [Option.map_none,Bool.false_eq_true,if_false] at loop_c ⊢
  obtain _ | n:=n; omega
  simp -implicitDefEqProofs (maxSteps:=2000000) (disch:=try exact Dz) only [↓DN,↓kAsg,↓kRet,UP,simprocAttr,↓aX,hve,hx0,hx1,↓kc_c,↓kc_w,↓kc_m,↓loop_c,kK,i7,Tryz.f15]
 | true =>
  rw [hb] at loop_c hr
  simp only [if_true] at loop_c hr ⊢
  have hS:S = z.2.2 ∧ S.length ≤ 3000:=by
   split at hr
   ·cases hr
   ·injection hr with hr; exact ⟨hr,by omega⟩
  obtain ⟨rfl,hS2⟩:=hS
  have kc_q:=fun {R:Type} {n:Nat} {x y:O} {k:KA R} (hn:1 ≤ n) => @aHJ R L n z.2.2 x y k hn f1 (by omega) f2
  have hml:(z.2.2.mergeSort leX).length = z.2.2.length:=List.length_mergeSort _
  rw [← hml] at kc_q
  simp only [Option.map_some]
  clear hr f1 f2
  generalize z.2.2.mergeSort leX = l at *
  have e4:(aE l).take l.length = aE l:=fK (Nat.le_refl _)
  obtain _ | n:=n; omega
  simp -implicitDefEqProofs (maxSteps:=2000000) (disch:=try exact Dz) only [↓DN,↓kAsg,↓kRet,UP,simprocAttr,↓aX,hve,hx0,hx1,↓kc_c,↓kc_w,↓kc_m,↓aLW,↓kc_q,↓loop_c,kK,i7,Tryz.f15]
theorem ZA (hn:15 ≤ n) (a:Aut) (x:Int) (hs:aT a.nx) (hac:a.ac.length ≤ 4294967296) (hv:¬ (bR a.al a.nx a.ac = true ∧ 0 ≤ x ∧ x ≤ 2)) (hL:2 ^ 60 ≤ L):aA env L n 15 [.agg [nI a.al,.d (.ivs a.nx.length (rowsD a.nx)),.d (.ivs a.ac.length (bools a.ac))],nI x] [] = some (.tup [.d (.ivs 0 []),.d (.bool false)],[]):=by
 have hrl:=hs.1
 cases hve:bR a.al a.nx a.ac with
 | false =>
  obtain _ | n:=n; omega
  simp -implicitDefEqProofs (maxSteps:=2000000) (disch:=try exact Dz) only [↓DN,↓kAsg,↓kRet,UP,simprocAttr,↓aX,hve,kK,i7,Tryz.f15]
 | true =>
  by_cases hx0:x < 0
  ·obtain _ | n:=n; omega
   simp -implicitDefEqProofs (maxSteps:=2000000) (disch:=try exact Dz) only [↓DN,↓kAsg,↓kRet,UP,simprocAttr,↓aX,hve,hx0,kK,i7,Tryz.f15]
  ·have hx1:2 < x:=by
    apply Classical.byContradiction
    intro h
    exact hv ⟨hve,by omega,by omega⟩
   obtain _ | n:=n; omega
   simp -implicitDefEqProofs (maxSteps:=2000000) (disch:=try exact Dz) only [↓DN,↓kAsg,↓kRet,UP,simprocAttr,↓aX,hve,hx0,hx1,kK,i7,Tryz.f15]
theorem F4 (hn:15 ≤ n) (a:Aut) (x:Int) (hs:aT a.nx) (hac:a.ac.length ≤ 4294967296) (hL:2 ^ 60 ≤ L):aA env L n 15 [.agg [nI a.al,.d (.ivs a.nx.length (rowsD a.nx)),.d (.ivs a.ac.length (bools a.ac))],nI x] [] = match eC a x with
  | some l => some (.tup [.sl 0 0 0 l.length,.d (.bool true)],[.arr (aE l) 1 0])
  | none => some (.tup [.d (.ivs 0 []),.d (.bool false)],[]):=by
 by_cases hv:bR a.al a.nx a.ac = true ∧ 0 ≤ x ∧ x ≤ 2
 ·obtain ⟨e,rfl⟩:∃ e:Nat,x = e:=⟨x.toNat,by omega⟩
  exact XB hn a hv.1 e (by omega) hL
 ·rw [ZA hn a x hs hac hv hL,show eC a x = none from if_neg hv]
end
theorem aG3 {a:Aut} {x:Int} {l:List Str} (h:eC a x = some l) (w:Str):w ∈ l ↔ ∃ c ∈ bU a,∃ m ∈ midG (aB a.al) (x.toNat + 1),∃ e ∈ sepW a,w = c ++ m ++ e:=by
 unfold eC at h
 split at h
 ·exact aJf h w
 ·cases h
theorem MG {a:Aut} {x:Int} {l:List Str} (h:eC a x = some l):AOK a ∧ 0 ≤ x ∧ x ≤ 2 ∧ lJ l ∧ l.length ≤ 3000:=by
 unfold eC at h
 split at h
 ·rename_i hc
  exact ⟨hc.1,hc.2.1,hc.2.2,aKK h⟩
 ·cases h
theorem RN {a:Aut} {x:Int} {l:List Str} (h:eC a x = some l) {w:Str} (hw:w ∈ l):(w.length:Int) ≤ 2 * a.nx.length + x ∧ dK a.al w = true ∧ dD w = true:=by
 obtain ⟨hv,h0,h2,_,_⟩:=MG h
 obtain ⟨_,_,a1,a2,_⟩:=bD hv
 obtain ⟨c,hc,m,hm,e,he,rfl⟩:=(aG3 h w).1 hw
 have:=aDf hv hc hm he
 have h3:=this.1
 exact ⟨by omega,this.ok (gU hv).2.2.2 (by omega)⟩
theorem RE {R:Type} {E:Env} {call:bE} {h:H} {f:FuncId} {args:List A} {l:List Str} {b:Bool} {k:KA R} (hs:args.all lZ = true) (hm:(E.hint f).mode = 3) (hc:call f args [] = some (.tup [.sl 0 0 0 l.length,.d (.bool b)],[.arr (aE l) 1 0])) :
  aS E call h f args k = k (.tup [.sl h.length 0 0 l.length,.d (.bool b)]) (h ++ [.arr (aE l) 1 0]):=by
 rw [I4 hs hm hc (by simp only [jA,gX,qK,List.all_cons,List.all_nil,U0,Bool.and_self])]
 simp [mapA,aM,back,mapO]
theorem KL {R:Type} {E:Env} {call:bE} {h:H} {f:FuncId} {args:List A} {b:Bool} {k:KA R} (hs:args.all lZ = true) (hm:(E.hint f).mode = 3) (hc:call f args [] = some (.tup [.d (.ivs 0 []),.d (.bool b)],[])) :
  aS E call h f args k = k (.tup [.d (.ivs 0 []),.d (.bool b)]) h:=by
 rw [I4 hs hm hc rfl]
 simp [mapA,aM]
theorem aFS {al q:Int} {rs:List (List Int)} {w:List UInt8} {i:Nat} (h:i < w.length):stGo al rs (w.drop i) q = stGo al rs (w.drop (i + 1)) (goI al rs q (ltr (w.getD i 0))):=by
 rw [bK h (d:=0)]
 rfl
theorem PP {R:Type} {L n:Nat} (hn:1 ≤ n) {al:Int} {rs:List (List Int)} {ac:List Bool} {w:List UInt8} (hok:bR al rs ac = true) (hw:dK al w = true) {k:KE R}:∀ (i q:Int) (m:Nat) (h0:0 ≤ i) (hi:i ≤ w.length) (hm:(w.length:Int) - i < m) (hq0:0 ≤ q) (hq1:q < rs.length),
  aF env (aA env L n) L 0 [] Bz26 (jJ 0) (U1 (Z1 (U2 (Z2 (Z1 (U8 (U4 (U2 (Z2 (U8 (U4 ([])))))))))))) m (Y1 (.d (.str w) :: Y2 (nI 0 :: .d (.ivs rs.length (ints (mB al rs))) :: nI q :: Y8 (Y4 (Y2 (nI (w.length) :: nI i :: Y8 (Y4 ([])))))))) [] k
  = k (.exit 0) (Y1 (.d (.str w) :: Y2 (nI 0 :: .d (.ivs rs.length (ints (mB al rs))) :: nI (stGo al rs (w.drop i.toNat) q) :: Y8 (Y4 (Y2 (nI (w.length) :: nI (w.length) :: Y8 (Y4 ([])))))))) []:=by
 intro i q m h0 hi hm hq0 hq1
 have htl:=iF al rs
 have hlen:=gU hok
 obtain ⟨hal,hwl,hin⟩:=k8 hw
 obtain ⟨j,hj⟩:∃ j:Nat,(j:Int) = (w.length:Int) - i:=⟨((w.length:Int) - i).toNat,by omega⟩
 induction j generalizing i q m with
 | zero =>
  obtain _ | m:=m; omega
  obtain rfl:i = w.length:=by omega
  simp -implicitDefEqProofs (maxSteps:=2000000) (disch:=try exact Dz) only [↓DN,↓kRet,UP,simprocAttr,Int.lt_irrefl,uU,rR,Tryz.f76]
  simp only [List.drop_length,stGo,List.foldl_nil]
 | succ j ih =>
  obtain _ | m:=m; omega
  have hc:i < w.length:=by omega
  have hk:i.toNat < w.length:=by omega
  have hb:w.getD i.toNat 0 ∈ w:=by rw [List.getD_eq_getElem?_getD,List.getElem?_eq_getElem hk]; exact List.getElem_mem hk
  obtain ⟨hb1,hb2⟩:=hin _ hb
  have hl6:=TU.1 hb1
  have hg:=SB hok hq0 hq1 hl6.1 hl6.2
  have e1:(i + 1).toNat = i.toNat + 1:=by omega
  have ih':=ih (i + 1) (goI al rs q (ltr (w.getD i.toNat 0))) m (by omega) (by omega) (by omega) hg.1 hg.2 (by omega)
  have hb3:eA (ltr (w.getD i.toNat 0)) = true:=hb1
  have hl0:=hl6.1
  have hl1:=hl6.2
  have hcl:(ltr (w.getD i.toNat 0)).toNat ≤ (List.drop (q.toNat * 6) (ints (mB al rs))).length:=by rw [List.length_drop,eK,htl]; omega
  rw [aFS hk,← e1]
  clear ih hg hl6 hb hin hw hok
  simp -implicitDefEqProofs (maxSteps:=2000000) (disch:=try exact Dz) only [↓DN,↓kRet,UP,simprocAttr,↓yB,hc,hb3,O6,htl,↓ih',uU,rR,Tryz.f76]
theorem EJ {L n:Nat} (hn:5 ≤ n) (al:Int) (rs:List (List Int)) (ac:List Bool) (w:List UInt8) (hs:aT rs) (ha:ac.length ≤ 4294967296) (hwl:w.length ≤ 4294967295) (hL:2 ^ 60 ≤ L):aA env L n 76 [.agg [nI al,.d (.ivs rs.length (rowsD rs)),.d (.ivs ac.length (bools ac))],.d (.str w)] [] = some (nI (uL al rs ac w),[]):=by
 have hl:=hs.1
 unfold uL
 cases hv:bR al rs ac with
 | false =>
  obtain _ | n:=n; omega
  simp -implicitDefEqProofs (maxSteps:=2000000) (disch:=try exact Dz) only [↓DN,↓kAsg,↓kRet,UP,simprocAttr,↓aX,hv,uH,o8,Tryz.f76]
 | true =>
  cases hw:dK al w with
  | false =>
   obtain _ | n:=n; omega
   simp -implicitDefEqProofs (maxSteps:=2000000) (disch:=try exact Dz) only [↓DN,↓kAsg,↓kRet,UP,simprocAttr,↓aX,↓DJ,hv,hw,uH,o8,Tryz.f76]
  | true =>
   have hwd:=lS hv
   have hlen:=gU hv
   have loop_a:=fun {R:Type} {n:Nat} (hn:1 ≤ n) {k:KE R} => PP (R:=R) (L:=L) (n:=n) hn (k:=k) hv hw 0 0 L (by omega) (by omega) (by omega) (by omega) (by omega)
   simp only [Int.toNat_zero,List.drop_zero] at loop_a
   obtain _ | n:=n; omega
   simp -implicitDefEqProofs (maxSteps:=2000000) (disch:=try exact Dz) only [↓DN,↓kAsg,↓kRet,UP,simprocAttr,↓aX,↓DJ,↓BD,hv,hw,↓loop_a,uH,o8,Tryz.f76]
theorem VW:type_of% fun {L} al rs ac w hs ha hwl hL => ks fun hn => @EJ L _ hn al rs ac w hs ha hwl hL:=fun {L} al rs ac w hs ha hwl hL => ks fun hn => @EJ L _ hn al rs ac w hs ha hwl hL
section
variable {R:Type} {L n:Nat}
theorem aJ4:∀ (x a:Fin 64),(∀ m:Fin 6,b5 (x.val:Int) (m.val:Int) = true → b5 (a.val:Int) (m.val:Int) = true) → iAnd .i64 (x.val:Int) (a.val:Int) = (x.val:Int):=by decide +kernel
theorem aL8 {x a:Int} (hx:cB x = true) (ha:cB a = true) (h:∀ m:Int,eA m = true → b5 x m = true → b5 a m = true):iAnd .i64 x a = x:=by
 unfold cB at hx ha; simp only [decide_eq_true_eq] at hx ha
 have:=aJ4 ⟨x.toNat,by omega⟩ ⟨a.toNat,by omega⟩ (fun m => by
  simp only [Int.toNat_of_nonneg hx.1,Int.toNat_of_nonneg ha.1]
  exact h m.val (sD.2 (by have:=m.isLt; omega)))
 simpa only [Int.toNat_of_nonneg hx.1,Int.toNat_of_nonneg ha.1] using this
theorem aIl {al:Int} {w:List UInt8} (h:dK al w = true):dD w = true:=by
 obtain ⟨_,h2,h3⟩:=k8 h
 unfold dD
 simp only [Bool.and_eq_true,decide_eq_true_eq,List.all_eq_true]
 exact ⟨h2,fun b hb => (h3 b hb).1⟩
theorem aGi {al:Int} {w:List UInt8} (h:dK al w = true):cB (sI w) = true ∧ iAnd .i64 (sI w) al = sI w:=by
 obtain ⟨h1,h2,h3⟩:=k8 h
 have hl:∀ l ∈ w.map ltr,eA l = true:=by
  intro l hl
  obtain ⟨b,hb,rfl⟩:=List.mem_map.1 hl
  exact (h3 b hb).1
 have hA:cB (sI w) = true:=aFg hl
 refine ⟨hA,aL8 hA h1 fun m hm hb => ?_⟩
 unfold sI at hb
 rw [aIU hl hm,List.any_eq_true] at hb
 obtain ⟨l,hlm,hd⟩:=hb
 simp only [decide_eq_true_eq] at hd
 obtain ⟨b,hb,rfl⟩:=List.mem_map.1 hlm
 rw [hd]; exact (h3 b hb).2
def accW (a:Aut) (w:List UInt8):Bool:=a.ac.getD (stGo a.al a.nx w 0).toNat false
theorem aCU {a:Aut} (ha:AOK a):∀ (w:List UInt8) (q:Int),(∀ b ∈ w,okB b = true) → 0 ≤ q → q < a.nx.length → 0 ≤ stGo a.al a.nx w q ∧ stGo a.al a.nx w q < a.nx.length
 | [],q,_,h0,h1 => ⟨h0,h1⟩
 | b :: w,q,hw,h0,h1 => by
  have hl:=TU.1 (hw b List.mem_cons_self)
  have hg:=SB ha h0 h1 hl.1 hl.2
  exact aCU ha w _ (fun x hx => hw x (List.mem_cons_of_mem _ hx)) hg.1 hg.2
theorem aFZ {a:Aut} (ha:AOK a) {w:List UInt8} (hw:dK a.al w = true):0 ≤ stGo a.al a.nx w 0 ∧ stGo a.al a.nx w 0 < a.ac.length:=by
 obtain ⟨_,_,a1,_,a3⟩:=bD ha
 obtain ⟨_,_,h3⟩:=k8 hw
 have:=aCU ha w 0 (fun b hb => (h3 b hb).1) (by omega) (by omega)
 omega
theorem A2 (hn:6 ≤ n) (a:Aut) (w:List UInt8) (ha:AOK a) (hw:dK a.al w = true) (hL:2 ^ 60 ≤ L):aA env L n 36 [.agg [nI a.al,.d (.ivs a.nx.length (rowsD a.nx)),.d (.ivs a.ac.length (bools a.ac))],.d (.str w)] [] = some (.d (.bool (accW a w)),[]):=by
 obtain ⟨sa,wa,a1,a2,a3⟩:=bD ha
 obtain ⟨r0,r1⟩:=aFZ ha hw
 obtain ⟨_,hwl,_⟩:=k8 hw
 have kc_s:=@VW L a.al a.nx a.ac w sa (by omega) (by omega) hL
 have e:uL a.al a.nx a.ac w = stGo a.al a.nx w 0:=by
  unfold uL
  rw [show bR a.al a.nx a.ac = true from ha,hw]; rfl
 rw [e] at kc_s
 unfold accW
 clear wa ha hw e
 generalize stGo a.al a.nx w 0 = q at *
 obtain _ | n:=n; omega
 simp -implicitDefEqProofs (maxSteps:=2000000) (disch:=try exact Dz) only [↓DN,↓kAsg,↓kRet,UP,simprocAttr,LA,r0,r1,↓kc_s,SJ,CY,Tryz.f36]
theorem AT:type_of% fun {L} a w ha hw hL => ks fun hn => @A2 L _ hn a w ha hw hL:=fun {L} a w ha hw hL => ks fun hn => @A2 L _ hn a w ha hw hL
theorem P1 (hn:2 ≤ n) {s:List UInt8} (hs:s.length ≤ 50000) (ha:s.all okB = true) {k:KE R}:∀ (i o:Int) (m:Nat) (h0:0 ≤ i) (hi:i ≤ s.length) (hm:(s.length:Int) - i < m),
  aF env (aA env L n) L 0 [] (U1 (Z1 (U4 (Z16 ([]))))) (jS 0) (Z1 (U1 (Z4 (U16 ([]))))) m (.d (.str s) :: Y1 (nI 0 :: .d (.bool false) :: nI o :: nI i :: Y16 ([]))) [] k
  = k (.exit 0) (.d (.str s) :: Y1 (nI 0 :: .d (.bool false) :: nI ((s.drop i.toNat).foldl (fun o b => iOr .i64 o (bitI (ltr b))) o) :: nI (s.length) :: Y16 ([]))) []:=by
 intro i o m h0 hi hm
 obtain ⟨j,hj⟩:∃ j:Nat,(j:Int) = (s.length:Int) - i:=⟨((s.length:Int) - i).toNat,by omega⟩
 induction j generalizing i m o with
 | zero =>
  obtain _ | m:=m; omega
  obtain rfl:i = s.length:=by omega
  simp -implicitDefEqProofs (maxSteps:=2000000) (disch:=try exact Dz) only [↓DN,↓kRet,UP,simprocAttr,Int.lt_irrefl,uY,rK,Tryz.f162]
  simp only [List.drop_length,List.foldl_nil]
 | succ j ih =>
  obtain _ | m:=m; omega
  have hc:i < s.length:=by omega
  have hk:i.toNat < s.length:=by omega
  have e1:(i + 1).toNat = i.toNat + 1:=by omega
  have hb:=aMk (d:=0) ha hk
  have hsl:=sD.1 hb
  have hsl0:=hsl.1
  have hsl1:ltr (s.getD i.toNat 0) ≤ 9223372036854775807:=by omega
  rw [aKg hk (d:=0),← e1]
  have ih':=ih (i + 1) (iOr .i64 o (bitI (ltr (s.getD i.toNat 0)))) m (by omega) (by omega) (by omega) (by omega)
  clear ih hsl
  simp -implicitDefEqProofs (maxSteps:=2000000) (disch:=try exact Dz) only [↓DN,↓kRet,UP,simprocAttr,↓xE,↓aHG,hc,↓ih',uY,rK,Tryz.f162]
theorem CO (hn:4 ≤ n) (s:List UInt8) (hw:dD s = true) (hL:2 ^ 60 ≤ L):aA env L n 162 [.d (.str s)] [] = some (.tup [nI (sI s),.d (.bool true)],[]):=by
 have hw':=hw
 unfold dD at hw'
 simp only [Bool.and_eq_true,decide_eq_true_eq] at hw'
 obtain ⟨hw1,hw2⟩:=hw'
 have e:s.foldl (fun o b => iOr .i64 o (bitI (ltr b))) 0 = sI s:=by
  unfold sI aCw; rw [List.foldl_map]
 have loop_a:=fun {R n k} hn => @P1 R L n hn s hw1 hw2 k 0 0 L (by omega) (by omega) (by omega)
 simp only [Int.toNat_zero,List.drop_zero,e] at loop_a
 obtain _ | n:=n; omega
 simp -implicitDefEqProofs (maxSteps:=2000000) (disch:=try exact Dz) only [↓DN,↓kAsg,↓kRet,UP,simprocAttr,↓pA,hw,↓loop_a,X4,HJ,Tryz.f162]
theorem YB:type_of% fun {L} s hw hL => ks fun hn => @CO L _ hn s hw hL:=fun {L} s hw hL => ks fun hn => @CO L _ hn s hw hL
theorem D7 (hn:5 ≤ n) (s:List UInt8) (al:Int) (hw:dK al s = true) (hL:2 ^ 60 ≤ L):aA env L n 132 [.d (.str s),nI al] [] = some (.d (.bool true),[]):=by
 have h1:=aIl hw
 obtain ⟨h2,h3⟩:=aGi hw
 have h4:=(k8 hw).1
 obtain _ | n:=n; omega
 simp -implicitDefEqProofs (maxSteps:=2000000) (disch:=try exact Dz) only [↓DN,↓kAsg,↓kRet,UP,simprocAttr,↓YB,↓fP,h3,h4,VQ,GH,Tryz.f132]
theorem YE:type_of% fun {L} s al hw hL => ks fun hn => @D7 L _ hn s al hw hL:=fun {L} s al hw hL => ks fun hn => @D7 L _ hn s al hw hL
theorem aDt (hn:4 ≤ n) (hL:2 ^ 60 ≤ L) {a:Aut} {w:List UInt8} (ha:AOK a) (hw:dK a.al w = true) {k:KE R}:∀ (i q:Int) (m:Nat) (h0:0 ≤ i) (hi:i ≤ w.length) (hm:(w.length:Int) - i < m) (hq0:0 ≤ q) (hq1:q < a.nx.length),
  aF env (aA env L n) L 0 [] Bz36 (uK 0) (U1 (Z2 (Z1 (U2 (Z2 (U8 (U4 (U1 ([]))))))))) m (Y1 (nI q :: .d (.str w) :: .ptr 0 0 0 :: Y2 (nI 0 :: nI i :: Y8 (Y4 (Y1 ([])))))) [.box [nI a.al,.d (.ivs a.nx.length (rowsD a.nx)),.d (.ivs a.ac.length (bools a.ac))]] k
  = k (.exit 0) (Y1 (nI (stGo a.al a.nx (w.drop i.toNat) q) :: .d (.str w) :: .ptr 0 0 0 :: Y2 (nI 0 :: nI (w.length) :: Y8 (Y4 (Y1 ([])))))) [.box [nI a.al,.d (.ivs a.nx.length (rowsD a.nx)),.d (.ivs a.ac.length (bools a.ac))]]:=by
 intro i q m h0 hi hm hq0 hq1
 obtain ⟨sa,wa,a1,a2,a3⟩:=bD ha
 obtain ⟨hal,hwl,hin⟩:=k8 hw
 obtain ⟨j,hj⟩:∃ j:Nat,(j:Int) = (w.length:Int) - i:=⟨((w.length:Int) - i).toNat,by omega⟩
 induction j generalizing i q m with
 | zero =>
  obtain _ | m:=m; omega
  obtain rfl:i = w.length:=by omega
  simp -implicitDefEqProofs (maxSteps:=2000000) (disch:=try exact Dz) only [↓DN,↓kRet,UP,simprocAttr,Int.lt_irrefl,GK,E7,Tryz.f133]
  simp only [List.drop_length,stGo,List.foldl_nil]
 | succ j ih =>
  obtain _ | m:=m; omega
  have hc:i < w.length:=by omega
  have hk:i.toNat < w.length:=by omega
  have hb:w.getD i.toNat 0 ∈ w:=by rw [List.getD_eq_getElem?_getD,List.getElem?_eq_getElem hk]; exact List.getElem_mem hk
  have hl6:=TU.1 (hin _ hb).1
  have hg:=SB ha hq0 hq1 hl6.1 hl6.2
  have e1:(i + 1).toNat = i.toNat + 1:=by omega
  have ih':=ih (i + 1) (goI a.al a.nx q (ltr (w.getD i.toNat 0))) m (by omega) (by omega) (by omega) hg.1 hg.2 (by omega)
  have kc_g:=@aBR L a.al q (ltr (w.getD i.toNat 0)) a.nx a.ac.length (bools a.ac) sa (lS ha) hq0 hq1 hl6.1 hl6.2 hL
  rw [aFS hk,← e1]
  clear ih hg hl6 hb hin
  simp -implicitDefEqProofs (maxSteps:=2000000) (disch:=try exact Dz) only [↓DN,↓kRet,UP,simprocAttr,↓xE,hc,↓kc_g,Nat.sub_self,↓ih',GK,E7,Tryz.f133]
theorem UY (hn:5 ≤ n) (a:Aut) (w:List UInt8) (ha:AOK a) (hw:dK a.al w = true) (hL:2 ^ 60 ≤ L):aA env L n 133 [.agg [nI a.al,.d (.ivs a.nx.length (rowsD a.nx)),.d (.ivs a.ac.length (bools a.ac))],nI 0,.d (.str w)] [] = some (nI (stGo a.al a.nx w 0),[]):=by
 obtain ⟨_,_,a1,_,_⟩:=bD ha
 obtain ⟨_,hwl,_⟩:=k8 hw
 have loop_a:=fun {R n k} hn => @aDt R L n hn hL a w ha hw k 0 0 L (by omega) (by omega) (by omega) (by omega) (by omega)
 simp only [Int.toNat_zero,List.drop_zero] at loop_a
 obtain _ | n:=n; omega
 simp -implicitDefEqProofs (maxSteps:=2000000) (disch:=try exact Dz) only [↓DN,↓kAsg,↓kRet,UP,simprocAttr,↓loop_a,aHl,aBf,Tryz.f133]
theorem aHh:type_of% fun {L} a w ha hw hL => ks fun hn => @UY L _ hn a w ha hw hL:=fun {L} a w ha hw hL => ks fun hn => @UY L _ hn a w ha hw hL
theorem A4 (hn:9 ≤ n) (a:Aut) (w:List UInt8) (ha:AOK a) (hw:dK a.al w = true) (hL:2 ^ 60 ≤ L):aA env L n 59 [.agg [nI a.al,.d (.ivs a.nx.length (rowsD a.nx)),.d (.ivs a.ac.length (bools a.ac))],.d (.str w)] [] = some (.d (.bool (accW a w)),[]):=by
 obtain ⟨sa,wa,a1,a2,a3⟩:=bD ha
 obtain ⟨r0,r1⟩:=aFZ ha hw
 have hrl:=sa.1
 have hac:a.ac.length ≤ 4294967296:=by omega
 have ev:∀ {n:Nat},8 ≤ n → aA env L n 100 [.agg [nI a.al,.d (.ivs a.nx.length (rowsD a.nx)),.d (.ivs a.ac.length (bools a.ac))],.d (.str w)] [] = some (nI (stGo a.al a.nx w 0),[]):=by
  intro n hn
  have hve:bR a.al a.nx a.ac = true:=ha
  have kc_r:=@aHh L a w ha hw hL
  have kc_w:=@YE L w a.al hw hL
  clear r0 r1
  obtain _ | n:=n; omega
  simp -implicitDefEqProofs (maxSteps:=2000000) (disch:=try exact Dz) only [↓DN,↓kAsg,↓kRet,UP,simprocAttr,↓bA,hve,↓kc_r,↓kc_w,XV,F3,Tryz.f100]
 have kc_s:=fun {R:Type} {n:Nat} {hq:H} {k:KA R} (hn:8 ≤ n) => cP (E:=env) (call:=aA env L n) (h:=hq) (k:=k) (f:=100) rfl (ev hn) rfl (.inl rfl)
 unfold accW
 clear wa ha hw ev
 generalize stGo a.al a.nx w 0 = q at *
 obtain _ | n:=n; omega
 simp -implicitDefEqProofs (maxSteps:=2000000) (disch:=try exact Dz) only [↓DN,↓kAsg,↓kRet,UP,simprocAttr,LA,r0,r1,↓kc_s,TV,C7,Tryz.f59]
theorem AY:type_of% fun {L} a w ha hw hL => ks fun hn => @A4 L _ hn a w ha hw hL:=fun {L} a w ha hw hL => ks fun hn => @A4 L _ hn a w ha hw hL
end
section
variable {R:Type} {L n:Nat}
def qZ (a b:Aut):Bool:=bR a.al a.nx a.ac && bR b.al b.nx b.ac && decide (a.al = b.al)
theorem aA8 {a b:Aut}:qZ a b = true ↔ AOK a ∧ AOK b ∧ a.al = b.al:=by
 unfold qZ AOK
 simp only [Bool.and_eq_true,decide_eq_true_eq,and_assoc]
def vR (a b:Aut) (l:List Str) (i:Nat):Bool:=!(accW a (l.getD i []) == accW b (l.getD i []))
def aGs (a b:Aut) (l:List Str):Str × Bool:=match seek (vR a b l) l.length 0 with
 | none => ([],false)
 | some q => (l.getD q [],true)
def zB (a b:Aut) (x:Int):Str × Bool:=match eC a x with
 | none => ([],false)
 | some l => if qZ a b = true then aGs a b l else ([],false)
theorem AJ (hn:6 ≤ n) (a b:Aut) (sa:aT a.nx) (sb:aT b.nx) (ha:a.ac.length ≤ 4294967296) (hb:b.ac.length ≤ 4294967296) (hL:2 ^ 60 ≤ L):aA env L n 60 [.agg [nI a.al,.d (.ivs a.nx.length (rowsD a.nx)),.d (.ivs a.ac.length (bools a.ac))],.agg [nI b.al,.d (.ivs b.nx.length (rowsD b.nx)),.d (.ivs b.ac.length (bools b.ac))]] [] = some (.d (.bool (qZ a b)),[]):=by
 have hra:=sa.1
 have hrb:=sb.1
 unfold qZ
 cases h1:bR a.al a.nx a.ac with
 | false =>
  obtain _ | n:=n; omega
  simp -implicitDefEqProofs (maxSteps:=2000000) (disch:=try exact Dz) only [↓DN,↓kAsg,↓kRet,UP,simprocAttr,↓aX,h1,rI,nC,Tryz.f60]
 | true =>
  cases h2:bR b.al b.nx b.ac with
  | false =>
   obtain _ | n:=n; omega
   simp -implicitDefEqProofs (maxSteps:=2000000) (disch:=try exact Dz) only [↓DN,↓kAsg,↓kRet,UP,simprocAttr,↓aX,h1,h2,rI,nC,Tryz.f60]
  | true =>
   obtain _ | n:=n; omega
   simp -implicitDefEqProofs (maxSteps:=2000000) (disch:=try exact Dz) only [↓DN,↓kAsg,↓kRet,UP,simprocAttr,↓aX,h1,h2,rI,nC,Tryz.f60]
theorem B2:type_of% fun {L} a b sa sb ha hb hL => ks fun hn => @AJ L _ hn a b sa sb ha hb hL:=fun {L} a b sa sb ha hb hL => ks fun hn => @AJ L _ hn a b sa sb ha hb hL
theorem K4 (hn:7 ≤ n) (hL:2 ^ 60 ≤ L) {a b:Aut} {l:List Str} (hl:l.length ≤ 3000) (ha:AOK a) (hb:AOK b) (hal:a.al = b.al) (hok:∀ w ∈ l,dK a.al w = true) {k:KE R}:∀ (j i m:Nat) (hi:i + j = l.length) (hm:j < m),
  aF env (aA env L n) L 0 [] Bz23 (hU 0) (U2 (U1 (Z2 (U1 (Z2 (U16 (U2 (Z2 (Z1 (U8 (U4 ([])))))))))))) m (Y2 (Y1 (.ptr 0 0 0 :: .ptr 1 0 0 :: Y1 (.d (.str ([])) :: .d (.bool false) :: Y16 (Y2 (.sl 2 0 0 l.length :: nI (l.length) :: nI i :: Y8 (Y4 ([])))))))) [.box [nI a.al,.d (.ivs a.nx.length (rowsD a.nx)),.d (.ivs a.ac.length (bools a.ac))],.box [nI b.al,.d (.ivs b.nx.length (rowsD b.nx)),.d (.ivs b.ac.length (bools b.ac))],.arr (aE l) 1 0] k
  = match seek (vR a b l) j i with
   | none => k (.exit 0) (Y2 (Y1 (.ptr 0 0 0 :: .ptr 1 0 0 :: Y1 (.d (.str ([])) :: .d (.bool false) :: Y16 (Y2 (.sl 2 0 0 l.length :: nI (l.length) :: nI (l.length) :: Y8 (Y4 ([])))))))) [.box [nI a.al,.d (.ivs a.nx.length (rowsD a.nx)),.d (.ivs a.ac.length (bools a.ac))],.box [nI b.al,.d (.ivs b.nx.length (rowsD b.nx)),.d (.ivs b.ac.length (bools b.ac))],.arr (aE l) 1 0]
   | some q => k .ret (Y2 (Y1 (.ptr 0 0 0 :: .ptr 1 0 0 :: Y1 (.d (.str ((l.getD q []))) :: .d (.bool true) :: Y16 (Y2 (.sl 2 0 0 l.length :: nI (l.length) :: nI q :: Y8 (Y4 ([])))))))) [.box [nI a.al,.d (.ivs a.nx.length (rowsD a.nx)),.d (.ivs a.ac.length (bools a.ac))],.box [nI b.al,.d (.ivs b.nx.length (rowsD b.nx)),.d (.ivs b.ac.length (bools b.ac))],.arr (aE l) 1 0]:=by
 intro j
 induction j with
 | zero =>
  intro i m hi hm
  obtain _ | m:=m; omega
  obtain rfl:i = l.length:=by omega
  simp -implicitDefEqProofs (maxSteps:=2000000) (disch:=try exact Dz) only [↓DN,↓kRet,UP,simprocAttr,Int.lt_irrefl,kQ,jN,Tryz.f22]
  rfl
 | succ j ih =>
  intro i m hi hm
  obtain _ | m:=m; omega
  have hc:(i:Int) < l.length:=by omega
  have hi0:(0:Int) ≤ i:=by omega
  have hw:=hok _ (dX (show i < l.length by omega))
  have kc_a:=@AT L a (l.getD i []) ha hw hL
  have kc_b:=@AT L b (l.getD i []) hb (by rw [← hal]; exact hw) hL
  have hwr:vR a b l i = !(accW a (l.getD i []) == accW b (l.getD i [])):=rfl
  by_cases hz:(accW a (l.getD i []) == accW b (l.getD i [])) = true
  ·rw [hz] at hwr
   rw [iS hwr]
   have ih':=ih (i + 1) m (by omega) (by omega)
   rw [cs1 i] at ih'
   clear ih hok hw hwr ha hb
   generalize accW a (l.getD i []) = x at *
   generalize accW b (l.getD i []) = y at *
   generalize hwi:l.getD i [] = w at *
   simp -implicitDefEqProofs (maxSteps:=2000000) (disch:=try exact Dz) only [↓DN,↓kRet,UP,simprocAttr,SE,hc,hi0,hwi,hz,↓kc_a,↓kc_b,Nat.sub_self,↓ih',kQ,jN,Tryz.f22]
  ·rw [Bool.not_eq_true] at hz
   rw [hz] at hwr
   rw [gB hwr]
   clear ih hok hw hwr ha hb
   generalize accW a (l.getD i []) = x at *
   generalize accW b (l.getD i []) = y at *
   generalize hwi:l.getD i [] = w at *
   simp -implicitDefEqProofs (maxSteps:=2000000) (disch:=try exact Dz) only [↓DN,↓kAsg,↓kRet,UP,simprocAttr,SE,hc,hi0,hwi,hz,↓kc_a,↓kc_b,Nat.sub_self,kQ,jN,Tryz.f22]
theorem y1 (hn:16 ≤ n) (a b:Aut) (x:Int) (sa:aT a.nx) (sb:aT b.nx) (ha:a.ac.length ≤ 4294967296) (hb:b.ac.length ≤ 4294967296) (hL:2 ^ 60 ≤ L):aA env L n 22 [.agg [nI a.al,.d (.ivs a.nx.length (rowsD a.nx)),.d (.ivs a.ac.length (bools a.ac))],.agg [nI b.al,.d (.ivs b.nx.length (rowsD b.nx)),.d (.ivs b.ac.length (bools b.ac))],nI x] [] = some (.tup [.d (.str (zB a b x).1),.d (.bool (zB a b x).2)],[]):=by
 have hra:=sa.1
 have hrb:=sb.1
 have hI:=fun {n:Nat} (hn:15 ≤ n) => F4 (L:=L) hn a x sa ha hL
 unfold zB
 cases hG:eC a x with
 | none =>
  rw [hG] at hI
  have kc_1:=fun {R:Type} {n:Nat} {hq:H} {k:KA R} (hn:15 ≤ n) => KL (h:=hq) (k:=k) rfl l8 (hI hn)
  clear hI
  obtain _ | n:=n; omega
  simp -implicitDefEqProofs (maxSteps:=2000000) (disch:=try exact Dz) only [↓DN,↓kAsg,↓kRet,UP,simprocAttr,↓kc_1,j9,iN,Tryz.f22]
 | some l =>
  rw [hG] at hI
  have kc_1:=fun {R:Type} {n:Nat} {hq:H} {k:KA R} (hn:15 ≤ n) => RE (h:=hq) (k:=k) rfl l8 (hI hn)
  have kc_c:=@B2 L a b sa sb ha hb hL
  obtain ⟨hv,y0,_,_,hl⟩:=MG hG
  clear hI
  cases hcm:qZ a b with
  | false =>
   rw [hcm] at kc_c
   simp only [Bool.false_eq_true,if_false]
   obtain _ | n:=n; omega
   simp -implicitDefEqProofs (maxSteps:=2000000) (disch:=try exact Dz) only [↓DN,↓kAsg,↓kRet,UP,simprocAttr,↓kc_1,↓kc_c,j9,iN,Tryz.f22]
  | true =>
   rw [hcm] at kc_c
   obtain ⟨va,vb,hal⟩:=aA8.1 hcm
   have loop_a:=fun {R n k} hn => @K4 R L n hn hL a b l hl va vb hal (fun w hw => (RN hG hw).2.1) k l.length 0 L (by omega) (by omega)
   simp only [Int.natCast_zero] at loop_a
   simp only [if_true]
   unfold aGs
   clear hv va vb hG
   cases hs:seek (vR a b l) l.length 0 with
   | none =>
    simp only [hs] at loop_a
    obtain _ | n:=n; omega
    simp -implicitDefEqProofs (maxSteps:=2000000) (disch:=try exact Dz) only [↓DN,↓kAsg,↓kRet,UP,simprocAttr,↓kc_1,↓kc_c,↓loop_a,j9,iN,Tryz.f22]
   | some q =>
    simp only [hs] at loop_a
    obtain _ | n:=n; omega
    simp -implicitDefEqProofs (maxSteps:=2000000) (disch:=try exact Dz) only [↓DN,↓kAsg,↓kRet,UP,simprocAttr,↓kc_1,↓kc_c,↓loop_a,j9,iN,Tryz.f22]
theorem PU:type_of% fun {L} a b x sa sb ha hb hL => ks fun hn => @y1 L _ hn a b x sa sb ha hb hL:=fun {L} a b x sa sb ha hb hL => ks fun hn => @y1 L _ hn a b x sa sb ha hb hL
theorem WL (hn:6 ≤ n) (a b:Aut) (sa:aT a.nx) (sb:aT b.nx) (ha:a.ac.length ≤ 4294967296) (hb:b.ac.length ≤ 4294967296) (hL:2 ^ 60 ≤ L):aA env L n 58 [.agg [nI a.al,.d (.ivs a.nx.length (rowsD a.nx)),.d (.ivs a.ac.length (bools a.ac))],.agg [nI b.al,.d (.ivs b.nx.length (rowsD b.nx)),.d (.ivs b.ac.length (bools b.ac))]] [] = some (.d (.bool (qZ a b)),[]):=by
 have hra:=sa.1
 have hrb:=sb.1
 unfold qZ
 cases h1:bR a.al a.nx a.ac with
 | false =>
  obtain _ | n:=n; omega
  simp -implicitDefEqProofs (maxSteps:=2000000) (disch:=try exact Dz) only [↓DN,↓kAsg,↓kRet,UP,simprocAttr,↓bA,h1,HP,EI,Tryz.f58]
 | true =>
  cases h2:bR b.al b.nx b.ac with
  | false =>
   obtain _ | n:=n; omega
   simp -implicitDefEqProofs (maxSteps:=2000000) (disch:=try exact Dz) only [↓DN,↓kAsg,↓kRet,UP,simprocAttr,↓bA,h1,h2,HP,EI,Tryz.f58]
  | true =>
   obtain _ | n:=n; omega
   simp -implicitDefEqProofs (maxSteps:=2000000) (disch:=try exact Dz) only [↓DN,↓kAsg,↓kRet,UP,simprocAttr,↓bA,h1,h2,HP,EI,Tryz.f58]
theorem VT:type_of% fun {L} a b sa sb ha hb hL => ks fun hn => @WL L _ hn a b sa sb ha hb hL:=fun {L} a b sa sb ha hb hL => ks fun hn => @WL L _ hn a b sa sb ha hb hL
theorem LO (hn:9 ≤ n) (hL:2 ^ 60 ≤ L) {a b:Aut} {l:List Str} (hl:l.length ≤ 3000) (ha:AOK a) (hb:AOK b) (hal:a.al = b.al) (hok:∀ w ∈ l,dK a.al w = true) {k:KE R}:∀ (j i m:Nat) (hi:i + j = l.length) (hm:j < m),
  aF env (aA env L n) L 0 [] Bz22 (hZ 0) (U2 (U1 (Z2 (U1 (Z2 (Z1 (U1 (Z1 (U32 (U4 (U1 ([])))))))))))) m (Y2 (Y1 (.ptr 0 0 0 :: .ptr 1 0 0 :: Y1 (.d (.str ([])) :: .d (.bool false) :: .d (.ivs l.length (aE l)) :: Y1 (nI i :: Y32 (Y4 (Y1 ([])))))))) [.box [nI a.al,.d (.ivs a.nx.length (rowsD a.nx)),.d (.ivs a.ac.length (bools a.ac))],.box [nI b.al,.d (.ivs b.nx.length (rowsD b.nx)),.d (.ivs b.ac.length (bools b.ac))]] k
  = match seek (vR a b l) j i with
   | none => k (.exit 0) (Y2 (Y1 (.ptr 0 0 0 :: .ptr 1 0 0 :: Y1 (.d (.str ([])) :: .d (.bool false) :: .d (.ivs l.length (aE l)) :: Y1 (nI (l.length) :: Y32 (Y4 (Y1 ([])))))))) [.box [nI a.al,.d (.ivs a.nx.length (rowsD a.nx)),.d (.ivs a.ac.length (bools a.ac))],.box [nI b.al,.d (.ivs b.nx.length (rowsD b.nx)),.d (.ivs b.ac.length (bools b.ac))]]
   | some q => k .ret (Y2 (Y1 (.ptr 0 0 0 :: .ptr 1 0 0 :: Y1 (.d (.str ((l.getD q []))) :: .d (.bool true) :: .d (.ivs l.length (aE l)) :: Y1 (nI q :: Y32 (Y4 (Y1 ([])))))))) [.box [nI a.al,.d (.ivs a.nx.length (rowsD a.nx)),.d (.ivs a.ac.length (bools a.ac))],.box [nI b.al,.d (.ivs b.nx.length (rowsD b.nx)),.d (.ivs b.ac.length (bools b.ac))]]:=by
 intro j
 induction j with
 | zero =>
  intro i m hi hm
  obtain _ | m:=m; omega
  obtain rfl:i = l.length:=by omega
  simp -implicitDefEqProofs (maxSteps:=2000000) (disch:=try exact Dz) only [↓DN,↓kRet,UP,simprocAttr,Int.lt_irrefl,k4,jC,Tryz.f21]
  rfl
 | succ j ih =>
  intro i m hi hm
  obtain _ | m:=m; omega
  have hc:(i:Int) < l.length:=by omega
  have hi0:(0:Int) ≤ i:=by omega
  have hw:=hok _ (dX (show i < l.length by omega))
  have kc_a:=@AY L a (l.getD i []) ha hw hL
  have kc_b:=@AY L b (l.getD i []) hb (by rw [← hal]; exact hw) hL
  have hwr:vR a b l i = !(accW a (l.getD i []) == accW b (l.getD i [])):=rfl
  by_cases hz:(accW a (l.getD i []) == accW b (l.getD i [])) = true
  ·rw [hz] at hwr
   rw [iS hwr]
   have ih':=ih (i + 1) m (by omega) (by omega)
   rw [cs1 i] at ih'
   clear ih hok hw hwr ha hb
   generalize accW a (l.getD i []) = x at *
   generalize accW b (l.getD i []) = y at *
   generalize hwi:l.getD i [] = w at *
   simp -implicitDefEqProofs (maxSteps:=2000000) (disch:=try exact Dz) only [↓DN,↓kRet,UP,simprocAttr,SE,hc,hi0,hwi,hz,↓kc_a,↓kc_b,Nat.sub_self,↓ih',k4,jC,Tryz.f21]
  ·rw [Bool.not_eq_true] at hz
   rw [hz] at hwr
   rw [gB hwr]
   clear ih hok hw hwr ha hb
   generalize accW a (l.getD i []) = x at *
   generalize accW b (l.getD i []) = y at *
   generalize hwi:l.getD i [] = w at *
   simp -implicitDefEqProofs (maxSteps:=2000000) (disch:=try exact Dz) only [↓DN,↓kAsg,↓kRet,UP,simprocAttr,SE,hc,hi0,hwi,hz,↓kc_a,↓kc_b,Nat.sub_self,k4,jC,Tryz.f21]
theorem y4 (hn:16 ≤ n) (a b:Aut) (x:Int) (sa:aT a.nx) (sb:aT b.nx) (ha:a.ac.length ≤ 4294967296) (hb:b.ac.length ≤ 4294967296) (hL:2 ^ 60 ≤ L):aA env L n 21 [.agg [nI a.al,.d (.ivs a.nx.length (rowsD a.nx)),.d (.ivs a.ac.length (bools a.ac))],.agg [nI b.al,.d (.ivs b.nx.length (rowsD b.nx)),.d (.ivs b.ac.length (bools b.ac))],nI x] [] = some (.tup [.d (.str (zB a b x).1),.d (.bool (zB a b x).2)],[]):=by
 have hra:=sa.1
 have hrb:=sb.1
 have kc_1:=@GZ L a x sa ha hL
 unfold zB
 cases hG:eC a x with
 | none =>
  rw [hG] at kc_1
  simp only [Option.getD_none,Option.isSome_none,List.length_nil,iI] at kc_1
  obtain _ | n:=n; omega
  simp -implicitDefEqProofs (maxSteps:=2000000) (disch:=try exact Dz) only [↓DN,↓kAsg,↓kRet,UP,simprocAttr,↓kc_1,kD,iT,Tryz.f21]
 | some l =>
  rw [hG] at kc_1
  simp only [Option.getD_some,Option.isSome_some] at kc_1
  have kc_c:=@VT L a b sa sb ha hb hL
  obtain ⟨hv,y0,_,_,hl⟩:=MG hG
  cases hcm:qZ a b with
  | false =>
   rw [hcm] at kc_c
   simp only [Bool.false_eq_true,if_false]
   obtain _ | n:=n; omega
   simp -implicitDefEqProofs (maxSteps:=2000000) (disch:=try exact Dz) only [↓DN,↓kAsg,↓kRet,UP,simprocAttr,↓kc_1,↓kc_c,kD,iT,Tryz.f21]
  | true =>
   rw [hcm] at kc_c
   obtain ⟨va,vb,hal⟩:=aA8.1 hcm
   have loop_a:=fun {R n k} hn => @LO R L n hn hL a b l hl va vb hal (fun w hw => (RN hG hw).2.1) k l.length 0 L (by omega) (by omega)
   simp only [Int.natCast_zero] at loop_a
   simp only [if_true]
   unfold aGs
   clear hv va vb hG
   cases hs:seek (vR a b l) l.length 0 with
   | none =>
    simp only [hs] at loop_a
    obtain _ | n:=n; omega
    simp -implicitDefEqProofs (maxSteps:=2000000) (disch:=try exact Dz) only [↓DN,↓kAsg,↓kRet,UP,simprocAttr,↓kc_1,↓kc_c,↓loop_a,kD,iT,Tryz.f21]
   | some q =>
    simp only [hs] at loop_a
    obtain _ | n:=n; omega
    simp -implicitDefEqProofs (maxSteps:=2000000) (disch:=try exact Dz) only [↓DN,↓kAsg,↓kRet,UP,simprocAttr,↓kc_1,↓kc_c,↓loop_a,kD,iT,Tryz.f21]
theorem PQ:type_of% fun {L} a b x sa sb ha hb hL => ks fun hn => @y4 L _ hn a b x sa sb ha hb hL:=fun {L} a b x sa sb ha hb hL => ks fun hn => @y4 L _ hn a b x sa sb ha hb hL
def YF (a b:Aut) (x:Int):Bool:=(eC a x).isSome && qZ a b && !(zB a b x).2
theorem TT (hn:17 ≤ n) (a b:Aut) (x:Int) (sa:aT a.nx) (sb:aT b.nx) (ha:a.ac.length ≤ 4294967296) (hb:b.ac.length ≤ 4294967296) (hL:2 ^ 60 ≤ L):aA env L n 24 [.agg [nI a.al,.d (.ivs a.nx.length (rowsD a.nx)),.d (.ivs a.ac.length (bools a.ac))],.agg [nI b.al,.d (.ivs b.nx.length (rowsD b.nx)),.d (.ivs b.ac.length (bools b.ac))],nI x] [] = some (.d (.bool (YF a b x)),[]):=by
 have hra:=sa.1
 have hrb:=sb.1
 have hI:=fun {n:Nat} (hn:15 ≤ n) => F4 (L:=L) hn a x sa ha hL
 have kc_f:=@PU L a b x sa sb ha hb hL
 have kc_c:=@B2 L a b sa sb ha hb hL
 unfold YF
 generalize zB a b x = f at *
 obtain ⟨w,ok⟩:=f
 simp only at kc_f ⊢
 cases hG:eC a x with
 | none =>
  rw [hG] at hI
  have kc_1:=fun {R:Type} {n:Nat} {hq:H} {k:KA R} (hn:15 ≤ n) => KL (h:=hq) (k:=k) rfl l8 (hI hn)
  clear hI
  simp only [Option.isSome_none,Bool.false_and]
  obtain _ | n:=n; omega
  simp -implicitDefEqProofs (maxSteps:=2000000) (disch:=try exact Dz) only [↓DN,↓kAsg,↓kRet,UP,simprocAttr,↓kc_1,↓kc_f,rH,m7,Tryz.f24]
 | some l =>
  rw [hG] at hI
  have kc_1:=fun {R:Type} {n:Nat} {hq:H} {k:KA R} (hn:15 ≤ n) => RE (h:=hq) (k:=k) rfl l8 (hI hn)
  clear hI
  simp only [Option.isSome_some,Bool.true_and]
  cases hcm:qZ a b with
  | false =>
   rw [hcm] at kc_c
   simp only [Bool.false_and]
   obtain _ | n:=n; omega
   simp -implicitDefEqProofs (maxSteps:=2000000) (disch:=try exact Dz) only [↓DN,↓kAsg,↓kRet,UP,simprocAttr,↓kc_1,↓kc_f,↓kc_c,rH,m7,Tryz.f24]
  | true =>
   rw [hcm] at kc_c
   simp only [Bool.true_and]
   obtain _ | n:=n; omega
   simp -implicitDefEqProofs (maxSteps:=2000000) (disch:=try exact Dz) only [↓DN,↓kAsg,↓kRet,UP,simprocAttr,↓kc_1,↓kc_f,↓kc_c,rH,m7,Tryz.f24]
theorem RP (hn:17 ≤ n) (a b:Aut) (x:Int) (sa:aT a.nx) (sb:aT b.nx) (ha:a.ac.length ≤ 4294967296) (hb:b.ac.length ≤ 4294967296) (hL:2 ^ 60 ≤ L):aA env L n 23 [.agg [nI a.al,.d (.ivs a.nx.length (rowsD a.nx)),.d (.ivs a.ac.length (bools a.ac))],.agg [nI b.al,.d (.ivs b.nx.length (rowsD b.nx)),.d (.ivs b.ac.length (bools b.ac))],nI x] [] = some (.d (.bool (YF a b x)),[]):=by
 have hra:=sa.1
 have hrb:=sb.1
 have kc_1:=@GZ L a x sa ha hL
 have kc_f:=@PQ L a b x sa sb ha hb hL
 have kc_c:=@VT L a b sa sb ha hb hL
 unfold YF
 generalize zB a b x = f at *
 obtain ⟨w,ok⟩:=f
 simp only at kc_f ⊢
 generalize eC a x = S at *
 cases hS:S.isSome with
 | false =>
  rw [hS] at kc_1
  simp only [Bool.false_and]
  obtain _ | n:=n; omega
  simp -implicitDefEqProofs (maxSteps:=2000000) (disch:=try exact Dz) only [↓DN,↓kAsg,↓kRet,UP,simprocAttr,↓kc_1,↓kc_f,rX,m5,Tryz.f23]
 | true =>
  rw [hS] at kc_1
  simp only [Bool.true_and]
  cases hcm:qZ a b with
  | false =>
   rw [hcm] at kc_c
   simp only [Bool.false_and]
   obtain _ | n:=n; omega
   simp -implicitDefEqProofs (maxSteps:=2000000) (disch:=try exact Dz) only [↓DN,↓kAsg,↓kRet,UP,simprocAttr,↓kc_1,↓kc_f,↓kc_c,rX,m5,Tryz.f23]
  | true =>
   rw [hcm] at kc_c
   simp only [Bool.true_and]
   obtain _ | n:=n; omega
   simp -implicitDefEqProofs (maxSteps:=2000000) (disch:=try exact Dz) only [↓DN,↓kAsg,↓kRet,UP,simprocAttr,↓kc_1,↓kc_f,↓kc_c,rX,m5,Tryz.f23]
end
theorem OP:∀ (rs:List (List Int)) (l:Int),0 ≤ eN rs l → eN rs l ≤ l ∧ ∀ r ∈ rs,(r.length:Int) ≤ l
 | [],l,h => ⟨by simp [eN],by simp⟩
 | r :: rs,l,h => by
  simp only [eN] at h ⊢
  split at h
  ·omega
  ·rename_i hc
   rw [if_neg hc]
   obtain ⟨h1,h2⟩:=OP rs _ h
   refine ⟨by omega,fun q hq => ?_⟩
   rcases List.mem_cons.1 hq with rfl | hq
   ·omega
   ·have:=h2 q hq; omega
theorem ZW {rs:List (List Int)} {ac:List Bool} {l:Int} (h:¬ szA rs ac l < 0):szA rs ac l ≤ l ∧ (rs.length:Int) ≤ l ∧ (∀ r ∈ rs,(r.length:Int) ≤ l) ∧ (ac.length:Int) ≤ l:=by
 unfold szA at h ⊢
 split at h
 ·omega
 ·rename_i h1
  rw [if_neg h1]
  unfold szSS at h h1 ⊢
  split at h1
  ·omega
  ·rename_i h2
   rw [if_neg h2] at h ⊢
   obtain ⟨h3,h4⟩:=OP rs (l - rs.length) (by omega)
   unfold szN at h ⊢
   split at h
   ·omega
   ·rename_i h5
    rw [if_neg h5]
    exact ⟨by omega,by omega,fun r hr => by have:=h4 r hr; omega,by omega⟩
theorem L4 {rs:List (List Int)} {ac:List Bool} (h:¬ szA rs ac 1048576 < 0):szA rs ac 1048576 ≤ 1048576:=(ZW h).1
theorem aGy {rs bs:List (List Int)} {ac bc:List Bool} (h:¬ szA rs ac 1048576 < 0) (h2:¬ szA bs bc (szA rs ac 1048576) < 0):bs.length ≤ 1048576 ∧ (∀ r ∈ bs,r.length ≤ 1048576) ∧ bc.length ≤ 1048576:=by
 have h0:=(ZW h).1
 obtain ⟨_,h3,h4,h5⟩:=ZW h2
 exact ⟨by omega,fun r hr => by have:=h4 r hr; omega,by omega⟩
theorem H7 {a b:Foot}:dP a b = dP b a:=by unfold dP; rw [Bool.or_comm]
theorem aJo {n k m j:Nat} (h:n + k ≤ m):dP { ids:=List.range' n k,ro:=false } { ids:=List.range' m j,ro:=false } = false:=by
 unfold dP
 simp only [Bool.not_false,Bool.true_and,Bool.or_eq_false_iff,List.any_eq_false,List.mem_range'_1,List.contains_iff_mem]
 exact ⟨fun x hx => by omega,fun x hx => by omega⟩
theorem UG {a b:Foot} (h1:a.ids = []) (h2:a.wr = []):dP a b = false:=by
 unfold dP
 rw [h1,h2]
 simp
def Y5 (ops:List Oper):Bool:=((tX ops []).getD 5 0).testBit 1 && ((tX ops []).getD 5 0).testBit 3
theorem aJK {ops:List Oper} {a0 f1 a2 f3 p4 p5:Foot} {l:List Foot} (r0:a0.ro = true) (r2:a2.ro = true) (r5:p5.ro = true) (i4:p4.ids = []) (j4:p4.wr = []) (hl:∀ p ∈ l,p.ids = [] ∧ p.wr = []) (hm:Y5 ops = true) (h01:dP a0 f1 = false) (h03:dP a0 f3 = false) (h12:dP f1 a2 = false) (h23:dP a2 f3 = false) (h13:dP f1 f3 = false):jH ops (a0 :: f1 :: a2 :: f3 :: p4 :: p5 :: l) = true:=by
 refine MR ?_
 unfold Y5 at hm
 simp only [Bool.and_eq_true] at hm
 unfold iH
 simp only [List.all_eq_true,List.mem_range,Bool.or_eq_true,Bool.not_eq_true']
 intro j hj i hi
 have c4:∀ b,dP p4 b = false:=fun b => UG i4 j4
 rcases (show j = 0 ∨ j = 1 ∨ j = 2 ∨ j = 3 ∨ j = 4 ∨ j = 5 ∨ 6 ≤ j by omega) with rfl | rfl | rfl | rfl | rfl | rfl | h6
 ·omega
 ·obtain rfl:i = 0:=by omega
  exact .inr h01
 ·rcases (show i = 0 ∨ i = 1 by omega) with rfl | rfl
  ·exact .inr (BK r0 r2)
  ·exact .inr h12
 ·rcases (show i = 0 ∨ i = 1 ∨ i = 2 by omega) with rfl | rfl | rfl
  ·exact .inr h03
  ·exact .inr h13
  ·exact .inr h23
 ·exact .inr (by rw [H7]; exact c4 _)
 ·rcases (show i = 0 ∨ i = 1 ∨ i = 2 ∨ i = 3 ∨ i = 4 by omega) with rfl | rfl | rfl | rfl | rfl
  ·exact .inr (BK r0 r5)
  ·exact .inl hm.1
  ·exact .inr (BK r2 r5)
  ·exact .inl hm.2
  ·exact .inr (c4 _)
 ·refine .inr ?_
  obtain ⟨q,rfl⟩:∃ q,j = q + 6:=⟨j - 6,by omega⟩
  have hq:q < l.length:=by simpa using hj
  have e:(a0 :: f1 :: a2 :: f3 :: p4 :: p5 :: l).getD (q + 6) {} = l[q]:=by
   rw [List.getD_eq_getElem?_getD,List.getElem?_eq_getElem (by simpa using hq)]; rfl
  rw [e,H7]
  exact UG (hl _ (List.getElem_mem hq)).1 (hl _ (List.getElem_mem hq)).2
theorem FC {L n:Nat} (hn:30 ≤ n) (al:Int) (rs:List (List Int)) (ac:List Bool) (bl:Int) (bs:List (List Int)) (bc:List Bool) (x:Int) (hlen:rowsLen rs) (hla:ac.length ≤ 9223372036854775807) (hlenb:rowsLen bs) (hlab:bc.length ≤ 9223372036854775807) (hsz:¬ szA rs ac 1048576 < 0) (hsz2:¬ szA bs bc (szA rs ac 1048576) < 0) (hL:2 ^ 60 ≤ L):aA env L n 5 [.agg [nI al,.d (.ivs (List.length rs) (rowsD rs)),.d (.ivs (List.length ac) (bools ac))],.agg [nI bl,.d (.ivs (List.length bs) (rowsD bs)),.d (.ivs (List.length bc) (bools bc))],nI x] [] = some (.d (.bool true),[]):=by
 obtain ⟨hr20,hc20,ha20⟩:=aJs hsz
 have hbd:=L4 hsz
 obtain ⟨hr21,hc21,ha21⟩:=aGy hsz hsz2
 have hs:aT rs:=⟨by omega,fun r hr => by have:=hc20 r hr; omega⟩
 have hsb:aT bs:=⟨by omega,fun r hr => by have:=hc21 r hr; omega⟩
 have ha:ac.length ≤ 4294967296:=by omega
 have hab:bc.length ≤ 4294967296:=by omega
 have hS:=RP (L:=L) (n:=n - 1) (by omega) ⟨al,rs,ac⟩ ⟨bl,bs,bc⟩ x hs hsb ha hab hL
 have hI:=TT (L:=L) (n:=n - 1) (by omega) ⟨al,rs,ac⟩ ⟨bl,bs,bc⟩ x hs hsb ha hab hL
 simp only at hS hI
 generalize YF ⟨al,rs,ac⟩ ⟨bl,bs,bc⟩ x = r at hS hI
 obtain ⟨H0,hH0⟩:∃ H:H,H = [O.box [nI al,.d (.ivs (List.length rs) (rowsD rs)),.d (.ivs (List.length ac) (bools ac))],O.box [nI bl,.d (.ivs (List.length bs) (rowsD bs)),.d (.ivs (List.length bc) (bools bc))]]:=⟨_,rfl⟩
 have b0_0:H0[0]? = some (.box [nI al,.d (.ivs (List.length rs) (rowsD rs)),.d (.ivs (List.length ac) (bools ac))]):=by rw [hH0]; rfl
 have b0_1:H0[1]? = some (.box [nI bl,.d (.ivs (List.length bs) (rowsD bs)),.d (.ivs (List.length bc) (bools bc))]):=by rw [hH0]; rfl
 have l0:H0.length = 2:=by rw [hH0]; rfl
 have w0:wgt H0 = 0:=by rw [hH0]; simp [wgt,idsL,idsA]
 obtain ⟨v1,hv1⟩:∃ v,v = List.length H0:=⟨_,rfl⟩
 obtain ⟨H1,hH1⟩:∃ H,H = H0 ++ autO v1 rs ac:=⟨_,rfl⟩
 have kc_1:∀ {R:Type} {k:KA R},aS env (aA env L (n - 1)) H0 14 [.agg [nI al,.d (.ivs (List.length rs) (rowsD rs)),.d (.ivs (List.length ac) (bools ac))]] k = k (.agg [nI al,.sl v1 0 0 rs.length,.sl (v1 + 1) 0 0 ac.length]) H1:=by intro R k; rw [hH1,hv1]; exact zR (by omega) hs ha hL
 have gv1:Has H1 v1 rs ac:=by rw [hH1,hv1]; exact zV
 have lH1:H1.length = List.length H0 + rs.length + 2:=by rw [hH1,List.length_append,nX]; omega
 have wH1:wgt H1 ≤ wgt H0 + 1048576:=by rw [hH1,sH,zT]; omega
 have b1_0:H1[0]? = some (.box [nI al,.d (.ivs (List.length rs) (rowsD rs)),.d (.ivs (List.length ac) (bools ac))]):=by rw [hH1]; exact d7 b0_0
 have b1_1:H1[1]? = some (.box [nI bl,.d (.ivs (List.length bs) (rowsD bs)),.d (.ivs (List.length bc) (bools bc))]):=by rw [hH1]; exact d7 b0_1
 obtain ⟨v2,hv2⟩:∃ v,v = List.length H1:=⟨_,rfl⟩
 obtain ⟨H2,hH2⟩:∃ H,H = H1 ++ autO v2 bs bc:=⟨_,rfl⟩
 have kc_2:∀ {R:Type} {k:KA R},aS env (aA env L (n - 1)) H1 14 [.agg [nI bl,.d (.ivs (List.length bs) (rowsD bs)),.d (.ivs (List.length bc) (bools bc))]] k = k (.agg [nI bl,.sl v2 0 0 bs.length,.sl (v2 + 1) 0 0 bc.length]) H2:=by intro R k; rw [hH2,hv2]; exact zR (by omega) hsb hab hL
 have gv2:Has H2 v2 bs bc:=by rw [hH2,hv2]; exact zV
 have lH2:H2.length = List.length H1 + bs.length + 2:=by rw [hH2,List.length_append,nX]; omega
 have wH2:wgt H2 ≤ wgt H1 + 1048576:=by rw [hH2,sH,zT]; omega
 have b2_0:H2[0]? = some (.box [nI al,.d (.ivs (List.length rs) (rowsD rs)),.d (.ivs (List.length ac) (bools ac))]):=by rw [hH2]; exact d7 b1_0
 have b2_1:H2[1]? = some (.box [nI bl,.d (.ivs (List.length bs) (rowsD bs)),.d (.ivs (List.length bc) (bools bc))]):=by rw [hH2]; exact d7 b1_1
 have gH2a:Has H2 v1 rs ac:=by rw [hH2]; exact sO gv1
 have hrd:∀ {h:H} {v w:Nat},Has h v rs ac → Has h w bs bc → rdAs h [.agg [nI al,.sl v 0 0 rs.length,.sl (v + 1) 0 0 ac.length],.agg [nI bl,.sl w 0 0 bs.length,.sl (w + 1) 0 0 bc.length],nI x] = some [.agg [nI al,.d (.ivs (List.length rs) (rowsD rs)),.d (.ivs (List.length ac) (bools ac))],.agg [nI bl,.d (.ivs (List.length bs) (rowsD bs)),.d (.ivs (List.length bc) (bools bc))],nI x]:=by
  intro h v w g1 g2
  have h1:=zW (al:=al) g1
  have h2:=zW (al:=bl) g2
  simp only [rdAs,show A.agg [nI al,.sl v 0 0 rs.length,.sl (v + 1) 0 0 ac.length] = autA v al rs.length ac.length from rfl,show A.agg [nI bl,.sl w 0 0 bs.length,.sl (w + 1) 0 0 bc.length] = autA w bl bs.length bc.length from rfl,h1,h2,aM2]; rfl
 have kc_3:∀ {R:Type} {k:KA R},aS env (aA env L (n - 1)) H2 23 [.agg [nI al,.sl v1 0 0 rs.length,.sl (v1 + 1) 0 0 ac.length],.agg [nI bl,.sl v2 0 0 bs.length,.sl (v2 + 1) 0 0 bc.length],nI x] k = k (.d (.bool r)) H2:=by
  intro R k
  rw [IG xJ (hrd gH2a gv2) (by simp [idsL,idsA]; omega)]
  exact gF hS rfl
 obtain ⟨v3,hv3⟩:∃ v,v = List.length H2:=⟨_,rfl⟩
 obtain ⟨H3,hH3⟩:∃ H,H = H2 ++ autO v3 rs ac:=⟨_,rfl⟩
 have kc_4:∀ {R:Type} {k:KA R},aS env (aA env L (n - 1)) H2 14 [.agg [nI al,.d (.ivs (List.length rs) (rowsD rs)),.d (.ivs (List.length ac) (bools ac))]] k = k (.agg [nI al,.sl v3 0 0 rs.length,.sl (v3 + 1) 0 0 ac.length]) H3:=by intro R k; rw [hH3,hv3]; exact zR (by omega) hs ha hL
 have gv3:Has H3 v3 rs ac:=by rw [hH3,hv3]; exact zV
 have lH3:H3.length = List.length H2 + rs.length + 2:=by rw [hH3,List.length_append,nX]; omega
 have wH3:wgt H3 ≤ wgt H2 + 1048576:=by rw [hH3,sH,zT]; omega
 have wE3:wgt (H3 ++ [O.arr [] 0 0,O.arr [] 0 0,O.box [nI al,.sl v3 0 0 rs.length,.sl (v3 + 1) 0 0 ac.length]]) ≤ wgt H3 + 2:=by rw [wgt3 rfl rfl]; simp [idsL,idsA]
 have gE3a:Has (H3 ++ [O.arr [] 0 0,O.arr [] 0 0,O.box [nI al,.sl v3 0 0 rs.length,.sl (v3 + 1) 0 0 ac.length]]) v3 rs ac:=sO gv3
 have bE3_0:(H3 ++ [O.arr [] 0 0,O.arr [] 0 0,O.box [nI al,.sl v3 0 0 rs.length,.sl (v3 + 1) 0 0 ac.length]])[0]? = some (.box [nI al,.d (.ivs (List.length rs) (rowsD rs)),.d (.ivs (List.length ac) (bools ac))]):=d7 (by rw [hH3]; exact d7 b2_0)
 have bE3_1:(H3 ++ [O.arr [] 0 0,O.arr [] 0 0,O.box [nI al,.sl v3 0 0 rs.length,.sl (v3 + 1) 0 0 ac.length]])[1]? = some (.box [nI bl,.d (.ivs (List.length bs) (rowsD bs)),.d (.ivs (List.length bc) (bools bc))]):=d7 (by rw [hH3]; exact d7 b2_1)
 have bE3_x:(H3 ++ [O.arr [] 0 0,O.arr [] 0 0,O.box [nI al,.sl v3 0 0 rs.length,.sl (v3 + 1) 0 0 ac.length]])[H3.length + 1 + 1]? = some (.box [nI al,.sl v3 0 0 rs.length,.sl (v3 + 1) 0 0 ac.length]):=SI
 obtain ⟨v4,hv4⟩:∃ v,v = List.length (H3 ++ [O.arr [] 0 0,O.arr [] 0 0,O.box [nI al,.sl v3 0 0 rs.length,.sl (v3 + 1) 0 0 ac.length]]):=⟨_,rfl⟩
 obtain ⟨H4,hH4⟩:∃ H,H = (H3 ++ [O.arr [] 0 0,O.arr [] 0 0,O.box [nI al,.sl v3 0 0 rs.length,.sl (v3 + 1) 0 0 ac.length]]) ++ autO v4 bs bc:=⟨_,rfl⟩
 have kc_5:∀ {R:Type} {k:KA R},aS env (aA env L (n - 1)) (H3 ++ [O.arr [] 0 0,O.arr [] 0 0,O.box [nI al,.sl v3 0 0 rs.length,.sl (v3 + 1) 0 0 ac.length]]) 14 [.agg [nI bl,.d (.ivs (List.length bs) (rowsD bs)),.d (.ivs (List.length bc) (bools bc))]] k = k (.agg [nI bl,.sl v4 0 0 bs.length,.sl (v4 + 1) 0 0 bc.length]) H4:=by intro R k; rw [hH4,hv4]; exact zR (by omega) hsb hab hL
 have gv4:Has H4 v4 bs bc:=by rw [hH4,hv4]; exact zV
 have lH4:H4.length = List.length (H3 ++ [O.arr [] 0 0,O.arr [] 0 0,O.box [nI al,.sl v3 0 0 rs.length,.sl (v3 + 1) 0 0 ac.length]]) + bs.length + 2:=by rw [hH4,List.length_append,nX]; omega
 have wH4:wgt H4 ≤ wgt (H3 ++ [O.arr [] 0 0,O.arr [] 0 0,O.box [nI al,.sl v3 0 0 rs.length,.sl (v3 + 1) 0 0 ac.length]]) + 1048576:=by rw [hH4,sH,zT]; omega
 simp only [vN] at lH4 hv4
 have b4_0:H4[0]? = some (.box [nI al,.d (.ivs (List.length rs) (rowsD rs)),.d (.ivs (List.length ac) (bools ac))]):=by rw [hH4]; exact d7 bE3_0
 have b4_1:H4[1]? = some (.box [nI bl,.d (.ivs (List.length bs) (rowsD bs)),.d (.ivs (List.length bc) (bools bc))]):=by rw [hH4]; exact d7 bE3_1
 have b4_x:H4[H3.length + 1 + 1]? = some (.box [nI al,.sl v3 0 0 rs.length,.sl (v3 + 1) 0 0 ac.length]):=by rw [hH4]; exact d7 bE3_x
 have gH4a:Has H4 v3 rs ac:=by rw [hH4]; exact sO gE3a
 have wE4:wgt (H4 ++ [O.arr [] 0 0,O.arr [] 0 0,O.box [nI bl,.sl v4 0 0 bs.length,.sl (v4 + 1) 0 0 bc.length]]) ≤ wgt H4 + 2:=by rw [wgt3 rfl rfl]; simp [idsL,idsA]
 have bE4_0:(H4 ++ [O.arr [] 0 0,O.arr [] 0 0,O.box [nI bl,.sl v4 0 0 bs.length,.sl (v4 + 1) 0 0 bc.length]])[0]? = some (.box [nI al,.d (.ivs (List.length rs) (rowsD rs)),.d (.ivs (List.length ac) (bools ac))]):=d7 b4_0
 have bE4_1:(H4 ++ [O.arr [] 0 0,O.arr [] 0 0,O.box [nI bl,.sl v4 0 0 bs.length,.sl (v4 + 1) 0 0 bc.length]])[1]? = some (.box [nI bl,.d (.ivs (List.length bs) (rowsD bs)),.d (.ivs (List.length bc) (bools bc))]):=d7 b4_1
 have bE4_x:(H4 ++ [O.arr [] 0 0,O.arr [] 0 0,O.box [nI bl,.sl v4 0 0 bs.length,.sl (v4 + 1) 0 0 bc.length]])[H3.length + 1 + 1]? = some (.box [nI al,.sl v3 0 0 rs.length,.sl (v3 + 1) 0 0 ac.length]):=d7 b4_x
 have bE4_y:(H4 ++ [O.arr [] 0 0,O.arr [] 0 0,O.box [nI bl,.sl v4 0 0 bs.length,.sl (v4 + 1) 0 0 bc.length]])[H4.length + 1 + 1]? = some (.box [nI bl,.sl v4 0 0 bs.length,.sl (v4 + 1) 0 0 bc.length]):=SI
 have gE4a:Has (H4 ++ [O.arr [] 0 0,O.arr [] 0 0,O.box [nI bl,.sl v4 0 0 bs.length,.sl (v4 + 1) 0 0 bc.length]]) v3 rs ac:=sO gH4a
 have gE4b:Has (H4 ++ [O.arr [] 0 0,O.arr [] 0 0,O.box [nI bl,.sl v4 0 0 bs.length,.sl (v4 + 1) 0 0 bc.length]]) v4 bs bc:=sO gv4
 have kc_6:∀ {R:Type} {k:KA R},aS env (aA env L (n - 1)) (H4 ++ [O.arr [] 0 0,O.arr [] 0 0,O.box [nI bl,.sl v4 0 0 bs.length,.sl (v4 + 1) 0 0 bc.length]]) 24 [.agg [nI al,.sl v3 0 0 rs.length,.sl (v3 + 1) 0 0 ac.length],.agg [nI bl,.sl v4 0 0 bs.length,.sl (v4 + 1) 0 0 bc.length],nI x] k = k (.d (.bool r)) (H4 ++ [O.arr [] 0 0,O.arr [] 0 0,O.box [nI bl,.sl v4 0 0 bs.length,.sl (v4 + 1) 0 0 bc.length]]):=by
  intro R k
  rw [IG MX (hrd gE4a gE4b) (by simp [idsL,idsA]; omega)]
  exact gF hI rfl
 obtain ⟨v5,hv5⟩:∃ v,v = List.length (H4 ++ [O.arr [] 0 0,O.arr [] 0 0,O.box [nI bl,.sl v4 0 0 bs.length,.sl (v4 + 1) 0 0 bc.length]]):=⟨_,rfl⟩
 obtain ⟨H5,hH5⟩:∃ H,H = (H4 ++ [O.arr [] 0 0,O.arr [] 0 0,O.box [nI bl,.sl v4 0 0 bs.length,.sl (v4 + 1) 0 0 bc.length]]) ++ autO v5 rs ac:=⟨_,rfl⟩
 have kc_7:∀ {R:Type} {k:KA R},aS env (aA env L (n - 1)) (H4 ++ [O.arr [] 0 0,O.arr [] 0 0,O.box [nI bl,.sl v4 0 0 bs.length,.sl (v4 + 1) 0 0 bc.length]]) 14 [.agg [nI al,.d (.ivs (List.length rs) (rowsD rs)),.d (.ivs (List.length ac) (bools ac))]] k = k (.agg [nI al,.sl v5 0 0 rs.length,.sl (v5 + 1) 0 0 ac.length]) H5:=by intro R k; rw [hH5,hv5]; exact zR (by omega) hs ha hL
 have gv5:Has H5 v5 rs ac:=by rw [hH5,hv5]; exact zV
 have lH5:H5.length = List.length (H4 ++ [O.arr [] 0 0,O.arr [] 0 0,O.box [nI bl,.sl v4 0 0 bs.length,.sl (v4 + 1) 0 0 bc.length]]) + rs.length + 2:=by rw [hH5,List.length_append,nX]; omega
 have wH5:wgt H5 ≤ wgt (H4 ++ [O.arr [] 0 0,O.arr [] 0 0,O.box [nI bl,.sl v4 0 0 bs.length,.sl (v4 + 1) 0 0 bc.length]]) + 1048576:=by rw [hH5,sH,zT]; omega
 simp only [vN] at lH5 hv5
 have b5_0:H5[0]? = some (.box [nI al,.d (.ivs (List.length rs) (rowsD rs)),.d (.ivs (List.length ac) (bools ac))]):=by rw [hH5]; exact d7 bE4_0
 have b5_1:H5[1]? = some (.box [nI bl,.d (.ivs (List.length bs) (rowsD bs)),.d (.ivs (List.length bc) (bools bc))]):=by rw [hH5]; exact d7 bE4_1
 have b5_y:H5[H4.length + 1 + 1]? = some (.box [nI bl,.sl v4 0 0 bs.length,.sl (v4 + 1) 0 0 bc.length]):=by rw [hH5]; exact d7 bE4_y
 have gH5a:Has H5 v3 rs ac:=by rw [hH5]; exact sO gE4a
 have gH5b:Has H5 v4 bs bc:=by rw [hH5]; exact sO gE4b
 have kc_8:∀ {R:Type} {k:KA R},aS env (aA env L (n - 1)) H5 17 [.agg [nI al,.sl v3 0 0 rs.length,.sl (v3 + 1) 0 0 ac.length],.agg [nI al,.sl v5 0 0 rs.length,.sl (v5 + 1) 0 0 ac.length]] k = k (.d (.bool true)) H5:=fun {R k} => aI7 (by omega) hs ha (rd2 (zW gH5a) (zW gv5)) (by simp [idsL,aDd]; omega) hL
 obtain ⟨v6,hv6⟩:∃ v,v = List.length H5:=⟨_,rfl⟩
 obtain ⟨H6,hH6⟩:∃ H,H = H5 ++ autO v6 bs bc:=⟨_,rfl⟩
 have kc_9:∀ {R:Type} {k:KA R},aS env (aA env L (n - 1)) H5 14 [.agg [nI bl,.d (.ivs (List.length bs) (rowsD bs)),.d (.ivs (List.length bc) (bools bc))]] k = k (.agg [nI bl,.sl v6 0 0 bs.length,.sl (v6 + 1) 0 0 bc.length]) H6:=by intro R k; rw [hH6,hv6]; exact zR (by omega) hsb hab hL
 have gv6:Has H6 v6 bs bc:=by rw [hH6,hv6]; exact zV
 have lH6:H6.length = List.length H5 + bs.length + 2:=by rw [hH6,List.length_append,nX]; omega
 have wH6:wgt H6 ≤ wgt H5 + 1048576:=by rw [hH6,sH,zT]; omega
 have gH6b:Has H6 v4 bs bc:=by rw [hH6]; exact sO gH5b
 have kc_10:∀ {R:Type} {k:KA R},aS env (aA env L (n - 1)) H6 17 [.agg [nI bl,.sl v4 0 0 bs.length,.sl (v4 + 1) 0 0 bc.length],.agg [nI bl,.sl v6 0 0 bs.length,.sl (v6 + 1) 0 0 bc.length]] k = k (.d (.bool true)) H6:=fun {R k} => aI7 (by omega) hsb hab (rd2 (zW gH6b) (zW gv6)) (by simp [idsL,aDd]; omega) hL
 obtain ⟨f1,hf1⟩:∃ f:Foot,f = { ids:=List.range' (List.length H0) (autO v1 rs ac).length,ro:=false }:=⟨_,rfl⟩
 have st_f1:iD env 14 H0 H1 [] = some (H1,f1):=by rw [hf1,hH1]; exact C6 iV
 obtain ⟨f3,hf3⟩:∃ f:Foot,f = { ids:=List.range' (List.length H1) (autO v2 bs bc).length,ro:=false }:=⟨_,rfl⟩
 have st_f3:iD env 14 H1 H2 [] = some (H2,f3):=by rw [hf3,hH2]; exact C6 iV
 obtain ⟨fA,hfA⟩:∃ f:Foot,f = { ids:=List.range' (List.length (H4 ++ [O.arr [] 0 0,O.arr [] 0 0,O.box [nI bl,.sl v4 0 0 bs.length,.sl (v4 + 1) 0 0 bc.length]])) (autO v5 rs ac).length,ro:=false }:=⟨_,rfl⟩
 have st_fA:iD env 14 (H4 ++ [O.arr [] 0 0,O.arr [] 0 0,O.box [nI bl,.sl v4 0 0 bs.length,.sl (v4 + 1) 0 0 bc.length]]) H5 [] = some (H5,fA):=by rw [hfA,hH5]; exact C6 iV
 obtain ⟨fB,hfB⟩:∃ f:Foot,f = { ids:=List.range' (List.length H5) (autO v6 bs bc).length,ro:=false }:=⟨_,rfl⟩
 have st_fB:iD env 14 H5 H6 [] = some (H6,fB):=by rw [hfB,hH6]; exact C6 iV
 have st_f5:∀ {ord:List Nat},iD env 23 H2 H2 ord = some (H2,{ ids:=ord,ro:=true }):=fun {ord} => SQ xJ
 have st_e1:∀ {ord:List Nat},iD env 17 H5 H5 ord = some (H5,{ ids:=ord,ro:=true }):=fun {ord} => SQ rN
 have st_e2:∀ {ord:List Nat},iD env 17 H6 H6 ord = some (H6,{ ids:=ord,ro:=true }):=fun {ord} => SQ rN
 obtain ⟨ord5,hord5⟩:∃ l,l = aD aG H2 (idsL [.agg [nI al,.sl v1 0 0 rs.length,.sl (v1 + 1) 0 0 ac.length],.agg [nI bl,.sl v2 0 0 bs.length,.sl (v2 + 1) 0 0 bc.length],nI x]) []:=⟨_,rfl⟩
 have st_ord5:aD aG H2 (idsL [.agg [nI al,.sl v1 0 0 rs.length,.sl (v1 + 1) 0 0 ac.length],.agg [nI bl,.sl v2 0 0 bs.length,.sl (v2 + 1) 0 0 bc.length],nI x]) [] = ord5:=hord5.symm
 obtain ⟨ord8,hord8⟩:∃ l,l = aD aG H5 (idsL [.agg [nI al,.sl v3 0 0 rs.length,.sl (v3 + 1) 0 0 ac.length],.agg [nI al,.sl v5 0 0 rs.length,.sl (v5 + 1) 0 0 ac.length]]) []:=⟨_,rfl⟩
 have st_ord8:aD aG H5 (idsL [.agg [nI al,.sl v3 0 0 rs.length,.sl (v3 + 1) 0 0 ac.length],.agg [nI al,.sl v5 0 0 rs.length,.sl (v5 + 1) 0 0 ac.length]]) [] = ord8:=hord8.symm
 obtain ⟨ord10,hord10⟩:∃ l,l = aD aG H6 (idsL [.agg [nI bl,.sl v4 0 0 bs.length,.sl (v4 + 1) 0 0 bc.length],.agg [nI bl,.sl v6 0 0 bs.length,.sl (v6 + 1) 0 0 bc.length]]) []:=⟨_,rfl⟩
 have st_ord10:aD aG H6 (idsL [.agg [nI bl,.sl v4 0 0 bs.length,.sl (v4 + 1) 0 0 bc.length],.agg [nI bl,.sl v6 0 0 bs.length,.sl (v6 + 1) 0 0 bc.length]]) [] = ord10:=hord10.symm
 have hclash8:∀ (ops:List Oper) (p4 q0:Foot),p4.ids = [] → p4.wr = [] → q0.ids = [] → q0.wr = [] → Y5 ops = true → jH ops ([] ++ [{ ids:=idsA (A.ptr 0 0 0) }] ++ [f1] ++ [{ ids:=idsA (A.ptr 1 0 0) }] ++ [f3] ++ [p4] ++ [{ ids:=ord5,ro:=true }] ++ [q0]) = true:=by
  intro ops p4 q0 i4 j4 i_q0 j_q0 hm
  refine aJK (l:=[q0]) rfl rfl rfl i4 j4 ?_ hm ?_ ?_ ?_ ?_ ?_
  ·intro p hp
   simp only [List.mem_cons,List.not_mem_nil,or_false] at hp
   rcases hp with rfl
   ·exact ⟨i_q0,j_q0⟩
  ·rw [hf1]; exact n5 rfl (by omega)
  ·rw [hf3]; exact n5 rfl (by omega)
  ·rw [H7,hf1]; exact n5 rfl (by omega)
  ·rw [hf3]; exact n5 rfl (by omega)
  ·rw [hf1,hf3,nX,nX]; exact aJo (by omega)
 have hclash14:∀ (ops:List Oper) (p q:Foot),XL 5 [(0,1),(0,2),(1,2)] ops = true → jH ops ([] ++ [{ ids:=idsA (A.ptr (H3.length + 2) 0 0) }] ++ [{ ids:=idsA (A.ptr 0 0 0) }] ++ [fA] ++ [p] ++ [q]) = true:=by
  intro ops p q hm
  refine MR (aDK 5 [(0,1),(0,2),(1,2)] rfl hm ?_)
  intro z hz
  simp only [List.mem_cons,List.not_mem_nil,or_false] at hz
  rcases hz with rfl | rfl | rfl
  ·exact BK rfl rfl
  ·show dP { ids:=idsA (A.ptr (H3.length + 2) 0 0) } fA = false; rw [hfA]; exact n5 rfl (by (try simp only [vN]); omega)
  ·show dP { ids:=idsA (A.ptr 0 0 0) } fA = false; rw [hfA]; exact n5 rfl (by (try simp only [vN]); omega)
 have hclash16:∀ (ops:List Oper) (p q:Foot),XL 5 [(0,1),(0,2),(1,2)] ops = true → jH ops ([] ++ [{ ids:=idsA (A.ptr (H4.length + 2) 0 0) }] ++ [{ ids:=idsA (A.ptr 1 0 0) }] ++ [fB] ++ [p] ++ [q]) = true:=by
  intro ops p q hm
  refine MR (aDK 5 [(0,1),(0,2),(1,2)] rfl hm ?_)
  intro z hz
  simp only [List.mem_cons,List.not_mem_nil,or_false] at hz
  rcases hz with rfl | rfl | rfl
  ·exact BK rfl rfl
  ·show dP { ids:=idsA (A.ptr (H4.length + 2) 0 0) } fB = false; rw [hfB]; exact n5 rfl (by (try simp only [vN]); omega)
  ·show dP { ids:=idsA (A.ptr 1 0 0) } fB = false; rw [hfB]; exact n5 rfl (by (try simp only [vN]); omega)
 have hll:ac.length ≤ 9223372036854775807:=by omega
 have hllb:bc.length ≤ 9223372036854775807:=by omega
 clear hH1 hH2 hH3 hH4 hH5 hH6 hv1 hv2 hv3 hv4 hv5 hv6 lH1 lH2 lH3 lH4 lH5 lH6 gv1 gv2 gv3 gv4 gv5 gv6 gH2a gE3a gH4a gE4a gE4b gH5a gH5b gH6b w0 l0 wH1 wH2 wH3 wH4 wH5 wH6 wE3 wE4 hf1 hf3 hfA hfB hord5 hord8 hord10 hS hI hrd
 obtain _ | n:=n; omega
 simp only [Nat.add_sub_cancel] at kc_1 kc_2 kc_3 kc_4 kc_5 kc_6 kc_7 kc_8 kc_9 kc_10
 have n1:1 ≤ n + 1:=by omega
 subst hH0
 obtain _ | n:=n; omega
 simp -implicitDefEqProofs (maxSteps:=2000000) (disch:=first | assumption | (refine Shut.mk ?_; exact hclash14 _ _ _ kr) | (refine Shut.mk ?_; exact hclash16 _ _ _ kr) | (refine Shut.mk ?_; exact hclash8 _ _ _ rfl rfl rfl rfl kr) | (refine Shut.mk ?_; kernel_rfl) | omega | (simp only [GT]; done) | (simp only [LN] <;> omega) | fail) only [↓DN,↓kAsg,↓kRet,UP,simprocAttr,↓v8,hsz,hsz2,↓kc_1,↓kc_2,↓kc_3,↓kc_4,↓kc_5,↓kc_6,↓kc_7,↓kc_8,↓kc_9,↓kc_10,↓st_f1,↓st_f3,↓st_fA,↓st_fB,↓st_f5,↓st_e1,↓st_e2,↓st_ord5,↓st_ord8,↓st_ord10,b1_1,b2_0,bE3_1,bE4_0,bE4_x,bE4_y,b5_1,b5_y,List.append_assoc,SI,aJW,kU,iE,Tryz.f5]
theorem G0 {L n:Nat} (hn:30 ≤ n) (al:Int) (rs:List (List Int)) (ac:List Bool) (hlen:rowsLen rs) (hla:ac.length ≤ 9223372036854775807) (bl:Int) (bs:List (List Int)) (bc:List Bool) (hlenb:rowsLen bs) (hlab:bc.length ≤ 9223372036854775807) (x:Int) (hL:2 ^ 60 ≤ L):aA env L n 5 [.agg [nI al,.d (.ivs (List.length rs) (rowsD rs)),.d (.ivs (List.length ac) (bools ac))],.agg [nI bl,.d (.ivs (List.length bs) (rowsD bs)),.d (.ivs (List.length bc) (bools bc))],nI x] [] = some (.d (.bool true),[]):=by
 by_cases hsz:szA rs ac 1048576 < 0
 ·obtain _ | n:=n; omega
  simp -implicitDefEqProofs (maxSteps:=2000000) (disch:=try exact Dz) only [↓DN,↓kAsg,↓kRet,UP,simprocAttr,↓v8,hsz,kU,iE,Tryz.f5]
 ·by_cases hsz2:szA bs bc (szA rs ac 1048576) < 0
  ·have hb:=L4 hsz
   obtain _ | n:=n; omega
   simp -implicitDefEqProofs (maxSteps:=2000000) (disch:=try exact Dz) only [↓DN,↓kAsg,↓kRet,UP,simprocAttr,↓v8,hsz,hsz2,kU,iE,Tryz.f5]
  ·have hb:=L4 hsz
   exact FC hn al rs ac bl bs bc x hlen hla hlenb hlab hsz hsz2 hL
end Ev
end Go.Proofs.YtejmccgfigiadaaGreat
