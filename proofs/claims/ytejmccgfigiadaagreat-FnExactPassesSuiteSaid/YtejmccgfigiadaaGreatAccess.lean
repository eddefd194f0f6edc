/-
  A search for a goal, walked: the word that was found, the bH.
-/
import Derived.Test.YtejmccgfigiadaaGreatDistG
import Derived.Test.YtejmccgfigiadaaGreatTwo
import Derived.Test.YtejmccgfigiadaaGreatAutH
set_option linter.unusedSimpArgs false
set_option linter.unusedVariables false
set_option maxRecDepth 8000
set_option maxHeartbeats 4000000
namespace Go.Proofs.YtejmccgfigiadaaGreat
namespace Ev
section
variable {R:Type} {L n:Nat}
theorem aL0 {l:List UInt8} {i j p:Nat} (hi:i < l.length) (hj:j < l.length):(swp l i j).getD p 0 = if p = j then l.getD i 0 else if p = i then l.getD j 0 else l.getD p 0:=by
 unfold swp
 simp only [List.getD_eq_getElem?_getD,List.getElem?_set,List.length_set]
 by_cases h1:p = j
 ·subst h1
  simp [hj]
 ·have h1':¬ j = p:=fun h => h1 h.symm
  by_cases h2:p = i
  ·subst h2
   simp [hi,h1,h1']
  ·have h2':¬ i = p:=fun h => h2 h.symm
   simp only [h1,h1',h2,h2',if_false]
theorem aCH:∀ (q:Nat) (i j:Int) (l:List UInt8),0 ≤ i → j < l.length → j - i ≤ q → ∀ p:Nat,p < l.length → (revG q i j l).2.2.getD p 0 = if i ≤ p ∧ (p:Int) ≤ j then l.getD (i + j - p).toNat 0 else l.getD p 0
 | 0,i,j,l,h0,h1,h2,p,hp => by
  unfold revG
  split
  ·rename_i h
   rw [show (i + j - p).toNat = p by omega]
  ·rfl
 | q + 1,i,j,l,h0,h1,h2,p,hp => by
  unfold revG
  split
  ·rename_i hlt
   have hg:=fun (x:Nat) => aL0 (l:=l) (i:=i.toNat) (j:=j.toNat) (p:=x) (by omega) (by omega)
   rw [aCH q (i + 1) (j - 1) _ (by omega) (by rw [vW]; omega) (by omega) p (by rw [vW]; exact hp)]
   by_cases c1:i + 1 ≤ (p:Int) ∧ (p:Int) ≤ j - 1
   ·rw [if_pos c1,hg,if_neg (by omega:¬ (i + 1 + (j - 1) - (p:Int)).toNat = j.toNat),if_neg (by omega:¬ (i + 1 + (j - 1) - (p:Int)).toNat = i.toNat),if_pos (by omega:i ≤ (p:Int) ∧ (p:Int) ≤ j)]
    congr 1
    omega
   ·rw [if_neg c1,hg]
    by_cases c2:p = j.toNat
    ·rw [if_pos c2,if_pos (by omega:i ≤ (p:Int) ∧ (p:Int) ≤ j)]
     congr 1
     omega
    ·rw [if_neg c2]
     by_cases c3:p = i.toNat
     ·rw [if_pos c3,if_pos (by omega:i ≤ (p:Int) ∧ (p:Int) ≤ j)]
      congr 1
      omega
     ·rw [if_neg c3,if_neg (by omega:¬ (i ≤ (p:Int) ∧ (p:Int) ≤ j))]
  ·rename_i hlt
   split
   ·rename_i h
    rw [show (i + j - p).toNat = p by omega]
   ·rfl
theorem aKt (l:List UInt8):(revG (l.length + 1) 0 ((l.length:Int) - 1) l).2.2 = l.reverse:=by
 have hl:=(XT (l.length + 1) 0 ((l.length:Int) - 1) l (Int.le_refl _) (by omega)).1
 apply List.ext_getElem
 ·rw [hl,List.length_reverse]
 ·intro p h1 h2
  rw [hl] at h1
  have:=aCH (l.length + 1) 0 ((l.length:Int) - 1) l (Int.le_refl _) (by omega) (by omega) p h1
  rw [if_pos (by omega),List.getD_eq_getElem?_getD,List.getElem?_eq_getElem (by rw [hl]; exact h1),List.getD_eq_getElem?_getD,List.getElem?_eq_getElem (by omega)] at this
  simp only [Option.getD_some] at this
  rw [this,List.getElem_reverse]
  congr 1
  omega
theorem aBe {l:List PStep} {k:Nat} (h:k < l.length):(((bM l).drop (k * 3)).map A.d).head? = some (.d (.int .i64 (l.getD k default).par)):=by
 rw [wP,bK h (d:=default)]; rfl
theorem aH3 {l:List PStep} {k:Nat} (h:k < l.length):(((bM l).drop (k * 3 + 1)).map A.d).head? = some (.d (.int .i64 (l.getD k default).lt)):=by
 rw [← List.drop_drop,wP,bK h (d:=default)]; rfl
def aCt (st:List PStep):Nat → Nat → Nat
 | 0,i => i
 | j + 1,i => if 0 ≤ (st.getD i default).par then aCt st j (st.getD i default).par.toNat else i
def Tree (st:List PStep):Prop:=∀ k,k < st.length → ((st.getD k default).par < (k:Int)) ∧ (0 ≤ (st.getD k default).lt ∧ (st.getD k default).lt ≤ 5)
theorem aAH (st:List PStep):∀ (j i:Nat),(eX st j i).length ≤ j
 | 0,i => Nat.le_refl _
 | j + 1,i => by
  unfold eX
  split
  ·have:=aAH st j (st.getD i default).par.toNat
   simp only [List.length_append,List.length_cons,List.length_nil]
   omega
  ·simp
theorem WM (hn:2 ≤ n) {st:List PStep} (ht:Tree st) (hs:st.length ≤ 16777216) {k:KE R}:∀ (j i m:Nat) (o:List UInt8) (len:Nat) (hi:i < st.length) (hj:i < j) (hm:j ≤ m) (hlen:len = o.length) (ho:o.length + i ≤ 20000000),
  aF env (aA env L n) L 0 [0,0,0,2] Bz32 (mA 0) (Z1 (U1 (Z2 (Z1 (U16 (U8 (U2 (U1 ([]))))))))) m (.d (.ivs st.length (bM st)) :: Y1 (.d (.str []) :: .sl 0 0 0 len :: nI i :: Y16 (Y8 (Y2 (Y1 ([])))))) [.arr (bS o) 1 0] k
  = k (.exit 0) (.d (.ivs st.length (bM st)) :: Y1 (.d (.str []) :: .sl 0 0 0 (o ++ (txt (eX st j i)).reverse).length :: nI ((aCt st j i:Nat):Int) :: Y16 (Y8 (Y2 (Y1 ([])))))) [.arr (bS (o ++ (txt (eX st j i)).reverse)) 1 0]:=by
 intro j
 induction j with
 | zero => intro i m o len hi hj; omega
 | succ j ih =>
  intro i m o len hi hj hm hlen ho
  obtain _ | m:=m; omega
  subst hlen
  obtain ⟨t1,t2,t3⟩:=ht i hi
  have hc:(i:Int) < st.length:=by omega
  by_cases hp:0 ≤ (st.getD i default).par
  ·have ih':=ih (st.getD i default).par.toNat m (o ++ [bY (st.getD i default).lt]) (o.length + 1) (by omega) (by omega) (by omega) (by simp) (by rw [List.length_append,List.length_singleton]; omega)
   rw [show (((st.getD i default).par.toNat:Nat):Int) = (st.getD i default).par by omega] at ih'
   have h5:(((st.getD i default).par.toNat:Nat):Int) = (st.getD i default).par:=by omega
   unfold eX aCt
   rw [if_pos hp,if_pos hp]
   clear ih
   have e:(txt (eX st j (st.getD i default).par.toNat ++ [(st.getD i default).lt])).reverse = [bY (st.getD i default).lt] ++ (txt (eX st j (st.getD i default).par.toNat)).reverse:=by simp [txt]
   rw [e,← List.append_assoc]
   have g1:=aBe hi
   have g2:=aH3 hi
   generalize st.getD i default = s at *
   simp -implicitDefEqProofs (maxSteps:=2000000) (disch:=try exact Dz) only [↓DN,↓kRet,UP,simprocAttr,PE,List.length_drop,List.drop_drop,hc,hp,g1,g2,↓DD,↓ih',yY,vI,Tryz.f152]
  ·unfold eX aCt
   rw [if_neg hp,if_neg hp]
   have g1:=aBe hi
   simp only [txt,List.map_nil,List.reverse_nil,List.append_nil]
   simp -implicitDefEqProofs (maxSteps:=2000000) (disch:=try exact Dz) only [↓DN,↓kRet,UP,simprocAttr,PE,hc,hp,g1,yY,vI,Tryz.f152]
theorem KH (hn:3 ≤ n) (st:List PStep) (ht:Tree st) (hs:st.length ≤ 16777216) (h0:0 < st.length) (hL:2 ^ 60 ≤ L):aA env L n 152 [.d (.ivs st.length (bM st))] [] = some (.d (.str (OZ st)),[]):=by
 have loop_w:=fun {R n k} hn => @WM R L n hn st ht hs k st.length (st.length - 1) L [] 0 (by omega) (by omega) (by omega) rfl (by simp; omega)
 simp only [List.nil_append,aGt] at loop_w
 have hwl:=aAH st st.length (st.length - 1)
 have hb:(txt (eX st st.length (st.length - 1))).reverse.length ≤ 2147483648:=by simp [txt]; omega
 have hrr:(txt (eX st st.length (st.length - 1))).reverse.reverse = OZ st:=by rw [List.reverse_reverse]; rfl
 have hwlen:(txt (eX st st.length (st.length - 1))).reverse.length = (OZ st).length:=by simp [OZ]
 generalize (txt (eX st st.length (st.length - 1))).reverse = w at *
 have e1:IntKind.i64.wrap ((st.length:Int) - 1) = ((st.length - 1:Nat):Int):=by
  rw [show (st.length:Int) - 1 = ((st.length - 1:Nat):Int) by omega]
  exact w8 (by omega) (by omega)
 have kc_r:=fun {R:Type} {n id g:Nat} {hq:H} {k:KA R} (hn:1 ≤ n) (hi:hq[id]? = some (.arr (bS w) 1 g)) => @aMG R L n id g hq k hn w hi hb hL
 have er:=aKt w
 rw [hrr] at er
 simp only [er] at kc_r
 simp only [hwlen] at kc_r
 simp only [hwlen] at loop_w
 have h1:(1:Int) ≤ st.length:=by omega
 obtain _ | n:=n; omega
 simp -implicitDefEqProofs (maxSteps:=2000000) (disch:=try exact Dz) only [↓DN,↓kAsg,↓kRet,UP,simprocAttr,↓loop_w,e1,↓kc_r,↓HI,aCb,OC,Tryz.f152]
theorem aCk:type_of% fun {L} st ht hs h0 hL => kt fun hn => @KH L _ hn st ht hs h0 hL:=fun {L} st ht hs h0 hL => kt fun hn => @KH L _ hn st ht hs h0 hL
theorem VV {L:Nat} {id0 g0 o0 len0:Nat} :KV L 152 [.sl id0 g0 o0 len0]:=fun _ _ _ _ => dM V6
theorem aD2 {st:List PStep} {p l:Int} {f:List Int}:st.length ≤ (addP st p l f).length:=by unfold addP; split <;> simp
theorem aEm {st:List PStep} {i:Nat} {l:Int} {f:List Int} (ht:Tree st) (hi:i < st.length) (hl:0 ≤ l ∧ l ≤ 5):Tree (addP st i l f):=by
 unfold addP
 split
 ·exact ht
 ·intro k hk
  simp only [List.length_append,List.length_cons,List.length_nil] at hk
  by_cases h:k < st.length
  ·rw [iQ h]; exact ht k h
  ·obtain rfl:k = st.length:=by omega
   rw [NY]
   exact ⟨by show (i:Int) < _; omega,hl⟩
theorem aHd (hn:5 ≤ n) (hL:2 ^ 60 ≤ L) {I:Int → Prop} {gl:Int → Bool} {nf gf:FuncId} {caps gcaps:List D} {size:Nat} {nx:Int → Int → List Int} {ls ns:List Int} {ii:Nat}
  (kc_n:∀ {R:Type} {n id:Nat} {hq:H} {k:KA R} (x c:Int) (o:List Int),4 ≤ n → I x → 0 ≤ c → c < 6 → o.length ≤ 2147483648 → hq[id]? = some (.arr (ints o) 1 0) → aS env (aA env L n) hq nf (nI x :: nI c :: .sl id 0 0 o.length :: caps.map A.d) k = k (.sl id (nx x c).length 0 (o ++ nx x c).length) (hq.set id (.arr (ints (o ++ nx x c)) 1 (nx x c).length)))
  (kc_g:∀ {R:Type} {n:Nat} {hq:H} {k:KA R} (x:Int),2 ≤ n → I x → aS env (aA env L n) hq gf (nI x :: gcaps.map A.d) k = k (.d (.bool (gl x))) hq)
  (hr:∀ x,I x → 0 ≤ x ∧ x < size) (hsz:size ≤ 16777216) (hI:∀ x ∈ ns,I x) (hx:∀ x c,I x → 0 ≤ c → c < 6 → ∀ y ∈ nx x c,I y) (hw:∀ x c,(nx x c).length ≤ 64) (hls:∀ c ∈ ls,0 ≤ c ∧ c ≤ 5) (hll:ls.length ≤ 6) (hnl:ns.length ≤ size) {k:KE R}:∀ (j q m:Nat) (seen:List Bool) (st:List PStep) (sn:Nat) (hi:q + j = ls.length) (hm:j < m) (hg:PGood I size seen st) (htr:Tree st) (hii:ii < st.length) (hns:(st.getD ii default).ns = ns) (hsn:sn = st.length),
  aF env (aA env L n) L 0 (W16 (W2 [2])) Bz2 (cJ 1) (U2 (Z2 (U4 (U2 (Z2 (U1 (Z2 (Z1 (U16 (U1 (Z2 (Z1 (U16 (U8 (U2 (U1 ([]))))))))))))))))) m (Y2 (.d (.ivs ls.length (ints ls)) :: .d (.fn nf caps) :: Y4 (Y2 (.d (.str []) :: .d (.bool false) :: Y1 (.ptr 0 0 0 :: .clo 151 [.ptr 1 0 0,.ptr 2 0 0,.ptr 0 0 0] :: nI ii :: Y16 (Y1 (.d (.ivs ls.length (ints ls)) :: nI (ls.length) :: nI q :: Y16 (Y8 (Y2 (Y1 ([]))))))))))) [.box [.sl 3 0 0 sn],.box [.sl 4 0 0 size],.box [.d (.fn gf gcaps)],.arr (bM st) 3 0,.arr (cR seen) 1 0] k
  = if (ltG nx gl ns ii (ls.drop q) (seen,st)).1 = true then
    k .ret (Y2 (.d (.ivs ls.length (ints ls)) :: .d (.fn nf caps) :: Y4 (Y2 (.d (.str ((OZ (ltG nx gl ns ii (ls.drop q) (seen,st)).2.2))) :: .d (.bool true) :: Y1 (.ptr 0 0 0 :: .clo 151 [.ptr 1 0 0,.ptr 2 0 0,.ptr 0 0 0] :: nI ii :: Y16 (Y1 (.d (.ivs ls.length (ints ls)) :: nI (ls.length) :: nI ((q + ltI nx gl ns ii (ls.drop q) (seen,st):Nat):Int) :: Y16 (Y8 (Y2 (Y1 ([]))))))))))) [.box [.sl 3 0 0 (ltG nx gl ns ii (ls.drop q) (seen,st)).2.2.length],.box [.sl 4 0 0 size],.box [.d (.fn gf gcaps)],.arr (bM (ltG nx gl ns ii (ls.drop q) (seen,st)).2.2) 3 0,.arr (cR (ltG nx gl ns ii (ls.drop q) (seen,st)).2.1) 1 0]
   else k (.exit 2) (Y2 (.d (.ivs ls.length (ints ls)) :: .d (.fn nf caps) :: Y4 (Y2 (.d (.str []) :: .d (.bool false) :: Y1 (.ptr 0 0 0 :: .clo 151 [.ptr 1 0 0,.ptr 2 0 0,.ptr 0 0 0] :: nI ii :: Y16 (Y1 (.d (.ivs ls.length (ints ls)) :: nI (ls.length) :: nI (ls.length) :: Y16 (Y8 (Y2 (Y1 ([]))))))))))) [.box [.sl 3 0 0 (ltG nx gl ns ii (ls.drop q) (seen,st)).2.2.length],.box [.sl 4 0 0 size],.box [.d (.fn gf gcaps)],.arr (bM (ltG nx gl ns ii (ls.drop q) (seen,st)).2.2) 3 0,.arr (cR (ltG nx gl ns ii (ls.drop q) (seen,st)).2.1) 1 0]:=by
 intro j
 induction j with
 | zero =>
  intro q m seen st sn hi hm hg htr hii hns hsn
  obtain _ | m:=m; omega
  obtain rfl:q = ls.length:=by omega
  subst hsn
  simp -implicitDefEqProofs (maxSteps:=2000000) (disch:=try exact Dz) only [↓DN,↓kRet,UP,simprocAttr,Int.lt_irrefl,oM,m8,Tryz.f119]
  simp only [List.drop_length,ltG,Bool.false_eq_true,if_false]
 | succ j ih =>
  intro q m seen st sn hi hm hg htr hii hns hsn
  obtain _ | m:=m; omega
  subst hsn
  have hc:(q:Int) < ls.length:=by omega
  have hk:q < ls.length:=by omega
  have hmem:ls.getD q 0 ∈ ls:=by rw [List.getD_eq_getElem?_getD,List.getElem?_eq_getElem hk]; exact List.getElem_mem hk
  obtain ⟨c0,c5⟩:=hls _ hmem
  have c6:ls.getD q 0 < 6:=by omega
  have hiI:(ii:Int) < st.length:=by omega
  have hroom:=hg.room
  have hstl:st.length ≤ 4294967290:=by omega
  rw [bK hk (d:=0)]
  have hI2:∀ y ∈ flat nx ns (ls.getD q 0),I y:=by
   intro y hy
   obtain ⟨x,h1,h2⟩:=List.mem_flatMap.1 hy
   exact hx x (ls.getD q 0) (hI x h1) c0 c6 y h2
  have hfl:=aDj (c:=ls.getD q 0) hw ns
  have hfl2:(flat nx ns (ls.getD q 0)).length ≤ 4294967290:=by omega
  obtain ⟨g1,g2,g3⟩:=EZ (gl:=gl) hg hI2 hr (ii:Int) (ls.getD q 0)
  have htr2:Tree (addP st ii (ls.getD q 0) (visG gl (flat nx ns (ls.getD q 0)) seen [] false).2.1):=aEm htr hii ⟨c0,c5⟩
  have hlen2:=aD2 (st:=st) (p:=(ii:Int)) (l:=ls.getD q 0) (f:=(visG gl (flat nx ns (ls.getD q 0)) seen [] false).2.1)
  have ih':=ih (q + 1) m (visG gl (flat nx ns (ls.getD q 0)) seen [] false).1 (addP st ii (ls.getD q 0) (visG gl (flat nx ns (ls.getD q 0)) seen [] false).2.1) _ (by omega) (by omega) g1 htr2 (by omega) (by rw [aKk hii]; exact hns) rfl
  have e4:((q + 1:Nat):Int) = (q:Int) + 1:=by omega
  rw [e4] at ih'
  have loop_c:=fun {R:Type} {n:Nat} (hn:4 ≤ n) {k:KE R} => @aGW R L n hn hL I nf caps (.fn gf gcaps) size nx ls ns (bM st) seen st.length ii q (ls.getD q 0) (fun {R n id hq k} => kc_n) hI hw c0 c6 (by omega) k ns.length 0 L [] 0 (by omega) (by omega) (by simp) rfl
  simp only [List.drop_zero,List.nil_append,rW,Int.natCast_zero] at loop_c
  have kc_v:=fun {R n k} hn => @aMa R L n k hn hL I gl gf gcaps size (ii:Int) (ls.getD q 0) (flat nx ns (ls.getD q 0)) (fun {R n hq k} => kc_g) hI2 hr (by omega) hfl2 seen hg.len st hstl
  have hroom2:=g1.room
  have kl_w:=@aCk L _ htr2 (by omega) (by omega) hL
  simp only [ltG,ltI]
  clear ih hmem g1 g2 g3 hg hI hI2 hx hw hls hr kc_n kc_g hroom2
  generalize flat nx ns (ls.getD q 0) = fm at *
  generalize visG gl fm seen [] false = v at *
  obtain ⟨v1,v2,v3⟩:=v
  simp only at ih' kc_v kl_w ⊢
  cases v3 with
  | true =>
   simp -implicitDefEqProofs (maxSteps:=2000000) (disch:=try exact Dz) only [↓DN,↓kAsg,↓kRet,UP,simprocAttr,↓VV,PE,hc,hiI,hns,↓loop_c,↓kc_v,↓kl_w,oM,m8,Tryz.f119]
  | false =>
   simp only [Bool.false_eq_true,if_false]
   generalize ltI nx gl ns (ii:Int) (ls.drop (q + 1)) (v1,addP st ii (ls.getD q 0) v2) = T at *
   rw [show q + (T + 1) = q + 1 + T by omega]
   simp -implicitDefEqProofs (maxSteps:=2000000) (disch:=try exact Dz) only [↓DN,↓kAsg,↓kRet,UP,simprocAttr,PE,hc,hiI,hns,↓loop_c,↓kc_v,↓ih',oM,m8,Tryz.f119]
theorem M7 {nx:Int → Int → List Int} {gl:Int → Bool} {ns:List Int} {i:Nat}:∀ (ls:List Int) (hls:∀ c ∈ ls,0 ≤ c ∧ c ≤ 5) (seen:List Bool) (st:List PStep),Tree st → i < st.length → Tree (ltG nx gl ns i ls (seen,st)).2.2
 | [],_,_,_,h,_ => h
 | l :: ls,hls,seen,st,h,hi => by
  have h2:Tree (addP st i l (visG gl (flat nx ns l) seen [] false).2.1):=aEm h hi (hls l List.mem_cons_self)
  unfold ltG
  split
  ·exact h2
  ·exact M7 ls (fun c hc => hls c (List.mem_cons_of_mem _ hc)) _ _ h2 (Nat.lt_of_lt_of_le hi aD2)
theorem aGD (hn:6 ≤ n) (hL:2 ^ 60 ≤ L) {I:Int → Prop} {gl:Int → Bool} {nf gf:FuncId} {caps gcaps:List D} {size:Nat} {nx:Int → Int → List Int} {ls:List Int}
  (kc_n:∀ {R:Type} {n id:Nat} {hq:H} {k:KA R} (x c:Int) (o:List Int),4 ≤ n → I x → 0 ≤ c → c < 6 → o.length ≤ 2147483648 → hq[id]? = some (.arr (ints o) 1 0) → aS env (aA env L n) hq nf (nI x :: nI c :: .sl id 0 0 o.length :: caps.map A.d) k = k (.sl id (nx x c).length 0 (o ++ nx x c).length) (hq.set id (.arr (ints (o ++ nx x c)) 1 (nx x c).length)))
  (kc_g:∀ {R:Type} {n:Nat} {hq:H} {k:KA R} (x:Int),2 ≤ n → I x → aS env (aA env L n) hq gf (nI x :: gcaps.map A.d) k = k (.d (.bool (gl x))) hq)
  (hr:∀ x,I x → 0 ≤ x ∧ x < size) (hsz:size ≤ 16777216) (hx:∀ x c,I x → 0 ≤ c → c < 6 → ∀ y ∈ nx x c,I y) (hw:∀ x c,(nx x c).length ≤ 64) (hls:∀ c ∈ ls,0 ≤ c ∧ c ≤ 5) (hll:ls.length ≤ 6) {k:KE R}:∀ (j i m:Nat) (seen:List Bool) (st:List PStep) (sn:Nat) (hi:st.length + e8 seen ≤ i + j) (hi2:i ≤ st.length) (hm:j < m) (hg:PGood I size seen st) (htr:Tree st) (hsn:sn = st.length),
  aF env (aA env L n) L 0 (W16 (W2 [2])) Bz2 (cJ 0) (U2 (Z2 (U4 (U2 (Z2 (U1 (Z2 (Z1 (U32 (U8 (U4 (U2 (U1 ([])))))))))))))) m (Y2 (.d (.ivs ls.length (ints ls)) :: .d (.fn nf caps) :: Y4 (Y2 (.d (.str []) :: .d (.bool false) :: Y1 (.ptr 0 0 0 :: .clo 151 [.ptr 1 0 0,.ptr 2 0 0,.ptr 0 0 0] :: nI i :: Y32 (Y8 (Y4 (Y2 (Y1 ([])))))))))) [.box [.sl 3 0 0 sn],.box [.sl 4 0 0 size],.box [.d (.fn gf gcaps)],.arr (bM st) 3 0,.arr (cR seen) 1 0] k
  = if (outG nx gl ls j i (seen,st)).1 = true then
    k .ret (Y2 (.d (.ivs ls.length (ints ls)) :: .d (.fn nf caps) :: Y4 (Y2 (.d (.str ((OZ (outG nx gl ls j i (seen,st)).2.2))) :: .d (.bool true) :: Y1 (.ptr 0 0 0 :: .clo 151 [.ptr 1 0 0,.ptr 2 0 0,.ptr 0 0 0] :: nI ((outI nx gl ls j i (seen,st):Nat):Int) :: Y32 (Y8 (Y4 (Y2 (Y1 ([])))))))))) [.box [.sl 3 0 0 (outG nx gl ls j i (seen,st)).2.2.length],.box [.sl 4 0 0 size],.box [.d (.fn gf gcaps)],.arr (bM (outG nx gl ls j i (seen,st)).2.2) 3 0,.arr (cR (outG nx gl ls j i (seen,st)).2.1) 1 0]
   else k (.exit 0) (Y2 (.d (.ivs ls.length (ints ls)) :: .d (.fn nf caps) :: Y4 (Y2 (.d (.str []) :: .d (.bool false) :: Y1 (.ptr 0 0 0 :: .clo 151 [.ptr 1 0 0,.ptr 2 0 0,.ptr 0 0 0] :: nI ((outI nx gl ls j i (seen,st):Nat):Int) :: Y32 (Y8 (Y4 (Y2 (Y1 ([])))))))))) [.box [.sl 3 0 0 (outG nx gl ls j i (seen,st)).2.2.length],.box [.sl 4 0 0 size],.box [.d (.fn gf gcaps)],.arr (bM (outG nx gl ls j i (seen,st)).2.2) 3 0,.arr (cR (outG nx gl ls j i (seen,st)).2.1) 1 0]:=by
 intro j
 induction j with
 | zero =>
  intro i m seen st sn hi hi2 hm hg htr hsn
  obtain _ | m:=m; omega
  obtain rfl:i = st.length:=by omega
  subst hsn
  simp only [outG,outI,Bool.false_eq_true,if_false]
  simp -implicitDefEqProofs (maxSteps:=2000000) (disch:=try exact Dz) only [↓DN,↓kRet,UP,simprocAttr,Int.lt_irrefl,jE,jM,Tryz.f119]
 | succ j ih =>
  intro i m seen st sn hi hi2 hm hg htr hsn
  obtain _ | m:=m; omega
  subst hsn
  by_cases hc:i < st.length
  ·have hci:(i:Int) < st.length:=by omega
   have hroom:=hg.room
   have hmem:st.getD i default ∈ st:=by rw [List.getD_eq_getElem?_getD,List.getElem?_eq_getElem hc]; exact List.getElem_mem hc
   have hI:=hg.node _ hmem
   have hnl:=hg.wide _ hmem
   obtain ⟨k1,k2,k3⟩:=KY (gl:=gl) (nx:=nx) (p:=(i:Int)) hr hI ls (seen,st) (fun x c h1 h2 => hx x c h1 (hls c h2).1 (by have:=(hls c h2).2; omega)) hg
   have ktr:=M7 (gl:=gl) (nx:=nx) (ns:=(st.getD i default).ns) ls hls seen st htr hc
   have loop_b:=fun {R:Type} {n:Nat} (hn:5 ≤ n) {k:KE R} => @aHd R L n hn hL I gl nf gf caps gcaps size nx ls (st.getD i default).ns i (fun {R n id hq k} => kc_n) (fun {R n hq k} => kc_g) hr hsz hI hx hw hls hll hnl k ls.length 0 L seen st st.length (by omega) (by omega) hg htr hc rfl rfl
   simp only [List.drop_zero,Int.natCast_zero,Nat.zero_add] at loop_b
   have ih':=ih (i + 1) m (ltG nx gl (st.getD i default).ns i ls (seen,st)).2.1 (ltG nx gl (st.getD i default).ns i ls (seen,st)).2.2 _ (by have:(ltG nx gl (st.getD i default).ns i ls (seen,st)).2.2.length + e8 (ltG nx gl (st.getD i default).ns i ls (seen,st)).2.1 ≤ st.length + e8 seen:=k2; omega) (by have:st.length ≤ (ltG nx gl (st.getD i default).ns i ls (seen,st)).2.2.length:=k3; omega) (by omega) k1 ktr rfl
   have e4:((i + 1:Nat):Int) = (i:Int) + 1:=by omega
   rw [e4] at ih'
   simp only [outG,outI,hc,if_true]
   clear ih hmem k1 k2 k3 ktr hg hI hx hw hls hr kc_n kc_g hnl
   generalize ltI nx gl (st.getD i default).ns (i:Int) ls (seen,st) = T at *
   generalize ltG nx gl (st.getD i default).ns (i:Int) ls (seen,st) = w at *
   obtain ⟨w0,w1,w2⟩:=w
   simp only at ih' loop_b ⊢
   have hll3:ls.length ≤ 4294967290:=by omega
   cases w0 with
   | true =>
    simp only [if_true] at loop_b
    simp -implicitDefEqProofs (maxSteps:=2000000) (disch:=try exact Dz) only [↓DN,↓kRet,UP,simprocAttr,hci,↓loop_b,jE,jM,Tryz.f119]
   | false =>
    simp only [Bool.false_eq_true,if_false] at loop_b ⊢
    simp -implicitDefEqProofs (maxSteps:=2000000) (disch:=try exact Dz) only [↓DN,↓kRet,UP,simprocAttr,hci,↓loop_b,↓ih',jE,jM,Tryz.f119]
  ·obtain rfl:i = st.length:=by omega
   simp only [outG,outI,hc,Bool.false_eq_true,if_false]
   simp -implicitDefEqProofs (maxSteps:=2000000) (disch:=try exact Dz) only [↓DN,↓kRet,UP,simprocAttr,Int.lt_irrefl,jE,jM,Tryz.f119]
theorem JL {n:Int} {h:H} (h0:0 ≤ n) (h1:n ≤ 4294967296):d8 env.P h 23 n n = some (.sl h.length 0 0 n.toNat,h ++ [.arr (cR (List.replicate n.toNat false)) 1 0]):=by
 have hm:n ≤ (bF:Nat):=by unfold bF; omega
 have he:dG env.P 23 = some 4:=kr
 have hz:cX env.P 4 = some (.d (.bool false)):=kr
 have hok:eM env.P 4 = true:=kr
 have hc:env.P.cellsOf 4 = 1:=kr
 simp only [d8,he,hz,aR,nP,Option.map_some,hok,h0,hm,hc,Int.le_refl,and_self,if_true,cR,List.map_replicate,List.flatten_replicate_singleton]
theorem GP (hn:7 ≤ n) (hL:2 ^ 60 ≤ L) {I:Int → Prop} {gl:Int → Bool} {nf gf:FuncId} {caps gcaps:List D} {size:Nat} {nx:Int → Int → List Int} {ls ns:List Int}
  (kc_n:∀ {R:Type} {n id:Nat} {hq:H} {k:KA R} (x c:Int) (o:List Int),4 ≤ n → I x → 0 ≤ c → c < 6 → o.length ≤ 2147483648 → hq[id]? = some (.arr (ints o) 1 0) → aS env (aA env L n) hq nf (nI x :: nI c :: .sl id 0 0 o.length :: caps.map A.d) k = k (.sl id (nx x c).length 0 (o ++ nx x c).length) (hq.set id (.arr (ints (o ++ nx x c)) 1 (nx x c).length)))
  (kc_g:∀ {R:Type} {n:Nat} {hq:H} {k:KA R} (x:Int),2 ≤ n → I x → aS env (aA env L n) hq gf (nI x :: gcaps.map A.d) k = k (.d (.bool (gl x))) hq)
  (hr:∀ x,I x → 0 ≤ x ∧ x < size) (hsz:size ≤ 16777216) (hI:∀ x ∈ ns,I x) (hx:∀ x c,I x → 0 ≤ c → c < 6 → ∀ y ∈ nx x c,I y) (hw:∀ x c,(nx x c).length ≤ 64) (hls:∀ c ∈ ls,0 ≤ c ∧ c ≤ 5) (hll:ls.length ≤ 6) (hne:ns ≠ []) (hnl:ns.length ≤ size) :
  aA env L n 119 [nI size,.d (.ivs ns.length (ints ns)),.d (.ivs ls.length (ints ls)),.d (.fn nf caps),.d (.fn gf gcaps)] [] = some (.tup [.d (.str (txt (y9 nx gl ls ns size).1)),.d (.bool (y9 nx gl ls ns size).2)],[]):=by
 have hs0:(0:Int) ≤ size:=by omega
 have hs1:(size:Int) ≤ 4294967296:=by omega
 have kc_v:=fun {R:Type} {n:Nat} {k:KA R} {p l:Int} (hn:4 ≤ n) => @aLL R L n k hn hL I gl gf gcaps size p l ns (fun {R n hq k} => kc_g) hI hr (by omega) (by omega) hne
 have hu:e8 (List.replicate size false) = size:=by simp [e8]
 have hg0:PGood I size (List.replicate size false) []:=⟨by simp,by simp,by rw [hu]; simp,by simp⟩
 obtain ⟨g1,g2,g3⟩:=EZ (gl:=gl) hg0 hI hr (-1) 0
 have hpos:=aDH (size:=size) hne
 rw [← (tL gl ns (List.replicate size false) [] false).2] at hpos
 unfold y9
 generalize visG gl ns (List.replicate size false) [] false = r at *
 obtain ⟨r0,r1,r2⟩:=r
 simp only at g1 g2 g3 hpos kc_v ⊢
 have ha:addP [] (-1) 0 r1 = [⟨-1,0,r1⟩]:=by
  unfold addP
  rw [if_neg (List.length_pos_iff.1 hpos)]; rfl
 rw [ha] at g1 g2
 have htr:Tree [⟨-1,0,r1⟩]:=by
  intro k hk
  obtain rfl:k = 0:=by simpa using hk
  exact ⟨by show (-1:Int) < _; omega,by show (0:Int) ≤ 0 ∧ (0:Int) ≤ 5; decide⟩
 have loop_a:=fun {R:Type} {n:Nat} (hn:6 ≤ n) {k:KE R} => @aGD R L n hn hL I gl nf gf caps gcaps size nx ls (fun {R n id hq k} => kc_n) (fun {R n hq k} => kc_g) hr hsz hx hw hls hll k (size + 1) 0 L r0 [⟨-1,0,r1⟩] 1 (by rw [hu] at g2; simp only [List.length_nil,Nat.zero_add] at g2; omega) (by simp) (by omega) g1 htr rfl
 simp only [Int.natCast_zero] at loop_a
 have ee:(bM [⟨-1,0,r1⟩]) = [.int .i64 (-1),.int .i64 0,.ivs r1.length (ints r1)]:=rfl
 rw [ha]
 clear g1 g2 g3 hg0 hI hx hw hls hr kc_n kc_g htr
 cases r2 with
 | true =>
  obtain _ | n:=n; omega
  simp -implicitDefEqProofs (maxSteps:=2000000) (disch:=try exact Dz) only [↓DN,↓kAsg,↓kRet,UP,simprocAttr,↓JL,↓kc_v,vB,rD,Tryz.f119]
  rfl
 | false =>
  simp only [Bool.false_eq_true,if_false]
  generalize outI nx gl ls (size + 1) 0 (r0,[⟨-1,0,r1⟩]) = T at *
  generalize outG nx gl ls (size + 1) 0 (r0,[⟨-1,0,r1⟩]) = w at *
  obtain ⟨w0,w1,w2⟩:=w
  simp only at loop_a ⊢
  cases w0 with
  | true =>
   simp only [if_true] at loop_a ⊢
   obtain _ | n:=n; omega
   simp -implicitDefEqProofs (maxSteps:=2000000) (disch:=try exact Dz) only [↓DN,↓kAsg,↓kRet,UP,simprocAttr,↓JL,↓kc_v,↓loop_a,vB,rD,Tryz.f119]
   rfl
  | false =>
   simp only [Bool.false_eq_true,if_false] at loop_a ⊢
   obtain _ | n:=n; omega
   simp -implicitDefEqProofs (maxSteps:=2000000) (disch:=try exact Dz) only [↓DN,↓kAsg,↓kRet,UP,simprocAttr,↓JL,↓kc_v,↓loop_a,vB,rD,Tryz.f119]
   rfl
end
section
variable {R:Type} {L n:Nat}
theorem bD {a:Aut} (h:AOK a):aT a.nx ∧ r6 (aB a.al).length a.nx ∧ 1 ≤ a.nx.length ∧ a.nx.length ≤ 12 ∧ a.ac.length = a.nx.length:=by
 obtain ⟨a1,a2,a3,a4⟩:=gU h
 have aw:=lS h
 exact ⟨⟨by omega,fun r hr => by have:=aw r hr; have:=b6 a.al; omega⟩,aw,a1,a2,a3⟩
def tabP (a:Aut):D:=.iptr [.ivs a.nx.length (ints (mB a.al a.nx))]
def autP (a:Aut):D:=.iptr [.int .i64 a.al,.ivs a.nx.length (rowsD a.nx),.ivs a.ac.length (bools a.ac)]
def inP (a b:Aut) (x:Int):Prop:=0 ≤ x ∧ x < (a.nx.length:Int) * b.nx.length
theorem LF (hn:1 ≤ n) {a b:Aut} (ha:AOK a) (hb:AOK b) {x c:Int} (hx:inP a b x) (hc0:0 ≤ c) (hc6:c < 6) (o:List Int) (ho:o.length ≤ 2147483648) :
  aA env L n 118 [nI x,nI c,.sl 0 0 0 o.length,.d (tabP a),.d (.iptr [.int .i64 b.nx.length]),.d (tabP b)] [.arr (ints o) 1 0] = some (.sl 0 (nxT a b x c).length 0 (o ++ nxT a b x c).length,[.arr (ints (o ++ nxT a b x c)) 1 (nxT a b x c).length]):=by
 obtain ⟨sa,wa,a1,a2,a3⟩:=bD ha
 obtain ⟨sb,wb,b1,b2,b3⟩:=bD hb
 obtain ⟨p,q⟩:=wD (na:=a.nx.length) (nb:=b.nx.length) (by omega) hx.1 hx.2
 have ga:=kE ha p.1 p.2 hc0 hc6
 have gb:=kE hb q.1 q.2 hc0 hc6
 have hla:=iF a.al a.nx
 have hlb:=iF b.al b.nx
 have hta:=O6 (al:=a.al) p.1 p.2 hc0 hc6
 have htb:=O6 (al:=b.al) q.1 q.2 hc0 hc6
 rw [List.drop_drop] at hta htb
 have hprod:(a.nx.length:Int) * b.nx.length ≤ 144:=by
  have h1:(a.nx.length:Int) * b.nx.length ≤ 12 * b.nx.length:=Int.mul_le_mul_of_nonneg_right (by omega) (by omega)
  omega
 have hx1:=hx.2
 have hin:=z6 ga gb
 have hm0:0 ≤ goI a.al a.nx (x.tdiv b.nx.length) c * b.nx.length:=Int.mul_nonneg ga.1 (by omega)
 have hb0:¬ (b.nx.length:Int) = 0:=by omega
 unfold nxT tabP
 have d1:(x.tdiv b.nx.length).toNat * 6 ≤ a.nx.length * 6:=by omega
 have d2:(x.tmod b.nx.length).toNat * 6 ≤ b.nx.length * 6:=by omega
 have d3:c.toNat < a.nx.length * 6 - (x.tdiv b.nx.length).toNat * 6:=by omega
 have d4:c.toNat < b.nx.length * 6 - (x.tmod b.nx.length).toNat * 6:=by omega
 generalize goI a.al a.nx (x.tdiv b.nx.length) c = g1 at *
 generalize goI b.al b.nx (x.tmod b.nx.length) c = g2 at *
 obtain ⟨x0,x1⟩:=hx
 obtain ⟨p0,p1⟩:=p
 obtain ⟨q0,q1⟩:=q
 have xs:x ≤ 144:=by omega
 have hl1:((List.length [g1 * (b.nx.length:Int) + g2])) = 1:=rfl
 clear ha hb sa sb wa wb x1
 obtain _ | n:=n; omega
 simp -implicitDefEqProofs (maxSteps:=2000000) (disch:=try exact Dz) only [↓DN,↓kAsg,↓kRet,UP,simprocAttr,hla,hlb,hta,htb,p0,p1,q0,q1,List.length_drop,List.drop_drop,hl1,LD,xB,Tryz.f118]
theorem aHc {R:Type} {L n id:Nat} {hq:H} {k:KA R} (hn:1 ≤ n) {a b:Aut} (ha:AOK a) (hb:AOK b) (x c:Int) (o:List Int) (hx:inP a b x) (hc0:0 ≤ c) (hc6:c < 6) (ho:o.length ≤ 2147483648) (hid:hq[id]? = some (.arr (ints o) 1 0)) :
  aS env (aA env L n) hq 118 (nI x :: nI c :: .sl id 0 0 o.length :: [tabP a,.iptr [.int .i64 b.nx.length],tabP b].map A.d) k
  = k (.sl id (nxT a b x c).length 0 (o ++ nxT a b x c).length) (hq.set id (.arr (ints (o ++ nxT a b x c)) 1 (nxT a b x c).length)):=by
 refine IE hid (by simp [idsL,idsA]) F7 ?_
 have hpl:aJ [id] id = some 0:=by simp [aJ]
 simp only [List.map_cons,List.map_nil,aM,mapA,hpl]
 exact LF hn ha hb hx hc0 hc6 o ho
theorem aM0:dJ env.P 87 = some false:=kr
theorem LQ (hn:2 ≤ n) {a b:Aut} {f:Bool → Bool → Bool} {go:FuncId} (hm:(env.hint go).mode = 0) (kc_o:∀ (x y:Bool) {R:Type} {n:Nat} {hq:H} {k:KA R},1 ≤ n → aS env (aA env L n) hq go [.d (.bool x),.d (.bool y)] k = k (.d (.bool (f x y))) hq) (ha:AOK a) (hb:AOK b) {x:Int} (hx:inP a b x) :
  aA env L n 120 [nI x,.d (.iptr [.fn go []]),.d (autP a),.d (.iptr [.int .i64 b.nx.length]),.d (autP b)] [] = some (.d (.bool (glT f a b x)),[]):=by
 obtain ⟨sa,wa,a1,a2,a3⟩:=bD ha
 obtain ⟨sb,wb,b1,b2,b3⟩:=bD hb
 obtain ⟨p,q⟩:=wD (na:=a.nx.length) (nb:=b.nx.length) (by omega) hx.1 hx.2
 have hprod:(a.nx.length:Int) * b.nx.length ≤ 144:=by
  have h1:(a.nx.length:Int) * b.nx.length ≤ 12 * b.nx.length:=Int.mul_le_mul_of_nonneg_right (by omega) (by omega)
  omega
 have hb0:¬ (b.nx.length:Int) = 0:=by omega
 have e1:(x.tdiv b.nx.length).toNat < a.ac.length:=by omega
 have e2:(x.tmod b.nx.length).toNat < b.ac.length:=by omega
 have e3:x.tdiv b.nx.length < (a.ac.length:Int):=by omega
 have e4:x.tmod b.nx.length < (b.ac.length:Int):=by omega
 obtain ⟨x0,x1⟩:=hx
 obtain ⟨p0,p1⟩:=p
 obtain ⟨q0,q1⟩:=q
 have xs:x ≤ 144:=by omega
 have kc_p:=fun {R:Type} {n:Nat} {hq:H} {k:KA R} (hn:1 ≤ n) => kc_o (a.ac.getD (x.tdiv b.nx.length).toNat false) (b.ac.getD (x.tmod b.nx.length).toNat false) (R:=R) (n:=n) (hq:=hq) (k:=k) hn
 unfold glT autP
 clear ha hb sa sb wa wb x1 kc_o
 obtain _ | n:=n; omega
 simp -implicitDefEqProofs (maxSteps:=2000000) (disch:=try exact Dz) only [↓DN,↓kAsg,↓kRet,UP,simprocAttr,LA,aM0,hm,p0,e3,q0,e4,e1,e2,↓kc_p,LP,xZ,Tryz.f120]
theorem aHB {hq:H} {k:KA R} (hn:2 ≤ n) {a b:Aut} {f:Bool → Bool → Bool} {go:FuncId} (hm:(env.hint go).mode = 0) (kc_o:∀ (x y:Bool) {R:Type} {n:Nat} {hq:H} {k:KA R},1 ≤ n → aS env (aA env L n) hq go [.d (.bool x),.d (.bool y)] k = k (.d (.bool (f x y))) hq) (ha:AOK a) (hb:AOK b) (x:Int) (hx:inP a b x) :
  aS env (aA env L n) hq 120 (nI x :: [.iptr [.fn go []],autP a,.iptr [.int .i64 b.nx.length],autP b].map A.d) k = k (.d (.bool (glT f a b x))) hq :=
 cP rfl (LQ hn hm kc_o ha hb hx) rfl (.inl rfl)
theorem SD {L:Nat} {a b:A} {id g o len f1 f2:Nat} {c1 c2:List A}:KV L 119 [a,.sl id g o len,b,.clo f1 c1,.clo f2 c2]:=fun _ _ _ _ => dM lQ
theorem aMZ {v:Int}:ints [v] = [.int .i64 v]:=rfl
theorem RZ (hn:8 ≤ n) (hL:2 ^ 60 ≤ L) {a b:Aut} {f:Bool → Bool → Bool} {go:FuncId} (hm:(env.hint go).mode = 0) (kc_o:∀ (x y:Bool) {R:Type} {n:Nat} {hq:H} {k:KA R},1 ≤ n → aS env (aA env L n) hq go [.d (.bool x),.d (.bool y)] k = k (.d (.bool (f x y))) hq) (ha:AOK a) (hb:AOK b) {i j:Int} (hi:0 ≤ i ∧ i < a.nx.length) (hj:0 ≤ j ∧ j < b.nx.length) :
  aA env L n 77 [.agg [nI a.al,.d (.ivs a.nx.length (rowsD a.nx)),.d (.ivs a.ac.length (bools a.ac))],.agg [nI b.al,.d (.ivs b.nx.length (rowsD b.nx)),.d (.ivs b.ac.length (bools b.ac))],nI i,nI j,.d (.fn go [])] [] = some (.tup [.d (.str (txt (twoG f a b i j).1)),.d (.bool (twoG f a b i j).2)],[]):=by
 obtain ⟨sa,wa,a1,a2,a3⟩:=bD ha
 obtain ⟨sb,wb,b1,b2,b3⟩:=bD hb
 have hprod:(a.nx.length:Int) * b.nx.length ≤ 144:=by
  have h1:(a.nx.length:Int) * b.nx.length ≤ 12 * b.nx.length:=Int.mul_le_mul_of_nonneg_right (by omega) (by omega)
  omega
 have hprodN:a.nx.length * b.nx.length ≤ 144:=by
  have:=hprod; rw [← Int.natCast_mul] at this; omega
 have hin:=z6 hi hj
 have hp:=fun {n:Nat} (hn:7 ≤ n) => @GP L n hn hL (inP a b) (glT f a b) 118 120 [tabP a,.iptr [.int .i64 b.nx.length],tabP b] [.iptr [.fn go []],autP a,.iptr [.int .i64 b.nx.length],autP b] (a.nx.length * b.nx.length) (nxT a b) (aB a.al) [i * b.nx.length + j]
  (fun {R n id hq k} x c o h4 hI h0 h6 ho hid => aHc (by omega) ha hb x c o hI h0 h6 ho hid)
  (fun {R n hq k} x h2 hI => aHB h2 hm kc_o ha hb x hI)
  (fun x hI => by rw [Int.natCast_mul]; exact hI) (by omega) (fun x hx => by simp at hx; subst hx; exact hin) (fun x c hI h0 h6 y hy => PD ha hb hI.1 hI.2 ⟨h0,h6⟩ y hy) (fun x c => by simp [nxT]) bZ (b6 a.al) (by simp) (by
   have:0 < (a.nx.length:Int) * b.nx.length:=Int.mul_pos (by omega) (by omega)
   rw [← Int.natCast_mul] at this
   simp only [List.length_cons,List.length_nil]; omega)
 have kl_p:=fun {R:Type} {n:Nat} {k:A → Option R} (hn:7 ≤ n) => gF (k:=k) (hp (n:=n) hn) rfl
 have er:y9 (nxT a b) (glT f a b) (aB a.al) [i * b.nx.length + j] (a.nx.length * b.nx.length) = twoG f a b i j:=rfl
 rw [er] at kl_p
 simp only [aMZ,List.length_cons,List.length_nil,Nat.zero_add,Int.natCast_mul,tabP,autP] at kl_p
 have hi2:0 ≤ i * (b.nx.length:Int):=Int.mul_nonneg hi.1 (by omega)
 obtain ⟨i0,i1⟩:=hi
 obtain ⟨j0,j1⟩:=hj
 obtain ⟨n0,n1⟩:=hin
 have hm0:0 ≤ (a.nx.length:Int) * b.nx.length:=by omega
 have hla:=iF a.al a.nx
 have hlb:=iF b.al b.nx
 clear hp kc_o ha hb er
 generalize twoG f a b i j = r at *
 obtain _ | n:=n; omega
 simp -implicitDefEqProofs (maxSteps:=2000000) (disch:=try exact Dz) only [↓DN,↓kAsg,↓kRet,UP,simprocAttr,↓BD,↓iL,↓SD,↓kl_p,T7,D8,Tryz.f77]
def GN (a:Aut) (i j:Int):Bool:=bR a.al a.nx a.ac && (decide (0 ≤ i) && decide (i < a.nx.length)) && (decide (0 ≤ j) && decide (j < a.nx.length))
def gN (a:Aut) (i j:Int):List Int × Bool:=if GN a i j = true then twoG (fun x y => x != y) a a i j else ([],false)
theorem LM (hn:1 ≤ n) (x y:Bool):aA env L n 109 [.d (.bool x),.d (.bool y)] [] = some (.d (.bool (x != y)),[]):=by
 obtain _ | n:=n; omega
 simp -implicitDefEqProofs (maxSteps:=2000000) (disch:=try exact Dz) only [↓DN,↓kAsg,↓kRet,UP,simprocAttr,LC,x7,Tryz.f109]
 all_goals (cases x <;> cases y <;> rfl)
theorem K8 {hq:H} {k:KA R} (hn:1 ≤ n) (x y:Bool):aS env (aA env L n) hq 109 [.d (.bool x),.d (.bool y)] k = k (.d (.bool (x != y))) hq :=
 cP rfl (LM hn x y) rfl (.inl rfl)
theorem AS (hn:9 ≤ n) (a:Aut) (i j:Int) (hs:aT a.nx) (hac:a.ac.length ≤ 4294967296) (hL:2 ^ 60 ≤ L):aA env L n 70 [.agg [nI a.al,.d (.ivs a.nx.length (rowsD a.nx)),.d (.ivs a.ac.length (bools a.ac))],nI i,nI j] [] = some (.tup [.d (.str (txt (gN a i j).1)),.d (.bool (gN a i j).2)],[]):=by
 have hrl:=hs.1
 unfold gN GN
 cases hv:bR a.al a.nx a.ac with
 | false =>
  simp only [Bool.false_and,Bool.false_eq_true,if_false,txt,List.map_nil]
  obtain _ | n:=n; omega
  simp -implicitDefEqProofs (maxSteps:=2000000) (disch:=try exact Dz) only [↓DN,↓kAsg,↓kRet,UP,simprocAttr,↓aX,hv,gC,fN,Tryz.f70]
 | true =>
  by_cases h1:0 ≤ i
  ·by_cases h2:i < a.nx.length
   ·by_cases h3:0 ≤ j
    ·by_cases h4:j < a.nx.length
     ·simp only [h1,h2,h3,h4,decide_true,Bool.and_self,if_true]
      have kl_b:=fun {R:Type} {n:Nat} {k:A → Option R} (hn:8 ≤ n) => gF (call:=aA env L n) (k:=k) (f:=77) (@RZ L n hn hL a a (fun x y => x != y) 109 FX (fun x y {R n hq k} hn => K8 hn x y) hv hv i j ⟨h1,h2⟩ ⟨h3,h4⟩) rfl
      have kv_l:=fun {R:Type} {n:Nat} {hq:H} {args:List A} {k:KA R} => dM (E:=env) (call:=aA env L n) (h:=hq) (k:=k) (args:=args) MB
      generalize twoG (fun x y => x != y) a a i j = r at *
      have g1:¬ i < 0:=by omega
      have g2:¬ (a.nx.length:Int) ≤ i:=by omega
      have g3:¬ j < 0:=by omega
      have g4:¬ (a.nx.length:Int) ≤ j:=by omega
      obtain _ | n:=n; omega
      simp -implicitDefEqProofs (maxSteps:=2000000) (disch:=try exact Dz) only [↓DN,↓kAsg,↓kRet,UP,simprocAttr,↓aX,hv,g1,g2,g3,g4,↓kv_l,↓kl_b,gC,fN,Tryz.f70]
     ·simp only [h1,h2,h3,h4,decide_true,decide_false,Bool.and_self,Bool.and_false,Bool.false_eq_true,if_false,txt,List.map_nil]
      have g1:¬ i < 0:=by omega
      have g2:¬ (a.nx.length:Int) ≤ i:=by omega
      have g3:¬ j < 0:=by omega
      have g4:(a.nx.length:Int) ≤ j:=by omega
      obtain _ | n:=n; omega
      simp -implicitDefEqProofs (maxSteps:=2000000) (disch:=try exact Dz) only [↓DN,↓kAsg,↓kRet,UP,simprocAttr,↓aX,hv,g1,g2,g3,g4,gC,fN,Tryz.f70]
    ·simp only [h1,h2,h3,decide_true,decide_false,Bool.and_self,Bool.and_false,Bool.false_and,Bool.false_eq_true,if_false,txt,List.map_nil]
     have g1:¬ i < 0:=by omega
     have g2:¬ (a.nx.length:Int) ≤ i:=by omega
     have g3:j < 0:=by omega
     obtain _ | n:=n; omega
     simp -implicitDefEqProofs (maxSteps:=2000000) (disch:=try exact Dz) only [↓DN,↓kAsg,↓kRet,UP,simprocAttr,↓aX,hv,g1,g2,g3,gC,fN,Tryz.f70]
   ·simp only [h1,h2,decide_true,decide_false,Bool.and_false,Bool.false_and,Bool.false_eq_true,if_false,txt,List.map_nil]
    have g1:¬ i < 0:=by omega
    have g2:(a.nx.length:Int) ≤ i:=by omega
    obtain _ | n:=n; omega
    simp -implicitDefEqProofs (maxSteps:=2000000) (disch:=try exact Dz) only [↓DN,↓kAsg,↓kRet,UP,simprocAttr,↓aX,hv,g1,g2,gC,fN,Tryz.f70]
  ·simp only [h1,decide_false,Bool.and_false,Bool.false_and,Bool.false_eq_true,if_false,txt,List.map_nil]
   have g1:i < 0:=by omega
   obtain _ | n:=n; omega
   simp -implicitDefEqProofs (maxSteps:=2000000) (disch:=try exact Dz) only [↓DN,↓kAsg,↓kRet,UP,simprocAttr,↓aX,hv,g1,gC,fN,Tryz.f70]
theorem SL:type_of% fun {L} a i j hs hac hL => ks fun hn => @AS L _ hn a i j hs hac hL:=fun {L} a i j hs hac hL => ks fun hn => @AS L _ hn a i j hs hac hL
theorem NK (hn:1 ≤ n) (al:Int) (rs:List (List Int)) (z:Nat) (cs:List D) (hrl:rs.length ≤ 4294967296) (i:Int):aA env L n 126 [.agg [nI al,.d (.ivs rs.length (rowsD rs)),.d (.ivs z cs)],nI i] [] = some (.d (.bool (decide (0 ≤ i) && decide (i < rs.length))),[]):=by
 by_cases h1:0 ≤ i
 ·by_cases h2:i < rs.length
  ·simp only [h1,h2,decide_true,Bool.and_self]
   obtain _ | n:=n; omega
   simp -implicitDefEqProofs (maxSteps:=2000000) (disch:=try exact Dz) only [↓DN,↓kAsg,↓kRet,UP,simprocAttr,h1,h2,BZ,wK,Tryz.f126]
  ·simp only [h1,h2,decide_true,decide_false,Bool.and_false]
   obtain _ | n:=n; omega
   simp -implicitDefEqProofs (maxSteps:=2000000) (disch:=try exact Dz) only [↓DN,↓kAsg,↓kRet,UP,simprocAttr,h1,h2,BZ,wK,Tryz.f126]
 ·simp only [h1,decide_false,Bool.false_and]
  obtain _ | n:=n; omega
  simp -implicitDefEqProofs (maxSteps:=2000000) (disch:=try exact Dz) only [↓DN,↓kAsg,↓kRet,UP,simprocAttr,h1,BZ,wK,Tryz.f126]
theorem nO:type_of% fun {L} al rs z cs hrl i => ks fun hn => @NK L _ hn al rs z cs hrl i:=fun {L} al rs z cs hrl i => ks fun hn => @NK L _ hn al rs z cs hrl i
theorem CI (hn:12 ≤ n) (a:Aut) (i j:Int) (hs:aT a.nx) (hac:a.ac.length ≤ 4294967296) (hL:2 ^ 60 ≤ L):aA env L n 86 [.agg [nI a.al,.d (.ivs a.nx.length (rowsD a.nx)),.d (.ivs a.ac.length (bools a.ac))],nI i,nI j] [] = some (.tup [.d (.str (txt (gN a i j).1)),.d (.bool (gN a i j).2)],[]):=by
 have hrl:=hs.1
 unfold gN GN
 cases hv:bR a.al a.nx a.ac with
 | false =>
  simp only [Bool.false_and,Bool.false_eq_true,if_false,txt,List.map_nil]
  obtain _ | n:=n; omega
  simp -implicitDefEqProofs (maxSteps:=2000000) (disch:=try exact Dz) only [↓DN,↓kAsg,↓kRet,UP,simprocAttr,↓bA,hv,lL,jO,Tryz.f86]
 | true =>
  by_cases h1:0 ≤ i ∧ i < a.nx.length
  ·by_cases h3:0 ≤ j ∧ j < a.nx.length
   ·obtain ⟨h1,h2⟩:=h1
    obtain ⟨h3,h4⟩:=h3
    simp only [h1,h2,h3,h4,decide_true,Bool.and_self,if_true]
    have kc_b:=fun {R:Type} {n:Nat} {k:A → Option R} (hn:11 ≤ n) => gF (call:=aA env L n) (k:=k) (f:=127) (@aCd L n hn hL a a i j 1 hv hv rfl ⟨h1,h2⟩ ⟨h3,h4⟩ (.inl rfl)) rfl
    simp only [if_true,eY,ints,List.map_cons,List.map_nil] at kc_b
    have kl_b:=fun {R:Type} {n:Nat} {k:A → Option R} (hn:11 ≤ n) => kc_b (R:=R) (n:=n) (k:=k) hn
    have kv_l:=fun {R:Type} {n:Nat} {hq:H} {args:List A} {k:KA R} => dM (E:=env) (call:=aA env L n) (h:=hq) (k:=k) (args:=args) HH
    clear kc_b
    generalize twoG (fun x y => x != y) a a i j = r at *
    obtain _ | n:=n; omega
    simp -implicitDefEqProofs (maxSteps:=2000000) (disch:=try exact Dz) only [↓DN,↓kAsg,↓kRet,UP,simprocAttr,↓bA,↓nO,hv,h1,h2,h3,h4,↓kv_l,↓kl_b,lL,jO,Tryz.f86]
   ·have e3:(decide (0 ≤ j) && decide (j < a.nx.length)) = false:=by
     rw [Bool.and_eq_false_iff,decide_eq_false_iff_not,decide_eq_false_iff_not]; omega
    obtain ⟨h1,h2⟩:=h1
    simp only [h1,h2,e3,decide_true,Bool.and_self,Bool.and_false,Bool.false_eq_true,if_false,txt,List.map_nil]
    obtain _ | n:=n; omega
    simp -implicitDefEqProofs (maxSteps:=2000000) (disch:=try exact Dz) only [↓DN,↓kAsg,↓kRet,UP,simprocAttr,↓bA,↓nO,hv,h1,h2,e3,lL,jO,Tryz.f86]
  ·have e3:(decide (0 ≤ i) && decide (i < a.nx.length)) = false:=by
    rw [Bool.and_eq_false_iff,decide_eq_false_iff_not,decide_eq_false_iff_not]; omega
   simp only [e3,Bool.and_false,Bool.false_and,Bool.false_eq_true,if_false,txt,List.map_nil]
   obtain _ | n:=n; omega
   simp -implicitDefEqProofs (maxSteps:=2000000) (disch:=try exact Dz) only [↓DN,↓kAsg,↓kRet,UP,simprocAttr,↓bA,↓nO,hv,e3,lL,jO,Tryz.f86]
theorem SY:type_of% fun {L} a i j hs hac hL => ks fun hn => @CI L _ hn a i j hs hac hL:=fun {L} a i j hs hac hL => ks fun hn => @CI L _ hn a i j hs hac hL
end
section
variable {R:Type} {L n:Nat}
def nxS (a:Aut) (v l:Int):List Int:=[goI a.al a.nx v l]
def glS (st v:Int):Bool:=decide (v = st)
def inS (a:Aut) (x:Int):Prop:=0 ≤ x ∧ x < (a.nx.length:Int)
def oneG (a:Aut) (st:Int):List Int × Bool:=y9 (nxS a) (glS st) (aB a.al) [0] a.nx.length
def accG (a:Aut) (st:Int):List Int × Bool:=if bR a.al a.nx a.ac = true then oneG a st else ([],false)
theorem G1 {a:Aut} (ha:AOK a) {v c:Int} (h0:0 ≤ v) (h1:v < (a.nx.length:Int)) (hc:0 ≤ c ∧ c < 6):∀ m ∈ nxS a v c,0 ≤ m ∧ m < (a.nx.length:Int):=by
 intro m hm
 simp only [nxS,List.mem_singleton] at hm
 subst hm
 exact kE ha h0 h1 hc.1 hc.2
theorem zX {a:Aut} (ha:AOK a) (st:Int):zL (Hits (nxS a) (aB a.al) [0] (glS st)) (oneG a st):=by
 obtain ⟨_,_,h1,_,_⟩:=bD ha
 refine YZ (jX _) (fun p c h0 h1 hc => ?_) (fun n hn => ?_) (by simp)
 ·have:=bZ c hc
  exact G1 ha h0 h1 (by omega)
 ·simp only [List.mem_singleton] at hn
  omega
theorem aBw {a:Aut} (ha:AOK a):∀ (w:List Int) (v u:Int),0 ≤ v → v < (a.nx.length:Int) → Path (nxS a) (aB a.al) v w u → 0 ≤ u ∧ u < (a.nx.length:Int)
 | [],v,u,h0,h1,h => by simp only [Path] at h; subst h; exact ⟨h0,h1⟩
 | l :: w,v,u,h0,h1,h => by
  simp only [Path] at h
  obtain ⟨hl,m,hm,hp⟩:=h
  have:=bZ l hl
  have hr:=G1 ha h0 h1 ⟨this.1,by omega⟩ m hm
  exact aBw ha w m u hr.1 hr.2 hp
theorem aMc {a:Aut} (ha:AOK a) {st:Int} (h:¬ (0 ≤ st ∧ st < (a.nx.length:Int))):oneG a st = ([],false):=by
 obtain ⟨_,_,h1,_,_⟩:=bD ha
 rcases zX ha st with ⟨_,⟨u,⟨s,hs,hp⟩,hg⟩,_⟩ | ⟨he,_⟩
 ·simp only [List.mem_singleton] at hs
  subst hs
  have:=aBw ha _ _ _ (by omega) (by omega) hp
  simp only [glS,decide_eq_true_eq] at hg
  subst hg
  exact absurd this h
 ·exact he
theorem aMl {v:Int}:ints [v] = [.int .i64 v]:=rfl
theorem PN (hn:1 ≤ n) {a:Aut} (ha:AOK a) {x c:Int} (hx:inS a x) (hc0:0 ≤ c) (hc6:c < 6) (o:List Int) (ho:o.length ≤ 2147483648) :
  aA env L n 134 [nI x,nI c,.sl 0 0 0 o.length,.d (tabP a)] [.arr (ints o) 1 0] = some (.sl 0 (nxS a x c).length 0 (o ++ nxS a x c).length,[.arr (ints (o ++ nxS a x c)) 1 (nxS a x c).length]):=by
 obtain ⟨sa,wa,a1,a2,a3⟩:=bD ha
 have ga:=kE ha hx.1 hx.2 hc0 hc6
 have hla:=iF a.al a.nx
 have hta:=O6 (al:=a.al) hx.1 hx.2 hc0 hc6
 rw [List.drop_drop] at hta
 unfold nxS tabP
 obtain ⟨x0,x1⟩:=hx
 have d1:x.toNat * 6 ≤ a.nx.length * 6:=by omega
 have d3:c.toNat < a.nx.length * 6 - x.toNat * 6:=by omega
 generalize goI a.al a.nx x c = g1 at *
 have hl1:(List.length [g1]) = 1:=rfl
 clear ha sa wa
 obtain _ | n:=n; omega
 simp -implicitDefEqProofs (maxSteps:=2000000) (disch:=try exact Dz) only [↓DN,↓kAsg,↓kRet,UP,simprocAttr,hla,hta,x0,x1,List.length_drop,List.drop_drop,hl1,PM,BC,Tryz.f134]
theorem aGv {R:Type} {L n id:Nat} {hq:H} {k:KA R} (hn:1 ≤ n) {a:Aut} (ha:AOK a) (x c:Int) (o:List Int) (hx:inS a x) (hc0:0 ≤ c) (hc6:c < 6) (ho:o.length ≤ 2147483648) (hid:hq[id]? = some (.arr (ints o) 1 0)) :
  aS env (aA env L n) hq 134 (nI x :: nI c :: .sl id 0 0 o.length :: [tabP a].map A.d) k
  = k (.sl id (nxS a x c).length 0 (o ++ nxS a x c).length) (hq.set id (.arr (ints (o ++ nxS a x c)) 1 (nxS a x c).length)):=by
 refine IE hid (by simp [idsL,idsA]) K5 ?_
 have hpl:aJ [id] id = some 0:=by simp [aJ]
 simp only [List.map_cons,List.map_nil,aM,mapA,hpl]
 exact PN hn ha hx hc0 hc6 o ho
theorem ML (hn:1 ≤ n) (x st:Int):aA env L n 106 [nI x,.d (.iptr [.int .i64 st])] [] = some (.d (.bool (glS st x)),[]):=by
 unfold glS
 by_cases h:x = st
 ·subst h
  obtain _ | n:=n; omega
  simp -implicitDefEqProofs (maxSteps:=2000000) (disch:=try exact Dz) only [↓DN,↓kAsg,↓kRet,UP,simprocAttr,x2,pZ,Tryz.f106]
 ·have h2:(x == st) = false:=by simpa using h
  have h3:decide (x = st) = false:=by simpa using h
  obtain _ | n:=n; omega
  simp -implicitDefEqProofs (maxSteps:=2000000) (disch:=try exact Dz) only [↓DN,↓kAsg,↓kRet,UP,simprocAttr,h3,x2,pZ,Tryz.f106]
theorem Z5 (hn:8 ≤ n) (hL:2 ^ 60 ≤ L) {a:Aut} (ha:AOK a) (st:Int) :
  aA env L n 105 [.agg [nI a.al,.d (.ivs a.nx.length (rowsD a.nx)),.d (.ivs a.ac.length (bools a.ac))],.d (.fn 106 [.iptr [.int .i64 st]])] [] = some (.tup [.d (.str (txt (oneG a st).1)),.d (.bool (oneG a st).2)],[]):=by
 obtain ⟨sa,wa,a1,a2,a3⟩:=bD ha
 have hp:=fun {n:Nat} (hn:7 ≤ n) => @GP L n hn hL (inS a) (glS st) 134 106 [tabP a] [.iptr [.int .i64 st]] a.nx.length (nxS a) (aB a.al) [0]
  (fun {R n id hq k} x c o h4 hI h0 h6 ho hid => aGv (by omega) ha x c o hI h0 h6 ho hid)
  (fun {R n hq k} x h2 hI => cP rfl (ML (by omega) x st) rfl (.inl rfl))
  (fun x hI => hI) (by omega) (fun x hx => by simp at hx; subst hx; exact ⟨by omega,by omega⟩) (fun x c hI h0 h6 y hy => G1 ha hI.1 hI.2 ⟨h0,h6⟩ y hy) (fun x c => by simp [nxS]) bZ (b6 a.al) (by simp) (by simp only [List.length_cons,List.length_nil]; omega)
 have kl_p:=fun {R:Type} {n:Nat} {k:A → Option R} (hn:7 ≤ n) => gF (k:=k) (hp (n:=n) hn) rfl
 have er:y9 (nxS a) (glS st) (aB a.al) [0] a.nx.length = oneG a st:=rfl
 rw [er] at kl_p
 simp only [aMl,List.length_cons,List.length_nil,Nat.zero_add,tabP] at kl_p
 have hla:=iF a.al a.nx
 have kv_l:=fun {R:Type} {n:Nat} {hq:H} {args:List A} {k:KA R} => dM (E:=env) (call:=aA env L n) (h:=hq) (k:=k) (args:=args) lQ
 clear hp ha er
 generalize oneG a st = r at *
 obtain _ | n:=n; omega
 simp -implicitDefEqProofs (maxSteps:=2000000) (disch:=try exact Dz) only [↓DN,↓kAsg,↓kRet,UP,simprocAttr,↓BD,↓iL,↓kv_l,↓kl_p,ZT,KZ,Tryz.f105]
theorem D1 (hn:9 ≤ n) (a:Aut) (st:Int) (hs:aT a.nx) (hac:a.ac.length ≤ 4294967296) (hL:2 ^ 60 ≤ L):aA env L n 68 [.agg [nI a.al,.d (.ivs a.nx.length (rowsD a.nx)),.d (.ivs a.ac.length (bools a.ac))],nI st] [] = some (.tup [.d (.str (txt (accG a st).1)),.d (.bool (accG a st).2)],[]):=by
 have hrl:=hs.1
 unfold accG
 cases hv:bR a.al a.nx a.ac with
 | false =>
  simp only [Bool.false_eq_true,if_false,txt,List.map_nil]
  obtain _ | n:=n; omega
  simp -implicitDefEqProofs (maxSteps:=2000000) (disch:=try exact Dz) only [↓DN,↓kAsg,↓kRet,UP,simprocAttr,↓aX,hv,CX,wE,Tryz.f68]
 | true =>
  simp only [if_true]
  have kl_b:=fun {R:Type} {n:Nat} {k:A → Option R} (hn:8 ≤ n) => gF (call:=aA env L n) (k:=k) (f:=105) (@Z5 L n hn hL a hv st) rfl
  have kv_l:=fun {R:Type} {n:Nat} {hq:H} {args:List A} {k:KA R} => dM (E:=env) (call:=aA env L n) (h:=hq) (k:=k) (args:=args) ST
  generalize oneG a st = r at *
  obtain _ | n:=n; omega
  simp -implicitDefEqProofs (maxSteps:=2000000) (disch:=try exact Dz) only [↓DN,↓kAsg,↓kRet,UP,simprocAttr,↓aX,hv,↓kv_l,↓kl_b,CX,wE,Tryz.f68]
theorem UJ:type_of% fun {L} a st hs hac hL => ks fun hn => @D1 L _ hn a st hs hac hL:=fun {L} a st hs hac hL => ks fun hn => @D1 L _ hn a st hs hac hL
end
end Ev
end Go.Proofs.YtejmccgfigiadaaGreat
