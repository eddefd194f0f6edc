/-
  A search for a goal, walked: the word that was found, the bX.
-/
import Derived.Test.YtppdfjdfjfoddaaDoorPathY
import Derived.Test.YtppdfjdfjfoddaaDoorTwo
import Derived.Test.YtppdfjdfjfoddaaDoorAutH
set_option linter.unusedSimpArgs false
set_option linter.unusedVariables false
set_option maxRecDepth 8000
set_option maxHeartbeats 4000000
namespace Go.Proofs.YtppdfjdfjfoddaaDoor
namespace Ev
theorem aRP {l:List UInt8} {i j p:Nat} (hi:i < l.length) (hj:j < l.length):(swp l i j).getD p 0 = if p = j then l.getD i 0 else if p = i then l.getD j 0 else l.getD p 0:=by
 unfold swp
 simp only [List.getD_eq_getElem?_getD,List.getElem?_set,List.length_set]
 by_cases h1:p = j
 ·subst h1
  simp [hj]
 ·have h1':¬ j = p:=fun h => h1 h.symm
  by_cases h2:p = i
  ·subst h2
   simp [hi,h1,h1']
  ·have h2':¬ i = p:=fun h => h2 h.symm
   simp only [h1,h1',h2,h2',if_false]
theorem aIr:∀ (q:Nat) (i j:Int) (l:List UInt8),0 ≤ i → j < l.length → j - i ≤ q → ∀ p:Nat,p < l.length → (revG q i j l).2.2.getD p 0 = if i ≤ p ∧ (p:Int) ≤ j then l.getD (i + j - p).toNat 0 else l.getD p 0
 | 0,i,j,l,h0,h1,h2,p,hp => by
  unfold revG
  split
  ·rename_i h
   rw [show (i + j - p).toNat = p by omega]
  ·rfl
 | q + 1,i,j,l,h0,h1,h2,p,hp => by
  unfold revG
  split
  ·rename_i hlt
   have hg:=fun (x:Nat) => aRP (l:=l) (i:=i.toNat) (j:=j.toNat) (p:=x) (by omega) (by omega)
   rw [aIr q (i + 1) (j - 1) _ (by omega) (by rw [DT]; omega) (by omega) p (by rw [DT]; exact hp)]
   by_cases c1:i + 1 ≤ (p:Int) ∧ (p:Int) ≤ j - 1
   ·rw [if_pos c1,hg,if_neg (by omega:¬ (i + 1 + (j - 1) - (p:Int)).toNat = j.toNat),if_neg (by omega:¬ (i + 1 + (j - 1) - (p:Int)).toNat = i.toNat),if_pos (by omega:i ≤ (p:Int) ∧ (p:Int) ≤ j)]
    congr 1
    omega
   ·rw [if_neg c1,hg]
    by_cases c2:p = j.toNat
    ·rw [if_pos c2,if_pos (by omega:i ≤ (p:Int) ∧ (p:Int) ≤ j)]
     congr 1
     omega
    ·rw [if_neg c2]
     by_cases c3:p = i.toNat
     ·rw [if_pos c3,if_pos (by omega:i ≤ (p:Int) ∧ (p:Int) ≤ j)]
      congr 1
      omega
     ·rw [if_neg c3,if_neg (by omega:¬ (i ≤ (p:Int) ∧ (p:Int) ≤ j))]
  ·rename_i hlt
   split
   ·rename_i h
    rw [show (i + j - p).toNat = p by omega]
   ·rfl
theorem aPn (l:List UInt8):(revG (l.length + 1) 0 ((l.length:Int) - 1) l).2.2 = l.reverse:=by
 have hl:=(aDa (l.length + 1) 0 ((l.length:Int) - 1) l (Int.le_refl _) (by omega)).1
 apply List.ext_getElem
 ·rw [hl,List.length_reverse]
 ·intro p h1 h2
  rw [hl] at h1
  have:=aIr (l.length + 1) 0 ((l.length:Int) - 1) l (Int.le_refl _) (by omega) (by omega) p h1
  rw [if_pos (by omega),List.getD_eq_getElem?_getD,List.getElem?_eq_getElem (by rw [hl]; exact h1),List.getD_eq_getElem?_getD,List.getElem?_eq_getElem (by omega)] at this
  simp only [Option.getD_some] at this
  rw [this,List.getElem_reverse]
  congr 1
  omega
theorem aEF {l:List PStep} {k:Nat} (h:k < l.length):(((dI l).drop (k * 3)).map A.d).head? = some (.d (.int .i64 (l.getD k default).par)):=by
 rw [E0,eS h (d:=default)]; rfl
theorem aNs {l:List PStep} {k:Nat} (h:k < l.length):(((dI l).drop (k * 3 + 1)).map A.d).head? = some (.d (.int .i64 (l.getD k default).lt)):=by
 rw [← List.drop_drop,E0,eS h (d:=default)]; rfl
def aGP (st:List PStep):Nat → Nat → Nat
 | 0,i => i
 | j + 1,i => if 0 ≤ (st.getD i default).par then aGP st j (st.getD i default).par.toNat else i
def Tree (st:List PStep):Prop:=∀ k,k < st.length → ((st.getD k default).par < (k:Int)) ∧ (0 ≤ (st.getD k default).lt ∧ (st.getD k default).lt ≤ 5)
theorem aFU (st:List PStep):∀ (j i:Nat),(lC st j i).length ≤ j
 | 0,i => Nat.le_refl _
 | j + 1,i => by
  unfold lC
  split
  ·have:=aFU st j (st.getD i default).par.toNat
   simp only [List.length_append,List.length_cons,List.length_nil]
   omega
  ·simp
theorem aC0 {R:Type} {L n:Nat} (hn:2 ≤ n) {st:List PStep} (ht:Tree st) (hs:st.length ≤ 16777216) {k:Exit → List A → H → Option R}:∀ (j i m:Nat) (o:List UInt8) (len:Nat) (hi:i < st.length) (hj:i < j) (hm:j ≤ m) (hlen:len = o.length) (ho:o.length + i ≤ 20000000),
  aO env (aA env L n) L 0 [0,0,0,2] (U1 (Z1 (U2 (U1 (Z16 (Z8 (Z2 (Z1 ([]))))))))) (tG 0) (Z1 (U1 (Z2 (Z1 (U16 (U8 (U2 (U1 ([]))))))))) m (.d (.ivs st.length (dI st)) :: Y1 (.d (.str []) :: .sl 0 0 0 len :: .d (.int .i64 ((i:Int))) :: Y16 (Y8 (Y2 (Y1 ([])))))) [.arr (bQ o) 1 0] k
  = k (.exit 0) (.d (.ivs st.length (dI st)) :: Y1 (.d (.str []) :: .sl 0 0 0 (o ++ (txt (lC st j i)).reverse).length :: .d (.int .i64 (((aGP st j i:Nat):Int))) :: Y16 (Y8 (Y2 (Y1 ([])))))) [.arr (bQ (o ++ (txt (lC st j i)).reverse)) 1 0]:=by
 intro j
 induction j with
 | zero => intro i m o len hi hj; omega
 | succ j ih =>
  intro i m o len hi hj hm hlen ho
  obtain _ | m:=m; omega
  subst hlen
  obtain ⟨t1,t2,t3⟩:=ht i hi
  have hc:(i:Int) < st.length:=by omega
  by_cases hp:0 ≤ (st.getD i default).par
  ·have ih':=ih (st.getD i default).par.toNat m (o ++ [pQ (st.getD i default).lt]) (o.length + 1) (by omega) (by omega) (by omega) (by simp) (by rw [List.length_append,List.length_singleton]; omega)
   rw [show (((st.getD i default).par.toNat:Nat):Int) = (st.getD i default).par by omega] at ih'
   have h5:(((st.getD i default).par.toNat:Nat):Int) = (st.getD i default).par:=by omega
   unfold lC aGP
   rw [if_pos hp,if_pos hp]
   clear ih
   have e:(txt (lC st j (st.getD i default).par.toNat ++ [(st.getD i default).lt])).reverse = [pQ (st.getD i default).lt] ++ (txt (lC st j (st.getD i default).par.toNat)).reverse:=by simp [txt]
   rw [e,← List.append_assoc]
   have g1:=aEF hi
   have g2:=aNs hi
   generalize st.getD i default = s at *
   rw [G0]
   simp only [DZ,Tryd.f93,SLM,simprocAttr]
   simp -implicitDefEqProofs (maxSteps:=2000000) (disch:=try exact Dz) only [↓DN,↓kAsg,↓kRet,UP,simprocAttr,PE,List.length_drop,List.drop_drop,hc,hp,t2,t3,g1,g2,Int.toNat_natCast,↓AK,QC,aI4,aR3,aSe,YK,qB,EW,O7,↓ih']
  ·unfold lC aGP
   rw [if_neg hp,if_neg hp]
   have g1:=aEF hi
   simp only [txt,List.map_nil,List.reverse_nil,List.append_nil]
   rw [G0]
   simp only [DZ,Tryd.f93,SLM,simprocAttr]
   simp -implicitDefEqProofs (maxSteps:=2000000) (disch:=try exact Dz) only [↓DN,↓kAsg,↓kRet,UP,simprocAttr,↓AK,PE,hc,hp,g1,Int.toNat_natCast]
theorem S2 {L n:Nat} (hn:3 ≤ n) (st:List PStep) (ht:Tree st) (hs:st.length ≤ 16777216) (h0:0 < st.length) (hL:2 ^ 60 ≤ L):aA env L n 93 [.d (.ivs st.length (dI st))] [] = some (.d (.str (N4 st)),[]):=by
 have loop_w:=fun {R:Type} {n:Nat} {k:Exit → List A → H → Option R} (hn:2 ≤ n) => @aC0 R L n hn st ht hs k st.length (st.length - 1) L [] 0 (by omega) (by omega) (by omega) rfl (by simp; omega)
 simp only [List.nil_append,aLx] at loop_w
 have hwl:=aFU st st.length (st.length - 1)
 have hb:(txt (lC st st.length (st.length - 1))).reverse.length ≤ 2147483648:=by simp [txt]; omega
 have hrr:(txt (lC st st.length (st.length - 1))).reverse.reverse = N4 st:=by rw [List.reverse_reverse]; rfl
 have hwlen:(txt (lC st st.length (st.length - 1))).reverse.length = (N4 st).length:=by simp [N4]
 generalize (txt (lC st st.length (st.length - 1))).reverse = w at *
 have e1:IntKind.i64.wrap ((st.length:Int) - 1) = ((st.length - 1:Nat):Int):=by
  rw [show (st.length:Int) - 1 = ((st.length - 1:Nat):Int) by omega]
  exact BS (by omega) (by omega)
 have kc_r:=fun {R:Type} {n id g:Nat} {hq:H} {k:A → H → Option R} (hn:1 ≤ n) (hi:hq[id]? = some (.arr (bQ w) 1 g)) => @aTi R L n id g hq k hn w hi hb hL
 have er:=aPn w
 rw [hrr] at er
 simp only [er] at kc_r
 simp only [hwlen] at kc_r
 simp only [hwlen] at loop_w
 have h1:(1:Int) ≤ st.length:=by omega
 obtain _ | n:=n; omega
 rw [aGp]
 simp only [XM,Tryd.f93,SLM,simprocAttr]
 simp -implicitDefEqProofs (maxSteps:=2000000) (disch:=try exact Dz) only [↓DN,↓kAsg,↓kRet,UP,simprocAttr,↓AK,PE,↓loop_w,e1,h1,↓kc_r,↓Q7]
theorem jM {R:Type} {L n:Nat} {hq:H} {k:A → H → Option R} (hn:3 ≤ n) (st:List PStep) (ht:Tree st) (hs:st.length ≤ 16777216) (h0:0 < st.length) (hL:2 ^ 60 ≤ L):aL env (aA env L n) hq 93 [.d (.ivs st.length (dI st))] k = k (.d (.str (N4 st))) hq :=
 a5 rfl (S2 hn st ht hs h0 hL) rfl (.inl rfl)
theorem iK {R:Type} {L n:Nat} {k:A → Option R} (hn:3 ≤ n) (st:List PStep) (ht:Tree st) (hs:st.length ≤ 16777216) (h0:0 < st.length) (hL:2 ^ 60 ≤ L):bL (aA env L n) 93 [.d (.ivs st.length (dI st))] k = k (.d (.str (N4 st))) :=
 fR (S2 hn st ht hs h0 hL) rfl
theorem gX {R:Type} {L n:Nat} {hq:H} {k:A → H → Option R} {id0 g0 o0 len0:Nat} :aL env (aA env L n) hq 93 [.sl id0 g0 o0 len0] k = match box (cZ hq [.sl id0 g0 o0 len0]) with
  | .mk (some fs) => bL (aA env L n) 93 fs fun r => k r hq
  | _ => none:=aW CC
theorem aGT {st:List PStep} {p l:Int} {f:List Int}:st.length ≤ (addP st p l f).length:=by unfold addP; split <;> simp
theorem aHi {st:List PStep} {i:Nat} {l:Int} {f:List Int} (ht:Tree st) (hi:i < st.length) (hl:0 ≤ l ∧ l ≤ 5):Tree (addP st i l f):=by
 unfold addP
 split
 ·exact ht
 ·intro k hk
  simp only [List.length_append,List.length_cons,List.length_nil] at hk
  by_cases h:k < st.length
  ·rw [pM h]; exact ht k h
  ·obtain rfl:k = st.length:=by omega
   rw [WU]
   exact ⟨by show (i:Int) < _; omega,hl⟩
theorem aKW {R:Type} {L n:Nat} (hn:5 ≤ n) (hL:2 ^ 60 ≤ L) {I:Int → Prop} {gl:Int → Bool} {nf gf:FuncId} {caps gcaps:List D} {size:Nat} {nx:Int → Int → List Int} {ls ns:List Int} {ii:Nat}
  (kc_n:∀ {R:Type} {n id:Nat} {hq:H} {k:A → H → Option R} (x c:Int) (o:List Int),4 ≤ n → I x → 0 ≤ c → c < 6 → o.length ≤ 2147483648 → hq[id]? = some (.arr (ints o) 1 0) → aL env (aA env L n) hq nf (.d (.int .i64 x) :: .d (.int .i64 c) :: .sl id 0 0 o.length :: caps.map A.d) k = k (.sl id (nx x c).length 0 (o ++ nx x c).length) (hq.set id (.arr (ints (o ++ nx x c)) 1 (nx x c).length)))
  (kc_g:∀ {R:Type} {n:Nat} {hq:H} {k:A → H → Option R} (x:Int),2 ≤ n → I x → aL env (aA env L n) hq gf (.d (.int .i64 x) :: gcaps.map A.d) k = k (.d (.bool (gl x))) hq)
  (hr:∀ x,I x → 0 ≤ x ∧ x < size) (hsz:size ≤ 16777216) (hI:∀ x ∈ ns,I x) (hx:∀ x c,I x → 0 ≤ c → c < 6 → ∀ y ∈ nx x c,I y) (hw:∀ x c,(nx x c).length ≤ 64) (hls:∀ c ∈ ls,0 ≤ c ∧ c ≤ 5) (hll:ls.length ≤ 6) (hnl:ns.length ≤ size) {k:Exit → List A → H → Option R}:∀ (j q m:Nat) (seen:List Bool) (st:List PStep) (sn:Nat) (hi:q + j = ls.length) (hm:j < m) (hg:PGood I size seen st) (htr:Tree st) (hii:ii < st.length) (hns:(st.getD ii default).ns = ns) (hsn:sn = st.length),
  aO env (aA env L n) L 0 [0,0,0,0,0,0,0,0,0,0,0,0,0,0,0,0,0,0,2] (Z2 (U2 (Z4 (Z2 (U2 (Z1 (U2 (U1 (Z1 (U2 (Z8 (Z4 (Z2 (U2 (U1 (Z4 (Z2 (Z1 (U2 (U1 (Z16 (Z1 ([]))))))))))))))))))))))) (e6 1) (U2 (Z2 (U4 (U2 (Z2 (U1 (Z2 (Z1 (U16 (U1 (Z2 (Z1 (U16 (U8 (U2 (U1 ([]))))))))))))))))) m (Y2 (.d (.ivs ls.length (ints ls)) :: .d (.fn nf caps) :: Y4 (Y2 (.d (.str []) :: .d (.bool false) :: Y1 (.ptr 0 0 0 :: .clo 92 [.ptr 1 0 0,.ptr 2 0 0,.ptr 0 0 0] :: .d (.int .i64 ((ii:Int))) :: Y16 (Y1 (.d (.ivs ls.length (ints ls)) :: .d (.int .i64 (ls.length)) :: .d (.int .i64 ((q:Int))) :: Y16 (Y8 (Y2 (Y1 ([]))))))))))) [.box [.sl 3 0 0 sn],.box [.sl 4 0 0 size],.box [.d (.fn gf gcaps)],.arr (dI st) 3 0,.arr (fB seen) 1 0] k
  = if (ltG nx gl ns ii (ls.drop q) (seen,st)).1 = true then
    k .ret (Y2 (.d (.ivs ls.length (ints ls)) :: .d (.fn nf caps) :: Y4 (Y2 (.d (.str ((N4 (ltG nx gl ns ii (ls.drop q) (seen,st)).2.2))) :: .d (.bool true) :: Y1 (.ptr 0 0 0 :: .clo 92 [.ptr 1 0 0,.ptr 2 0 0,.ptr 0 0 0] :: .d (.int .i64 ((ii:Int))) :: Y16 (Y1 (.d (.ivs ls.length (ints ls)) :: .d (.int .i64 (ls.length)) :: .d (.int .i64 (((q + ltI nx gl ns ii (ls.drop q) (seen,st):Nat):Int))) :: Y16 (Y8 (Y2 (Y1 ([]))))))))))) [.box [.sl 3 0 0 (ltG nx gl ns ii (ls.drop q) (seen,st)).2.2.length],.box [.sl 4 0 0 size],.box [.d (.fn gf gcaps)],.arr (dI (ltG nx gl ns ii (ls.drop q) (seen,st)).2.2) 3 0,.arr (fB (ltG nx gl ns ii (ls.drop q) (seen,st)).2.1) 1 0]
   else k (.exit 2) (Y2 (.d (.ivs ls.length (ints ls)) :: .d (.fn nf caps) :: Y4 (Y2 (.d (.str []) :: .d (.bool false) :: Y1 (.ptr 0 0 0 :: .clo 92 [.ptr 1 0 0,.ptr 2 0 0,.ptr 0 0 0] :: .d (.int .i64 ((ii:Int))) :: Y16 (Y1 (.d (.ivs ls.length (ints ls)) :: .d (.int .i64 (ls.length)) :: .d (.int .i64 (ls.length)) :: Y16 (Y8 (Y2 (Y1 ([]))))))))))) [.box [.sl 3 0 0 (ltG nx gl ns ii (ls.drop q) (seen,st)).2.2.length],.box [.sl 4 0 0 size],.box [.d (.fn gf gcaps)],.arr (dI (ltG nx gl ns ii (ls.drop q) (seen,st)).2.2) 3 0,.arr (fB (ltG nx gl ns ii (ls.drop q) (seen,st)).2.1) 1 0]:=by
 intro j
 induction j with
 | zero =>
  intro q m seen st sn hi hm hg htr hii hns hsn
  obtain _ | m:=m; omega
  obtain rfl:q = ls.length:=by omega
  subst hsn
  rw [uN]
  simp only [uA,Tryd.f73,SLM,simprocAttr]
  simp -implicitDefEqProofs (maxSteps:=2000000) (disch:=try exact Dz) only [↓DN,↓kAsg,↓kRet,UP,simprocAttr,↓jM,↓iK,↓gX,PE,Int.lt_irrefl]
  simp only [List.drop_length,ltG,Bool.false_eq_true,if_false]
 | succ j ih =>
  intro q m seen st sn hi hm hg htr hii hns hsn
  obtain _ | m:=m; omega
  subst hsn
  have hc:(q:Int) < ls.length:=by omega
  have hk:q < ls.length:=by omega
  have hmem:ls.getD q 0 ∈ ls:=by rw [List.getD_eq_getElem?_getD,List.getElem?_eq_getElem hk]; exact List.getElem_mem hk
  obtain ⟨c0,c5⟩:=hls _ hmem
  have c6:ls.getD q 0 < 6:=by omega
  have hiI:(ii:Int) < st.length:=by omega
  have hroom:=hg.room
  have hstl:st.length ≤ 4294967290:=by omega
  rw [eS hk (d:=0)]
  have hI2:∀ y ∈ flat nx ns (ls.getD q 0),I y:=by
   intro y hy
   obtain ⟨x,h1,h2⟩:=List.mem_flatMap.1 hy
   exact hx x (ls.getD q 0) (hI x h1) c0 c6 y h2
  have hfl:=aIf (c:=ls.getD q 0) hw ns
  have hfl2:(flat nx ns (ls.getD q 0)).length ≤ 4294967290:=by omega
  obtain ⟨g1,g2,g3⟩:=O2 (gl:=gl) hg hI2 hr (ii:Int) (ls.getD q 0)
  have htr2:Tree (addP st ii (ls.getD q 0) (visG gl (flat nx ns (ls.getD q 0)) seen [] false).2.1):=aHi htr hii ⟨c0,c5⟩
  have hlen2:=aGT (st:=st) (p:=(ii:Int)) (l:=ls.getD q 0) (f:=(visG gl (flat nx ns (ls.getD q 0)) seen [] false).2.1)
  have ih':=ih (q + 1) m (visG gl (flat nx ns (ls.getD q 0)) seen [] false).1 (addP st ii (ls.getD q 0) (visG gl (flat nx ns (ls.getD q 0)) seen [] false).2.1) _ (by omega) (by omega) g1 htr2 (by omega) (by rw [aPp hii]; exact hns) rfl
  have e4:((q + 1:Nat):Int) = (q:Int) + 1:=by omega
  rw [e4] at ih'
  have loop_c:=fun {R:Type} {n:Nat} (hn:4 ≤ n) {k:Exit → List A → H → Option R} => @aKZ R L n hn hL I nf caps (.fn gf gcaps) size nx ls ns (dI st) seen st.length ii q (ls.getD q 0) (fun {R n id hq k} => kc_n) hI hw c0 c6 (by omega) k ns.length 0 L [] 0 (by omega) (by omega) (by simp) rfl
  simp only [List.drop_zero,List.nil_append,vQ,Int.natCast_zero] at loop_c
  have kc_v:=fun {R:Type} {n:Nat} {k:A → H → Option R} (hn:4 ≤ n) => @aSu R L n k hn hL I gl gf gcaps size (ii:Int) (ls.getD q 0) (flat nx ns (ls.getD q 0)) (fun {R n hq k} => kc_g) hI2 hr (by omega) hfl2 seen hg.len st hstl
  have hroom2:=g1.room
  have kl_w:=fun {R:Type} {n:Nat} {k:A → Option R} (hn:3 ≤ n) => @iK R L n k hn _ htr2 (by omega) (by omega) hL
  simp only [ltG,ltI]
  clear ih hmem g1 g2 g3 hg hI hI2 hx hw hls hr kc_n kc_g hroom2
  generalize flat nx ns (ls.getD q 0) = fm at *
  generalize visG gl fm seen [] false = v at *
  obtain ⟨v1,v2,v3⟩:=v
  simp only at ih' kc_v kl_w ⊢
  cases v3 with
  | true =>
   rw [uN]
   simp only [uA,Tryd.f73,SLM,simprocAttr]
   simp -implicitDefEqProofs (maxSteps:=2000000) (disch:=try exact Dz) only [↓DN,↓kAsg,↓kRet,UP,simprocAttr,↓jM,↓iK,↓gX,PE,hc,hiI,hns,Int.toNat_natCast,↓loop_c,↓kc_v,↓kl_w]
  | false =>
   simp only [Bool.false_eq_true,if_false]
   generalize ltI nx gl ns (ii:Int) (ls.drop (q + 1)) (v1,addP st ii (ls.getD q 0) v2) = T at *
   rw [show q + (T + 1) = q + 1 + T by omega]
   rw [uN]
   simp only [uA,Tryd.f73,SLM,simprocAttr]
   simp -implicitDefEqProofs (maxSteps:=2000000) (disch:=try exact Dz) only [↓DN,↓kAsg,↓kRet,UP,simprocAttr,↓jM,↓iK,↓gX,PE,hc,hiI,hns,Int.toNat_natCast,↓loop_c,↓kc_v,↓ih']
theorem VQ {nx:Int → Int → List Int} {gl:Int → Bool} {ns:List Int} {i:Nat}:∀ (ls:List Int) (hls:∀ c ∈ ls,0 ≤ c ∧ c ≤ 5) (seen:List Bool) (st:List PStep),Tree st → i < st.length → Tree (ltG nx gl ns i ls (seen,st)).2.2
 | [],_,_,_,h,_ => h
 | l :: ls,hls,seen,st,h,hi => by
  have h2:Tree (addP st i l (visG gl (flat nx ns l) seen [] false).2.1):=aHi h hi (hls l List.mem_cons_self)
  unfold ltG
  split
  ·exact h2
  ·exact VQ ls (fun c hc => hls c (List.mem_cons_of_mem _ hc)) _ _ h2 (Nat.lt_of_lt_of_le hi aGT)
theorem aLr {R:Type} {L n:Nat} (hn:6 ≤ n) (hL:2 ^ 60 ≤ L) {I:Int → Prop} {gl:Int → Bool} {nf gf:FuncId} {caps gcaps:List D} {size:Nat} {nx:Int → Int → List Int} {ls:List Int}
  (kc_n:∀ {R:Type} {n id:Nat} {hq:H} {k:A → H → Option R} (x c:Int) (o:List Int),4 ≤ n → I x → 0 ≤ c → c < 6 → o.length ≤ 2147483648 → hq[id]? = some (.arr (ints o) 1 0) → aL env (aA env L n) hq nf (.d (.int .i64 x) :: .d (.int .i64 c) :: .sl id 0 0 o.length :: caps.map A.d) k = k (.sl id (nx x c).length 0 (o ++ nx x c).length) (hq.set id (.arr (ints (o ++ nx x c)) 1 (nx x c).length)))
  (kc_g:∀ {R:Type} {n:Nat} {hq:H} {k:A → H → Option R} (x:Int),2 ≤ n → I x → aL env (aA env L n) hq gf (.d (.int .i64 x) :: gcaps.map A.d) k = k (.d (.bool (gl x))) hq)
  (hr:∀ x,I x → 0 ≤ x ∧ x < size) (hsz:size ≤ 16777216) (hx:∀ x c,I x → 0 ≤ c → c < 6 → ∀ y ∈ nx x c,I y) (hw:∀ x c,(nx x c).length ≤ 64) (hls:∀ c ∈ ls,0 ≤ c ∧ c ≤ 5) (hll:ls.length ≤ 6) {k:Exit → List A → H → Option R}:∀ (j i m:Nat) (seen:List Bool) (st:List PStep) (sn:Nat) (hi:st.length + lU seen ≤ i + j) (hi2:i ≤ st.length) (hm:j < m) (hg:PGood I size seen st) (htr:Tree st) (hsn:sn = st.length),
  aO env (aA env L n) L 0 [0,0,0,0,0,0,0,0,0,0,0,0,0,0,0,0,0,0,2] (Z2 (U2 (Z4 (Z2 (U2 (Z1 (U2 (U1 (Z1 (U2 (Z8 (Z4 (Z2 (U2 (U1 (Z4 (Z2 (Z1 (U2 (U1 (Z16 (Z1 ([]))))))))))))))))))))))) (e6 0) (U2 (Z2 (U4 (U2 (Z2 (U1 (Z2 (Z1 (U32 (U8 (U4 (U2 (U1 ([])))))))))))))) m (Y2 (.d (.ivs ls.length (ints ls)) :: .d (.fn nf caps) :: Y4 (Y2 (.d (.str []) :: .d (.bool false) :: Y1 (.ptr 0 0 0 :: .clo 92 [.ptr 1 0 0,.ptr 2 0 0,.ptr 0 0 0] :: .d (.int .i64 ((i:Int))) :: Y32 (Y8 (Y4 (Y2 (Y1 ([])))))))))) [.box [.sl 3 0 0 sn],.box [.sl 4 0 0 size],.box [.d (.fn gf gcaps)],.arr (dI st) 3 0,.arr (fB seen) 1 0] k
  = if (outG nx gl ls j i (seen,st)).1 = true then
    k .ret (Y2 (.d (.ivs ls.length (ints ls)) :: .d (.fn nf caps) :: Y4 (Y2 (.d (.str ((N4 (outG nx gl ls j i (seen,st)).2.2))) :: .d (.bool true) :: Y1 (.ptr 0 0 0 :: .clo 92 [.ptr 1 0 0,.ptr 2 0 0,.ptr 0 0 0] :: .d (.int .i64 (((outI nx gl ls j i (seen,st):Nat):Int))) :: Y32 (Y8 (Y4 (Y2 (Y1 ([])))))))))) [.box [.sl 3 0 0 (outG nx gl ls j i (seen,st)).2.2.length],.box [.sl 4 0 0 size],.box [.d (.fn gf gcaps)],.arr (dI (outG nx gl ls j i (seen,st)).2.2) 3 0,.arr (fB (outG nx gl ls j i (seen,st)).2.1) 1 0]
   else k (.exit 0) (Y2 (.d (.ivs ls.length (ints ls)) :: .d (.fn nf caps) :: Y4 (Y2 (.d (.str []) :: .d (.bool false) :: Y1 (.ptr 0 0 0 :: .clo 92 [.ptr 1 0 0,.ptr 2 0 0,.ptr 0 0 0] :: .d (.int .i64 (((outI nx gl ls j i (seen,st):Nat):Int))) :: Y32 (Y8 (Y4 (Y2 (Y1 ([])))))))))) [.box [.sl 3 0 0 (outG nx gl ls j i (seen,st)).2.2.length],.box [.sl 4 0 0 size],.box [.d (.fn gf gcaps)],.arr (dI (outG nx gl ls j i (seen,st)).2.2) 3 0,.arr (fB (outG nx gl ls j i (seen,st)).2.1) 1 0]:=by
 intro j
 induction j with
 | zero =>
  intro i m seen st sn hi hi2 hm hg htr hsn
  obtain _ | m:=m; omega
  obtain rfl:i = st.length:=by omega
  subst hsn
  simp only [outG,outI,Bool.false_eq_true,if_false]
  rw [qK]
  simp only [qJ,Tryd.f73,SLM,simprocAttr]
  simp -implicitDefEqProofs (maxSteps:=2000000) (disch:=try exact Dz) only [↓DN,↓kAsg,↓kRet,UP,simprocAttr,↓jM,↓iK,↓gX,PE,Int.lt_irrefl]
 | succ j ih =>
  intro i m seen st sn hi hi2 hm hg htr hsn
  obtain _ | m:=m; omega
  subst hsn
  by_cases hc:i < st.length
  ·have hci:(i:Int) < st.length:=by omega
   have hroom:=hg.room
   have hmem:st.getD i default ∈ st:=by rw [List.getD_eq_getElem?_getD,List.getElem?_eq_getElem hc]; exact List.getElem_mem hc
   have hI:=hg.node _ hmem
   have hnl:=hg.wide _ hmem
   obtain ⟨k1,k2,k3⟩:=S3 (gl:=gl) (nx:=nx) (p:=(i:Int)) hr hI ls (seen,st) (fun x c h1 h2 => hx x c h1 (hls c h2).1 (by have:=(hls c h2).2; omega)) hg
   have ktr:=VQ (gl:=gl) (nx:=nx) (ns:=(st.getD i default).ns) ls hls seen st htr hc
   have loop_b:=fun {R:Type} {n:Nat} (hn:5 ≤ n) {k:Exit → List A → H → Option R} => @aKW R L n hn hL I gl nf gf caps gcaps size nx ls (st.getD i default).ns i (fun {R n id hq k} => kc_n) (fun {R n hq k} => kc_g) hr hsz hI hx hw hls hll hnl k ls.length 0 L seen st st.length (by omega) (by omega) hg htr hc rfl rfl
   simp only [List.drop_zero,Int.natCast_zero,Nat.zero_add] at loop_b
   have ih':=ih (i + 1) m (ltG nx gl (st.getD i default).ns i ls (seen,st)).2.1 (ltG nx gl (st.getD i default).ns i ls (seen,st)).2.2 _ (by have:(ltG nx gl (st.getD i default).ns i ls (seen,st)).2.2.length + lU (ltG nx gl (st.getD i default).ns i ls (seen,st)).2.1 ≤ st.length + lU seen:=k2; omega) (by have:st.length ≤ (ltG nx gl (st.getD i default).ns i ls (seen,st)).2.2.length:=k3; omega) (by omega) k1 ktr rfl
   have e4:((i + 1:Nat):Int) = (i:Int) + 1:=by omega
   rw [e4] at ih'
   simp only [outG,outI,hc,if_true]
   clear ih hmem k1 k2 k3 ktr hg hI hx hw hls hr kc_n kc_g hnl
   generalize ltI nx gl (st.getD i default).ns (i:Int) ls (seen,st) = T at *
   generalize ltG nx gl (st.getD i default).ns (i:Int) ls (seen,st) = w at *
   obtain ⟨w0,w1,w2⟩:=w
   simp only at ih' loop_b ⊢
   have hll3:ls.length ≤ 4294967290:=by omega
   cases w0 with
   | true =>
    simp only [if_true] at loop_b
    rw [qK]
    simp only [qJ,Tryd.f73,SLM,simprocAttr]
    simp -implicitDefEqProofs (maxSteps:=2000000) (disch:=try exact Dz) only [↓DN,↓kAsg,↓kRet,UP,simprocAttr,↓jM,↓iK,↓gX,PE,hci,Int.toNat_natCast,↓loop_b]
   | false =>
    simp only [Bool.false_eq_true,if_false] at loop_b ⊢
    rw [qK]
    simp only [qJ,Tryd.f73,SLM,simprocAttr]
    simp -implicitDefEqProofs (maxSteps:=2000000) (disch:=try exact Dz) only [↓DN,↓kAsg,↓kRet,UP,simprocAttr,↓jM,↓iK,↓gX,PE,hci,Int.toNat_natCast,↓loop_b,↓ih']
  ·obtain rfl:i = st.length:=by omega
   simp only [outG,outI,hc,Bool.false_eq_true,if_false]
   rw [qK]
   simp only [qJ,Tryd.f73,SLM,simprocAttr]
   simp -implicitDefEqProofs (maxSteps:=2000000) (disch:=try exact Dz) only [↓DN,↓kAsg,↓kRet,UP,simprocAttr,↓jM,↓iK,↓gX,PE,Int.lt_irrefl]
theorem RS {n:Int} {h:H} (h0:0 ≤ n) (h1:n ≤ 4294967296):lT env.P h 24 n n = some (.sl h.length 0 0 n.toNat,h ++ [.arr (fB (List.replicate n.toNat false)) 1 0]):=by
 have hm:n ≤ (b5:Nat):=by unfold b5; omega
 have he:bH env.P 24 = some 4:=by kernel_rfl
 have hz:bS env.P 4 = some (.d (.bool false)):=by kernel_rfl
 have hok:bO env.P 4 = true:=by kernel_rfl
 have hc:env.P.cellsOf 4 = 1:=by kernel_rfl
 simp only [lT,he,hz,aR,AF,Option.map_some,hok,h0,hm,hc,Int.le_refl,and_self,if_true,fB,List.map_replicate,List.flatten_replicate_singleton]
theorem aEj {L n:Nat} (hn:7 ≤ n) (hL:2 ^ 60 ≤ L) {I:Int → Prop} {gl:Int → Bool} {nf gf:FuncId} {caps gcaps:List D} {size:Nat} {nx:Int → Int → List Int} {ls ns:List Int}
  (kc_n:∀ {R:Type} {n id:Nat} {hq:H} {k:A → H → Option R} (x c:Int) (o:List Int),4 ≤ n → I x → 0 ≤ c → c < 6 → o.length ≤ 2147483648 → hq[id]? = some (.arr (ints o) 1 0) → aL env (aA env L n) hq nf (.d (.int .i64 x) :: .d (.int .i64 c) :: .sl id 0 0 o.length :: caps.map A.d) k = k (.sl id (nx x c).length 0 (o ++ nx x c).length) (hq.set id (.arr (ints (o ++ nx x c)) 1 (nx x c).length)))
  (kc_g:∀ {R:Type} {n:Nat} {hq:H} {k:A → H → Option R} (x:Int),2 ≤ n → I x → aL env (aA env L n) hq gf (.d (.int .i64 x) :: gcaps.map A.d) k = k (.d (.bool (gl x))) hq)
  (hr:∀ x,I x → 0 ≤ x ∧ x < size) (hsz:size ≤ 16777216) (hI:∀ x ∈ ns,I x) (hx:∀ x c,I x → 0 ≤ c → c < 6 → ∀ y ∈ nx x c,I y) (hw:∀ x c,(nx x c).length ≤ 64) (hls:∀ c ∈ ls,0 ≤ c ∧ c ≤ 5) (hll:ls.length ≤ 6) (hne:ns ≠ []) (hnl:ns.length ≤ size) :
  aA env L n 73 [.d (.int .i64 size),.d (.ivs ns.length (ints ns)),.d (.ivs ls.length (ints ls)),.d (.fn nf caps),.d (.fn gf gcaps)] [] = some (.tup [.d (.str (txt (RQ nx gl ls ns size).1)),.d (.bool (RQ nx gl ls ns size).2)],[]):=by
 have hs0:(0:Int) ≤ size:=by omega
 have hs1:(size:Int) ≤ 4294967296:=by omega
 have kc_v:=fun {R:Type} {n:Nat} {k:A → H → Option R} {p l:Int} (hn:4 ≤ n) => @aSd R L n k hn hL I gl gf gcaps size p l ns (fun {R n hq k} => kc_g) hI hr (by omega) (by omega) hne
 have hu:lU (List.replicate size false) = size:=by simp [lU]
 have hg0:PGood I size (List.replicate size false) []:=⟨by simp,by simp,by rw [hu]; simp,by simp⟩
 obtain ⟨g1,g2,g3⟩:=O2 (gl:=gl) hg0 hI hr (-1) 0
 have hpos:=aHZ (size:=size) hne
 rw [← (BB gl ns (List.replicate size false) [] false).2] at hpos
 unfold RQ
 generalize visG gl ns (List.replicate size false) [] false = r at *
 obtain ⟨r0,r1,r2⟩:=r
 simp only at g1 g2 g3 hpos kc_v ⊢
 have ha:addP [] (-1) 0 r1 = [⟨-1,0,r1⟩]:=by
  unfold addP
  rw [if_neg (List.length_pos_iff.1 hpos)]; rfl
 rw [ha] at g1 g2
 have htr:Tree [⟨-1,0,r1⟩]:=by
  intro k hk
  obtain rfl:k = 0:=by simpa using hk
  exact ⟨by show (-1:Int) < _; omega,by show (0:Int) ≤ 0 ∧ (0:Int) ≤ 5; decide⟩
 have loop_a:=fun {R:Type} {n:Nat} (hn:6 ≤ n) {k:Exit → List A → H → Option R} => @aLr R L n hn hL I gl nf gf caps gcaps size nx ls (fun {R n id hq k} => kc_n) (fun {R n hq k} => kc_g) hr hsz hx hw hls hll k (size + 1) 0 L r0 [⟨-1,0,r1⟩] 1 (by rw [hu] at g2; simp only [List.length_nil,Nat.zero_add] at g2; omega) (by simp) (by omega) g1 htr rfl
 simp only [Int.natCast_zero] at loop_a
 have ee:(dI [⟨-1,0,r1⟩]) = [.int .i64 (-1),.int .i64 0,.ivs r1.length (ints r1)]:=rfl
 rw [ha]
 clear g1 g2 g3 hg0 hI hx hw hls hr kc_n kc_g htr
 cases r2 with
 | true =>
  obtain _ | n:=n; omega
  rw [DV]
  simp only [yN,Tryd.f73,SLM,simprocAttr]
  simp -implicitDefEqProofs (maxSteps:=2000000) (disch:=try exact Dz) only [↓DN,↓kAsg,↓kRet,UP,simprocAttr,↓jM,↓iK,↓gX,PE,↓RS,Int.toNat_natCast,↓kc_v]
  rfl
 | false =>
  simp only [Bool.false_eq_true,if_false]
  generalize outI nx gl ls (size + 1) 0 (r0,[⟨-1,0,r1⟩]) = T at *
  generalize outG nx gl ls (size + 1) 0 (r0,[⟨-1,0,r1⟩]) = w at *
  obtain ⟨w0,w1,w2⟩:=w
  simp only at loop_a ⊢
  cases w0 with
  | true =>
   simp only [if_true] at loop_a ⊢
   obtain _ | n:=n; omega
   rw [DV]
   simp only [yN,Tryd.f73,SLM,simprocAttr]
   simp -implicitDefEqProofs (maxSteps:=2000000) (disch:=try exact Dz) only [↓DN,↓kAsg,↓kRet,UP,simprocAttr,↓jM,↓iK,↓gX,PE,↓RS,Int.toNat_natCast,↓kc_v,↓loop_a]
   rfl
  | false =>
   simp only [Bool.false_eq_true,if_false] at loop_a ⊢
   obtain _ | n:=n; omega
   rw [DV]
   simp only [yN,Tryd.f73,SLM,simprocAttr]
   simp -implicitDefEqProofs (maxSteps:=2000000) (disch:=try exact Dz) only [↓DN,↓kAsg,↓kRet,UP,simprocAttr,↓jM,↓iK,↓gX,PE,↓RS,Int.toNat_natCast,↓kc_v,↓loop_a]
   rfl
theorem dU {a:Aut} (h:AOK a):bA a.nx ∧ pF (aD a.al).length a.nx ∧ 1 ≤ a.nx.length ∧ a.nx.length ≤ 12 ∧ a.ac.length = a.nx.length:=by
 obtain ⟨a1,a2,a3,a4⟩:=z4 h
 have aw:=AV h
 exact ⟨⟨by omega,fun r hr => by have:=aw r hr; have:=eZ a.al; omega⟩,aw,a1,a2,a3⟩
def tabP (a:Aut):D:=.iptr [.ivs a.nx.length (ints (xR a.al a.nx))]
def autP (a:Aut):D:=.iptr [.int .i64 a.al,.ivs a.nx.length (aJ a.nx),.ivs a.ac.length (aK a.ac)]
def inP (a b:Aut) (x:Int):Prop:=0 ≤ x ∧ x < (a.nx.length:Int) * b.nx.length
theorem UX {L n:Nat} (hn:1 ≤ n) {a b:Aut} (ha:AOK a) (hb:AOK b) {x c:Int} (hx:inP a b x) (hc0:0 ≤ c) (hc6:c < 6) (o:List Int) (ho:o.length ≤ 2147483648) :
  aA env L n 72 [.d (.int .i64 x),.d (.int .i64 c),.sl 0 0 0 o.length,.d (tabP a),.d (.iptr [.int .i64 b.nx.length]),.d (tabP b)] [.arr (ints o) 1 0] = some (.sl 0 (nxT a b x c).length 0 (o ++ nxT a b x c).length,[.arr (ints (o ++ nxT a b x c)) 1 (nxT a b x c).length]):=by
 obtain ⟨sa,wa,a1,a2,a3⟩:=dU ha
 obtain ⟨sb,wb,b1,b2,b3⟩:=dU hb
 obtain ⟨p,q⟩:=D9 (na:=a.nx.length) (nb:=b.nx.length) (by omega) hx.1 hx.2
 have ga:=wM ha p.1 p.2 hc0 hc6
 have gb:=wM hb q.1 q.2 hc0 hc6
 have hla:=wC a.al a.nx
 have hlb:=wC b.al b.nx
 have hta:=aKi (al:=a.al) p.1 p.2 hc0 hc6
 have htb:=aKi (al:=b.al) q.1 q.2 hc0 hc6
 rw [List.drop_drop] at hta htb
 have hprod:(a.nx.length:Int) * b.nx.length ≤ 144:=by
  have h1:(a.nx.length:Int) * b.nx.length ≤ 12 * b.nx.length:=Int.mul_le_mul_of_nonneg_right (by omega) (by omega)
  omega
 have hx1:=hx.2
 have hin:=IV ga gb
 have hm0:0 ≤ goI a.al a.nx (x.tdiv b.nx.length) c * b.nx.length:=Int.mul_nonneg ga.1 (by omega)
 have hb0:¬ (b.nx.length:Int) = 0:=by omega
 unfold nxT tabP
 have d1:(x.tdiv b.nx.length).toNat * 6 ≤ a.nx.length * 6:=by omega
 have d2:(x.tmod b.nx.length).toNat * 6 ≤ b.nx.length * 6:=by omega
 have d3:c.toNat < a.nx.length * 6 - (x.tdiv b.nx.length).toNat * 6:=by omega
 have d4:c.toNat < b.nx.length * 6 - (x.tmod b.nx.length).toNat * 6:=by omega
 generalize goI a.al a.nx (x.tdiv b.nx.length) c = g1 at *
 generalize goI b.al b.nx (x.tmod b.nx.length) c = g2 at *
 obtain ⟨x0,x1⟩:=hx
 obtain ⟨p0,p1⟩:=p
 obtain ⟨q0,q1⟩:=q
 have xs:x ≤ 144:=by omega
 have hl1:((List.length [g1 * (b.nx.length:Int) + g2])) = 1:=rfl
 clear ha hb sa sb wa wb x1
 obtain _ | n:=n; omega
 rw [UM]
 simp only [FF,Tryd.f72,SLM,simprocAttr]
 simp -implicitDefEqProofs (maxSteps:=2000000) (disch:=try exact Dz) only [↓DN,↓kAsg,↓kRet,UP,simprocAttr,hla,hlb,hta,htb,hb0,p0,p1,q0,q1,d1,d2,d3,d4,u_t6,u_a6,c_a6,aCc,Int.toNat_natCast,List.length_drop,List.drop_drop,c8,iN,List.length_append,hl1]
theorem aLy {R:Type} {L n id:Nat} {hq:H} {k:A → H → Option R} (hn:1 ≤ n) {a b:Aut} (ha:AOK a) (hb:AOK b) (x c:Int) (o:List Int) (hx:inP a b x) (hc0:0 ≤ c) (hc6:c < 6) (ho:o.length ≤ 2147483648) (hid:hq[id]? = some (.arr (ints o) 1 0)) :
  aL env (aA env L n) hq 72 (.d (.int .i64 x) :: .d (.int .i64 c) :: .sl id 0 0 o.length :: [tabP a,.iptr [.int .i64 b.nx.length],tabP b].map A.d) k
  = k (.sl id (nxT a b x c).length 0 (o ++ nxT a b x c).length) (hq.set id (.arr (ints (o ++ nxT a b x c)) 1 (nxT a b x c).length)):=by
 refine aLn hid (by simp [idsL,idsA]) sC ?_
 have hpl:aI [id] id = some 0:=by simp [aI]
 simp only [List.map_cons,List.map_nil,aG,mapA,hpl]
 exact UX hn ha hb hx hc0 hc6 o ho
theorem aTt:bU env.P 68 = some false:=by kernel_rfl
theorem UU {L n:Nat} (hn:2 ≤ n) {a b:Aut} {f:Bool → Bool → Bool} {go:FuncId} (hm:(env.hint go).mode = 0) (kc_o:∀ (x y:Bool) {R:Type} {n:Nat} {hq:H} {k:A → H → Option R},1 ≤ n → aL env (aA env L n) hq go [.d (.bool x),.d (.bool y)] k = k (.d (.bool (f x y))) hq) (ha:AOK a) (hb:AOK b) {x:Int} (hx:inP a b x) :
  aA env L n 74 [.d (.int .i64 x),.d (.iptr [.fn go []]),.d (autP a),.d (.iptr [.int .i64 b.nx.length]),.d (autP b)] [] = some (.d (.bool (glT f a b x)),[]):=by
 obtain ⟨sa,wa,a1,a2,a3⟩:=dU ha
 obtain ⟨sb,wb,b1,b2,b3⟩:=dU hb
 obtain ⟨p,q⟩:=D9 (na:=a.nx.length) (nb:=b.nx.length) (by omega) hx.1 hx.2
 have hprod:(a.nx.length:Int) * b.nx.length ≤ 144:=by
  have h1:(a.nx.length:Int) * b.nx.length ≤ 12 * b.nx.length:=Int.mul_le_mul_of_nonneg_right (by omega) (by omega)
  omega
 have hb0:¬ (b.nx.length:Int) = 0:=by omega
 have e1:(x.tdiv b.nx.length).toNat < a.ac.length:=by omega
 have e2:(x.tmod b.nx.length).toNat < b.ac.length:=by omega
 have e3:x.tdiv b.nx.length < (a.ac.length:Int):=by omega
 have e4:x.tmod b.nx.length < (b.ac.length:Int):=by omega
 obtain ⟨x0,x1⟩:=hx
 obtain ⟨p0,p1⟩:=p
 obtain ⟨q0,q1⟩:=q
 have xs:x ≤ 144:=by omega
 have kc_p:=fun {R:Type} {n:Nat} {hq:H} {k:A → H → Option R} (hn:1 ≤ n) => kc_o (a.ac.getD (x.tdiv b.nx.length).toNat false) (b.ac.getD (x.tmod b.nx.length).toNat false) (R:=R) (n:=n) (hq:=hq) (k:=k) hn
 unfold glT autP
 clear ha hb sa sb wa wb x1 kc_o
 obtain _ | n:=n; omega
 rw [UY]
 simp only [F6,Tryd.f74,SLM,simprocAttr]
 simp -implicitDefEqProofs (maxSteps:=2000000) (disch:=try exact Dz) only [↓DN,↓kAsg,↓kRet,UP,simprocAttr,LA,aTt,hm,hb0,p0,e3,q0,e4,e1,e2,↓kc_p,List.length_drop,List.drop_drop]
theorem aKM {R:Type} {L n:Nat} {hq:H} {k:A → H → Option R} (hn:2 ≤ n) {a b:Aut} {f:Bool → Bool → Bool} {go:FuncId} (hm:(env.hint go).mode = 0) (kc_o:∀ (x y:Bool) {R:Type} {n:Nat} {hq:H} {k:A → H → Option R},1 ≤ n → aL env (aA env L n) hq go [.d (.bool x),.d (.bool y)] k = k (.d (.bool (f x y))) hq) (ha:AOK a) (hb:AOK b) (x:Int) (hx:inP a b x) :
  aL env (aA env L n) hq 74 (.d (.int .i64 x) :: [.iptr [.fn go []],autP a,.iptr [.int .i64 b.nx.length],autP b].map A.d) k = k (.d (.bool (glT f a b x))) hq :=
 a5 rfl (UU hn hm kc_o ha hb hx) rfl (.inl rfl)
theorem aBm {R:Type} {L n:Nat} {hq:H} {k:A → H → Option R} {a b:A} {id g o len f1 f2:Nat} {c1 c2:List A}:aL env (aA env L n) hq 73 [a,.sl id g o len,b,.clo f1 c1,.clo f2 c2] k = match box (cZ hq [a,.sl id g o len,b,.clo f1 c1,.clo f2 c2]) with
  | .mk (some fs) => bL (aA env L n) 73 fs fun r => k r hq
  | _ => none:=aW zF
theorem aTv {v:Int}:ints [v] = [.int .i64 v]:=rfl
theorem aAR {L n:Nat} (hn:8 ≤ n) (hL:2 ^ 60 ≤ L) {a b:Aut} {f:Bool → Bool → Bool} {go:FuncId} (hm:(env.hint go).mode = 0) (kc_o:∀ (x y:Bool) {R:Type} {n:Nat} {hq:H} {k:A → H → Option R},1 ≤ n → aL env (aA env L n) hq go [.d (.bool x),.d (.bool y)] k = k (.d (.bool (f x y))) hq) (ha:AOK a) (hb:AOK b) {i j:Int} (hi:0 ≤ i ∧ i < a.nx.length) (hj:0 ≤ j ∧ j < b.nx.length) :
  aA env L n 52 [.agg [.d (.int .i64 a.al),.d (.ivs a.nx.length (aJ a.nx)),.d (.ivs a.ac.length (aK a.ac))],.agg [.d (.int .i64 b.al),.d (.ivs b.nx.length (aJ b.nx)),.d (.ivs b.ac.length (aK b.ac))],.d (.int .i64 i),.d (.int .i64 j),.d (.fn go [])] [] = some (.tup [.d (.str (txt (twoG f a b i j).1)),.d (.bool (twoG f a b i j).2)],[]):=by
 obtain ⟨sa,wa,a1,a2,a3⟩:=dU ha
 obtain ⟨sb,wb,b1,b2,b3⟩:=dU hb
 have hprod:(a.nx.length:Int) * b.nx.length ≤ 144:=by
  have h1:(a.nx.length:Int) * b.nx.length ≤ 12 * b.nx.length:=Int.mul_le_mul_of_nonneg_right (by omega) (by omega)
  omega
 have hprodN:a.nx.length * b.nx.length ≤ 144:=by
  have:=hprod; rw [← Int.natCast_mul] at this; omega
 have hin:=IV hi hj
 have hp:=fun {n:Nat} (hn:7 ≤ n) => @aEj L n hn hL (inP a b) (glT f a b) 72 74 [tabP a,.iptr [.int .i64 b.nx.length],tabP b] [.iptr [.fn go []],autP a,.iptr [.int .i64 b.nx.length],autP b] (a.nx.length * b.nx.length) (nxT a b) (aD a.al) [i * b.nx.length + j]
  (fun {R n id hq k} x c o h4 hI h0 h6 ho hid => aLy (by omega) ha hb x c o hI h0 h6 ho hid)
  (fun {R n hq k} x h2 hI => aKM h2 hm kc_o ha hb x hI)
  (fun x hI => by rw [Int.natCast_mul]; exact hI) (by omega) (fun x hx => by simp at hx; subst hx; exact hin) (fun x c hI h0 h6 y hy => YH ha hb hI.1 hI.2 ⟨h0,h6⟩ y hy) (fun x c => by simp [nxT]) lX (eZ a.al) (by simp) (by
   have:0 < (a.nx.length:Int) * b.nx.length:=Int.mul_pos (by omega) (by omega)
   rw [← Int.natCast_mul] at this
   simp only [List.length_cons,List.length_nil]; omega)
 have kl_p:=fun {R:Type} {n:Nat} {k:A → Option R} (hn:7 ≤ n) => fR (k:=k) (hp (n:=n) hn) rfl
 have er:RQ (nxT a b) (glT f a b) (aD a.al) [i * b.nx.length + j] (a.nx.length * b.nx.length) = twoG f a b i j:=rfl
 rw [er] at kl_p
 simp only [aTv,List.length_cons,List.length_nil,Nat.zero_add,Int.natCast_mul,tabP,autP] at kl_p
 have hi2:0 ≤ i * (b.nx.length:Int):=Int.mul_nonneg hi.1 (by omega)
 obtain ⟨i0,i1⟩:=hi
 obtain ⟨j0,j1⟩:=hj
 obtain ⟨n0,n1⟩:=hin
 have hm0:0 ≤ (a.nx.length:Int) * b.nx.length:=by omega
 have hla:=wC a.al a.nx
 have hlb:=wC b.al b.nx
 clear hp kc_o ha hb er
 generalize twoG f a b i j = r at *
 obtain _ | n:=n; omega
 rw [aBa]
 simp only [OU,Tryd.f52,SLM,simprocAttr]
 simp -implicitDefEqProofs (maxSteps:=2000000) (disch:=try exact Dz) only [↓DN,↓kAsg,↓kRet,UP,simprocAttr,↓aHH,↓b9,LA,sa,wa,sb,wb,↓aBm,↓kl_p,Int.toNat_natCast,dN,hla,hlb]
def PM (a:Aut) (i j:Int):Bool:=kM a.al a.nx a.ac && (decide (0 ≤ i) && decide (i < a.nx.length)) && (decide (0 ≤ j) && decide (j < a.nx.length))
def eI (a:Aut) (i j:Int):List Int × Bool:=if PM a i j = true then twoG (fun x y => x != y) a a i j else ([],false)
theorem UQ {L n:Nat} (hn:1 ≤ n) (x y:Bool):aA env L n 53 [.d (.bool x),.d (.bool y)] [] = some (.d (.bool (x != y)),[]):=by
 obtain _ | n:=n; omega
 rw [UO]
 simp only [FQ,Tryd.f53,SLM,simprocAttr]
 simp -implicitDefEqProofs (maxSteps:=2000000) (disch:=try exact Dz) only [↓DN,↓kAsg,↓kRet,UP,simprocAttr,A0]
 all_goals (cases x <;> cases y <;> rfl)
theorem iP {R:Type} {L n:Nat} {hq:H} {k:A → H → Option R} (hn:1 ≤ n) (x y:Bool):aL env (aA env L n) hq 53 [.d (.bool x),.d (.bool y)] k = k (.d (.bool (x != y))) hq :=
 a5 rfl (UQ hn x y) rfl (.inl rfl)
theorem L9 {L n:Nat} (hn:9 ≤ n) (a:Aut) (i j:Int) (hs:bA a.nx) (hac:a.ac.length ≤ 4294967296) (hL:2 ^ 60 ≤ L):aA env L n 22 [.agg [.d (.int .i64 a.al),.d (.ivs a.nx.length (aJ a.nx)),.d (.ivs a.ac.length (aK a.ac))],.d (.int .i64 i),.d (.int .i64 j)] [] = some (.tup [.d (.str (txt (eI a i j).1)),.d (.bool (eI a i j).2)],[]):=by
 have hrl:=hs.1
 unfold eI PM
 cases hv:kM a.al a.nx a.ac with
 | false =>
  simp only [Bool.false_and,Bool.false_eq_true,if_false,txt,List.map_nil]
  obtain _ | n:=n; omega
  rw [nD]
  simp only [lV,Tryd.f22,SLM,simprocAttr]
  simp -implicitDefEqProofs (maxSteps:=2000000) (disch:=try exact Dz) only [↓DN,↓kAsg,↓kRet,UP,simprocAttr,↓a7,↓iP,↓a6,↓aT,↓aU,↓aV,LA,hv]
 | true =>
  by_cases h1:0 ≤ i
  ·by_cases h2:i < a.nx.length
   ·by_cases h3:0 ≤ j
    ·by_cases h4:j < a.nx.length
     ·simp only [h1,h2,h3,h4,decide_true,Bool.and_self,if_true]
      have kl_b:=fun {R:Type} {n:Nat} {k:A → Option R} (hn:8 ≤ n) => fR (call:=aA env L n) (k:=k) (f:=52) (@aAR L n hn hL a a (fun x y => x != y) 53 rO (fun x y {R n hq k} hn => iP hn x y) hv hv i j ⟨h1,h2⟩ ⟨h3,h4⟩) rfl
      have kv_l:=fun {R:Type} {n:Nat} {hq:H} {args:List A} {k:A → H → Option R} => aW (E:=env) (call:=aA env L n) (h:=hq) (k:=k) (args:=args) uK
      generalize twoG (fun x y => x != y) a a i j = r at *
      have g1:¬ i < 0:=by omega
      have g2:¬ (a.nx.length:Int) ≤ i:=by omega
      have g3:¬ j < 0:=by omega
      have g4:¬ (a.nx.length:Int) ≤ j:=by omega
      obtain _ | n:=n; omega
      rw [nD]
      simp only [lV,Tryd.f22,SLM,simprocAttr]
      simp -implicitDefEqProofs (maxSteps:=2000000) (disch:=try exact Dz) only [↓DN,↓kAsg,↓kRet,UP,simprocAttr,↓a7,↓iP,↓a6,↓aT,↓aU,↓aV,LA,hv,g1,g2,g3,g4,↓kv_l,↓kl_b]
     ·simp only [h1,h2,h3,h4,decide_true,decide_false,Bool.and_self,Bool.and_false,Bool.false_eq_true,if_false,txt,List.map_nil]
      have g1:¬ i < 0:=by omega
      have g2:¬ (a.nx.length:Int) ≤ i:=by omega
      have g3:¬ j < 0:=by omega
      have g4:(a.nx.length:Int) ≤ j:=by omega
      obtain _ | n:=n; omega
      rw [nD]
      simp only [lV,Tryd.f22,SLM,simprocAttr]
      simp -implicitDefEqProofs (maxSteps:=2000000) (disch:=try exact Dz) only [↓DN,↓kAsg,↓kRet,UP,simprocAttr,↓a7,↓iP,↓a6,↓aT,↓aU,↓aV,LA,hv,g1,g2,g3,g4]
    ·simp only [h1,h2,h3,decide_true,decide_false,Bool.and_self,Bool.and_false,Bool.false_and,Bool.false_eq_true,if_false,txt,List.map_nil]
     have g1:¬ i < 0:=by omega
     have g2:¬ (a.nx.length:Int) ≤ i:=by omega
     have g3:j < 0:=by omega
     obtain _ | n:=n; omega
     rw [nD]
     simp only [lV,Tryd.f22,SLM,simprocAttr]
     simp -implicitDefEqProofs (maxSteps:=2000000) (disch:=try exact Dz) only [↓DN,↓kAsg,↓kRet,UP,simprocAttr,↓a7,↓iP,↓a6,↓aT,↓aU,↓aV,LA,hv,g1,g2,g3]
   ·simp only [h1,h2,decide_true,decide_false,Bool.and_self,Bool.and_false,Bool.false_and,Bool.false_eq_true,if_false,txt,List.map_nil]
    have g1:¬ i < 0:=by omega
    have g2:(a.nx.length:Int) ≤ i:=by omega
    obtain _ | n:=n; omega
    rw [nD]
    simp only [lV,Tryd.f22,SLM,simprocAttr]
    simp -implicitDefEqProofs (maxSteps:=2000000) (disch:=try exact Dz) only [↓DN,↓kAsg,↓kRet,UP,simprocAttr,↓a7,↓iP,↓a6,↓aT,↓aU,↓aV,LA,hv,g1,g2]
  ·simp only [h1,decide_true,decide_false,Bool.and_self,Bool.and_false,Bool.false_and,Bool.false_eq_true,if_false,txt,List.map_nil]
   have g1:i < 0:=by omega
   obtain _ | n:=n; omega
   rw [nD]
   simp only [lV,Tryd.f22,SLM,simprocAttr]
   simp -implicitDefEqProofs (maxSteps:=2000000) (disch:=try exact Dz) only [↓DN,↓kAsg,↓kRet,UP,simprocAttr,↓a7,↓iP,↓a6,↓aT,↓aU,↓aV,LA,hv,g1]
theorem nI {R:Type} {L n:Nat} {hq:H} {k:A → H → Option R} (hn:9 ≤ n) (a:Aut) (i j:Int) (hs:bA a.nx) (hac:a.ac.length ≤ 4294967296) (hL:2 ^ 60 ≤ L):aL env (aA env L n) hq 22 [.agg [.d (.int .i64 a.al),.d (.ivs a.nx.length (aJ a.nx)),.d (.ivs a.ac.length (aK a.ac))],.d (.int .i64 i),.d (.int .i64 j)] k = k (.tup [.d (.str (txt (eI a i j).1)),.d (.bool (eI a i j).2)]) hq :=
 a5 rfl (L9 hn a i j hs hac hL) rfl (.inl rfl)
theorem jI {R:Type} {L n:Nat} {k:A → Option R} (hn:9 ≤ n) (a:Aut) (i j:Int) (hs:bA a.nx) (hac:a.ac.length ≤ 4294967296) (hL:2 ^ 60 ≤ L):bL (aA env L n) 22 [.agg [.d (.int .i64 a.al),.d (.ivs a.nx.length (aJ a.nx)),.d (.ivs a.ac.length (aK a.ac))],.d (.int .i64 i),.d (.int .i64 j)] k = k (.tup [.d (.str (txt (eI a i j).1)),.d (.bool (eI a i j).2)]) :=
 fR (L9 hn a i j hs hac hL) rfl
theorem iI {R:Type} {L n:Nat} {hq:H} {k:A → H → Option R} {id0 g0 o0 len0:Nat} {a:Aut} {i j:Int}:aL env (aA env L n) hq 22 [.agg [.d (.int .i64 a.al),.sl id0 g0 o0 len0,.d (.ivs a.ac.length (aK a.ac))],.d (.int .i64 i),.d (.int .i64 j)] k = match box (cZ hq [.agg [.d (.int .i64 a.al),.sl id0 g0 o0 len0,.d (.ivs a.ac.length (aK a.ac))],.d (.int .i64 i),.d (.int .i64 j)]) with
  | .mk (some fs) => bL (aA env L n) 22 fs fun r => k r hq
  | _ => none:=aW n8
theorem iD {R:Type} {L n:Nat} {hq:H} {k:A → H → Option R} {id1 g1 o1 len1:Nat} {a:Aut} {i j:Int}:aL env (aA env L n) hq 22 [.agg [.d (.int .i64 a.al),.d (.ivs a.nx.length (aJ a.nx)),.sl id1 g1 o1 len1],.d (.int .i64 i),.d (.int .i64 j)] k = match box (cZ hq [.agg [.d (.int .i64 a.al),.d (.ivs a.nx.length (aJ a.nx)),.sl id1 g1 o1 len1],.d (.int .i64 i),.d (.int .i64 j)]) with
  | .mk (some fs) => bL (aA env L n) 22 fs fun r => k r hq
  | _ => none:=aW n8
theorem iE {R:Type} {L n:Nat} {hq:H} {k:A → H → Option R} {id1 g1 o1 len1:Nat} {id0 g0 o0 len0:Nat} {a:Aut} {i j:Int}:aL env (aA env L n) hq 22 [.agg [.d (.int .i64 a.al),.sl id0 g0 o0 len0,.sl id1 g1 o1 len1],.d (.int .i64 i),.d (.int .i64 j)] k = match box (cZ hq [.agg [.d (.int .i64 a.al),.sl id0 g0 o0 len0,.sl id1 g1 o1 len1],.d (.int .i64 i),.d (.int .i64 j)]) with
  | .mk (some fs) => bL (aA env L n) 22 fs fun r => k r hq
  | _ => none:=aW n8
theorem U9 {L n:Nat} (hn:1 ≤ n) (al:Int) (rs:List (List Int)) (z:Nat) (cs:List D) (hrl:rs.length ≤ 4294967296) (i:Int):aA env L n 57 [.agg [.d (.int .i64 al),.d (.ivs rs.length (aJ rs)),.d (.ivs z cs)],.d (.int .i64 i)] [] = some (.d (.bool (decide (0 ≤ i) && decide (i < rs.length))),[]):=by
 by_cases h1:0 ≤ i
 ·by_cases h2:i < rs.length
  ·simp only [h1,h2,decide_true,Bool.and_self]
   obtain _ | n:=n; omega
   rw [MB]
   simp only [EO,Tryd.f57,SLM,simprocAttr]
   simp -implicitDefEqProofs (maxSteps:=2000000) (disch:=try exact Dz) only [↓DN,↓kAsg,↓kRet,UP,simprocAttr,LA,h1,h2]
  ·simp only [h1,h2,decide_true,decide_false,Bool.and_false]
   obtain _ | n:=n; omega
   rw [MB]
   simp only [EO,Tryd.f57,SLM,simprocAttr]
   simp -implicitDefEqProofs (maxSteps:=2000000) (disch:=try exact Dz) only [↓DN,↓kAsg,↓kRet,UP,simprocAttr,LA,h1,h2]
 ·simp only [h1,decide_false,Bool.false_and]
  obtain _ | n:=n; omega
  rw [MB]
  simp only [EO,Tryd.f57,SLM,simprocAttr]
  simp -implicitDefEqProofs (maxSteps:=2000000) (disch:=try exact Dz) only [↓DN,↓kAsg,↓kRet,UP,simprocAttr,LA,h1]
theorem AJ {R:Type} {L n:Nat} {hq:H} {k:A → H → Option R} (hn:1 ≤ n) (al:Int) (rs:List (List Int)) (z:Nat) (cs:List D) (hrl:rs.length ≤ 4294967296) (i:Int):aL env (aA env L n) hq 57 [.agg [.d (.int .i64 al),.d (.ivs rs.length (aJ rs)),.d (.ivs z cs)],.d (.int .i64 i)] k = k (.d (.bool (decide (0 ≤ i) && decide (i < rs.length)))) hq :=
 a5 rfl (U9 hn al rs z cs hrl i) rfl (.inl rfl)
theorem BD {R:Type} {L n:Nat} {k:A → Option R} (hn:1 ≤ n) (al:Int) (rs:List (List Int)) (z:Nat) (cs:List D) (hrl:rs.length ≤ 4294967296) (i:Int):bL (aA env L n) 57 [.agg [.d (.int .i64 al),.d (.ivs rs.length (aJ rs)),.d (.ivs z cs)],.d (.int .i64 i)] k = k (.d (.bool (decide (0 ≤ i) && decide (i < rs.length)))) :=
 fR (U9 hn al rs z cs hrl i) rfl
theorem wJ {R:Type} {L n:Nat} {hq:H} {k:A → H → Option R} {id0 g0 o0 len0:Nat} {al:Int} {z:Nat} {cs:List D} {i:Int}:aL env (aA env L n) hq 57 [.agg [.d (.int .i64 al),.sl id0 g0 o0 len0,.d (.ivs z cs)],.d (.int .i64 i)] k = match box (cZ hq [.agg [.d (.int .i64 al),.sl id0 g0 o0 len0,.d (.ivs z cs)],.d (.int .i64 i)]) with
  | .mk (some fs) => bL (aA env L n) 57 fs fun r => k r hq
  | _ => none:=aW r5
theorem wE {R:Type} {L n:Nat} {hq:H} {k:A → H → Option R} {id1 g1 o1 len1:Nat} {al:Int} {rs:List (List Int)} {i:Int}:aL env (aA env L n) hq 57 [.agg [.d (.int .i64 al),.d (.ivs rs.length (aJ rs)),.sl id1 g1 o1 len1],.d (.int .i64 i)] k = match box (cZ hq [.agg [.d (.int .i64 al),.d (.ivs rs.length (aJ rs)),.sl id1 g1 o1 len1],.d (.int .i64 i)]) with
  | .mk (some fs) => bL (aA env L n) 57 fs fun r => k r hq
  | _ => none:=aW r5
theorem wK {R:Type} {L n:Nat} {hq:H} {k:A → H → Option R} {id1 g1 o1 len1:Nat} {id0 g0 o0 len0:Nat} {al:Int} {i:Int}:aL env (aA env L n) hq 57 [.agg [.d (.int .i64 al),.sl id0 g0 o0 len0,.sl id1 g1 o1 len1],.d (.int .i64 i)] k = match box (cZ hq [.agg [.d (.int .i64 al),.sl id0 g0 o0 len0,.sl id1 g1 o1 len1],.d (.int .i64 i)]) with
  | .mk (some fs) => bL (aA env L n) 57 fs fun r => k r hq
  | _ => none:=aW r5
theorem J0 {L n:Nat} (hn:12 ≤ n) (a:Aut) (i j:Int) (hs:bA a.nx) (hac:a.ac.length ≤ 4294967296) (hL:2 ^ 60 ≤ L):aA env L n 25 [.agg [.d (.int .i64 a.al),.d (.ivs a.nx.length (aJ a.nx)),.d (.ivs a.ac.length (aK a.ac))],.d (.int .i64 i),.d (.int .i64 j)] [] = some (.tup [.d (.str (txt (eI a i j).1)),.d (.bool (eI a i j).2)],[]):=by
 have hrl:=hs.1
 unfold eI PM
 cases hv:kM a.al a.nx a.ac with
 | false =>
  simp only [Bool.false_and,Bool.false_eq_true,if_false,txt,List.map_nil]
  obtain _ | n:=n; omega
  rw [s9]
  simp only [qI,Tryd.f25,SLM,simprocAttr]
  simp -implicitDefEqProofs (maxSteps:=2000000) (disch:=try exact Dz) only [↓DN,↓kAsg,↓kRet,UP,simprocAttr,↓dR,↓AJ,↓dS,↓BD,↓dC,↓dD,↓dB,↓wJ,↓wE,↓wK,LA,hv]
 | true =>
  by_cases h1:0 ≤ i ∧ i < a.nx.length
  ·by_cases h3:0 ≤ j ∧ j < a.nx.length
   ·obtain ⟨h1,h2⟩:=h1
    obtain ⟨h3,h4⟩:=h3
    simp only [h1,h2,h3,h4,decide_true,Bool.and_self,if_true]
    have kc_b:=fun {R:Type} {n:Nat} {k:A → Option R} (hn:11 ≤ n) => fR (call:=aA env L n) (k:=k) (f:=58) (@aGH L n hn hL a a i j 1 hv hv rfl ⟨h1,h2⟩ ⟨h3,h4⟩ (.inl rfl)) rfl
    simp only [if_true,fD,ints,List.map_cons,List.map_nil] at kc_b
    have kl_b:=fun {R:Type} {n:Nat} {k:A → Option R} (hn:11 ≤ n) => kc_b (R:=R) (n:=n) (k:=k) hn
    have kv_l:=fun {R:Type} {n:Nat} {hq:H} {args:List A} {k:A → H → Option R} => aW (E:=env) (call:=aA env L n) (h:=hq) (k:=k) (args:=args) DW
    clear kc_b
    generalize twoG (fun x y => x != y) a a i j = r at *
    obtain _ | n:=n; omega
    rw [s9]
    simp only [qI,Tryd.f25,SLM,simprocAttr]
    simp -implicitDefEqProofs (maxSteps:=2000000) (disch:=try exact Dz) only [↓DN,↓kAsg,↓kRet,UP,simprocAttr,↓dR,↓AJ,↓dS,↓BD,↓dC,↓dD,↓dB,↓wJ,↓wE,↓wK,LA,hv,h1,h2,h3,h4,decide_true,Bool.and_self,↓kv_l,↓kl_b]
   ·have e3:(decide (0 ≤ j) && decide (j < a.nx.length)) = false:=by
     rw [Bool.and_eq_false_iff,decide_eq_false_iff_not,decide_eq_false_iff_not]; omega
    obtain ⟨h1,h2⟩:=h1
    simp only [h1,h2,e3,decide_true,Bool.and_self,Bool.and_false,Bool.false_eq_true,if_false,txt,List.map_nil]
    obtain _ | n:=n; omega
    rw [s9]
    simp only [qI,Tryd.f25,SLM,simprocAttr]
    simp -implicitDefEqProofs (maxSteps:=2000000) (disch:=try exact Dz) only [↓DN,↓kAsg,↓kRet,UP,simprocAttr,↓dR,↓AJ,↓dS,↓BD,↓dC,↓dD,↓dB,↓wJ,↓wE,↓wK,LA,hv,h1,h2,e3,decide_true,Bool.and_self]
  ·have e3:(decide (0 ≤ i) && decide (i < a.nx.length)) = false:=by
    rw [Bool.and_eq_false_iff,decide_eq_false_iff_not,decide_eq_false_iff_not]; omega
   simp only [e3,Bool.and_false,Bool.false_and,Bool.false_eq_true,if_false,txt,List.map_nil]
   obtain _ | n:=n; omega
   rw [s9]
   simp only [qI,Tryd.f25,SLM,simprocAttr]
   simp -implicitDefEqProofs (maxSteps:=2000000) (disch:=try exact Dz) only [↓DN,↓kAsg,↓kRet,UP,simprocAttr,↓dR,↓AJ,↓dS,↓BD,↓dC,↓dD,↓dB,↓wJ,↓wE,↓wK,LA,hv,e3]
theorem nC {R:Type} {L n:Nat} {hq:H} {k:A → H → Option R} (hn:12 ≤ n) (a:Aut) (i j:Int) (hs:bA a.nx) (hac:a.ac.length ≤ 4294967296) (hL:2 ^ 60 ≤ L):aL env (aA env L n) hq 25 [.agg [.d (.int .i64 a.al),.d (.ivs a.nx.length (aJ a.nx)),.d (.ivs a.ac.length (aK a.ac))],.d (.int .i64 i),.d (.int .i64 j)] k = k (.tup [.d (.str (txt (eI a i j).1)),.d (.bool (eI a i j).2)]) hq :=
 a5 rfl (J0 hn a i j hs hac hL) rfl (.inl rfl)
theorem jG {R:Type} {L n:Nat} {k:A → Option R} (hn:12 ≤ n) (a:Aut) (i j:Int) (hs:bA a.nx) (hac:a.ac.length ≤ 4294967296) (hL:2 ^ 60 ≤ L):bL (aA env L n) 25 [.agg [.d (.int .i64 a.al),.d (.ivs a.nx.length (aJ a.nx)),.d (.ivs a.ac.length (aK a.ac))],.d (.int .i64 i),.d (.int .i64 j)] k = k (.tup [.d (.str (txt (eI a i j).1)),.d (.bool (eI a i j).2)]) :=
 fR (J0 hn a i j hs hac hL) rfl
theorem hY {R:Type} {L n:Nat} {hq:H} {k:A → H → Option R} {id0 g0 o0 len0:Nat} {a:Aut} {i j:Int}:aL env (aA env L n) hq 25 [.agg [.d (.int .i64 a.al),.sl id0 g0 o0 len0,.d (.ivs a.ac.length (aK a.ac))],.d (.int .i64 i),.d (.int .i64 j)] k = match box (cZ hq [.agg [.d (.int .i64 a.al),.sl id0 g0 o0 len0,.d (.ivs a.ac.length (aK a.ac))],.d (.int .i64 i),.d (.int .i64 j)]) with
  | .mk (some fs) => bL (aA env L n) 25 fs fun r => k r hq
  | _ => none:=aW n5
theorem hZ {R:Type} {L n:Nat} {hq:H} {k:A → H → Option R} {id1 g1 o1 len1:Nat} {a:Aut} {i j:Int}:aL env (aA env L n) hq 25 [.agg [.d (.int .i64 a.al),.d (.ivs a.nx.length (aJ a.nx)),.sl id1 g1 o1 len1],.d (.int .i64 i),.d (.int .i64 j)] k = match box (cZ hq [.agg [.d (.int .i64 a.al),.d (.ivs a.nx.length (aJ a.nx)),.sl id1 g1 o1 len1],.d (.int .i64 i),.d (.int .i64 j)]) with
  | .mk (some fs) => bL (aA env L n) 25 fs fun r => k r hq
  | _ => none:=aW n5
theorem iH {R:Type} {L n:Nat} {hq:H} {k:A → H → Option R} {id1 g1 o1 len1:Nat} {id0 g0 o0 len0:Nat} {a:Aut} {i j:Int}:aL env (aA env L n) hq 25 [.agg [.d (.int .i64 a.al),.sl id0 g0 o0 len0,.sl id1 g1 o1 len1],.d (.int .i64 i),.d (.int .i64 j)] k = match box (cZ hq [.agg [.d (.int .i64 a.al),.sl id0 g0 o0 len0,.sl id1 g1 o1 len1],.d (.int .i64 i),.d (.int .i64 j)]) with
  | .mk (some fs) => bL (aA env L n) 25 fs fun r => k r hq
  | _ => none:=aW n5

end Ev
end Go.Proofs.YtppdfjdfjfoddaaDoor
