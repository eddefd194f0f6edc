/-
  A search for a goal, walked: the word that was found, the b5.
-/
import Derived.Test.YtppdfjdfjfoddaaGreatPathY
import Derived.Test.YtppdfjdfjfoddaaGreatTwo
import Derived.Test.YtppdfjdfjfoddaaGreatAutH
set_option linter.unusedSimpArgs false
set_option linter.unusedVariables false
set_option maxRecDepth 8000
set_option maxHeartbeats 4000000
namespace Go.Proofs.YtppdfjdfjfoddaaGreat
namespace Ev
theorem aTE {l:List UInt8} {i j p:Nat} (hi:i < l.length) (hj:j < l.length):(swp l i j).getD p 0 = if p = j then l.getD i 0 else if p = i then l.getD j 0 else l.getD p 0:=by
 unfold swp
 simp only [List.getD_eq_getElem?_getD,List.getElem?_set,List.length_set]
 by_cases h1:p = j
 ·subst h1
  simp [hj]
 ·have h1':¬ j = p:=fun h => h1 h.symm
  by_cases h2:p = i
  ·subst h2
   simp [hi,h1,h1']
  ·have h2':¬ i = p:=fun h => h2 h.symm
   simp only [h1,h1',h2,h2',if_false]
theorem aIp:∀ (q:Nat) (i j:Int) (l:List UInt8),0 ≤ i → j < l.length → j - i ≤ q → ∀ p:Nat,p < l.length → (revG q i j l).2.2.getD p 0 = if i ≤ p ∧ (p:Int) ≤ j then l.getD (i + j - p).toNat 0 else l.getD p 0
 | 0,i,j,l,h0,h1,h2,p,hp => by
  unfold revG
  split
  ·rename_i h
   rw [show (i + j - p).toNat = p by omega]
  ·rfl
 | q + 1,i,j,l,h0,h1,h2,p,hp => by
  unfold revG
  split
  ·rename_i hlt
   have hg:=fun (x:Nat) => aTE (l:=l) (i:=i.toNat) (j:=j.toNat) (p:=x) (by omega) (by omega)
   rw [aIp q (i + 1) (j - 1) _ (by omega) (by rw [EL]; omega) (by omega) p (by rw [EL]; exact hp)]
   by_cases c1:i + 1 ≤ (p:Int) ∧ (p:Int) ≤ j - 1
   ·rw [if_pos c1,hg,if_neg (by omega:¬ (i + 1 + (j - 1) - (p:Int)).toNat = j.toNat),if_neg (by omega:¬ (i + 1 + (j - 1) - (p:Int)).toNat = i.toNat),if_pos (by omega:i ≤ (p:Int) ∧ (p:Int) ≤ j)]
    congr 1
    omega
   ·rw [if_neg c1,hg]
    by_cases c2:p = j.toNat
    ·rw [if_pos c2,if_pos (by omega:i ≤ (p:Int) ∧ (p:Int) ≤ j)]
     congr 1
     omega
    ·rw [if_neg c2]
     by_cases c3:p = i.toNat
     ·rw [if_pos c3,if_pos (by omega:i ≤ (p:Int) ∧ (p:Int) ≤ j)]
      congr 1
      omega
     ·rw [if_neg c3,if_neg (by omega:¬ (i ≤ (p:Int) ∧ (p:Int) ≤ j))]
  ·rename_i hlt
   split
   ·rename_i h
    rw [show (i + j - p).toNat = p by omega]
   ·rfl
theorem aQO (l:List UInt8):(revG (l.length + 1) 0 ((l.length:Int) - 1) l).2.2 = l.reverse:=by
 have hl:=(aCm (l.length + 1) 0 ((l.length:Int) - 1) l (Int.le_refl _) (by omega)).1
 apply List.ext_getElem
 ·rw [hl,List.length_reverse]
 ·intro p h1 h2
  rw [hl] at h1
  have:=aIp (l.length + 1) 0 ((l.length:Int) - 1) l (Int.le_refl _) (by omega) (by omega) p h1
  rw [if_pos (by omega),List.getD_eq_getElem?_getD,List.getElem?_eq_getElem (by rw [hl]; exact h1),List.getD_eq_getElem?_getD,List.getElem?_eq_getElem (by omega)] at this
  simp only [Option.getD_some] at this
  rw [this,List.getElem_reverse]
  congr 1
  omega
theorem aGn {l:List PStep} {k:Nat} (h:k < l.length):(((dI l).drop (k * 3)).map A.d).head? = some (.d (.int .i64 (l.getD k default).par)):=by
 rw [ES,dZ h (d:=default)]; rfl
theorem aPo {l:List PStep} {k:Nat} (h:k < l.length):(((dI l).drop (k * 3 + 1)).map A.d).head? = some (.d (.int .i64 (l.getD k default).lt)):=by
 rw [← List.drop_drop,ES,dZ h (d:=default)]; rfl
def aHg (st:List PStep):Nat → Nat → Nat
 | 0,i => i
 | j + 1,i => if 0 ≤ (st.getD i default).par then aHg st j (st.getD i default).par.toNat else i
def Tree (st:List PStep):Prop:=∀ k,k < st.length → ((st.getD k default).par < (k:Int)) ∧ (0 ≤ (st.getD k default).lt ∧ (st.getD k default).lt ≤ 5)
theorem aFk (st:List PStep):∀ (j i:Nat),(kT st j i).length ≤ j
 | 0,i => Nat.le_refl _
 | j + 1,i => by
  unfold kT
  split
  ·have:=aFk st j (st.getD i default).par.toNat
   simp only [List.length_append,List.length_cons,List.length_nil]
   omega
  ·simp
theorem aDM {R:Type} {L n:Nat} (hn:2 ≤ n) {st:List PStep} (ht:Tree st) (hs:st.length ≤ 16777216) {k:Exit → List A → H → Option R}:∀ (j i m:Nat) (o:List UInt8) (len:Nat) (hi:i < st.length) (hj:i < j) (hm:j ≤ m) (hlen:len = o.length) (ho:o.length + i ≤ 20000000),
  aO env (aA env L n) L 0 [0,0,0,2] (U1 (Z1 (U2 (U1 (Z16 (Z8 (Z2 (Z1 ([]))))))))) (tK 0) (Z1 (U1 (Z2 (Z1 (U16 (U8 (U2 (U1 ([]))))))))) m (.d (.ivs st.length (dI st)) :: Y1 (.d (.str []) :: .sl 0 0 0 len :: .d (.int .i64 ((i:Int))) :: Y16 (Y8 (Y2 (Y1 ([])))))) [.arr (bT o) 1 0] k
  = k (.exit 0) (.d (.ivs st.length (dI st)) :: Y1 (.d (.str []) :: .sl 0 0 0 (o ++ (txt (kT st j i)).reverse).length :: .d (.int .i64 (((aHg st j i:Nat):Int))) :: Y16 (Y8 (Y2 (Y1 ([])))))) [.arr (bT (o ++ (txt (kT st j i)).reverse)) 1 0]:=by
 intro j
 induction j with
 | zero => intro i m o len hi hj; omega
 | succ j ih =>
  intro i m o len hi hj hm hlen ho
  obtain _ | m:=m; omega
  subst hlen
  obtain ⟨t1,t2,t3⟩:=ht i hi
  have hc:(i:Int) < st.length:=by omega
  by_cases hp:0 ≤ (st.getD i default).par
  ·have ih':=ih (st.getD i default).par.toNat m (o ++ [mP (st.getD i default).lt]) (o.length + 1) (by omega) (by omega) (by omega) (by simp) (by rw [List.length_append,List.length_singleton]; omega)
   rw [show (((st.getD i default).par.toNat:Nat):Int) = (st.getD i default).par by omega] at ih'
   have h5:(((st.getD i default).par.toNat:Nat):Int) = (st.getD i default).par:=by omega
   unfold kT aHg
   rw [if_pos hp,if_pos hp]
   clear ih
   have e:(txt (kT st j (st.getD i default).par.toNat ++ [(st.getD i default).lt])).reverse = [mP (st.getD i default).lt] ++ (txt (kT st j (st.getD i default).par.toNat)).reverse:=by simp [txt]
   rw [e,← List.append_assoc]
   have g1:=aGn hi
   have g2:=aPo hi
   generalize st.getD i default = s at *
   rw [HU]
   simp only [EO,Tryz.f80,SLM,simprocAttr]
   simp -implicitDefEqProofs (maxSteps:=2000000) (disch:=try exact Dz) only [↓DN,↓kAsg,↓kRet,UP,simprocAttr,PE,List.length_drop,List.drop_drop,hc,hp,t2,t3,g1,g2,Int.toNat_natCast,↓B7,PC,aJZ,aS8,aSC,YB,pT,EV,OZ,↓ih']
  ·unfold kT aHg
   rw [if_neg hp,if_neg hp]
   have g1:=aGn hi
   simp only [txt,List.map_nil,List.reverse_nil,List.append_nil]
   rw [HU]
   simp only [EO,Tryz.f80,SLM,simprocAttr]
   simp -implicitDefEqProofs (maxSteps:=2000000) (disch:=try exact Dz) only [↓DN,↓kAsg,↓kRet,UP,simprocAttr,↓B7,PE,hc,hp,g1,Int.toNat_natCast]
theorem SR {L n:Nat} (hn:3 ≤ n) (st:List PStep) (ht:Tree st) (hs:st.length ≤ 16777216) (h0:0 < st.length) (hL:2 ^ 60 ≤ L):aA env L n 80 [.d (.ivs st.length (dI st))] [] = some (.d (.str (NL st)),[]):=by
 have loop_w:=fun {R:Type} {n:Nat} {k:Exit → List A → H → Option R} (hn:2 ≤ n) => @aDM R L n hn st ht hs k st.length (st.length - 1) L [] 0 (by omega) (by omega) (by omega) rfl (by simp; omega)
 simp only [List.nil_append,aL1] at loop_w
 have hwl:=aFk st st.length (st.length - 1)
 have hb:(txt (kT st st.length (st.length - 1))).reverse.length ≤ 2147483648:=by simp [txt]; omega
 have hrr:(txt (kT st st.length (st.length - 1))).reverse.reverse = NL st:=by rw [List.reverse_reverse]; rfl
 have hwlen:(txt (kT st st.length (st.length - 1))).reverse.length = (NL st).length:=by simp [NL]
 generalize (txt (kT st st.length (st.length - 1))).reverse = w at *
 have e1:IntKind.i64.wrap ((st.length:Int) - 1) = ((st.length - 1:Nat):Int):=by
  rw [show (st.length:Int) - 1 = ((st.length - 1:Nat):Int) by omega]
  exact CA (by omega) (by omega)
 have kc_r:=fun {R:Type} {n id g:Nat} {hq:H} {k:A → H → Option R} (hn:1 ≤ n) (hi:hq[id]? = some (.arr (bT w) 1 g)) => @aT2 R L n id g hq k hn w hi hb hL
 have er:=aQO w
 rw [hrr] at er
 simp only [er] at kc_r
 simp only [hwlen] at kc_r
 simp only [hwlen] at loop_w
 have h1:(1:Int) ≤ st.length:=by omega
 obtain _ | n:=n; omega
 rw [aG2]
 simp only [WW,Tryz.f80,SLM,simprocAttr]
 simp -implicitDefEqProofs (maxSteps:=2000000) (disch:=try exact Dz) only [↓DN,↓kAsg,↓kRet,UP,simprocAttr,↓B7,PE,↓loop_w,e1,h1,↓kc_r,↓PS]
theorem jA {R:Type} {L n:Nat} {hq:H} {k:A → H → Option R} (hn:3 ≤ n) (st:List PStep) (ht:Tree st) (hs:st.length ≤ 16777216) (h0:0 < st.length) (hL:2 ^ 60 ≤ L):aL env (aA env L n) hq 80 [.d (.ivs st.length (dI st))] k = k (.d (.str (NL st))) hq :=
 aR rfl (SR hn st ht hs h0 hL) rfl (.inl rfl)
theorem hY {R:Type} {L n:Nat} {k:A → Option R} (hn:3 ≤ n) (st:List PStep) (ht:Tree st) (hs:st.length ≤ 16777216) (h0:0 < st.length) (hL:2 ^ 60 ≤ L):bK (aA env L n) 80 [.d (.ivs st.length (dI st))] k = k (.d (.str (NL st))) :=
 fM (SR hn st ht hs h0 hL) rfl
theorem gP {R:Type} {L n:Nat} {hq:H} {k:A → H → Option R} {id0 g0 o0 len0:Nat} :aL env (aA env L n) hq 80 [.sl id0 g0 o0 len0] k = match box (dA hq [.sl id0 g0 o0 len0]) with
  | .mk (some fs) => bK (aA env L n) 80 fs fun r => k r hq
  | _ => none:=aU A6
theorem aIu {st:List PStep} {p l:Int} {f:List Int}:st.length ≤ (addP st p l f).length:=by unfold addP; split <;> simp
theorem aH1 {st:List PStep} {i:Nat} {l:Int} {f:List Int} (ht:Tree st) (hi:i < st.length) (hl:0 ≤ l ∧ l ≤ 5):Tree (addP st i l f):=by
 unfold addP
 split
 ·exact ht
 ·intro k hk
  simp only [List.length_append,List.length_cons,List.length_nil] at hk
  by_cases h:k < st.length
  ·rw [n9 h]; exact ht k h
  ·obtain rfl:k = st.length:=by omega
   rw [XV]
   exact ⟨by show (i:Int) < _; omega,hl⟩
theorem aL6 {R:Type} {L n:Nat} (hn:5 ≤ n) (hL:2 ^ 60 ≤ L) {I:Int → Prop} {gl:Int → Bool} {nf gf:FuncId} {caps gcaps:List D} {size:Nat} {nx:Int → Int → List Int} {ls ns:List Int} {ii:Nat}
  (kc_n:∀ {R:Type} {n id:Nat} {hq:H} {k:A → H → Option R} (x c:Int) (o:List Int),4 ≤ n → I x → 0 ≤ c → c < 6 → o.length ≤ 2147483648 → hq[id]? = some (.arr (ints o) 1 0) → aL env (aA env L n) hq nf (.d (.int .i64 x) :: .d (.int .i64 c) :: .sl id 0 0 o.length :: caps.map A.d) k = k (.sl id (nx x c).length 0 (o ++ nx x c).length) (hq.set id (.arr (ints (o ++ nx x c)) 1 (nx x c).length)))
  (kc_g:∀ {R:Type} {n:Nat} {hq:H} {k:A → H → Option R} (x:Int),2 ≤ n → I x → aL env (aA env L n) hq gf (.d (.int .i64 x) :: gcaps.map A.d) k = k (.d (.bool (gl x))) hq)
  (hr:∀ x,I x → 0 ≤ x ∧ x < size) (hsz:size ≤ 16777216) (hI:∀ x ∈ ns,I x) (hx:∀ x c,I x → 0 ≤ c → c < 6 → ∀ y ∈ nx x c,I y) (hw:∀ x c,(nx x c).length ≤ 64) (hls:∀ c ∈ ls,0 ≤ c ∧ c ≤ 5) (hll:ls.length ≤ 6) (hnl:ns.length ≤ size) {k:Exit → List A → H → Option R}:∀ (j q m:Nat) (seen:List Bool) (st:List PStep) (sn:Nat) (hi:q + j = ls.length) (hm:j < m) (hg:PGood I size seen st) (htr:Tree st) (hii:ii < st.length) (hns:(st.getD ii default).ns = ns) (hsn:sn = st.length),
  aO env (aA env L n) L 0 [0,0,0,0,0,0,0,0,0,0,0,0,0,0,0,0,0,0,2] (Z2 (U2 (Z4 (Z2 (U2 (Z1 (U2 (U1 (Z1 (U2 (Z8 (Z4 (Z2 (U2 (U1 (Z4 (Z2 (Z1 (U2 (U1 (Z16 (Z1 ([]))))))))))))))))))))))) (eN 1) (U2 (Z2 (U4 (U2 (Z2 (U1 (Z2 (Z1 (U16 (U1 (Z2 (Z1 (U16 (U8 (U2 (U1 ([]))))))))))))))))) m (Y2 (.d (.ivs ls.length (ints ls)) :: .d (.fn nf caps) :: Y4 (Y2 (.d (.str []) :: .d (.bool false) :: Y1 (.ptr 0 0 0 :: .clo 79 [.ptr 1 0 0,.ptr 2 0 0,.ptr 0 0 0] :: .d (.int .i64 ((ii:Int))) :: Y16 (Y1 (.d (.ivs ls.length (ints ls)) :: .d (.int .i64 (ls.length)) :: .d (.int .i64 ((q:Int))) :: Y16 (Y8 (Y2 (Y1 ([]))))))))))) [.box [.sl 3 0 0 sn],.box [.sl 4 0 0 size],.box [.d (.fn gf gcaps)],.arr (dI st) 3 0,.arr (eO seen) 1 0] k
  = if (ltG nx gl ns ii (ls.drop q) (seen,st)).1 = true then
    k .ret (Y2 (.d (.ivs ls.length (ints ls)) :: .d (.fn nf caps) :: Y4 (Y2 (.d (.str ((NL (ltG nx gl ns ii (ls.drop q) (seen,st)).2.2))) :: .d (.bool true) :: Y1 (.ptr 0 0 0 :: .clo 79 [.ptr 1 0 0,.ptr 2 0 0,.ptr 0 0 0] :: .d (.int .i64 ((ii:Int))) :: Y16 (Y1 (.d (.ivs ls.length (ints ls)) :: .d (.int .i64 (ls.length)) :: .d (.int .i64 (((q + ltI nx gl ns ii (ls.drop q) (seen,st):Nat):Int))) :: Y16 (Y8 (Y2 (Y1 ([]))))))))))) [.box [.sl 3 0 0 (ltG nx gl ns ii (ls.drop q) (seen,st)).2.2.length],.box [.sl 4 0 0 size],.box [.d (.fn gf gcaps)],.arr (dI (ltG nx gl ns ii (ls.drop q) (seen,st)).2.2) 3 0,.arr (eO (ltG nx gl ns ii (ls.drop q) (seen,st)).2.1) 1 0]
   else k (.exit 2) (Y2 (.d (.ivs ls.length (ints ls)) :: .d (.fn nf caps) :: Y4 (Y2 (.d (.str []) :: .d (.bool false) :: Y1 (.ptr 0 0 0 :: .clo 79 [.ptr 1 0 0,.ptr 2 0 0,.ptr 0 0 0] :: .d (.int .i64 ((ii:Int))) :: Y16 (Y1 (.d (.ivs ls.length (ints ls)) :: .d (.int .i64 (ls.length)) :: .d (.int .i64 (ls.length)) :: Y16 (Y8 (Y2 (Y1 ([]))))))))))) [.box [.sl 3 0 0 (ltG nx gl ns ii (ls.drop q) (seen,st)).2.2.length],.box [.sl 4 0 0 size],.box [.d (.fn gf gcaps)],.arr (dI (ltG nx gl ns ii (ls.drop q) (seen,st)).2.2) 3 0,.arr (eO (ltG nx gl ns ii (ls.drop q) (seen,st)).2.1) 1 0]:=by
 intro j
 induction j with
 | zero =>
  intro q m seen st sn hi hm hg htr hii hns hsn
  obtain _ | m:=m; omega
  obtain rfl:q = ls.length:=by omega
  subst hsn
  rw [vP]
  simp only [uJ,Tryz.f49,SLM,simprocAttr]
  simp -implicitDefEqProofs (maxSteps:=2000000) (disch:=try exact Dz) only [↓DN,↓kAsg,↓kRet,UP,simprocAttr,↓jA,↓hY,↓gP,PE,Int.lt_irrefl]
  simp only [List.drop_length,ltG,Bool.false_eq_true,if_false]
 | succ j ih =>
  intro q m seen st sn hi hm hg htr hii hns hsn
  obtain _ | m:=m; omega
  subst hsn
  have hc:(q:Int) < ls.length:=by omega
  have hk:q < ls.length:=by omega
  have hmem:ls.getD q 0 ∈ ls:=by rw [List.getD_eq_getElem?_getD,List.getElem?_eq_getElem hk]; exact List.getElem_mem hk
  obtain ⟨c0,c5⟩:=hls _ hmem
  have c6:ls.getD q 0 < 6:=by omega
  have hiI:(ii:Int) < st.length:=by omega
  have hroom:=hg.room
  have hstl:st.length ≤ 4294967290:=by omega
  rw [dZ hk (d:=0)]
  have hI2:∀ y ∈ flat nx ns (ls.getD q 0),I y:=by
   intro y hy
   obtain ⟨x,h1,h2⟩:=List.mem_flatMap.1 hy
   exact hx x (ls.getD q 0) (hI x h1) c0 c6 y h2
  have hfl:=aHY (c:=ls.getD q 0) hw ns
  have hfl2:(flat nx ns (ls.getD q 0)).length ≤ 4294967290:=by omega
  obtain ⟨g1,g2,g3⟩:=OJ (gl:=gl) hg hI2 hr (ii:Int) (ls.getD q 0)
  have htr2:Tree (addP st ii (ls.getD q 0) (visG gl (flat nx ns (ls.getD q 0)) seen [] false).2.1):=aH1 htr hii ⟨c0,c5⟩
  have hlen2:=aIu (st:=st) (p:=(ii:Int)) (l:=ls.getD q 0) (f:=(visG gl (flat nx ns (ls.getD q 0)) seen [] false).2.1)
  have ih':=ih (q + 1) m (visG gl (flat nx ns (ls.getD q 0)) seen [] false).1 (addP st ii (ls.getD q 0) (visG gl (flat nx ns (ls.getD q 0)) seen [] false).2.1) _ (by omega) (by omega) g1 htr2 (by omega) (by rw [aQa hii]; exact hns) rfl
  have e4:((q + 1:Nat):Int) = (q:Int) + 1:=by omega
  rw [e4] at ih'
  have loop_c:=fun {R:Type} {n:Nat} (hn:4 ≤ n) {k:Exit → List A → H → Option R} => @aLH R L n hn hL I nf caps (.fn gf gcaps) size nx ls ns (dI st) seen st.length ii q (ls.getD q 0) (fun {R n id hq k} => kc_n) hI hw c0 c6 (by omega) k ns.length 0 L [] 0 (by omega) (by omega) (by simp) rfl
  simp only [List.drop_zero,List.nil_append,qL,Int.natCast_zero] at loop_c
  have kc_v:=fun {R:Type} {n:Nat} {k:A → H → Option R} (hn:4 ≤ n) => @aTm R L n k hn hL I gl gf gcaps size (ii:Int) (ls.getD q 0) (flat nx ns (ls.getD q 0)) (fun {R n hq k} => kc_g) hI2 hr (by omega) hfl2 seen hg.len st hstl
  have hroom2:=g1.room
  have kl_w:=fun {R:Type} {n:Nat} {k:A → Option R} (hn:3 ≤ n) => @hY R L n k hn _ htr2 (by omega) (by omega) hL
  simp only [ltG,ltI]
  clear ih hmem g1 g2 g3 hg hI hI2 hx hw hls hr kc_n kc_g hroom2
  generalize flat nx ns (ls.getD q 0) = fm at *
  generalize visG gl fm seen [] false = v at *
  obtain ⟨v1,v2,v3⟩:=v
  simp only at ih' kc_v kl_w ⊢
  cases v3 with
  | true =>
   rw [vP]
   simp only [uJ,Tryz.f49,SLM,simprocAttr]
   simp -implicitDefEqProofs (maxSteps:=2000000) (disch:=try exact Dz) only [↓DN,↓kAsg,↓kRet,UP,simprocAttr,↓jA,↓hY,↓gP,PE,hc,hiI,hns,Int.toNat_natCast,↓loop_c,↓kc_v,↓kl_w]
  | false =>
   simp only [Bool.false_eq_true,if_false]
   generalize ltI nx gl ns (ii:Int) (ls.drop (q + 1)) (v1,addP st ii (ls.getD q 0) v2) = T at *
   rw [show q + (T + 1) = q + 1 + T by omega]
   rw [vP]
   simp only [uJ,Tryz.f49,SLM,simprocAttr]
   simp -implicitDefEqProofs (maxSteps:=2000000) (disch:=try exact Dz) only [↓DN,↓kAsg,↓kRet,UP,simprocAttr,↓jA,↓hY,↓gP,PE,hc,hiI,hns,Int.toNat_natCast,↓loop_c,↓kc_v,↓ih']
theorem XC {nx:Int → Int → List Int} {gl:Int → Bool} {ns:List Int} {i:Nat}:∀ (ls:List Int) (hls:∀ c ∈ ls,0 ≤ c ∧ c ≤ 5) (seen:List Bool) (st:List PStep),Tree st → i < st.length → Tree (ltG nx gl ns i ls (seen,st)).2.2
 | [],_,_,_,h,_ => h
 | l :: ls,hls,seen,st,h,hi => by
  have h2:Tree (addP st i l (visG gl (flat nx ns l) seen [] false).2.1):=aH1 h hi (hls l List.mem_cons_self)
  unfold ltG
  split
  ·exact h2
  ·exact XC ls (fun c hc => hls c (List.mem_cons_of_mem _ hc)) _ _ h2 (Nat.lt_of_lt_of_le hi aIu)
theorem aLt {R:Type} {L n:Nat} (hn:6 ≤ n) (hL:2 ^ 60 ≤ L) {I:Int → Prop} {gl:Int → Bool} {nf gf:FuncId} {caps gcaps:List D} {size:Nat} {nx:Int → Int → List Int} {ls:List Int}
  (kc_n:∀ {R:Type} {n id:Nat} {hq:H} {k:A → H → Option R} (x c:Int) (o:List Int),4 ≤ n → I x → 0 ≤ c → c < 6 → o.length ≤ 2147483648 → hq[id]? = some (.arr (ints o) 1 0) → aL env (aA env L n) hq nf (.d (.int .i64 x) :: .d (.int .i64 c) :: .sl id 0 0 o.length :: caps.map A.d) k = k (.sl id (nx x c).length 0 (o ++ nx x c).length) (hq.set id (.arr (ints (o ++ nx x c)) 1 (nx x c).length)))
  (kc_g:∀ {R:Type} {n:Nat} {hq:H} {k:A → H → Option R} (x:Int),2 ≤ n → I x → aL env (aA env L n) hq gf (.d (.int .i64 x) :: gcaps.map A.d) k = k (.d (.bool (gl x))) hq)
  (hr:∀ x,I x → 0 ≤ x ∧ x < size) (hsz:size ≤ 16777216) (hx:∀ x c,I x → 0 ≤ c → c < 6 → ∀ y ∈ nx x c,I y) (hw:∀ x c,(nx x c).length ≤ 64) (hls:∀ c ∈ ls,0 ≤ c ∧ c ≤ 5) (hll:ls.length ≤ 6) {k:Exit → List A → H → Option R}:∀ (j i m:Nat) (seen:List Bool) (st:List PStep) (sn:Nat) (hi:st.length + lG seen ≤ i + j) (hi2:i ≤ st.length) (hm:j < m) (hg:PGood I size seen st) (htr:Tree st) (hsn:sn = st.length),
  aO env (aA env L n) L 0 [0,0,0,0,0,0,0,0,0,0,0,0,0,0,0,0,0,0,2] (Z2 (U2 (Z4 (Z2 (U2 (Z1 (U2 (U1 (Z1 (U2 (Z8 (Z4 (Z2 (U2 (U1 (Z4 (Z2 (Z1 (U2 (U1 (Z16 (Z1 ([]))))))))))))))))))))))) (eN 0) (U2 (Z2 (U4 (U2 (Z2 (U1 (Z2 (Z1 (U32 (U8 (U4 (U2 (U1 ([])))))))))))))) m (Y2 (.d (.ivs ls.length (ints ls)) :: .d (.fn nf caps) :: Y4 (Y2 (.d (.str []) :: .d (.bool false) :: Y1 (.ptr 0 0 0 :: .clo 79 [.ptr 1 0 0,.ptr 2 0 0,.ptr 0 0 0] :: .d (.int .i64 ((i:Int))) :: Y32 (Y8 (Y4 (Y2 (Y1 ([])))))))))) [.box [.sl 3 0 0 sn],.box [.sl 4 0 0 size],.box [.d (.fn gf gcaps)],.arr (dI st) 3 0,.arr (eO seen) 1 0] k
  = if (outG nx gl ls j i (seen,st)).1 = true then
    k .ret (Y2 (.d (.ivs ls.length (ints ls)) :: .d (.fn nf caps) :: Y4 (Y2 (.d (.str ((NL (outG nx gl ls j i (seen,st)).2.2))) :: .d (.bool true) :: Y1 (.ptr 0 0 0 :: .clo 79 [.ptr 1 0 0,.ptr 2 0 0,.ptr 0 0 0] :: .d (.int .i64 (((outI nx gl ls j i (seen,st):Nat):Int))) :: Y32 (Y8 (Y4 (Y2 (Y1 ([])))))))))) [.box [.sl 3 0 0 (outG nx gl ls j i (seen,st)).2.2.length],.box [.sl 4 0 0 size],.box [.d (.fn gf gcaps)],.arr (dI (outG nx gl ls j i (seen,st)).2.2) 3 0,.arr (eO (outG nx gl ls j i (seen,st)).2.1) 1 0]
   else k (.exit 0) (Y2 (.d (.ivs ls.length (ints ls)) :: .d (.fn nf caps) :: Y4 (Y2 (.d (.str []) :: .d (.bool false) :: Y1 (.ptr 0 0 0 :: .clo 79 [.ptr 1 0 0,.ptr 2 0 0,.ptr 0 0 0] :: .d (.int .i64 (((outI nx gl ls j i (seen,st):Nat):Int))) :: Y32 (Y8 (Y4 (Y2 (Y1 ([])))))))))) [.box [.sl 3 0 0 (outG nx gl ls j i (seen,st)).2.2.length],.box [.sl 4 0 0 size],.box [.d (.fn gf gcaps)],.arr (dI (outG nx gl ls j i (seen,st)).2.2) 3 0,.arr (eO (outG nx gl ls j i (seen,st)).2.1) 1 0]:=by
 intro j
 induction j with
 | zero =>
  intro i m seen st sn hi hi2 hm hg htr hsn
  obtain _ | m:=m; omega
  obtain rfl:i = st.length:=by omega
  subst hsn
  simp only [outG,outI,Bool.false_eq_true,if_false]
  rw [qF]
  simp only [qE,Tryz.f49,SLM,simprocAttr]
  simp -implicitDefEqProofs (maxSteps:=2000000) (disch:=try exact Dz) only [↓DN,↓kAsg,↓kRet,UP,simprocAttr,↓jA,↓hY,↓gP,PE,Int.lt_irrefl]
 | succ j ih =>
  intro i m seen st sn hi hi2 hm hg htr hsn
  obtain _ | m:=m; omega
  subst hsn
  by_cases hc:i < st.length
  ·have hci:(i:Int) < st.length:=by omega
   have hroom:=hg.room
   have hmem:st.getD i default ∈ st:=by rw [List.getD_eq_getElem?_getD,List.getElem?_eq_getElem hc]; exact List.getElem_mem hc
   have hI:=hg.node _ hmem
   have hnl:=hg.wide _ hmem
   obtain ⟨k1,k2,k3⟩:=SW (gl:=gl) (nx:=nx) (p:=(i:Int)) hr hI ls (seen,st) (fun x c h1 h2 => hx x c h1 (hls c h2).1 (by have:=(hls c h2).2; omega)) hg
   have ktr:=XC (gl:=gl) (nx:=nx) (ns:=(st.getD i default).ns) ls hls seen st htr hc
   have loop_b:=fun {R:Type} {n:Nat} (hn:5 ≤ n) {k:Exit → List A → H → Option R} => @aL6 R L n hn hL I gl nf gf caps gcaps size nx ls (st.getD i default).ns i (fun {R n id hq k} => kc_n) (fun {R n hq k} => kc_g) hr hsz hI hx hw hls hll hnl k ls.length 0 L seen st st.length (by omega) (by omega) hg htr hc rfl rfl
   simp only [List.drop_zero,Int.natCast_zero,Nat.zero_add] at loop_b
   have ih':=ih (i + 1) m (ltG nx gl (st.getD i default).ns i ls (seen,st)).2.1 (ltG nx gl (st.getD i default).ns i ls (seen,st)).2.2 _ (by have:(ltG nx gl (st.getD i default).ns i ls (seen,st)).2.2.length + lG (ltG nx gl (st.getD i default).ns i ls (seen,st)).2.1 ≤ st.length + lG seen:=k2; omega) (by have:st.length ≤ (ltG nx gl (st.getD i default).ns i ls (seen,st)).2.2.length:=k3; omega) (by omega) k1 ktr rfl
   have e4:((i + 1:Nat):Int) = (i:Int) + 1:=by omega
   rw [e4] at ih'
   simp only [outG,outI,hc,if_true]
   clear ih hmem k1 k2 k3 ktr hg hI hx hw hls hr kc_n kc_g hnl
   generalize ltI nx gl (st.getD i default).ns (i:Int) ls (seen,st) = T at *
   generalize ltG nx gl (st.getD i default).ns (i:Int) ls (seen,st) = w at *
   obtain ⟨w0,w1,w2⟩:=w
   simp only at ih' loop_b ⊢
   have hll3:ls.length ≤ 4294967290:=by omega
   cases w0 with
   | true =>
    simp only [if_true] at loop_b
    rw [qF]
    simp only [qE,Tryz.f49,SLM,simprocAttr]
    simp -implicitDefEqProofs (maxSteps:=2000000) (disch:=try exact Dz) only [↓DN,↓kAsg,↓kRet,UP,simprocAttr,↓jA,↓hY,↓gP,PE,hci,Int.toNat_natCast,↓loop_b]
   | false =>
    simp only [Bool.false_eq_true,if_false] at loop_b ⊢
    rw [qF]
    simp only [qE,Tryz.f49,SLM,simprocAttr]
    simp -implicitDefEqProofs (maxSteps:=2000000) (disch:=try exact Dz) only [↓DN,↓kAsg,↓kRet,UP,simprocAttr,↓jA,↓hY,↓gP,PE,hci,Int.toNat_natCast,↓loop_b,↓ih']
  ·obtain rfl:i = st.length:=by omega
   simp only [outG,outI,hc,Bool.false_eq_true,if_false]
   rw [qF]
   simp only [qE,Tryz.f49,SLM,simprocAttr]
   simp -implicitDefEqProofs (maxSteps:=2000000) (disch:=try exact Dz) only [↓DN,↓kAsg,↓kRet,UP,simprocAttr,↓jA,↓hY,↓gP,PE,Int.lt_irrefl]
theorem RT {n:Int} {h:H} (h0:0 ≤ n) (h1:n ≤ 4294967296):lN env.P h 24 n n = some (.sl h.length 0 0 n.toNat,h ++ [.arr (eO (List.replicate n.toNat false)) 1 0]):=by
 have hm:n ≤ (cE:Nat):=by unfold cE; omega
 have he:bM env.P 24 = some 4:=by kernel_rfl
 have hz:bY env.P 4 = some (.d (.bool false)):=by kernel_rfl
 have hok:bU env.P 4 = true:=by kernel_rfl
 have hc:env.P.cellsOf 4 = 1:=by kernel_rfl
 simp only [lN,he,hz,aT,BO,Option.map_some,hok,h0,hm,hc,Int.le_refl,and_self,if_true,eO,List.map_replicate,List.flatten_replicate_singleton]
theorem aEl {L n:Nat} (hn:7 ≤ n) (hL:2 ^ 60 ≤ L) {I:Int → Prop} {gl:Int → Bool} {nf gf:FuncId} {caps gcaps:List D} {size:Nat} {nx:Int → Int → List Int} {ls ns:List Int}
  (kc_n:∀ {R:Type} {n id:Nat} {hq:H} {k:A → H → Option R} (x c:Int) (o:List Int),4 ≤ n → I x → 0 ≤ c → c < 6 → o.length ≤ 2147483648 → hq[id]? = some (.arr (ints o) 1 0) → aL env (aA env L n) hq nf (.d (.int .i64 x) :: .d (.int .i64 c) :: .sl id 0 0 o.length :: caps.map A.d) k = k (.sl id (nx x c).length 0 (o ++ nx x c).length) (hq.set id (.arr (ints (o ++ nx x c)) 1 (nx x c).length)))
  (kc_g:∀ {R:Type} {n:Nat} {hq:H} {k:A → H → Option R} (x:Int),2 ≤ n → I x → aL env (aA env L n) hq gf (.d (.int .i64 x) :: gcaps.map A.d) k = k (.d (.bool (gl x))) hq)
  (hr:∀ x,I x → 0 ≤ x ∧ x < size) (hsz:size ≤ 16777216) (hI:∀ x ∈ ns,I x) (hx:∀ x c,I x → 0 ≤ c → c < 6 → ∀ y ∈ nx x c,I y) (hw:∀ x c,(nx x c).length ≤ 64) (hls:∀ c ∈ ls,0 ≤ c ∧ c ≤ 5) (hll:ls.length ≤ 6) (hne:ns ≠ []) (hnl:ns.length ≤ size) :
  aA env L n 49 [.d (.int .i64 size),.d (.ivs ns.length (ints ns)),.d (.ivs ls.length (ints ls)),.d (.fn nf caps),.d (.fn gf gcaps)] [] = some (.tup [.d (.str (txt (RC nx gl ls ns size).1)),.d (.bool (RC nx gl ls ns size).2)],[]):=by
 have hs0:(0:Int) ≤ size:=by omega
 have hs1:(size:Int) ≤ 4294967296:=by omega
 have kc_v:=fun {R:Type} {n:Nat} {k:A → H → Option R} {p l:Int} (hn:4 ≤ n) => @aTb R L n k hn hL I gl gf gcaps size p l ns (fun {R n hq k} => kc_g) hI hr (by omega) (by omega) hne
 have hu:lG (List.replicate size false) = size:=by simp [lG]
 have hg0:PGood I size (List.replicate size false) []:=⟨by simp,by simp,by rw [hu]; simp,by simp⟩
 obtain ⟨g1,g2,g3⟩:=OJ (gl:=gl) hg0 hI hr (-1) 0
 have hpos:=aH6 (size:=size) hne
 rw [← (A0 gl ns (List.replicate size false) [] false).2] at hpos
 unfold RC
 generalize visG gl ns (List.replicate size false) [] false = r at *
 obtain ⟨r0,r1,r2⟩:=r
 simp only at g1 g2 g3 hpos kc_v ⊢
 have ha:addP [] (-1) 0 r1 = [⟨-1,0,r1⟩]:=by
  unfold addP
  rw [if_neg (List.length_pos_iff.1 hpos)]; rfl
 rw [ha] at g1 g2
 have htr:Tree [⟨-1,0,r1⟩]:=by
  intro k hk
  obtain rfl:k = 0:=by simpa using hk
  exact ⟨by show (-1:Int) < _; omega,by show (0:Int) ≤ 0 ∧ (0:Int) ≤ 5; decide⟩
 have loop_a:=fun {R:Type} {n:Nat} (hn:6 ≤ n) {k:Exit → List A → H → Option R} => @aLt R L n hn hL I gl nf gf caps gcaps size nx ls (fun {R n id hq k} => kc_n) (fun {R n hq k} => kc_g) hr hsz hx hw hls hll k (size + 1) 0 L r0 [⟨-1,0,r1⟩] 1 (by rw [hu] at g2; simp only [List.length_nil,Nat.zero_add] at g2; omega) (by simp) (by omega) g1 htr rfl
 simp only [Int.natCast_zero] at loop_a
 have ee:(dI [⟨-1,0,r1⟩]) = [.int .i64 (-1),.int .i64 0,.ivs r1.length (ints r1)]:=rfl
 rw [ha]
 clear g1 g2 g3 hg0 hI hx hw hls hr kc_n kc_g htr
 cases r2 with
 | true =>
  obtain _ | n:=n; omega
  rw [EB]
  simp only [yU,Tryz.f49,SLM,simprocAttr]
  simp -implicitDefEqProofs (maxSteps:=2000000) (disch:=try exact Dz) only [↓DN,↓kAsg,↓kRet,UP,simprocAttr,↓jA,↓hY,↓gP,PE,↓RT,Int.toNat_natCast,↓kc_v]
  rfl
 | false =>
  simp only [Bool.false_eq_true,if_false]
  generalize outI nx gl ls (size + 1) 0 (r0,[⟨-1,0,r1⟩]) = T at *
  generalize outG nx gl ls (size + 1) 0 (r0,[⟨-1,0,r1⟩]) = w at *
  obtain ⟨w0,w1,w2⟩:=w
  simp only at loop_a ⊢
  cases w0 with
  | true =>
   simp only [if_true] at loop_a ⊢
   obtain _ | n:=n; omega
   rw [EB]
   simp only [yU,Tryz.f49,SLM,simprocAttr]
   simp -implicitDefEqProofs (maxSteps:=2000000) (disch:=try exact Dz) only [↓DN,↓kAsg,↓kRet,UP,simprocAttr,↓jA,↓hY,↓gP,PE,↓RT,Int.toNat_natCast,↓kc_v,↓loop_a]
   rfl
  | false =>
   simp only [Bool.false_eq_true,if_false] at loop_a ⊢
   obtain _ | n:=n; omega
   rw [EB]
   simp only [yU,Tryz.f49,SLM,simprocAttr]
   simp -implicitDefEqProofs (maxSteps:=2000000) (disch:=try exact Dz) only [↓DN,↓kAsg,↓kRet,UP,simprocAttr,↓jA,↓hY,↓gP,PE,↓RT,Int.toNat_natCast,↓kc_v,↓loop_a]
   rfl
theorem eE {a:Aut} (h:AOK a):a8 a.nx ∧ pE (aC a.al).length a.nx ∧ 1 ≤ a.nx.length ∧ a.nx.length ≤ 12 ∧ a.ac.length = a.nx.length:=by
 obtain ⟨a1,a2,a3,a4⟩:=FC h
 have aw:=II h
 exact ⟨⟨by omega,fun r hr => by have:=aw r hr; have:=eY a.al; omega⟩,aw,a1,a2,a3⟩
def tabP (a:Aut):D:=.iptr [.ivs a.nx.length (ints (kL a.al a.nx))]
theorem WI {L n:Nat} (hn:1 ≤ n) (al:Int) (rs:List (List Int)) (z:Nat) (cs:List D) (hrl:rs.length ≤ 4294967296) (i:Int):aA env L n 44 [.agg [.d (.int .i64 al),.d (.ivs rs.length (aK rs)),.d (.ivs z cs)],.d (.int .i64 i)] [] = some (.d (.bool (decide (0 ≤ i) && decide (i < rs.length))),[]):=by
 by_cases h1:0 ≤ i
 ·by_cases h2:i < rs.length
  ·simp only [h1,h2,decide_true,Bool.and_self]
   obtain _ | n:=n; omega
   rw [J2]
   simp only [EU,Tryz.f44,SLM,simprocAttr]
   simp -implicitDefEqProofs (maxSteps:=2000000) (disch:=try exact Dz) only [↓DN,↓kAsg,↓kRet,UP,simprocAttr,LA,h1,h2]
  ·simp only [h1,h2,decide_true,decide_false,Bool.and_false]
   obtain _ | n:=n; omega
   rw [J2]
   simp only [EU,Tryz.f44,SLM,simprocAttr]
   simp -implicitDefEqProofs (maxSteps:=2000000) (disch:=try exact Dz) only [↓DN,↓kAsg,↓kRet,UP,simprocAttr,LA,h1,h2]
 ·simp only [h1,decide_false,Bool.false_and]
  obtain _ | n:=n; omega
  rw [J2]
  simp only [EU,Tryz.f44,SLM,simprocAttr]
  simp -implicitDefEqProofs (maxSteps:=2000000) (disch:=try exact Dz) only [↓DN,↓kAsg,↓kRet,UP,simprocAttr,LA,h1]
theorem LX {R:Type} {L n:Nat} {hq:H} {k:A → H → Option R} (hn:1 ≤ n) (al:Int) (rs:List (List Int)) (z:Nat) (cs:List D) (hrl:rs.length ≤ 4294967296) (i:Int):aL env (aA env L n) hq 44 [.agg [.d (.int .i64 al),.d (.ivs rs.length (aK rs)),.d (.ivs z cs)],.d (.int .i64 i)] k = k (.d (.bool (decide (0 ≤ i) && decide (i < rs.length)))) hq :=
 aR rfl (WI hn al rs z cs hrl i) rfl (.inl rfl)
theorem KA {R:Type} {L n:Nat} {k:A → Option R} (hn:1 ≤ n) (al:Int) (rs:List (List Int)) (z:Nat) (cs:List D) (hrl:rs.length ≤ 4294967296) (i:Int):bK (aA env L n) 44 [.agg [.d (.int .i64 al),.d (.ivs rs.length (aK rs)),.d (.ivs z cs)],.d (.int .i64 i)] k = k (.d (.bool (decide (0 ≤ i) && decide (i < rs.length)))) :=
 fM (WI hn al rs z cs hrl i) rfl
theorem EQ {R:Type} {L n:Nat} {hq:H} {k:A → H → Option R} {id0 g0 o0 len0:Nat} {al:Int} {z:Nat} {cs:List D} {i:Int}:aL env (aA env L n) hq 44 [.agg [.d (.int .i64 al),.sl id0 g0 o0 len0,.d (.ivs z cs)],.d (.int .i64 i)] k = match box (dA hq [.agg [.d (.int .i64 al),.sl id0 g0 o0 len0,.d (.ivs z cs)],.d (.int .i64 i)]) with
  | .mk (some fs) => bK (aA env L n) 44 fs fun r => k r hq
  | _ => none:=aU rU
theorem DZ {R:Type} {L n:Nat} {hq:H} {k:A → H → Option R} {id1 g1 o1 len1:Nat} {al:Int} {rs:List (List Int)} {i:Int}:aL env (aA env L n) hq 44 [.agg [.d (.int .i64 al),.d (.ivs rs.length (aK rs)),.sl id1 g1 o1 len1],.d (.int .i64 i)] k = match box (dA hq [.agg [.d (.int .i64 al),.d (.ivs rs.length (aK rs)),.sl id1 g1 o1 len1],.d (.int .i64 i)]) with
  | .mk (some fs) => bK (aA env L n) 44 fs fun r => k r hq
  | _ => none:=aU rU
theorem D1 {R:Type} {L n:Nat} {hq:H} {k:A → H → Option R} {id1 g1 o1 len1:Nat} {id0 g0 o0 len0:Nat} {al:Int} {i:Int}:aL env (aA env L n) hq 44 [.agg [.d (.int .i64 al),.sl id0 g0 o0 len0,.sl id1 g1 o1 len1],.d (.int .i64 i)] k = match box (dA hq [.agg [.d (.int .i64 al),.sl id0 g0 o0 len0,.sl id1 g1 o1 len1],.d (.int .i64 i)]) with
  | .mk (some fs) => bK (aA env L n) 44 fs fun r => k r hq
  | _ => none:=aU rU
def nxS (a:Aut) (v l:Int):List Int:=[goI a.al a.nx v l]
def glS (st v:Int):Bool:=decide (v = st)
def inS (a:Aut) (x:Int):Prop:=0 ≤ x ∧ x < (a.nx.length:Int)
def oneG (a:Aut) (st:Int):List Int × Bool:=RC (nxS a) (glS st) (aC a.al) [0] a.nx.length
def accG (a:Aut) (st:Int):List Int × Bool:=if gC a.al a.nx a.ac = true then oneG a st else ([],false)
theorem PY {a:Aut} (ha:AOK a) {v c:Int} (h0:0 ≤ v) (h1:v < (a.nx.length:Int)) (hc:0 ≤ c ∧ c < 6):∀ m ∈ nxS a v c,0 ≤ m ∧ m < (a.nx.length:Int):=by
 intro m hm
 simp only [nxS,List.mem_singleton] at hm
 subst hm
 exact YI ha h0 h1 hc.1 hc.2
theorem I5 {a:Aut} (ha:AOK a) (st:Int):M2 (Hits (nxS a) (aC a.al) [0] (glS st)) (oneG a st):=by
 obtain ⟨_,_,h1,_,_⟩:=eE ha
 refine aSY (EW _) (fun p c h0 h1 hc => ?_) (fun n hn => ?_) (by simp)
 ·have:=jL c hc
  exact PY ha h0 h1 (by omega)
 ·simp only [List.mem_singleton] at hn
  omega
theorem aGj {a:Aut} (ha:AOK a):∀ (w:List Int) (v u:Int),0 ≤ v → v < (a.nx.length:Int) → Path (nxS a) (aC a.al) v w u → 0 ≤ u ∧ u < (a.nx.length:Int)
 | [],v,u,h0,h1,h => by simp only [Path] at h; subst h; exact ⟨h0,h1⟩
 | l :: w,v,u,h0,h1,h => by
  simp only [Path] at h
  obtain ⟨hl,m,hm,hp⟩:=h
  have:=jL l hl
  have hr:=PY ha h0 h1 ⟨this.1,by omega⟩ m hm
  exact aGj ha w m u hr.1 hr.2 hp
theorem aS7 {a:Aut} (ha:AOK a) {st:Int} (h:¬ (0 ≤ st ∧ st < (a.nx.length:Int))):oneG a st = ([],false):=by
 obtain ⟨_,_,h1,_,_⟩:=eE ha
 rcases I5 ha st with ⟨_,⟨u,⟨s,hs,hp⟩,hg⟩,_⟩ | ⟨he,_⟩
 ·simp only [List.mem_singleton] at hs
  subst hs
  have:=aGj ha _ _ _ (by omega) (by omega) hp
  simp only [glS,decide_eq_true_eq] at hg
  subst hg
  exact absurd this h
 ·exact he
theorem aT9 {v:Int}:ints [v] = [.int .i64 v]:=rfl
theorem Y9 {L n:Nat} (hn:1 ≤ n) {a:Aut} (ha:AOK a) {x c:Int} (hx:inS a x) (hc0:0 ≤ c) (hc6:c < 6) (o:List Int) (ho:o.length ≤ 2147483648) :
  aA env L n 50 [.d (.int .i64 x),.d (.int .i64 c),.sl 0 0 0 o.length,.d (tabP a)] [.arr (ints o) 1 0] = some (.sl 0 (nxS a x c).length 0 (o ++ nxS a x c).length,[.arr (ints (o ++ nxS a x c)) 1 (nxS a x c).length]):=by
 obtain ⟨sa,wa,a1,a2,a3⟩:=eE ha
 have ga:=YI ha hx.1 hx.2 hc0 hc6
 have hla:=sR a.al a.nx
 have hta:=aES (al:=a.al) hx.1 hx.2 hc0 hc6
 rw [List.drop_drop] at hta
 unfold nxS tabP
 obtain ⟨x0,x1⟩:=hx
 have d1:x.toNat * 6 ≤ a.nx.length * 6:=by omega
 have d3:c.toNat < a.nx.length * 6 - x.toNat * 6:=by omega
 generalize goI a.al a.nx x c = g1 at *
 have hl1:(List.length [g1]) = 1:=rfl
 clear ha sa wa
 obtain _ | n:=n; omega
 rw [YT]
 simp only [JP,Tryz.f50,SLM,simprocAttr]
 simp -implicitDefEqProofs (maxSteps:=2000000) (disch:=try exact Dz) only [↓DN,↓kAsg,↓kRet,UP,simprocAttr,hla,hta,x0,x1,d1,d3,u_t6,u_a6,c_a6,MG,Int.toNat_natCast,List.length_drop,List.drop_drop,bX,eU,List.length_append,hl1]
theorem aLT {R:Type} {L n id:Nat} {hq:H} {k:A → H → Option R} (hn:1 ≤ n) {a:Aut} (ha:AOK a) (x c:Int) (o:List Int) (hx:inS a x) (hc0:0 ≤ c) (hc6:c < 6) (ho:o.length ≤ 2147483648) (hid:hq[id]? = some (.arr (ints o) 1 0)) :
  aL env (aA env L n) hq 50 (.d (.int .i64 x) :: .d (.int .i64 c) :: .sl id 0 0 o.length :: [tabP a].map A.d) k
  = k (.sl id (nxS a x c).length 0 (o ++ nxS a x c).length) (hq.set id (.arr (ints (o ++ nxS a x c)) 1 (nxS a x c).length)):=by
 refine aLP hid (by simp [idsL,idsA]) tY ?_
 have hpl:aJ [id] id = some 0:=by simp [aJ]
 simp only [List.map_cons,List.map_nil,aF,mapA,hpl]
 exact Y9 hn ha hx hc0 hc6 o ho
theorem XU {L n:Nat} (hn:1 ≤ n) (x st:Int):aA env L n 24 [.d (.int .i64 x),.d (.iptr [.int .i64 st])] [] = some (.d (.bool (glS st x)),[]):=by
 unfold glS
 by_cases h:x = st
 ·subst h
  obtain _ | n:=n; omega
  rw [FG]
  simp only [xL,Tryz.f24,SLM,simprocAttr]
  simp -implicitDefEqProofs (maxSteps:=2000000) (disch:=try exact Dz) only [↓DN,↓kAsg,↓kRet,UP,simprocAttr,LA,beq_self_eq_true,decide_true]
 ·have h2:(x == st) = false:=by simpa using h
  have h3:decide (x = st) = false:=by simpa using h
  obtain _ | n:=n; omega
  rw [FG]
  simp only [xL,Tryz.f24,SLM,simprocAttr]
  simp -implicitDefEqProofs (maxSteps:=2000000) (disch:=try exact Dz) only [↓DN,↓kAsg,↓kRet,UP,simprocAttr,LA,h2,h3]
theorem aEg {L n:Nat} (hn:8 ≤ n) (hL:2 ^ 60 ≤ L) {a:Aut} (ha:AOK a) (st:Int) :
  aA env L n 23 [.agg [.d (.int .i64 a.al),.d (.ivs a.nx.length (aK a.nx)),.d (.ivs a.ac.length (aH a.ac))],.d (.fn 24 [.iptr [.int .i64 st]])] [] = some (.tup [.d (.str (txt (oneG a st).1)),.d (.bool (oneG a st).2)],[]):=by
 obtain ⟨sa,wa,a1,a2,a3⟩:=eE ha
 have hp:=fun {n:Nat} (hn:7 ≤ n) => @aEl L n hn hL (inS a) (glS st) 50 24 [tabP a] [.iptr [.int .i64 st]] a.nx.length (nxS a) (aC a.al) [0]
  (fun {R n id hq k} x c o h4 hI h0 h6 ho hid => aLT (by omega) ha x c o hI h0 h6 ho hid)
  (fun {R n hq k} x h2 hI => aR rfl (XU (by omega) x st) rfl (.inl rfl))
  (fun x hI => hI) (by omega) (fun x hx => by simp at hx; subst hx; exact ⟨by omega,by omega⟩) (fun x c hI h0 h6 y hy => PY ha hI.1 hI.2 ⟨h0,h6⟩ y hy) (fun x c => by simp [nxS]) jL (eY a.al) (by simp) (by simp only [List.length_cons,List.length_nil]; omega)
 have kl_p:=fun {R:Type} {n:Nat} {k:A → Option R} (hn:7 ≤ n) => fM (k:=k) (hp (n:=n) hn) rfl
 have er:RC (nxS a) (glS st) (aC a.al) [0] a.nx.length = oneG a st:=rfl
 rw [er] at kl_p
 simp only [aT9,List.length_cons,List.length_nil,Nat.zero_add,tabP] at kl_p
 have hla:=sR a.al a.nx
 have kv_l:=fun {R:Type} {n:Nat} {hq:H} {args:List A} {k:A → H → Option R} => aU (E:=env) (call:=aA env L n) (h:=hq) (k:=k) (args:=args) zE
 clear hp ha er
 generalize oneG a st = r at *
 obtain _ | n:=n; omega
 rw [aEe]
 simp only [SU,Tryz.f23,SLM,simprocAttr]
 simp -implicitDefEqProofs (maxSteps:=2000000) (disch:=try exact Dz) only [↓DN,↓kAsg,↓kRet,UP,simprocAttr,↓j2,↓bQ,LA,sa,wa,↓kv_l,↓kl_p,Int.toNat_natCast,dM,hla]
theorem NP {L n:Nat} (hn:9 ≤ n) (a:Aut) (st:Int) (hs:a8 a.nx) (hac:a.ac.length ≤ 4294967296) (hL:2 ^ 60 ≤ L):aA env L n 10 [.agg [.d (.int .i64 a.al),.d (.ivs a.nx.length (aK a.nx)),.d (.ivs a.ac.length (aH a.ac))],.d (.int .i64 st)] [] = some (.tup [.d (.str (txt (accG a st).1)),.d (.bool (accG a st).2)],[]):=by
 have hrl:=hs.1
 unfold accG
 cases hv:gC a.al a.nx a.ac with
 | false =>
  simp only [Bool.false_eq_true,if_false,txt,List.map_nil]
  obtain _ | n:=n; omega
  rw [L4]
  simp only [EF,Tryz.f10,SLM,simprocAttr]
  simp -implicitDefEqProofs (maxSteps:=2000000) (disch:=try exact Dz) only [↓DN,↓kAsg,↓kRet,UP,simprocAttr,↓bN,↓bO,↓bD,↓bC,↓bB,LA,hv]
 | true =>
  simp only [if_true]
  have kl_b:=fun {R:Type} {n:Nat} {k:A → Option R} (hn:8 ≤ n) => fM (call:=aA env L n) (k:=k) (f:=23) (@aEg L n hn hL a hv st) rfl
  have kv_l:=fun {R:Type} {n:Nat} {hq:H} {args:List A} {k:A → H → Option R} => aU (E:=env) (call:=aA env L n) (h:=hq) (k:=k) (args:=args) y7
  generalize oneG a st = r at *
  obtain _ | n:=n; omega
  rw [L4]
  simp only [EF,Tryz.f10,SLM,simprocAttr]
  simp -implicitDefEqProofs (maxSteps:=2000000) (disch:=try exact Dz) only [↓DN,↓kAsg,↓kRet,UP,simprocAttr,↓bN,↓bO,↓bD,↓bC,↓bB,LA,hv,↓kv_l,↓kl_b]
theorem iJ {R:Type} {L n:Nat} {hq:H} {k:A → H → Option R} (hn:9 ≤ n) (a:Aut) (st:Int) (hs:a8 a.nx) (hac:a.ac.length ≤ 4294967296) (hL:2 ^ 60 ≤ L):aL env (aA env L n) hq 10 [.agg [.d (.int .i64 a.al),.d (.ivs a.nx.length (aK a.nx)),.d (.ivs a.ac.length (aH a.ac))],.d (.int .i64 st)] k = k (.tup [.d (.str (txt (accG a st).1)),.d (.bool (accG a st).2)]) hq :=
 aR rfl (NP hn a st hs hac hL) rfl (.inl rfl)
theorem fJ {R:Type} {L n:Nat} {k:A → Option R} (hn:9 ≤ n) (a:Aut) (st:Int) (hs:a8 a.nx) (hac:a.ac.length ≤ 4294967296) (hL:2 ^ 60 ≤ L):bK (aA env L n) 10 [.agg [.d (.int .i64 a.al),.d (.ivs a.nx.length (aK a.nx)),.d (.ivs a.ac.length (aH a.ac))],.d (.int .i64 st)] k = k (.tup [.d (.str (txt (accG a st).1)),.d (.bool (accG a st).2)]) :=
 fM (NP hn a st hs hac hL) rfl
theorem eH {R:Type} {L n:Nat} {hq:H} {k:A → H → Option R} {id0 g0 o0 len0:Nat} {a:Aut} {st:Int}:aL env (aA env L n) hq 10 [.agg [.d (.int .i64 a.al),.sl id0 g0 o0 len0,.d (.ivs a.ac.length (aH a.ac))],.d (.int .i64 st)] k = match box (dA hq [.agg [.d (.int .i64 a.al),.sl id0 g0 o0 len0,.d (.ivs a.ac.length (aH a.ac))],.d (.int .i64 st)]) with
  | .mk (some fs) => bK (aA env L n) 10 fs fun r => k r hq
  | _ => none:=aU oF
theorem eI {R:Type} {L n:Nat} {hq:H} {k:A → H → Option R} {id1 g1 o1 len1:Nat} {a:Aut} {st:Int}:aL env (aA env L n) hq 10 [.agg [.d (.int .i64 a.al),.d (.ivs a.nx.length (aK a.nx)),.sl id1 g1 o1 len1],.d (.int .i64 st)] k = match box (dA hq [.agg [.d (.int .i64 a.al),.d (.ivs a.nx.length (aK a.nx)),.sl id1 g1 o1 len1],.d (.int .i64 st)]) with
  | .mk (some fs) => bK (aA env L n) 10 fs fun r => k r hq
  | _ => none:=aU oF
theorem eG {R:Type} {L n:Nat} {hq:H} {k:A → H → Option R} {id1 g1 o1 len1:Nat} {id0 g0 o0 len0:Nat} {a:Aut} {st:Int}:aL env (aA env L n) hq 10 [.agg [.d (.int .i64 a.al),.sl id0 g0 o0 len0,.sl id1 g1 o1 len1],.d (.int .i64 st)] k = match box (dA hq [.agg [.d (.int .i64 a.al),.sl id0 g0 o0 len0,.sl id1 g1 o1 len1],.d (.int .i64 st)]) with
  | .mk (some fs) => bK (aA env L n) 10 fs fun r => k r hq
  | _ => none:=aU oF
end Ev
end Go.Proofs.YtppdfjdfjfoddaaGreat
