/-
  A search for a goal, walked: the word that was found, the bU.
-/
import Derived.Test.YtppdfjdfjfoddaaDoorPathY
import Derived.Test.YtppdfjdfjfoddaaDoorTwo
import Derived.Test.YtppdfjdfjfoddaaDoorAutH
import Derived.Test.YtppdfjdfjfoddaaDoorWords
import Derived.Test.YtppdfjdfjfoddaaDoorEvPrim
import Derived.Test.YtppdfjdfjfoddaaDoorBfs
import Derived.Test.YtppdfjdfjfoddaaDoorWrongC
import Derived.Tactics
set_option linter.unusedSimpArgs false
set_option linter.unusedVariables false
set_option maxRecDepth 8000
set_option maxHeartbeats 4000000
namespace Go.Proofs.YtppdfjdfjfoddaaDoor
namespace Ev
theorem aQV {l:List UInt8} {i j p:Nat} (hi:i < l.length) (hj:j < l.length):(swp l i j).getD p 0 = if p = j then l.getD i 0 else if p = i then l.getD j 0 else l.getD p 0:=by
 unfold swp
 simp only [List.getD_eq_getElem?_getD,List.getElem?_set,List.length_set]
 by_cases h1:p = j
 ·subst h1
  simp [hj]
 ·have h1':¬ j = p:=fun h => h1 h.symm
  by_cases h2:p = i
  ·subst h2
   simp [hi,h1,h1']
  ·have h2':¬ i = p:=fun h => h2 h.symm
   simp only [h1,h1',h2,h2',if_false]
theorem aGF:∀ (q:Nat) (i j:Int) (l:List UInt8),0 ≤ i → j < l.length → j - i ≤ q → ∀ p:Nat,p < l.length → (revG q i j l).2.2.getD p 0 = if i ≤ p ∧ (p:Int) ≤ j then l.getD (i + j - p).toNat 0 else l.getD p 0
 | 0,i,j,l,h0,h1,h2,p,hp => by
  unfold revG
  split
  ·rename_i h
   rw [show (i + j - p).toNat = p by omega]
  ·rfl
 | q + 1,i,j,l,h0,h1,h2,p,hp => by
  unfold revG
  split
  ·rename_i hlt
   have hg:=fun (x:Nat) => aQV (l:=l) (i:=i.toNat) (j:=j.toNat) (p:=x) (by omega) (by omega)
   rw [aGF q (i + 1) (j - 1) _ (by omega) (by rw [CS]; omega) (by omega) p (by rw [CS]; exact hp)]
   by_cases c1:i + 1 ≤ (p:Int) ∧ (p:Int) ≤ j - 1
   ·rw [if_pos c1,hg,if_neg (by omega:¬ (i + 1 + (j - 1) - (p:Int)).toNat = j.toNat),if_neg (by omega:¬ (i + 1 + (j - 1) - (p:Int)).toNat = i.toNat),if_pos (by omega:i ≤ (p:Int) ∧ (p:Int) ≤ j)]
    congr 1
    omega
   ·rw [if_neg c1,hg]
    by_cases c2:p = j.toNat
    ·rw [if_pos c2,if_pos (by omega:i ≤ (p:Int) ∧ (p:Int) ≤ j)]
     congr 1
     omega
    ·rw [if_neg c2]
     by_cases c3:p = i.toNat
     ·rw [if_pos c3,if_pos (by omega:i ≤ (p:Int) ∧ (p:Int) ≤ j)]
      congr 1
      omega
     ·rw [if_neg c3,if_neg (by omega:¬ (i ≤ (p:Int) ∧ (p:Int) ≤ j))]
  ·rename_i hlt
   split
   ·rename_i h
    rw [show (i + j - p).toNat = p by omega]
   ·rfl
theorem aOo (l:List UInt8):(revG (l.length + 1) 0 ((l.length:Int) - 1) l).2.2 = l.reverse:=by
 have hl:=(aAj (l.length + 1) 0 ((l.length:Int) - 1) l (Int.le_refl _) (by omega)).1
 apply List.ext_getElem
 ·rw [hl,List.length_reverse]
 ·intro p h1 h2
  rw [hl] at h1
  have:=aGF (l.length + 1) 0 ((l.length:Int) - 1) l (Int.le_refl _) (by omega) (by omega) p h1
  rw [if_pos (by omega),List.getD_eq_getElem?_getD,List.getElem?_eq_getElem (by rw [hl]; exact h1),List.getD_eq_getElem?_getD,List.getElem?_eq_getElem (by omega)] at this
  simp only [Option.getD_some] at this
  rw [this,List.getElem_reverse]
  congr 1
  omega
theorem aDs {l:List PStep} {k:Nat} (h:k < l.length):(((dH l).drop (k * 3)).map A.d).head? = some (.d (.int .i64 (l.getD k default).par)):=by
 rw [C9,nB h (d:=default)]; rfl
theorem aMR {l:List PStep} {k:Nat} (h:k < l.length):(((dH l).drop (k * 3 + 1)).map A.d).head? = some (.d (.int .i64 (l.getD k default).lt)):=by
 rw [← List.drop_drop,C9,nB h (d:=default)]; rfl
def aFh (st:List PStep):Nat → Nat → Nat
 | 0,i => i
 | j + 1,i => if 0 ≤ (st.getD i default).par then aFh st j (st.getD i default).par.toNat else i
def Tree (st:List PStep):Prop:=∀ k,k < st.length → ((st.getD k default).par < (k:Int)) ∧ (0 ≤ (st.getD k default).lt ∧ (st.getD k default).lt ≤ 5)
theorem aDU (st:List PStep):∀ (j i:Nat),(j8 st j i).length ≤ j
 | 0,i => Nat.le_refl _
 | j + 1,i => by
  unfold j8
  split
  ·have:=aDU st j (st.getD i default).par.toNat
   simp only [List.length_append,List.length_cons,List.length_nil]
   omega
  ·simp
theorem aCa {R:Type} {L n:Nat} (hn:2 ≤ n) {st:List PStep} (ht:Tree st) (hs:st.length ≤ 16777216) {k:Exit → List A → H → Option R}:∀ (j i m:Nat) (o:List UInt8) (len:Nat) (hi:i < st.length) (hj:i < j) (hm:j ≤ m) (hlen:len = o.length) (ho:o.length + i ≤ 20000000),
  aU env (aA env L n) L 0 [0,0,0,2] (U1 (Z1 (U2 (U1 (Z16 (Z8 (Z2 (Z1 ([]))))))))) (rO 0) (Z1 (U1 (Z2 (Z1 (U16 (U8 (U2 (U1 ([]))))))))) m (.d (.ivs st.length (dH st)) :: Y1 (.d (.str []) :: .sl 0 0 0 len :: .d (.int .i64 ((i:Int))) :: Y16 (Y8 (Y2 (Y1 ([])))))) [.arr (bH o) 1 0] k
  = k (.exit 0) (.d (.ivs st.length (dH st)) :: Y1 (.d (.str []) :: .sl 0 0 0 (o ++ (txt (j8 st j i)).reverse).length :: .d (.int .i64 (((aFh st j i:Nat):Int))) :: Y16 (Y8 (Y2 (Y1 ([])))))) [.arr (bH (o ++ (txt (j8 st j i)).reverse)) 1 0]:=by
 intro j
 induction j with
 | zero => intro i m o len hi hj; omega
 | succ j ih =>
  intro i m o len hi hj hm hlen ho
  obtain _ | m:=m; omega
  subst hlen
  obtain ⟨t1,t2,t3⟩:=ht i hi
  have hc:(i:Int) < st.length:=by omega
  by_cases hp:0 ≤ (st.getD i default).par
  ·have ih':=ih (st.getD i default).par.toNat m (o ++ [LS (st.getD i default).lt]) (o.length + 1) (by omega) (by omega) (by omega) (by simp) (by rw [List.length_append,List.length_singleton]; omega)
   rw [show (((st.getD i default).par.toNat:Nat):Int) = (st.getD i default).par by omega] at ih'
   have h5:(((st.getD i default).par.toNat:Nat):Int) = (st.getD i default).par:=by omega
   unfold j8 aFh
   rw [if_pos hp,if_pos hp]
   clear ih
   have e:(txt (j8 st j (st.getD i default).par.toNat ++ [(st.getD i default).lt])).reverse = [LS (st.getD i default).lt] ++ (txt (j8 st j (st.getD i default).par.toNat)).reverse:=by simp [txt]
   rw [e,← List.append_assoc]
   have g1:=aDs hi
   have g2:=aMR hi
   generalize st.getD i default = s at *
   rw [FJ]
   simp only [CD,Tryd.f93,SLM,simprocAttr]
   simp -implicitDefEqProofs (maxSteps:=2000000) (disch:=try exact Dz) only [↓DN,↓kAsg,↓kRet,UP,simprocAttr,PE,List.length_drop,List.drop_drop,hc,hp,t2,t3,g1,g2,Int.toNat_natCast,↓y6,N8,aHh,aQP,aQG,VQ,oM,DH,M0,↓ih']
  ·unfold j8 aFh
   rw [if_neg hp,if_neg hp]
   have g1:=aDs hi
   simp only [txt,List.map_nil,List.reverse_nil,List.append_nil]
   rw [FJ]
   simp only [CD,Tryd.f93,SLM,simprocAttr]
   simp -implicitDefEqProofs (maxSteps:=2000000) (disch:=try exact Dz) only [↓DN,↓kAsg,↓kRet,UP,simprocAttr,↓y6,PE,hc,hp,g1,Int.toNat_natCast]
theorem RA {L n:Nat} (hn:3 ≤ n) (st:List PStep) (ht:Tree st) (hs:st.length ≤ 16777216) (h0:0 < st.length) (hL:2 ^ 60 ≤ L):aA env L n 93 [.d (.ivs st.length (dH st))] [] = some (.d (.str (LR st)),[]):=by
 have loop_w:=fun {R:Type} {n:Nat} {k:Exit → List A → H → Option R} (hn:2 ≤ n) => @aCa R L n hn st ht hs k st.length (st.length - 1) L [] 0 (by omega) (by omega) (by omega) rfl (by simp; omega)
 simp only [List.nil_append,aIZ] at loop_w
 have hwl:=aDU st st.length (st.length - 1)
 have hb:(txt (j8 st st.length (st.length - 1))).reverse.length ≤ 2147483648:=by simp [txt]; omega
 have hrr:(txt (j8 st st.length (st.length - 1))).reverse.reverse = LR st:=by rw [List.reverse_reverse]; rfl
 have hwlen:(txt (j8 st st.length (st.length - 1))).reverse.length = (LR st).length:=by simp [LR]
 generalize (txt (j8 st st.length (st.length - 1))).reverse = w at *
 have e1:IntKind.i64.wrap ((st.length:Int) - 1) = ((st.length - 1:Nat):Int):=by
  rw [show (st.length:Int) - 1 = ((st.length - 1:Nat):Int) by omega]
  exact HG (by omega) (by omega)
 have kc_r:=fun {R:Type} {n id g:Nat} {hq:H} {k:A → H → Option R} (hn:1 ≤ n) (hi:hq[id]? = some (.arr (bH w) 1 g)) => @aRo R L n id g hq k hn w hi hb hL
 have er:=aOo w
 rw [hrr] at er
 simp only [er] at kc_r
 simp only [hwlen] at kc_r
 simp only [hwlen] at loop_w
 have h1:(1:Int) ≤ st.length:=by omega
 obtain _ | n:=n; omega
 rw [aE7]
 simp only [SA,Tryd.f93,SLM,simprocAttr]
 simp -implicitDefEqProofs (maxSteps:=2000000) (disch:=try exact Dz) only [↓DN,↓kAsg,↓kRet,UP,simprocAttr,↓y6,PE,↓loop_w,e1,h1,↓kc_r,↓aCJ]
theorem iO {R:Type} {L n:Nat} {hq:H} {k:A → H → Option R} (hn:3 ≤ n) (st:List PStep) (ht:Tree st) (hs:st.length ≤ 16777216) (h0:0 < st.length) (hL:2 ^ 60 ≤ L):aL env (aA env L n) hq 93 [.d (.ivs st.length (dH st))] k = k (.d (.str (LR st))) hq :=
 aV rfl (RA hn st ht hs h0 hL) rfl (.inl rfl)
theorem hS {R:Type} {L n:Nat} {k:A → Option R} (hn:3 ≤ n) (st:List PStep) (ht:Tree st) (hs:st.length ≤ 16777216) (h0:0 < st.length) (hL:2 ^ 60 ≤ L):aW (aA env L n) 93 [.d (.ivs st.length (dH st))] k = k (.d (.str (LR st))) :=
 kO (RA hn st ht hs h0 hL) rfl
theorem gO {R:Type} {L n:Nat} {hq:H} {k:A → H → Option R} {id0 g0 o0 len0:Nat} :aL env (aA env L n) hq 93 [.sl id0 g0 o0 len0] k = match box (a5 hq [.sl id0 g0 o0 len0]) with
  | .mk (some fs) => aW (aA env L n) 93 fs fun r => k r hq
  | _ => none:=aM AK
theorem aGd {st:List PStep} {p l:Int} {f:List Int}:st.length ≤ (addP st p l f).length:=by unfold addP; split <;> simp
theorem aHb {st:List PStep} {i:Nat} {l:Int} {f:List Int} (ht:Tree st) (hi:i < st.length) (hl:0 ≤ l ∧ l ≤ 5):Tree (addP st i l f):=by
 unfold addP
 split
 ·exact ht
 ·intro k hk
  simp only [List.length_append,List.length_cons,List.length_nil] at hk
  by_cases h:k < st.length
  ·rw [nG h]; exact ht k h
  ·obtain rfl:k = st.length:=by omega
   rw [VD]
   exact ⟨by show (i:Int) < _; omega,hl⟩
theorem aJG {R:Type} {L n:Nat} (hn:5 ≤ n) (hL:2 ^ 60 ≤ L) {I:Int → Prop} {gl:Int → Bool} {nf gf:FuncId} {caps gcaps:List D} {size:Nat} {nx:Int → Int → List Int} {ls ns:List Int} {ii:Nat}
  (kc_n:∀ {R:Type} {n id:Nat} {hq:H} {k:A → H → Option R} (x c:Int) (o:List Int),4 ≤ n → I x → 0 ≤ c → c < 6 → o.length ≤ 2147483648 → hq[id]? = some (.arr (ints o) 1 0) → aL env (aA env L n) hq nf (.d (.int .i64 x) :: .d (.int .i64 c) :: .sl id 0 0 o.length :: caps.map A.d) k = k (.sl id (nx x c).length 0 (o ++ nx x c).length) (hq.set id (.arr (ints (o ++ nx x c)) 1 (nx x c).length)))
  (kc_g:∀ {R:Type} {n:Nat} {hq:H} {k:A → H → Option R} (x:Int),2 ≤ n → I x → aL env (aA env L n) hq gf (.d (.int .i64 x) :: gcaps.map A.d) k = k (.d (.bool (gl x))) hq)
  (hr:∀ x,I x → 0 ≤ x ∧ x < size) (hsz:size ≤ 16777216) (hI:∀ x ∈ ns,I x) (hx:∀ x c,I x → 0 ≤ c → c < 6 → ∀ y ∈ nx x c,I y) (hw:∀ x c,(nx x c).length ≤ 64) (hls:∀ c ∈ ls,0 ≤ c ∧ c ≤ 5) (hll:ls.length ≤ 6) (hnl:ns.length ≤ size) {k:Exit → List A → H → Option R}:∀ (j q m:Nat) (seen:List Bool) (st:List PStep) (sn:Nat) (hi:q + j = ls.length) (hm:j < m) (hg:PGood I size seen st) (htr:Tree st) (hii:ii < st.length) (hns:(st.getD ii default).ns = ns) (hsn:sn = st.length),
  aU env (aA env L n) L 0 [0,0,0,0,0,0,0,0,0,0,0,0,0,0,0,0,0,0,2] (Z2 (U2 (Z4 (Z2 (U2 (Z1 (U2 (U1 (Z1 (U2 (Z8 (Z4 (Z2 (U2 (U1 (Z4 (Z2 (Z1 (U2 (U1 (Z16 (Z1 ([]))))))))))))))))))))))) (eT 1) (U2 (Z2 (U4 (U2 (Z2 (U1 (Z2 (Z1 (U16 (U1 (Z2 (Z1 (U16 (U8 (U2 (U1 ([]))))))))))))))))) m (Y2 (.d (.ivs ls.length (ints ls)) :: .d (.fn nf caps) :: Y4 (Y2 (.d (.str []) :: .d (.bool false) :: Y1 (.ptr 0 0 0 :: .clo 92 [.ptr 1 0 0,.ptr 2 0 0,.ptr 0 0 0] :: .d (.int .i64 ((ii:Int))) :: Y16 (Y1 (.d (.ivs ls.length (ints ls)) :: .d (.int .i64 (ls.length)) :: .d (.int .i64 ((q:Int))) :: Y16 (Y8 (Y2 (Y1 ([]))))))))))) [.box [.sl 3 0 0 sn],.box [.sl 4 0 0 size],.box [.d (.fn gf gcaps)],.arr (dH st) 3 0,.arr (eU seen) 1 0] k
  = if (ltG nx gl ns ii (ls.drop q) (seen,st)).1 = true then
    k .ret (Y2 (.d (.ivs ls.length (ints ls)) :: .d (.fn nf caps) :: Y4 (Y2 (.d (.str ((LR (ltG nx gl ns ii (ls.drop q) (seen,st)).2.2))) :: .d (.bool true) :: Y1 (.ptr 0 0 0 :: .clo 92 [.ptr 1 0 0,.ptr 2 0 0,.ptr 0 0 0] :: .d (.int .i64 ((ii:Int))) :: Y16 (Y1 (.d (.ivs ls.length (ints ls)) :: .d (.int .i64 (ls.length)) :: .d (.int .i64 (((q + ltI nx gl ns ii (ls.drop q) (seen,st):Nat):Int))) :: Y16 (Y8 (Y2 (Y1 ([]))))))))))) [.box [.sl 3 0 0 (ltG nx gl ns ii (ls.drop q) (seen,st)).2.2.length],.box [.sl 4 0 0 size],.box [.d (.fn gf gcaps)],.arr (dH (ltG nx gl ns ii (ls.drop q) (seen,st)).2.2) 3 0,.arr (eU (ltG nx gl ns ii (ls.drop q) (seen,st)).2.1) 1 0]
   else k (.exit 2) (Y2 (.d (.ivs ls.length (ints ls)) :: .d (.fn nf caps) :: Y4 (Y2 (.d (.str []) :: .d (.bool false) :: Y1 (.ptr 0 0 0 :: .clo 92 [.ptr 1 0 0,.ptr 2 0 0,.ptr 0 0 0] :: .d (.int .i64 ((ii:Int))) :: Y16 (Y1 (.d (.ivs ls.length (ints ls)) :: .d (.int .i64 (ls.length)) :: .d (.int .i64 (ls.length)) :: Y16 (Y8 (Y2 (Y1 ([]))))))))))) [.box [.sl 3 0 0 (ltG nx gl ns ii (ls.drop q) (seen,st)).2.2.length],.box [.sl 4 0 0 size],.box [.d (.fn gf gcaps)],.arr (dH (ltG nx gl ns ii (ls.drop q) (seen,st)).2.2) 3 0,.arr (eU (ltG nx gl ns ii (ls.drop q) (seen,st)).2.1) 1 0]:=by
 intro j
 induction j with
 | zero =>
  intro q m seen st sn hi hm hg htr hii hns hsn
  obtain _ | m:=m; omega
  obtain rfl:q = ls.length:=by omega
  subst hsn
  rw [tH]
  simp only [sV,Tryd.f73,SLM,simprocAttr]
  simp -implicitDefEqProofs (maxSteps:=2000000) (disch:=try exact Dz) only [↓DN,↓kAsg,↓kRet,UP,simprocAttr,↓iO,↓hS,↓gO,PE,Int.lt_irrefl]
  simp only [List.drop_length,ltG,Bool.false_eq_true,if_false]
 | succ j ih =>
  intro q m seen st sn hi hm hg htr hii hns hsn
  obtain _ | m:=m; omega
  subst hsn
  have hc:(q:Int) < ls.length:=by omega
  have hk:q < ls.length:=by omega
  have hmem:ls.getD q 0 ∈ ls:=by rw [List.getD_eq_getElem?_getD,List.getElem?_eq_getElem hk]; exact List.getElem_mem hk
  obtain ⟨c0,c5⟩:=hls _ hmem
  have c6:ls.getD q 0 < 6:=by omega
  have hiI:(ii:Int) < st.length:=by omega
  have hroom:=hg.room
  have hstl:st.length ≤ 4294967290:=by omega
  rw [nB hk (d:=0)]
  have hI2:∀ y ∈ flat nx ns (ls.getD q 0),I y:=by
   intro y hy
   obtain ⟨x,h1,h2⟩:=List.mem_flatMap.1 hy
   exact hx x (ls.getD q 0) (hI x h1) c0 c6 y h2
  have hfl:=aGn (c:=ls.getD q 0) hw ns
  have hfl2:(flat nx ns (ls.getD q 0)).length ≤ 4294967290:=by omega
  obtain ⟨g1,g2,g3⟩:=MN (gl:=gl) hg hI2 hr (ii:Int) (ls.getD q 0)
  have htr2:Tree (addP st ii (ls.getD q 0) (visG gl (flat nx ns (ls.getD q 0)) seen [] false).2.1):=aHb htr hii ⟨c0,c5⟩
  have hlen2:=aGd (st:=st) (p:=(ii:Int)) (l:=ls.getD q 0) (f:=(visG gl (flat nx ns (ls.getD q 0)) seen [] false).2.1)
  have ih':=ih (q + 1) m (visG gl (flat nx ns (ls.getD q 0)) seen [] false).1 (addP st ii (ls.getD q 0) (visG gl (flat nx ns (ls.getD q 0)) seen [] false).2.1) _ (by omega) (by omega) g1 htr2 (by omega) (by rw [aOw hii]; exact hns) rfl
  have e4:((q + 1:Nat):Int) = (q:Int) + 1:=by omega
  rw [e4] at ih'
  have loop_c:=fun {R:Type} {n:Nat} (hn:4 ≤ n) {k:Exit → List A → H → Option R} => @aJo R L n hn hL I nf caps (.fn gf gcaps) size nx ls ns (dH st) seen st.length ii q (ls.getD q 0) (fun {R n id hq k} => kc_n) hI hw c0 c6 (by omega) k ns.length 0 L [] 0 (by omega) (by omega) (by simp) rfl
  simp only [List.drop_zero,List.nil_append,qS,Int.natCast_zero] at loop_c
  have kc_v:=fun {R:Type} {n:Nat} {k:A → H → Option R} (hn:4 ≤ n) => @aQL R L n k hn hL I gl gf gcaps size (ii:Int) (ls.getD q 0) (flat nx ns (ls.getD q 0)) (fun {R n hq k} => kc_g) hI2 hr (by omega) hfl2 seen hg.len st hstl
  have hroom2:=g1.room
  have kl_w:=fun {R:Type} {n:Nat} {k:A → Option R} (hn:3 ≤ n) => @hS R L n k hn _ htr2 (by omega) (by omega) hL
  simp only [ltG,ltI]
  clear ih hmem g1 g2 g3 hg hI hI2 hx hw hls hr kc_n kc_g hroom2
  generalize flat nx ns (ls.getD q 0) = fm at *
  generalize visG gl fm seen [] false = v at *
  obtain ⟨v1,v2,v3⟩:=v
  simp only at ih' kc_v kl_w ⊢
  cases v3 with
  | true =>
   rw [tH]
   simp only [sV,Tryd.f73,SLM,simprocAttr]
   simp -implicitDefEqProofs (maxSteps:=2000000) (disch:=try exact Dz) only [↓DN,↓kAsg,↓kRet,UP,simprocAttr,↓iO,↓hS,↓gO,PE,hc,hiI,hns,Int.toNat_natCast,↓loop_c,↓kc_v,↓kl_w]
  | false =>
   simp only [Bool.false_eq_true,if_false]
   generalize ltI nx gl ns (ii:Int) (ls.drop (q + 1)) (v1,addP st ii (ls.getD q 0) v2) = T at *
   rw [show q + (T + 1) = q + 1 + T by omega]
   rw [tH]
   simp only [sV,Tryd.f73,SLM,simprocAttr]
   simp -implicitDefEqProofs (maxSteps:=2000000) (disch:=try exact Dz) only [↓DN,↓kAsg,↓kRet,UP,simprocAttr,↓iO,↓hS,↓gO,PE,hc,hiI,hns,Int.toNat_natCast,↓loop_c,↓kc_v,↓ih']
theorem SL {nx:Int → Int → List Int} {gl:Int → Bool} {ns:List Int} {i:Nat}:∀ (ls:List Int) (hls:∀ c ∈ ls,0 ≤ c ∧ c ≤ 5) (seen:List Bool) (st:List PStep),Tree st → i < st.length → Tree (ltG nx gl ns i ls (seen,st)).2.2
 | [],_,_,_,h,_ => h
 | l :: ls,hls,seen,st,h,hi => by
  have h2:Tree (addP st i l (visG gl (flat nx ns l) seen [] false).2.1):=aHb h hi (hls l List.mem_cons_self)
  unfold ltG
  split
  ·exact h2
  ·exact SL ls (fun c hc => hls c (List.mem_cons_of_mem _ hc)) _ _ h2 (Nat.lt_of_lt_of_le hi aGd)
theorem aJk {R:Type} {L n:Nat} (hn:6 ≤ n) (hL:2 ^ 60 ≤ L) {I:Int → Prop} {gl:Int → Bool} {nf gf:FuncId} {caps gcaps:List D} {size:Nat} {nx:Int → Int → List Int} {ls:List Int}
  (kc_n:∀ {R:Type} {n id:Nat} {hq:H} {k:A → H → Option R} (x c:Int) (o:List Int),4 ≤ n → I x → 0 ≤ c → c < 6 → o.length ≤ 2147483648 → hq[id]? = some (.arr (ints o) 1 0) → aL env (aA env L n) hq nf (.d (.int .i64 x) :: .d (.int .i64 c) :: .sl id 0 0 o.length :: caps.map A.d) k = k (.sl id (nx x c).length 0 (o ++ nx x c).length) (hq.set id (.arr (ints (o ++ nx x c)) 1 (nx x c).length)))
  (kc_g:∀ {R:Type} {n:Nat} {hq:H} {k:A → H → Option R} (x:Int),2 ≤ n → I x → aL env (aA env L n) hq gf (.d (.int .i64 x) :: gcaps.map A.d) k = k (.d (.bool (gl x))) hq)
  (hr:∀ x,I x → 0 ≤ x ∧ x < size) (hsz:size ≤ 16777216) (hx:∀ x c,I x → 0 ≤ c → c < 6 → ∀ y ∈ nx x c,I y) (hw:∀ x c,(nx x c).length ≤ 64) (hls:∀ c ∈ ls,0 ≤ c ∧ c ≤ 5) (hll:ls.length ≤ 6) {k:Exit → List A → H → Option R}:∀ (j i m:Nat) (seen:List Bool) (st:List PStep) (sn:Nat) (hi:st.length + kU seen ≤ i + j) (hi2:i ≤ st.length) (hm:j < m) (hg:PGood I size seen st) (htr:Tree st) (hsn:sn = st.length),
  aU env (aA env L n) L 0 [0,0,0,0,0,0,0,0,0,0,0,0,0,0,0,0,0,0,2] (Z2 (U2 (Z4 (Z2 (U2 (Z1 (U2 (U1 (Z1 (U2 (Z8 (Z4 (Z2 (U2 (U1 (Z4 (Z2 (Z1 (U2 (U1 (Z16 (Z1 ([]))))))))))))))))))))))) (eT 0) (U2 (Z2 (U4 (U2 (Z2 (U1 (Z2 (Z1 (U32 (U8 (U4 (U2 (U1 ([])))))))))))))) m (Y2 (.d (.ivs ls.length (ints ls)) :: .d (.fn nf caps) :: Y4 (Y2 (.d (.str []) :: .d (.bool false) :: Y1 (.ptr 0 0 0 :: .clo 92 [.ptr 1 0 0,.ptr 2 0 0,.ptr 0 0 0] :: .d (.int .i64 ((i:Int))) :: Y32 (Y8 (Y4 (Y2 (Y1 ([])))))))))) [.box [.sl 3 0 0 sn],.box [.sl 4 0 0 size],.box [.d (.fn gf gcaps)],.arr (dH st) 3 0,.arr (eU seen) 1 0] k
  = if (outG nx gl ls j i (seen,st)).1 = true then
    k .ret (Y2 (.d (.ivs ls.length (ints ls)) :: .d (.fn nf caps) :: Y4 (Y2 (.d (.str ((LR (outG nx gl ls j i (seen,st)).2.2))) :: .d (.bool true) :: Y1 (.ptr 0 0 0 :: .clo 92 [.ptr 1 0 0,.ptr 2 0 0,.ptr 0 0 0] :: .d (.int .i64 (((outI nx gl ls j i (seen,st):Nat):Int))) :: Y32 (Y8 (Y4 (Y2 (Y1 ([])))))))))) [.box [.sl 3 0 0 (outG nx gl ls j i (seen,st)).2.2.length],.box [.sl 4 0 0 size],.box [.d (.fn gf gcaps)],.arr (dH (outG nx gl ls j i (seen,st)).2.2) 3 0,.arr (eU (outG nx gl ls j i (seen,st)).2.1) 1 0]
   else k (.exit 0) (Y2 (.d (.ivs ls.length (ints ls)) :: .d (.fn nf caps) :: Y4 (Y2 (.d (.str []) :: .d (.bool false) :: Y1 (.ptr 0 0 0 :: .clo 92 [.ptr 1 0 0,.ptr 2 0 0,.ptr 0 0 0] :: .d (.int .i64 (((outI nx gl ls j i (seen,st):Nat):Int))) :: Y32 (Y8 (Y4 (Y2 (Y1 ([])))))))))) [.box [.sl 3 0 0 (outG nx gl ls j i (seen,st)).2.2.length],.box [.sl 4 0 0 size],.box [.d (.fn gf gcaps)],.arr (dH (outG nx gl ls j i (seen,st)).2.2) 3 0,.arr (eU (outG nx gl ls j i (seen,st)).2.1) 1 0]:=by
 intro j
 induction j with
 | zero =>
  intro i m seen st sn hi hi2 hm hg htr hsn
  obtain _ | m:=m; omega
  obtain rfl:i = st.length:=by omega
  subst hsn
  simp only [outG,outI,Bool.false_eq_true,if_false]
  rw [oQ]
  simp only [o8,Tryd.f73,SLM,simprocAttr]
  simp -implicitDefEqProofs (maxSteps:=2000000) (disch:=try exact Dz) only [↓DN,↓kAsg,↓kRet,UP,simprocAttr,↓iO,↓hS,↓gO,PE,Int.lt_irrefl]
 | succ j ih =>
  intro i m seen st sn hi hi2 hm hg htr hsn
  obtain _ | m:=m; omega
  subst hsn
  by_cases hc:i < st.length
  ·have hci:(i:Int) < st.length:=by omega
   have hroom:=hg.room
   have hmem:st.getD i default ∈ st:=by rw [List.getD_eq_getElem?_getD,List.getElem?_eq_getElem hc]; exact List.getElem_mem hc
   have hI:=hg.node _ hmem
   have hnl:=hg.wide _ hmem
   obtain ⟨k1,k2,k3⟩:=QZ (gl:=gl) (nx:=nx) (p:=(i:Int)) hr hI ls (seen,st) (fun x c h1 h2 => hx x c h1 (hls c h2).1 (by have:=(hls c h2).2; omega)) hg
   have ktr:=SL (gl:=gl) (nx:=nx) (ns:=(st.getD i default).ns) ls hls seen st htr hc
   have loop_b:=fun {R:Type} {n:Nat} (hn:5 ≤ n) {k:Exit → List A → H → Option R} => @aJG R L n hn hL I gl nf gf caps gcaps size nx ls (st.getD i default).ns i (fun {R n id hq k} => kc_n) (fun {R n hq k} => kc_g) hr hsz hI hx hw hls hll hnl k ls.length 0 L seen st st.length (by omega) (by omega) hg htr hc rfl rfl
   simp only [List.drop_zero,Int.natCast_zero,Nat.zero_add] at loop_b
   have ih':=ih (i + 1) m (ltG nx gl (st.getD i default).ns i ls (seen,st)).2.1 (ltG nx gl (st.getD i default).ns i ls (seen,st)).2.2 _ (by have:(ltG nx gl (st.getD i default).ns i ls (seen,st)).2.2.length + kU (ltG nx gl (st.getD i default).ns i ls (seen,st)).2.1 ≤ st.length + kU seen:=k2; omega) (by have:st.length ≤ (ltG nx gl (st.getD i default).ns i ls (seen,st)).2.2.length:=k3; omega) (by omega) k1 ktr rfl
   have e4:((i + 1:Nat):Int) = (i:Int) + 1:=by omega
   rw [e4] at ih'
   simp only [outG,outI,hc,if_true]
   clear ih hmem k1 k2 k3 ktr hg hI hx hw hls hr kc_n kc_g hnl
   generalize ltI nx gl (st.getD i default).ns (i:Int) ls (seen,st) = T at *
   generalize ltG nx gl (st.getD i default).ns (i:Int) ls (seen,st) = w at *
   obtain ⟨w0,w1,w2⟩:=w
   simp only at ih' loop_b ⊢
   have hll3:ls.length ≤ 4294967290:=by omega
   cases w0 with
   | true =>
    simp only [if_true] at loop_b
    rw [oQ]
    simp only [o8,Tryd.f73,SLM,simprocAttr]
    simp -implicitDefEqProofs (maxSteps:=2000000) (disch:=try exact Dz) only [↓DN,↓kAsg,↓kRet,UP,simprocAttr,↓iO,↓hS,↓gO,PE,hci,Int.toNat_natCast,↓loop_b]
   | false =>
    simp only [Bool.false_eq_true,if_false] at loop_b ⊢
    rw [oQ]
    simp only [o8,Tryd.f73,SLM,simprocAttr]
    simp -implicitDefEqProofs (maxSteps:=2000000) (disch:=try exact Dz) only [↓DN,↓kAsg,↓kRet,UP,simprocAttr,↓iO,↓hS,↓gO,PE,hci,Int.toNat_natCast,↓loop_b,↓ih']
  ·obtain rfl:i = st.length:=by omega
   simp only [outG,outI,hc,Bool.false_eq_true,if_false]
   rw [oQ]
   simp only [o8,Tryd.f73,SLM,simprocAttr]
   simp -implicitDefEqProofs (maxSteps:=2000000) (disch:=try exact Dz) only [↓DN,↓kAsg,↓kRet,UP,simprocAttr,↓iO,↓hS,↓gO,PE,Int.lt_irrefl]
theorem PI {n:Int} {h:H} (h0:0 ≤ n) (h1:n ≤ 4294967296):kK env.P h 24 n n = some (.sl h.length 0 0 n.toNat,h ++ [.arr (eU (List.replicate n.toNat false)) 1 0]):=by
 have hm:n ≤ (bW:Nat):=by unfold bW; omega
 have he:bB env.P 24 = some 4:=by kernel_rfl
 have hz:bN env.P 4 = some (.d (.bool false)):=by kernel_rfl
 have hok:bJ env.P 4 = true:=by kernel_rfl
 have hc:env.P.cellsOf 4 = 1:=by kernel_rfl
 simp only [kK,he,hz,aO,AX,Option.map_some,hok,h0,hm,hc,Int.le_refl,and_self,if_true,eU,List.map_replicate,List.flatten_replicate_singleton]
theorem aCD {L n:Nat} (hn:7 ≤ n) (hL:2 ^ 60 ≤ L) {I:Int → Prop} {gl:Int → Bool} {nf gf:FuncId} {caps gcaps:List D} {size:Nat} {nx:Int → Int → List Int} {ls ns:List Int}
  (kc_n:∀ {R:Type} {n id:Nat} {hq:H} {k:A → H → Option R} (x c:Int) (o:List Int),4 ≤ n → I x → 0 ≤ c → c < 6 → o.length ≤ 2147483648 → hq[id]? = some (.arr (ints o) 1 0) → aL env (aA env L n) hq nf (.d (.int .i64 x) :: .d (.int .i64 c) :: .sl id 0 0 o.length :: caps.map A.d) k = k (.sl id (nx x c).length 0 (o ++ nx x c).length) (hq.set id (.arr (ints (o ++ nx x c)) 1 (nx x c).length)))
  (kc_g:∀ {R:Type} {n:Nat} {hq:H} {k:A → H → Option R} (x:Int),2 ≤ n → I x → aL env (aA env L n) hq gf (.d (.int .i64 x) :: gcaps.map A.d) k = k (.d (.bool (gl x))) hq)
  (hr:∀ x,I x → 0 ≤ x ∧ x < size) (hsz:size ≤ 16777216) (hI:∀ x ∈ ns,I x) (hx:∀ x c,I x → 0 ≤ c → c < 6 → ∀ y ∈ nx x c,I y) (hw:∀ x c,(nx x c).length ≤ 64) (hls:∀ c ∈ ls,0 ≤ c ∧ c ≤ 5) (hll:ls.length ≤ 6) (hne:ns ≠ []) (hnl:ns.length ≤ size) :
  aA env L n 73 [.d (.int .i64 size),.d (.ivs ns.length (ints ns)),.d (.ivs ls.length (ints ls)),.d (.fn nf caps),.d (.fn gf gcaps)] [] = some (.tup [.d (.str (txt (P8 nx gl ls ns size).1)),.d (.bool (P8 nx gl ls ns size).2)],[]):=by
 have hs0:(0:Int) ≤ size:=by omega
 have hs1:(size:Int) ≤ 4294967296:=by omega
 have kc_v:=fun {R:Type} {n:Nat} {k:A → H → Option R} {p l:Int} (hn:4 ≤ n) => @aQh R L n k hn hL I gl gf gcaps size p l ns (fun {R n hq k} => kc_g) hI hr (by omega) (by omega) hne
 have hu:kU (List.replicate size false) = size:=by simp [kU]
 have hg0:PGood I size (List.replicate size false) []:=⟨by simp,by simp,by rw [hu]; simp,by simp⟩
 obtain ⟨g1,g2,g3⟩:=MN (gl:=gl) hg0 hI hr (-1) 0
 have hpos:=aF6 (size:=size) hne
 rw [← (yR gl ns (List.replicate size false) [] false).2] at hpos
 unfold P8
 generalize visG gl ns (List.replicate size false) [] false = r at *
 obtain ⟨r0,r1,r2⟩:=r
 simp only at g1 g2 g3 hpos kc_v ⊢
 have ha:addP [] (-1) 0 r1 = [⟨-1,0,r1⟩]:=by
  unfold addP
  rw [if_neg (List.length_pos_iff.1 hpos)]; rfl
 rw [ha] at g1 g2
 have htr:Tree [⟨-1,0,r1⟩]:=by
  intro k hk
  obtain rfl:k = 0:=by simpa using hk
  exact ⟨by show (-1:Int) < _; omega,by show (0:Int) ≤ 0 ∧ (0:Int) ≤ 5; decide⟩
 have loop_a:=fun {R:Type} {n:Nat} (hn:6 ≤ n) {k:Exit → List A → H → Option R} => @aJk R L n hn hL I gl nf gf caps gcaps size nx ls (fun {R n id hq k} => kc_n) (fun {R n hq k} => kc_g) hr hsz hx hw hls hll k (size + 1) 0 L r0 [⟨-1,0,r1⟩] 1 (by rw [hu] at g2; simp only [List.length_nil,Nat.zero_add] at g2; omega) (by simp) (by omega) g1 htr rfl
 simp only [Int.natCast_zero] at loop_a
 have ee:(dH [⟨-1,0,r1⟩]) = [.int .i64 (-1),.int .i64 0,.ivs r1.length (ints r1)]:=rfl
 rw [ha]
 clear g1 g2 g3 hg0 hI hx hw hls hr kc_n kc_g htr
 cases r2 with
 | true =>
  obtain _ | n:=n; omega
  rw [CL]
  simp only [wP,Tryd.f73,SLM,simprocAttr]
  simp -implicitDefEqProofs (maxSteps:=2000000) (disch:=try exact Dz) only [↓DN,↓kAsg,↓kRet,UP,simprocAttr,↓iO,↓hS,↓gO,PE,↓PI,Int.toNat_natCast,↓kc_v]
  rfl
 | false =>
  simp only [Bool.false_eq_true,if_false]
  generalize outI nx gl ls (size + 1) 0 (r0,[⟨-1,0,r1⟩]) = T at *
  generalize outG nx gl ls (size + 1) 0 (r0,[⟨-1,0,r1⟩]) = w at *
  obtain ⟨w0,w1,w2⟩:=w
  simp only at loop_a ⊢
  cases w0 with
  | true =>
   simp only [if_true] at loop_a ⊢
   obtain _ | n:=n; omega
   rw [CL]
   simp only [wP,Tryd.f73,SLM,simprocAttr]
   simp -implicitDefEqProofs (maxSteps:=2000000) (disch:=try exact Dz) only [↓DN,↓kAsg,↓kRet,UP,simprocAttr,↓iO,↓hS,↓gO,PE,↓PI,Int.toNat_natCast,↓kc_v,↓loop_a]
   rfl
  | false =>
   simp only [Bool.false_eq_true,if_false] at loop_a ⊢
   obtain _ | n:=n; omega
   rw [CL]
   simp only [wP,Tryd.f73,SLM,simprocAttr]
   simp -implicitDefEqProofs (maxSteps:=2000000) (disch:=try exact Dz) only [↓DN,↓kAsg,↓kRet,UP,simprocAttr,↓iO,↓hS,↓gO,PE,↓PI,Int.toNat_natCast,↓kc_v,↓loop_a]
   rfl
theorem bR {a:Aut} (h:AOK a):aX a.nx ∧ n7 (aE a.al).length a.nx ∧ 1 ≤ a.nx.length ∧ a.nx.length ≤ 12 ∧ a.ac.length = a.nx.length:=by
 obtain ⟨a1,a2,a3,a4⟩:=mT h
 have aw:=y3 h
 exact ⟨⟨by omega,fun r hr => by have:=aw r hr; have:=eP a.al; omega⟩,aw,a1,a2,a3⟩
def tabP (a:Aut):D:=.iptr [.ivs a.nx.length (ints (iZ a.al a.nx))]
def autP (a:Aut):D:=.iptr [.int .i64 a.al,.ivs a.nx.length (aC a.nx),.ivs a.ac.length (aB a.ac)]
def inP (a b:Aut) (x:Int):Prop:=0 ≤ x ∧ x < (a.nx.length:Int) * b.nx.length
theorem RZ {L n:Nat} (hn:1 ≤ n) {a b:Aut} (ha:AOK a) (hb:AOK b) {x c:Int} (hx:inP a b x) (hc0:0 ≤ c) (hc6:c < 6) (o:List Int) (ho:o.length ≤ 2147483648) :
  aA env L n 72 [.d (.int .i64 x),.d (.int .i64 c),.sl 0 0 0 o.length,.d (tabP a),.d (.iptr [.int .i64 b.nx.length]),.d (tabP b)] [.arr (ints o) 1 0] = some (.sl 0 (nxT a b x c).length 0 (o ++ nxT a b x c).length,[.arr (ints (o ++ nxT a b x c)) 1 (nxT a b x c).length]):=by
 obtain ⟨sa,wa,a1,a2,a3⟩:=bR ha
 obtain ⟨sb,wb,b1,b2,b3⟩:=bR hb
 obtain ⟨p,q⟩:=Z0 (na:=a.nx.length) (nb:=b.nx.length) (by omega) hx.1 hx.2
 have ga:=NV ha p.1 p.2 hc0 hc6
 have gb:=NV hb q.1 q.2 hc0 hc6
 have hla:=nL a.al a.nx
 have hlb:=nL b.al b.nx
 have hta:=VM (al:=a.al) p.1 p.2 hc0 hc6
 have htb:=VM (al:=b.al) q.1 q.2 hc0 hc6
 rw [List.drop_drop] at hta htb
 have hprod:(a.nx.length:Int) * b.nx.length ≤ 144:=by
  have h1:(a.nx.length:Int) * b.nx.length ≤ 12 * b.nx.length:=Int.mul_le_mul_of_nonneg_right (by omega) (by omega)
  omega
 have hx1:=hx.2
 have hin:=VY ga gb
 have hm0:0 ≤ goI a.al a.nx (x.tdiv b.nx.length) c * b.nx.length:=Int.mul_nonneg ga.1 (by omega)
 have hb0:¬ (b.nx.length:Int) = 0:=by omega
 unfold nxT tabP
 have d1:(x.tdiv b.nx.length).toNat * 6 ≤ a.nx.length * 6:=by omega
 have d2:(x.tmod b.nx.length).toNat * 6 ≤ b.nx.length * 6:=by omega
 have d3:c.toNat < a.nx.length * 6 - (x.tdiv b.nx.length).toNat * 6:=by omega
 have d4:c.toNat < b.nx.length * 6 - (x.tmod b.nx.length).toNat * 6:=by omega
 generalize goI a.al a.nx (x.tdiv b.nx.length) c = g1 at *
 generalize goI b.al b.nx (x.tmod b.nx.length) c = g2 at *
 obtain ⟨x0,x1⟩:=hx
 obtain ⟨p0,p1⟩:=p
 obtain ⟨q0,q1⟩:=q
 have xs:x ≤ 144:=by omega
 have hl1:((List.length [g1 * (b.nx.length:Int) + g2])) = 1:=rfl
 clear ha hb sa sb wa wb x1
 obtain _ | n:=n; omega
 rw [R2]
 simp only [DJ,Tryd.f72,SLM,simprocAttr]
 simp -implicitDefEqProofs (maxSteps:=2000000) (disch:=try exact Dz) only [↓DN,↓kAsg,↓kRet,UP,simprocAttr,hla,hlb,hta,htb,hb0,p0,p1,q0,q1,d1,d2,d3,d4,u_t6,u_a6,c_a6,KW,Int.toNat_natCast,List.length_drop,List.drop_drop,cY,gZ,List.length_append,hl1]
theorem aIP {R:Type} {L n id:Nat} {hq:H} {k:A → H → Option R} (hn:1 ≤ n) {a b:Aut} (ha:AOK a) (hb:AOK b) (x c:Int) (o:List Int) (hx:inP a b x) (hc0:0 ≤ c) (hc6:c < 6) (ho:o.length ≤ 2147483648) (hid:hq[id]? = some (.arr (ints o) 1 0)) :
  aL env (aA env L n) hq 72 (.d (.int .i64 x) :: .d (.int .i64 c) :: .sl id 0 0 o.length :: [tabP a,.iptr [.int .i64 b.nx.length],tabP b].map A.d) k
  = k (.sl id (nxT a b x c).length 0 (o ++ nxT a b x c).length) (hq.set id (.arr (ints (o ++ nxT a b x c)) 1 (nxT a b x c).length)):=by
 refine aJJ hid (by simp [idsL,idsA]) qD ?_
 have hpl:aK [id] id = some 0:=by simp [aK]
 simp only [List.map_cons,List.map_nil,aH,mapA,hpl]
 exact RZ hn ha hb hx hc0 hc6 o ho
theorem aRZ:bM env.P 68 = some false:=by kernel_rfl
theorem R0 {L n:Nat} (hn:2 ≤ n) {a b:Aut} {f:Bool → Bool → Bool} {go:FuncId} (hm:(env.hint go).mode = 0) (kc_o:∀ (x y:Bool) {R:Type} {n:Nat} {hq:H} {k:A → H → Option R},1 ≤ n → aL env (aA env L n) hq go [.d (.bool x),.d (.bool y)] k = k (.d (.bool (f x y))) hq) (ha:AOK a) (hb:AOK b) {x:Int} (hx:inP a b x) :
  aA env L n 74 [.d (.int .i64 x),.d (.iptr [.fn go []]),.d (autP a),.d (.iptr [.int .i64 b.nx.length]),.d (autP b)] [] = some (.d (.bool (glT f a b x)),[]):=by
 obtain ⟨sa,wa,a1,a2,a3⟩:=bR ha
 obtain ⟨sb,wb,b1,b2,b3⟩:=bR hb
 obtain ⟨p,q⟩:=Z0 (na:=a.nx.length) (nb:=b.nx.length) (by omega) hx.1 hx.2
 have hprod:(a.nx.length:Int) * b.nx.length ≤ 144:=by
  have h1:(a.nx.length:Int) * b.nx.length ≤ 12 * b.nx.length:=Int.mul_le_mul_of_nonneg_right (by omega) (by omega)
  omega
 have hb0:¬ (b.nx.length:Int) = 0:=by omega
 have e1:(x.tdiv b.nx.length).toNat < a.ac.length:=by omega
 have e2:(x.tmod b.nx.length).toNat < b.ac.length:=by omega
 have e3:x.tdiv b.nx.length < (a.ac.length:Int):=by omega
 have e4:x.tmod b.nx.length < (b.ac.length:Int):=by omega
 obtain ⟨x0,x1⟩:=hx
 obtain ⟨p0,p1⟩:=p
 obtain ⟨q0,q1⟩:=q
 have xs:x ≤ 144:=by omega
 have kc_p:=fun {R:Type} {n:Nat} {hq:H} {k:A → H → Option R} (hn:1 ≤ n) => kc_o (a.ac.getD (x.tdiv b.nx.length).toNat false) (b.ac.getD (x.tmod b.nx.length).toNat false) (R:=R) (n:=n) (hq:=hq) (k:=k) hn
 unfold glT autP
 clear ha hb sa sb wa wb x1 kc_o
 obtain _ | n:=n; omega
 rw [RV]
 simp only [DT,Tryd.f74,SLM,simprocAttr]
 simp -implicitDefEqProofs (maxSteps:=2000000) (disch:=try exact Dz) only [↓DN,↓kAsg,↓kRet,UP,simprocAttr,LA,aRZ,hm,hb0,p0,e3,q0,e4,e1,e2,↓kc_p,List.length_drop,List.drop_drop]
theorem aI5 {R:Type} {L n:Nat} {hq:H} {k:A → H → Option R} (hn:2 ≤ n) {a b:Aut} {f:Bool → Bool → Bool} {go:FuncId} (hm:(env.hint go).mode = 0) (kc_o:∀ (x y:Bool) {R:Type} {n:Nat} {hq:H} {k:A → H → Option R},1 ≤ n → aL env (aA env L n) hq go [.d (.bool x),.d (.bool y)] k = k (.d (.bool (f x y))) hq) (ha:AOK a) (hb:AOK b) (x:Int) (hx:inP a b x) :
  aL env (aA env L n) hq 74 (.d (.int .i64 x) :: [.iptr [.fn go []],autP a,.iptr [.int .i64 b.nx.length],autP b].map A.d) k = k (.d (.bool (glT f a b x))) hq :=
 aV rfl (R0 hn hm kc_o ha hb hx) rfl (.inl rfl)
theorem ZK {R:Type} {L n:Nat} {hq:H} {k:A → H → Option R} {a b:A} {id g o len f1 f2:Nat} {c1 c2:List A}:aL env (aA env L n) hq 73 [a,.sl id g o len,b,.clo f1 c1,.clo f2 c2] k = match box (a5 hq [a,.sl id g o len,b,.clo f1 c1,.clo f2 c2]) with
  | .mk (some fs) => aW (aA env L n) 73 fs fun r => k r hq
  | _ => none:=aM w9
theorem aRY {v:Int}:ints [v] = [.int .i64 v]:=rfl
theorem ZE {L n:Nat} (hn:8 ≤ n) (hL:2 ^ 60 ≤ L) {a b:Aut} {f:Bool → Bool → Bool} {go:FuncId} (hm:(env.hint go).mode = 0) (kc_o:∀ (x y:Bool) {R:Type} {n:Nat} {hq:H} {k:A → H → Option R},1 ≤ n → aL env (aA env L n) hq go [.d (.bool x),.d (.bool y)] k = k (.d (.bool (f x y))) hq) (ha:AOK a) (hb:AOK b) {i j:Int} (hi:0 ≤ i ∧ i < a.nx.length) (hj:0 ≤ j ∧ j < b.nx.length) :
  aA env L n 52 [.agg [.d (.int .i64 a.al),.d (.ivs a.nx.length (aC a.nx)),.d (.ivs a.ac.length (aB a.ac))],.agg [.d (.int .i64 b.al),.d (.ivs b.nx.length (aC b.nx)),.d (.ivs b.ac.length (aB b.ac))],.d (.int .i64 i),.d (.int .i64 j),.d (.fn go [])] [] = some (.tup [.d (.str (txt (twoG f a b i j).1)),.d (.bool (twoG f a b i j).2)],[]):=by
 obtain ⟨sa,wa,a1,a2,a3⟩:=bR ha
 obtain ⟨sb,wb,b1,b2,b3⟩:=bR hb
 have hprod:(a.nx.length:Int) * b.nx.length ≤ 144:=by
  have h1:(a.nx.length:Int) * b.nx.length ≤ 12 * b.nx.length:=Int.mul_le_mul_of_nonneg_right (by omega) (by omega)
  omega
 have hprodN:a.nx.length * b.nx.length ≤ 144:=by
  have:=hprod; rw [← Int.natCast_mul] at this; omega
 have hin:=VY hi hj
 have hp:=fun {n:Nat} (hn:7 ≤ n) => @aCD L n hn hL (inP a b) (glT f a b) 72 74 [tabP a,.iptr [.int .i64 b.nx.length],tabP b] [.iptr [.fn go []],autP a,.iptr [.int .i64 b.nx.length],autP b] (a.nx.length * b.nx.length) (nxT a b) (aE a.al) [i * b.nx.length + j]
  (fun {R n id hq k} x c o h4 hI h0 h6 ho hid => aIP (by omega) ha hb x c o hI h0 h6 ho hid)
  (fun {R n hq k} x h2 hI => aI5 h2 hm kc_o ha hb x hI)
  (fun x hI => by rw [Int.natCast_mul]; exact hI) (by omega) (fun x hx => by simp at hx; subst hx; exact hin) (fun x c hI h0 h6 y hy => aH9 ha hb hI.1 hI.2 ⟨h0,h6⟩ y hy) (fun x c => by simp [nxT]) pA (eP a.al) (by simp) (by
   have:0 < (a.nx.length:Int) * b.nx.length:=Int.mul_pos (by omega) (by omega)
   rw [← Int.natCast_mul] at this
   simp only [List.length_cons,List.length_nil]; omega)
 have kl_p:=fun {R:Type} {n:Nat} {k:A → Option R} (hn:7 ≤ n) => kO (k:=k) (hp (n:=n) hn) rfl
 have er:P8 (nxT a b) (glT f a b) (aE a.al) [i * b.nx.length + j] (a.nx.length * b.nx.length) = twoG f a b i j:=rfl
 rw [er] at kl_p
 simp only [aRY,List.length_cons,List.length_nil,Nat.zero_add,Int.natCast_mul,tabP,autP] at kl_p
 have hi2:0 ≤ i * (b.nx.length:Int):=Int.mul_nonneg hi.1 (by omega)
 obtain ⟨i0,i1⟩:=hi
 obtain ⟨j0,j1⟩:=hj
 obtain ⟨n0,n1⟩:=hin
 have hm0:0 ≤ (a.nx.length:Int) * b.nx.length:=by omega
 have hla:=nL a.al a.nx
 have hlb:=nL b.al b.nx
 clear hp kc_o ha hb er
 generalize twoG f a b i j = r at *
 obtain _ | n:=n; omega
 rw [Y6]
 simp only [KX,Tryd.f52,SLM,simprocAttr]
 simp -implicitDefEqProofs (maxSteps:=2000000) (disch:=try exact Dz) only [↓DN,↓kAsg,↓kRet,UP,simprocAttr,↓fO,↓aQ,LA,sa,wa,sb,wb,↓ZK,↓kl_p,Int.toNat_natCast,dQ,hla,hlb]

theorem ZU {al:Int} {rs:List (List Int)} {ac:List Bool} (ha:eS al = true) (h1:1 ≤ rs.length) (h2:rs.length ≤ 12) (h3:ac.length = rs.length) (hr:∀ r ∈ rs,r.length = (aE al).length ∧ ∀ q ∈ r,0 ≤ q ∧ q < rs.length):jB al rs ac = true:=by
 unfold jB
 simp only [Bool.and_eq_true,decide_eq_true_eq]
 refine ⟨⟨⟨⟨ha,by omega⟩,by omega⟩,by omega⟩,?_⟩
 rw [Option.isNone_iff_eq_none,LF]
 intro i _ hi
 have hi:i < rs.length:=by omega
 obtain ⟨hw,hq⟩:=hr (rs.getD i []) (by rw [List.getD_eq_getElem?_getD,List.getElem?_eq_getElem hi]; exact List.getElem_mem hi)
 unfold jT
 rw [PM (by omega)]
 have:seek (badQ rs.length (rs.getD i [])) (rs.getD i []).length 0 = none:=by
  rw [LF]
  intro j _ hj
  have hj:j < (rs.getD i []).length:=by omega
  rw [AF]
  refine hq _ ?_
  generalize rs.getD i [] = r at *
  rw [List.getD_eq_getElem?_getD,List.getElem?_eq_getElem hj]
  exact List.getElem_mem hj
 rw [this]
 rfl
theorem x4 {al:Int} {rs:List (List Int)} {ac:List Bool} (h:jB al rs ac = true) {i:Nat} (hi:i < rs.length):(rs.getD i []).length = (aE al).length ∧ ∀ j,j < (aE al).length → 0 ≤ (rs.getD i []).getD j 0 ∧ (rs.getD i []).getD j 0 < rs.length:=by
 have hw:=aCp (y3 h) hi
 refine ⟨hw,?_⟩
 intro j hj
 unfold jB at h
 simp only [Bool.and_eq_true] at h
 have hb:=H4 h.2 hi
 unfold jT at hb
 rw [PM (by omega)] at hb
 have:=H4 (p:=badQ rs.length (rs.getD i [])) (n:=(rs.getD i []).length) (by cases hs:seek (badQ rs.length (rs.getD i [])) (rs.getD i []).length 0 with
  | none => rfl
  | some z => rw [hs] at hb; cases hb) (i:=j) (by omega)
 exact AF.1 this
theorem aOu {al:Int} {rs:List (List Int)} {ac:List Bool} (h:jB al rs ac = true) {q l:Int} (hq0:0 ≤ q) (hq1:q < rs.length) (h0:0 ≤ l) (h1:l < 6):0 ≤ goI al rs q l ∧ goI al rs q l < rs.length:=by
 unfold goI
 split
 ·rename_i hb
  exact (x4 h (i:=q.toNat) (by omega)).2 _ (qO h0 h1 hb).1
 ·exact ⟨hq0,hq1⟩
theorem I6 {l:Int}:bL l = true ↔ 0 ≤ l ∧ l < 6:=by unfold bL; simp
theorem aJt {al al2:Int} {rs:List (List Int)} {x y:Int} {q l:Int} (hq0:0 ≤ q) (hq1:q < rs.length) (h0:0 ≤ l) (h1:l < 6) (hb:d9 al2 l = true) :
  goI al2 (fD al rs x y (aE al2) 0 rs.length) q l = goI al rs q (fQ l x y):=by
 rw [CK hb]
 have hk:q.toNat < rs.length:=by omega
 obtain ⟨p1,p2⟩:=qO h0 h1 hb
 have e1:(fD al rs x y (aE al2) 0 rs.length).getD q.toNat [] = kS al rs x y (aE al2) q:=by
  unfold fD
  rw [List.getD_eq_getElem?_getD,List.getElem?_map,List.getElem?_range' hk]
  simp only [Option.map_some,Option.getD_some,Nat.zero_add,Nat.one_mul]
  rw [Int.toNat_of_nonneg hq0]
 rw [e1]
 unfold kS
 rw [List.getD_eq_getElem?_getD,List.getElem?_map,p2]
 rfl
theorem aCI {al x y:Int} {rs:List (List Int)} {ac:List Bool} (h:jB al rs ac = true) (hx:bL x = true) (hy:bL y = true):jB (b5 al x y) (fD al rs x y (aE (b5 al x y)) 0 rs.length) ac = true:=by
 obtain ⟨h1,h2,h3,ha⟩:=mT h
 refine ZU (K0 ha hx hy) (by rw [rA]; exact h1) (by rw [rA]; exact h2) (by rw [rA]; exact h3) ?_
 intro r hr
 unfold fD at hr
 obtain ⟨q,hq,rfl⟩:=List.mem_map.1 hr
 rw [List.mem_range'_1] at hq
 refine ⟨U3,?_⟩
 intro z hz
 unfold kS at hz
 obtain ⟨l,hl,rfl⟩:=List.mem_map.1 hz
 rw [rA]
 have hl2:=I6.1 (vL (I6.2 (gR.1 hl).1) hx hy)
 exact aOu h (by omega) (by omega) hl2.1 hl2.2

section
def goS (a:Aut) (v l:Int):Int:=goI a.al a.nx v l
def rowA (a:Aut) (v:Int):List Int:=a.nx.getD v.toNat []
def ordA (a:Aut):List Int:=ordB (goS a) (aE a.al) (a.nx.length + 1) 0 [0]
def idxU (out:List Int) (x:Int):Int:=(out.idxOf x:Nat)
def eL (a:Aut):Aut:=⟨a.al,(ordA a).map fun v => (rowA a v).map (idxU (ordA a)),(ordA a).map fun v => a.ac.getD v.toNat false⟩
theorem yJ {a:Aut} (h:AOK a):∀ v l:Int,0 ≤ v → v < a.nx.length → l ∈ aE a.al → 0 ≤ goS a v l ∧ goS a v l < a.nx.length:=by
 intro v l h0 h1 hl
 have:=pA l hl
 exact NV h h0 h1 this.1 (by omega)
theorem aMw {al:Int} {k:Nat} (hk:k < (aE al).length):jM al (aE al)[k] = k:=by
 obtain ⟨⟨h0,h1⟩,hb⟩:=gR.1 (List.getElem_mem hk)
 obtain ⟨h2,h3⟩:=qO h0 h1 hb
 rw [List.getElem?_eq_getElem h2] at h3
 exact (List.getElem_inj (QQ al)).1 (Option.some.inj h3)
theorem N9 {a:Aut} (h:AOK a) {v:Int} (h0:0 ≤ v) (h1:v < a.nx.length):(aE a.al).map (goS a v) = rowA a v:=by
 have hl:=(x4 h (i:=v.toNat) (by omega)).1
 apply List.ext_getElem
 ·rw [List.length_map]; exact hl.symm
 ·intro k g1 g2
  rw [List.length_map] at g1
  rw [List.getElem_map]
  unfold goS
  rw [CK (gR.1 (List.getElem_mem g1)).2,aMw g1]
  show (rowA a v).getD k 0 = _
  rw [List.getD_eq_getElem?_getD,List.getElem?_eq_getElem g2]
  rfl
theorem C3 {a:Aut} (h:AOK a):∃ W,Bfs (goS a) (aE a.al) a.nx.length (ordA a).length [] (ordA a) W:=by
 obtain ⟨_,_,h1,_,_⟩:=bR h
 exact aIv (XD _) (yJ h) _ 0 [0] _ (Bfs.start (by omega)) (by omega) (by omega)
section
variable {a:Aut} {W:Nat → List Int}
theorem G4 {x:Int} {out:List Int} (hx:x ∈ out):out.getD (out.idxOf x) 0 = x ∧ out.idxOf x < out.length:=by
 have h:=List.idxOf_lt_length_of_mem hx
 refine ⟨?_,h⟩
 rw [List.getD_eq_getElem?_getD,List.getElem?_eq_getElem h,List.getElem_idxOf]; rfl
theorem r6 {q:Nat} {out:List Int} (hq:q < out.length):out.getD q 0 ∈ out:=by
 rw [List.getD_eq_getElem?_getD,List.getElem?_eq_getElem hq]
 exact List.getElem_mem hq
theorem aAV (hB:Bfs (goS a) (aE a.al) a.nx.length (ordA a).length [] (ordA a) W) {v l:Int} (hv:v ∈ ordA a) (hl:l ∈ aE a.al):goS a v l ∈ ordA a:=by
 obtain ⟨e,hq⟩:=G4 hv
 obtain ⟨p,hp,e2,_⟩:=hB.clo _ l hq hl (.inl hq)
 rw [e] at e2
 exact e2 ▸ r6 hp
theorem aNy (h:AOK a):AOK (eL a):=by
 obtain ⟨W,hB⟩:=C3 h
 obtain ⟨b1,b2,b3,b4⟩:=mT h
 have hn:=o6 hB.nod hB.rng
 have hp:=hB.pos
 unfold AOK eL
 refine ZU b4 (by rw [List.length_map]; omega) (by rw [List.length_map]; omega) (by rw [List.length_map,List.length_map]) ?_
 intro r hr
 obtain ⟨v,hv,rfl⟩:=List.mem_map.1 hr
 obtain ⟨v0,v1⟩:=hB.rng v hv
 have hrow:=N9 h v0 v1
 refine ⟨by rw [List.length_map,← hrow,List.length_map],?_⟩
 intro q hq
 obtain ⟨x,hx,rfl⟩:=List.mem_map.1 hq
 rw [← hrow] at hx
 obtain ⟨l,hl,rfl⟩:=List.mem_map.1 hx
 have:=(G4 (aAV hB hv hl)).2
 unfold idxU
 rw [List.length_map]
 omega
theorem aQ3 (h:AOK a) (hB:Bfs (goS a) (aE a.al) a.nx.length (ordA a).length [] (ordA a) W) {q:Nat} (hq:q < (ordA a).length) {l:Int} (hl:l ∈ aE a.al):goS (eL a) q l = idxU (ordA a) (goS a ((ordA a).getD q 0) l):=by
 obtain ⟨⟨h0,h1⟩,hb⟩:=gR.1 hl
 obtain ⟨v0,v1⟩:=hB.rng _ (r6 hq)
 obtain ⟨p1,p2⟩:=qO h0 h1 hb
 have hlen:=(x4 h (i:=((ordA a).getD q 0).toNat) (by omega)).1
 have e1:((eL a).nx.getD q []) = (rowA a ((ordA a).getD q 0)).map (idxU (ordA a)):=by
  unfold eL
  simp only [List.getD_eq_getElem?_getD,List.getElem?_map,List.getElem?_eq_getElem hq,Option.map_some,Option.getD_some]
 unfold goS
 rw [CK hb,CK (show d9 (eL a).al l = true from hb),Int.toNat_natCast,e1]
 show ((rowA a ((ordA a).getD q 0)).map (idxU (ordA a))).getD (jM a.al l) 0 = _
 have hr:jM a.al l < (rowA a ((ordA a).getD q 0)).length:=by unfold rowA; omega
 rw [List.getD_eq_getElem?_getD,List.getElem?_map,List.getElem?_eq_getElem hr,List.getD_eq_getElem?_getD (l:=a.nx.getD _ _)]
 show idxU _ (rowA a ((ordA a).getD q 0))[jM a.al l] = idxU _ ((rowA a ((ordA a).getD q 0))[jM a.al l]?.getD 0)
 rw [List.getElem?_eq_getElem hr]; rfl
theorem aG2 (h:AOK a) (hB:Bfs (goS a) (aE a.al) a.nx.length (ordA a).length [] (ordA a) W):∀ (w:List Int) (q:Nat),q < (ordA a).length → (∀ l ∈ w,l ∈ aE a.al) → w.foldl (goS a) ((ordA a).getD q 0) ∈ ordA a ∧ w.foldl (goS (eL a)) (q:Int) = idxU (ordA a) (w.foldl (goS a) ((ordA a).getD q 0))
 | [],q,hq,_ => by
  refine ⟨r6 hq,?_⟩
  unfold idxU
  simp only [List.foldl_nil]
  have:=hB.nod.idxOf_getElem q hq
  rw [List.getD_eq_getElem?_getD,List.getElem?_eq_getElem hq,Option.getD_some,this]
 | l :: w,q,hq,hw => by
  have hl:=hw l List.mem_cons_self
  obtain ⟨e,hp⟩:=G4 (aAV hB (r6 hq) hl)
  have ih:=aG2 h hB w _ hp fun m hm => hw m (List.mem_cons_of_mem _ hm)
  rw [e] at ih
  simp only [List.foldl_cons]
  rw [aQ3 h hB hq hl]
  exact ih
end
section
variable {a:Aut} {W:Nat → List Int}
end
end
section
theorem yI {α:Type} [DecidableEq α]:∀ {l m:List α},l.Nodup → (∀ x ∈ l,x ∈ m) → l.length ≤ m.length
 | [],m,_,_ => by simp
 | a :: l,m,h,hs => by
  obtain ⟨h1,h2⟩:=List.nodup_cons.1 h
  have ha:a ∈ m:=hs a List.mem_cons_self
  have:=yI (l:=l) (m:=m.erase a) h2 fun x hx => by
   have hne:x ≠ a:=by rintro rfl; exact h1 hx
   exact (List.mem_erase_of_ne hne).2 (hs x (List.mem_cons_of_mem _ hx))
  rw [List.length_erase_of_mem ha] at this
  have hp:0 < m.length:=List.length_pos_of_mem ha
  simp only [List.length_cons]
  omega
section
variable {α β:Type} [DecidableEq α] [DecidableEq β]
abbrev idxG (o:List α) (x:α):Nat:=o.idxOf x
theorem aDE (o:List α) (x y:α):idxG (y :: o) x = if y = x then 0 else idxG o x + 1:=by
 unfold idxG
 rw [List.idxOf_cons]
 by_cases h:y = x
 ·simp [h]
 ·have h2:(y == x) = false:=by rw [beq_eq_false_iff_ne]; exact h
  rw [h2,if_neg h]; rfl
theorem aIq {o:List α} {x:α} (h:x ∈ o):idxG o x < o.length:=List.idxOf_lt_length_of_mem h
def addG (o:List α) (x:α):List α:=if x ∈ o then o else o ++ [x]
def aZ (l:List α):List α:=l.foldl addG []
def numL (l:List α):List Int:=l.map fun x => ((aZ l).idxOf x:Nat)
theorem mM (l:List α) (x:α):aZ (l ++ [x]) = addG (aZ l) x:=by
 unfold aZ
 rw [List.foldl_append]; rfl
theorem aOe {o:List α} {x y:α}:y ∈ addG o x ↔ y ∈ o ∨ y = x:=by
 unfold addG
 split
 ·constructor
  ·exact .inl
  ·rintro (h | rfl)
   ·exact h
   ·assumption
 ·simp
omit [DecidableEq α] in
theorem aFf (l:List α):l = [] ∨ ∃ u x,l = u ++ [x]:=by
 rcases List.eq_nil_or_concat l with h | ⟨u,x,h⟩
 ·exact .inl h
 ·exact .inr ⟨u,x,by rw [h]; simp⟩
theorem aI6:∀ (c:Nat) (l:List α),l.length = c → ∀ x,x ∈ aZ l ↔ x ∈ l:=by
 intro c
 induction c with
 | zero =>
  intro l hl x
  have:l = []:=List.length_eq_zero_iff.1 hl
  subst this
  simp [aZ]
 | succ c ih =>
  intro l hl x
  rcases aFf l with rfl | ⟨u,y,rfl⟩
  ·simp at hl
  ·rw [mM,aOe,ih u (by simpa using hl) x]; simp
theorem dM {l:List α} {x:α}:x ∈ aZ l ↔ x ∈ l:=aI6 _ l rfl x
theorem aE5:∀ (c:Nat) (l:List α),l.length = c → (aZ l).Nodup:=by
 intro c
 induction c with
 | zero =>
  intro l hl
  have:l = []:=List.length_eq_zero_iff.1 hl
  subst this
  simp [aZ]
 | succ c ih =>
  intro l hl
  rcases aFf l with rfl | ⟨u,y,rfl⟩
  ·simp at hl
  ·rw [mM]
   have h:=ih u (by simpa using hl)
   unfold addG
   split
   ·exact h
   ·rename_i hin
    rw [List.nodup_append]
    refine ⟨h,by simp,fun a ha b hb => ?_⟩
    simp only [List.mem_singleton] at hb
    subst hb
    rintro rfl
    exact hin ha
theorem IS (l:List α):(aZ l).Nodup:=aE5 _ l rfl
theorem GI (l:List α):(aZ l).length ≤ l.length:=yI (IS l) fun x hx => dM.1 hx
theorem xK (l:List α):(numL l).length = l.length:=List.length_map _
theorem JC {l:List α} {i:Nat} (hi:i < l.length):(numL l).getD i 0 = ((aZ l).idxOf l[i]:Nat):=by
 unfold numL
 rw [List.getD_eq_getElem?_getD,List.getElem?_map,List.getElem?_eq_getElem hi]; rfl
theorem aIQ {l:List α} {x:α} (h:x ∈ l):(aZ l).idxOf x < (aZ l).length:=List.idxOf_lt_length_of_mem (dM.2 h)
theorem aN0 {l:List α} {i:Nat} (hi:i < l.length):0 ≤ (numL l).getD i 0 ∧ (numL l).getD i 0 < (aZ l).length:=by
 rw [JC hi]
 have:=aIQ (List.getElem_mem hi)
 omega
theorem aQm {l:List α} {x y:α} (hx:x ∈ l) (h:l.idxOf x = l.idxOf y) (hy:y ∈ l):x = y:=by
 have h1:=List.getElem_idxOf (List.idxOf_lt_length_of_mem hx)
 have h2:=List.getElem_idxOf (List.idxOf_lt_length_of_mem hy)
 rw [← h1,← h2]
 simp only [h]
theorem NJ {l:List α} {i j:Nat} (hi:i < l.length) (hj:j < l.length):(numL l).getD i 0 = (numL l).getD j 0 ↔ l[i] = l[j]:=by
 rw [JC hi,JC hj]
 constructor
 ·intro h
  exact aQm (dM.2 (List.getElem_mem hi)) (by omega) (dM.2 (List.getElem_mem hj))
 ·intro h; rw [h]
theorem xQ (l:List α) (x:α):numL (l ++ [x]) = numL l ++ [((idxG (addG (aZ l) x) x:Nat):Int)]:=by
 unfold numL
 rw [mM,List.map_append]
 congr 1
 apply List.map_congr_left
 intro y hy
 have hy2:=dM.2 hy
 unfold addG
 split
 ·rfl
 ·rw [List.idxOf_append,if_pos hy2]
theorem Y7 (o:List α) (x:α):(addG o x).idxOf x = if x ∈ o then o.idxOf x else o.length:=by
 unfold addG
 by_cases h:x ∈ o
 ·rw [if_pos h,if_pos h]
 ·rw [if_neg h,if_neg h,List.idxOf_append,if_neg h]; simp
theorem aCf {o:List α} {x:α} (h:x ∈ o):addG o x = o:=if_pos h
theorem P9 {o:List α} {x:α} (h:x ∉ o):addG o x = o ++ [x]:=if_neg h
theorem aGf {o:List α} {x:α} (h:x ∉ o):idxG (o ++ [x]) x = o.length:=by
 have:=Y7 o x
 rw [if_neg h,P9 h] at this
 exact this
theorem aGo (o:List α) (x:α):(addG o x).length = if x ∈ o then o.length else o.length + 1:=by
 unfold addG
 split <;> simp
def aFc (l:List α) (m:List β):Prop:=l.length = m.length ∧ ∀ i j (hi:i < l.length) (hj:j < l.length) (hi':i < m.length) (hj':j < m.length),l[i] = l[j] ↔ m[i] = m[j]
theorem aLx:∀ (c:Nat) (l:List α) (m:List β),l.length = c → aFc l m → numL l = numL m ∧ (aZ l).length = (aZ m).length:=by
 intro c
 induction c with
 | zero =>
  intro l m hl h
  have h1:l = []:=List.length_eq_zero_iff.1 hl
  have h2:m = []:=List.length_eq_zero_iff.1 (by rw [← h.1,hl])
  subst h1; subst h2
  simp [numL,aZ]
 | succ c ih =>
  intro l m hl h
  rcases aFf l with rfl | ⟨u,x,rfl⟩
  ·simp at hl
  rcases aFf m with rfl | ⟨v,y,rfl⟩
  ·have:=h.1; simp at this
  obtain ⟨h1,h2⟩:=h
  have hlen:u.length = v.length:=by simpa using h1
  have hs:aFc u v:=⟨hlen,fun i j hi hj hi' hj' => by
   have:=h2 i j (by simp; omega) (by simp; omega) (by simp; omega) (by simp; omega)
   rw [List.getElem_append_left hi,List.getElem_append_left hj,List.getElem_append_left hi',List.getElem_append_left hj'] at this
   exact this⟩
  obtain ⟨e1,e2⟩:=ih u v (by simpa using hl) hs
  have hat:∀ i (hi:i < u.length) (hi':i < v.length),u[i] = x ↔ v[i] = y:=fun i hi hi' => by
   have:=h2 i u.length (by simp; omega) (by simp) (by simp; omega) (by simp; omega)
   rw [List.getElem_append_left hi,List.getElem_append_left hi'] at this
   have e1:(u ++ [x])[u.length]'(by simp) = x:=by simp
   have e2:(v ++ [y])[u.length]'(by simp; omega) = y:=by simp [hlen]
   rw [e1,e2] at this
   exact this
  have hmem:x ∈ u ↔ y ∈ v:=by
   constructor
   ·intro hx
    obtain ⟨i,hi,e⟩:=List.getElem_of_mem hx
    rw [← (hat i hi (by omega)).1 e]
    exact List.getElem_mem _
   ·intro hy
    obtain ⟨i,hi,e⟩:=List.getElem_of_mem hy
    rw [← (hat i (by omega) hi).2 e]
    exact List.getElem_mem _
  have hidx:(addG (aZ u) x).idxOf x = (addG (aZ v) y).idxOf y:=by
   rw [Y7,Y7]
   by_cases hx:x ∈ u
   ·have hy:=hmem.1 hx
    rw [if_pos (dM.2 hx),if_pos (dM.2 hy)]
    obtain ⟨i,hi,e⟩:=List.getElem_of_mem hx
    have e':=(hat i hi (by omega)).1 e
    have k1:=JC hi
    have k2:=JC (l:=v) (i:=i) (by omega)
    rw [e] at k1
    rw [e'] at k2
    rw [e1] at k1
    omega
   ·have hy:¬ y ∈ v:=fun hy => hx (hmem.2 hy)
    rw [if_neg fun hh => hx (dM.1 hh),if_neg fun hh => hy (dM.1 hh),e2]
  refine ⟨by rw [xQ,xQ,e1]; show _ = _ ++ [(((addG (aZ v) y).idxOf y:Nat):Int)]; rw [← hidx],?_⟩
  rw [mM,mM,aGo,aGo,e2]
  by_cases hx:x ∈ u
  ·rw [if_pos (dM.2 hx),if_pos (dM.2 (hmem.1 hx))]
  ·rw [if_neg fun hh => hx (dM.1 hh),if_neg fun hh => hx (hmem.2 (dM.1 hh))]
theorem PS {l:List α} {m:List β} (h:aFc l m):numL l = numL m ∧ (aZ l).length = (aZ m).length:=aLx _ l m rfl h
theorem aJN {l:List α} {f:α → β} (h:(aZ l).length ≤ (aZ (l.map f)).length) {x y:α} (hx:x ∈ l) (hy:y ∈ l) (e:f x = f y):x = y:=by
 apply Classical.byContradiction
 intro hne
 have hy2:=dM.2 hy
 have hx2:=dM.2 hx
 have hs:∀ z ∈ aZ (l.map f),z ∈ ((aZ l).erase y).map f:=by
  intro z hz
  obtain ⟨w,hw,rfl⟩:=List.mem_map.1 (dM.1 hz)
  by_cases hwy:w = y
  ·subst hwy
   exact List.mem_map.2 ⟨x,(List.mem_erase_of_ne hne).2 hx2,e⟩
  ·exact List.mem_map.2 ⟨w,(List.mem_erase_of_ne hwy).2 (dM.2 hw),rfl⟩
 have h1:=yI (IS (l.map f)) hs
 rw [List.length_map,List.length_erase_of_mem hy2] at h1
 have hp:0 < (aZ l).length:=List.length_pos_of_mem hy2
 omega
theorem QD (l:List α) (f:α → β):(aZ (l.map f)).length ≤ (aZ l).length:=by
 have h1:=yI (l:=aZ (l.map f)) (m:=(aZ l).map f) (IS (l.map f)) fun z hz => by
  obtain ⟨w,hw,rfl⟩:=List.mem_map.1 (dM.1 hz)
  exact List.mem_map.2 ⟨w,dM.2 hw,rfl⟩
 rw [List.length_map] at h1
 exact h1
end
end
end Ev
end Go.Proofs.YtppdfjdfjfoddaaDoor
