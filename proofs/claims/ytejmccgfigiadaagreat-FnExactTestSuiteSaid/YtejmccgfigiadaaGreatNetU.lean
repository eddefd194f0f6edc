/-
  Products as the reference searches them, walked: distances, nodes that are bS.
-/
import Derived.Test.YtejmccgfigiadaaGreatNetT
set_option linter.unusedSimpArgs false
set_option linter.unusedVariables false
set_option maxRecDepth 8000
set_option maxHeartbeats 4000000
namespace Go.Proofs.YtejmccgfigiadaaGreat
namespace Ev
def IG (tab:List (List (List Int))) (aG:Nat):Prop:=tab.length = aG ∧ ∀ i,i < aG → (tab.getD i []).length ≤ 1000 ∧ ∀ r ∈ tab.getD i [],r.length ≤ 4294967290 ∧ ∀ x ∈ r,0 ≤ x ∧ x < aG
theorem Q5 {R:Type} {L n:Nat} (hn:3 ≤ n) (hL:2 ^ 60 ≤ L) {tab:List (List (List Int))} {aG:Nat} {d:Int} (ht:IG tab aG) (htt:aG ≤ 16777216) (hd:1 ≤ d) (hd2:d ≤ 4294967296) {k:Exit → List A → H → Option R}:∀ (j i m:Nat) (q:List Int) (b:Bool) (len:Nat) (hi:i + j = aG) (hm:j < m) (hq:q.length = aG) (hlen:len = aG),
  aJ env (aA env L n) L 1 [] Bz16 (lF 1) (Z2 (U2 (Z2 (Z1 (U16 (U8 (U4 ([])))))))) m (.d (.ivs tab.length (tabD tab)) :: .sl 0 0 0 len :: Y2 (.d (.bool b) :: nI d :: nI (i:Int) :: Y16 (Y8 (Y4 ([]))))) [.arr (ints q) 1 0] k
  = k (.exit 2) (.d (.ivs tab.length (tabD tab)) :: .sl 0 0 0 len :: Y2 (.d (.bool (((fP tab d j i (q,b)).2))) :: nI d :: nI (aG:Int) :: Y16 (Y8 (Y4 ([]))))) [.arr (ints (fP tab d j i (q,b)).1) 1 0]:=by
 obtain ⟨tl,ht⟩:=ht
 intro j
 induction j with
 | zero =>
  intro i m q b len hi hm hq hlen
  obtain _ | m:=m; omega
  obtain rfl:i = aG:=by omega
  subst hlen
  rw [wE]
  simp only [xR,Tryz.f158,SLM,simprocAttr]
  simp -implicitDefEqProofs (maxSteps:=2000000) (disch:=try exact Dz) only [↓DN,↓kAsg,↓kRet,UP,simprocAttr,↓oU,↓vF,↓mJ,↓mA,↓mG,TE,LA,Int.lt_irrefl]
  rfl
 | succ j ih =>
  intro i m q b len hi hm hq hlen
  obtain _ | m:=m; omega
  subst hlen
  have hk:i < q.length:=by omega
  have hkt:i < tab.length:=by omega
  have hc:(i:Int) < len:=by omega
  have hi0:(0:Int) ≤ i:=by omega
  obtain ⟨t1,t2⟩:=ht i (by omega)
  have kl_n:=@vF L (tab.getD i []) q (d - 1) (by omega) (by rw [hq]; exact t2) (by omega) hL
  rw [hq] at kl_n
  simp only [fP]
  by_cases h1:q.getD i 0 < 0
  ·by_cases h2:IU (tab.getD i []) q (d - 1) = true
   ·have ih':=ih (i + 1) m (q.set i d) true len (by omega) (by omega) (by simpa using hq) rfl
    rw [show ((i + 1:Nat):Int) = (i:Int) + 1 by omega] at ih'
    rw [if_pos ⟨h1,h2⟩]
    clear ih
    rw [h2] at kl_n
    rw [wE]
    simp only [xR,Tryz.f158,SLM,simprocAttr]
    simp -implicitDefEqProofs (maxSteps:=2000000) (disch:=try exact Dz) only [↓DN,↓kAsg,↓kRet,UP,simprocAttr,↓oU,↓mJ,↓mA,↓mG,TE,LA,hc,hi0,h1,↓kl_n,Int.toNat_natCast,dP,iY,↓CW,↓ih']
   ·have ih':=ih (i + 1) m q b len (by omega) (by omega) hq rfl
    rw [show ((i + 1:Nat):Int) = (i:Int) + 1 by omega] at ih'
    rw [if_neg fun h => h2 h.2]
    clear ih
    rw [Bool.not_eq_true] at h2
    rw [h2] at kl_n
    rw [wE]
    simp only [xR,Tryz.f158,SLM,simprocAttr]
    simp -implicitDefEqProofs (maxSteps:=2000000) (disch:=try exact Dz) only [↓DN,↓kAsg,↓kRet,UP,simprocAttr,↓oU,↓mJ,↓mA,↓mG,TE,LA,hc,hi0,h1,↓kl_n,Int.toNat_natCast,dP,iY,↓CW,↓ih']
  ·have ih':=ih (i + 1) m q b len (by omega) (by omega) hq rfl
   rw [show ((i + 1:Nat):Int) = (i:Int) + 1 by omega] at ih'
   rw [if_neg fun h => h1 h.1]
   clear ih kl_n
   rw [wE]
   simp only [xR,Tryz.f158,SLM,simprocAttr]
   simp -implicitDefEqProofs (maxSteps:=2000000) (disch:=try exact Dz) only [↓DN,↓kAsg,↓kRet,UP,simprocAttr,↓oU,↓mJ,↓mA,↓mG,TE,LA,hc,hi0,h1,Int.toNat_natCast,dP,iY,↓CW,↓ih']
def dEnd (tab:List (List (List Int))):Nat → Int → List Int → Int
 | 0,d,_ => d
 | j + 1,d,dist => if (fP tab d dist.length 0 (dist,false)).2 = true then dEnd tab j (d + 1) (fP tab d dist.length 0 (dist,false)).1 else d + 1
theorem S2 {tab:List (List (List Int))} {d:Int}:∀ (j i:Nat) (q:List Int × Bool),(fP tab d j i q).1.length = q.1.length
 | 0,_,q => rfl
 | j + 1,i,q => by
  simp only [fP]
  split
  ·rw [S2 j]; simp
  ·exact S2 j _ q
theorem aHb {R:Type} {L n m tt len:Nat} {tab:List (List (List Int))} {d:Int} {h:List Int} {k:Exit → List A → H → Option R} :
  aJ env (aA env L n) L 1 [] Bz16 (lF 0) Bz40 (m + 1) (.d (.ivs tt (tabD tab)) :: .sl 0 0 0 len :: Y2 (.d (.bool false) :: nI d :: Y16 (Y8 (Y4 (Y1 ([])))))) [.arr (ints h) 1 0] k
  = k (.exit 0) (.d (.ivs tt (tabD tab)) :: .sl 0 0 0 len :: Y2 (.d (.bool false) :: nI d :: Y16 (Y8 (Y4 (Y1 ([])))))) [.arr (ints h) 1 0]:=by
 rw [EC]
 simp only [FA,Tryz.f158,SLM,simprocAttr]
 simp -implicitDefEqProofs (maxSteps:=2000000) (disch:=try exact Dz) only [↓DN,↓kAsg,↓kRet,UP,simprocAttr,↓oU,↓vF,↓mJ,↓mA,↓mG,↓Q5]
theorem aFE {R:Type} {L n:Nat} (hn:3 ≤ n) (hL:2 ^ 60 ≤ L) {tab:List (List (List Int))} {aG:Nat} (ht:IG tab aG) (htt:aG ≤ 16777216) {k:Exit → List A → H → Option R}:∀ (j:Nat) (d:Int) (m:Nat) (q:List Int) (len:Nat) (hc:q.countP (· < 0) < j) (hm:j < m) (hd:1 ≤ d) (hd2:d + j ≤ 4294967296) (hq:q.length = aG) (hlen:len = aG),
  aJ env (aA env L n) L 1 [] Bz16 (lF 0) Bz40 m (.d (.ivs tab.length (tabD tab)) :: .sl 0 0 0 len :: Y2 (.d (.bool true) :: nI d :: Y16 (Y8 (Y4 (Y1 ([])))))) [.arr (ints q) 1 0] k
  = k (.exit 0) (.d (.ivs tab.length (tabD tab)) :: .sl 0 0 0 len :: Y2 (.d (.bool false) :: nI (dEnd tab j d q) :: Y16 (Y8 (Y4 (Y1 ([])))))) [.arr (ints (fJ tab j d q)) 1 0]:=by
 intro j
 induction j with
 | zero => intro d m q len hc; omega
 | succ j ih =>
  intro d m q len hc hm hd hd2 hq hlen
  obtain _ | m:=m; omega
  subst hlen
  have loop_c:=fun {R:Type} {n:Nat} {k:Exit → List A → H → Option R} (hn:3 ≤ n) => @Q5 R L n hn hL tab len d ht htt hd (by omega) k len 0 L q false len (by omega) (by omega) hq rfl
  simp only [Int.natCast_zero] at loop_c
  have hcnt:=aCC (tab:=tab) (d:=d) (by omega) len 0 (q,false) (by simp; omega)
  have hlen2:=S2 (tab:=tab) (d:=d) len 0 (q,false)
  simp only [fJ,dEnd,hq]
  generalize fP tab d len 0 (q,false) = r at *
  obtain ⟨r0,r1⟩:=r
  simp only at loop_c hcnt hlen2 ⊢
  cases r1 with
  | true =>
   have hlt:r0.countP (· < 0) < q.countP (· < 0):=by
    rcases hcnt.2 rfl with h | h
    ·cases h
    ·exact h
   have ih':=ih (d + 1) m r0 len (by omega) (by omega) (by omega) (by omega) (by omega) rfl
   simp only [if_true]
   clear ih hcnt
   rw [EC]
   simp only [FA,Tryz.f158,SLM,simprocAttr]
   simp -implicitDefEqProofs (maxSteps:=2000000) (disch:=try exact Dz) only [↓DN,↓kAsg,↓kRet,UP,simprocAttr,↓oU,↓vF,↓mJ,↓mA,↓mG,TE,↓loop_c,↓ih']
  | false =>
   simp only [Bool.false_eq_true,if_false]
   clear ih hcnt
   obtain _ | m:=m; omega
   have loop_e:=fun {d:Int} {h:List Int} => @aHb R L n m tab.length len tab d h k
   rw [EC]
   simp only [FA,Tryz.f158,SLM,simprocAttr]
   simp -implicitDefEqProofs (maxSteps:=2000000) (disch:=try exact Dz) only [↓DN,↓kAsg,↓kRet,UP,simprocAttr,↓oU,↓vF,↓mJ,↓mA,↓mG,TE,↓loop_c,↓loop_e]
theorem aOy {L n:Nat} (hn:4 ≤ n) (hL:2 ^ 60 ≤ L) {tab:List (List (List Int))} {aG:Nat} (ht:IG tab aG) (htt:aG ≤ 16777216) (dist:List Int) (hd:dist.length = aG) :
  aA env L n 158 [.d (.ivs tab.length (tabD tab)),.sl 0 0 0 dist.length] [.arr (ints dist) 1 0] = some (.tup [],[.arr (ints (fJ tab (aG + 1) 1 dist)) 1 0]):=by
 have hcl:dist.countP (· < 0) < aG + 1:=by have:=List.countP_le_length (p:=(· < 0)) (l:=dist); omega
 have loop_c:=fun {R:Type} {n:Nat} {k:Exit → List A → H → Option R} (hn:3 ≤ n) => @aFE R L n hn hL tab aG ht htt k (aG + 1) 1 L dist aG hcl (by omega) (by omega) (by omega) hd rfl
 rw [hd]
 generalize fJ tab (aG + 1) 1 dist = w at *
 obtain _ | n:=n; omega
 rw [aN3]
 simp only [aGx,Tryz.f158,SLM,simprocAttr]
 simp -implicitDefEqProofs (maxSteps:=2000000) (disch:=try exact Dz) only [↓DN,↓kAsg,↓kRet,UP,simprocAttr,↓oU,↓vF,↓mJ,↓mA,↓mG,TE,↓loop_c]
theorem aC2 {R:Type} {L n:Nat} (hn:3 ≤ n) (hL:2 ^ 60 ≤ L) {tab:List (List (List Int))} {dist at_ list:List Int} {d kk:Int} {ii:Nat} (hdl:dist.length ≤ 16777216) (hll:list.length ≤ 4294967290) (hr:∀ x ∈ list,0 ≤ x ∧ x < dist.length) {k:Exit → List A → H → Option R}:∀ (j p m:Nat) (o:List Int) (len:Nat) (hp:p + j = list.length) (hm:j < m) (hlen:len = o.length) (ho:o.length + j ≤ 4294967290),
  aJ env (aA env L n) L 0 [] Bz18 (kH 1) (Z4 (Z1 (U4 (U1 (Z4 (Z1 (U32 (U16 (U1 ([])))))))))) m (.d (.ivs tab.length (tabD tab)) :: .d (.ivs dist.length (ints dist)) :: .d (.ivs at_.length (ints at_)) :: nI kk :: nI d :: Y4 (Y1 (.d .nils :: .sl 0 0 0 len :: nI (ii:Int) :: .d (.ivs list.length (ints list)) :: nI (p:Int) :: Y32 (Y16 (Y1 ([])))))) [.arr (ints o) 1 0] k
  = k (.exit 2) (.d (.ivs tab.length (tabD tab)) :: .d (.ivs dist.length (ints dist)) :: .d (.ivs at_.length (ints at_)) :: nI kk :: nI d :: Y4 (Y1 (.d .nils :: .sl 0 0 0 (addC dist d (list.drop p) o).length :: nI (ii:Int) :: .d (.ivs list.length (ints list)) :: nI (list.length) :: Y32 (Y16 (Y1 ([])))))) [.arr (ints (addC dist d (list.drop p) o)) 1 0]:=by
 intro j
 induction j with
 | zero =>
  intro p m o len hp hm hlen ho
  obtain _ | m:=m; omega
  obtain rfl:p = list.length:=by omega
  subst hlen
  rw [rU]
  simp only [tG,Tryz.f160,SLM,simprocAttr]
  simp -implicitDefEqProofs (maxSteps:=2000000) (disch:=try exact Dz) only [↓DN,↓kAsg,↓kRet,UP,simprocAttr,↓kU,↓oX,↓iG,Int.lt_irrefl]
  simp [addC]
 | succ j ih =>
  intro p m o len hp hm hlen ho
  obtain _ | m:=m; omega
  subst hlen
  have hk:p < list.length:=by omega
  have hc:(p:Int) < list.length:=by omega
  have hp0:(0:Int) ≤ p:=by omega
  obtain ⟨r0,r1⟩:=hr _ (pL hk)
  have hk2:(list.getD p 0).toNat < dist.length:=by omega
  rw [dB hk (d:=0)]
  simp only [addC]
  by_cases h1:dist.getD (list.getD p 0).toNat 0 = d
  ·have kl_i:=@oX L o (list.getD p 0) (by omega) hL
   by_cases h2:list.getD p 0 ∈ o
   ·have ih':=ih (p + 1) m o o.length (by omega) (by omega) rfl (by omega)
    rw [show ((p + 1:Nat):Int) = (p:Int) + 1 by omega] at ih'
    rw [if_neg fun h => h.2 h2]
    clear ih
    rw [decide_eq_true h2] at kl_i
    rw [rU]
    simp only [tG,Tryz.f160,SLM,simprocAttr]
    simp -implicitDefEqProofs (maxSteps:=2000000) (disch:=try exact Dz) only [↓DN,↓kAsg,↓kRet,UP,simprocAttr,↓kU,↓iG,hc,hp0,h1,↓kl_i,r0,r1,Int.toNat_natCast,↓ih']
   ·have ih':=ih (p + 1) m (o ++ [list.getD p 0]) (o.length + 1) (by omega) (by omega) (by simp) (by rw [List.length_append,List.length_singleton]; omega)
    rw [show ((p + 1:Nat):Int) = (p:Int) + 1 by omega] at ih'
    rw [if_pos ⟨h1,h2⟩]
    clear ih
    rw [decide_eq_false h2] at kl_i
    rw [rU]
    simp only [tG,Tryz.f160,SLM,simprocAttr]
    simp -implicitDefEqProofs (maxSteps:=2000000) (disch:=try exact Dz) only [↓DN,↓kAsg,↓kRet,UP,simprocAttr,↓kU,↓iG,hc,hp0,h1,↓kl_i,r0,r1,Int.toNat_natCast,cQ,hU,List.length_append,↓ih']
  ·have ih':=ih (p + 1) m o o.length (by omega) (by omega) rfl (by omega)
   rw [show ((p + 1:Nat):Int) = (p:Int) + 1 by omega] at ih'
   rw [if_neg fun h => h1 h.1]
   clear ih
   rw [rU]
   simp only [tG,Tryz.f160,SLM,simprocAttr]
   simp -implicitDefEqProofs (maxSteps:=2000000) (disch:=try exact Dz) only [↓DN,↓kAsg,↓kRet,UP,simprocAttr,↓kU,↓iG,hc,hp0,h1,r0,r1,Int.toNat_natCast,↓ih']
theorem aEB {dist:List Int} {d:Int}:∀ (ms out:List Int),(addC dist d ms out).length ≤ out.length + ms.length
 | [],out => by simp [addC]
 | m :: ms,out => by
  unfold addC
  split
  ·have:=aEB (dist:=dist) (d:=d) ms (out ++ [m]); simp at this ⊢; omega
  ·have:=aEB (dist:=dist) (d:=d) ms out; simp at this ⊢; omega
theorem aCM {R:Type} {L n:Nat} (hn:3 ≤ n) (hL:2 ^ 60 ≤ L) {tab:List (List (List Int))} {dist at_:List Int} {d:Int} {kk aG:Nat} (ht:IG tab aG) (hd:dist.length = aG) (htt:aG ≤ 16777216) (hat:at_.length ≤ 16777216) (har:∀ x ∈ at_,0 ≤ x ∧ x < aG) (hkk:∀ i,i < aG → kk < (tab.getD i []).length ∧ ((tab.getD i []).getD kk []).length ≤ 64) {k:Exit → List A → H → Option R}:∀ (j i m:Nat) (o:List Int) (len:Nat) (hp:i + j = at_.length) (hm:j < m) (hlen:len = o.length) (ho:o.length + j * 64 ≤ 2147483648),
  aJ env (aA env L n) L 0 [] Bz18 (kH 0) (Z4 (Z1 (U4 (U1 (Z2 (Z1 (U32 (U16 (U2 (U1 ([]))))))))))) m (.d (.ivs tab.length (tabD tab)) :: .d (.ivs dist.length (ints dist)) :: .d (.ivs at_.length (ints at_)) :: nI (kk:Int) :: nI d :: Y4 (Y1 (.d .nils :: .sl 0 0 0 len :: nI (i:Int) :: Y32 (Y16 (Y2 (Y1 ([]))))))) [.arr (ints o) 1 0] k
  = k (.exit 0) (.d (.ivs tab.length (tabD tab)) :: .d (.ivs dist.length (ints dist)) :: .d (.ivs at_.length (ints at_)) :: nI (kk:Int) :: nI d :: Y4 (Y1 (.d .nils :: .sl 0 0 0 (bS tab dist kk d (at_.drop i) o).length :: nI (at_.length) :: Y32 (Y16 (Y2 (Y1 ([]))))))) [.arr (ints (bS tab dist kk d (at_.drop i) o)) 1 0]:=by
 obtain ⟨tl,ht⟩:=ht
 intro j
 induction j with
 | zero =>
  intro i m o len hp hm hlen ho
  obtain _ | m:=m; omega
  obtain rfl:i = at_.length:=by omega
  subst hlen
  rw [MF]
  simp only [HY,Tryz.f160,SLM,simprocAttr]
  simp -implicitDefEqProofs (maxSteps:=2000000) (disch:=try exact Dz) only [↓DN,↓kAsg,↓kRet,UP,simprocAttr,↓kU,↓oX,↓iG,Int.lt_irrefl]
  simp [bS]
 | succ j ih =>
  intro i m o len hp hm hlen ho
  obtain _ | m:=m; omega
  subst hlen
  have hk:i < at_.length:=by omega
  have hc:(i:Int) < at_.length:=by omega
  have hi0:(0:Int) ≤ i:=by omega
  obtain ⟨r0,r1⟩:=har _ (pL hk)
  have hk2:(at_.getD i 0).toNat < tab.length:=by omega
  have hc2:at_.getD i 0 < tab.length:=by omega
  obtain ⟨q1,q2⟩:=hkk (at_.getD i 0).toNat (by omega)
  obtain ⟨t1,t2⟩:=ht (at_.getD i 0).toNat (by omega)
  have hc3:(kk:Int) < (tab.getD (at_.getD i 0).toNat []).length:=by omega
  have hkk0:(0:Int) ≤ kk:=by omega
  have t3:=t2 ((tab.getD (at_.getD i 0).toNat []).getD kk []) (by
   rw [List.getD_eq_getElem?_getD (l:=tab.getD (at_.getD i 0).toNat []),List.getElem?_eq_getElem q1]; exact List.getElem_mem q1)
  rw [dB hk (d:=0)]
  simp only [bS]
  generalize hrow:tab.getD (at_.getD i 0).toNat [] = row at *
  generalize hli:row.getD kk [] = li at *
  rw [Nat.succ_mul] at ho
  have loop_c:=fun {R:Type} {n:Nat} {k:Exit → List A → H → Option R} (hn:3 ≤ n) => @aC2 R L n hn hL tab dist at_ li d kk i (by omega) (by omega) (by rw [hd]; exact t3.2) k li.length 0 L o o.length (by omega) (by omega) rfl (by omega)
  simp only [List.drop_zero,Int.natCast_zero] at loop_c
  have hal:=aEB (dist:=dist) (d:=d) li o
  have ih':=ih (i + 1) m (addC dist d li o) _ (by omega) (by omega) rfl (by omega)
  rw [show ((i + 1:Nat):Int) = (i:Int) + 1 by omega] at ih'
  clear ih hkk ht t2 t3
  generalize addC dist d li o = w at *
  rw [MF]
  simp only [HY,Tryz.f160,SLM,simprocAttr]
  simp -implicitDefEqProofs (maxSteps:=2000000) (disch:=try exact Dz) only [↓DN,↓kAsg,↓kRet,UP,simprocAttr,↓kU,↓oX,↓iG,TE,LA,hc,hi0,hc2,r0,hc3,hkk0,hrow,hli,Int.toNat_natCast,↓loop_c,↓ih']
theorem A6 {L n:Nat} (hn:4 ≤ n) (hL:2 ^ 60 ≤ L) {tab:List (List (List Int))} {dist at_:List Int} {d:Int} {kk aG:Nat} (ht:IG tab aG) (hd:dist.length = aG) (htt:aG ≤ 16777216) (hat:at_.length ≤ 16777216) (har:∀ x ∈ at_,0 ≤ x ∧ x < aG) (hkk:∀ i,i < aG → kk < (tab.getD i []).length ∧ ((tab.getD i []).getD kk []).length ≤ 64) :
  aA env L n 160 [.d (.ivs tab.length (tabD tab)),.d (.ivs dist.length (ints dist)),.d (.ivs at_.length (ints at_)),nI (kk:Int),nI d] [] = some (.d (.ivs (bS tab dist kk d at_ []).length (ints (bS tab dist kk d at_ []))),[]):=by
 have loop_c:=fun {R:Type} {n:Nat} {k:Exit → List A → H → Option R} (hn:3 ≤ n) => @aCM R L n hn hL tab dist at_ d kk aG ht hd htt hat har hkk k at_.length 0 L [] 0 (by omega) (by omega) rfl (by simp; omega)
 simp only [List.drop_zero,Int.natCast_zero,B2] at loop_c
 generalize bS tab dist kk d at_ [] = w at *
 have e4:(ints w).take w.length = ints w:=cQ (Nat.le_refl _)
 clear hkk har ht
 obtain _ | n:=n; omega
 rw [aLs]
 simp only [aBD,Tryz.f160,SLM,simprocAttr]
 simp -implicitDefEqProofs (maxSteps:=2000000) (disch:=try exact Dz) only [↓DN,↓kAsg,↓kRet,UP,simprocAttr,↓kU,↓oX,↓iG,↓loop_c,e4,eE]
end Ev
end Go.Proofs.YtejmccgfigiadaaGreat
