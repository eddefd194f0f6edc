/-
  Test suites: what the laws ask of them; calls whose arguments are data and that lay a suite.
-/
import Derived.Test.YtejmccgfigiadaaGreatSuiteI
import Derived.Test.YtejmccgfigiadaaGreatWords
import Derived.Test.YtejmccgfigiadaaGreatDistG
import Derived.Test.YtejmccgfigiadaaGreatAccess
import Derived.Test.YtejmccgfigiadaaGreatLett
set_option linter.unusedSimpArgs false
set_option linter.unusedVariables false
set_option maxRecDepth 8000
set_option maxHeartbeats 4000000
namespace Go.Proofs.YtejmccgfigiadaaGreat
namespace Ev
theorem aR0 {a:Aut} {x:Int} {l:List Str} (h:mT a x = some l) (w:Str):w ∈ l ↔ ∃ c ∈ d5 a,∃ m ∈ midG (aB a.al) (x.toNat + 1),∃ e ∈ sepW a,w = c ++ m ++ e:=by
 unfold mT at h
 split at h
 ·exact aWu h w
 ·cases h
theorem aCE {a:Aut} {x:Int} {l:List Str} (h:mT a x = some l):AOK a ∧ 0 ≤ x ∧ x ≤ 2 ∧ wD l ∧ l.length ≤ 3000:=by
 unfold mT at h
 split at h
 ·rename_i hc
  exact ⟨hc.1,hc.2.1,hc.2.2,aXI h⟩
 ·cases h
theorem aF1 {a:Aut} {x:Int} {l:List Str} (h:mT a x = some l) {w:Str} (hw:w ∈ l):(w.length:Int) ≤ 2 * a.nx.length + x ∧ hY a.al w = true ∧ gM w = true:=by
 obtain ⟨hv,h0,h2,_,_⟩:=aCE h
 obtain ⟨_,_,a1,a2,_⟩:=bT hv
 obtain ⟨c,hc,m,hm,e,he,rfl⟩:=(aR0 h w).1 hw
 have:=aOw hv hc hm he
 have h3:=this.1
 exact ⟨by omega,this.ok (oU hv).2.2.2 (by omega)⟩
theorem aPO {R:Type} {E:Env} {call:b7} {h:H} {f:FuncId} {args:List A} {l:List Str} {b:Bool} {k:KA R} (hs:args.all vS = true) (hm:(E.hint f).mode = 3) (hc:call f args [] = some (.tup [.sl 0 0 0 l.length,.d (.bool b)],[.arr (aJ l) 1 0])) :
  bC E call h f args k = k (.tup [.sl h.length 0 0 l.length,.d (.bool b)]) (h ++ [.arr (aJ l) 1 0]):=by
 rw [aAj hs hm hc (by simp only [s6,pJ,CQ,List.all_cons,List.all_nil,aI5,Bool.and_self])]
 simp [mapA,aW,back,mapO]
theorem aMT {R:Type} {E:Env} {call:b7} {h:H} {f:FuncId} {args:List A} {b:Bool} {k:KA R} (hs:args.all vS = true) (hm:(E.hint f).mode = 3) (hc:call f args [] = some (.tup [.d (.ivs 0 []),.d (.bool b)],[])) :
  bC E call h f args k = k (.tup [.d (.ivs 0 []),.d (.bool b)]) h:=by
 rw [aAj hs hm hc rfl]
 simp [mapA,aW]
theorem aQd {al q:Int} {rs:List (List Int)} {w:List UInt8} {i:Nat} (h:i < w.length):stGo al rs (w.drop i) q = stGo al rs (w.drop (i + 1)) (goI al rs q (ltr (w.getD i 0))):=by
 rw [dC h (d:=0)]
 rfl
theorem aEU {R:Type} {L n:Nat} (hn:1 ≤ n) {al:Int} {rs:List (List Int)} {ac:List Bool} {w:List UInt8} (hok:dU al rs ac = true) (hw:hY al w = true) {k:KE R}:∀ (i q:Int) (m:Nat) (h0:0 ≤ i) (hi:i ≤ w.length) (hm:(w.length:Int) - i < m) (hq0:0 ≤ q) (hq1:q < rs.length),
  aF env (aA env L n) L 0 [] Bz26 (sT 0) (U1 (Z1 (U2 (Z2 (Z1 (U8 (U4 (U2 (Z2 (U8 (U4 ([])))))))))))) m (Y1 (.d (.str w) :: Y2 (nI 0 :: .d (.ivs rs.length (ints (xC al rs))) :: nI q :: Y8 (Y4 (Y2 (nI (w.length) :: nI i :: Y8 (Y4 ([])))))))) [] k
  = k (.exit 0) (Y1 (.d (.str w) :: Y2 (nI 0 :: .d (.ivs rs.length (ints (xC al rs))) :: nI (stGo al rs (w.drop i.toNat) q) :: Y8 (Y4 (Y2 (nI (w.length) :: nI (w.length) :: Y8 (Y4 ([])))))))) []:=by
 intro i q m h0 hi hm hq0 hq1
 have htl:=qF al rs
 have hlen:=oU hok
 obtain ⟨hal,hwl,hin⟩:=vK hw
 obtain ⟨j,hj⟩:∃ j:Nat,(j:Int) = (w.length:Int) - i:=⟨((w.length:Int) - i).toNat,by omega⟩
 induction j generalizing i q m with
 | zero =>
  obtain _ | m:=m; omega
  obtain rfl:i = w.length:=by omega
  simp -implicitDefEqProofs (maxSteps:=2000000) (disch:=try exact Dz) only [↓DN,↓kAsg,↓kRet,UP,simprocAttr,↓aT,↓sI,↓rB,↓gE,↓aS,↓aG,↓aI,↓aH,LA,Int.lt_irrefl,JT,DW,Tryz.f76]
  simp only [Int.toNat_natCast,List.drop_length,stGo,List.foldl_nil]
 | succ j ih =>
  obtain _ | m:=m; omega
  have hc:i < w.length:=by omega
  have hk:i.toNat < w.length:=by omega
  have hb:w.getD i.toNat 0 ∈ w:=by rw [List.getD_eq_getElem?_getD,List.getElem?_eq_getElem hk]; exact List.getElem_mem hk
  obtain ⟨hb1,hb2⟩:=hin _ hb
  have hl6:=aGW.1 hb1
  have hg:=aGz hok hq0 hq1 hl6.1 hl6.2
  have e1:(i + 1).toNat = i.toNat + 1:=by omega
  have ih':=ih (i + 1) (goI al rs q (ltr (w.getD i.toNat 0))) m (by omega) (by omega) (by omega) hg.1 hg.2 (by omega)
  have hb3:kL (ltr (w.getD i.toNat 0)) = true:=hb1
  have hl0:=hl6.1
  have hl1:=hl6.2
  have hcl:(ltr (w.getD i.toNat 0)).toNat ≤ (List.drop (q.toNat * 6) (ints (xC al rs))).length:=by rw [List.length_drop,dS,htl]; omega
  rw [aQd hk,← e1]
  clear ih hg hl6 hb hin hw hok
  simp -implicitDefEqProofs (maxSteps:=2000000) (disch:=try exact Dz) only [↓DN,↓kAsg,↓kRet,UP,simprocAttr,↓aT,↓sI,↓rB,↓gE,↓aS,↓aG,↓aI,↓aH,LA,hc,hb3,dP,jJ,u_t6,u_a6,c_a6,U7,aEM,htl,cC,dS,if_true,↓ih',JT,DW,Tryz.f76]
theorem yN {L n:Nat} (hn:5 ≤ n) (al:Int) (rs:List (List Int)) (ac:List Bool) (w:List UInt8) (hs:bH rs) (ha:ac.length ≤ 4294967296) (hwl:w.length ≤ 4294967295) (hL:2 ^ 60 ≤ L):aA env L n 76 [.agg [nI al,.d (.ivs rs.length (rowsD rs)),.d (.ivs ac.length (bools ac))],.d (.str w)] [] = some (nI (HO al rs ac w),[]):=by
 have hl:=hs.1
 unfold HO
 cases hv:dU al rs ac with
 | false =>
  obtain _ | n:=n; omega
  simp -implicitDefEqProofs (maxSteps:=2000000) (disch:=try exact Dz) only [↓DN,↓kAsg,↓kRet,UP,simprocAttr,↓aT,↓sI,↓rB,↓gE,↓aS,↓aG,↓aI,↓aH,LA,hv,Bool.false_and,Bool.false_eq_true,if_false,HH,A7,Tryz.f76]
 | true =>
  cases hw:hY al w with
  | false =>
   obtain _ | n:=n; omega
   simp -implicitDefEqProofs (maxSteps:=2000000) (disch:=try exact Dz) only [↓DN,↓kAsg,↓kRet,UP,simprocAttr,↓aT,↓sI,↓rB,↓gE,↓aS,↓aG,↓aI,↓aH,LA,hv,hw,Bool.and_false,Bool.false_eq_true,if_false,HH,A7,Tryz.f76]
  | true =>
   have hwd:=wM hv
   have hlen:=oU hv
   have loop_a:=fun {R:Type} {n:Nat} (hn:1 ≤ n) {k:KE R} => aEU (R:=R) (L:=L) (n:=n) hn (k:=k) hv hw 0 0 L (by omega) (by omega) (by omega) (by omega) (by omega)
   simp only [Int.toNat_zero,List.drop_zero] at loop_a
   obtain _ | n:=n; omega
   simp -implicitDefEqProofs (maxSteps:=2000000) (disch:=try exact Dz) only [↓DN,↓kAsg,↓kRet,UP,simprocAttr,↓aT,↓sI,↓rB,↓gE,↓aS,↓aG,↓aI,↓aH,LA,hv,hw,Bool.and_self,if_true,↓loop_a,HH,A7,Tryz.f76]
theorem aIG:type_of% fun {L} al rs ac w hs ha hwl hL => ks fun hn => @yN L _ hn al rs ac w hs ha hwl hL:=fun {L} al rs ac w hs ha hwl hL => ks fun hn => @yN L _ hn al rs ac w hs ha hwl hL
theorem aJk:type_of% fun {L} al rs ac w hs ha hwl hL => kt fun hn => @yN L _ hn al rs ac w hs ha hwl hL:=fun {L} al rs ac w hs ha hwl hL => kt fun hn => @yN L _ hn al rs ac w hs ha hwl hL
theorem aES {L:Nat} {id0 g0 o0 len0:Nat} {al:Int} {ac:List Bool} {w:List UInt8}:KV L 76 [.agg [nI al,.sl id0 g0 o0 len0,.d (.ivs ac.length (bools ac))],.d (.str w)]:=fun _ _ _ _ => aC p8
theorem aE7 {L:Nat} {id1 g1 o1 len1:Nat} {al:Int} {rs:List (List Int)} {w:List UInt8}:KV L 76 [.agg [nI al,.d (.ivs rs.length (rowsD rs)),.sl id1 g1 o1 len1],.d (.str w)]:=fun _ _ _ _ => aC p8
theorem aEV {L:Nat} {id1 g1 o1 len1:Nat} {id0 g0 o0 len0:Nat} {al:Int} {w:List UInt8}:KV L 76 [.agg [nI al,.sl id0 g0 o0 len0,.sl id1 g1 o1 len1],.d (.str w)]:=fun _ _ _ _ => aC p8
section
variable {R:Type} {L n:Nat}
theorem aXg:∀ (x a:Fin 64),(∀ m:Fin 6,eB (x.val:Int) (m.val:Int) = true → eB (a.val:Int) (m.val:Int) = true) → iAnd .i64 (x.val:Int) (a.val:Int) = (x.val:Int):=by decide +kernel
theorem aZz {x a:Int} (hx:eK x = true) (ha:eK a = true) (h:∀ m:Int,kL m = true → eB x m = true → eB a m = true):iAnd .i64 x a = x:=by
 unfold eK at hx ha; simp only [decide_eq_true_eq] at hx ha
 have:=aXg ⟨x.toNat,by omega⟩ ⟨a.toNat,by omega⟩ (fun m => by
  simp only [Int.toNat_of_nonneg hx.1,Int.toNat_of_nonneg ha.1]
  exact h m.val (FB.2 (by have:=m.isLt; omega)))
 simpa only [Int.toNat_of_nonneg hx.1,Int.toNat_of_nonneg ha.1] using this
theorem aSJ {al:Int} {w:List UInt8} (h:hY al w = true):gM w = true:=by
 obtain ⟨_,h2,h3⟩:=vK h
 unfold gM
 simp only [Bool.and_eq_true,decide_eq_true_eq,List.all_eq_true]
 exact ⟨h2,fun b hb => (h3 b hb).1⟩
theorem aRH {al:Int} {w:List UInt8} (h:hY al w = true):eK (EV w) = true ∧ iAnd .i64 (EV w) al = EV w:=by
 obtain ⟨h1,h2,h3⟩:=vK h
 have hl:∀ l ∈ w.map ltr,kL l = true:=by
  intro l hl
  obtain ⟨b,hb,rfl⟩:=List.mem_map.1 hl
  exact (h3 b hb).1
 have hA:eK (EV w) = true:=aPx hl
 refine ⟨hA,aZz hA h1 fun m hm hb => ?_⟩
 unfold EV at hb
 rw [aVp hl hm,List.any_eq_true] at hb
 obtain ⟨l,hlm,hd⟩:=hb
 simp only [decide_eq_true_eq] at hd
 obtain ⟨b,hb,rfl⟩:=List.mem_map.1 hlm
 rw [hd]; exact (h3 b hb).2
def accW (a:Aut) (w:List UInt8):Bool:=a.ac.getD (stGo a.al a.nx w 0).toNat false
theorem aOo {a:Aut} (ha:AOK a):∀ (w:List UInt8) (q:Int),(∀ b ∈ w,okB b = true) → 0 ≤ q → q < a.nx.length → 0 ≤ stGo a.al a.nx w q ∧ stGo a.al a.nx w q < a.nx.length
 | [],q,_,h0,h1 => ⟨h0,h1⟩
 | b :: w,q,hw,h0,h1 => by
  have hl:=aGW.1 (hw b List.mem_cons_self)
  have hg:=aGz ha h0 h1 hl.1 hl.2
  exact aOo ha w _ (fun x hx => hw x (List.mem_cons_of_mem _ hx)) hg.1 hg.2
theorem aQN {a:Aut} (ha:AOK a) {w:List UInt8} (hw:hY a.al w = true):0 ≤ stGo a.al a.nx w 0 ∧ stGo a.al a.nx w 0 < a.ac.length:=by
 obtain ⟨_,_,a1,_,a3⟩:=bT ha
 obtain ⟨_,_,h3⟩:=vK hw
 have:=aOo ha w 0 (fun b hb => (h3 b hb).1) (by omega) (by omega)
 omega
theorem vO (hn:6 ≤ n) (a:Aut) (w:List UInt8) (ha:AOK a) (hw:hY a.al w = true) (hL:2 ^ 60 ≤ L):aA env L n 36 [.agg [nI a.al,.d (.ivs a.nx.length (rowsD a.nx)),.d (.ivs a.ac.length (bools a.ac))],.d (.str w)] [] = some (.d (.bool (accW a w)),[]):=by
 obtain ⟨sa,wa,a1,a2,a3⟩:=bT ha
 obtain ⟨r0,r1⟩:=aQN ha hw
 obtain ⟨_,hwl,_⟩:=vK hw
 have kc_s:=@aIG L a.al a.nx a.ac w sa (by omega) (by omega) hL
 have e:HO a.al a.nx a.ac w = stGo a.al a.nx w 0:=by
  unfold HO
  rw [show dU a.al a.nx a.ac = true from ha,hw]; rfl
 rw [e] at kc_s
 unfold accW
 clear wa ha hw e
 generalize stGo a.al a.nx w 0 = q at *
 obtain _ | n:=n; omega
 simp -implicitDefEqProofs (maxSteps:=2000000) (disch:=try exact Dz) only [↓DN,↓kAsg,↓kRet,UP,simprocAttr,↓aJk,↓aES,↓aE7,↓aEV,LA,r0,r1,↓kc_s,ZS,MK,aGO,UU,Tryz.f36]
theorem lL:type_of% fun {L} a w ha hw hL => ks fun hn => @vO L _ hn a w ha hw hL:=fun {L} a w ha hw hL => ks fun hn => @vO L _ hn a w ha hw hL
theorem lO:type_of% fun {L} a w ha hw hL => kt fun hn => @vO L _ hn a w ha hw hL:=fun {L} a w ha hw hL => kt fun hn => @vO L _ hn a w ha hw hL
theorem jZ {L:Nat} {id0 g0 o0 len0:Nat} {a:Aut} {w:List UInt8}:KV L 36 [.agg [nI a.al,.sl id0 g0 o0 len0,.d (.ivs a.ac.length (bools a.ac))],.d (.str w)]:=fun _ _ _ _ => aC o8
theorem j2 {L:Nat} {id1 g1 o1 len1:Nat} {a:Aut} {w:List UInt8}:KV L 36 [.agg [nI a.al,.d (.ivs a.nx.length (rowsD a.nx)),.sl id1 g1 o1 len1],.d (.str w)]:=fun _ _ _ _ => aC o8
theorem jN {L:Nat} {id1 g1 o1 len1:Nat} {id0 g0 o0 len0:Nat} {a:Aut} {w:List UInt8}:KV L 36 [.agg [nI a.al,.sl id0 g0 o0 len0,.sl id1 g1 o1 len1],.d (.str w)]:=fun _ _ _ _ => aC o8
theorem aE0 (hn:2 ≤ n) {s:List UInt8} (hs:s.length ≤ 50000) (ha:s.all okB = true) {k:KE R}:∀ (i o:Int) (m:Nat) (h0:0 ≤ i) (hi:i ≤ s.length) (hm:(s.length:Int) - i < m),
  aF env (aA env L n) L 0 [] (U1 (Z1 (U4 (Z16 ([]))))) (sU 0) (Z1 (U1 (Z4 (U16 ([]))))) m (.d (.str s) :: Y1 (nI 0 :: .d (.bool false) :: nI o :: nI i :: Y16 ([]))) [] k
  = k (.exit 0) (.d (.str s) :: Y1 (nI 0 :: .d (.bool false) :: nI ((s.drop i.toNat).foldl (fun o b => iOr .i64 o (bitI (ltr b))) o) :: nI (s.length) :: Y16 ([]))) []:=by
 intro i o m h0 hi hm
 obtain ⟨j,hj⟩:∃ j:Nat,(j:Int) = (s.length:Int) - i:=⟨((s.length:Int) - i).toNat,by omega⟩
 induction j generalizing i m o with
 | zero =>
  obtain _ | m:=m; omega
  obtain rfl:i = s.length:=by omega
  simp -implicitDefEqProofs (maxSteps:=2000000) (disch:=try exact Dz) only [↓DN,↓kAsg,↓kRet,UP,simprocAttr,↓qQ,↓lV,↓aA5,gK,Int.lt_irrefl,I7,DF,Tryz.f162]
  simp only [List.drop_length,List.foldl_nil]
 | succ j ih =>
  obtain _ | m:=m; omega
  have hc:i < s.length:=by omega
  have hk:i.toNat < s.length:=by omega
  have e1:(i + 1).toNat = i.toNat + 1:=by omega
  have hb:=a0u (d:=0) ha hk
  have hsl:=FB.1 hb
  have hsl0:=hsl.1
  have hsl1:ltr (s.getD i.toNat 0) ≤ 9223372036854775807:=by omega
  rw [aXK hk (d:=0),← e1]
  have ih':=ih (i + 1) (iOr .i64 o (bitI (ltr (s.getD i.toNat 0)))) m (by omega) (by omega) (by omega) (by omega)
  clear ih hsl
  simp -implicitDefEqProofs (maxSteps:=2000000) (disch:=try exact Dz) only [↓DN,↓kAsg,↓kRet,UP,simprocAttr,↓qQ,↓lV,↓aA5,gK,hc,↓ih',I7,DF,Tryz.f162]
theorem T8 (hn:4 ≤ n) (s:List UInt8) (hw:gM s = true) (hL:2 ^ 60 ≤ L):aA env L n 162 [.d (.str s)] [] = some (.tup [nI (EV s),.d (.bool true)],[]):=by
 have hw':=hw
 unfold gM at hw'
 simp only [Bool.and_eq_true,decide_eq_true_eq] at hw'
 obtain ⟨hw1,hw2⟩:=hw'
 have e:s.foldl (fun o b => iOr .i64 o (bitI (ltr b))) 0 = EV s:=by
  unfold EV aM8; rw [List.foldl_map]
 have loop_a:=fun {R n k} hn => @aE0 R L n hn s hw1 hw2 k 0 0 L (by omega) (by omega) (by omega)
 simp only [Int.toNat_zero,List.drop_zero,e] at loop_a
 obtain _ | n:=n; omega
 simp -implicitDefEqProofs (maxSteps:=2000000) (disch:=try exact Dz) only [↓DN,↓kAsg,↓kRet,UP,simprocAttr,↓qQ,↓lV,↓aA5,hw,gK,↓loop_a,aIp,Z6,Tryz.f162]
theorem aIm:type_of% fun {L} s hw hL => ks fun hn => @T8 L _ hn s hw hL:=fun {L} s hw hL => ks fun hn => @T8 L _ hn s hw hL
theorem V8 (hn:5 ≤ n) (s:List UInt8) (al:Int) (hw:hY al s = true) (hL:2 ^ 60 ≤ L):aA env L n 132 [.d (.str s),nI al] [] = some (.d (.bool true),[]):=by
 have h1:=aSJ hw
 obtain ⟨h2,h3⟩:=aRH hw
 have h4:=(vK hw).1
 obtain _ | n:=n; omega
 simp -implicitDefEqProofs (maxSteps:=2000000) (disch:=try exact Dz) only [↓DN,↓kAsg,↓kRet,UP,simprocAttr,↓aIm,↓gR,h1,h3,h4,beq_self_eq_true,aJv,YB,Tryz.f132]
theorem aHL:type_of% fun {L} s al hw hL => ks fun hn => @V8 L _ hn s al hw hL:=fun {L} s al hw hL => ks fun hn => @V8 L _ hn s al hw hL
theorem aNR (hn:4 ≤ n) (hL:2 ^ 60 ≤ L) {a:Aut} {w:List UInt8} (ha:AOK a) (hw:hY a.al w = true) {k:KE R}:∀ (i q:Int) (m:Nat) (h0:0 ≤ i) (hi:i ≤ w.length) (hm:(w.length:Int) - i < m) (hq0:0 ≤ q) (hq1:q < a.nx.length),
  aF env (aA env L n) L 0 [] Bz37 (G2 0) (U1 (Z2 (Z1 (U2 (Z2 (U8 (U4 (U1 ([]))))))))) m (Y1 (nI q :: .d (.str w) :: .ptr 0 0 0 :: Y2 (nI 0 :: nI i :: Y8 (Y4 (Y1 ([])))))) [.box [nI a.al,.d (.ivs a.nx.length (rowsD a.nx)),.d (.ivs a.ac.length (bools a.ac))]] k
  = k (.exit 0) (Y1 (nI (stGo a.al a.nx (w.drop i.toNat) q) :: .d (.str w) :: .ptr 0 0 0 :: Y2 (nI 0 :: nI (w.length) :: Y8 (Y4 (Y1 ([])))))) [.box [nI a.al,.d (.ivs a.nx.length (rowsD a.nx)),.d (.ivs a.ac.length (bools a.ac))]]:=by
 intro i q m h0 hi hm hq0 hq1
 obtain ⟨sa,wa,a1,a2,a3⟩:=bT ha
 obtain ⟨hal,hwl,hin⟩:=vK hw
 obtain ⟨j,hj⟩:∃ j:Nat,(j:Int) = (w.length:Int) - i:=⟨((w.length:Int) - i).toNat,by omega⟩
 induction j generalizing i q m with
 | zero =>
  obtain _ | m:=m; omega
  obtain rfl:i = w.length:=by omega
  simp -implicitDefEqProofs (maxSteps:=2000000) (disch:=try exact Dz) only [↓DN,↓kAsg,↓kRet,UP,simprocAttr,↓lV,↓UC,↓VJ,↓LX,↓L1,↓L4,LA,Int.lt_irrefl,YM,XM,Tryz.f133]
  simp only [Int.toNat_natCast,List.drop_length,stGo,List.foldl_nil]
 | succ j ih =>
  obtain _ | m:=m; omega
  have hc:i < w.length:=by omega
  have hk:i.toNat < w.length:=by omega
  have hb:w.getD i.toNat 0 ∈ w:=by rw [List.getD_eq_getElem?_getD,List.getElem?_eq_getElem hk]; exact List.getElem_mem hk
  have hl6:=aGW.1 (hin _ hb).1
  have hg:=aGz ha hq0 hq1 hl6.1 hl6.2
  have e1:(i + 1).toNat = i.toNat + 1:=by omega
  have ih':=ih (i + 1) (goI a.al a.nx q (ltr (w.getD i.toNat 0))) m (by omega) (by omega) (by omega) hg.1 hg.2 (by omega)
  have kc_g:=@UC L a.al q (ltr (w.getD i.toNat 0)) a.nx a.ac.length (bools a.ac) sa (wM ha) hq0 hq1 hl6.1 hl6.2 hL
  rw [aQd hk,← e1]
  clear ih hg hl6 hb hin
  simp -implicitDefEqProofs (maxSteps:=2000000) (disch:=try exact Dz) only [↓DN,↓kAsg,↓kRet,UP,simprocAttr,↓lV,↓VJ,↓LX,↓L1,↓L4,LA,hc,↓kc_g,Nat.sub_self,List.range'_zero,↓ih',YM,XM,Tryz.f133]
theorem PX (hn:5 ≤ n) (a:Aut) (w:List UInt8) (ha:AOK a) (hw:hY a.al w = true) (hL:2 ^ 60 ≤ L):aA env L n 133 [.agg [nI a.al,.d (.ivs a.nx.length (rowsD a.nx)),.d (.ivs a.ac.length (bools a.ac))],nI 0,.d (.str w)] [] = some (nI (stGo a.al a.nx w 0),[]):=by
 obtain ⟨_,_,a1,_,_⟩:=bT ha
 obtain ⟨_,hwl,_⟩:=vK hw
 have loop_a:=fun {R n k} hn => @aNR R L n hn hL a w ha hw k 0 0 L (by omega) (by omega) (by omega) (by omega) (by omega)
 simp only [Int.toNat_zero,List.drop_zero] at loop_a
 obtain _ | n:=n; omega
 simp -implicitDefEqProofs (maxSteps:=2000000) (disch:=try exact Dz) only [↓DN,↓kAsg,↓kRet,UP,simprocAttr,↓lV,↓UC,↓VJ,↓LX,↓L1,↓L4,LA,↓loop_a,aQ1,aLe,Tryz.f133]
theorem aRI:type_of% fun {L} a w ha hw hL => ks fun hn => @PX L _ hn a w ha hw hL:=fun {L} a w ha hw hL => ks fun hn => @PX L _ hn a w ha hw hL
theorem aR7:type_of% fun {L} a w ha hw hL => kt fun hn => @PX L _ hn a w ha hw hL:=fun {L} a w ha hw hL => kt fun hn => @PX L _ hn a w ha hw hL
theorem aNw {L:Nat} {id0 g0 o0 len0:Nat} {a:Aut} {w:List UInt8}:KV L 133 [.agg [nI a.al,.sl id0 g0 o0 len0,.d (.ivs a.ac.length (bools a.ac))],nI 0,.d (.str w)]:=fun _ _ _ _ => aC z8
theorem aOW {L:Nat} {id1 g1 o1 len1:Nat} {a:Aut} {w:List UInt8}:KV L 133 [.agg [nI a.al,.d (.ivs a.nx.length (rowsD a.nx)),.sl id1 g1 o1 len1],nI 0,.d (.str w)]:=fun _ _ _ _ => aC z8
theorem aNr {L:Nat} {id1 g1 o1 len1:Nat} {id0 g0 o0 len0:Nat} {a:Aut} {w:List UInt8}:KV L 133 [.agg [nI a.al,.sl id0 g0 o0 len0,.sl id1 g1 o1 len1],nI 0,.d (.str w)]:=fun _ _ _ _ => aC z8
theorem wU (hn:9 ≤ n) (a:Aut) (w:List UInt8) (ha:AOK a) (hw:hY a.al w = true) (hL:2 ^ 60 ≤ L):aA env L n 59 [.agg [nI a.al,.d (.ivs a.nx.length (rowsD a.nx)),.d (.ivs a.ac.length (bools a.ac))],.d (.str w)] [] = some (.d (.bool (accW a w)),[]):=by
 obtain ⟨sa,wa,a1,a2,a3⟩:=bT ha
 obtain ⟨r0,r1⟩:=aQN ha hw
 have hrl:=sa.1
 have hac:a.ac.length ≤ 4294967296:=by omega
 have ev:∀ {n:Nat},8 ≤ n → aA env L n 100 [.agg [nI a.al,.d (.ivs a.nx.length (rowsD a.nx)),.d (.ivs a.ac.length (bools a.ac))],.d (.str w)] [] = some (nI (stGo a.al a.nx w 0),[]):=by
  intro n hn
  have hve:dU a.al a.nx a.ac = true:=ha
  have kc_r:=@aRI L a w ha hw hL
  have kc_w:=@aHL L w a.al hw hL
  clear r0 r1
  obtain _ | n:=n; omega
  simp -implicitDefEqProofs (maxSteps:=2000000) (disch:=try exact Dz) only [↓DN,↓kAsg,↓kRet,UP,simprocAttr,↓aU,↓aV,↓aR7,↓aO,↓aP,↓aQ,↓aNw,↓aOW,↓aNr,LA,hve,↓kc_r,↓kc_w,aJD,ZZ,Tryz.f100]
 have kc_s:=fun {R:Type} {n:Nat} {hq:H} {k:KA R} (hn:8 ≤ n) => eS (E:=env) (call:=aA env L n) (h:=hq) (k:=k) (f:=100) rfl (ev hn) rfl (.inl rfl)
 unfold accW
 clear wa ha hw ev
 generalize stGo a.al a.nx w 0 = q at *
 obtain _ | n:=n; omega
 simp -implicitDefEqProofs (maxSteps:=2000000) (disch:=try exact Dz) only [↓DN,↓kAsg,↓kRet,UP,simprocAttr,LA,r0,r1,↓kc_s,ZS,MK,aGR,VU,Tryz.f59]
theorem lK:type_of% fun {L} a w ha hw hL => ks fun hn => @wU L _ hn a w ha hw hL:=fun {L} a w ha hw hL => ks fun hn => @wU L _ hn a w ha hw hL
theorem lH:type_of% fun {L} a w ha hw hL => kt fun hn => @wU L _ hn a w ha hw hL:=fun {L} a w ha hw hL => kt fun hn => @wU L _ hn a w ha hw hL
theorem kD {L:Nat} {id0 g0 o0 len0:Nat} {a:Aut} {w:List UInt8}:KV L 59 [.agg [nI a.al,.sl id0 g0 o0 len0,.d (.ivs a.ac.length (bools a.ac))],.d (.str w)]:=fun _ _ _ _ => aC o7
theorem jQ {L:Nat} {id1 g1 o1 len1:Nat} {a:Aut} {w:List UInt8}:KV L 59 [.agg [nI a.al,.d (.ivs a.nx.length (rowsD a.nx)),.sl id1 g1 o1 len1],.d (.str w)]:=fun _ _ _ _ => aC o7
theorem jS {L:Nat} {id1 g1 o1 len1:Nat} {id0 g0 o0 len0:Nat} {a:Aut} {w:List UInt8}:KV L 59 [.agg [nI a.al,.sl id0 g0 o0 len0,.sl id1 g1 o1 len1],.d (.str w)]:=fun _ _ _ _ => aC o7
end
section
variable {R:Type} {L n:Nat}
def P7 (a b:Aut):Bool:=dU a.al a.nx a.ac && dU b.al b.nx b.ac && decide (a.al = b.al)
theorem aLj {a b:Aut}:P7 a b = true ↔ AOK a ∧ AOK b ∧ a.al = b.al:=by
 unfold P7 AOK
 simp only [Bool.and_eq_true,decide_eq_true_eq,and_assoc]
def K9 (a b:Aut) (l:List Str) (i:Nat):Bool:=!(accW a (l.getD i []) == accW b (l.getD i []))
def aRf (a b:Aut) (l:List Str):Str × Bool:=match seek (K9 a b l) l.length 0 with
 | none => ([],false)
 | some q => (l.getD q [],true)
def aAR (a b:Aut) (x:Int):Str × Bool:=match mT a x with
 | none => ([],false)
 | some l => if P7 a b = true then aRf a b l else ([],false)
theorem vX (hn:6 ≤ n) (a b:Aut) (sa:bH a.nx) (sb:bH b.nx) (ha:a.ac.length ≤ 4294967296) (hb:b.ac.length ≤ 4294967296) (hL:2 ^ 60 ≤ L):aA env L n 60 [.agg [nI a.al,.d (.ivs a.nx.length (rowsD a.nx)),.d (.ivs a.ac.length (bools a.ac))],.agg [nI b.al,.d (.ivs b.nx.length (rowsD b.nx)),.d (.ivs b.ac.length (bools b.ac))]] [] = some (.d (.bool (P7 a b)),[]):=by
 have hra:=sa.1
 have hrb:=sb.1
 unfold P7
 cases h1:dU a.al a.nx a.ac with
 | false =>
  obtain _ | n:=n; omega
  simp -implicitDefEqProofs (maxSteps:=2000000) (disch:=try exact Dz) only [↓DN,↓kAsg,↓kRet,UP,simprocAttr,↓aT,↓aS,↓aG,↓aI,↓aH,LA,h1,Bool.false_and,DS,yC,Tryz.f60]
 | true =>
  cases h2:dU b.al b.nx b.ac with
  | false =>
   obtain _ | n:=n; omega
   simp -implicitDefEqProofs (maxSteps:=2000000) (disch:=try exact Dz) only [↓DN,↓kAsg,↓kRet,UP,simprocAttr,↓aT,↓aS,↓aG,↓aI,↓aH,LA,h1,h2,Bool.false_and,Bool.and_false,DS,yC,Tryz.f60]
  | true =>
   obtain _ | n:=n; omega
   simp -implicitDefEqProofs (maxSteps:=2000000) (disch:=try exact Dz) only [↓DN,↓kAsg,↓kRet,UP,simprocAttr,↓aT,↓aS,↓aG,↓aI,↓aH,LA,h1,h2,Bool.true_and,DS,yC,Tryz.f60]
theorem wN:type_of% fun {L} a b sa sb ha hb hL => ks fun hn => @vX L _ hn a b sa sb ha hb hL:=fun {L} a b sa sb ha hb hL => ks fun hn => @vX L _ hn a b sa sb ha hb hL
theorem lN:type_of% fun {L} a b sa sb ha hb hL => kt fun hn => @vX L _ hn a b sa sb ha hb hL:=fun {L} a b sa sb ha hb hL => kt fun hn => @vX L _ hn a b sa sb ha hb hL
theorem kE {L:Nat} {id0 g0 o0 len0:Nat} {a b:Aut}:KV L 60 [.agg [nI a.al,.sl id0 g0 o0 len0,.d (.ivs a.ac.length (bools a.ac))],.agg [nI b.al,.d (.ivs b.nx.length (rowsD b.nx)),.d (.ivs b.ac.length (bools b.ac))]]:=fun _ _ _ _ => aC b8
theorem j9 {L:Nat} {id1 g1 o1 len1:Nat} {a b:Aut}:KV L 60 [.agg [nI a.al,.d (.ivs a.nx.length (rowsD a.nx)),.sl id1 g1 o1 len1],.agg [nI b.al,.d (.ivs b.nx.length (rowsD b.nx)),.d (.ivs b.ac.length (bools b.ac))]]:=fun _ _ _ _ => aC b8
theorem jX {L:Nat} {id1 g1 o1 len1:Nat} {id0 g0 o0 len0:Nat} {a b:Aut}:KV L 60 [.agg [nI a.al,.sl id0 g0 o0 len0,.sl id1 g1 o1 len1],.agg [nI b.al,.d (.ivs b.nx.length (rowsD b.nx)),.d (.ivs b.ac.length (bools b.ac))]]:=fun _ _ _ _ => aC b8
theorem kB {L:Nat} {id2 g2 o2 len2:Nat} {a b:Aut}:KV L 60 [.agg [nI a.al,.d (.ivs a.nx.length (rowsD a.nx)),.d (.ivs a.ac.length (bools a.ac))],.agg [nI b.al,.sl id2 g2 o2 len2,.d (.ivs b.ac.length (bools b.ac))]]:=fun _ _ _ _ => aC b8
theorem jP {L:Nat} {id2 g2 o2 len2:Nat} {id0 g0 o0 len0:Nat} {a b:Aut}:KV L 60 [.agg [nI a.al,.sl id0 g0 o0 len0,.d (.ivs a.ac.length (bools a.ac))],.agg [nI b.al,.sl id2 g2 o2 len2,.d (.ivs b.ac.length (bools b.ac))]]:=fun _ _ _ _ => aC b8
theorem j3 {L:Nat} {id2 g2 o2 len2:Nat} {id1 g1 o1 len1:Nat} {a b:Aut}:KV L 60 [.agg [nI a.al,.d (.ivs a.nx.length (rowsD a.nx)),.sl id1 g1 o1 len1],.agg [nI b.al,.sl id2 g2 o2 len2,.d (.ivs b.ac.length (bools b.ac))]]:=fun _ _ _ _ => aC b8
theorem kF {L:Nat} {id2 g2 o2 len2:Nat} {id1 g1 o1 len1:Nat} {id0 g0 o0 len0:Nat} {a b:Aut}:KV L 60 [.agg [nI a.al,.sl id0 g0 o0 len0,.sl id1 g1 o1 len1],.agg [nI b.al,.sl id2 g2 o2 len2,.d (.ivs b.ac.length (bools b.ac))]]:=fun _ _ _ _ => aC b8
theorem jM {L:Nat} {id3 g3 o3 len3:Nat} {a b:Aut}:KV L 60 [.agg [nI a.al,.d (.ivs a.nx.length (rowsD a.nx)),.d (.ivs a.ac.length (bools a.ac))],.agg [nI b.al,.d (.ivs b.nx.length (rowsD b.nx)),.sl id3 g3 o3 len3]]:=fun _ _ _ _ => aC b8
theorem kA {L:Nat} {id3 g3 o3 len3:Nat} {id0 g0 o0 len0:Nat} {a b:Aut}:KV L 60 [.agg [nI a.al,.sl id0 g0 o0 len0,.d (.ivs a.ac.length (bools a.ac))],.agg [nI b.al,.d (.ivs b.nx.length (rowsD b.nx)),.sl id3 g3 o3 len3]]:=fun _ _ _ _ => aC b8
theorem iR {L:Nat} {id3 g3 o3 len3:Nat} {id1 g1 o1 len1:Nat} {a b:Aut}:KV L 60 [.agg [nI a.al,.d (.ivs a.nx.length (rowsD a.nx)),.sl id1 g1 o1 len1],.agg [nI b.al,.d (.ivs b.nx.length (rowsD b.nx)),.sl id3 g3 o3 len3]]:=fun _ _ _ _ => aC b8
theorem iV {L:Nat} {id3 g3 o3 len3:Nat} {id1 g1 o1 len1:Nat} {id0 g0 o0 len0:Nat} {a b:Aut}:KV L 60 [.agg [nI a.al,.sl id0 g0 o0 len0,.sl id1 g1 o1 len1],.agg [nI b.al,.d (.ivs b.nx.length (rowsD b.nx)),.sl id3 g3 o3 len3]]:=fun _ _ _ _ => aC b8
theorem iQ {L:Nat} {id3 g3 o3 len3:Nat} {id2 g2 o2 len2:Nat} {a b:Aut}:KV L 60 [.agg [nI a.al,.d (.ivs a.nx.length (rowsD a.nx)),.d (.ivs a.ac.length (bools a.ac))],.agg [nI b.al,.sl id2 g2 o2 len2,.sl id3 g3 o3 len3]]:=fun _ _ _ _ => aC b8
theorem iU {L:Nat} {id3 g3 o3 len3:Nat} {id2 g2 o2 len2:Nat} {id0 g0 o0 len0:Nat} {a b:Aut}:KV L 60 [.agg [nI a.al,.sl id0 g0 o0 len0,.d (.ivs a.ac.length (bools a.ac))],.agg [nI b.al,.sl id2 g2 o2 len2,.sl id3 g3 o3 len3]]:=fun _ _ _ _ => aC b8
theorem iS {L:Nat} {id3 g3 o3 len3:Nat} {id2 g2 o2 len2:Nat} {id1 g1 o1 len1:Nat} {a b:Aut}:KV L 60 [.agg [nI a.al,.d (.ivs a.nx.length (rowsD a.nx)),.sl id1 g1 o1 len1],.agg [nI b.al,.sl id2 g2 o2 len2,.sl id3 g3 o3 len3]]:=fun _ _ _ _ => aC b8
theorem iY {L:Nat} {id3 g3 o3 len3:Nat} {id2 g2 o2 len2:Nat} {id1 g1 o1 len1:Nat} {id0 g0 o0 len0:Nat} {a b:Aut}:KV L 60 [.agg [nI a.al,.sl id0 g0 o0 len0,.sl id1 g1 o1 len1],.agg [nI b.al,.sl id2 g2 o2 len2,.sl id3 g3 o3 len3]]:=fun _ _ _ _ => aC b8
theorem aCe (hn:7 ≤ n) (hL:2 ^ 60 ≤ L) {a b:Aut} {l:List Str} (hl:l.length ≤ 3000) (ha:AOK a) (hb:AOK b) (hal:a.al = b.al) (hok:∀ w ∈ l,hY a.al w = true) {k:KE R}:∀ (j i m:Nat) (hi:i + j = l.length) (hm:j < m),
  aF env (aA env L n) L 0 [] Bz23 (p6 0) (U2 (U1 (Z2 (U1 (Z2 (U16 (U2 (Z2 (Z1 (U8 (U4 ([])))))))))))) m (Y2 (Y1 (.ptr 0 0 0 :: .ptr 1 0 0 :: Y1 (.d (.str ([])) :: .d (.bool false) :: Y16 (Y2 (.sl 2 0 0 l.length :: nI (l.length) :: nI i :: Y8 (Y4 ([])))))))) [.box [nI a.al,.d (.ivs a.nx.length (rowsD a.nx)),.d (.ivs a.ac.length (bools a.ac))],.box [nI b.al,.d (.ivs b.nx.length (rowsD b.nx)),.d (.ivs b.ac.length (bools b.ac))],.arr (aJ l) 1 0] k
  = match seek (K9 a b l) j i with
   | none => k (.exit 0) (Y2 (Y1 (.ptr 0 0 0 :: .ptr 1 0 0 :: Y1 (.d (.str ([])) :: .d (.bool false) :: Y16 (Y2 (.sl 2 0 0 l.length :: nI (l.length) :: nI (l.length) :: Y8 (Y4 ([])))))))) [.box [nI a.al,.d (.ivs a.nx.length (rowsD a.nx)),.d (.ivs a.ac.length (bools a.ac))],.box [nI b.al,.d (.ivs b.nx.length (rowsD b.nx)),.d (.ivs b.ac.length (bools b.ac))],.arr (aJ l) 1 0]
   | some q => k .ret (Y2 (Y1 (.ptr 0 0 0 :: .ptr 1 0 0 :: Y1 (.d (.str ((l.getD q []))) :: .d (.bool true) :: Y16 (Y2 (.sl 2 0 0 l.length :: nI (l.length) :: nI q :: Y8 (Y4 ([])))))))) [.box [nI a.al,.d (.ivs a.nx.length (rowsD a.nx)),.d (.ivs a.ac.length (bools a.ac))],.box [nI b.al,.d (.ivs b.nx.length (rowsD b.nx)),.d (.ivs b.ac.length (bools b.ac))],.arr (aJ l) 1 0]:=by
 intro j
 induction j with
 | zero =>
  intro i m hi hm
  obtain _ | m:=m; omega
  obtain rfl:i = l.length:=by omega
  simp -implicitDefEqProofs (maxSteps:=2000000) (disch:=try exact Dz) only [↓DN,↓kAsg,↓kRet,UP,simprocAttr,↓wN,↓lL,↓lN,↓lO,↓kE,↓iR,↓iV,↓iQ,↓iU,↓iS,↓iY,↓j9,↓jX,↓kB,↓jP,↓j3,↓kF,↓jM,↓kA,↓jZ,↓j2,↓jN,LA,SE,Int.lt_irrefl,uC,sR,Tryz.f22]
  rfl
 | succ j ih =>
  intro i m hi hm
  obtain _ | m:=m; omega
  have hc:(i:Int) < l.length:=by omega
  have hi0:(0:Int) ≤ i:=by omega
  have hw:=hok _ (jD (show i < l.length by omega))
  have kc_a:=@lL L a (l.getD i []) ha hw hL
  have kc_b:=@lL L b (l.getD i []) hb (by rw [← hal]; exact hw) hL
  have hwr:K9 a b l i = !(accW a (l.getD i []) == accW b (l.getD i [])):=rfl
  by_cases hz:(accW a (l.getD i []) == accW b (l.getD i [])) = true
  ·rw [hz] at hwr
   rw [rA hwr]
   have ih':=ih (i + 1) m (by omega) (by omega)
   rw [cs1 i] at ih'
   clear ih hok hw hwr ha hb
   generalize accW a (l.getD i []) = x at *
   generalize accW b (l.getD i []) = y at *
   generalize hwi:l.getD i [] = w at *
   simp -implicitDefEqProofs (maxSteps:=2000000) (disch:=try exact Dz) only [↓DN,↓kAsg,↓kRet,UP,simprocAttr,↓wN,↓lN,↓lO,↓kE,↓iR,↓iV,↓iQ,↓iU,↓iS,↓iY,↓j9,↓jX,↓kB,↓jP,↓j3,↓kF,↓jM,↓kA,↓jZ,↓j2,↓jN,LA,SE,hc,hi0,hwi,hz,↓kc_a,↓kc_b,Int.toNat_natCast,Nat.sub_self,List.range'_zero,↓ih',uC,sR,Tryz.f22]
  ·rw [Bool.not_eq_true] at hz
   rw [hz] at hwr
   rw [oC hwr]
   clear ih hok hw hwr ha hb
   generalize accW a (l.getD i []) = x at *
   generalize accW b (l.getD i []) = y at *
   generalize hwi:l.getD i [] = w at *
   simp -implicitDefEqProofs (maxSteps:=2000000) (disch:=try exact Dz) only [↓DN,↓kAsg,↓kRet,UP,simprocAttr,↓wN,↓lN,↓lO,↓kE,↓iR,↓iV,↓iQ,↓iU,↓iS,↓iY,↓j9,↓jX,↓kB,↓jP,↓j3,↓kF,↓jM,↓kA,↓jZ,↓j2,↓jN,LA,SE,hc,hi0,hwi,hz,↓kc_a,↓kc_b,Int.toNat_natCast,Nat.sub_self,List.range'_zero,uC,sR,Tryz.f22]
theorem qC (hn:16 ≤ n) (a b:Aut) (x:Int) (sa:bH a.nx) (sb:bH b.nx) (ha:a.ac.length ≤ 4294967296) (hb:b.ac.length ≤ 4294967296) (hL:2 ^ 60 ≤ L):aA env L n 22 [.agg [nI a.al,.d (.ivs a.nx.length (rowsD a.nx)),.d (.ivs a.ac.length (bools a.ac))],.agg [nI b.al,.d (.ivs b.nx.length (rowsD b.nx)),.d (.ivs b.ac.length (bools b.ac))],nI x] [] = some (.tup [.d (.str (aAR a b x).1),.d (.bool (aAR a b x).2)],[]):=by
 have hra:=sa.1
 have hrb:=sb.1
 have hI:=fun {n:Nat} (hn:15 ≤ n) => aJY (L:=L) hn a x sa ha hL
 unfold aAR
 cases hG:mT a x with
 | none =>
  rw [hG] at hI
  have kc_1:=fun {R:Type} {n:Nat} {hq:H} {k:KA R} (hn:15 ≤ n) => aMT (h:=hq) (k:=k) rfl wA (hI hn)
  clear hI
  obtain _ | n:=n; omega
  simp -implicitDefEqProofs (maxSteps:=2000000) (disch:=try exact Dz) only [↓DN,↓kAsg,↓kRet,UP,simprocAttr,↓lL,↓lN,↓lO,↓kE,↓iR,↓iV,↓iQ,↓iU,↓iS,↓iY,↓j9,↓jX,↓kB,↓jP,↓j3,↓kF,↓jM,↓kA,↓jZ,↓j2,↓jN,LA,SE,↓kc_1,tQ,rS,Tryz.f22]
 | some l =>
  rw [hG] at hI
  have kc_1:=fun {R:Type} {n:Nat} {hq:H} {k:KA R} (hn:15 ≤ n) => aPO (h:=hq) (k:=k) rfl wA (hI hn)
  have kc_c:=@wN L a b sa sb ha hb hL
  obtain ⟨hv,y0,_,_,hl⟩:=aCE hG
  clear hI
  cases hcm:P7 a b with
  | false =>
   rw [hcm] at kc_c
   simp only [Bool.false_eq_true,if_false]
   obtain _ | n:=n; omega
   simp -implicitDefEqProofs (maxSteps:=2000000) (disch:=try exact Dz) only [↓DN,↓kAsg,↓kRet,UP,simprocAttr,↓lL,↓lN,↓lO,↓kE,↓iR,↓iV,↓iQ,↓iU,↓iS,↓iY,↓j9,↓jX,↓kB,↓jP,↓j3,↓kF,↓jM,↓kA,↓jZ,↓j2,↓jN,LA,SE,↓kc_1,↓kc_c,tQ,rS,Tryz.f22]
  | true =>
   rw [hcm] at kc_c
   obtain ⟨va,vb,hal⟩:=aLj.1 hcm
   have loop_a:=fun {R n k} hn => @aCe R L n hn hL a b l hl va vb hal (fun w hw => (aF1 hG hw).2.1) k l.length 0 L (by omega) (by omega)
   simp only [Int.natCast_zero] at loop_a
   simp only [if_true]
   unfold aRf
   clear hv va vb hG
   cases hs:seek (K9 a b l) l.length 0 with
   | none =>
    simp only [hs] at loop_a
    obtain _ | n:=n; omega
    simp -implicitDefEqProofs (maxSteps:=2000000) (disch:=try exact Dz) only [↓DN,↓kAsg,↓kRet,UP,simprocAttr,↓lL,↓lN,↓lO,↓kE,↓iR,↓iV,↓iQ,↓iU,↓iS,↓iY,↓j9,↓jX,↓kB,↓jP,↓j3,↓kF,↓jM,↓kA,↓jZ,↓j2,↓jN,LA,SE,↓kc_1,↓kc_c,↓loop_a,tQ,rS,Tryz.f22]
   | some q =>
    simp only [hs] at loop_a
    obtain _ | n:=n; omega
    simp -implicitDefEqProofs (maxSteps:=2000000) (disch:=try exact Dz) only [↓DN,↓kAsg,↓kRet,UP,simprocAttr,↓lL,↓lN,↓lO,↓kE,↓iR,↓iV,↓iQ,↓iU,↓iS,↓iY,↓j9,↓jX,↓kB,↓jP,↓j3,↓kF,↓jM,↓kA,↓jZ,↓j2,↓jN,LA,SE,↓kc_1,↓kc_c,↓loop_a,tQ,rS,Tryz.f22]
theorem OO:type_of% fun {L} a b x sa sb ha hb hL => ks fun hn => @qC L _ hn a b x sa sb ha hb hL:=fun {L} a b x sa sb ha hb hL => ks fun hn => @qC L _ hn a b x sa sb ha hb hL
theorem OX:type_of% fun {L} a b x sa sb ha hb hL => kt fun hn => @qC L _ hn a b x sa sb ha hb hL:=fun {L} a b x sa sb ha hb hL => kt fun hn => @qC L _ hn a b x sa sb ha hb hL
theorem J4 {L:Nat} {id0 g0 o0 len0:Nat} {a b:Aut} {x:Int}:KV L 22 [.agg [nI a.al,.sl id0 g0 o0 len0,.d (.ivs a.ac.length (bools a.ac))],.agg [nI b.al,.d (.ivs b.nx.length (rowsD b.nx)),.d (.ivs b.ac.length (bools b.ac))],nI x]:=fun _ _ _ _ => aC bV
theorem JO {L:Nat} {id1 g1 o1 len1:Nat} {a b:Aut} {x:Int}:KV L 22 [.agg [nI a.al,.d (.ivs a.nx.length (rowsD a.nx)),.sl id1 g1 o1 len1],.agg [nI b.al,.d (.ivs b.nx.length (rowsD b.nx)),.d (.ivs b.ac.length (bools b.ac))],nI x]:=fun _ _ _ _ => aC bV
theorem J1 {L:Nat} {id1 g1 o1 len1:Nat} {id0 g0 o0 len0:Nat} {a b:Aut} {x:Int}:KV L 22 [.agg [nI a.al,.sl id0 g0 o0 len0,.sl id1 g1 o1 len1],.agg [nI b.al,.d (.ivs b.nx.length (rowsD b.nx)),.d (.ivs b.ac.length (bools b.ac))],nI x]:=fun _ _ _ _ => aC bV
theorem JC {L:Nat} {id2 g2 o2 len2:Nat} {a b:Aut} {x:Int}:KV L 22 [.agg [nI a.al,.d (.ivs a.nx.length (rowsD a.nx)),.d (.ivs a.ac.length (bools a.ac))],.agg [nI b.al,.sl id2 g2 o2 len2,.d (.ivs b.ac.length (bools b.ac))],nI x]:=fun _ _ _ _ => aC bV
theorem J7 {L:Nat} {id2 g2 o2 len2:Nat} {id0 g0 o0 len0:Nat} {a b:Aut} {x:Int}:KV L 22 [.agg [nI a.al,.sl id0 g0 o0 len0,.d (.ivs a.ac.length (bools a.ac))],.agg [nI b.al,.sl id2 g2 o2 len2,.d (.ivs b.ac.length (bools b.ac))],nI x]:=fun _ _ _ _ => aC bV
theorem JN {L:Nat} {id2 g2 o2 len2:Nat} {id1 g1 o1 len1:Nat} {a b:Aut} {x:Int}:KV L 22 [.agg [nI a.al,.d (.ivs a.nx.length (rowsD a.nx)),.sl id1 g1 o1 len1],.agg [nI b.al,.sl id2 g2 o2 len2,.d (.ivs b.ac.length (bools b.ac))],nI x]:=fun _ _ _ _ => aC bV
theorem IW {L:Nat} {id2 g2 o2 len2:Nat} {id1 g1 o1 len1:Nat} {id0 g0 o0 len0:Nat} {a b:Aut} {x:Int}:KV L 22 [.agg [nI a.al,.sl id0 g0 o0 len0,.sl id1 g1 o1 len1],.agg [nI b.al,.sl id2 g2 o2 len2,.d (.ivs b.ac.length (bools b.ac))],nI x]:=fun _ _ _ _ => aC bV
theorem IQ {L:Nat} {id3 g3 o3 len3:Nat} {a b:Aut} {x:Int}:KV L 22 [.agg [nI a.al,.d (.ivs a.nx.length (rowsD a.nx)),.d (.ivs a.ac.length (bools a.ac))],.agg [nI b.al,.d (.ivs b.nx.length (rowsD b.nx)),.sl id3 g3 o3 len3],nI x]:=fun _ _ _ _ => aC bV
theorem I6 {L:Nat} {id3 g3 o3 len3:Nat} {id0 g0 o0 len0:Nat} {a b:Aut} {x:Int}:KV L 22 [.agg [nI a.al,.sl id0 g0 o0 len0,.d (.ivs a.ac.length (bools a.ac))],.agg [nI b.al,.d (.ivs b.nx.length (rowsD b.nx)),.sl id3 g3 o3 len3],nI x]:=fun _ _ _ _ => aC bV
theorem IJ {L:Nat} {id3 g3 o3 len3:Nat} {id1 g1 o1 len1:Nat} {a b:Aut} {x:Int}:KV L 22 [.agg [nI a.al,.d (.ivs a.nx.length (rowsD a.nx)),.sl id1 g1 o1 len1],.agg [nI b.al,.d (.ivs b.nx.length (rowsD b.nx)),.sl id3 g3 o3 len3],nI x]:=fun _ _ _ _ => aC bV
theorem HS {L:Nat} {id3 g3 o3 len3:Nat} {id1 g1 o1 len1:Nat} {id0 g0 o0 len0:Nat} {a b:Aut} {x:Int}:KV L 22 [.agg [nI a.al,.sl id0 g0 o0 len0,.sl id1 g1 o1 len1],.agg [nI b.al,.d (.ivs b.nx.length (rowsD b.nx)),.sl id3 g3 o3 len3],nI x]:=fun _ _ _ _ => aC bV
theorem G3 {L:Nat} {id3 g3 o3 len3:Nat} {id2 g2 o2 len2:Nat} {a b:Aut} {x:Int}:KV L 22 [.agg [nI a.al,.d (.ivs a.nx.length (rowsD a.nx)),.d (.ivs a.ac.length (bools a.ac))],.agg [nI b.al,.sl id2 g2 o2 len2,.sl id3 g3 o3 len3],nI x]:=fun _ _ _ _ => aC bV
theorem II {L:Nat} {id3 g3 o3 len3:Nat} {id2 g2 o2 len2:Nat} {id0 g0 o0 len0:Nat} {a b:Aut} {x:Int}:KV L 22 [.agg [nI a.al,.sl id0 g0 o0 len0,.d (.ivs a.ac.length (bools a.ac))],.agg [nI b.al,.sl id2 g2 o2 len2,.sl id3 g3 o3 len3],nI x]:=fun _ _ _ _ => aC bV
theorem HA {L:Nat} {id3 g3 o3 len3:Nat} {id2 g2 o2 len2:Nat} {id1 g1 o1 len1:Nat} {a b:Aut} {x:Int}:KV L 22 [.agg [nI a.al,.d (.ivs a.nx.length (rowsD a.nx)),.sl id1 g1 o1 len1],.agg [nI b.al,.sl id2 g2 o2 len2,.sl id3 g3 o3 len3],nI x]:=fun _ _ _ _ => aC bV
theorem GC {L:Nat} {id3 g3 o3 len3:Nat} {id2 g2 o2 len2:Nat} {id1 g1 o1 len1:Nat} {id0 g0 o0 len0:Nat} {a b:Aut} {x:Int}:KV L 22 [.agg [nI a.al,.sl id0 g0 o0 len0,.sl id1 g1 o1 len1],.agg [nI b.al,.sl id2 g2 o2 len2,.sl id3 g3 o3 len3],nI x]:=fun _ _ _ _ => aC bV
theorem P9 (hn:6 ≤ n) (a b:Aut) (sa:bH a.nx) (sb:bH b.nx) (ha:a.ac.length ≤ 4294967296) (hb:b.ac.length ≤ 4294967296) (hL:2 ^ 60 ≤ L):aA env L n 58 [.agg [nI a.al,.d (.ivs a.nx.length (rowsD a.nx)),.d (.ivs a.ac.length (bools a.ac))],.agg [nI b.al,.d (.ivs b.nx.length (rowsD b.nx)),.d (.ivs b.ac.length (bools b.ac))]] [] = some (.d (.bool (P7 a b)),[]):=by
 have hra:=sa.1
 have hrb:=sb.1
 unfold P7
 cases h1:dU a.al a.nx a.ac with
 | false =>
  obtain _ | n:=n; omega
  simp -implicitDefEqProofs (maxSteps:=2000000) (disch:=try exact Dz) only [↓DN,↓kAsg,↓kRet,UP,simprocAttr,↓aU,↓aV,↓aO,↓aP,↓aQ,LA,h1,Bool.false_and,aAX,UB,Tryz.f58]
 | true =>
  cases h2:dU b.al b.nx b.ac with
  | false =>
   obtain _ | n:=n; omega
   simp -implicitDefEqProofs (maxSteps:=2000000) (disch:=try exact Dz) only [↓DN,↓kAsg,↓kRet,UP,simprocAttr,↓aU,↓aV,↓aO,↓aP,↓aQ,LA,h1,h2,Bool.false_and,Bool.and_false,aAX,UB,Tryz.f58]
  | true =>
   obtain _ | n:=n; omega
   simp -implicitDefEqProofs (maxSteps:=2000000) (disch:=try exact Dz) only [↓DN,↓kAsg,↓kRet,UP,simprocAttr,↓aU,↓aV,↓aO,↓aP,↓aQ,LA,h1,h2,Bool.true_and,aAX,UB,Tryz.f58]
theorem QL:type_of% fun {L} a b sa sb ha hb hL => ks fun hn => @P9 L _ hn a b sa sb ha hb hL:=fun {L} a b sa sb ha hb hL => ks fun hn => @P9 L _ hn a b sa sb ha hb hL
theorem v8:type_of% fun {L} a b sa sb ha hb hL => kt fun hn => @P9 L _ hn a b sa sb ha hb hL:=fun {L} a b sa sb ha hb hL => kt fun hn => @P9 L _ hn a b sa sb ha hb hL
theorem rO {L:Nat} {id0 g0 o0 len0:Nat} {a b:Aut}:KV L 58 [.agg [nI a.al,.sl id0 g0 o0 len0,.d (.ivs a.ac.length (bools a.ac))],.agg [nI b.al,.d (.ivs b.nx.length (rowsD b.nx)),.d (.ivs b.ac.length (bools b.ac))]]:=fun _ _ _ _ => aC dZ
theorem rC {L:Nat} {id1 g1 o1 len1:Nat} {a b:Aut}:KV L 58 [.agg [nI a.al,.d (.ivs a.nx.length (rowsD a.nx)),.sl id1 g1 o1 len1],.agg [nI b.al,.d (.ivs b.nx.length (rowsD b.nx)),.d (.ivs b.ac.length (bools b.ac))]]:=fun _ _ _ _ => aC dZ
theorem rF {L:Nat} {id1 g1 o1 len1:Nat} {id0 g0 o0 len0:Nat} {a b:Aut}:KV L 58 [.agg [nI a.al,.sl id0 g0 o0 len0,.sl id1 g1 o1 len1],.agg [nI b.al,.d (.ivs b.nx.length (rowsD b.nx)),.d (.ivs b.ac.length (bools b.ac))]]:=fun _ _ _ _ => aC dZ
theorem rQ {L:Nat} {id2 g2 o2 len2:Nat} {a b:Aut}:KV L 58 [.agg [nI a.al,.d (.ivs a.nx.length (rowsD a.nx)),.d (.ivs a.ac.length (bools a.ac))],.agg [nI b.al,.sl id2 g2 o2 len2,.d (.ivs b.ac.length (bools b.ac))]]:=fun _ _ _ _ => aC dZ
theorem rN {L:Nat} {id2 g2 o2 len2:Nat} {id0 g0 o0 len0:Nat} {a b:Aut}:KV L 58 [.agg [nI a.al,.sl id0 g0 o0 len0,.d (.ivs a.ac.length (bools a.ac))],.agg [nI b.al,.sl id2 g2 o2 len2,.d (.ivs b.ac.length (bools b.ac))]]:=fun _ _ _ _ => aC dZ
theorem rP {L:Nat} {id2 g2 o2 len2:Nat} {id1 g1 o1 len1:Nat} {a b:Aut}:KV L 58 [.agg [nI a.al,.d (.ivs a.nx.length (rowsD a.nx)),.sl id1 g1 o1 len1],.agg [nI b.al,.sl id2 g2 o2 len2,.d (.ivs b.ac.length (bools b.ac))]]:=fun _ _ _ _ => aC dZ
theorem rG {L:Nat} {id2 g2 o2 len2:Nat} {id1 g1 o1 len1:Nat} {id0 g0 o0 len0:Nat} {a b:Aut}:KV L 58 [.agg [nI a.al,.sl id0 g0 o0 len0,.sl id1 g1 o1 len1],.agg [nI b.al,.sl id2 g2 o2 len2,.d (.ivs b.ac.length (bools b.ac))]]:=fun _ _ _ _ => aC dZ
theorem rH {L:Nat} {id3 g3 o3 len3:Nat} {a b:Aut}:KV L 58 [.agg [nI a.al,.d (.ivs a.nx.length (rowsD a.nx)),.d (.ivs a.ac.length (bools a.ac))],.agg [nI b.al,.d (.ivs b.nx.length (rowsD b.nx)),.sl id3 g3 o3 len3]]:=fun _ _ _ _ => aC dZ
theorem rI {L:Nat} {id3 g3 o3 len3:Nat} {id0 g0 o0 len0:Nat} {a b:Aut}:KV L 58 [.agg [nI a.al,.sl id0 g0 o0 len0,.d (.ivs a.ac.length (bools a.ac))],.agg [nI b.al,.d (.ivs b.nx.length (rowsD b.nx)),.sl id3 g3 o3 len3]]:=fun _ _ _ _ => aC dZ
theorem pR {L:Nat} {id3 g3 o3 len3:Nat} {id1 g1 o1 len1:Nat} {a b:Aut}:KV L 58 [.agg [nI a.al,.d (.ivs a.nx.length (rowsD a.nx)),.sl id1 g1 o1 len1],.agg [nI b.al,.d (.ivs b.nx.length (rowsD b.nx)),.sl id3 g3 o3 len3]]:=fun _ _ _ _ => aC dZ
theorem pP {L:Nat} {id3 g3 o3 len3:Nat} {id1 g1 o1 len1:Nat} {id0 g0 o0 len0:Nat} {a b:Aut}:KV L 58 [.agg [nI a.al,.sl id0 g0 o0 len0,.sl id1 g1 o1 len1],.agg [nI b.al,.d (.ivs b.nx.length (rowsD b.nx)),.sl id3 g3 o3 len3]]:=fun _ _ _ _ => aC dZ
theorem pQ {L:Nat} {id3 g3 o3 len3:Nat} {id2 g2 o2 len2:Nat} {a b:Aut}:KV L 58 [.agg [nI a.al,.d (.ivs a.nx.length (rowsD a.nx)),.d (.ivs a.ac.length (bools a.ac))],.agg [nI b.al,.sl id2 g2 o2 len2,.sl id3 g3 o3 len3]]:=fun _ _ _ _ => aC dZ
theorem pU {L:Nat} {id3 g3 o3 len3:Nat} {id2 g2 o2 len2:Nat} {id0 g0 o0 len0:Nat} {a b:Aut}:KV L 58 [.agg [nI a.al,.sl id0 g0 o0 len0,.d (.ivs a.ac.length (bools a.ac))],.agg [nI b.al,.sl id2 g2 o2 len2,.sl id3 g3 o3 len3]]:=fun _ _ _ _ => aC dZ
theorem pS {L:Nat} {id3 g3 o3 len3:Nat} {id2 g2 o2 len2:Nat} {id1 g1 o1 len1:Nat} {a b:Aut}:KV L 58 [.agg [nI a.al,.d (.ivs a.nx.length (rowsD a.nx)),.sl id1 g1 o1 len1],.agg [nI b.al,.sl id2 g2 o2 len2,.sl id3 g3 o3 len3]]:=fun _ _ _ _ => aC dZ
theorem pV {L:Nat} {id3 g3 o3 len3:Nat} {id2 g2 o2 len2:Nat} {id1 g1 o1 len1:Nat} {id0 g0 o0 len0:Nat} {a b:Aut}:KV L 58 [.agg [nI a.al,.sl id0 g0 o0 len0,.sl id1 g1 o1 len1],.agg [nI b.al,.sl id2 g2 o2 len2,.sl id3 g3 o3 len3]]:=fun _ _ _ _ => aC dZ
theorem aCs (hn:9 ≤ n) (hL:2 ^ 60 ≤ L) {a b:Aut} {l:List Str} (hl:l.length ≤ 3000) (ha:AOK a) (hb:AOK b) (hal:a.al = b.al) (hok:∀ w ∈ l,hY a.al w = true) {k:KE R}:∀ (j i m:Nat) (hi:i + j = l.length) (hm:j < m),
  aF env (aA env L n) L 0 [] Bz22 (pZ 0) (U2 (U1 (Z2 (U1 (Z2 (Z1 (U1 (Z1 (U32 (U4 (U1 ([])))))))))))) m (Y2 (Y1 (.ptr 0 0 0 :: .ptr 1 0 0 :: Y1 (.d (.str ([])) :: .d (.bool false) :: .d (.ivs l.length (aJ l)) :: Y1 (nI i :: Y32 (Y4 (Y1 ([])))))))) [.box [nI a.al,.d (.ivs a.nx.length (rowsD a.nx)),.d (.ivs a.ac.length (bools a.ac))],.box [nI b.al,.d (.ivs b.nx.length (rowsD b.nx)),.d (.ivs b.ac.length (bools b.ac))]] k
  = match seek (K9 a b l) j i with
   | none => k (.exit 0) (Y2 (Y1 (.ptr 0 0 0 :: .ptr 1 0 0 :: Y1 (.d (.str ([])) :: .d (.bool false) :: .d (.ivs l.length (aJ l)) :: Y1 (nI (l.length) :: Y32 (Y4 (Y1 ([])))))))) [.box [nI a.al,.d (.ivs a.nx.length (rowsD a.nx)),.d (.ivs a.ac.length (bools a.ac))],.box [nI b.al,.d (.ivs b.nx.length (rowsD b.nx)),.d (.ivs b.ac.length (bools b.ac))]]
   | some q => k .ret (Y2 (Y1 (.ptr 0 0 0 :: .ptr 1 0 0 :: Y1 (.d (.str ((l.getD q []))) :: .d (.bool true) :: .d (.ivs l.length (aJ l)) :: Y1 (nI q :: Y32 (Y4 (Y1 ([])))))))) [.box [nI a.al,.d (.ivs a.nx.length (rowsD a.nx)),.d (.ivs a.ac.length (bools a.ac))],.box [nI b.al,.d (.ivs b.nx.length (rowsD b.nx)),.d (.ivs b.ac.length (bools b.ac))]]:=by
 intro j
 induction j with
 | zero =>
  intro i m hi hm
  obtain _ | m:=m; omega
  obtain rfl:i = l.length:=by omega
  simp -implicitDefEqProofs (maxSteps:=2000000) (disch:=try exact Dz) only [↓DN,↓kAsg,↓kRet,UP,simprocAttr,↓AN,↓QL,↓lK,↓v8,↓lH,↓rO,↓pR,↓pP,↓pQ,↓pU,↓pS,↓pV,↓rC,↓rF,↓rQ,↓rN,↓rP,↓rG,↓rH,↓rI,↓kD,↓jQ,↓jS,LA,SE,Int.lt_irrefl,uY,sH,Tryz.f21]
  rfl
 | succ j ih =>
  intro i m hi hm
  obtain _ | m:=m; omega
  have hc:(i:Int) < l.length:=by omega
  have hi0:(0:Int) ≤ i:=by omega
  have hw:=hok _ (jD (show i < l.length by omega))
  have kc_a:=@lK L a (l.getD i []) ha hw hL
  have kc_b:=@lK L b (l.getD i []) hb (by rw [← hal]; exact hw) hL
  have hwr:K9 a b l i = !(accW a (l.getD i []) == accW b (l.getD i [])):=rfl
  by_cases hz:(accW a (l.getD i []) == accW b (l.getD i [])) = true
  ·rw [hz] at hwr
   rw [rA hwr]
   have ih':=ih (i + 1) m (by omega) (by omega)
   rw [cs1 i] at ih'
   clear ih hok hw hwr ha hb
   generalize accW a (l.getD i []) = x at *
   generalize accW b (l.getD i []) = y at *
   generalize hwi:l.getD i [] = w at *
   simp -implicitDefEqProofs (maxSteps:=2000000) (disch:=try exact Dz) only [↓DN,↓kAsg,↓kRet,UP,simprocAttr,↓AN,↓QL,↓v8,↓lH,↓rO,↓pR,↓pP,↓pQ,↓pU,↓pS,↓pV,↓rC,↓rF,↓rQ,↓rN,↓rP,↓rG,↓rH,↓rI,↓kD,↓jQ,↓jS,LA,SE,hc,hi0,hwi,hz,↓kc_a,↓kc_b,Int.toNat_natCast,Nat.sub_self,List.range'_zero,↓ih',uY,sH,Tryz.f21]
  ·rw [Bool.not_eq_true] at hz
   rw [hz] at hwr
   rw [oC hwr]
   clear ih hok hw hwr ha hb
   generalize accW a (l.getD i []) = x at *
   generalize accW b (l.getD i []) = y at *
   generalize hwi:l.getD i [] = w at *
   simp -implicitDefEqProofs (maxSteps:=2000000) (disch:=try exact Dz) only [↓DN,↓kAsg,↓kRet,UP,simprocAttr,↓AN,↓QL,↓v8,↓lH,↓rO,↓pR,↓pP,↓pQ,↓pU,↓pS,↓pV,↓rC,↓rF,↓rQ,↓rN,↓rP,↓rG,↓rH,↓rI,↓kD,↓jQ,↓jS,LA,SE,hc,hi0,hwi,hz,↓kc_a,↓kc_b,Int.toNat_natCast,Nat.sub_self,List.range'_zero,uY,sH,Tryz.f21]
theorem p9 (hn:16 ≤ n) (a b:Aut) (x:Int) (sa:bH a.nx) (sb:bH b.nx) (ha:a.ac.length ≤ 4294967296) (hb:b.ac.length ≤ 4294967296) (hL:2 ^ 60 ≤ L):aA env L n 21 [.agg [nI a.al,.d (.ivs a.nx.length (rowsD a.nx)),.d (.ivs a.ac.length (bools a.ac))],.agg [nI b.al,.d (.ivs b.nx.length (rowsD b.nx)),.d (.ivs b.ac.length (bools b.ac))],nI x] [] = some (.tup [.d (.str (aAR a b x).1),.d (.bool (aAR a b x).2)],[]):=by
 have hra:=sa.1
 have hrb:=sb.1
 have kc_1:=@AN L a x sa ha hL
 unfold aAR
 cases hG:mT a x with
 | none =>
  rw [hG] at kc_1
  simp only [Option.getD_none,Option.isSome_none,List.length_nil,qK] at kc_1
  obtain _ | n:=n; omega
  simp -implicitDefEqProofs (maxSteps:=2000000) (disch:=try exact Dz) only [↓DN,↓kAsg,↓kRet,UP,simprocAttr,↓lK,↓v8,↓lH,↓rO,↓pR,↓pP,↓pQ,↓pU,↓pS,↓pV,↓rC,↓rF,↓rQ,↓rN,↓rP,↓rG,↓rH,↓rI,↓kD,↓jQ,↓jS,LA,SE,↓kc_1,tM,rD,Tryz.f21]
 | some l =>
  rw [hG] at kc_1
  simp only [Option.getD_some,Option.isSome_some] at kc_1
  have kc_c:=@QL L a b sa sb ha hb hL
  obtain ⟨hv,y0,_,_,hl⟩:=aCE hG
  cases hcm:P7 a b with
  | false =>
   rw [hcm] at kc_c
   simp only [Bool.false_eq_true,if_false]
   obtain _ | n:=n; omega
   simp -implicitDefEqProofs (maxSteps:=2000000) (disch:=try exact Dz) only [↓DN,↓kAsg,↓kRet,UP,simprocAttr,↓lK,↓v8,↓lH,↓rO,↓pR,↓pP,↓pQ,↓pU,↓pS,↓pV,↓rC,↓rF,↓rQ,↓rN,↓rP,↓rG,↓rH,↓rI,↓kD,↓jQ,↓jS,LA,SE,↓kc_1,↓kc_c,tM,rD,Tryz.f21]
  | true =>
   rw [hcm] at kc_c
   obtain ⟨va,vb,hal⟩:=aLj.1 hcm
   have loop_a:=fun {R n k} hn => @aCs R L n hn hL a b l hl va vb hal (fun w hw => (aF1 hG hw).2.1) k l.length 0 L (by omega) (by omega)
   simp only [Int.natCast_zero] at loop_a
   simp only [if_true]
   unfold aRf
   clear hv va vb hG
   cases hs:seek (K9 a b l) l.length 0 with
   | none =>
    simp only [hs] at loop_a
    obtain _ | n:=n; omega
    simp -implicitDefEqProofs (maxSteps:=2000000) (disch:=try exact Dz) only [↓DN,↓kAsg,↓kRet,UP,simprocAttr,↓lK,↓v8,↓lH,↓rO,↓pR,↓pP,↓pQ,↓pU,↓pS,↓pV,↓rC,↓rF,↓rQ,↓rN,↓rP,↓rG,↓rH,↓rI,↓kD,↓jQ,↓jS,LA,SE,↓kc_1,↓kc_c,↓loop_a,tM,rD,Tryz.f21]
   | some q =>
    simp only [hs] at loop_a
    obtain _ | n:=n; omega
    simp -implicitDefEqProofs (maxSteps:=2000000) (disch:=try exact Dz) only [↓DN,↓kAsg,↓kRet,UP,simprocAttr,↓lK,↓v8,↓lH,↓rO,↓pR,↓pP,↓pQ,↓pU,↓pS,↓pV,↓rC,↓rF,↓rQ,↓rN,↓rP,↓rG,↓rH,↓rI,↓kD,↓jQ,↓jS,LA,SE,↓kc_1,↓kc_c,↓loop_a,tM,rD,Tryz.f21]
theorem OZ:type_of% fun {L} a b x sa sb ha hb hL => ks fun hn => @p9 L _ hn a b x sa sb ha hb hL:=fun {L} a b x sa sb ha hb hL => ks fun hn => @p9 L _ hn a b x sa sb ha hb hL
theorem ON:type_of% fun {L} a b x sa sb ha hb hL => kt fun hn => @p9 L _ hn a b x sa sb ha hb hL:=fun {L} a b x sa sb ha hb hL => kt fun hn => @p9 L _ hn a b x sa sb ha hb hL
theorem JK {L:Nat} {id0 g0 o0 len0:Nat} {a b:Aut} {x:Int}:KV L 21 [.agg [nI a.al,.sl id0 g0 o0 len0,.d (.ivs a.ac.length (bools a.ac))],.agg [nI b.al,.d (.ivs b.nx.length (rowsD b.nx)),.d (.ivs b.ac.length (bools b.ac))],nI x]:=fun _ _ _ _ => aC bQ
theorem IR {L:Nat} {id1 g1 o1 len1:Nat} {a b:Aut} {x:Int}:KV L 21 [.agg [nI a.al,.d (.ivs a.nx.length (rowsD a.nx)),.sl id1 g1 o1 len1],.agg [nI b.al,.d (.ivs b.nx.length (rowsD b.nx)),.d (.ivs b.ac.length (bools b.ac))],nI x]:=fun _ _ _ _ => aC bQ
theorem IY {L:Nat} {id1 g1 o1 len1:Nat} {id0 g0 o0 len0:Nat} {a b:Aut} {x:Int}:KV L 21 [.agg [nI a.al,.sl id0 g0 o0 len0,.sl id1 g1 o1 len1],.agg [nI b.al,.d (.ivs b.nx.length (rowsD b.nx)),.d (.ivs b.ac.length (bools b.ac))],nI x]:=fun _ _ _ _ => aC bQ
theorem JE {L:Nat} {id2 g2 o2 len2:Nat} {a b:Aut} {x:Int}:KV L 21 [.agg [nI a.al,.d (.ivs a.nx.length (rowsD a.nx)),.d (.ivs a.ac.length (bools a.ac))],.agg [nI b.al,.sl id2 g2 o2 len2,.d (.ivs b.ac.length (bools b.ac))],nI x]:=fun _ _ _ _ => aC bQ
theorem IT {L:Nat} {id2 g2 o2 len2:Nat} {id0 g0 o0 len0:Nat} {a b:Aut} {x:Int}:KV L 21 [.agg [nI a.al,.sl id0 g0 o0 len0,.d (.ivs a.ac.length (bools a.ac))],.agg [nI b.al,.sl id2 g2 o2 len2,.d (.ivs b.ac.length (bools b.ac))],nI x]:=fun _ _ _ _ => aC bQ
theorem JL {L:Nat} {id2 g2 o2 len2:Nat} {id1 g1 o1 len1:Nat} {a b:Aut} {x:Int}:KV L 21 [.agg [nI a.al,.d (.ivs a.nx.length (rowsD a.nx)),.sl id1 g1 o1 len1],.agg [nI b.al,.sl id2 g2 o2 len2,.d (.ivs b.ac.length (bools b.ac))],nI x]:=fun _ _ _ _ => aC bQ
theorem J2 {L:Nat} {id2 g2 o2 len2:Nat} {id1 g1 o1 len1:Nat} {id0 g0 o0 len0:Nat} {a b:Aut} {x:Int}:KV L 21 [.agg [nI a.al,.sl id0 g0 o0 len0,.sl id1 g1 o1 len1],.agg [nI b.al,.sl id2 g2 o2 len2,.d (.ivs b.ac.length (bools b.ac))],nI x]:=fun _ _ _ _ => aC bQ
theorem I8 {L:Nat} {id3 g3 o3 len3:Nat} {a b:Aut} {x:Int}:KV L 21 [.agg [nI a.al,.d (.ivs a.nx.length (rowsD a.nx)),.d (.ivs a.ac.length (bools a.ac))],.agg [nI b.al,.d (.ivs b.nx.length (rowsD b.nx)),.sl id3 g3 o3 len3],nI x]:=fun _ _ _ _ => aC bQ
theorem J5 {L:Nat} {id3 g3 o3 len3:Nat} {id0 g0 o0 len0:Nat} {a b:Aut} {x:Int}:KV L 21 [.agg [nI a.al,.sl id0 g0 o0 len0,.d (.ivs a.ac.length (bools a.ac))],.agg [nI b.al,.d (.ivs b.nx.length (rowsD b.nx)),.sl id3 g3 o3 len3],nI x]:=fun _ _ _ _ => aC bQ
theorem FS {L:Nat} {id3 g3 o3 len3:Nat} {id1 g1 o1 len1:Nat} {a b:Aut} {x:Int}:KV L 21 [.agg [nI a.al,.d (.ivs a.nx.length (rowsD a.nx)),.sl id1 g1 o1 len1],.agg [nI b.al,.d (.ivs b.nx.length (rowsD b.nx)),.sl id3 g3 o3 len3],nI x]:=fun _ _ _ _ => aC bQ
theorem HN {L:Nat} {id3 g3 o3 len3:Nat} {id1 g1 o1 len1:Nat} {id0 g0 o0 len0:Nat} {a b:Aut} {x:Int}:KV L 21 [.agg [nI a.al,.sl id0 g0 o0 len0,.sl id1 g1 o1 len1],.agg [nI b.al,.d (.ivs b.nx.length (rowsD b.nx)),.sl id3 g3 o3 len3],nI x]:=fun _ _ _ _ => aC bQ
theorem FI {L:Nat} {id3 g3 o3 len3:Nat} {id2 g2 o2 len2:Nat} {a b:Aut} {x:Int}:KV L 21 [.agg [nI a.al,.d (.ivs a.nx.length (rowsD a.nx)),.d (.ivs a.ac.length (bools a.ac))],.agg [nI b.al,.sl id2 g2 o2 len2,.sl id3 g3 o3 len3],nI x]:=fun _ _ _ _ => aC bQ
theorem FU {L:Nat} {id3 g3 o3 len3:Nat} {id2 g2 o2 len2:Nat} {id0 g0 o0 len0:Nat} {a b:Aut} {x:Int}:KV L 21 [.agg [nI a.al,.sl id0 g0 o0 len0,.d (.ivs a.ac.length (bools a.ac))],.agg [nI b.al,.sl id2 g2 o2 len2,.sl id3 g3 o3 len3],nI x]:=fun _ _ _ _ => aC bQ
theorem F6 {L:Nat} {id3 g3 o3 len3:Nat} {id2 g2 o2 len2:Nat} {id1 g1 o1 len1:Nat} {a b:Aut} {x:Int}:KV L 21 [.agg [nI a.al,.d (.ivs a.nx.length (rowsD a.nx)),.sl id1 g1 o1 len1],.agg [nI b.al,.sl id2 g2 o2 len2,.sl id3 g3 o3 len3],nI x]:=fun _ _ _ _ => aC bQ
theorem FH {L:Nat} {id3 g3 o3 len3:Nat} {id2 g2 o2 len2:Nat} {id1 g1 o1 len1:Nat} {id0 g0 o0 len0:Nat} {a b:Aut} {x:Int}:KV L 21 [.agg [nI a.al,.sl id0 g0 o0 len0,.sl id1 g1 o1 len1],.agg [nI b.al,.sl id2 g2 o2 len2,.sl id3 g3 o3 len3],nI x]:=fun _ _ _ _ => aC bQ
end
theorem aDb:∀ (rs:List (List Int)) (l:Int),0 ≤ lD rs l → lD rs l ≤ l ∧ ∀ r ∈ rs,(r.length:Int) ≤ l
 | [],l,h => ⟨by simp [lD],by simp⟩
 | r :: rs,l,h => by
  simp only [lD] at h ⊢
  split at h
  ·omega
  ·rename_i hc
   rw [if_neg hc]
   obtain ⟨h1,h2⟩:=aDb rs _ h
   refine ⟨by omega,fun q hq => ?_⟩
   rcases List.mem_cons.1 hq with rfl | hq
   ·omega
   ·have:=h2 q hq; omega
theorem aKt {rs:List (List Int)} {ac:List Bool} {l:Int} (h:¬ szA rs ac l < 0):szA rs ac l ≤ l ∧ (rs.length:Int) ≤ l ∧ (∀ r ∈ rs,(r.length:Int) ≤ l) ∧ (ac.length:Int) ≤ l:=by
 unfold szA at h ⊢
 split at h
 ·omega
 ·rename_i h1
  rw [if_neg h1]
  unfold szSS at h h1 ⊢
  split at h1
  ·omega
  ·rename_i h2
   rw [if_neg h2] at h ⊢
   obtain ⟨h3,h4⟩:=aDb rs (l - rs.length) (by omega)
   unfold szN at h ⊢
   split at h
   ·omega
   ·rename_i h5
    rw [if_neg h5]
    exact ⟨by omega,by omega,fun r hr => by have:=h4 r hr; omega,by omega⟩
theorem aEh {rs:List (List Int)} {ac:List Bool} (h:¬ szA rs ac 1048576 < 0):szA rs ac 1048576 ≤ 1048576:=(aKt h).1
theorem aR1 {rs bs:List (List Int)} {ac bc:List Bool} (h:¬ szA rs ac 1048576 < 0) (h2:¬ szA bs bc (szA rs ac 1048576) < 0):bs.length ≤ 1048576 ∧ (∀ r ∈ bs,r.length ≤ 1048576) ∧ bc.length ≤ 1048576:=by
 have h0:=(aKt h).1
 obtain ⟨_,h3,h4,h5⟩:=aKt h2
 exact ⟨by omega,fun r hr => by have:=h4 r hr; omega,by omega⟩
theorem aAB {a b:Foot}:iM a b = iM b a:=by unfold iM; rw [Bool.or_comm]
theorem aUY {n k m j:Nat} (h:n + k ≤ m):iM { ids:=List.range' n k,ro:=false } { ids:=List.range' m j,ro:=false } = false:=by
 unfold iM
 simp only [Bool.not_false,Bool.true_and,Bool.or_eq_false_iff,List.any_eq_false,List.mem_range'_1,List.contains_iff_mem]
 exact ⟨fun x hx => by omega,fun x hx => by omega⟩
theorem aH8 {a b:Foot} (h1:a.ids = []) (h2:a.wr = []):iM a b = false:=by
 unfold iM
 rw [h1,h2]
 simp
def aKl (ops:List Oper):Bool:=((F1 ops []).getD 5 0).testBit 1 && ((F1 ops []).getD 5 0).testBit 3
theorem aS2 {ops:List Oper} {a0 f1 a2 f3 p4 p5:Foot} {l:List Foot} (r0:a0.ro = true) (r2:a2.ro = true) (r5:p5.ro = true) (i4:p4.ids = []) (j4:p4.wr = []) (hl:∀ p ∈ l,p.ids = [] ∧ p.wr = []) (hm:aKl ops = true) (h01:iM a0 f1 = false) (h03:iM a0 f3 = false) (h12:iM f1 a2 = false) (h23:iM a2 f3 = false) (h13:iM f1 f3 = false):sW ops (a0 :: f1 :: a2 :: f3 :: p4 :: p5 :: l) = true:=by
 refine aEu ?_
 unfold aKl at hm
 simp only [Bool.and_eq_true] at hm
 unfold qO
 simp only [List.all_eq_true,List.mem_range,Bool.or_eq_true,Bool.not_eq_true']
 intro j hj i hi
 have c4:∀ b,iM p4 b = false:=fun b => aH8 i4 j4
 rcases (show j = 0 ∨ j = 1 ∨ j = 2 ∨ j = 3 ∨ j = 4 ∨ j = 5 ∨ 6 ≤ j by omega) with rfl | rfl | rfl | rfl | rfl | rfl | h6
 ·omega
 ·obtain rfl:i = 0:=by omega
  exact .inr h01
 ·rcases (show i = 0 ∨ i = 1 by omega) with rfl | rfl
  ·exact .inr (SG r0 r2)
  ·exact .inr h12
 ·rcases (show i = 0 ∨ i = 1 ∨ i = 2 by omega) with rfl | rfl | rfl
  ·exact .inr h03
  ·exact .inr h13
  ·exact .inr h23
 ·exact .inr (by rw [aAB]; exact c4 _)
 ·rcases (show i = 0 ∨ i = 1 ∨ i = 2 ∨ i = 3 ∨ i = 4 by omega) with rfl | rfl | rfl | rfl | rfl
  ·exact .inr (SG r0 r5)
  ·exact .inl hm.1
  ·exact .inr (SG r2 r5)
  ·exact .inl hm.2
  ·exact .inr (c4 _)
 ·refine .inr ?_
  obtain ⟨q,rfl⟩:∃ q,j = q + 6:=⟨j - 6,by omega⟩
  have hq:q < l.length:=by simpa using hj
  have e:(a0 :: f1 :: a2 :: f3 :: p4 :: p5 :: l).getD (q + 6) {} = l[q]:=by
   rw [List.getD_eq_getElem?_getD,List.getElem?_eq_getElem (by simpa using hq)]; rfl
  rw [e,aAB]
  exact aH8 (hl _ (List.getElem_mem hq)).1 (hl _ (List.getElem_mem hq)).2
theorem T2 {L n:Nat} (hn:30 ≤ n) (al:Int) (rs:List (List Int)) (ac:List Bool) (bl:Int) (bs:List (List Int)) (bc:List Bool) (x:Int) (hlen:rowsLen rs) (hla:ac.length ≤ 9223372036854775807) (hlenb:rowsLen bs) (hlab:bc.length ≤ 9223372036854775807) (hsz:¬ szA rs ac 1048576 < 0) (hsz2:¬ szA bs bc (szA rs ac 1048576) < 0) (hL:2 ^ 60 ≤ L):aA env L n 4 [.agg [nI al,.d (.ivs (List.length rs) (rowsD rs)),.d (.ivs (List.length ac) (bools ac))],.agg [nI bl,.d (.ivs (List.length bs) (rowsD bs)),.d (.ivs (List.length bc) (bools bc))],nI x] [] = some (.d (.bool true),[]):=by
 obtain ⟨hr20,hc20,ha20⟩:=aSK hsz
 have hbd:=aEh hsz
 obtain ⟨hr21,hc21,ha21⟩:=aR1 hsz hsz2
 have hs:bH rs:=⟨by omega,fun r hr => by have:=hc20 r hr; omega⟩
 have hsb:bH bs:=⟨by omega,fun r hr => by have:=hc21 r hr; omega⟩
 have ha:ac.length ≤ 4294967296:=by omega
 have hab:bc.length ≤ 4294967296:=by omega
 have hS:=p9 (L:=L) (n:=n - 1) (by omega) ⟨al,rs,ac⟩ ⟨bl,bs,bc⟩ x hs hsb ha hab hL
 have hI:=qC (L:=L) (n:=n - 1) (by omega) ⟨al,rs,ac⟩ ⟨bl,bs,bc⟩ x hs hsb ha hab hL
 simp only at hS hI
 generalize aAR ⟨al,rs,ac⟩ ⟨bl,bs,bc⟩ x = r at hS hI
 obtain ⟨H0,hH0⟩:∃ H:H,H = [O.box [nI al,.d (.ivs (List.length rs) (rowsD rs)),.d (.ivs (List.length ac) (bools ac))],O.box [nI bl,.d (.ivs (List.length bs) (rowsD bs)),.d (.ivs (List.length bc) (bools bc))]]:=⟨_,rfl⟩
 have b0_0:H0[0]? = some (.box [nI al,.d (.ivs (List.length rs) (rowsD rs)),.d (.ivs (List.length ac) (bools ac))]):=by rw [hH0]; rfl
 have b0_1:H0[1]? = some (.box [nI bl,.d (.ivs (List.length bs) (rowsD bs)),.d (.ivs (List.length bc) (bools bc))]):=by rw [hH0]; rfl
 have l0:H0.length = 2:=by rw [hH0]; rfl
 have w0:wgt H0 = 0:=by rw [hH0]; simp [wgt,idsL,idsA]
 obtain ⟨v1,hv1⟩:∃ v,v = List.length H0:=⟨_,rfl⟩
 obtain ⟨H1,hH1⟩:∃ H,H = H0 ++ autO v1 rs ac:=⟨_,rfl⟩
 have kc_1:∀ {R:Type} {k:KA R},bC env (aA env L (n - 1)) H0 14 [.agg [nI al,.d (.ivs (List.length rs) (rowsD rs)),.d (.ivs (List.length ac) (bools ac))]] k = k (.agg [nI al,.sl v1 0 0 rs.length,.sl (v1 + 1) 0 0 ac.length]) H1:=by intro R k; rw [hH1,hv1]; exact QS (by omega) hs ha hL
 have gv1:Has H1 v1 rs ac:=by rw [hH1,hv1]; exact QU
 have lH1:H1.length = List.length H0 + rs.length + 2:=by rw [hH1,List.length_append,zU]; omega
 have wH1:wgt H1 ≤ wgt H0 + 1048576:=by rw [hH1,EO,QT]; omega
 have b1_0:H1[0]? = some (.box [nI al,.d (.ivs (List.length rs) (rowsD rs)),.d (.ivs (List.length ac) (bools ac))]):=by rw [hH1]; exact jU b0_0
 have b1_1:H1[1]? = some (.box [nI bl,.d (.ivs (List.length bs) (rowsD bs)),.d (.ivs (List.length bc) (bools bc))]):=by rw [hH1]; exact jU b0_1
 obtain ⟨v2,hv2⟩:∃ v,v = List.length H1:=⟨_,rfl⟩
 obtain ⟨H2,hH2⟩:∃ H,H = H1 ++ autO v2 bs bc:=⟨_,rfl⟩
 have kc_2:∀ {R:Type} {k:KA R},bC env (aA env L (n - 1)) H1 14 [.agg [nI bl,.d (.ivs (List.length bs) (rowsD bs)),.d (.ivs (List.length bc) (bools bc))]] k = k (.agg [nI bl,.sl v2 0 0 bs.length,.sl (v2 + 1) 0 0 bc.length]) H2:=by intro R k; rw [hH2,hv2]; exact QS (by omega) hsb hab hL
 have gv2:Has H2 v2 bs bc:=by rw [hH2,hv2]; exact QU
 have lH2:H2.length = List.length H1 + bs.length + 2:=by rw [hH2,List.length_append,zU]; omega
 have wH2:wgt H2 ≤ wgt H1 + 1048576:=by rw [hH2,EO,QT]; omega
 have b2_0:H2[0]? = some (.box [nI al,.d (.ivs (List.length rs) (rowsD rs)),.d (.ivs (List.length ac) (bools ac))]):=by rw [hH2]; exact jU b1_0
 have b2_1:H2[1]? = some (.box [nI bl,.d (.ivs (List.length bs) (rowsD bs)),.d (.ivs (List.length bc) (bools bc))]):=by rw [hH2]; exact jU b1_1
 have gH2a:Has H2 v1 rs ac:=by rw [hH2]; exact FE gv1
 have hrd:∀ {h:H} {v w:Nat},Has h v rs ac → Has h w bs bc → rdAs h [.agg [nI al,.sl v 0 0 rs.length,.sl (v + 1) 0 0 ac.length],.agg [nI bl,.sl w 0 0 bs.length,.sl (w + 1) 0 0 bc.length],nI x] = some [.agg [nI al,.d (.ivs (List.length rs) (rowsD rs)),.d (.ivs (List.length ac) (bools ac))],.agg [nI bl,.d (.ivs (List.length bs) (rowsD bs)),.d (.ivs (List.length bc) (bools bc))],nI x]:=by
  intro h v w g1 g2
  have h1:=QQ (al:=al) g1
  have h2:=QQ (al:=bl) g2
  simp only [rdAs,show A.agg [nI al,.sl v 0 0 rs.length,.sl (v + 1) 0 0 ac.length] = autA v al rs.length ac.length from rfl,show A.agg [nI bl,.sl w 0 0 bs.length,.sl (w + 1) 0 0 bc.length] = autA w bl bs.length bc.length from rfl,h1,h2,a0V]; rfl
 have kc_3:∀ {R:Type} {k:KA R},bC env (aA env L (n - 1)) H2 21 [.agg [nI al,.sl v1 0 0 rs.length,.sl (v1 + 1) 0 0 ac.length],.agg [nI bl,.sl v2 0 0 bs.length,.sl (v2 + 1) 0 0 bc.length],nI x] k = k (.tup [.d (.str r.1),.d (.bool r.2)]) H2:=by
  intro R k
  rw [aAH bQ (hrd gH2a gv2) (by simp [idsL,idsA]; omega)]
  exact mP hS rfl
 obtain ⟨v3,hv3⟩:∃ v,v = List.length H2:=⟨_,rfl⟩
 obtain ⟨H3,hH3⟩:∃ H,H = H2 ++ autO v3 rs ac:=⟨_,rfl⟩
 have kc_4:∀ {R:Type} {k:KA R},bC env (aA env L (n - 1)) H2 14 [.agg [nI al,.d (.ivs (List.length rs) (rowsD rs)),.d (.ivs (List.length ac) (bools ac))]] k = k (.agg [nI al,.sl v3 0 0 rs.length,.sl (v3 + 1) 0 0 ac.length]) H3:=by intro R k; rw [hH3,hv3]; exact QS (by omega) hs ha hL
 have gv3:Has H3 v3 rs ac:=by rw [hH3,hv3]; exact QU
 have lH3:H3.length = List.length H2 + rs.length + 2:=by rw [hH3,List.length_append,zU]; omega
 have wH3:wgt H3 ≤ wgt H2 + 1048576:=by rw [hH3,EO,QT]; omega
 have wE3:wgt (H3 ++ [O.arr [] 0 0,O.arr [] 0 0,O.box [nI al,.sl v3 0 0 rs.length,.sl (v3 + 1) 0 0 ac.length]]) ≤ wgt H3 + 2:=by rw [wgt3 rfl rfl]; simp [idsL,idsA]
 have gE3a:Has (H3 ++ [O.arr [] 0 0,O.arr [] 0 0,O.box [nI al,.sl v3 0 0 rs.length,.sl (v3 + 1) 0 0 ac.length]]) v3 rs ac:=FE gv3
 have bE3_0:(H3 ++ [O.arr [] 0 0,O.arr [] 0 0,O.box [nI al,.sl v3 0 0 rs.length,.sl (v3 + 1) 0 0 ac.length]])[0]? = some (.box [nI al,.d (.ivs (List.length rs) (rowsD rs)),.d (.ivs (List.length ac) (bools ac))]):=jU (by rw [hH3]; exact jU b2_0)
 have bE3_1:(H3 ++ [O.arr [] 0 0,O.arr [] 0 0,O.box [nI al,.sl v3 0 0 rs.length,.sl (v3 + 1) 0 0 ac.length]])[1]? = some (.box [nI bl,.d (.ivs (List.length bs) (rowsD bs)),.d (.ivs (List.length bc) (bools bc))]):=jU (by rw [hH3]; exact jU b2_1)
 have bE3_x:(H3 ++ [O.arr [] 0 0,O.arr [] 0 0,O.box [nI al,.sl v3 0 0 rs.length,.sl (v3 + 1) 0 0 ac.length]])[H3.length + 1 + 1]? = some (.box [nI al,.sl v3 0 0 rs.length,.sl (v3 + 1) 0 0 ac.length]):=aGv
 obtain ⟨v4,hv4⟩:∃ v,v = List.length (H3 ++ [O.arr [] 0 0,O.arr [] 0 0,O.box [nI al,.sl v3 0 0 rs.length,.sl (v3 + 1) 0 0 ac.length]]):=⟨_,rfl⟩
 obtain ⟨H4,hH4⟩:∃ H,H = (H3 ++ [O.arr [] 0 0,O.arr [] 0 0,O.box [nI al,.sl v3 0 0 rs.length,.sl (v3 + 1) 0 0 ac.length]]) ++ autO v4 bs bc:=⟨_,rfl⟩
 have kc_5:∀ {R:Type} {k:KA R},bC env (aA env L (n - 1)) (H3 ++ [O.arr [] 0 0,O.arr [] 0 0,O.box [nI al,.sl v3 0 0 rs.length,.sl (v3 + 1) 0 0 ac.length]]) 14 [.agg [nI bl,.d (.ivs (List.length bs) (rowsD bs)),.d (.ivs (List.length bc) (bools bc))]] k = k (.agg [nI bl,.sl v4 0 0 bs.length,.sl (v4 + 1) 0 0 bc.length]) H4:=by intro R k; rw [hH4,hv4]; exact QS (by omega) hsb hab hL
 have gv4:Has H4 v4 bs bc:=by rw [hH4,hv4]; exact QU
 have lH4:H4.length = List.length (H3 ++ [O.arr [] 0 0,O.arr [] 0 0,O.box [nI al,.sl v3 0 0 rs.length,.sl (v3 + 1) 0 0 ac.length]]) + bs.length + 2:=by rw [hH4,List.length_append,zU]; omega
 have wH4:wgt H4 ≤ wgt (H3 ++ [O.arr [] 0 0,O.arr [] 0 0,O.box [nI al,.sl v3 0 0 rs.length,.sl (v3 + 1) 0 0 ac.length]]) + 1048576:=by rw [hH4,EO,QT]; omega
 simp only [KH] at lH4 hv4
 have b4_0:H4[0]? = some (.box [nI al,.d (.ivs (List.length rs) (rowsD rs)),.d (.ivs (List.length ac) (bools ac))]):=by rw [hH4]; exact jU bE3_0
 have b4_1:H4[1]? = some (.box [nI bl,.d (.ivs (List.length bs) (rowsD bs)),.d (.ivs (List.length bc) (bools bc))]):=by rw [hH4]; exact jU bE3_1
 have b4_x:H4[H3.length + 1 + 1]? = some (.box [nI al,.sl v3 0 0 rs.length,.sl (v3 + 1) 0 0 ac.length]):=by rw [hH4]; exact jU bE3_x
 have gH4a:Has H4 v3 rs ac:=by rw [hH4]; exact FE gE3a
 have wE4:wgt (H4 ++ [O.arr [] 0 0,O.arr [] 0 0,O.box [nI bl,.sl v4 0 0 bs.length,.sl (v4 + 1) 0 0 bc.length]]) ≤ wgt H4 + 2:=by rw [wgt3 rfl rfl]; simp [idsL,idsA]
 have bE4_0:(H4 ++ [O.arr [] 0 0,O.arr [] 0 0,O.box [nI bl,.sl v4 0 0 bs.length,.sl (v4 + 1) 0 0 bc.length]])[0]? = some (.box [nI al,.d (.ivs (List.length rs) (rowsD rs)),.d (.ivs (List.length ac) (bools ac))]):=jU b4_0
 have bE4_1:(H4 ++ [O.arr [] 0 0,O.arr [] 0 0,O.box [nI bl,.sl v4 0 0 bs.length,.sl (v4 + 1) 0 0 bc.length]])[1]? = some (.box [nI bl,.d (.ivs (List.length bs) (rowsD bs)),.d (.ivs (List.length bc) (bools bc))]):=jU b4_1
 have bE4_x:(H4 ++ [O.arr [] 0 0,O.arr [] 0 0,O.box [nI bl,.sl v4 0 0 bs.length,.sl (v4 + 1) 0 0 bc.length]])[H3.length + 1 + 1]? = some (.box [nI al,.sl v3 0 0 rs.length,.sl (v3 + 1) 0 0 ac.length]):=jU b4_x
 have bE4_y:(H4 ++ [O.arr [] 0 0,O.arr [] 0 0,O.box [nI bl,.sl v4 0 0 bs.length,.sl (v4 + 1) 0 0 bc.length]])[H4.length + 1 + 1]? = some (.box [nI bl,.sl v4 0 0 bs.length,.sl (v4 + 1) 0 0 bc.length]):=aGv
 have gE4a:Has (H4 ++ [O.arr [] 0 0,O.arr [] 0 0,O.box [nI bl,.sl v4 0 0 bs.length,.sl (v4 + 1) 0 0 bc.length]]) v3 rs ac:=FE gH4a
 have gE4b:Has (H4 ++ [O.arr [] 0 0,O.arr [] 0 0,O.box [nI bl,.sl v4 0 0 bs.length,.sl (v4 + 1) 0 0 bc.length]]) v4 bs bc:=FE gv4
 have kc_6:∀ {R:Type} {k:KA R},bC env (aA env L (n - 1)) (H4 ++ [O.arr [] 0 0,O.arr [] 0 0,O.box [nI bl,.sl v4 0 0 bs.length,.sl (v4 + 1) 0 0 bc.length]]) 22 [.agg [nI al,.sl v3 0 0 rs.length,.sl (v3 + 1) 0 0 ac.length],.agg [nI bl,.sl v4 0 0 bs.length,.sl (v4 + 1) 0 0 bc.length],nI x] k = k (.tup [.d (.str r.1),.d (.bool r.2)]) (H4 ++ [O.arr [] 0 0,O.arr [] 0 0,O.box [nI bl,.sl v4 0 0 bs.length,.sl (v4 + 1) 0 0 bc.length]]):=by
  intro R k
  rw [aAH bV (hrd gE4a gE4b) (by simp [idsL,idsA]; omega)]
  exact mP hI rfl
 obtain ⟨v5,hv5⟩:∃ v,v = List.length (H4 ++ [O.arr [] 0 0,O.arr [] 0 0,O.box [nI bl,.sl v4 0 0 bs.length,.sl (v4 + 1) 0 0 bc.length]]):=⟨_,rfl⟩
 obtain ⟨H5,hH5⟩:∃ H,H = (H4 ++ [O.arr [] 0 0,O.arr [] 0 0,O.box [nI bl,.sl v4 0 0 bs.length,.sl (v4 + 1) 0 0 bc.length]]) ++ autO v5 rs ac:=⟨_,rfl⟩
 have kc_7:∀ {R:Type} {k:KA R},bC env (aA env L (n - 1)) (H4 ++ [O.arr [] 0 0,O.arr [] 0 0,O.box [nI bl,.sl v4 0 0 bs.length,.sl (v4 + 1) 0 0 bc.length]]) 14 [.agg [nI al,.d (.ivs (List.length rs) (rowsD rs)),.d (.ivs (List.length ac) (bools ac))]] k = k (.agg [nI al,.sl v5 0 0 rs.length,.sl (v5 + 1) 0 0 ac.length]) H5:=by intro R k; rw [hH5,hv5]; exact QS (by omega) hs ha hL
 have gv5:Has H5 v5 rs ac:=by rw [hH5,hv5]; exact QU
 have lH5:H5.length = List.length (H4 ++ [O.arr [] 0 0,O.arr [] 0 0,O.box [nI bl,.sl v4 0 0 bs.length,.sl (v4 + 1) 0 0 bc.length]]) + rs.length + 2:=by rw [hH5,List.length_append,zU]; omega
 have wH5:wgt H5 ≤ wgt (H4 ++ [O.arr [] 0 0,O.arr [] 0 0,O.box [nI bl,.sl v4 0 0 bs.length,.sl (v4 + 1) 0 0 bc.length]]) + 1048576:=by rw [hH5,EO,QT]; omega
 simp only [KH] at lH5 hv5
 have b5_0:H5[0]? = some (.box [nI al,.d (.ivs (List.length rs) (rowsD rs)),.d (.ivs (List.length ac) (bools ac))]):=by rw [hH5]; exact jU bE4_0
 have b5_1:H5[1]? = some (.box [nI bl,.d (.ivs (List.length bs) (rowsD bs)),.d (.ivs (List.length bc) (bools bc))]):=by rw [hH5]; exact jU bE4_1
 have b5_y:H5[H4.length + 1 + 1]? = some (.box [nI bl,.sl v4 0 0 bs.length,.sl (v4 + 1) 0 0 bc.length]):=by rw [hH5]; exact jU bE4_y
 have gH5a:Has H5 v3 rs ac:=by rw [hH5]; exact FE gE4a
 have gH5b:Has H5 v4 bs bc:=by rw [hH5]; exact FE gE4b
 have kc_8:∀ {R:Type} {k:KA R},bC env (aA env L (n - 1)) H5 17 [.agg [nI al,.sl v3 0 0 rs.length,.sl (v3 + 1) 0 0 ac.length],.agg [nI al,.sl v5 0 0 rs.length,.sl (v5 + 1) 0 0 ac.length]] k = k (.d (.bool true)) H5:=fun {R k} => aUL (by omega) hs ha (rd2 (QQ gH5a) (QQ gv5)) (by simp [idsL,aOq,aOx,idsA]; omega) hL
 obtain ⟨v6,hv6⟩:∃ v,v = List.length H5:=⟨_,rfl⟩
 obtain ⟨H6,hH6⟩:∃ H,H = H5 ++ autO v6 bs bc:=⟨_,rfl⟩
 have kc_9:∀ {R:Type} {k:KA R},bC env (aA env L (n - 1)) H5 14 [.agg [nI bl,.d (.ivs (List.length bs) (rowsD bs)),.d (.ivs (List.length bc) (bools bc))]] k = k (.agg [nI bl,.sl v6 0 0 bs.length,.sl (v6 + 1) 0 0 bc.length]) H6:=by intro R k; rw [hH6,hv6]; exact QS (by omega) hsb hab hL
 have gv6:Has H6 v6 bs bc:=by rw [hH6,hv6]; exact QU
 have lH6:H6.length = List.length H5 + bs.length + 2:=by rw [hH6,List.length_append,zU]; omega
 have wH6:wgt H6 ≤ wgt H5 + 1048576:=by rw [hH6,EO,QT]; omega
 have gH6b:Has H6 v4 bs bc:=by rw [hH6]; exact FE gH5b
 have kc_10:∀ {R:Type} {k:KA R},bC env (aA env L (n - 1)) H6 17 [.agg [nI bl,.sl v4 0 0 bs.length,.sl (v4 + 1) 0 0 bc.length],.agg [nI bl,.sl v6 0 0 bs.length,.sl (v6 + 1) 0 0 bc.length]] k = k (.d (.bool true)) H6:=fun {R k} => aUL (by omega) hsb hab (rd2 (QQ gH6b) (QQ gv6)) (by simp [idsL,aOq,aOx,idsA]; omega) hL
 obtain ⟨f1,hf1⟩:∃ f:Foot,f = { ids:=List.range' (List.length H0) (autO v1 rs ac).length,ro:=false }:=⟨_,rfl⟩
 have st_f1:qI env 14 H0 H1 [] = some (H1,f1):=by rw [hf1,hH1]; exact VV lM
 obtain ⟨f3,hf3⟩:∃ f:Foot,f = { ids:=List.range' (List.length H1) (autO v2 bs bc).length,ro:=false }:=⟨_,rfl⟩
 have st_f3:qI env 14 H1 H2 [] = some (H2,f3):=by rw [hf3,hH2]; exact VV lM
 obtain ⟨fA,hfA⟩:∃ f:Foot,f = { ids:=List.range' (List.length (H4 ++ [O.arr [] 0 0,O.arr [] 0 0,O.box [nI bl,.sl v4 0 0 bs.length,.sl (v4 + 1) 0 0 bc.length]])) (autO v5 rs ac).length,ro:=false }:=⟨_,rfl⟩
 have st_fA:qI env 14 (H4 ++ [O.arr [] 0 0,O.arr [] 0 0,O.box [nI bl,.sl v4 0 0 bs.length,.sl (v4 + 1) 0 0 bc.length]]) H5 [] = some (H5,fA):=by rw [hfA,hH5]; exact VV lM
 obtain ⟨fB,hfB⟩:∃ f:Foot,f = { ids:=List.range' (List.length H5) (autO v6 bs bc).length,ro:=false }:=⟨_,rfl⟩
 have st_fB:qI env 14 H5 H6 [] = some (H6,fB):=by rw [hfB,hH6]; exact VV lM
 have st_f5:∀ {ord:List Nat},qI env 21 H2 H2 ord = some (H2,{ ids:=ord,ro:=true }):=fun {ord} => aGu bQ
 have st_e1:∀ {ord:List Nat},qI env 17 H5 H5 ord = some (H5,{ ids:=ord,ro:=true }):=fun {ord} => aGu bZ
 have st_e2:∀ {ord:List Nat},qI env 17 H6 H6 ord = some (H6,{ ids:=ord,ro:=true }):=fun {ord} => aGu bZ
 obtain ⟨ord5,hord5⟩:∃ l,l = aE aK H2 (idsL [.agg [nI al,.sl v1 0 0 rs.length,.sl (v1 + 1) 0 0 ac.length],.agg [nI bl,.sl v2 0 0 bs.length,.sl (v2 + 1) 0 0 bc.length],nI x]) []:=⟨_,rfl⟩
 have st_ord5:aE aK H2 (idsL [.agg [nI al,.sl v1 0 0 rs.length,.sl (v1 + 1) 0 0 ac.length],.agg [nI bl,.sl v2 0 0 bs.length,.sl (v2 + 1) 0 0 bc.length],nI x]) [] = ord5:=hord5.symm
 obtain ⟨ord8,hord8⟩:∃ l,l = aE aK H5 (idsL [.agg [nI al,.sl v3 0 0 rs.length,.sl (v3 + 1) 0 0 ac.length],.agg [nI al,.sl v5 0 0 rs.length,.sl (v5 + 1) 0 0 ac.length]]) []:=⟨_,rfl⟩
 have st_ord8:aE aK H5 (idsL [.agg [nI al,.sl v3 0 0 rs.length,.sl (v3 + 1) 0 0 ac.length],.agg [nI al,.sl v5 0 0 rs.length,.sl (v5 + 1) 0 0 ac.length]]) [] = ord8:=hord8.symm
 obtain ⟨ord10,hord10⟩:∃ l,l = aE aK H6 (idsL [.agg [nI bl,.sl v4 0 0 bs.length,.sl (v4 + 1) 0 0 bc.length],.agg [nI bl,.sl v6 0 0 bs.length,.sl (v6 + 1) 0 0 bc.length]]) []:=⟨_,rfl⟩
 have st_ord10:aE aK H6 (idsL [.agg [nI bl,.sl v4 0 0 bs.length,.sl (v4 + 1) 0 0 bc.length],.agg [nI bl,.sl v6 0 0 bs.length,.sl (v6 + 1) 0 0 bc.length]]) [] = ord10:=hord10.symm
 have hclash8:∀ (ops:List Oper) (p4 q0 q1 q2 q3 q4:Foot),p4.ids = [] → p4.wr = [] → q0.ids = [] → q0.wr = [] → q1.ids = [] → q1.wr = [] → q2.ids = [] → q2.wr = [] → q3.ids = [] → q3.wr = [] → q4.ids = [] → q4.wr = [] → aKl ops = true → sW ops ([] ++ [{ ids:=idsA (A.ptr 0 0 0) }] ++ [f1] ++ [{ ids:=idsA (A.ptr 1 0 0) }] ++ [f3] ++ [p4] ++ [{ ids:=ord5,ro:=true }] ++ [q0] ++ [q1] ++ [q2] ++ [q3] ++ [q4]) = true:=by
  intro ops p4 q0 q1 q2 q3 q4 i4 j4 i_q0 j_q0 i_q1 j_q1 i_q2 j_q2 i_q3 j_q3 i_q4 j_q4 hm
  refine aS2 (l:=[q0,q1,q2,q3,q4]) rfl rfl rfl i4 j4 ?_ hm ?_ ?_ ?_ ?_ ?_
  ·intro p hp
   simp only [List.mem_cons,List.not_mem_nil,or_false] at hp
   rcases hp with rfl | rfl | rfl | rfl | rfl
   ·exact ⟨i_q0,j_q0⟩
   ·exact ⟨i_q1,j_q1⟩
   ·exact ⟨i_q2,j_q2⟩
   ·exact ⟨i_q3,j_q3⟩
   ·exact ⟨i_q4,j_q4⟩
  ·rw [hf1]; exact zQ rfl (by omega)
  ·rw [hf3]; exact zQ rfl (by omega)
  ·rw [aAB,hf1]; exact zQ rfl (by omega)
  ·rw [hf3]; exact zQ rfl (by omega)
  ·rw [hf1,hf3,zU,zU]; exact aUY (by omega)
 have hclash14:∀ (ops:List Oper) (p q:Foot),aJz 5 [(0,1),(0,2),(1,2)] ops = true → sW ops ([] ++ [{ ids:=idsA (A.ptr (H3.length + 2) 0 0) }] ++ [{ ids:=idsA (A.ptr 0 0 0) }] ++ [fA] ++ [p] ++ [q]) = true:=by
  intro ops p q hm
  refine aEu (aPd 5 [(0,1),(0,2),(1,2)] rfl hm ?_)
  intro z hz
  simp only [List.mem_cons,List.not_mem_nil,or_false] at hz
  rcases hz with rfl | rfl | rfl
  ·exact SG rfl rfl
  ·show iM { ids:=idsA (A.ptr (H3.length + 2) 0 0) } fA = false; rw [hfA]; exact zQ rfl (by (try simp only [KH]); omega)
  ·show iM { ids:=idsA (A.ptr 0 0 0) } fA = false; rw [hfA]; exact zQ rfl (by (try simp only [KH]); omega)
 have hclash16:∀ (ops:List Oper) (p q:Foot),aJz 5 [(0,1),(0,2),(1,2)] ops = true → sW ops ([] ++ [{ ids:=idsA (A.ptr (H4.length + 2) 0 0) }] ++ [{ ids:=idsA (A.ptr 1 0 0) }] ++ [fB] ++ [p] ++ [q]) = true:=by
  intro ops p q hm
  refine aEu (aPd 5 [(0,1),(0,2),(1,2)] rfl hm ?_)
  intro z hz
  simp only [List.mem_cons,List.not_mem_nil,or_false] at hz
  rcases hz with rfl | rfl | rfl
  ·exact SG rfl rfl
  ·show iM { ids:=idsA (A.ptr (H4.length + 2) 0 0) } fB = false; rw [hfB]; exact zQ rfl (by (try simp only [KH]); omega)
  ·show iM { ids:=idsA (A.ptr 1 0 0) } fB = false; rw [hfB]; exact zQ rfl (by (try simp only [KH]); omega)
 have hll:ac.length ≤ 9223372036854775807:=by omega
 have hllb:bc.length ≤ 9223372036854775807:=by omega
 clear hH1 hH2 hH3 hH4 hH5 hH6 hv1 hv2 hv3 hv4 hv5 hv6 lH1 lH2 lH3 lH4 lH5 lH6 gv1 gv2 gv3 gv4 gv5 gv6 gH2a gE3a gH4a gE4a gE4b gH5a gH5b gH6b w0 l0 wH1 wH2 wH3 wH4 wH5 wH6 wE3 wE4 hf1 hf3 hfA hfB hord5 hord8 hord10 hS hI hrd
 obtain _ | n:=n; omega
 simp only [Nat.add_sub_cancel] at kc_1 kc_2 kc_3 kc_4 kc_5 kc_6 kc_7 kc_8 kc_9 kc_10
 have n1:1 ≤ n + 1:=by omega
 subst hH0
 obtain _ | n:=n; omega
 simp -implicitDefEqProofs (maxSteps:=2000000) (disch:=first | assumption | (refine Shut.mk ?_; exact hclash14 _ _ _ kr) | (refine Shut.mk ?_; exact hclash16 _ _ _ kr) | (refine Shut.mk ?_; exact hclash8 _ _ _ _ _ _ _ rfl rfl rfl rfl rfl rfl rfl rfl rfl rfl rfl rfl kr) | (refine Shut.mk ?_; kernel_rfl) | omega | (simp only [GT]; done) | (simp only [LN] <;> omega) | fail) only [↓DN,↓kAsg,↓kRet,UP,simprocAttr,↓K6,↓KQ,↓DX,↓EC,↓DK,LA,hsz,hsz2,↓kc_1,↓kc_2,↓kc_3,↓kc_4,↓kc_5,↓kc_6,↓kc_7,↓kc_8,↓kc_9,↓kc_10,↓st_f1,↓st_f3,↓st_fA,↓st_fB,↓st_f5,↓st_e1,↓st_e2,↓st_ord5,↓st_ord8,↓st_ord10,b1_0,b1_1,b2_0,b2_1,bE3_1,bE4_0,bE4_x,bE4_y,b5_1,b5_y,List.append_assoc,List.cons_append,List.nil_append,aGv,aWz,beq_self_eq_true,bne_self_eq_false,tE,pI,Tryz.f4]
theorem XA {L n:Nat} (hn:30 ≤ n) (al:Int) (rs:List (List Int)) (ac:List Bool) (hlen:rowsLen rs) (hla:ac.length ≤ 9223372036854775807) (bl:Int) (bs:List (List Int)) (bc:List Bool) (hlenb:rowsLen bs) (hlab:bc.length ≤ 9223372036854775807) (x:Int) (hL:2 ^ 60 ≤ L):aA env L n 4 [.agg [nI al,.d (.ivs (List.length rs) (rowsD rs)),.d (.ivs (List.length ac) (bools ac))],.agg [nI bl,.d (.ivs (List.length bs) (rowsD bs)),.d (.ivs (List.length bc) (bools bc))],nI x] [] = some (.d (.bool true),[]):=by
 by_cases hsz:szA rs ac 1048576 < 0
 ·obtain _ | n:=n; omega
  simp -implicitDefEqProofs (maxSteps:=2000000) (disch:=try exact Dz) only [↓DN,↓kAsg,↓kRet,UP,simprocAttr,↓K6,↓OZ,↓OO,↓YL,↓KQ,↓ON,↓OX,↓KY,↓DX,↓EC,↓DK,↓JK,↓FS,↓HN,↓FI,↓FU,↓F6,↓FH,↓IR,↓IY,↓JE,↓IT,↓JL,↓J2,↓I8,↓J5,↓J4,↓IJ,↓HS,↓G3,↓II,↓HA,↓GC,↓JO,↓J1,↓JC,↓J7,↓JN,↓IW,↓IQ,↓I6,↓TN,↓PN,↓PC,↓PF,↓O7,↓PQ,↓PL,↓TA,↓R2,↓Q4,↓RL,↓SV,↓RJ,↓SI,↓SZ,LA,hsz,tE,pI,Tryz.f4]
 ·by_cases hsz2:szA bs bc (szA rs ac 1048576) < 0
  ·have hb:=aEh hsz
   obtain _ | n:=n; omega
   simp -implicitDefEqProofs (maxSteps:=2000000) (disch:=try exact Dz) only [↓DN,↓kAsg,↓kRet,UP,simprocAttr,↓K6,↓OZ,↓OO,↓YL,↓KQ,↓ON,↓OX,↓KY,↓DX,↓EC,↓DK,↓JK,↓FS,↓HN,↓FI,↓FU,↓F6,↓FH,↓IR,↓IY,↓JE,↓IT,↓JL,↓J2,↓I8,↓J5,↓J4,↓IJ,↓HS,↓G3,↓II,↓HA,↓GC,↓JO,↓J1,↓JC,↓J7,↓JN,↓IW,↓IQ,↓I6,↓TN,↓PN,↓PC,↓PF,↓O7,↓PQ,↓PL,↓TA,↓R2,↓Q4,↓RL,↓SV,↓RJ,↓SI,↓SZ,LA,hsz,hsz2,tE,pI,Tryz.f4]
  ·have hb:=aEh hsz
   exact T2 hn al rs ac bl bs bc x hlen hla hlenb hlab hsz hsz2 hL
end Ev
end Go.Proofs.YtejmccgfigiadaaGreat
