/-
  A copy of an automaton, as the reference makes it.
-/
import Derived.Test.YtppdfjdfjfoddaaDoorMemD
import Derived.Test.YtppdfjdfjfoddaaDoorBlock
set_option linter.unusedSimpArgs false
set_option linter.unusedVariables false
set_option maxRecDepth 8000
set_option maxHeartbeats 4000000
namespace Go.Proofs.YtppdfjdfjfoddaaDoor
namespace Ev
mutual
theorem aJY {nf:Nat} {h:H}:∀ a:A,(∀ i ∈ idsA a,a6 h i = none) → bO nf h a = a
 | .d x,_ => by simp only [bO]
 | .sl id gen off len,hi => by
  have:=hi id (by simp [idsA])
  simp only [bO,jL,this]
  split <;> rfl
 | .ptr id gen off,hi => by
  have:=hi id (by simp [idsA])
  simp only [bO,JT,this]
  split <;> rfl
 | .mp id,_ => by simp only [bO]
 | .clo g cs,hi => by simp only [bO]; rw [qX cs (fun i h => hi i (by simpa only [idsA] using h))]
 | .agg cs,hi => by simp only [bO]; rw [qX cs (fun i h => hi i (by simpa only [idsA] using h))]
 | .tup cs,hi => by simp only [bO]; rw [qX cs (fun i h => hi i (by simpa only [idsA] using h))]
 | .junk,_ => by simp only [bO]
theorem qX {nf:Nat} {h:H}:∀ xs:List A,(∀ i ∈ idsL xs,a6 h i = none) → aR nf h xs = xs
 | [],_ => by simp only [aR]
 | x :: xs,hi => by
  simp only [aR]
  rw [aJY x (fun i h => hi i (by simp only [idsL,List.mem_append]; exact .inl h)),qX xs (fun i h => hi i (by simp only [idsL,List.mem_append]; exact .inr h))]
end
theorem aRg {m:List Bool} {s:List A} {a1 a2 a3 x0 x1:D} {k z e0:Nat} {r:List Int} {cs:List D} {d:List (List Int)} {p:H} (he:e0 = d.length + 7) (hl:d.length ≤ 4294967296):gc 0 m s (.box [.d a1,.d a2,.d a3] :: .box [.d x0,.sl 3 0 0 0,.sl 4 0 0 0] :: .box [.d x1,.sl 5 1 0 k,.sl 6 0 0 z] :: .arr [] 0 0 :: .arr [] 0 0 :: .vec (aD 7 d ++ [.sl e0 1 0 r.length]) 1 1 :: .arr cs 1 0 :: (aJ d ++ .arr (ints r) 1 1 :: p)) = match box (tidy m s) with
  | .mk s1 => if idsL s1 = [0,1,2] then (s1,.box [.d a1,.d a2,.d a3] :: .box [.d x0,.sl 3 0 0 0,.sl 4 0 0 0] :: .box [.d x1,.sl 5 0 0 k,.sl 6 0 0 z] :: .arr [] 0 0 :: .arr [] 0 0 :: .vec (aD 7 (d ++ [r]) ++ aI 0) 1 0 :: .arr cs 1 0 :: aJ (d ++ [r])) else gcO 0 m s (.box [.d a1,.d a2,.d a3] :: .box [.d x0,.sl 3 0 0 0,.sl 4 0 0 0] :: .box [.d x1,.sl 5 1 0 k,.sl 6 0 0 z] :: .arr [] 0 0 :: .arr [] 0 0 :: .vec (aD 7 d ++ [.sl e0 1 0 r.length]) 1 1 :: .arr cs 1 0 :: (aJ d ++ .arr (ints r) 1 1 :: p))
  | .no => ([],[]):=by
 have hn:aI 0 = []:=rfl
 subst he
 rw [aRJ hl,← M4,GD,hn,List.append_nil,Nat.add_comm 7]
 have hc:=qX (nf:=0) (h:=.box [.d a1,.d a2,.d a3] :: .box [.d x0,.sl 3 0 0 0,.sl 4 0 0 0] :: .box [.d x1,.sl 5 1 0 k,.sl 6 0 0 z] :: .arr [] 0 0 :: .arr [] 0 0 :: .vec (aD 7 d ++ [.sl (d.length + 7) 1 0 r.length]) 1 1 :: .arr cs 1 0 :: (aJ d ++ [.arr (ints r) 1 1])) (tidy m s)
 simp only [box]
 split
 ·rename_i hid
  rw [hc (by rw [hid]; intro i hi; simp at hi; rcases hi with rfl | rfl | rfl <;> rfl)]
 ·rfl
theorem vS {d:List (List Int)} {o q:O} {p:H} {k:Nat} (h:k = d.length):(aJ d ++ o :: p).set k q = aJ d ++ q :: p:=by
 rw [List.set_append_right _ _ (by rw [dK]; omega),dK,h,Nat.sub_self]
 rfl
theorem aFL {d:List (List Int)} {o o2 q:O} {p:H} {k:Nat} (h:k = d.length + 1):(aJ d ++ o2 :: o :: p).set k q = aJ d ++ o2 :: q :: p:=by
 rw [List.set_append_right _ _ (by rw [dK]; omega),dK,h,Nat.add_sub_cancel_left]
 rfl
theorem rY {d:List (List Int)} {o:O} {p:H} {k:Nat} (h:k = d.length):(aJ d ++ o :: p)[k]? = some o:=by
 subst h
 rw [List.getElem?_append_right (by rw [dK]; omega),dK,Nat.sub_self]
 rfl
theorem AB {d:List (List Int)} {o o2:O} {p:H} {k:Nat} (h:k = d.length + 1):(aJ d ++ o2 :: o :: p)[k]? = some o:=by
 subst h
 rw [List.getElem?_append_right (by rw [dK]; omega),dK,Nat.add_sub_cancel_left]
 rfl
theorem zI {d:List (List Int)} {o x:O} {p:H} {k:Nat} (h:k = d.length):(aJ d ++ o :: p).getD k x = o:=by
 rw [List.getD_eq_getElem?_getD,rY h]; rfl
theorem QM {d:List (List Int)} {o o2 x:O} {p:H} {k:Nat} (h:k = d.length + 1):(aJ d ++ o2 :: o :: p).getD k x = o:=by
 rw [List.getD_eq_getElem?_getD,AB h]; rfl
theorem aEP {R:Type} {L n:Nat} (hn:1 ≤ n) {al:Int} {rs:List (List Int)} {ac:List Bool} (hs:aX rs) {k:Exit → List A → H → Option R}:∀ (j i m:Nat) (d:List (List Int)) (len:Nat) (hi:i + j = rs.length) (hm:j < m) (hd:d.length = i) (hlen:len = d.length),
  aU env (aA env L n) L 0 [0,0,0,0,0,0,0,0,0,0,0,0,0,0,0,0,0,0,0,0,0,0,0,0,0,0,0,0,1002] (Z1 (U4 (Z16 (Z8 (Z2 (Z1 ([]))))))) (pH 0) (U1 (Z4 (U16 (U8 (U2 (U1 ([]))))))) m (Y1 (.ptr 0 0 0 :: .ptr 1 0 0 :: .ptr 2 0 0 :: .d (.int .i64 ((i:Int))) :: Y16 (Y8 (Y2 (Y1 ([])))))) (.box [.d (.int .i64 al),.d (.ivs rs.length (aC rs)),.d (.ivs ac.length (aB ac))] :: .box [.d (.int .i64 0),.sl 3 0 0 0,.sl 4 0 0 0] :: .box [.d (.int .i64 al),.sl 5 0 0 len,.sl 6 0 0 ac.length] :: .arr [] 0 0 :: .arr [] 0 0 :: .vec (aD 7 d ++ aI 0) 1 0 :: .arr (aB ac) 1 0 :: aJ d) k
  = k (.exit 0) (Y1 (.ptr 0 0 0 :: .ptr 1 0 0 :: .ptr 2 0 0 :: .d (.int .i64 (rs.length)) :: Y16 (Y8 (Y2 (Y1 ([])))))) (.box [.d (.int .i64 al),.d (.ivs rs.length (aC rs)),.d (.ivs ac.length (aB ac))] :: .box [.d (.int .i64 0),.sl 3 0 0 0,.sl 4 0 0 0] :: .box [.d (.int .i64 al),.sl 5 0 0 (d ++ rs.drop i).length,.sl 6 0 0 ac.length] :: .arr [] 0 0 :: .arr [] 0 0 :: .vec (aD 7 (d ++ rs.drop i) ++ aI 0) 1 0 :: .arr (aB ac) 1 0 :: aJ (d ++ rs.drop i)):=by
 intro j
 have hrl:=hs.1
 induction j with
 | zero =>
  intro i m d len hi hm hd hlen
  obtain _ | m:=m; omega
  obtain rfl:i = rs.length:=by omega
  subst hlen
  have hdl:d.length ≤ 4294967296:=by omega
  rw [List.drop_length,List.append_nil]
  rw [zR]
  simp only [yW,Tryd.f71,SLM,simprocAttr]
  simp -implicitDefEqProofs (maxSteps:=2000000) (disch:=try exact Dz) only [↓DN,↓kAsg,↓kRet,UP,simprocAttr,LA,Int.lt_irrefl,↓aRm]
 | succ j ih =>
  intro i m d len hi hm hd hlen
  obtain _ | m:=m; omega
  subst hlen
  have hc:(i:Int) < rs.length:=by omega
  have hk:i < rs.length:=by omega
  have hi0:(0:Int) ≤ i:=by omega
  have hrow:=tB hs hk
  have hdl:d.length ≤ 4294967296:=by omega
  have hdl3:d.length ≤ 4294967295:=by omega
  have ih':=ih (i + 1) m (d ++ [rs.getD i []]) (d.length + 1) (by omega) (by omega) (by simp; omega) (by simp)
  rw [show ((i + 1:Nat):Int) = (i:Int) + 1 by omega] at ih'
  rw [nB hk (d:=[])]
  simp only [List.append_assoc,List.cons_append,List.nil_append] at ih'
  have ht:(aD 7 d ++ aI 0).take d.length = aD 7 d:=PV rfl
  have hlv:d.length ≤ (aD 7 d ++ aI 0).length:=by rw [List.length_append,mO]; omega
  clear ih
  obtain ⟨G1,hG1⟩:∃ G:H,G = (O.box [.d (.int .i64 al),.d (.ivs rs.length (aC rs)),.d (.ivs ac.length (aB ac))] :: .box [.d (.int .i64 0),.sl 3 0 0 0,.sl 4 0 0 0] :: .box [.d (.int .i64 al),.sl 5 0 0 d.length,.sl 6 0 0 ac.length] :: .arr [] 0 0 :: .arr [] 0 0 :: .vec (aD 7 d ++ aI 0) 1 0 :: .arr (aB ac) 1 0 :: (aJ d ++ .arr (ints (rs.getD i [])) 1 1 :: .vec [.sl (d.length + 7) 1 0 (rs.getD i []).length] 1 0 :: [])):=⟨_,rfl⟩
  have row1:∀ q,q < d.length → ∃ r:List Int,G1[7 + q]? = some (.arr (ints r) 1 0):=by
   intro q hq
   obtain ⟨r,hr⟩:∃ r,d[q]? = some r:=⟨d[q],List.getElem?_eq_getElem hq⟩
   refine ⟨r,?_⟩
   rw [hG1,show 7 + q = q + 1 + 1 + 1 + 1 + 1 + 1 + 1 by omega]
   simp only [List.getElem?_cons_succ]
   exact G8 hr
  have g5:G1[5]? = some (.vec (aD 7 d ++ aI 0) 1 0):=by rw [hG1]; rfl
  have ge:G1[d.length + 7]? = some (.arr (ints (rs.getD i [])) 1 1):=by
   rw [hG1]
   simp only [List.getElem?_cons_succ]
   exact rY rfl
  have ge1:G1[d.length + 8]? = some (.vec [.sl (d.length + 7) 1 0 (rs.getD i []).length] 1 0):=by
   rw [hG1]
   simp only [List.getElem?_cons_succ]
   exact AB rfl
  have oke:Okay G1 (d.length + 7):=.mk _ _ ge (by simp) (by rw [bX ge]; simp)
  have oke1:Okay G1 (d.length + 8):=.mk _ _ ge1 (by simp) (by
   intro q hq
   have:kids G1 (d.length + 8) = [d.length + 7]:=by simp [kids,ge1,idsL,idsA]
   rw [this] at hq
   simp at hq; subst hq; exact oke)
  have ok5:Okay G1 5:=.mk _ _ g5 (by simp) (by
   intro q hq
   have:kids G1 5 = List.range' 7 d.length:=by simp [kids,g5,bY,dE,eH]
   rw [this,List.mem_range'_1] at hq
   obtain ⟨z,rfl⟩:∃ z,q = 7 + z:=⟨q - 7,by omega⟩
   obtain ⟨r,hr⟩:=row1 z (by omega)
   exact .mk _ _ hr (by simp) (by rw [bX hr]; simp))
  have wG1:2 + wgt G1 ≤ 1099511627776:=by
   have h1:=r9 (aJ d) [.arr (ints (rs.getD i [])) 1 1,.vec [.sl (d.length + 7) 1 0 (rs.getD i []).length] 1 0]
   rw [HW] at h1
   rw [hG1]
   simp only [wgt,idsL,idsA,bY,dE,eH,List.length_append,List.length_range',List.length_cons,List.length_nil] at h1 ⊢
   omega
  have st_app:∀ {call:a7} {thaw:List Nat} {dst:Option Tmp} {args:Array Operand},memD env call thaw dst (.call ⟨.builtin .append,args,#[23,23]⟩) G1 [.sl 5 0 0 d.length,.sl (d.length + 8) 0 0 1] = some (.sl 5 1 0 (d.length + 1),G1.set 5 (.vec ((aD 7 d ++ aI 0).take d.length ++ [.sl (d.length + 7) 1 0 (rs.getD i []).length]) 1 1),{ ids:=aF aG G1 [5,d.length + 8] [],ro:=false,wr:=[5] }):=by
   intro call thaw dst args
   exact aD4 (e:=32) rfl eN (by kernel_rfl) g5 ge1 hlv (by unfold bW; omega) ok5 oke1 wG1
  rw [ht] at st_app
  obtain ⟨G2,hG2⟩:∃ G:H,G = G1.set 5 (.vec (aD 7 d ++ [.sl (d.length + 7) 1 0 (rs.getD i []).length]) 1 1):=⟨_,rfl⟩
  have hl1:G1.length = d.length + 9:=by rw [hG1]; simp [dK]
  have keep:∀ q,q ≠ 5 → G2[q]? = G1[q]?:=fun q hq => by rw [hG2,List.getElem?_set_ne (fun e => hq e.symm)]
  have k5:G2[5]? = some (.vec (aD 7 d ++ [.sl (d.length + 7) 1 0 (rs.getD i []).length]) 1 1):=by rw [hG2,List.getElem?_set_self (by omega)]
  have k2:G2[2]? = some (.box [.d (.int .i64 al),.sl 5 0 0 d.length,.sl 6 0 0 ac.length]):=by rw [keep 2 (by omega),hG1]; rfl
  have k6:G2[6]? = some (.arr (aB ac) 1 0):=by rw [keep 6 (by omega),hG1]; rfl
  have ok5':Okay G2 5:=.mk _ _ k5 (by simp) (by
   intro q hq
   have:kids G2 5 = List.range' 7 d.length ++ [d.length + 7]:=by simp [kids,k5,bY,dE,idsL,idsA]
   rw [this,List.mem_append,List.mem_range'_1] at hq
   rcases hq with hq | hq
   ·obtain ⟨z,rfl⟩:∃ z,q = 7 + z:=⟨q - 7,by omega⟩
    obtain ⟨r,hr⟩:=row1 z (by omega)
    rw [← keep _ (by omega)] at hr
    exact .mk _ _ hr (by simp) (by rw [bX hr]; simp)
   ·simp at hq
    subst hq
    rw [← keep _ (by omega)] at ge
    exact .mk _ _ ge (by simp) (by rw [bX ge]; simp))
  have ok6':Okay G2 6:=.mk _ _ k6 (by simp) (by rw [bX k6]; simp)
  have ok2':Okay G2 2:=.mk _ _ k2 (by simp) (by
   intro q hq
   have:kids G2 2 = [5,6]:=by simp [kids,k2,idsL,idsA]
   rw [this] at hq
   simp at hq
   rcases hq with rfl | rfl
   ·exact ok5'
   ·exact ok6')
  have wG2:2 + wgt G2 ≤ 1099511627776:=by
   have h1:=r9 (aJ d) [.arr (ints (rs.getD i [])) 1 1,.vec [.sl (d.length + 7) 1 0 (rs.getD i []).length] 1 0]
   rw [HW] at h1
   rw [hG2,hG1]
   simp only [List.set_cons_succ,List.set_cons_zero,wgt,idsL,idsA,bY,dE,List.length_append,List.length_range',List.length_cons,List.length_nil] at h1 ⊢
   omega
  have st_sto:∀ {call:a7} {thaw:List Nat} {dst:Option Tmp} {x y:Operand},memD env call thaw dst (.store 23 x y) G2 [.ptr 2 0 1,.sl 5 1 0 (d.length + 1)] = some (.d .undef,G2.set 2 (.box (bS [.d (.int .i64 al),.sl 5 0 0 d.length,.sl 6 0 0 ac.length] 1 [.sl 5 1 0 (d.length + 1)])),{ ids:=aF aG G2 [2,5] [],ro:=false,wr:=aF aG G2 [2,5] [] }):=by
   intro call thaw dst x y
   exact MV (by kernel_rfl) (by kernel_rfl) k2 (by simp) ok2' ok5' wG2
  obtain ⟨o1,ho1⟩:∃ o,o = aF aG G1 [5,d.length + 8] []:=⟨_,rfl⟩
  obtain ⟨o2,ho2⟩:∃ o,o = aF aG G2 [2,5] []:=⟨_,rfl⟩
  rw [← ho1] at st_app
  rw [← ho2,hG2] at st_sto
  rw [hG1] at st_app st_sto
  simp only [List.set_cons_succ,List.set_cons_zero,bS,List.take_succ_cons,List.take_zero,List.cons_append,List.nil_append,List.length_cons,List.length_nil,List.drop_succ_cons,List.drop_zero,Nat.reduceAdd] at st_app st_sto
  clear hG2 hG1 k5 k2 k6 keep ok5' ok6' ok2' wG2 wG1 ok5 oke1 oke ge1 ge g5 row1 ho1 ho2 hl1
  rw [zR]
  simp only [yW,Tryd.f71,SLM,simprocAttr]
  simp -implicitDefEqProofs (maxSteps:=2000000) (disch:=try exact Dz) only [↓DN,↓kAsg,↓kRet,UP,simprocAttr,LA,hc,hi0,dZ,eN,Int.toNat_natCast,dK,mO,aEb,Nat.add_zero,Nat.le_refl,rY,AB,zI,QM,vS,ht,dQ,List.append_assoc,List.cons_append,List.nil_append,↓st_app,↓st_sto,↓aRg,↓ih']
theorem V2 {R:Type} {L n m:Nat} (hn:1 ≤ n) {al:Int} {rs:List (List Int)} {ac:List Bool} (hs:aX rs) (h1:1 ≤ rs.length) (hm:rs.length < m) {k:Exit → List A → H → Option R} :
  aU env (aA env L n) L 0 [0,0,0,0,0,0,0,0,0,0,0,0,0,0,0,0,0,0,0,0,0,0,0,0,0,0,0,0,1002] (Z1 (U4 (Z16 (Z8 (Z2 (Z1 ([]))))))) (pH 0) (U1 (Z4 (U16 (U8 (U2 (U1 ([]))))))) m (Y1 (.ptr 0 0 0 :: .ptr 1 0 0 :: .ptr 2 0 0 :: .d (.int .i64 0) :: Y16 (Y8 (Y2 (Y1 ([])))))) [.box [.d (.int .i64 al),.d (.ivs rs.length (aC rs)),.d (.ivs ac.length (aB ac))],.box [.d (.int .i64 0),.sl 3 0 0 0,.sl 4 0 0 0],.box [.d (.int .i64 al),.sl 5 0 0 0,.sl 6 0 0 ac.length],.arr [] 0 0,.arr [] 0 0,.arr [] 0 0,.arr (aB ac) 1 0] k
  = k (.exit 0) (Y1 (.ptr 0 0 0 :: .ptr 1 0 0 :: .ptr 2 0 0 :: .d (.int .i64 (rs.length)) :: Y16 (Y8 (Y2 (Y1 ([])))))) (.box [.d (.int .i64 al),.d (.ivs rs.length (aC rs)),.d (.ivs ac.length (aB ac))] :: .box [.d (.int .i64 0),.sl 3 0 0 0,.sl 4 0 0 0] :: .box [.d (.int .i64 al),.sl 5 0 0 rs.length,.sl 6 0 0 ac.length] :: .arr [] 0 0 :: .arr [] 0 0 :: .vec (aD 7 rs ++ aI 0) 1 0 :: .arr (aB ac) 1 0 :: aJ rs):=by
 obtain ⟨j,hj⟩:∃ j,rs.length = j + 1:=⟨rs.length - 1,by omega⟩
 obtain _ | m:=m; omega
 have hrl:=hs.1
 have hc:(0:Int) < rs.length:=by omega
 have hrow:=tB hs (k:=0) (by omega)
 have loop_b:∀ {R:Type} {k:Exit → List A → H → Option R},aU env (aA env L n) L 0 [0,0,0,0,0,0,0,0,0,0,0,0,0,0,0,0,0,0,0,0,0,0,0,0,0,0,0,0,1002] (Z1 (U4 (Z16 (Z8 (Z2 (Z1 ([]))))))) (pH 0) (U1 (Z4 (U16 (U8 (U2 (U1 ([]))))))) m (Y1 (.ptr 0 0 0 :: .ptr 1 0 0 :: .ptr 2 0 0 :: .d (.int .i64 1) :: Y16 (Y8 (Y2 (Y1 ([])))))) [.box [.d (.int .i64 al),.d (.ivs rs.length (aC rs)),.d (.ivs ac.length (aB ac))],.box [.d (.int .i64 0),.sl 3 0 0 0,.sl 4 0 0 0],.box [.d (.int .i64 al),.sl 5 0 0 1,.sl 6 0 0 ac.length],.arr [] 0 0,.arr [] 0 0,.vec [.sl 7 0 0 (rs.getD 0 []).length] 1 0,.arr (aB ac) 1 0,.arr (ints (rs.getD 0 [])) 1 0] k
  = k (.exit 0) (Y1 (.ptr 0 0 0 :: .ptr 1 0 0 :: .ptr 2 0 0 :: .d (.int .i64 (rs.length)) :: Y16 (Y8 (Y2 (Y1 ([])))))) (.box [.d (.int .i64 al),.d (.ivs rs.length (aC rs)),.d (.ivs ac.length (aB ac))] :: .box [.d (.int .i64 0),.sl 3 0 0 0,.sl 4 0 0 0] :: .box [.d (.int .i64 al),.sl 5 0 0 rs.length,.sl 6 0 0 ac.length] :: .arr [] 0 0 :: .arr [] 0 0 :: .vec (aD 7 rs ++ aI 0) 1 0 :: .arr (aB ac) 1 0 :: aJ rs):=by
  intro R k
  have h:=aEP (R:=R) (L:=L) (n:=n) hn (al:=al) (ac:=ac) hs (k:=k) j 1 m [rs.getD 0 []] 1 (by omega) (by omega) rfl rfl
  have e:[rs.getD 0 []] ++ rs.drop 1 = rs:=by
   have:=nB (l:=rs) (i:=0) (d:=[]) (by omega)
   rw [List.drop_zero] at this
   exact this.symm
  rw [e] at h
  exact h
 clear hj
 have g0:((aC rs).map A.d).head? = some (.d (.ivs (rs.getD 0 []).length (ints (rs.getD 0 [])))):=UH (k:=0) (by omega)
 generalize rs.getD 0 [] = r0 at *
 rw [zR]
 simp only [yW,Tryd.f71,SLM,simprocAttr]
 simp -implicitDefEqProofs (maxSteps:=2000000) (disch:=try exact Dz) only [↓DN,↓kAsg,↓kRet,UP,simprocAttr,LA,hc,g0,dZ,eN,dQ,↓loop_b]
theorem aHk {L n:Nat} (hn:2 ≤ n) (al:Int) (rs:List (List Int)) (ac:List Bool) (hs:aX rs) (h1:1 ≤ rs.length) (ha:ac.length ≤ 4294967295) (hL:2 ^ 60 ≤ L):aA env L n 71 [.agg [.d (.int .i64 al),.d (.ivs rs.length (aC rs)),.d (.ivs ac.length (aB ac))]] [] = some (autA 0 al rs.length ac.length,autO 0 rs ac):=by
 have hrl:=hs.1
 have hbl:(aB ac).length = ac.length:=d7
 unfold autA autO
 obtain _ | n:=n; omega
 rw [aHg]
 simp only [aAW,Tryd.f71,SLM,simprocAttr]
 simp -implicitDefEqProofs (maxSteps:=2000000) (disch:=try exact Dz) only [↓DN,↓kAsg,↓kRet,UP,simprocAttr,LA,hbl,yH,vX,dZ,↓V2,↓aNN,↓aOj,z0As,z0A,eq_self,aDz,aEp]
end Ev
end Go.Proofs.YtppdfjdfjfoddaaDoor
