/-
  Automata that are drawn: a copy that is not valid: one entry more in a row, another entry.
-/
import Derived.Test.YtppdfjdfjfoddaaDoorWrongA
import Derived.Test.YtppdfjdfjfoddaaDoorMemD
import Derived.Test.YtppdfjdfjfoddaaDoorDrawR
set_option linter.unusedSimpArgs false
set_option linter.unusedVariables false
set_option maxRecDepth 8000
set_option maxHeartbeats 4000000
namespace Go.Proofs.YtppdfjdfjfoddaaDoor
namespace Ev
theorem aJs {c:List UInt8} (hc:c.length ≤ 2000) (al:Int) (nx:List (List Int)) (ac:List Bool) (hs:bA nx) (h1:1 ≤ nx.length) (ha:ac.length ≤ 4294967290) (p:Int) (t:Nat) (ht:t < nx.length) (hr:(nx.getD t []).length ≤ 4294967290)
  (kd1:(Dw 1 48 [.d (.int .i64 (nx.length))] (.d (.int .i64 ((t:Int)))) c p (p + 1)))
  (kd2:(Dw 1 48 [.d (.int .i64 30)] (.d (.int .i64 2)) c (p + 1) (p + 1 + 1))):(Dw 4 51 [autD al nx ac] (autD al (nx.set t (nx.getD t [] ++ [0])) ac) c p (p + 1 + 1)):=by
 intro R L n hq k hn hL
 refine eO sE (by simp [autD,idsA,idsL]) (by simp [autD,idsA,idsL]) ?_
 have hnl:=hs.1
 obtain ⟨N,T1,T2,T3,w⟩:=oY (.box [.d (.int .i64 al),.d (.ivs nx.length (aJ nx)),.d (.ivs ac.length (aK ac))]) (.box [.d (.int .i64 0),.sl 2 0 0 0,.sl 3 0 0 0]) al nx ac
 have kd3:=fun {R:Type} {n:Nat} {o1:O} {k:A → H → Option R} (hn:2 ≤ n) => qX (R:=R) (L:=L) (n:=n) (o1:=o1) (al:=al) (k:=k) w.h1 hs h1 (by omega) hn hL
 obtain ⟨hN,hT1,l1,h2,b2,h3,l3,t3,t4,t5,tr,tb,e3,wg⟩:=w
 clear e3
 simp only [gZ,idsL,idsA,List.length_nil,List.length_cons,List.nil_append,List.cons_append,Nat.zero_add] at wg
 clear hT1
 have hrow:nx[t]? = some (nx.getD t []):=by rw [List.getD_eq_getElem?_getD,List.getElem?_eq_getElem ht]; rfl
 generalize hrw:nx.getD t [] = row at hrow hr ⊢
 have hd7:((aB 7 nx ++ aF 0).drop t).head? = some (.sl (t + 7) 0 0 row.length):=by rw [oV ht,hrw]
 obtain ⟨T4,h4⟩:∃ T,T3 ++ [.arr [.int .i64 0] 1 0] = T:=⟨_,rfl⟩
 obtain ⟨l4,g4,k4⟩:=nS h4
 rw [l3] at l4 g4 k4
 have w4:wgt T4 = wgt T3:=by rw [← h4,EM]; simp [gZ]
 obtain ⟨T5,h5⟩:∃ T,T4.set (t + 6) (.arr (ints (row ++ [0])) 1 1) = T:=⟨_,rfl⟩
 obtain ⟨l5,g5,k5⟩:=dV h5 (by omega)
 have w5:wgt T5 ≤ wgt T4:=by rw [← h5]; have:=nV (h:=T4) (i:=t + 6) (o:=.arr (ints (row ++ [0])) 1 1); simpa [gZ] using this
 obtain ⟨T6,h6⟩:∃ T,T5.set 4 (.vec ((aB 7 nx ++ aF 0).take t ++ [.sl (t + 7) 1 0 (row.length + 1)] ++ (aB 7 nx ++ aF 0).drop (t + 1)) 1 0) = T:=⟨_,rfl⟩
 obtain ⟨l6,g6,k6⟩:=dV h6 (by omega)
 obtain ⟨T7,h7⟩:∃ T,T6.set 3 (.box [.d (.int .i64 al),.sl 5 0 0 nx.length,.sl 6 0 0 ac.length]) = T:=⟨_,rfl⟩
 obtain ⟨l7,g7,k7⟩:=dV h7 (by omega)
 have t6b:T6[N + 1 + 1]? = some (.box [.d (.int .i64 al),.sl 5 0 0 nx.length,.sl 6 0 0 ac.length]):=by rw [k6 _ (by omega),k5 _ (by omega),k4 _ (by omega),tb]
 have t63:T6[3]? = some (.box [.d (.int .i64 0),.sl 2 0 0 0,.sl 3 0 0 0]):=by rw [k6 _ (by omega),k5 _ (by omega),k4 _ (by omega),t3]
 have t44:T4[4]? = some (.vec (aB 7 nx ++ aF 0) 1 0):=by rw [k4 _ (by omega),t4]
 have t54:T5[4]? = some (.vec (aB 7 nx ++ aF 0) 1 0):=by rw [k5 _ (by omega),t44]
 have t4r:T4[t + 6]? = some (.arr (ints row) 1 0):=by rw [k4 _ (by omega)]; exact tr _ _ hrow
 have hlv:(aB 7 nx ++ aF 0).length = nx.length:=by rw [List.length_append,j6]; rfl
 have st_app:∀ {call:a9} {thaw:List Nat} {dst:Option Tmp} {args:Array Operand},memD env call thaw dst (.call ⟨.builtin .append,args,#[32,32]⟩) (rdO c (p + 1 + 1) :: T4) [.sl (t + 7) 0 0 row.length,.sl (N + 1 + 1 + 1 + 1) 0 0 1] = some (.sl (t + 7) 1 0 (row.length + 1),rdO c (p + 1 + 1) :: T5,{ ids:=[t + 7,N + 1 + 1 + 1 + 1],ro:=false,wr:=[t + 7] }):=by
  intro call thaw dst args
  rw [MZ (e:=3) (e0:=1) (n2:=1) (cs:=ints row) (src:=[.int .i64 0]) rfl d9 (by kernel_rfl) (by rw [show t + 7 = t + 6 + 1 by omega,List.getElem?_cons_succ]; exact t4r) (.inr rfl) (by rw [List.getElem?_cons_succ]; exact g4) rfl (by simp [ints]) (by unfold b5; omega) (by omega)]
  rw [show t + 7 = t + 6 + 1 by omega,List.set_cons_succ,← h5,show (ints row).take row.length ++ [D.int .i64 0] = ints (row ++ [0]) by rw [List.take_of_length_le (by simp [ints])]; simp [ints]]
 have ok_row:∀ (i:Nat) (r:List Int),nx[i]? = some r → Okay (rdO c (p + 1 + 1) :: T5) (i + 7):=by
  intro i r hr
  have hi:i < nx.length:=(List.getElem?_eq_some_iff.1 hr).1
  by_cases e:i = t
  ·subst e
   have hg:(rdO c (p + 1 + 1) :: T5)[i + 7]? = some (.arr (ints (row ++ [0])) 1 1):=by rw [show i + 7 = i + 6 + 1 by omega,List.getElem?_cons_succ]; exact g5
   exact .mk _ _ hg (by simp) (by rw [bZ hg]; simp)
  ·have hg:(rdO c (p + 1 + 1) :: T5)[i + 7]? = some (.arr (ints r) 1 0):=by rw [show i + 7 = i + 6 + 1 by omega,List.getElem?_cons_succ,k5 _ (by omega),k4 _ (by omega)]; exact tr _ _ hr
   exact .mk _ _ hg (by simp) (by rw [bZ hg]; simp)
 have ok5:Okay (rdO c (p + 1 + 1) :: T5) 5:=by
  have hg:(rdO c (p + 1 + 1) :: T5)[5]? = some (.vec (aB 7 nx ++ aF 0) 1 0):=t54
  refine .mk _ _ hg (by simp) ?_
  intro q hq
  have:kids (rdO c (p + 1 + 1) :: T5) 5 = List.range' 7 nx.length:=by simp only [kids,hg,bW,c9,eM,List.append_nil]
  rw [this,List.mem_range'_1] at hq
  obtain ⟨z,rfl⟩:∃ z,q = z + 7:=⟨q - 7,by omega⟩
  exact ok_row z (nx[z]'(by omega)) (List.getElem?_eq_getElem _)
 obtain ⟨o2,ho2⟩:∃ o,o = aC aE (rdO c (p + 1 + 1) :: T5) [5,t + 7] []:=⟨_,rfl⟩
 have st_sto:∀ {call:a9} {thaw:List Nat} {dst:Option Tmp} {x y:Operand},memD env call thaw dst (.store 32 x y) (rdO c (p + 1 + 1) :: T5) [.ptr 5 0 t,.sl (t + 7) 1 0 (row.length + 1)] = some (.d .undef,rdO c (p + 1 + 1) :: T6,{ ids:=o2,ro:=false,wr:=o2 }):=by
  intro call thaw dst x y
  rw [aIV (by kernel_rfl) (by kernel_rfl) (h:=rdO c (p + 1 + 1) :: T5) (id:=5) (id2:=t + 7) (cs:=aB 7 nx ++ aF 0) t54 (by omega) ok5 (ok_row t row hrow) (by rw [p9]; simp only [gZ,idsL,idsA,List.nil_append,List.length_nil]; omega),← ho2]
  rw [List.set_cons_succ]
  unfold bN
  rw [← h6]
  rfl
 have hclash:∀ (ops:List Oper),sO [(1,8),(4,8),(6,8),(7,8),(1,9),(8,10),(9,10)] ops [{},{ ids:=[N + 2 + 1],ro:=true },{},{},{ ids:=[N + 2 + 1],ro:=true },{},{ ids:=[5],ro:=true },{ ids:=[5],ro:=true },{ ids:=[N + 1 + 1 + 1 + 1],ro:=false },{ ids:=[t + 7,N + 1 + 1 + 1 + 1],ro:=false,wr:=[t + 7] },{ ids:=[5],ro:=true },{ ids:=o2,ro:=false,wr:=o2 }] = true → iS ops [{},{ ids:=[N + 2 + 1],ro:=true },{},{},{ ids:=[N + 2 + 1],ro:=true },{},{ ids:=[5],ro:=true },{ ids:=[5],ro:=true },{ ids:=[N + 1 + 1 + 1 + 1],ro:=false },{ ids:=[t + 7,N + 1 + 1 + 1 + 1],ro:=false,wr:=[t + 7] },{ ids:=[5],ro:=true },{ ids:=o2,ro:=false,wr:=o2 }] = true:=by
  intro ops hm
  refine BL _ hm ?_
  intro q hq
  simp only [List.mem_cons,List.not_mem_nil,or_false] at hq
  rcases hq with rfl | rfl | rfl | rfl | rfl | rfl | rfl <;> simp [oT] <;> omega
 have hv:rd1 (rdO c (p + 1 + 1) :: T7) (.sl 5 0 0 nx.length) = some (.ivs (nx.set t (row ++ [0])).length (aJ (nx.set t (row ++ [0])))):=by
  refine zZ (cs:=(aB 7 nx ++ aF 0).take t ++ [.sl (t + 7) 1 0 (row.length + 1)] ++ (aB 7 nx ++ aF 0).drop (t + 1)) ?_ ?_ (by simp)
  ·rw [List.getElem?_cons_succ,k7 _ (by omega),g6]
  ·refine aIa ht (fun i r hi hr => ?_) ?_ (by simp)
   ·have hil:i < nx.length:=(List.getElem?_eq_some_iff.1 hr).1
    rw [show i + 7 = i + 6 + 1 by omega,List.getElem?_cons_succ,k7 _ (by omega),k6 _ (by omega),k5 _ (by omega),k4 _ (by omega)]
    exact tr i r hr
   ·rw [show t + 7 = t + 6 + 1 by omega,List.getElem?_cons_succ,k7 _ (by omega),k6 _ (by omega),g5]
 have hw:rd1 (rdO c (p + 1 + 1) :: T7) (.sl 6 0 0 ac.length) = some (.ivs ac.length (aK ac)):=by
  refine sF ?_ rfl
  rw [List.getElem?_cons_succ,k7 _ (by omega),k6 _ (by omega),k5 _ (by omega),k4 _ (by omega),t5]
 obtain ⟨h2',st_out,st_keep,st_trim⟩:=vF (al:=al) hv hw (by omega) (by omega)
 have hlen:(nx.set t (row ++ [0])).length = nx.length:=by simp
 unfold autD at st_out ⊢
 rw [hlen] at st_out ⊢
 have hti:(t:Int) < nx.length:=by omega
 have ht0:(0:Int) ≤ t:=by omega
 have hn0:(0:Int) < nx.length:=by omega
 clear hv hw k4 k5 k6 k7 tr h1 l4 l6 l7 ok_row ok5 w4 w5 wg ho2 hrow hlv
 obtain _ | n:=n; omega
 rw [nR]
 simp only [nO,Tryd.f51,SLM,simprocAttr]
 simp -implicitDefEqProofs (maxSteps:=2000000) (disch:=first | assumption | (refine Shut.mk ?_; (show iS _ _ = true; with_unfolding_all exact hclash _ (by kernel_rfl))) | (refine Shut.mk ?_; kernel_rfl) | omega | (simp only [GT]; done) | (simp only [LN] <;> omega) | fail) only [↓DN,↓kAsg,↓kRet,UP,simprocAttr,LA,↓kd1,↓kd2,↓kd3,l1,h2,b2,h3,l3,t3,t4,t5,tb,h4,t44,hti,ht0,hn0,hd7,t54,↓st_app,↓st_sto,t6b,t63,h7,g7,Int.toNat_natCast,d7,eD,dW,d9,↓st_out,↓st_keep,↓st_trim,List.append_assoc,List.cons_append,List.nil_append]
theorem aLj {c:List UInt8} (hc:c.length ≤ 2000) (al:Int) (nx:List (List Int)) (ac:List Bool) (hs:bA nx) (h1:1 ≤ nx.length) (ha:ac.length ≤ 4294967290) (p:Int) (t:Nat) (ht:t < nx.length) (hr:(nx.getD t []).length = 0)
  (kd1:(Dw 1 48 [.d (.int .i64 (nx.length))] (.d (.int .i64 ((t:Int)))) c p (p + 1)))
  (kd2:(Dw 1 48 [.d (.int .i64 30)] (.d (.int .i64 3)) c (p + 1) (p + 1 + 1))):(Dw 4 51 [autD al nx ac] (autD al nx ac) c p (p + 1 + 1)):=by
 intro R L n hq k hn hL
 refine eO sE (by simp [autD,idsA,idsL]) (by simp [autD,idsA,idsL]) ?_
 have hnl:=hs.1
 obtain ⟨N,T1,T2,T3,w⟩:=oY (.box [.d (.int .i64 al),.d (.ivs nx.length (aJ nx)),.d (.ivs ac.length (aK ac))]) (.box [.d (.int .i64 0),.sl 2 0 0 0,.sl 3 0 0 0]) al nx ac
 have kd3:=fun {R:Type} {n:Nat} {o1:O} {k:A → H → Option R} (hn:2 ≤ n) => qX (R:=R) (L:=L) (n:=n) (o1:=o1) (al:=al) (k:=k) w.h1 hs h1 (by omega) hn hL
 obtain ⟨hN,hT1,l1,h2,b2,h3,l3,t3,t4,t5,tr,tb,e3,wg⟩:=w
 clear e3
 clear hT1
 have hd7:((aB 7 nx ++ aF 0).drop t).head? = some (.sl (t + 7) 0 0 0):=by rw [oV ht,hr]
 obtain ⟨T7,h7⟩:∃ T,T3.set 3 (.box [.d (.int .i64 al),.sl 5 0 0 nx.length,.sl 6 0 0 ac.length]) = T:=⟨_,rfl⟩
 obtain ⟨l7,g7,k7⟩:=dV h7 (by omega)
 have hv:rd1 (rdO c (p + 1 + 1) :: T7) (.sl 5 0 0 nx.length) = some (.ivs nx.length (aJ nx)):=by
  refine zZ (cs:=aB 7 nx ++ aF 0) ?_ (KO fun i r hr => ?_) rfl
  ·rw [List.getElem?_cons_succ,k7 _ (by omega),t4]
  ·rw [show i + 7 = i + 6 + 1 by omega,List.getElem?_cons_succ,k7 _ (by omega)]
   exact tr i r hr
 have hw:rd1 (rdO c (p + 1 + 1) :: T7) (.sl 6 0 0 ac.length) = some (.ivs ac.length (aK ac)):=by
  refine sF ?_ rfl
  rw [List.getElem?_cons_succ,k7 _ (by omega),t5]
 obtain ⟨h2',st_out,st_keep,st_trim⟩:=vF (al:=al) hv hw (by omega) (by omega)
 unfold autD at st_out ⊢
 have hti:(t:Int) < nx.length:=by omega
 have ht0:(0:Int) ≤ t:=by omega
 have hn0:(0:Int) < nx.length:=by omega
 clear hv hw k7 tr h1 l7 wg
 obtain _ | n:=n; omega
 rw [nR]
 simp only [nO,Tryd.f51,SLM,simprocAttr]
 simp -implicitDefEqProofs (maxSteps:=2000000) (disch:=try exact Dz) only [↓DN,↓kAsg,↓kRet,UP,simprocAttr,LA,↓kd1,↓kd2,↓kd3,l1,h2,b2,h3,l3,t3,t4,t5,tb,hti,ht0,hn0,hd7,h7,g7,Int.toNat_natCast,d7,eD,dW,d9,↓st_out,↓st_keep,↓st_trim,List.append_assoc,List.cons_append,List.nil_append]
theorem aI1 {c:List UInt8} (hc:c.length ≤ 2000) (al:Int) (nx:List (List Int)) (ac:List Bool) (hs:bA nx) (h1:1 ≤ nx.length) (ha:ac.length ≤ 4294967290) (p:Int) (hp:0 ≤ p) (hp2:p ≤ 900000000) (t:Nat) (ht:t < nx.length) (j:Nat) (hj:j < (nx.getD t []).length)
  (kd1:(Dw 1 48 [.d (.int .i64 (nx.length))] (.d (.int .i64 ((t:Int)))) c p (p + 1)))
  (kd2:(Dw 1 48 [.d (.int .i64 30)] (.d (.int .i64 3)) c (p + 1) (p + 1 + 1)))
  (kd4:(Dw 1 48 [.d (.int .i64 (((nx.getD t []).length:Int)))] (.d (.int .i64 ((j:Int)))) c (p + 1 + 1) (p + 1 + 1 + 1))):∃ v:Int,(Dw 4 51 [autD al nx ac] (autD al (nx.set t ((nx.getD t []).set j v)) ac) c p (p + 1 + 1 + 1 + 1)):=by
 obtain ⟨v,_,kd5⟩:=KD hc [-1,nx.length,(nx.length:Int) - 1,0] (by simp) (by simp) (p + 1 + 1 + 1) (by omega) (by omega)
 simp only [ints,List.map_cons,List.map_nil,List.length_cons,List.length_nil,Nat.zero_add,Nat.reduceAdd] at kd5
 refine ⟨v,?_⟩
 intro R L n hq k hn hL
 refine eO sE (by simp [autD,idsA,idsL]) (by simp [autD,idsA,idsL]) ?_
 have hnl:=hs.1
 obtain ⟨N,T1,T2,T3,w⟩:=oY (.box [.d (.int .i64 al),.d (.ivs nx.length (aJ nx)),.d (.ivs ac.length (aK ac))]) (.box [.d (.int .i64 0),.sl 2 0 0 0,.sl 3 0 0 0]) al nx ac
 have kd3:=fun {R:Type} {n:Nat} {o1:O} {k:A → H → Option R} (hn:2 ≤ n) => qX (R:=R) (L:=L) (n:=n) (o1:=o1) (al:=al) (k:=k) w.h1 hs h1 (by omega) hn hL
 obtain ⟨hN,hT1,l1,h2,b2,h3,l3,t3,t4,t5,tr,tb,e3,wg⟩:=w
 clear e3
 clear hT1
 have hrow:nx[t]? = some (nx.getD t []):=by rw [List.getD_eq_getElem?_getD,List.getElem?_eq_getElem ht]; rfl
 have hrl:=sR hs ht
 generalize hrw:nx.getD t [] = row at *
 have hd7:((aB 7 nx ++ aF 0).drop t).head? = some (.sl (t + 7) 0 0 row.length):=by rw [oV ht,hrw]
 obtain ⟨T4,h4⟩:∃ T,T3 ++ [.arr [.int .i64 (-1),.int .i64 nx.length,.int .i64 ((nx.length:Int) - 1),.int .i64 0] 1 0] = T:=⟨_,rfl⟩
 obtain ⟨l4,g4,k4⟩:=nS h4
 rw [l3] at l4 g4 k4
 have g4D:T4.getD (N + 1 + 1 + 1) O.void = .arr [.int .i64 (-1),.int .i64 nx.length,.int .i64 ((nx.length:Int) - 1),.int .i64 0] 1 0:=by rw [List.getD_eq_getElem?_getD,g4]; rfl
 have t4r:T4[t + 6]? = some (.arr (ints row) 1 0):=by rw [k4 _ (by omega)]; exact tr _ _ hrow
 obtain ⟨T5,h5⟩:∃ T,T4.set (t + 6) (.arr (ints (row.set j v)) 1 0) = T:=⟨_,rfl⟩
 obtain ⟨l5,g5,k5⟩:=dV h5 (by omega)
 obtain ⟨T7,h7⟩:∃ T,T5.set 3 (.box [.d (.int .i64 al),.sl 5 0 0 nx.length,.sl 6 0 0 ac.length]) = T:=⟨_,rfl⟩
 obtain ⟨l7,g7,k7⟩:=dV h7 (by omega)
 have t3r:T3[t + 6]? = some (.arr (ints row) 1 0):=tr _ _ hrow
 have t5b:T5[N + 1 + 1]? = some (.box [.d (.int .i64 al),.sl 5 0 0 nx.length,.sl 6 0 0 ac.length]):=by rw [k5 _ (by omega),k4 _ (by omega),tb]
 have t53:T5[3]? = some (.box [.d (.int .i64 0),.sl 2 0 0 0,.sl 3 0 0 0]):=by rw [k5 _ (by omega),k4 _ (by omega),t3]
 have hset:bN (ints row) j [.int .i64 v] = ints (row.set j v):=by
  unfold bN
  exact aBr hj
 have st_sto:∀ {call:a9} {thaw:List Nat} {dst:Option Tmp} {x y:Operand},memD env call thaw dst (.store 3 x y) (rdO c (p + 1 + 1 + 1 + 1) :: T4) [.ptr (t + 7) 0 j,.d (.int .i64 v)] = some (.d .undef,rdO c (p + 1 + 1 + 1 + 1) :: T5,{ ids:=[t + 7],ro:=false,wr:=[t + 7] }):=by
  intro call thaw dst x y
  rw [PI (by kernel_rfl) (by kernel_rfl) rfl (h:=rdO c (p + 1 + 1 + 1 + 1) :: T4) (id:=t + 7) (cs:=ints row) (esz:=1) (by rw [show t + 7 = t + 6 + 1 by omega,List.getElem?_cons_succ]; exact t4r) (by simp [ints]; omega)]
  rw [show t + 7 = t + 6 + 1 by omega,List.set_cons_succ,hset,h5]
 have hre:∀ x y:D,aC 1099511627776 (.box [.d x,.d y] :: T4) [0,N + 1 + 1 + 1 + 1] [] = [0,N + 1 + 1 + 1 + 1]:=by
  intro x y
  rw [show (1099511627776:Nat) = 1099511627773 + 1 + 1 + 1 from rfl,sK]
  simp [idsL,idsA]
  rw [sK]
  simp [g4,List.getD_eq_getElem?_getD,zM]
 have hclash:∀ (ops:List Oper),sO [(1,10),(3,10),(4,10),(1,11),(3,11),(4,11),(11,12)] ops [{},{ ids:=[N + 2 + 1],ro:=true },{},{ ids:=[5],ro:=true },{ ids:=[5],ro:=true },{},{},{},{},{},{ ids:=[N + 1 + 1 + 1 + 1],ro:=false },{ ids:=[0,N + 1 + 1 + 1 + 1],ro:=false },{ ids:=[t + 7],ro:=true },{ ids:=[t + 7],ro:=false }] = true → iS ops [{},{ ids:=[N + 2 + 1],ro:=true },{},{ ids:=[5],ro:=true },{ ids:=[5],ro:=true },{},{},{},{},{},{ ids:=[N + 1 + 1 + 1 + 1],ro:=false },{ ids:=[0,N + 1 + 1 + 1 + 1],ro:=false },{ ids:=[t + 7],ro:=true },{ ids:=[t + 7],ro:=false }] = true:=by
  intro ops hm
  refine BL _ hm ?_
  intro q hq
  simp only [List.mem_cons,List.not_mem_nil,or_false] at hq
  rcases hq with rfl | rfl | rfl | rfl | rfl | rfl | rfl <;> simp [oT] <;> omega
 have hlen:(nx.set t (row.set j v)).length = nx.length:=by simp
 have hv:rd1 (rdO c (p + 1 + 1 + 1 + 1) :: T7) (.sl 5 0 0 nx.length) = some (.ivs (nx.set t (row.set j v)).length (aJ (nx.set t (row.set j v)))):=by
  refine zZ (cs:=aB 7 nx ++ aF 0) ?_ ?_ hlen.symm
  ·rw [List.getElem?_cons_succ,k7 _ (by omega),k5 _ (by omega),k4 _ (by omega),t4]
  ·rw [← F4 (b:=7) (rs:=nx) (k:=t) (r:=row.set j v) (by rw [hrw]; simp)]
   refine KO fun i r hr => ?_
   rw [show i + 7 = i + 6 + 1 by omega,List.getElem?_cons_succ]
   rw [List.getElem?_set] at hr
   by_cases e:t = i
   ·subst e
    rw [if_pos rfl,if_pos ht] at hr
    cases hr
    rw [k7 _ (by omega)]; exact g5
   ·rw [if_neg e] at hr
    have hil:i < nx.length:=(List.getElem?_eq_some_iff.1 hr).1
    rw [k7 _ (by omega),k5 _ (by omega),k4 _ (by omega)]
    exact tr i r hr
 have hw:rd1 (rdO c (p + 1 + 1 + 1 + 1) :: T7) (.sl 6 0 0 ac.length) = some (.ivs ac.length (aK ac)):=by
  refine sF ?_ rfl
  rw [List.getElem?_cons_succ,k7 _ (by omega),k5 _ (by omega),k4 _ (by omega),t5]
 obtain ⟨h2',st_out,st_keep,st_trim⟩:=vF (al:=al) hv hw (by omega) (by omega)
 unfold autD at st_out ⊢
 rw [hlen] at st_out ⊢
 have hti:(t:Int) < nx.length:=by omega
 have ht0:(0:Int) ≤ t:=by omega
 have hn0:(0:Int) < nx.length:=by omega
 have hji:(j:Int) < row.length:=by omega
 have hj0:(0:Int) ≤ j:=by omega
 have hr0:(0:Int) < row.length:=by omega
 clear hv hw k4 k5 k7 tr h1 l4 l7 wg hrow
 obtain _ | n:=n; omega
 rw [nR]
 simp only [nO,Tryd.f51,SLM,simprocAttr]
 simp -implicitDefEqProofs (maxSteps:=2000000) (disch:=first | assumption | (refine Shut.mk ?_; (show iS _ _ = true; with_unfolding_all exact hclash _ (by kernel_rfl))) | (refine Shut.mk ?_; kernel_rfl) | omega | (simp only [GT]; done) | (simp only [LN] <;> omega) | fail) only [↓DN,↓kAsg,↓kRet,UP,simprocAttr,LA,↓kd1,↓kd2,↓kd3,↓kd4,↓kd5,l1,h2,b2,h3,l3,t3,t4,t5,tb,h4,g4,g4D,t3r,t4r,hti,ht0,hn0,hji,hj0,hr0,hd7,hre,↓st_sto,t5b,t53,h7,g7,Int.toNat_natCast,d7,eD,dW,d9,↓st_out,↓st_keep,↓st_trim,Nat.sub_self,List.range'_zero,List.append_nil,List.append_assoc,List.cons_append,List.nil_append]
def QM (n:Nat) (ids:List Nat):Bool:=decide (ids = [4,n + 9])
theorem aKS {n:Nat} {ke2:Nat} (he2:ke2 = n + 9):QM n [4,ke2] = true:=by subst he2; simp [QM]
def EJ (n i:Nat):Option Nat:=if i = 0 then some 0 else if i = 4 then some 1 else if i = n + 9 then some 2 else none
theorem aFY {n:Nat}:EJ n 4 = some (1):=by unfold EJ; repeat (first | rfl | rw [if_pos rfl] | rw [if_neg (by omega)])
theorem aDE {n k:Nat} (h:k = n + 9):EJ n k = some (2):=by subst h; unfold EJ; repeat (first | rfl | rw [if_pos rfl] | rw [if_neg (by omega)])
theorem aSD {m:List Bool} {s:List A} {y1 y2 x0 x1:D} {o1:O} {k z:Nat} {cs:List D} {d:List (List Int)} (hl:d.length ≤ 4294967296):gc 1 m s (.box [.d y1,.d y2] :: o1 :: .arr [] 0 0 :: .arr [] 0 0 :: .box [.d x0,.sl 2 0 0 0,.sl 3 0 0 0] :: .vec (aB 7 d ++ aF 0) 1 0 :: .arr cs 1 0 :: (aH d ++ [.arr [] 0 0,.arr [] 0 0,.box [.d x1,.sl 5 0 0 k,.sl 6 0 0 z]])) = match box (tidy m s) with
  | .mk s1 => if QM d.length (idsL s1) = true ∧ z0As s1 = true then (aG (EJ d.length) s1,.box [.d y1,.d y2] :: .box [.d x0,.sl 3 0 0 0,.sl 4 0 0 0] :: .box [.d x1,.sl 5 0 0 k,.sl 6 0 0 z] :: .arr [] 0 0 :: .arr [] 0 0 :: .vec (aB 7 d ++ aF 0) 1 0 :: .arr cs 1 0 :: aH d) else gcO 1 m s (.box [.d y1,.d y2] :: o1 :: .arr [] 0 0 :: .arr [] 0 0 :: .box [.d x0,.sl 2 0 0 0,.sl 3 0 0 0] :: .vec (aB 7 d ++ aF 0) 1 0 :: .arr cs 1 0 :: (aH d ++ [.arr [] 0 0,.arr [] 0 0,.box [.d x1,.sl 5 0 0 k,.sl 6 0 0 z]]))
  | .no => ([],[]):=by
 simp only [box]
 split
 ·rename_i hc
  obtain ⟨hb,hz⟩:=hc
  have hids:idsL (tidy m s) = [4,d.length + 9]:=by simpa [QM] using hb
  obtain ⟨h,hh⟩:∃ h:H,O.box [.d y1,.d y2] :: o1 :: .arr [] 0 0 :: .arr [] 0 0 :: .box [.d x0,.sl 2 0 0 0,.sl 3 0 0 0] :: .vec (aB 7 d ++ aF 0) 1 0 :: .arr cs 1 0 :: (aH d ++ [.arr [] 0 0,.arr [] 0 0,.box [.d x1,.sl 5 0 0 k,.sl 6 0 0 z]]) = h:=⟨_,rfl⟩
  conv => lhs; rw [hh]
  have g0:h[0]? = some (.box [.d y1,.d y2]):=by rw [← hh]; rfl
  have g2:h[2]? = some (.arr [] 0 0):=by rw [← hh]; rfl
  have g3:h[3]? = some (.arr [] 0 0):=by rw [← hh]; rfl
  have g4:h[4]? = some (.box [.d x0,.sl 2 0 0 0,.sl 3 0 0 0]):=by rw [← hh]; rfl
  have g5:h[5]? = some (.vec (aB 7 d ++ aF 0) 1 0):=by rw [← hh]; rfl
  have g6:h[6]? = some (.arr cs 1 0):=by rw [← hh]; rfl
  have hD:h.drop 7 = aH d ++ [.arr [] 0 0,.arr [] 0 0,.box [.d x1,.sl 5 0 0 k,.sl 6 0 0 z]]:=by rw [← hh]; rfl
  have gr:=mI 7 hD
  have ge2:h[d.length + 9]? = some (.box [.d x1,.sl 5 0 0 k,.sl 6 0 0 z]):=zX 7 2 hD rfl (by omega)
  have k0:kids h (0) = []:=by simp [kids,g0,idsL,idsA]
  have k4:kids h (4) = [2,3]:=by simp [kids,g4,idsL,idsA]
  have ke2:kids h (d.length + 9) = [5,6]:=by simp [kids,ge2,idsL,idsA]
  have k2:kids h (2) = []:=bZ g2
  have k3:kids h (3) = []:=bZ g3
  have k5:kids h (5) = List.range' 7 d.length:=by simp [kids,g5,bW,c9,eM,idsL,idsA]
  have leaf:=nE gr
  have hr:aC (aE + 1) h [0,4,d.length + 9] [] = [0,4,d.length + 9,2,3,5] ++ ([6] ++ (List.range' 7 d.length ++ [])):=kP (by simp [k0,k4,ke2,k2,k3,k5]) (by intro q hq; simp only [List.length_cons,List.length_nil] at hq; have:q = 0 ∨ q = 1 ∨ q = 2 ∨ q = 3 ∨ q = 4 ∨ q = 5:=(by omega); rcases this with rfl | rfl | rfl | rfl | rfl | rfl <;> simp [k0,k4,ke2,k2,k3,k5]) leaf (by intro i hi; simp at hi; subst hi; exact ⟨_,_,_,by assumption⟩) (by intro i hi; simp at hi; rcases hi with rfl | rfl | rfl | rfl | rfl | rfl <;> exact ⟨_,by assumption,by simp⟩) (by simp <;> omega) (by intro i hi; simp at hi; omega) (by simp only [aE,List.length_cons,List.length_nil]; omega)
  generalize hord:[0,4,d.length + 9,2,3,5] ++ ([6] ++ (List.range' 7 d.length ++ [])) = ord at hr
  have hA:ord = ([0,4,d.length + 9,2,3,5] ++ [6]) ++ (List.range' 7 d.length ++ []):=by rw [← hord,List.append_assoc]
  have pk:∀ i j,ord[j]? = some i → aI ord i = some j:=fun i j h1 => fS (by rw [← hr]; exact cY (aE + 1) h _ [] (by simp)) h1
  have p0:=pk (0) 0 (by rw [← hord]; rfl)
  have p4:=pk (4) 1 (by rw [← hord]; rfl)
  have pe2:=pk (d.length + 9) 2 (by rw [← hord]; rfl)
  have p2:=pk (2) 3 (by rw [← hord]; rfl)
  have p3:=pk (3) 4 (by rw [← hord]; rfl)
  have p5:=pk (5) 5 (by rw [← hord]; rfl)
  have p6:=pk (6) 6 (by rw [← hord]; rfl)
  have pr:=nG (C:=7) pk hA rfl
  obtain ⟨K,hK⟩:∃ K:H,O.box [.d y1,.d y2] :: .box [.d x0,.sl 3 0 0 0,.sl 4 0 0 0] :: .box [.d x1,.sl 5 0 0 k,.sl 6 0 0 z] :: .arr [] 0 0 :: .arr [] 0 0 :: .vec (aB 7 d ++ aF 0) 1 0 :: .arr cs 1 0 :: aH d = K:=⟨_,rfl⟩
  have hni:∀ f,aG f (aF 0) = aF 0:=fun _ => rfl
  have hpk:pack h ord = K:=by
   have hrf:aG (aI ord) (aB 7 d) = aB 7 d:=jD (c:=0) pr
   rw [pB hA gr,← hK]
   simp only [List.cons_append,List.nil_append,List.map_cons,List.map_nil,List.getD_eq_getElem?_getD,g0,g4,ge2,g2,g3,g5,g6,Option.getD_some,mapO,aG,mapA,eX,hrf,hni,p0,p4,pe2,p2,p3,p5,p6,List.append_nil]
  have hKD:K.drop 7 = aH d ++ []:=by rw [← hK]; exact (List.append_nil _).symm
  have hgr:=r6 hKD
  have hcm:eA 0 K = .box [.d y1,.d y2] :: .box [.d x0,.sl 3 0 0 0,.sl 4 0 0 0] :: .box [.d x1,.sl 5 0 0 k,.sl 6 0 0 z] :: .arr [] 0 0 :: .arr [] 0 0 :: .vec (aB 7 d ++ aF 0) 1 0 :: .arr cs 1 0 :: aH d:=by
   have hrf:aS 0 K (aB 7 d) = aB 7 d:=j3 hgr
   have hnc:∀ h:H,aS 0 h (aF 0) = aF 0:=fun _ => rfl
   have q3:bB K 3 = some 0:=by rw [← hK]; rfl
   have q4:bB K 4 = some 0:=by rw [← hK]; rfl
   have q5:bB K 5 = some 0:=by rw [← hK]; rfl
   have q6:bB K 6 = some 0:=by rw [← hK]; rfl
   unfold eA
   rw [j7]
   conv => lhs; arg 2; rw [← hK]
   simp only [List.map_cons,List.map_append,List.map_nil,dF,aS,bT,kE,iT,hrf,hnc,lA,q3,q4,q5,q6,Nat.not_lt_zero,if_false,if_true]
  subst hK
  rw [aBC hh hids hr,hpk,hcm]
  have hmp:aG (aI ord) (tidy m s) = aG (EJ d.length) (tidy m s):=by
   apply o7
   rw [hids]
   intro i hi
   simp only [List.mem_cons,List.not_mem_nil,or_false] at hi
   rcases hi with rfl | rfl
   ·rw [p4,aFY]
   ·rw [pe2,aDE rfl]
  have hz2:aS 0 (O.box [.d y1,.d y2] :: .box [.d x0,.sl 3 0 0 0,.sl 4 0 0 0] :: .box [.d x1,.sl 5 0 0 k,.sl 6 0 0 z] :: .arr [] 0 0 :: .arr [] 0 0 :: .vec (aB 7 d ++ aF 0) 1 0 :: .arr cs 1 0 :: aH d) (aG (aI ord) (tidy m s)) = aG (aI ord) (tidy m s):=by
   exact oU (JM (by simp [z0O,z0As,z0A,D8,zO,zP,KE])) _ (A6 _ hz)
  rw [hz2,hmp]
 ·rfl
theorem aPG {m:List Bool} {s:List A} {y1 y2 x0 x1:D} {k z:Nat} {r:List Int} {cs:List D} {d:List (List Int)} {p:H} (hl:d.length ≤ 4294967296):gc 1 m s (.box [.d y1,.d y2] :: .box [.d x0,.sl 3 0 0 0,.sl 4 0 0 0] :: .box [.d x1,.sl 5 1 0 k,.sl 6 1 0 z] :: .arr [] 0 0 :: .arr [] 0 0 :: .vec (aB 7 d ++ [.sl (d.length + 7) 1 0 r.length]) 1 1 :: .arr cs 1 1 :: (aH d ++ .arr (ints r) 1 1 :: p)) = match box (tidy m s) with
  | .mk s1 => if idsL s1 = [1,2] then (aS 0 (.box [.d y1,.d y2] :: .box [.d x0,.sl 3 0 0 0,.sl 4 0 0 0] :: .box [.d x1,.sl 5 1 0 k,.sl 6 1 0 z] :: .arr [] 0 0 :: .arr [] 0 0 :: .vec (aB 7 d ++ [.sl (d.length + 7) 1 0 r.length]) 1 1 :: .arr cs 1 1 :: (aH d ++ [.arr (ints r) 1 1])) (s1),.box [.d y1,.d y2] :: .box [.d x0,.sl 3 0 0 0,.sl 4 0 0 0] :: .box [.d x1,.sl 5 0 0 k,.sl 6 0 0 z] :: .arr [] 0 0 :: .arr [] 0 0 :: .vec (aB 7 d ++ [.sl (d.length + 7) 0 0 r.length]) 1 0 :: .arr cs 1 0 :: (aH d ++ [.arr (ints r) 1 0])) else gcO 1 m s (.box [.d y1,.d y2] :: .box [.d x0,.sl 3 0 0 0,.sl 4 0 0 0] :: .box [.d x1,.sl 5 1 0 k,.sl 6 1 0 z] :: .arr [] 0 0 :: .arr [] 0 0 :: .vec (aB 7 d ++ [.sl (d.length + 7) 1 0 r.length]) 1 1 :: .arr cs 1 1 :: (aH d ++ .arr (ints r) 1 1 :: p))
  | .no => ([],[]):=by
 simp only [box]
 split
 ·rename_i hc
  have hb:=hc
  have hids:idsL (tidy m s) = [1,2]:=by exact hb
  obtain ⟨h,hh⟩:∃ h:H,O.box [.d y1,.d y2] :: .box [.d x0,.sl 3 0 0 0,.sl 4 0 0 0] :: .box [.d x1,.sl 5 1 0 k,.sl 6 1 0 z] :: .arr [] 0 0 :: .arr [] 0 0 :: .vec (aB 7 d ++ [.sl (d.length + 7) 1 0 r.length]) 1 1 :: .arr cs 1 1 :: (aH d ++ .arr (ints r) 1 1 :: p) = h:=⟨_,rfl⟩
  conv => lhs; rw [hh]
  have g0:h[0]? = some (.box [.d y1,.d y2]):=by rw [← hh]; rfl
  have g1:h[1]? = some (.box [.d x0,.sl 3 0 0 0,.sl 4 0 0 0]):=by rw [← hh]; rfl
  have g2:h[2]? = some (.box [.d x1,.sl 5 1 0 k,.sl 6 1 0 z]):=by rw [← hh]; rfl
  have g3:h[3]? = some (.arr [] 0 0):=by rw [← hh]; rfl
  have g4:h[4]? = some (.arr [] 0 0):=by rw [← hh]; rfl
  have g5:h[5]? = some (.vec (aB 7 d ++ [.sl (d.length + 7) 1 0 r.length]) 1 1):=by rw [← hh]; rfl
  have g6:h[6]? = some (.arr cs 1 1):=by rw [← hh]; rfl
  have hD:h.drop 7 = aH d ++ (.arr (ints r) 1 1 :: p):=by rw [← hh]; rfl
  have gr:=mI 7 hD
  have ge0:h[d.length + 7]? = some (.arr (ints r) 1 1):=zX 7 0 hD rfl (by omega)
  have k0:kids h (0) = []:=by simp [kids,g0,idsL,idsA]
  have k1:kids h (1) = [3,4]:=by simp [kids,g1,idsL,idsA]
  have k2:kids h (2) = [5,6]:=by simp [kids,g2,idsL,idsA]
  have k3:kids h (3) = []:=bZ g3
  have k4:kids h (4) = []:=bZ g4
  have k5:kids h (5) = List.range' 7 d.length ++ [d.length + 7]:=by simp [kids,g5,bW,c9,eM,idsL,idsA]
  have leaf:=nE gr
  have hr:aC (aE + 1) h [0,1,2] [] = [0,1,2,3,4,5] ++ ([6] ++ (List.range' 7 d.length ++ [d.length + 7])):=kP (by simp [k0,k1,k2,k3,k4,k5]) (by intro q hq; simp only [List.length_cons,List.length_nil] at hq; have:q = 0 ∨ q = 1 ∨ q = 2 ∨ q = 3 ∨ q = 4 ∨ q = 5:=(by omega); rcases this with rfl | rfl | rfl | rfl | rfl | rfl <;> simp [k0,k1,k2,k3,k4,k5]) leaf (by intro i hi; simp at hi; rcases hi with rfl | rfl <;> exact ⟨_,_,_,by assumption⟩) (by intro i hi; simp at hi; rcases hi with rfl | rfl | rfl | rfl | rfl | rfl <;> exact ⟨_,by assumption,by simp⟩) (by simp <;> omega) (by intro i hi; simp at hi; omega) (by simp only [aE,List.length_cons,List.length_nil]; omega)
  generalize hord:[0,1,2,3,4,5] ++ ([6] ++ (List.range' 7 d.length ++ [d.length + 7])) = ord at hr
  have hA:ord = ([0,1,2,3,4,5] ++ [6]) ++ (List.range' 7 d.length ++ [d.length + 7]):=by rw [← hord,List.append_assoc]
  have pk:∀ i j,ord[j]? = some i → aI ord i = some j:=fun i j h1 => fS (by rw [← hr]; exact cY (aE + 1) h _ [] (by simp)) h1
  have p0:=pk (0) 0 (by rw [← hord]; rfl)
  have p1:=pk (1) 1 (by rw [← hord]; rfl)
  have p2:=pk (2) 2 (by rw [← hord]; rfl)
  have p3:=pk (3) 3 (by rw [← hord]; rfl)
  have p4:=pk (4) 4 (by rw [← hord]; rfl)
  have p5:=pk (5) 5 (by rw [← hord]; rfl)
  have p6:=pk (6) 6 (by rw [← hord]; rfl)
  have pr:=nG (C:=7) pk hA rfl
  have pe0:=XO (C:=7) pk hA rfl 0 (i:=d.length + 7) (j:=d.length + 7) rfl (by omega)
  obtain ⟨K,hK⟩:∃ K:H,O.box [.d y1,.d y2] :: .box [.d x0,.sl 3 0 0 0,.sl 4 0 0 0] :: .box [.d x1,.sl 5 1 0 k,.sl 6 1 0 z] :: .arr [] 0 0 :: .arr [] 0 0 :: .vec (aB 7 d ++ [.sl (d.length + 7) 1 0 r.length]) 1 1 :: .arr cs 1 1 :: (aH d ++ [.arr (ints r) 1 1]) = K:=⟨_,rfl⟩
  have hni:∀ f,aG f (aF 0) = aF 0:=fun _ => rfl
  have hpk:pack h ord = K:=by
   have hrf:aG (aI ord) (aB 7 d) = aB 7 d:=jD (c:=0) pr
   rw [pB hA gr,← hK]
   simp only [List.cons_append,List.nil_append,List.map_cons,List.map_nil,List.getD_eq_getElem?_getD,g0,g1,g2,g3,g4,g5,g6,ge0,Option.getD_some,mapO,aG,mapA,eX,hrf,hni,p0,p1,p2,p3,p4,p5,p6,pe0,List.append_nil]
  have hKD:K.drop 7 = aH d ++ [.arr (ints r) 1 1]:=by rw [← hK]; rfl
  have hgr:=r6 hKD
  have hge0:bB K (d.length + 7) = some 1:=by simp only [bB,zX 7 0 hKD rfl (j:=d.length + 7) (by omega)]
  have hcm:eA 0 K = .box [.d y1,.d y2] :: .box [.d x0,.sl 3 0 0 0,.sl 4 0 0 0] :: .box [.d x1,.sl 5 0 0 k,.sl 6 0 0 z] :: .arr [] 0 0 :: .arr [] 0 0 :: .vec (aB 7 d ++ [.sl (d.length + 7) 0 0 r.length]) 1 0 :: .arr cs 1 0 :: (aH d ++ [.arr (ints r) 1 0]):=by
   have hrf:aS 0 K (aB 7 d) = aB 7 d:=j3 hgr
   have hnc:∀ h:H,aS 0 h (aF 0) = aF 0:=fun _ => rfl
   have q3:bB K 3 = some 0:=by rw [← hK]; rfl
   have q4:bB K 4 = some 0:=by rw [← hK]; rfl
   have q5:bB K 5 = some 1:=by rw [← hK]; rfl
   have q6:bB K 6 = some 1:=by rw [← hK]; rfl
   unfold eA
   rw [j7]
   conv => lhs; arg 2; rw [← hK]
   simp only [List.map_cons,List.map_append,List.map_nil,dF,aS,bT,kE,iT,hrf,hnc,lA,q3,q4,q5,q6,hge0,Nat.not_lt_zero,if_false,if_true]
  subst hK
  rw [aBC hh hids hr,hpk,hcm]
  have hmp:aG (aI ord) (tidy m s) = tidy m s:=by
   apply j4
   rw [hids]
   intro i hi
   simp only [List.mem_cons,List.not_mem_nil,or_false] at hi
   rcases hi with rfl | rfl
   ·exact p1
   ·exact p2
  rw [hmp]
 ·rfl
theorem aR1 {m:List Bool} {s:List A} {y1 y2 x0 x1:D} {k z:Nat} {r:List Int} {cs:List D} {d:List (List Int)} {p:H} (hl:d.length ≤ 4294967296):gc 1 m s (.box [.d y1,.d y2] :: .box [.d x0,.sl 3 0 0 0,.sl 4 0 0 0] :: .box [.d x1,.sl 5 1 0 k,.sl 6 1 0 z] :: .arr [] 0 0 :: .arr [] 0 0 :: .vec (aB 7 d ++ [.sl (d.length + 7) 1 0 r.length]) 1 1 :: .arr cs 1 1 :: (aH d ++ .arr (ints r) 1 1 :: p)) = match box (tidy m s) with
  | .mk s1 => if idsL s1 = [1,2] then (s1,.box [.d y1,.d y2] :: .box [.d x0,.sl 3 0 0 0,.sl 4 0 0 0] :: .box [.d x1,.sl 5 0 0 k,.sl 6 0 0 z] :: .arr [] 0 0 :: .arr [] 0 0 :: .vec (aB 7 (d ++ [r]) ++ aF 0) 1 0 :: .arr cs 1 0 :: aH (d ++ [r])) else gcO 1 m s (.box [.d y1,.d y2] :: .box [.d x0,.sl 3 0 0 0,.sl 4 0 0 0] :: .box [.d x1,.sl 5 1 0 k,.sl 6 1 0 z] :: .arr [] 0 0 :: .arr [] 0 0 :: .vec (aB 7 d ++ [.sl (d.length + 7) 1 0 r.length]) 1 1 :: .arr cs 1 1 :: (aH d ++ .arr (ints r) 1 1 :: p))
  | .no => ([],[]):=by
 have hn:aF 0 = []:=rfl
 rw [aPG hl,← PF,ID,hn,List.append_nil,Nat.add_comm 7]
 have hc:=sU (nf:=0) (h:=.box [.d y1,.d y2] :: .box [.d x0,.sl 3 0 0 0,.sl 4 0 0 0] :: .box [.d x1,.sl 5 1 0 k,.sl 6 1 0 z] :: .arr [] 0 0 :: .arr [] 0 0 :: .vec (aB 7 d ++ [.sl (d.length + 7) 1 0 r.length]) 1 1 :: .arr cs 1 1 :: (aH d ++ [.arr (ints r) 1 1])) (tidy m s)
 simp only [box]
 split
 ·rename_i hid
  rw [hc (by rw [hid]; intro i hi; simp at hi; rcases hi with rfl | rfl <;> rfl)]
 ·rfl
theorem aGY {α:Type} {d:List α} {x:α} {j:Nat}:d ++ [x] ++ List.replicate j x = d ++ List.replicate (j + 1) x:=by
 rw [List.append_assoc,List.replicate_succ]
 rfl
theorem aEk {R:Type} {L n:Nat} {y1 y2 x0:D} {al n0:Int} (hn0:0 < n0) {row:List Int} (hrl:row.length ≤ 4294967290) {k:Exit → List A → H → Option R}:∀ (j m:Nat) (d:List (List Int)) (ac:List Bool) (len len2:Nat) (hj:d.length + j = 13 ∨ j = 0 ∧ 13 ≤ d.length) (hm:j < m) (hd:d[0]? = some row) (hlen:len = d.length) (hlen2:len2 = ac.length) (ha:ac.length + j ≤ 4294967290) (hdl:d.length ≤ 4294967290),
  aO env (aA env L n) L 1 [0,0,0,0,0,0,0,0,0,0,0,0,0,0,0,0,0,0,0,0,0,0,0,0,0,0,0,0,0,0,0,0,0,0,0,0,0,0,0,0,0,0,0,0,0,0,0,0,0,0,0,0,0,0,0,0,0,0,0,0,0,0,0,0,0,0,0,0,0,0,0,0,0,0,0,0,0,0,0,0,0,0,0,1002,0,0,0,0,0,0,0,0,0,0,0,0,0,0,0,0,0,0,0,0,0,1002] (Z4 (U2 (U1 (Z32 (Z32 (Z32 (Z8 (Z2 (Z1 ([])))))))))) (vN 0) (U4 (Z2 (Z1 (U32 (U32 (U32 (U8 (U2 (U1 ([])))))))))) m (Y4 (.ptr 1 0 0 :: .ptr 2 0 0 :: .d (.int .i64 n0) :: Y32 (Y32 (Y32 (Y8 (Y2 (Y1 ([])))))))) (.box [.d y1,.d y2] :: .box [.d x0,.sl 3 0 0 0,.sl 4 0 0 0] :: .box [.d (.int .i64 al),.sl 5 0 0 len,.sl 6 0 0 len2] :: .arr [] 0 0 :: .arr [] 0 0 :: .vec (aB 7 d ++ aF 0) 1 0 :: .arr (aK ac) 1 0 :: aH d) k
  = k (.exit 1) (Y4 (.ptr 1 0 0 :: .ptr 2 0 0 :: .d (.int .i64 n0) :: Y32 (Y32 (Y32 (Y8 (Y2 (Y1 ([])))))))) (.box [.d y1,.d y2] :: .box [.d x0,.sl 3 0 0 0,.sl 4 0 0 0] :: .box [.d (.int .i64 al),.sl 5 0 0 (d.length + j),.sl 6 0 0 (ac.length + j)] :: .arr [] 0 0 :: .arr [] 0 0 :: .vec (aB 7 (d ++ List.replicate j row) ++ aF 0) 1 0 :: .arr (aK (ac ++ List.replicate j false)) 1 0 :: aH (d ++ List.replicate j row)):=by
 intro j
 induction j with
 | zero =>
  intro m d ac len len2 hj hm hd hlen hlen2 ha hdl
  obtain _ | m:=m; omega
  have hc:¬ ((d.length:Int) ≤ 12):=by omega
  have hdl2:d.length ≤ 4294967296:=by omega
  subst hlen
  subst hlen2
  simp only [List.replicate_zero,List.append_nil,Nat.add_zero]
  rw [JV]
  simp only [GO,Tryd.f51,SLM,simprocAttr]
  simp -implicitDefEqProofs (maxSteps:=2000000) (disch:=try exact Dz) only [↓DN,↓kAsg,↓kRet,UP,simprocAttr,LA,hn0,hc,↓IS,z0As,z0A,eq_self,vA,vH]
 | succ j ih =>
  intro m d ac len len2 hj hm hd hlen hlen2 ha hdl
  obtain _ | m:=m; omega
  have hc:(d.length:Int) ≤ 12:=by omega
  subst hlen
  subst hlen2
  have hpos:0 < d.length:=(List.getElem?_eq_some_iff.1 hd).1
  have ih':=ih m (d ++ [row]) (ac ++ [false]) (d.length + 1) (ac.length + 1) (by simp; omega) (by omega) (by rw [List.getElem?_append_left hpos]; exact hd) (by simp) (by simp) (by simp; omega) (by simp; omega)
  rw [aGY,aGY] at ih'
  simp only [List.length_append,List.length_cons,List.length_nil,Nat.zero_add] at ih'
  rw [show d.length + 1 + j = d.length + (j + 1) by omega,show ac.length + 1 + j = ac.length + (j + 1) by omega] at ih'
  clear ih
  have hh0:(aB 7 d ++ aF 0).head? = some (.sl 7 0 0 row.length):=by
   cases d with
   | nil => simp at hd
   | cons r d => simp at hd; subst hd; rfl
  have hlv:(aB 7 d ++ aF 0).length = d.length:=by rw [List.length_append,j6]; rfl
  have ht:(aB 7 d ++ aF 0).take d.length = aB 7 d:=H2 rfl
  obtain ⟨T0,e0⟩:∃ T:H,T = (.box [.d x0,.sl 3 0 0 0,.sl 4 0 0 0] :: .box [.d (.int .i64 al),.sl 5 0 0 d.length,.sl 6 0 0 ac.length] :: .arr [] 0 0 :: .arr [] 0 0 :: .vec (aB 7 d ++ aF 0) 1 0 :: .arr (aK ac) 1 0 :: aH d):=⟨_,rfl⟩
  have l0:T0.length = d.length + 6:=by rw [e0]; simp [dQ]
  have t01:T0[1]? = some (.box [.d (.int .i64 al),.sl 5 0 0 d.length,.sl 6 0 0 ac.length]):=by rw [e0]; rfl
  have t04:T0[4]? = some (.vec (aB 7 d ++ aF 0) 1 0):=by rw [e0]; rfl
  have t05:T0[5]? = some (.arr (aK ac) 1 0):=by rw [e0]; rfl
  have t0r:∀ (i:Nat) (r:List Int),d[i]? = some r → T0[i + 6]? = some (.arr (ints r) 1 0):=by
   intro i r hr
   rw [e0]
   simp only [List.getElem?_cons_succ]
   have:=I5 (p:=[]) hr
   rwa [List.append_nil] at this
  have w0:wgt T0 ≤ d.length + 4:=by
   rw [e0]
   simp only [p9,LO,gZ,idsL,idsA,bW,c9,eM,List.length_append,List.length_range',List.length_cons,List.length_nil,List.append_nil]
   omega
  obtain ⟨T1,h1⟩:∃ T,T0 ++ [.arr [] 1 0] = T:=⟨_,rfl⟩
  obtain ⟨l1,g1,k1⟩:=nS h1
  rw [l0] at l1 g1 k1
  have w1:wgt T1 = wgt T0:=by rw [← h1,EM]; simp [gZ]
  obtain ⟨T2,h2⟩:∃ T,T1.set (d.length + 6) (.arr (ints row) 1 1) = T:=⟨_,rfl⟩
  obtain ⟨l2,g2,k2⟩:=dV h2 (by omega)
  have w2:wgt T2 ≤ wgt T1:=by rw [← h2]; have:=nV (h:=T1) (i:=d.length + 6) (o:=.arr (ints row) 1 1); simpa [gZ] using this
  obtain ⟨T3,h3⟩:∃ T,T2 ++ [.vec [.sl (d.length + 7) 1 0 row.length] 1 0] = T:=⟨_,rfl⟩
  obtain ⟨l3,g3,k3⟩:=nS h3
  rw [l2,l1] at l3 g3 k3
  have w3:wgt T3 = wgt T2 + 1:=by rw [← h3,EM]; simp [gZ,idsL,idsA]
  obtain ⟨T4,h4⟩:∃ T,T3.set 4 (.vec (aB 7 d ++ [.sl (d.length + 7) 1 0 row.length]) 1 1) = T:=⟨_,rfl⟩
  obtain ⟨l4,g4,k4⟩:=dV h4 (by omega)
  have w4:wgt T4 ≤ wgt T3 + d.length + 1:=by
   rw [← h4]
   have:=nV (h:=T3) (i:=4) (o:=.vec (aB 7 d ++ [.sl (d.length + 7) 1 0 row.length]) 1 1)
   simp only [gZ,bW,c9,idsL,idsA,List.length_append,List.length_range',List.length_cons,List.length_nil] at this
   omega
  obtain ⟨T5,h5⟩:∃ T,T4.set 1 (.box [.d (.int .i64 al),.sl 5 1 0 (d.length + 1),.sl 6 0 0 ac.length]) = T:=⟨_,rfl⟩
  obtain ⟨l5,g5,k5⟩:=dV h5 (by omega)
  obtain ⟨T6,h6⟩:∃ T,T5 ++ [.arr [.bool false] 1 0] = T:=⟨_,rfl⟩
  obtain ⟨l6,g6,k6⟩:=nS h6
  rw [l5,l4,l3] at l6 g6 k6
  obtain ⟨T7,h7⟩:∃ T,T6.set 5 (.arr (aK (ac ++ [false])) 1 1) = T:=⟨_,rfl⟩
  obtain ⟨l7,g7,k7⟩:=dV h7 (by omega)
  obtain ⟨T8,h8⟩:∃ T,T7.set 1 (.box [.d (.int .i64 al),.sl 5 1 0 (d.length + 1),.sl 6 1 0 (ac.length + 1)]) = T:=⟨_,rfl⟩
  have e8:T8 = .box [.d x0,.sl 3 0 0 0,.sl 4 0 0 0] :: .box [.d (.int .i64 al),.sl 5 1 0 (d.length + 1),.sl 6 1 0 (ac.length + 1)] :: .arr [] 0 0 :: .arr [] 0 0 :: .vec (aB 7 d ++ [.sl (d.length + 7) 1 0 row.length]) 1 1 :: .arr (aK (ac ++ [false])) 1 1 :: (aH d ++ .arr (ints row) 1 1 :: .vec [.sl (d.length + 7) 1 0 row.length] 1 0 :: [.arr [.bool false] 1 0]):=by
   rw [← h8,← h7,← h6,← h5,← h4,← h3,← h2,← h1,e0]
   simp only [List.cons_append,List.append_assoc,List.nil_append,List.set_cons_succ,List.set_cons_zero]
   rw [yC rfl]
   simp only [List.cons_append,List.append_assoc,List.nil_append]
  have st_gc:∀ {mk:List Bool} {s:List A},gc 1 mk s (.box [.d y1,.d y2] :: T8) = match box (tidy mk s) with
    | .mk s1 => if idsL s1 = [1,2] then (s1,.box [.d y1,.d y2] :: .box [.d x0,.sl 3 0 0 0,.sl 4 0 0 0] :: .box [.d (.int .i64 al),.sl 5 0 0 (d.length + 1),.sl 6 0 0 (ac.length + 1)] :: .arr [] 0 0 :: .arr [] 0 0 :: .vec (aB 7 (d ++ [row]) ++ aF 0) 1 0 :: .arr (aK (ac ++ [false])) 1 0 :: aH (d ++ [row])) else gcO 1 mk s (.box [.d y1,.d y2] :: T8)
    | .no => ([],[]):=by
   intro mk s
   rw [e8]
   exact aR1 (by omega)
  have st_app1:∀ {call:a9} {thaw:List Nat} {dst:Option Tmp} {args:Array Operand},memD env call thaw dst (.call ⟨.builtin .append,args,#[32,32]⟩) (.box [.d y1,.d y2] :: T1) [.sl (d.length + 6 + 1) 0 0 0,.sl 7 0 0 row.length] = some (.sl (d.length + 7) 1 0 row.length,.box [.d y1,.d y2] :: T2,{ ids:=[d.length + 7,7],ro:=false,wr:=[d.length + 7] }):=by
   intro call thaw dst args
   have h7r:T1[6]? = some (.arr (ints row) 1 0):=by rw [k1 _ (by omega)]; exact t0r 0 row hd
   rw [MZ (e:=3) (e0:=1) (n2:=row.length) (len:=0) (cs:=[]) (src:=ints row) rfl d9 (by kernel_rfl) (by rw [List.getElem?_cons_succ]; exact g1) (.inr rfl) (by rw [List.getElem?_cons_succ]; exact h7r) (by simp [ints]) (by simp) (by unfold b5; omega) (by omega)]
   rw [List.set_cons_succ,← h2]
   simp
  have st_vec:∀ {call:a9} {thaw:List Nat} {dst:Option Tmp} {x:Operand},Shut (ER thaw dst = true) → memD env call thaw dst (.buildSlice 23 1 #[(0,x)]) (.box [.d y1,.d y2] :: T2) [.sl (d.length + 7) 1 0 row.length] = some (.sl (d.length + 8) 0 0 1,.box [.d y1,.d y2] :: T3,{ ids:=[d.length + 7,d.length + 8],ro:=false }):=by
   intro call thaw dst x hk
   rw [aFT (e:=32) (cs:=ints row) (es:=1) hk.it rfl (by kernel_rfl) eD (by kernel_rfl) (by rw [show d.length + 7 = d.length + 6 + 1 by omega,List.getElem?_cons_succ]; exact g2)]
   rw [List.cons_append,h3,List.length_cons,l2,l1]
  have ok_row:∀ (T:H) (i:Nat) (r:List Int) (g:Nat),T[i + 6]? = some (.arr (ints r) 1 g) → Okay (.box [.d y1,.d y2] :: T) (i + 7):=by
   intro T i r g hr
   have hg:(O.box [.d y1,.d y2] :: T)[i + 7]? = some (.arr (ints r) 1 g):=by rw [show i + 7 = i + 6 + 1 by omega,List.getElem?_cons_succ]; exact hr
   exact .mk _ _ hg (by simp) (by rw [bZ hg]; simp)
  have t3r:∀ (i:Nat) (r:List Int),d[i]? = some r → T3[i + 6]? = some (.arr (ints r) 1 0):=by
   intro i r hr
   have hi:i < d.length:=(List.getElem?_eq_some_iff.1 hr).1
   rw [k3 _ (by omega),k2 _ (by omega),k1 _ (by omega)]
   exact t0r i r hr
  have t3e:T3[d.length + 6]? = some (.arr (ints row) 1 1):=by rw [k3 _ (by omega)]; exact g2
  have t34:T3[4]? = some (.vec (aB 7 d ++ aF 0) 1 0):=by rw [k3 _ (by omega),k2 _ (by omega),k1 _ (by omega),t04]
  have g3':T3[d.length + 7]? = some (.vec [.sl (d.length + 7) 1 0 row.length] 1 0):=g3
  have ok35:Okay (.box [.d y1,.d y2] :: T3) 5:=by
   have hg:(O.box [.d y1,.d y2] :: T3)[5]? = some (.vec (aB 7 d ++ aF 0) 1 0):=t34
   refine .mk _ _ hg (by simp) ?_
   intro q hq
   have:kids (.box [.d y1,.d y2] :: T3) 5 = List.range' 7 d.length:=by simp only [kids,hg,bW,c9,eM,List.append_nil]
   rw [this,List.mem_range'_1] at hq
   obtain ⟨z,rfl⟩:∃ z,q = z + 7:=⟨q - 7,by omega⟩
   exact ok_row T3 z (d[z]'(by omega)) 0 (t3r _ _ (List.getElem?_eq_getElem _))
  have ok3e:Okay (.box [.d y1,.d y2] :: T3) (d.length + 8):=by
   have hg:(O.box [.d y1,.d y2] :: T3)[d.length + 8]? = some (.vec [.sl (d.length + 7) 1 0 row.length] 1 0):=g3'
   refine .mk _ _ hg (by simp) ?_
   intro q hq
   have:kids (.box [.d y1,.d y2] :: T3) (d.length + 8) = [d.length + 7]:=by simp [kids,hg,idsL,idsA]
   rw [this] at hq
   simp at hq; subst hq
   exact ok_row T3 d.length row 1 t3e
  obtain ⟨o1,ho1⟩:∃ o,o = aC aE (.box [.d y1,.d y2] :: T3) [5,d.length + 8] []:=⟨_,rfl⟩
  have st_app2:∀ {call:a9} {thaw:List Nat} {dst:Option Tmp} {args:Array Operand},memD env call thaw dst (.call ⟨.builtin .append,args,#[23,23]⟩) (.box [.d y1,.d y2] :: T3) [.sl 5 0 0 d.length,.sl (d.length + 8) 0 0 1] = some (.sl 5 1 0 (d.length + 1),.box [.d y1,.d y2] :: T4,{ ids:=o1,ro:=false,wr:=[5] }):=by
   intro call thaw dst args
   rw [XA (e:=32) rfl eD (by kernel_rfl) (id:=5) (id2:=d.length + 8) (g:=0) (g2:=0) (len:=d.length) (cs:=aB 7 d ++ aF 0) (c:=.sl (d.length + 7) 1 0 row.length) t34 g3' (by omega) (by unfold b5; omega) ok35 ok3e (by rw [p9]; simp only [gZ,idsL,idsA,List.nil_append,List.length_nil]; omega),← ho1,ht]
   rw [List.set_cons_succ,h4]
  have t41:T4[1]? = some (.box [.d (.int .i64 al),.sl 5 0 0 d.length,.sl 6 0 0 ac.length]):=by rw [k4 _ (by omega),k3 _ (by omega),k2 _ (by omega),k1 _ (by omega),t01]
  have t45:T4[5]? = some (.arr (aK ac) 1 0):=by rw [k4 _ (by omega),k3 _ (by omega),k2 _ (by omega),k1 _ (by omega),t05]
  have ok45:Okay (.box [.d y1,.d y2] :: T4) 5:=by
   have hg:(O.box [.d y1,.d y2] :: T4)[5]? = some (.vec (aB 7 d ++ [.sl (d.length + 7) 1 0 row.length]) 1 1):=g4
   refine .mk _ _ hg (by simp) ?_
   intro q hq
   have:kids (.box [.d y1,.d y2] :: T4) 5 = List.range' 7 d.length ++ [d.length + 7]:=by simp only [kids,hg,bW,c9,idsL,idsA,List.append_nil]
   rw [this,List.mem_append,List.mem_range'_1] at hq
   rcases hq with hq | hq
   ·obtain ⟨z,rfl⟩:∃ z,q = z + 7:=⟨q - 7,by omega⟩
    exact ok_row T4 z (d[z]'(by omega)) 0 (by rw [k4 _ (by omega)]; exact t3r _ _ (List.getElem?_eq_getElem _))
   ·simp at hq; subst hq
    exact ok_row T4 d.length row 1 (by rw [k4 _ (by omega)]; exact t3e)
  have ok46:Okay (.box [.d y1,.d y2] :: T4) 6:=by
   have hg:(O.box [.d y1,.d y2] :: T4)[6]? = some (.arr (aK ac) 1 0):=t45
   exact .mk _ _ hg (by simp) (by rw [bZ hg]; simp)
  have ok42:Okay (.box [.d y1,.d y2] :: T4) 2:=by
   have hg:(O.box [.d y1,.d y2] :: T4)[2]? = some (.box [.d (.int .i64 al),.sl 5 0 0 d.length,.sl 6 0 0 ac.length]):=t41
   refine .mk _ _ hg (by simp) ?_
   intro q hq
   have:kids (.box [.d y1,.d y2] :: T4) 2 = [5,6]:=by simp [kids,hg,idsL,idsA]
   rw [this] at hq
   simp at hq
   rcases hq with rfl | rfl
   ·exact ok45
   ·exact ok46
  obtain ⟨o2,ho2⟩:∃ o,o = aC aE (.box [.d y1,.d y2] :: T4) [2,5] []:=⟨_,rfl⟩
  have st_sto:∀ {call:a9} {thaw:List Nat} {dst:Option Tmp} {x y:Operand},memD env call thaw dst (.store 23 x y) (.box [.d y1,.d y2] :: T4) [.ptr 2 0 1,.sl 5 1 0 (d.length + 1)] = some (.d .undef,.box [.d y1,.d y2] :: T5,{ ids:=o2,ro:=false,wr:=o2 }):=by
   intro call thaw dst x y
   rw [yB (by kernel_rfl) (by kernel_rfl) (h:=.box [.d y1,.d y2] :: T4) (id:=2) (id2:=5) (off:=1) (cs:=[.d (.int .i64 al),.sl 5 0 0 d.length,.sl 6 0 0 ac.length]) t41 (by simp) ok42 ok45 (by rw [p9]; simp only [gZ,idsL,idsA,List.nil_append,List.length_nil]; omega),← ho2]
   rw [List.set_cons_succ]
   unfold bN
   rw [← h5]
   rfl
  have hclash:∀ (ops:List Oper),sO [(1,2),(2,4),(2,5),(2,6),(1,7),(1,8)] ops [{},{ ids:=[2],ro:=true },{ ids:=[d.length + 6 + 1],ro:=false },{},{ ids:=[2],ro:=true },{ ids:=[5],ro:=true },{ ids:=[5],ro:=true },{ ids:=[d.length + 7,7],ro:=false,wr:=[d.length + 7] },{ ids:=[d.length + 7,d.length + 8],ro:=false },{ ids:=o1,ro:=false,wr:=[5] },{},{ ids:=o2,ro:=false,wr:=o2 }] = true → iS ops [{},{ ids:=[2],ro:=true },{ ids:=[d.length + 6 + 1],ro:=false },{},{ ids:=[2],ro:=true },{ ids:=[5],ro:=true },{ ids:=[5],ro:=true },{ ids:=[d.length + 7,7],ro:=false,wr:=[d.length + 7] },{ ids:=[d.length + 7,d.length + 8],ro:=false },{ ids:=o1,ro:=false,wr:=[5] },{},{ ids:=o2,ro:=false,wr:=o2 }] = true:=by
   intro ops hm
   refine BL _ hm ?_
   intro q hq
   simp only [List.mem_cons,List.not_mem_nil,or_false] at hq
   rcases hq with rfl | rfl | rfl | rfl | rfl | rfl <;> simp [oT] <;> omega
  have t5b:T5[5]? = some (.arr (aK ac) 1 0):=by rw [k5 _ (by omega),t45]
  have t65:T6[5]? = some (.arr (aK ac) 1 0):=by rw [k6 _ (by omega),t5b]
  have t71:T7[1]? = some (.box [.d (.int .i64 al),.sl 5 1 0 (d.length + 1),.sl 6 0 0 ac.length]):=by rw [k7 _ (by omega),k6 _ (by omega),g5]
  have t61:T6[1]? = some (.box [.d (.int .i64 al),.sl 5 1 0 (d.length + 1),.sl 6 0 0 ac.length]):=by rw [k6 _ (by omega),g5]
  have hp0:(0:Int) < d.length:=by omega
  have t11:T1[1]? = some (.box [.d (.int .i64 al),.sl 5 0 0 d.length,.sl 6 0 0 ac.length]):=by rw [k1 _ (by omega),t01]
  have t14:T1[4]? = some (.vec (aB 7 d ++ aF 0) 1 0):=by rw [k1 _ (by omega),t04]
  have l5':T5.length = d.length + 8:=by omega
  rw [← e0]
  clear k1 k2 k3 k4 k5 k6 k7 w0 w1 w2 w3 w4 ok35 ok3e ok45 ok46 ok42 ok_row t3r t3e ho1 ho2 e0 e8 l1 l2 l3 l4 l5 l6 l7 hlv ht hd hpos t0r g3 g3'
  rw [JV]
  simp only [GO,Tryd.f51,SLM,simprocAttr]
  simp -implicitDefEqProofs (maxSteps:=2000000) (disch:=try exact Dz) only [↓DN,↓kAsg,↓kRet,UP,simprocAttr,LA,hn0,hc,hp0,l0,t01,t04,t05,h1,g1,t11,t14,hh0,↓st_app1,g2,↓st_vec,t34,↓st_app2,g4,t41,t45,↓st_sto,g5,t5b,l5',h6,g6,t65,t61,h7,t71,h8,fO,oX,x3,d7,eD,dW,d9,vS,tD,↓st_gc,↓ih',List.append_assoc,List.cons_append,List.nil_append]
theorem aJD {c:List UInt8} (hc:c.length ≤ 2000) (al:Int) (nx:List (List Int)) (ac:List Bool) (hs:bA nx) (h1:1 ≤ nx.length) (ha:ac.length ≤ 4294967000) (hnl2:nx.length ≤ 4294967000) (p t:Int) {row:List Int} (hrow:nx[0]? = some row) (hrl:row.length ≤ 4294967290) (j:Nat) (hj:nx.length + j = 13 ∨ j = 0 ∧ 13 ≤ nx.length)
  (kd1:(Dw 1 48 [.d (.int .i64 (nx.length))] (.d (.int .i64 t)) c p (p + 1)))
  (kd2:(Dw 1 48 [.d (.int .i64 30)] (.d (.int .i64 5)) c (p + 1) (p + 1 + 1))):(Dw 4 51 [autD al nx ac] (autD al (nx ++ List.replicate j row) (ac ++ List.replicate j false)) c p (p + 1 + 1)):=by
 intro R L n hq k hn hL
 refine eO sE (by simp [autD,idsA,idsL]) (by simp [autD,idsA,idsL]) ?_
 have hnl:=hs.1
 obtain ⟨N,T1,T2,T3,w⟩:=oY (.box [.d (.int .i64 al),.d (.ivs nx.length (aJ nx)),.d (.ivs ac.length (aK ac))]) (.box [.d (.int .i64 0),.sl 2 0 0 0,.sl 3 0 0 0]) al nx ac
 have kd3:=fun {R:Type} {n:Nat} {o1:O} {k:A → H → Option R} (hn:2 ≤ n) => qX (R:=R) (L:=L) (n:=n) (o1:=o1) (al:=al) (k:=k) w.h1 hs h1 (by omega) hn hL
 obtain ⟨hN,hT1,l1,h2,b2,h3,l3,t3,t4,t5,tr,tb,e3,wg⟩:=w
 clear hT1
 have st_gc:∀ {y1 y2:D} {mk:List Bool} {s:List A},gc 1 mk s (.box [.d y1,.d y2] :: T3) = match box (tidy mk s) with
   | .mk s1 => if QM nx.length (idsL s1) = true ∧ z0As s1 = true then (aG (EJ nx.length) s1,.box [.d y1,.d y2] :: .box [.d (.int .i64 0),.sl 3 0 0 0,.sl 4 0 0 0] :: .box [.d (.int .i64 al),.sl 5 0 0 nx.length,.sl 6 0 0 ac.length] :: .arr [] 0 0 :: .arr [] 0 0 :: .vec (aB 7 nx ++ aF 0) 1 0 :: .arr (aK ac) 1 0 :: aH nx) else gcO 1 mk s (.box [.d y1,.d y2] :: T3)
   | .no => ([],[]):=by
  intro y1 y2 mk s
  rw [e3]
  exact aSD (by omega)
 have loop_a:=fun {R:Type} {n:Nat} {y1 y2 x0:D} {k:Exit → List A → H → Option R} => aEk (R:=R) (L:=L) (n:=n) (y1:=y1) (y2:=y2) (x0:=x0) (al:=al) (n0:=nx.length) (k:=k) (by omega) hrl j L nx ac nx.length ac.length hj (by omega) hrow rfl rfl (by omega) (by omega)
 have hl1:(nx ++ List.replicate j row).length = nx.length + j:=by simp
 have hl2:(ac ++ List.replicate j false).length = ac.length + j:=by simp
 generalize nx ++ List.replicate j row = nx2 at *
 generalize ac ++ List.replicate j false = ac2 at *
 obtain ⟨T9,e9⟩:∃ T:H,.box [.d (.int .i64 al),.sl 5 0 0 (nx.length + j),.sl 6 0 0 (ac.length + j)] :: .box [.d (.int .i64 al),.sl 5 0 0 (nx.length + j),.sl 6 0 0 (ac.length + j)] :: .arr [] 0 0 :: .arr [] 0 0 :: .vec (aB 7 nx2 ++ aF 0) 1 0 :: .arr (aK ac2) 1 0 :: aH nx2 = T:=⟨_,rfl⟩
 have g9:T9[0]? = some (.box [.d (.int .i64 al),.sl 5 0 0 (nx.length + j),.sl 6 0 0 (ac.length + j)]):=by rw [← e9]; rfl
 have hv:rd1 (rdO c (p + 1 + 1) :: T9) (.sl 5 0 0 (nx.length + j)) = some (.ivs nx2.length (aJ nx2)):=by
  refine zZ (cs:=aB 7 nx2 ++ aF 0) (by rw [← e9]; rfl) (KO fun i r hr => ?_) hl1.symm
  rw [← e9]
  simp only [List.getElem?_cons_succ]
  have:=I5 (p:=[]) hr
  rwa [List.append_nil] at this
 have hw:rd1 (rdO c (p + 1 + 1) :: T9) (.sl 6 0 0 (ac.length + j)) = some (.ivs ac2.length (aK ac2)):=sF (by rw [← e9]; rfl) hl2.symm
 obtain ⟨h2',st_out,st_keep,st_trim⟩:=vF (al:=al) hv hw (by omega) (by omega)
 unfold autD at st_out ⊢
 have hke:N + 1 + 1 + 1 = nx.length + 9:=by omega
 clear hv hw tr h1 wg e3 hrow
 obtain _ | n:=n; omega
 rw [nR]
 simp only [nO,Tryd.f51,SLM,simprocAttr]
 simp -implicitDefEqProofs (maxSteps:=2000000) (disch:=try exact Dz) only [↓DN,↓kAsg,↓kRet,UP,simprocAttr,LA,↓kd1,↓kd2,↓kd3,l1,h2,b2,h3,l3,t3,t4,t5,tb,↓st_gc,aKS,aFY,aDE,z0As,z0A,eq_self,↓loop_a,e9,g9,↓st_out,↓st_keep,↓st_trim,List.append_assoc,List.cons_append,List.nil_append]
def src (c:List UInt8):List UInt8:=if 2000 < c.length then c.take 2000 else c
theorem aR7 (c:List UInt8):(src c).length ≤ 2000:=by
 unfold src; split
 ·rw [List.length_take]; omega
 ·omega
theorem aLM:(env.hint 21).mode = 2:=by kernel_rfl
theorem aSy {L n:Nat} (hn:1 ≤ n) (c0:List UInt8) (hc:c0.length ≤ 4294967296):aA env L n 21 [.d (.ivs c0.length (bQ c0))] [] = some (.ptr 0 0 0,[O.box [A.d (D.ivs (src c0).length (bQ (src c0))),A.d (D.int .i64 0)]]):=by
 unfold src
 by_cases h:(2000:Int) < c0.length
 ·have h':2000 < c0.length:=by omega
  obtain _ | n:=n; omega
  rw [XC]
  simp only [O9,Tryd.f21,SLM,simprocAttr]
  simp -implicitDefEqProofs (maxSteps:=2000000) (disch:=try exact Dz) only [↓DN,↓kAsg,↓kRet,UP,simprocAttr,h,h']
 ·have h':¬ 2000 < c0.length:=by omega
  obtain _ | n:=n; omega
  rw [XC]
  simp only [O9,Tryd.f21,SLM,simprocAttr]
  simp -implicitDefEqProofs (maxSteps:=2000000) (disch:=try exact Dz) only [↓DN,↓kAsg,↓kRet,UP,simprocAttr,h,h']
mutual
theorem aFq {f g:Nat → Option Nat} (hfg:∀ k,f k = none → g k = none):∀ a:A,idsA (mapA f a) = [] → mapA g a = mapA f a
 | .d x,_ => by simp only [mapA]
 | .sl id gen off len,h => by
  simp only [mapA] at h ⊢
  cases hf:f id with
  | none => rw [hfg id hf]
  | some m => rw [hf] at h; simp [idsA] at h
 | .ptr id gen off,h => by
  simp only [mapA] at h ⊢
  cases hf:f id with
  | none => rw [hfg id hf]
  | some m => rw [hf] at h; simp [idsA] at h
 | .mp id,h => by
  simp only [mapA] at h ⊢
  cases hf:f id with
  | none => rw [hfg id hf]
  | some m => rw [hf] at h; simp [idsA] at h
 | .clo c caps,h => by simp only [mapA,idsA] at h ⊢; rw [H8 hfg caps h]
 | .agg cs,h => by simp only [mapA,idsA] at h ⊢; rw [H8 hfg cs h]
 | .tup cs,h => by simp only [mapA,idsA] at h ⊢; rw [H8 hfg cs h]
 | .junk,_ => by simp only [mapA]
theorem H8 {f g:Nat → Option Nat} (hfg:∀ k,f k = none → g k = none):∀ l:List A,idsL (aG f l) = [] → aG g l = aG f l
 | [],_ => by simp only [aG]
 | a :: l,h => by
  simp only [aG,idsL,List.append_eq_nil_iff] at h
  simp only [aG]
  rw [aFq hfg a h.1,H8 hfg l h.2]
end
theorem aOi {f:Nat → Option Nat} {a:A} {x:D} (h:mapA f a = .d x):a = .d x:=by
 cases a with
 | d y => simpa [mapA] using h
 | sl id gen off len => simp only [mapA] at h; split at h <;> cases h
 | ptr id gen off => simp only [mapA] at h; split at h <;> cases h
 | mp id => simp only [mapA] at h; split at h <;> cases h
 | clo c caps => simp [mapA] at h
 | agg cs => simp [mapA] at h
 | tup cs => simp [mapA] at h
 | junk => simp [mapA] at h
theorem aSB {f:Nat → Option Nat} {o:O} {c:List UInt8} {q:Int} (h:mapO f o = rdO c q):o = rdO c q:=by
 cases o with
 | box cs =>
  simp only [mapO,O.box.injEq] at h
  match cs,h with
  | [a,b],h =>
   simp only [aG,List.cons.injEq,and_true] at h
   rw [aOi h.1,aOi h.2]
  | [],h => simp [aG] at h
  | [_],h => simp [aG] at h
  | _ :: _ :: _ :: _,h => simp [aG] at h
 | _ => simp [mapO] at h
theorem aSX {L n m:Nat} {f:FuncId} {args:List A} {c:List UInt8} {p q:Int} {r:A} (ha:idsL args = []) (hr:idsA r = [])
  (kd:∀ (R:Type) (L n:Nat) (hq:H) (k:A → H → Option R),m ≤ n → 2 ^ 60 ≤ L → aL env (aA env L n) (rdO c p :: hq) f (.ptr 0 0 0 :: args) k = k r (rdO c q :: hq))
  {R:Type} {hq:H} {k:A → H → Option R} {i:Nat} (hn:m ≤ n) (hL:2 ^ 60 ≤ L) (hi:hq[i]? = some (rdO c p)) :
  aL env (aA env L n) hq f (.ptr i 0 0 :: args) k = k r (hq.set i (rdO c q)):=by
 have h0:=kd (A × H) L n [] (fun a h => some (a,h)) hn hL
 generalize aA env L n = call at h0 ⊢
 have hid:∀ j,idsL (A.ptr j 0 0 :: args) = [j]:=fun j => by simp [idsL,idsA,ha]
 have hre:∀ (h:H) (j:Nat),h[j]? = some (rdO c p) → aC aE h [j] [] = [j]:=by
  intro h j hj
  have e1:aC aE h [j] [] = match h[j]? with
   | some (.box cs) => aC (aE - 1) h ([] ++ idsL cs) ([] ++ [j])
   | some (.vec cs _ _) => aC (aE - 1) h ([] ++ idsL cs) ([] ++ [j])
   | some .void => aC (aE - 1) h [] []
   | some _ => aC (aE - 1) h [] ([] ++ [j])
   | none => aC (aE - 1) h [] []:=rfl
  rw [e1,hj]
  rfl
 have hpk:∀ (h:H) (j:Nat),h[j]? = some (rdO c p) → pack h [j] = [rdO c p]:=by
  intro h j hj
  simp only [pack,List.map_cons,List.map_nil,List.getD_eq_getElem?_getD,hj]
  rfl
 have hma:∀ j,aG (aI [j]) (A.ptr j 0 0 :: args) = A.ptr 0 0 0 :: args:=by
  intro j
  simp only [aG,nN _ ha]
  simp [mapA,aI]
 have hcl:∀ (h:H) (j:Nat),h[j]? = some (rdO c p) → closed h [j] [j] = true:=by
  intro h j hj
  simp only [closed,List.all_cons,List.all_nil,hj]
  simp [idsL,idsA]
 unfold aL at h0 ⊢
 rw [hid,hre hq i hi,hpk hq i hi,hma]
 rw [hid,hre [rdO c p] 0 rfl,hpk [rdO c p] 0 rfl,hma] at h0
 cases hc:dX call env.hint [rdO c p] f (A.ptr 0 0 0 :: args) with
 | none => rw [hc] at h0; simp at h0
 | some y =>
  obtain ⟨a,h1⟩:=y
  rw [hc] at h0
  simp only [hcl [rdO c p] 0 rfl,hcl hq i hi,and_true,List.length_cons,List.length_nil] at h0 ⊢
  split at h0
  ·rename_i hlen
   rw [if_pos hlen]
   simp only [Option.some.injEq,Prod.mk.injEq] at h0
   obtain ⟨g1,g2⟩:=h0
   match h1,hlen,g1,g2 with
   | o :: rest,hlen,g1,g2 =>
    simp only [bP,List.set_cons_zero,List.cons_append,List.nil_append,List.cons.injEq,List.map_eq_nil_iff] at g2
    obtain ⟨g2,rfl⟩:=g2
    have ho:=aSB g2
    subst ho
    have ga:mapA (back [i] hq.length 1) a = r:=by
     rw [aFq (f:=back [0] 1 1) (g:=back [i] hq.length 1) ?_ a (by have:=g1; simp only [List.length_cons,List.length_nil,Nat.zero_add] at this; rw [this]; exact hr)]
     ·simpa using g1
     ·intro j hj
      unfold back at hj ⊢
      by_cases h0:j < [i].length
      ·have:j = 0:=by simp at h0; exact h0
       subst this
       simp at hj
      ·have h0':¬ j < [0].length:=by simpa using h0
       rw [if_neg h0'] at hj
       rw [if_neg h0]
       split at hj
       ·cases hj
       ·rename_i h2; rw [if_neg h2]
    simp only [List.length_cons,List.length_nil,Nat.zero_add]
    rw [ga]
    congr 1
    simp [bP,mapO,aG,mapA]
  ·simp at h0
theorem aPC {R:Type} {L n:Nat} {hq:H} {k:A → H → Option R} (c0:List UInt8) (hn:1 ≤ n) (hc:c0.length ≤ 4294967296):aL env (aA env L n) hq 21 [.d (.ivs c0.length (bQ c0))] k = k (.ptr hq.length 0 0) (hq ++ [O.box [A.d (D.ivs (src c0).length (bQ (src c0))),A.d (D.int .i64 0)]]):=by
 have he:=aSy (L:=L) hn c0 hc
 unfold aL
 have h1:aC aE hq (idsL [A.d (D.ivs c0.length (bQ c0))]) [] = []:=rfl
 have h2:pack hq [] = []:=rfl
 have h3:aG (aI []) [A.d (D.ivs c0.length (bQ c0))] = [A.d (D.ivs c0.length (bQ c0))]:=rfl
 rw [h1,h2,h3]
 have h4:dX (aA env L n) env.hint [] 21 [A.d (D.ivs c0.length (bQ c0))] = some (.ptr 0 0 0,[O.box [A.d (D.ivs (src c0).length (bQ (src c0))),A.d (D.int .i64 0)]]):=by
  unfold dX
  rw [aLM]
  have h5:jB ([]:H) [A.d (D.ivs c0.length (bQ c0))] = some ([A.d (D.ivs c0.length (bQ c0))],[]):=rfl
  simp only [h5,he]
  rfl
 rw [h4]
 have hcl:closed hq [] (idsL [A.d (D.ivs c0.length (bQ c0))]) = true:=rfl
 simp only [hcl,List.length_nil,Nat.zero_le,and_self,if_true]
 congr 1
structure AutB (B:Nat) (nx:List (List Int)) (ac:List Bool):Prop where
 n:nx.length ≤ B
 a:ac.length ≤ B
 r:∀ r ∈ nx,r.length ≤ B
theorem AutB.short {B:Nat} {nx:List (List Int)} {ac:List Bool} (h:AutB B nx ac) (hB:B ≤ 4294967000):bA nx:=⟨by have:=h.n; omega,fun r hr => by have:=h.r r hr; omega⟩
theorem AutB.mono {B C:Nat} {nx:List (List Int)} {ac:List Bool} (h:AutB B nx ac) (hB:B ≤ C):AutB C nx ac:=⟨by have:=h.n; omega,by have:=h.a; omega,fun r hr => by have:=h.r r hr; omega⟩
theorem AutB.at {B:Nat} {nx:List (List Int)} {ac:List Bool} (h:AutB B nx ac) (i:Nat):(nx.getD i []).length ≤ B:=by
 rw [List.getD_eq_getElem?_getD]
 cases hg:nx[i]? with
 | none => simp
 | some r => simpa using h.r r (List.mem_of_getElem? hg)
theorem aLp {c:List UInt8} (hc:c.length ≤ 2000) {B:Nat} (hB:B ≤ 4294966000) (al:Int) (nx:List (List Int)) (ac:List Bool) (hb:AutB B nx ac) (h1:1 ≤ nx.length) (p:Int) (hp:0 ≤ p) (hp2:p ≤ 890000000) :
  ∃ (al2:Int) (nx2:List (List Int)) (ac2:List Bool) (q:Int),AutB (B + 13) nx2 ac2 ∧ p ≤ q ∧ q ≤ p + 4 ∧ (Dw 4 51 [autD al nx ac] (autD al2 nx2 ac2) c p q):=by
 have hs:=hb.short (by omega)
 have hn:=hb.n
 have hba:=hb.a
 obtain ⟨k,k0,k1,_,kd1⟩:=jV hc p nx.length hp (by omega)
 obtain ⟨u,u0,u1,_,kd2⟩:=jV hc (p + 1) 30 (by omega) (by omega)
 have k1:=k1 (by omega)
 obtain ⟨t,rfl⟩:∃ t:Nat,k = t:=⟨k.toNat,by omega⟩
 have ht:t < nx.length:=by omega
 have hrt:=hb.at t
 by_cases hu0:u = 0
 ·subst hu0
  obtain ⟨al2,kd⟩:=aLm hc al nx ac hs h1 (by omega) p t hp (by omega) kd1 kd2
  exact ⟨al2,nx,ac,_,hb.mono (by omega),by omega,by omega,kd⟩
 by_cases hu1:u = 1
 ·subst hu1
  refine ⟨al,nx,ac ++ [true],_,⟨by omega,by simp; omega,fun r hr => ?_⟩,by omega,by omega,aLv hc al nx ac hs h1 (by omega) p t kd1 kd2⟩
  have:=hb.r r hr; omega
 by_cases hu2:u = 2
 ·subst hu2
  refine ⟨al,_,ac,_,⟨by rw [List.length_set]; omega,by omega,fun r hr => ?_⟩,by omega,by omega,aJs hc al nx ac hs h1 (by omega) p t ht (by omega) kd1 kd2⟩
  rcases List.mem_or_eq_of_mem_set hr with h | h
  ·have:=hb.r r h; omega
  ·rw [h,List.length_append,List.length_cons,List.length_nil]; omega
 by_cases hu3:u = 3
 ·subst hu3
  by_cases h0:(nx.getD t []).length = 0
  ·exact ⟨al,nx,ac,_,hb.mono (by omega),by omega,by omega,aLj hc al nx ac hs h1 (by omega) p t ht h0 kd1 kd2⟩
  ·obtain ⟨v,v0,v1,_,kd4⟩:=jV hc (p + 1 + 1) (nx.getD t []).length (by omega) (by omega)
   have v1:=v1 (by omega)
   obtain ⟨j,rfl⟩:∃ j:Nat,v = j:=⟨v.toNat,by omega⟩
   obtain ⟨w,kd⟩:=aI1 hc al nx ac hs h1 (by omega) p hp (by omega) t ht j (by omega) kd1 kd2 kd4
   refine ⟨al,_,ac,_,⟨by rw [List.length_set]; omega,by omega,fun r hr => ?_⟩,by omega,by omega,kd⟩
   rcases List.mem_or_eq_of_mem_set hr with h | h
   ·have:=hb.r r h; omega
   ·rw [h,List.length_set]; omega
 by_cases hu4:u = 4
 ·subst hu4
  exact ⟨al,[],[],_,⟨by simp,by simp,by simp⟩,by omega,by omega,aIB hc al nx ac hs h1 (by omega) p t kd1 kd2⟩
 by_cases hu5:u = 5
 ·subst hu5
  have h0:nx[0]? = some (nx[0]'(by omega)):=List.getElem?_eq_getElem _
  have hr0:=hb.r _ (List.getElem_mem (by omega:0 < nx.length))
  refine ⟨al,_,_,_,⟨?_,?_,fun r hr => ?_⟩,by omega,by omega,aJD hc al nx ac hs h1 (by omega) (by omega) p t h0 (by omega) (13 - nx.length) (by omega) kd1 kd2⟩
  ·simp; omega
  ·simp; omega
  ·rcases List.mem_append.1 hr with h | h
   ·have:=hb.r r h; omega
   ·obtain ⟨_,rfl⟩:=List.mem_replicate.1 h; omega
 exact ⟨al,nx,ac,_,hb.mono (by omega),by omega,by omega,aHQ hc al nx ac hs h1 (by omega) p t u hu0 hu1 hu2 hu3 hu4 hu5 kd1 kd2⟩
theorem aRW:(env.hint 50).mode = 0:=by kernel_rfl
theorem aPZ {c:List UInt8} (hc:c.length ≤ 2000) (p:Int) (hp:0 ≤ p) (hp2:p ≤ 900000000):∃ (nx:List (List Int)) (ac:List Bool) (q:Int),nx.length = 12 ∧ ac.length = 12 ∧ (∀ r ∈ nx,r.length = (aD 3).length) ∧ p ≤ q ∧ q ≤ p + 40 ∧ (Dw 3 50 [] (autD 3 nx ac) c p q):=by
 obtain ⟨nx,ac,q,g1,g2,g3,g4,g5,he⟩:=aLf hc p hp hp2
 exact ⟨nx,ac,q,g1,g2,g3,g4,g5,fun R L n hq k hn hL => eO aRW (by simp [idsL,idsA]) (by simp [autD,idsA,idsL]) (he L n hn hL)⟩
theorem IM:(env.hint 49).mode = 0:=by kernel_rfl
theorem aA7 {c:List UInt8} {p:Int} {al:Int} {nx:List (List Int)} {ac:List Bool} {T3:H} {z:O} (hz:T3[3]? = some z) (t4:T3[4]? = some (.vec (aB 7 nx ++ aF 0) 1 0)) (t5:T3[5]? = some (.arr (aK ac) 1 0)) (tr:∀ (i:Nat) (r:List Int),nx[i]? = some r → T3[i + 6]? = some (.arr (ints r) 1 0)) :
  ∃ (T7:H) (h2':H),T3.set 3 (.box [.d (.int .i64 al),.sl 5 0 0 nx.length,.sl 6 0 0 ac.length]) = T7 ∧ T7[3]? = some (.box [.d (.int .i64 al),.sl 5 0 0 nx.length,.sl 6 0 0 ac.length]) ∧ rI 1 false (rdO c p :: T7) [.agg [.d (.int .i64 al),.sl 5 0 0 nx.length,.sl 6 0 0 ac.length]] = some ([autD al nx ac],h2') ∧ aC 1099511627776 h2' (fU (List.take 1 h2')) [0] = [0] ∧ List.getD h2' 0 default = rdO c p:=by
 obtain ⟨T7,h7⟩:∃ T,T3.set 3 (.box [.d (.int .i64 al),.sl 5 0 0 nx.length,.sl 6 0 0 ac.length]) = T:=⟨_,rfl⟩
 obtain ⟨l7,g7,k7⟩:=dV h7 (List.getElem?_eq_some_iff.1 hz).1
 have hv:rd1 (rdO c p :: T7) (.sl 5 0 0 nx.length) = some (.ivs nx.length (aJ nx)):=by
  refine zZ (cs:=aB 7 nx ++ aF 0) ?_ (KO fun i r hr => ?_) rfl
  ·rw [List.getElem?_cons_succ,k7 _ (by omega),t4]
  ·rw [show i + 7 = i + 6 + 1 by omega,List.getElem?_cons_succ,k7 _ (by omega)]
   exact tr i r hr
 have hw:rd1 (rdO c p :: T7) (.sl 6 0 0 ac.length) = some (.ivs ac.length (aK ac)):=by
  refine sF ?_ rfl
  rw [List.getElem?_cons_succ,k7 _ (by omega),t5]
 obtain ⟨h2',a1,a2,a3⟩:=vF (al:=al) hv hw (by omega) (by omega)
 exact ⟨T7,h2',h7,g7,a1,a2,a3⟩
theorem aGq {c:List UInt8} (hc:c.length ≤ 2000) (al:Int) (nx:List (List Int)) (ac:List Bool) (hs:bA nx) (h1:1 ≤ nx.length) (ha:ac.length ≤ 4294967290) (p u:Int) (t:Nat) (ht:t < nx.length)
  (hcase:u = 0 ∧ ac.length ≤ t ∨ u = 1 ∧ (nx.getD t []).length = 0 ∨ u = 2 ∧ (12 ≤ nx.length ∨ ac.length ≤ t ∨ (nx.getD t []).length = 0) ∨ ¬ u = 0 ∧ ¬ u = 1 ∧ ¬ u = 2)
  (kd1:(Dw 1 48 [.d (.int .i64 (nx.length))] (.d (.int .i64 ((t:Int)))) c p (p + 1)))
  (kd2:(Dw 1 48 [.d (.int .i64 4)] (.d (.int .i64 u)) c (p + 1) (p + 1 + 1))):(Dw 4 49 [autD al nx ac] (autD al nx ac) c p (p + 1 + 1)):=by
 intro R L n hq k hn hL
 refine eO IM (by simp [autD,idsA,idsL]) (by simp [autD,idsA,idsL]) ?_
 have hnl:=hs.1
 have hrl:=sR hs ht
 obtain ⟨N,T1,T2,T3,w⟩:=oY (.box [.d (.int .i64 al),.d (.ivs nx.length (aJ nx)),.d (.ivs ac.length (aK ac))]) (.box [.d (.int .i64 0),.sl 2 0 0 0,.sl 3 0 0 0]) al nx ac
 have kd3:=fun {R:Type} {n:Nat} {o1:O} {k:A → H → Option R} (hn:2 ≤ n) => qX (R:=R) (L:=L) (n:=n) (o1:=o1) (al:=al) (k:=k) w.h1 hs h1 (by omega) hn hL
 obtain ⟨hN,hT1,l1,h2,b2,h3,l3,t3,t4,t5,tr,tb,e3,wg⟩:=w
 clear e3
 clear hT1
 have hd7:((aB 7 nx ++ aF 0).drop t).head? = some (.sl (t + 7) 0 0 (nx.getD t []).length):=oV ht
 obtain ⟨T7,h2',h7,g7,st_out,st_keep,st_trim⟩:=aA7 (c:=c) (p:=p + 1 + 1) (al:=al) t3 t4 t5 tr
 unfold autD at st_out ⊢
 have hti:(t:Int) < nx.length:=by omega
 have ht0:(0:Int) ≤ t:=by omega
 have hn0:¬ ((nx.length:Int) = 0):=by omega
 generalize (nx.getD t []).length = rl at *
 clear tr h1 wg
 rcases hcase with ⟨rfl,hx⟩ | ⟨rfl,rfl⟩ | ⟨rfl,hx⟩ | ⟨u0,u1,u2⟩
 ·have hx2:¬ ((t:Int) < ac.length):=by omega
  obtain _ | n:=n; omega
  rw [kL]
  simp only [kG,Tryd.f49,SLM,simprocAttr]
  simp -implicitDefEqProofs (maxSteps:=2000000) (disch:=try exact Dz) only [↓DN,↓kAsg,↓kRet,UP,simprocAttr,LA,↓kd1,↓kd2,↓kd3,l1,h2,b2,h3,l3,t3,t4,t5,tb,hti,ht0,hn0,hx2,hd7,h7,g7,Int.toNat_natCast,d7,eD,dW,d9,↓st_out,↓st_keep,↓st_trim,List.append_assoc,List.cons_append,List.nil_append]
 ·obtain _ | n:=n; omega
  rw [kL]
  simp only [kG,Tryd.f49,SLM,simprocAttr]
  simp -implicitDefEqProofs (maxSteps:=2000000) (disch:=try exact Dz) only [↓DN,↓kAsg,↓kRet,UP,simprocAttr,LA,↓kd1,↓kd2,↓kd3,l1,h2,b2,h3,l3,t3,t4,t5,tb,hti,ht0,hn0,hd7,h7,g7,Int.toNat_natCast,d7,eD,dW,d9,↓st_out,↓st_keep,↓st_trim,List.append_assoc,List.cons_append,List.nil_append]
 ·by_cases hy:(nx.length:Int) < 12
  ·by_cases hy2:(t:Int) < ac.length
   ·obtain rfl:rl = 0:=by omega
    obtain _ | n:=n; omega
    rw [kL]
    simp only [kG,Tryd.f49,SLM,simprocAttr]
    simp -implicitDefEqProofs (maxSteps:=2000000) (disch:=try exact Dz) only [↓DN,↓kAsg,↓kRet,UP,simprocAttr,LA,↓kd1,↓kd2,↓kd3,l1,h2,b2,h3,l3,t3,t4,t5,tb,hti,ht0,hn0,hy,hy2,hd7,h7,g7,Int.toNat_natCast,d7,eD,dW,d9,↓st_out,↓st_keep,↓st_trim,List.append_assoc,List.cons_append,List.nil_append]
   ·obtain _ | n:=n; omega
    rw [kL]
    simp only [kG,Tryd.f49,SLM,simprocAttr]
    simp -implicitDefEqProofs (maxSteps:=2000000) (disch:=try exact Dz) only [↓DN,↓kAsg,↓kRet,UP,simprocAttr,LA,↓kd1,↓kd2,↓kd3,l1,h2,b2,h3,l3,t3,t4,t5,tb,hti,ht0,hn0,hy,hy2,hd7,h7,g7,Int.toNat_natCast,d7,eD,dW,d9,↓st_out,↓st_keep,↓st_trim,List.append_assoc,List.cons_append,List.nil_append]
  ·obtain _ | n:=n; omega
   rw [kL]
   simp only [kG,Tryd.f49,SLM,simprocAttr]
   simp -implicitDefEqProofs (maxSteps:=2000000) (disch:=try exact Dz) only [↓DN,↓kAsg,↓kRet,UP,simprocAttr,LA,↓kd1,↓kd2,↓kd3,l1,h2,b2,h3,l3,t3,t4,t5,tb,hti,ht0,hn0,hy,hd7,h7,g7,Int.toNat_natCast,d7,eD,dW,d9,↓st_out,↓st_keep,↓st_trim,List.append_assoc,List.cons_append,List.nil_append]
 ·obtain _ | n:=n; omega
  rw [kL]
  simp only [kG,Tryd.f49,SLM,simprocAttr]
  simp -implicitDefEqProofs (maxSteps:=2000000) (disch:=try exact Dz) only [↓DN,↓kAsg,↓kRet,UP,simprocAttr,LA,↓kd1,↓kd2,↓kd3,l1,h2,b2,h3,l3,t3,t4,t5,tb,hti,ht0,hn0,u0,u1,u2,hd7,h7,g7,Int.toNat_natCast,d7,eD,dW,d9,↓st_out,↓st_keep,↓st_trim,List.append_assoc,List.cons_append,List.nil_append]
theorem aIU {c:List UInt8} (hc:c.length ≤ 2000) (al:Int) (nx:List (List Int)) (ac:List Bool) (hs:bA nx) (h1:1 ≤ nx.length) (ha:ac.length ≤ 4294967290) (p:Int) (t:Nat) (hta:t < ac.length)
  (kd1:(Dw 1 48 [.d (.int .i64 (nx.length))] (.d (.int .i64 ((t:Int)))) c p (p + 1)))
  (kd2:(Dw 1 48 [.d (.int .i64 4)] (.d (.int .i64 0)) c (p + 1) (p + 1 + 1))):(Dw 4 49 [autD al nx ac] (autD al nx (ac.set t (!(ac.getD t false)))) c p (p + 1 + 1)):=by
 intro R L n hq k hn hL
 refine eO IM (by simp [autD,idsA,idsL]) (by simp [autD,idsA,idsL]) ?_
 have hnl:=hs.1
 obtain ⟨N,T1,T2,T3,w⟩:=oY (.box [.d (.int .i64 al),.d (.ivs nx.length (aJ nx)),.d (.ivs ac.length (aK ac))]) (.box [.d (.int .i64 0),.sl 2 0 0 0,.sl 3 0 0 0]) al nx ac
 have kd3:=fun {R:Type} {n:Nat} {o1:O} {k:A → H → Option R} (hn:2 ≤ n) => qX (R:=R) (L:=L) (n:=n) (o1:=o1) (al:=al) (k:=k) w.h1 hs h1 (by omega) hn hL
 obtain ⟨hN,hT1,l1,h2,b2,h3,l3,t3,t4,t5,tr,tb,e3,wg⟩:=w
 clear e3
 clear hT1
 obtain ⟨T4,h4⟩:∃ T,T3.set 5 (.arr (aK (ac.set t (!(ac.getD t false)))) 1 0) = T:=⟨_,rfl⟩
 obtain ⟨l4,g4,k4⟩:=dV h4 (by omega)
 have t43:T4[3]? = some (.box [.d (.int .i64 0),.sl 2 0 0 0,.sl 3 0 0 0]):=by rw [k4 _ (by omega),t3]
 have t4b:T4[N + 1 + 1]? = some (.box [.d (.int .i64 al),.sl 5 0 0 nx.length,.sl 6 0 0 ac.length]):=by rw [k4 _ (by omega),tb]
 have hset:bN (aK ac) t [.bool (!(ac.getD t false))] = aK (ac.set t (!(ac.getD t false))):=aFg hta
 have st_sto:∀ {call:a9} {thaw:List Nat} {dst:Option Tmp} {x y:Operand},memD env call thaw dst (.store 4 x y) (rdO c (p + 1 + 1) :: T3) [.ptr 6 0 t,.d (.bool (!(ac.getD t false)))] = some (.d .undef,rdO c (p + 1 + 1) :: T4,{ ids:=[6],ro:=false,wr:=[6] }):=by
  intro call thaw dst x y
  rw [PI (by kernel_rfl) (by kernel_rfl) rfl (h:=rdO c (p + 1 + 1) :: T3) (id:=6) (cs:=aK ac) (esz:=1) t5 (by rw [fO]; omega)]
  rw [List.set_cons_succ,hset,h4]
 have hl2:(ac.set t (!(ac.getD t false))).length = ac.length:=by simp
 obtain ⟨T7,h2',h7,g7,st_out,st_keep,st_trim⟩:=aA7 (c:=c) (p:=p + 1 + 1) (al:=al) (nx:=nx) (ac:=ac.set t (!(ac.getD t false))) t43 (by rw [k4 _ (by omega),t4]) g4 (fun i r hr => by rw [k4 _ (by omega)]; exact tr i r hr)
 unfold autD at st_out ⊢
 rw [hl2] at st_out h7 g7 ⊢
 have hbh:=HZ hta
 have hti:(t:Int) < ac.length:=by omega
 have ht0:(0:Int) ≤ t:=by omega
 have hn0:¬ ((nx.length:Int) = 0):=by omega
 clear tr h1 wg k4 l4 hset hta
 obtain _ | n:=n; omega
 rw [kL]
 simp only [kG,Tryd.f49,SLM,simprocAttr]
 simp -implicitDefEqProofs (maxSteps:=2000000) (disch:=try exact Dz) only [↓DN,↓kAsg,↓kRet,UP,simprocAttr,LA,↓kd1,↓kd2,↓kd3,l1,h2,b2,h3,l3,t3,t4,t5,tb,hti,ht0,hn0,hbh,↓st_sto,t4b,t43,h7,g7,Int.toNat_natCast,vS,tD,d7,eD,dW,d9,↓st_out,↓st_keep,↓st_trim,List.append_assoc,List.cons_append,List.nil_append]
theorem aH7 {c:List UInt8} (hc:c.length ≤ 2000) (al:Int) (nx:List (List Int)) (ac:List Bool) (hs:bA nx) (h1:1 ≤ nx.length) (ha:ac.length ≤ 4294967290) (p v:Int) (t j:Nat) (ht:t < nx.length) (hj:j < (nx.getD t []).length)
  (kd1:(Dw 1 48 [.d (.int .i64 (nx.length))] (.d (.int .i64 ((t:Int)))) c p (p + 1)))
  (kd2:(Dw 1 48 [.d (.int .i64 4)] (.d (.int .i64 1)) c (p + 1) (p + 1 + 1)))
  (kd4:(Dw 1 48 [.d (.int .i64 (((nx.getD t []).length:Int)))] (.d (.int .i64 ((j:Int)))) c (p + 1 + 1) (p + 1 + 1 + 1)))
  (kd5:(Dw 1 48 [.d (.int .i64 (nx.length))] (.d (.int .i64 v)) c (p + 1 + 1 + 1) (p + 1 + 1 + 1 + 1))):(Dw 4 49 [autD al nx ac] (autD al (nx.set t ((nx.getD t []).set j v)) ac) c p (p + 1 + 1 + 1 + 1)):=by
 intro R L n hq k hn hL
 refine eO IM (by simp [autD,idsA,idsL]) (by simp [autD,idsA,idsL]) ?_
 have hnl:=hs.1
 obtain ⟨N,T1,T2,T3,w⟩:=oY (.box [.d (.int .i64 al),.d (.ivs nx.length (aJ nx)),.d (.ivs ac.length (aK ac))]) (.box [.d (.int .i64 0),.sl 2 0 0 0,.sl 3 0 0 0]) al nx ac
 have kd3:=fun {R:Type} {n:Nat} {o1:O} {k:A → H → Option R} (hn:2 ≤ n) => qX (R:=R) (L:=L) (n:=n) (o1:=o1) (al:=al) (k:=k) w.h1 hs h1 (by omega) hn hL
 obtain ⟨hN,hT1,l1,h2,b2,h3,l3,t3,t4,t5,tr,tb,e3,wg⟩:=w
 clear e3
 clear hT1
 have hrow:nx[t]? = some (nx.getD t []):=by rw [List.getD_eq_getElem?_getD,List.getElem?_eq_getElem ht]; rfl
 have hrl:=sR hs ht
 generalize hrw:nx.getD t [] = row at *
 have hd7:((aB 7 nx ++ aF 0).drop t).head? = some (.sl (t + 7) 0 0 row.length):=by rw [oV ht,hrw]
 have t3r:T3[t + 6]? = some (.arr (ints row) 1 0):=tr _ _ hrow
 obtain ⟨T4,h4⟩:∃ T,T3.set (t + 6) (.arr (ints (row.set j v)) 1 0) = T:=⟨_,rfl⟩
 obtain ⟨l4,g4,k4⟩:=dV h4 (by omega)
 have t43:T4[3]? = some (.box [.d (.int .i64 0),.sl 2 0 0 0,.sl 3 0 0 0]):=by rw [k4 _ (by omega),t3]
 have t4b:T4[N + 1 + 1]? = some (.box [.d (.int .i64 al),.sl 5 0 0 nx.length,.sl 6 0 0 ac.length]):=by rw [k4 _ (by omega),tb]
 have hset:bN (ints row) j [.int .i64 v] = ints (row.set j v):=by
  unfold bN
  exact aBr hj
 have st_sto:∀ {call:a9} {thaw:List Nat} {dst:Option Tmp} {x y:Operand},memD env call thaw dst (.store 3 x y) (rdO c (p + 1 + 1 + 1 + 1) :: T3) [.ptr (t + 7) 0 j,.d (.int .i64 v)] = some (.d .undef,rdO c (p + 1 + 1 + 1 + 1) :: T4,{ ids:=[t + 7],ro:=false,wr:=[t + 7] }):=by
  intro call thaw dst x y
  rw [PI (by kernel_rfl) (by kernel_rfl) rfl (h:=rdO c (p + 1 + 1 + 1 + 1) :: T3) (id:=t + 7) (cs:=ints row) (esz:=1) (by rw [show t + 7 = t + 6 + 1 by omega,List.getElem?_cons_succ]; exact t3r) (by simp [ints]; omega)]
  rw [show t + 7 = t + 6 + 1 by omega,List.set_cons_succ,hset,h4]
 have hrefs:aB 7 (nx.set t (row.set j v)) = aB 7 nx:=F4 (by rw [hrw]; simp)
 have hlen:(nx.set t (row.set j v)).length = nx.length:=by simp
 obtain ⟨T7,h2',h7,g7,st_out,st_keep,st_trim⟩:=aA7 (c:=c) (p:=p + 1 + 1 + 1 + 1) (al:=al) (nx:=nx.set t (row.set j v)) (ac:=ac) t43 (by rw [hrefs,k4 _ (by omega),t4]) (by rw [k4 _ (by omega),t5]) (fun i r hr => by
  rw [List.getElem?_set] at hr
  by_cases e:t = i
  ·subst e
   rw [if_pos rfl,if_pos ht] at hr
   cases hr
   exact g4
  ·rw [if_neg e] at hr
   rw [k4 _ (by omega)]
   exact tr i r hr)
 unfold autD at st_out ⊢
 rw [hlen] at st_out h7 g7 ⊢
 have hti:(t:Int) < nx.length:=by omega
 have ht0:(0:Int) ≤ t:=by omega
 have hn0:¬ ((nx.length:Int) = 0):=by omega
 have hji:(j:Int) < row.length:=by omega
 have hj0:(0:Int) ≤ j:=by omega
 have hr0:(0:Int) < row.length:=by omega
 clear tr h1 wg k4 l4 hset hrow hrefs
 obtain _ | n:=n; omega
 rw [kL]
 simp only [kG,Tryd.f49,SLM,simprocAttr]
 simp -implicitDefEqProofs (maxSteps:=2000000) (disch:=try exact Dz) only [↓DN,↓kAsg,↓kRet,UP,simprocAttr,LA,↓kd1,↓kd2,↓kd3,↓kd4,↓kd5,l1,h2,b2,h3,l3,t3,t4,t5,tb,t3r,hti,ht0,hn0,hji,hj0,hr0,hd7,↓st_sto,t4b,t43,h7,g7,Int.toNat_natCast,d7,eD,dW,d9,↓st_out,↓st_keep,↓st_trim,Nat.sub_self,List.range'_zero,List.append_nil,List.append_assoc,List.cons_append,List.nil_append]
end Ev
end Go.Proofs.YtppdfjdfjfoddaaDoor
