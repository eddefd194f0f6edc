/-
  Automata that are drawn: one state more.
-/
import Derived.Test.YtppdfjdfjfoddaaDoorChange
import Derived.Test.YtppdfjdfjfoddaaDoorWrongA
import Derived.Tactics
import Derived.Test.YtppdfjdfjfoddaaDoorMemD
import Derived.Test.YtppdfjdfjfoddaaDoorDrawR
set_option linter.unusedSimpArgs false
set_option linter.unusedVariables false
set_option maxRecDepth 8000
set_option maxHeartbeats 4000000
namespace Go.Proofs.YtppdfjdfjfoddaaDoor
namespace Ev
theorem aIh {c:List UInt8} (hc:c.length ≤ 2000) (al:Int) (nx:List (List Int)) (ac:List Bool) (hs:bA nx) (ha:ac.length ≤ 4294967290) (p:Int) (t:Nat) (ht:t < nx.length) (h12:nx.length < 12) (hta:t < ac.length) {row:List Int} (hrw:nx.getD t [] = row) (hr0:0 < row.length) (hrl:row.length ≤ 4294967290) {bt:Bool} (hbt:ac.getD t false = bt)
  (kd1:(Dw 1 48 [.d (.int .i64 (nx.length))] (.d (.int .i64 ((t:Int)))) c p (p + 1)))
  (kd2:(Dw 1 48 [.d (.int .i64 4)] (.d (.int .i64 2)) c (p + 1) (p + 1 + 1))):(Dw 4 49 [autD al nx ac] (autD al (nx.set t (row.set 0 nx.length) ++ [row]) (ac ++ [bt])) c p (p + 1 + 1)):=by
 intro R L n hq k hn hL
 refine eO IM (by simp [autD,idsA,idsL]) (by simp [autD,idsA,idsL]) ?_
 have hnl:=hs.1
 have h1:1 ≤ nx.length:=by omega
 obtain ⟨N,T1,T2,T3,w⟩:=oY (.box [.d (.int .i64 al),.d (.ivs nx.length (aJ nx)),.d (.ivs ac.length (aK ac))]) (.box [.d (.int .i64 0),.sl 2 0 0 0,.sl 3 0 0 0]) al nx ac
 have kd3:=fun {R:Type} {n:Nat} {o1:O} {k:A → H → Option R} (hn:2 ≤ n) => qX (R:=R) (L:=L) (n:=n) (o1:=o1) (al:=al) (k:=k) w.h1 hs h1 (by omega) hn hL
 obtain ⟨hN,hT1,l1,h2,b2,h3,l3,t3,t4,t5,tr,tb,e3,wg⟩:=w
 simp only [gZ,idsL,idsA,List.length_nil,List.length_cons,List.nil_append,List.cons_append,Nat.zero_add] at wg
 clear e3
 clear hT1
 have hrow:nx[t]? = some row:=by rw [← hrw,List.getD_eq_getElem?_getD,List.getElem?_eq_getElem ht]; rfl
 have hd7:((aB 7 nx ++ aF 0).drop t).head? = some (.sl (t + 7) 0 0 row.length):=by rw [oV ht,hrw]
 have hlv:(aB 7 nx ++ aF 0).length = nx.length:=by rw [List.length_append,j6]; rfl
 have htk:(aB 7 nx ++ aF 0).take nx.length = aB 7 nx:=H2 rfl
 have t3r:T3[t + 6]? = some (.arr (ints row) 1 0):=tr _ _ hrow
 obtain ⟨T4,h4⟩:∃ T,T3 ++ [.arr [] 1 0] = T:=⟨_,rfl⟩
 obtain ⟨l4,g4,k4⟩:=nS h4
 rw [l3] at l4 g4 k4
 obtain ⟨T5,h5⟩:∃ T,T4.set (N + 1 + 1 + 1) (.arr (ints row) 1 1) = T:=⟨_,rfl⟩
 obtain ⟨l5,g5,k5⟩:=dV h5 (by omega)
 obtain ⟨T6,h6⟩:∃ T,T5 ++ [.vec [.sl (N + 1 + 1 + 1 + 1) 1 0 row.length] 1 0] = T:=⟨_,rfl⟩
 obtain ⟨l6,g6,k6⟩:=nS h6
 rw [l5,l4] at l6 g6 k6
 obtain ⟨T7,h7⟩:∃ T,T6.set 4 (.vec (aB 7 nx ++ [.sl (N + 1 + 1 + 1 + 1) 1 0 row.length]) 1 1) = T:=⟨_,rfl⟩
 obtain ⟨l7,g7,k7⟩:=dV h7 (by omega)
 obtain ⟨T8,h8⟩:∃ T,T7.set (N + 1 + 1) (.box [.d (.int .i64 al),.sl 5 1 0 (nx.length + 1),.sl 6 0 0 ac.length]) = T:=⟨_,rfl⟩
 obtain ⟨l8,g8,k8⟩:=dV h8 (by omega)
 obtain ⟨T9,h9⟩:∃ T,T8 ++ [.arr [.bool bt] 1 0] = T:=⟨_,rfl⟩
 obtain ⟨l9,g9,k9⟩:=nS h9
 rw [l8,l7,l6] at l9 g9 k9
 obtain ⟨T10,h10⟩:∃ T,T9.set 5 (.arr (aK (ac ++ [bt])) 1 1) = T:=⟨_,rfl⟩
 obtain ⟨l10,g10,k10⟩:=dV h10 (by omega)
 obtain ⟨T11,h11⟩:∃ T,T10.set (N + 1 + 1) (.box [.d (.int .i64 al),.sl 5 1 0 (nx.length + 1),.sl 6 1 0 (ac.length + 1)]) = T:=⟨_,rfl⟩
 obtain ⟨l11,g11,k11⟩:=dV h11 (by omega)
 obtain ⟨T12,h12'⟩:∃ T,T11.set (t + 6) (.arr (ints (row.set 0 nx.length)) 1 0) = T:=⟨_,rfl⟩
 obtain ⟨l12,g12,k12⟩:=dV h12' (by omega)
 obtain ⟨T13,h13⟩:∃ T,T12.set 3 (.box [.d (.int .i64 al),.sl 5 1 0 (nx.length + 1),.sl 6 1 0 (ac.length + 1)]) = T:=⟨_,rfl⟩
 obtain ⟨l13,g13,k13⟩:=dV h13 (by omega)
 have w4:wgt T4 = wgt T3:=by rw [← h4,EM]; simp [gZ]
 have w5:wgt T5 ≤ wgt T4:=by rw [← h5]; have:=nV (h:=T4) (i:=N + 1 + 1 + 1) (o:=.arr (ints row) 1 1); simpa [gZ] using this
 have w6:wgt T6 = wgt T5 + 1:=by rw [← h6,EM]; simp [gZ,idsL,idsA]
 have w7:wgt T7 ≤ wgt T6 + nx.length + 1:=by
  rw [← h7]
  have:=nV (h:=T6) (i:=4) (o:=.vec (aB 7 nx ++ [.sl (N + 1 + 1 + 1 + 1) 1 0 row.length]) 1 1)
  simp only [gZ,bW,c9,idsL,idsA,List.length_append,List.length_range',List.length_cons,List.length_nil] at this
  omega
 have w8:wgt T8 ≤ wgt T7 + 2:=by
  rw [← h8]
  have:=nV (h:=T7) (i:=N + 1 + 1) (o:=.box [.d (.int .i64 al),.sl 5 1 0 (nx.length + 1),.sl 6 0 0 ac.length])
  simpa [gZ,idsL,idsA] using this
 have w9:wgt T9 = wgt T8:=by rw [← h9,EM]; simp [gZ]
 have w10:wgt T10 ≤ wgt T9:=by rw [← h10]; have:=nV (h:=T9) (i:=5) (o:=.arr (aK (ac ++ [bt])) 1 1); simpa [gZ] using this
 have t4b:T4[N + 1 + 1]? = some (.box [.d (.int .i64 al),.sl 5 0 0 nx.length,.sl 6 0 0 ac.length]):=by rw [k4 _ (by omega),tb]
 have t44:T4[4]? = some (.vec (aB 7 nx ++ aF 0) 1 0):=by rw [k4 _ (by omega),t4]
 have t4r:T4[t + 6]? = some (.arr (ints row) 1 0):=by rw [k4 _ (by omega),t3r]
 have t64:T6[4]? = some (.vec (aB 7 nx ++ aF 0) 1 0):=by rw [k6 _ (by omega),k5 _ (by omega),t44]
 have t6e:T6[N + 1 + 1 + 1]? = some (.arr (ints row) 1 1):=by rw [k6 _ (by omega),g5]
 have t7b:T7[N + 1 + 1]? = some (.box [.d (.int .i64 al),.sl 5 0 0 nx.length,.sl 6 0 0 ac.length]):=by rw [k7 _ (by omega),k6 _ (by omega),k5 _ (by omega),t4b]
 have t85:T8[5]? = some (.arr (aK ac) 1 0):=by rw [k8 _ (by omega),k7 _ (by omega),k6 _ (by omega),k5 _ (by omega),k4 _ (by omega),t5]
 have t9b:T9[N + 1 + 1]? = some (.box [.d (.int .i64 al),.sl 5 1 0 (nx.length + 1),.sl 6 0 0 ac.length]):=by rw [k9 _ (by omega),g8]
 have t95:T9[5]? = some (.arr (aK ac) 1 0):=by rw [k9 _ (by omega),t85]
 have t10b:T10[N + 1 + 1]? = some (.box [.d (.int .i64 al),.sl 5 1 0 (nx.length + 1),.sl 6 0 0 ac.length]):=by rw [k10 _ (by omega),t9b]
 have t94:T9[4]? = some (.vec (aB 7 nx ++ [.sl (N + 1 + 1 + 1 + 1) 1 0 row.length]) 1 1):=by rw [k9 _ (by omega),k8 _ (by omega),g7]
 have t114:T11[4]? = some (.vec (aB 7 nx ++ [.sl (N + 1 + 1 + 1 + 1) 1 0 row.length]) 1 1):=by rw [k11 _ (by omega),k10 _ (by omega),t94]
 have tr9:∀ (i:Nat) (r:List Int),nx[i]? = some r → T9[i + 6]? = some (.arr (ints r) 1 0):=by
  intro i r hr
  have hi:i < nx.length:=(List.getElem?_eq_some_iff.1 hr).1
  rw [k9 _ (by omega),k8 _ (by omega),k7 _ (by omega),k6 _ (by omega),k5 _ (by omega),k4 _ (by omega)]
  exact tr i r hr
 have t11r:T11[t + 6]? = some (.arr (ints row) 1 0):=by rw [k11 _ (by omega),k10 _ (by omega)]; exact tr9 _ _ hrow
 have t12b:T12[N + 1 + 1]? = some (.box [.d (.int .i64 al),.sl 5 1 0 (nx.length + 1),.sl 6 1 0 (ac.length + 1)]):=by rw [k12 _ (by omega),g11]
 have t123:T12[3]? = some (.box [.d (.int .i64 0),.sl 2 0 0 0,.sl 3 0 0 0]):=by rw [k12 _ (by omega),k11 _ (by omega),k10 _ (by omega),k9 _ (by omega),k8 _ (by omega),k7 _ (by omega),k6 _ (by omega),k5 _ (by omega),k4 _ (by omega),t3]
 have up:∀ (T:H) (i:Nat) (o:O),T[i]? = some o → (rdO c (p + 1 + 1) :: T)[i + 1]? = some o:=fun T i o h => by rw [List.getElem?_cons_succ]; exact h
 have row6:∀ i,i < nx.length → T6[i + 6]? = some (.arr (ints (nx.getD i [])) 1 0):=by
  intro i hi
  rw [k6 _ (by omega),k5 _ (by omega),k4 _ (by omega)]
  refine tr i _ ?_
  rw [List.getD_eq_getElem?_getD,List.getElem?_eq_getElem hi]; rfl
 have st_app1:∀ {call:a9} {thaw:List Nat} {dst:Option Tmp} {args:Array Operand},memD env call thaw dst (.call ⟨.builtin .append,args,#[32,32]⟩) (rdO c (p + 1 + 1) :: T4) [.sl (N + 1 + 1 + 1 + 1) 0 0 0,.sl (t + 7) 0 0 row.length] = some (.sl (N + 1 + 1 + 1 + 1) 1 0 row.length,rdO c (p + 1 + 1) :: T5,{ ids:=[N + 1 + 1 + 1 + 1,t + 7],ro:=false,wr:=[N + 1 + 1 + 1 + 1] }):=by
  intro call thaw dst args
  rw [MZ (e:=3) (e0:=1) (n2:=row.length) (len:=0) (cs:=[]) (src:=ints row) rfl d9 (by kernel_rfl) (up T4 _ _ g4) (.inr rfl) (up T4 (t + 6) _ t4r) (by simp [ints]) (by simp) (by unfold b5; omega) (by omega)]
  rw [List.set_cons_succ,← h5]
  simp
 have st_vec:∀ {call:a9} {thaw:List Nat} {dst:Option Tmp} {x:Operand},Shut (ER thaw dst = true) → memD env call thaw dst (.buildSlice 23 1 #[(0,x)]) (rdO c (p + 1 + 1) :: T5) [.sl (N + 1 + 1 + 1 + 1) 1 0 row.length] = some (.sl (N + 1 + 1 + 1 + 1 + 1) 0 0 1,rdO c (p + 1 + 1) :: T6,{ ids:=[N + 1 + 1 + 1 + 1,N + 1 + 1 + 1 + 1 + 1],ro:=false }):=by
  intro call thaw dst x hk
  rw [aFT (e:=32) (cs:=ints row) (es:=1) hk.it rfl (by kernel_rfl) eD (by kernel_rfl) (up T5 _ _ g5)]
  rw [List.cons_append,h6,List.length_cons,l5,l4]
 have ok65:Okay (rdO c (p + 1 + 1) :: T6) 5:=SG (x:=aF 0) (up T6 4 _ t64) (fun j hj => sG (up T6 (j + 6) _ (row6 j hj))) (by intro q hq; simp [eM] at hq)
 have ok6e:Okay (rdO c (p + 1 + 1) :: T6) (N + 1 + 1 + 1 + 1 + 1):=aGS (up T6 _ _ g6) (by
  intro q hq
  simp [idsL,idsA] at hq
  subst hq
  exact sG (up T6 _ _ t6e))
 obtain ⟨o1,ho1⟩:∃ o,o = aC aE (rdO c (p + 1 + 1) :: T6) [5,N + 1 + 1 + 1 + 1 + 1] []:=⟨_,rfl⟩
 have st_app2:∀ {call:a9} {thaw:List Nat} {dst:Option Tmp} {args:Array Operand},memD env call thaw dst (.call ⟨.builtin .append,args,#[23,23]⟩) (rdO c (p + 1 + 1) :: T6) [.sl 5 0 0 nx.length,.sl (N + 1 + 1 + 1 + 1 + 1) 0 0 1] = some (.sl 5 1 0 (nx.length + 1),rdO c (p + 1 + 1) :: T7,{ ids:=o1,ro:=false,wr:=[5] }):=by
  intro call thaw dst args
  rw [XA (e:=32) rfl eD (by kernel_rfl) (id:=5) (id2:=N + 1 + 1 + 1 + 1 + 1) (g:=0) (g2:=0) (len:=nx.length) (cs:=aB 7 nx ++ aF 0) (c:=.sl (N + 1 + 1 + 1 + 1) 1 0 row.length) (up T6 4 _ t64) (up T6 _ _ g6) (by omega) (by unfold b5; omega) ok65 ok6e (by rw [p9]; simp only [gZ,idsL,idsA,List.nil_append,List.length_nil]; omega),← ho1,htk]
  rw [List.set_cons_succ,h7]
 have row7:∀ i,i < nx.length → T7[i + 6]? = some (.arr (ints (nx.getD i [])) 1 0):=fun i hi => by rw [k7 _ (by omega)]; exact row6 i hi
 have t7e:T7[N + 1 + 1 + 1]? = some (.arr (ints row) 1 1):=by rw [k7 _ (by omega),t6e]
 have ok75:Okay (rdO c (p + 1 + 1) :: T7) 5:=SG (up T7 4 _ g7) (fun j hj => sG (up T7 (j + 6) _ (row7 j hj))) (by
  intro q hq
  simp [idsL,idsA] at hq
  subst hq
  exact sG (up T7 _ _ t7e))
 have ok7b:Okay (rdO c (p + 1 + 1) :: T7) (N + 2 + 1):=aHO (up T7 _ _ t7b) (by
  intro q hq
  simp [idsL,idsA] at hq
  rcases hq with rfl | rfl
  ·exact ok75
  ·exact sG (up T7 5 _ (by rw [k7 _ (by omega),k6 _ (by omega),k5 _ (by omega),k4 _ (by omega),t5])))
 obtain ⟨o2,ho2⟩:∃ o,o = aC aE (rdO c (p + 1 + 1) :: T7) [N + 2 + 1,5] []:=⟨_,rfl⟩
 have st_sto:∀ {call:a9} {thaw:List Nat} {dst:Option Tmp} {x y:Operand},memD env call thaw dst (.store 23 x y) (rdO c (p + 1 + 1) :: T7) [.ptr (N + 2 + 1) 0 1,.sl 5 1 0 (nx.length + 1)] = some (.d .undef,rdO c (p + 1 + 1) :: T8,{ ids:=o2,ro:=false,wr:=o2 }):=by
  intro call thaw dst x y
  rw [yB (by kernel_rfl) (by kernel_rfl) (h:=rdO c (p + 1 + 1) :: T7) (id:=N + 2 + 1) (id2:=5) (off:=1) (cs:=[.d (.int .i64 al),.sl 5 0 0 nx.length,.sl 6 0 0 ac.length]) (up T7 _ _ t7b) (by simp) ok7b ok75 (by rw [p9]; simp only [gZ,idsL,idsA,List.nil_append,List.length_nil]; omega),← ho2]
  rw [List.set_cons_succ]
  unfold bN
  rw [← h8]
  rfl
 have hbh:(((aK ac).drop t).map A.d).head? = some (.d (.bool bt)):=by rw [HZ hta,hbt]
 have st_app3:∀ {call:a9} {thaw:List Nat} {dst:Option Tmp} {args:Array Operand},memD env call thaw dst (.call ⟨.builtin .append,args,#[24,24]⟩) (rdO c (p + 1 + 1) :: T9) [.sl 6 0 0 ac.length,.sl (N + 1 + 1 + 1 + 1 + 1 + 1) 0 0 1] = some (.sl 6 1 0 (ac.length + 1),rdO c (p + 1 + 1) :: T10,{ ids:=[6,N + 1 + 1 + 1 + 1 + 1 + 1],ro:=false,wr:=[6] }):=by
  intro call thaw dst args
  rw [MZ (e:=4) (e0:=1) (n2:=1) (len:=ac.length) (cs:=aK ac) (src:=[.bool bt]) rfl tD (by kernel_rfl) (up T9 5 _ t95) (.inr rfl) (up T9 _ _ g9) rfl (by rw [fO]; omega) (by unfold b5; omega) (by omega)]
  rw [List.set_cons_succ,oX (Nat.le_refl _),x3,h10]
 have row10:∀ i,i < nx.length → T10[i + 6]? = some (.arr (ints (nx.getD i [])) 1 0):=fun i hi => by
  rw [k10 _ (by omega),k9 _ (by omega),k8 _ (by omega)]; exact row7 i hi
 have ok105:Okay (rdO c (p + 1 + 1) :: T10) 5:=SG (up T10 4 _ (by rw [k10 _ (by omega),t94])) (fun j hj => sG (up T10 (j + 6) _ (row10 j hj))) (by
  intro q hq
  simp [idsL,idsA] at hq
  subst hq
  exact sG (up T10 _ _ (by rw [k10 _ (by omega),k9 _ (by omega),k8 _ (by omega),t7e])))
 have ok106:Okay (rdO c (p + 1 + 1) :: T10) 6:=sG (up T10 5 _ g10)
 have ok10b:Okay (rdO c (p + 1 + 1) :: T10) (N + 2 + 1):=aHO (up T10 _ _ t10b) (by
  intro q hq
  simp [idsL,idsA] at hq
  rcases hq with rfl | rfl
  ·exact ok105
  ·exact ok106)
 obtain ⟨o3,ho3⟩:∃ o,o = aC aE (rdO c (p + 1 + 1) :: T10) [N + 2 + 1,6] []:=⟨_,rfl⟩
 have st_sto2:∀ {call:a9} {thaw:List Nat} {dst:Option Tmp} {x y:Operand},memD env call thaw dst (.store 24 x y) (rdO c (p + 1 + 1) :: T10) [.ptr (N + 2 + 1) 0 2,.sl 6 1 0 (ac.length + 1)] = some (.d .undef,rdO c (p + 1 + 1) :: T11,{ ids:=o3,ro:=false,wr:=o3 }):=by
  intro call thaw dst x y
  rw [yB (by kernel_rfl) (by kernel_rfl) (h:=rdO c (p + 1 + 1) :: T10) (id:=N + 2 + 1) (id2:=6) (off:=2) (cs:=[.d (.int .i64 al),.sl 5 1 0 (nx.length + 1),.sl 6 0 0 ac.length]) (up T10 _ _ t10b) (by simp) ok10b ok106 (by rw [p9]; simp only [gZ,idsL,idsA,List.nil_append,List.length_nil]; omega),← ho3]
  rw [List.set_cons_succ]
  unfold bN
  rw [← h11]
  rfl
 have hcl1:∀ (ops:List Oper) (w:List Nat),w = [N + 1 + 1 + 1 + 1] → sO [(1,2),(2,4),(2,6),(2,7),(1,8),(1,9)] ops [{},{ ids:=[N + 2 + 1],ro:=true },{ ids:=[N + 1 + 1 + 1 + 1],ro:=false },{},{ ids:=[N + 2 + 1],ro:=true },{},{ ids:=[5],ro:=true },{ ids:=[5],ro:=true },{ ids:=[N + 1 + 1 + 1 + 1,t + 7],ro:=false,wr:=[N + 1 + 1 + 1 + 1] },{ ids:=[N + 1 + 1 + 1 + 1,N + 1 + 1 + 1 + 1 + 1],ro:=false },{ ids:=o1,ro:=false,wr:=[5] },{},{ ids:=o2,ro:=false }] = true → iS ops (([]:List Foot) ++ [({}:Foot)] ++ [({ ids:=idsA (A.ptr (N + 2 + 1) 0 1) }:Foot)] ++ [({ ids:=[N + 1 + 1 + 1 + 1],ro:=false,wr:=w }:Foot)] ++ [({}:Foot)] ++ [({ ids:=idsA (A.ptr (N + 2 + 1) 0 1) }:Foot)] ++ [({}:Foot)] ++ [({ ids:=idsA (A.sl 5 0 0 nx.length) }:Foot)] ++ [({ ids:=idsA (A.ptr 5 0 t) }:Foot)] ++ [({ ids:=[N + 1 + 1 + 1 + 1,t + 7],ro:=false,wr:=[N + 1 + 1 + 1 + 1] }:Foot)] ++ [({ ids:=[N + 1 + 1 + 1 + 1,N + 1 + 1 + 1 + 1 + 1],ro:=false }:Foot)] ++ [({ ids:=o1,ro:=false,wr:=[5] }:Foot)] ++ [({}:Foot)] ++ [({ ids:=o2,ro:=false }:Foot)]) = true:=by
  intro ops w hw hm
  subst hw
  have key:iS ops [{},{ ids:=[N + 2 + 1],ro:=true },{ ids:=[N + 1 + 1 + 1 + 1],ro:=false },{},{ ids:=[N + 2 + 1],ro:=true },{},{ ids:=[5],ro:=true },{ ids:=[5],ro:=true },{ ids:=[N + 1 + 1 + 1 + 1,t + 7],ro:=false,wr:=[N + 1 + 1 + 1 + 1] },{ ids:=[N + 1 + 1 + 1 + 1,N + 1 + 1 + 1 + 1 + 1],ro:=false },{ ids:=o1,ro:=false,wr:=[5] },{},{ ids:=o2,ro:=false }] = true:=by
   refine BL _ hm ?_
   intro q hq
   simp only [List.mem_cons,List.not_mem_nil,or_false] at hq
   rcases hq with rfl | rfl | rfl | rfl | rfl | rfl <;> simp [oT] <;> omega
  exact key
 have hcl2:∀ (ops:List Oper) (w:List Nat),w = [N + 1 + 1 + 1 + 1 + 1 + 1] → sO [(1,7)] ops [{},{ ids:=[N + 2 + 1],ro:=true },{},{ ids:=[N + 2 + 1],ro:=true },{},{ ids:=[6],ro:=true },{ ids:=[6],ro:=true },{ ids:=[N + 1 + 1 + 1 + 1 + 1 + 1],ro:=false },{ ids:=[6,N + 1 + 1 + 1 + 1 + 1 + 1],ro:=false,wr:=[6] },{},{ ids:=o3,ro:=false }] = true → iS ops (([]:List Foot) ++ [({}:Foot)] ++ [({ ids:=idsA (A.ptr (N + 2 + 1) 0 2) }:Foot)] ++ [({}:Foot)] ++ [({ ids:=idsA (A.ptr (N + 2 + 1) 0 2) }:Foot)] ++ [({}:Foot)] ++ [({ ids:=idsA (A.sl 6 0 0 ac.length) }:Foot)] ++ [({ ids:=idsA (A.ptr 6 0 t) }:Foot)] ++ [({ ids:=[N + 1 + 1 + 1 + 1 + 1 + 1],ro:=false,wr:=w }:Foot)] ++ [({ ids:=[6,N + 1 + 1 + 1 + 1 + 1 + 1],ro:=false,wr:=[6] }:Foot)] ++ [({}:Foot)] ++ [({ ids:=o3,ro:=false }:Foot)]) = true:=by
  intro ops w hw hm
  subst hw
  have key:iS ops [{},{ ids:=[N + 2 + 1],ro:=true },{},{ ids:=[N + 2 + 1],ro:=true },{},{ ids:=[6],ro:=true },{ ids:=[6],ro:=true },{ ids:=[N + 1 + 1 + 1 + 1 + 1 + 1],ro:=false },{ ids:=[6,N + 1 + 1 + 1 + 1 + 1 + 1],ro:=false,wr:=[6] },{},{ ids:=o3,ro:=false }] = true:=by
   refine BL _ hm ?_
   intro q hq
   simp only [List.mem_cons,List.not_mem_nil,or_false] at hq
   rcases hq with rfl <;> simp [oT] <;> omega
  exact key
 have hlen:(nx.set t (row.set 0 nx.length) ++ [row]).length = nx.length + 1:=by simp
 have hlen2:(ac ++ [bt]).length = ac.length + 1:=by simp
 have hrefs:aB 7 (nx.set t (row.set 0 nx.length)) = aB 7 nx:=F4 (by rw [hrw]; simp)
 have hv:rd1 (rdO c (p + 1 + 1) :: T13) (.sl 5 1 0 (nx.length + 1)) = some (.ivs (nx.set t (row.set 0 nx.length) ++ [row]).length (aJ (nx.set t (row.set 0 nx.length) ++ [row]))):=by
  refine zZ (cs:=aB 7 (nx.set t (row.set 0 nx.length)) ++ [.sl (N + 1 + 1 + 1 + 1) 1 0 row.length]) ?_ ?_ hlen.symm
  ·rw [hrefs]; exact up T13 4 _ (by rw [k13 _ (by omega),k12 _ (by omega),t114])
  ·refine aIu (fun i r hr => ?_) (up T13 _ _ (by rw [k13 _ (by omega),k12 _ (by omega),k11 _ (by omega),k10 _ (by omega),k9 _ (by omega),k8 _ (by omega),t7e]))
   refine up T13 (i + 6) _ ?_
   rw [List.getElem?_set] at hr
   by_cases e:t = i
   ·subst e
    rw [if_pos rfl,if_pos ht] at hr
    cases hr
    rw [k13 _ (by omega)]; exact g12
   ·rw [if_neg e] at hr
    have hi:i < nx.length:=(List.getElem?_eq_some_iff.1 hr).1
    rw [k13 _ (by omega),k12 _ (by omega),k11 _ (by omega),k10 _ (by omega)]
    exact tr9 i r hr
 have hw:rd1 (rdO c (p + 1 + 1) :: T13) (.sl 6 1 0 (ac.length + 1)) = some (.ivs (ac ++ [bt]).length (aK (ac ++ [bt]))) :=
  sF (up T13 5 _ (by rw [k13 _ (by omega),k12 _ (by omega),k11 _ (by omega),g10])) hlen2.symm
 obtain ⟨h2',st_out,st_keep,st_trim⟩:=vF (al:=al) hv hw (by omega) (by omega)
 unfold autD at st_out ⊢
 rw [hlen,hlen2] at st_out ⊢
 have hd7x:((aB 7 nx ++ [A.sl (N + 1 + 1 + 1 + 1) 1 0 row.length]).drop t).head? = some (.sl (t + 7) 0 0 row.length):=by rw [aJE ht,hrw]
 have hput:∀ v:Int,(ints row).drop 1 = ints (row.drop 1):=fun v => by simp [ints]
 have hset0:D.int .i64 (nx.length:Int) :: List.drop 1 (ints row) = ints (row.set 0 nx.length):=by
  cases row with
  | nil => simp at hr0
  | cons x xs => simp [ints]
 have hti:(t:Int) < nx.length:=by omega
 have hti1:(t:Int) < (nx.length:Int) + 1:=by omega
 have ht0:(0:Int) ≤ t:=by omega
 have hn0:¬ ((nx.length:Int) = 0):=by omega
 have hn12:(nx.length:Int) < 12:=by omega
 have hta':(t:Int) < ac.length:=by omega
 have hr0':(0:Int) < row.length:=by omega
 have hr1:1 ≤ (ints row).length:=by simp [ints]; omega
 have l8':T8.length = N + 1 + 1 + 1 + 1 + 1:=by omega
 clear hv hw k4 k5 k6 k7 k8 k9 k10 k11 k12 k13 tr tr9 h1 l4 l5 l6 l7 l8 l9 l10 l11 l12 l13 wg w4 w5 w6 w7 w8 w9 w10 hrow ok65 ok6e ok75 ok7b ok105 ok106 ok10b row6 row7 row10 ho1 ho2 ho3 up hlv htk hrefs hput
 obtain _ | n:=n; omega
 rw [kL]
 simp only [kG,Tryd.f49,SLM,simprocAttr]
 simp -implicitDefEqProofs (maxSteps:=2000000) (disch:=first | assumption | (refine Shut.mk ?_; exact hcl1 _ _ (by kernel_rfl) (by kernel_rfl)) | (refine Shut.mk ?_; exact hcl2 _ _ (by kernel_rfl) (by kernel_rfl)) | (refine Shut.mk ?_; kernel_rfl) | omega | (simp only [GT]; done) | (simp only [LN] <;> omega) | fail) only [↓DN,↓kAsg,↓kRet,UP,simprocAttr,LA,↓kd1,↓kd2,↓kd3,l1,h2,b2,h3,l3,t3,t4,t5,tb,t3r,hti,hti1,ht0,hn0,hn12,hta',hr0',hd7,h4,t4b,t44,↓st_app1,↓st_vec,↓st_app2,↓st_sto,g8,t85,l8',hbh,h9,↓st_app3,↓st_sto2,g11,t114,hd7x,t11r,hr1,hset0,h12',t12b,t123,h13,g13,Int.toNat_natCast,vS,tD,d7,eD,dW,d9,↓st_out,↓st_keep,↓st_trim,Nat.sub_self,List.range'_zero,List.append_nil,List.append_assoc,List.cons_append,List.nil_append]
theorem aI2 {c:List UInt8} (hc:c.length ≤ 2000) {B:Nat} (hB:B ≤ 4294966000) (al:Int) (nx:List (List Int)) (ac:List Bool) (hb:AutB B nx ac) (h1:1 ≤ nx.length) (p:Int) (hp:0 ≤ p) (hp2:p ≤ 890000000) :
  ∃ (nx2:List (List Int)) (ac2:List Bool) (q:Int),AutB (B + 1) nx2 ac2 ∧ 1 ≤ nx2.length ∧ p ≤ q ∧ q ≤ p + 4 ∧ (Dw 4 49 [autD al nx ac] (autD al nx2 ac2) c p q):=by
 have hs:=hb.short (by omega)
 have hn:=hb.n
 have hba:=hb.a
 obtain ⟨k,k0,k1,_,kd1⟩:=jV hc p nx.length hp (by omega)
 obtain ⟨u,u0,u1,_,kd2⟩:=jV hc (p + 1) 4 (by omega) (by omega)
 have k1:=k1 (by omega)
 obtain ⟨t,rfl⟩:∃ t:Nat,k = t:=⟨k.toNat,by omega⟩
 have ht:t < nx.length:=by omega
 have hrt:=hb.at t
 have same:=fun hcase => aGq hc al nx ac hs h1 (by omega) p u t ht hcase kd1 kd2
 by_cases hu0:u = 0
 ·by_cases hta:t < ac.length
  ·subst hu0
   refine ⟨nx,_,_,⟨by omega,by rw [List.length_set]; omega,fun r hr => ?_⟩,h1,by omega,by omega,aIU hc al nx ac hs h1 (by omega) p t hta kd1 kd2⟩
   have:=hb.r r hr; omega
  ·exact ⟨nx,ac,_,hb.mono (by omega),h1,by omega,by omega,same (.inl ⟨hu0,by omega⟩)⟩
 by_cases hu1:u = 1
 ·by_cases h0:(nx.getD t []).length = 0
  ·exact ⟨nx,ac,_,hb.mono (by omega),h1,by omega,by omega,same (.inr (.inl ⟨hu1,h0⟩))⟩
  ·subst hu1
   obtain ⟨v,v0,v1,_,kd4⟩:=jV hc (p + 1 + 1) (nx.getD t []).length (by omega) (by omega)
   have v1:=v1 (by omega)
   obtain ⟨j,rfl⟩:∃ j:Nat,v = j:=⟨v.toNat,by omega⟩
   obtain ⟨w,w0,w1,_,kd5⟩:=jV hc (p + 1 + 1 + 1) nx.length (by omega) (by omega)
   refine ⟨_,ac,_,⟨by rw [List.length_set]; omega,by omega,fun r hr => ?_⟩,by rw [List.length_set]; exact h1,by omega,by omega,aH7 hc al nx ac hs h1 (by omega) p w t j ht (by omega) kd1 kd2 kd4 kd5⟩
   rcases List.mem_or_eq_of_mem_set hr with h | h
   ·have:=hb.r r h; omega
   ·rw [h,List.length_set]; omega
 by_cases hu2:u = 2
 ·by_cases h3:nx.length < 12 ∧ t < ac.length ∧ 0 < (nx.getD t []).length
  ·subst hu2
   refine ⟨_,_,_,⟨?_,?_,fun r hr => ?_⟩,?_,by omega,by omega,aIh hc al nx ac hs (by omega) p t ht h3.1 h3.2.1 rfl h3.2.2 (by omega) rfl kd1 kd2⟩
   ·rw [List.length_append,List.length_set,List.length_cons,List.length_nil]; omega
   ·rw [List.length_append,List.length_cons,List.length_nil]; omega
   ·rcases List.mem_append.1 hr with h | h
    ·rcases List.mem_or_eq_of_mem_set h with h | h
     ·have:=hb.r r h; omega
     ·rw [h,List.length_set]; omega
    ·simp only [List.mem_singleton] at h
     rw [h]; omega
   ·rw [List.length_append,List.length_set,List.length_cons,List.length_nil]; omega
  ·exact ⟨nx,ac,_,hb.mono (by omega),h1,by omega,by omega,same (.inr (.inr (.inl ⟨hu2,by omega⟩)))⟩
 exact ⟨nx,ac,_,hb.mono (by omega),h1,by omega,by omega,same (.inr (.inr (.inr ⟨hu0,hu1,hu2⟩)))⟩
theorem aJ1:(env.hint 20).mode = 0:=by kernel_rfl
theorem aGk {c:List UInt8} (hc:c.length ≤ 2000) (al:Int):∀ (j:Nat) (p:Int) (nx:List (List Int)) (ac:List Bool) (B:Nat) (hB:B + j ≤ 1000) (hb:AutB B nx ac) (h1:1 ≤ nx.length) (hp:0 ≤ p) (hp2:p + 4 * j ≤ 890000000),
  ∃ (nx2:List (List Int)) (ac2:List Bool) (q:Int),AutB (B + j) nx2 ac2 ∧ 1 ≤ nx2.length ∧ p ≤ q ∧ q ≤ p + 4 * j ∧ ∀ (R:Type) (L n m:Nat) (k:Exit → List A → H → Option R),5 ≤ n → 2 ^ 60 ≤ L → j < m →
  aO env (aA env L n) L 1 [] (U1 (Z1 (U2 (U1 (Z16 (Z4 (Z2 (Z1 ([]))))))))) (AY 0) (Z1 (U1 (Z2 (Z1 (U16 (U4 (U2 (U1 ([]))))))))) m (.ptr 0 0 0 :: Y1 (.ptr 1 0 0 :: .ptr 2 0 0 :: .d (.int .i64 ((j:Int))) :: Y16 (Y4 (Y2 (Y1 ([])))))) (rdO c p :: .box [.d (.int .i64 0),.sl 3 0 0 0,.sl 4 0 0 0] :: .box [.d (.int .i64 al),.d (.ivs nx.length (aJ nx)),.d (.ivs ac.length (aK ac))] :: .arr [] 0 0 :: .arr [] 0 0 :: []) k
  = k (.exit 0) (.ptr 0 0 0 :: Y1 (.ptr 1 0 0 :: .ptr 2 0 0 :: .d (.int .i64 0) :: Y16 (Y4 (Y2 (Y1 ([])))))) (rdO c q :: .box [.d (.int .i64 0),.sl 3 0 0 0,.sl 4 0 0 0] :: .box [.d (.int .i64 al),.d (.ivs nx2.length (aJ nx2)),.d (.ivs ac2.length (aK ac2))] :: .arr [] 0 0 :: .arr [] 0 0 :: []):=by
 intro j
 induction j with
 | zero =>
  intro p nx ac B hB hb h1 hp hp2
  refine ⟨nx,ac,p,hb,h1,by omega,by omega,fun R L n m k hn hL hm => ?_⟩
  obtain _ | m:=m; omega
  have e0:((0:Nat):Int) = 0:=rfl
  rw [e0]
  rw [Q0]
  simp only [O0,Tryd.f20,SLM,simprocAttr]
  simp -implicitDefEqProofs (maxSteps:=2000000) (disch:=try exact Dz) only [↓DN,↓kAsg,↓kRet,UP,simprocAttr,LA,Int.lt_irrefl]
 | succ j ih =>
  intro p nx ac B hB hb h1 hp hp2
  obtain ⟨nx1,ac1,q1,b1,g1,g2,g3,kd1⟩:=aI2 hc (B:=B) (by omega) al nx ac hb h1 p hp (by omega)
  obtain ⟨nx2,ac2,q2,b2,f1,f2,f3,kd2⟩:=ih q1 nx1 ac1 (B + 1) (by omega) b1 g1 (by omega) (by omega)
  refine ⟨nx2,ac2,q2,b2.mono (by omega),f1,by omega,by omega,fun R L n m k hn hL hm => ?_⟩
  obtain _ | m:=m; omega
  have kd2':=kd2 R L n m k hn hL (by omega)
  have e1:((j + 1:Nat):Int) - 1 = (j:Int):=by omega
  have hc1:(0:Int) < ((j + 1:Nat):Int):=by omega
  have hj:((j + 1:Nat):Int) ≤ 1000:=by omega
  generalize ((j + 1:Nat):Int) = z at *
  unfold autD at kd1
  clear ih kd2 b1 b2 hb
  rw [Q0]
  simp only [O0,Tryd.f20,SLM,simprocAttr]
  simp -implicitDefEqProofs (maxSteps:=2000000) (disch:=try exact Dz) only [↓DN,↓kAsg,↓kRet,UP,simprocAttr,LA,hc1,↓kd1,e1,↓kd2']
theorem aPq {c:List UInt8} (hc:c.length ≤ 2000) (p:Int) (hp:0 ≤ p) (hp2:p ≤ 700000000) :
  ∃ (al:Int) (nx:List (List Int)) (ac:List Bool) (q:Int),AutB 40 nx ac ∧ p ≤ q ∧ q ≤ p + 200 ∧ (Dw 16 20 [] (autD al nx ac) c p q):=by
 obtain ⟨al,nx,ac,q,g1,g2,g3,g4,g5,g6,kd1⟩:=aON hc p (by omega) (by omega)
 obtain ⟨v,v0,v1,_,kd2⟩:=jV hc q 3 (by omega) (by omega)
 have v1:=v1 (by omega)
 obtain ⟨j,rfl⟩:∃ j:Nat,v = j:=⟨v.toNat,by omega⟩
 obtain ⟨nx2,ac2,q2,b2,f1,f2,f3,kd3⟩:=aGk hc al j (q + 1) nx ac 12 (by omega) ⟨by omega,by omega,fun r hr => by have:=g4 r hr; have:=eZ al; omega⟩ g1 (by omega) (by omega)
 obtain ⟨w,w0,w1,_,kd4⟩:=jV hc q2 10 (by omega) (by omega)
 have big:∃ (al3:Int) (nx3:List (List Int)) (ac3:List Bool) (q3:Int),AutB 15 nx3 ac3 ∧ 1 ≤ nx3.length ∧ q2 + 1 ≤ q3 ∧ q3 ≤ q2 + 50 ∧ (w = 0 → (Dw 3 50 [] (autD al3 nx3 ac3) c (q2 + 1) q3)) ∧ (¬ w = 0 → al3 = al ∧ nx3 = nx2 ∧ ac3 = ac2 ∧ q3 = q2 + 1):=by
  by_cases hw:w = 0
  ·obtain ⟨nx3,ac3,q3,e1,e2,e3,e4,e5,kd⟩:=aPZ hc (q2 + 1) (by omega) (by omega)
   exact ⟨3,nx3,ac3,q3,⟨by omega,by omega,fun r hr => by have:=e3 r hr; have:=eZ 3; omega⟩,by omega,by omega,by omega,fun _ => kd,fun h => absurd hw h⟩
  ·exact ⟨al,nx2,ac2,q2 + 1,b2.mono (by omega),f1,by omega,by omega,fun h => absurd h hw,fun _ => ⟨rfl,rfl,rfl,rfl⟩⟩
 obtain ⟨al3,nx3,ac3,q3,b3,n3,r1,r2,kd5,no5⟩:=big
 obtain ⟨x,x0,x1,_,kd6⟩:=jV hc q3 6 (by omega) (by omega)
 by_cases hx:x = 0
 ·obtain ⟨al4,nx4,ac4,q4,b4,s1,s2,kd7⟩:=aLp hc (B:=15) (by omega) al3 nx3 ac3 b3 n3 (q3 + 1) (by omega) (by omega)
  refine ⟨al4,nx4,ac4,q4,b4.mono (by omega),by omega,by omega,fun R L n hq k hn hL => eO aJ1 (by simp [idsL,idsA]) (by simp [autD,idsA,idsL]) ?_⟩
  have loop_a:=fun {R:Type} {n:Nat} {k:Exit → List A → H → Option R} (hn:5 ≤ n) => kd3 R L n L k hn hL (by omega)
  subst hx
  by_cases hw:w = 0
  ·have kd5:=kd5 hw
   subst hw
   unfold autD at kd1 kd5 kd7 ⊢
   clear g4 b2 b3 b4 kd3 no5
   obtain _ | n:=n; omega
   rw [HY]
   simp only [FT,Tryd.f20,SLM,simprocAttr]
   simp -implicitDefEqProofs (maxSteps:=2000000) (disch:=try exact Dz) only [↓DN,↓kAsg,↓kRet,UP,simprocAttr,LA,↓kd1,↓kd2,↓kd4,↓kd5,↓kd6,↓kd7,↓loop_a]
  ·obtain ⟨rfl,rfl,rfl,rfl⟩:=no5 hw
   unfold autD at kd1 kd7 ⊢
   clear g4 b2 b3 b4 kd3 kd5
   obtain _ | n:=n; omega
   rw [HY]
   simp only [FT,Tryd.f20,SLM,simprocAttr]
   simp -implicitDefEqProofs (maxSteps:=2000000) (disch:=try exact Dz) only [↓DN,↓kAsg,↓kRet,UP,simprocAttr,LA,↓kd1,↓kd2,↓kd4,↓kd6,↓kd7,hw,↓loop_a]
 ·refine ⟨al3,nx3,ac3,q3 + 1,b3.mono (by omega),by omega,by omega,fun R L n hq k hn hL => eO aJ1 (by simp [idsL,idsA]) (by simp [autD,idsA,idsL]) ?_⟩
  have loop_a:=fun {R:Type} {n:Nat} {k:Exit → List A → H → Option R} (hn:5 ≤ n) => kd3 R L n L k hn hL (by omega)
  by_cases hw:w = 0
  ·have kd5:=kd5 hw
   subst hw
   unfold autD at kd1 kd5 ⊢
   clear g4 b2 b3 kd3 no5
   obtain _ | n:=n; omega
   rw [HY]
   simp only [FT,Tryd.f20,SLM,simprocAttr]
   simp -implicitDefEqProofs (maxSteps:=2000000) (disch:=try exact Dz) only [↓DN,↓kAsg,↓kRet,UP,simprocAttr,LA,↓kd1,↓kd2,↓kd4,↓kd5,↓kd6,hx,↓loop_a]
  ·obtain ⟨rfl,rfl,rfl,rfl⟩:=no5 hw
   unfold autD at kd1 ⊢
   clear g4 b2 b3 kd3 kd5
   obtain _ | n:=n; omega
   rw [HY]
   simp only [FT,Tryd.f20,SLM,simprocAttr]
   simp -implicitDefEqProofs (maxSteps:=2000000) (disch:=try exact Dz) only [↓DN,↓kAsg,↓kRet,UP,simprocAttr,LA,↓kd1,↓kd2,↓kd4,↓kd6,hx,hw,↓loop_a]
theorem O5 (c0:List UInt8) (hc0:c0.length ≤ 4294967296):∃ (al:Int) (nx:List (List Int)) (ac:List Bool),AutB 40 nx ac ∧ ∀ (R:Type) (L n:Nat) (hq:H) (k:A → H → Option R),18 ≤ n → 2 ^ 60 ≤ L → aL env (aA env L n) hq 5 [.d (.ivs c0.length (bQ c0))] k = k (autD al nx ac) hq:=by
 have hc:=aR7 c0
 generalize hcs:src c0 = c at hc
 obtain ⟨al,nx,ac,q,b,g2,g3,kd1⟩:=aPq hc 0 (by omega) (by omega)
 refine ⟨al,nx,ac,b,fun R L n hq k hn hL => a5 rfl ?_ rfl (.inr rfl)⟩
 have kd_a:=fun {R:Type} {hq:H} {k:A → H → Option R} {i:Nat} {L n:Nat} => @aSX L n _ _ _ _ _ _ _ rfl rfl kd1 R hq k i
 clear kd1
 unfold autD at kd_a ⊢
 obtain _ | n:=n; omega
 rw [J7]
 simp only [wQ,Tryd.f5,SLM,simprocAttr]
 simp -implicitDefEqProofs (maxSteps:=2000000) (disch:=try exact Dz) only [↓DN,↓kAsg,↓kRet,UP,simprocAttr,LA,↓aPC,hcs,↓kd_a]
theorem aDU {R:Type} {L n:Nat} (hn:1 ≤ n) {l:List Str} (hl:l.length ≤ 4294967296) {k:Exit → List A → H → Option R}:∀ (i:Int) (m:Nat) (h0:0 ≤ i) (hi:i ≤ l.length) (hm:(l.length:Int) - i < m),
  aO env (aA env L n) L 0 [] (U2 (Z2 (U2 (Z16 (Z4 ([])))))) (vE 0) (Z2 (U2 (Z2 (U16 (U4 ([])))))) m (.d (.ivs l.length (bV l)) :: .d (.ivs l.length (bV l)) :: Y2 (.d (.bool false) :: .d (.int .i64 i) :: Y16 (Y4 ([])))) [] k
  = k (.exit 0) (.d (.ivs l.length (bV l)) :: .d (.ivs l.length (bV l)) :: Y2 (.d (.bool false) :: .d (.int .i64 (l.length)) :: Y16 (Y4 ([])))) []:=by
 intro i m h0 hi hm
 obtain ⟨j,hj⟩:∃ j:Nat,(j:Int) = (l.length:Int) - i:=⟨((l.length:Int) - i).toNat,by omega⟩
 induction j generalizing i m with
 | zero =>
  obtain _ | m:=m; omega
  obtain rfl:i = l.length:=by omega
  rw [KM]
  simp only [GC,Tryd.f7,SLM,simprocAttr]
  simp -implicitDefEqProofs (maxSteps:=2000000) (disch:=try exact Dz) only [↓DN,↓kAsg,↓kRet,UP,simprocAttr,SE,Int.lt_irrefl]
 | succ j ih =>
  obtain _ | m:=m; omega
  have hc:i < l.length:=by omega
  have hk:i.toNat < l.length:=by omega
  rw [KM]
  simp only [GC,Tryd.f7,SLM,simprocAttr]
  simp -implicitDefEqProofs (maxSteps:=2000000) (disch:=try exact Dz) only [↓DN,↓kAsg,↓kRet,UP,simprocAttr,SE,hc,bne_self_eq_false,beq_self_eq_true,Bool.not_true,↓ih]
theorem V3 {L n:Nat} (hn:2 ≤ n) (l:List Str) (hl:l.length ≤ 4294967296) (hL:2 ^ 60 ≤ L):aA env L n 7 [.d (.ivs l.length (bV l)),.d (.ivs l.length (bV l))] [] = some (.d (.bool true),[]):=by
 obtain _ | n:=n; omega
 rw [aHa]
 simp only [aAB,Tryd.f7,SLM,simprocAttr]
 simp -implicitDefEqProofs (maxSteps:=2000000) (disch:=try exact Dz) only [↓DN,↓kAsg,↓kRet,UP,simprocAttr,↓aDU,SE]
theorem jJ {R:Type} {L n:Nat} {hq:H} {k:A → H → Option R} (hn:2 ≤ n) (l:List Str) (hl:l.length ≤ 4294967296) (hL:2 ^ 60 ≤ L):aL env (aA env L n) hq 7 [.d (.ivs l.length (bV l)),.d (.ivs l.length (bV l))] k = k (.d (.bool true)) hq :=
 a5 rfl (V3 hn l hl hL) rfl (.inl rfl)
theorem jK {R:Type} {L n:Nat} {k:A → Option R} (hn:2 ≤ n) (l:List Str) (hl:l.length ≤ 4294967296) (hL:2 ^ 60 ≤ L):bL (aA env L n) 7 [.d (.ivs l.length (bV l)),.d (.ivs l.length (bV l))] k = k (.d (.bool true)) :=
 fR (V3 hn l hl hL) rfl
theorem gQ {R:Type} {L n:Nat} {hq:H} {k:A → H → Option R} {id0 g0 o0 len0:Nat} {l:List Str}:aL env (aA env L n) hq 7 [.sl id0 g0 o0 len0,.d (.ivs l.length (bV l))] k = match box (cZ hq [.sl id0 g0 o0 len0,.d (.ivs l.length (bV l))]) with
  | .mk (some fs) => bL (aA env L n) 7 fs fun r => k r hq
  | _ => none:=aW rX
theorem gR {R:Type} {L n:Nat} {hq:H} {k:A → H → Option R} {id1 g1 o1 len1:Nat} {l:List Str}:aL env (aA env L n) hq 7 [.d (.ivs l.length (bV l)),.sl id1 g1 o1 len1] k = match box (cZ hq [.d (.ivs l.length (bV l)),.sl id1 g1 o1 len1]) with
  | .mk (some fs) => bL (aA env L n) 7 fs fun r => k r hq
  | _ => none:=aW rX
theorem gU {R:Type} {L n:Nat} {hq:H} {k:A → H → Option R} {id1 g1 o1 len1:Nat} {id0 g0 o0 len0:Nat} :aL env (aA env L n) hq 7 [.sl id0 g0 o0 len0,.sl id1 g1 o1 len1] k = match box (cZ hq [.sl id0 g0 o0 len0,.sl id1 g1 o1 len1]) with
  | .mk (some fs) => bL (aA env L n) 7 fs fun r => k r hq
  | _ => none:=aW rX
theorem aBQ {R:Type} {E:Env} {call:a9} {h h2:H} {f:FuncId} {args:List A} {r:A} {k:A → H → Option R} (hs:args.all yV = true) (hm:(E.hint f).mode = 3) (hc:call f args [] = some (r,h2)) (hcl:(qC r && h2.all oL) = true) :
  aL E call h f args k = k (mapA (back [] h.length h2.length) r) (h ++ h2.map (mapO (back [] h.length h2.length))):=by
 have hcall:dX call E.hint [] f args = some (mapA (back [] 0 h2.length) r,h2.map (mapO (back [] 0 h2.length))):=by
  unfold dX
  rw [hm]
  simp only [x9 hs,hc,hcl,if_true,List.length_nil,List.nil_append]
 unfold aL
 rw [BY hs,RC,nN _ (BY hs)]
 have:pack h [] = []:=rfl
 rw [this,hcall]
 have hb:∀ i,(back [] 0 h2.length i).bind (back [] h.length h2.length) = back [] h.length h2.length i:=by
  intro i
  unfold back
  simp only [List.length_nil,Nat.not_lt_zero,if_false,Nat.sub_zero,Nat.zero_add]
  split
  ·rename_i hi; simp [hi]
  ·rfl
 simp only [List.length_nil,Nat.zero_le,true_and,closed,List.all_nil,Bool.and_self,if_true,bP,List.length_map]
 rw [aFi hb,List.map_map]
 congr 2
 apply List.map_congr_left
 intro o _
 exact aOH hb o
theorem aKO (l:List Str):oL (.arr (bV l) 1 0) = true:=by
 simp only [oL,bV,List.all_map,List.all_eq_true]
 intro x _
 rfl
theorem aIX {R:Type} {E:Env} {call:a9} {h:H} {f:FuncId} {args:List A} {l:List Str} {k:A → H → Option R} (hs:args.all yV = true) (hm:(E.hint f).mode = 3) (hc:call f args [] = some (.sl 0 0 0 l.length,[.arr (bV l) 1 0])) :
  aL E call h f args k = k (.sl h.length 0 0 l.length) (h ++ [.arr (bV l) 1 0]):=by
 rw [aBQ hs hm hc (by simp only [qC,List.all_cons,List.all_nil,aKO,Bool.and_self])]
 simp [mapA,back,mapO]
theorem aGw {R:Type} {E:Env} {call:a9} {h:H} {f:FuncId} {args:List A} {k:A → H → Option R} (hs:args.all yV = true) (hm:(E.hint f).mode = 3) (hc:call f args [] = some (.d (.ivs 0 []),[])) :
  aL E call h f args k = k (.d (.ivs 0 [])) h:=by
 rw [aBQ hs hm hc rfl]
 simp [mapA]
section
def vW:List Int → List Int → Prop
 | a :: x,b :: y => a < b ∨ a = b ∧ vW x y
 | _,_ => False
def slt (x y:List Int):Prop:=x.length < y.length ∨ x.length = y.length ∧ vW x y
theorem aFs:∀ x:List Int,¬ vW x x
 | [],h => h
 | a :: x,h => by
  rcases h with h | ⟨_,h⟩
  ·omega
  ·exact aFs x h
theorem ZT:∀ {x y z:List Int},vW x y → vW y z → vW x z
 | [],_,_,h,_ => h.elim
 | _ :: _,[],_,h,_ => h.elim
 | _ :: _,_ :: _,[],_,h => h.elim
 | a :: x,b :: y,c :: z,h,k => by
  rcases h with h | ⟨rfl,h⟩
  ·rcases k with k | ⟨rfl,k⟩
   ·exact .inl (by omega)
   ·exact .inl h
  ·rcases k with k | ⟨rfl,k⟩
   ·exact .inl k
   ·exact .inr ⟨rfl,ZT h k⟩
theorem aFy:∀ {x y:List Int},x.length = y.length → x = y ∨ vW x y ∨ vW y x
 | [],[],_ => .inl rfl
 | [],_ :: _,h => by simp at h
 | _ :: _,[],h => by simp at h
 | a :: x,b :: y,h => by
  rcases Int.lt_trichotomy a b with h1 | h1 | h1
  ·exact .inr (.inl (.inl h1))
  ·subst h1
   rcases aFy (x:=x) (y:=y) (by simpa using h) with h2 | h2 | h2
   ·exact .inl (by rw [h2])
   ·exact .inr (.inl (.inr ⟨rfl,h2⟩))
   ·exact .inr (.inr (.inr ⟨rfl,h2⟩))
  ·exact .inr (.inr (.inl h1))
theorem aD9 (x:List Int):¬ slt x x:=by
 intro h
 rcases h with h | ⟨_,h⟩
 ·omega
 ·exact aFs x h
theorem NB {x y z:List Int} (h:slt x y) (k:slt y z):slt x z:=by
 rcases h with h | ⟨h1,h⟩ <;> rcases k with k | ⟨k1,k⟩
 ·exact .inl (by omega)
 ·exact .inl (by omega)
 ·exact .inl (by omega)
 ·exact .inr ⟨by omega,ZT h k⟩
theorem aJM (x y:List Int):x = y ∨ slt x y ∨ slt y x:=by
 rcases Nat.lt_trichotomy x.length y.length with h | h | h
 ·exact .inr (.inl (.inl h))
 ·rcases aFy h with k | k | k
  ·exact .inl k
  ·exact .inr (.inl (.inr ⟨h,k⟩))
  ·exact .inr (.inr (.inr ⟨h.symm,k⟩))
 ·exact .inr (.inr (.inl h))
theorem H3:∀ {u v:List Int} {a b:Int},u.length = v.length → (vW (u ++ [a]) (v ++ [b]) ↔ vW u v ∨ u = v ∧ a < b)
 | [],[],a,b,_ => by simp [vW]
 | [],_ :: _,a,b,h => by simp at h
 | _ :: _,[],a,b,h => by simp at h
 | x :: u,y :: v,a,b,h => by
  have ih:=H3 (u:=u) (v:=v) (a:=a) (b:=b) (by simpa using h)
  simp only [List.cons_append,vW,ih,List.cons.injEq]
  constructor
  ·rintro (k | ⟨rfl,k | ⟨rfl,k⟩⟩)
   ·exact .inl (.inl k)
   ·exact .inl (.inr ⟨rfl,k⟩)
   ·exact .inr ⟨⟨rfl,rfl⟩,k⟩
  ·rintro ((k | ⟨rfl,k⟩) | ⟨⟨rfl,rfl⟩,k⟩)
   ·exact .inl k
   ·exact .inr ⟨rfl,.inl k⟩
   ·exact .inr ⟨rfl,.inr ⟨rfl,k⟩⟩
theorem SF {u v:List Int} {a b:Int}:slt (u ++ [a]) (v ++ [b]) ↔ slt u v ∨ u = v ∧ a < b:=by
 unfold slt
 simp only [List.length_append,List.length_cons,List.length_nil]
 constructor
 ·rintro (h | ⟨h,k⟩)
  ·exact .inl (.inl (by omega))
  ·have hl:u.length = v.length:=by omega
   rcases (H3 hl).1 k with k | k
   ·exact .inl (.inr ⟨hl,k⟩)
   ·exact .inr k
 ·rintro ((h | ⟨h,k⟩) | ⟨rfl,k⟩)
  ·exact .inl (by omega)
  ·exact .inr ⟨by omega,(H3 h).2 (.inl k)⟩
  ·exact .inr ⟨rfl,(H3 rfl).2 (.inr ⟨rfl,k⟩)⟩
def Path (nx:Int → Int → List Int) (ls:List Int):Int → List Int → Int → Prop
 | v,[],u => v = u
 | v,l :: w,u => l ∈ ls ∧ ∃ m ∈ nx v l,Path nx ls m w u
section
variable {nx:Int → Int → List Int} {ls:List Int}
theorem aHj:∀ {x y:List Int} {v u:Int},Path nx ls v (x ++ y) u ↔ ∃ m,Path nx ls v x m ∧ Path nx ls m y u
 | [],y,v,u => by simp [Path]
 | l :: x,y,v,u => by
  simp only [List.cons_append,Path,aHj (x:=x)]
  constructor
  ·rintro ⟨h,m,hm,q,h1,h2⟩
   exact ⟨q,⟨h,m,hm,h1⟩,h2⟩
  ·rintro ⟨q,⟨h,m,hm,h1⟩,h2⟩
   exact ⟨h,m,hm,q,h1,h2⟩
theorem aEX {w:List Int} {l v u:Int}:Path nx ls v (w ++ [l]) u ↔ l ∈ ls ∧ ∃ m,Path nx ls v w m ∧ u ∈ nx m l:=by
 rw [aHj]
 simp only [Path]
 constructor
 ·rintro ⟨m,h1,h2,q,h3,rfl⟩
  exact ⟨h2,m,h1,h3⟩
 ·rintro ⟨h2,m,h1,h3⟩
  exact ⟨m,h1,h2,u,h3,rfl⟩
def yQ (nx:Int → Int → List Int) (ls start w:List Int) (u:Int):Prop:=∃ s ∈ start,Path nx ls s w u
def Hits (nx:Int → Int → List Int) (ls start:List Int) (gl:Int → Bool) (w:List Int):Prop:=∃ u,yQ nx ls start w u ∧ gl u = true
def YL (P:List Int → Prop) (w:List Int):Prop:=P w ∧ ∀ x,P x → ¬ slt x w
theorem aIR {P:List Int → Prop} {x y:List Int} (hx:YL P x) (hy:YL P y):x = y:=by
 rcases aJM x y with h | h | h
 ·exact h
 ·exact (hy.2 x hx.1 h).elim
 ·exact (hx.2 y hy.1 h).elim
def N9 (P:List Int → Prop) (r:List Int × Bool):Prop:=(r.2 = true ∧ YL P r.1) ∨ (r = ([],false) ∧ ∀ w,¬ P w)
theorem aIm {P:List Int → Prop} {r q:List Int × Bool} (hr:N9 P r) (hq:N9 P q):r = q:=by
 rcases hr with ⟨h1,h2⟩ | ⟨h1,h2⟩ <;> rcases hq with ⟨k1,k2⟩ | ⟨k1,k2⟩
 ·obtain ⟨a,b⟩:=r
  obtain ⟨c,d⟩:=q
  simp only at h1 k1 h2 k2
  subst h1; subst k1
  rw [aIR h2 k2]
 ·exact (k2 _ h2.1).elim
 ·exact (h2 _ k2.1).elim
 ·rw [h1,k1]
theorem aLa {P Q:List Int → Prop} {r:List Int × Bool} (h:∀ w,P w ↔ Q w) (hr:N9 P r):N9 Q r:=by
 have:P = Q:=funext fun w => propext (h w)
 rw [← this]; exact hr
end
end
section
structure PStep where
 par:Int
 lt:Int
 ns:List Int
instance:Inhabited PStep:=⟨⟨0,0,[]⟩⟩
def visG (gl:Int → Bool):List Int → List Bool → List Int → Bool → List Bool × List Int × Bool
 | [],s,f,b => (s,f,b)
 | n :: ns,s,f,b => if s.getD n.toNat false = true then visG gl ns s f b else visG gl ns (s.set n.toNat true) (f ++ [n]) (b || gl n)
def addP (st:List PStep) (p l:Int) (f:List Int):List PStep:=if f = [] then st else st ++ [⟨p,l,f⟩]
def flat (nx:Int → Int → List Int) (ns:List Int) (l:Int):List Int:=ns.flatMap fun n => nx n l
def ltG (nx:Int → Int → List Int) (gl:Int → Bool) (ns:List Int) (p:Int):List Int → List Bool × List PStep → Bool × List Bool × List PStep
 | [],q => (false,q)
 | l :: ls,q =>
  if (visG gl (flat nx ns l) q.1 [] false).2.2 = true then (true,(visG gl (flat nx ns l) q.1 [] false).1,addP q.2 p l (visG gl (flat nx ns l) q.1 [] false).2.1)
  else ltG nx gl ns p ls ((visG gl (flat nx ns l) q.1 [] false).1,addP q.2 p l (visG gl (flat nx ns l) q.1 [] false).2.1)
def outG (nx:Int → Int → List Int) (gl:Int → Bool) (ls:List Int):Nat → Nat → List Bool × List PStep → Bool × List Bool × List PStep
 | 0,_,q => (false,q)
 | j + 1,i,q => if i < q.2.length then
   (if (ltG nx gl (q.2.getD i default).ns i ls q).1 = true then ltG nx gl (q.2.getD i default).ns i ls q
    else outG nx gl ls j (i + 1) (ltG nx gl (q.2.getD i default).ns i ls q).2)
  else (false,q)
def lC (st:List PStep):Nat → Nat → List Int
 | 0,_ => []
 | j + 1,i => if 0 ≤ (st.getD i default).par then lC st j (st.getD i default).par.toNat ++ [(st.getD i default).lt] else []
def RQ (nx:Int → Int → List Int) (gl:Int → Bool) (ls start:List Int) (size:Nat):List Int × Bool :=
 if (visG gl start (List.replicate size false) [] false).2.2 = true then ([],true)
 else if (outG nx gl ls (size + 1) 0 ((visG gl start (List.replicate size false) [] false).1,addP [] (-1) 0 (visG gl start (List.replicate size false) [] false).2.1)).1 = true then
  (lC (outG nx gl ls (size + 1) 0 ((visG gl start (List.replicate size false) [] false).1,addP [] (-1) 0 (visG gl start (List.replicate size false) [] false).2.1)).2.2
   (outG nx gl ls (size + 1) 0 ((visG gl start (List.replicate size false) [] false).1,addP [] (-1) 0 (visG gl start (List.replicate size false) [] false).2.1)).2.2.length
   ((outG nx gl ls (size + 1) 0 ((visG gl start (List.replicate size false) [] false).1,addP [] (-1) 0 (visG gl start (List.replicate size false) [] false).2.1)).2.2.length - 1),true)
 else ([],false)
def Sn (s:List Bool) (n:Int):Prop:=s.getD n.toNat false = true
theorem aS8 {s:List Bool} {n m:Int} (h0:0 ≤ n) (h1:n < s.length) (hm:0 ≤ m):Sn (s.set n.toNat true) m ↔ m = n ∨ Sn s m:=by
 unfold Sn
 rw [List.getD_eq_getElem?_getD,List.getD_eq_getElem?_getD,List.getElem?_set]
 by_cases h:n.toNat = m.toNat
 ·have:m = n:=by omega
  subst this
  simp [show m.toNat < s.length by omega]
 ·have:m ≠ n:=by omega
  simp [h,this]
structure Vis (gl:Int → Bool) (ns:List Int) (s:List Bool) (f:List Int) (b:Bool) (r:List Bool × List Int × Bool):Prop where
 seen:∀ m,0 ≤ m → (Sn r.1 m ↔ Sn s m ∨ m ∈ ns)
 new:∀ m,m ∈ r.2.1 ↔ m ∈ f ∨ (m ∈ ns ∧ ¬ Sn s m)
 hit:r.2.2 = true ↔ b = true ∨ ∃ m,m ∈ ns ∧ ¬ Sn s m ∧ gl m = true
 cnt:r.2.1.length + r.1.count false = f.length + s.count false
 len:r.1.length = s.length
theorem aCA:∀ {s:List Bool} {k:Nat},s.getD k false = false → k < s.length → (s.set k true).count false + 1 = s.count false
 | [],k,h,hk => by simp at hk
 | b :: s,0,h,hk => by
  simp at h
  subst h
  simp
 | b :: s,k + 1,h,hk => by
  have ih:=aCA (s:=s) (k:=k) (by simpa using h) (by simpa using hk)
  simp only [List.set_cons_succ,List.count_cons]
  omega
theorem aCx (gl:Int → Bool):∀ (ns:List Int) (s:List Bool) (f:List Int) (b:Bool),(∀ n ∈ ns,0 ≤ n ∧ n < s.length) → Vis gl ns s f b (visG gl ns s f b)
 | [],s,f,b,_ => ⟨by simp [visG],by simp [visG],by simp [visG],rfl,rfl⟩
 | n :: ns,s,f,b,h => by
  have h2:=h n List.mem_cons_self
  unfold visG
  split
  ·rename_i h1
   have ih:=aCx gl ns s f b fun m hm => h m (List.mem_cons_of_mem _ hm)
   refine ⟨fun m hm => ?_,fun m => ?_,?_,ih.cnt,ih.len⟩
   ·rw [ih.seen m hm]
    constructor
    ·rintro (k | k)
     ·exact .inl k
     ·exact .inr (List.mem_cons_of_mem _ k)
    ·rintro (k | k)
     ·exact .inl k
     ·rcases List.mem_cons.1 k with rfl | k
      ·exact .inl h1
      ·exact .inr k
   ·rw [ih.new m]
    constructor
    ·rintro (k | ⟨k,k2⟩)
     ·exact .inl k
     ·exact .inr ⟨List.mem_cons_of_mem _ k,k2⟩
    ·rintro (k | ⟨k,k2⟩)
     ·exact .inl k
     ·rcases List.mem_cons.1 k with rfl | k
      ·exact (k2 h1).elim
      ·exact .inr ⟨k,k2⟩
   ·rw [ih.hit]
    constructor
    ·rintro (k | ⟨m,k,k2⟩)
     ·exact .inl k
     ·exact .inr ⟨m,List.mem_cons_of_mem _ k,k2⟩
    ·rintro (k | ⟨m,k,k2⟩)
     ·exact .inl k
     ·rcases List.mem_cons.1 k with rfl | k
      ·exact (k2.1 h1).elim
      ·exact .inr ⟨m,k,k2⟩
  ·rename_i h1
   have ih:=aCx gl ns (s.set n.toNat true) (f ++ [n]) (b || gl n) fun m hm => by simpa using h m (List.mem_cons_of_mem _ hm)
   have hpos:∀ m ∈ ns,0 ≤ m:=fun m hm => (h m (List.mem_cons_of_mem _ hm)).1
   have hs:=fun {m:Int} (hm:0 ≤ m) => aS8 (s:=s) (n:=n) (m:=m) h2.1 h2.2 hm
   refine ⟨fun m hm => ?_,fun m => ?_,?_,?_,?_⟩
   ·rw [ih.seen m hm,hs hm,List.mem_cons]
    constructor
    ·rintro ((k | k) | k)
     ·exact .inr (.inl k)
     ·exact .inl k
     ·exact .inr (.inr k)
    ·rintro (k | k | k)
     ·exact .inl (.inr k)
     ·exact .inl (.inl k)
     ·exact .inr k
   ·rw [ih.new m,List.mem_append,List.mem_singleton,List.mem_cons]
    constructor
    ·rintro ((k | rfl) | ⟨k,k2⟩)
     ·exact .inl k
     ·exact .inr ⟨.inl rfl,h1⟩
     ·rw [hs (hpos m k)] at k2
      exact .inr ⟨.inr k,fun h3 => k2 (.inr h3)⟩
    ·rintro (k | ⟨rfl | k,k2⟩)
     ·exact .inl (.inl k)
     ·exact .inl (.inr rfl)
     ·by_cases hmn:m = n
      ·exact .inl (.inr hmn)
      ·refine .inr ⟨k,fun h3 => ?_⟩
       rw [hs (hpos m k)] at h3
       rcases h3 with h3 | h3
       ·exact hmn h3
       ·exact k2 h3
   ·rw [ih.hit,Bool.or_eq_true]
    constructor
    ·rintro ((k | k) | ⟨m,k,k2,k3⟩)
     ·exact .inl k
     ·exact .inr ⟨n,List.mem_cons_self,h1,k⟩
     ·rw [hs (hpos m k)] at k2
      exact .inr ⟨m,List.mem_cons_of_mem _ k,fun h3 => k2 (.inr h3),k3⟩
    ·rintro (k | ⟨m,k,k2,k3⟩)
     ·exact .inl (.inl k)
     ·by_cases hmn:m = n
      ·subst hmn; exact .inl (.inr k3)
      ·rcases List.mem_cons.1 k with k | k
       ·exact (hmn k).elim
       ·refine .inr ⟨m,k,fun h3 => ?_,k3⟩
        rw [hs (hpos m k)] at h3
        rcases h3 with h3 | h3
        ·exact hmn h3
        ·exact k2 h3
   ·have:=aCA (s:=s) (k:=n.toNat) (by simpa using h1) (by omega)
    have hc:=ih.cnt
    simp only [List.length_append,List.length_cons,List.length_nil] at hc
    omega
   ·have:=ih.len
    simpa using this
section
variable {nx:Int → Int → List Int} {gl:Int → Bool} {ls start:List Int} {size:Nat}
def Asc (l:List Int):Prop:=l.Pairwise (· < ·)
structure Mid (nx:Int → Int → List Int) (gl:Int → Bool) (ls start:List Int) (size:Nat) (i:Nat) (ds:List Int) (s:List Bool) (st:List PStep) (W:Nat → List Int):Prop where
 len:s.length = size
 room:st.length + s.count false ≤ size
 wide:∀ k,k < st.length → (st.getD k default).ns.length ≤ size
 par0:∀ k,k < st.length → ((st.getD k default).par < 0 ∧ W k = []) ∨ (∃ p:Nat,(st.getD k default).par = p ∧ p < k ∧ (p < i ∨ p = i ∧ (st.getD k default).lt ∈ ds) ∧ W k = W p ++ [(st.getD k default).lt])
 nodes:∀ k,k < st.length → ∀ n ∈ (st.getD k default).ns,yQ nx ls start (W k) n ∧ Sn s n ∧ (0 ≤ n ∧ n < size)
 all:∀ n,0 ≤ n → Sn s n → ∃ k,k < st.length ∧ n ∈ (st.getD k default).ns
 asc:∀ j k,j < k → k < st.length → slt (W j) (W k)
 least:∀ k,k < st.length → ∀ n ∈ (st.getD k default).ns,∀ w,yQ nx ls start w n → ¬ slt w (W k)
 none:∀ n,0 ≤ n → Sn s n → gl n = false
 begun:∀ n ∈ start,Sn s n
 done:∀ k,k < st.length → ∀ p ∈ (st.getD k default).ns,∀ l ∈ ls,(k < i ∨ k = i ∧ l ∈ ds) → ∀ m ∈ nx p l,Sn s m
theorem N6 {n:Int}:yQ nx ls start [] n ↔ n ∈ start:=by
 unfold yQ Path
 constructor
 ·rintro ⟨s,h,rfl⟩; exact h
 ·intro h; exact ⟨n,h,rfl⟩
theorem RU {w:List Int} {l n:Int}:yQ nx ls start (w ++ [l]) n ↔ l ∈ ls ∧ ∃ m,yQ nx ls start w m ∧ n ∈ nx m l:=by
 unfold yQ
 constructor
 ·rintro ⟨s,h,k⟩
  obtain ⟨h1,m,h2,h3⟩:=aEX.1 k
  exact ⟨h1,m,⟨s,h,h2⟩,h3⟩
 ·rintro ⟨h1,m,⟨s,h,h2⟩,h3⟩
  exact ⟨s,h,aEX.2 ⟨h1,m,h2,h3⟩⟩
theorem RZ (w:List Int):w = [] ∨ ∃ u l,w = u ++ [l]:=by
 rcases List.eq_nil_or_concat w with h | ⟨u,l,h⟩
 ·exact .inl h
 ·exact .inr ⟨u,l,by simpa using h⟩
theorem aK1 {i:Nat} {ds:List Int} {l:Int} {rs:List Int} {s:List Bool} {st:List PStep} {W:Nat → List Int} (hm:Mid nx gl ls start size i ds s st W) (hi:i < st.length) (hls:ls = ds ++ l :: rs) (ha:Asc ls) (hnx:∀ p c:Int,0 ≤ p → p < size → c ∈ ls → ∀ m ∈ nx p c,0 ≤ m ∧ m < size) (hst:∀ n ∈ start,0 ≤ n ∧ n < size) :
  ∀ (q:Nat) (w:List Int),w.length = q → slt w (W i ++ [l]) → ∀ n,yQ nx ls start w n → Sn s n ∧ (0 ≤ n ∧ n < size):=by
 intro q
 induction q with
 | zero =>
  intro w hw hlt n hc
  have:w = []:=List.length_eq_zero_iff.1 hw
  subst this
  have:=N6.1 hc
  exact ⟨hm.begun n this,hst n this⟩
 | succ q ih =>
  intro w hw hlt n hc
  rcases RZ w with rfl | ⟨u,c,rfl⟩
  ·simp at hw
  obtain ⟨hcl,p,hp,hn⟩:=RU.1 hc
  have hul:u.length = q:=by simpa using hw
  have hu:slt u (W i ++ [l]):=NB (.inl (by simp)) hlt
  obtain ⟨hps,hpr⟩:=ih u hul hu p hp
  refine ⟨?_,hnx p c hpr.1 hpr.2 hcl n hn⟩
  obtain ⟨k,hk,hpk⟩:=hm.all p hpr.1 hps
  have hle:=hm.least k hk p hpk u hp
  have h2:=SF.1 hlt
  refine hm.done k hk p hpk c hcl ?_ n hn
  rcases Nat.lt_trichotomy k i with h | h | h
  ·exact .inl h
  ·subst h
   refine .inr ⟨rfl,?_⟩
   rcases h2 with h2 | ⟨_,h2⟩
   ·exact (hle h2).elim
   ·rw [hls] at hcl ha
    rcases List.mem_append.1 hcl with h3 | h3
    ·exact h3
    ·exfalso
     rcases List.mem_cons.1 h3 with h4 | h4
     ·omega
     ·have h5:=List.pairwise_append.1 ha
      have:=(List.pairwise_cons.1 h5.2.1).1 c h4
      omega
  ·exfalso
   have h3:=hm.asc i k h hk
   rcases h2 with h2 | ⟨h2,_⟩
   ·exact hle (NB h2 h3)
   ·subst h2
    exact hle h3
theorem pM {α:Type} {l m:List α} {i:Nat} {d:α} (h:i < l.length):(l ++ m).getD i d = l.getD i d:=by
 rw [List.getD_eq_getElem?_getD,List.getD_eq_getElem?_getD,List.getElem?_append_left h]
theorem WU {α:Type} {l:List α} {x d:α}:(l ++ [x]).getD l.length d = x:=by
 rw [List.getD_eq_getElem?_getD,List.getElem?_append_right (Nat.le_refl _)]; simp
theorem aRU {i:Nat} {ds:List Int} {s:List Bool} {st:List PStep} {W:Nat → List Int} (hm:Mid nx gl ls start size i ds s st W):∀ (j k:Nat),k < j → k < st.length → lC st j k = W k:=by
 intro j
 induction j with
 | zero => intro k hk; omega
 | succ j ih =>
  intro k hk hl
  unfold lC
  rcases hm.par0 k hl with ⟨h1,h2⟩ | ⟨p,h1,h2,_,h3⟩
  ·rw [if_neg (by omega),h2]
  ·rw [if_pos (by omega),h1,Int.toNat_natCast,ih p (by omega) (by omega),h3]
theorem aP6 {i:Nat} {ds:List Int} {l:Int} {rs:List Int} {s:List Bool} {st:List PStep} {W:Nat → List Int} (hm:Mid nx gl ls start size i ds s st W) (hi:i < st.length) (hls:ls = ds ++ l :: rs) (ha:Asc ls) (hnx:∀ p c:Int,0 ≤ p → p < size → c ∈ ls → ∀ m ∈ nx p c,0 ≤ m ∧ m < size) (hst:∀ n ∈ start,0 ≤ n ∧ n < size) :
  ((visG gl (flat nx (st.getD i default).ns l) s [] false).2.2 = true → YL (Hits nx ls start gl) (W i ++ [l]) ∧ (visG gl (flat nx (st.getD i default).ns l) s [] false).2.1 ≠ []) ∧
  ((visG gl (flat nx (st.getD i default).ns l) s [] false).2.2 ≠ true → ∃ W',Mid nx gl ls start size i (ds ++ [l]) (visG gl (flat nx (st.getD i default).ns l) s [] false).1 (addP st i l (visG gl (flat nx (st.getD i default).ns l) s [] false).2.1) W'):=by
 have hll:l ∈ ls:=by rw [hls]; simp
 have hreach:∀ n ∈ flat nx (st.getD i default).ns l,yQ nx ls start (W i ++ [l]) n ∧ (0 ≤ n ∧ n < size):=by
  intro n hn
  obtain ⟨p,hp,hpn⟩:=List.mem_flatMap.1 hn
  obtain ⟨h1,_,h3⟩:=hm.nodes i hi p hp
  exact ⟨RU.2 ⟨hll,p,h1,hpn⟩,hnx p l h3.1 h3.2 hll n hpn⟩
 have hv:=aCx gl (flat nx (st.getD i default).ns l) s [] false fun n hn => by rw [hm.len]; exact (hreach n hn).2
 have hbef:=fun w => aK1 hm hi hls ha hnx hst w.length w rfl
 generalize hns:flat nx (st.getD i default).ns l = ns at *
 generalize hr:visG gl ns s [] false = r at *
 obtain ⟨s2,f,b⟩:=r
 have v1:=hv.seen
 have v2:∀ m,m ∈ f ↔ m ∈ ns ∧ ¬ Sn s m:=fun m => by have:=hv.new m; simpa using this
 have v3:b = true ↔ ∃ m,m ∈ ns ∧ ¬ Sn s m ∧ gl m = true:=by have:=hv.hit; simpa using this
 have v4:f.length + s2.count false = s.count false:=by have:=hv.cnt; simpa using this
 have v5:s2.length = s.length:=hv.len
 simp only at v1 ⊢
 constructor
 ·intro hb
  obtain ⟨m,h1,h2,h3⟩:=v3.1 hb
  refine ⟨⟨⟨m,(hreach m h1).1,h3⟩,?_⟩,?_⟩
  ·rintro x ⟨u,hu,hg⟩ hlt
   obtain ⟨k1,k2⟩:=hbef x hlt u hu
   rw [hm.none u k2.1 k1] at hg
   cases hg
  ·intro hf
   have:=(v2 m).2 ⟨h1,h2⟩
   rw [hf] at this
   cases this
 ·intro hb
  have hnone:∀ n,0 ≤ n → Sn s2 n → gl n = false:=by
   intro n hn hs
   rcases (v1 n hn).1 hs with h | h
   ·exact hm.none n hn h
   ·by_cases hs0:Sn s n
    ·exact hm.none n hn hs0
    ·cases hg:gl n with
     | false => rfl
     | true => exact (hb (v3.2 ⟨n,h,hs0,hg⟩)).elim
  have hsn:∀ n,0 ≤ n → Sn s n → Sn s2 n:=fun n hn h => (v1 n hn).2 (.inl h)
  have hdone:∀ p ∈ (st.getD i default).ns,∀ m ∈ nx p l,Sn s2 m:=by
   intro p hp m hmm
   have:m ∈ ns:=by rw [← hns]; exact List.mem_flatMap.2 ⟨p,hp,hmm⟩
   exact (v1 m (hreach m this).2.1).2 (.inr this)
  unfold addP
  by_cases hf:f = []
  ·rw [if_pos hf]
   subst hf
   refine ⟨W,⟨by rw [v5,hm.len],by have:=hm.room; simp at v4; omega,hm.wide,?_,?_,?_,hm.asc,hm.least,hnone,?_,?_⟩⟩
   ·intro k hk
    rcases hm.par0 k hk with h | ⟨p,h1,h2,h3,h4⟩
    ·exact .inl h
    ·refine .inr ⟨p,h1,h2,?_,h4⟩
     rcases h3 with h3 | ⟨h3,h5⟩
     ·exact .inl h3
     ·exact .inr ⟨h3,List.mem_append_left _ h5⟩
   ·intro k hk n hn
    obtain ⟨h1,h2,h3⟩:=hm.nodes k hk n hn
    exact ⟨h1,hsn n h3.1 h2,h3⟩
   ·intro n hn hs
    rcases (v1 n hn).1 hs with h | h
    ·exact hm.all n hn h
    ·by_cases hs0:Sn s n
     ·exact hm.all n hn hs0
     ·have:=(v2 n).2 ⟨h,hs0⟩
      cases this
   ·intro n hn
    exact hsn n (hst n hn).1 (hm.begun n hn)
   ·intro k hk p hp c hc hor m hmm
    have hpr:=(hm.nodes k hk p hp).2.2
    have hmr:=hnx p c hpr.1 hpr.2 hc m hmm
    rcases hor with h | ⟨h,h2⟩
    ·exact hsn m hmr.1 (hm.done k hk p hp c hc (.inl h) m hmm)
    ·rcases List.mem_append.1 h2 with h3 | h3
     ·exact hsn m hmr.1 (hm.done k hk p hp c hc (.inr ⟨h,h3⟩) m hmm)
     ·simp at h3
      subst h3; subst h
      exact hdone p hp m hmm
  ·rw [if_neg hf]
   have hfl:0 < f.length:=List.length_pos_iff.2 hf
   refine ⟨fun k => if k = st.length then W i ++ [l] else W k,?_⟩
   have hold:∀ k,k < st.length → (st ++ [(⟨i,l,f⟩:PStep)]).getD k default = st.getD k default:=fun k hk => pM hk
   have hnew:(st ++ [(⟨i,l,f⟩:PStep)]).getD st.length default = ⟨i,l,f⟩:=WU
   have hlen:(st ++ [(⟨i,l,f⟩:PStep)]).length = st.length + 1:=by simp
   have hmax:∀ k,k < st.length → slt (W k) (W i ++ [l]):=by
    intro k hk
    rcases hm.par0 k hk with ⟨_,h⟩ | ⟨p,h1,h2,h3,h4⟩
    ·rw [h]; exact .inl (by simp)
    ·rw [h4,SF]
     rcases h3 with h3 | ⟨h3,h5⟩
     ·exact .inl (hm.asc p i h3 hi)
     ·subst h3
      refine .inr ⟨rfl,?_⟩
      rw [hls] at ha
      have h6:=List.pairwise_append.1 ha
      exact h6.2.2 _ h5 l List.mem_cons_self
   refine ⟨by rw [v5,hm.len],by have:=hm.room; rw [hlen]; omega,?_,?_,?_,?_,?_,?_,hnone,?_,?_⟩
   ·intro k hk
    rw [hlen] at hk
    by_cases h:k < st.length
    ·rw [hold k h]; exact hm.wide k h
    ·obtain rfl:k = st.length:=by omega
     rw [hnew]
     have:=List.count_le_length (a:=false) (l:=s)
     have:=hm.len
     show f.length ≤ size
     omega
   ·intro k hk
    rw [hlen] at hk
    by_cases h:k < st.length
    ·rw [hold k h]
     simp only [show k ≠ st.length by omega,if_false]
     rcases hm.par0 k h with h0 | ⟨p,h1,h2,h3,h4⟩
     ·exact .inl h0
     ·refine .inr ⟨p,h1,h2,?_,?_⟩
      ·rcases h3 with h3 | ⟨h3,h5⟩
       ·exact .inl h3
       ·exact .inr ⟨h3,List.mem_append_left _ h5⟩
      ·rw [if_neg (by omega)]; exact h4
    ·obtain rfl:k = st.length:=by omega
     rw [hnew]
     refine .inr ⟨i,rfl,hi,.inr ⟨rfl,by simp⟩,?_⟩
     simp only [if_true]
     rw [if_neg (by omega)]
   ·intro k hk n hn
    rw [hlen] at hk
    by_cases h:k < st.length
    ·rw [hold k h] at hn
     obtain ⟨h1,h2,h3⟩:=hm.nodes k h n hn
     simp only [show k ≠ st.length by omega,if_false]
     exact ⟨h1,hsn n h3.1 h2,h3⟩
    ·obtain rfl:k = st.length:=by omega
     rw [hnew] at hn
     have h1:=((v2 n).1 hn).1
     have h2:=hreach n h1
     simp only [if_true]
     exact ⟨h2.1,(v1 n h2.2.1).2 (.inr h1),h2.2⟩
   ·intro n hn hs
    by_cases hs0:Sn s n
    ·obtain ⟨k,hk,h1⟩:=hm.all n hn hs0
     exact ⟨k,by omega,by rw [hold k hk]; exact h1⟩
    ·rcases (v1 n hn).1 hs with h | h
     ·exact (hs0 h).elim
     ·exact ⟨st.length,by omega,by rw [hnew]; exact (v2 n).2 ⟨h,hs0⟩⟩
   ·intro j k hjk hk
    rw [hlen] at hk
    by_cases h:k < st.length
    ·simp only [show k ≠ st.length by omega,show j ≠ st.length by omega,if_false]
     exact hm.asc j k hjk h
    ·obtain rfl:k = st.length:=by omega
     simp only [show j ≠ st.length by omega,if_false,if_true]
     exact hmax j hjk
   ·intro k hk n hn w hw
    rw [hlen] at hk
    by_cases h:k < st.length
    ·rw [hold k h] at hn
     simp only [show k ≠ st.length by omega,if_false]
     exact hm.least k h n hn w hw
    ·obtain rfl:k = st.length:=by omega
     rw [hnew] at hn
     simp only [if_true]
     intro hlt
     exact ((v2 n).1 hn).2 (hbef w hlt n hw).1
   ·intro n hn
    exact hsn n (hst n hn).1 (hm.begun n hn)
   ·intro k hk p hp c hc hor m hmm
    rw [hlen] at hk
    by_cases h:k < st.length
    ·rw [hold k h] at hp
     have hpr:=(hm.nodes k h p hp).2.2
     have hmr:=hnx p c hpr.1 hpr.2 hc m hmm
     rcases hor with h1 | ⟨h1,h2⟩
     ·exact hsn m hmr.1 (hm.done k h p hp c hc (.inl h1) m hmm)
     ·rcases List.mem_append.1 h2 with h3 | h3
      ·exact hsn m hmr.1 (hm.done k h p hp c hc (.inr ⟨h1,h3⟩) m hmm)
      ·simp at h3
       subst h3; subst h1
       exact hdone p hp m hmm
    ·exfalso
     omega
theorem aI9 {i:Nat} (ha:Asc ls) (hnx:∀ p c:Int,0 ≤ p → p < size → c ∈ ls → ∀ m ∈ nx p c,0 ≤ m ∧ m < size) (hst:∀ n ∈ start,0 ≤ n ∧ n < size) {ns:List Int}:∀ (rs ds:List Int) (s:List Bool) (st:List PStep) (W:Nat → List Int),Mid nx gl ls start size i ds s st W → i < st.length → ls = ds ++ rs → ns = (st.getD i default).ns →
  ((ltG nx gl ns i rs (s,st)).1 = true → YL (Hits nx ls start gl) (lC (ltG nx gl ns i rs (s,st)).2.2 (ltG nx gl ns i rs (s,st)).2.2.length ((ltG nx gl ns i rs (s,st)).2.2.length - 1))) ∧
  ((ltG nx gl ns i rs (s,st)).1 ≠ true → st.length ≤ (ltG nx gl ns i rs (s,st)).2.2.length ∧ ∃ W',Mid nx gl ls start size (i + 1) [] (ltG nx gl ns i rs (s,st)).2.1 (ltG nx gl ns i rs (s,st)).2.2 W'):=by
 intro rs
 induction rs with
 | nil =>
  intro ds s st W hm hi hls hns
  simp only [List.append_nil] at hls
  subst hls
  refine ⟨fun h => by simp [ltG] at h,fun _ => ⟨Nat.le_refl _,W,hm.len,hm.room,hm.wide,?_,hm.nodes,hm.all,hm.asc,hm.least,hm.none,hm.begun,?_⟩⟩
  ·intro k hk
   rcases hm.par0 k hk with h0 | ⟨p,h1,h2,h3,h4⟩
   ·exact .inl h0
   ·exact .inr ⟨p,h1,h2,.inl (by omega),h4⟩
  ·intro k hk p hp l hl hor m hmm
   rcases hor with h | ⟨_,h⟩
   ·exact hm.done k hk p hp l hl (by by_cases hki:k = i; exact .inr ⟨hki,hl⟩; exact .inl (by omega)) m hmm
   ·cases h
 | cons l rs ih =>
  intro ds s st W hm hi hls hns
  obtain ⟨h1,h2⟩:=aP6 hm hi hls ha hnx hst
  rw [← hns] at h1 h2
  simp only [ltG]
  by_cases hb:(visG gl (flat nx ns l) s [] false).2.2 = true
  ·simp only [hb,if_true]
   refine ⟨fun _ => ?_,fun h => (h rfl).elim⟩
   obtain ⟨k1,k2⟩:=h1 hb
   unfold addP
   rw [if_neg k2]
   simp only [List.length_append,List.length_cons,List.length_nil,Nat.zero_add,Nat.add_sub_cancel]
   have hw:lC (st ++ [⟨i,l,(visG gl (flat nx ns l) s [] false).2.1⟩]) (st.length + 1) st.length = W i ++ [l]:=by
    unfold lC
    rw [WU]
    simp only [Int.toNat_natCast]
    rw [if_pos (by omega)]
    congr 1
    have hpre:∀ (j k:Nat),k < j → k < st.length → ∀ x,lC (st ++ [x]) j k = lC st j k:=by
     intro j
     induction j with
     | zero => intro k hk; omega
     | succ j ihj =>
      intro k hk hl x
      unfold lC
      rw [pM hl]
      rcases hm.par0 k hl with ⟨h1,h2⟩ | ⟨p,h1,h2,_,h3⟩
      ·rw [if_neg (by omega),if_neg (by omega)]
      ·rw [if_pos (by omega),if_pos (by omega),h1,Int.toNat_natCast,ihj p (by omega) (by omega)]
    rw [hpre _ _ hi hi,aRU hm _ _ hi hi]
   rw [hw]
   exact k1
  ·simp only [hb,if_false]
   obtain ⟨W',hm'⟩:=h2 hb
   have hle:st.length ≤ (addP st i l (visG gl (flat nx ns l) s [] false).2.1).length:=by
    unfold addP; split <;> simp
   have hget:ns = ((addP st i l (visG gl (flat nx ns l) s [] false).2.1).getD i default).ns:=by
    rw [hns]
    unfold addP
    split
    ·rfl
    ·rw [pM hi]
   obtain ⟨g1,g2⟩:=ih (ds ++ [l]) _ _ W' hm' (by omega) (by rw [hls]; simp) hget
   exact ⟨g1,fun h => ⟨Nat.le_trans hle (g2 h).1,(g2 h).2⟩⟩
theorem aNf (ha:Asc ls) (hnx:∀ p c:Int,0 ≤ p → p < size → c ∈ ls → ∀ m ∈ nx p c,0 ≤ m ∧ m < size) (hst:∀ n ∈ start,0 ≤ n ∧ n < size):∀ (j i:Nat) (s:List Bool) (st:List PStep) (W:Nat → List Int),Mid nx gl ls start size i [] s st W → i ≤ st.length → size + 1 ≤ i + j →
  ((outG nx gl ls j i (s,st)).1 = true → YL (Hits nx ls start gl) (lC (outG nx gl ls j i (s,st)).2.2 (outG nx gl ls j i (s,st)).2.2.length ((outG nx gl ls j i (s,st)).2.2.length - 1))) ∧
  ((outG nx gl ls j i (s,st)).1 ≠ true → ∀ w,¬ Hits nx ls start gl w):=by
 have fin:∀ (i:Nat) (s:List Bool) (st:List PStep) (W:Nat → List Int),Mid nx gl ls start size i [] s st W → ¬ i < st.length → ∀ w,¬ Hits nx ls start gl w:=by
  intro i s st W hm hi w
  have key:∀ (q:Nat) (w:List Int),w.length = q → ∀ n,yQ nx ls start w n → Sn s n ∧ (0 ≤ n ∧ n < size):=by
   intro q
   induction q with
   | zero =>
    intro w hw n hc
    have:w = []:=List.length_eq_zero_iff.1 hw
    subst this
    have:=N6.1 hc
    exact ⟨hm.begun n this,hst n this⟩
   | succ q ih =>
    intro w hw n hc
    rcases RZ w with rfl | ⟨u,c,rfl⟩
    ·simp at hw
    obtain ⟨hcl,p,hp,hn⟩:=RU.1 hc
    obtain ⟨h1,h2⟩:=ih u (by simpa using hw) p hp
    obtain ⟨k,hk,hpk⟩:=hm.all p h2.1 h1
    exact ⟨hm.done k hk p hpk c hcl (.inl (by omega)) n hn,hnx p c h2.1 h2.2 hcl n hn⟩
  rintro ⟨u,hu,hg⟩
  obtain ⟨h1,h2⟩:=key w.length w rfl u hu
  rw [hm.none u h2.1 h1] at hg
  cases hg
 intro j
 induction j with
 | zero =>
  intro i s st W hm hi hj
  have:=hm.room
  exfalso; omega
 | succ j ih =>
  intro i s st W hm hi hj
  simp only [outG]
  by_cases hlt:i < st.length
  ·simp only [hlt,if_true]
   obtain ⟨h1,h2⟩:=aI9 (ns:=(st.getD i default).ns) ha hnx hst ls [] s st W hm hlt rfl rfl
   by_cases hb:(ltG nx gl (st.getD i default).ns i ls (s,st)).1 = true
   ·simp only [hb,if_true]
    exact ⟨fun _ => h1 hb,fun h => (h rfl).elim⟩
   ·simp only [hb,if_false]
    obtain ⟨h3,W',hm'⟩:=h2 hb
    exact ih (i + 1) _ _ W' hm' (Nat.le_trans hlt h3) (by omega)
  ·rw [if_neg hlt]
   exact ⟨fun h => Bool.noConfusion h,fun _ => fin i s st W hm hlt⟩
theorem aJT (ha:Asc ls) (hnx:∀ p c:Int,0 ≤ p → p < size → c ∈ ls → ∀ m ∈ nx p c,0 ≤ m ∧ m < size) (hst:∀ n ∈ start,0 ≤ n ∧ n < size) (hne:start ≠ []):N9 (Hits nx ls start gl) (RQ nx gl ls start size):=by
 have hz:∀ n,¬ Sn (List.replicate size false) n:=by
  intro n
  unfold Sn
  rw [List.getD_eq_getElem?_getD,List.getElem?_replicate]
  split <;> simp
 have hv:=aCx gl start (List.replicate size false) [] false fun n hn => by simpa using hst n hn
 unfold RQ
 generalize visG gl start (List.replicate size false) [] false = r at *
 obtain ⟨s2,f,b⟩:=r
 have v1:∀ m,0 ≤ m → (Sn s2 m ↔ m ∈ start):=fun m hm => by have:=hv.seen m hm; simp only [hz,false_or] at this; exact this
 have v2:∀ m,m ∈ f ↔ m ∈ start:=fun m => by have:=hv.new m; simpa [hz] using this
 have v3:b = true ↔ ∃ m,m ∈ start ∧ gl m = true:=by have:=hv.hit; simpa [hz] using this
 have v4:f.length + s2.count false = size:=by have:=hv.cnt; simpa using this
 have v5:s2.length = size:=by have:=hv.len; simpa using this
 simp only
 by_cases hb:b = true
 ·rw [if_pos hb]
  obtain ⟨m,h1,h2⟩:=v3.1 hb
  refine .inl ⟨rfl,⟨m,N6.2 h1,h2⟩,fun x _ hx => ?_⟩
  rcases hx with hx | ⟨hx,hy⟩
  ·simp at hx
  ·have:x = []:=List.length_eq_zero_iff.1 (by simpa using hx)
   subst this
   exact hy
 ·rw [if_neg hb]
  have hf:f ≠ []:=by
   intro h
   apply hne
   cases start with
   | nil => rfl
   | cons a az =>
    have:=(v2 a).2 List.mem_cons_self
    rw [h] at this; cases this
  have hfl:0 < f.length:=List.length_pos_iff.2 hf
  have hst1:addP [] (-1) 0 f = [⟨-1,0,f⟩]:=by unfold addP; rw [if_neg hf]; rfl
  rw [hst1]
  have hm:Mid nx gl ls start size 0 [] s2 [⟨-1,0,f⟩] (fun _ => []):=by
   refine ⟨v5,by simp; omega,?_,?_,?_,?_,?_,?_,?_,?_,?_⟩
   ·intro k hk
    obtain rfl:k = 0:=by simpa using hk
    show f.length ≤ size
    omega
   ·intro k hk
    obtain rfl:k = 0:=by simpa using hk
    exact .inl ⟨by show (-1:Int) < 0; decide,rfl⟩
   ·intro k hk n hn
    obtain rfl:k = 0:=by simpa using hk
    have h1:=(v2 n).1 hn
    have h2:=hst n h1
    exact ⟨N6.2 h1,(v1 n h2.1).2 h1,h2⟩
   ·intro n hn hs
    exact ⟨0,by simp,(v2 n).2 ((v1 n hn).1 hs)⟩
   ·intro j k hjk hk
    simp at hk
    omega
   ·intro k hk n hn w hw hlt
    rcases hlt with h | ⟨h,h2⟩
    ·simp at h
    ·have:w = []:=List.length_eq_zero_iff.1 (by simpa using h)
     subst this
     exact h2
   ·intro n hn hs
    cases hg:gl n with
    | false => rfl
    | true => exact (hb (v3.2 ⟨n,(v1 n hn).1 hs,hg⟩)).elim
   ·intro n hn
    exact (v1 n (hst n hn).1).2 hn
   ·intro k hk p hp l hl hor m hmm
    obtain rfl:k = 0:=by simpa using hk
    rcases hor with h | ⟨_,h⟩
    ·omega
    ·cases h
  obtain ⟨g1,g2⟩:=aNf ha hnx hst (size + 1) 0 s2 [⟨-1,0,f⟩] _ hm (by simp) (by omega)
  by_cases ho:(outG nx gl ls (size + 1) 0 (s2,[⟨-1,0,f⟩])).1 = true
  ·rw [if_pos ho]
   exact .inl ⟨rfl,g1 ho⟩
  ·rw [if_neg ho]
   exact .inr ⟨rfl,g2 ho⟩
end
end
def badQ (n:Int) (r:List Int) (i:Nat):Bool:=!(decide (0 ≤ r.getD i 0) && decide (r.getD i 0 < n))
def yD (w n:Int) (r:List Int):Bool:=!decide ((r.length:Int) = w) || (seek (badQ n r) r.length 0).isSome
def mA (w n:Int) (rs:List (List Int)) (i:Nat):Bool:=yD w n (rs.getD i [])
def kM (al:Int) (rs:List (List Int)) (ac:List Bool):Bool :=
 pA al && decide ((1:Int) ≤ rs.length) && decide ((rs.length:Int) ≤ 12) && decide ((ac.length:Int) = rs.length) && (seek (mA (aD al).length rs.length rs) rs.length 0).isNone
theorem aG9 {w n:Int} {r:List Int} (h:¬ (r.length:Int) = w):yD w n r = true:=by
 unfold yD
 rw [decide_eq_false h]
 rfl
theorem aA8 {w n:Int} {r:List Int} (h:(r.length:Int) = w):yD w n r = (seek (badQ n r) r.length 0).isSome:=by
 unfold yD
 rw [decide_eq_true h]
 rfl
theorem OE {n:Int} {r:List Int} {i:Nat}:badQ n r i = true ↔ ¬ (0 ≤ r.getD i 0 ∧ r.getD i 0 < n):=by
 unfold badQ
 simp only [Bool.not_eq_true',Bool.and_eq_false_iff,decide_eq_false_iff_not]
 omega
theorem H5 {n:Int} {r:List Int} {i:Nat}:badQ n r i = false ↔ (0 ≤ r.getD i 0 ∧ r.getD i 0 < n):=by
 unfold badQ
 simp only [Bool.not_eq_false',Bool.and_eq_true,decide_eq_true_eq]
theorem A2 {R:Type} {L nn:Nat} (hn:1 ≤ nn) {n:Int} {r:List Int} (hl:r.length ≤ 4294967296) {k:Exit → List A → H → Option R}:∀ (j:Nat) (i:Int) (m:Nat) (h0:0 ≤ i) (hi:i + j = r.length) (hm:j < m),
  aO env (aA env L nn) L 0 [] (U1 (Z1 (U1 (Z2 (Z1 (U2 (Z16 (Z4 (Z2 (Z1 ([]))))))))))) (BH 0) (Z1 (U1 (Z1 (U2 (U1 (Z2 (U16 (U4 (U2 (U1 ([]))))))))))) m (.d (.ivs r.length (ints r)) :: Y1 (.d (.int .i64 n) :: Y2 (Y1 (.d (.bool false) :: .d (.int .i64 i) :: Y16 (Y4 (Y2 (Y1 ([])))))))) [] k
  = match seek (badQ n r) j i.toNat with
   | none => k (.exit 0) (.d (.ivs r.length (ints r)) :: Y1 (.d (.int .i64 n) :: Y2 (Y1 (.d (.bool false) :: .d (.int .i64 (r.length)) :: Y16 (Y4 (Y2 (Y1 ([])))))))) []
   | some q => k .ret (.d (.ivs r.length (ints r)) :: Y1 (.d (.int .i64 n) :: Y2 (Y1 (.d (.bool false) :: .d (.int .i64 q) :: Y16 (Y4 (Y2 (Y1 ([])))))))) []:=by
 intro j
 induction j with
 | zero =>
  intro i m h0 hi hm
  obtain _ | m:=m; omega
  obtain rfl:i = r.length:=by omega
  rw [wA]
  simp only [xU,Tryd.f56,SLM,simprocAttr]
  simp -implicitDefEqProofs (maxSteps:=2000000) (disch:=try exact Dz) only [↓DN,↓kAsg,↓kRet,UP,simprocAttr,LA,Int.lt_irrefl]
  rfl
 | succ j ih =>
  intro i m h0 hi hm
  obtain _ | m:=m; omega
  have hc:i < r.length:=by omega
  have hk:i.toNat < r.length:=by omega
  have e1:(i + 1).toNat = i.toNat + 1:=by omega
  have e3:((i.toNat:Nat):Int) = i:=by omega
  by_cases h1:r.getD i.toNat 0 < 0
  ·have hb:badQ n r i.toNat = true:=by rw [OE]; omega
   rw [pH hb]
   rw [wA]
   simp only [xU,Tryd.f56,SLM,simprocAttr]
   simp -implicitDefEqProofs (maxSteps:=2000000) (disch:=try exact Dz) only [↓DN,↓kAsg,↓kRet,UP,simprocAttr,LA,dW,d9,hc,h1,e3]
  ·by_cases h2:n ≤ r.getD i.toNat 0
   ·have hb:badQ n r i.toNat = true:=by rw [OE]; omega
    rw [pH hb]
    rw [wA]
    simp only [xU,Tryd.f56,SLM,simprocAttr]
    simp -implicitDefEqProofs (maxSteps:=2000000) (disch:=try exact Dz) only [↓DN,↓kAsg,↓kRet,UP,simprocAttr,LA,dW,d9,hc,h1,h2,e3]
   ·have hb:badQ n r i.toNat = false:=by rw [H5]; omega
    rw [sS hb]
    rw [wA]
    simp only [xU,Tryd.f56,SLM,simprocAttr]
    simp -implicitDefEqProofs (maxSteps:=2000000) (disch:=try exact Dz) only [↓DN,↓kAsg,↓kRet,UP,simprocAttr,LA,dW,d9,hc,h1,h2,↓ih,e1]
theorem aCC {L n:Nat} (hn:2 ≤ n) (r:List Int) (w q:Int) (hl:r.length ≤ 4294967296) (hL:2 ^ 60 ≤ L):aA env L n 56 [.d (.ivs r.length (ints r)),.d (.int .i64 w),.d (.int .i64 q)] [] = some (.d (.bool (!yD w q r)),[]):=by
 unfold yD
 by_cases h1:(r.length:Int) = w
 ·have loop_a:=fun {R:Type} {n:Nat} (hn:1 ≤ n) {k:Exit → List A → H → Option R} => A2 (R:=R) (L:=L) (nn:=n) hn (n:=q) hl (k:=k) r.length 0 L (by omega) (by omega) (by omega)
  simp only [Int.toNat_zero] at loop_a
  cases hs:seek (badQ q r) r.length 0 with
  | none =>
   rw [hs] at loop_a
   obtain _ | n:=n; omega
   rw [SJ]
   simp only [NW,Tryd.f56,SLM,simprocAttr]
   simp -implicitDefEqProofs (maxSteps:=2000000) (disch:=try exact Dz) only [↓DN,↓kAsg,↓kRet,UP,simprocAttr,↓A2,LA,h1,↓loop_a,hs]
  | some z =>
   rw [hs] at loop_a
   obtain _ | n:=n; omega
   rw [SJ]
   simp only [NW,Tryd.f56,SLM,simprocAttr]
   simp -implicitDefEqProofs (maxSteps:=2000000) (disch:=try exact Dz) only [↓DN,↓kAsg,↓kRet,UP,simprocAttr,↓A2,LA,h1,↓loop_a,hs]
 ·obtain _ | n:=n; omega
  rw [SJ]
  simp only [NW,Tryd.f56,SLM,simprocAttr]
  simp -implicitDefEqProofs (maxSteps:=2000000) (disch:=try exact Dz) only [↓DN,↓kAsg,↓kRet,UP,simprocAttr,↓A2,LA,h1]
theorem oR {R:Type} {L n:Nat} {hq:H} {k:A → H → Option R} (hn:2 ≤ n) (r:List Int) (w q:Int) (hl:r.length ≤ 4294967296) (hL:2 ^ 60 ≤ L):aL env (aA env L n) hq 56 [.d (.ivs r.length (ints r)),.d (.int .i64 w),.d (.int .i64 q)] k = k (.d (.bool (!yD w q r))) hq :=
 a5 rfl (aCC hn r w q hl hL) rfl (.inl rfl)
theorem oP {R:Type} {L n:Nat} {k:A → Option R} (hn:2 ≤ n) (r:List Int) (w q:Int) (hl:r.length ≤ 4294967296) (hL:2 ^ 60 ≤ L):bL (aA env L n) 56 [.d (.ivs r.length (ints r)),.d (.int .i64 w),.d (.int .i64 q)] k = k (.d (.bool (!yD w q r))) :=
 fR (aCC hn r w q hl hL) rfl
theorem mB {R:Type} {L n:Nat} {hq:H} {k:A → H → Option R} {id0 g0 o0 len0:Nat} {w q:Int}:aL env (aA env L n) hq 56 [.sl id0 g0 o0 len0,.d (.int .i64 w),.d (.int .i64 q)] k = match box (cZ hq [.sl id0 g0 o0 len0,.d (.int .i64 w),.d (.int .i64 q)]) with
  | .mk (some fs) => bL (aA env L n) 56 fs fun r => k r hq
  | _ => none:=aW KL
theorem gS {R:Type} {L n:Nat} (hL:2 ^ 60 ≤ L) (hn:3 ≤ n) {al:Int} {rs:List (List Int)} {ac:List Bool} (hs:bA rs) {k:Exit → List A → H → Option R}:∀ (j:Nat) (i:Int) (m:Nat) (h0:0 ≤ i) (hi:i + j = rs.length) (hm:j < m),
  aO env (aA env L n) L 0 [] (Z1 (U4 (Z32 (Z4 (Z2 (Z1 ([]))))))) (nB 0) (U1 (Z4 (U32 (U4 (U2 (U1 ([]))))))) m (Y1 (.ptr 0 0 0 :: .d (.bool false) :: .d (.int .i64 (rs.length)) :: .d (.int .i64 i) :: Y32 (Y4 (Y2 (Y1 ([])))))) [.box [.d (.int .i64 al),.d (.ivs rs.length (aJ rs)),.d (.ivs ac.length (aK ac))]] k
  = match seek (mA (aD al).length rs.length rs) j i.toNat with
   | none => k (.exit 0) (Y1 (.ptr 0 0 0 :: .d (.bool false) :: .d (.int .i64 (rs.length)) :: .d (.int .i64 (rs.length)) :: Y32 (Y4 (Y2 (Y1 ([])))))) [.box [.d (.int .i64 al),.d (.ivs rs.length (aJ rs)),.d (.ivs ac.length (aK ac))]]
   | some q => k .ret (Y1 (.ptr 0 0 0 :: .d (.bool false) :: .d (.int .i64 (rs.length)) :: .d (.int .i64 q) :: Y32 (Y4 (Y2 (Y1 ([])))))) [.box [.d (.int .i64 al),.d (.ivs rs.length (aJ rs)),.d (.ivs ac.length (aK ac))]]:=by
 intro j
 have hrl:=hs.1
 have hll:=eZ al
 induction j with
 | zero =>
  intro i m h0 hi hm
  obtain _ | m:=m; omega
  obtain rfl:i = rs.length:=by omega
  rw [p8]
  simp only [oQ,Tryd.f24,SLM,simprocAttr]
  simp -implicitDefEqProofs (maxSteps:=2000000) (disch:=try exact Dz) only [↓DN,↓kAsg,↓kRet,UP,simprocAttr,↓iQ,↓aZ,↓oR,↓oP,↓mB,LA,Int.lt_irrefl]
  rfl
 | succ j ih =>
  intro i m h0 hi hm
  obtain _ | m:=m; omega
  have hc:i < rs.length:=by omega
  have hk:i.toNat < rs.length:=by omega
  have hrow:=sR hs hk
  have e1:(i + 1).toNat = i.toNat + 1:=by omega
  have e3:((i.toNat:Nat):Int) = i:=by omega
  cases hb:mA (aD al).length rs.length rs i.toNat with
  | true =>
   rw [pH hb]
   unfold mA at hb
   rw [p8]
   simp only [oQ,Tryd.f24,SLM,simprocAttr]
   simp -implicitDefEqProofs (maxSteps:=2000000) (disch:=try exact Dz) only [↓DN,↓kAsg,↓kRet,UP,simprocAttr,↓iQ,↓aZ,↓oR,↓oP,↓mB,LA,d7,eD,hc,hb,e3]
  | false =>
   rw [sS hb]
   unfold mA at hb
   rw [p8]
   simp only [oQ,Tryd.f24,SLM,simprocAttr]
   simp -implicitDefEqProofs (maxSteps:=2000000) (disch:=try exact Dz) only [↓DN,↓kAsg,↓kRet,UP,simprocAttr,↓iQ,↓aZ,↓oR,↓oP,↓mB,LA,d7,eD,hc,hb,↓ih,e1]
theorem DI {L n:Nat} (hn:4 ≤ n) (al:Int) (rs:List (List Int)) (ac:List Bool) (hs:bA rs) (ha:ac.length ≤ 4294967296) (hL:2 ^ 60 ≤ L):aA env L n 24 [.agg [.d (.int .i64 al),.d (.ivs rs.length (aJ rs)),.d (.ivs ac.length (aK ac))]] [] = some (.d (.bool (kM al rs ac)),[]):=by
 have hrl:=hs.1
 have loop_a:=fun {R:Type} {n:Nat} (hn:3 ≤ n) {k:Exit → List A → H → Option R} => gS (R:=R) (L:=L) hL hn (al:=al) (ac:=ac) hs (k:=k) rs.length 0 L (by omega) (by omega) (by omega)
 simp only [Int.toNat_zero] at loop_a
 unfold kM
 cases hq:pA al with
 | false =>
  obtain _ | n:=n; omega
  rw [kB]
  simp only [jL,Tryd.f24,SLM,simprocAttr]
  simp -implicitDefEqProofs (maxSteps:=2000000) (disch:=try exact Dz) only [↓DN,↓kAsg,↓kRet,UP,simprocAttr,↓iQ,↓aZ,↓oR,↓oP,↓mB,↓gS,LA,hq,Bool.false_and]
 | true =>
  by_cases h1:(1:Int) ≤ rs.length
  ·have n1:¬ (rs.length:Int) < 1:=by omega
   by_cases h2:(rs.length:Int) ≤ 12
   ·have n2:¬ (12:Int) < rs.length:=by omega
    by_cases h3:(ac.length:Int) = rs.length
    ·cases hk:seek (mA (aD al).length rs.length rs) rs.length 0 with
     | none =>
      rw [hk] at loop_a
      obtain _ | n:=n; omega
      rw [kB]
      simp only [jL,Tryd.f24,SLM,simprocAttr]
      simp -implicitDefEqProofs (maxSteps:=2000000) (disch:=try exact Dz) only [↓DN,↓kAsg,↓kRet,UP,simprocAttr,↓iQ,↓aZ,↓oR,↓oP,↓mB,↓gS,LA,hq,h1,n1,h2,n2,h3,hk,↓loop_a]
     | some z =>
      rw [hk] at loop_a
      obtain _ | n:=n; omega
      rw [kB]
      simp only [jL,Tryd.f24,SLM,simprocAttr]
      simp -implicitDefEqProofs (maxSteps:=2000000) (disch:=try exact Dz) only [↓DN,↓kAsg,↓kRet,UP,simprocAttr,↓iQ,↓aZ,↓oR,↓oP,↓mB,↓gS,LA,hq,h1,n1,h2,n2,h3,hk,↓loop_a,Bool.and_false]
    ·obtain _ | n:=n; omega
     rw [kB]
     simp only [jL,Tryd.f24,SLM,simprocAttr]
     simp -implicitDefEqProofs (maxSteps:=2000000) (disch:=try exact Dz) only [↓DN,↓kAsg,↓kRet,UP,simprocAttr,↓iQ,↓aZ,↓oR,↓oP,↓mB,↓gS,LA,hq,h1,n1,h2,n2,h3,Bool.false_and,Bool.and_false]
   ·have n2:(12:Int) < rs.length:=by omega
    obtain _ | n:=n; omega
    rw [kB]
    simp only [jL,Tryd.f24,SLM,simprocAttr]
    simp -implicitDefEqProofs (maxSteps:=2000000) (disch:=try exact Dz) only [↓DN,↓kAsg,↓kRet,UP,simprocAttr,↓iQ,↓aZ,↓oR,↓oP,↓mB,↓gS,LA,hq,h1,n1,h2,n2,Bool.false_and,Bool.and_false]
  ·have n1:(rs.length:Int) < 1:=by omega
   obtain _ | n:=n; omega
   rw [kB]
   simp only [jL,Tryd.f24,SLM,simprocAttr]
   simp -implicitDefEqProofs (maxSteps:=2000000) (disch:=try exact Dz) only [↓DN,↓kAsg,↓kRet,UP,simprocAttr,↓iQ,↓aZ,↓oR,↓oP,↓mB,↓gS,LA,hq,h1,n1,Bool.false_and,Bool.and_false]
theorem dR {R:Type} {L n:Nat} {hq:H} {k:A → H → Option R} (hn:4 ≤ n) (al:Int) (rs:List (List Int)) (ac:List Bool) (hs:bA rs) (ha:ac.length ≤ 4294967296) (hL:2 ^ 60 ≤ L):aL env (aA env L n) hq 24 [.agg [.d (.int .i64 al),.d (.ivs rs.length (aJ rs)),.d (.ivs ac.length (aK ac))]] k = k (.d (.bool (kM al rs ac))) hq :=
 a5 rfl (DI hn al rs ac hs ha hL) rfl (.inl rfl)
theorem dS {R:Type} {L n:Nat} {k:A → Option R} (hn:4 ≤ n) (al:Int) (rs:List (List Int)) (ac:List Bool) (hs:bA rs) (ha:ac.length ≤ 4294967296) (hL:2 ^ 60 ≤ L):bL (aA env L n) 24 [.agg [.d (.int .i64 al),.d (.ivs rs.length (aJ rs)),.d (.ivs ac.length (aK ac))]] k = k (.d (.bool (kM al rs ac))) :=
 fR (DI hn al rs ac hs ha hL) rfl
theorem dC {R:Type} {L n:Nat} {hq:H} {k:A → H → Option R} {id0 g0 o0 len0:Nat} {al:Int} {ac:List Bool}:aL env (aA env L n) hq 24 [.agg [.d (.int .i64 al),.sl id0 g0 o0 len0,.d (.ivs ac.length (aK ac))]] k = match box (cZ hq [.agg [.d (.int .i64 al),.sl id0 g0 o0 len0,.d (.ivs ac.length (aK ac))]]) with
  | .mk (some fs) => bL (aA env L n) 24 fs fun r => k r hq
  | _ => none:=aW kX
theorem dD {R:Type} {L n:Nat} {hq:H} {k:A → H → Option R} {id1 g1 o1 len1:Nat} {al:Int} {rs:List (List Int)}:aL env (aA env L n) hq 24 [.agg [.d (.int .i64 al),.d (.ivs rs.length (aJ rs)),.sl id1 g1 o1 len1]] k = match box (cZ hq [.agg [.d (.int .i64 al),.d (.ivs rs.length (aJ rs)),.sl id1 g1 o1 len1]]) with
  | .mk (some fs) => bL (aA env L n) 24 fs fun r => k r hq
  | _ => none:=aW kX
theorem dB {R:Type} {L n:Nat} {hq:H} {k:A → H → Option R} {id1 g1 o1 len1:Nat} {id0 g0 o0 len0:Nat} {al:Int}:aL env (aA env L n) hq 24 [.agg [.d (.int .i64 al),.sl id0 g0 o0 len0,.sl id1 g1 o1 len1]] k = match box (cZ hq [.agg [.d (.int .i64 al),.sl id0 g0 o0 len0,.sl id1 g1 o1 len1]]) with
  | .mk (some fs) => bL (aA env L n) 24 fs fun r => k r hq
  | _ => none:=aW kX
theorem dA {R:Type} {L n:Nat} (hL:2 ^ 60 ≤ L) (hn:3 ≤ n) {al q w:Int} {rs:List (List Int)} {ac:List Bool} (hs:bA rs) {r:List Int} (hr:r.length ≤ 4294967296) {k:Exit → List A → H → Option R}:∀ (j:Nat) (i:Int) (m:Nat) (h0:0 ≤ i) (hi:i + j = r.length) (hm:j < m),
  aO env (aA env L n) L 0 [] (Z1 (U2 (U1 (Z32 (Z2 (U2 (U1 (Z4 (Z2 (Z1 (U2 (U1 (Z8 (Z4 (Z2 ([])))))))))))))))) (fC 1) (U1 (Z2 (Z1 (U32 (U2 (Z2 (Z1 (U4 (U2 (U1 (Z2 (Z1 (U8 (U4 (U2 ([])))))))))))))))) m (Y1 (.ptr 0 0 0 :: .d (.bool false) :: .d (.int .i64 w) :: Y32 (Y2 (.d (.ivs rs.length (aJ rs)) :: .d (.int .i64 (rs.length)) :: .d (.int .i64 q) :: Y4 (Y2 (Y1 (.d (.ivs r.length (ints r)) :: .d (.int .i64 (r.length)) :: .d (.int .i64 i) :: Y8 (Y4 (Y2 ([])))))))))) [.box [.d (.int .i64 al),.d (.ivs rs.length (aJ rs)),.d (.ivs ac.length (aK ac))]] k
  = match seek (badQ rs.length r) j i.toNat with
   | none => k (.exit 2) (Y1 (.ptr 0 0 0 :: .d (.bool false) :: .d (.int .i64 w) :: Y32 (Y2 (.d (.ivs rs.length (aJ rs)) :: .d (.int .i64 (rs.length)) :: .d (.int .i64 q) :: Y4 (Y2 (Y1 (.d (.ivs r.length (ints r)) :: .d (.int .i64 (r.length)) :: .d (.int .i64 (r.length)) :: Y8 (Y4 (Y2 ([])))))))))) [.box [.d (.int .i64 al),.d (.ivs rs.length (aJ rs)),.d (.ivs ac.length (aK ac))]]
   | some z => k .ret (Y1 (.ptr 0 0 0 :: .d (.bool false) :: .d (.int .i64 w) :: Y32 (Y2 (.d (.ivs rs.length (aJ rs)) :: .d (.int .i64 (rs.length)) :: .d (.int .i64 q) :: Y4 (Y2 (Y1 (.d (.ivs r.length (ints r)) :: .d (.int .i64 (r.length)) :: .d (.int .i64 z) :: Y8 (Y4 (Y2 ([])))))))))) [.box [.d (.int .i64 al),.d (.ivs rs.length (aJ rs)),.d (.ivs ac.length (aK ac))]]:=by
 intro j
 have hrl:=hs.1
 induction j with
 | zero =>
  intro i m h0 hi hm
  obtain _ | m:=m; omega
  obtain rfl:i = r.length:=by omega
  rw [mY]
  simp only [mE,Tryd.f9,SLM,simprocAttr]
  simp -implicitDefEqProofs (maxSteps:=2000000) (disch:=try exact Dz) only [↓DN,↓kAsg,↓kRet,UP,simprocAttr,↓eB,↓b9,LA,Int.lt_irrefl]
  rfl
 | succ j ih =>
  intro i m h0 hi hm
  obtain _ | m:=m; omega
  have hc:i < r.length:=by omega
  have hk:i.toNat < r.length:=by omega
  have e1:(i + 1).toNat = i.toNat + 1:=by omega
  have e3:((i.toNat:Nat):Int) = i:=by omega
  by_cases h1:r.getD i.toNat 0 < 0
  ·have hb:badQ rs.length r i.toNat = true:=by rw [OE]; omega
   rw [pH hb]
   rw [mY]
   simp only [mE,Tryd.f9,SLM,simprocAttr]
   simp -implicitDefEqProofs (maxSteps:=2000000) (disch:=try exact Dz) only [↓DN,↓kAsg,↓kRet,UP,simprocAttr,↓eB,↓b9,LA,dW,d9,hc,h1,e3]
  ·by_cases h2:(rs.length:Int) ≤ r.getD i.toNat 0
   ·have hb:badQ rs.length r i.toNat = true:=by rw [OE]; omega
    rw [pH hb]
    rw [mY]
    simp only [mE,Tryd.f9,SLM,simprocAttr]
    simp -implicitDefEqProofs (maxSteps:=2000000) (disch:=try exact Dz) only [↓DN,↓kAsg,↓kRet,UP,simprocAttr,↓eB,↓b9,LA,dW,d9,hc,h1,h2,e3]
   ·have hb:badQ rs.length r i.toNat = false:=by rw [H5]; omega
    rw [sS hb]
    rw [mY]
    simp only [mE,Tryd.f9,SLM,simprocAttr]
    simp -implicitDefEqProofs (maxSteps:=2000000) (disch:=try exact Dz) only [↓DN,↓kAsg,↓kRet,UP,simprocAttr,↓eB,↓b9,LA,dW,d9,hc,h1,h2,↓ih,e1]
theorem fJ {R:Type} {L n:Nat} (hL:2 ^ 60 ≤ L) (hn:3 ≤ n) {al:Int} {rs:List (List Int)} {ac:List Bool} (hs:bA rs) {k:Exit → List A → H → Option R}:∀ (j:Nat) (i:Int) (m:Nat) (h0:0 ≤ i) (hi:i + j = rs.length) (hm:j < m),
  aO env (aA env L n) L 0 [] (Z1 (U2 (U1 (Z32 (Z2 (U2 (U1 (Z4 (Z2 (Z1 (U2 (U1 (Z8 (Z4 (Z2 ([])))))))))))))))) (fC 0) (U1 (Z2 (Z1 (U32 (U2 (Z2 (Z1 (U16 (U8 ([])))))))))) m (Y1 (.ptr 0 0 0 :: .d (.bool false) :: .d (.int .i64 ((aD al).length)) :: Y32 (Y2 (.d (.ivs rs.length (aJ rs)) :: .d (.int .i64 (rs.length)) :: .d (.int .i64 i) :: Y16 (Y8 ([])))))) [.box [.d (.int .i64 al),.d (.ivs rs.length (aJ rs)),.d (.ivs ac.length (aK ac))]] k
  = match seek (mA (aD al).length rs.length rs) j i.toNat with
   | none => k (.exit 0) (Y1 (.ptr 0 0 0 :: .d (.bool false) :: .d (.int .i64 ((aD al).length)) :: Y32 (Y2 (.d (.ivs rs.length (aJ rs)) :: .d (.int .i64 (rs.length)) :: .d (.int .i64 (rs.length)) :: Y16 (Y8 ([])))))) [.box [.d (.int .i64 al),.d (.ivs rs.length (aJ rs)),.d (.ivs ac.length (aK ac))]]
   | some q => k .ret (Y1 (.ptr 0 0 0 :: .d (.bool false) :: .d (.int .i64 ((aD al).length)) :: Y32 (Y2 (.d (.ivs rs.length (aJ rs)) :: .d (.int .i64 (rs.length)) :: .d (.int .i64 q) :: Y16 (Y8 ([])))))) [.box [.d (.int .i64 al),.d (.ivs rs.length (aJ rs)),.d (.ivs ac.length (aK ac))]]:=by
 intro j
 have hrl:=hs.1
 have hll:=eZ al
 induction j with
 | zero =>
  intro i m h0 hi hm
  obtain _ | m:=m; omega
  obtain rfl:i = rs.length:=by omega
  rw [mV]
  simp only [lZ,Tryd.f9,SLM,simprocAttr]
  simp -implicitDefEqProofs (maxSteps:=2000000) (disch:=try exact Dz) only [↓DN,↓kAsg,↓kRet,UP,simprocAttr,↓eB,↓b9,↓dA,LA,Int.lt_irrefl]
  rfl
 | succ j ih =>
  intro i m h0 hi hm
  obtain _ | m:=m; omega
  have hc:i < rs.length:=by omega
  have hk:i.toNat < rs.length:=by omega
  have hrow:=sR hs hk
  have e1:(i + 1).toNat = i.toNat + 1:=by omega
  have e3:((i.toNat:Nat):Int) = i:=by omega
  have loop_a:=fun {R:Type} {k:Exit → List A → H → Option R} => dA (R:=R) (n:=n) (L:=L) hL hn (al:=al) (q:=i) (w:=(aD al).length) (ac:=ac) hs hrow (k:=k) (rs.getD i.toNat []).length 0 L (by omega) (by omega) (by omega)
  simp only [Int.toNat_zero] at loop_a
  cases hb:mA (aD al).length rs.length rs i.toNat with
  | true =>
   rw [pH hb]
   unfold mA at hb
   by_cases hw:((rs.getD i.toNat []).length:Int) = (aD al).length
   ·have hwd:decide (((rs.getD i.toNat []).length:Int) = (aD al).length) = true:=decide_eq_true hw
    cases hz:seek (badQ rs.length (rs.getD i.toNat [])) (rs.getD i.toNat []).length 0 with
    | none => rw [aA8 hw,hz] at hb; cases hb
    | some z =>
     rw [hz] at loop_a
     clear ih hb
     rw [mV]
     simp only [lZ,Tryd.f9,SLM,simprocAttr]
     simp -implicitDefEqProofs (maxSteps:=2000000) (disch:=try exact Dz) only [↓DN,↓kAsg,↓kRet,UP,simprocAttr,↓eB,↓b9,↓dA,LA,d7,eD,hc,hwd,↓loop_a,e3]
   ·clear ih hb loop_a
    rw [mV]
    simp only [lZ,Tryd.f9,SLM,simprocAttr]
    simp -implicitDefEqProofs (maxSteps:=2000000) (disch:=try exact Dz) only [↓DN,↓kAsg,↓kRet,UP,simprocAttr,↓eB,↓b9,↓dA,LA,d7,eD,hc,hw,e3]
  | false =>
   rw [sS hb]
   unfold mA at hb
   by_cases hw:((rs.getD i.toNat []).length:Int) = (aD al).length
   ·have hwd:decide (((rs.getD i.toNat []).length:Int) = (aD al).length) = true:=decide_eq_true hw
    cases hz:seek (badQ rs.length (rs.getD i.toNat [])) (rs.getD i.toNat []).length 0 with
    | none =>
     rw [hz] at loop_a
     clear hb
     rw [mV]
     simp only [lZ,Tryd.f9,SLM,simprocAttr]
     simp -implicitDefEqProofs (maxSteps:=2000000) (disch:=try exact Dz) only [↓DN,↓kAsg,↓kRet,UP,simprocAttr,↓eB,↓b9,↓dA,LA,d7,eD,hc,hwd,↓loop_a,↓ih,e1]
    | some z => rw [aA8 hw,hz] at hb; cases hb
   ·rw [aG9 hw] at hb; cases hb
theorem DF {L n:Nat} (hn:4 ≤ n) (al:Int) (rs:List (List Int)) (ac:List Bool) (hs:bA rs) (ha:ac.length ≤ 4294967296) (hL:2 ^ 60 ≤ L):aA env L n 9 [.agg [.d (.int .i64 al),.d (.ivs rs.length (aJ rs)),.d (.ivs ac.length (aK ac))]] [] = some (.d (.bool (kM al rs ac)),[]):=by
 have hrl:=hs.1
 have hll:=eZ al
 have loop_a:=fun {R:Type} {n:Nat} (hn:3 ≤ n) {k:Exit → List A → H → Option R} => fJ (R:=R) (L:=L) hL hn (al:=al) (ac:=ac) hs (k:=k) rs.length 0 L (by omega) (by omega) (by omega)
 simp only [Int.toNat_zero] at loop_a
 unfold kM
 cases hq:pA al with
 | false =>
  obtain _ | n:=n; omega
  rw [kA]
  simp only [jE,Tryd.f9,SLM,simprocAttr]
  simp -implicitDefEqProofs (maxSteps:=2000000) (disch:=try exact Dz) only [↓DN,↓kAsg,↓kRet,UP,simprocAttr,↓eB,↓b9,↓fJ,↓dA,LA,hq,Bool.false_and]
 | true =>
  by_cases h1:(1:Int) ≤ rs.length
  ·have n1:¬ (rs.length:Int) < 1:=by omega
   by_cases h2:(rs.length:Int) ≤ 12
   ·have n2:¬ (12:Int) < rs.length:=by omega
    by_cases h3:(ac.length:Int) = rs.length
    ·cases hk:seek (mA (aD al).length rs.length rs) rs.length 0 with
     | none =>
      rw [hk] at loop_a
      obtain _ | n:=n; omega
      rw [kA]
      simp only [jE,Tryd.f9,SLM,simprocAttr]
      simp -implicitDefEqProofs (maxSteps:=2000000) (disch:=try exact Dz) only [↓DN,↓kAsg,↓kRet,UP,simprocAttr,↓eB,↓b9,↓fJ,↓dA,LA,hq,h1,n1,h2,n2,h3,hk,↓loop_a]
     | some z =>
      rw [hk] at loop_a
      obtain _ | n:=n; omega
      rw [kA]
      simp only [jE,Tryd.f9,SLM,simprocAttr]
      simp -implicitDefEqProofs (maxSteps:=2000000) (disch:=try exact Dz) only [↓DN,↓kAsg,↓kRet,UP,simprocAttr,↓eB,↓b9,↓fJ,↓dA,LA,hq,h1,n1,h2,n2,h3,hk,↓loop_a,Bool.and_false]
    ·obtain _ | n:=n; omega
     rw [kA]
     simp only [jE,Tryd.f9,SLM,simprocAttr]
     simp -implicitDefEqProofs (maxSteps:=2000000) (disch:=try exact Dz) only [↓DN,↓kAsg,↓kRet,UP,simprocAttr,↓eB,↓b9,↓fJ,↓dA,LA,hq,h1,n1,h2,n2,h3,Bool.false_and,Bool.and_false]
   ·have n2:(12:Int) < rs.length:=by omega
    obtain _ | n:=n; omega
    rw [kA]
    simp only [jE,Tryd.f9,SLM,simprocAttr]
    simp -implicitDefEqProofs (maxSteps:=2000000) (disch:=try exact Dz) only [↓DN,↓kAsg,↓kRet,UP,simprocAttr,↓eB,↓b9,↓fJ,↓dA,LA,hq,h1,n1,h2,n2,Bool.false_and,Bool.and_false]
  ·have n1:(rs.length:Int) < 1:=by omega
   obtain _ | n:=n; omega
   rw [kA]
   simp only [jE,Tryd.f9,SLM,simprocAttr]
   simp -implicitDefEqProofs (maxSteps:=2000000) (disch:=try exact Dz) only [↓DN,↓kAsg,↓kRet,UP,simprocAttr,↓eB,↓b9,↓fJ,↓dA,LA,hq,h1,n1,Bool.false_and,Bool.and_false]
theorem a7 {R:Type} {L n:Nat} {hq:H} {k:A → H → Option R} (hn:4 ≤ n) (al:Int) (rs:List (List Int)) (ac:List Bool) (hs:bA rs) (ha:ac.length ≤ 4294967296) (hL:2 ^ 60 ≤ L):aL env (aA env L n) hq 9 [.agg [.d (.int .i64 al),.d (.ivs rs.length (aJ rs)),.d (.ivs ac.length (aK ac))]] k = k (.d (.bool (kM al rs ac))) hq :=
 a5 rfl (DF hn al rs ac hs ha hL) rfl (.inl rfl)
theorem a6 {R:Type} {L n:Nat} {k:A → Option R} (hn:4 ≤ n) (al:Int) (rs:List (List Int)) (ac:List Bool) (hs:bA rs) (ha:ac.length ≤ 4294967296) (hL:2 ^ 60 ≤ L):bL (aA env L n) 9 [.agg [.d (.int .i64 al),.d (.ivs rs.length (aJ rs)),.d (.ivs ac.length (aK ac))]] k = k (.d (.bool (kM al rs ac))) :=
 fR (DF hn al rs ac hs ha hL) rfl
theorem aT {R:Type} {L n:Nat} {hq:H} {k:A → H → Option R} {id0 g0 o0 len0:Nat} {al:Int} {ac:List Bool}:aL env (aA env L n) hq 9 [.agg [.d (.int .i64 al),.sl id0 g0 o0 len0,.d (.ivs ac.length (aK ac))]] k = match box (cZ hq [.agg [.d (.int .i64 al),.sl id0 g0 o0 len0,.d (.ivs ac.length (aK ac))]]) with
  | .mk (some fs) => bL (aA env L n) 9 fs fun r => k r hq
  | _ => none:=aW kY
theorem aU {R:Type} {L n:Nat} {hq:H} {k:A → H → Option R} {id1 g1 o1 len1:Nat} {al:Int} {rs:List (List Int)}:aL env (aA env L n) hq 9 [.agg [.d (.int .i64 al),.d (.ivs rs.length (aJ rs)),.sl id1 g1 o1 len1]] k = match box (cZ hq [.agg [.d (.int .i64 al),.d (.ivs rs.length (aJ rs)),.sl id1 g1 o1 len1]]) with
  | .mk (some fs) => bL (aA env L n) 9 fs fun r => k r hq
  | _ => none:=aW kY
theorem aV {R:Type} {L n:Nat} {hq:H} {k:A → H → Option R} {id1 g1 o1 len1:Nat} {id0 g0 o0 len0:Nat} {al:Int}:aL env (aA env L n) hq 9 [.agg [.d (.int .i64 al),.sl id0 g0 o0 len0,.sl id1 g1 o1 len1]] k = match box (cZ hq [.agg [.d (.int .i64 al),.sl id0 g0 o0 len0,.sl id1 g1 o1 len1]]) with
  | .mk (some fs) => bL (aA env L n) 9 fs fun r => k r hq
  | _ => none:=aW kY
end Ev
end Go.Proofs.YtppdfjdfjfoddaaDoor
