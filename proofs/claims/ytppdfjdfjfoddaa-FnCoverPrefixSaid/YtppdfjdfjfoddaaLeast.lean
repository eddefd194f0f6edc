/-
  Automata that are drawn: one state more.
-/
import Derived.Test.YtppdfjdfjfoddaaChange
import Derived.Test.YtppdfjdfjfoddaaWrongA
import Derived.Tactics
set_option linter.unusedSimpArgs false
set_option linter.unusedVariables false
set_option maxRecDepth 8000
set_option maxHeartbeats 4000000
namespace Go.Proofs.Ytppdfjdfjfoddaa
namespace Ev
theorem aGO {c : List UInt8} (hc : c.length ≤ 2000) (al : Int) (nx : List (List Int)) (ac : List Bool) (hs : a7 nx) (ha : ac.length ≤ 4294967290) (p : Int) (t : Nat) (ht : t < nx.length) (h12 : nx.length < 12) (hta : t < ac.length) {row : List Int} (hrw : nx.getD t [] = row) (hr0 : 0 < row.length) (hrl : row.length ≤ 4294967290) {bt : Bool} (hbt : ac.getD t false = bt)
  (kd1 : (Dw 1 74 [.d (.int .i64 (nx.length))] (.d (.int .i64 ((t : Int)))) c p (p + 1)))
  (kd2 : (Dw 1 74 [.d (.int .i64 4)] (.d (.int .i64 2)) c (p + 1) (p + 1 + 1))) : (Dw 4 93 [autD al nx ac] (autD al (nx.set t (row.set 0 nx.length) ++ [row]) (ac ++ [bt])) c p (p + 1 + 1)) := by
 intro R L n hq k hn hL
 refine d7 HV (by simp [autD,idsA,idsL]) (by simp [autD,idsA,idsL]) ?_
 have hnl := hs.1
 have h1 : 1 ≤ nx.length := by omega
 obtain ⟨N,T1,T2,T3,w⟩ := n7 (.box [.d (.int .i64 al),.d (.ivs nx.length (aK nx)),.d (.ivs ac.length (aJ ac))]) (.box [.d (.int .i64 0),.sl 2 0 0 0,.sl 3 0 0 0]) al nx ac
 have kd3 := fun {R : Type} {n : Nat} {o1 : O} {k : A → H → Option R} (hn : 2 ≤ n) => pQ (R := R) (L := L) (n := n) (o1 := o1) (al := al) (k := k) w.h1 hs h1 (by omega) hn hL
 obtain ⟨hN,hT1,l1,h2,b2,h3,l3,t3,t4,t5,tr,tb,e3,wg⟩ := w
 simp only [gI,idsL,idsA,List.length_nil,List.length_cons,List.nil_append,List.cons_append,Nat.zero_add] at wg
 clear e3
 clear hT1
 have hrow : nx[t]? = some row := by rw [← hrw,List.getD_eq_getElem?_getD,List.getElem?_eq_getElem ht]; rfl
 have hd7 : ((aB 7 nx ++ aF 0).drop t).head? = some (.sl (t + 7) 0 0 row.length) := by rw [nY ht,hrw]
 have hlv : (aB 7 nx ++ aF 0).length = nx.length := by rw [List.length_append,jI]; rfl
 have htk : (aB 7 nx ++ aF 0).take nx.length = aB 7 nx := HA rfl
 have t3r : T3[t + 6]? = some (.arr (ints row) 1 0) := tr _ _ hrow
 obtain ⟨T4,h4⟩ : ∃ T,T3 ++ [.arr [] 1 0] = T := ⟨_,rfl⟩
 obtain ⟨l4,g4,k4⟩ := mX h4
 rw [l3] at l4 g4 k4
 obtain ⟨T5,h5⟩ : ∃ T,T4.set (N + 1 + 1 + 1) (.arr (ints row) 1 1) = T := ⟨_,rfl⟩
 obtain ⟨l5,g5,k5⟩ := dI h5 (by omega)
 obtain ⟨T6,h6⟩ : ∃ T,T5 ++ [.vec [.sl (N + 1 + 1 + 1 + 1) 1 0 row.length] 1 0] = T := ⟨_,rfl⟩
 obtain ⟨l6,g6,k6⟩ := mX h6
 rw [l5,l4] at l6 g6 k6
 obtain ⟨T7,h7⟩ : ∃ T,T6.set 4 (.vec (aB 7 nx ++ [.sl (N + 1 + 1 + 1 + 1) 1 0 row.length]) 1 1) = T := ⟨_,rfl⟩
 obtain ⟨l7,g7,k7⟩ := dI h7 (by omega)
 obtain ⟨T8,h8⟩ : ∃ T,T7.set (N + 1 + 1) (.box [.d (.int .i64 al),.sl 5 1 0 (nx.length + 1),.sl 6 0 0 ac.length]) = T := ⟨_,rfl⟩
 obtain ⟨l8,g8,k8⟩ := dI h8 (by omega)
 obtain ⟨T9,h9⟩ : ∃ T,T8 ++ [.arr [.bool bt] 1 0] = T := ⟨_,rfl⟩
 obtain ⟨l9,g9,k9⟩ := mX h9
 rw [l8,l7,l6] at l9 g9 k9
 obtain ⟨T10,h10⟩ : ∃ T,T9.set 5 (.arr (aJ (ac ++ [bt])) 1 1) = T := ⟨_,rfl⟩
 obtain ⟨l10,g10,k10⟩ := dI h10 (by omega)
 obtain ⟨T11,h11⟩ : ∃ T,T10.set (N + 1 + 1) (.box [.d (.int .i64 al),.sl 5 1 0 (nx.length + 1),.sl 6 1 0 (ac.length + 1)]) = T := ⟨_,rfl⟩
 obtain ⟨l11,g11,k11⟩ := dI h11 (by omega)
 obtain ⟨T12,h12'⟩ : ∃ T,T11.set (t + 6) (.arr (ints (row.set 0 nx.length)) 1 0) = T := ⟨_,rfl⟩
 obtain ⟨l12,g12,k12⟩ := dI h12' (by omega)
 obtain ⟨T13,h13⟩ : ∃ T,T12.set 3 (.box [.d (.int .i64 al),.sl 5 1 0 (nx.length + 1),.sl 6 1 0 (ac.length + 1)]) = T := ⟨_,rfl⟩
 obtain ⟨l13,g13,k13⟩ := dI h13 (by omega)
 have w4 : wgt T4 = wgt T3 := by rw [← h4,C9]; simp [gI]
 have w5 : wgt T5 ≤ wgt T4 := by rw [← h5]; have := mV (h := T4) (i := N + 1 + 1 + 1) (o := .arr (ints row) 1 1); simpa [gI] using this
 have w6 : wgt T6 = wgt T5 + 1 := by rw [← h6,C9]; simp [gI,idsL,idsA]
 have w7 : wgt T7 ≤ wgt T6 + nx.length + 1 := by
  rw [← h7]
  have := mV (h := T6) (i := 4) (o := .vec (aB 7 nx ++ [.sl (N + 1 + 1 + 1 + 1) 1 0 row.length]) 1 1)
  simp only [gI,bQ,cW,idsL,idsA,List.length_append,List.length_range',List.length_cons,List.length_nil] at this
  omega
 have w8 : wgt T8 ≤ wgt T7 + 2 := by
  rw [← h8]
  have := mV (h := T7) (i := N + 1 + 1) (o := .box [.d (.int .i64 al),.sl 5 1 0 (nx.length + 1),.sl 6 0 0 ac.length])
  simpa [gI,idsL,idsA] using this
 have w9 : wgt T9 = wgt T8 := by rw [← h9,C9]; simp [gI]
 have w10 : wgt T10 ≤ wgt T9 := by rw [← h10]; have := mV (h := T9) (i := 5) (o := .arr (aJ (ac ++ [bt])) 1 1); simpa [gI] using this
 have t4b : T4[N + 1 + 1]? = some (.box [.d (.int .i64 al),.sl 5 0 0 nx.length,.sl 6 0 0 ac.length]) := by rw [k4 _ (by omega),tb]
 have t44 : T4[4]? = some (.vec (aB 7 nx ++ aF 0) 1 0) := by rw [k4 _ (by omega),t4]
 have t4r : T4[t + 6]? = some (.arr (ints row) 1 0) := by rw [k4 _ (by omega),t3r]
 have t64 : T6[4]? = some (.vec (aB 7 nx ++ aF 0) 1 0) := by rw [k6 _ (by omega),k5 _ (by omega),t44]
 have t6e : T6[N + 1 + 1 + 1]? = some (.arr (ints row) 1 1) := by rw [k6 _ (by omega),g5]
 have t7b : T7[N + 1 + 1]? = some (.box [.d (.int .i64 al),.sl 5 0 0 nx.length,.sl 6 0 0 ac.length]) := by rw [k7 _ (by omega),k6 _ (by omega),k5 _ (by omega),t4b]
 have t85 : T8[5]? = some (.arr (aJ ac) 1 0) := by rw [k8 _ (by omega),k7 _ (by omega),k6 _ (by omega),k5 _ (by omega),k4 _ (by omega),t5]
 have t9b : T9[N + 1 + 1]? = some (.box [.d (.int .i64 al),.sl 5 1 0 (nx.length + 1),.sl 6 0 0 ac.length]) := by rw [k9 _ (by omega),g8]
 have t95 : T9[5]? = some (.arr (aJ ac) 1 0) := by rw [k9 _ (by omega),t85]
 have t10b : T10[N + 1 + 1]? = some (.box [.d (.int .i64 al),.sl 5 1 0 (nx.length + 1),.sl 6 0 0 ac.length]) := by rw [k10 _ (by omega),t9b]
 have t94 : T9[4]? = some (.vec (aB 7 nx ++ [.sl (N + 1 + 1 + 1 + 1) 1 0 row.length]) 1 1) := by rw [k9 _ (by omega),k8 _ (by omega),g7]
 have t114 : T11[4]? = some (.vec (aB 7 nx ++ [.sl (N + 1 + 1 + 1 + 1) 1 0 row.length]) 1 1) := by rw [k11 _ (by omega),k10 _ (by omega),t94]
 have tr9 : ∀ (i : Nat) (r : List Int),nx[i]? = some r → T9[i + 6]? = some (.arr (ints r) 1 0) := by
  intro i r hr
  have hi : i < nx.length := (List.getElem?_eq_some_iff.1 hr).1
  rw [k9 _ (by omega),k8 _ (by omega),k7 _ (by omega),k6 _ (by omega),k5 _ (by omega),k4 _ (by omega)]
  exact tr i r hr
 have t11r : T11[t + 6]? = some (.arr (ints row) 1 0) := by rw [k11 _ (by omega),k10 _ (by omega)]; exact tr9 _ _ hrow
 have t12b : T12[N + 1 + 1]? = some (.box [.d (.int .i64 al),.sl 5 1 0 (nx.length + 1),.sl 6 1 0 (ac.length + 1)]) := by rw [k12 _ (by omega),g11]
 have t123 : T12[3]? = some (.box [.d (.int .i64 0),.sl 2 0 0 0,.sl 3 0 0 0]) := by rw [k12 _ (by omega),k11 _ (by omega),k10 _ (by omega),k9 _ (by omega),k8 _ (by omega),k7 _ (by omega),k6 _ (by omega),k5 _ (by omega),k4 _ (by omega),t3]
 have up : ∀ (T : H) (i : Nat) (o : O),T[i]? = some o → (rdO c (p + 1 + 1) :: T)[i + 1]? = some o := fun T i o h => by rw [List.getElem?_cons_succ]; exact h
 have row6 : ∀ i,i < nx.length → T6[i + 6]? = some (.arr (ints (nx.getD i [])) 1 0) := by
  intro i hi
  rw [k6 _ (by omega),k5 _ (by omega),k4 _ (by omega)]
  refine tr i _ ?_
  rw [List.getD_eq_getElem?_getD,List.getElem?_eq_getElem hi]; rfl
 have st_app1 : ∀ {call : aY} {thaw : List Nat} {dst : Option Tmp} {args : Array Operand},memD env call thaw dst (.call ⟨.builtin .append,args,#[60,60]⟩) (rdO c (p + 1 + 1) :: T4) [.sl (N + 1 + 1 + 1 + 1) 0 0 0,.sl (t + 7) 0 0 row.length] = some (.sl (N + 1 + 1 + 1 + 1) 1 0 row.length,rdO c (p + 1 + 1) :: T5,{ ids := [N + 1 + 1 + 1 + 1,t + 7],ro := false,wr := [N + 1 + 1 + 1 + 1] }) := by
  intro call thaw dst args
  rw [K8 (e := 3) (e0 := 1) (n2 := row.length) (len := 0) (cs := []) (src := ints row) rfl d6 (by kernel_rfl) (up T4 _ _ g4) (.inr rfl) (up T4 (t + 6) _ t4r) (by simp [ints]) (by simp) (by unfold b5; omega) (by omega)]
  rw [List.set_cons_succ,← h5]
  simp
 have st_vec : ∀ {call : aY} {thaw : List Nat} {dst : Option Tmp} {x : Operand},Shut (EA thaw dst = true) → memD env call thaw dst (.buildSlice 23 1 #[(0,x)]) (rdO c (p + 1 + 1) :: T5) [.sl (N + 1 + 1 + 1 + 1) 1 0 row.length] = some (.sl (N + 1 + 1 + 1 + 1 + 1) 0 0 1,rdO c (p + 1 + 1) :: T6,{ ids := [N + 1 + 1 + 1 + 1,N + 1 + 1 + 1 + 1 + 1],ro := false }) := by
  intro call thaw dst x hk
  rw [aE1 (e := 60) (cs := ints row) (es := 1) hk.it rfl (by kernel_rfl) dK (by kernel_rfl) (up T5 _ _ g5)]
  rw [List.cons_append,h6,List.length_cons,l5,l4]
 have ok65 : Okay (rdO c (p + 1 + 1) :: T6) 5 := PY (x := aF 0) (up T6 4 _ t64) (fun j hj => rH (up T6 (j + 6) _ (row6 j hj))) (by intro q hq; simp [dX] at hq)
 have ok6e : Okay (rdO c (p + 1 + 1) :: T6) (N + 1 + 1 + 1 + 1 + 1) := aGx (up T6 _ _ g6) (by
  intro q hq
  simp [idsL,idsA] at hq
  subst hq
  exact rH (up T6 _ _ t6e))
 obtain ⟨o1,ho1⟩ : ∃ o,o = aD aE (rdO c (p + 1 + 1) :: T6) [5,N + 1 + 1 + 1 + 1 + 1] [] := ⟨_,rfl⟩
 have st_app2 : ∀ {call : aY} {thaw : List Nat} {dst : Option Tmp} {args : Array Operand},memD env call thaw dst (.call ⟨.builtin .append,args,#[23,23]⟩) (rdO c (p + 1 + 1) :: T6) [.sl 5 0 0 nx.length,.sl (N + 1 + 1 + 1 + 1 + 1) 0 0 1] = some (.sl 5 1 0 (nx.length + 1),rdO c (p + 1 + 1) :: T7,{ ids := o1,ro := false,wr := [5] }) := by
  intro call thaw dst args
  rw [VK (e := 60) rfl dK (by kernel_rfl) (id := 5) (id2 := N + 1 + 1 + 1 + 1 + 1) (g := 0) (g2 := 0) (len := nx.length) (cs := aB 7 nx ++ aF 0) (c := .sl (N + 1 + 1 + 1 + 1) 1 0 row.length) (up T6 4 _ t64) (up T6 _ _ g6) (by omega) (by unfold b5; omega) ok65 ok6e (by rw [o9]; simp only [gI,idsL,idsA,List.nil_append,List.length_nil]; omega),← ho1,htk]
  rw [List.set_cons_succ,h7]
 have row7 : ∀ i,i < nx.length → T7[i + 6]? = some (.arr (ints (nx.getD i [])) 1 0) := fun i hi => by rw [k7 _ (by omega)]; exact row6 i hi
 have t7e : T7[N + 1 + 1 + 1]? = some (.arr (ints row) 1 1) := by rw [k7 _ (by omega),t6e]
 have ok75 : Okay (rdO c (p + 1 + 1) :: T7) 5 := PY (up T7 4 _ g7) (fun j hj => rH (up T7 (j + 6) _ (row7 j hj))) (by
  intro q hq
  simp [idsL,idsA] at hq
  subst hq
  exact rH (up T7 _ _ t7e))
 have ok7b : Okay (rdO c (p + 1 + 1) :: T7) (N + 2 + 1) := aG7 (up T7 _ _ t7b) (by
  intro q hq
  simp [idsL,idsA] at hq
  rcases hq with rfl | rfl
  ·exact ok75
  ·exact rH (up T7 5 _ (by rw [k7 _ (by omega),k6 _ (by omega),k5 _ (by omega),k4 _ (by omega),t5])))
 obtain ⟨o2,ho2⟩ : ∃ o,o = aD aE (rdO c (p + 1 + 1) :: T7) [N + 2 + 1,5] [] := ⟨_,rfl⟩
 have st_sto : ∀ {call : aY} {thaw : List Nat} {dst : Option Tmp} {x y : Operand},memD env call thaw dst (.store 23 x y) (rdO c (p + 1 + 1) :: T7) [.ptr (N + 2 + 1) 0 1,.sl 5 1 0 (nx.length + 1)] = some (.d .undef,rdO c (p + 1 + 1) :: T8,{ ids := o2,ro := false,wr := o2 }) := by
  intro call thaw dst x y
  rw [wR (by kernel_rfl) (by kernel_rfl) (h := rdO c (p + 1 + 1) :: T7) (id := N + 2 + 1) (id2 := 5) (off := 1) (cs := [.d (.int .i64 al),.sl 5 0 0 nx.length,.sl 6 0 0 ac.length]) (up T7 _ _ t7b) (by simp) ok7b ok75 (by rw [o9]; simp only [gI,idsL,idsA,List.nil_append,List.length_nil]; omega),← ho2]
  rw [List.set_cons_succ]
  unfold bI
  rw [← h8]
  rfl
 have hbh : (((aJ ac).drop t).map A.d).head? = some (.d (.bool bt)) := by rw [HJ hta,hbt]
 have st_app3 : ∀ {call : aY} {thaw : List Nat} {dst : Option Tmp} {args : Array Operand},memD env call thaw dst (.call ⟨.builtin .append,args,#[24,24]⟩) (rdO c (p + 1 + 1) :: T9) [.sl 6 0 0 ac.length,.sl (N + 1 + 1 + 1 + 1 + 1 + 1) 0 0 1] = some (.sl 6 1 0 (ac.length + 1),rdO c (p + 1 + 1) :: T10,{ ids := [6,N + 1 + 1 + 1 + 1 + 1 + 1],ro := false,wr := [6] }) := by
  intro call thaw dst args
  rw [K8 (e := 4) (e0 := 1) (n2 := 1) (len := ac.length) (cs := aJ ac) (src := [.bool bt]) rfl sI (by kernel_rfl) (up T9 5 _ t95) (.inr rfl) (up T9 _ _ g9) rfl (by rw [eI]; omega) (by unfold b5; omega) (by omega)]
  rw [List.set_cons_succ,kU (Nat.le_refl _),wS,h10]
 have row10 : ∀ i,i < nx.length → T10[i + 6]? = some (.arr (ints (nx.getD i [])) 1 0) := fun i hi => by
  rw [k10 _ (by omega),k9 _ (by omega),k8 _ (by omega)]; exact row7 i hi
 have ok105 : Okay (rdO c (p + 1 + 1) :: T10) 5 := PY (up T10 4 _ (by rw [k10 _ (by omega),t94])) (fun j hj => rH (up T10 (j + 6) _ (row10 j hj))) (by
  intro q hq
  simp [idsL,idsA] at hq
  subst hq
  exact rH (up T10 _ _ (by rw [k10 _ (by omega),k9 _ (by omega),k8 _ (by omega),t7e])))
 have ok106 : Okay (rdO c (p + 1 + 1) :: T10) 6 := rH (up T10 5 _ g10)
 have ok10b : Okay (rdO c (p + 1 + 1) :: T10) (N + 2 + 1) := aG7 (up T10 _ _ t10b) (by
  intro q hq
  simp [idsL,idsA] at hq
  rcases hq with rfl | rfl
  ·exact ok105
  ·exact ok106)
 obtain ⟨o3,ho3⟩ : ∃ o,o = aD aE (rdO c (p + 1 + 1) :: T10) [N + 2 + 1,6] [] := ⟨_,rfl⟩
 have st_sto2 : ∀ {call : aY} {thaw : List Nat} {dst : Option Tmp} {x y : Operand},memD env call thaw dst (.store 24 x y) (rdO c (p + 1 + 1) :: T10) [.ptr (N + 2 + 1) 0 2,.sl 6 1 0 (ac.length + 1)] = some (.d .undef,rdO c (p + 1 + 1) :: T11,{ ids := o3,ro := false,wr := o3 }) := by
  intro call thaw dst x y
  rw [wR (by kernel_rfl) (by kernel_rfl) (h := rdO c (p + 1 + 1) :: T10) (id := N + 2 + 1) (id2 := 6) (off := 2) (cs := [.d (.int .i64 al),.sl 5 1 0 (nx.length + 1),.sl 6 0 0 ac.length]) (up T10 _ _ t10b) (by simp) ok10b ok106 (by rw [o9]; simp only [gI,idsL,idsA,List.nil_append,List.length_nil]; omega),← ho3]
  rw [List.set_cons_succ]
  unfold bI
  rw [← h11]
  rfl
 have hcl1 : ∀ (ops : List Oper) (w : List Nat),w = [N + 1 + 1 + 1 + 1] → r6 [(1,2),(2,4),(2,6),(2,7),(1,8),(1,9)] ops [{},{ ids := [N + 2 + 1],ro := true },{ ids := [N + 1 + 1 + 1 + 1],ro := false },{},{ ids := [N + 2 + 1],ro := true },{},{ ids := [5],ro := true },{ ids := [5],ro := true },{ ids := [N + 1 + 1 + 1 + 1,t + 7],ro := false,wr := [N + 1 + 1 + 1 + 1] },{ ids := [N + 1 + 1 + 1 + 1,N + 1 + 1 + 1 + 1 + 1],ro := false },{ ids := o1,ro := false,wr := [5] },{},{ ids := o2,ro := false }] = true → hY ops (([] : List Foot) ++ [({} : Foot)] ++ [({ ids := idsA (A.ptr (N + 2 + 1) 0 1) } : Foot)] ++ [({ ids := [N + 1 + 1 + 1 + 1],ro := false,wr := w } : Foot)] ++ [({} : Foot)] ++ [({ ids := idsA (A.ptr (N + 2 + 1) 0 1) } : Foot)] ++ [({} : Foot)] ++ [({ ids := idsA (A.sl 5 0 0 nx.length) } : Foot)] ++ [({ ids := idsA (A.ptr 5 0 t) } : Foot)] ++ [({ ids := [N + 1 + 1 + 1 + 1,t + 7],ro := false,wr := [N + 1 + 1 + 1 + 1] } : Foot)] ++ [({ ids := [N + 1 + 1 + 1 + 1,N + 1 + 1 + 1 + 1 + 1],ro := false } : Foot)] ++ [({ ids := o1,ro := false,wr := [5] } : Foot)] ++ [({} : Foot)] ++ [({ ids := o2,ro := false } : Foot)]) = true := by
  intro ops w hw hm
  subst hw
  have key : hY ops [{},{ ids := [N + 2 + 1],ro := true },{ ids := [N + 1 + 1 + 1 + 1],ro := false },{},{ ids := [N + 2 + 1],ro := true },{},{ ids := [5],ro := true },{ ids := [5],ro := true },{ ids := [N + 1 + 1 + 1 + 1,t + 7],ro := false,wr := [N + 1 + 1 + 1 + 1] },{ ids := [N + 1 + 1 + 1 + 1,N + 1 + 1 + 1 + 1 + 1],ro := false },{ ids := o1,ro := false,wr := [5] },{},{ ids := o2,ro := false }] = true := by
   refine A9 _ hm ?_
   intro q hq
   simp only [List.mem_cons,List.not_mem_nil,or_false] at hq
   rcases hq with rfl | rfl | rfl | rfl | rfl | rfl <;> simp [nU] <;> omega
  exact key
 have hcl2 : ∀ (ops : List Oper) (w : List Nat),w = [N + 1 + 1 + 1 + 1 + 1 + 1] → r6 [(1,7)] ops [{},{ ids := [N + 2 + 1],ro := true },{},{ ids := [N + 2 + 1],ro := true },{},{ ids := [6],ro := true },{ ids := [6],ro := true },{ ids := [N + 1 + 1 + 1 + 1 + 1 + 1],ro := false },{ ids := [6,N + 1 + 1 + 1 + 1 + 1 + 1],ro := false,wr := [6] },{},{ ids := o3,ro := false }] = true → hY ops (([] : List Foot) ++ [({} : Foot)] ++ [({ ids := idsA (A.ptr (N + 2 + 1) 0 2) } : Foot)] ++ [({} : Foot)] ++ [({ ids := idsA (A.ptr (N + 2 + 1) 0 2) } : Foot)] ++ [({} : Foot)] ++ [({ ids := idsA (A.sl 6 0 0 ac.length) } : Foot)] ++ [({ ids := idsA (A.ptr 6 0 t) } : Foot)] ++ [({ ids := [N + 1 + 1 + 1 + 1 + 1 + 1],ro := false,wr := w } : Foot)] ++ [({ ids := [6,N + 1 + 1 + 1 + 1 + 1 + 1],ro := false,wr := [6] } : Foot)] ++ [({} : Foot)] ++ [({ ids := o3,ro := false } : Foot)]) = true := by
  intro ops w hw hm
  subst hw
  have key : hY ops [{},{ ids := [N + 2 + 1],ro := true },{},{ ids := [N + 2 + 1],ro := true },{},{ ids := [6],ro := true },{ ids := [6],ro := true },{ ids := [N + 1 + 1 + 1 + 1 + 1 + 1],ro := false },{ ids := [6,N + 1 + 1 + 1 + 1 + 1 + 1],ro := false,wr := [6] },{},{ ids := o3,ro := false }] = true := by
   refine A9 _ hm ?_
   intro q hq
   simp only [List.mem_cons,List.not_mem_nil,or_false] at hq
   rcases hq with rfl <;> simp [nU] <;> omega
  exact key
 have hlen : (nx.set t (row.set 0 nx.length) ++ [row]).length = nx.length + 1 := by simp
 have hlen2 : (ac ++ [bt]).length = ac.length + 1 := by simp
 have hrefs : aB 7 (nx.set t (row.set 0 nx.length)) = aB 7 nx := FH (by rw [hrw]; simp)
 have hv : rd1 (rdO c (p + 1 + 1) :: T13) (.sl 5 1 0 (nx.length + 1)) = some (.ivs (nx.set t (row.set 0 nx.length) ++ [row]).length (aK (nx.set t (row.set 0 nx.length) ++ [row]))) := by
  refine zL (cs := aB 7 (nx.set t (row.set 0 nx.length)) ++ [.sl (N + 1 + 1 + 1 + 1) 1 0 row.length]) ?_ ?_ hlen.symm
  ·rw [hrefs]; exact up T13 4 _ (by rw [k13 _ (by omega),k12 _ (by omega),t114])
  ·refine aGk (fun i r hr => ?_) (up T13 _ _ (by rw [k13 _ (by omega),k12 _ (by omega),k11 _ (by omega),k10 _ (by omega),k9 _ (by omega),k8 _ (by omega),t7e]))
   refine up T13 (i + 6) _ ?_
   rw [List.getElem?_set] at hr
   by_cases e : t = i
   ·subst e
    rw [if_pos rfl,if_pos ht] at hr
    cases hr
    rw [k13 _ (by omega)]; exact g12
   ·rw [if_neg e] at hr
    have hi : i < nx.length := (List.getElem?_eq_some_iff.1 hr).1
    rw [k13 _ (by omega),k12 _ (by omega),k11 _ (by omega),k10 _ (by omega)]
    exact tr9 i r hr
 have hw : rd1 (rdO c (p + 1 + 1) :: T13) (.sl 6 1 0 (ac.length + 1)) = some (.ivs (ac ++ [bt]).length (aJ (ac ++ [bt]))) :=
  rJ (up T13 5 _ (by rw [k13 _ (by omega),k12 _ (by omega),k11 _ (by omega),g10])) hlen2.symm
 obtain ⟨h2',st_out,st_keep,st_trim⟩ := tR (al := al) hv hw (by omega) (by omega)
 unfold autD at st_out ⊢
 rw [hlen,hlen2] at st_out ⊢
 have hd7x : ((aB 7 nx ++ [A.sl (N + 1 + 1 + 1 + 1) 1 0 row.length]).drop t).head? = some (.sl (t + 7) 0 0 row.length) := by rw [aIK ht,hrw]
 have hput : ∀ v : Int,(ints row).drop 1 = ints (row.drop 1) := fun v => by simp [ints]
 have hset0 : D.int .i64 (nx.length : Int) :: List.drop 1 (ints row) = ints (row.set 0 nx.length) := by
  cases row with
  | nil => simp at hr0
  | cons x xs => simp [ints]
 have hti : (t : Int) < nx.length := by omega
 have hti1 : (t : Int) < (nx.length : Int) + 1 := by omega
 have ht0 : (0 : Int) ≤ t := by omega
 have hn0 : ¬ ((nx.length : Int) = 0) := by omega
 have hn12 : (nx.length : Int) < 12 := by omega
 have hta' : (t : Int) < ac.length := by omega
 have hr0' : (0 : Int) < row.length := by omega
 have hr1 : 1 ≤ (ints row).length := by simp [ints]; omega
 have l8' : T8.length = N + 1 + 1 + 1 + 1 + 1 := by omega
 clear hv hw k4 k5 k6 k7 k8 k9 k10 k11 k12 k13 tr tr9 h1 l4 l5 l6 l7 l8 l9 l10 l11 l12 l13 wg w4 w5 w6 w7 w8 w9 w10 hrow ok65 ok6e ok75 ok7b ok105 ok106 ok10b row6 row7 row10 ho1 ho2 ho3 up hlv htk hrefs hput
 obtain _ | n := n; omega
 rw [jV]
 simp only [jR,Try.f93,SLM,simprocAttr]
 simp -implicitDefEqProofs (maxSteps := 2000000) (disch := first | assumption | (refine Shut.mk ?_; exact hcl1 _ _ (by kernel_rfl) (by kernel_rfl)) | (refine Shut.mk ?_; exact hcl2 _ _ (by kernel_rfl) (by kernel_rfl)) | (refine Shut.mk ?_; kernel_rfl) | omega | (simp only [GT]; done) | (simp only [LN] <;> omega) | fail) only [↓DN,↓kAsg,↓kRet,UP,simprocAttr,LA,↓kd1,↓kd2,↓kd3,l1,h2,b2,h3,l3,t3,t4,t5,tb,t3r,hti,hti1,ht0,hn0,hn12,hta',hr0',hd7,h4,t4b,t44,↓st_app1,↓st_vec,↓st_app2,↓st_sto,g8,t85,l8',hbh,h9,↓st_app3,↓st_sto2,g11,t114,hd7x,t11r,hr1,hset0,h12',t12b,t123,h13,g13,Int.toNat_natCast,vD,sI,dH,dK,cS,d6,↓st_out,↓st_keep,↓st_trim,Nat.sub_self,List.range'_zero,List.append_nil,List.append_assoc,List.cons_append,List.nil_append]
theorem aI9 {c : List UInt8} (hc : c.length ≤ 2000) {B : Nat} (hB : B ≤ 4294966000) (al : Int) (nx : List (List Int)) (ac : List Bool) (hb : AutB B nx ac) (h1 : 1 ≤ nx.length) (p : Int) (hp : 0 ≤ p) (hp2 : p ≤ 890000000) :
  ∃ (nx2 : List (List Int)) (ac2 : List Bool) (q : Int),AutB (B + 1) nx2 ac2 ∧ 1 ≤ nx2.length ∧ p ≤ q ∧ q ≤ p + 4 ∧ (Dw 4 93 [autD al nx ac] (autD al nx2 ac2) c p q) := by
 have hs := hb.short (by omega)
 have hn := hb.n
 have hba := hb.a
 obtain ⟨k,k0,k1,_,kd1⟩ := i0 hc p nx.length hp (by omega)
 obtain ⟨u,u0,u1,_,kd2⟩ := i0 hc (p + 1) 4 (by omega) (by omega)
 have k1 := k1 (by omega)
 obtain ⟨t,rfl⟩ : ∃ t : Nat,k = t := ⟨k.toNat,by omega⟩
 have ht : t < nx.length := by omega
 have hrt := hb.at t
 have same := fun hcase => aFL hc al nx ac hs h1 (by omega) p u t ht hcase kd1 kd2
 by_cases hu0 : u = 0
 ·by_cases hta : t < ac.length
  ·subst hu0
   refine ⟨nx,_,_,⟨by omega,by rw [List.length_set]; omega,fun r hr => ?_⟩,h1,by omega,by omega,aIa hc al nx ac hs h1 (by omega) p t hta kd1 kd2⟩
   have := hb.r r hr; omega
  ·exact ⟨nx,ac,_,hb.mono (by omega),h1,by omega,by omega,same (.inl ⟨hu0,by omega⟩)⟩
 by_cases hu1 : u = 1
 ·by_cases h0 : (nx.getD t []).length = 0
  ·exact ⟨nx,ac,_,hb.mono (by omega),h1,by omega,by omega,same (.inr (.inl ⟨hu1,h0⟩))⟩
  ·subst hu1
   obtain ⟨v,v0,v1,_,kd4⟩ := i0 hc (p + 1 + 1) (nx.getD t []).length (by omega) (by omega)
   have v1 := v1 (by omega)
   obtain ⟨j,rfl⟩ : ∃ j : Nat,v = j := ⟨v.toNat,by omega⟩
   obtain ⟨w,w0,w1,_,kd5⟩ := i0 hc (p + 1 + 1 + 1) nx.length (by omega) (by omega)
   refine ⟨_,ac,_,⟨by rw [List.length_set]; omega,by omega,fun r hr => ?_⟩,by rw [List.length_set]; exact h1,by omega,by omega,aGt hc al nx ac hs h1 (by omega) p w t j ht (by omega) kd1 kd2 kd4 kd5⟩
   rcases List.mem_or_eq_of_mem_set hr with h | h
   ·have := hb.r r h; omega
   ·rw [h,List.length_set]; omega
 by_cases hu2 : u = 2
 ·by_cases h3 : nx.length < 12 ∧ t < ac.length ∧ 0 < (nx.getD t []).length
  ·subst hu2
   refine ⟨_,_,_,⟨?_,?_,fun r hr => ?_⟩,?_,by omega,by omega,aGO hc al nx ac hs (by omega) p t ht h3.1 h3.2.1 rfl h3.2.2 (by omega) rfl kd1 kd2⟩
   ·rw [List.length_append,List.length_set,List.length_cons,List.length_nil]; omega
   ·rw [List.length_append,List.length_cons,List.length_nil]; omega
   ·rcases List.mem_append.1 hr with h | h
    ·rcases List.mem_or_eq_of_mem_set h with h | h
     ·have := hb.r r h; omega
     ·rw [h,List.length_set]; omega
    ·simp only [List.mem_singleton] at h
     rw [h]; omega
   ·rw [List.length_append,List.length_set,List.length_cons,List.length_nil]; omega
  ·exact ⟨nx,ac,_,hb.mono (by omega),h1,by omega,by omega,same (.inr (.inr (.inl ⟨hu2,by omega⟩)))⟩
 exact ⟨nx,ac,_,hb.mono (by omega),h1,by omega,by omega,same (.inr (.inr (.inr ⟨hu0,hu1,hu2⟩)))⟩
theorem aJC : (env.hint 67).mode = 0 := by kernel_rfl
theorem aFI {c : List UInt8} (hc : c.length ≤ 2000) (al : Int) : ∀ (j : Nat) (p : Int) (nx : List (List Int)) (ac : List Bool) (B : Nat) (hB : B + j ≤ 1000) (hb : AutB B nx ac) (h1 : 1 ≤ nx.length) (hp : 0 ≤ p) (hp2 : p + 4 * j ≤ 890000000),
  ∃ (nx2 : List (List Int)) (ac2 : List Bool) (q : Int),AutB (B + j) nx2 ac2 ∧ 1 ≤ nx2.length ∧ p ≤ q ∧ q ≤ p + 4 * j ∧ ∀ (R : Type) (L n m : Nat) (k : Exit → List A → H → Option R),5 ≤ n → 2 ^ 60 ≤ L → j < m →
  aO env (aA env L n) L 1 [] (U1 (Z1 (U2 (U1 (Z16 (Z4 (Z2 (Z1 ([]))))))))) (AF 0) (Z1 (U1 (Z2 (Z1 (U16 (U4 (U2 (U1 ([]))))))))) m (.ptr 0 0 0 :: Y1 (.ptr 1 0 0 :: .ptr 2 0 0 :: .d (.int .i64 ((j : Int))) :: Y16 (Y4 (Y2 (Y1 ([])))))) (rdO c p :: .box [.d (.int .i64 0),.sl 3 0 0 0,.sl 4 0 0 0] :: .box [.d (.int .i64 al),.d (.ivs nx.length (aK nx)),.d (.ivs ac.length (aJ ac))] :: .arr [] 0 0 :: .arr [] 0 0 :: []) k
  = k (.exit 0) (.ptr 0 0 0 :: Y1 (.ptr 1 0 0 :: .ptr 2 0 0 :: .d (.int .i64 0) :: Y16 (Y4 (Y2 (Y1 ([])))))) (rdO c q :: .box [.d (.int .i64 0),.sl 3 0 0 0,.sl 4 0 0 0] :: .box [.d (.int .i64 al),.d (.ivs nx2.length (aK nx2)),.d (.ivs ac2.length (aJ ac2))] :: .arr [] 0 0 :: .arr [] 0 0 :: []) := by
 intro j
 induction j with
 | zero =>
  intro p nx ac B hB hb h1 hp hp2
  refine ⟨nx,ac,p,hb,h1,by omega,by omega,fun R L n m k hn hL hm => ?_⟩
  obtain _ | m := m; omega
  have e0 : ((0 : Nat) : Int) = 0 := rfl
  rw [e0]
  rw [PD]
  simp only [M8,Try.f67,SLM,simprocAttr]
  simp -implicitDefEqProofs (maxSteps := 2000000) (disch := try exact Dz) only [↓DN,↓kAsg,↓kRet,UP,simprocAttr,LA,Int.lt_irrefl]
 | succ j ih =>
  intro p nx ac B hB hb h1 hp hp2
  obtain ⟨nx1,ac1,q1,b1,g1,g2,g3,kd1⟩ := aI9 hc (B := B) (by omega) al nx ac hb h1 p hp (by omega)
  obtain ⟨nx2,ac2,q2,b2,f1,f2,f3,kd2⟩ := ih q1 nx1 ac1 (B + 1) (by omega) b1 g1 (by omega) (by omega)
  refine ⟨nx2,ac2,q2,b2.mono (by omega),f1,by omega,by omega,fun R L n m k hn hL hm => ?_⟩
  obtain _ | m := m; omega
  have kd2' := kd2 R L n m k hn hL (by omega)
  have e1 : ((j + 1 : Nat) : Int) - 1 = (j : Int) := by omega
  have hc1 : (0 : Int) < ((j + 1 : Nat) : Int) := by omega
  have hj : ((j + 1 : Nat) : Int) ≤ 1000 := by omega
  generalize ((j + 1 : Nat) : Int) = z at *
  unfold autD at kd1
  clear ih kd2 b1 b2 hb
  rw [PD]
  simp only [M8,Try.f67,SLM,simprocAttr]
  simp -implicitDefEqProofs (maxSteps := 2000000) (disch := try exact Dz) only [↓DN,↓kAsg,↓kRet,UP,simprocAttr,LA,hc1,↓kd1,e1,↓kd2']
theorem aOQ {c : List UInt8} (hc : c.length ≤ 2000) (p : Int) (hp : 0 ≤ p) (hp2 : p ≤ 700000000) :
  ∃ (al : Int) (nx : List (List Int)) (ac : List Bool) (q : Int),AutB 40 nx ac ∧ p ≤ q ∧ q ≤ p + 200 ∧ (Dw 16 67 [] (autD al nx ac) c p q) := by
 obtain ⟨al,nx,ac,q,g1,g2,g3,g4,g5,g6,kd1⟩ := aMP hc p (by omega) (by omega)
 obtain ⟨v,v0,v1,_,kd2⟩ := i0 hc q 3 (by omega) (by omega)
 have v1 := v1 (by omega)
 obtain ⟨j,rfl⟩ : ∃ j : Nat,v = j := ⟨v.toNat,by omega⟩
 obtain ⟨nx2,ac2,q2,b2,f1,f2,f3,kd3⟩ := aFI hc al j (q + 1) nx ac 12 (by omega) ⟨by omega,by omega,fun r hr => by have := g4 r hr; have := eZ al; omega⟩ g1 (by omega) (by omega)
 obtain ⟨w,w0,w1,_,kd4⟩ := i0 hc q2 10 (by omega) (by omega)
 have big : ∃ (al3 : Int) (nx3 : List (List Int)) (ac3 : List Bool) (q3 : Int),AutB 15 nx3 ac3 ∧ 1 ≤ nx3.length ∧ q2 + 1 ≤ q3 ∧ q3 ≤ q2 + 50 ∧ (w = 0 → (Dw 3 75 [] (autD al3 nx3 ac3) c (q2 + 1) q3)) ∧ (¬ w = 0 → al3 = al ∧ nx3 = nx2 ∧ ac3 = ac2 ∧ q3 = q2 + 1) := by
  by_cases hw : w = 0
  ·obtain ⟨nx3,ac3,q3,e1,e2,e3,e4,e5,kd⟩ := aPk hc (q2 + 1) (by omega) (by omega)
   exact ⟨3,nx3,ac3,q3,⟨by omega,by omega,fun r hr => by have := e3 r hr; have := eZ 3; omega⟩,by omega,by omega,by omega,fun _ => kd,fun h => absurd hw h⟩
  ·exact ⟨al,nx2,ac2,q2 + 1,b2.mono (by omega),f1,by omega,by omega,fun h => absurd h hw,fun _ => ⟨rfl,rfl,rfl,rfl⟩⟩
 obtain ⟨al3,nx3,ac3,q3,b3,n3,r1,r2,kd5,no5⟩ := big
 obtain ⟨x,x0,x1,_,kd6⟩ := i0 hc q3 6 (by omega) (by omega)
 by_cases hx : x = 0
 ·obtain ⟨al4,nx4,ac4,q4,b4,s1,s2,kd7⟩ := aJ4 hc (B := 15) (by omega) al3 nx3 ac3 b3 n3 (q3 + 1) (by omega) (by omega)
  refine ⟨al4,nx4,ac4,q4,b4.mono (by omega),by omega,by omega,fun R L n hq k hn hL => d7 aJC (by simp [idsL,idsA]) (by simp [autD,idsA,idsL]) ?_⟩
  have loop_a := fun {R : Type} {n : Nat} {k : Exit → List A → H → Option R} (hn : 5 ≤ n) => kd3 R L n L k hn hL (by omega)
  subst hx
  by_cases hw : w = 0
  ·have kd5 := kd5 hw
   subst hw
   unfold autD at kd1 kd5 kd7 ⊢
   clear g4 b2 b3 b4 kd3 no5
   obtain _ | n := n; omega
   rw [HW]
   simp only [EW,Try.f67,SLM,simprocAttr]
   simp -implicitDefEqProofs (maxSteps := 2000000) (disch := try exact Dz) only [↓DN,↓kAsg,↓kRet,UP,simprocAttr,LA,↓kd1,↓kd2,↓kd4,↓kd5,↓kd6,↓kd7,↓loop_a]
  ·obtain ⟨rfl,rfl,rfl,rfl⟩ := no5 hw
   unfold autD at kd1 kd7 ⊢
   clear g4 b2 b3 b4 kd3 kd5
   obtain _ | n := n; omega
   rw [HW]
   simp only [EW,Try.f67,SLM,simprocAttr]
   simp -implicitDefEqProofs (maxSteps := 2000000) (disch := try exact Dz) only [↓DN,↓kAsg,↓kRet,UP,simprocAttr,LA,↓kd1,↓kd2,↓kd4,↓kd6,↓kd7,hw,↓loop_a]
 ·refine ⟨al3,nx3,ac3,q3 + 1,b3.mono (by omega),by omega,by omega,fun R L n hq k hn hL => d7 aJC (by simp [idsL,idsA]) (by simp [autD,idsA,idsL]) ?_⟩
  have loop_a := fun {R : Type} {n : Nat} {k : Exit → List A → H → Option R} (hn : 5 ≤ n) => kd3 R L n L k hn hL (by omega)
  by_cases hw : w = 0
  ·have kd5 := kd5 hw
   subst hw
   unfold autD at kd1 kd5 ⊢
   clear g4 b2 b3 kd3 no5
   obtain _ | n := n; omega
   rw [HW]
   simp only [EW,Try.f67,SLM,simprocAttr]
   simp -implicitDefEqProofs (maxSteps := 2000000) (disch := try exact Dz) only [↓DN,↓kAsg,↓kRet,UP,simprocAttr,LA,↓kd1,↓kd2,↓kd4,↓kd5,↓kd6,hx,↓loop_a]
  ·obtain ⟨rfl,rfl,rfl,rfl⟩ := no5 hw
   unfold autD at kd1 ⊢
   clear g4 b2 b3 kd3 kd5
   obtain _ | n := n; omega
   rw [HW]
   simp only [EW,Try.f67,SLM,simprocAttr]
   simp -implicitDefEqProofs (maxSteps := 2000000) (disch := try exact Dz) only [↓DN,↓kAsg,↓kRet,UP,simprocAttr,LA,↓kd1,↓kd2,↓kd4,↓kd6,hx,hw,↓loop_a]
theorem XH (c0 : List UInt8) (hc0 : c0.length ≤ 4294967296) : ∃ (al : Int) (nx : List (List Int)) (ac : List Bool),AutB 40 nx ac ∧ ∀ (R : Type) (L n : Nat) (hq : H) (k : A → H → Option R),18 ≤ n → 2 ^ 60 ≤ L → aM env (aA env L n) hq 31 [.d (.ivs c0.length (bL c0))] k = k (autD al nx ac) hq := by
 have hc := aQ5 c0
 generalize hcs : src c0 = c at hc
 obtain ⟨al,nx,ac,q,b,g2,g3,kd1⟩ := aOQ hc 0 (by omega) (by omega)
 refine ⟨al,nx,ac,b,fun R L n hq k hn hL => aX rfl ?_ rfl (.inr rfl)⟩
 have kd_a := fun {R : Type} {hq : H} {k : A → H → Option R} {i : Nat} {L n : Nat} => @aSi L n _ _ _ _ _ _ _ rfl rfl kd1 R hq k i
 clear kd1
 unfold autD at kd_a ⊢
 obtain _ | n := n; omega
 rw [SW]
 simp only [E4,Try.f31,SLM,simprocAttr]
 simp -implicitDefEqProofs (maxSteps := 2000000) (disch := try exact Dz) only [↓DN,↓kAsg,↓kRet,UP,simprocAttr,LA,↓aOD,hcs,↓kd_a]
theorem aDp {R : Type} {L n : Nat} (hn : 1 ≤ n) {l : List Str} (hl : l.length ≤ 4294967296) {k : Exit → List A → H → Option R} : ∀ (i : Int) (m : Nat) (h0 : 0 ≤ i) (hi : i ≤ l.length) (hm : (l.length : Int) - i < m),
  aO env (aA env L n) L 0 [] (U2 (Z2 (U2 (Z16 (Z4 ([])))))) (uD 0) (Z2 (U2 (Z2 (U16 (U4 ([])))))) m (.d (.ivs l.length (bT l)) :: .d (.ivs l.length (bT l)) :: Y2 (.d (.bool false) :: .d (.int .i64 i) :: Y16 (Y4 ([])))) [] k
  = k (.exit 0) (.d (.ivs l.length (bT l)) :: .d (.ivs l.length (bT l)) :: Y2 (.d (.bool false) :: .d (.int .i64 (l.length)) :: Y16 (Y4 ([])))) [] := by
 intro i m h0 hi hm
 obtain ⟨j,hj⟩ : ∃ j : Nat,(j : Int) = (l.length : Int) - i := ⟨((l.length : Int) - i).toNat,by omega⟩
 induction j generalizing i m with
 | zero =>
  obtain _ | m := m; omega
  obtain rfl : i = l.length := by omega
  rw [II]
  simp only [FT,Try.f26,SLM,simprocAttr]
  simp -implicitDefEqProofs (maxSteps := 2000000) (disch := try exact Dz) only [↓DN,↓kAsg,↓kRet,UP,simprocAttr,SE,Int.lt_irrefl]
 | succ j ih =>
  obtain _ | m := m; omega
  have hc : i < l.length := by omega
  have hk : i.toNat < l.length := by omega
  rw [II]
  simp only [FT,Try.f26,SLM,simprocAttr]
  simp -implicitDefEqProofs (maxSteps := 2000000) (disch := try exact Dz) only [↓DN,↓kAsg,↓kRet,UP,simprocAttr,SE,hc,bne_self_eq_false,beq_self_eq_true,Bool.not_true,↓ih]
theorem WA {L n : Nat} (hn : 2 ≤ n) (l : List Str) (hl : l.length ≤ 4294967296) (hL : 2 ^ 60 ≤ L) : aA env L n 26 [.d (.ivs l.length (bT l)),.d (.ivs l.length (bT l))] [] = some (.d (.bool true),[]) := by
 obtain _ | n := n; omega
 rw [aHK]
 simp only [X2,Try.f26,SLM,simprocAttr]
 simp -implicitDefEqProofs (maxSteps := 2000000) (disch := try exact Dz) only [↓DN,↓kAsg,↓kRet,UP,simprocAttr,↓aDp,SE]
theorem qU {R : Type} {L n : Nat} {hq : H} {k : A → H → Option R} (hn : 2 ≤ n) (l : List Str) (hl : l.length ≤ 4294967296) (hL : 2 ^ 60 ≤ L) : aM env (aA env L n) hq 26 [.d (.ivs l.length (bT l)),.d (.ivs l.length (bT l))] k = k (.d (.bool true)) hq :=
 aX rfl (WA hn l hl hL) rfl (.inl rfl)
theorem q8 {R : Type} {L n : Nat} {k : A → Option R} (hn : 2 ≤ n) (l : List Str) (hl : l.length ≤ 4294967296) (hL : 2 ^ 60 ≤ L) : bH (aA env L n) 26 [.d (.ivs l.length (bT l)),.d (.ivs l.length (bT l))] k = k (.d (.bool true)) :=
 fB (WA hn l hl hL) rfl
theorem oD {R : Type} {L n : Nat} {hq : H} {k : A → H → Option R} {id0 g0 o0 len0 : Nat} {l : List Str} : aM env (aA env L n) hq 26 [.sl id0 g0 o0 len0,.d (.ivs l.length (bT l))] k = match box (c7 hq [.sl id0 g0 o0 len0,.d (.ivs l.length (bT l))]) with
  | .mk (some fs) => bH (aA env L n) 26 fs fun r => k r hq
  | _ => none := aW qH
theorem oG {R : Type} {L n : Nat} {hq : H} {k : A → H → Option R} {id1 g1 o1 len1 : Nat} {l : List Str} : aM env (aA env L n) hq 26 [.d (.ivs l.length (bT l)),.sl id1 g1 o1 len1] k = match box (c7 hq [.d (.ivs l.length (bT l)),.sl id1 g1 o1 len1]) with
  | .mk (some fs) => bH (aA env L n) 26 fs fun r => k r hq
  | _ => none := aW qH
theorem oH {R : Type} {L n : Nat} {hq : H} {k : A → H → Option R} {id1 g1 o1 len1 : Nat} {id0 g0 o0 len0 : Nat}  : aM env (aA env L n) hq 26 [.sl id0 g0 o0 len0,.sl id1 g1 o1 len1] k = match box (c7 hq [.sl id0 g0 o0 len0,.sl id1 g1 o1 len1]) with
  | .mk (some fs) => bH (aA env L n) 26 fs fun r => k r hq
  | _ => none := aW qH
theorem aDg {R : Type} {L n : Nat} (hn : 1 ≤ n) {l : List Str} {v : Str} (hl : l.length ≤ 4294967296) {k : Exit → List A → H → Option R} : ∀ (j i m : Nat) (hi : i + j = l.length) (hm : j < m),
  aO env (aA env L n) L 0 [] (U2 (Z2 (U2 (Z8 (Z4 ([])))))) (uO 0) (Z2 (U2 (Z2 (U8 (U4 ([])))))) m (.d (.ivs l.length (bT l)) :: .d (.str v) :: Y2 (.d (.bool false) :: .d (.int .i64 ((i : Int))) :: Y8 (Y4 ([])))) [] k
  = match seek (vF l v) j i with
   | none => k (.exit 0) (.d (.ivs l.length (bT l)) :: .d (.str v) :: Y2 (.d (.bool false) :: .d (.int .i64 (l.length)) :: Y8 (Y4 ([])))) []
   | some q => k .ret (.d (.ivs l.length (bT l)) :: .d (.str v) :: Y2 (.d (.bool true) :: .d (.int .i64 ((q : Int))) :: Y8 (Y4 ([])))) [] := by
 intro j
 induction j with
 | zero =>
  intro i m hi hm
  obtain _ | m := m; omega
  obtain rfl : i = l.length := by omega
  rw [yL]
  simp only [xS,Try.f27,SLM,simprocAttr]
  simp -implicitDefEqProofs (maxSteps := 2000000) (disch := try exact Dz) only [↓DN,↓kAsg,↓kRet,UP,simprocAttr,SE,Int.lt_irrefl]
  rfl
 | succ j ih =>
  intro i m hi hm
  obtain _ | m := m; omega
  have hc : (i : Int) < l.length := by omega
  have hk : i < l.length := by omega
  have hi0 : (0 : Int) ≤ i := by omega
  by_cases h1 : l.getD i [] = v
  ·have hb : vF l v i = true := by unfold vF; rw [decide_eq_true h1]
   rw [pU hb]
   clear ih
   rw [yL]
   simp only [xS,Try.f27,SLM,simprocAttr]
   simp -implicitDefEqProofs (maxSteps := 2000000) (disch := try exact Dz) only [↓DN,↓kAsg,↓kRet,UP,simprocAttr,SE,hc,hi0,h1,Int.toNat_natCast,beq_self_eq_true]
  ·have hb : vF l v i = false := by unfold vF; rw [decide_eq_false h1]
   rw [uU hb]
   have ih' := ih (i + 1) m (by omega) (by omega)
   rw [show ((i + 1 : Nat) : Int) = (i : Int) + 1 by omega] at ih'
   have h2 : (l.getD i [] == v) = false := by simpa using h1
   clear ih
   rw [yL]
   simp only [xS,Try.f27,SLM,simprocAttr]
   simp -implicitDefEqProofs (maxSteps := 2000000) (disch := try exact Dz) only [↓DN,↓kAsg,↓kRet,UP,simprocAttr,SE,hc,hi0,h2,Int.toNat_natCast,↓ih']
theorem S7 {L n : Nat} (hn : 2 ≤ n) (l : List Str) (v : List UInt8) (hl : l.length ≤ 4294967296) (hL : 2 ^ 60 ≤ L) : aA env L n 27 [.d (.ivs l.length (bT l)),.d (.str v)] [] = some (.d (.bool (decide (v ∈ l))),[]) := by
 have loop_c := fun {R : Type} {n : Nat} {k : Exit → List A → H → Option R} (hn : 1 ≤ n) => @aDg R L n hn l v hl k l.length 0 L (by omega) (by omega)
 rw [← aNZ]
 simp only [Int.natCast_zero] at loop_c
 cases hs : seek (vF l v) l.length 0 with
 | none =>
  rw [hs] at loop_c
  simp only [Option.isSome_none]
  obtain _ | n := n; omega
  rw [U3]
  simp only [NH,Try.f27,SLM,simprocAttr]
  simp -implicitDefEqProofs (maxSteps := 2000000) (disch := try exact Dz) only [↓DN,↓kAsg,↓kRet,UP,simprocAttr,SE,↓loop_c]
 | some q =>
  rw [hs] at loop_c
  simp only [Option.isSome_some]
  obtain _ | n := n; omega
  rw [U3]
  simp only [NH,Try.f27,SLM,simprocAttr]
  simp -implicitDefEqProofs (maxSteps := 2000000) (disch := try exact Dz) only [↓DN,↓kAsg,↓kRet,UP,simprocAttr,SE,↓loop_c]
theorem qQ {R : Type} {L n : Nat} {hq : H} {k : A → H → Option R} (hn : 2 ≤ n) (l : List Str) (v : List UInt8) (hl : l.length ≤ 4294967296) (hL : 2 ^ 60 ≤ L) : aM env (aA env L n) hq 27 [.d (.ivs l.length (bT l)),.d (.str v)] k = k (.d (.bool (decide (v ∈ l)))) hq :=
 aX rfl (S7 hn l v hl hL) rfl (.inl rfl)
theorem q9 {R : Type} {L n : Nat} {k : A → Option R} (hn : 2 ≤ n) (l : List Str) (v : List UInt8) (hl : l.length ≤ 4294967296) (hL : 2 ^ 60 ≤ L) : bH (aA env L n) 27 [.d (.ivs l.length (bT l)),.d (.str v)] k = k (.d (.bool (decide (v ∈ l)))) :=
 fB (S7 hn l v hl hL) rfl
theorem oI {R : Type} {L n : Nat} {hq : H} {k : A → H → Option R} {id0 g0 o0 len0 : Nat} {v : List UInt8} : aM env (aA env L n) hq 27 [.sl id0 g0 o0 len0,.d (.str v)] k = match box (c7 hq [.sl id0 g0 o0 len0,.d (.str v)]) with
  | .mk (some fs) => bH (aA env L n) 27 fs fun r => k r hq
  | _ => none := aW DI
theorem aHY {h : H} {id g len : Nat} {cs : List D} {u : Int} (hi : h[id]? = some (.arr cs 1 g)) (h0 : 0 ≤ u) (h1 : u ≤ len) : gS env.P h 40 (.sl id g 0 len) none (some u) = some (.sl id g 0 u.toNat) := by
 have hb : sR len none (some u) = some (0,u.toNat) := by
  simp only [sR,Option.getD_none,Option.getD_some]
  rw [if_pos ⟨by omega,by omega,by omega⟩]
  rfl
 simp only [gS,aN6,hi,aOY,Nat.lt_add_one,true_and,or_true,Nat.zero_lt_one,if_true,hb,Option.map_some,Nat.zero_mul,Nat.add_zero,Nat.sub_zero]
theorem aCx {R : Type} {E : Env} {call : aY} {h h2 : H} {f : FuncId} {args : List A} {r : A} {k : A → H → Option R} (hs : args.all xT = true) (hm : (E.hint f).mode = 3) (hc : call f args [] = some (r,h2)) (hcl : (pI r && h2.all nI) = true) :
  aM E call h f args k = k (mapA (back [] h.length h2.length) r) (h ++ h2.map (mapO (back [] h.length h2.length))) := by
 have hcall : dJ call E.hint [] f args = some (mapA (back [] 0 h2.length) r,h2.map (mapO (back [] 0 h2.length))) := by
  unfold dJ
  rw [hm]
  simp only [xP hs,hc,hcl,if_true,List.length_nil,List.nil_append]
 unfold aM
 rw [zO hs,QD,mQ _ (zO hs)]
 have : pack h [] = [] := rfl
 rw [this,hcall]
 have hb : ∀ i,(back [] 0 h2.length i).bind (back [] h.length h2.length) = back [] h.length h2.length i := by
  intro i
  unfold back
  simp only [List.length_nil,Nat.not_lt_zero,if_false,Nat.sub_zero,Nat.zero_add]
  split
  ·rename_i hi; simp [hi]
  ·rfl
 simp only [List.length_nil,Nat.zero_le,true_and,closed,List.all_nil,Bool.and_self,if_true,bK,List.length_map]
 rw [aFs hb,List.map_map]
 congr 2
 apply List.map_congr_left
 intro o _
 exact aLj hb o
theorem aJ1 (l : List Str) : nI (.arr (bT l) 1 0) = true := by
 simp only [nI,bT,List.all_map,List.all_eq_true]
 intro x _
 rfl
theorem aId {R : Type} {E : Env} {call : aY} {h : H} {f : FuncId} {args : List A} {l : List Str} {k : A → H → Option R} (hs : args.all xT = true) (hm : (E.hint f).mode = 3) (hc : call f args [] = some (.sl 0 0 0 l.length,[.arr (bT l) 1 0])) :
  aM E call h f args k = k (.sl h.length 0 0 l.length) (h ++ [.arr (bT l) 1 0]) := by
 rw [aCx hs hm hc (by simp only [pI,List.all_cons,List.all_nil,aJ1,Bool.and_self])]
 simp [mapA,back,mapO]
theorem aFM {R : Type} {E : Env} {call : aY} {h : H} {f : FuncId} {args : List A} {k : A → H → Option R} (hs : args.all xT = true) (hm : (E.hint f).mode = 3) (hc : call f args [] = some (.d (.ivs 0 []),[])) :
  aM E call h f args k = k (.d (.ivs 0 [])) h := by
 rw [aCx hs hm hc rfl]
 simp [mapA]
section
def tH : List Int → List Int → Prop
 | a :: x,b :: y => a < b ∨ a = b ∧ tH x y
 | _,_ => False
def slt (x y : List Int) : Prop := x.length < y.length ∨ x.length = y.length ∧ tH x y
theorem aEU : ∀ x : List Int,¬ tH x x
 | [],h => h
 | a :: x,h => by
  rcases h with h | ⟨_,h⟩
  ·omega
  ·exact aEU x h
theorem XY : ∀ {x y z : List Int},tH x y → tH y z → tH x z
 | [],_,_,h,_ => h.elim
 | _ :: _,[],_,h,_ => h.elim
 | _ :: _,_ :: _,[],_,h => h.elim
 | a :: x,b :: y,c :: z,h,k => by
  rcases h with h | ⟨rfl,h⟩
  ·rcases k with k | ⟨rfl,k⟩
   ·exact .inl (by omega)
   ·exact .inl h
  ·rcases k with k | ⟨rfl,k⟩
   ·exact .inl k
   ·exact .inr ⟨rfl,XY h k⟩
theorem aFt : ∀ {x y : List Int},x.length = y.length → x = y ∨ tH x y ∨ tH y x
 | [],[],_ => .inl rfl
 | [],_ :: _,h => by simp at h
 | _ :: _,[],h => by simp at h
 | a :: x,b :: y,h => by
  rcases Int.lt_trichotomy a b with h1 | h1 | h1
  ·exact .inr (.inl (.inl h1))
  ·subst h1
   rcases aFt (x := x) (y := y) (by simpa using h) with h2 | h2 | h2
   ·exact .inl (by rw [h2])
   ·exact .inr (.inl (.inr ⟨rfl,h2⟩))
   ·exact .inr (.inr (.inr ⟨rfl,h2⟩))
  ·exact .inr (.inr (.inl h1))
theorem aDl (x : List Int) : ¬ slt x x := by
 intro h
 rcases h with h | ⟨_,h⟩
 ·omega
 ·exact aEU x h
theorem K7 {x y z : List Int} (h : slt x y) (k : slt y z) : slt x z := by
 rcases h with h | ⟨h1,h⟩ <;> rcases k with k | ⟨k1,k⟩
 ·exact .inl (by omega)
 ·exact .inl (by omega)
 ·exact .inl (by omega)
 ·exact .inr ⟨by omega,XY h k⟩
theorem aJa (x y : List Int) : x = y ∨ slt x y ∨ slt y x := by
 rcases Nat.lt_trichotomy x.length y.length with h | h | h
 ·exact .inr (.inl (.inl h))
 ·rcases aFt h with k | k | k
  ·exact .inl k
  ·exact .inr (.inl (.inr ⟨h,k⟩))
  ·exact .inr (.inr (.inr ⟨h.symm,k⟩))
 ·exact .inr (.inr (.inl h))
theorem HM : ∀ {u v : List Int} {a b : Int},u.length = v.length → (tH (u ++ [a]) (v ++ [b]) ↔ tH u v ∨ u = v ∧ a < b)
 | [],[],a,b,_ => by simp [tH]
 | [],_ :: _,a,b,h => by simp at h
 | _ :: _,[],a,b,h => by simp at h
 | x :: u,y :: v,a,b,h => by
  have ih := HM (u := u) (v := v) (a := a) (b := b) (by simpa using h)
  simp only [List.cons_append,tH,ih,List.cons.injEq]
  constructor
  ·rintro (k | ⟨rfl,k | ⟨rfl,k⟩⟩)
   ·exact .inl (.inl k)
   ·exact .inl (.inr ⟨rfl,k⟩)
   ·exact .inr ⟨⟨rfl,rfl⟩,k⟩
  ·rintro ((k | ⟨rfl,k⟩) | ⟨⟨rfl,rfl⟩,k⟩)
   ·exact .inl k
   ·exact .inr ⟨rfl,.inl k⟩
   ·exact .inr ⟨rfl,.inr ⟨rfl,k⟩⟩
theorem QY {u v : List Int} {a b : Int} : slt (u ++ [a]) (v ++ [b]) ↔ slt u v ∨ u = v ∧ a < b := by
 unfold slt
 simp only [List.length_append,List.length_cons,List.length_nil]
 constructor
 ·rintro (h | ⟨h,k⟩)
  ·exact .inl (.inl (by omega))
  ·have hl : u.length = v.length := by omega
   rcases (HM hl).1 k with k | k
   ·exact .inl (.inr ⟨hl,k⟩)
   ·exact .inr k
 ·rintro ((h | ⟨h,k⟩) | ⟨rfl,k⟩)
  ·exact .inl (by omega)
  ·exact .inr ⟨by omega,(HM h).2 (.inl k)⟩
  ·exact .inr ⟨rfl,(HM rfl).2 (.inr ⟨rfl,k⟩)⟩
def Path (nx : Int → Int → List Int) (ls : List Int) : Int → List Int → Int → Prop
 | v,[],u => v = u
 | v,l :: w,u => l ∈ ls ∧ ∃ m ∈ nx v l,Path nx ls m w u
section
variable {nx : Int → Int → List Int} {ls : List Int}
theorem aGn : ∀ {x y : List Int} {v u : Int},Path nx ls v (x ++ y) u ↔ ∃ m,Path nx ls v x m ∧ Path nx ls m y u
 | [],y,v,u => by simp [Path]
 | l :: x,y,v,u => by
  simp only [List.cons_append,Path,aGn (x := x)]
  constructor
  ·rintro ⟨h,m,hm,q,h1,h2⟩
   exact ⟨q,⟨h,m,hm,h1⟩,h2⟩
  ·rintro ⟨q,⟨h,m,hm,h1⟩,h2⟩
   exact ⟨h,m,hm,q,h1,h2⟩
theorem aD6 {w : List Int} {l v u : Int} : Path nx ls v (w ++ [l]) u ↔ l ∈ ls ∧ ∃ m,Path nx ls v w m ∧ u ∈ nx m l := by
 rw [aGn]
 simp only [Path]
 constructor
 ·rintro ⟨m,h1,h2,q,h3,rfl⟩
  exact ⟨h2,m,h1,h3⟩
 ·rintro ⟨h2,m,h1,h3⟩
  exact ⟨m,h1,h2,u,h3,rfl⟩
def x6 (nx : Int → Int → List Int) (ls start w : List Int) (u : Int) : Prop := ∃ s ∈ start,Path nx ls s w u
def Hits (nx : Int → Int → List Int) (ls start : List Int) (gl : Int → Bool) (w : List Int) : Prop := ∃ u,x6 nx ls start w u ∧ gl u = true
def WN (P : List Int → Prop) (w : List Int) : Prop := P w ∧ ∀ x,P x → ¬ slt x w
theorem aH2 {P : List Int → Prop} {x y : List Int} (hx : WN P x) (hy : WN P y) : x = y := by
 rcases aJa x y with h | h | h
 ·exact h
 ·exact (hy.2 x hx.1 h).elim
 ·exact (hx.2 y hy.1 h).elim
def LY (P : List Int → Prop) (r : List Int × Bool) : Prop := (r.2 = true ∧ WN P r.1) ∨ (r = ([],false) ∧ ∀ w,¬ P w)
theorem zR {P : List Int → Prop} {r q : List Int × Bool} (hr : LY P r) (hq : LY P q) : r = q := by
 rcases hr with ⟨h1,h2⟩ | ⟨h1,h2⟩ <;> rcases hq with ⟨k1,k2⟩ | ⟨k1,k2⟩
 ·obtain ⟨a,b⟩ := r
  obtain ⟨c,d⟩ := q
  simp only at h1 k1 h2 k2
  subst h1; subst k1
  rw [aH2 h2 k2]
 ·exact (k2 _ h2.1).elim
 ·exact (h2 _ k2.1).elim
 ·rw [h1,k1]
theorem aKS {P Q : List Int → Prop} {r : List Int × Bool} (h : ∀ w,P w ↔ Q w) (hr : LY P r) : LY Q r := by
 have : P = Q := funext fun w => propext (h w)
 rw [← this]; exact hr
end
end
end Ev
end Go.Proofs.Ytppdfjdfjfoddaa
