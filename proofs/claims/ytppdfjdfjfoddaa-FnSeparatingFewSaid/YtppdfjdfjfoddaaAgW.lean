/-
  Automata that are drawn: one state more.
-/
import Derived.Test.YtppdfjdfjfoddaaChange
import Derived.Test.YtppdfjdfjfoddaaMemS
set_option linter.unusedSimpArgs false
set_option linter.unusedVariables false
set_option maxRecDepth 8000
set_option maxHeartbeats 4000000
namespace Go.Proofs.Ytppdfjdfjfoddaa
namespace Ev
theorem x1j8 {c : List UInt8} (hc : c.length ≤ 2000) (al : Int) (nx : List (List Int)) (ac : List Bool) (hs : xt nx) (ha : ac.length ≤ 4294967290) (p : Int) (t : Nat) (ht : t < nx.length) (h12 : nx.length < 12) (hta : t < ac.length) {row : List Int} (hrw : nx.getD t [] = row) (hr0 : 0 < row.length) (hrl : row.length ≤ 4294967290) {bt : Bool} (hbt : ac.getD t false = bt)
  (kd1 : (Dw 1 74 [.d (.int .i64 (nx.length))] (.d (.int .i64 ((t : Int)))) c p (p + 1)))
  (kd2 : (Dw 1 74 [.d (.int .i64 4)] (.d (.int .i64 2)) c (p + 1) (p + 1 + 1))) : (Dw 4 93 [autD al nx ac] (autD al (nx.set t (row.set 0 nx.length) ++ [row]) (ac ++ [bt])) c p (p + 1 + 1)) := by
 intro R L n hq k hn hL
 refine x3n xrs (by simp [autD,idsA,idsL]) (by simp [autD,idsA,idsL]) ?_
 have hnl := hs.1
 have h1 : 1 ≤ nx.length := by omega
 obtain ⟨N,T1,T2,T3,w⟩ := xb1 (.box [.d (.int .i64 al),.d (.ivs nx.length (xc nx)),.d (.ivs ac.length (xb ac))]) (.box [.d (.int .i64 0),.sl 2 0 0 0,.sl 3 0 0 0]) al nx ac
 have kd3 := fun {R : Type} {n : Nat} {o1 : O} {k : A → H → Option R} (hn : 2 ≤ n) => xcc (R := R) (L := L) (n := n) (o1 := o1) (al := al) (k := k) w.h1 hs h1 (by omega) hn hL
 obtain ⟨hN,hT1,l1,h2,b2,h3,l3,t3,t4,t5,tr,tb,e3,wg⟩ := w
 simp only [x5h,idsL,idsA,List.length_nil,List.length_cons,List.nil_append,List.cons_append,Nat.zero_add] at wg
 clear e3
 clear hT1
 have hrow : nx[t]? = some row := by rw [← hrw,List.getD_eq_getElem?_getD,List.getElem?_eq_getElem ht]; rfl
 have hd7 : ((x3 7 nx ++ x6 0).drop t).head? = some (.sl (t + 7) 0 0 row.length) := by rw [xas ht,hrw]
 have hlv : (x3 7 nx ++ x6 0).length = nx.length := by rw [List.length_append,x79]; rfl
 have htk : (x3 7 nx ++ x6 0).take nx.length = x3 7 nx := xrj rfl
 have t3r : T3[t + 6]? = some (.arr (ints row) 1 0) := tr _ _ hrow
 obtain ⟨T4,h4⟩ : ∃ T,T3 ++ [.arr [] 1 0] = T := ⟨_,rfl⟩
 obtain ⟨l4,g4,k4⟩ := xa4 h4
 rw [l3] at l4 g4 k4
 obtain ⟨T5,h5⟩ : ∃ T,T4.set (N + 1 + 1 + 1) (.arr (ints row) 1 1) = T := ⟨_,rfl⟩
 obtain ⟨l5,g5,k5⟩ := x35 h5 (by omega)
 obtain ⟨T6,h6⟩ : ∃ T,T5 ++ [.vec [.sl (N + 1 + 1 + 1 + 1) 1 0 row.length] 1 0] = T := ⟨_,rfl⟩
 obtain ⟨l6,g6,k6⟩ := xa4 h6
 rw [l5,l4] at l6 g6 k6
 obtain ⟨T7,h7⟩ : ∃ T,T6.set 4 (.vec (x3 7 nx ++ [.sl (N + 1 + 1 + 1 + 1) 1 0 row.length]) 1 1) = T := ⟨_,rfl⟩
 obtain ⟨l7,g7,k7⟩ := x35 h7 (by omega)
 obtain ⟨T8,h8⟩ : ∃ T,T7.set (N + 1 + 1) (.box [.d (.int .i64 al),.sl 5 1 0 (nx.length + 1),.sl 6 0 0 ac.length]) = T := ⟨_,rfl⟩
 obtain ⟨l8,g8,k8⟩ := x35 h8 (by omega)
 obtain ⟨T9,h9⟩ : ∃ T,T8 ++ [.arr [.bool bt] 1 0] = T := ⟨_,rfl⟩
 obtain ⟨l9,g9,k9⟩ := xa4 h9
 rw [l8,l7,l6] at l9 g9 k9
 obtain ⟨T10,h10⟩ : ∃ T,T9.set 5 (.arr (xb (ac ++ [bt])) 1 1) = T := ⟨_,rfl⟩
 obtain ⟨l10,g10,k10⟩ := x35 h10 (by omega)
 obtain ⟨T11,h11⟩ : ∃ T,T10.set (N + 1 + 1) (.box [.d (.int .i64 al),.sl 5 1 0 (nx.length + 1),.sl 6 1 0 (ac.length + 1)]) = T := ⟨_,rfl⟩
 obtain ⟨l11,g11,k11⟩ := x35 h11 (by omega)
 obtain ⟨T12,h12'⟩ : ∃ T,T11.set (t + 6) (.arr (ints (row.set 0 nx.length)) 1 0) = T := ⟨_,rfl⟩
 obtain ⟨l12,g12,k12⟩ := x35 h12' (by omega)
 obtain ⟨T13,h13⟩ : ∃ T,T12.set 3 (.box [.d (.int .i64 al),.sl 5 1 0 (nx.length + 1),.sl 6 1 0 (ac.length + 1)]) = T := ⟨_,rfl⟩
 obtain ⟨l13,g13,k13⟩ := x35 h13 (by omega)
 have w4 : wgt T4 = wgt T3 := by rw [← h4,xnk]; simp [x5h]
 have w5 : wgt T5 ≤ wgt T4 := by rw [← h5]; have := xaa (h := T4) (i := N + 1 + 1 + 1) (o := .arr (ints row) 1 1); simpa [x5h] using this
 have w6 : wgt T6 = wgt T5 + 1 := by rw [← h6,xnk]; simp [x5h,idsL,idsA]
 have w7 : wgt T7 ≤ wgt T6 + nx.length + 1 := by
  rw [← h7]
  have := xaa (h := T6) (i := 4) (o := .vec (x3 7 nx ++ [.sl (N + 1 + 1 + 1 + 1) 1 0 row.length]) 1 1)
  simp only [x5h,x1d,x2k,idsL,idsA,List.length_append,List.length_range',List.length_cons,List.length_nil] at this
  omega
 have w8 : wgt T8 ≤ wgt T7 + 2 := by
  rw [← h8]
  have := xaa (h := T7) (i := N + 1 + 1) (o := .box [.d (.int .i64 al),.sl 5 1 0 (nx.length + 1),.sl 6 0 0 ac.length])
  simpa [x5h,idsL,idsA] using this
 have w9 : wgt T9 = wgt T8 := by rw [← h9,xnk]; simp [x5h]
 have w10 : wgt T10 ≤ wgt T9 := by rw [← h10]; have := xaa (h := T9) (i := 5) (o := .arr (xb (ac ++ [bt])) 1 1); simpa [x5h] using this
 have t4b : T4[N + 1 + 1]? = some (.box [.d (.int .i64 al),.sl 5 0 0 nx.length,.sl 6 0 0 ac.length]) := by rw [k4 _ (by omega),tb]
 have t44 : T4[4]? = some (.vec (x3 7 nx ++ x6 0) 1 0) := by rw [k4 _ (by omega),t4]
 have t4r : T4[t + 6]? = some (.arr (ints row) 1 0) := by rw [k4 _ (by omega),t3r]
 have t64 : T6[4]? = some (.vec (x3 7 nx ++ x6 0) 1 0) := by rw [k6 _ (by omega),k5 _ (by omega),t44]
 have t6e : T6[N + 1 + 1 + 1]? = some (.arr (ints row) 1 1) := by rw [k6 _ (by omega),g5]
 have t7b : T7[N + 1 + 1]? = some (.box [.d (.int .i64 al),.sl 5 0 0 nx.length,.sl 6 0 0 ac.length]) := by rw [k7 _ (by omega),k6 _ (by omega),k5 _ (by omega),t4b]
 have t85 : T8[5]? = some (.arr (xb ac) 1 0) := by rw [k8 _ (by omega),k7 _ (by omega),k6 _ (by omega),k5 _ (by omega),k4 _ (by omega),t5]
 have t9b : T9[N + 1 + 1]? = some (.box [.d (.int .i64 al),.sl 5 1 0 (nx.length + 1),.sl 6 0 0 ac.length]) := by rw [k9 _ (by omega),g8]
 have t95 : T9[5]? = some (.arr (xb ac) 1 0) := by rw [k9 _ (by omega),t85]
 have t10b : T10[N + 1 + 1]? = some (.box [.d (.int .i64 al),.sl 5 1 0 (nx.length + 1),.sl 6 0 0 ac.length]) := by rw [k10 _ (by omega),t9b]
 have t94 : T9[4]? = some (.vec (x3 7 nx ++ [.sl (N + 1 + 1 + 1 + 1) 1 0 row.length]) 1 1) := by rw [k9 _ (by omega),k8 _ (by omega),g7]
 have t114 : T11[4]? = some (.vec (x3 7 nx ++ [.sl (N + 1 + 1 + 1 + 1) 1 0 row.length]) 1 1) := by rw [k11 _ (by omega),k10 _ (by omega),t94]
 have tr9 : ∀ (i : Nat) (r : List Int),nx[i]? = some r → T9[i + 6]? = some (.arr (ints r) 1 0) := by
  intro i r hr
  have hi : i < nx.length := (List.getElem?_eq_some_iff.1 hr).1
  rw [k9 _ (by omega),k8 _ (by omega),k7 _ (by omega),k6 _ (by omega),k5 _ (by omega),k4 _ (by omega)]
  exact tr i r hr
 have t11r : T11[t + 6]? = some (.arr (ints row) 1 0) := by rw [k11 _ (by omega),k10 _ (by omega)]; exact tr9 _ _ hrow
 have t12b : T12[N + 1 + 1]? = some (.box [.d (.int .i64 al),.sl 5 1 0 (nx.length + 1),.sl 6 1 0 (ac.length + 1)]) := by rw [k12 _ (by omega),g11]
 have t123 : T12[3]? = some (.box [.d (.int .i64 0),.sl 2 0 0 0,.sl 3 0 0 0]) := by rw [k12 _ (by omega),k11 _ (by omega),k10 _ (by omega),k9 _ (by omega),k8 _ (by omega),k7 _ (by omega),k6 _ (by omega),k5 _ (by omega),k4 _ (by omega),t3]
 have up : ∀ (T : H) (i : Nat) (o : O),T[i]? = some o → (rdO c (p + 1 + 1) :: T)[i + 1]? = some o := fun T i o h => by rw [List.getElem?_cons_succ]; exact h
 have row6 : ∀ i,i < nx.length → T6[i + 6]? = some (.arr (ints (nx.getD i [])) 1 0) := by
  intro i hi
  rw [k6 _ (by omega),k5 _ (by omega),k4 _ (by omega)]
  refine tr i _ ?_
  rw [List.getD_eq_getElem?_getD,List.getElem?_eq_getElem hi]; rfl
 have st_app1 : ∀ {call : xq} {thaw : List Nat} {dst : Option Tmp} {args : Array Operand},memD env call thaw dst (.call ⟨.builtin .append,args,#[60,60]⟩) (rdO c (p + 1 + 1) :: T4) [.sl (N + 1 + 1 + 1 + 1) 0 0 0,.sl (t + 7) 0 0 row.length] = some (.sl (N + 1 + 1 + 1 + 1) 1 0 row.length,rdO c (p + 1 + 1) :: T5,{ ids := [N + 1 + 1 + 1 + 1,t + 7],ro := false,wr := [N + 1 + 1 + 1 + 1] }) := by
  intro call thaw dst args
  rw [xvd (e := 3) (e0 := 1) (n2 := row.length) (len := 0) (cs := []) (src := ints row) rfl x4m (by kernel_rfl) (up T4 _ _ g4) (.inr rfl) (up T4 (t + 6) _ t4r) (by simp [ints]) (by simp) (by unfold x2g; omega) (by omega)]
  rw [List.set_cons_succ,← h5]
  simp
 have st_vec : ∀ {call : xq} {thaw : List Nat} {dst : Option Tmp} {x : Operand},Shut (xoj thaw dst = true) → memD env call thaw dst (.buildSlice 23 1 #[(0,x)]) (rdO c (p + 1 + 1) :: T5) [.sl (N + 1 + 1 + 1 + 1) 1 0 row.length] = some (.sl (N + 1 + 1 + 1 + 1 + 1) 0 0 1,rdO c (p + 1 + 1) :: T6,{ ids := [N + 1 + 1 + 1 + 1,N + 1 + 1 + 1 + 1 + 1],ro := false }) := by
  intro call thaw dst x hk
  rw [x1eg (e := 60) (cs := ints row) (es := 1) hk.it rfl (by kernel_rfl) x3p (by kernel_rfl) (up T5 _ _ g5)]
  rw [List.cons_append,h6,List.length_cons,l5,l4]
 have ok65 : Okay (rdO c (p + 1 + 1) :: T6) 5 := xz6 (x := x6 0) (up T6 4 _ t64) (fun j hj => xdo (up T6 (j + 6) _ (row6 j hj))) (by intro q hq; simp [x3h] at hq)
 have ok6e : Okay (rdO c (p + 1 + 1) :: T6) (N + 1 + 1 + 1 + 1 + 1) := x1ji (up T6 _ _ g6) (by
  intro q hq
  simp [idsL,idsA] at hq
  subst hq
  exact xdo (up T6 _ _ t6e))
 obtain ⟨o1,ho1⟩ : ∃ o,o = x4 x5 (rdO c (p + 1 + 1) :: T6) [5,N + 1 + 1 + 1 + 1 + 1] [] := ⟨_,rfl⟩
 have st_app2 : ∀ {call : xq} {thaw : List Nat} {dst : Option Tmp} {args : Array Operand},memD env call thaw dst (.call ⟨.builtin .append,args,#[23,23]⟩) (rdO c (p + 1 + 1) :: T6) [.sl 5 0 0 nx.length,.sl (N + 1 + 1 + 1 + 1 + 1) 0 0 1] = some (.sl 5 1 0 (nx.length + 1),rdO c (p + 1 + 1) :: T7,{ ids := o1,ro := false,wr := [5] }) := by
  intro call thaw dst args
  rw [x12g (e := 60) rfl x3p (by kernel_rfl) (id := 5) (id2 := N + 1 + 1 + 1 + 1 + 1) (g := 0) (g2 := 0) (len := nx.length) (cs := x3 7 nx ++ x6 0) (c := .sl (N + 1 + 1 + 1 + 1) 1 0 row.length) (up T6 4 _ t64) (up T6 _ _ g6) (by omega) (by unfold x2g; omega) ok65 ok6e (by rw [xbw]; simp only [x5h,idsL,idsA,List.nil_append,List.length_nil]; omega),← ho1,htk]
  rw [List.set_cons_succ,h7]
 have row7 : ∀ i,i < nx.length → T7[i + 6]? = some (.arr (ints (nx.getD i [])) 1 0) := fun i hi => by rw [k7 _ (by omega)]; exact row6 i hi
 have t7e : T7[N + 1 + 1 + 1]? = some (.arr (ints row) 1 1) := by rw [k7 _ (by omega),t6e]
 have ok75 : Okay (rdO c (p + 1 + 1) :: T7) 5 := xz6 (up T7 4 _ g7) (fun j hj => xdo (up T7 (j + 6) _ (row7 j hj))) (by
  intro q hq
  simp [idsL,idsA] at hq
  subst hq
  exact xdo (up T7 _ _ t7e))
 have ok7b : Okay (rdO c (p + 1 + 1) :: T7) (N + 2 + 1) := x1it (up T7 _ _ t7b) (by
  intro q hq
  simp [idsL,idsA] at hq
  rcases hq with rfl | rfl
  ·exact ok75
  ·exact xdo (up T7 5 _ (by rw [k7 _ (by omega),k6 _ (by omega),k5 _ (by omega),k4 _ (by omega),t5])))
 obtain ⟨o2,ho2⟩ : ∃ o,o = x4 x5 (rdO c (p + 1 + 1) :: T7) [N + 2 + 1,5] [] := ⟨_,rfl⟩
 have st_sto : ∀ {call : xq} {thaw : List Nat} {dst : Option Tmp} {x y : Operand},memD env call thaw dst (.store 23 x y) (rdO c (p + 1 + 1) :: T7) [.ptr (N + 2 + 1) 0 1,.sl 5 1 0 (nx.length + 1)] = some (.d .undef,rdO c (p + 1 + 1) :: T8,{ ids := o2,ro := false,wr := o2 }) := by
  intro call thaw dst x y
  rw [xif (by kernel_rfl) (by kernel_rfl) (h := rdO c (p + 1 + 1) :: T7) (id := N + 2 + 1) (id2 := 5) (off := 1) (cs := [.d (.int .i64 al),.sl 5 0 0 nx.length,.sl 6 0 0 ac.length]) (up T7 _ _ t7b) (by simp) ok7b ok75 (by rw [xbw]; simp only [x5h,idsL,idsA,List.nil_append,List.length_nil]; omega),← ho2]
  rw [List.set_cons_succ]
  unfold x17
  rw [← h8]
  rfl
 have hbh : (((xb ac).drop t).map A.d).head? = some (.d (.bool bt)) := by rw [xrl hta,hbt]
 have st_app3 : ∀ {call : xq} {thaw : List Nat} {dst : Option Tmp} {args : Array Operand},memD env call thaw dst (.call ⟨.builtin .append,args,#[24,24]⟩) (rdO c (p + 1 + 1) :: T9) [.sl 6 0 0 ac.length,.sl (N + 1 + 1 + 1 + 1 + 1 + 1) 0 0 1] = some (.sl 6 1 0 (ac.length + 1),rdO c (p + 1 + 1) :: T10,{ ids := [6,N + 1 + 1 + 1 + 1 + 1 + 1],ro := false,wr := [6] }) := by
  intro call thaw dst args
  rw [xvd (e := 4) (e0 := 1) (n2 := 1) (len := ac.length) (cs := xb ac) (src := [.bool bt]) rfl xei (by kernel_rfl) (up T9 5 _ t95) (.inr rfl) (up T9 _ _ g9) rfl (by rw [x4f]; omega) (by unfold x2g; omega) (by omega)]
  rw [List.set_cons_succ,xax (Nat.le_refl _),xib,h10]
 have row10 : ∀ i,i < nx.length → T10[i + 6]? = some (.arr (ints (nx.getD i [])) 1 0) := fun i hi => by
  rw [k10 _ (by omega),k9 _ (by omega),k8 _ (by omega)]; exact row7 i hi
 have ok105 : Okay (rdO c (p + 1 + 1) :: T10) 5 := xz6 (up T10 4 _ (by rw [k10 _ (by omega),t94])) (fun j hj => xdo (up T10 (j + 6) _ (row10 j hj))) (by
  intro q hq
  simp [idsL,idsA] at hq
  subst hq
  exact xdo (up T10 _ _ (by rw [k10 _ (by omega),k9 _ (by omega),k8 _ (by omega),t7e])))
 have ok106 : Okay (rdO c (p + 1 + 1) :: T10) 6 := xdo (up T10 5 _ g10)
 have ok10b : Okay (rdO c (p + 1 + 1) :: T10) (N + 2 + 1) := x1it (up T10 _ _ t10b) (by
  intro q hq
  simp [idsL,idsA] at hq
  rcases hq with rfl | rfl
  ·exact ok105
  ·exact ok106)
 obtain ⟨o3,ho3⟩ : ∃ o,o = x4 x5 (rdO c (p + 1 + 1) :: T10) [N + 2 + 1,6] [] := ⟨_,rfl⟩
 have st_sto2 : ∀ {call : xq} {thaw : List Nat} {dst : Option Tmp} {x y : Operand},memD env call thaw dst (.store 24 x y) (rdO c (p + 1 + 1) :: T10) [.ptr (N + 2 + 1) 0 2,.sl 6 1 0 (ac.length + 1)] = some (.d .undef,rdO c (p + 1 + 1) :: T11,{ ids := o3,ro := false,wr := o3 }) := by
  intro call thaw dst x y
  rw [xif (by kernel_rfl) (by kernel_rfl) (h := rdO c (p + 1 + 1) :: T10) (id := N + 2 + 1) (id2 := 6) (off := 2) (cs := [.d (.int .i64 al),.sl 5 1 0 (nx.length + 1),.sl 6 0 0 ac.length]) (up T10 _ _ t10b) (by simp) ok10b ok106 (by rw [xbw]; simp only [x5h,idsL,idsA,List.nil_append,List.length_nil]; omega),← ho3]
  rw [List.set_cons_succ]
  unfold x17
  rw [← h11]
  rfl
 have hcl1 : ∀ (ops : List Oper) (w : List Nat),w = [N + 1 + 1 + 1 + 1] → xe8 [(1,2),(2,4),(2,6),(2,7),(1,8),(1,9)] ops [{},{ ids := [N + 2 + 1],ro := true },{ ids := [N + 1 + 1 + 1 + 1],ro := false },{},{ ids := [N + 2 + 1],ro := true },{},{ ids := [5],ro := true },{ ids := [5],ro := true },{ ids := [N + 1 + 1 + 1 + 1,t + 7],ro := false,wr := [N + 1 + 1 + 1 + 1] },{ ids := [N + 1 + 1 + 1 + 1,N + 1 + 1 + 1 + 1 + 1],ro := false },{ ids := o1,ro := false,wr := [5] },{},{ ids := o2,ro := false }] = true → x64 ops (([] : List Foot) ++ [({} : Foot)] ++ [({ ids := idsA (A.ptr (N + 2 + 1) 0 1) } : Foot)] ++ [({ ids := [N + 1 + 1 + 1 + 1],ro := false,wr := w } : Foot)] ++ [({} : Foot)] ++ [({ ids := idsA (A.ptr (N + 2 + 1) 0 1) } : Foot)] ++ [({} : Foot)] ++ [({ ids := idsA (A.sl 5 0 0 nx.length) } : Foot)] ++ [({ ids := idsA (A.ptr 5 0 t) } : Foot)] ++ [({ ids := [N + 1 + 1 + 1 + 1,t + 7],ro := false,wr := [N + 1 + 1 + 1 + 1] } : Foot)] ++ [({ ids := [N + 1 + 1 + 1 + 1,N + 1 + 1 + 1 + 1 + 1],ro := false } : Foot)] ++ [({ ids := o1,ro := false,wr := [5] } : Foot)] ++ [({} : Foot)] ++ [({ ids := o2,ro := false } : Foot)]) = true := by
  intro ops w hw hm
  subst hw
  have key : x64 ops [{},{ ids := [N + 2 + 1],ro := true },{ ids := [N + 1 + 1 + 1 + 1],ro := false },{},{ ids := [N + 2 + 1],ro := true },{},{ ids := [5],ro := true },{ ids := [5],ro := true },{ ids := [N + 1 + 1 + 1 + 1,t + 7],ro := false,wr := [N + 1 + 1 + 1 + 1] },{ ids := [N + 1 + 1 + 1 + 1,N + 1 + 1 + 1 + 1 + 1],ro := false },{ ids := o1,ro := false,wr := [5] },{},{ ids := o2,ro := false }] = true := by
   refine xmj _ hm ?_
   intro q hq
   simp only [List.mem_cons,List.not_mem_nil,or_false] at hq
   rcases hq with rfl | rfl | rfl | rfl | rfl | rfl <;> simp [xau] <;> omega
  exact key
 have hcl2 : ∀ (ops : List Oper) (w : List Nat),w = [N + 1 + 1 + 1 + 1 + 1 + 1] → xe8 [(1,7)] ops [{},{ ids := [N + 2 + 1],ro := true },{},{ ids := [N + 2 + 1],ro := true },{},{ ids := [6],ro := true },{ ids := [6],ro := true },{ ids := [N + 1 + 1 + 1 + 1 + 1 + 1],ro := false },{ ids := [6,N + 1 + 1 + 1 + 1 + 1 + 1],ro := false,wr := [6] },{},{ ids := o3,ro := false }] = true → x64 ops (([] : List Foot) ++ [({} : Foot)] ++ [({ ids := idsA (A.ptr (N + 2 + 1) 0 2) } : Foot)] ++ [({} : Foot)] ++ [({ ids := idsA (A.ptr (N + 2 + 1) 0 2) } : Foot)] ++ [({} : Foot)] ++ [({ ids := idsA (A.sl 6 0 0 ac.length) } : Foot)] ++ [({ ids := idsA (A.ptr 6 0 t) } : Foot)] ++ [({ ids := [N + 1 + 1 + 1 + 1 + 1 + 1],ro := false,wr := w } : Foot)] ++ [({ ids := [6,N + 1 + 1 + 1 + 1 + 1 + 1],ro := false,wr := [6] } : Foot)] ++ [({} : Foot)] ++ [({ ids := o3,ro := false } : Foot)]) = true := by
  intro ops w hw hm
  subst hw
  have key : x64 ops [{},{ ids := [N + 2 + 1],ro := true },{},{ ids := [N + 2 + 1],ro := true },{},{ ids := [6],ro := true },{ ids := [6],ro := true },{ ids := [N + 1 + 1 + 1 + 1 + 1 + 1],ro := false },{ ids := [6,N + 1 + 1 + 1 + 1 + 1 + 1],ro := false,wr := [6] },{},{ ids := o3,ro := false }] = true := by
   refine xmj _ hm ?_
   intro q hq
   simp only [List.mem_cons,List.not_mem_nil,or_false] at hq
   rcases hq with rfl <;> simp [xau] <;> omega
  exact key
 have hlen : (nx.set t (row.set 0 nx.length) ++ [row]).length = nx.length + 1 := by simp
 have hlen2 : (ac ++ [bt]).length = ac.length + 1 := by simp
 have hrefs : x3 7 (nx.set t (row.set 0 nx.length)) = x3 7 nx := xpf (by rw [hrw]; simp)
 have hv : rd1 (rdO c (p + 1 + 1) :: T13) (.sl 5 1 0 (nx.length + 1)) = some (.ivs (nx.set t (row.set 0 nx.length) ++ [row]).length (xc (nx.set t (row.set 0 nx.length) ++ [row]))) := by
  refine xk3 (cs := x3 7 (nx.set t (row.set 0 nx.length)) ++ [.sl (N + 1 + 1 + 1 + 1) 1 0 row.length]) ?_ ?_ hlen.symm
  ·rw [hrefs]; exact up T13 4 _ (by rw [k13 _ (by omega),k12 _ (by omega),t114])
  ·refine x1k6 (fun i r hr => ?_) (up T13 _ _ (by rw [k13 _ (by omega),k12 _ (by omega),k11 _ (by omega),k10 _ (by omega),k9 _ (by omega),k8 _ (by omega),t7e]))
   refine up T13 (i + 6) _ ?_
   rw [List.getElem?_set] at hr
   by_cases e : t = i
   ·subst e
    rw [if_pos rfl,if_pos ht] at hr
    cases hr
    rw [k13 _ (by omega)]; exact g12
   ·rw [if_neg e] at hr
    have hi : i < nx.length := (List.getElem?_eq_some_iff.1 hr).1
    rw [k13 _ (by omega),k12 _ (by omega),k11 _ (by omega),k10 _ (by omega)]
    exact tr9 i r hr
 have hw : rd1 (rdO c (p + 1 + 1) :: T13) (.sl 6 1 0 (ac.length + 1)) = some (.ivs (ac ++ [bt]).length (xb (ac ++ [bt]))) :=
  xdp (up T13 5 _ (by rw [k13 _ (by omega),k12 _ (by omega),k11 _ (by omega),g10])) hlen2.symm
 obtain ⟨h2',st_out,st_keep,st_trim⟩ := xga (al := al) hv hw (by omega) (by omega)
 unfold autD at st_out ⊢
 rw [hlen,hlen2] at st_out ⊢
 have hd7x : ((x3 7 nx ++ [A.sl (N + 1 + 1 + 1 + 1) 1 0 row.length]).drop t).head? = some (.sl (t + 7) 0 0 row.length) := by rw [x1kx ht,hrw]
 have hput : ∀ v : Int,(ints row).drop 1 = ints (row.drop 1) := fun v => by simp [ints]
 have hset0 : D.int .i64 (nx.length : Int) :: List.drop 1 (ints row) = ints (row.set 0 nx.length) := by
  cases row with
  | nil => simp at hr0
  | cons x xs => simp [ints]
 have hti : (t : Int) < nx.length := by omega
 have hti1 : (t : Int) < (nx.length : Int) + 1 := by omega
 have ht0 : (0 : Int) ≤ t := by omega
 have hn0 : ¬ ((nx.length : Int) = 0) := by omega
 have hn12 : (nx.length : Int) < 12 := by omega
 have hta' : (t : Int) < ac.length := by omega
 have hr0' : (0 : Int) < row.length := by omega
 have hr1 : 1 ≤ (ints row).length := by simp [ints]; omega
 have l8' : T8.length = N + 1 + 1 + 1 + 1 + 1 := by omega
 clear hv hw k4 k5 k6 k7 k8 k9 k10 k11 k12 k13 tr tr9 h1 l4 l5 l6 l7 l8 l9 l10 l11 l12 l13 wg w4 w5 w6 w7 w8 w9 w10 hrow ok65 ok6e ok75 ok7b ok105 ok106 ok10b row6 row7 row10 ho1 ho2 ho3 up hlv htk hrefs hput
 obtain _ | n := n; omega
 rw [x7n]
 simp only [x7g,Try.f93,SLM,simprocAttr]
 simp -implicitDefEqProofs (maxSteps := 2000000) (disch := first | assumption | (refine Shut.mk ?_; exact hcl1 _ _ (by kernel_rfl) (by kernel_rfl)) | (refine Shut.mk ?_; exact hcl2 _ _ (by kernel_rfl) (by kernel_rfl)) | (refine Shut.mk ?_; kernel_rfl) | omega | (simp only [GT]; done) | (simp only [LN] <;> omega) | fail) only [↓DN,↓kAsg,↓kRet,UP,simprocAttr,LA,↓kd1,↓kd2,↓kd3,l1,h2,b2,h3,l3,t3,t4,t5,tb,t3r,hti,hti1,ht0,hn0,hn12,hta',hr0',hd7,h4,t4b,t44,↓st_app1,↓st_vec,↓st_app2,↓st_sto,g8,t85,l8',hbh,h9,↓st_app3,↓st_sto2,g11,t114,hd7x,t11r,hr1,hset0,h12',t12b,t123,h13,g13,Int.toNat_natCast,xh0,xei,x3l,x3p,x46,x4m,↓st_out,↓st_keep,↓st_trim,Nat.sub_self,List.range'_zero,List.append_nil,List.append_assoc,List.cons_append,List.nil_append]
theorem x1l8 {c : List UInt8} (hc : c.length ≤ 2000) {B : Nat} (hB : B ≤ 4294966000) (al : Int) (nx : List (List Int)) (ac : List Bool) (hb : AutB B nx ac) (h1 : 1 ≤ nx.length) (p : Int) (hp : 0 ≤ p) (hp2 : p ≤ 890000000) :
  ∃ (nx2 : List (List Int)) (ac2 : List Bool) (q : Int),AutB (B + 1) nx2 ac2 ∧ 1 ≤ nx2.length ∧ p ≤ q ∧ q ≤ p + 4 ∧ (Dw 4 93 [autD al nx ac] (autD al nx2 ac2) c p q) := by
 have hs := hb.short (by omega)
 have hn := hb.n
 have hba := hb.a
 obtain ⟨k,k0,k1,_,kd1⟩ := x6s hc p nx.length hp (by omega)
 obtain ⟨u,u0,u1,_,kd2⟩ := x6s hc (p + 1) 4 (by omega) (by omega)
 have k1 := k1 (by omega)
 obtain ⟨t,rfl⟩ : ∃ t : Nat,k = t := ⟨k.toNat,by omega⟩
 have ht : t < nx.length := by omega
 have hrt := hb.at t
 have same := fun hcase => x1he hc al nx ac hs h1 (by omega) p u t ht hcase kd1 kd2
 by_cases hu0 : u = 0
 ·by_cases hta : t < ac.length
  ·subst hu0
   refine ⟨nx,_,_,⟨by omega,by rw [List.length_set]; omega,fun r hr => ?_⟩,h1,by omega,by omega,x1ma hc al nx ac hs h1 (by omega) p t hta kd1 kd2⟩
   have := hb.r r hr; omega
  ·exact ⟨nx,ac,_,hb.mono (by omega),h1,by omega,by omega,same (.inl ⟨hu0,by omega⟩)⟩
 by_cases hu1 : u = 1
 ·by_cases h0 : (nx.getD t []).length = 0
  ·exact ⟨nx,ac,_,hb.mono (by omega),h1,by omega,by omega,same (.inr (.inl ⟨hu1,h0⟩))⟩
  ·subst hu1
   obtain ⟨v,v0,v1,_,kd4⟩ := x6s hc (p + 1 + 1) (nx.getD t []).length (by omega) (by omega)
   have v1 := v1 (by omega)
   obtain ⟨j,rfl⟩ : ∃ j : Nat,v = j := ⟨v.toNat,by omega⟩
   obtain ⟨w,w0,w1,_,kd5⟩ := x6s hc (p + 1 + 1 + 1) nx.length (by omega) (by omega)
   refine ⟨_,ac,_,⟨by rw [List.length_set]; omega,by omega,fun r hr => ?_⟩,by rw [List.length_set]; exact h1,by omega,by omega,x1hz hc al nx ac hs h1 (by omega) p w t j ht (by omega) kd1 kd2 kd4 kd5⟩
   rcases List.mem_or_eq_of_mem_set hr with h | h
   ·have := hb.r r h; omega
   ·rw [h,List.length_set]; omega
 by_cases hu2 : u = 2
 ·by_cases h3 : nx.length < 12 ∧ t < ac.length ∧ 0 < (nx.getD t []).length
  ·subst hu2
   refine ⟨_,_,_,⟨?_,?_,fun r hr => ?_⟩,?_,by omega,by omega,x1j8 hc al nx ac hs (by omega) p t ht h3.1 h3.2.1 rfl h3.2.2 (by omega) rfl kd1 kd2⟩
   ·rw [List.length_append,List.length_set,List.length_cons,List.length_nil]; omega
   ·rw [List.length_append,List.length_cons,List.length_nil]; omega
   ·rcases List.mem_append.1 hr with h | h
    ·rcases List.mem_or_eq_of_mem_set h with h | h
     ·have := hb.r r h; omega
     ·rw [h,List.length_set]; omega
    ·simp only [List.mem_singleton] at h
     rw [h]; omega
   ·rw [List.length_append,List.length_set,List.length_cons,List.length_nil]; omega
  ·exact ⟨nx,ac,_,hb.mono (by omega),h1,by omega,by omega,same (.inr (.inr (.inl ⟨hu2,by omega⟩)))⟩
 exact ⟨nx,ac,_,hb.mono (by omega),h1,by omega,by omega,same (.inr (.inr (.inr ⟨hu0,hu1,hu2⟩)))⟩
theorem x1mq : (env.hint 67).mode = 0 := by kernel_rfl
theorem x1gp {c : List UInt8} (hc : c.length ≤ 2000) (al : Int) : ∀ (j : Nat) (p : Int) (nx : List (List Int)) (ac : List Bool) (B : Nat) (hB : B + j ≤ 1000) (hb : AutB B nx ac) (h1 : 1 ≤ nx.length) (hp : 0 ≤ p) (hp2 : p + 4 * j ≤ 890000000),
  ∃ (nx2 : List (List Int)) (ac2 : List Bool) (q : Int),AutB (B + j) nx2 ac2 ∧ 1 ≤ nx2.length ∧ p ≤ q ∧ q ≤ p + 4 * j ∧ ∀ (R : Type) (L n m : Nat) (k : Exit → List A → H → Option R),5 ≤ n → 2 ^ 60 ≤ L → j < m →
  xg env (x2 env L n) L 1 [] (U1 (Z1 (U2 (U1 (Z16 (Z4 (Z2 (Z1 ([]))))))))) (xky 0) (Z1 (U1 (Z2 (Z1 (U16 (U4 (U2 (U1 ([]))))))))) m (.ptr 0 0 0 :: Y1 (.ptr 1 0 0 :: .ptr 2 0 0 :: .d (.int .i64 ((j : Int))) :: Y16 (Y4 (Y2 (Y1 ([])))))) (rdO c p :: .box [.d (.int .i64 0),.sl 3 0 0 0,.sl 4 0 0 0] :: .box [.d (.int .i64 al),.d (.ivs nx.length (xc nx)),.d (.ivs ac.length (xb ac))] :: .arr [] 0 0 :: .arr [] 0 0 :: []) k
  = k (.exit 0) (.ptr 0 0 0 :: Y1 (.ptr 1 0 0 :: .ptr 2 0 0 :: .d (.int .i64 0) :: Y16 (Y4 (Y2 (Y1 ([])))))) (rdO c q :: .box [.d (.int .i64 0),.sl 3 0 0 0,.sl 4 0 0 0] :: .box [.d (.int .i64 al),.d (.ivs nx2.length (xc nx2)),.d (.ivs ac2.length (xb ac2))] :: .arr [] 0 0 :: .arr [] 0 0 :: []) := by
 intro j
 induction j with
 | zero =>
  intro p nx ac B hB hb h1 hp hp2
  refine ⟨nx,ac,p,hb,h1,by omega,by omega,fun R L n m k hn hL hm => ?_⟩
  obtain _ | m := m; omega
  have e0 : ((0 : Nat) : Int) = 0 := rfl
  rw [e0]
  rw [xxn]
  simp only [xx0,Try.f67,SLM,simprocAttr]
  simp -implicitDefEqProofs (maxSteps := 2000000) (disch := first | assumption | exact ⟨by kernel_rfl⟩ | omega | (simp only [GT,LN] <;> omega) | fail) only [↓DN,↓kAsg,↓kRet,UP,simprocAttr,LA,Int.lt_irrefl]
 | succ j ih =>
  intro p nx ac B hB hb h1 hp hp2
  obtain ⟨nx1,ac1,q1,b1,g1,g2,g3,kd1⟩ := x1l8 hc (B := B) (by omega) al nx ac hb h1 p hp (by omega)
  obtain ⟨nx2,ac2,q2,b2,f1,f2,f3,kd2⟩ := ih q1 nx1 ac1 (B + 1) (by omega) b1 g1 (by omega) (by omega)
  refine ⟨nx2,ac2,q2,b2.mono (by omega),f1,by omega,by omega,fun R L n m k hn hL hm => ?_⟩
  obtain _ | m := m; omega
  have kd2' := kd2 R L n m k hn hL (by omega)
  have e1 : ((j + 1 : Nat) : Int) - 1 = (j : Int) := by omega
  have hc1 : (0 : Int) < ((j + 1 : Nat) : Int) := by omega
  have hj : ((j + 1 : Nat) : Int) ≤ 1000 := by omega
  generalize ((j + 1 : Nat) : Int) = z at *
  unfold autD at kd1
  clear ih kd2 b1 b2 hb
  rw [xxn]
  simp only [xx0,Try.f67,SLM,simprocAttr]
  simp -implicitDefEqProofs (maxSteps := 2000000) (disch := first | assumption | exact ⟨by kernel_rfl⟩ | omega | (simp only [GT,LN] <;> omega) | fail) only [↓DN,↓kAsg,↓kRet,UP,simprocAttr,LA,hc1,↓kd1,e1,↓kd2']
theorem x1vu {c : List UInt8} (hc : c.length ≤ 2000) (p : Int) (hp : 0 ≤ p) (hp2 : p ≤ 700000000) :
  ∃ (al : Int) (nx : List (List Int)) (ac : List Bool) (q : Int),AutB 40 nx ac ∧ p ≤ q ∧ q ≤ p + 200 ∧ (Dw 16 67 [] (autD al nx ac) c p q) := by
 obtain ⟨al,nx,ac,q,g1,g2,g3,g4,g5,g6,kd1⟩ := x1q1 hc p (by omega) (by omega)
 obtain ⟨v,v0,v1,_,kd2⟩ := x6s hc q 3 (by omega) (by omega)
 have v1 := v1 (by omega)
 obtain ⟨j,rfl⟩ : ∃ j : Nat,v = j := ⟨v.toNat,by omega⟩
 obtain ⟨nx2,ac2,q2,b2,f1,f2,f3,kd3⟩ := x1gp hc al j (q + 1) nx ac 12 (by omega) ⟨by omega,by omega,fun r hr => by have := g4 r hr; have := x4j al; omega⟩ g1 (by omega) (by omega)
 obtain ⟨w,w0,w1,_,kd4⟩ := x6s hc q2 10 (by omega) (by omega)
 have big : ∃ (al3 : Int) (nx3 : List (List Int)) (ac3 : List Bool) (q3 : Int),AutB 15 nx3 ac3 ∧ 1 ≤ nx3.length ∧ q2 + 1 ≤ q3 ∧ q3 ≤ q2 + 50 ∧ (w = 0 → (Dw 3 75 [] (autD al3 nx3 ac3) c (q2 + 1) q3)) ∧ (¬ w = 0 → al3 = al ∧ nx3 = nx2 ∧ ac3 = ac2 ∧ q3 = q2 + 1) := by
  by_cases hw : w = 0
  ·obtain ⟨nx3,ac3,q3,e1,e2,e3,e4,e5,kd⟩ := x1uz hc (q2 + 1) (by omega) (by omega)
   exact ⟨3,nx3,ac3,q3,⟨by omega,by omega,fun r hr => by have := e3 r hr; have := x4j 3; omega⟩,by omega,by omega,by omega,fun _ => kd,fun h => absurd hw h⟩
  ·exact ⟨al,nx2,ac2,q2 + 1,b2.mono (by omega),f1,by omega,by omega,fun h => absurd h hw,fun _ => ⟨rfl,rfl,rfl,rfl⟩⟩
 obtain ⟨al3,nx3,ac3,q3,b3,n3,r1,r2,kd5,no5⟩ := big
 obtain ⟨x,x0,x1,_,kd6⟩ := x6s hc q3 6 (by omega) (by omega)
 by_cases hx : x = 0
 ·obtain ⟨al4,nx4,ac4,q4,b4,s1,s2,kd7⟩ := x1o3 hc (B := 15) (by omega) al3 nx3 ac3 b3 n3 (q3 + 1) (by omega) (by omega)
  refine ⟨al4,nx4,ac4,q4,b4.mono (by omega),by omega,by omega,fun R L n hq k hn hL => x3n x1mq (by simp [idsL,idsA]) (by simp [autD,idsA,idsL]) ?_⟩
  have loop_a := fun {R : Type} {n : Nat} {k : Exit → List A → H → Option R} (hn : 5 ≤ n) => kd3 R L n L k hn hL (by omega)
  subst hx
  by_cases hw : w = 0
  ·have kd5 := kd5 hw
   subst hw
   unfold autD at kd1 kd5 kd7 ⊢
   clear g4 b2 b3 b4 kd3 no5
   obtain _ | n := n; omega
   rw [xrn]
   simp only [xpi,Try.f67,SLM,simprocAttr]
   simp -implicitDefEqProofs (maxSteps := 2000000) (disch := first | assumption | exact ⟨by kernel_rfl⟩ | omega | (simp only [GT,LN] <;> omega) | fail) only [↓DN,↓kAsg,↓kRet,UP,simprocAttr,LA,↓kd1,↓kd2,↓kd4,↓kd5,↓kd6,↓kd7,↓loop_a]
  ·obtain ⟨rfl,rfl,rfl,rfl⟩ := no5 hw
   unfold autD at kd1 kd7 ⊢
   clear g4 b2 b3 b4 kd3 kd5
   obtain _ | n := n; omega
   rw [xrn]
   simp only [xpi,Try.f67,SLM,simprocAttr]
   simp -implicitDefEqProofs (maxSteps := 2000000) (disch := first | assumption | exact ⟨by kernel_rfl⟩ | omega | (simp only [GT,LN] <;> omega) | fail) only [↓DN,↓kAsg,↓kRet,UP,simprocAttr,LA,↓kd1,↓kd2,↓kd4,↓kd6,↓kd7,hw,↓loop_a]
 ·refine ⟨al3,nx3,ac3,q3 + 1,b3.mono (by omega),by omega,by omega,fun R L n hq k hn hL => x3n x1mq (by simp [idsL,idsA]) (by simp [autD,idsA,idsL]) ?_⟩
  have loop_a := fun {R : Type} {n : Nat} {k : Exit → List A → H → Option R} (hn : 5 ≤ n) => kd3 R L n L k hn hL (by omega)
  by_cases hw : w = 0
  ·have kd5 := kd5 hw
   subst hw
   unfold autD at kd1 kd5 ⊢
   clear g4 b2 b3 kd3 no5
   obtain _ | n := n; omega
   rw [xrn]
   simp only [xpi,Try.f67,SLM,simprocAttr]
   simp -implicitDefEqProofs (maxSteps := 2000000) (disch := first | assumption | exact ⟨by kernel_rfl⟩ | omega | (simp only [GT,LN] <;> omega) | fail) only [↓DN,↓kAsg,↓kRet,UP,simprocAttr,LA,↓kd1,↓kd2,↓kd4,↓kd5,↓kd6,hx,↓loop_a]
  ·obtain ⟨rfl,rfl,rfl,rfl⟩ := no5 hw
   unfold autD at kd1 ⊢
   clear g4 b2 b3 kd3 kd5
   obtain _ | n := n; omega
   rw [xrn]
   simp only [xpi,Try.f67,SLM,simprocAttr]
   simp -implicitDefEqProofs (maxSteps := 2000000) (disch := first | assumption | exact ⟨by kernel_rfl⟩ | omega | (simp only [GT,LN] <;> omega) | fail) only [↓DN,↓kAsg,↓kRet,UP,simprocAttr,LA,↓kd1,↓kd2,↓kd4,↓kd6,hx,hw,↓loop_a]
theorem xwp (c0 : List UInt8) (hc0 : c0.length ≤ 4294967296) : ∃ (al : Int) (nx : List (List Int)) (ac : List Bool),AutB 40 nx ac ∧ ∀ (R : Type) (L n : Nat) (hq : H) (k : A → H → Option R),18 ≤ n → 2 ^ 60 ≤ L → xe env (x2 env L n) hq 25 [.d (.ivs c0.length (x19 c0))] k = k (autD al nx ac) hq := by
 have hc := x1zs c0
 generalize hcs : src c0 = c at hc
 obtain ⟨al,nx,ac,q,b,g2,g3,kd1⟩ := x1vu hc 0 (by omega) (by omega)
 refine ⟨al,nx,ac,b,fun R L n hq k hn hL => xr rfl ?_ rfl (.inr rfl)⟩
 have kd_a := fun {R : Type} {hq : H} {k : A → H → Option R} {i : Nat} {L n : Nat} => @x21p L n _ _ _ _ _ _ _ rfl rfl kd1 R hq k i
 clear kd1
 unfold autD at kd_a ⊢
 obtain _ | n := n; omega
 rw [xtn]
 simp only [xhe,Try.f25,SLM,simprocAttr]
 simp -implicitDefEqProofs (maxSteps := 2000000) (disch := first | assumption | exact ⟨by kernel_rfl⟩ | omega | (simp only [GT,LN] <;> omega) | fail) only [↓DN,↓kAsg,↓kRet,UP,simprocAttr,LA,↓x1vw,hcs,↓kd_a]
theorem x1cr {R : Type} {L n : Nat} (hn : 1 ≤ n) {l : List Str} (hl : l.length ≤ 4294967296) {k : Exit → List A → H → Option R} : ∀ (i : Int) (m : Nat) (h0 : 0 ≤ i) (hi : i ≤ l.length) (hm : (l.length : Int) - i < m),
  xg env (x2 env L n) L 0 [] (U2 (Z2 (U2 (Z16 (Z4 ([])))))) (xgc 0) (Z2 (U2 (Z2 (U16 (U4 ([])))))) m (.d (.ivs l.length (x15 l)) :: .d (.ivs l.length (x15 l)) :: Y2 (.d (.bool false) :: .d (.int .i64 i) :: Y16 (Y4 ([])))) [] k
  = k (.exit 0) (.d (.ivs l.length (x15 l)) :: .d (.ivs l.length (x15 l)) :: Y2 (.d (.bool false) :: .d (.int .i64 (l.length)) :: Y16 (Y4 ([])))) [] := by
 intro i m h0 hi hm
 obtain ⟨j,hj⟩ : ∃ j : Nat,(j : Int) = (l.length : Int) - i := ⟨((l.length : Int) - i).toNat,by omega⟩
 induction j generalizing i m with
 | zero =>
  obtain _ | m := m; omega
  obtain rfl : i = l.length := by omega
  rw [xu8]
  simp only [xqj,Try.f26,SLM,simprocAttr]
  simp -implicitDefEqProofs (maxSteps := 2000000) (disch := first | assumption | exact ⟨by kernel_rfl⟩ | omega | (simp only [GT,LN] <;> omega) | fail) only [↓DN,↓kAsg,↓kRet,UP,simprocAttr,SE,Int.lt_irrefl]
 | succ j ih =>
  obtain _ | m := m; omega
  have hc : i < l.length := by omega
  have hk : i.toNat < l.length := by omega
  rw [xu8]
  simp only [xqj,Try.f26,SLM,simprocAttr]
  simp -implicitDefEqProofs (maxSteps := 2000000) (disch := first | assumption | exact ⟨by kernel_rfl⟩ | omega | (simp only [GT,LN] <;> omega) | fail) only [↓DN,↓kAsg,↓kRet,UP,simprocAttr,SE,hc,bne_self_eq_false,beq_self_eq_true,Bool.not_true,↓ih]
theorem x11u {L n : Nat} (hn : 2 ≤ n) (l : List Str) (hl : l.length ≤ 4294967296) (hL : 2 ^ 60 ≤ L) : x2 env L n 26 [.d (.ivs l.length (x15 l)),.d (.ivs l.length (x15 l))] [] = some (.d (.bool true),[]) := by
 obtain _ | n := n; omega
 rw [x1j5]
 simp only [x17h,Try.f26,SLM,simprocAttr]
 simp -implicitDefEqProofs (maxSteps := 2000000) (disch := first | assumption | exact ⟨by kernel_rfl⟩ | omega | (simp only [GT,LN] <;> omega) | fail) only [↓DN,↓kAsg,↓kRet,UP,simprocAttr,↓x1cr,SE]
theorem xdl {R : Type} {L n : Nat} {hq : H} {k : A → H → Option R} (hn : 2 ≤ n) (l : List Str) (hl : l.length ≤ 4294967296) (hL : 2 ^ 60 ≤ L) : xe env (x2 env L n) hq 26 [.d (.ivs l.length (x15 l)),.d (.ivs l.length (x15 l))] k = k (.d (.bool true)) hq :=
 xr rfl (x11u hn l hl hL) rfl (.inl rfl)
theorem xd4 {R : Type} {L n : Nat} {k : A → Option R} (hn : 2 ≤ n) (l : List Str) (hl : l.length ≤ 4294967296) (hL : 2 ^ 60 ≤ L) : x14 (x2 env L n) 26 [.d (.ivs l.length (x15 l)),.d (.ivs l.length (x15 l))] k = k (.d (.bool true)) :=
 x4l (x11u hn l hl hL) rfl
theorem xb8 {R : Type} {L n : Nat} {hq : H} {k : A → H → Option R} {id0 g0 o0 len0 : Nat} {l : List Str} : xe env (x2 env L n) hq 26 [.sl id0 g0 o0 len0,.d (.ivs l.length (x15 l))] k = match box (x2m hq [.sl id0 g0 o0 len0,.d (.ivs l.length (x15 l))]) with
  | .mk (some fs) => x14 (x2 env L n) 26 fs fun r => k r hq
  | _ => none := xp xdc
theorem xba {R : Type} {L n : Nat} {hq : H} {k : A → H → Option R} {id1 g1 o1 len1 : Nat} {l : List Str} : xe env (x2 env L n) hq 26 [.d (.ivs l.length (x15 l)),.sl id1 g1 o1 len1] k = match box (x2m hq [.d (.ivs l.length (x15 l)),.sl id1 g1 o1 len1]) with
  | .mk (some fs) => x14 (x2 env L n) 26 fs fun r => k r hq
  | _ => none := xp xdc
theorem xbb {R : Type} {L n : Nat} {hq : H} {k : A → H → Option R} {id1 g1 o1 len1 : Nat} {id0 g0 o0 len0 : Nat}  : xe env (x2 env L n) hq 26 [.sl id0 g0 o0 len0,.sl id1 g1 o1 len1] k = match box (x2m hq [.sl id0 g0 o0 len0,.sl id1 g1 o1 len1]) with
  | .mk (some fs) => x14 (x2 env L n) 26 fs fun r => k r hq
  | _ => none := xp xdc
theorem x1cx {R : Type} {L n : Nat} (hn : 1 ≤ n) {l : List Str} {v : Str} (hl : l.length ≤ 4294967296) {k : Exit → List A → H → Option R} : ∀ (j i m : Nat) (hi : i + j = l.length) (hm : j < m),
  xg env (x2 env L n) L 0 [] (U2 (Z2 (U2 (Z8 (Z4 ([])))))) (xfh 0) (Z2 (U2 (Z2 (U8 (U4 ([])))))) m (.d (.ivs l.length (x15 l)) :: .d (.str v) :: Y2 (.d (.bool false) :: .d (.int .i64 ((i : Int))) :: Y8 (Y4 ([])))) [] k
  = match seek (x6u l v) j i with
   | none => k (.exit 0) (.d (.ivs l.length (x15 l)) :: .d (.str v) :: Y2 (.d (.bool false) :: .d (.int .i64 (l.length)) :: Y8 (Y4 ([])))) []
   | some q => k .ret (.d (.ivs l.length (x15 l)) :: .d (.str v) :: Y2 (.d (.bool true) :: .d (.int .i64 ((q : Int))) :: Y8 (Y4 ([])))) [] := by
 intro j
 induction j with
 | zero =>
  intro i m hi hm
  obtain _ | m := m; omega
  obtain rfl : i = l.length := by omega
  rw [xjk]
  simp only [xj0,Try.f27,SLM,simprocAttr]
  simp -implicitDefEqProofs (maxSteps := 2000000) (disch := first | assumption | exact ⟨by kernel_rfl⟩ | omega | (simp only [GT,LN] <;> omega) | fail) only [↓DN,↓kAsg,↓kRet,UP,simprocAttr,SE,Int.lt_irrefl]
  rfl
 | succ j ih =>
  intro i m hi hm
  obtain _ | m := m; omega
  have hc : (i : Int) < l.length := by omega
  have hk : i < l.length := by omega
  have hi0 : (0 : Int) ≤ i := by omega
  by_cases h1 : l.getD i [] = v
  ·have hb : x6u l v i = true := by unfold x6u; rw [decide_eq_true h1]
   rw [xam hb]
   clear ih
   rw [xjk]
   simp only [xj0,Try.f27,SLM,simprocAttr]
   simp -implicitDefEqProofs (maxSteps := 2000000) (disch := first | assumption | exact ⟨by kernel_rfl⟩ | omega | (simp only [GT,LN] <;> omega) | fail) only [↓DN,↓kAsg,↓kRet,UP,simprocAttr,SE,hc,hi0,h1,Int.toNat_natCast,beq_self_eq_true]
  ·have hb : x6u l v i = false := by unfold x6u; rw [decide_eq_false h1]
   rw [xcb hb]
   have ih' := ih (i + 1) m (by omega) (by omega)
   rw [show ((i + 1 : Nat) : Int) = (i : Int) + 1 by omega] at ih'
   have h2 : (l.getD i [] == v) = false := by simpa using h1
   clear ih
   rw [xjk]
   simp only [xj0,Try.f27,SLM,simprocAttr]
   simp -implicitDefEqProofs (maxSteps := 2000000) (disch := first | assumption | exact ⟨by kernel_rfl⟩ | omega | (simp only [GT,LN] <;> omega) | fail) only [↓DN,↓kAsg,↓kRet,UP,simprocAttr,SE,hc,hi0,h2,Int.toNat_natCast,↓ih']
theorem x12z {L n : Nat} (hn : 2 ≤ n) (l : List Str) (v : List UInt8) (hl : l.length ≤ 4294967296) (hL : 2 ^ 60 ≤ L) : x2 env L n 27 [.d (.ivs l.length (x15 l)),.d (.str v)] [] = some (.d (.bool (decide (v ∈ l))),[]) := by
 have loop_c := fun {R : Type} {n : Nat} {k : Exit → List A → H → Option R} (hn : 1 ≤ n) => @x1cx R L n hn l v hl k l.length 0 L (by omega) (by omega)
 rw [← x137]
 simp only [Int.natCast_zero] at loop_c
 cases hs : seek (x6u l v) l.length 0 with
 | none =>
  rw [hs] at loop_c
  simp only [Option.isSome_none]
  obtain _ | n := n; omega
  rw [x134]
  simp only [xwq,Try.f27,SLM,simprocAttr]
  simp -implicitDefEqProofs (maxSteps := 2000000) (disch := first | assumption | exact ⟨by kernel_rfl⟩ | omega | (simp only [GT,LN] <;> omega) | fail) only [↓DN,↓kAsg,↓kRet,UP,simprocAttr,SE,↓loop_c]
 | some q =>
  rw [hs] at loop_c
  simp only [Option.isSome_some]
  obtain _ | n := n; omega
  rw [x134]
  simp only [xwq,Try.f27,SLM,simprocAttr]
  simp -implicitDefEqProofs (maxSteps := 2000000) (disch := first | assumption | exact ⟨by kernel_rfl⟩ | omega | (simp only [GT,LN] <;> omega) | fail) only [↓DN,↓kAsg,↓kRet,UP,simprocAttr,SE,↓loop_c]
theorem xd0 {R : Type} {L n : Nat} {hq : H} {k : A → H → Option R} (hn : 2 ≤ n) (l : List Str) (v : List UInt8) (hl : l.length ≤ 4294967296) (hL : 2 ^ 60 ≤ L) : xe env (x2 env L n) hq 27 [.d (.ivs l.length (x15 l)),.d (.str v)] k = k (.d (.bool (decide (v ∈ l)))) hq :=
 xr rfl (x12z hn l v hl hL) rfl (.inl rfl)
theorem xdm {R : Type} {L n : Nat} {k : A → Option R} (hn : 2 ≤ n) (l : List Str) (v : List UInt8) (hl : l.length ≤ 4294967296) (hL : 2 ^ 60 ≤ L) : x14 (x2 env L n) 27 [.d (.ivs l.length (x15 l)),.d (.str v)] k = k (.d (.bool (decide (v ∈ l)))) :=
 x4l (x12z hn l v hl hL) rfl
theorem xb6 {R : Type} {L n : Nat} {hq : H} {k : A → H → Option R} {id0 g0 o0 len0 : Nat} {v : List UInt8} : xe env (x2 env L n) hq 27 [.sl id0 g0 o0 len0,.d (.str v)] k = match box (x2m hq [.sl id0 g0 o0 len0,.d (.str v)]) with
  | .mk (some fs) => x14 (x2 env L n) 27 fs fun r => k r hq
  | _ => none := xp xo6
theorem x1jt {h : H} {id g len : Nat} {cs : List D} {u : Int} (hi : h[id]? = some (.arr cs 1 g)) (h0 : 0 ≤ u) (h1 : u ≤ len) : x5w env.P h 40 (.sl id g 0 len) none (some u) = some (.sl id g 0 u.toNat) := by
 have hb : xeq len none (some u) = some (0,u.toNat) := by
  simp only [xeq,Option.getD_none,Option.getD_some]
  rw [if_pos ⟨by omega,by omega,by omega⟩]
  rfl
 simp only [x5w,x1ra,hi,x1v0,Nat.lt_add_one,true_and,or_true,Nat.zero_lt_one,if_true,hb,Option.map_some,Nat.zero_mul,Nat.add_zero,Nat.sub_zero]
theorem x1ot {o : O} {h : H} {g len : Nat} {cs : List D} {u : Int} (h0 : 0 ≤ u) (h1 : u ≤ len) : x5w env.P (o :: .arr cs 1 g :: h) 40 (.sl 1 g 0 len) none (some u) = some (.sl 1 g 0 u.toNat) := x1jt rfl h0 h1
theorem x1b0 {R : Type} {E : Env} {call : xq} {h h2 : H} {f : FuncId} {args : List A} {r : A} {k : A → H → Option R} (hs : args.all xjb = true) (hm : (E.hint f).mode = 3) (hc : call f args [] = some (r,h2)) (hcl : (xc5 r && h2.all x9i) = true) :
  xe E call h f args k = k (mapA (back [] h.length h2.length) r) (h ++ h2.map (mapO (back [] h.length h2.length))) := by
 have hcall : x36 call E.hint [] f args = some (mapA (back [] 0 h2.length) r,h2.map (mapO (back [] 0 h2.length))) := by
  unfold x36
  rw [hm]
  simp only [xht hs,hc,hcl,if_true,List.length_nil,List.nil_append]
 unfold xe
 rw [xll hs,xzx,x9y _ (xll hs)]
 have : pack h [] = [] := rfl
 rw [this,hcall]
 have hb : ∀ i,(back [] 0 h2.length i).bind (back [] h.length h2.length) = back [] h.length h2.length i := by
  intro i
  unfold back
  simp only [List.length_nil,Nat.not_lt_zero,if_false,Nat.sub_zero,Nat.zero_add]
  split
  ·rename_i hi; simp [hi]
  ·rfl
 simp only [List.length_nil,Nat.zero_le,true_and,closed,List.all_nil,Bool.and_self,if_true,x18,List.length_map]
 rw [x1fp hb,List.map_map]
 congr 2
 apply List.map_congr_left
 intro o _
 exact x1uk hb o
theorem x1lh {R : Type} {E : Env} {call : xq} {h : H} {f : FuncId} {args : List A} {l : List Str} {k : A → H → Option R} (hs : args.all xjb = true) (hm : (E.hint f).mode = 3) (hc : call f args [] = some (.sl 0 0 0 l.length,[.arr (x15 l) 1 0])) :
  xe E call h f args k = k (.sl h.length 0 0 l.length) (h ++ [.arr (x15 l) 1 0]) := by
 rw [x1b0 hs hm hc (by simp only [xc5,List.all_cons,List.all_nil,x1ar,Bool.and_self])]
 simp [mapA,back,mapO]
theorem x1gu {R : Type} {E : Env} {call : xq} {h : H} {f : FuncId} {args : List A} {k : A → H → Option R} (hs : args.all xjb = true) (hm : (E.hint f).mode = 3) (hc : call f args [] = some (.d (.ivs 0 []),[])) :
  xe E call h f args k = k (.d (.ivs 0 [])) h := by
 rw [x1b0 hs hm hc rfl]
 simp [mapA]
end Ev
end Go.Proofs.Ytppdfjdfjfoddaa
