/-
  A search that meets no goal, walked.
-/
import Derived.Test.YtojaohcpgelhmaaDoorPathW
import Derived.Test.YtojaohcpgelhmaaDoorSimL
import Derived.Test.YtojaohcpgelhmaaDoorFnExactAddEdge
import Derived.Test.YtojaohcpgelhmaaDoorAgS
import Derived.Test.YtojaohcpgelhmaaDoorSwapL
section
set_option linter.unusedSimpArgs false
set_option linter.unusedVariables false
set_option maxRecDepth 8000
set_option pp.maxSteps 6000
set_option maxHeartbeats 4000000
namespace Go.Proofs.YtojaohcpgelhmaaDoor
namespace Ev

theorem getD_app {α : Type} {l m : List α} {i : Nat} {d : α} (h : i < l.length) : (l ++ m).getD i d = l.getD i d := by
  rw [List.getD_eq_getElem?_getD, List.getD_eq_getElem?_getD, List.getElem?_append_left h]

theorem addP_get {st : List PStep} {p l : Int} {f : List Int} {i : Nat} (h : i < st.length) : (addP st p l f).getD i default = st.getD i default := by
  unfold addP
  split
  · rfl
  · exact getD_app h

theorem flat_len {nx : Int → Int → List Int} {c : Int} (hw : ∀ x c, (nx x c).length ≤ 64) : ∀ ns : List Int, (ns.flatMap fun x => nx x c).length ≤ 64 * ns.length
  | [] => by simp
  | x :: ns => by simp only [List.flatMap_cons, List.length_append, List.length_cons]; have := hw x c; have := flat_len (c := c) hw ns; omega

/-- All steps, from one on. -/
def outF (nx : Int → Int → List Int) (ls : List Int) : Nat → Nat → List Bool × List PStep → List Bool × List PStep
  | 0, _, q => q
  | j + 1, i, q => if i < q.2.length then outF nx ls j (i + 1) (ltF nx (q.2.getD i default).ns i ls q) else q

/-- A call by reference that reaches one slice of data and hands it back. -/
theorem kCall_refS {R : Type} {E : Env} {call : CallF} {h : H} {f : FuncId} {args : List A} {len : Nat} {k : A → H → Option R} {id e g e2 g2 : Nat} {cs cs2 : List D} (hi : h[id]? = some (.arr cs e g)) (hid : idsL args = [id]) (hm : (E.hint f).mode = 0) (he : call f (mapAs (place [id]) args) [.arr cs e g] = some (.sl 0 g2 0 len, [.arr cs2 e2 g2])) :
    kCall E call h f args k = k (.sl id g2 0 len) (h.set id (.arr cs2 e2 g2)) := by
  have hre : reach fuelR h [id] [] = [id] := by
    have e1 : reach fuelR h [id] [] = match h[id]? with
      | some (.box cs) => reach (fuelR - 1) h ([] ++ idsL cs) ([] ++ [id])
      | some (.vec cs _ _) => reach (fuelR - 1) h ([] ++ idsL cs) ([] ++ [id])
      | some .void => reach (fuelR - 1) h [] []
      | some _ => reach (fuelR - 1) h [] ([] ++ [id])
      | none => reach (fuelR - 1) h [] [] := rfl
    rw [e1, hi]; rfl
  have hpk : pack h [id] = [.arr cs e g] := by
    simp only [pack, List.map_cons, List.map_nil, List.getD_eq_getElem?_getD, hi]; rfl
  unfold kCall
  rw [hid, hre, hpk]
  have hc : aCall call E.hint [.arr cs e g] f (mapAs (place [id]) args) = some (.sl 0 g2 0 len, [.arr cs2 e2 g2]) := by
    unfold aCall; rw [hm]; exact he
  rw [hc]
  have hcl : closed h [id] [id] = true := by
    simp only [closed, List.all_cons, List.all_nil, hi]; simp
  have hb : back [id] h.length 1 0 = some id := rfl
  simp only [List.length_cons, List.length_nil, Nat.le_refl, hcl, and_self, if_true, mapA, Nat.zero_add, hb]
  simp only [putBack, mapO, List.map_nil, List.append_nil]

theorem loop_pathC {R : Type} {L n : Nat} (hn : 4 ≤ n) (hL : 2 ^ 60 ≤ L) {I : Int → Prop} {nf : FuncId} {caps : List D} {gb : D} {size : Nat} {nx : Int → Int → List Int} {ls ns : List Int} {sc : List D} {seen : List Bool} {sn ii q : Nat} {c : Int}
    (kc_n : ∀ {R : Type} {n id : Nat} {hq : H} {k : A → H → Option R} (x c : Int) (o : List Int), 4 ≤ n → I x → 0 ≤ c → c < 6 → o.length ≤ 2147483648 → hq[id]? = some (.arr (ints o) 1 0) → kCall env (evCall env L n) hq nf (.d (.int .i64 x) :: .d (.int .i64 c) :: .sl id 0 0 o.length :: caps.map A.d) k = k (.sl id (nx x c).length 0 (o ++ nx x c).length) (hq.set id (.arr (ints (o ++ nx x c)) 1 (nx x c).length)))
    (hI : ∀ x ∈ ns, I x) (hw : ∀ x c, (nx x c).length ≤ 64) (hc0 : 0 ≤ c) (hc6 : c < 6) (hnl : ns.length ≤ 16777216) {k : Exit → List A → H → Option R} : ∀ (j i m : Nat) (o : List Int) (len : Nat) (hi : i + j = ns.length) (hm : j < m) (ho : o.length ≤ 64 * i) (hlen : len = o.length),
    kLoop env (evCall env L n) L 0 [0, 0, 0, 0, 0, 0, 0, 0, 0, 0, 0, 0, 0, 0, 0, 0, 0, 0, 2] (false :: false :: true :: true :: false :: false :: false :: false :: false :: false :: true :: true :: false :: true :: true :: true :: false :: true :: true :: false :: false :: false :: false :: false :: false :: false :: false :: false :: false :: false :: false :: false :: false :: true :: true :: true :: false :: false :: false :: false :: false :: false :: false :: true :: true :: true :: false :: false :: false :: false :: false :: false :: false :: false :: false :: false :: false :: false :: false :: false :: false :: false :: false :: []) (lp_i_firstPath 2) (true :: true :: false :: false :: true :: true :: true :: true :: true :: true :: false :: false :: true :: false :: false :: false :: true :: false :: false :: true :: true :: true :: true :: true :: true :: true :: true :: true :: true :: true :: true :: true :: true :: false :: false :: false :: true :: true :: true :: true :: true :: true :: true :: false :: false :: false :: true :: true :: true :: true :: true :: true :: true :: true :: true :: true :: true :: true :: true :: true :: true :: true :: true :: []) m (.junk :: .junk :: .d (.ivs ls.length (ints ls)) :: .d (.fn nf caps) :: .junk :: .junk :: .junk :: .junk :: .junk :: .junk :: .d (.str []) :: .d (.bool false) :: .junk :: .ptr 0 0 0 :: .clo 96 [.ptr 1 0 0, .ptr 2 0 0, .ptr 0 0 0] :: .d (.int .i64 ((ii : Int))) :: .junk :: .d (.int .i64 c) :: .sl 3 0 0 len :: .junk :: .junk :: .junk :: .junk :: .junk :: .junk :: .junk :: .junk :: .junk :: .junk :: .junk :: .junk :: .junk :: .junk :: .d (.ivs ls.length (ints ls)) :: .d (.int .i64 (ls.length)) :: .d (.int .i64 ((q : Int))) :: .junk :: .junk :: .junk :: .junk :: .junk :: .junk :: .junk :: .d (.ivs ns.length (ints ns)) :: .d (.int .i64 (ns.length)) :: .d (.int .i64 ((i : Int))) :: .junk :: .junk :: .junk :: .junk :: .junk :: .junk :: .junk :: .junk :: .junk :: .junk :: .junk :: .junk :: .junk :: .junk :: .junk :: .junk :: .junk :: []) [.box [.sl 4 0 0 sn], .box [.sl 5 0 0 size], .box [.d gb], .arr (ints o) 1 0, .arr sc 3 0, .arr (boolC seen) 1 0] k
    = k (.exit 4) (.junk :: .junk :: .d (.ivs ls.length (ints ls)) :: .d (.fn nf caps) :: .junk :: .junk :: .junk :: .junk :: .junk :: .junk :: .d (.str []) :: .d (.bool false) :: .junk :: .ptr 0 0 0 :: .clo 96 [.ptr 1 0 0, .ptr 2 0 0, .ptr 0 0 0] :: .d (.int .i64 ((ii : Int))) :: .junk :: .d (.int .i64 c) :: .sl 3 0 0 (o ++ (ns.drop i).flatMap fun x => nx x c).length :: .junk :: .junk :: .junk :: .junk :: .junk :: .junk :: .junk :: .junk :: .junk :: .junk :: .junk :: .junk :: .junk :: .junk :: .d (.ivs ls.length (ints ls)) :: .d (.int .i64 (ls.length)) :: .d (.int .i64 ((q : Int))) :: .junk :: .junk :: .junk :: .junk :: .junk :: .junk :: .junk :: .d (.ivs ns.length (ints ns)) :: .d (.int .i64 (ns.length)) :: .d (.int .i64 (ns.length)) :: .junk :: .junk :: .junk :: .junk :: .junk :: .junk :: .junk :: .junk :: .junk :: .junk :: .junk :: .junk :: .junk :: .junk :: .junk :: .junk :: .junk :: []) [.box [.sl 4 0 0 sn], .box [.sl 5 0 0 size], .box [.d gb], .arr (ints (o ++ (ns.drop i).flatMap fun x => nx x c)) 1 0, .arr sc 3 0, .arr (boolC seen) 1 0] := by
  intro j
  induction j with
  | zero =>
    intro i m o len hi hm ho hlen
    obtain ⟨m, rfl⟩ : ∃ q, m = q + 1 := ⟨m - 1, by omega⟩
    obtain rfl : i = ns.length := by omega
    subst hlen
    rw [step_i_firstPath_2]
    simp only [S_i_firstPath_2, Tryd.f75, SLM, simprocAttr]
    simp -implicitDefEqProofs (maxSteps := 2000000) (disch := first | assumption | (refine Shut.mk ?_; kernel_rfl) | omega | (simp only [GT]; done) | (simp only [LN] <;> omega) | fail) only [↓WD, ↓kAsg, ↓kRet, ↓clash_free, ↓WDD, ↓kOpD_callv, WK, UN, TY, LB, MD, i64_id, simprocAttr, ↓CV, PE, Int.lt_irrefl]
    simp only [List.drop_length, List.flatMap_nil, List.append_nil, List.length_nil, Nat.add_zero]
  | succ j ih =>
    intro i m o len hi hm ho hlen
    obtain ⟨m, rfl⟩ : ∃ q, m = q + 1 := ⟨m - 1, by omega⟩
    subst hlen
    have hc : (i : Int) < ns.length := by omega
    have hk : i < ns.length := by omega
    have hmem : ns.getD i 0 ∈ ns := by rw [List.getD_eq_getElem?_getD, List.getElem?_eq_getElem hk]; exact List.getElem_mem hk
    have hIx := hI _ hmem
    have hww := hw (ns.getD i 0) c
    have hob : o.length ≤ 2147483648 := by omega
    have e4 : ((i + 1 : Nat) : Int) = (i : Int) + 1 := by omega
    have ih' := ih (i + 1) m (o ++ nx (ns.getD i 0) c) (o.length + (nx (ns.getD i 0) c).length) (by omega) (by omega) (by rw [List.length_append]; omega) (by rw [List.length_append])
    rw [e4] at ih'
    rw [drop_go hk (d := 0)]
    simp only [List.flatMap_cons, ← List.append_assoc]
    have kc_m := fun {R : Type} {n id : Nat} {hq : H} {k : A → H → Option R} (h4 : 4 ≤ n) (hg : hq[id]? = some (.arr (ints o) 1 0)) => @kc_n R n id hq k (ns.getD i 0) c o h4 hIx hc0 hc6 hob hg
    clear ih hmem kc_n
    generalize nx (ns.getD i 0) c = w at *
    rw [step_i_firstPath_2]
    simp only [S_i_firstPath_2, Tryd.f75, SLM, simprocAttr]
    simp -implicitDefEqProofs (maxSteps := 2000000) (disch := first | assumption | (refine Shut.mk ?_; kernel_rfl) | omega | (simp only [GT]; done) | (simp only [LN] <;> omega) | fail) only [↓WD, ↓kAsg, ↓kRet, ↓clash_free, ↓WDD, ↓kOpD_callv, WK, UN, TY, LB, MD, i64_id, simprocAttr, ↓CV, PE, hc, Int.toNat_natCast, ↓kc_m, ↓ih', List.length_append]

theorem visF_grow : ∀ (ns : List Int) (s : List Bool) (f : List Int), f.length ≤ (visF ns s f).2.length
  | [], s, f => Nat.le_refl _
  | n :: ns, s, f => by
    unfold visF
    split
    · exact visF_grow ns s f
    · have := visF_grow ns (s.set n.toNat true) (f ++ [n])
      simp only [List.length_append, List.length_cons, List.length_nil] at this
      omega

theorem visF_new {ns : List Int} {size : Nat} (h : ns ≠ []) : 0 < (visF ns (List.replicate size false) []).2.length := by
  cases ns with
  | nil => exact absurd rfl h
  | cons n ns =>
    have e : (List.replicate size false).getD n.toNat false = false := by
      rw [List.getD_eq_getElem?_getD, List.getElem?_replicate]
      split <;> rfl
    unfold visF
    rw [e]
    have := visF_grow ns ((List.replicate size false).set n.toNat true) ([] ++ [n])
    simp only [List.length_append, List.length_cons, List.length_nil] at this
    simp only [Bool.false_eq_true, if_false]
    omega

theorem kc_visA {R : Type} {L n : Nat} {k : A → H → Option R} (hn : 4 ≤ n) (hL : 2 ^ 60 ≤ L) {I : Int → Prop} {gf : FuncId} {caps : List D} {size : Nat} {p l : Int} {ns : List Int} (kc_g : ∀ {R : Type} {n : Nat} {hq : H} {k : A → H → Option R} (x : Int), 2 ≤ n → I x → kCall env (evCall env L n) hq gf (.d (.int .i64 x) :: caps.map A.d) k = k (.d (.bool false)) hq) (hI : ∀ x ∈ ns, I x) (hr : ∀ x, I x → 0 ≤ x ∧ x < size) (hsz : size ≤ 4294967290) (hnl : ns.length ≤ 4294967290) (hne : ns ≠ []) :
    kCallC env (evCall env L n) [.box [.d (.fn gf caps)], .arr (boolC (List.replicate size false)) 1 0, .arr [] 0 0, .box [.sl 1 0 0 size], .arr [] 0 0, .box [.sl 4 0 0 0]] 96 [.ptr 3 0 0, .ptr 0 0 0, .ptr 5 0 0] [.d (.int .i64 p), .d (.int .i64 l), .d (.ivs ns.length (ints ns))] k
    = k (.d (.bool false)) [.box [.d (.fn gf caps)], .arr (boolC (visF ns (List.replicate size false) []).1) 1 0, .arr [] 0 0, .box [.sl 1 0 0 size], .arr (stepsD [⟨p, l, (visF ns (List.replicate size false) []).2⟩]) 3 1, .box [.sl 4 1 0 1]] := by
  have he := ev_visA (p := p) (l := l) hn hL (fun {R n hq k} => kc_g) hI hr hsz hnl (List.replicate size false) (by simp) _ rfl (by have := visF_new (size := size) hne; omega)
  unfold kCallC
  generalize List.replicate size false = sz at *
  generalize hh : [O.box [.d (.fn gf caps)], .arr (boolC sz) 1 0, .arr [] 0 0, .box [.sl 1 0 0 size], .arr [] 0 0, .box [.sl 4 0 0 0]] = h
  have hre : reach fuelR h (idsL [A.ptr 3 0 0, .ptr 0 0 0, .ptr 5 0 0] ++ idsL [A.d (.int .i64 p), .d (.int .i64 l), .d (.ivs ns.length (ints ns))]) [] = [3, 0, 5, 1, 4] := by subst hh; rfl
  have hpk : pack h [3, 0, 5, 1, 4] = [.box [.sl 3 0 0 size], .box [.d (.fn gf caps)], .box [.sl 4 0 0 0], .arr (boolC sz) 1 0, .arr [] 0 0] := by subst hh; rfl
  have hma : mapAs (place [3, 0, 5, 1, 4]) [A.d (.int .i64 p), .d (.int .i64 l), .d (.ivs ns.length (ints ns))] ++ mapAs (place [3, 0, 5, 1, 4]) [A.ptr 3 0 0, .ptr 0 0 0, .ptr 5 0 0] = [.d (.int .i64 p), .d (.int .i64 l), .d (.ivs ns.length (ints ns)), .ptr 0 0 0, .ptr 1 0 0, .ptr 2 0 0] := rfl
  have hca : ∀ h f args, aCall (evCall env L n) env.hint h f args = if (env.hint f).mode = 0 then evCall env L n f args h else aCall (evCall env L n) env.hint h f args := by
    intro h f args
    split
    · rename_i hm
      unfold aCall; rw [hm]; rfl
    · rfl
  rw [hre, hpk, hma, hca, if_pos mode_i_firstPath_c1, he]
  have hcl : closed h [3, 0, 5, 1, 4] (idsL [A.ptr 3 0 0, .ptr 0 0 0, .ptr 5 0 0] ++ idsL [A.d (.int .i64 p), .d (.int .i64 l), .d (.ivs ns.length (ints ns))]) = true := by subst hh; rfl
  subst hh
  simp only [hcl, List.length_cons, List.length_nil, Nat.le_refl, and_self, if_true]
  rfl

/-- The age of the steps after a visit. -/
def gV (r : List Bool × List Int) : Nat := if r.2 = [] then 0 else 1

theorem kc_visB {R : Type} {L n : Nat} {k : A → H → Option R} (hn : 4 ≤ n) (hL : 2 ^ 60 ≤ L) {I : Int → Prop} {gf : FuncId} {caps : List D} {size : Nat} {p l : Int} {ns : List Int} (kc_g : ∀ {R : Type} {n : Nat} {hq : H} {k : A → H → Option R} (x : Int), 2 ≤ n → I x → kCall env (evCall env L n) hq gf (.d (.int .i64 x) :: caps.map A.d) k = k (.d (.bool false)) hq) (hI : ∀ x ∈ ns, I x) (hr : ∀ x, I x → 0 ≤ x ∧ x < size) (hsz : size ≤ 4294967290) (hnl : ns.length ≤ 4294967290) (seen : List Bool) (hs : seen.length = size) (st : List PStep) (hst : st.length ≤ 4294967290) :
    kCallC env (evCall env L n) [.box [.sl 4 0 0 st.length], .box [.sl 5 0 0 size], .box [.d (.fn gf caps)], .arr (ints ns) 1 0, .arr (stepsD st) 3 0, .arr (boolC seen) 1 0] 96 [.ptr 1 0 0, .ptr 2 0 0, .ptr 0 0 0] [.d (.int .i64 p), .d (.int .i64 l), .sl 3 0 0 ns.length] k
    = k (.d (.bool false)) [.box [.sl 4 (gV (visF ns seen [])) 0 (addP st p l (visF ns seen []).2).length], .box [.sl 5 0 0 size], .box [.d (.fn gf caps)], .arr (ints ns) 1 0, .arr (stepsD (addP st p l (visF ns seen []).2)) 3 (gV (visF ns seen [])), .arr (boolC (visF ns seen []).1) 1 0] := by
  have he := ev_visB (p := p) (l := l) hn hL (fun {R n hq k} => kc_g) hI hr hsz hnl seen hs st hst _ rfl
  unfold kCallC
  generalize hh : [O.box [.sl 4 0 0 st.length], .box [.sl 5 0 0 size], .box [.d (.fn gf caps)], .arr (ints ns) 1 0, .arr (stepsD st) 3 0, .arr (boolC seen) 1 0] = h
  have hre : reach fuelR h (idsL [A.ptr 1 0 0, .ptr 2 0 0, .ptr 0 0 0] ++ idsL [A.d (.int .i64 p), .d (.int .i64 l), .sl 3 0 0 ns.length]) [] = [1, 2, 0, 3, 5, 4] := by subst hh; rfl
  have hpk : pack h [1, 2, 0, 3, 5, 4] = [.box [.sl 4 0 0 size], .box [.d (.fn gf caps)], .box [.sl 5 0 0 st.length], .arr (ints ns) 1 0, .arr (boolC seen) 1 0, .arr (stepsD st) 3 0] := by subst hh; rfl
  have hma : mapAs (place [1, 2, 0, 3, 5, 4]) [A.d (.int .i64 p), .d (.int .i64 l), .sl 3 0 0 ns.length] ++ mapAs (place [1, 2, 0, 3, 5, 4]) [A.ptr 1 0 0, .ptr 2 0 0, .ptr 0 0 0] = [.d (.int .i64 p), .d (.int .i64 l), .sl 3 0 0 ns.length, .ptr 0 0 0, .ptr 1 0 0, .ptr 2 0 0] := rfl
  have hca : ∀ h f args, aCall (evCall env L n) env.hint h f args = if (env.hint f).mode = 0 then evCall env L n f args h else aCall (evCall env L n) env.hint h f args := by
    intro h f args
    split
    · rename_i hm
      unfold aCall; rw [hm]; rfl
    · rfl
  rw [hre, hpk, hma, hca, if_pos mode_i_firstPath_c1, he]
  have hcl : closed h [1, 2, 0, 3, 5, 4] (idsL [A.ptr 1 0 0, .ptr 2 0 0, .ptr 0 0 0] ++ idsL [A.d (.int .i64 p), .d (.int .i64 l), .sl 3 0 0 ns.length]) = true := by subst hh; rfl
  subst hh
  simp only [hcl, List.length_cons, List.length_nil, Nat.le_refl, and_self, if_true]
  rfl

theorem loop_pathB {R : Type} {L n : Nat} (hn : 5 ≤ n) (hL : 2 ^ 60 ≤ L) {I : Int → Prop} {nf gf : FuncId} {caps gcaps : List D} {size : Nat} {nx : Int → Int → List Int} {ls ns : List Int} {ii : Nat}
    (kc_n : ∀ {R : Type} {n id : Nat} {hq : H} {k : A → H → Option R} (x c : Int) (o : List Int), 4 ≤ n → I x → 0 ≤ c → c < 6 → o.length ≤ 2147483648 → hq[id]? = some (.arr (ints o) 1 0) → kCall env (evCall env L n) hq nf (.d (.int .i64 x) :: .d (.int .i64 c) :: .sl id 0 0 o.length :: caps.map A.d) k = k (.sl id (nx x c).length 0 (o ++ nx x c).length) (hq.set id (.arr (ints (o ++ nx x c)) 1 (nx x c).length)))
    (kc_g : ∀ {R : Type} {n : Nat} {hq : H} {k : A → H → Option R} (x : Int), 2 ≤ n → I x → kCall env (evCall env L n) hq gf (.d (.int .i64 x) :: gcaps.map A.d) k = k (.d (.bool false)) hq)
    (hr : ∀ x, I x → 0 ≤ x ∧ x < size) (hsz : size ≤ 16777216) (hI : ∀ x ∈ ns, I x) (hx : ∀ x c, I x → 0 ≤ c → c < 6 → ∀ y ∈ nx x c, I y) (hw : ∀ x c, (nx x c).length ≤ 64) (hls : ∀ c ∈ ls, 0 ≤ c ∧ c ≤ 5) (hll : ls.length ≤ 6) (hnl : ns.length ≤ size) {k : Exit → List A → H → Option R} : ∀ (j q m : Nat) (seen : List Bool) (st : List PStep) (sn : Nat) (hi : q + j = ls.length) (hm : j < m) (hg : PGood I size seen st) (hii : ii < st.length) (hns : (st.getD ii default).ns = ns) (hsn : sn = st.length),
    kLoop env (evCall env L n) L 0 [0, 0, 0, 0, 0, 0, 0, 0, 0, 0, 0, 0, 0, 0, 0, 0, 0, 0, 2] (false :: false :: true :: true :: false :: false :: false :: false :: false :: false :: true :: true :: false :: true :: true :: true :: false :: true :: true :: false :: false :: false :: false :: false :: false :: false :: false :: false :: false :: false :: false :: false :: false :: true :: true :: true :: false :: false :: false :: false :: false :: false :: false :: true :: true :: true :: false :: false :: false :: false :: false :: false :: false :: false :: false :: false :: false :: false :: false :: false :: false :: false :: false :: []) (lp_i_firstPath 1) (true :: true :: false :: false :: true :: true :: true :: true :: true :: true :: false :: false :: true :: false :: false :: false :: true :: true :: true :: true :: true :: true :: true :: true :: true :: true :: true :: true :: true :: true :: true :: true :: true :: false :: false :: false :: true :: true :: true :: true :: true :: true :: true :: true :: true :: true :: true :: true :: true :: true :: true :: true :: true :: true :: true :: true :: true :: true :: true :: true :: true :: true :: true :: []) m (.junk :: .junk :: .d (.ivs ls.length (ints ls)) :: .d (.fn nf caps) :: .junk :: .junk :: .junk :: .junk :: .junk :: .junk :: .d (.str []) :: .d (.bool false) :: .junk :: .ptr 0 0 0 :: .clo 96 [.ptr 1 0 0, .ptr 2 0 0, .ptr 0 0 0] :: .d (.int .i64 ((ii : Int))) :: .junk :: .junk :: .junk :: .junk :: .junk :: .junk :: .junk :: .junk :: .junk :: .junk :: .junk :: .junk :: .junk :: .junk :: .junk :: .junk :: .junk :: .d (.ivs ls.length (ints ls)) :: .d (.int .i64 (ls.length)) :: .d (.int .i64 ((q : Int))) :: .junk :: .junk :: .junk :: .junk :: .junk :: .junk :: .junk :: .junk :: .junk :: .junk :: .junk :: .junk :: .junk :: .junk :: .junk :: .junk :: .junk :: .junk :: .junk :: .junk :: .junk :: .junk :: .junk :: .junk :: .junk :: .junk :: .junk :: []) [.box [.sl 3 0 0 sn], .box [.sl 4 0 0 size], .box [.d (.fn gf gcaps)], .arr (stepsD st) 3 0, .arr (boolC seen) 1 0] k
    = k (.exit 2) (.junk :: .junk :: .d (.ivs ls.length (ints ls)) :: .d (.fn nf caps) :: .junk :: .junk :: .junk :: .junk :: .junk :: .junk :: .d (.str []) :: .d (.bool false) :: .junk :: .ptr 0 0 0 :: .clo 96 [.ptr 1 0 0, .ptr 2 0 0, .ptr 0 0 0] :: .d (.int .i64 ((ii : Int))) :: .junk :: .junk :: .junk :: .junk :: .junk :: .junk :: .junk :: .junk :: .junk :: .junk :: .junk :: .junk :: .junk :: .junk :: .junk :: .junk :: .junk :: .d (.ivs ls.length (ints ls)) :: .d (.int .i64 (ls.length)) :: .d (.int .i64 (ls.length)) :: .junk :: .junk :: .junk :: .junk :: .junk :: .junk :: .junk :: .junk :: .junk :: .junk :: .junk :: .junk :: .junk :: .junk :: .junk :: .junk :: .junk :: .junk :: .junk :: .junk :: .junk :: .junk :: .junk :: .junk :: .junk :: .junk :: .junk :: []) [.box [.sl 3 0 0 (ltF nx ns ii (ls.drop q) (seen, st)).2.length], .box [.sl 4 0 0 size], .box [.d (.fn gf gcaps)], .arr (stepsD (ltF nx ns ii (ls.drop q) (seen, st)).2) 3 0, .arr (boolC (ltF nx ns ii (ls.drop q) (seen, st)).1) 1 0] := by
  intro j
  induction j with
  | zero =>
    intro q m seen st sn hi hm hg hii hns hsn
    obtain ⟨m, rfl⟩ : ∃ q, m = q + 1 := ⟨m - 1, by omega⟩
    obtain rfl : q = ls.length := by omega
    subst hsn
    rw [step_i_firstPath_1]
    simp only [S_i_firstPath_1, Tryd.f75, SLM, simprocAttr]
    simp -implicitDefEqProofs (maxSteps := 2000000) (disch := first | assumption | (refine Shut.mk ?_; kernel_rfl) | omega | (simp only [GT]; done) | (simp only [LN] <;> omega) | fail) only [↓WD, ↓kAsg, ↓kRet, ↓clash_free, ↓WDD, ↓kOpD_callv, WK, UN, TY, LB, MD, i64_id, simprocAttr, ↓CV, PE, Int.lt_irrefl]
    simp only [List.drop_length, ltF]
  | succ j ih =>
    intro q m seen st sn hi hm hg hii hns hsn
    obtain ⟨m, rfl⟩ : ∃ q, m = q + 1 := ⟨m - 1, by omega⟩
    subst hsn
    have hc : (q : Int) < ls.length := by omega
    have hk : q < ls.length := by omega
    have hmem : ls.getD q 0 ∈ ls := by rw [List.getD_eq_getElem?_getD, List.getElem?_eq_getElem hk]; exact List.getElem_mem hk
    obtain ⟨c0, c5⟩ := hls _ hmem
    have c6 : ls.getD q 0 < 6 := by omega
    have hiI : (ii : Int) < st.length := by omega
    have hroom := hg.room
    have hstl : st.length ≤ 4294967290 := by omega
    rw [drop_go hk (d := 0)]
    have hI2 : ∀ y ∈ ns.flatMap fun x => nx x (ls.getD q 0), I y := by
      intro y hy
      obtain ⟨x, h1, h2⟩ := List.mem_flatMap.1 hy
      exact hx x (ls.getD q 0) (hI x h1) c0 c6 y h2
    have hfl := flat_len (c := ls.getD q 0) hw ns
    have hfl2 : (ns.flatMap fun x => nx x (ls.getD q 0)).length ≤ 4294967290 := by omega
    obtain ⟨g1, g2, g3⟩ := good_visit hg hI2 hr (ii : Int) (ls.getD q 0)
    have ih' := ih (q + 1) m (visF (ns.flatMap fun x => nx x (ls.getD q 0)) seen []).1 (addP st ii (ls.getD q 0) (visF (ns.flatMap fun x => nx x (ls.getD q 0)) seen []).2) _ (by omega) (by omega) g1 (by omega) (by rw [addP_get hii]; exact hns) rfl
    have e4 : ((q + 1 : Nat) : Int) = (q : Int) + 1 := by omega
    rw [e4] at ih'
    have loop_c := fun {R : Type} {n : Nat} (hn : 4 ≤ n) {k : Exit → List A → H → Option R} => @loop_pathC R L n hn hL I nf caps (.fn gf gcaps) size nx ls ns (stepsD st) seen st.length ii q (ls.getD q 0) (fun {R n id hq k} => kc_n) hI hw c0 c6 (by omega) k ns.length 0 L [] 0 (by omega) (by omega) (by simp) rfl
    simp only [List.drop_zero, List.nil_append, ints_nil, Int.natCast_zero] at loop_c
    have kc_v := fun {R : Type} {n : Nat} {k : A → H → Option R} (hn : 4 ≤ n) => @kc_visB R L n k hn hL I gf gcaps size (ii : Int) (ls.getD q 0) (ns.flatMap fun x => nx x (ls.getD q 0)) (fun {R n hq k} => kc_g) hI2 hr (by omega) hfl2 seen hg.len st hstl
    simp only [ltF]
    clear ih hmem g1 g2 g3 hg hI hI2 hx hw hls hr kc_n kc_g
    generalize ns.flatMap (fun x => nx x (ls.getD q 0)) = fm at *
    rw [step_i_firstPath_1]
    simp only [S_i_firstPath_1, Tryd.f75, SLM, simprocAttr]
    simp -implicitDefEqProofs (maxSteps := 2000000) (disch := first | assumption | (refine Shut.mk ?_; kernel_rfl) | omega | (simp only [GT]; done) | (simp only [LN] <;> omega) | fail) only [↓WD, ↓kAsg, ↓kRet, ↓clash_free, ↓WDD, ↓kOpD_callv, WK, UN, TY, LB, MD, i64_id, simprocAttr, ↓CV, PE, hc, hiI, hns, Int.toNat_natCast, ↓loop_c, ↓kc_v, ↓ih']

theorem loop_pathA {R : Type} {L n : Nat} (hn : 6 ≤ n) (hL : 2 ^ 60 ≤ L) {I : Int → Prop} {nf gf : FuncId} {caps gcaps : List D} {size : Nat} {nx : Int → Int → List Int} {ls : List Int}
    (kc_n : ∀ {R : Type} {n id : Nat} {hq : H} {k : A → H → Option R} (x c : Int) (o : List Int), 4 ≤ n → I x → 0 ≤ c → c < 6 → o.length ≤ 2147483648 → hq[id]? = some (.arr (ints o) 1 0) → kCall env (evCall env L n) hq nf (.d (.int .i64 x) :: .d (.int .i64 c) :: .sl id 0 0 o.length :: caps.map A.d) k = k (.sl id (nx x c).length 0 (o ++ nx x c).length) (hq.set id (.arr (ints (o ++ nx x c)) 1 (nx x c).length)))
    (kc_g : ∀ {R : Type} {n : Nat} {hq : H} {k : A → H → Option R} (x : Int), 2 ≤ n → I x → kCall env (evCall env L n) hq gf (.d (.int .i64 x) :: gcaps.map A.d) k = k (.d (.bool false)) hq)
    (hr : ∀ x, I x → 0 ≤ x ∧ x < size) (hsz : size ≤ 16777216) (hx : ∀ x c, I x → 0 ≤ c → c < 6 → ∀ y ∈ nx x c, I y) (hw : ∀ x c, (nx x c).length ≤ 64) (hls : ∀ c ∈ ls, 0 ≤ c ∧ c ≤ 5) (hll : ls.length ≤ 6) {k : Exit → List A → H → Option R} : ∀ (j i m : Nat) (seen : List Bool) (st : List PStep) (sn : Nat) (hi : st.length + unseen seen ≤ i + j) (hi2 : i ≤ st.length) (hm : j < m) (hg : PGood I size seen st) (hsn : sn = st.length),
    kLoop env (evCall env L n) L 0 [0, 0, 0, 0, 0, 0, 0, 0, 0, 0, 0, 0, 0, 0, 0, 0, 0, 0, 2] (false :: false :: true :: true :: false :: false :: false :: false :: false :: false :: true :: true :: false :: true :: true :: true :: false :: true :: true :: false :: false :: false :: false :: false :: false :: false :: false :: false :: false :: false :: false :: false :: false :: true :: true :: true :: false :: false :: false :: false :: false :: false :: false :: true :: true :: true :: false :: false :: false :: false :: false :: false :: false :: false :: false :: false :: false :: false :: false :: false :: false :: false :: false :: []) (lp_i_firstPath 0) (true :: true :: false :: false :: true :: true :: true :: true :: true :: true :: false :: false :: true :: false :: false :: false :: true :: true :: true :: true :: true :: true :: true :: true :: true :: true :: true :: true :: true :: true :: true :: true :: true :: true :: true :: true :: true :: true :: true :: true :: true :: true :: true :: true :: true :: true :: true :: true :: true :: true :: true :: true :: true :: true :: true :: true :: true :: true :: true :: true :: true :: true :: true :: []) m (.junk :: .junk :: .d (.ivs ls.length (ints ls)) :: .d (.fn nf caps) :: .junk :: .junk :: .junk :: .junk :: .junk :: .junk :: .d (.str []) :: .d (.bool false) :: .junk :: .ptr 0 0 0 :: .clo 96 [.ptr 1 0 0, .ptr 2 0 0, .ptr 0 0 0] :: .d (.int .i64 ((i : Int))) :: .junk :: .junk :: .junk :: .junk :: .junk :: .junk :: .junk :: .junk :: .junk :: .junk :: .junk :: .junk :: .junk :: .junk :: .junk :: .junk :: .junk :: .junk :: .junk :: .junk :: .junk :: .junk :: .junk :: .junk :: .junk :: .junk :: .junk :: .junk :: .junk :: .junk :: .junk :: .junk :: .junk :: .junk :: .junk :: .junk :: .junk :: .junk :: .junk :: .junk :: .junk :: .junk :: .junk :: .junk :: .junk :: .junk :: .junk :: []) [.box [.sl 3 0 0 sn], .box [.sl 4 0 0 size], .box [.d (.fn gf gcaps)], .arr (stepsD st) 3 0, .arr (boolC seen) 1 0] k
    = k (.exit 0) (.junk :: .junk :: .d (.ivs ls.length (ints ls)) :: .d (.fn nf caps) :: .junk :: .junk :: .junk :: .junk :: .junk :: .junk :: .d (.str []) :: .d (.bool false) :: .junk :: .ptr 0 0 0 :: .clo 96 [.ptr 1 0 0, .ptr 2 0 0, .ptr 0 0 0] :: .d (.int .i64 (((outF nx ls j i (seen, st)).2.length : Int))) :: .junk :: .junk :: .junk :: .junk :: .junk :: .junk :: .junk :: .junk :: .junk :: .junk :: .junk :: .junk :: .junk :: .junk :: .junk :: .junk :: .junk :: .junk :: .junk :: .junk :: .junk :: .junk :: .junk :: .junk :: .junk :: .junk :: .junk :: .junk :: .junk :: .junk :: .junk :: .junk :: .junk :: .junk :: .junk :: .junk :: .junk :: .junk :: .junk :: .junk :: .junk :: .junk :: .junk :: .junk :: .junk :: .junk :: .junk :: []) [.box [.sl 3 0 0 (outF nx ls j i (seen, st)).2.length], .box [.sl 4 0 0 size], .box [.d (.fn gf gcaps)], .arr (stepsD (outF nx ls j i (seen, st)).2) 3 0, .arr (boolC (outF nx ls j i (seen, st)).1) 1 0] := by
  intro j
  induction j with
  | zero =>
    intro i m seen st sn hi hi2 hm hg hsn
    obtain ⟨m, rfl⟩ : ∃ q, m = q + 1 := ⟨m - 1, by omega⟩
    obtain rfl : i = st.length := by omega
    subst hsn
    simp only [outF]
    rw [step_i_firstPath_0]
    simp only [S_i_firstPath_0, Tryd.f75, SLM, simprocAttr]
    simp -implicitDefEqProofs (maxSteps := 2000000) (disch := first | assumption | (refine Shut.mk ?_; kernel_rfl) | omega | (simp only [GT]; done) | (simp only [LN] <;> omega) | fail) only [↓WD, ↓kAsg, ↓kRet, ↓clash_free, ↓WDD, ↓kOpD_callv, WK, UN, TY, LB, MD, i64_id, simprocAttr, ↓CV, PE, Int.lt_irrefl]
  | succ j ih =>
    intro i m seen st sn hi hi2 hm hg hsn
    obtain ⟨m, rfl⟩ : ∃ q, m = q + 1 := ⟨m - 1, by omega⟩
    subst hsn
    by_cases hc : i < st.length
    · have hci : (i : Int) < st.length := by omega
      have hroom := hg.room
      have hmem : st.getD i default ∈ st := by rw [List.getD_eq_getElem?_getD, List.getElem?_eq_getElem hc]; exact List.getElem_mem hc
      have hI := hg.node _ hmem
      have hnl := hg.wide _ hmem
      obtain ⟨k1, k2, k3⟩ := good_letters (nx := nx) (p := (i : Int)) hr hI ls (seen, st) (fun x c h1 h2 => hx x c h1 (hls c h2).1 (by have := (hls c h2).2; omega)) hg
      have ih' := ih (i + 1) m (ltF nx (st.getD i default).ns i ls (seen, st)).1 (ltF nx (st.getD i default).ns i ls (seen, st)).2 _ (by have : (ltF nx (st.getD i default).ns i ls (seen, st)).2.length + unseen (ltF nx (st.getD i default).ns i ls (seen, st)).1 ≤ st.length + unseen seen := k2; omega) (by have : st.length ≤ (ltF nx (st.getD i default).ns i ls (seen, st)).2.length := k3; omega) (by omega) k1 rfl
      have e4 : ((i + 1 : Nat) : Int) = (i : Int) + 1 := by omega
      rw [e4] at ih'
      have loop_b := fun {R : Type} {n : Nat} (hn : 5 ≤ n) {k : Exit → List A → H → Option R} => @loop_pathB R L n hn hL I nf gf caps gcaps size nx ls (st.getD i default).ns i (fun {R n id hq k} => kc_n) (fun {R n hq k} => kc_g) hr hsz hI hx hw hls hll hnl k ls.length 0 L seen st st.length (by omega) (by omega) hg hc rfl rfl
      simp only [List.drop_zero, Int.natCast_zero] at loop_b
      simp only [outF, hc, if_true]
      clear ih hmem k1 k2 k3 hg hI hx hw hls hr kc_n kc_g hnl
      generalize ltF nx (st.getD i default).ns (i : Int) ls (seen, st) = w at *
      obtain ⟨w1, w2⟩ := w
      simp only at ih' loop_b ⊢
      have hll3 : ls.length ≤ 4294967290 := by omega
      rw [step_i_firstPath_0]
      simp only [S_i_firstPath_0, Tryd.f75, SLM, simprocAttr]
      simp -implicitDefEqProofs (maxSteps := 2000000) (disch := first | assumption | (refine Shut.mk ?_; kernel_rfl) | omega | (simp only [GT]; done) | (simp only [LN] <;> omega) | fail) only [↓WD, ↓kAsg, ↓kRet, ↓clash_free, ↓WDD, ↓kOpD_callv, WK, UN, TY, LB, MD, i64_id, simprocAttr, ↓CV, PE, hci, Int.toNat_natCast, ↓loop_b, ↓ih']
    · obtain rfl : i = st.length := by omega
      simp only [outF, hc, if_false]
      rw [step_i_firstPath_0]
      simp only [S_i_firstPath_0, Tryd.f75, SLM, simprocAttr]
      simp -implicitDefEqProofs (maxSteps := 2000000) (disch := first | assumption | (refine Shut.mk ?_; kernel_rfl) | omega | (simp only [GT]; done) | (simp only [LN] <;> omega) | fail) only [↓WD, ↓kAsg, ↓kRet, ↓clash_free, ↓WDD, ↓kOpD_callv, WK, UN, TY, LB, MD, i64_id, simprocAttr, ↓CV, PE, Int.lt_irrefl]

theorem make_boolC {n : Int} {h : H} (h0 : 0 ≤ n) (h1 : n ≤ 4294967296) : aMakeSlice env.P h 108 n n = some (.sl h.length 0 0 n.toNat, h ++ [.arr (boolC (List.replicate n.toNat false)) 1 0]) := by
  have hm : n ≤ (maxNeed : Nat) := by unfold maxNeed; omega
  have he : elemT env.P 108 = some 4 := by kernel_rfl
  have hz : zeroA env.P 4 = some (.d (.bool false)) := by kernel_rfl
  have hok : elemOk env.P 4 = true := by kernel_rfl
  have hc : env.P.cellsOf 4 = 1 := by kernel_rfl
  simp only [aMakeSlice, he, hz, cellsA, dataOf, Option.map_some, hok, h0, hm, hc, Int.le_refl, and_self, if_true, boolC, List.map_replicate, List.flatten_replicate_singleton]

theorem ev_i_firstPath {L n : Nat} (hn : 7 ≤ n) (hL : 2 ^ 60 ≤ L) {I : Int → Prop} {nf gf : FuncId} {caps gcaps : List D} {size : Nat} {nx : Int → Int → List Int} {ls ns : List Int}
    (kc_n : ∀ {R : Type} {n id : Nat} {hq : H} {k : A → H → Option R} (x c : Int) (o : List Int), 4 ≤ n → I x → 0 ≤ c → c < 6 → o.length ≤ 2147483648 → hq[id]? = some (.arr (ints o) 1 0) → kCall env (evCall env L n) hq nf (.d (.int .i64 x) :: .d (.int .i64 c) :: .sl id 0 0 o.length :: caps.map A.d) k = k (.sl id (nx x c).length 0 (o ++ nx x c).length) (hq.set id (.arr (ints (o ++ nx x c)) 1 (nx x c).length)))
    (kc_g : ∀ {R : Type} {n : Nat} {hq : H} {k : A → H → Option R} (x : Int), 2 ≤ n → I x → kCall env (evCall env L n) hq gf (.d (.int .i64 x) :: gcaps.map A.d) k = k (.d (.bool false)) hq)
    (hr : ∀ x, I x → 0 ≤ x ∧ x < size) (hsz : size ≤ 16777216) (hI : ∀ x ∈ ns, I x) (hx : ∀ x c, I x → 0 ≤ c → c < 6 → ∀ y ∈ nx x c, I y) (hw : ∀ x c, (nx x c).length ≤ 64) (hls : ∀ c ∈ ls, 0 ≤ c ∧ c ≤ 5) (hll : ls.length ≤ 6) (hne : ns ≠ []) (hnl : ns.length ≤ size) :
    evCall env L n 75 [.d (.int .i64 size), .d (.ivs ns.length (ints ns)), .d (.ivs ls.length (ints ls)), .d (.fn nf caps), .d (.fn gf gcaps)] [] = some (.tup [.d (.str []), .d (.bool false)], []) := by
  have hs0 : (0 : Int) ≤ size := by omega
  have hs1 : (size : Int) ≤ 4294967296 := by omega
  have kc_v := fun {R : Type} {n : Nat} {k : A → H → Option R} {p l : Int} (hn : 4 ≤ n) => @kc_visA R L n k hn hL I gf gcaps size p l ns (fun {R n hq k} => kc_g) hI hr (by omega) (by omega) hne
  have hu : unseen (List.replicate size false) = size := by simp [unseen]
  have hg0 : PGood I size (List.replicate size false) [] := ⟨by simp, by simp, by rw [hu]; simp, by simp⟩
  obtain ⟨g1, g2, g3⟩ := good_visit hg0 hI hr (-1) 0
  have hpos := visF_new (size := size) hne
  generalize visF ns (List.replicate size false) [] = r at *
  have ha : addP [] (-1) 0 r.2 = [⟨-1, 0, r.2⟩] := by
    unfold addP
    rw [if_neg (List.length_pos_iff.1 hpos)]; rfl
  rw [ha] at g1 g2
  have loop_a := fun {R : Type} {n : Nat} (hn : 6 ≤ n) {k : Exit → List A → H → Option R} => @loop_pathA R L n hn hL I nf gf caps gcaps size nx ls (fun {R n id hq k} => kc_n) (fun {R n hq k} => kc_g) hr hsz hx hw hls hll k size 0 L r.1 [⟨-1, 0, r.2⟩] 1 (by rw [hu] at g2; simpa using g2) (by simp) (by omega) g1 rfl
  simp only [Int.natCast_zero] at loop_a
  have ee : (stepsD [⟨-1, 0, r.2⟩]) = [.int .i64 (-1), .int .i64 0, .ivs r.2.length (ints r.2)] := rfl
  clear g1 g2 g3 hg0 hI hx hw hls hr kc_n kc_g
  obtain ⟨n, rfl⟩ : ∃ m, n = m + 1 := ⟨n - 1, by omega⟩
  rw [fn_i_firstPath]
  simp only [S_i_firstPath, Tryd.f75, SLM, simprocAttr]
  simp -implicitDefEqProofs (maxSteps := 2000000) (disch := first | assumption | (refine Shut.mk ?_; kernel_rfl) | omega | (simp only [GT]; done) | (simp only [LN] <;> omega) | fail) only [↓WD, ↓kAsg, ↓kRet, ↓clash_free, ↓WDD, ↓kOpD_callv, WK, UN, TY, LB, MD, i64_id, simprocAttr, ↓CV, PE, ↓make_boolC, Int.toNat_natCast, ↓kc_v, ↓loop_a]

end Ev
end Go.Proofs.YtojaohcpgelhmaaDoor
end

/-!
  All traces of a system are traces of one that has its edges: walked.
-/
section
set_option linter.unusedSimpArgs false
set_option linter.unusedVariables false
set_option maxRecDepth 8000
set_option pp.maxSteps 6000
set_option maxHeartbeats 4000000
namespace Go.Proofs.YtojaohcpgelhmaaDoor
namespace Ev

theorem ev_i_FirstTraceOutside_c2 {L n : Nat} (hn : 1 ≤ n) (w : Nat) (hw : w ≤ 16) (x : Int) (hx0 : 0 ≤ x) (hx1 : x < 16777216) (hx : x.tmod ((2 ^ w : Nat) : Int) ≠ 0) : evCall env L n 76 [.d (.int .i64 x), .d (.iptr [.int .i64 ((2 ^ w : Nat) : Int)])] [] = some (.d (.bool false), []) := by
  have hp : (0 : Int) < ((2 ^ w : Nat) : Int) := by have := Nat.two_pow_pos w; omega
  have h0 : ¬ ((2 ^ w : Nat) : Int) = 0 := by omega
  generalize ((2 ^ w : Nat) : Int) = z at *
  obtain ⟨n, rfl⟩ : ∃ m, n = m + 1 := ⟨n - 1, by omega⟩
  rw [fn_i_FirstTraceOutside_c2]
  simp only [S_i_FirstTraceOutside_c2, Tryd.f76, SLM, simprocAttr]
  simp -implicitDefEqProofs (maxSteps := 2000000) (disch := first | assumption | (refine Shut.mk ?_; kernel_rfl) | omega | (simp only [GT]; done) | (simp only [LN] <;> omega) | fail) only [↓WD, ↓kAsg, ↓kRet, ↓clash_free, ↓WDD, ↓kOpD_callv, WK, UN, TY, LB, MD, i64_id, simprocAttr, ↓CV, h0, hx]

theorem kc_i_FirstTraceOutside_c2 {R : Type} {L n : Nat} {hq : H} {k : A → H → Option R} (hn : 1 ≤ n) (w : Nat) (hw : w ≤ 16) (x : Int) (hx0 : 0 ≤ x) (hx1 : x < 16777216) (hx : x.tmod ((2 ^ w : Nat) : Int) ≠ 0) : kCall env (evCall env L n) hq 76 [.d (.int .i64 x), .d (.iptr [.int .i64 ((2 ^ w : Nat) : Int)])] k = k (.d (.bool false)) hq :=
  kCall_still rfl (ev_i_FirstTraceOutside_c2 hn w hw x hx0 hx1 hx) rfl (.inl rfl)
theorem ints1 {v : Int} : ints [v] = [.int .i64 v] := rfl

theorem loop_next {R : Type} {L n : Nat} (hn : 1 ≤ n) {z s : Int} (hz0 : 0 ≤ z) (hz1 : z ≤ 65536) (hs0 : 0 ≤ s) (hs1 : s < 65536) {ms : List Int} (hms : ∀ q ∈ ms, 0 ≤ q ∧ q < 16) (hml : ms.length ≤ 64) {k : Exit → List A → H → Option R} : ∀ (j i m : Nat) (o : List Int) (g len : Nat) (hi : i + j = ms.length) (hm : j < m) (hlen : len = o.length) (ho : o.length + j ≤ 2147483800),
    kLoop env (evCall env L n) L 1 [] (false :: false :: true :: false :: true :: false :: false :: false :: false :: true :: true :: false :: false :: false :: false :: false :: false :: false :: false :: false :: false :: false :: false :: false :: false :: false :: false :: false :: true :: true :: true :: false :: false :: false :: false :: false :: false :: false :: false :: false :: false :: false :: false :: false :: []) (lp_i_FirstTraceOutside_c1 0) (true :: true :: false :: true :: false :: true :: true :: true :: true :: false :: false :: true :: true :: true :: true :: true :: true :: true :: true :: true :: true :: true :: true :: true :: true :: true :: true :: true :: false :: false :: false :: true :: true :: true :: true :: true :: true :: true :: true :: true :: true :: true :: true :: true :: []) m (.junk :: .junk :: .sl 0 g 0 len :: .junk :: .d (.iptr [.int .i64 z]) :: .junk :: .junk :: .junk :: .junk :: .d .nils :: .d (.int .i64 s) :: .junk :: .junk :: .junk :: .junk :: .junk :: .junk :: .junk :: .junk :: .junk :: .junk :: .junk :: .junk :: .junk :: .junk :: .junk :: .junk :: .junk :: .d (.ivs ms.length (ints ms)) :: .d (.int .i64 (ms.length)) :: .d (.int .i64 ((i : Int))) :: .junk :: .junk :: .junk :: .junk :: .junk :: .junk :: .junk :: .junk :: .junk :: .junk :: .junk :: .junk :: .junk :: []) [.arr (ints o) 1 g] k
    = k (.exit 0) (.junk :: .junk :: .sl 0 (g + j) 0 (o ++ (ms.drop i).map fun q => q * z + s).length :: .junk :: .d (.iptr [.int .i64 z]) :: .junk :: .junk :: .junk :: .junk :: .d .nils :: .d (.int .i64 s) :: .junk :: .junk :: .junk :: .junk :: .junk :: .junk :: .junk :: .junk :: .junk :: .junk :: .junk :: .junk :: .junk :: .junk :: .junk :: .junk :: .junk :: .d (.ivs ms.length (ints ms)) :: .d (.int .i64 (ms.length)) :: .d (.int .i64 (ms.length)) :: .junk :: .junk :: .junk :: .junk :: .junk :: .junk :: .junk :: .junk :: .junk :: .junk :: .junk :: .junk :: .junk :: []) [.arr (ints (o ++ (ms.drop i).map fun q => q * z + s)) 1 (g + j)] := by
  intro j
  induction j with
  | zero =>
    intro i m o g len hi hm hlen ho
    obtain ⟨m, rfl⟩ : ∃ q, m = q + 1 := ⟨m - 1, by omega⟩
    obtain rfl : i = ms.length := by omega
    subst hlen
    rw [step_i_FirstTraceOutside_c1_0]
    simp only [S_i_FirstTraceOutside_c1_0, Tryd.f73, SLM, simprocAttr]
    simp -implicitDefEqProofs (maxSteps := 2000000) (disch := first | assumption | (refine Shut.mk ?_; kernel_rfl) | omega | (simp only [GT]; done) | (simp only [LN] <;> omega) | fail) only [↓WD, ↓kAsg, ↓kRet, ↓clash_free, ↓WDD, ↓kOpD_callv, WK, UN, TY, LB, MD, i64_id, simprocAttr, ↓CV, ↓kc_i_moves_step, ↓kc_i_members, PE, Int.lt_irrefl]
    simp only [List.drop_length, List.map_nil, List.append_nil, List.length_nil, Nat.add_zero]
  | succ j ih =>
    intro i m o g len hi hm hlen ho
    obtain ⟨m, rfl⟩ : ∃ q, m = q + 1 := ⟨m - 1, by omega⟩
    subst hlen
    have hc : (i : Int) < ms.length := by omega
    have hk : i < ms.length := by omega
    have hmem : ms.getD i 0 ∈ ms := by rw [List.getD_eq_getElem?_getD, List.getElem?_eq_getElem hk]; exact List.getElem_mem hk
    obtain ⟨q0, q1⟩ := hms _ hmem
    have b0 : 0 ≤ ms.getD i 0 * z := Int.mul_nonneg q0 hz0
    have b1 : ms.getD i 0 * z ≤ 16 * 65536 := Int.mul_le_mul (by omega) hz1 hz0 (by omega)
    have ih' := ih (i + 1) m (o ++ [ms.getD i 0 * z + s]) (g + 1) (o.length + 1) (by omega) (by omega) (by simp) (by simp; omega)
    have e4 : ((i + 1 : Nat) : Int) = (i : Int) + 1 := by omega
    rw [e4] at ih'
    rw [drop_go hk (d := 0)]
    clear ih hmem
    rw [step_i_FirstTraceOutside_c1_0]
    simp only [S_i_FirstTraceOutside_c1_0, Tryd.f73, SLM, simprocAttr]
    simp -implicitDefEqProofs (maxSteps := 2000000) (disch := first | assumption | (refine Shut.mk ?_; kernel_rfl) | omega | (simp only [GT]; done) | (simp only [LN] <;> omega) | fail) only [↓WD, ↓kAsg, ↓kRet, ↓clash_free, ↓WDD, ↓kOpD_callv, WK, UN, TY, LB, MD, i64_id, simprocAttr, ↓CV, ↓kc_i_moves_step, ↓kc_i_members, PE, hc, Int.toNat_natCast, ints_take, ints_snoc, List.length_append, ↓ih']
    simp only [List.map_cons, List.append_assoc, List.cons_append, List.nil_append, Nat.add_assoc, Nat.add_comm 1]

theorem ev_next {L n : Nat} (hn : 3 ≤ n) (hL : 2 ^ 60 ≤ L) {l l2 : List Edge} (hm16 : ∀ k, mvAt l k < 65536) (hm2 : ∀ k, mvAt l2 k < 65536) {x c z : Int} {q s : Nat} (hz0 : 0 < z) (hz1 : z ≤ 65536) (hx0 : 0 ≤ x) (hx1 : x < 16777216) (hq : q < 16) (hs : s < 65536) (ht : x.tmod z = (s : Int)) (hd : x.tdiv z = (q : Int)) (hc0 : 0 ≤ c) (hc6 : c < 6) (o : List Int) (ho : o.length ≤ 2147483648) (w : List Int) (hw : w = (memG (mvAt l (q * 6 + c.toNat)) (mvAt l (q * 6 + c.toNat))).map fun m => m * z + (stepG (fun k => mvAt l2 (k * 6 + c.toNat)) s s 0 : Nat)) :
    evCall env L n 73 [.d (.int .i64 x), .d (.int .i64 c), .sl 0 0 0 o.length, .d (.iptr [.iptr (mvD l2)]), .d (.iptr [.int .i64 z]), .d (.iptr [.iptr (mvD l)])] [.arr (ints o) 1 0] = some (.sl 0 w.length 0 (o ++ w).length, [.arr (ints (o ++ w)) 1 w.length]) := by
  have hmv := hm16 (q * 6 + c.toNat)
  have hst := stepG_lt (w := 16) (fun k => hm2 (k * 6 + c.toNat)) s s 0 (by omega)
  have hkk : q * 6 + c.toNat < 96 := by omega
  have hd1 : c.toNat ≤ 96 - q * 6 := by omega
  have hd2 : q * 6 ≤ 96 := by omega
  have hq2 : (q : Int) < 16 := by omega
  have hz2 : ¬ z = 0 := by omega
  have hml := memG_len 16 (mvAt l (q * 6 + c.toNat)) _ hmv (by omega)
  have hms : ∀ y ∈ memG (mvAt l (q * 6 + c.toNat)) (mvAt l (q * 6 + c.toNat)), 0 ≤ y ∧ y < 16 := by
    intro y hy
    obtain ⟨y0, yb⟩ := memG_mem _ _ (by omega) y hy
    refine ⟨y0, ?_⟩
    apply Int.lt_of_not_ge
    intro hge
    have := Nat.testBit_lt_two_pow (x := mvAt l (q * 6 + c.toNat)) (i := y.toNat) (Nat.lt_of_lt_of_le hmv (Nat.pow_le_pow_right (n := 2) (by decide) (by omega : 16 ≤ y.toNat)))
    rw [this] at yb; cases yb
  have loop_c := fun {R : Type} {n : Nat} {k : Exit → List A → H → Option R} (hn : 1 ≤ n) => @loop_next R L n hn z ((stepG (fun k => mvAt l2 (k * 6 + c.toNat)) s s 0 : Nat) : Int) (by omega) hz1 (by omega) (by omega) (memG (mvAt l (q * 6 + c.toNat)) (mvAt l (q * 6 + c.toNat))) hms (by omega) k (memG (mvAt l (q * 6 + c.toNat)) (mvAt l (q * 6 + c.toNat))).length 0 L o 0 o.length (by omega) (by omega) rfl (by omega)
  have hwl : w.length = (memG (mvAt l (q * 6 + c.toNat)) (mvAt l (q * 6 + c.toNat))).length := by rw [hw, List.length_map]
  simp only [List.drop_zero, Int.natCast_zero, Nat.zero_add, ← hw] at loop_c
  clear hw hms hml
  obtain ⟨n, rfl⟩ : ∃ m, n = m + 1 := ⟨n - 1, by omega⟩
  rw [fn_i_FirstTraceOutside_c1]
  simp only [S_i_FirstTraceOutside_c1, Tryd.f73, SLM, simprocAttr]
  simp -implicitDefEqProofs (maxSteps := 2000000) (disch := first | assumption | (refine Shut.mk ?_; kernel_rfl) | omega | (simp only [GT]; done) | (simp only [LN] <;> omega) | fail) only [↓WD, ↓kAsg, ↓kRet, ↓clash_free, ↓WDD, ↓kOpD_callv, WK, UN, TY, LB, MD, i64_id, simprocAttr, ↓CV, PE, hz2, ht, hd, hq2, hc0, hc6, hd1, hd2, hkk, ↓kc_i_members, ↓kc_i_moves_step, hm2, hmv, hs, Int.toNat_natCast, mvD_len, List.length_drop, List.drop_drop, mv_headD, ↓loop_c, hwl]

theorem kc_next {R : Type} {L n id : Nat} {hq : H} {k : A → H → Option R} (hn : 3 ≤ n) (hL : 2 ^ 60 ≤ L) {l l2 : List Edge} (hm16 : ∀ k, mvAt l k < 65536) (hm2 : ∀ k, mvAt l2 k < 65536) {w st : Nat} (hw : w ≤ 16) (hst : st ≤ 16) (x c : Int) (o : List Int) (hx : TNode (2 ^ w) st x) (hc0 : 0 ≤ c) (hc6 : c < 6) (ho : o.length ≤ 2147483648) (hid : hq[id]? = some (.arr (ints o) 1 0)) :
    kCall env (evCall env L n) hq 73 (.d (.int .i64 x) :: .d (.int .i64 c) :: .sl id 0 0 o.length :: [.iptr [.iptr (mvD l2)], .iptr [.int .i64 ((2 ^ w : Nat) : Int)], .iptr [.iptr (mvD l)]].map A.d) k
    = k (.sl id (tnext l l2 (2 ^ w) x c).length 0 (o ++ tnext l l2 (2 ^ w) x c).length) (hq.set id (.arr (ints (o ++ tnext l l2 (2 ^ w) x c)) 1 (tnext l l2 (2 ^ w) x c).length)) := by
  have hg := tnode_good hx
  obtain ⟨q, set, rfl, hq2, hs, hb⟩ := hx
  have p16 : (2 : Nat) ^ w ≤ 2 ^ 16 := Nat.pow_le_pow_right (by decide) hw
  have p0 := Nat.two_pow_pos w
  obtain ⟨e1, e2⟩ := tnode_div (q := q) hs
  have b1 : st * 2 ^ w ≤ 16 * 2 ^ 16 := Nat.mul_le_mul hst p16
  refine kCall_refS hid (by simp [idsL, idsA]) mode_i_FirstTraceOutside_c1 ?_
  have hpl : place [id] id = some 0 := by simp [place]
  simp only [List.map_cons, List.map_nil, mapAs, mapA, hpl]
  refine ev_next hn hL hm16 hm2 (q := q) (s := set) (by omega) (by omega) hg.1 (by omega) (by omega) (by omega) ?_ ?_ hc0 hc6 o ho _ ?_
  · show (((q * 2 ^ w + set) % 2 ^ w : Nat) : Int) = _
    rw [e2]
  · show (((q * 2 ^ w + set) / 2 ^ w : Nat) : Int) = _
    rw [e1]
  · unfold tnext
    rw [Int.toNat_natCast, e1, e2]

theorem kv_i_firstPath_f {R : Type} {L n : Nat} {hq : H} {k : A → H → Option R} {a b : A} {id g o len f1 f2 : Nat} {c1 c2 : List A} : kCall env (evCall env L n) hq 75 [a, .sl id g o len, b, .clo f1 c1, .clo f2 c2] k = match box (lentA hq [a, .sl id g o len, b, .clo f1 c1, .clo f2 c2]) with
    | .mk (some fs) => kLent (evCall env L n) 75 fs fun r => k r hq
    | _ => none := kCall_lent mode_i_firstPath

theorem ev_i_sameAlphabets {L n : Nat} (hn : 7 ≤ n) (al st al2 st2 : Int) (l l2 : List Edge) (hl : l.length ≤ 4294967296) (hl2 : l2.length ≤ 4294967296) (hL : 2 ^ 60 ≤ L) : evCall env L n 54 [.agg [.d (.int .i64 al), .d (.int .i64 st), .d (.ivs l.length (edgesD l))], .agg [.d (.int .i64 al2), .d (.int .i64 st2), .d (.ivs l2.length (edgesD l2))]] [] = some (.d (.bool (sysOK ⟨al, st, l⟩ && sysOK ⟨al2, st2, l2⟩ && decide (al = al2))), []) := by
  cases h1 : sysOK ⟨al, st, l⟩ with
  | false =>
    obtain ⟨n, rfl⟩ : ∃ m, n = m + 1 := ⟨n - 1, by omega⟩
    rw [fn_i_sameAlphabets]
    simp only [S_i_sameAlphabets, Tryd.f54, SLM, simprocAttr]
    simp -implicitDefEqProofs (maxSteps := 2000000) (disch := first | assumption | (refine Shut.mk ?_; kernel_rfl) | omega | (simp only [GT]; done) | (simp only [LN] <;> omega) | fail) only [↓WD, ↓kAsg, ↓kRet, ↓clash_free, ↓WDD, ↓kOpD_callv, WK, UN, TY, LB, MD, i64_id, simprocAttr, ↓CV, ↓kc_i_SystemValid, ↓kl_i_SystemValid, ↓kv_i_SystemValid_1, LE, h1, Bool.false_and]
  | true =>
    cases h2 : sysOK ⟨al2, st2, l2⟩ with
    | false =>
      obtain ⟨n, rfl⟩ : ∃ m, n = m + 1 := ⟨n - 1, by omega⟩
      rw [fn_i_sameAlphabets]
      simp only [S_i_sameAlphabets, Tryd.f54, SLM, simprocAttr]
      simp -implicitDefEqProofs (maxSteps := 2000000) (disch := first | assumption | (refine Shut.mk ?_; kernel_rfl) | omega | (simp only [GT]; done) | (simp only [LN] <;> omega) | fail) only [↓WD, ↓kAsg, ↓kRet, ↓clash_free, ↓WDD, ↓kOpD_callv, WK, UN, TY, LB, MD, i64_id, simprocAttr, ↓CV, ↓kc_i_SystemValid, ↓kl_i_SystemValid, ↓kv_i_SystemValid_1, LE, h1, h2, Bool.and_false, Bool.false_and]
    | true =>
      obtain ⟨n, rfl⟩ : ∃ m, n = m + 1 := ⟨n - 1, by omega⟩
      rw [fn_i_sameAlphabets]
      simp only [S_i_sameAlphabets, Tryd.f54, SLM, simprocAttr]
      simp -implicitDefEqProofs (maxSteps := 2000000) (disch := first | assumption | (refine Shut.mk ?_; kernel_rfl) | omega | (simp only [GT]; done) | (simp only [LN] <;> omega) | fail) only [↓WD, ↓kAsg, ↓kRet, ↓clash_free, ↓WDD, ↓kOpD_callv, WK, UN, TY, LB, MD, i64_id, simprocAttr, ↓CV, ↓kc_i_SystemValid, ↓kl_i_SystemValid, ↓kv_i_SystemValid_1, LE, h1, h2, Bool.and_self, Bool.true_and]
theorem kc_i_sameAlphabets {R : Type} {L n : Nat} {hq : H} {k : A → H → Option R} (hn : 7 ≤ n) (al st al2 st2 : Int) (l l2 : List Edge) (hl : l.length ≤ 4294967296) (hl2 : l2.length ≤ 4294967296) (hL : 2 ^ 60 ≤ L) : kCall env (evCall env L n) hq 54 [.agg [.d (.int .i64 al), .d (.int .i64 st), .d (.ivs l.length (edgesD l))], .agg [.d (.int .i64 al2), .d (.int .i64 st2), .d (.ivs l2.length (edgesD l2))]] k = k (.d (.bool (sysOK ⟨al, st, l⟩ && sysOK ⟨al2, st2, l2⟩ && decide (al = al2)))) hq :=
  kCall_still rfl (ev_i_sameAlphabets hn al st al2 st2 l l2 hl hl2 hL) rfl (.inl rfl)
theorem kl_i_sameAlphabets {R : Type} {L n : Nat} {k : A → Option R} (hn : 7 ≤ n) (al st al2 st2 : Int) (l l2 : List Edge) (hl : l.length ≤ 4294967296) (hl2 : l2.length ≤ 4294967296) (hL : 2 ^ 60 ≤ L) : kLent (evCall env L n) 54 [.agg [.d (.int .i64 al), .d (.int .i64 st), .d (.ivs l.length (edgesD l))], .agg [.d (.int .i64 al2), .d (.int .i64 st2), .d (.ivs l2.length (edgesD l2))]] k = k (.d (.bool (sysOK ⟨al, st, l⟩ && sysOK ⟨al2, st2, l2⟩ && decide (al = al2)))) :=
  kLent_ev (ev_i_sameAlphabets hn al st al2 st2 l l2 hl hl2 hL) rfl
theorem kv_i_sameAlphabets_1 {R : Type} {L n : Nat} {hq : H} {k : A → H → Option R} {id0 g0 o0 len0 : Nat} {al st al2 st2 : Int} {l2 : List Edge} : kCall env (evCall env L n) hq 54 [.agg [.d (.int .i64 al), .d (.int .i64 st), .sl id0 g0 o0 len0], .agg [.d (.int .i64 al2), .d (.int .i64 st2), .d (.ivs l2.length (edgesD l2))]] k = match box (lentA hq [.agg [.d (.int .i64 al), .d (.int .i64 st), .sl id0 g0 o0 len0], .agg [.d (.int .i64 al2), .d (.int .i64 st2), .d (.ivs l2.length (edgesD l2))]]) with
    | .mk (some fs) => kLent (evCall env L n) 54 fs fun r => k r hq
    | _ => none := kCall_lent mode_i_sameAlphabets
theorem kv_i_sameAlphabets_2 {R : Type} {L n : Nat} {hq : H} {k : A → H → Option R} {id1 g1 o1 len1 : Nat} {al st al2 st2 : Int} {l : List Edge} : kCall env (evCall env L n) hq 54 [.agg [.d (.int .i64 al), .d (.int .i64 st), .d (.ivs l.length (edgesD l))], .agg [.d (.int .i64 al2), .d (.int .i64 st2), .sl id1 g1 o1 len1]] k = match box (lentA hq [.agg [.d (.int .i64 al), .d (.int .i64 st), .d (.ivs l.length (edgesD l))], .agg [.d (.int .i64 al2), .d (.int .i64 st2), .sl id1 g1 o1 len1]]) with
    | .mk (some fs) => kLent (evCall env L n) 54 fs fun r => k r hq
    | _ => none := kCall_lent mode_i_sameAlphabets
theorem kv_i_sameAlphabets_3 {R : Type} {L n : Nat} {hq : H} {k : A → H → Option R} {id1 g1 o1 len1 : Nat} {id0 g0 o0 len0 : Nat} {al st al2 st2 : Int} : kCall env (evCall env L n) hq 54 [.agg [.d (.int .i64 al), .d (.int .i64 st), .sl id0 g0 o0 len0], .agg [.d (.int .i64 al2), .d (.int .i64 st2), .sl id1 g1 o1 len1]] k = match box (lentA hq [.agg [.d (.int .i64 al), .d (.int .i64 st), .sl id0 g0 o0 len0], .agg [.d (.int .i64 al2), .d (.int .i64 st2), .sl id1 g1 o1 len1]]) with
    | .mk (some fs) => kLent (evCall env L n) 54 fs fun r => k r hq
    | _ => none := kCall_lent mode_i_sameAlphabets

theorem ev_i_FirstTraceOutside {L n : Nat} (hn : 9 ≤ n) (al st : Int) (l l2 : List Edge) (hl : l.length ≤ 4294967296) (hl2 : l2.length ≤ 4294967296) (h1 : sysOK ⟨al, st, l⟩ = true) (h2 : sysOK ⟨al, st, l2⟩ = true) (hsub : ∀ e ∈ l, e ∈ l2) (hL : 2 ^ 60 ≤ L) : evCall env L n 53 [.agg [.d (.int .i64 al), .d (.int .i64 st), .d (.ivs l.length (edgesD l))], .agg [.d (.int .i64 al), .d (.int .i64 st), .d (.ivs l2.length (edgesD l2))]] [] = some (.tup [.d (.str []), .d (.bool false)], []) := by
  have hv1 := sys_bounds h1
  have hv2 := sys_bounds h2
  have hr1 : ∀ e ∈ l.reverse, 0 ≤ e.fr ∧ e.fr < 16 ∧ 0 ≤ e.lt ∧ e.lt < 6 ∧ 0 ≤ e.to ∧ e.to < 16 := fun e he => hv1 e (List.mem_reverse.1 he)
  have hr2 : ∀ e ∈ l2.reverse, 0 ≤ e.fr ∧ e.fr < 16 ∧ 0 ≤ e.lt ∧ e.lt < 6 ∧ 0 ≤ e.to ∧ e.to < 16 := fun e he => hv2 e (List.mem_reverse.1 he)
  have hm1 := mv16 hr1
  have hm2 := mv16 hr2
  have h1' := h1
  unfold sysOK at h1'
  simp only [Bool.and_eq_true, decide_eq_true_eq] at h1'
  obtain ⟨w, rfl⟩ : ∃ w : Nat, st = (w : Int) := ⟨st.toNat, by omega⟩
  have hw0 : 1 ≤ w := by omega
  have hw : w ≤ 16 := by omega
  have p16 : (2 : Nat) ^ w ≤ 2 ^ 16 := Nat.pow_le_pow_right (by decide) hw
  have p1 : (2 : Nat) ^ 1 ≤ 2 ^ w := Nat.pow_le_pow_right (by decide) hw0
  have hto1 : ∀ e ∈ l.reverse, e.to.toNat < w := fun e he => by
    have := sysOK_edge h1 (List.mem_reverse.1 he)
    unfold edgeOK at this
    simp only [Bool.and_eq_true, decide_eq_true_eq] at this
    omega
  have hto2 : ∀ e ∈ l2.reverse, e.to.toNat < w := fun e he => by
    have := sysOK_edge h2 (List.mem_reverse.1 he)
    unfold edgeOK at this
    simp only [Bool.and_eq_true, decide_eq_true_eq] at this
    omega
  have hsub2 : ∀ e ∈ l.reverse, e ∈ l2.reverse := fun e he => List.mem_reverse.2 (hsub e (List.mem_reverse.1 he))
  have hsz : w * 2 ^ w ≤ 16 * 2 ^ 16 := Nat.mul_le_mul hw p16
  have hgood := fun x (hx : TNode (2 ^ w) w x) => tnode_good hx
  have hT1 : TNode (2 ^ w) w 1 := ⟨0, 1, by simp, by omega, by omega, by decide⟩
  have hwl : ∀ x c, (tnext l.reverse l2.reverse (2 ^ w) x c).length ≤ 64 := by
    intro x c
    unfold tnext
    rw [List.length_map]
    have := memG_len 16 (mvAt l.reverse ((x.toNat / 2 ^ w) * 6 + c.toNat)) (mvAt l.reverse ((x.toNat / 2 ^ w) * 6 + c.toNat)) (hm1 _) (by have := hm1 ((x.toNat / 2 ^ w) * 6 + c.toNat); omega)
    omega
  have hp := fun {L n : Nat} (hn : 7 ≤ n) (hL : 2 ^ 60 ≤ L) => @ev_i_firstPath L n hn hL (TNode (2 ^ w) w) 73 76 [.iptr [.iptr (mvD l2.reverse)], .iptr [.int .i64 ((2 ^ w : Nat) : Int)], .iptr [.iptr (mvD l.reverse)]] [.iptr [.int .i64 ((2 ^ w : Nat) : Int)]] (w * 2 ^ w) (tnext l.reverse l2.reverse (2 ^ w)) (letters al) [1]
    (fun {R n id hq k} x c o h4 hI h0 h6 ho hid => kc_next (by omega) hL hm1 hm2 hw hw x c o hI h0 h6 ho hid)
    (fun {R n hq k} x h2 hI => kc_i_FirstTraceOutside_c2 (by omega) w hw x (hgood x hI).1 (by have := (hgood x hI).2.1; omega) (hgood x hI).2.2)
    (fun x hI => ⟨(hgood x hI).1, (hgood x hI).2.1⟩) (by omega) (fun x hx => by simp at hx; subst hx; exact hT1) (fun x c hI h0 h6 => tnext_node hw hsub2 hto1 hto2 hI) hwl letters_in (letters_len al) (by simp) (by simp; have : 1 * 2 ^ 1 ≤ w * 2 ^ w := Nat.mul_le_mul hw0 p1; omega)
  have kl_p := fun {R : Type} {n : Nat} {k : A → Option R} (hn : 7 ≤ n) => kLent_ev (k := k) (hp (n := n) hn hL) rfl
  have e1 : min w 64 = w := by omega
  have e3 : IntKind.i64.wrap (1 * 2 ^ w) = ((2 ^ w : Nat) : Int) := by
    have : (1 : Int) * 2 ^ w = ((2 ^ w : Nat) : Int) := by simp
    rw [this]
    generalize (2 : Nat) ^ w = p at p16
    exact i64_id (by omega) (by omega)
  have eS : (w : Int) * ((2 ^ w : Nat) : Int) = ((w * 2 ^ w : Nat) : Int) := by simp
  have eS2 : IntKind.i64.wrap ((w : Int) * ((2 ^ w : Nat) : Int)) = ((w * 2 ^ w : Nat) : Int) := by
    rw [eS]
    exact i64_id (by omega) (by omega)
  simp only [ints1, List.length_cons, List.length_nil, Nat.zero_add] at kl_p
  have hw64 : (0 : Int) ≤ w := by omega
  clear hp hgood hT1 hwl hsub hsub2 hto1 hto2 hr1 hr2 hm1 hm2 h1' hsz p1
  obtain ⟨n, rfl⟩ : ∃ m, n = m + 1 := ⟨n - 1, by omega⟩
  rw [fn_i_FirstTraceOutside]
  simp only [S_i_FirstTraceOutside, Tryd.f53, SLM, simprocAttr]
  simp -implicitDefEqProofs (maxSteps := 2000000) (disch := first | assumption | (refine Shut.mk ?_; kernel_rfl) | omega | (simp only [GT]; done) | (simp only [LN] <;> omega) | fail) only [↓WD, ↓kAsg, ↓kRet, ↓clash_free, ↓WDD, ↓kOpD_callv, WK, UN, TY, LB, MD, i64_id, simprocAttr, ↓CV, ↓kc_i_sameAlphabets, ↓kc_i_lettersOf, ↓kl_i_sameAlphabets, ↓kv_i_sameAlphabets_1, ↓kv_i_sameAlphabets_2, ↓kv_i_sameAlphabets_3, LE, h1, h2, Bool.and_self, decide_true, ↓kc_i_movesOf, hv1, hv2, e1, e3, eS2, bits64, ↓kv_i_firstPath_f, ↓kl_p, Int.toNat_natCast]
theorem kc_i_FirstTraceOutside {R : Type} {L n : Nat} {hq : H} {k : A → H → Option R} (hn : 9 ≤ n) (al st : Int) (l l2 : List Edge) (hl : l.length ≤ 4294967296) (hl2 : l2.length ≤ 4294967296) (h1 : sysOK ⟨al, st, l⟩ = true) (h2 : sysOK ⟨al, st, l2⟩ = true) (hsub : ∀ e ∈ l, e ∈ l2) (hL : 2 ^ 60 ≤ L) : kCall env (evCall env L n) hq 53 [.agg [.d (.int .i64 al), .d (.int .i64 st), .d (.ivs l.length (edgesD l))], .agg [.d (.int .i64 al), .d (.int .i64 st), .d (.ivs l2.length (edgesD l2))]] k = k (.tup [.d (.str []), .d (.bool false)]) hq :=
  kCall_still rfl (ev_i_FirstTraceOutside hn al st l l2 hl hl2 h1 h2 hsub hL) rfl (.inl rfl)
theorem kl_i_FirstTraceOutside {R : Type} {L n : Nat} {k : A → Option R} (hn : 9 ≤ n) (al st : Int) (l l2 : List Edge) (hl : l.length ≤ 4294967296) (hl2 : l2.length ≤ 4294967296) (h1 : sysOK ⟨al, st, l⟩ = true) (h2 : sysOK ⟨al, st, l2⟩ = true) (hsub : ∀ e ∈ l, e ∈ l2) (hL : 2 ^ 60 ≤ L) : kLent (evCall env L n) 53 [.agg [.d (.int .i64 al), .d (.int .i64 st), .d (.ivs l.length (edgesD l))], .agg [.d (.int .i64 al), .d (.int .i64 st), .d (.ivs l2.length (edgesD l2))]] k = k (.tup [.d (.str []), .d (.bool false)]) :=
  kLent_ev (ev_i_FirstTraceOutside hn al st l l2 hl hl2 h1 h2 hsub hL) rfl
theorem kv_i_FirstTraceOutside_1 {R : Type} {L n : Nat} {hq : H} {k : A → H → Option R} {id0 g0 o0 len0 : Nat} {al st : Int} {l2 : List Edge} : kCall env (evCall env L n) hq 53 [.agg [.d (.int .i64 al), .d (.int .i64 st), .sl id0 g0 o0 len0], .agg [.d (.int .i64 al), .d (.int .i64 st), .d (.ivs l2.length (edgesD l2))]] k = match box (lentA hq [.agg [.d (.int .i64 al), .d (.int .i64 st), .sl id0 g0 o0 len0], .agg [.d (.int .i64 al), .d (.int .i64 st), .d (.ivs l2.length (edgesD l2))]]) with
    | .mk (some fs) => kLent (evCall env L n) 53 fs fun r => k r hq
    | _ => none := kCall_lent mode_i_FirstTraceOutside
theorem kv_i_FirstTraceOutside_2 {R : Type} {L n : Nat} {hq : H} {k : A → H → Option R} {id1 g1 o1 len1 : Nat} {al st : Int} {l : List Edge} : kCall env (evCall env L n) hq 53 [.agg [.d (.int .i64 al), .d (.int .i64 st), .d (.ivs l.length (edgesD l))], .agg [.d (.int .i64 al), .d (.int .i64 st), .sl id1 g1 o1 len1]] k = match box (lentA hq [.agg [.d (.int .i64 al), .d (.int .i64 st), .d (.ivs l.length (edgesD l))], .agg [.d (.int .i64 al), .d (.int .i64 st), .sl id1 g1 o1 len1]]) with
    | .mk (some fs) => kLent (evCall env L n) 53 fs fun r => k r hq
    | _ => none := kCall_lent mode_i_FirstTraceOutside
theorem kv_i_FirstTraceOutside_3 {R : Type} {L n : Nat} {hq : H} {k : A → H → Option R} {id1 g1 o1 len1 : Nat} {id0 g0 o0 len0 : Nat} {al st : Int} : kCall env (evCall env L n) hq 53 [.agg [.d (.int .i64 al), .d (.int .i64 st), .sl id0 g0 o0 len0], .agg [.d (.int .i64 al), .d (.int .i64 st), .sl id1 g1 o1 len1]] k = match box (lentA hq [.agg [.d (.int .i64 al), .d (.int .i64 st), .sl id0 g0 o0 len0], .agg [.d (.int .i64 al), .d (.int .i64 st), .sl id1 g1 o1 len1]]) with
    | .mk (some fs) => kLent (evCall env L n) 53 fs fun r => k r hq
    | _ => none := kCall_lent mode_i_FirstTraceOutside

theorem ev_i_TracesWithin {L n : Nat} (hn : 10 ≤ n) (al st : Int) (l l2 : List Edge) (hl : l.length ≤ 4294967296) (hl2 : l2.length ≤ 4294967296) (h1 : sysOK ⟨al, st, l⟩ = true) (h2 : sysOK ⟨al, st, l2⟩ = true) (hsub : ∀ e ∈ l, e ∈ l2) (hL : 2 ^ 60 ≤ L) : evCall env L n 18 [.agg [.d (.int .i64 al), .d (.int .i64 st), .d (.ivs l.length (edgesD l))], .agg [.d (.int .i64 al), .d (.int .i64 st), .d (.ivs l2.length (edgesD l2))]] [] = some (.d (.bool true), []) := by
  obtain ⟨n, rfl⟩ : ∃ m, n = m + 1 := ⟨n - 1, by omega⟩
  rw [fn_i_TracesWithin]
  simp only [S_i_TracesWithin, Tryd.f18, SLM, simprocAttr]
  simp -implicitDefEqProofs (maxSteps := 2000000) (disch := first | assumption | (refine Shut.mk ?_; kernel_rfl) | omega | (simp only [GT]; done) | (simp only [LN] <;> omega) | fail) only [↓WD, ↓kAsg, ↓kRet, ↓clash_free, ↓WDD, ↓kOpD_callv, WK, UN, TY, LB, MD, i64_id, simprocAttr, ↓CV, ↓kc_i_FirstTraceOutside, ↓kc_i_sameAlphabets, ↓kl_i_FirstTraceOutside, ↓kl_i_sameAlphabets, ↓kv_i_FirstTraceOutside_1, ↓kv_i_FirstTraceOutside_2, ↓kv_i_FirstTraceOutside_3, ↓kv_i_sameAlphabets_1, ↓kv_i_sameAlphabets_2, ↓kv_i_sameAlphabets_3, LE, h1, h2, hsub, Bool.and_self, decide_true]
theorem kc_i_TracesWithin {R : Type} {L n : Nat} {hq : H} {k : A → H → Option R} (hn : 10 ≤ n) (al st : Int) (l l2 : List Edge) (hl : l.length ≤ 4294967296) (hl2 : l2.length ≤ 4294967296) (h1 : sysOK ⟨al, st, l⟩ = true) (h2 : sysOK ⟨al, st, l2⟩ = true) (hsub : ∀ e ∈ l, e ∈ l2) (hL : 2 ^ 60 ≤ L) : kCall env (evCall env L n) hq 18 [.agg [.d (.int .i64 al), .d (.int .i64 st), .d (.ivs l.length (edgesD l))], .agg [.d (.int .i64 al), .d (.int .i64 st), .d (.ivs l2.length (edgesD l2))]] k = k (.d (.bool true)) hq :=
  kCall_still rfl (ev_i_TracesWithin hn al st l l2 hl hl2 h1 h2 hsub hL) rfl (.inl rfl)
theorem kl_i_TracesWithin {R : Type} {L n : Nat} {k : A → Option R} (hn : 10 ≤ n) (al st : Int) (l l2 : List Edge) (hl : l.length ≤ 4294967296) (hl2 : l2.length ≤ 4294967296) (h1 : sysOK ⟨al, st, l⟩ = true) (h2 : sysOK ⟨al, st, l2⟩ = true) (hsub : ∀ e ∈ l, e ∈ l2) (hL : 2 ^ 60 ≤ L) : kLent (evCall env L n) 18 [.agg [.d (.int .i64 al), .d (.int .i64 st), .d (.ivs l.length (edgesD l))], .agg [.d (.int .i64 al), .d (.int .i64 st), .d (.ivs l2.length (edgesD l2))]] k = k (.d (.bool true)) :=
  kLent_ev (ev_i_TracesWithin hn al st l l2 hl hl2 h1 h2 hsub hL) rfl
theorem kv_i_TracesWithin_1 {R : Type} {L n : Nat} {hq : H} {k : A → H → Option R} {id0 g0 o0 len0 : Nat} {al st : Int} {l2 : List Edge} : kCall env (evCall env L n) hq 18 [.agg [.d (.int .i64 al), .d (.int .i64 st), .sl id0 g0 o0 len0], .agg [.d (.int .i64 al), .d (.int .i64 st), .d (.ivs l2.length (edgesD l2))]] k = match box (lentA hq [.agg [.d (.int .i64 al), .d (.int .i64 st), .sl id0 g0 o0 len0], .agg [.d (.int .i64 al), .d (.int .i64 st), .d (.ivs l2.length (edgesD l2))]]) with
    | .mk (some fs) => kLent (evCall env L n) 18 fs fun r => k r hq
    | _ => none := kCall_lent mode_i_TracesWithin
theorem kv_i_TracesWithin_2 {R : Type} {L n : Nat} {hq : H} {k : A → H → Option R} {id1 g1 o1 len1 : Nat} {al st : Int} {l : List Edge} : kCall env (evCall env L n) hq 18 [.agg [.d (.int .i64 al), .d (.int .i64 st), .d (.ivs l.length (edgesD l))], .agg [.d (.int .i64 al), .d (.int .i64 st), .sl id1 g1 o1 len1]] k = match box (lentA hq [.agg [.d (.int .i64 al), .d (.int .i64 st), .d (.ivs l.length (edgesD l))], .agg [.d (.int .i64 al), .d (.int .i64 st), .sl id1 g1 o1 len1]]) with
    | .mk (some fs) => kLent (evCall env L n) 18 fs fun r => k r hq
    | _ => none := kCall_lent mode_i_TracesWithin
theorem kv_i_TracesWithin_3 {R : Type} {L n : Nat} {hq : H} {k : A → H → Option R} {id1 g1 o1 len1 : Nat} {id0 g0 o0 len0 : Nat} {al st : Int} : kCall env (evCall env L n) hq 18 [.agg [.d (.int .i64 al), .d (.int .i64 st), .sl id0 g0 o0 len0], .agg [.d (.int .i64 al), .d (.int .i64 st), .sl id1 g1 o1 len1]] k = match box (lentA hq [.agg [.d (.int .i64 al), .d (.int .i64 st), .sl id0 g0 o0 len0], .agg [.d (.int .i64 al), .d (.int .i64 st), .sl id1 g1 o1 len1]]) with
    | .mk (some fs) => kLent (evCall env L n) 18 fs fun r => k r hq
    | _ => none := kCall_lent mode_i_TracesWithin

end Ev
end Go.Proofs.YtojaohcpgelhmaaDoor
end

/-!
  The greatest relation between two systems: walked.
-/
section
set_option linter.unusedSimpArgs false
set_option linter.unusedVariables false
set_option maxRecDepth 8000
set_option pp.maxSteps 6000
set_option maxHeartbeats 4000000
namespace Go.Proofs.YtojaohcpgelhmaaDoor
namespace Ev

def relI (rel : List Nat) : List Int := rel.map fun (x : Nat) => (x : Int)
theorem relI_len {rel : List Nat} : (relI rel).length = rel.length := by simp [relI]
theorem relI_get {rel : List Nat} {k : Nat} : (relI rel).getD k 0 = ((rel.getD k 0 : Nat) : Int) := by
  unfold relI
  rw [List.getD_eq_getElem?_getD, List.getD_eq_getElem?_getD, List.getElem?_map]
  cases rel[k]? <;> rfl
theorem relI_set {rel : List Nat} {k v : Nat} : (relI rel).set k (v : Int) = relI (rel.set k v) := by
  unfold relI
  rw [List.map_set]

theorem iAndNot_nat {a j : Nat} (ha : a < 2 ^ 62) (hj : j < 62) : iAndNot .i64 (a : Int) ((2 ^ j : Nat) : Int) = ((clr a j : Nat) : Int) := by
  have h1 := clr_le a j
  have hp : (2 : Nat) ^ j < 2 ^ 62 := Nat.pow_lt_pow_right (by decide) hj
  unfold iAndNot
  have e : (BitVec.ofInt (IntKind.bits .i64) (a : Int) &&& ~~~BitVec.ofInt (IntKind.bits .i64) ((2 ^ j : Nat) : Int)).toNat = clr a j := by
    show (BitVec.ofInt 64 (a : Int) &&& ~~~BitVec.ofInt 64 ((2 ^ j : Nat) : Int)).toNat = clr a j
    rw [BitVec.ofInt_natCast, BitVec.ofInt_natCast, BitVec.toNat_and, BitVec.toNat_not, BitVec.toNat_ofNat, BitVec.toNat_ofNat, Nat.mod_eq_of_lt (by omega), Nat.mod_eq_of_lt (by omega)]
    unfold clr
    congr 1
  rw [e]
  exact i64_id (by omega) (by omega)

theorem loop_ansG {R : Type} {L n : Nat} (hn : 2 ≤ n) {m n' : List Edge} {rel : List Nat} {i j l : Nat} (hn16 : ∀ k, mvAt n' k < 65536) (hri : ∀ k, rel.getD k 0 < 65536) (hrl : rel.length ≤ 16) (hi : i < 16) (hj : j < 16) (hl : l < 6) {ks : List Int} (hks : ∀ k, k < ks.length → 0 ≤ ks.getD k 0 ∧ (ks.getD k 0).toNat < rel.length) (hkl : ks.length ≤ 64) {k : Exit → List A → H → Option R} : ∀ (r q o mm : Nat) (hq : q + r = ks.length) (ho : o < 65536) (hm : r < mm),
    kLoop env (evCall env L n) L 0 [] (true :: true :: true :: true :: true :: true :: false :: false :: false :: false :: false :: false :: true :: true :: true :: false :: false :: true :: false :: false :: false :: false :: false :: false :: false :: false :: false :: true :: true :: true :: false :: false :: false :: false :: false :: false :: false :: false :: false :: false :: false :: false :: false :: false :: false :: false :: false :: false :: false :: false :: false :: false :: false :: false :: false :: false :: false :: false :: false :: false :: false :: false :: false :: false :: false :: false :: false :: []) (lp_i_answers 1) (false :: false :: false :: false :: false :: false :: true :: true :: true :: true :: true :: true :: false :: false :: false :: true :: true :: false :: true :: true :: true :: true :: true :: true :: true :: true :: true :: false :: false :: false :: true :: true :: true :: true :: true :: true :: true :: true :: true :: true :: true :: true :: true :: true :: true :: true :: true :: true :: true :: true :: true :: true :: true :: true :: true :: true :: true :: true :: true :: true :: true :: true :: true :: true :: true :: true :: true :: []) mm (.d (.iptr (mvD m)) :: .d (.iptr (mvD n')) :: .d (.ivs rel.length (ints (relI rel))) :: .d (.int .i64 ((i : Int))) :: .d (.int .i64 ((j : Int))) :: .d (.bool false) :: .junk :: .junk :: .junk :: .junk :: .junk :: .junk :: .d (.bool false) :: .d (.int .i64 ((l : Int))) :: .d (.int .i64 ((o : Int))) :: .junk :: .junk :: .d (.int .i64 ((l : Int))) :: .junk :: .junk :: .junk :: .junk :: .junk :: .junk :: .junk :: .junk :: .junk :: .d (.ivs ks.length (ints ks)) :: .d (.int .i64 (ks.length)) :: .d (.int .i64 ((q : Int))) :: .junk :: .junk :: .junk :: .junk :: .junk :: .junk :: .junk :: .junk :: .junk :: .junk :: .junk :: .junk :: .junk :: .junk :: .junk :: .junk :: .junk :: .junk :: .junk :: .junk :: .junk :: .junk :: .junk :: .junk :: .junk :: .junk :: .junk :: .junk :: .junk :: .junk :: .junk :: .junk :: .junk :: .junk :: .junk :: .junk :: .junk :: []) [] k
    = (if (ansG rel (mvAt n' (j * 6 + l)) ks r q o).1 = true then k (.exit 2) else k .ret) (.d (.iptr (mvD m)) :: .d (.iptr (mvD n')) :: .d (.ivs rel.length (ints (relI rel))) :: .d (.int .i64 ((i : Int))) :: .d (.int .i64 ((j : Int))) :: .d (.bool false) :: .junk :: .junk :: .junk :: .junk :: .junk :: .junk :: .d (.bool false) :: .d (.int .i64 ((l : Int))) :: .d (.int .i64 (((ansG rel (mvAt n' (j * 6 + l)) ks r q o).2.2 : Int))) :: .junk :: .junk :: .d (.int .i64 ((l : Int))) :: .junk :: .junk :: .junk :: .junk :: .junk :: .junk :: .junk :: .junk :: .junk :: .d (.ivs ks.length (ints ks)) :: .d (.int .i64 (ks.length)) :: .d (.int .i64 (((ansG rel (mvAt n' (j * 6 + l)) ks r q o).2.1 : Int))) :: .junk :: .junk :: .junk :: .junk :: .junk :: .junk :: .junk :: .junk :: .junk :: .junk :: .junk :: .junk :: .junk :: .junk :: .junk :: .junk :: .junk :: .junk :: .junk :: .junk :: .junk :: .junk :: .junk :: .junk :: .junk :: .junk :: .junk :: .junk :: .junk :: .junk :: .junk :: .junk :: .junk :: .junk :: .junk :: .junk :: .junk :: []) [] := by
  intro r
  induction r with
  | zero =>
    intro q o mm hq ho hm
    obtain ⟨mm, rfl⟩ : ∃ q, mm = q + 1 := ⟨mm - 1, by omega⟩
    obtain rfl : q = ks.length := by omega
    simp only [ansG, if_true]
    rw [step_i_answers_1]
    simp only [S_i_answers_1, Tryd.f77, SLM, simprocAttr]
    simp -implicitDefEqProofs (maxSteps := 2000000) (disch := first | assumption | (refine Shut.mk ?_; kernel_rfl) | omega | (simp only [GT]; done) | (simp only [LN] <;> omega) | fail) only [↓WD, ↓kAsg, ↓kRet, ↓clash_free, ↓WDD, ↓kOpD_callv, WK, UN, TY, LB, MD, i64_id, simprocAttr, ↓CV, ↓kc_i_members, Int.lt_irrefl]
  | succ r ih =>
    intro q o mm hq ho hm
    obtain ⟨mm, rfl⟩ : ∃ q, mm = q + 1 := ⟨mm - 1, by omega⟩
    have hc : (q : Int) < ks.length := by omega
    have hk : q < ks.length := by omega
    obtain ⟨b0, b1⟩ := hks q hk
    have b2 : (ks.getD q 0).toNat < (relI rel).length := by rw [relI_len]; exact b1
    have b3 : ks.getD q 0 < (rel.length : Int) := by omega
    have hr1 := hri (ks.getD q 0).toNat
    have hr2 := hn16 (j * 6 + l)
    have hkk : j * 6 + l < 96 := by omega
    have hd1 : l ≤ 96 - j * 6 := by omega
    have hd2 : j * 6 ≤ 96 := by omega
    have hj2 : (j : Int) < 16 := by omega
    have hl2 : (l : Int) < 6 := by omega
    have e1 : iAnd .i64 ((rel.getD (ks.getD q 0).toNat 0 : Nat) : Int) ((mvAt n' (j * 6 + l) : Nat) : Int) = ((rel.getD (ks.getD q 0).toNat 0 &&& mvAt n' (j * 6 + l) : Nat) : Int) := iAnd_nat (by omega) (by omega)
    have e2 : iOr .i64 (o : Int) ((rel.getD (ks.getD q 0).toNat 0 : Nat) : Int) = ((o ||| rel.getD (ks.getD q 0).toNat 0 : Nat) : Int) := iOr_nat (by omega) (by omega)
    have e4 : ((q + 1 : Nat) : Int) = (q : Int) + 1 := by omega
    unfold ansG
    by_cases hz : rel.getD (ks.getD q 0).toNat 0 &&& mvAt n' (j * 6 + l) = 0
    · have hz2 : ((rel.getD (ks.getD q 0).toNat 0 &&& mvAt n' (j * 6 + l) : Nat) : Int) = 0 := by omega
      simp only [hz, if_true, Bool.false_eq_true, if_false]
      clear ih
      rw [step_i_answers_1]
      simp only [S_i_answers_1, Tryd.f77, SLM, simprocAttr]
      simp -implicitDefEqProofs (maxSteps := 2000000) (disch := first | assumption | (refine Shut.mk ?_; kernel_rfl) | omega | (simp only [GT]; done) | (simp only [LN] <;> omega) | fail) only [↓WD, ↓kAsg, ↓kRet, ↓clash_free, ↓WDD, ↓kOpD_callv, WK, UN, TY, LB, MD, i64_id, simprocAttr, ↓CV, ↓kc_i_members, hc, b0, b3, hj2, hl2, hd1, hd2, e1, hz2, relI_len, relI_get, Int.toNat_natCast, mvD_len, List.length_drop, List.drop_drop, mv_headD]
    · have hz2 : ¬ ((rel.getD (ks.getD q 0).toNat 0 &&& mvAt n' (j * 6 + l) : Nat) : Int) = 0 := by omega
      have ih' := ih (q + 1) (o ||| rel.getD (ks.getD q 0).toNat 0) mm (by omega) (Nat.or_lt_two_pow (n := 16) ho hr1) (by omega)
      rw [e4] at ih'
      simp only [hz, if_false]
      clear ih
      rw [step_i_answers_1]
      simp only [S_i_answers_1, Tryd.f77, SLM, simprocAttr]
      simp -implicitDefEqProofs (maxSteps := 2000000) (disch := first | assumption | (refine Shut.mk ?_; kernel_rfl) | omega | (simp only [GT]; done) | (simp only [LN] <;> omega) | fail) only [↓WD, ↓kAsg, ↓kRet, ↓clash_free, ↓WDD, ↓kOpD_callv, WK, UN, TY, LB, MD, i64_id, simprocAttr, ↓CV, ↓kc_i_members, hc, b0, b3, hj2, hl2, hd1, hd2, e1, e2, hz2, relI_len, relI_get, Int.toNat_natCast, mvD_len, List.length_drop, List.drop_drop, mv_headD, ↓ih']

theorem loop_ansH {R : Type} {L n : Nat} (hn : 3 ≤ n) (hL : 2 ^ 60 ≤ L) {m n' : List Edge} {rel : List Nat} {i j : Nat} (hm16 : ∀ k, mvAt m k < 65536) (hn16 : ∀ k, mvAt n' k < 65536) (hri : ∀ k, rel.getD k 0 < 65536) (hrl : rel.length ≤ 16) (hi : i < 16) (hj : j < 16) (hmr : ∀ k, mvAt m k < 2 ^ rel.length) {k : Exit → List A → H → Option R} : ∀ (r l mm : Nat) (hq : l + r = 6) (hm : r < mm),
    kLoop env (evCall env L n) L 0 [] (true :: true :: true :: true :: true :: true :: false :: false :: false :: false :: false :: false :: true :: true :: true :: false :: false :: true :: false :: false :: false :: false :: false :: false :: false :: false :: false :: true :: true :: true :: false :: false :: false :: false :: false :: false :: false :: false :: false :: false :: false :: false :: false :: false :: false :: false :: false :: false :: false :: false :: false :: false :: false :: false :: false :: false :: false :: false :: false :: false :: false :: false :: false :: false :: false :: false :: false :: []) (lp_i_answers 0) (false :: false :: false :: false :: false :: false :: true :: true :: true :: true :: true :: true :: false :: true :: true :: true :: true :: false :: true :: true :: true :: true :: true :: true :: true :: true :: true :: true :: true :: true :: true :: true :: true :: true :: true :: true :: true :: true :: true :: true :: true :: true :: true :: true :: true :: true :: true :: true :: true :: true :: true :: true :: true :: true :: true :: true :: true :: true :: true :: true :: true :: true :: true :: true :: true :: true :: true :: []) mm (.d (.iptr (mvD m)) :: .d (.iptr (mvD n')) :: .d (.ivs rel.length (ints (relI rel))) :: .d (.int .i64 ((i : Int))) :: .d (.int .i64 ((j : Int))) :: .d (.bool false) :: .junk :: .junk :: .junk :: .junk :: .junk :: .junk :: .d (.bool false) :: .junk :: .junk :: .junk :: .junk :: .d (.int .i64 ((l : Int))) :: .junk :: .junk :: .junk :: .junk :: .junk :: .junk :: .junk :: .junk :: .junk :: .junk :: .junk :: .junk :: .junk :: .junk :: .junk :: .junk :: .junk :: .junk :: .junk :: .junk :: .junk :: .junk :: .junk :: .junk :: .junk :: .junk :: .junk :: .junk :: .junk :: .junk :: .junk :: .junk :: .junk :: .junk :: .junk :: .junk :: .junk :: .junk :: .junk :: .junk :: .junk :: .junk :: .junk :: .junk :: .junk :: .junk :: .junk :: .junk :: .junk :: []) [] k
    = if (ansH m n' rel i j r l).1 = true then k (.exit 0) (.d (.iptr (mvD m)) :: .d (.iptr (mvD n')) :: .d (.ivs rel.length (ints (relI rel))) :: .d (.int .i64 ((i : Int))) :: .d (.int .i64 ((j : Int))) :: .d (.bool false) :: .junk :: .junk :: .junk :: .junk :: .junk :: .junk :: .d (.bool false) :: .junk :: .junk :: .junk :: .junk :: .d (.int .i64 6) :: .junk :: .junk :: .junk :: .junk :: .junk :: .junk :: .junk :: .junk :: .junk :: .junk :: .junk :: .junk :: .junk :: .junk :: .junk :: .junk :: .junk :: .junk :: .junk :: .junk :: .junk :: .junk :: .junk :: .junk :: .junk :: .junk :: .junk :: .junk :: .junk :: .junk :: .junk :: .junk :: .junk :: .junk :: .junk :: .junk :: .junk :: .junk :: .junk :: .junk :: .junk :: .junk :: .junk :: .junk :: .junk :: .junk :: .junk :: .junk :: .junk :: []) [] else k .ret (.d (.iptr (mvD m)) :: .d (.iptr (mvD n')) :: .d (.ivs rel.length (ints (relI rel))) :: .d (.int .i64 ((i : Int))) :: .d (.int .i64 ((j : Int))) :: .d (.bool false) :: .junk :: .junk :: .junk :: .junk :: .junk :: .junk :: .d (.bool false) :: .junk :: .junk :: .junk :: .junk :: .d (.int .i64 (((ansH m n' rel i j r l).2 : Int))) :: .junk :: .junk :: .junk :: .junk :: .junk :: .junk :: .junk :: .junk :: .junk :: .junk :: .junk :: .junk :: .junk :: .junk :: .junk :: .junk :: .junk :: .junk :: .junk :: .junk :: .junk :: .junk :: .junk :: .junk :: .junk :: .junk :: .junk :: .junk :: .junk :: .junk :: .junk :: .junk :: .junk :: .junk :: .junk :: .junk :: .junk :: .junk :: .junk :: .junk :: .junk :: .junk :: .junk :: .junk :: .junk :: .junk :: .junk :: .junk :: .junk :: []) [] := by
  intro r
  induction r with
  | zero =>
    intro l mm hq hm
    obtain ⟨mm, rfl⟩ : ∃ q, mm = q + 1 := ⟨mm - 1, by omega⟩
    obtain rfl : l = 6 := by omega
    have e6 : ((6 : Nat) : Int) = 6 := rfl
    simp only [ansH, if_true]
    rw [step_i_answers_0]
    simp only [S_i_answers_0, Tryd.f77, SLM, simprocAttr]
    simp -implicitDefEqProofs (maxSteps := 2000000) (disch := first | assumption | (refine Shut.mk ?_; kernel_rfl) | omega | (simp only [GT]; done) | (simp only [LN] <;> omega) | fail) only [↓WD, ↓kAsg, ↓kRet, ↓clash_free, ↓WDD, ↓kOpD_callv, WK, UN, TY, LB, MD, i64_id, simprocAttr, ↓CV, ↓kc_i_members, e6, Int.lt_irrefl]
  | succ r ih =>
    intro l mm hq hm
    obtain ⟨mm, rfl⟩ : ∃ q, mm = q + 1 := ⟨mm - 1, by omega⟩
    have hl : l < 6 := by omega
    have hl2 : (l : Int) < 6 := by omega
    have hi2 : (i : Int) < 16 := by omega
    have hmv := hm16 (i * 6 + l)
    have hkk : i * 6 + l < 96 := by omega
    have hd1 : l ≤ 96 - i * 6 := by omega
    have hd2 : i * 6 ≤ 96 := by omega
    have hks : ∀ k, k < (memG (mvAt m (i * 6 + l)) (mvAt m (i * 6 + l))).length → 0 ≤ (memG (mvAt m (i * 6 + l)) (mvAt m (i * 6 + l))).getD k 0 ∧ ((memG (mvAt m (i * 6 + l)) (mvAt m (i * 6 + l))).getD k 0).toNat < rel.length := by
      intro k hk
      obtain ⟨a1, a2, a3⟩ := memG_get hmv k hk
      refine ⟨a2, ?_⟩
      apply Nat.lt_of_not_le
      intro hge
      have := Nat.testBit_lt_two_pow (x := mvAt m (i * 6 + l)) (i := ((memG (mvAt m (i * 6 + l)) (mvAt m (i * 6 + l))).getD k 0).toNat) (Nat.lt_of_lt_of_le (hmr _) (Nat.pow_le_pow_right (n := 2) (by decide) hge))
      rw [this] at a3; cases a3
    have hkl := memG_len 16 (mvAt m (i * 6 + l)) (mvAt m (i * 6 + l)) hmv (by omega)
    have loop_g := fun {R : Type} {n : Nat} (hn : 2 ≤ n) {k : Exit → List A → H → Option R} => @loop_ansG R L n hn m n' rel i j l hn16 hri hrl hi hj hl (memG (mvAt m (i * 6 + l)) (mvAt m (i * 6 + l))) hks (by omega) k (memG (mvAt m (i * 6 + l)) (mvAt m (i * 6 + l))).length 0 0 L (by omega) (by omega) (by omega)
    simp only [Int.natCast_zero] at loop_g
    have e4 : ((l + 1 : Nat) : Int) = (l : Int) + 1 := by omega
    have ih' := ih (l + 1) mm (by omega) (by omega)
    rw [e4] at ih'
    clear ih hks hkl
    unfold ansH
    generalize ansG rel (mvAt n' (j * 6 + l)) (memG (mvAt m (i * 6 + l)) (mvAt m (i * 6 + l))) (memG (mvAt m (i * 6 + l)) (mvAt m (i * 6 + l))).length 0 0 = w at *
    obtain ⟨b, w1, w2⟩ := w
    cases b with
    | true =>
      simp only [if_true] at loop_g ⊢
      rw [step_i_answers_0]
      simp only [S_i_answers_0, Tryd.f77, SLM, simprocAttr]
      simp -implicitDefEqProofs (maxSteps := 2000000) (disch := first | assumption | (refine Shut.mk ?_; kernel_rfl) | omega | (simp only [GT]; done) | (simp only [LN] <;> omega) | fail) only [↓WD, ↓kAsg, ↓kRet, ↓clash_free, ↓WDD, ↓kOpD_callv, WK, UN, TY, LB, MD, i64_id, simprocAttr, ↓CV, ↓kc_i_members, hl2, hi2, hd1, hd2, hmv, Int.toNat_natCast, mvD_len, List.length_drop, List.drop_drop, mv_headD, ↓loop_g, ↓ih']
    | false =>
      simp only [Bool.false_eq_true, if_false] at loop_g ⊢
      clear ih'
      rw [step_i_answers_0]
      simp only [S_i_answers_0, Tryd.f77, SLM, simprocAttr]
      simp -implicitDefEqProofs (maxSteps := 2000000) (disch := first | assumption | (refine Shut.mk ?_; kernel_rfl) | omega | (simp only [GT]; done) | (simp only [LN] <;> omega) | fail) only [↓WD, ↓kAsg, ↓kRet, ↓clash_free, ↓WDD, ↓kOpD_callv, WK, UN, TY, LB, MD, i64_id, simprocAttr, ↓CV, ↓kc_i_members, hl2, hi2, hd1, hd2, hmv, Int.toNat_natCast, mvD_len, List.length_drop, List.drop_drop, mv_headD, ↓loop_g]

theorem ev_i_answers {L n : Nat} (hn : 4 ≤ n) (hL : 2 ^ 60 ≤ L) (m n' : List Edge) (rel : List Nat) (i j : Nat) (hm16 : ∀ k, mvAt m k < 65536) (hn16 : ∀ k, mvAt n' k < 65536) (hri : ∀ k, rel.getD k 0 < 65536) (hrl : rel.length ≤ 16) (hi : i < 16) (hj : j < 16) (hmr : ∀ k, mvAt m k < 2 ^ rel.length) :
    evCall env L n 77 [.d (.iptr (mvD m)), .d (.iptr (mvD n')), .d (.ivs rel.length (ints (relI rel))), .d (.int .i64 (i : Nat)), .d (.int .i64 (j : Nat)), .d (.bool false)] [] = some (.d (.bool (ansB m n' rel i j)), []) := by
  have loop_h := fun {R : Type} {n : Nat} (hn : 3 ≤ n) {k : Exit → List A → H → Option R} => @loop_ansH R L n hn hL m n' rel i j hm16 hn16 hri hrl hi hj hmr k 6 0 L (by omega) (by omega)
  simp only [Int.natCast_zero] at loop_h
  unfold ansB
  generalize ansH m n' rel i j 6 0 = w at *
  obtain ⟨b, w1⟩ := w
  cases b with
  | true =>
    simp only [if_true] at loop_h
    obtain ⟨n, rfl⟩ : ∃ m, n = m + 1 := ⟨n - 1, by omega⟩
    rw [fn_i_answers]
    simp only [S_i_answers, Tryd.f77, SLM, simprocAttr]
    simp -implicitDefEqProofs (maxSteps := 2000000) (disch := first | assumption | (refine Shut.mk ?_; kernel_rfl) | omega | (simp only [GT]; done) | (simp only [LN] <;> omega) | fail) only [↓WD, ↓kAsg, ↓kRet, ↓clash_free, ↓WDD, ↓kOpD_callv, WK, UN, TY, LB, MD, i64_id, simprocAttr, ↓CV, ↓kc_i_members, ↓loop_h]
  | false =>
    simp only [Bool.false_eq_true, if_false] at loop_h
    obtain ⟨n, rfl⟩ : ∃ m, n = m + 1 := ⟨n - 1, by omega⟩
    rw [fn_i_answers]
    simp only [S_i_answers, Tryd.f77, SLM, simprocAttr]
    simp -implicitDefEqProofs (maxSteps := 2000000) (disch := first | assumption | (refine Shut.mk ?_; kernel_rfl) | omega | (simp only [GT]; done) | (simp only [LN] <;> omega) | fail) only [↓WD, ↓kAsg, ↓kRet, ↓clash_free, ↓WDD, ↓kOpD_callv, WK, UN, TY, LB, MD, i64_id, simprocAttr, ↓CV, ↓kc_i_members, ↓loop_h]

theorem ints_spliceR {t : List Int} {k : Nat} {v : Int} (h : k < t.length) : List.take k (ints t) ++ [.int .i64 v] ++ List.drop (k + 1) (ints t) = ints (t.set k v) := ints_set h

theorem kv_i_answers_g {R : Type} {L n : Nat} {hq : H} {k : A → H → Option R} {a b c d e : A} {id g o len : Nat} : kCall env (evCall env L n) hq 77 [a, b, .sl id g o len, c, d, e] k = match box (lentA hq [a, b, .sl id g o len, c, d, e]) with
    | .mk (some fs) => kLent (evCall env L n) 77 fs fun r => k r hq
    | _ => none := kCall_lent mode_i_answers

theorem loop_relA {R : Type} {L n : Nat} (hn : 1 ≤ n) {mD nD : List D} {al : Int} {w full : Nat} {y : D} (hw : w ≤ 16) (hf : IntKind.i64.wrap (1 * 2 ^ w) - 1 = (full : Int)) (hf2 : full < 65536) {k : Exit → List A → H → Option R} : ∀ (j i m : Nat) (o : List Nat) (hi : i + j = o.length) (ho : o.length ≤ 16) (hm : j < m),
    kLoop env (evCall env L n) L 0 [] (false :: false :: true :: false :: true :: false :: true :: true :: true :: true :: false :: true :: true :: false :: false :: false :: false :: false :: false :: false :: false :: false :: false :: false :: true :: true :: false :: false :: false :: false :: false :: false :: false :: false :: false :: false :: true :: true :: true :: false :: false :: false :: false :: false :: true :: true :: true :: false :: false :: false :: false :: false :: false :: false :: false :: false :: false :: false :: false :: false :: false :: false :: false :: false :: false :: false :: false :: false :: false :: false :: false :: []) (lp_i_greatestRelation 0) (true :: true :: false :: true :: false :: true :: false :: false :: false :: false :: true :: true :: true :: true :: true :: true :: true :: true :: true :: true :: true :: true :: true :: true :: false :: false :: true :: true :: true :: true :: true :: true :: true :: true :: true :: true :: true :: true :: true :: true :: true :: true :: true :: true :: true :: true :: true :: true :: true :: true :: true :: true :: true :: true :: true :: true :: true :: true :: true :: true :: true :: true :: true :: true :: true :: true :: true :: true :: true :: true :: true :: []) m (.junk :: .junk :: .d (.bool false) :: .junk :: .ptr 0 0 0 :: .junk :: .d .nils :: .d (.iptr mD) :: .d (.iptr nD) :: .sl 1 0 0 o.length :: .junk :: .junk :: .junk :: .junk :: .junk :: .junk :: .junk :: .junk :: .junk :: .junk :: .junk :: .junk :: .junk :: .junk :: .d (.int .i64 (o.length)) :: .d (.int .i64 ((i : Int))) :: .junk :: .junk :: .junk :: .junk :: .junk :: .junk :: .junk :: .junk :: .junk :: .junk :: .junk :: .junk :: .junk :: .junk :: .junk :: .junk :: .junk :: .junk :: .junk :: .junk :: .junk :: .junk :: .junk :: .junk :: .junk :: .junk :: .junk :: .junk :: .junk :: .junk :: .junk :: .junk :: .junk :: .junk :: .junk :: .junk :: .junk :: .junk :: .junk :: .junk :: .junk :: .junk :: .junk :: .junk :: .junk :: []) [.box [.d (.int .i64 al), .d (.int .i64 (w : Int)), .d y], .arr (ints (relI o)) 1 0] k
    = k (.exit 0) (.junk :: .junk :: .d (.bool false) :: .junk :: .ptr 0 0 0 :: .junk :: .d .nils :: .d (.iptr mD) :: .d (.iptr nD) :: .sl 1 0 0 o.length :: .junk :: .junk :: .junk :: .junk :: .junk :: .junk :: .junk :: .junk :: .junk :: .junk :: .junk :: .junk :: .junk :: .junk :: .d (.int .i64 (o.length)) :: .d (.int .i64 (o.length)) :: .junk :: .junk :: .junk :: .junk :: .junk :: .junk :: .junk :: .junk :: .junk :: .junk :: .junk :: .junk :: .junk :: .junk :: .junk :: .junk :: .junk :: .junk :: .junk :: .junk :: .junk :: .junk :: .junk :: .junk :: .junk :: .junk :: .junk :: .junk :: .junk :: .junk :: .junk :: .junk :: .junk :: .junk :: .junk :: .junk :: .junk :: .junk :: .junk :: .junk :: .junk :: .junk :: .junk :: .junk :: .junk :: []) [.box [.d (.int .i64 al), .d (.int .i64 (w : Int)), .d y], .arr (ints (relI (o.take i ++ List.replicate j full))) 1 0] := by
  intro j
  induction j with
  | zero =>
    intro i m o hi ho hm
    obtain ⟨m, rfl⟩ : ∃ q, m = q + 1 := ⟨m - 1, by omega⟩
    obtain rfl : i = o.length := by omega
    rw [step_i_greatestRelation_0]
    simp only [S_i_greatestRelation_0, Tryd.f56, SLM, simprocAttr]
    simp -implicitDefEqProofs (maxSteps := 2000000) (disch := first | assumption | (refine Shut.mk ?_; kernel_rfl) | omega | (simp only [GT]; done) | (simp only [LN] <;> omega) | fail) only [↓WD, ↓kAsg, ↓kRet, ↓clash_free, ↓WDD, ↓kOpD_callv, WK, UN, TY, LB, MD, i64_id, simprocAttr, ↓CV, ↓kc_i_movesOf, ↓kc_i_members, Int.lt_irrefl]
  | succ j ih =>
    intro i m o hi ho hm
    obtain ⟨m, rfl⟩ : ∃ q, m = q + 1 := ⟨m - 1, by omega⟩
    have hc : (i : Int) < o.length := by omega
    have hk : i < o.length := by omega
    have hk2 : i < (relI o).length := by rw [relI_len]; exact hk
    have e1 : min w 64 = w := by omega
    have e5 : IntKind.i64.wrap (IntKind.i64.wrap (1 * 2 ^ w) - 1) = (full : Int) := by rw [hf]; exact i64_id (by omega) (by omega)
    have ih' := ih (i + 1) m (o.set i full) (by rw [List.length_set]; omega) (by rw [List.length_set]; exact ho) (by omega)
    have e4 : ((i + 1 : Nat) : Int) = (i : Int) + 1 := by omega
    rw [e4, List.length_set] at ih'
    have hw64 : (0 : Int) ≤ w := by omega
    clear ih
    rw [step_i_greatestRelation_0]
    simp only [S_i_greatestRelation_0, Tryd.f56, SLM, simprocAttr]
    simp -implicitDefEqProofs (maxSteps := 2000000) (disch := first | assumption | (refine Shut.mk ?_; kernel_rfl) | omega | (simp only [GT]; done) | (simp only [LN] <;> omega) | fail) only [↓WD, ↓kAsg, ↓kRet, ↓clash_free, ↓WDD, ↓kOpD_callv, WK, UN, TY, LB, MD, i64_id, simprocAttr, ↓CV, ↓kc_i_movesOf, ↓kc_i_members, hc, e1, e5, bits64, ↓st_int1, relI_set, relI_len, Int.toNat_natCast, ↓ih']
    rw [take_set hk, List.append_assoc]
    simp only [List.cons_append, List.nil_append]

theorem loop_relJ {R : Type} {L n : Nat} (hn : 5 ≤ n) (hL : 2 ^ 60 ≤ L) {m n' : List Edge} {tc : List D} {st i : Nat} (hst : st ≤ 16) (hi : i < st) (hm16 : ∀ k, mvAt m k < 65536) (hn16 : ∀ k, mvAt n' k < 65536) (hmr : ∀ k, mvAt m k < 2 ^ st) {js : List Int} (hjs : ∀ k, k < js.length → 0 ≤ js.getD k 0 ∧ (js.getD k 0).toNat < 16) (hjl : js.length ≤ 64) {k : Exit → List A → H → Option R} : ∀ (r q mm : Nat) (rel : List Nat) (b : Bool) (hq : q + r = js.length) (hm : r < mm) (hr : RI st rel),
    kLoop env (evCall env L n) L 0 [] (false :: false :: true :: false :: true :: false :: true :: true :: true :: true :: false :: true :: true :: false :: false :: false :: false :: false :: false :: false :: false :: false :: false :: false :: true :: true :: false :: false :: false :: false :: false :: false :: false :: false :: false :: false :: true :: true :: true :: false :: false :: false :: false :: false :: true :: true :: true :: false :: false :: false :: false :: false :: false :: false :: false :: false :: false :: false :: false :: false :: false :: false :: false :: false :: false :: false :: false :: false :: false :: false :: false :: []) (lp_i_greatestRelation 3) (true :: true :: false :: true :: false :: true :: false :: false :: false :: false :: true :: false :: false :: true :: true :: true :: true :: true :: true :: true :: true :: true :: true :: true :: false :: false :: true :: true :: true :: true :: true :: true :: true :: true :: true :: true :: false :: false :: false :: true :: true :: true :: true :: true :: false :: false :: false :: true :: true :: true :: true :: true :: true :: true :: true :: true :: true :: true :: true :: true :: true :: true :: true :: true :: true :: true :: true :: true :: true :: true :: true :: []) mm (.junk :: .junk :: .d (.bool false) :: .junk :: .ptr 0 0 0 :: .junk :: .d .nils :: .d (.iptr (mvD m)) :: .d (.iptr (mvD n')) :: .sl 1 0 0 st :: .junk :: .d (.bool b) :: .d (.int .i64 ((i : Int))) :: .junk :: .junk :: .junk :: .junk :: .junk :: .junk :: .junk :: .junk :: .junk :: .junk :: .junk :: .d (.int .i64 st) :: .d (.int .i64 st) :: .junk :: .junk :: .junk :: .junk :: .junk :: .junk :: .junk :: .junk :: .junk :: .junk :: .sl 1 0 0 st :: .d (.int .i64 st) :: .d (.int .i64 ((i : Int))) :: .junk :: .junk :: .junk :: .junk :: .junk :: .d (.ivs js.length (ints js)) :: .d (.int .i64 (js.length)) :: .d (.int .i64 ((q : Int))) :: .junk :: .junk :: .junk :: .junk :: .junk :: .junk :: .junk :: .junk :: .junk :: .junk :: .junk :: .junk :: .junk :: .junk :: .junk :: .junk :: .junk :: .junk :: .junk :: .junk :: .junk :: .junk :: .junk :: .junk :: []) [.box (tc.map A.d), .arr (ints (relI rel)) 1 0] k
    = k (.exit 6) (.junk :: .junk :: .d (.bool false) :: .junk :: .ptr 0 0 0 :: .junk :: .d .nils :: .d (.iptr (mvD m)) :: .d (.iptr (mvD n')) :: .sl 1 0 0 st :: .junk :: .d (.bool ((relJ m n' i js r q (rel, b)).2)) :: .d (.int .i64 ((i : Int))) :: .junk :: .junk :: .junk :: .junk :: .junk :: .junk :: .junk :: .junk :: .junk :: .junk :: .junk :: .d (.int .i64 st) :: .d (.int .i64 st) :: .junk :: .junk :: .junk :: .junk :: .junk :: .junk :: .junk :: .junk :: .junk :: .junk :: .sl 1 0 0 st :: .d (.int .i64 st) :: .d (.int .i64 ((i : Int))) :: .junk :: .junk :: .junk :: .junk :: .junk :: .d (.ivs js.length (ints js)) :: .d (.int .i64 (js.length)) :: .d (.int .i64 (js.length)) :: .junk :: .junk :: .junk :: .junk :: .junk :: .junk :: .junk :: .junk :: .junk :: .junk :: .junk :: .junk :: .junk :: .junk :: .junk :: .junk :: .junk :: .junk :: .junk :: .junk :: .junk :: .junk :: .junk :: .junk :: []) [.box (tc.map A.d), .arr (ints (relI (relJ m n' i js r q (rel, b)).1)) 1 0] := by
  intro r
  induction r with
  | zero =>
    intro q mm rel b hq hm hr
    obtain ⟨mm, rfl⟩ : ∃ q, mm = q + 1 := ⟨mm - 1, by omega⟩
    obtain rfl : q = js.length := by omega
    simp only [relJ]
    rw [step_i_greatestRelation_3]
    simp only [S_i_greatestRelation_3, Tryd.f56, SLM, simprocAttr]
    simp -implicitDefEqProofs (maxSteps := 2000000) (disch := first | assumption | (refine Shut.mk ?_; kernel_rfl) | omega | (simp only [GT]; done) | (simp only [LN] <;> omega) | fail) only [↓WD, ↓kAsg, ↓kRet, ↓clash_free, ↓WDD, ↓kOpD_callv, WK, UN, TY, LB, MD, i64_id, simprocAttr, ↓CV, ↓kc_i_movesOf, ↓kc_i_members, Int.lt_irrefl, idsL_ds, mapAs_ds, calmAs_ds]
  | succ r ih =>
    intro q mm rel b hq hm hr
    obtain ⟨mm, rfl⟩ : ∃ q, mm = q + 1 := ⟨mm - 1, by omega⟩
    have hc : (q : Int) < js.length := by omega
    have hk : q < js.length := by omega
    obtain ⟨b0, b1⟩ := hjs q hk
    have hrl := hr.len
    have hi2 : (i : Int) < st := by omega
    have hik : i < (relI rel).length := by rw [relI_len]; omega
    have hra := hr.all i
    have e1 : min (js.getD q 0).toNat 64 = (js.getD q 0).toNat := by omega
    have e2 : (2 : Nat) ^ (js.getD q 0).toNat ≤ 2 ^ 15 := Nat.pow_le_pow_right (by omega) (by omega)
    have e3 : IntKind.i64.wrap (1 * 2 ^ (js.getD q 0).toNat) = ((2 ^ (js.getD q 0).toNat : Nat) : Int) := by
      have : (1 : Int) * 2 ^ (js.getD q 0).toNat = ((2 ^ (js.getD q 0).toNat : Nat) : Int) := by simp
      rw [this]
      generalize (2 : Nat) ^ (js.getD q 0).toNat = p at e2
      exact i64_id (by omega) (by omega)
    have e5 : iAndNot .i64 ((rel.getD i 0 : Nat) : Int) ((2 ^ (js.getD q 0).toNat : Nat) : Int) = ((clr (rel.getD i 0) (js.getD q 0).toNat : Nat) : Int) := iAndNot_nat (by omega) (by omega)
    have e4 : ((q + 1 : Nat) : Int) = (q : Int) + 1 := by omega
    have ejs : ((js.getD q 0).toNat : Int) = js.getD q 0 := by omega
    have kl_a := fun {R : Type} {n : Nat} {k : A → Option R} (hn : 4 ≤ n) => kLent_ev (k := k) (ev_i_answers (n := n) hn hL m n' rel i (js.getD q 0).toNat hm16 hn16 hr.all (by omega) (by omega) b1 (by rw [hrl]; exact hmr)) rfl
    simp only [ejs, hrl] at kl_a
    have het : (ints (relI rel)).take st = ints (relI rel) := ints_take (by rw [relI_len]; omega)
    have hel : (relI rel).length = st := by rw [relI_len]; exact hrl
    simp only [relJ]
    cases ha : ansB m n' rel i (js.getD q 0).toNat with
    | true =>
      have ih' := ih (q + 1) mm rel b (by omega) (by omega) hr
      rw [e4] at ih'
      simp only [if_true]
      clear ih e2
      rw [step_i_greatestRelation_3]
      simp only [S_i_greatestRelation_3, Tryd.f56, SLM, simprocAttr]
      simp -implicitDefEqProofs (maxSteps := 2000000) (disch := first | assumption | (refine Shut.mk ?_; kernel_rfl) | omega | (simp only [GT]; done) | (simp only [LN] <;> omega) | fail) only [↓WD, ↓kAsg, ↓kRet, ↓clash_free, ↓WDD, ↓kOpD_callv, WK, UN, TY, LB, MD, i64_id, simprocAttr, ↓CV, ↓kc_i_movesOf, ↓kc_i_members, hc, b0, hi2, ↓kv_i_answers_g, het, hel, ↓kl_a, ha, Int.toNat_natCast, idsL_ds, mapAs_ds, calmAs_ds, ↓ih']
    | false =>
      have ih' := ih (q + 1) mm (rel.set i (clr (rel.getD i 0) (js.getD q 0).toNat)) true (by omega) (by omega) (ri_clr hr i _)
      rw [e4] at ih'
      simp only [Bool.false_eq_true, if_false]
      clear ih e2
      rw [step_i_greatestRelation_3]
      simp only [S_i_greatestRelation_3, Tryd.f56, SLM, simprocAttr]
      simp -implicitDefEqProofs (maxSteps := 2000000) (disch := first | assumption | (refine Shut.mk ?_; kernel_rfl) | omega | (simp only [GT]; done) | (simp only [LN] <;> omega) | fail) only [↓WD, ↓kAsg, ↓kRet, ↓clash_free, ↓WDD, ↓kOpD_callv, WK, UN, TY, LB, MD, i64_id, simprocAttr, ↓CV, ↓kc_i_movesOf, ↓kc_i_members, hc, b0, hi2, ↓kv_i_answers_g, het, hel, ↓kl_a, ha, e1, e3, e5, relI_get, ints_spliceR, relI_set, relI_len, bits64, Int.toNat_natCast, idsL_ds, mapAs_ds, calmAs_ds, ↓ih']

theorem loop_relO {R : Type} {L n : Nat} (hn : 6 ≤ n) (hL : 2 ^ 60 ≤ L) {m n' : List Edge} {tc : List D} {st : Nat} (hst : st ≤ 16) (hm16 : ∀ k, mvAt m k < 65536) (hn16 : ∀ k, mvAt n' k < 65536) (hmr : ∀ k, mvAt m k < 2 ^ st) {k : Exit → List A → H → Option R} : ∀ (r i mm : Nat) (rel : List Nat) (b : Bool) (hq : i + r = st) (hm : r < mm) (hr : RI st rel),
    kLoop env (evCall env L n) L 0 [] (false :: false :: true :: false :: true :: false :: true :: true :: true :: true :: false :: true :: true :: false :: false :: false :: false :: false :: false :: false :: false :: false :: false :: false :: true :: true :: false :: false :: false :: false :: false :: false :: false :: false :: false :: false :: true :: true :: true :: false :: false :: false :: false :: false :: true :: true :: true :: false :: false :: false :: false :: false :: false :: false :: false :: false :: false :: false :: false :: false :: false :: false :: false :: false :: false :: false :: false :: false :: false :: false :: false :: []) (lp_i_greatestRelation 2) (true :: true :: false :: true :: false :: true :: false :: false :: false :: false :: true :: false :: true :: true :: true :: true :: true :: true :: true :: true :: true :: true :: true :: true :: false :: false :: true :: true :: true :: true :: true :: true :: true :: true :: true :: true :: false :: false :: false :: true :: true :: true :: true :: true :: true :: true :: true :: true :: true :: true :: true :: true :: true :: true :: true :: true :: true :: true :: true :: true :: true :: true :: true :: true :: true :: true :: true :: true :: true :: true :: true :: []) mm (.junk :: .junk :: .d (.bool false) :: .junk :: .ptr 0 0 0 :: .junk :: .d .nils :: .d (.iptr (mvD m)) :: .d (.iptr (mvD n')) :: .sl 1 0 0 st :: .junk :: .d (.bool b) :: .junk :: .junk :: .junk :: .junk :: .junk :: .junk :: .junk :: .junk :: .junk :: .junk :: .junk :: .junk :: .d (.int .i64 st) :: .d (.int .i64 st) :: .junk :: .junk :: .junk :: .junk :: .junk :: .junk :: .junk :: .junk :: .junk :: .junk :: .sl 1 0 0 st :: .d (.int .i64 st) :: .d (.int .i64 ((i : Int))) :: .junk :: .junk :: .junk :: .junk :: .junk :: .junk :: .junk :: .junk :: .junk :: .junk :: .junk :: .junk :: .junk :: .junk :: .junk :: .junk :: .junk :: .junk :: .junk :: .junk :: .junk :: .junk :: .junk :: .junk :: .junk :: .junk :: .junk :: .junk :: .junk :: .junk :: .junk :: .junk :: []) [.box (tc.map A.d), .arr (ints (relI rel)) 1 0] k
    = k (.exit 4) (.junk :: .junk :: .d (.bool false) :: .junk :: .ptr 0 0 0 :: .junk :: .d .nils :: .d (.iptr (mvD m)) :: .d (.iptr (mvD n')) :: .sl 1 0 0 st :: .junk :: .d (.bool ((relO m n' r i (rel, b)).2)) :: .junk :: .junk :: .junk :: .junk :: .junk :: .junk :: .junk :: .junk :: .junk :: .junk :: .junk :: .junk :: .d (.int .i64 st) :: .d (.int .i64 st) :: .junk :: .junk :: .junk :: .junk :: .junk :: .junk :: .junk :: .junk :: .junk :: .junk :: .sl 1 0 0 st :: .d (.int .i64 st) :: .d (.int .i64 st) :: .junk :: .junk :: .junk :: .junk :: .junk :: .junk :: .junk :: .junk :: .junk :: .junk :: .junk :: .junk :: .junk :: .junk :: .junk :: .junk :: .junk :: .junk :: .junk :: .junk :: .junk :: .junk :: .junk :: .junk :: .junk :: .junk :: .junk :: .junk :: .junk :: .junk :: .junk :: .junk :: []) [.box (tc.map A.d), .arr (ints (relI (relO m n' r i (rel, b)).1)) 1 0] := by
  intro r
  induction r with
  | zero =>
    intro i mm rel b hq hm hr
    obtain ⟨mm, rfl⟩ : ∃ q, mm = q + 1 := ⟨mm - 1, by omega⟩
    obtain rfl : i = st := by omega
    simp only [relO]
    rw [step_i_greatestRelation_2]
    simp only [S_i_greatestRelation_2, Tryd.f56, SLM, simprocAttr]
    simp -implicitDefEqProofs (maxSteps := 2000000) (disch := first | assumption | (refine Shut.mk ?_; kernel_rfl) | omega | (simp only [GT]; done) | (simp only [LN] <;> omega) | fail) only [↓WD, ↓kAsg, ↓kRet, ↓clash_free, ↓WDD, ↓kOpD_callv, WK, UN, TY, LB, MD, i64_id, simprocAttr, ↓CV, ↓kc_i_movesOf, ↓kc_i_members, Int.lt_irrefl, idsL_ds, mapAs_ds, calmAs_ds]
  | succ r ih =>
    intro i mm rel b hq hm hr
    obtain ⟨mm, rfl⟩ : ∃ q, mm = q + 1 := ⟨mm - 1, by omega⟩
    have hc : (i : Int) < st := by omega
    have hrl := hr.len
    have hel : (relI rel).length = st := by rw [relI_len]; exact hrl
    have hik : i < (relI rel).length := by rw [hel]; omega
    have hra := hr.all i
    have hg := memG_get hra
    have hml := memG_len 16 (rel.getD i 0) (rel.getD i 0) hra (by omega)
    have loop_j := fun {R : Type} {n : Nat} (hn : 5 ≤ n) {k : Exit → List A → H → Option R} => @loop_relJ R L n hn hL m n' tc st i hst (by omega) hm16 hn16 hmr (memG (rel.getD i 0) (rel.getD i 0)) (fun k hk => ⟨(hg k hk).2.1, (hg k hk).1⟩) (by omega) k (memG (rel.getD i 0) (rel.getD i 0)).length 0 L rel b (by omega) (by omega) hr
    simp only [Int.natCast_zero] at loop_j
    have e4 : ((i + 1 : Nat) : Int) = (i : Int) + 1 := by omega
    have hr2 : RI st (relJ m n' i (memG (rel.getD i 0) (rel.getD i 0)) (memG (rel.getD i 0) (rel.getD i 0)).length 0 (rel, b)).1 := ri_J _ _ _ hr
    simp only [relO]
    clear hg hml
    generalize relJ m n' i (memG (rel.getD i 0) (rel.getD i 0)) (memG (rel.getD i 0) (rel.getD i 0)).length 0 (rel, b) = w at *
    obtain ⟨w1, w2⟩ := w
    have ih' := ih (i + 1) mm w1 w2 (by omega) (by omega) hr2
    rw [e4] at ih'
    simp only at loop_j
    clear ih hr2
    rw [step_i_greatestRelation_2]
    simp only [S_i_greatestRelation_2, Tryd.f56, SLM, simprocAttr]
    simp -implicitDefEqProofs (maxSteps := 2000000) (disch := first | assumption | (refine Shut.mk ?_; kernel_rfl) | omega | (simp only [GT]; done) | (simp only [LN] <;> omega) | fail) only [↓WD, ↓kAsg, ↓kRet, ↓clash_free, ↓WDD, ↓kOpD_callv, WK, UN, TY, LB, MD, i64_id, simprocAttr, ↓CV, ↓kc_i_movesOf, hc, hel, relI_get, ↓kc_i_members, hra, Int.toNat_natCast, idsL_ds, mapAs_ds, calmAs_ds, ↓loop_j, ↓ih']

theorem loop_relW {R : Type} {L n : Nat} (hn : 6 ≤ n) (hL : 2 ^ 60 ≤ L) {m n' : List Edge} {tc : List D} {st : Nat} (hst : st ≤ 16) (hm16 : ∀ k, mvAt m k < 65536) (hn16 : ∀ k, mvAt n' k < 65536) (hmr : ∀ k, mvAt m k < 2 ^ st) {k : Exit → List A → H → Option R} : ∀ (M mm : Nat) (rel : List Nat) (hs : rel.sum < M) (hm : M ≤ mm) (hr : RI st rel),
    kLoop env (evCall env L n) L 0 [] (false :: false :: true :: false :: true :: false :: true :: true :: true :: true :: false :: true :: true :: false :: false :: false :: false :: false :: false :: false :: false :: false :: false :: false :: true :: true :: false :: false :: false :: false :: false :: false :: false :: false :: false :: false :: true :: true :: true :: false :: false :: false :: false :: false :: true :: true :: true :: false :: false :: false :: false :: false :: false :: false :: false :: false :: false :: false :: false :: false :: false :: false :: false :: false :: false :: false :: false :: false :: false :: false :: false :: []) (lp_i_greatestRelation 1) (true :: true :: false :: true :: false :: true :: false :: false :: false :: false :: true :: true :: true :: true :: true :: true :: true :: true :: true :: true :: true :: true :: true :: true :: false :: false :: true :: true :: true :: true :: true :: true :: true :: true :: true :: true :: true :: true :: true :: true :: true :: true :: true :: true :: true :: true :: true :: true :: true :: true :: true :: true :: true :: true :: true :: true :: true :: true :: true :: true :: true :: true :: true :: true :: true :: true :: true :: true :: true :: true :: true :: []) mm (.junk :: .junk :: .d (.bool false) :: .junk :: .ptr 0 0 0 :: .junk :: .d .nils :: .d (.iptr (mvD m)) :: .d (.iptr (mvD n')) :: .sl 1 0 0 st :: .junk :: .junk :: .junk :: .junk :: .junk :: .junk :: .junk :: .junk :: .junk :: .junk :: .junk :: .junk :: .junk :: .junk :: .d (.int .i64 st) :: .d (.int .i64 st) :: .junk :: .junk :: .junk :: .junk :: .junk :: .junk :: .junk :: .junk :: .junk :: .junk :: .junk :: .junk :: .junk :: .junk :: .junk :: .junk :: .junk :: .junk :: .junk :: .junk :: .junk :: .junk :: .junk :: .junk :: .junk :: .junk :: .junk :: .junk :: .junk :: .junk :: .junk :: .junk :: .junk :: .junk :: .junk :: .junk :: .junk :: .junk :: .junk :: .junk :: .junk :: .junk :: .junk :: .junk :: .junk :: []) [.box (tc.map A.d), .arr (ints (relI rel)) 1 0] k
    = k .ret (.junk :: .junk :: .d (.bool false) :: .junk :: .ptr 0 0 0 :: .junk :: .sl 1 0 0 st :: .d (.iptr (mvD m)) :: .d (.iptr (mvD n')) :: .sl 1 0 0 st :: .junk :: .junk :: .junk :: .junk :: .junk :: .junk :: .junk :: .junk :: .junk :: .junk :: .junk :: .junk :: .junk :: .junk :: .d (.int .i64 st) :: .d (.int .i64 st) :: .junk :: .junk :: .junk :: .junk :: .junk :: .junk :: .junk :: .junk :: .junk :: .junk :: .junk :: .junk :: .junk :: .junk :: .junk :: .junk :: .junk :: .junk :: .junk :: .junk :: .junk :: .junk :: .junk :: .junk :: .junk :: .junk :: .junk :: .junk :: .junk :: .junk :: .junk :: .junk :: .junk :: .junk :: .junk :: .junk :: .junk :: .junk :: .junk :: .junk :: .junk :: .junk :: .junk :: .junk :: .junk :: []) [.box (tc.map A.d), .arr (ints (relI (relW m n' st M rel))) 1 0] := by
  intro M
  induction M with
  | zero => intro mm rel hs; omega
  | succ M ih =>
    intro mm rel hs hm hr
    obtain ⟨mm, rfl⟩ : ∃ q, mm = q + 1 := ⟨mm - 1, by omega⟩
    obtain ⟨l1, l2⟩ := O_lt (m := m) (n := n') st 0 rel hr (by omega)
    have hr2 : RI st (relO m n' st 0 (rel, false)).1 := ri_O st 0 (rel, false) hr
    have loop_o := fun {R : Type} {n : Nat} (hn : 6 ≤ n) {k : Exit → List A → H → Option R} => @loop_relO R L n hn hL m n' tc st hst hm16 hn16 hmr k st 0 L rel false (by omega) (by omega) hr
    simp only [Int.natCast_zero] at loop_o
    simp only [relW]
    generalize relO m n' st 0 (rel, false) = w at *
    obtain ⟨w1, w2⟩ := w
    cases w2 with
    | true =>
      have h1 : w1.sum < rel.sum := l1 rfl
      have ih' := ih mm w1 (by omega) (by omega) hr2
      simp only [if_true] at loop_o ⊢
      clear ih hr2 l1 l2
      rw [step_i_greatestRelation_1]
      simp only [S_i_greatestRelation_1, Tryd.f56, SLM, simprocAttr]
      simp -implicitDefEqProofs (maxSteps := 2000000) (disch := first | assumption | (refine Shut.mk ?_; kernel_rfl) | omega | (simp only [GT]; done) | (simp only [LN] <;> omega) | fail) only [↓WD, ↓kAsg, ↓kRet, ↓clash_free, ↓WDD, ↓kOpD_callv, WK, UN, TY, LB, MD, i64_id, simprocAttr, ↓CV, ↓kc_i_movesOf, ↓kc_i_members, idsL_ds, mapAs_ds, calmAs_ds, ↓loop_o, ↓ih']
    | false =>
      simp only [Bool.false_eq_true, if_false] at loop_o ⊢
      clear ih hr2 l1 l2
      rw [step_i_greatestRelation_1]
      simp only [S_i_greatestRelation_1, Tryd.f56, SLM, simprocAttr]
      simp -implicitDefEqProofs (maxSteps := 2000000) (disch := first | assumption | (refine Shut.mk ?_; kernel_rfl) | omega | (simp only [GT]; done) | (simp only [LN] <;> omega) | fail) only [↓WD, ↓kAsg, ↓kRet, ↓clash_free, ↓WDD, ↓kOpD_callv, WK, UN, TY, LB, MD, i64_id, simprocAttr, ↓CV, ↓kc_i_movesOf, ↓kc_i_members, idsL_ds, mapAs_ds, calmAs_ds, ↓loop_o]

theorem make_relI {n : Int} {h : H} (h0 : 0 ≤ n) (h1 : n ≤ 4294967296) : aMakeSlice env.P h 52 n n = some (.sl h.length 0 0 n.toNat, h ++ [.arr (ints (relI (List.replicate n.toNat 0))) 1 0]) := by
  have hm : n ≤ (maxNeed : Nat) := by unfold maxNeed; omega
  have he : elemT env.P 52 = some 3 := by kernel_rfl
  have hz : zeroA env.P 3 = some (.d (.int .i64 0)) := by kernel_rfl
  have hok : elemOk env.P 3 = true := by kernel_rfl
  have hc : env.P.cellsOf 3 = 1 := by kernel_rfl
  simp only [aMakeSlice, he, hz, cellsA, dataOf, Option.map_some, hok, h0, hm, hc, Int.le_refl, and_self, if_true, ints, relI, List.map_replicate, List.flatten_replicate_singleton]
  rfl

theorem sum_rep (w f : Nat) : (List.replicate w f).sum = w * f := by
  induction w with
  | zero => simp
  | succ w ih => rw [List.replicate_succ, List.sum_cons, ih, Nat.add_mul, Nat.one_mul]; omega

theorem ri_full {w f : Nat} (hf : f < 65536) : RI w (List.replicate w f) := by
  refine ⟨by simp, fun k => ?_⟩
  rw [List.getD_eq_getElem?_getD, List.getElem?_replicate]
  split <;> simp
  exact hf

/-- The greatest relation. -/
def gRel (l l2 : List Edge) (w : Nat) : List Nat := relW l.reverse l2.reverse w (w * (2 ^ w - 1) + 1) (List.replicate w (2 ^ w - 1))

theorem to_bound {al : Int} {w : Nat} {l : List Edge} (h : sysOK ⟨al, w, l⟩ = true) : ∀ e ∈ l.reverse, e.to.toNat < w := fun e he => by
  have := sysOK_edge h (List.mem_reverse.1 he)
  unfold edgeOK at this
  simp only [Bool.and_eq_true, decide_eq_true_eq] at this
  omega

theorem w_bound {al : Int} {w : Nat} {l : List Edge} (h : sysOK ⟨al, w, l⟩ = true) : 1 ≤ w ∧ w ≤ 16 := by
  unfold sysOK at h
  simp only [Bool.and_eq_true, decide_eq_true_eq] at h
  omega

theorem gRel_id {al : Int} {w : Nat} {l l2 : List Edge} (h1 : sysOK ⟨al, w, l⟩ = true) (hsub : ∀ e ∈ l, e ∈ l2) : RI w (gRel l l2 w) ∧ IdR w (gRel l l2 w) := by
  have hw := w_bound h1
  have p16 : (2 : Nat) ^ w ≤ 2 ^ 16 := Nat.pow_le_pow_right (by decide) hw.2
  have p0 := Nat.two_pow_pos w
  have hr1 : ∀ e ∈ l.reverse, 0 ≤ e.fr ∧ e.fr < 16 ∧ 0 ≤ e.lt ∧ e.lt < 6 ∧ 0 ≤ e.to ∧ e.to < 16 := fun e he => sys_bounds h1 e (List.mem_reverse.1 he)
  refine id_W (fun e he => List.mem_reverse.2 (hsub e (List.mem_reverse.1 he))) (to_bound h1) hw.2 (mv16 hr1) _ _ (ri_full (by omega)) ?_
  intro k hk
  rw [List.getD_eq_getElem?_getD, List.getElem?_replicate, if_pos hk]
  show (2 ^ w - 1).testBit k = true
  rw [Nat.testBit_two_pow_sub_one]
  simp [hk]

theorem id_len {al : Int} {w : Nat} {l l2 : List Edge} (h1 : sysOK ⟨al, w, l⟩ = true) : (gRel l l2 w).length = w := by
  have hw := w_bound h1
  have p16 : (2 : Nat) ^ w ≤ 2 ^ 16 := Nat.pow_le_pow_right (by decide) hw.2
  have p0 := Nat.two_pow_pos w
  have key : ∀ (M : Nat) (r : List Nat), RI w r → RI w (relW l.reverse l2.reverse w M r) := by
    intro M
    induction M with
    | zero => intro r h; exact h
    | succ M ih =>
      intro r h
      unfold relW
      have := ri_O (m := l.reverse) (n := l2.reverse) w 0 (r, false) h
      split
      · exact ih _ this
      · exact this
  exact (key _ _ (ri_full (by omega))).len

theorem ev_i_greatestRelation {L n : Nat} (hn : 8 ≤ n) (al : Int) (w : Nat) (l l2 : List Edge) (hl : l.length ≤ 4294967296) (hl2 : l2.length ≤ 4294967296) (h1 : sysOK ⟨al, w, l⟩ = true) (h2 : sysOK ⟨al, w, l2⟩ = true) (hL : 2 ^ 60 ≤ L) : evCall env L n 56 [.agg [.d (.int .i64 al), .d (.int .i64 (w : Nat)), .d (.ivs l.length (edgesD l))], .agg [.d (.int .i64 al), .d (.int .i64 (w : Nat)), .d (.ivs l2.length (edgesD l2))], .d (.bool false)] [] = some (.d (.ivs w (ints (relI (gRel l l2 w)))), []) := by
  have hv1 := sys_bounds h1
  have hv2 := sys_bounds h2
  have hw := w_bound h1
  have hr1 : ∀ e ∈ l.reverse, 0 ≤ e.fr ∧ e.fr < 16 ∧ 0 ≤ e.lt ∧ e.lt < 6 ∧ 0 ≤ e.to ∧ e.to < 16 := fun e he => hv1 e (List.mem_reverse.1 he)
  have hr2 : ∀ e ∈ l2.reverse, 0 ≤ e.fr ∧ e.fr < 16 ∧ 0 ≤ e.lt ∧ e.lt < 6 ∧ 0 ≤ e.to ∧ e.to < 16 := fun e he => hv2 e (List.mem_reverse.1 he)
  have hm1 := mv16 hr1
  have hm2 := mv16 hr2
  have hmr : ∀ k, mvAt l.reverse k < 2 ^ w := fun k => mvAt_lt (to_bound h1)
  have p16 : (2 : Nat) ^ w ≤ 2 ^ 16 := Nat.pow_le_pow_right (by decide) hw.2
  have p0 := Nat.two_pow_pos w
  have hf : IntKind.i64.wrap (1 * 2 ^ w) - 1 = ((2 ^ w - 1 : Nat) : Int) := by
    have : (1 : Int) * 2 ^ w = ((2 ^ w : Nat) : Int) := by simp
    rw [this]
    generalize (2 : Nat) ^ w = p at p16 p0 ⊢
    rw [i64_id (by omega) (by omega)]
    omega
  have hfull : 2 ^ w - 1 < 65536 := by omega
  have hb : w * (2 ^ w - 1) ≤ 16 * 65535 := Nat.mul_le_mul hw.2 (by omega)
  have loop_a := fun {R : Type} {n : Nat} (hn : 1 ≤ n) {k : Exit → List A → H → Option R} => @loop_relA R L n hn (mvD l.reverse) (mvD l2.reverse) al w (2 ^ w - 1) (.ivs l2.length (edgesD l2)) hw.2 hf hfull k w 0 L (List.replicate w 0) (by simp) (by simp; omega) (by omega)
  simp only [List.take_zero, List.nil_append, List.length_replicate, Int.natCast_zero] at loop_a
  have loop_w := fun {R : Type} {n : Nat} (hn : 6 ≤ n) {k : Exit → List A → H → Option R} => @loop_relW R L n hn hL l.reverse l2.reverse [.int .i64 al, .int .i64 (w : Int), .ivs l2.length (edgesD l2)] w hw.2 hm1 hm2 hmr k (w * (2 ^ w - 1) + 1) L (List.replicate w (2 ^ w - 1)) (by rw [sum_rep]; omega) (by omega) (ri_full hfull)
  have hgl : (relI (gRel l l2 w)).length = w := by
    rw [relI_len]
    exact (id_len h1)
  have het : (ints (relI (gRel l l2 w))).take w = ints (relI (gRel l l2 w)) := ints_take (by omega)
  simp only [List.map_cons, List.map_nil] at loop_w
  have hw64 : (0 : Int) ≤ w := by omega
  have hw65 : (w : Int) ≤ 4294967296 := by omega
  change ∀ {R : Type} {n : Nat} (hn : 6 ≤ n) {k : Exit → List A → H → Option R}, _ = k .ret _ [_, .arr (ints (relI (gRel l l2 w))) 1 0] at loop_w
  clear hm1 hm2 hmr hr1 hr2 hf hb p0 p16
  obtain ⟨n, rfl⟩ : ∃ m, n = m + 1 := ⟨n - 1, by omega⟩
  rw [fn_i_greatestRelation]
  simp only [S_i_greatestRelation, Tryd.f56, SLM, simprocAttr]
  simp -implicitDefEqProofs (maxSteps := 2000000) (disch := first | assumption | (refine Shut.mk ?_; kernel_rfl) | omega | (simp only [GT]; done) | (simp only [LN] <;> omega) | fail) only [↓WD, ↓kAsg, ↓kRet, ↓clash_free, ↓WDD, ↓kOpD_callv, WK, UN, TY, LB, MD, i64_id, simprocAttr, ↓CV, ↓kc_i_members, LE, hv1, hv2, ↓kc_i_movesOf, ↓make_relI, ↓loop_a, ↓loop_w, het, hgl, Int.toNat_natCast]
theorem kc_i_greatestRelation {R : Type} {L n : Nat} {hq : H} {k : A → H → Option R} (hn : 8 ≤ n) (al : Int) (w : Nat) (l l2 : List Edge) (hl : l.length ≤ 4294967296) (hl2 : l2.length ≤ 4294967296) (h1 : sysOK ⟨al, w, l⟩ = true) (h2 : sysOK ⟨al, w, l2⟩ = true) (hL : 2 ^ 60 ≤ L) : kCall env (evCall env L n) hq 56 [.agg [.d (.int .i64 al), .d (.int .i64 (w : Nat)), .d (.ivs l.length (edgesD l))], .agg [.d (.int .i64 al), .d (.int .i64 (w : Nat)), .d (.ivs l2.length (edgesD l2))], .d (.bool false)] k = k (.d (.ivs w (ints (relI (gRel l l2 w))))) hq :=
  kCall_still rfl (ev_i_greatestRelation hn al w l l2 hl hl2 h1 h2 hL) rfl (.inr rfl)

theorem relI_head {rel : List Nat} (h : 0 < (relI rel).length) : (List.map A.d (ints (relI rel))).head? = some (.d (.int .i64 ((rel.getD 0 0 : Nat) : Int))) := by
  have := ints_head (l := relI rel) (k := 0) h
  rw [relI_get] at this
  exact this

theorem bit0_nat {x : Nat} (h : x.testBit 0 = true) : bitAt (x : Int) 0 = true := by
  unfold bitAt
  rw [Nat.testBit_zero] at h
  have h := of_decide_eq_true h
  have e : ((x : Int)).fdiv (2 ^ (min (0 : Int).toNat 64)) = (x : Int) := by
    have : (2 : Int) ^ (min (0 : Int).toNat 64) = 1 := by decide
    rw [this]
    simp
  rw [e]
  exact decide_eq_true (by omega)

theorem ev_i_Simulates {L n : Nat} (hn : 9 ≤ n) (al : Int) (w : Nat) (l l2 : List Edge) (hl : l.length ≤ 4294967296) (hl2 : l2.length ≤ 4294967296) (h1 : sysOK ⟨al, w, l⟩ = true) (h2 : sysOK ⟨al, w, l2⟩ = true) (hsub : ∀ e ∈ l, e ∈ l2) (hL : 2 ^ 60 ≤ L) : evCall env L n 21 [.agg [.d (.int .i64 al), .d (.int .i64 (w : Nat)), .d (.ivs l.length (edgesD l))], .agg [.d (.int .i64 al), .d (.int .i64 (w : Nat)), .d (.ivs l2.length (edgesD l2))]] [] = some (.d (.bool true), []) := by
  have hw := w_bound h1
  have hid := (gRel_id h1 hsub).2 0 (by omega)
  have hb := bit0_nat hid
  have hgl : (relI (gRel l l2 w)).length = w := by rw [relI_len]; exact id_len h1
  have hpos : (0 : Int) < w := by omega
  have hk : 0 < (relI (gRel l l2 w)).length := by omega
  have h00 : decide ((0 : Int) ≤ 0) = true := rfl
  clear hid
  obtain ⟨n, rfl⟩ : ∃ m, n = m + 1 := ⟨n - 1, by omega⟩
  rw [fn_i_Simulates]
  simp only [S_i_Simulates, Tryd.f21, SLM, simprocAttr]
  simp -implicitDefEqProofs (maxSteps := 2000000) (disch := first | assumption | (refine Shut.mk ?_; kernel_rfl) | omega | (simp only [GT]; done) | (simp only [LN] <;> omega) | fail) only [↓WD, ↓kAsg, ↓kRet, ↓clash_free, ↓WDD, ↓kOpD_callv, WK, UN, TY, LB, MD, i64_id, simprocAttr, ↓CV, ↓kc_i_sameAlphabets, ↓kc_i_greatestRelation, ↓kc_i_has, ↓kl_i_sameAlphabets, ↓kv_i_sameAlphabets_1, ↓kv_i_sameAlphabets_2, ↓kv_i_sameAlphabets_3, LE, h1, h2, Bool.and_self, decide_true, hgl, hpos, relI_head, hb, h00, Int.toNat_zero]
theorem kc_i_Simulates {R : Type} {L n : Nat} {hq : H} {k : A → H → Option R} (hn : 9 ≤ n) (al : Int) (w : Nat) (l l2 : List Edge) (hl : l.length ≤ 4294967296) (hl2 : l2.length ≤ 4294967296) (h1 : sysOK ⟨al, w, l⟩ = true) (h2 : sysOK ⟨al, w, l2⟩ = true) (hsub : ∀ e ∈ l, e ∈ l2) (hL : 2 ^ 60 ≤ L) : kCall env (evCall env L n) hq 21 [.agg [.d (.int .i64 al), .d (.int .i64 (w : Nat)), .d (.ivs l.length (edgesD l))], .agg [.d (.int .i64 al), .d (.int .i64 (w : Nat)), .d (.ivs l2.length (edgesD l2))]] k = k (.d (.bool true)) hq :=
  kCall_still rfl (ev_i_Simulates hn al w l l2 hl hl2 h1 h2 hsub hL) rfl (.inl rfl)
theorem kl_i_Simulates {R : Type} {L n : Nat} {k : A → Option R} (hn : 9 ≤ n) (al : Int) (w : Nat) (l l2 : List Edge) (hl : l.length ≤ 4294967296) (hl2 : l2.length ≤ 4294967296) (h1 : sysOK ⟨al, w, l⟩ = true) (h2 : sysOK ⟨al, w, l2⟩ = true) (hsub : ∀ e ∈ l, e ∈ l2) (hL : 2 ^ 60 ≤ L) : kLent (evCall env L n) 21 [.agg [.d (.int .i64 al), .d (.int .i64 (w : Nat)), .d (.ivs l.length (edgesD l))], .agg [.d (.int .i64 al), .d (.int .i64 (w : Nat)), .d (.ivs l2.length (edgesD l2))]] k = k (.d (.bool true)) :=
  kLent_ev (ev_i_Simulates hn al w l l2 hl hl2 h1 h2 hsub hL) rfl
theorem kv_i_Simulates_1 {R : Type} {L n : Nat} {hq : H} {k : A → H → Option R} {id0 g0 o0 len0 : Nat} {al : Int} {w : Nat} {l2 : List Edge} : kCall env (evCall env L n) hq 21 [.agg [.d (.int .i64 al), .d (.int .i64 (w : Nat)), .sl id0 g0 o0 len0], .agg [.d (.int .i64 al), .d (.int .i64 (w : Nat)), .d (.ivs l2.length (edgesD l2))]] k = match box (lentA hq [.agg [.d (.int .i64 al), .d (.int .i64 (w : Nat)), .sl id0 g0 o0 len0], .agg [.d (.int .i64 al), .d (.int .i64 (w : Nat)), .d (.ivs l2.length (edgesD l2))]]) with
    | .mk (some fs) => kLent (evCall env L n) 21 fs fun r => k r hq
    | _ => none := kCall_lent mode_i_Simulates
theorem kv_i_Simulates_2 {R : Type} {L n : Nat} {hq : H} {k : A → H → Option R} {id1 g1 o1 len1 : Nat} {al : Int} {w : Nat} {l : List Edge} : kCall env (evCall env L n) hq 21 [.agg [.d (.int .i64 al), .d (.int .i64 (w : Nat)), .d (.ivs l.length (edgesD l))], .agg [.d (.int .i64 al), .d (.int .i64 (w : Nat)), .sl id1 g1 o1 len1]] k = match box (lentA hq [.agg [.d (.int .i64 al), .d (.int .i64 (w : Nat)), .d (.ivs l.length (edgesD l))], .agg [.d (.int .i64 al), .d (.int .i64 (w : Nat)), .sl id1 g1 o1 len1]]) with
    | .mk (some fs) => kLent (evCall env L n) 21 fs fun r => k r hq
    | _ => none := kCall_lent mode_i_Simulates
theorem kv_i_Simulates_3 {R : Type} {L n : Nat} {hq : H} {k : A → H → Option R} {id1 g1 o1 len1 : Nat} {id0 g0 o0 len0 : Nat} {al : Int} {w : Nat} : kCall env (evCall env L n) hq 21 [.agg [.d (.int .i64 al), .d (.int .i64 (w : Nat)), .sl id0 g0 o0 len0], .agg [.d (.int .i64 al), .d (.int .i64 (w : Nat)), .sl id1 g1 o1 len1]] k = match box (lentA hq [.agg [.d (.int .i64 al), .d (.int .i64 (w : Nat)), .sl id0 g0 o0 len0], .agg [.d (.int .i64 al), .d (.int .i64 (w : Nat)), .sl id1 g1 o1 len1]]) with
    | .mk (some fs) => kLent (evCall env L n) 21 fs fun r => k r hq
    | _ => none := kCall_lent mode_i_Simulates

end Ev
end Go.Proofs.YtojaohcpgelhmaaDoor
end

/-!
  An edge that was added is found, and dropped again: plain laws.
-/
section
set_option linter.unusedSimpArgs false
set_option linter.unusedVariables false
namespace Go.Proofs.YtojaohcpgelhmaaDoor
namespace Ev

end Ev
end Go.Proofs.YtojaohcpgelhmaaDoor
end

/-!
  An edge that was dropped is not found, and is added again: plain laws.
-/
section
set_option linter.unusedSimpArgs false
set_option linter.unusedVariables false
namespace Go.Proofs.YtojaohcpgelhmaaDoor
namespace Ev

theorem hit_mem {l : List Edge} {e : Edge} (h : hitE l e = true) : bsE l e < l.length ∧ l.getD (bsE l e) default = e := by
  unfold hitE at h
  simp only [Bool.and_eq_true, decide_eq_true_eq] at h
  exact h

theorem drop_split {l : List Edge} {p : Nat} {e : Edge} (h : p < l.length) (he : l.getD p default = e) : l = l.take p ++ e :: l.drop (p + 1) := by
  have h1 := drop_go (i := p) (d := (default : Edge)) h
  rw [he] at h1
  rw [← h1, List.take_append_drop]

/-- What is so of an edge that was dropped. -/
theorem drop_facts {al st : Int} {l : List Edge} {e : Edge} {s2 : Sys} (h : dropI ⟨al, st, l⟩ e = some s2) :
    ∃ l2, s2 = ⟨al, st, l2⟩ ∧ sysOK ⟨al, st, l⟩ = true ∧ sysOK ⟨al, st, l2⟩ = true ∧ addS ⟨al, st, l2⟩ e = some ⟨al, st, l⟩ ∧ dropI ⟨al, st, l2⟩ e = none ∧ (∀ x ∈ l2, x ∈ l) ∧ l2.length ≤ l.length := by
  unfold dropI at h
  split at h
  · rename_i hc
    simp only [Bool.and_eq_true] at hc
    obtain ⟨h1, h2⟩ := hc
    cases h
    have hs : SortedE l := sysOK_sorted h1
    obtain ⟨hp, hg⟩ := hit_mem h2
    have hsp := drop_split hp hg
    generalize bsE l e = p at *
    have h1' := h1
    unfold sysOK at h1'
    simp only [Bool.and_eq_true, decide_eq_true_eq] at h1'
    have hsub : ∀ x ∈ l.take p ++ l.drop (p + 1), x ∈ l := by
      intro x hx
      rw [hsp]
      rcases List.mem_append.1 hx with hx | hx
      · exact List.mem_append_left _ hx
      · exact List.mem_append_right _ (List.mem_cons_of_mem _ hx)
    have hso : SortedE (l.take p ++ l.drop (p + 1)) := by
      have : (l.take p ++ l.drop (p + 1)).Sublist l := by
        conv => rhs; rw [hsp]
        exact (List.Sublist.refl _).append (List.sublist_cons_self _ _)
      exact List.Pairwise.sublist this hs
    have hok : sysOK ⟨al, st, l.take p ++ l.drop (p + 1)⟩ = true := sysOK_of h1'.1.1.1 h1'.1.1.2 h1'.1.2 (fun x hx => sysOK_edge h1 (hsub x hx)) hso
    have hnot : e ∉ l.take p ++ l.drop (p + 1) := by
      have hs' := hs
      rw [hsp] at hs'
      unfold SortedE at hs'
      rw [List.pairwise_append] at hs'
      obtain ⟨_, k2, k3⟩ := hs'
      rw [List.pairwise_cons] at k2
      intro hm
      rcases List.mem_append.1 hm with hm | hm
      · have := k3 e hm e List.mem_cons_self
        rw [beforeE_irrefl] at this; cases this
      · have := k2.1 e hm
        rw [beforeE_irrefl] at this; cases this
    have hh : hitE (l.take p ++ l.drop (p + 1)) e = false := by
      cases hq : hitE (l.take p ++ l.drop (p + 1)) e with
      | false => rfl
      | true =>
        obtain ⟨q1, q2⟩ := hit_mem hq
        exfalso
        apply hnot
        rw [← q2, List.getD_eq_getElem?_getD, List.getElem?_eq_getElem q1]
        exact List.getElem_mem q1
    have hed : edgeOK al st e = true := sysOK_edge h1 (e := e) (by rw [hsp]; simp)
    refine ⟨_, rfl, h1, hok, ?_, ?_, hsub, ?_⟩
    · unfold addS
      simp only [hok, hed, hit_none hso hh, Option.isNone_none, Bool.and_self, if_true]
      congr 2
      refine sorted_unique (sortE_sorted _) (hs.imp leE_of_before) ?_
      refine (sortE_perm _).trans ?_
      conv => rhs; rw [hsp]
      rw [List.append_assoc]
      exact List.Perm.append_left _ (List.perm_append_comm (l₁ := l.drop (p + 1)) (l₂ := [e]))
    · unfold dropI
      simp only [hh, Bool.and_false, Bool.false_eq_true, if_false]
    · have hp2 : p < l.length := hp
      show (l.take p ++ l.drop (p + 1)).length ≤ l.length
      rw [List.length_append, List.length_take, List.length_drop]
      omega
  · cases h

end Ev
end Go.Proofs.YtojaohcpgelhmaaDoor
end

/-!
  The law: a system without an edge has no new traces, is simulated, and adding the edge leads back.
-/
section
set_option linter.unusedSimpArgs false
set_option linter.unusedVariables false
set_option maxRecDepth 8000
set_option pp.maxSteps 6000
set_option maxHeartbeats 4000000
namespace Go.Proofs.YtojaohcpgelhmaaDoor
namespace Ev

theorem ex_DrawDropEdge (c0 : List UInt8) (hc0 : c0.length ≤ 4294967296) : ∃ (al st : Int) (es : List Edge) (a b d : Int), es.length ≤ 80000 ∧ ∀ (R : Type) (L n : Nat) (hq : H) (k : A → H → Option R), 17 ≤ n → 2 ^ 60 ≤ L → kCall env (evCall env L n) hq 19 [.d (.ivs c0.length (bytesL c0))] k = k (.tup [.agg [.d (.int .i64 al), .d (.int .i64 st), .d (.ivs es.length (edgesD es))], .agg [.d (.int .i64 a), .d (.int .i64 b), .d (.int .i64 d)]]) hq := by
  obtain ⟨al, st, l, a, b, d, hl, kd⟩ := ex_DrawAddEdge c0 hc0
  refine ⟨al, st, l, a, b, d, hl, fun R L n hq k hn hL => kCall_still rfl ?_ rfl (.inr rfl)⟩
  obtain ⟨n, rfl⟩ : ∃ m, n = m + 1 := ⟨n - 1, by omega⟩
  rw [fn_s_DrawDropEdge]
  simp only [S_s_DrawDropEdge, Tryd.f19, SLM, simprocAttr]
  simp -implicitDefEqProofs (maxSteps := 2000000) (disch := first | assumption | (refine Shut.mk ?_; kernel_rfl) | omega | (simp only [GT]; done) | (simp only [LN] <;> omega) | fail) only [↓WD, ↓kAsg, ↓kRet, ↓clash_free, ↓WDD, ↓kOpD_callv, WK, UN, TY, LB, MD, i64_id, simprocAttr, ↓CV, LE, ↓kd]

theorem ev_FnDropEdge {L n : Nat} (hn : 30 ≤ n) (c : List UInt8) (hL : 2 ^ 60 ≤ L) : evCall env L n 5 [.d (.ivs c.length (bytesL c))] [] = some (.d (.bool true), []) := by
  by_cases hs : (1048576 : Int) < c.length
  · obtain ⟨n, rfl⟩ : ∃ m, n = m + 1 := ⟨n - 1, by omega⟩
    rw [fn_FnDropEdge]
    simp only [S_FnDropEdge, Tryd.f5, SLM, simprocAttr]
    simp -implicitDefEqProofs (maxSteps := 2000000) (disch := first | assumption | (refine Shut.mk ?_; kernel_rfl) | omega | (simp only [GT]; done) | (simp only [LN] <;> omega) | fail) only [↓WD, ↓kAsg, ↓kRet, ↓clash_free, ↓WDD, ↓kOpD_callv, WK, UN, TY, LB, MD, i64_id, simprocAttr, ↓CV, ↓kc_i_DropEdge, ↓kc_s_DropEdge, ↓kc_agSystems, ↓kc_i_AddEdge, ↓kc_i_SystemValid, ↓kc_i_TracesWithin, ↓kc_i_Simulates, ↓kl_agSystems, ↓kl_i_SystemValid, ↓kl_i_TracesWithin, ↓kl_i_Simulates, ↓kv_agSystems_1, ↓kv_agSystems_2, ↓kv_agSystems_3, ↓kv_i_SystemValid_1, ↓kv_i_TracesWithin_1, ↓kv_i_TracesWithin_2, ↓kv_i_TracesWithin_3, ↓kv_i_Simulates_1, ↓kv_i_Simulates_2, ↓kv_i_Simulates_3, hs]
  · obtain ⟨al, st, l, a, b, d, hl, kd⟩ := ex_DrawDropEdge c (by omega)
    have hl1 : l.length ≤ 4294967290 := by omega
    have hl2 : l.length ≤ 4294967296 := by omega
    cases hd : dropI ⟨al, st, l⟩ ⟨a, b, d⟩ with
    | none =>
      obtain ⟨n, rfl⟩ : ∃ m, n = m + 1 := ⟨n - 1, by omega⟩
      rw [fn_FnDropEdge]
      simp only [S_FnDropEdge, Tryd.f5, SLM, simprocAttr]
      simp -implicitDefEqProofs (maxSteps := 2000000) (disch := first | assumption | (refine Shut.mk ?_; kernel_rfl) | omega | (simp only [GT]; done) | (simp only [LN] <;> omega) | fail) only [↓WD, ↓kAsg, ↓kRet, ↓clash_free, ↓WDD, ↓kOpD_callv, WK, UN, TY, LB, MD, i64_id, simprocAttr, ↓CV, ↓kc_i_DropEdge, ↓kc_s_DropEdge, ↓kc_agSystems, ↓kc_i_AddEdge, ↓kc_i_SystemValid, ↓kc_i_TracesWithin, ↓kc_i_Simulates, ↓kl_agSystems, ↓kl_i_SystemValid, ↓kl_i_TracesWithin, ↓kl_i_Simulates, ↓kv_agSystems_1, ↓kv_agSystems_2, ↓kv_agSystems_3, ↓kv_i_SystemValid_1, ↓kv_i_TracesWithin_1, ↓kv_i_TracesWithin_2, ↓kv_i_TracesWithin_3, ↓kv_i_Simulates_1, ↓kv_i_Simulates_2, ↓kv_i_Simulates_3, LE, hs, ↓kd, ↓kc_i_DropEdge_d, ↓kv_agSystems_any, ↓kl_agSystems_nil, hd, oS_none, oZ_none, edgesD_nil]
    | some s2 =>
      obtain ⟨l2, rfl, hv, hv2, hag, hdr, hsub, hlen⟩ := drop_facts hd
      have hl3 : l2.length ≤ 4294967290 := by omega
      have hl4 : l2.length ≤ 4294967296 := by omega
      obtain ⟨w, rfl⟩ : ∃ w : Nat, st = (w : Int) := by
        have h' := hv
        unfold sysOK at h'
        simp only [Bool.and_eq_true, decide_eq_true_eq] at h'
        exact ⟨st.toNat, by omega⟩
      clear hlen
      obtain ⟨n, rfl⟩ : ∃ m, n = m + 1 := ⟨n - 1, by omega⟩
      rw [fn_FnDropEdge]
      simp only [S_FnDropEdge, Tryd.f5, SLM, simprocAttr]
      simp -implicitDefEqProofs (maxSteps := 2000000) (disch := first | assumption | (refine Shut.mk ?_; kernel_rfl) | omega | (simp only [GT]; done) | (simp only [LN] <;> omega) | fail) only [↓WD, ↓kAsg, ↓kRet, ↓clash_free, ↓WDD, ↓kOpD_callv, WK, UN, TY, LB, MD, i64_id, simprocAttr, ↓CV, ↓kc_s_DropEdge, ↓kc_agSystems, ↓kc_i_SystemValid, ↓kc_i_TracesWithin, ↓kc_i_Simulates, ↓kl_agSystems, ↓kl_i_SystemValid, ↓kl_i_TracesWithin, ↓kl_i_Simulates, ↓kv_agSystems_1, ↓kv_agSystems_2, ↓kv_agSystems_3, ↓kv_i_SystemValid_1, ↓kv_i_TracesWithin_1, ↓kv_i_TracesWithin_2, ↓kv_i_TracesWithin_3, ↓kv_i_Simulates_1, ↓kv_i_Simulates_2, ↓kv_i_Simulates_3, LE, hs, ↓kd, ↓kc_i_DropEdge_d, ↓kc_i_AddEdge, ↓kc_i_DropEdge, ↓kv_agSystems_any, ↓kl_agSystems_nil, hd, hdr, hag, hv, hv2, oS_none, oZ_none, oS_some, oZ_some, edgesD_nil]

end Ev
end Go.Proofs.YtojaohcpgelhmaaDoor
end
