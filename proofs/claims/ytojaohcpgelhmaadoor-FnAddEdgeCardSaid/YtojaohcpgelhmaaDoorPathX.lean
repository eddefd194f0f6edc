/-
  A search that meets no goal, walked.
-/
import Derived.Test.YtojaohcpgelhmaaDoorPathW
set_option linter.unusedSimpArgs false
set_option linter.unusedVariables false
set_option maxRecDepth 8000
set_option pp.maxSteps 6000
set_option maxHeartbeats 4000000
namespace Go.Proofs.YtojaohcpgelhmaaDoor
namespace Ev

theorem getD_app {α : Type} {l m : List α} {i : Nat} {d : α} (h : i < l.length) : (l ++ m).getD i d = l.getD i d := by
  rw [List.getD_eq_getElem?_getD, List.getD_eq_getElem?_getD, List.getElem?_append_left h]

theorem addP_get {st : List PStep} {p l : Int} {f : List Int} {i : Nat} (h : i < st.length) : (addP st p l f).getD i default = st.getD i default := by
  unfold addP
  split
  · rfl
  · exact getD_app h

theorem flat_len {nx : Int → Int → List Int} {c : Int} (hw : ∀ x c, (nx x c).length ≤ 64) : ∀ ns : List Int, (ns.flatMap fun x => nx x c).length ≤ 64 * ns.length
  | [] => by simp
  | x :: ns => by simp only [List.flatMap_cons, List.length_append, List.length_cons]; have := hw x c; have := flat_len (c := c) hw ns; omega

/-- All steps, from one on. -/
def outF (nx : Int → Int → List Int) (ls : List Int) : Nat → Nat → List Bool × List PStep → List Bool × List PStep
  | 0, _, q => q
  | j + 1, i, q => if i < q.2.length then outF nx ls j (i + 1) (ltF nx (q.2.getD i default).ns i ls q) else q

/-- A call by reference that reaches one slice of data and hands it back. -/
theorem kCall_refS {R : Type} {E : Env} {call : CallF} {h : H} {f : FuncId} {args : List A} {len : Nat} {k : A → H → Option R} {id e g e2 g2 : Nat} {cs cs2 : List D} (hi : h[id]? = some (.arr cs e g)) (hid : idsL args = [id]) (hm : (E.hint f).mode = 0) (he : call f (mapAs (place [id]) args) [.arr cs e g] = some (.sl 0 g2 0 len, [.arr cs2 e2 g2])) :
    kCall E call h f args k = k (.sl id g2 0 len) (h.set id (.arr cs2 e2 g2)) := by
  have hre : reach fuelR h [id] [] = [id] := by
    have e1 : reach fuelR h [id] [] = match h[id]? with
      | some (.box cs) => reach (fuelR - 1) h ([] ++ idsL cs) ([] ++ [id])
      | some (.vec cs _ _) => reach (fuelR - 1) h ([] ++ idsL cs) ([] ++ [id])
      | some .void => reach (fuelR - 1) h [] []
      | some _ => reach (fuelR - 1) h [] ([] ++ [id])
      | none => reach (fuelR - 1) h [] [] := rfl
    rw [e1, hi]; rfl
  have hpk : pack h [id] = [.arr cs e g] := by
    simp only [pack, List.map_cons, List.map_nil, List.getD_eq_getElem?_getD, hi]; rfl
  unfold kCall
  rw [hid, hre, hpk]
  have hc : aCall call E.hint [.arr cs e g] f (mapAs (place [id]) args) = some (.sl 0 g2 0 len, [.arr cs2 e2 g2]) := by
    unfold aCall; rw [hm]; exact he
  rw [hc]
  have hcl : closed h [id] [id] = true := by
    simp only [closed, List.all_cons, List.all_nil, hi]; simp
  have hb : back [id] h.length 1 0 = some id := rfl
  simp only [List.length_cons, List.length_nil, Nat.le_refl, hcl, and_self, if_true, mapA, Nat.zero_add, hb]
  simp only [putBack, mapO, List.map_nil, List.append_nil]

theorem loop_pathC {R : Type} {L n : Nat} (hn : 4 ≤ n) (hL : 2 ^ 60 ≤ L) {I : Int → Prop} {nf : FuncId} {caps : List D} {gb : D} {size : Nat} {nx : Int → Int → List Int} {ls ns : List Int} {sc : List D} {seen : List Bool} {sn ii q : Nat} {c : Int}
    (kc_n : ∀ {R : Type} {n id : Nat} {hq : H} {k : A → H → Option R} (x c : Int) (o : List Int), 4 ≤ n → I x → 0 ≤ c → c < 6 → o.length ≤ 2147483648 → hq[id]? = some (.arr (ints o) 1 0) → kCall env (evCall env L n) hq nf (.d (.int .i64 x) :: .d (.int .i64 c) :: .sl id 0 0 o.length :: caps.map A.d) k = k (.sl id (nx x c).length 0 (o ++ nx x c).length) (hq.set id (.arr (ints (o ++ nx x c)) 1 (nx x c).length)))
    (hI : ∀ x ∈ ns, I x) (hw : ∀ x c, (nx x c).length ≤ 64) (hc0 : 0 ≤ c) (hc6 : c < 6) (hnl : ns.length ≤ 16777216) {k : Exit → List A → H → Option R} : ∀ (j i m : Nat) (o : List Int) (len : Nat) (hi : i + j = ns.length) (hm : j < m) (ho : o.length ≤ 64 * i) (hlen : len = o.length),
    kLoop env (evCall env L n) L 0 [0, 0, 0, 0, 0, 0, 0, 0, 0, 0, 0, 0, 0, 0, 0, 0, 0, 0, 2] (false :: false :: true :: true :: false :: false :: false :: false :: false :: false :: true :: true :: false :: true :: true :: true :: false :: true :: true :: false :: false :: false :: false :: false :: false :: false :: false :: false :: false :: false :: false :: false :: false :: true :: true :: true :: false :: false :: false :: false :: false :: false :: false :: true :: true :: true :: false :: false :: false :: false :: false :: false :: false :: false :: false :: false :: false :: false :: false :: false :: false :: false :: false :: []) (lp_i_firstPath 2) (true :: true :: false :: false :: true :: true :: true :: true :: true :: true :: false :: false :: true :: false :: false :: false :: true :: false :: false :: true :: true :: true :: true :: true :: true :: true :: true :: true :: true :: true :: true :: true :: true :: false :: false :: false :: true :: true :: true :: true :: true :: true :: true :: false :: false :: false :: true :: true :: true :: true :: true :: true :: true :: true :: true :: true :: true :: true :: true :: true :: true :: true :: true :: []) m (.junk :: .junk :: .d (.ivs ls.length (ints ls)) :: .d (.fn nf caps) :: .junk :: .junk :: .junk :: .junk :: .junk :: .junk :: .d (.str []) :: .d (.bool false) :: .junk :: .ptr 0 0 0 :: .clo 96 [.ptr 1 0 0, .ptr 2 0 0, .ptr 0 0 0] :: .d (.int .i64 ((ii : Int))) :: .junk :: .d (.int .i64 c) :: .sl 3 0 0 len :: .junk :: .junk :: .junk :: .junk :: .junk :: .junk :: .junk :: .junk :: .junk :: .junk :: .junk :: .junk :: .junk :: .junk :: .d (.ivs ls.length (ints ls)) :: .d (.int .i64 (ls.length)) :: .d (.int .i64 ((q : Int))) :: .junk :: .junk :: .junk :: .junk :: .junk :: .junk :: .junk :: .d (.ivs ns.length (ints ns)) :: .d (.int .i64 (ns.length)) :: .d (.int .i64 ((i : Int))) :: .junk :: .junk :: .junk :: .junk :: .junk :: .junk :: .junk :: .junk :: .junk :: .junk :: .junk :: .junk :: .junk :: .junk :: .junk :: .junk :: .junk :: []) [.box [.sl 4 0 0 sn], .box [.sl 5 0 0 size], .box [.d gb], .arr (ints o) 1 0, .arr sc 3 0, .arr (boolC seen) 1 0] k
    = k (.exit 4) (.junk :: .junk :: .d (.ivs ls.length (ints ls)) :: .d (.fn nf caps) :: .junk :: .junk :: .junk :: .junk :: .junk :: .junk :: .d (.str []) :: .d (.bool false) :: .junk :: .ptr 0 0 0 :: .clo 96 [.ptr 1 0 0, .ptr 2 0 0, .ptr 0 0 0] :: .d (.int .i64 ((ii : Int))) :: .junk :: .d (.int .i64 c) :: .sl 3 0 0 (o ++ (ns.drop i).flatMap fun x => nx x c).length :: .junk :: .junk :: .junk :: .junk :: .junk :: .junk :: .junk :: .junk :: .junk :: .junk :: .junk :: .junk :: .junk :: .junk :: .d (.ivs ls.length (ints ls)) :: .d (.int .i64 (ls.length)) :: .d (.int .i64 ((q : Int))) :: .junk :: .junk :: .junk :: .junk :: .junk :: .junk :: .junk :: .d (.ivs ns.length (ints ns)) :: .d (.int .i64 (ns.length)) :: .d (.int .i64 (ns.length)) :: .junk :: .junk :: .junk :: .junk :: .junk :: .junk :: .junk :: .junk :: .junk :: .junk :: .junk :: .junk :: .junk :: .junk :: .junk :: .junk :: .junk :: []) [.box [.sl 4 0 0 sn], .box [.sl 5 0 0 size], .box [.d gb], .arr (ints (o ++ (ns.drop i).flatMap fun x => nx x c)) 1 0, .arr sc 3 0, .arr (boolC seen) 1 0] := by
  intro j
  induction j with
  | zero =>
    intro i m o len hi hm ho hlen
    obtain ⟨m, rfl⟩ : ∃ q, m = q + 1 := ⟨m - 1, by omega⟩
    obtain rfl : i = ns.length := by omega
    subst hlen
    rw [step_i_firstPath_2]
    simp only [S_i_firstPath_2, Tryd.f75, SLM, simprocAttr]
    simp -implicitDefEqProofs (maxSteps := 2000000) (disch := first | assumption | (refine Shut.mk ?_; kernel_rfl) | omega | (simp only [GT]; done) | (simp only [LN] <;> omega) | fail) only [↓WD, ↓kAsg, ↓kRet, ↓clash_free, ↓WDD, ↓kOpD_callv, WK, UN, TY, LB, MD, i64_id, simprocAttr, ↓CV, PE, Int.lt_irrefl]
    simp only [List.drop_length, List.flatMap_nil, List.append_nil, List.length_nil, Nat.add_zero]
  | succ j ih =>
    intro i m o len hi hm ho hlen
    obtain ⟨m, rfl⟩ : ∃ q, m = q + 1 := ⟨m - 1, by omega⟩
    subst hlen
    have hc : (i : Int) < ns.length := by omega
    have hk : i < ns.length := by omega
    have hmem : ns.getD i 0 ∈ ns := by rw [List.getD_eq_getElem?_getD, List.getElem?_eq_getElem hk]; exact List.getElem_mem hk
    have hIx := hI _ hmem
    have hww := hw (ns.getD i 0) c
    have hob : o.length ≤ 2147483648 := by omega
    have e4 : ((i + 1 : Nat) : Int) = (i : Int) + 1 := by omega
    have ih' := ih (i + 1) m (o ++ nx (ns.getD i 0) c) (o.length + (nx (ns.getD i 0) c).length) (by omega) (by omega) (by rw [List.length_append]; omega) (by rw [List.length_append])
    rw [e4] at ih'
    rw [drop_go hk (d := 0)]
    simp only [List.flatMap_cons, ← List.append_assoc]
    have kc_m := fun {R : Type} {n id : Nat} {hq : H} {k : A → H → Option R} (h4 : 4 ≤ n) (hg : hq[id]? = some (.arr (ints o) 1 0)) => @kc_n R n id hq k (ns.getD i 0) c o h4 hIx hc0 hc6 hob hg
    clear ih hmem kc_n
    generalize nx (ns.getD i 0) c = w at *
    rw [step_i_firstPath_2]
    simp only [S_i_firstPath_2, Tryd.f75, SLM, simprocAttr]
    simp -implicitDefEqProofs (maxSteps := 2000000) (disch := first | assumption | (refine Shut.mk ?_; kernel_rfl) | omega | (simp only [GT]; done) | (simp only [LN] <;> omega) | fail) only [↓WD, ↓kAsg, ↓kRet, ↓clash_free, ↓WDD, ↓kOpD_callv, WK, UN, TY, LB, MD, i64_id, simprocAttr, ↓CV, PE, hc, Int.toNat_natCast, ↓kc_m, ↓ih', List.length_append]

theorem visF_grow : ∀ (ns : List Int) (s : List Bool) (f : List Int), f.length ≤ (visF ns s f).2.length
  | [], s, f => Nat.le_refl _
  | n :: ns, s, f => by
    unfold visF
    split
    · exact visF_grow ns s f
    · have := visF_grow ns (s.set n.toNat true) (f ++ [n])
      simp only [List.length_append, List.length_cons, List.length_nil] at this
      omega

theorem visF_new {ns : List Int} {size : Nat} (h : ns ≠ []) : 0 < (visF ns (List.replicate size false) []).2.length := by
  cases ns with
  | nil => exact absurd rfl h
  | cons n ns =>
    have e : (List.replicate size false).getD n.toNat false = false := by
      rw [List.getD_eq_getElem?_getD, List.getElem?_replicate]
      split <;> rfl
    unfold visF
    rw [e]
    have := visF_grow ns ((List.replicate size false).set n.toNat true) ([] ++ [n])
    simp only [List.length_append, List.length_cons, List.length_nil] at this
    simp only [Bool.false_eq_true, if_false]
    omega

theorem kc_visA {R : Type} {L n : Nat} {k : A → H → Option R} (hn : 4 ≤ n) (hL : 2 ^ 60 ≤ L) {I : Int → Prop} {gf : FuncId} {caps : List D} {size : Nat} {p l : Int} {ns : List Int} (kc_g : ∀ {R : Type} {n : Nat} {hq : H} {k : A → H → Option R} (x : Int), 2 ≤ n → I x → kCall env (evCall env L n) hq gf (.d (.int .i64 x) :: caps.map A.d) k = k (.d (.bool false)) hq) (hI : ∀ x ∈ ns, I x) (hr : ∀ x, I x → 0 ≤ x ∧ x < size) (hsz : size ≤ 4294967290) (hnl : ns.length ≤ 4294967290) (hne : ns ≠ []) :
    kCallC env (evCall env L n) [.box [.d (.fn gf caps)], .arr (boolC (List.replicate size false)) 1 0, .arr [] 0 0, .box [.sl 1 0 0 size], .arr [] 0 0, .box [.sl 4 0 0 0]] 96 [.ptr 3 0 0, .ptr 0 0 0, .ptr 5 0 0] [.d (.int .i64 p), .d (.int .i64 l), .d (.ivs ns.length (ints ns))] k
    = k (.d (.bool false)) [.box [.d (.fn gf caps)], .arr (boolC (visF ns (List.replicate size false) []).1) 1 0, .arr [] 0 0, .box [.sl 1 0 0 size], .arr (stepsD [⟨p, l, (visF ns (List.replicate size false) []).2⟩]) 3 1, .box [.sl 4 1 0 1]] := by
  have he := ev_visA (p := p) (l := l) hn hL (fun {R n hq k} => kc_g) hI hr hsz hnl (List.replicate size false) (by simp) _ rfl (by have := visF_new (size := size) hne; omega)
  unfold kCallC
  generalize List.replicate size false = sz at *
  generalize hh : [O.box [.d (.fn gf caps)], .arr (boolC sz) 1 0, .arr [] 0 0, .box [.sl 1 0 0 size], .arr [] 0 0, .box [.sl 4 0 0 0]] = h
  have hre : reach fuelR h (idsL [A.ptr 3 0 0, .ptr 0 0 0, .ptr 5 0 0] ++ idsL [A.d (.int .i64 p), .d (.int .i64 l), .d (.ivs ns.length (ints ns))]) [] = [3, 0, 5, 1, 4] := by subst hh; rfl
  have hpk : pack h [3, 0, 5, 1, 4] = [.box [.sl 3 0 0 size], .box [.d (.fn gf caps)], .box [.sl 4 0 0 0], .arr (boolC sz) 1 0, .arr [] 0 0] := by subst hh; rfl
  have hma : mapAs (place [3, 0, 5, 1, 4]) [A.d (.int .i64 p), .d (.int .i64 l), .d (.ivs ns.length (ints ns))] ++ mapAs (place [3, 0, 5, 1, 4]) [A.ptr 3 0 0, .ptr 0 0 0, .ptr 5 0 0] = [.d (.int .i64 p), .d (.int .i64 l), .d (.ivs ns.length (ints ns)), .ptr 0 0 0, .ptr 1 0 0, .ptr 2 0 0] := rfl
  have hca : ∀ h f args, aCall (evCall env L n) env.hint h f args = if (env.hint f).mode = 0 then evCall env L n f args h else aCall (evCall env L n) env.hint h f args := by
    intro h f args
    split
    · rename_i hm
      unfold aCall; rw [hm]; rfl
    · rfl
  rw [hre, hpk, hma, hca, if_pos mode_i_firstPath_c1, he]
  have hcl : closed h [3, 0, 5, 1, 4] (idsL [A.ptr 3 0 0, .ptr 0 0 0, .ptr 5 0 0] ++ idsL [A.d (.int .i64 p), .d (.int .i64 l), .d (.ivs ns.length (ints ns))]) = true := by subst hh; rfl
  subst hh
  simp only [hcl, List.length_cons, List.length_nil, Nat.le_refl, and_self, if_true]
  rfl

/-- The age of the steps after a visit. -/
def gV (r : List Bool × List Int) : Nat := if r.2 = [] then 0 else 1

theorem kc_visB {R : Type} {L n : Nat} {k : A → H → Option R} (hn : 4 ≤ n) (hL : 2 ^ 60 ≤ L) {I : Int → Prop} {gf : FuncId} {caps : List D} {size : Nat} {p l : Int} {ns : List Int} (kc_g : ∀ {R : Type} {n : Nat} {hq : H} {k : A → H → Option R} (x : Int), 2 ≤ n → I x → kCall env (evCall env L n) hq gf (.d (.int .i64 x) :: caps.map A.d) k = k (.d (.bool false)) hq) (hI : ∀ x ∈ ns, I x) (hr : ∀ x, I x → 0 ≤ x ∧ x < size) (hsz : size ≤ 4294967290) (hnl : ns.length ≤ 4294967290) (seen : List Bool) (hs : seen.length = size) (st : List PStep) (hst : st.length ≤ 4294967290) :
    kCallC env (evCall env L n) [.box [.sl 4 0 0 st.length], .box [.sl 5 0 0 size], .box [.d (.fn gf caps)], .arr (ints ns) 1 0, .arr (stepsD st) 3 0, .arr (boolC seen) 1 0] 96 [.ptr 1 0 0, .ptr 2 0 0, .ptr 0 0 0] [.d (.int .i64 p), .d (.int .i64 l), .sl 3 0 0 ns.length] k
    = k (.d (.bool false)) [.box [.sl 4 (gV (visF ns seen [])) 0 (addP st p l (visF ns seen []).2).length], .box [.sl 5 0 0 size], .box [.d (.fn gf caps)], .arr (ints ns) 1 0, .arr (stepsD (addP st p l (visF ns seen []).2)) 3 (gV (visF ns seen [])), .arr (boolC (visF ns seen []).1) 1 0] := by
  have he := ev_visB (p := p) (l := l) hn hL (fun {R n hq k} => kc_g) hI hr hsz hnl seen hs st hst _ rfl
  unfold kCallC
  generalize hh : [O.box [.sl 4 0 0 st.length], .box [.sl 5 0 0 size], .box [.d (.fn gf caps)], .arr (ints ns) 1 0, .arr (stepsD st) 3 0, .arr (boolC seen) 1 0] = h
  have hre : reach fuelR h (idsL [A.ptr 1 0 0, .ptr 2 0 0, .ptr 0 0 0] ++ idsL [A.d (.int .i64 p), .d (.int .i64 l), .sl 3 0 0 ns.length]) [] = [1, 2, 0, 3, 5, 4] := by subst hh; rfl
  have hpk : pack h [1, 2, 0, 3, 5, 4] = [.box [.sl 4 0 0 size], .box [.d (.fn gf caps)], .box [.sl 5 0 0 st.length], .arr (ints ns) 1 0, .arr (boolC seen) 1 0, .arr (stepsD st) 3 0] := by subst hh; rfl
  have hma : mapAs (place [1, 2, 0, 3, 5, 4]) [A.d (.int .i64 p), .d (.int .i64 l), .sl 3 0 0 ns.length] ++ mapAs (place [1, 2, 0, 3, 5, 4]) [A.ptr 1 0 0, .ptr 2 0 0, .ptr 0 0 0] = [.d (.int .i64 p), .d (.int .i64 l), .sl 3 0 0 ns.length, .ptr 0 0 0, .ptr 1 0 0, .ptr 2 0 0] := rfl
  have hca : ∀ h f args, aCall (evCall env L n) env.hint h f args = if (env.hint f).mode = 0 then evCall env L n f args h else aCall (evCall env L n) env.hint h f args := by
    intro h f args
    split
    · rename_i hm
      unfold aCall; rw [hm]; rfl
    · rfl
  rw [hre, hpk, hma, hca, if_pos mode_i_firstPath_c1, he]
  have hcl : closed h [1, 2, 0, 3, 5, 4] (idsL [A.ptr 1 0 0, .ptr 2 0 0, .ptr 0 0 0] ++ idsL [A.d (.int .i64 p), .d (.int .i64 l), .sl 3 0 0 ns.length]) = true := by subst hh; rfl
  subst hh
  simp only [hcl, List.length_cons, List.length_nil, Nat.le_refl, and_self, if_true]
  rfl

theorem loop_pathB {R : Type} {L n : Nat} (hn : 5 ≤ n) (hL : 2 ^ 60 ≤ L) {I : Int → Prop} {nf gf : FuncId} {caps gcaps : List D} {size : Nat} {nx : Int → Int → List Int} {ls ns : List Int} {ii : Nat}
    (kc_n : ∀ {R : Type} {n id : Nat} {hq : H} {k : A → H → Option R} (x c : Int) (o : List Int), 4 ≤ n → I x → 0 ≤ c → c < 6 → o.length ≤ 2147483648 → hq[id]? = some (.arr (ints o) 1 0) → kCall env (evCall env L n) hq nf (.d (.int .i64 x) :: .d (.int .i64 c) :: .sl id 0 0 o.length :: caps.map A.d) k = k (.sl id (nx x c).length 0 (o ++ nx x c).length) (hq.set id (.arr (ints (o ++ nx x c)) 1 (nx x c).length)))
    (kc_g : ∀ {R : Type} {n : Nat} {hq : H} {k : A → H → Option R} (x : Int), 2 ≤ n → I x → kCall env (evCall env L n) hq gf (.d (.int .i64 x) :: gcaps.map A.d) k = k (.d (.bool false)) hq)
    (hr : ∀ x, I x → 0 ≤ x ∧ x < size) (hsz : size ≤ 16777216) (hI : ∀ x ∈ ns, I x) (hx : ∀ x c, I x → 0 ≤ c → c < 6 → ∀ y ∈ nx x c, I y) (hw : ∀ x c, (nx x c).length ≤ 64) (hls : ∀ c ∈ ls, 0 ≤ c ∧ c ≤ 5) (hll : ls.length ≤ 6) (hnl : ns.length ≤ size) {k : Exit → List A → H → Option R} : ∀ (j q m : Nat) (seen : List Bool) (st : List PStep) (sn : Nat) (hi : q + j = ls.length) (hm : j < m) (hg : PGood I size seen st) (hii : ii < st.length) (hns : (st.getD ii default).ns = ns) (hsn : sn = st.length),
    kLoop env (evCall env L n) L 0 [0, 0, 0, 0, 0, 0, 0, 0, 0, 0, 0, 0, 0, 0, 0, 0, 0, 0, 2] (false :: false :: true :: true :: false :: false :: false :: false :: false :: false :: true :: true :: false :: true :: true :: true :: false :: true :: true :: false :: false :: false :: false :: false :: false :: false :: false :: false :: false :: false :: false :: false :: false :: true :: true :: true :: false :: false :: false :: false :: false :: false :: false :: true :: true :: true :: false :: false :: false :: false :: false :: false :: false :: false :: false :: false :: false :: false :: false :: false :: false :: false :: false :: []) (lp_i_firstPath 1) (true :: true :: false :: false :: true :: true :: true :: true :: true :: true :: false :: false :: true :: false :: false :: false :: true :: true :: true :: true :: true :: true :: true :: true :: true :: true :: true :: true :: true :: true :: true :: true :: true :: false :: false :: false :: true :: true :: true :: true :: true :: true :: true :: true :: true :: true :: true :: true :: true :: true :: true :: true :: true :: true :: true :: true :: true :: true :: true :: true :: true :: true :: true :: []) m (.junk :: .junk :: .d (.ivs ls.length (ints ls)) :: .d (.fn nf caps) :: .junk :: .junk :: .junk :: .junk :: .junk :: .junk :: .d (.str []) :: .d (.bool false) :: .junk :: .ptr 0 0 0 :: .clo 96 [.ptr 1 0 0, .ptr 2 0 0, .ptr 0 0 0] :: .d (.int .i64 ((ii : Int))) :: .junk :: .junk :: .junk :: .junk :: .junk :: .junk :: .junk :: .junk :: .junk :: .junk :: .junk :: .junk :: .junk :: .junk :: .junk :: .junk :: .junk :: .d (.ivs ls.length (ints ls)) :: .d (.int .i64 (ls.length)) :: .d (.int .i64 ((q : Int))) :: .junk :: .junk :: .junk :: .junk :: .junk :: .junk :: .junk :: .junk :: .junk :: .junk :: .junk :: .junk :: .junk :: .junk :: .junk :: .junk :: .junk :: .junk :: .junk :: .junk :: .junk :: .junk :: .junk :: .junk :: .junk :: .junk :: .junk :: []) [.box [.sl 3 0 0 sn], .box [.sl 4 0 0 size], .box [.d (.fn gf gcaps)], .arr (stepsD st) 3 0, .arr (boolC seen) 1 0] k
    = k (.exit 2) (.junk :: .junk :: .d (.ivs ls.length (ints ls)) :: .d (.fn nf caps) :: .junk :: .junk :: .junk :: .junk :: .junk :: .junk :: .d (.str []) :: .d (.bool false) :: .junk :: .ptr 0 0 0 :: .clo 96 [.ptr 1 0 0, .ptr 2 0 0, .ptr 0 0 0] :: .d (.int .i64 ((ii : Int))) :: .junk :: .junk :: .junk :: .junk :: .junk :: .junk :: .junk :: .junk :: .junk :: .junk :: .junk :: .junk :: .junk :: .junk :: .junk :: .junk :: .junk :: .d (.ivs ls.length (ints ls)) :: .d (.int .i64 (ls.length)) :: .d (.int .i64 (ls.length)) :: .junk :: .junk :: .junk :: .junk :: .junk :: .junk :: .junk :: .junk :: .junk :: .junk :: .junk :: .junk :: .junk :: .junk :: .junk :: .junk :: .junk :: .junk :: .junk :: .junk :: .junk :: .junk :: .junk :: .junk :: .junk :: .junk :: .junk :: []) [.box [.sl 3 0 0 (ltF nx ns ii (ls.drop q) (seen, st)).2.length], .box [.sl 4 0 0 size], .box [.d (.fn gf gcaps)], .arr (stepsD (ltF nx ns ii (ls.drop q) (seen, st)).2) 3 0, .arr (boolC (ltF nx ns ii (ls.drop q) (seen, st)).1) 1 0] := by
  intro j
  induction j with
  | zero =>
    intro q m seen st sn hi hm hg hii hns hsn
    obtain ⟨m, rfl⟩ : ∃ q, m = q + 1 := ⟨m - 1, by omega⟩
    obtain rfl : q = ls.length := by omega
    subst hsn
    rw [step_i_firstPath_1]
    simp only [S_i_firstPath_1, Tryd.f75, SLM, simprocAttr]
    simp -implicitDefEqProofs (maxSteps := 2000000) (disch := first | assumption | (refine Shut.mk ?_; kernel_rfl) | omega | (simp only [GT]; done) | (simp only [LN] <;> omega) | fail) only [↓WD, ↓kAsg, ↓kRet, ↓clash_free, ↓WDD, ↓kOpD_callv, WK, UN, TY, LB, MD, i64_id, simprocAttr, ↓CV, PE, Int.lt_irrefl]
    simp only [List.drop_length, ltF]
  | succ j ih =>
    intro q m seen st sn hi hm hg hii hns hsn
    obtain ⟨m, rfl⟩ : ∃ q, m = q + 1 := ⟨m - 1, by omega⟩
    subst hsn
    have hc : (q : Int) < ls.length := by omega
    have hk : q < ls.length := by omega
    have hmem : ls.getD q 0 ∈ ls := by rw [List.getD_eq_getElem?_getD, List.getElem?_eq_getElem hk]; exact List.getElem_mem hk
    obtain ⟨c0, c5⟩ := hls _ hmem
    have c6 : ls.getD q 0 < 6 := by omega
    have hiI : (ii : Int) < st.length := by omega
    have hroom := hg.room
    have hstl : st.length ≤ 4294967290 := by omega
    rw [drop_go hk (d := 0)]
    have hI2 : ∀ y ∈ ns.flatMap fun x => nx x (ls.getD q 0), I y := by
      intro y hy
      obtain ⟨x, h1, h2⟩ := List.mem_flatMap.1 hy
      exact hx x (ls.getD q 0) (hI x h1) c0 c6 y h2
    have hfl := flat_len (c := ls.getD q 0) hw ns
    have hfl2 : (ns.flatMap fun x => nx x (ls.getD q 0)).length ≤ 4294967290 := by omega
    obtain ⟨g1, g2, g3⟩ := good_visit hg hI2 hr (ii : Int) (ls.getD q 0)
    have ih' := ih (q + 1) m (visF (ns.flatMap fun x => nx x (ls.getD q 0)) seen []).1 (addP st ii (ls.getD q 0) (visF (ns.flatMap fun x => nx x (ls.getD q 0)) seen []).2) _ (by omega) (by omega) g1 (by omega) (by rw [addP_get hii]; exact hns) rfl
    have e4 : ((q + 1 : Nat) : Int) = (q : Int) + 1 := by omega
    rw [e4] at ih'
    have loop_c := fun {R : Type} {n : Nat} (hn : 4 ≤ n) {k : Exit → List A → H → Option R} => @loop_pathC R L n hn hL I nf caps (.fn gf gcaps) size nx ls ns (stepsD st) seen st.length ii q (ls.getD q 0) (fun {R n id hq k} => kc_n) hI hw c0 c6 (by omega) k ns.length 0 L [] 0 (by omega) (by omega) (by simp) rfl
    simp only [List.drop_zero, List.nil_append, ints_nil, Int.natCast_zero] at loop_c
    have kc_v := fun {R : Type} {n : Nat} {k : A → H → Option R} (hn : 4 ≤ n) => @kc_visB R L n k hn hL I gf gcaps size (ii : Int) (ls.getD q 0) (ns.flatMap fun x => nx x (ls.getD q 0)) (fun {R n hq k} => kc_g) hI2 hr (by omega) hfl2 seen hg.len st hstl
    simp only [ltF]
    clear ih hmem g1 g2 g3 hg hI hI2 hx hw hls hr kc_n kc_g
    generalize ns.flatMap (fun x => nx x (ls.getD q 0)) = fm at *
    rw [step_i_firstPath_1]
    simp only [S_i_firstPath_1, Tryd.f75, SLM, simprocAttr]
    simp -implicitDefEqProofs (maxSteps := 2000000) (disch := first | assumption | (refine Shut.mk ?_; kernel_rfl) | omega | (simp only [GT]; done) | (simp only [LN] <;> omega) | fail) only [↓WD, ↓kAsg, ↓kRet, ↓clash_free, ↓WDD, ↓kOpD_callv, WK, UN, TY, LB, MD, i64_id, simprocAttr, ↓CV, PE, hc, hiI, hns, Int.toNat_natCast, ↓loop_c, ↓kc_v, ↓ih']

theorem loop_pathA {R : Type} {L n : Nat} (hn : 6 ≤ n) (hL : 2 ^ 60 ≤ L) {I : Int → Prop} {nf gf : FuncId} {caps gcaps : List D} {size : Nat} {nx : Int → Int → List Int} {ls : List Int}
    (kc_n : ∀ {R : Type} {n id : Nat} {hq : H} {k : A → H → Option R} (x c : Int) (o : List Int), 4 ≤ n → I x → 0 ≤ c → c < 6 → o.length ≤ 2147483648 → hq[id]? = some (.arr (ints o) 1 0) → kCall env (evCall env L n) hq nf (.d (.int .i64 x) :: .d (.int .i64 c) :: .sl id 0 0 o.length :: caps.map A.d) k = k (.sl id (nx x c).length 0 (o ++ nx x c).length) (hq.set id (.arr (ints (o ++ nx x c)) 1 (nx x c).length)))
    (kc_g : ∀ {R : Type} {n : Nat} {hq : H} {k : A → H → Option R} (x : Int), 2 ≤ n → I x → kCall env (evCall env L n) hq gf (.d (.int .i64 x) :: gcaps.map A.d) k = k (.d (.bool false)) hq)
    (hr : ∀ x, I x → 0 ≤ x ∧ x < size) (hsz : size ≤ 16777216) (hx : ∀ x c, I x → 0 ≤ c → c < 6 → ∀ y ∈ nx x c, I y) (hw : ∀ x c, (nx x c).length ≤ 64) (hls : ∀ c ∈ ls, 0 ≤ c ∧ c ≤ 5) (hll : ls.length ≤ 6) {k : Exit → List A → H → Option R} : ∀ (j i m : Nat) (seen : List Bool) (st : List PStep) (sn : Nat) (hi : st.length + unseen seen ≤ i + j) (hi2 : i ≤ st.length) (hm : j < m) (hg : PGood I size seen st) (hsn : sn = st.length),
    kLoop env (evCall env L n) L 0 [0, 0, 0, 0, 0, 0, 0, 0, 0, 0, 0, 0, 0, 0, 0, 0, 0, 0, 2] (false :: false :: true :: true :: false :: false :: false :: false :: false :: false :: true :: true :: false :: true :: true :: true :: false :: true :: true :: false :: false :: false :: false :: false :: false :: false :: false :: false :: false :: false :: false :: false :: false :: true :: true :: true :: false :: false :: false :: false :: false :: false :: false :: true :: true :: true :: false :: false :: false :: false :: false :: false :: false :: false :: false :: false :: false :: false :: false :: false :: false :: false :: false :: []) (lp_i_firstPath 0) (true :: true :: false :: false :: true :: true :: true :: true :: true :: true :: false :: false :: true :: false :: false :: false :: true :: true :: true :: true :: true :: true :: true :: true :: true :: true :: true :: true :: true :: true :: true :: true :: true :: true :: true :: true :: true :: true :: true :: true :: true :: true :: true :: true :: true :: true :: true :: true :: true :: true :: true :: true :: true :: true :: true :: true :: true :: true :: true :: true :: true :: true :: true :: []) m (.junk :: .junk :: .d (.ivs ls.length (ints ls)) :: .d (.fn nf caps) :: .junk :: .junk :: .junk :: .junk :: .junk :: .junk :: .d (.str []) :: .d (.bool false) :: .junk :: .ptr 0 0 0 :: .clo 96 [.ptr 1 0 0, .ptr 2 0 0, .ptr 0 0 0] :: .d (.int .i64 ((i : Int))) :: .junk :: .junk :: .junk :: .junk :: .junk :: .junk :: .junk :: .junk :: .junk :: .junk :: .junk :: .junk :: .junk :: .junk :: .junk :: .junk :: .junk :: .junk :: .junk :: .junk :: .junk :: .junk :: .junk :: .junk :: .junk :: .junk :: .junk :: .junk :: .junk :: .junk :: .junk :: .junk :: .junk :: .junk :: .junk :: .junk :: .junk :: .junk :: .junk :: .junk :: .junk :: .junk :: .junk :: .junk :: .junk :: .junk :: .junk :: []) [.box [.sl 3 0 0 sn], .box [.sl 4 0 0 size], .box [.d (.fn gf gcaps)], .arr (stepsD st) 3 0, .arr (boolC seen) 1 0] k
    = k (.exit 0) (.junk :: .junk :: .d (.ivs ls.length (ints ls)) :: .d (.fn nf caps) :: .junk :: .junk :: .junk :: .junk :: .junk :: .junk :: .d (.str []) :: .d (.bool false) :: .junk :: .ptr 0 0 0 :: .clo 96 [.ptr 1 0 0, .ptr 2 0 0, .ptr 0 0 0] :: .d (.int .i64 (((outF nx ls j i (seen, st)).2.length : Int))) :: .junk :: .junk :: .junk :: .junk :: .junk :: .junk :: .junk :: .junk :: .junk :: .junk :: .junk :: .junk :: .junk :: .junk :: .junk :: .junk :: .junk :: .junk :: .junk :: .junk :: .junk :: .junk :: .junk :: .junk :: .junk :: .junk :: .junk :: .junk :: .junk :: .junk :: .junk :: .junk :: .junk :: .junk :: .junk :: .junk :: .junk :: .junk :: .junk :: .junk :: .junk :: .junk :: .junk :: .junk :: .junk :: .junk :: .junk :: []) [.box [.sl 3 0 0 (outF nx ls j i (seen, st)).2.length], .box [.sl 4 0 0 size], .box [.d (.fn gf gcaps)], .arr (stepsD (outF nx ls j i (seen, st)).2) 3 0, .arr (boolC (outF nx ls j i (seen, st)).1) 1 0] := by
  intro j
  induction j with
  | zero =>
    intro i m seen st sn hi hi2 hm hg hsn
    obtain ⟨m, rfl⟩ : ∃ q, m = q + 1 := ⟨m - 1, by omega⟩
    obtain rfl : i = st.length := by omega
    subst hsn
    simp only [outF]
    rw [step_i_firstPath_0]
    simp only [S_i_firstPath_0, Tryd.f75, SLM, simprocAttr]
    simp -implicitDefEqProofs (maxSteps := 2000000) (disch := first | assumption | (refine Shut.mk ?_; kernel_rfl) | omega | (simp only [GT]; done) | (simp only [LN] <;> omega) | fail) only [↓WD, ↓kAsg, ↓kRet, ↓clash_free, ↓WDD, ↓kOpD_callv, WK, UN, TY, LB, MD, i64_id, simprocAttr, ↓CV, PE, Int.lt_irrefl]
  | succ j ih =>
    intro i m seen st sn hi hi2 hm hg hsn
    obtain ⟨m, rfl⟩ : ∃ q, m = q + 1 := ⟨m - 1, by omega⟩
    subst hsn
    by_cases hc : i < st.length
    · have hci : (i : Int) < st.length := by omega
      have hroom := hg.room
      have hmem : st.getD i default ∈ st := by rw [List.getD_eq_getElem?_getD, List.getElem?_eq_getElem hc]; exact List.getElem_mem hc
      have hI := hg.node _ hmem
      have hnl := hg.wide _ hmem
      obtain ⟨k1, k2, k3⟩ := good_letters (nx := nx) (p := (i : Int)) hr hI ls (seen, st) (fun x c h1 h2 => hx x c h1 (hls c h2).1 (by have := (hls c h2).2; omega)) hg
      have ih' := ih (i + 1) m (ltF nx (st.getD i default).ns i ls (seen, st)).1 (ltF nx (st.getD i default).ns i ls (seen, st)).2 _ (by have : (ltF nx (st.getD i default).ns i ls (seen, st)).2.length + unseen (ltF nx (st.getD i default).ns i ls (seen, st)).1 ≤ st.length + unseen seen := k2; omega) (by have : st.length ≤ (ltF nx (st.getD i default).ns i ls (seen, st)).2.length := k3; omega) (by omega) k1 rfl
      have e4 : ((i + 1 : Nat) : Int) = (i : Int) + 1 := by omega
      rw [e4] at ih'
      have loop_b := fun {R : Type} {n : Nat} (hn : 5 ≤ n) {k : Exit → List A → H → Option R} => @loop_pathB R L n hn hL I nf gf caps gcaps size nx ls (st.getD i default).ns i (fun {R n id hq k} => kc_n) (fun {R n hq k} => kc_g) hr hsz hI hx hw hls hll hnl k ls.length 0 L seen st st.length (by omega) (by omega) hg hc rfl rfl
      simp only [List.drop_zero, Int.natCast_zero] at loop_b
      simp only [outF, hc, if_true]
      clear ih hmem k1 k2 k3 hg hI hx hw hls hr kc_n kc_g hnl
      generalize ltF nx (st.getD i default).ns (i : Int) ls (seen, st) = w at *
      obtain ⟨w1, w2⟩ := w
      simp only at ih' loop_b ⊢
      have hll3 : ls.length ≤ 4294967290 := by omega
      rw [step_i_firstPath_0]
      simp only [S_i_firstPath_0, Tryd.f75, SLM, simprocAttr]
      simp -implicitDefEqProofs (maxSteps := 2000000) (disch := first | assumption | (refine Shut.mk ?_; kernel_rfl) | omega | (simp only [GT]; done) | (simp only [LN] <;> omega) | fail) only [↓WD, ↓kAsg, ↓kRet, ↓clash_free, ↓WDD, ↓kOpD_callv, WK, UN, TY, LB, MD, i64_id, simprocAttr, ↓CV, PE, hci, Int.toNat_natCast, ↓loop_b, ↓ih']
    · obtain rfl : i = st.length := by omega
      simp only [outF, hc, if_false]
      rw [step_i_firstPath_0]
      simp only [S_i_firstPath_0, Tryd.f75, SLM, simprocAttr]
      simp -implicitDefEqProofs (maxSteps := 2000000) (disch := first | assumption | (refine Shut.mk ?_; kernel_rfl) | omega | (simp only [GT]; done) | (simp only [LN] <;> omega) | fail) only [↓WD, ↓kAsg, ↓kRet, ↓clash_free, ↓WDD, ↓kOpD_callv, WK, UN, TY, LB, MD, i64_id, simprocAttr, ↓CV, PE, Int.lt_irrefl]

theorem make_boolC {n : Int} {h : H} (h0 : 0 ≤ n) (h1 : n ≤ 4294967296) : aMakeSlice env.P h 108 n n = some (.sl h.length 0 0 n.toNat, h ++ [.arr (boolC (List.replicate n.toNat false)) 1 0]) := by
  have hm : n ≤ (maxNeed : Nat) := by unfold maxNeed; omega
  have he : elemT env.P 108 = some 4 := by kernel_rfl
  have hz : zeroA env.P 4 = some (.d (.bool false)) := by kernel_rfl
  have hok : elemOk env.P 4 = true := by kernel_rfl
  have hc : env.P.cellsOf 4 = 1 := by kernel_rfl
  simp only [aMakeSlice, he, hz, cellsA, dataOf, Option.map_some, hok, h0, hm, hc, Int.le_refl, and_self, if_true, boolC, List.map_replicate, List.flatten_replicate_singleton]

theorem ev_i_firstPath {L n : Nat} (hn : 7 ≤ n) (hL : 2 ^ 60 ≤ L) {I : Int → Prop} {nf gf : FuncId} {caps gcaps : List D} {size : Nat} {nx : Int → Int → List Int} {ls ns : List Int}
    (kc_n : ∀ {R : Type} {n id : Nat} {hq : H} {k : A → H → Option R} (x c : Int) (o : List Int), 4 ≤ n → I x → 0 ≤ c → c < 6 → o.length ≤ 2147483648 → hq[id]? = some (.arr (ints o) 1 0) → kCall env (evCall env L n) hq nf (.d (.int .i64 x) :: .d (.int .i64 c) :: .sl id 0 0 o.length :: caps.map A.d) k = k (.sl id (nx x c).length 0 (o ++ nx x c).length) (hq.set id (.arr (ints (o ++ nx x c)) 1 (nx x c).length)))
    (kc_g : ∀ {R : Type} {n : Nat} {hq : H} {k : A → H → Option R} (x : Int), 2 ≤ n → I x → kCall env (evCall env L n) hq gf (.d (.int .i64 x) :: gcaps.map A.d) k = k (.d (.bool false)) hq)
    (hr : ∀ x, I x → 0 ≤ x ∧ x < size) (hsz : size ≤ 16777216) (hI : ∀ x ∈ ns, I x) (hx : ∀ x c, I x → 0 ≤ c → c < 6 → ∀ y ∈ nx x c, I y) (hw : ∀ x c, (nx x c).length ≤ 64) (hls : ∀ c ∈ ls, 0 ≤ c ∧ c ≤ 5) (hll : ls.length ≤ 6) (hne : ns ≠ []) (hnl : ns.length ≤ size) :
    evCall env L n 75 [.d (.int .i64 size), .d (.ivs ns.length (ints ns)), .d (.ivs ls.length (ints ls)), .d (.fn nf caps), .d (.fn gf gcaps)] [] = some (.tup [.d (.str []), .d (.bool false)], []) := by
  have hs0 : (0 : Int) ≤ size := by omega
  have hs1 : (size : Int) ≤ 4294967296 := by omega
  have kc_v := fun {R : Type} {n : Nat} {k : A → H → Option R} {p l : Int} (hn : 4 ≤ n) => @kc_visA R L n k hn hL I gf gcaps size p l ns (fun {R n hq k} => kc_g) hI hr (by omega) (by omega) hne
  have hu : unseen (List.replicate size false) = size := by simp [unseen]
  have hg0 : PGood I size (List.replicate size false) [] := ⟨by simp, by simp, by rw [hu]; simp, by simp⟩
  obtain ⟨g1, g2, g3⟩ := good_visit hg0 hI hr (-1) 0
  have hpos := visF_new (size := size) hne
  generalize visF ns (List.replicate size false) [] = r at *
  have ha : addP [] (-1) 0 r.2 = [⟨-1, 0, r.2⟩] := by
    unfold addP
    rw [if_neg (List.length_pos_iff.1 hpos)]; rfl
  rw [ha] at g1 g2
  have loop_a := fun {R : Type} {n : Nat} (hn : 6 ≤ n) {k : Exit → List A → H → Option R} => @loop_pathA R L n hn hL I nf gf caps gcaps size nx ls (fun {R n id hq k} => kc_n) (fun {R n hq k} => kc_g) hr hsz hx hw hls hll k size 0 L r.1 [⟨-1, 0, r.2⟩] 1 (by rw [hu] at g2; simpa using g2) (by simp) (by omega) g1 rfl
  simp only [Int.natCast_zero] at loop_a
  have ee : (stepsD [⟨-1, 0, r.2⟩]) = [.int .i64 (-1), .int .i64 0, .ivs r.2.length (ints r.2)] := rfl
  clear g1 g2 g3 hg0 hI hx hw hls hr kc_n kc_g
  obtain ⟨n, rfl⟩ : ∃ m, n = m + 1 := ⟨n - 1, by omega⟩
  rw [fn_i_firstPath]
  simp only [S_i_firstPath, Tryd.f75, SLM, simprocAttr]
  simp -implicitDefEqProofs (maxSteps := 2000000) (disch := first | assumption | (refine Shut.mk ?_; kernel_rfl) | omega | (simp only [GT]; done) | (simp only [LN] <;> omega) | fail) only [↓WD, ↓kAsg, ↓kRet, ↓clash_free, ↓WDD, ↓kOpD_callv, WK, UN, TY, LB, MD, i64_id, simprocAttr, ↓CV, PE, ↓make_boolC, Int.toNat_natCast, ↓kc_v, ↓loop_a]

end Ev
end Go.Proofs.YtojaohcpgelhmaaDoor
