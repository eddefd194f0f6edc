/-
  Memory that is not written out: operations on it, and what is read off it.
-/
import Derived.Test.YtppdfjdfjfoddaaMemS
section
set_option linter.unusedSimpArgs false
set_option linter.unusedVariables false
namespace Go.Proofs.Ytppdfjdfjfoddaa
namespace Ev
theorem rdWith_at {f : A → Option D} : ∀ {cs : List A} {ds : List D}, cs.length = ds.length → (∀ (i : Nat) (a : A) (x : D), cs[i]? = some a → ds[i]? = some x → f a = some x) → rdWith f cs = some ds
 | [], [], _, _ => rfl
 | [], _ :: _, h, _ => by cases h
 | _ :: _, [], h, _ => by cases h
 | a :: cs, x :: ds, h, hf => by
  have h0 := hf 0 a x rfl rfl
  have h1 := rdWith_at (f := f) (cs := cs) (ds := ds) (by simpa using h) (fun i b y hb hy => hf (i + 1) b y (by simpa using hb) (by simpa using hy))
  simp only [rdWith, h0, h1]
theorem rd_vecG {h : H} {v gv n : Nat} {cs : List A} {rs : List (List Int)} (hv : h[v]? = some (.vec cs 1 gv)) (hc : rdWith (rd0 h) cs = some (rowsD rs)) (hn : n = rs.length) : rd1 h (.sl v gv 0 n) = some (.ivs rs.length (rowsD rs)) := by
 subst hn
 have hl := rdWith_len hc
 have hr : (rowsD rs).length = rs.length := by simp [rowsD]
 simp only [rd1, hv, hc, Option.map_some, List.drop_zero, Nat.zero_add, Nat.mul_one]
 rw [if_pos ⟨trivial, by omega⟩]
 congr 2
 exact List.take_of_length_le (by omega)
theorem rd_boolsG {h : H} {v gv n : Nat} {ac : List Bool} (hv : h[v]? = some (.arr (bools ac) 1 gv)) (hn : n = ac.length) : rd1 h (.sl v gv 0 n) = some (.ivs ac.length (bools ac)) := by
 subst hn
 have hr : (bools ac).length = ac.length := by simp [bools]
 simp only [rd1, rd0, hv, List.drop_zero, Nat.zero_add, Nat.mul_one]
 rw [if_pos ⟨trivial, by omega⟩]
 congr 2
 exact List.take_of_length_le (by omega)
theorem rowsD_at {rs : List (List Int)} {i : Nat} {x : D} (h : (rowsD rs)[i]? = some x) : ∃ r, rs[i]? = some r ∧ x = rowD r := by
 unfold rowsD at h
 rw [List.getElem?_map] at h
 cases hr : rs[i]? with
 | none => rw [hr] at h; cases h
 | some r => rw [hr] at h; simp at h; exact ⟨r, rfl, h.symm⟩
theorem refsV_at : ∀ {rs : List (List Int)} {b i : Nat} {a : A}, (refsV b rs)[i]? = some a → ∃ r, rs[i]? = some r ∧ a = .sl (b + i) 0 0 r.length
 | [], b, i, a, h => by simp [refsV] at h
 | r :: rs, b, 0, a, h => by simp [refsV] at h; exact ⟨r, rfl, h.symm⟩
 | r :: rs, b, i + 1, a, h => by
  simp only [refsV, List.getElem?_cons_succ] at h
  obtain ⟨q, h1, h2⟩ := refsV_at h
  exact ⟨q, by simpa using h1, by rw [h2]; congr 1; omega⟩
theorem wgt_set_kids : ∀ {h : H} {i : Nat} {o : O}, wgt (h.set i o) ≤ wgt h + (kidsO o).length
 | [], i, o => by simp [wgt]
 | x :: h, 0, o => by
  have e1 := wgt_app [o] h
  have e2 := wgt_app [x] h
  have e3 : wgt [o] = (kidsO o).length := by cases o <;> simp [wgt, kidsO]
  simp only [List.set_cons_zero]
  simp only [List.singleton_append] at e1 e2
  omega
 | x :: h, i + 1, o => by
  have ih := wgt_set_kids (h := h) (i := i) (o := o)
  have e1 := wgt_app [x] (h.set i o)
  have e2 := wgt_app [x] h
  simp only [List.set_cons_succ]
  simp only [List.singleton_append] at e1 e2
  omega
theorem wgt_one {o : O} {h : H} : wgt (o :: h) = (kidsO o).length + wgt h := by
 cases o <;> simp [wgt, kidsO]
theorem wgt_snoc {o : O} {h : H} : wgt (h ++ [o]) = wgt h + (kidsO o).length := by
 rw [wgt_app, wgt_one]
 rfl
structure Cpy (y z : O) (al : Int) (nx : List (List Int)) (ac : List Bool) (N : Nat) (T1 T2 T3 : H) : Prop where
 hN : N = nx.length + 6
 h1 : y :: .arr [] 0 0 :: .arr [] 0 0 :: z :: autO 5 nx ac = T1
 l1 : T1.length = N
 h2 : T1 ++ [.arr [] 0 0, .arr [] 0 0, .box [.d (.int .i64 0), .sl (N + 1) 0 0 0, .sl (N + 1 + 1) 0 0 0]] = T2
 b2 : T2[N + 1 + 1]? = some (.box [.d (.int .i64 0), .sl (N + 1) 0 0 0, .sl (N + 1 + 1) 0 0 0])
 h3 : T2.set (N + 1 + 1) (.box [.d (.int .i64 al), .sl 5 0 0 nx.length, .sl 6 0 0 ac.length]) = T3
 l3 : T3.length = N + 1 + 1 + 1
 t3 : T3[3]? = some z
 t4 : T3[4]? = some (.vec (refsV 7 nx ++ nilsA 0) 1 0)
 t5 : T3[5]? = some (.arr (bools ac) 1 0)
 tr : ∀ (i : Nat) (r : List Int), nx[i]? = some r → T3[i + 6]? = some (.arr (ints r) 1 0)
 tb : T3[N + 1 + 1]? = some (.box [.d (.int .i64 al), .sl 5 0 0 nx.length, .sl 6 0 0 ac.length])
 e3 : T3 = y :: .arr [] 0 0 :: .arr [] 0 0 :: z :: .vec (refsV 7 nx ++ nilsA 0) 1 0 :: .arr (bools ac) 1 0 :: (rowsO nx ++ [.arr [] 0 0, .arr [] 0 0, .box [.d (.int .i64 al), .sl 5 0 0 nx.length, .sl 6 0 0 ac.length]])
 wg : wgt T3 ≤ nx.length + 8 + (kidsO y).length + (kidsO z).length
theorem cpy_facts (y z : O) (al : Int) (nx : List (List Int)) (ac : List Bool) : ∃ (N : Nat) (T1 T2 T3 : H), Cpy y z al nx ac N T1 T2 T3 := by
 have l1 : (y :: .arr [] 0 0 :: .arr [] 0 0 :: z :: autO 5 nx ac).length = nx.length + 6 := by simp [autO_len]
 generalize hT1 : y :: .arr [] 0 0 :: .arr [] 0 0 :: z :: autO 5 nx ac = T1 at l1
 have low : ∀ (l : H) (i : Nat), i < nx.length + 6 → (T1 ++ l)[i]? = T1[i]? := fun l i hi => List.getElem?_append_left (by omega)
 have g2 : ∀ a b c : O, (T1 ++ [a, b, c])[nx.length + 6 + 1 + 1]? = some c := fun a b c => by rw [← l1]; exact end3_get
 have g3 : ∀ a b c d : O, (T1 ++ [a, b, c]).set (nx.length + 6 + 1 + 1) d = T1 ++ [a, b, d] := fun a b c d => by rw [← l1]; exact end3_set
 refine ⟨nx.length + 6, T1, _, _, rfl, hT1, l1, rfl, g2 _ _ _, rfl, by rw [List.length_set]; simp [l1], ?_, ?_, ?_, ?_, ?_, ?_, ?_⟩
 ·rw [g3, low _ _ (by omega), ← hT1]; rfl
 ·rw [g3, low _ _ (by omega), ← hT1]; rfl
 ·rw [g3, low _ _ (by omega), ← hT1]; rfl
 ·intro i r hr
  have hi : i < nx.length := (List.getElem?_eq_some_iff.1 hr).1
  rw [g3, low _ _ (by omega), ← hT1]
  simp only [autO, List.getElem?_cons_succ]
  have := rows_in (p := []) hr
  rwa [List.append_nil] at this
 ·rw [g3, g2]
 ·rw [g3, ← hT1]
  simp [autO]
 ·rw [g3, wgt_app, ← hT1, wgt_one, wgt_one, wgt_one, wgt_one, wgt_aut]
  simp [wgt, kidsO, idsL, idsA]
  omega
theorem set_facts {T T' : H} {i : Nat} {o : O} (h : T.set i o = T') (hi : i < T.length) : T'.length = T.length ∧ T'[i]? = some o ∧ ∀ j, j ≠ i → T'[j]? = T[j]? := by
 subst h
 exact ⟨List.length_set, List.getElem?_set_self hi, fun j hj => List.getElem?_set_ne (fun e => hj e.symm)⟩
theorem app_facts {T T' : H} {o : O} (h : T ++ [o] = T') : T'.length = T.length + 1 ∧ T'[T.length]? = some o ∧ ∀ j, j < T.length → T'[j]? = T[j]? := by
 subst h
 exact ⟨by simp, by simp, fun j hj => List.getElem?_append_left hj⟩
theorem rd_refs7 {h : H} {nx : List (List Int)} (hr : ∀ (i : Nat) (r : List Int), nx[i]? = some r → h[i + 7]? = some (.arr (ints r) 1 0)) : rdWith (rd0 h) (refsV 7 nx ++ nilsA 0) = some (rowsD nx) := by
 refine rdWith_at (by rw [List.length_append, refsV_len]; simp [nilsA, rowsD]) ?_
 intro i a x ha hx
 obtain ⟨r, hr1, rfl⟩ := rowsD_at hx
 have hn : nilsA 0 = [] := rfl
 rw [hn, List.append_nil] at ha
 obtain ⟨r2, hr2, rfl⟩ := refsV_at ha
 rw [hr1] at hr2
 cases hr2
 refine rd_row ?_
 rw [Nat.add_comm]
 exact hr i r hr1
theorem rd_row_g {h : H} {b g : Nat} {r : List Int} (hr : h[b]? = some (.arr (ints r) 1 g)) : rd0 h (.sl b g 0 r.length) = some (rowD r) := by
 have hl : (ints r).length = r.length := by simp [ints]
 simp only [rd0, hr, List.drop_zero, Nat.zero_add, Nat.mul_one]
 rw [if_pos ⟨trivial, by omega⟩]
 unfold rowD
 congr 2
 exact List.take_of_length_le (by omega)
theorem rd_refs7_set {h : H} {nx : List (List Int)} {t g : Nat} {row : List Int} (ht : t < nx.length) (hr : ∀ (i : Nat) (r : List Int), i ≠ t → nx[i]? = some r → h[i + 7]? = some (.arr (ints r) 1 0)) (h1 : h[t + 7]? = some (.arr (ints row) 1 g)) {len : Nat} (hl : len = row.length) :
  rdWith (rd0 h) ((refsV 7 nx ++ nilsA 0).take t ++ [.sl (t + 7) g 0 len] ++ (refsV 7 nx ++ nilsA 0).drop (t + 1)) = some (rowsD (nx.set t row)) := by
 subst hl
 have hn : nilsA 0 = [] := rfl
 rw [hn, List.append_nil]
 have hlr : (refsV 7 nx).length = nx.length := refsV_len _ _
 have e : (refsV 7 nx).take t ++ [.sl (t + 7) g 0 row.length] ++ (refsV 7 nx).drop (t + 1) = (refsV 7 nx).set t (.sl (t + 7) g 0 row.length) := by
  rw [List.set_eq_take_append_cons_drop, if_pos (by omega)]
  simp
 rw [e]
 refine rdWith_at (by simp [hlr, rowsD]) ?_
 intro i a x ha hx
 obtain ⟨r, hr1, rfl⟩ := rowsD_at hx
 rw [List.getElem?_set] at ha hr1
 by_cases hi : t = i
 ·subst hi
  rw [if_pos rfl, if_pos (by omega)] at ha
  rw [if_pos rfl, if_pos ht] at hr1
  cases ha
  cases hr1
  exact rd_row_g h1
 ·rw [if_neg hi] at ha hr1
  obtain ⟨r2, hr2, rfl⟩ := refsV_at ha
  rw [hr1] at hr2
  cases hr2
  refine rd_row ?_
  rw [Nat.add_comm]
  exact hr i r (fun e => hi e.symm) hr1
theorem reach_leaf1 {h : H} {i : Nat} {cs : List D} {e g : Nat} (h1 : h[i]? = some (.arr cs e g)) : reach fuelR h [i] [] = [i] := by
 rw [show fuelR = 1099511627774 + 1 + 1 from rfl, reach_cons, reach_nil]
 simp [List.getD_eq_getElem?_getD, h1, reach_nil]
theorem reach_leaf2 {h : H} {i j : Nat} {cs ds : List D} {e g e2 g2 : Nat} (h1 : h[i]? = some (.arr cs e g)) (h2 : h[j]? = some (.arr ds e2 g2)) (hne : i ≠ j) : reach fuelR h [i, j] [] = [i, j] := by
 rw [show fuelR = 1099511627773 + 1 + 1 + 1 from rfl, reach_cons]
 have hne' : ¬ j = i := fun e => hne e.symm
 simp [List.getD_eq_getElem?_getD, h1]
 rw [reach_cons]
 simp [List.getD_eq_getElem?_getD, h2, hne', reach_nil]
theorem place_2 {i j : Nat} (hne : i ≠ j) : place [i, j] i = some 0 ∧ place [i, j] j = some 1 := by
 have hne' : ¬ i = j := hne
 simp [place, hne']
theorem memD_appA {E : Env} {call : CallF} {thaw : List Nat} {dst : Option Tmp} {args : Array Operand} {t e : TypeId} {h : H} {id id2 g g2 e0 len n2 : Nat} {cs src : List D} (he : elemT E.P t = some e) (hce : E.P.cellsOf e = 1) (hel : elemOk E.P e = true)
  (h1 : h[id]? = some (.arr cs e0 g)) (he0 : e0 = 0 ∨ e0 = 1) (h2 : h[id2]? = some (.arr src 1 g2)) (hn2 : n2 = src.length) (hlen : len ≤ cs.length) (hmax : len + n2 ≤ maxNeed) (hne : id ≠ id2) :
  memD E call thaw dst (.call ⟨.builtin .append, args, #[t, t]⟩) h [.sl id g 0 len, .sl id2 g2 0 n2] = some (.sl id (g + 1) 0 (len + n2), h.set id (.arr (cs.take len ++ src) 1 (g + 1)), { ids := [id, id2], ro := false, wr := [id] }) := by
 subst hn2
 have hids : idsL [A.sl id g 0 len, A.sl id2 g2 0 src.length] = [id, id2] := rfl
 obtain ⟨hk, hk2⟩ := place_2 hne
 have hord := reach_leaf2 h1 h2 hne
 have hcl : closed h [id, id2] [id, id2] = true := by simp [closed, h1, h2]
 have p1 := pack_at (h := h) (place_some hk) h1
 have p2 := pack_at (h := h) (place_some hk2) h2
 have key := memD_set (E := E) (call := call) (thaw := thaw) (dst := dst) (op := .call ⟨.builtin .append, args, #[t, t]⟩) (h := h) (vs := [A.sl id g 0 len, A.sl id2 g2 0 src.length]) (a := .sl 0 (g + 1) 0 (len + src.length)) (a2 := .sl id (g + 1) 0 (len + src.length)) (o := .arr (cs.take len ++ src) 1 (g + 1)) (o2 := .arr (cs.take len ++ src) 1 (g + 1)) (id := id) (k := 0) (ord := [id, id2]) (by rw [hids]; exact hord) (by rw [hids]; exact hcl) hk rfl ?_ rfl rfl
 ·rw [key]
  rfl
 ·have hu : E.P.underlying t = some (.slice e) := by
   unfold elemT at he
   split at he
   ·rename_i hq; cases he; exact hq
   ·cases he
  have hv : isVec (pack h [id, id2]) 0 = false := by simp only [isVec, p1, mapO]
  have hb : bears (pack h [id, id2]) (.sl 1 g2 0 src.length) = false := by simp only [bears, isVec, p2, mapO]
  have hs : sliceCells (pack h [id, id2]) 1 (.sl 1 g2 0 src.length) = some (src.length, src) := by
   simp [sliceCells, p2, mapO]
  simp only [mapAs, mapA, hk, hk2, evOp, asOper, evCallee, aBuiltin, aAppend, hv, hb, Bool.false_eq_true, if_false, aAppend0, he, hel, if_true, hce, hs, p1, mapO, true_and, Nat.mul_one, hlen, hmax, and_self, and_true, he0, hu]
theorem memD_storeE {E : Env} {call : CallF} {thaw : List Nat} {dst : Option Tmp} {x y : Operand} {t : TypeId} {h : H} {id g off esz : Nat} {cs : List D} {z : D} (ht : E.P.cellsOf t = 1) (hi : (E.P.info? t).isSome = true) (hz : okCell (.d z) = true)
  (h1 : h[id]? = some (.arr cs esz g)) (hoff : off + 1 ≤ cs.length) :
  memD E call thaw dst (.store t x y) h [.ptr id g off, .d z] = some (.d .undef, h.set id (.arr (setRun cs off [z]) esz g), { ids := [id], ro := false, wr := [id] }) := by
 have hids : idsL [A.ptr id g off, A.d z] = [id] := rfl
 have hk : place [id] id = some 0 := by simp [place]
 have hord := reach_leaf1 h1
 have hcl : closed h [id] [id] = true := by simp [closed, h1]
 have p1 := pack_at (h := h) (place_some hk) h1
 have key := memD_set (E := E) (call := call) (thaw := thaw) (dst := dst) (op := .store t x y) (h := h) (vs := [A.ptr id g off, A.d z]) (a := .d .undef) (a2 := .d .undef) (o := .arr (setRun cs off [z]) esz g) (o2 := .arr (setRun cs off [z]) esz g) (id := id) (k := 0) (ord := [id]) (by rw [hids]; exact hord) (by rw [hids]; exact hcl) hk rfl ?_ rfl rfl
 ·rw [key]
  rfl
 ·have hf : frzL (pack h [id]) [A.d z] = some ([z], pack h [id]) := by
   unfold frzL
   simp only [listWith]
   have : frz deep (pack h [id]) (.d z) = some (z, pack h [id]) := rfl
   rw [this]
  simp only [mapAs, mapA, hk, evOp, asOper, two, aStore, cellsA, List.length_cons, List.length_nil, Nat.zero_add, ht, hi, List.all_cons, List.all_nil, hz, Bool.and_self, and_self, if_true, p1, mapO, hf, hoff, Option.map_some]
theorem memD_storeV {E : Env} {call : CallF} {thaw : List Nat} {dst : Option Tmp} {x y : Operand} {t : TypeId} {h : H} {id id2 off g g2 o len : Nat} {cs : List A} (ht : E.P.cellsOf t = 1) (hi : (E.P.info? t).isSome = true)
  (h1 : h[id]? = some (.vec cs 1 g2)) (hoff : off + 1 ≤ cs.length) (ok1 : Okay h id) (ok2 : Okay h id2) (hw : 2 + wgt h ≤ 1099511627776) :
  memD E call thaw dst (.store t x y) h [.ptr id g2 off, .sl id2 g o len] = some (.d .undef, h.set id (.vec (setRun cs off [.sl id2 g o len]) 1 g2), { ids := reach fuelR h [id, id2] [], ro := false, wr := reach fuelR h [id, id2] [] }) := by
 have hids : idsL [A.ptr id g2 off, A.sl id2 g o len] = [id, id2] := rfl
 obtain ⟨c1, c2, c3⟩ := reach_all (h := h) (ids := [id, id2]) (by intro i hi; simp at hi; rcases hi with rfl | rfl; exact ok1; exact ok2) (by simpa using hw)
 obtain ⟨ord, hord⟩ : ∃ ord, reach fuelR h [id, id2] [] = ord := ⟨_, rfl⟩
 rw [hord] at c1 c2 c3 ⊢
 obtain ⟨k, hk⟩ := place_is_some (c2 id (by simp))
 obtain ⟨k2, hk2⟩ := place_is_some (c2 id2 (by simp))
 have p1 := pack_at (h := h) (place_some hk) h1
 have bk : ∀ xs : List A, (∀ i ∈ idsL xs, i ∈ ord) → mapAs (fun (k : Nat) => ord[k]?) (mapAs (place ord) xs) = xs := by
  intro xs hx
  rw [mapAs_mapAs (q := fun i => (place ord i).bind fun k => ord[k]?) (fun _ => rfl)]
  apply mapAs_fix
  intro i hi
  obtain ⟨j, hj⟩ := place_is_some (hx i hi)
  simp only [hj, Option.bind_some]
  exact place_some hj
 have hcs : ∀ i ∈ idsL cs, i ∈ ord := by
  have := c3 id (c2 id (by simp))
  simpa only [kids, h1] using this
 have split_cs : ∀ q : Nat, (∀ i ∈ idsL (cs.take q), i ∈ ord) ∧ (∀ i ∈ idsL (cs.drop q), i ∈ ord) := by
  intro q
  have := List.take_append_drop q cs
  constructor
  ·intro i hi
   refine hcs i ?_
   rw [← this, idsL_app, List.mem_append]; exact .inl hi
  ·intro i hi
   refine hcs i ?_
   rw [← this, idsL_app, List.mem_append]; exact .inr hi
 have hnew : ∀ i ∈ idsL (setRun cs off [.sl id2 g o len]), i ∈ ord := by
  intro i hi
  unfold setRun at hi
  rw [idsL_app, idsL_app, List.mem_append, List.mem_append] at hi
  rcases hi with (hi | hi) | hi
  ·exact (split_cs _).1 i hi
  ·simp [idsL, idsA] at hi; subst hi; exact c2 i (by simp)
  ·exact (split_cs _).2 i hi
 have hmr : setRun (mapAs (place ord) cs) off [.sl k2 g o len] = mapAs (place ord) (setRun cs off [.sl id2 g o len]) := by
  unfold setRun
  rw [mapAs_app, mapAs_app, mapAs_take, mapAs_drop]
  simp only [mapAs, mapA, hk2, List.length_cons, List.length_nil]
 have key := memD_set (E := E) (call := call) (thaw := thaw) (dst := dst) (op := .store t x y) (h := h) (vs := [A.ptr id g2 off, A.sl id2 g o len]) (a := .d .undef) (a2 := .d .undef) (o := .vec (mapAs (place ord) (setRun cs off [.sl id2 g o len])) 1 g2) (o2 := .vec (setRun cs off [.sl id2 g o len]) 1 g2) (id := id) (k := k) (ord := ord) (by rw [hids]; exact hord) (by rw [hids]; exact c1) hk rfl ?_ (by simp only [mapA]) (by simp only [mapO, bk _ hnew])
 ·rw [key]
  rfl
 ·have hoff2 : off + 1 ≤ (mapAs (place ord) cs).length := by rw [mapAs_len]; exact hoff
  simp only [mapAs, mapA, hk, hk2, evOp, asOper, two, aStore, cellsA, List.length_cons, List.length_nil, Nat.zero_add, ht, hi, List.all_cons, List.all_nil, okCell, Bool.and_self, and_self, if_true, p1, mapO, hoff2, true_and, hmr, Option.map_some]
theorem memD_vec1 {E : Env} {call : CallF} {thaw : List Nat} {dst : Option Tmp} {t e : TypeId} {x : Operand} {h : H} {id g len : Nat} {cs : List D} {es : Nat} (hk : keeps thaw dst = true) (he : elemT E.P t = some e) (hz : zeroA E.P e = some (.d .nils)) (hce : E.P.cellsOf e = 1) (hel : elemOk E.P e = true)
  (h1 : h[id]? = some (.arr cs es g)) :
  memD E call thaw dst (.buildSlice t 1 #[(0, x)]) h [.sl id g 0 len] = some (.sl h.length 0 0 1, h ++ [.vec [.sl id g 0 len] 1 0], { ids := [id, h.length], ro := false }) := by
 have hids : idsL [A.sl id g 0 len] = [id] := rfl
 have hp : place [id] id = some 0 := by simp [place]
 have hord := reach_leaf1 h1
 have hcl : closed h [id] [id] = true := by simp [closed, h1]
 have hlt : id < h.length := (List.getElem?_eq_some_iff.1 h1).1
 have hgd : h.getD id default = .arr cs es g := by rw [List.getD_eq_getElem?_getD, h1]; rfl
 have hpk : pack h [id] = [.arr cs es g] := by simp only [pack, List.map_cons, List.map_nil, hgd, mapO]
 have hev : evOp E call thaw (pack h [id]) (asOper dst (.buildSlice t 1 #[(0, x)])) (mapAs (place [id]) [A.sl id g 0 len]) = some (.sl 1 0 0 1, [.arr cs es g, .vec [.sl 0 g 0 len] 1 0]) := by
  rw [hpk]
  simp only [mapAs, mapA, hp, evOp, asOper, hk, if_true, aBuildVec, he, hz, hel, hce, cellsA]
  rfl
 have hset : h.set id (.arr cs es g) = h := by
  obtain ⟨_, h2⟩ := List.getElem?_eq_some_iff.1 h1
  rw [← h2, List.set_getElem_self]
 unfold memD
 rw [hids, show fuelR = 1099511627776 from rfl] at *
 rw [hord]
 simp only [box, hev, hcl, List.length_cons, List.length_nil, readOp, Bool.false_and, Bool.false_eq_true, if_false]
 have hb1 : back [id] h.length 2 0 = some id := rfl
 have hb2 : back [id] h.length 2 1 = some h.length := by simp [back]
 simp [mapA, mapAs, putBack, mapO, hb1, hb2, hset, wrOf]
def mostlyFree (bad : List (Nat × Nat)) (ops : List Oper) (cs : List Foot) : Bool :=
 let b := masks ops []
 let f := fun (c : Foot) => c.ro && c.ids.isEmpty
 (List.range cs.length).all fun j => (List.range j).all fun i => (b.getD j 0).testBit i || (f (cs.getD i {}) || f (cs.getD j {}) || ((cs.getD i {}).ro && (cs.getD j {}).ro)) || bad.contains (i, j)
theorem clash_no {a b : Foot} (h : (a.ro && a.ids.isEmpty) = true) : clash a b = false ∧ clash b a = false := by
 simp only [Bool.and_eq_true, List.isEmpty_iff] at h
 obtain ⟨ha, hi⟩ := h
 unfold clash
 rw [ha, hi, any_none]
 simp
theorem clash_most {ops : List Oper} {cs : List Foot} (bad : List (Nat × Nat)) (hm : mostlyFree bad ops cs = true) (hb : ∀ p ∈ bad, clash (cs.getD p.1 {}) (cs.getD p.2 {}) = false) : clashFree2 ops cs = true := by
 refine clash2_of ?_
 unfold mostlyFree at hm
 unfold clashFree
 simp only [List.all_eq_true, List.mem_range, Bool.or_eq_true] at hm ⊢
 intro j hj i hi
 rcases hm j hj i hi with (h | h) | h
 ·exact .inl h
 ·refine .inr ?_
  rcases h with (h | h) | h
  ·rw [(clash_no h).1]; rfl
  ·rw [(clash_no h).2]; rfl
  ·simp only [Bool.and_eq_true] at h
   rw [clash_ro h.1 h.2]; rfl
 ·have hp := hb (i, j) (by simpa using h)
  exact .inr (by rw [hp]; rfl)
end Ev
end Go.Proofs.Ytppdfjdfjfoddaa
end

/-!
  Automata that are drawn: a copy that is not valid: one more flag.
-/
section
set_option linter.unusedSimpArgs false
set_option linter.unusedVariables false
set_option maxRecDepth 8000
set_option pp.maxSteps 6000
set_option maxHeartbeats 4000000
namespace Go.Proofs.Ytppdfjdfjfoddaa
namespace Ev
theorem kd_copy5 {R : Type} {L n : Nat} {o1 o2 o3 o4 o5 : O} {al : Int} {rs : List (List Int)} {ac : List Bool} {T1 : H} {k : A → H → Option R} (hT : o2 :: o3 :: o4 :: o5 :: autO 5 rs ac = T1) (hs : rowsShort rs) (h1 : 1 ≤ rs.length) (ha : ac.length ≤ 4294967295) (hn : 2 ≤ n) (hL : 2 ^ 60 ≤ L) :
  kCall env (evCall env L n) [o1, o2, o3, o4, o5] 103 [.agg [.d (.int .i64 al), .d (.ivs rs.length (rowsD rs)), .d (.ivs ac.length (bools ac))]] k = k (.agg [.d (.int .i64 al), .sl 5 0 0 rs.length, .sl 6 0 0 ac.length]) (o1 :: T1) := by
 rw [kd_l3Copy hs h1 ha hn hL, ← hT]
 rfl
theorem l3Wrong_ac {c : List UInt8} (hc : c.length ≤ 2000) (al : Int) (nx : List (List Int)) (ac : List Bool) (hs : rowsShort nx) (h1 : 1 ≤ nx.length) (ha : ac.length ≤ 4294967290) (p t : Int)
  (kd1 : (∀ (R : Type) (L n : Nat) (hq : H) (k : A → H → Option R), 1 ≤ n → 2 ^ 60 ≤ L → kCall env (evCall env L n) (O.box [A.d (D.ivs c.length (bytesL c)), A.d (D.int .i64 p)] :: hq) 74 (.ptr 0 0 0 :: [.d (.int .i64 (nx.length))]) k = k (.d (.int .i64 t)) (O.box [A.d (D.ivs c.length (bytesL c)), A.d (D.int .i64 (p + 1))] :: hq)))
  (kd2 : (∀ (R : Type) (L n : Nat) (hq : H) (k : A → H → Option R), 1 ≤ n → 2 ^ 60 ≤ L → kCall env (evCall env L n) (O.box [A.d (D.ivs c.length (bytesL c)), A.d (D.int .i64 (p + 1))] :: hq) 74 (.ptr 0 0 0 :: [.d (.int .i64 30)]) k = k (.d (.int .i64 1)) (O.box [A.d (D.ivs c.length (bytesL c)), A.d (D.int .i64 (p + 1 + 1))] :: hq))) : (∀ (R : Type) (L n : Nat) (hq : H) (k : A → H → Option R), 4 ≤ n → 2 ^ 60 ≤ L → kCall env (evCall env L n) (O.box [A.d (D.ivs c.length (bytesL c)), A.d (D.int .i64 p)] :: hq) 76 (.ptr 0 0 0 :: [autD al nx ac]) k = k (autD al nx (ac ++ [true])) (O.box [A.d (D.ivs c.length (bytesL c)), A.d (D.int .i64 (p + 1 + 1))] :: hq)) := by
 intro R L n hq k hn hL
 refine kCall_rd m_l3Wrong (by simp [autD, idsA, idsL]) (by simp [autD, idsA, idsL]) ?_
 have hnl := hs.1
 obtain ⟨N, T1, T2, T3, w⟩ := cpy_facts (.box [.d (.int .i64 al), .d (.ivs nx.length (rowsD nx)), .d (.ivs ac.length (bools ac))]) (.box [.d (.int .i64 0), .sl 2 0 0 0, .sl 3 0 0 0]) al nx ac
 have kd3 := fun {R : Type} {n : Nat} {o1 : O} {k : A → H → Option R} (hn : 2 ≤ n) => kd_copy5 (R := R) (L := L) (n := n) (o1 := o1) (al := al) (k := k) w.h1 hs h1 (by omega) hn hL
 obtain ⟨hN, hT1, l1, h2, b2, h3, l3, t3, t4, t5, tr, tb, e3, wg⟩ := w
 clear e3
 clear hT1
 obtain ⟨T4, h4⟩ : ∃ T, T3 ++ [.arr [.bool true] 1 0] = T := ⟨_, rfl⟩
 obtain ⟨l4, g4, k4⟩ := app_facts h4
 rw [l3] at l4 g4 k4
 have t45 := k4 5 (by omega)
 rw [t5] at t45
 obtain ⟨T5, h5⟩ : ∃ T, T4.set 5 (.arr (bools (ac ++ [true])) 1 1) = T := ⟨_, rfl⟩
 obtain ⟨l5, g5, k5⟩ := set_facts h5 (by omega)
 obtain ⟨T6, h6⟩ : ∃ T, T5.set (N + 1 + 1) (.box [.d (.int .i64 al), .sl 5 0 0 nx.length, .sl 6 1 0 (ac.length + 1)]) = T := ⟨_, rfl⟩
 obtain ⟨l6, g6, k6⟩ := set_facts h6 (by omega)
 obtain ⟨T7, h7⟩ : ∃ T, T6.set 3 (.box [.d (.int .i64 al), .sl 5 0 0 nx.length, .sl 6 1 0 (ac.length + 1)]) = T := ⟨_, rfl⟩
 obtain ⟨l7, g7, k7⟩ := set_facts h7 (by omega)
 have t5b : T5[N + 1 + 1]? = some (.box [.d (.int .i64 al), .sl 5 0 0 nx.length, .sl 6 0 0 ac.length]) := by rw [k5 _ (by omega), k4 _ (by omega), tb]
 have t63 : T6[3]? = some (.box [.d (.int .i64 0), .sl 2 0 0 0, .sl 3 0 0 0]) := by rw [k6 _ (by omega), k5 _ (by omega), k4 _ (by omega), t3]
 have look : ∀ i, i ≠ 5 → i ≠ 3 → i < N + 2 → T7[i]? = T3[i]? := fun i i5 i3 hi => by rw [k7 _ i3, k6 _ (by omega), k5 _ i5, k4 _ (by omega)]
 have hv : rd1 (O.box [A.d (D.ivs c.length (bytesL c)), A.d (D.int .i64 (p + 1 + 1))] :: T7) (.sl 5 0 0 nx.length) = some (.ivs nx.length (rowsD nx)) := by
  refine rd_vecG (cs := refsV 7 nx ++ nilsA 0) ?_ (rd_refs7 fun i r hr => ?_) rfl
  ·rw [List.getElem?_cons_succ, look 4 (by omega) (by omega) (by omega), t4]
  ·have hi : i < nx.length := (List.getElem?_eq_some_iff.1 hr).1
   rw [show i + 7 = i + 6 + 1 by omega, List.getElem?_cons_succ, look _ (by omega) (by omega) (by omega)]
   exact tr i r hr
 have hw : rd1 (O.box [A.d (D.ivs c.length (bytesL c)), A.d (D.int .i64 (p + 1 + 1))] :: T7) (.sl 6 1 0 (ac.length + 1)) = some (.ivs (ac ++ [true]).length (bools (ac ++ [true]))) := by
  refine rd_boolsG ?_ (by simp)
  rw [List.getElem?_cons_succ, k7 _ (by omega), k6 _ (by omega), g5]
 obtain ⟨h2', st_out, st_keep, st_trim⟩ := fin_autR (al := al) hv hw (by omega) (by omega)
 unfold autD at st_out ⊢
 clear hv hw look k4 k5 k6 k7 tr h1 l4 l5 l6 l7 hN
 obtain ⟨n, rfl⟩ : ∃ m, n = m + 1 := ⟨n - 1, by omega⟩
 rw [x4r]
 simp only [x4o, Try.f76, SLM, simprocAttr]
 simp -implicitDefEqProofs (maxSteps := 2000000) (disch := first | assumption | (refine Shut.mk ?_; kernel_rfl) | omega | (simp only [GT]; done) | (simp only [LN] <;> omega) | fail) only [↓DN, ↓kAsg, ↓kRet, UP, simprocAttr, LA, ↓kd1, ↓kd2, ↓kd3, l1, h2, b2, h3, l3, t3, t4, t5, tb, h4, g4, t45, h5, t5b, h6, g6, t63, h7, g7, bools_length, bools_take, bools_snoc1, u_bools, c_bool, ↓st_out, ↓st_keep, ↓st_trim, List.append_assoc, List.cons_append, List.nil_append]
theorem l3Wrong_none {c : List UInt8} (hc : c.length ≤ 2000) (al : Int) (nx : List (List Int)) (ac : List Bool) (hs : rowsShort nx) (h1 : 1 ≤ nx.length) (ha : ac.length ≤ 4294967290) (p t : Int)
  (kd1 : (∀ (R : Type) (L n : Nat) (hq : H) (k : A → H → Option R), 1 ≤ n → 2 ^ 60 ≤ L → kCall env (evCall env L n) (O.box [A.d (D.ivs c.length (bytesL c)), A.d (D.int .i64 p)] :: hq) 74 (.ptr 0 0 0 :: [.d (.int .i64 (nx.length))]) k = k (.d (.int .i64 t)) (O.box [A.d (D.ivs c.length (bytesL c)), A.d (D.int .i64 (p + 1))] :: hq)))
  (kd2 : (∀ (R : Type) (L n : Nat) (hq : H) (k : A → H → Option R), 1 ≤ n → 2 ^ 60 ≤ L → kCall env (evCall env L n) (O.box [A.d (D.ivs c.length (bytesL c)), A.d (D.int .i64 (p + 1))] :: hq) 74 (.ptr 0 0 0 :: [.d (.int .i64 30)]) k = k (.d (.int .i64 4)) (O.box [A.d (D.ivs c.length (bytesL c)), A.d (D.int .i64 (p + 1 + 1))] :: hq))) : (∀ (R : Type) (L n : Nat) (hq : H) (k : A → H → Option R), 4 ≤ n → 2 ^ 60 ≤ L → kCall env (evCall env L n) (O.box [A.d (D.ivs c.length (bytesL c)), A.d (D.int .i64 p)] :: hq) 76 (.ptr 0 0 0 :: [autD al nx ac]) k = k (autD al [] []) (O.box [A.d (D.ivs c.length (bytesL c)), A.d (D.int .i64 (p + 1 + 1))] :: hq)) := by
 intro R L n hq k hn hL
 refine kCall_rd m_l3Wrong (by simp [autD, idsA, idsL]) (by simp [autD, idsA, idsL]) ?_
 have hnl := hs.1
 obtain ⟨N, T1, T2, T3, w⟩ := cpy_facts (.box [.d (.int .i64 al), .d (.ivs nx.length (rowsD nx)), .d (.ivs ac.length (bools ac))]) (.box [.d (.int .i64 0), .sl 2 0 0 0, .sl 3 0 0 0]) al nx ac
 have kd3 := fun {R : Type} {n : Nat} {o1 : O} {k : A → H → Option R} (hn : 2 ≤ n) => kd_copy5 (R := R) (L := L) (n := n) (o1 := o1) (al := al) (k := k) w.h1 hs h1 (by omega) hn hL
 obtain ⟨hN, hT1, l1, h2, b2, h3, l3, t3, t4, t5, tr, tb, e3, wg⟩ := w
 clear e3
 clear hT1
 obtain ⟨T4, h4⟩ : ∃ T, T3 ++ [.vec [] 1 0] = T := ⟨_, rfl⟩
 obtain ⟨l4, g4, k4⟩ := app_facts h4
 rw [l3] at l4 g4 k4
 obtain ⟨T5, h5⟩ : ∃ T, T4.set (N + 1 + 1) (.box [.d (.int .i64 al), .sl (N + 4) 0 0 0, .sl 6 0 0 ac.length]) = T := ⟨_, rfl⟩
 obtain ⟨l5, g5, k5⟩ := set_facts h5 (by omega)
 obtain ⟨T6, h6⟩ : ∃ T, T5 ++ [.arr [] 1 0] = T := ⟨_, rfl⟩
 obtain ⟨l6, g6, k6⟩ := app_facts h6
 rw [l5, l4] at l6 g6 k6
 obtain ⟨T7, h7⟩ : ∃ T, T6.set (N + 1 + 1) (.box [.d (.int .i64 al), .sl (N + 4) 0 0 0, .sl (N + 5) 0 0 0]) = T := ⟨_, rfl⟩
 obtain ⟨l7, g7, k7⟩ := set_facts h7 (by omega)
 obtain ⟨T8, h8⟩ : ∃ T, T7.set 3 (.box [.d (.int .i64 al), .sl (N + 4) 0 0 0, .sl (N + 5) 0 0 0]) = T := ⟨_, rfl⟩
 obtain ⟨l8, g8, k8⟩ := set_facts h8 (by omega)
 have t4b : T4[N + 1 + 1]? = some (.box [.d (.int .i64 al), .sl 5 0 0 nx.length, .sl 6 0 0 ac.length]) := by rw [k4 _ (by omega), tb]
 have t6b : T6[N + 1 + 1]? = some (.box [.d (.int .i64 al), .sl (N + 4) 0 0 0, .sl 6 0 0 ac.length]) := by rw [k6 _ (by omega), g5]
 have t73 : T7[3]? = some (.box [.d (.int .i64 0), .sl 2 0 0 0, .sl 3 0 0 0]) := by rw [k7 _ (by omega), k6 _ (by omega), k5 _ (by omega), k4 _ (by omega), t3]
 rw [l4] at l5
 have hv : rd1 (O.box [A.d (D.ivs c.length (bytesL c)), A.d (D.int .i64 (p + 1 + 1))] :: T8) (.sl (N + 4) 0 0 0) = some (.ivs ([] : List (List Int)).length (rowsD [])) := by
  refine rd_vecG (cs := []) ?_ rfl rfl
  rw [List.getElem?_cons_succ, k8 _ (by omega), k7 _ (by omega), k6 _ (by omega), k5 _ (by omega), g4]
 have hw : rd1 (O.box [A.d (D.ivs c.length (bytesL c)), A.d (D.int .i64 (p + 1 + 1))] :: T8) (.sl (N + 5) 0 0 0) = some (.ivs ([] : List Bool).length (bools [])) := by
  refine rd_boolsG ?_ rfl
  rw [List.getElem?_cons_succ, k8 _ (by omega), k7 _ (by omega), g6]
  rfl
 obtain ⟨h2', st_out, st_keep, st_trim⟩ := fin_autR (al := al) hv hw (by omega) (by omega)
 unfold autD at st_out ⊢
 clear hv hw k4 k5 k6 k7 k8 tr h1 l4 l6 l7 l8 hN
 obtain ⟨n, rfl⟩ : ∃ m, n = m + 1 := ⟨n - 1, by omega⟩
 rw [x4r]
 simp only [x4o, Try.f76, SLM, simprocAttr]
 simp -implicitDefEqProofs (maxSteps := 2000000) (disch := first | assumption | (refine Shut.mk ?_; kernel_rfl) | omega | (simp only [GT]; done) | (simp only [LN] <;> omega) | fail) only [↓DN, ↓kAsg, ↓kRet, UP, simprocAttr, LA, ↓kd1, ↓kd2, ↓kd3, l1, h2, b2, h3, l3, t3, t4, t5, tb, h4, g4, t4b, h5, l5, t6b, h6, g6, t73, h7, g7, h8, g8, u_bools, c_bool, u_intss, c_ints, ↓st_out, ↓st_keep, ↓st_trim, List.append_assoc, List.cons_append, List.nil_append]
end Ev
end Go.Proofs.Ytppdfjdfjfoddaa
end
