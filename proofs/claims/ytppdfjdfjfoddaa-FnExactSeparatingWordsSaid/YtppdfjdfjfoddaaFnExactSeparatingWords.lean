/-
  The law: the program's SeparatingWords and the reference's answer the same, and share no memory.
-/
import Derived.Test.YtppdfjdfjfoddaaAutF
import Derived.Test.YtppdfjdfjfoddaaSepW
set_option linter.unusedSimpArgs false
set_option linter.unusedVariables false
set_option maxRecDepth 8000
set_option pp.maxSteps 6000
set_option maxHeartbeats 4000000
namespace Go.Proofs.Ytppdfjdfjfoddaa
namespace Ev
theorem FnExactSeparatingWords_ok {L n : Nat} (hn : 30 ≤ n) (al : Int) (rs : List (List Int)) (ac : List Bool) (hlen : rowsLen rs) (hla : ac.length ≤ 9223372036854775807) (hsz : ¬ szA rs ac 1048576 < 0) (hok : autOK al rs ac = true) (hL : 2 ^ 60 ≤ L) : evCall env L n 4 [.agg [.d (.int .i64 al), .d (.ivs (List.length rs) (rowsD rs)), .d (.ivs (List.length ac) (bools ac))]] [] = some (.d (.bool true), []) := by
 obtain ⟨hr20, hc20, ha20⟩ := szA_small hsz
 have hs : rowsShort rs := ⟨by omega, fun r hr => by have := hc20 r hr; omega⟩
 have ha : ac.length ≤ 4294967296 := by omega
 have ht1 := szA_total hsz
 have hS := x70 (L := L) (n := n - 1) (by omega) ⟨al, rs, ac⟩ hs ha hL
 have hI := xkp (L := L) (n := n - 1) (by omega) ⟨al, rs, ac⟩ hok hL
 have hwl := sepW_len (a := ⟨al, rs, ac⟩) hok
 have hWR : sepR ⟨al, rs, ac⟩ = sepW ⟨al, rs, ac⟩ := by unfold sepR; exact if_pos hok
 rw [hWR] at hS
 clear hWR
 generalize sepW ⟨al, rs, ac⟩ = l at *
 simp only at hS hI
 have hG1 : Has (O.box [.d (.int .i64 al), .d (.ivs (List.length rs) (rowsD rs)), .d (.ivs (List.length ac) (bools ac))] :: autO 1 rs ac) 1 rs ac := has_new (h := [O.box [.d (.int .i64 al), .d (.ivs (List.length rs) (rowsD rs)), .d (.ivs (List.length ac) (bools ac))]])
 have wG1 : wgt (O.box [.d (.int .i64 al), .d (.ivs (List.length rs) (rowsD rs)), .d (.ivs (List.length ac) (bools ac))] :: autO 1 rs ac) ≤ 1048576 := by
  have := wgt_app [O.box [.d (.int .i64 al), .d (.ivs (List.length rs) (rowsD rs)), .d (.ivs (List.length ac) (bools ac))]] (autO 1 rs ac)
  rw [wgt_aut] at this
  have h2 : wgt [O.box [.d (.int .i64 al), .d (.ivs (List.length rs) (rowsD rs)), .d (.ivs (List.length ac) (bools ac))]] = 0 := by simp [wgt, idsL, idsA]
  have h3 : (O.box [.d (.int .i64 al), .d (.ivs (List.length rs) (rowsD rs)), .d (.ivs (List.length ac) (bools ac))] :: autO 1 rs ac) = [O.box [.d (.int .i64 al), .d (.ivs (List.length rs) (rowsD rs)), .d (.ivs (List.length ac) (bools ac))]] ++ autO 1 rs ac := rfl
  rw [h3]; omega
 have kc_1 : ∀ {R : Type} {k : A → H → Option R}, kCall env (evCall env L (n - 1)) [O.box [.d (.int .i64 al), .d (.ivs (List.length rs) (rowsD rs)), .d (.ivs (List.length ac) (bools ac))]] 18 [.agg [.d (.int .i64 al), .d (.ivs (List.length rs) (rowsD rs)), .d (.ivs (List.length ac) (bools ac))]] k = k (.agg [.d (.int .i64 al), .sl 1 0 0 rs.length, .sl (1 + 1) 0 0 ac.length]) (O.box [.d (.int .i64 al), .d (.ivs (List.length rs) (rowsD rs)), .d (.ivs (List.length ac) (bools ac))] :: autO 1 rs ac) := fun {R k} => call_to (h := [O.box [.d (.int .i64 al), .d (.ivs (List.length rs) (rowsD rs)), .d (.ivs (List.length ac) (bools ac))]]) (by omega) hs ha hL
 have hrd1 : rdAs (O.box [.d (.int .i64 al), .d (.ivs (List.length rs) (rowsD rs)), .d (.ivs (List.length ac) (bools ac))] :: autO 1 rs ac) [.agg [.d (.int .i64 al), .sl 1 0 0 rs.length, .sl (1 + 1) 0 0 ac.length]] = some [.agg [.d (.int .i64 al), .d (.ivs (List.length rs) (rowsD rs)), .d (.ivs (List.length ac) (bools ac))]] := by
  have h1 := rdA_aut (al := al) hG1
  simp only [rdAs, show A.agg [.d (.int .i64 al), .sl 1 0 0 rs.length, .sl (1 + 1) 0 0 ac.length] = autA 1 al rs.length ac.length from rfl, h1]; rfl
 obtain ⟨H1, c2, l1, w1, s1⟩ := kCall_frzW (call := evCall env L (n - 1)) x56 hrd1 (by simp [idsL, ids_autA, ids_autD, idsA]; omega) hS (by simp [idsA, idsL])
 have kc_2 : ∀ {R : Type} {k : A → H → Option R}, kCall env (evCall env L (n - 1)) (O.box [.d (.int .i64 al), .d (.ivs (List.length rs) (rowsD rs)), .d (.ivs (List.length ac) (bools ac))] :: autO 1 rs ac) 17 [.agg [.d (.int .i64 al), .sl 1 0 0 rs.length, .sl (1 + 1) 0 0 ac.length]] k = k (.d (.ivs l.length (strsL l))) H1 := fun {R k} => c2 R k
 have b1_0 : H1[0]? = some (.box [.d (.int .i64 al), .d (.ivs (List.length rs) (rowsD rs)), .d (.ivs (List.length ac) (bools ac))]) := by
  have r1 := reach_aut hG1 (by omega)
  have hid1 : idsL [A.agg [.d (.int .i64 al), .sl 1 0 0 rs.length, .sl (1 + 1) 0 0 ac.length]] = [1, 1 + 1] := by simp [idsL, idsA]
  rw [hid1, r1] at s1
  rw [s1 0 (by rw [List.mem_range'_1]; omega)]; rfl
 have hp0 : 0 < H1.length := by rw [l1]; exact Nat.succ_pos _
 clear s1 c2 hG1 hrd1
 obtain ⟨v1, hv1⟩ : ∃ v, v = List.length H1 := ⟨_, rfl⟩
 obtain ⟨H2, hH2⟩ : ∃ H, H = H1 ++ autO v1 rs ac := ⟨_, rfl⟩
 have kc_3 : ∀ {R : Type} {k : A → H → Option R}, kCall env (evCall env L (n - 1)) H1 18 [.agg [.d (.int .i64 al), .d (.ivs (List.length rs) (rowsD rs)), .d (.ivs (List.length ac) (bools ac))]] k = k (.agg [.d (.int .i64 al), .sl v1 0 0 rs.length, .sl (v1 + 1) 0 0 ac.length]) H2 := by intro R k; rw [hH2, hv1]; exact call_to (by omega) hs ha hL
 have gv1 : Has H2 v1 rs ac := by rw [hH2, hv1]; exact has_new
 have lH2 : H2.length = List.length H1 + rs.length + 2 := by rw [hH2, List.length_append, autO_len]; omega
 have wH2 : wgt H2 ≤ wgt H1 + 1048576 := by rw [hH2, wgt_app, wgt_aut]; omega
 have b2_0 : H2[0]? = some (.box [.d (.int .i64 al), .d (.ivs (List.length rs) (rowsD rs)), .d (.ivs (List.length ac) (bools ac))]) := by rw [hH2]; exact get_keep b1_0
 have wE2 : wgt (H2 ++ [O.arr [] 0 0, O.arr [] 0 0, O.box [.d (.int .i64 al), .sl v1 0 0 rs.length, .sl (v1 + 1) 0 0 ac.length]]) ≤ wgt H2 + 2 := by rw [wgt3 rfl rfl]; simp [idsL, idsA]
 have gE2 : Has (H2 ++ [O.arr [] 0 0, O.arr [] 0 0, O.box [.d (.int .i64 al), .sl v1 0 0 rs.length, .sl (v1 + 1) 0 0 ac.length]]) v1 rs ac := has_app gv1
 have hrdg : ∀ {h : H} {v : Nat}, Has h v rs ac → rdAs h [.agg [.d (.int .i64 al), .sl v 0 0 rs.length, .sl (v + 1) 0 0 ac.length]] = some [.agg [.d (.int .i64 al), .d (.ivs (List.length rs) (rowsD rs)), .d (.ivs (List.length ac) (bools ac))]] := by
  intro h v g
  have h1 := rdA_aut (al := al) g
  simp only [rdAs, show A.agg [.d (.int .i64 al), .sl v 0 0 rs.length, .sl (v + 1) 0 0 ac.length] = autA v al rs.length ac.length from rfl, h1]; rfl
 obtain ⟨vg, hvg⟩ : ∃ v, v = List.length (H2 ++ [O.arr [] 0 0, O.arr [] 0 0, O.box [.d (.int .i64 al), .sl v1 0 0 rs.length, .sl (v1 + 1) 0 0 ac.length]]) := ⟨_, rfl⟩
 obtain ⟨H3, hH3⟩ : ∃ H, H = (H2 ++ [O.arr [] 0 0, O.arr [] 0 0, O.box [.d (.int .i64 al), .sl v1 0 0 rs.length, .sl (v1 + 1) 0 0 ac.length]]) ++ [O.arr (strsL l) 1 0] := ⟨_, rfl⟩
 have kc_4 : ∀ {R : Type} {k : A → H → Option R}, kCall env (evCall env L (n - 1)) (H2 ++ [O.arr [] 0 0, O.arr [] 0 0, O.box [.d (.int .i64 al), .sl v1 0 0 rs.length, .sl (v1 + 1) 0 0 ac.length]]) 19 [.agg [.d (.int .i64 al), .sl v1 0 0 rs.length, .sl (v1 + 1) 0 0 ac.length]] k = k (.sl vg 0 0 l.length) H3 := by intro R k; rw [hH3, hvg]; exact lay_strs x2x (hrdg gE2) (by simp [idsL, ids_autA, ids_autD, idsA]; omega) hI
 have gvg : H3[vg]? = some (.arr (strsL l) 1 0) := by rw [hH3, hvg]; simp
 have lH3 : H3.length = List.length (H2 ++ [O.arr [] 0 0, O.arr [] 0 0, O.box [.d (.int .i64 al), .sl v1 0 0 rs.length, .sl (v1 + 1) 0 0 ac.length]]) + 1 := by rw [hH3]; simp
 have wH3 : wgt H3 ≤ wgt (H2 ++ [O.arr [] 0 0, O.arr [] 0 0, O.box [.d (.int .i64 al), .sl v1 0 0 rs.length, .sl (v1 + 1) 0 0 ac.length]]) := by rw [hH3, wgt_app]; simp [wgt]
 have b3_0 : H3[0]? = some (.box [.d (.int .i64 al), .d (.ivs (List.length rs) (rowsD rs)), .d (.ivs (List.length ac) (bools ac))]) := by rw [hH3]; exact (get_keep (get_keep b2_0))
 have b3_x : H3[H2.length + 1 + 1]? = some (.box [.d (.int .i64 al), .sl v1 0 0 rs.length, .sl (v1 + 1) 0 0 ac.length]) := by rw [hH3]; exact (get_keep end3_get)
 have gE3x : Has H3 v1 rs ac := by rw [hH3]; exact has_app gE2
 have kc_5 : ∀ {R : Type} {k : A → H → Option R}, kCall env (evCall env L (n - 1)) H3 20 [.sl vg 0 0 l.length, .d (.ivs l.length (strsL l))] k = k (.d (.bool true)) H3 := fun {R k} => eqS_mem (by omega) (by omega) (rd2 (rdA_strs gvg) rdA_d) (by simp [idsL, idsA]; omega) hL
 obtain ⟨vt, hvt⟩ : ∃ v, v = List.length H3 := ⟨_, rfl⟩
 obtain ⟨H4, hH4⟩ : ∃ H, H = H3 ++ autO vt rs ac := ⟨_, rfl⟩
 have kc_6 : ∀ {R : Type} {k : A → H → Option R}, kCall env (evCall env L (n - 1)) H3 18 [.agg [.d (.int .i64 al), .d (.ivs (List.length rs) (rowsD rs)), .d (.ivs (List.length ac) (bools ac))]] k = k (.agg [.d (.int .i64 al), .sl vt 0 0 rs.length, .sl (vt + 1) 0 0 ac.length]) H4 := by intro R k; rw [hH4, hvt]; exact call_to (by omega) hs ha hL
 have gvt : Has H4 vt rs ac := by rw [hH4, hvt]; exact has_new
 have lH4 : H4.length = List.length H3 + rs.length + 2 := by rw [hH4, List.length_append, autO_len]; omega
 have wH4 : wgt H4 ≤ wgt H3 + 1048576 := by rw [hH4, wgt_app, wgt_aut]; omega
 obtain ⟨fA, hfA⟩ : ∃ f : Foot, f = { ids := List.range' (List.length H3) (autO vt rs ac).length, ro := false } := ⟨_, rfl⟩
 have st_f6 : footC env 18 H3 H4 [] = some (H4, fA) := by rw [hfA, hH4]; exact footC_new x5s
 have st_f7 : ∀ {ord : List Nat}, footC env 21 H4 H4 ord = some (H4, { ids := ord, ro := true }) := fun {ord} => footC_ro x6
 obtain ⟨ord7, hord7⟩ : ∃ l, l = reach fuelR H4 (idsL [.agg [.d (.int .i64 al), .sl v1 0 0 rs.length, .sl (v1 + 1) 0 0 ac.length], .agg [.d (.int .i64 al), .sl vt 0 0 rs.length, .sl (vt + 1) 0 0 ac.length]]) [] := ⟨_, rfl⟩
 have st_r7 : reach fuelR H4 (idsL [.agg [.d (.int .i64 al), .sl v1 0 0 rs.length, .sl (v1 + 1) 0 0 ac.length], .agg [.d (.int .i64 al), .sl vt 0 0 rs.length, .sl (vt + 1) 0 0 ac.length]]) [] = ord7 := hord7.symm
 have gH4x : Has H4 v1 rs ac := by rw [hH4]; exact has_app gE3x
 have kc_7 : ∀ {R : Type} {k : A → H → Option R}, kCall env (evCall env L (n - 1)) H4 21 [.agg [.d (.int .i64 al), .sl v1 0 0 rs.length, .sl (v1 + 1) 0 0 ac.length], .agg [.d (.int .i64 al), .sl vt 0 0 rs.length, .sl (vt + 1) 0 0 ac.length]] k = k (.d (.bool true)) H4 := fun {R k} => eq_mem (by omega) hs ha (rd2 (rdA_aut gH4x) (rdA_aut gvt)) (by simp [idsL, ids_autA, ids_autD, idsA]; omega) hL
 simp only [end3_len] at lH2 lH3 lH4 hv1 hvt hvg
 have hclash : ∀ (ops : List Oper) (p q : Foot), maskOK 5 [(0, 1), (0, 2), (1, 2)] ops = true → clashFree ops ([] ++ [{ ids := idsA (A.ptr (H2.length + 2) 0 0) }] ++ [{ ids := idsA (A.ptr 0 0 0) }] ++ [fA] ++ [p] ++ [q]) = true := by
  intro ops p q hm
  refine clash_by 5 [(0, 1), (0, 2), (1, 2)] rfl hm ?_
  intro z hz
  simp only [List.mem_cons, List.not_mem_nil, or_false] at hz
  rcases hz with rfl | rfl | rfl
  ·exact clash_ro rfl rfl
  ·show clash { ids := idsA (A.ptr (H2.length + 2) 0 0) } fA = false; rw [hfA]; exact clash_at rfl (by omega)
  ·show clash { ids := idsA (A.ptr 0 0 0) } fA = false; rw [hfA]; exact clash_at rfl (by omega)
 have b4_0 : H4[0]? = some (.box [.d (.int .i64 al), .d (.ivs (List.length rs) (rowsD rs)), .d (.ivs (List.length ac) (bools ac))]) := by rw [hH4]; exact get_keep b3_0
 have b4_x : H4[H2.length + 1 + 1]? = some (.box [.d (.int .i64 al), .sl v1 0 0 rs.length, .sl (v1 + 1) 0 0 ac.length]) := by rw [hH4]; exact get_keep b3_x
 have b4_g : H4[vg]? = some (.arr (strsL l) 1 0) := by rw [hH4]; exact get_keep gvg
 obtain ⟨H5, c8, l5, gH5x, s5, w5⟩ := mark_aut (L := L) (n := n - 1) (by omega) (al := al) gH4x (c := 1) hs ha (by omega) (by omega) hL
 have kc_8 : ∀ {R : Type} {k : A → H → Option R}, kCall env (evCall env L (n - 1)) H4 22 [.agg [.d (.int .i64 al), .sl v1 0 0 rs.length, .sl (v1 + 1) 0 0 ac.length], .d (.int .i64 1)] k = k (.d (.int .i64 (1 + total rs + ac.length))) H5 := fun {R k} => c8 R k
 have b5_0 : H5[0]? = some (.box [.d (.int .i64 al), .d (.ivs (List.length rs) (rowsD rs)), .d (.ivs (List.length ac) (bools ac))]) := by rw [s5 0 (.inl (by omega))]; exact b4_0
 have b5_g : H5[vg]? = some (.arr (strsL l) 1 0) := by rw [s5 _ (.inr (by omega))]; exact b4_g
 have kc_9 : ∀ {R : Type} {k : A → H → Option R}, kCall env (evCall env L (n - 1)) H5 20 [.sl vg 0 0 l.length, .d (.ivs l.length (strsL l))] k = k (.d (.bool true)) H5 := fun {R k} => eqS_mem (by omega) (by omega) (rd2 (rdA_strs b5_g) rdA_d) (by simp [idsL, idsA]; omega) hL
 obtain ⟨H6, hH6⟩ : ∃ H, H = H5.set vg (.arr (strsL (marksL 1 l.length)) 1 0) := ⟨_, rfl⟩
 have kc_10 : ∀ {R : Type} {k : A → H → Option R}, kCall env (evCall env L (n - 1)) H5 23 [.sl vg 0 0 l.length, .d (.int .i64 1)] k = k (.d (.int .i64 (1 + l.length))) H6 := by
  intro R k
  rw [hH6]
  refine kCall_ref (id := vg) b5_g (by simp [idsL, idsA]) xan rfl ?_
  have hpl : place [vg] vg = some 0 := by simp [place]
  simp only [mapAs, mapA, hpl]
  exact xrs (by omega) hL l (by omega)
 have vgl : vg < H5.length := by omega
 have b6_0 : H6[0]? = some (.box [.d (.int .i64 al), .d (.ivs (List.length rs) (rowsD rs)), .d (.ivs (List.length ac) (bools ac))]) := by rw [hH6, List.getElem?_set_ne (by omega)]; exact b5_0
 have b6_g : H6[vg]? = some (.arr (strsL (marksL 1 l.length)) 1 0) := by rw [hH6, List.getElem?_set_self vgl]
 have w6 : wgt H6 ≤ wgt H5 := by rw [hH6]; exact wgt_set_le vgl rfl
 have l6 : H6.length = H5.length := by rw [hH6]; simp
 have kc_11 : ∀ {R : Type} {k : A → H → Option R}, kCall env (evCall env L (n - 1)) H6 24 [.sl vg 0 0 l.length, .d (.int .i64 1)] k = k (.d (.int .i64 (1 + l.length))) H6 := by
  intro R k
  have hr := rdA_strs b6_g
  rw [marksL_len] at hr
  exact heldS_mem (by omega) (by omega) (rd2 hr rdA_d) (by simp [idsL, idsA]; omega) hL
 obtain ⟨vu, hvu⟩ : ∃ v, v = List.length H6 := ⟨_, rfl⟩
 obtain ⟨H7, hH7⟩ : ∃ H, H = H6 ++ autO vu rs ac := ⟨_, rfl⟩
 have kc_12 : ∀ {R : Type} {k : A → H → Option R}, kCall env (evCall env L (n - 1)) H6 18 [.agg [.d (.int .i64 al), .d (.ivs (List.length rs) (rowsD rs)), .d (.ivs (List.length ac) (bools ac))]] k = k (.agg [.d (.int .i64 al), .sl vu 0 0 rs.length, .sl (vu + 1) 0 0 ac.length]) H7 := by intro R k; rw [hH7, hvu]; exact call_to (by omega) hs ha hL
 have gvu : Has H7 vu rs ac := by rw [hH7, hvu]; exact has_new
 have lH7 : H7.length = List.length H6 + rs.length + 2 := by rw [hH7, List.length_append, autO_len]; omega
 have wH7 : wgt H7 ≤ wgt H6 + 1048576 := by rw [hH7, wgt_app, wgt_aut]; omega
 obtain ⟨vh, hvh⟩ : ∃ v, v = List.length H7 := ⟨_, rfl⟩
 obtain ⟨H8, hH8⟩ : ∃ H, H = H7 ++ [O.arr (strsL l) 1 0] := ⟨_, rfl⟩
 have kc_13 : ∀ {R : Type} {k : A → H → Option R}, kCall env (evCall env L (n - 1)) H7 19 [.agg [.d (.int .i64 al), .sl vu 0 0 rs.length, .sl (vu + 1) 0 0 ac.length]] k = k (.sl vh 0 0 l.length) H8 := by intro R k; rw [hH8, hvh]; exact lay_strs x2x (hrdg gvu) (by simp [idsL, ids_autA, ids_autD, idsA]; omega) hI
 have gvh : H8[vh]? = some (.arr (strsL l) 1 0) := by rw [hH8, hvh]; simp
 have lH8 : H8.length = List.length H7 + 1 := by rw [hH8]; simp
 have wH8 : wgt H8 ≤ wgt H7 := by rw [hH8, wgt_app]; simp [wgt]
 have b8_g : H8[vg]? = some (.arr (strsL (marksL 1 l.length)) 1 0) := by rw [hH8, hH7]; exact get_keep (get_keep b6_g)
 have kc_14 : ∀ {R : Type} {k : A → H → Option R}, kCall env (evCall env L (n - 1)) H8 20 [.sl vh 0 0 l.length, .d (.ivs l.length (strsL l))] k = k (.d (.bool true)) H8 := fun {R k} => eqS_mem (by omega) (by omega) (rd2 (rdA_strs gvh) rdA_d) (by simp [idsL, idsA]; omega) hL
 have kc_15 : ∀ {R : Type} {k : A → H → Option R}, kCall env (evCall env L (n - 1)) H8 24 [.sl vg 0 0 l.length, .d (.int .i64 1)] k = k (.d (.int .i64 (1 + l.length))) H8 := by
  intro R k
  have hr := rdA_strs b8_g
  rw [marksL_len] at hr
  exact heldS_mem (by omega) (by omega) (rd2 hr rdA_d) (by simp [idsL, idsA]; omega) hL
 have p1 : ¬ (1 : Int) + total rs + ac.length < 0 := by omega
 have p2 : ¬ (1 : Int) + l.length < 0 := by omega
 have hll : ac.length ≤ 9223372036854775807 := by omega
 clear hH2 hH3 hH4 hH7 hH8 hv1 hvt hvu lH2 lH3 lH4 lH7 lH8 gv1 gE2 gE3x gvt gH4x gH5x gvu s5 c8 w1 wG1 wE2 w5 wH2 wH3 wH4 wH7 wH8 l1 l5 hfA hord7 hS hI hrdg hvg hvh gvg gvh b8_g b4_g b5_g b6_g hH6 w6 l6 vgl
 obtain ⟨n, rfl⟩ : ∃ m, n = m + 1 := ⟨n - 1, by omega⟩
 simp only [Nat.add_sub_cancel] at kc_1 kc_2 kc_3 kc_4 kc_5 kc_6 kc_7 kc_8 kc_9 kc_10 kc_11 kc_12 kc_13 kc_14 kc_15
 have n1 : 1 ≤ n + 1 := by omega
 obtain ⟨n, rfl⟩ : ∃ m, n = m + 1 := ⟨n - 1, by omega⟩
 rw [x5k]
 simp only [x4d, Try.f4, SLM, simprocAttr]
 simp -implicitDefEqProofs (maxSteps := 2000000) (disch := first | assumption | (refine Shut.mk ?_; exact hclash _ _ _ (by kernel_rfl)) | (refine Shut.mk ?_; kernel_rfl) | omega | (simp only [GT]; done) | (simp only [LN] <;> omega) | fail) only [↓DN, ↓kAsg, ↓kRet, UP, simprocAttr, ↓xds, ↓xe1, ↓xas, ↓xax, ↓xb0, LA, hsz, p1, p2, ↓kc_1, ↓kc_2, ↓kc_3, ↓kc_4, ↓kc_5, ↓kc_6, ↓kc_7, ↓kc_8, ↓kc_9, ↓kc_10, ↓kc_11, ↓kc_12, ↓kc_13, ↓kc_14, ↓kc_15, ↓st_f6, ↓st_f7, ↓st_r7, b1_0, b2_0, b3_0, b3_x, b4_x, b5_0, b6_0, List.append_assoc, List.cons_append, List.nil_append, end3_get, end3_set, beq_self_eq_true, bne_self_eq_false]
theorem FnExactSeparatingWords_no {L n : Nat} (hn : 30 ≤ n) (al : Int) (rs : List (List Int)) (ac : List Bool) (hlen : rowsLen rs) (hla : ac.length ≤ 9223372036854775807) (hsz : ¬ szA rs ac 1048576 < 0) (hok : autOK al rs ac = false) (hL : 2 ^ 60 ≤ L) : evCall env L n 4 [.agg [.d (.int .i64 al), .d (.ivs (List.length rs) (rowsD rs)), .d (.ivs (List.length ac) (bools ac))]] [] = some (.d (.bool true), []) := by
 obtain ⟨hr20, hc20, ha20⟩ := szA_small hsz
 have hs : rowsShort rs := ⟨by omega, fun r hr => by have := hc20 r hr; omega⟩
 have ha : ac.length ≤ 4294967296 := by omega
 have ht1 := szA_total hsz
 have hS := x70 (L := L) (n := n - 1) (by omega) ⟨al, rs, ac⟩ hs ha hL
 have hI := xi2 (L := L) (n := n - 1) (by omega) ⟨al, rs, ac⟩ hok hs ha hL
 have hWR : sepR ⟨al, rs, ac⟩ = [] := by unfold sepR; exact if_neg (by rw [hok]; exact Bool.false_ne_true)
 rw [hWR] at hS
 clear hWR
 simp only [List.length_nil, strsL_nil] at hS
 simp only at hS hI
 have hG1 : Has (O.box [.d (.int .i64 al), .d (.ivs (List.length rs) (rowsD rs)), .d (.ivs (List.length ac) (bools ac))] :: autO 1 rs ac) 1 rs ac := has_new (h := [O.box [.d (.int .i64 al), .d (.ivs (List.length rs) (rowsD rs)), .d (.ivs (List.length ac) (bools ac))]])
 have wG1 : wgt (O.box [.d (.int .i64 al), .d (.ivs (List.length rs) (rowsD rs)), .d (.ivs (List.length ac) (bools ac))] :: autO 1 rs ac) ≤ 1048576 := by
  have := wgt_app [O.box [.d (.int .i64 al), .d (.ivs (List.length rs) (rowsD rs)), .d (.ivs (List.length ac) (bools ac))]] (autO 1 rs ac)
  rw [wgt_aut] at this
  have h2 : wgt [O.box [.d (.int .i64 al), .d (.ivs (List.length rs) (rowsD rs)), .d (.ivs (List.length ac) (bools ac))]] = 0 := by simp [wgt, idsL, idsA]
  have h3 : (O.box [.d (.int .i64 al), .d (.ivs (List.length rs) (rowsD rs)), .d (.ivs (List.length ac) (bools ac))] :: autO 1 rs ac) = [O.box [.d (.int .i64 al), .d (.ivs (List.length rs) (rowsD rs)), .d (.ivs (List.length ac) (bools ac))]] ++ autO 1 rs ac := rfl
  rw [h3]; omega
 have kc_1 : ∀ {R : Type} {k : A → H → Option R}, kCall env (evCall env L (n - 1)) [O.box [.d (.int .i64 al), .d (.ivs (List.length rs) (rowsD rs)), .d (.ivs (List.length ac) (bools ac))]] 18 [.agg [.d (.int .i64 al), .d (.ivs (List.length rs) (rowsD rs)), .d (.ivs (List.length ac) (bools ac))]] k = k (.agg [.d (.int .i64 al), .sl 1 0 0 rs.length, .sl (1 + 1) 0 0 ac.length]) (O.box [.d (.int .i64 al), .d (.ivs (List.length rs) (rowsD rs)), .d (.ivs (List.length ac) (bools ac))] :: autO 1 rs ac) := fun {R k} => call_to (h := [O.box [.d (.int .i64 al), .d (.ivs (List.length rs) (rowsD rs)), .d (.ivs (List.length ac) (bools ac))]]) (by omega) hs ha hL
 have hrd1 : rdAs (O.box [.d (.int .i64 al), .d (.ivs (List.length rs) (rowsD rs)), .d (.ivs (List.length ac) (bools ac))] :: autO 1 rs ac) [.agg [.d (.int .i64 al), .sl 1 0 0 rs.length, .sl (1 + 1) 0 0 ac.length]] = some [.agg [.d (.int .i64 al), .d (.ivs (List.length rs) (rowsD rs)), .d (.ivs (List.length ac) (bools ac))]] := by
  have h1 := rdA_aut (al := al) hG1
  simp only [rdAs, show A.agg [.d (.int .i64 al), .sl 1 0 0 rs.length, .sl (1 + 1) 0 0 ac.length] = autA 1 al rs.length ac.length from rfl, h1]; rfl
 obtain ⟨H1, c2, l1, w1, s1⟩ := kCall_frzW (call := evCall env L (n - 1)) x56 hrd1 (by simp [idsL, ids_autA, ids_autD, idsA]; omega) hS (by simp [idsA, idsL])
 have kc_2 : ∀ {R : Type} {k : A → H → Option R}, kCall env (evCall env L (n - 1)) (O.box [.d (.int .i64 al), .d (.ivs (List.length rs) (rowsD rs)), .d (.ivs (List.length ac) (bools ac))] :: autO 1 rs ac) 17 [.agg [.d (.int .i64 al), .sl 1 0 0 rs.length, .sl (1 + 1) 0 0 ac.length]] k = k (.d (.ivs 0 [])) H1 := fun {R k} => c2 R k
 have b1_0 : H1[0]? = some (.box [.d (.int .i64 al), .d (.ivs (List.length rs) (rowsD rs)), .d (.ivs (List.length ac) (bools ac))]) := by
  have r1 := reach_aut hG1 (by omega)
  have hid1 : idsL [A.agg [.d (.int .i64 al), .sl 1 0 0 rs.length, .sl (1 + 1) 0 0 ac.length]] = [1, 1 + 1] := by simp [idsL, idsA]
  rw [hid1, r1] at s1
  rw [s1 0 (by rw [List.mem_range'_1]; omega)]; rfl
 have hp0 : 0 < H1.length := by rw [l1]; exact Nat.succ_pos _
 clear s1 c2 hG1 hrd1
 obtain ⟨v1, hv1⟩ : ∃ v, v = List.length H1 := ⟨_, rfl⟩
 obtain ⟨H2, hH2⟩ : ∃ H, H = H1 ++ autO v1 rs ac := ⟨_, rfl⟩
 have kc_3 : ∀ {R : Type} {k : A → H → Option R}, kCall env (evCall env L (n - 1)) H1 18 [.agg [.d (.int .i64 al), .d (.ivs (List.length rs) (rowsD rs)), .d (.ivs (List.length ac) (bools ac))]] k = k (.agg [.d (.int .i64 al), .sl v1 0 0 rs.length, .sl (v1 + 1) 0 0 ac.length]) H2 := by intro R k; rw [hH2, hv1]; exact call_to (by omega) hs ha hL
 have gv1 : Has H2 v1 rs ac := by rw [hH2, hv1]; exact has_new
 have lH2 : H2.length = List.length H1 + rs.length + 2 := by rw [hH2, List.length_append, autO_len]; omega
 have wH2 : wgt H2 ≤ wgt H1 + 1048576 := by rw [hH2, wgt_app, wgt_aut]; omega
 have b2_0 : H2[0]? = some (.box [.d (.int .i64 al), .d (.ivs (List.length rs) (rowsD rs)), .d (.ivs (List.length ac) (bools ac))]) := by rw [hH2]; exact get_keep b1_0
 have wE2 : wgt (H2 ++ [O.arr [] 0 0, O.arr [] 0 0, O.box [.d (.int .i64 al), .sl v1 0 0 rs.length, .sl (v1 + 1) 0 0 ac.length]]) ≤ wgt H2 + 2 := by rw [wgt3 rfl rfl]; simp [idsL, idsA]
 have gE2 : Has (H2 ++ [O.arr [] 0 0, O.arr [] 0 0, O.box [.d (.int .i64 al), .sl v1 0 0 rs.length, .sl (v1 + 1) 0 0 ac.length]]) v1 rs ac := has_app gv1
 have hrdg : ∀ {h : H} {v : Nat}, Has h v rs ac → rdAs h [.agg [.d (.int .i64 al), .sl v 0 0 rs.length, .sl (v + 1) 0 0 ac.length]] = some [.agg [.d (.int .i64 al), .d (.ivs (List.length rs) (rowsD rs)), .d (.ivs (List.length ac) (bools ac))]] := by
  intro h v g
  have h1 := rdA_aut (al := al) g
  simp only [rdAs, show A.agg [.d (.int .i64 al), .sl v 0 0 rs.length, .sl (v + 1) 0 0 ac.length] = autA v al rs.length ac.length from rfl, h1]; rfl
 obtain ⟨H3, hH3⟩ : ∃ H, H = (H2 ++ [O.arr [] 0 0, O.arr [] 0 0, O.box [.d (.int .i64 al), .sl v1 0 0 rs.length, .sl (v1 + 1) 0 0 ac.length]]) := ⟨_, rfl⟩
 have kc_4 : ∀ {R : Type} {k : A → H → Option R}, kCall env (evCall env L (n - 1)) (H2 ++ [O.arr [] 0 0, O.arr [] 0 0, O.box [.d (.int .i64 al), .sl v1 0 0 rs.length, .sl (v1 + 1) 0 0 ac.length]]) 19 [.agg [.d (.int .i64 al), .sl v1 0 0 rs.length, .sl (v1 + 1) 0 0 ac.length]] k = k (.d (.ivs 0 [])) H3 := by intro R k; rw [hH3]; exact lay_d x2x (hrdg gE2) (by simp [idsL, ids_autA, ids_autD, idsA]; omega) hI rfl
 have lH3 : H3.length = List.length (H2 ++ [O.arr [] 0 0, O.arr [] 0 0, O.box [.d (.int .i64 al), .sl v1 0 0 rs.length, .sl (v1 + 1) 0 0 ac.length]]) := by rw [hH3]
 have wH3 : wgt H3 ≤ wgt (H2 ++ [O.arr [] 0 0, O.arr [] 0 0, O.box [.d (.int .i64 al), .sl v1 0 0 rs.length, .sl (v1 + 1) 0 0 ac.length]]) := by rw [hH3]; exact Nat.le_refl _
 have b3_0 : H3[0]? = some (.box [.d (.int .i64 al), .d (.ivs (List.length rs) (rowsD rs)), .d (.ivs (List.length ac) (bools ac))]) := by rw [hH3]; exact (get_keep b2_0)
 have b3_x : H3[H2.length + 1 + 1]? = some (.box [.d (.int .i64 al), .sl v1 0 0 rs.length, .sl (v1 + 1) 0 0 ac.length]) := by rw [hH3]; exact end3_get
 have gE3x : Has H3 v1 rs ac := by rw [hH3]; exact gE2
 have kc_5 : ∀ {R : Type} {k : A → H → Option R}, kCall env (evCall env L (n - 1)) H3 20 [.d (.ivs 0 []), .d (.ivs 0 [])] k = k (.d (.bool true)) H3 := fun {R k} => eqS_mem (l := []) (by omega) (by simp) (rd2 rdA_d rdA_d) (by simp [idsL, idsA]; omega) hL
 obtain ⟨vt, hvt⟩ : ∃ v, v = List.length H3 := ⟨_, rfl⟩
 obtain ⟨H4, hH4⟩ : ∃ H, H = H3 ++ autO vt rs ac := ⟨_, rfl⟩
 have kc_6 : ∀ {R : Type} {k : A → H → Option R}, kCall env (evCall env L (n - 1)) H3 18 [.agg [.d (.int .i64 al), .d (.ivs (List.length rs) (rowsD rs)), .d (.ivs (List.length ac) (bools ac))]] k = k (.agg [.d (.int .i64 al), .sl vt 0 0 rs.length, .sl (vt + 1) 0 0 ac.length]) H4 := by intro R k; rw [hH4, hvt]; exact call_to (by omega) hs ha hL
 have gvt : Has H4 vt rs ac := by rw [hH4, hvt]; exact has_new
 have lH4 : H4.length = List.length H3 + rs.length + 2 := by rw [hH4, List.length_append, autO_len]; omega
 have wH4 : wgt H4 ≤ wgt H3 + 1048576 := by rw [hH4, wgt_app, wgt_aut]; omega
 obtain ⟨fA, hfA⟩ : ∃ f : Foot, f = { ids := List.range' (List.length H3) (autO vt rs ac).length, ro := false } := ⟨_, rfl⟩
 have st_f6 : footC env 18 H3 H4 [] = some (H4, fA) := by rw [hfA, hH4]; exact footC_new x5s
 have st_f7 : ∀ {ord : List Nat}, footC env 21 H4 H4 ord = some (H4, { ids := ord, ro := true }) := fun {ord} => footC_ro x6
 obtain ⟨ord7, hord7⟩ : ∃ l, l = reach fuelR H4 (idsL [.agg [.d (.int .i64 al), .sl v1 0 0 rs.length, .sl (v1 + 1) 0 0 ac.length], .agg [.d (.int .i64 al), .sl vt 0 0 rs.length, .sl (vt + 1) 0 0 ac.length]]) [] := ⟨_, rfl⟩
 have st_r7 : reach fuelR H4 (idsL [.agg [.d (.int .i64 al), .sl v1 0 0 rs.length, .sl (v1 + 1) 0 0 ac.length], .agg [.d (.int .i64 al), .sl vt 0 0 rs.length, .sl (vt + 1) 0 0 ac.length]]) [] = ord7 := hord7.symm
 have gH4x : Has H4 v1 rs ac := by rw [hH4]; exact has_app gE3x
 have kc_7 : ∀ {R : Type} {k : A → H → Option R}, kCall env (evCall env L (n - 1)) H4 21 [.agg [.d (.int .i64 al), .sl v1 0 0 rs.length, .sl (v1 + 1) 0 0 ac.length], .agg [.d (.int .i64 al), .sl vt 0 0 rs.length, .sl (vt + 1) 0 0 ac.length]] k = k (.d (.bool true)) H4 := fun {R k} => eq_mem (by omega) hs ha (rd2 (rdA_aut gH4x) (rdA_aut gvt)) (by simp [idsL, ids_autA, ids_autD, idsA]; omega) hL
 simp only [end3_len] at lH2 lH3 lH4 hv1 hvt
 have hclash : ∀ (ops : List Oper) (p q : Foot), maskOK 5 [(0, 1), (0, 2), (1, 2)] ops = true → clashFree ops ([] ++ [{ ids := idsA (A.ptr (H2.length + 2) 0 0) }] ++ [{ ids := idsA (A.ptr 0 0 0) }] ++ [fA] ++ [p] ++ [q]) = true := by
  intro ops p q hm
  refine clash_by 5 [(0, 1), (0, 2), (1, 2)] rfl hm ?_
  intro z hz
  simp only [List.mem_cons, List.not_mem_nil, or_false] at hz
  rcases hz with rfl | rfl | rfl
  ·exact clash_ro rfl rfl
  ·show clash { ids := idsA (A.ptr (H2.length + 2) 0 0) } fA = false; rw [hfA]; exact clash_at rfl (by omega)
  ·show clash { ids := idsA (A.ptr 0 0 0) } fA = false; rw [hfA]; exact clash_at rfl (by omega)
 have b4_0 : H4[0]? = some (.box [.d (.int .i64 al), .d (.ivs (List.length rs) (rowsD rs)), .d (.ivs (List.length ac) (bools ac))]) := by rw [hH4]; exact get_keep b3_0
 have b4_x : H4[H2.length + 1 + 1]? = some (.box [.d (.int .i64 al), .sl v1 0 0 rs.length, .sl (v1 + 1) 0 0 ac.length]) := by rw [hH4]; exact get_keep b3_x
 obtain ⟨H5, c8, l5, gH5x, s5, w5⟩ := mark_aut (L := L) (n := n - 1) (by omega) (al := al) gH4x (c := 1) hs ha (by omega) (by omega) hL
 have kc_8 : ∀ {R : Type} {k : A → H → Option R}, kCall env (evCall env L (n - 1)) H4 22 [.agg [.d (.int .i64 al), .sl v1 0 0 rs.length, .sl (v1 + 1) 0 0 ac.length], .d (.int .i64 1)] k = k (.d (.int .i64 (1 + total rs + ac.length))) H5 := fun {R k} => c8 R k
 have b5_0 : H5[0]? = some (.box [.d (.int .i64 al), .d (.ivs (List.length rs) (rowsD rs)), .d (.ivs (List.length ac) (bools ac))]) := by rw [s5 0 (.inl (by omega))]; exact b4_0
 have kc_9 : ∀ {R : Type} {k : A → H → Option R}, kCall env (evCall env L (n - 1)) H5 20 [.d (.ivs 0 []), .d (.ivs 0 [])] k = k (.d (.bool true)) H5 := fun {R k} => eqS_mem (l := []) (by omega) (by simp) (rd2 rdA_d rdA_d) (by simp [idsL, idsA]; omega) hL
 have kc_10 : ∀ {R : Type} {k : A → H → Option R}, kCall env (evCall env L (n - 1)) H5 23 [.d (.ivs 0 []), .d (.int .i64 1)] k = k (.d (.int .i64 1)) H5 := fun {R k} => kCall_still rfl (xnt (by omega) hL) rfl (.inl rfl)
 have kc_11 : ∀ {R : Type} {k : A → H → Option R}, kCall env (evCall env L (n - 1)) H5 24 [.d (.ivs 0 []), .d (.int .i64 1)] k = k (.d (.int .i64 1)) H5 := by
  intro R k
  have := heldS_mem (L := L) (n := n - 1) (h := H5) (R := R) (k := k) (l := []) (args := [.d (.ivs 0 []), .d (.int .i64 1)]) (by omega) (by simp) (rd2 rdA_d rdA_d) (by simp [idsL, idsA]; omega) hL
  simpa using this
 obtain ⟨vu, hvu⟩ : ∃ v, v = List.length H5 := ⟨_, rfl⟩
 obtain ⟨H7, hH7⟩ : ∃ H, H = H5 ++ autO vu rs ac := ⟨_, rfl⟩
 have kc_12 : ∀ {R : Type} {k : A → H → Option R}, kCall env (evCall env L (n - 1)) H5 18 [.agg [.d (.int .i64 al), .d (.ivs (List.length rs) (rowsD rs)), .d (.ivs (List.length ac) (bools ac))]] k = k (.agg [.d (.int .i64 al), .sl vu 0 0 rs.length, .sl (vu + 1) 0 0 ac.length]) H7 := by intro R k; rw [hH7, hvu]; exact call_to (by omega) hs ha hL
 have gvu : Has H7 vu rs ac := by rw [hH7, hvu]; exact has_new
 have lH7 : H7.length = List.length H5 + rs.length + 2 := by rw [hH7, List.length_append, autO_len]; omega
 have wH7 : wgt H7 ≤ wgt H5 + 1048576 := by rw [hH7, wgt_app, wgt_aut]; omega
 obtain ⟨H8, hH8⟩ : ∃ H, H = H7 := ⟨_, rfl⟩
 have kc_13 : ∀ {R : Type} {k : A → H → Option R}, kCall env (evCall env L (n - 1)) H7 19 [.agg [.d (.int .i64 al), .sl vu 0 0 rs.length, .sl (vu + 1) 0 0 ac.length]] k = k (.d (.ivs 0 [])) H8 := by intro R k; rw [hH8]; exact lay_d x2x (hrdg gvu) (by simp [idsL, ids_autA, ids_autD, idsA]; omega) hI rfl
 have lH8 : H8.length = List.length H7 := by rw [hH8]
 have wH8 : wgt H8 ≤ wgt H7 := by rw [hH8]; exact Nat.le_refl _
 have kc_14 : ∀ {R : Type} {k : A → H → Option R}, kCall env (evCall env L (n - 1)) H8 20 [.d (.ivs 0 []), .d (.ivs 0 [])] k = k (.d (.bool true)) H8 := fun {R k} => eqS_mem (l := []) (by omega) (by simp) (rd2 rdA_d rdA_d) (by simp [idsL, idsA]; omega) hL
 have kc_15 : ∀ {R : Type} {k : A → H → Option R}, kCall env (evCall env L (n - 1)) H8 24 [.d (.ivs 0 []), .d (.int .i64 1)] k = k (.d (.int .i64 1)) H8 := by
  intro R k
  have := heldS_mem (L := L) (n := n - 1) (h := H8) (R := R) (k := k) (l := []) (args := [.d (.ivs 0 []), .d (.int .i64 1)]) (by omega) (by simp) (rd2 rdA_d rdA_d) (by simp [idsL, idsA]; omega) hL
  simpa using this
 have p1 : ¬ (1 : Int) + total rs + ac.length < 0 := by omega
 have hll : ac.length ≤ 9223372036854775807 := by omega
 clear hH2 hH3 hH4 hH7 hH8 hv1 hvt hvu lH2 lH3 lH4 lH7 lH8 gv1 gE2 gE3x gvt gH4x gH5x gvu s5 c8 w1 wG1 wE2 w5 wH2 wH3 wH4 wH7 wH8 l1 l5 hfA hord7 hS hI hrdg
 obtain ⟨n, rfl⟩ : ∃ m, n = m + 1 := ⟨n - 1, by omega⟩
 simp only [Nat.add_sub_cancel] at kc_1 kc_2 kc_3 kc_4 kc_5 kc_6 kc_7 kc_8 kc_9 kc_10 kc_11 kc_12 kc_13 kc_14 kc_15
 have n1 : 1 ≤ n + 1 := by omega
 obtain ⟨n, rfl⟩ : ∃ m, n = m + 1 := ⟨n - 1, by omega⟩
 rw [x5k]
 simp only [x4d, Try.f4, SLM, simprocAttr]
 simp -implicitDefEqProofs (maxSteps := 2000000) (disch := first | assumption | (refine Shut.mk ?_; exact hclash _ _ _ (by kernel_rfl)) | (refine Shut.mk ?_; kernel_rfl) | omega | (simp only [GT]; done) | (simp only [LN] <;> omega) | fail) only [↓DN, ↓kAsg, ↓kRet, UP, simprocAttr, ↓xds, ↓xe1, ↓xas, ↓xax, ↓xb0, LA, hsz, p1, ↓kc_1, ↓kc_2, ↓kc_3, ↓kc_4, ↓kc_5, ↓kc_6, ↓kc_7, ↓kc_8, ↓kc_9, ↓kc_10, ↓kc_11, ↓kc_12, ↓kc_13, ↓kc_14, ↓kc_15, ↓st_f6, ↓st_f7, ↓st_r7, b1_0, b2_0, b3_0, b3_x, b4_x, b5_0, b5_0, List.append_assoc, List.cons_append, List.nil_append, end3_get, end3_set, beq_self_eq_true, bne_self_eq_false]
theorem xgd {L n : Nat} (hn : 30 ≤ n) (al : Int) (rs : List (List Int)) (ac : List Bool) (hlen : rowsLen rs) (hla : ac.length ≤ 9223372036854775807) (hL : 2 ^ 60 ≤ L) : evCall env L n 4 [.agg [.d (.int .i64 al), .d (.ivs (List.length rs) (rowsD rs)), .d (.ivs (List.length ac) (bools ac))]] [] = some (.d (.bool true), []) := by
 by_cases hsz : szA rs ac 1048576 < 0
 ·obtain ⟨n, rfl⟩ : ∃ m, n = m + 1 := ⟨n - 1, by omega⟩
  rw [x5k]
  simp only [x4d, Try.f4, SLM, simprocAttr]
  simp -implicitDefEqProofs (maxSteps := 2000000) (disch := first | assumption | (refine Shut.mk ?_; kernel_rfl) | omega | (simp only [GT]; done) | (simp only [LN] <;> omega) | fail) only [↓DN, ↓kAsg, ↓kRet, UP, simprocAttr, ↓xds, ↓xkq, ↓xtu, ↓xrx, ↓xrt, ↓xe1, ↓xtd, ↓xjc, ↓xrn, ↓xas, ↓xax, ↓xb0, ↓xs2, ↓xrz, ↓xsb, ↓xpl, ↓xnj, ↓xns, ↓xnh, ↓xno, ↓xnp, ↓xnk, ↓xox, ↓xpy, ↓xpe, ↓xpv, ↓xpu, ↓xph, ↓xp8, ↓xpj, ↓xp4, LA, hsz]
 ·cases hok : autOK al rs ac with
  | true => exact FnExactSeparatingWords_ok hn al rs ac hlen hla hsz hok hL
  | false => exact FnExactSeparatingWords_no hn al rs ac hlen hla hsz hok hL
end Ev
end Go.Proofs.Ytppdfjdfjfoddaa
