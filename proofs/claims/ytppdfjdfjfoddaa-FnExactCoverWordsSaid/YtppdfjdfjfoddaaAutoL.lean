/-
  The exact laws' own functions, at edges and systems: copies, comparisons, marks.
-/
import Derived.Test.YtppdfjdfjfoddaaSortLayX
import Derived.Test.YtppdfjdfjfoddaaVec
set_option linter.unusedSimpArgs false
set_option linter.unusedVariables false
set_option maxRecDepth 8000
set_option maxHeartbeats 4000000
namespace Go.Proofs.Ytppdfjdfjfoddaa
namespace Ev
theorem xj9 {R : Type} {E : Env} {call : x1e} {h : H} {f : FuncId} {args : List A} {r : A} {k : A → H → Option R} {id e g e2 g2 : Nat} {cs cs2 : List D} (hi : h[id]? = some (.arr cs e g)) (hid : idsL args = [id]) (hm : (E.hint f).mode = 0) (hr : idsA r = []) (he : call f (xd (x8 [id]) args) [.arr cs e g] = some (r,[.arr cs2 e2 g2])) :
  x4 E call h f args k = k r (h.set id (.arr cs2 e2 g2)) := by
 have hre : x5 x7 h [id] [] = [id] := by
  have e1 : x5 x7 h [id] [] = match h[id]? with
   | some (.box cs) => x5 (x7 - 1) h ([] ++ idsL cs) ([] ++ [id])
   | some (.vec cs _ _) => x5 (x7 - 1) h ([] ++ idsL cs) ([] ++ [id])
   | some .void => x5 (x7 - 1) h [] []
   | some _ => x5 (x7 - 1) h [] ([] ++ [id])
   | none => x5 (x7 - 1) h [] [] := rfl
  rw [e1,hi]; rfl
 have hpk : pack h [id] = [.arr cs e g] := by
  simp only [pack,List.map_cons,List.map_nil,List.getD_eq_getElem?_getD,hi]; rfl
 unfold x4
 rw [hid,hre,hpk]
 have hc : x3e call E.hint [.arr cs e g] f (xd (x8 [id]) args) = some (r,[.arr cs2 e2 g2]) := by
  unfold x3e; rw [hm]; exact he
 rw [hc]
 have hcl : closed h [id] [id] = true := by
  simp only [closed,List.all_cons,List.all_nil,hi]; simp
 simp only [List.length_cons,List.length_nil,Nat.le_refl,hcl,and_self,if_true,xiq r hr]
 simp only [xx,mapO,List.map_nil,List.append_nil]
theorem xug {R : Type} {E : Env} {call : x1e} {h h2 : H} {f : FuncId} {args : List A} {r : A} {o : O} {k : A → H → Option R} (hs : args.all xng = true) (hm : (E.hint f).mode = 2) (hc : call f args [] = some (r,o :: h2)) :
  x4 E call h f args k = k (mapA (back [] h.length (h2.length + 1)) (mapA (back [] 0 (h2.length + 1)) r)) (h ++ ((o :: h2).map (mapO (back [] 0 (h2.length + 1)))).map (mapO (back [] h.length (h2.length + 1)))) := by
 have hcall : x3e call E.hint [] f args = some (mapA (back [] 0 (h2.length + 1)) r,(o :: h2).map (mapO (back [] 0 (h2.length + 1)))) := by
  unfold x3e
  rw [hm]
  simp only [xgx hs,hc,List.length_nil,List.length_cons,List.nil_append]
 unfold x4
 rw [xkq hs,x1cr,xfj _ (xkq hs)]
 have : pack h [] = [] := rfl
 rw [this,hcall]
 simp only [List.length_nil,Nat.zero_le,true_and,closed,List.all_nil,Bool.and_self,if_true,xx,List.length_map,List.length_cons]
structure Aut where
 al : Int
 nx : List (List Int)
 ac : List Bool
 deriving DecidableEq,Inhabited
def rowD (r : List Int) : D := .ivs r.length (ints r)
def rowsD (rs : List (List Int)) : List D := rs.map rowD
def bools (l : List Bool) : List D := l.map .bool
theorem xk9 {l : List (List Int)} : (rowsD l).length = l.length := by simp [rowsD]
theorem xbs {l : List Bool} : (bools l).length = l.length := by simp [bools]
theorem xkw {l : List Bool} {k : Nat} (h : l.length ≤ k) : (bools l).take k = bools l := List.take_of_length_le (by rw [xbs]; exact h)
theorem x1b0 {l : List Bool} {k : Nat} (h : k < l.length) : (((bools l).drop k).map A.d).head? = some (.d (.bool (l.getD k false))) := by
 rw [List.head?_map,List.head?_drop,bools,List.getElem?_map,List.getD_eq_getElem?_getD,List.getElem?_eq_getElem h]
 rfl
theorem x1xh {l : List Bool} {k : Nat} {v : Bool} (h : k < l.length) : x35 (bools l) k [.bool v] = bools (l.set k v) := xjt _ l k v h
theorem x1io {l : List (List Int)} {k : Nat} (h : k < l.length) : (((rowsD l).drop k).map A.d).head? = some (.d (.ivs (l.getD k []).length (ints (l.getD k [])))) := by
 rw [List.head?_map,List.head?_drop,rowsD,List.getElem?_map,List.getD_eq_getElem?_getD,List.getElem?_eq_getElem h]
 rfl
theorem xob {l : List (List Int)} {k : Nat} (h : l.length ≤ k) : (rowsD l).take k = rowsD l := List.take_of_length_le (by rw [xk9]; exact h)
theorem LA : type_of% (AI @xk9 (AI @xbs (AI @xkw (AI @x1b0 (AI @x1io @xob))))) :=
 ⟨@xk9,@xbs,@xkw,@x1b0,@x1io,@xob⟩
theorem xio {α : Type} {l : List α} {k : Nat} {v : α} {m : List α} (h : k < l.length) : (l.set k v).take (k + 1) ++ m = l.take k ++ (v :: m) := by
 rw [take_set h]; simp
theorem x1oj {R : Type} {L n : Nat} (hn : 1 ≤ n) {l : List Int} (hl : l.length ≤ 4294967296) {k : Exit → List A → H → Option R} : ∀ (i : Int) (m : Nat) (o : List Int) (len : Nat) (h0 : 0 ≤ i) (hi : i ≤ l.length) (hm : (l.length : Int) - i < m) (ho : o.length = l.length) (hlen : len = l.length),
  xc env (x2 env L n) L 0 [] (U1 (Z1 (U2 (U1 (Z16 (Z1 ([]))))))) (xo7 0) (Z1 (U1 (Z2 (Z1 (U16 (U1 ([]))))))) m (.d (.ivs l.length (ints l)) :: Y1 (.d .nils :: .sl 0 0 0 len :: .d (.int .i64 i) :: Y16 (Y1 ([])))) [.arr (ints o) 1 0] k
  = k (.exit 0) (.d (.ivs l.length (ints l)) :: Y1 (.d .nils :: .sl 0 0 0 l.length :: .d (.int .i64 (l.length)) :: Y16 (Y1 ([])))) [.arr (ints (o.take i.toNat ++ l.drop i.toNat)) 1 0] := by
 intro i m o len h0 hi hm ho hlen
 obtain ⟨j,hj⟩ : ∃ j : Nat,(j : Int) = (l.length : Int) - i := ⟨((l.length : Int) - i).toNat,by omega⟩
 induction j generalizing i m o len with
 | zero =>
  obtain _ | m := m; omega
  obtain rfl : i = l.length := by omega
  rw [x11w]
  simp only [x10c,Try.f87,SLM,simprocAttr]
  simp -implicitDefEqProofs (maxSteps := 2000000) (disch := first | assumption | exact ⟨by kernel_rfl⟩ | omega | (simp only [GT,LN] <;> omega) | fail) only [↓DN,↓kAsg,↓kRet,UP,simprocAttr,Int.lt_irrefl]
  have e1 : o.take l.length = o := List.take_of_length_le (by omega)
  simp only [Int.toNat_natCast,List.drop_length,e1,List.append_nil,hlen]
 | succ j ih =>
  obtain _ | m := m; omega
  have hc : i < l.length := by omega
  have hk : i.toNat < l.length := by omega
  have hk2 : i.toNat < o.length := by omega
  have hc2 : i < (len : Int) := by omega
  have e1 : (i + 1).toNat = i.toNat + 1 := by omega
  rw [x11w]
  simp only [x10c,Try.f87,SLM,simprocAttr]
  simp -implicitDefEqProofs (maxSteps := 2000000) (disch := first | assumption | exact ⟨by kernel_rfl⟩ | omega | (simp only [GT,LN] <;> omega) | fail) only [↓DN,↓kAsg,↓kRet,UP,simprocAttr,hc,hc2,x2m,x5m,↓xir,↓ih]
  rw [x2k hk (d := 0),e1,xio hk2]
theorem x1ue {L n : Nat} (hn : 2 ≤ n) (l : List Int) (hl : l.length ≤ 4294967296) (hL : 2 ^ 60 ≤ L) : x2 env L n 87 [.d (.ivs l.length (ints l))] [] = some (.sl 0 0 0 l.length,[.arr (ints l) 1 0]) := by
 obtain _ | n := n; omega
 rw [x1u3]
 simp only [x1lz,Try.f87,SLM,simprocAttr]
 simp -implicitDefEqProofs (maxSteps := 2000000) (disch := first | assumption | exact ⟨by kernel_rfl⟩ | omega | (simp only [GT,LN] <;> omega) | fail) only [↓DN,↓kAsg,↓kRet,UP,simprocAttr,x2m,↓xoq,↓x1oj,Int.toNat_natCast,Int.toNat_zero]
theorem x12g {R : Type} {L n : Nat} {hq : H} {k : A → H → Option R} (hn : 2 ≤ n) (l : List Int) (hl : l.length ≤ 4294967296) (hL : 2 ^ 60 ≤ L) : x4 env (x2 env L n) hq 87 [.d (.ivs l.length (ints l))] k = k (.sl hq.length 0 0 l.length) (hq ++ [.arr (ints l) 1 0]) := by
 rw [xug rfl xw8 (x1ue hn l hl hL)]
 simp [mapA,back,mapO]
theorem x60 : env.P.underlying 23 = some (.slice 60) := by kernel_rfl
theorem x6l : env.P.cellsOf 60 = 1 := by kernel_rfl
theorem x248 : (env.P.info? 60).isSome = true := by kernel_rfl
theorem x233 {h : H} {g k id gg o len : Nat} {cells : List A} (hk : k < cells.length) : x92 env.P (.vec cells 1 g :: h) 60 (.ptr 0 g k) (.sl id gg o len) = some (.vec (cells.set k (.sl id gg o len)) 1 g :: h) := by
 have hc : (xj (.sl id gg o len)).length = env.P.cellsOf 60 ∧ (env.P.info? 60).isSome = true ∧ (xj (.sl id gg o len)).all x25 = true := ⟨by rw [x6l]; rfl,x248,rfl⟩
 have hs : x35 cells k (xj (.sl id gg o len)) = cells.set k (.sl id gg o len) := by
  unfold x35
  rw [List.set_eq_take_append_cons_drop,if_pos hk]
  simp [xj]
 unfold x92
 rw [if_pos hc]
 simp only [List.getElem?_cons_zero,x6l,true_and,hs]
 rw [if_pos (by omega)]
 rfl
theorem x1z6 {n : Int} {h : H} (h0 : 0 ≤ n) (h1 : n ≤ 4294967296) : xi0 env.P h 23 n n = some (.sl h.length 0 0 n.toNat,h ++ [.vec (xf n.toNat) 1 0]) := by
 have hm : n ≤ (x28 : Nat) := by unfold x28; omega
 have he : x13 env.P 23 = some 60 := by kernel_rfl
 have hz : x17 env.P 60 = some (.d .nils) := by kernel_rfl
 have hok : x15 env.P 60 = true := by kernel_rfl
 simp only [xi0,he,hz,xj,xf2,Option.map_some,hok,h0,hm,x6l,Int.le_refl,and_self,if_true,xzf,List.map_replicate]
 rfl
theorem x23n {d : List (List Int)} {j k id : Nat} {r : List Int} (hk : k = d.length) (hid : id = d.length + 1) : (xb 1 d ++ xf (j + 1)).set k (.sl id 0 0 r.length) = xb 1 (d ++ [r]) ++ xf j := by
 subst hk; subst hid
 rw [x1as,List.set_append_right _ _ (by rw [xp0]; exact Nat.le_refl _),xp0,Nat.sub_self,xzj,List.set_cons_zero,Nat.add_comm 1]
 simp
theorem x1p2 (rs : List (List Int)) (r : List Int) : xg rs ++ [.arr (ints r) 1 0] = xg (rs ++ [r]) := x1rt rs r
def xp (rs : List (List Int)) : Prop := rs.length ≤ 4294967296 ∧ ∀ r ∈ rs,r.length ≤ 4294967296
theorem xie {rs : List (List Int)} (h : xp rs) {k : Nat} (hk : k < rs.length) : (rs.getD k []).length ≤ 4294967296 := by
 rw [List.getD_eq_getElem?_getD,List.getElem?_eq_getElem hk]
 exact h.2 _ (List.getElem_mem hk)
theorem x140 {R : Type} {L n : Nat} (hn : 3 ≤ n) (hL : 2 ^ 60 ≤ L) {rs : List (List Int)} (hs : xp rs) {k : Exit → List A → H → Option R} : ∀ (j : Nat) (i : Int) (m : Nat) (d : List (List Int)) (len : Nat) (h0 : 0 ≤ i) (hi : i + j = rs.length) (hm : j < m) (hd : (d.length : Int) = i) (hlen : len = rs.length),
  xc env (x2 env L n) L 0 [0,0,0,0,0,0,0,1002] (U1 (Z1 (U2 (U1 (Z16 (Z2 ([]))))))) (xfb 0) (Z1 (U1 (Z2 (Z1 (U16 (U2 ([]))))))) m (.d (.ivs rs.length (rowsD rs)) :: Y1 (.d .nils :: .sl 0 0 0 len :: .d (.int .i64 i) :: Y16 (Y2 ([])))) (.vec (xb 1 d ++ xf j) 1 0 :: xg d) k
  = k (.exit 0) (.d (.ivs rs.length (rowsD rs)) :: Y1 (.d .nils :: .sl 0 0 0 rs.length :: .d (.int .i64 (rs.length)) :: Y16 (Y2 ([])))) (.vec (xb 1 (d ++ rs.drop i.toNat) ++ xf 0) 1 0 :: xg (d ++ rs.drop i.toNat)) := by
 intro j
 have hrl := hs.1
 induction j with
 | zero =>
  intro i m d len h0 hi hm hd hlen
  obtain _ | m := m; omega
  obtain rfl : i = rs.length := by omega
  have hdl : d.length ≤ 4294967296 := by omega
  rw [xx8]
  simp only [xwc,Try.f58,SLM,simprocAttr]
  simp -implicitDefEqProofs (maxSteps := 2000000) (disch := first | assumption | exact ⟨by kernel_rfl⟩ | omega | (simp only [GT,LN] <;> omega) | fail) only [↓DN,↓kAsg,↓kRet,UP,simprocAttr,↓x12g,LA,Int.lt_irrefl,↓xwz,xwz,z0As,z0A,eq_self,hlen]
  simp only [Int.toNat_natCast,List.drop_length,List.append_nil]
 | succ j ih =>
  intro i m d len h0 hi hm hd hlen
  obtain _ | m := m; omega
  subst hlen
  have hc : i < rs.length := by omega
  have hk : i.toNat < rs.length := by omega
  have hk2 : i.toNat < (xb 1 d ++ xf (j + 1)).length := by simp [xp0,x1wk]; omega
  have hrow := xie hs hk
  have e1 : (i + 1).toNat = i.toNat + 1 := by omega
  have e2 : i.toNat = d.length := by omega
  have hdl : (d ++ [rs.getD i.toNat []]).length ≤ 4294967296 := by simp; omega
  rw [xx8]
  simp only [xwc,Try.f58,SLM,simprocAttr]
  simp -implicitDefEqProofs (maxSteps := 2000000) (disch := first | assumption | exact ⟨by kernel_rfl⟩ | omega | (simp only [GT,LN] <;> omega) | fail) only [↓DN,↓kAsg,↓kRet,UP,simprocAttr,↓x12g,LA,hc,x60,x6l,↓x233,x23n,x1p2,x1h,↓xwz,xwz,z0As,z0A,eq_self]
  rw [ih (i + 1) m _ _ (by omega) (by omega) (by omega) (by simp; omega) rfl,e1,x2k hk (d := [])]
  simp only [List.append_assoc,List.cons_append,List.nil_append]
theorem x18k {R : Type} {L n m : Nat} (hn : 3 ≤ n) (hL : 2 ^ 60 ≤ L) {rs : List (List Int)} (hs : xp rs) {k : Exit → List A → H → Option R} (hm : rs.length < m) :
  xc env (x2 env L n) L 0 [0,0,0,0,0,0,0,1002] (U1 (Z1 (U2 (U1 (Z16 (Z2 ([]))))))) (xfb 0) (Z1 (U1 (Z2 (Z1 (U16 (U2 ([]))))))) m (.d (.ivs rs.length (rowsD rs)) :: Y1 (.d .nils :: .sl 0 0 0 rs.length :: .d (.int .i64 0) :: Y16 (Y2 ([])))) [.vec (xf rs.length) 1 0] k
  = k (.exit 0) (.d (.ivs rs.length (rowsD rs)) :: Y1 (.d .nils :: .sl 0 0 0 rs.length :: .d (.int .i64 (rs.length)) :: Y16 (Y2 ([])))) (.vec (xb 1 rs ++ xf 0) 1 0 :: xg rs) := by
 have h := x140 (R := R) (L := L) hn hL hs (k := k) rs.length 0 m [] rs.length (by omega) (by omega) hm rfl rfl
 simpa [xb,xg] using h
theorem x1qb {m : List Bool} {s : List A} {q : Nat} : gc 0 m s [.vec (xf q) 1 0] = match box (tidy m s) with
  | .mk s1 => if idsL s1 = [0] ∧ z0As s1 = true then (s1,[.vec (xf q) 1 0]) else gcO 0 m s [.vec (xf q) 1 0]
  | .no => ([],[]) := xwz (rs := []) (q := q) (by simp)
theorem x1qw {L n : Nat} (hn : 4 ≤ n) (rs : List (List Int)) (hs : xp rs) (hL : 2 ^ 60 ≤ L) : x2 env L n 58 [.d (.ivs rs.length (rowsD rs))] [] = some (.sl 0 0 0 rs.length,.vec (xb 1 rs ++ xf 0) 1 0 :: xg rs) := by
 have hrl := hs.1
 obtain _ | n := n; omega
 rw [x1sc]
 simp only [x1hy,Try.f58,SLM,simprocAttr]
 simp -implicitDefEqProofs (maxSteps := 2000000) (disch := first | assumption | exact ⟨by kernel_rfl⟩ | omega | (simp only [GT,LN] <;> omega) | fail) only [↓DN,↓kAsg,↓kRet,UP,simprocAttr,↓x12g,↓x140,LA,x60,↓x1z6,↓x18k,Int.toNat_natCast,↓x1qb,x1qb,↓x1v4,↓x1hh,x1hh,z0As,z0A,eq_self]
theorem x15d : env.P.underlying 24 = some (.slice 4) := by kernel_rfl
theorem x1my {h : H} {g e k : Nat} {l : List Bool} {b : Bool} (hk : k < l.length) : x92 env.P (.arr (bools l) e g :: h) 4 (.ptr 0 g k) (.d (.bool b)) = some (.arr (bools (l.set k b)) e g :: h) := by
 rw [xcv (id := 0) rfl xs9 x1le rfl (by rw [xbs]; exact hk),x1xh hk]
 rfl
theorem x1rn {n : Int} {h : H} (h0 : 0 ≤ n) (h1 : n ≤ 4294967296) : x64 env.P h 24 n n = some (.sl h.length 0 0 n.toNat,h ++ [.arr (bools (List.replicate n.toNat false)) 1 0]) := by
 have hm : n ≤ (x28 : Nat) := by unfold x28; omega
 have he : x13 env.P 24 = some 4 := by kernel_rfl
 have hz : x17 env.P 4 = some (.d (.bool false)) := by kernel_rfl
 have hok : x15 env.P 4 = true := by kernel_rfl
 simp only [x64,he,hz,xj,xf2,Option.map_some,hok,h0,hm,xs9,Int.le_refl,and_self,if_true,xzf,bools,List.map_replicate]
theorem x1ml {R : Type} {L n : Nat} (hn : 1 ≤ n) {l : List Bool} (hl : l.length ≤ 4294967296) {k : Exit → List A → H → Option R} : ∀ (i : Int) (m : Nat) (o : List Bool) (len : Nat) (h0 : 0 ≤ i) (hi : i ≤ l.length) (hm : (l.length : Int) - i < m) (ho : o.length = l.length) (hlen : len = l.length),
  xc env (x2 env L n) L 0 [] (U1 (Z1 (U2 (U1 (Z16 (Z1 ([]))))))) (xl2 0) (Z1 (U1 (Z2 (Z1 (U16 (U1 ([]))))))) m (.d (.ivs l.length (bools l)) :: Y1 (.d .nils :: .sl 0 0 0 len :: .d (.int .i64 i) :: Y16 (Y1 ([])))) [.arr (bools o) 1 0] k
  = k (.exit 0) (.d (.ivs l.length (bools l)) :: Y1 (.d .nils :: .sl 0 0 0 l.length :: .d (.int .i64 (l.length)) :: Y16 (Y1 ([])))) [.arr (bools (o.take i.toNat ++ l.drop i.toNat)) 1 0] := by
 intro i m o len h0 hi hm ho hlen
 obtain ⟨j,hj⟩ : ∃ j : Nat,(j : Int) = (l.length : Int) - i := ⟨((l.length : Int) - i).toNat,by omega⟩
 induction j generalizing i m o len with
 | zero =>
  obtain _ | m := m; omega
  obtain rfl : i = l.length := by omega
  rw [xxt]
  simp only [xwg,Try.f59,SLM,simprocAttr]
  simp -implicitDefEqProofs (maxSteps := 2000000) (disch := first | assumption | exact ⟨by kernel_rfl⟩ | omega | (simp only [GT,LN] <;> omega) | fail) only [↓DN,↓kAsg,↓kRet,UP,simprocAttr,LA,Int.lt_irrefl]
  have e1 : o.take l.length = o := List.take_of_length_le (by omega)
  simp only [Int.toNat_natCast,List.drop_length,e1,List.append_nil,hlen]
 | succ j ih =>
  obtain _ | m := m; omega
  have hc : i < l.length := by omega
  have hk : i.toNat < l.length := by omega
  have hk2 : i.toNat < o.length := by omega
  have hc2 : i < (len : Int) := by omega
  have e1 : (i + 1).toNat = i.toNat + 1 := by omega
  rw [xxt]
  simp only [xwg,Try.f59,SLM,simprocAttr]
  simp -implicitDefEqProofs (maxSteps := 2000000) (disch := first | assumption | exact ⟨by kernel_rfl⟩ | omega | (simp only [GT,LN] <;> omega) | fail) only [↓DN,↓kAsg,↓kRet,UP,simprocAttr,LA,hc,hc2,x15d,xs9,↓x1my,↓ih]
  rw [x2k hk (d := false),e1,xio hk2]
theorem x1rm {L n : Nat} (hn : 2 ≤ n) (l : List Bool) (hl : l.length ≤ 4294967296) (hL : 2 ^ 60 ≤ L) : x2 env L n 59 [.d (.ivs l.length (bools l))] [] = some (.sl 0 0 0 l.length,[.arr (bools l) 1 0]) := by
 obtain _ | n := n; omega
 rw [x1r7]
 simp only [x1ge,Try.f59,SLM,simprocAttr]
 simp -implicitDefEqProofs (maxSteps := 2000000) (disch := first | assumption | exact ⟨by kernel_rfl⟩ | omega | (simp only [GT,LN] <;> omega) | fail) only [↓DN,↓kAsg,↓kRet,UP,simprocAttr,LA,x15d,↓x1rn,↓x1ml,Int.toNat_natCast,Int.toNat_zero]
theorem x1ry {R : Type} {L n : Nat} {hq : H} {k : A → H → Option R} (hn : 2 ≤ n) (l : List Bool) (hl : l.length ≤ 4294967296) (hL : 2 ^ 60 ≤ L) : x4 env (x2 env L n) hq 59 [.d (.ivs l.length (bools l))] k = k (.sl hq.length 0 0 l.length) (hq ++ [.arr (bools l) 1 0]) := by
 rw [xug rfl xsw (x1rm hn l hl hL)]
 simp [mapA,back,mapO]
theorem x1o7 {R : Type} {L n : Nat} (hn : 1 ≤ n) {l : List Int} (hl : l.length ≤ 4294967296) {k : Exit → List A → H → Option R} : ∀ (i : Int) (m : Nat) (h0 : 0 ≤ i) (hi : i ≤ l.length) (hm : (l.length : Int) - i < m),
  xc env (x2 env L n) L 0 [] (U2 (Z2 (U2 (Z16 (Z4 ([])))))) (xo4 0) (Z2 (U2 (Z2 (U16 (U4 ([])))))) m (.d (.ivs l.length (ints l)) :: .d (.ivs l.length (ints l)) :: Y2 (.d (.bool false) :: .d (.int .i64 i) :: Y16 (Y4 ([])))) [] k
  = k (.exit 0) (.d (.ivs l.length (ints l)) :: .d (.ivs l.length (ints l)) :: Y2 (.d (.bool false) :: .d (.int .i64 (l.length)) :: Y16 (Y4 ([])))) [] := by
 intro i m h0 hi hm
 obtain ⟨j,hj⟩ : ∃ j : Nat,(j : Int) = (l.length : Int) - i := ⟨((l.length : Int) - i).toNat,by omega⟩
 induction j generalizing i m with
 | zero =>
  obtain _ | m := m; omega
  obtain rfl : i = l.length := by omega
  rw [x11j]
  simp only [xzy,Try.f91,SLM,simprocAttr]
  simp -implicitDefEqProofs (maxSteps := 2000000) (disch := first | assumption | exact ⟨by kernel_rfl⟩ | omega | (simp only [GT,LN] <;> omega) | fail) only [↓DN,↓kAsg,↓kRet,UP,simprocAttr,LA,Int.lt_irrefl]
 | succ j ih =>
  obtain _ | m := m; omega
  have hc : i < l.length := by omega
  have hk : i.toNat < l.length := by omega
  rw [x11j]
  simp only [xzy,Try.f91,SLM,simprocAttr]
  simp -implicitDefEqProofs (maxSteps := 2000000) (disch := first | assumption | exact ⟨by kernel_rfl⟩ | omega | (simp only [GT,LN] <;> omega) | fail) only [↓DN,↓kAsg,↓kRet,UP,simprocAttr,LA,hc,x2m,x5m,↓ih]
theorem x1g5 {L n : Nat} (hn : 2 ≤ n) (l : List Int) (hl : l.length ≤ 4294967296) (hL : 2 ^ 60 ≤ L) : x2 env L n 91 [.d (.ivs l.length (ints l)),.d (.ivs l.length (ints l))] [] = some (.d (.bool true),[]) := by
 obtain _ | n := n; omega
 rw [x1sz]
 simp only [x1mv,Try.f91,SLM,simprocAttr]
 simp -implicitDefEqProofs (maxSteps := 2000000) (disch := first | assumption | exact ⟨by kernel_rfl⟩ | omega | (simp only [GT,LN] <;> omega) | fail) only [↓DN,↓kAsg,↓kRet,UP,simprocAttr,↓x1o7,LA]
theorem x126 {R : Type} {L n : Nat} {hq : H} {k : A → H → Option R} (hn : 2 ≤ n) (l : List Int) (hl : l.length ≤ 4294967296) (hL : 2 ^ 60 ≤ L) : x4 env (x2 env L n) hq 91 [.d (.ivs l.length (ints l)),.d (.ivs l.length (ints l))] k = k (.d (.bool true)) hq :=
 xh rfl (x1g5 hn l hl hL) rfl (.inl rfl)
theorem x12a {R : Type} {L n : Nat} {k : A → Option R} (hn : 2 ≤ n) (l : List Int) (hl : l.length ≤ 4294967296) (hL : 2 ^ 60 ≤ L) : xk (x2 env L n) 91 [.d (.ivs l.length (ints l)),.d (.ivs l.length (ints l))] k = k (.d (.bool true)) :=
 x2c (x1g5 hn l hl hL) rfl
theorem xw5 {R : Type} {L n : Nat} {hq : H} {k : A → H → Option R} {id0 g0 o0 len0 : Nat} {l : List Int} : x4 env (x2 env L n) hq 91 [.sl id0 g0 o0 len0,.d (.ivs l.length (ints l))] k = match box (xw hq [.sl id0 g0 o0 len0,.d (.ivs l.length (ints l))]) with
  | .mk (some fs) => xk (x2 env L n) 91 fs fun r => k r hq
  | _ => none := x9 xgm
theorem xvu {R : Type} {L n : Nat} {hq : H} {k : A → H → Option R} {id1 g1 o1 len1 : Nat} {l : List Int} : x4 env (x2 env L n) hq 91 [.d (.ivs l.length (ints l)),.sl id1 g1 o1 len1] k = match box (xw hq [.d (.ivs l.length (ints l)),.sl id1 g1 o1 len1]) with
  | .mk (some fs) => xk (x2 env L n) 91 fs fun r => k r hq
  | _ => none := x9 xgm
theorem xw1 {R : Type} {L n : Nat} {hq : H} {k : A → H → Option R} {id1 g1 o1 len1 : Nat} {id0 g0 o0 len0 : Nat}  : x4 env (x2 env L n) hq 91 [.sl id0 g0 o0 len0,.sl id1 g1 o1 len1] k = match box (xw hq [.sl id0 g0 o0 len0,.sl id1 g1 o1 len1]) with
  | .mk (some fs) => xk (x2 env L n) 91 fs fun r => k r hq
  | _ => none := x9 xgm
theorem x1mz {R : Type} {L n : Nat} (hn : 1 ≤ n) {l : List Bool} (hl : l.length ≤ 4294967296) {k : Exit → List A → H → Option R} : ∀ (i : Int) (m : Nat) (h0 : 0 ≤ i) (hi : i ≤ l.length) (hm : (l.length : Int) - i < m),
  xc env (x2 env L n) L 0 [] (U2 (Z2 (U2 (Z16 (Z4 ([])))))) (xjx 0) (Z2 (U2 (Z2 (U16 (U4 ([])))))) m (.d (.ivs l.length (bools l)) :: .d (.ivs l.length (bools l)) :: Y2 (.d (.bool false) :: .d (.int .i64 i) :: Y16 (Y4 ([])))) [] k
  = k (.exit 0) (.d (.ivs l.length (bools l)) :: .d (.ivs l.length (bools l)) :: Y2 (.d (.bool false) :: .d (.int .i64 (l.length)) :: Y16 (Y4 ([])))) [] := by
 intro i m h0 hi hm
 obtain ⟨j,hj⟩ : ∃ j : Nat,(j : Int) = (l.length : Int) - i := ⟨((l.length : Int) - i).toNat,by omega⟩
 induction j generalizing i m with
 | zero =>
  obtain _ | m := m; omega
  obtain rfl : i = l.length := by omega
  rw [xx9]
  simp only [xvx,Try.f63,SLM,simprocAttr]
  simp -implicitDefEqProofs (maxSteps := 2000000) (disch := first | assumption | exact ⟨by kernel_rfl⟩ | omega | (simp only [GT,LN] <;> omega) | fail) only [↓DN,↓kAsg,↓kRet,UP,simprocAttr,LA,Int.lt_irrefl]
 | succ j ih =>
  obtain _ | m := m; omega
  have hc : i < l.length := by omega
  have hk : i.toNat < l.length := by omega
  rw [xx9]
  simp only [xvx,Try.f63,SLM,simprocAttr]
  simp -implicitDefEqProofs (maxSteps := 2000000) (disch := first | assumption | exact ⟨by kernel_rfl⟩ | omega | (simp only [GT,LN] <;> omega) | fail) only [↓DN,↓kAsg,↓kRet,UP,simprocAttr,LA,hc,x15d,xs9,x103,xzk,↓ih]
theorem x1dk {L n : Nat} (hn : 2 ≤ n) (l : List Bool) (hl : l.length ≤ 4294967296) (hL : 2 ^ 60 ≤ L) : x2 env L n 63 [.d (.ivs l.length (bools l)),.d (.ivs l.length (bools l))] [] = some (.d (.bool true),[]) := by
 obtain _ | n := n; omega
 rw [x1qr]
 simp only [x1ha,Try.f63,SLM,simprocAttr]
 simp -implicitDefEqProofs (maxSteps := 2000000) (disch := first | assumption | exact ⟨by kernel_rfl⟩ | omega | (simp only [GT,LN] <;> omega) | fail) only [↓DN,↓kAsg,↓kRet,UP,simprocAttr,↓x1mz,LA]
theorem x1ro {R : Type} {L n : Nat} {hq : H} {k : A → H → Option R} (hn : 2 ≤ n) (l : List Bool) (hl : l.length ≤ 4294967296) (hL : 2 ^ 60 ≤ L) : x4 env (x2 env L n) hq 63 [.d (.ivs l.length (bools l)),.d (.ivs l.length (bools l))] k = k (.d (.bool true)) hq :=
 xh rfl (x1dk hn l hl hL) rfl (.inl rfl)
theorem x1qn {R : Type} {L n : Nat} {k : A → Option R} (hn : 2 ≤ n) (l : List Bool) (hl : l.length ≤ 4294967296) (hL : 2 ^ 60 ≤ L) : xk (x2 env L n) 63 [.d (.ivs l.length (bools l)),.d (.ivs l.length (bools l))] k = k (.d (.bool true)) :=
 x2c (x1dk hn l hl hL) rfl
theorem x1nf {R : Type} {L n : Nat} {hq : H} {k : A → H → Option R} {id0 g0 o0 len0 : Nat} {l : List Bool} : x4 env (x2 env L n) hq 63 [.sl id0 g0 o0 len0,.d (.ivs l.length (bools l))] k = match box (xw hq [.sl id0 g0 o0 len0,.d (.ivs l.length (bools l))]) with
  | .mk (some fs) => xk (x2 env L n) 63 fs fun r => k r hq
  | _ => none := x9 xeh
theorem x1mh {R : Type} {L n : Nat} {hq : H} {k : A → H → Option R} {id1 g1 o1 len1 : Nat} {l : List Bool} : x4 env (x2 env L n) hq 63 [.d (.ivs l.length (bools l)),.sl id1 g1 o1 len1] k = match box (xw hq [.d (.ivs l.length (bools l)),.sl id1 g1 o1 len1]) with
  | .mk (some fs) => xk (x2 env L n) 63 fs fun r => k r hq
  | _ => none := x9 xeh
theorem x1l1 {R : Type} {L n : Nat} {hq : H} {k : A → H → Option R} {id1 g1 o1 len1 : Nat} {id0 g0 o0 len0 : Nat}  : x4 env (x2 env L n) hq 63 [.sl id0 g0 o0 len0,.sl id1 g1 o1 len1] k = match box (xw hq [.sl id0 g0 o0 len0,.sl id1 g1 o1 len1]) with
  | .mk (some fs) => xk (x2 env L n) 63 fs fun r => k r hq
  | _ => none := x9 xeh
theorem x1km {R : Type} {L n : Nat} (hn : 3 ≤ n) (hL : 2 ^ 60 ≤ L) {l : List (List Int)} (hs : xp l) {k : Exit → List A → H → Option R} : ∀ (i : Int) (m : Nat) (h0 : 0 ≤ i) (hi : i ≤ l.length) (hm : (l.length : Int) - i < m),
  xc env (x2 env L n) L 0 [] (U2 (Z2 (U2 (Z16 (Z4 (Z1 ([]))))))) (xke 0) (Z2 (U2 (Z2 (U16 (U4 (U1 ([]))))))) m (.d (.ivs l.length (rowsD l)) :: .d (.ivs l.length (rowsD l)) :: Y2 (.d (.bool false) :: .d (.int .i64 i) :: Y16 (Y4 (Y1 ([]))))) [] k
  = k (.exit 0) (.d (.ivs l.length (rowsD l)) :: .d (.ivs l.length (rowsD l)) :: Y2 (.d (.bool false) :: .d (.int .i64 (l.length)) :: Y16 (Y4 (Y1 ([]))))) [] := by
 intro i m h0 hi hm
 have hl := hs.1
 obtain ⟨j,hj⟩ : ∃ j : Nat,(j : Int) = (l.length : Int) - i := ⟨((l.length : Int) - i).toNat,by omega⟩
 induction j generalizing i m with
 | zero =>
  obtain _ | m := m; omega
  obtain rfl : i = l.length := by omega
  rw [xxx]
  simp only [xw4,Try.f62,SLM,simprocAttr]
  simp -implicitDefEqProofs (maxSteps := 2000000) (disch := first | assumption | exact ⟨by kernel_rfl⟩ | omega | (simp only [GT,LN] <;> omega) | fail) only [↓DN,↓kAsg,↓kRet,UP,simprocAttr,↓x126,↓x12a,↓xw5,↓xvu,↓xw1,LA,Int.lt_irrefl]
 | succ j ih =>
  obtain _ | m := m; omega
  have hc : i < l.length := by omega
  have hk : i.toNat < l.length := by omega
  have hrow := xie hs hk
  rw [xxx]
  simp only [xw4,Try.f62,SLM,simprocAttr]
  simp -implicitDefEqProofs (maxSteps := 2000000) (disch := first | assumption | exact ⟨by kernel_rfl⟩ | omega | (simp only [GT,LN] <;> omega) | fail) only [↓DN,↓kAsg,↓kRet,UP,simprocAttr,↓x126,↓x12a,↓xw5,↓xvu,↓xw1,LA,hc,x60,x6l,↓ih]
theorem x1av {L n : Nat} (hn : 4 ≤ n) (l : List (List Int)) (hs : xp l) (hL : 2 ^ 60 ≤ L) : x2 env L n 62 [.d (.ivs l.length (rowsD l)),.d (.ivs l.length (rowsD l))] [] = some (.d (.bool true),[]) := by
 have hl := hs.1
 obtain _ | n := n; omega
 rw [x1rx]
 simp only [x1fz,Try.f62,SLM,simprocAttr]
 simp -implicitDefEqProofs (maxSteps := 2000000) (disch := first | assumption | exact ⟨by kernel_rfl⟩ | omega | (simp only [GT,LN] <;> omega) | fail) only [↓DN,↓kAsg,↓kRet,UP,simprocAttr,↓x126,↓x12a,↓xw5,↓xvu,↓xw1,↓x1km,LA]
theorem x1qs {R : Type} {L n : Nat} {hq : H} {k : A → H → Option R} (hn : 4 ≤ n) (l : List (List Int)) (hs : xp l) (hL : 2 ^ 60 ≤ L) : x4 env (x2 env L n) hq 62 [.d (.ivs l.length (rowsD l)),.d (.ivs l.length (rowsD l))] k = k (.d (.bool true)) hq :=
 xh rfl (x1av hn l hs hL) rfl (.inl rfl)
theorem x1rh {R : Type} {L n : Nat} {k : A → Option R} (hn : 4 ≤ n) (l : List (List Int)) (hs : xp l) (hL : 2 ^ 60 ≤ L) : xk (x2 env L n) 62 [.d (.ivs l.length (rowsD l)),.d (.ivs l.length (rowsD l))] k = k (.d (.bool true)) :=
 x2c (x1av hn l hs hL) rfl
theorem x1k6 {R : Type} {L n : Nat} {hq : H} {k : A → H → Option R} {id0 g0 o0 len0 : Nat} {l : List (List Int)} : x4 env (x2 env L n) hq 62 [.sl id0 g0 o0 len0,.d (.ivs l.length (rowsD l))] k = match box (xw hq [.sl id0 g0 o0 len0,.d (.ivs l.length (rowsD l))]) with
  | .mk (some fs) => xk (x2 env L n) 62 fs fun r => k r hq
  | _ => none := x9 xek
theorem x1ko {R : Type} {L n : Nat} {hq : H} {k : A → H → Option R} {id1 g1 o1 len1 : Nat} {l : List (List Int)} : x4 env (x2 env L n) hq 62 [.d (.ivs l.length (rowsD l)),.sl id1 g1 o1 len1] k = match box (xw hq [.d (.ivs l.length (rowsD l)),.sl id1 g1 o1 len1]) with
  | .mk (some fs) => xk (x2 env L n) 62 fs fun r => k r hq
  | _ => none := x9 xek
theorem x1ma {R : Type} {L n : Nat} {hq : H} {k : A → H → Option R} {id1 g1 o1 len1 : Nat} {id0 g0 o0 len0 : Nat}  : x4 env (x2 env L n) hq 62 [.sl id0 g0 o0 len0,.sl id1 g1 o1 len1] k = match box (xw hq [.sl id0 g0 o0 len0,.sl id1 g1 o1 len1]) with
  | .mk (some fs) => xk (x2 env L n) 62 fs fun r => k r hq
  | _ => none := x9 xek
theorem xyh {L n : Nat} (hn : 6 ≤ n) (al : Int) (rs : List (List Int)) (ac : List Bool) (hs : xp rs) (ha : ac.length ≤ 4294967296) (hL : 2 ^ 60 ≤ L) : x2 env L n 21 [.agg [.d (.int .i64 al),.d (.ivs rs.length (rowsD rs)),.d (.ivs ac.length (bools ac))],.agg [.d (.int .i64 al),.d (.ivs rs.length (rowsD rs)),.d (.ivs ac.length (bools ac))]] [] = some (.d (.bool true),[]) := by
 obtain _ | n := n; omega
 rw [x1ei]
 simp only [x111,Try.f21,SLM,simprocAttr]
 simp -implicitDefEqProofs (maxSteps := 2000000) (disch := first | assumption | exact ⟨by kernel_rfl⟩ | omega | (simp only [GT,LN] <;> omega) | fail) only [↓DN,↓kAsg,↓kRet,UP,simprocAttr,↓x1qs,↓x1ro,↓x1rh,↓x1qn,↓x1k6,↓x1ko,↓x1ma,↓x1nf,↓x1mh,↓x1l1,LA]
theorem x1fo {R : Type} {L n : Nat} {hq : H} {k : A → H → Option R} (hn : 6 ≤ n) (al : Int) (rs : List (List Int)) (ac : List Bool) (hs : xp rs) (ha : ac.length ≤ 4294967296) (hL : 2 ^ 60 ≤ L) : x4 env (x2 env L n) hq 21 [.agg [.d (.int .i64 al),.d (.ivs rs.length (rowsD rs)),.d (.ivs ac.length (bools ac))],.agg [.d (.int .i64 al),.d (.ivs rs.length (rowsD rs)),.d (.ivs ac.length (bools ac))]] k = k (.d (.bool true)) hq :=
 xh rfl (xyh hn al rs ac hs ha hL) rfl (.inl rfl)
theorem xxw {R : Type} {L n : Nat} {k : A → Option R} (hn : 6 ≤ n) (al : Int) (rs : List (List Int)) (ac : List Bool) (hs : xp rs) (ha : ac.length ≤ 4294967296) (hL : 2 ^ 60 ≤ L) : xk (x2 env L n) 21 [.agg [.d (.int .i64 al),.d (.ivs rs.length (rowsD rs)),.d (.ivs ac.length (bools ac))],.agg [.d (.int .i64 al),.d (.ivs rs.length (rowsD rs)),.d (.ivs ac.length (bools ac))]] k = k (.d (.bool true)) :=
 x2c (xyh hn al rs ac hs ha hL) rfl
theorem x19i {R : Type} {L n : Nat} {hq : H} {k : A → H → Option R} {id0 g0 o0 len0 : Nat} {al : Int} {rs : List (List Int)} {ac : List Bool} : x4 env (x2 env L n) hq 21 [.agg [.d (.int .i64 al),.sl id0 g0 o0 len0,.d (.ivs ac.length (bools ac))],.agg [.d (.int .i64 al),.d (.ivs rs.length (rowsD rs)),.d (.ivs ac.length (bools ac))]] k = match box (xw hq [.agg [.d (.int .i64 al),.sl id0 g0 o0 len0,.d (.ivs ac.length (bools ac))],.agg [.d (.int .i64 al),.d (.ivs rs.length (rowsD rs)),.d (.ivs ac.length (bools ac))]]) with
  | .mk (some fs) => xk (x2 env L n) 21 fs fun r => k r hq
  | _ => none := x9 x19
theorem x19d {R : Type} {L n : Nat} {hq : H} {k : A → H → Option R} {id1 g1 o1 len1 : Nat} {al : Int} {rs : List (List Int)} {ac : List Bool} : x4 env (x2 env L n) hq 21 [.agg [.d (.int .i64 al),.d (.ivs rs.length (rowsD rs)),.sl id1 g1 o1 len1],.agg [.d (.int .i64 al),.d (.ivs rs.length (rowsD rs)),.d (.ivs ac.length (bools ac))]] k = match box (xw hq [.agg [.d (.int .i64 al),.d (.ivs rs.length (rowsD rs)),.sl id1 g1 o1 len1],.agg [.d (.int .i64 al),.d (.ivs rs.length (rowsD rs)),.d (.ivs ac.length (bools ac))]]) with
  | .mk (some fs) => xk (x2 env L n) 21 fs fun r => k r hq
  | _ => none := x9 x19
theorem x18e {R : Type} {L n : Nat} {hq : H} {k : A → H → Option R} {id1 g1 o1 len1 : Nat} {id0 g0 o0 len0 : Nat} {al : Int} {rs : List (List Int)} {ac : List Bool} : x4 env (x2 env L n) hq 21 [.agg [.d (.int .i64 al),.sl id0 g0 o0 len0,.sl id1 g1 o1 len1],.agg [.d (.int .i64 al),.d (.ivs rs.length (rowsD rs)),.d (.ivs ac.length (bools ac))]] k = match box (xw hq [.agg [.d (.int .i64 al),.sl id0 g0 o0 len0,.sl id1 g1 o1 len1],.agg [.d (.int .i64 al),.d (.ivs rs.length (rowsD rs)),.d (.ivs ac.length (bools ac))]]) with
  | .mk (some fs) => xk (x2 env L n) 21 fs fun r => k r hq
  | _ => none := x9 x19
theorem x1a3 {R : Type} {L n : Nat} {hq : H} {k : A → H → Option R} {id2 g2 o2 len2 : Nat} {al : Int} {rs : List (List Int)} {ac : List Bool} : x4 env (x2 env L n) hq 21 [.agg [.d (.int .i64 al),.d (.ivs rs.length (rowsD rs)),.d (.ivs ac.length (bools ac))],.agg [.d (.int .i64 al),.sl id2 g2 o2 len2,.d (.ivs ac.length (bools ac))]] k = match box (xw hq [.agg [.d (.int .i64 al),.d (.ivs rs.length (rowsD rs)),.d (.ivs ac.length (bools ac))],.agg [.d (.int .i64 al),.sl id2 g2 o2 len2,.d (.ivs ac.length (bools ac))]]) with
  | .mk (some fs) => xk (x2 env L n) 21 fs fun r => k r hq
  | _ => none := x9 x19
theorem x19n {R : Type} {L n : Nat} {hq : H} {k : A → H → Option R} {id2 g2 o2 len2 : Nat} {id0 g0 o0 len0 : Nat} {al : Int} {ac : List Bool} : x4 env (x2 env L n) hq 21 [.agg [.d (.int .i64 al),.sl id0 g0 o0 len0,.d (.ivs ac.length (bools ac))],.agg [.d (.int .i64 al),.sl id2 g2 o2 len2,.d (.ivs ac.length (bools ac))]] k = match box (xw hq [.agg [.d (.int .i64 al),.sl id0 g0 o0 len0,.d (.ivs ac.length (bools ac))],.agg [.d (.int .i64 al),.sl id2 g2 o2 len2,.d (.ivs ac.length (bools ac))]]) with
  | .mk (some fs) => xk (x2 env L n) 21 fs fun r => k r hq
  | _ => none := x9 x19
theorem x18g {R : Type} {L n : Nat} {hq : H} {k : A → H → Option R} {id2 g2 o2 len2 : Nat} {id1 g1 o1 len1 : Nat} {al : Int} {rs : List (List Int)} {ac : List Bool} : x4 env (x2 env L n) hq 21 [.agg [.d (.int .i64 al),.d (.ivs rs.length (rowsD rs)),.sl id1 g1 o1 len1],.agg [.d (.int .i64 al),.sl id2 g2 o2 len2,.d (.ivs ac.length (bools ac))]] k = match box (xw hq [.agg [.d (.int .i64 al),.d (.ivs rs.length (rowsD rs)),.sl id1 g1 o1 len1],.agg [.d (.int .i64 al),.sl id2 g2 o2 len2,.d (.ivs ac.length (bools ac))]]) with
  | .mk (some fs) => xk (x2 env L n) 21 fs fun r => k r hq
  | _ => none := x9 x19
theorem x18q {R : Type} {L n : Nat} {hq : H} {k : A → H → Option R} {id2 g2 o2 len2 : Nat} {id1 g1 o1 len1 : Nat} {id0 g0 o0 len0 : Nat} {al : Int} {ac : List Bool} : x4 env (x2 env L n) hq 21 [.agg [.d (.int .i64 al),.sl id0 g0 o0 len0,.sl id1 g1 o1 len1],.agg [.d (.int .i64 al),.sl id2 g2 o2 len2,.d (.ivs ac.length (bools ac))]] k = match box (xw hq [.agg [.d (.int .i64 al),.sl id0 g0 o0 len0,.sl id1 g1 o1 len1],.agg [.d (.int .i64 al),.sl id2 g2 o2 len2,.d (.ivs ac.length (bools ac))]]) with
  | .mk (some fs) => xk (x2 env L n) 21 fs fun r => k r hq
  | _ => none := x9 x19
theorem x19w {R : Type} {L n : Nat} {hq : H} {k : A → H → Option R} {id3 g3 o3 len3 : Nat} {al : Int} {rs : List (List Int)} {ac : List Bool} : x4 env (x2 env L n) hq 21 [.agg [.d (.int .i64 al),.d (.ivs rs.length (rowsD rs)),.d (.ivs ac.length (bools ac))],.agg [.d (.int .i64 al),.d (.ivs rs.length (rowsD rs)),.sl id3 g3 o3 len3]] k = match box (xw hq [.agg [.d (.int .i64 al),.d (.ivs rs.length (rowsD rs)),.d (.ivs ac.length (bools ac))],.agg [.d (.int .i64 al),.d (.ivs rs.length (rowsD rs)),.sl id3 g3 o3 len3]]) with
  | .mk (some fs) => xk (x2 env L n) 21 fs fun r => k r hq
  | _ => none := x9 x19
theorem x19g {R : Type} {L n : Nat} {hq : H} {k : A → H → Option R} {id3 g3 o3 len3 : Nat} {id0 g0 o0 len0 : Nat} {al : Int} {rs : List (List Int)} {ac : List Bool} : x4 env (x2 env L n) hq 21 [.agg [.d (.int .i64 al),.sl id0 g0 o0 len0,.d (.ivs ac.length (bools ac))],.agg [.d (.int .i64 al),.d (.ivs rs.length (rowsD rs)),.sl id3 g3 o3 len3]] k = match box (xw hq [.agg [.d (.int .i64 al),.sl id0 g0 o0 len0,.d (.ivs ac.length (bools ac))],.agg [.d (.int .i64 al),.d (.ivs rs.length (rowsD rs)),.sl id3 g3 o3 len3]]) with
  | .mk (some fs) => xk (x2 env L n) 21 fs fun r => k r hq
  | _ => none := x9 x19
theorem x15v {R : Type} {L n : Nat} {hq : H} {k : A → H → Option R} {id3 g3 o3 len3 : Nat} {id1 g1 o1 len1 : Nat} {al : Int} {rs : List (List Int)} : x4 env (x2 env L n) hq 21 [.agg [.d (.int .i64 al),.d (.ivs rs.length (rowsD rs)),.sl id1 g1 o1 len1],.agg [.d (.int .i64 al),.d (.ivs rs.length (rowsD rs)),.sl id3 g3 o3 len3]] k = match box (xw hq [.agg [.d (.int .i64 al),.d (.ivs rs.length (rowsD rs)),.sl id1 g1 o1 len1],.agg [.d (.int .i64 al),.d (.ivs rs.length (rowsD rs)),.sl id3 g3 o3 len3]]) with
  | .mk (some fs) => xk (x2 env L n) 21 fs fun r => k r hq
  | _ => none := x9 x19
theorem x162 {R : Type} {L n : Nat} {hq : H} {k : A → H → Option R} {id3 g3 o3 len3 : Nat} {id1 g1 o1 len1 : Nat} {id0 g0 o0 len0 : Nat} {al : Int} {rs : List (List Int)} : x4 env (x2 env L n) hq 21 [.agg [.d (.int .i64 al),.sl id0 g0 o0 len0,.sl id1 g1 o1 len1],.agg [.d (.int .i64 al),.d (.ivs rs.length (rowsD rs)),.sl id3 g3 o3 len3]] k = match box (xw hq [.agg [.d (.int .i64 al),.sl id0 g0 o0 len0,.sl id1 g1 o1 len1],.agg [.d (.int .i64 al),.d (.ivs rs.length (rowsD rs)),.sl id3 g3 o3 len3]]) with
  | .mk (some fs) => xk (x2 env L n) 21 fs fun r => k r hq
  | _ => none := x9 x19
theorem x16a {R : Type} {L n : Nat} {hq : H} {k : A → H → Option R} {id3 g3 o3 len3 : Nat} {id2 g2 o2 len2 : Nat} {al : Int} {rs : List (List Int)} {ac : List Bool} : x4 env (x2 env L n) hq 21 [.agg [.d (.int .i64 al),.d (.ivs rs.length (rowsD rs)),.d (.ivs ac.length (bools ac))],.agg [.d (.int .i64 al),.sl id2 g2 o2 len2,.sl id3 g3 o3 len3]] k = match box (xw hq [.agg [.d (.int .i64 al),.d (.ivs rs.length (rowsD rs)),.d (.ivs ac.length (bools ac))],.agg [.d (.int .i64 al),.sl id2 g2 o2 len2,.sl id3 g3 o3 len3]]) with
  | .mk (some fs) => xk (x2 env L n) 21 fs fun r => k r hq
  | _ => none := x9 x19
theorem x15r {R : Type} {L n : Nat} {hq : H} {k : A → H → Option R} {id3 g3 o3 len3 : Nat} {id2 g2 o2 len2 : Nat} {id0 g0 o0 len0 : Nat} {al : Int} {ac : List Bool} : x4 env (x2 env L n) hq 21 [.agg [.d (.int .i64 al),.sl id0 g0 o0 len0,.d (.ivs ac.length (bools ac))],.agg [.d (.int .i64 al),.sl id2 g2 o2 len2,.sl id3 g3 o3 len3]] k = match box (xw hq [.agg [.d (.int .i64 al),.sl id0 g0 o0 len0,.d (.ivs ac.length (bools ac))],.agg [.d (.int .i64 al),.sl id2 g2 o2 len2,.sl id3 g3 o3 len3]]) with
  | .mk (some fs) => xk (x2 env L n) 21 fs fun r => k r hq
  | _ => none := x9 x19
theorem x15z {R : Type} {L n : Nat} {hq : H} {k : A → H → Option R} {id3 g3 o3 len3 : Nat} {id2 g2 o2 len2 : Nat} {id1 g1 o1 len1 : Nat} {al : Int} {rs : List (List Int)} : x4 env (x2 env L n) hq 21 [.agg [.d (.int .i64 al),.d (.ivs rs.length (rowsD rs)),.sl id1 g1 o1 len1],.agg [.d (.int .i64 al),.sl id2 g2 o2 len2,.sl id3 g3 o3 len3]] k = match box (xw hq [.agg [.d (.int .i64 al),.d (.ivs rs.length (rowsD rs)),.sl id1 g1 o1 len1],.agg [.d (.int .i64 al),.sl id2 g2 o2 len2,.sl id3 g3 o3 len3]]) with
  | .mk (some fs) => xk (x2 env L n) 21 fs fun r => k r hq
  | _ => none := x9 x19
theorem x167 {R : Type} {L n : Nat} {hq : H} {k : A → H → Option R} {id3 g3 o3 len3 : Nat} {id2 g2 o2 len2 : Nat} {id1 g1 o1 len1 : Nat} {id0 g0 o0 len0 : Nat} {al : Int} : x4 env (x2 env L n) hq 21 [.agg [.d (.int .i64 al),.sl id0 g0 o0 len0,.sl id1 g1 o1 len1],.agg [.d (.int .i64 al),.sl id2 g2 o2 len2,.sl id3 g3 o3 len3]] k = match box (xw hq [.agg [.d (.int .i64 al),.sl id0 g0 o0 len0,.sl id1 g1 o1 len1],.agg [.d (.int .i64 al),.sl id2 g2 o2 len2,.sl id3 g3 o3 len3]]) with
  | .mk (some fs) => xk (x2 env L n) 21 fs fun r => k r hq
  | _ => none := x9 x19
def xf3 : Nat → Int → List Int
 | 0,_ => []
 | j + 1,k => k :: xf3 j (k + 1)
theorem x1bn : ∀ (j : Nat) (k : Int),(xf3 j k).length = j
 | 0,_ => rfl
 | j + 1,k => by simp [xf3,x1bn j]
theorem x1j8 {R : Type} {L n : Nat} {k : Exit → List A → H → Option R} : ∀ (i c : Int) (m : Nat) (o : List Int) (len : Nat) (h0 : 0 ≤ i) (hi : i ≤ len) (hm : (len : Int) - i < m) (ho : o.length = len) (hl : len ≤ 4294967296) (hc0 : 0 ≤ c) (hc1 : c + ((len : Int) - i) ≤ 1000000000000),
  xc env (x2 env L n) L 1 [] (U2 (Z2 (U2 (Z8 (Z4 (Z1 ([]))))))) (xgg 0) (Z2 (U2 (Z2 (U8 (U4 (U1 ([]))))))) m (.sl 0 0 0 len :: .d (.int .i64 c) :: Y2 (.d (.int .i64 0) :: .d (.int .i64 i) :: Y8 (Y4 (Y1 ([]))))) [.arr (ints o) 1 0] k
  = k (.exit 0) (.sl 0 0 0 len :: .d (.int .i64 ((c + ((len : Int) - i)))) :: Y2 (.d (.int .i64 0) :: .d (.int .i64 len) :: Y8 (Y4 (Y1 ([]))))) [.arr (ints (o.take i.toNat ++ xf3 ((len : Int) - i).toNat c)) 1 0] := by
 intro i c m o len h0 hi hm ho hl hc0 hc1
 obtain ⟨j,hj⟩ : ∃ j : Nat,(j : Int) = (len : Int) - i := ⟨((len : Int) - i).toNat,by omega⟩
 induction j generalizing i c m o len with
 | zero =>
  obtain _ | m := m; omega
  obtain rfl : i = len := by omega
  rw [xtw]
  simp only [xt7,Try.f92,SLM,simprocAttr]
  simp -implicitDefEqProofs (maxSteps := 2000000) (disch := first | assumption | exact ⟨by kernel_rfl⟩ | omega | (simp only [GT,LN] <;> omega) | fail) only [↓DN,↓kAsg,↓kRet,UP,simprocAttr,Int.lt_irrefl]
  have e1 : o.take len = o := List.take_of_length_le (by omega)
  have e2 : ((len : Int) - len).toNat = 0 := by omega
  simp only [Int.toNat_natCast,e1,e2,xf3,List.append_nil]
  congr 3
  simp
 | succ j ih =>
  obtain _ | m := m; omega
  have hc : i < len := by omega
  have hk : i.toNat < o.length := by omega
  have e1 : (i + 1).toNat = i.toNat + 1 := by omega
  have e2 : ((len : Int) - i).toNat = j + 1 := by omega
  have e3 : ((len : Int) - (i + 1)).toNat = j := by omega
  rw [xtw]
  simp only [xt7,Try.f92,SLM,simprocAttr]
  simp -implicitDefEqProofs (maxSteps := 2000000) (disch := first | assumption | exact ⟨by kernel_rfl⟩ | omega | (simp only [GT,LN] <;> omega) | fail) only [↓DN,↓kAsg,↓kRet,UP,simprocAttr,hc,x2m,x5m,↓xir,↓ih]
  have e4 : c + 1 + ((len : Int) - (i + 1)) = c + ((len : Int) - i) := by omega
  rw [e1,e2,e3,xio hk,e4]
  simp only [xf3]
theorem x1om {L n : Nat} (hn : 1 ≤ n) (o : List Int) (c : Int) (hl : o.length ≤ 4294967296) (hc0 : 0 ≤ c) (hc1 : c ≤ 100000000000) (hL : 2 ^ 60 ≤ L) : x2 env L n 92 [.sl 0 0 0 o.length,.d (.int .i64 c)] [.arr (ints o) 1 0] = some (.d (.int .i64 (c + o.length)),[.arr (ints (xf3 o.length c)) 1 0]) := by
 obtain _ | n := n; omega
 rw [x1ob]
 simp only [x1bd,Try.f92,SLM,simprocAttr]
 simp -implicitDefEqProofs (maxSteps := 2000000) (disch := first | assumption | exact ⟨by kernel_rfl⟩ | omega | (simp only [GT,LN] <;> omega) | fail) only [↓DN,↓kAsg,↓kRet,UP,simprocAttr,↓x1j8,Int.toNat_zero,Int.sub_zero,Int.toNat_natCast,List.take_zero,List.nil_append]
theorem xwe {R : Type} {L n id : Nat} {hq : H} {k : A → H → Option R} (hn : 1 ≤ n) (o : List Int) (c : Int) (hi : hq[id]? = some (.arr (ints o) 1 0)) (hl : o.length ≤ 4294967296) (hc0 : 0 ≤ c) (hc1 : c ≤ 100000000000) (hL : 2 ^ 60 ≤ L) : x4 env (x2 env L n) hq 92 [.sl id 0 0 o.length,.d (.int .i64 c)] k = k (.d (.int .i64 (c + o.length))) (hq.set id (.arr (ints (xf3 o.length c)) 1 0)) :=
 xj9 hi (by simp [idsL,idsA]) xpg rfl (by simpa [xd,mapA,x8] using x1om hn o c hl hc0 hc1 hL)
end Ev
end Go.Proofs.Ytppdfjdfjfoddaa
