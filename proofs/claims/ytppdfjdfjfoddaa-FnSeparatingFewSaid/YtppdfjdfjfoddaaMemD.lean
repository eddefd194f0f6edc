/-
  Memory of some shapes at the end of a round. Written by a program.
-/
import Derived.Test.YtppdfjdfjfoddaaShSf
set_option linter.unusedSimpArgs false
set_option linter.unusedVariables false
set_option maxRecDepth 8000
set_option maxHeartbeats 4000000
namespace Go.Proofs.Ytppdfjdfjfoddaa
namespace Ev
theorem x201 {m : List Bool} {s : List A} {y1 y2 x0 x1 : D} {k z : Nat} {r : List Int} {cs : List D} {d : List (List Int)} {p : H} (hl : d.length ≤ 4294967296) : gc 1 m s (.box [.d y1,.d y2] :: .box [.d x0,.sl 4 0 0 0,.sl 5 0 0 0] :: .box [.d x1,.sl 6 1 0 k,.sl 7 1 0 z] :: .arr (ints r) 1 0 :: .arr [] 0 0 :: .arr [] 0 0 :: .vec (x3 8 d ++ [.sl 3 0 0 r.length]) 1 1 :: .arr cs 1 1 :: (x9 d ++ p)) = match box (tidy m s) with
  | .mk s1 => if idsL s1 = [0,1,2] then (xj 0 (.box [.d y1,.d y2] :: .box [.d x0,.sl 3 0 0 0,.sl 4 0 0 0] :: .box [.d x1,.sl 5 1 0 k,.sl 6 1 0 z] :: .arr [] 0 0 :: .arr [] 0 0 :: .vec (x3 7 d ++ [.sl (d.length + 7) 0 0 r.length]) 1 1 :: .arr cs 1 1 :: (x9 d ++ [.arr (ints r) 1 0])) (s1),.box [.d y1,.d y2] :: .box [.d x0,.sl 3 0 0 0,.sl 4 0 0 0] :: .box [.d x1,.sl 5 0 0 k,.sl 6 0 0 z] :: .arr [] 0 0 :: .arr [] 0 0 :: .vec (x3 7 d ++ [.sl (d.length + 7) 0 0 r.length]) 1 0 :: .arr cs 1 0 :: (x9 d ++ [.arr (ints r) 1 0])) else gcO 1 m s (.box [.d y1,.d y2] :: .box [.d x0,.sl 4 0 0 0,.sl 5 0 0 0] :: .box [.d x1,.sl 6 1 0 k,.sl 7 1 0 z] :: .arr (ints r) 1 0 :: .arr [] 0 0 :: .arr [] 0 0 :: .vec (x3 8 d ++ [.sl 3 0 0 r.length]) 1 1 :: .arr cs 1 1 :: (x9 d ++ p))
  | .no => ([],[]) := by
 simp only [box]
 split
 ·rename_i hc
  have hb := hc
  have hids : idsL (tidy m s) = [0,1,2] := by exact hb
  obtain ⟨h,hh⟩ : ∃ h : H,O.box [.d y1,.d y2] :: .box [.d x0,.sl 4 0 0 0,.sl 5 0 0 0] :: .box [.d x1,.sl 6 1 0 k,.sl 7 1 0 z] :: .arr (ints r) 1 0 :: .arr [] 0 0 :: .arr [] 0 0 :: .vec (x3 8 d ++ [.sl 3 0 0 r.length]) 1 1 :: .arr cs 1 1 :: (x9 d ++ p) = h := ⟨_,rfl⟩
  conv => lhs; rw [hh]
  have g0 : h[0]? = some (.box [.d y1,.d y2]) := by rw [← hh]; rfl
  have g1 : h[1]? = some (.box [.d x0,.sl 4 0 0 0,.sl 5 0 0 0]) := by rw [← hh]; rfl
  have g2 : h[2]? = some (.box [.d x1,.sl 6 1 0 k,.sl 7 1 0 z]) := by rw [← hh]; rfl
  have g3 : h[3]? = some (.arr (ints r) 1 0) := by rw [← hh]; rfl
  have g4 : h[4]? = some (.arr [] 0 0) := by rw [← hh]; rfl
  have g5 : h[5]? = some (.arr [] 0 0) := by rw [← hh]; rfl
  have g6 : h[6]? = some (.vec (x3 8 d ++ [.sl 3 0 0 r.length]) 1 1) := by rw [← hh]; rfl
  have g7 : h[7]? = some (.arr cs 1 1) := by rw [← hh]; rfl
  have hD : h.drop 8 = x9 d ++ p := by rw [← hh]; rfl
  have gr := x8v 8 hD
  have k0 : kids h (0) = [] := by simp [kids,g0,idsL,idsA]
  have k1 : kids h (1) = [4,5] := by simp [kids,g1,idsL,idsA]
  have k2 : kids h (2) = [6,7] := by simp [kids,g2,idsL,idsA]
  have k4 : kids h (4) = [] := x1i g4
  have k5 : kids h (5) = [] := x1i g5
  have k6 : kids h (6) = List.range' 8 d.length ++ [3] := by simp [kids,g6,x1d,x2k,x3h,idsL,idsA]
  have leaf := x9o gr
  have hr : x4 x5 h [0,1,2] [] = [0,1,2,4,5,6] ++ ([7] ++ (List.range' 8 d.length ++ [3])) := x7o (by simp [k0,k1,k2,k4,k5,k6]) (by intro q hq; simp only [List.length_cons,List.length_nil] at hq; have : q = 0 ∨ q = 1 ∨ q = 2 ∨ q = 3 ∨ q = 4 ∨ q = 5 := (by omega); rcases this with rfl | rfl | rfl | rfl | rfl | rfl <;> simp [k0,k1,k2,k4,k5,k6]) leaf (by intro i hi; simp at hi; rcases hi with rfl | rfl <;> exact ⟨_,_,_,by assumption⟩) (by intro i hi; simp at hi; rcases hi with rfl | rfl | rfl | rfl | rfl | rfl <;> exact ⟨_,by assumption,by simp⟩) (by simp <;> omega) (by intro i hi; simp at hi; omega) (by simp only [x5,List.length_cons,List.length_nil]; omega)
  generalize hord : [0,1,2,4,5,6] ++ ([7] ++ (List.range' 8 d.length ++ [3])) = ord at hr
  have hA : ord = ([0,1,2,4,5,6] ++ [7]) ++ (List.range' 8 d.length ++ [3]) := by rw [← hord,List.append_assoc]
  have pk : ∀ i j,ord[j]? = some i → xa ord i = some j := fun i j h1 => x4i (by rw [← hr]; exact x2h x5 h _ [] (by simp)) h1
  have p0 := pk (0) 0 (by rw [← hord]; rfl)
  have p1 := pk (1) 1 (by rw [← hord]; rfl)
  have p2 := pk (2) 2 (by rw [← hord]; rfl)
  have p4 := pk (4) 3 (by rw [← hord]; rfl)
  have p5 := pk (5) 4 (by rw [← hord]; rfl)
  have p6 := pk (6) 5 (by rw [← hord]; rfl)
  have p7 := pk (7) 6 (by rw [← hord]; rfl)
  have pr := x9q (C := 7) pk hA rfl
  have p3 := x13p (C := 7) pk hA rfl 0 (i := 3) (j := d.length + 7) rfl (by omega)
  obtain ⟨K,hK⟩ : ∃ K : H,O.box [.d y1,.d y2] :: .box [.d x0,.sl 3 0 0 0,.sl 4 0 0 0] :: .box [.d x1,.sl 5 1 0 k,.sl 6 1 0 z] :: .arr [] 0 0 :: .arr [] 0 0 :: .vec (x3 7 d ++ [.sl (d.length + 7) 0 0 r.length]) 1 1 :: .arr cs 1 1 :: (x9 d ++ [.arr (ints r) 1 0]) = K := ⟨_,rfl⟩
  have hni : ∀ f,x7 f (x6 0) = x6 0 := fun _ => rfl
  have hpk : pack h ord = K := by
   have hrf : x7 (xa ord) (x3 8 d) = x3 7 d := x6f (c := 0) pr
   rw [xb9 hA gr,← hK]
   simp only [List.cons_append,List.nil_append,List.map_cons,List.map_nil,List.getD_eq_getElem?_getD,g0,g1,g2,g4,g5,g6,g7,g3,Option.getD_some,mapO,x7,mapA,x3v,hrf,hni,p0,p1,p2,p4,p5,p6,p7,p3,List.append_nil]
  have hKD : K.drop 7 = x9 d ++ [.arr (ints r) 1 0] := by rw [← hK]; rfl
  have hgr := xdf hKD
  have hge0 : xx K (d.length + 7) = some 0 := by simp only [xx,xka 7 0 hKD rfl (j := d.length + 7) (by omega)]
  have hcm : x3a 0 K = .box [.d y1,.d y2] :: .box [.d x0,.sl 3 0 0 0,.sl 4 0 0 0] :: .box [.d x1,.sl 5 0 0 k,.sl 6 0 0 z] :: .arr [] 0 0 :: .arr [] 0 0 :: .vec (x3 7 d ++ [.sl (d.length + 7) 0 0 r.length]) 1 0 :: .arr cs 1 0 :: (x9 d ++ [.arr (ints r) 1 0]) := by
   have hrf : xj 0 K (x3 7 d) = x3 7 d := x76 hgr
   have hnc : ∀ h : H,xj 0 h (x6 0) = x6 0 := fun _ => rfl
   have q3 : xx K 3 = some 0 := by rw [← hK]; rfl
   have q4 : xx K 4 = some 0 := by rw [← hK]; rfl
   have q5 : xx K 5 = some 1 := by rw [← hK]; rfl
   have q6 : xx K 6 = some 1 := by rw [← hK]; rfl
   unfold x3a
   rw [x78]
   conv => lhs; arg 2; rw [← hK]
   simp only [List.map_cons,List.map_append,List.map_nil,x2r,xj,x1c,x7i,x63,hrf,hnc,x80,q3,q4,q5,q6,hge0,Nat.not_lt_zero,if_false,if_true]
  subst hK
  rw [x14b hh hids,xyv (ord := ord) (by rw [hids]; exact hr),hpk,hcm]
  have hmp : x7 (xa ord) (tidy m s) = tidy m s := by
   apply x7a
   rw [hids]
   intro i hi
   simp only [List.mem_cons,List.not_mem_nil,or_false] at hi
   rcases hi with rfl | rfl | rfl
   ·exact p0
   ·exact p1
   ·exact p2
  rw [hmp]
 ·rfl
theorem x20u {m : List Bool} {s : List A} {y1 y2 x0 x1 : D} {k z : Nat} {cs : List D} {d : List (List Int)} (hl : d.length ≤ 4294967296) : gc 1 m s (.box [.d y1,.d y2] :: .box [.d x0,.sl 3 0 0 0,.sl 4 0 0 0] :: .box [.d x1,.sl 5 0 0 k,.sl 6 0 0 z] :: .arr [] 0 0 :: .arr [] 0 0 :: .vec (x3 7 d ++ x6 0) 1 0 :: .arr cs 1 0 :: x9 d) = match box (tidy m s) with
  | .mk s1 => if idsL s1 = [0,1,2] then (xj 0 (.box [.d y1,.d y2] :: .box [.d x0,.sl 3 0 0 0,.sl 4 0 0 0] :: .box [.d x1,.sl 5 0 0 k,.sl 6 0 0 z] :: .arr [] 0 0 :: .arr [] 0 0 :: .vec (x3 7 d ++ x6 0) 1 0 :: .arr cs 1 0 :: x9 d) (s1),.box [.d y1,.d y2] :: .box [.d x0,.sl 3 0 0 0,.sl 4 0 0 0] :: .box [.d x1,.sl 5 0 0 k,.sl 6 0 0 z] :: .arr [] 0 0 :: .arr [] 0 0 :: .vec (x3 7 d ++ x6 0) 1 0 :: .arr cs 1 0 :: x9 d) else gcO 1 m s (.box [.d y1,.d y2] :: .box [.d x0,.sl 3 0 0 0,.sl 4 0 0 0] :: .box [.d x1,.sl 5 0 0 k,.sl 6 0 0 z] :: .arr [] 0 0 :: .arr [] 0 0 :: .vec (x3 7 d ++ x6 0) 1 0 :: .arr cs 1 0 :: x9 d)
  | .no => ([],[]) := by
 simp only [box]
 split
 ·rename_i hc
  have hb := hc
  have hids : idsL (tidy m s) = [0,1,2] := by exact hb
  obtain ⟨h,hh⟩ : ∃ h : H,O.box [.d y1,.d y2] :: .box [.d x0,.sl 3 0 0 0,.sl 4 0 0 0] :: .box [.d x1,.sl 5 0 0 k,.sl 6 0 0 z] :: .arr [] 0 0 :: .arr [] 0 0 :: .vec (x3 7 d ++ x6 0) 1 0 :: .arr cs 1 0 :: x9 d = h := ⟨_,rfl⟩
  conv => lhs; rw [hh]
  have g0 : h[0]? = some (.box [.d y1,.d y2]) := by rw [← hh]; rfl
  have g1 : h[1]? = some (.box [.d x0,.sl 3 0 0 0,.sl 4 0 0 0]) := by rw [← hh]; rfl
  have g2 : h[2]? = some (.box [.d x1,.sl 5 0 0 k,.sl 6 0 0 z]) := by rw [← hh]; rfl
  have g3 : h[3]? = some (.arr [] 0 0) := by rw [← hh]; rfl
  have g4 : h[4]? = some (.arr [] 0 0) := by rw [← hh]; rfl
  have g5 : h[5]? = some (.vec (x3 7 d ++ x6 0) 1 0) := by rw [← hh]; rfl
  have g6 : h[6]? = some (.arr cs 1 0) := by rw [← hh]; rfl
  have hD : h.drop 7 = x9 d ++ [] := by rw [← hh]; exact (List.append_nil _).symm
  have gr := x8v 7 hD
  have k0 : kids h (0) = [] := by simp [kids,g0,idsL,idsA]
  have k1 : kids h (1) = [3,4] := by simp [kids,g1,idsL,idsA]
  have k2 : kids h (2) = [5,6] := by simp [kids,g2,idsL,idsA]
  have k3 : kids h (3) = [] := x1i g3
  have k4 : kids h (4) = [] := x1i g4
  have k5 : kids h (5) = List.range' 7 d.length := by simp [kids,g5,x1d,x2k,x3h,idsL,idsA]
  have leaf := x9o gr
  have hr : x4 x5 h [0,1,2] [] = [0,1,2,3,4,5] ++ ([6] ++ (List.range' 7 d.length ++ [])) := x7o (by simp [k0,k1,k2,k3,k4,k5]) (by intro q hq; simp only [List.length_cons,List.length_nil] at hq; have : q = 0 ∨ q = 1 ∨ q = 2 ∨ q = 3 ∨ q = 4 ∨ q = 5 := (by omega); rcases this with rfl | rfl | rfl | rfl | rfl | rfl <;> simp [k0,k1,k2,k3,k4,k5]) leaf (by intro i hi; simp at hi; subst hi; exact ⟨_,_,_,by assumption⟩) (by intro i hi; simp at hi; rcases hi with rfl | rfl | rfl | rfl | rfl | rfl <;> exact ⟨_,by assumption,by simp⟩) (by simp <;> omega) (by intro i hi; simp at hi; omega) (by simp only [x5,List.length_cons,List.length_nil]; omega)
  generalize hord : [0,1,2,3,4,5] ++ ([6] ++ (List.range' 7 d.length ++ [])) = ord at hr
  have hA : ord = ([0,1,2,3,4,5] ++ [6]) ++ (List.range' 7 d.length ++ []) := by rw [← hord,List.append_assoc]
  have pk : ∀ i j,ord[j]? = some i → xa ord i = some j := fun i j h1 => x4i (by rw [← hr]; exact x2h x5 h _ [] (by simp)) h1
  have p0 := pk (0) 0 (by rw [← hord]; rfl)
  have p1 := pk (1) 1 (by rw [← hord]; rfl)
  have p2 := pk (2) 2 (by rw [← hord]; rfl)
  have p3 := pk (3) 3 (by rw [← hord]; rfl)
  have p4 := pk (4) 4 (by rw [← hord]; rfl)
  have p5 := pk (5) 5 (by rw [← hord]; rfl)
  have p6 := pk (6) 6 (by rw [← hord]; rfl)
  have pr := x9q (C := 7) pk hA rfl
  obtain ⟨K,hK⟩ : ∃ K : H,O.box [.d y1,.d y2] :: .box [.d x0,.sl 3 0 0 0,.sl 4 0 0 0] :: .box [.d x1,.sl 5 0 0 k,.sl 6 0 0 z] :: .arr [] 0 0 :: .arr [] 0 0 :: .vec (x3 7 d ++ x6 0) 1 0 :: .arr cs 1 0 :: x9 d = K := ⟨_,rfl⟩
  have hni : ∀ f,x7 f (x6 0) = x6 0 := fun _ => rfl
  have hpk : pack h ord = K := by
   have hrf : x7 (xa ord) (x3 7 d) = x3 7 d := x6f (c := 0) pr
   rw [xb9 hA gr,← hK]
   simp only [List.cons_append,List.nil_append,List.map_cons,List.map_nil,List.getD_eq_getElem?_getD,g0,g1,g2,g3,g4,g5,g6,Option.getD_some,mapO,x7,mapA,x3v,hrf,hni,p0,p1,p2,p3,p4,p5,p6,List.append_nil]
  have hKD : K.drop 7 = x9 d ++ [] := by rw [← hK]; exact (List.append_nil _).symm
  have hgr := xdf hKD
  have hcm : x3a 0 K = .box [.d y1,.d y2] :: .box [.d x0,.sl 3 0 0 0,.sl 4 0 0 0] :: .box [.d x1,.sl 5 0 0 k,.sl 6 0 0 z] :: .arr [] 0 0 :: .arr [] 0 0 :: .vec (x3 7 d ++ x6 0) 1 0 :: .arr cs 1 0 :: x9 d := by
   have hrf : xj 0 K (x3 7 d) = x3 7 d := x76 hgr
   have hnc : ∀ h : H,xj 0 h (x6 0) = x6 0 := fun _ => rfl
   have q3 : xx K 3 = some 0 := by rw [← hK]; rfl
   have q4 : xx K 4 = some 0 := by rw [← hK]; rfl
   have q5 : xx K 5 = some 0 := by rw [← hK]; rfl
   have q6 : xx K 6 = some 0 := by rw [← hK]; rfl
   unfold x3a
   rw [x78]
   conv => lhs; arg 2; rw [← hK]
   simp only [List.map_cons,List.map_append,List.map_nil,x2r,xj,x1c,x7i,x63,hrf,hnc,x80,q3,q4,q5,q6,Nat.not_lt_zero,if_false,if_true]
  subst hK
  rw [x14b hh hids,xyv (ord := ord) (by rw [hids]; exact hr),hpk,hcm]
  have hmp : x7 (xa ord) (tidy m s) = tidy m s := by
   apply x7a
   rw [hids]
   intro i hi
   simp only [List.mem_cons,List.not_mem_nil,or_false] at hi
   rcases hi with rfl | rfl | rfl
   ·exact p0
   ·exact p1
   ·exact p2
  rw [hmp]
 ·rfl
theorem x1mm {m : List Bool} {s : List A} {y1 y2 x0 x1 : D} {k z g : Nat} {cr cs : List D} {d : List (List Int)} {p : H} (hl : d.length ≤ 4294967296) : gc 1 m s (.box [.d y1,.d y2] :: .box [.d x0,.sl 4 0 0 0,.sl 5 0 0 0] :: .box [.d x1,.sl 6 0 0 k,.sl 7 0 0 z] :: .arr cr 1 g :: .arr [] 0 0 :: .arr [] 0 0 :: .vec (x3 8 d ++ x6 0) 1 0 :: .arr cs 1 0 :: (x9 d ++ p)) = match box (tidy m s) with
  | .mk s1 => if idsL s1 = [0,1,2,3] then (xj 0 (.box [.d y1,.d y2] :: .box [.d x0,.sl 4 0 0 0,.sl 5 0 0 0] :: .box [.d x1,.sl 6 0 0 k,.sl 7 0 0 z] :: .arr cr 1 g :: .arr [] 0 0 :: .arr [] 0 0 :: .vec (x3 8 d ++ x6 0) 1 0 :: .arr cs 1 0 :: x9 d) (s1),.box [.d y1,.d y2] :: .box [.d x0,.sl 4 0 0 0,.sl 5 0 0 0] :: .box [.d x1,.sl 6 0 0 k,.sl 7 0 0 z] :: .arr cr 1 0 :: .arr [] 0 0 :: .arr [] 0 0 :: .vec (x3 8 d ++ x6 0) 1 0 :: .arr cs 1 0 :: x9 d) else gcO 1 m s (.box [.d y1,.d y2] :: .box [.d x0,.sl 4 0 0 0,.sl 5 0 0 0] :: .box [.d x1,.sl 6 0 0 k,.sl 7 0 0 z] :: .arr cr 1 g :: .arr [] 0 0 :: .arr [] 0 0 :: .vec (x3 8 d ++ x6 0) 1 0 :: .arr cs 1 0 :: (x9 d ++ p))
  | .no => ([],[]) := by
 simp only [box]
 split
 ·rename_i hc
  have hb := hc
  have hids : idsL (tidy m s) = [0,1,2,3] := by exact hb
  obtain ⟨h,hh⟩ : ∃ h : H,O.box [.d y1,.d y2] :: .box [.d x0,.sl 4 0 0 0,.sl 5 0 0 0] :: .box [.d x1,.sl 6 0 0 k,.sl 7 0 0 z] :: .arr cr 1 g :: .arr [] 0 0 :: .arr [] 0 0 :: .vec (x3 8 d ++ x6 0) 1 0 :: .arr cs 1 0 :: (x9 d ++ p) = h := ⟨_,rfl⟩
  conv => lhs; rw [hh]
  have g0 : h[0]? = some (.box [.d y1,.d y2]) := by rw [← hh]; rfl
  have g1 : h[1]? = some (.box [.d x0,.sl 4 0 0 0,.sl 5 0 0 0]) := by rw [← hh]; rfl
  have g2 : h[2]? = some (.box [.d x1,.sl 6 0 0 k,.sl 7 0 0 z]) := by rw [← hh]; rfl
  have g3 : h[3]? = some (.arr cr 1 g) := by rw [← hh]; rfl
  have g4 : h[4]? = some (.arr [] 0 0) := by rw [← hh]; rfl
  have g5 : h[5]? = some (.arr [] 0 0) := by rw [← hh]; rfl
  have g6 : h[6]? = some (.vec (x3 8 d ++ x6 0) 1 0) := by rw [← hh]; rfl
  have g7 : h[7]? = some (.arr cs 1 0) := by rw [← hh]; rfl
  have hD : h.drop 8 = x9 d ++ p := by rw [← hh]; rfl
  have gr := x8v 8 hD
  have k0 : kids h (0) = [] := by simp [kids,g0,idsL,idsA]
  have k1 : kids h (1) = [4,5] := by simp [kids,g1,idsL,idsA]
  have k2 : kids h (2) = [6,7] := by simp [kids,g2,idsL,idsA]
  have k3 : kids h (3) = [] := x1i g3
  have k4 : kids h (4) = [] := x1i g4
  have k5 : kids h (5) = [] := x1i g5
  have k6 : kids h (6) = List.range' 8 d.length := by simp [kids,g6,x1d,x2k,x3h,idsL,idsA]
  have leaf := x9o gr
  have hr : x4 x5 h [0,1,2,3] [] = [0,1,2,3,4,5,6] ++ ([7] ++ (List.range' 8 d.length ++ [])) := x7o (by simp [k0,k1,k2,k3,k4,k5,k6]) (by intro q hq; simp only [List.length_cons,List.length_nil] at hq; have : q = 0 ∨ q = 1 ∨ q = 2 ∨ q = 3 ∨ q = 4 ∨ q = 5 ∨ q = 6 := (by omega); rcases this with rfl | rfl | rfl | rfl | rfl | rfl | rfl <;> simp [k0,k1,k2,k3,k4,k5,k6]) leaf (by intro i hi; simp at hi; subst hi; exact ⟨_,_,_,by assumption⟩) (by intro i hi; simp at hi; rcases hi with rfl | rfl | rfl | rfl | rfl | rfl | rfl <;> exact ⟨_,by assumption,by simp⟩) (by simp <;> omega) (by intro i hi; simp at hi; omega) (by simp only [x5,List.length_cons,List.length_nil]; omega)
  generalize hord : [0,1,2,3,4,5,6] ++ ([7] ++ (List.range' 8 d.length ++ [])) = ord at hr
  have hA : ord = ([0,1,2,3,4,5,6] ++ [7]) ++ (List.range' 8 d.length ++ []) := by rw [← hord,List.append_assoc]
  have pk : ∀ i j,ord[j]? = some i → xa ord i = some j := fun i j h1 => x4i (by rw [← hr]; exact x2h x5 h _ [] (by simp)) h1
  have p0 := pk (0) 0 (by rw [← hord]; rfl)
  have p1 := pk (1) 1 (by rw [← hord]; rfl)
  have p2 := pk (2) 2 (by rw [← hord]; rfl)
  have p3 := pk (3) 3 (by rw [← hord]; rfl)
  have p4 := pk (4) 4 (by rw [← hord]; rfl)
  have p5 := pk (5) 5 (by rw [← hord]; rfl)
  have p6 := pk (6) 6 (by rw [← hord]; rfl)
  have p7 := pk (7) 7 (by rw [← hord]; rfl)
  have pr := x9q (C := 8) pk hA rfl
  obtain ⟨K,hK⟩ : ∃ K : H,O.box [.d y1,.d y2] :: .box [.d x0,.sl 4 0 0 0,.sl 5 0 0 0] :: .box [.d x1,.sl 6 0 0 k,.sl 7 0 0 z] :: .arr cr 1 g :: .arr [] 0 0 :: .arr [] 0 0 :: .vec (x3 8 d ++ x6 0) 1 0 :: .arr cs 1 0 :: x9 d = K := ⟨_,rfl⟩
  have hni : ∀ f,x7 f (x6 0) = x6 0 := fun _ => rfl
  have hpk : pack h ord = K := by
   have hrf : x7 (xa ord) (x3 8 d) = x3 8 d := x6f (c := 0) pr
   rw [xb9 hA gr,← hK]
   simp only [List.cons_append,List.nil_append,List.map_cons,List.map_nil,List.getD_eq_getElem?_getD,g0,g1,g2,g3,g4,g5,g6,g7,Option.getD_some,mapO,x7,mapA,x3v,hrf,hni,p0,p1,p2,p3,p4,p5,p6,p7,List.append_nil]
  have hKD : K.drop 8 = x9 d ++ [] := by rw [← hK]; exact (List.append_nil _).symm
  have hgr := xdf hKD
  have hcm : x3a 0 K = .box [.d y1,.d y2] :: .box [.d x0,.sl 4 0 0 0,.sl 5 0 0 0] :: .box [.d x1,.sl 6 0 0 k,.sl 7 0 0 z] :: .arr cr 1 0 :: .arr [] 0 0 :: .arr [] 0 0 :: .vec (x3 8 d ++ x6 0) 1 0 :: .arr cs 1 0 :: x9 d := by
   have hrf : xj 0 K (x3 8 d) = x3 8 d := x76 hgr
   have hnc : ∀ h : H,xj 0 h (x6 0) = x6 0 := fun _ => rfl
   have q3 : xx K 3 = some g := by rw [← hK]; rfl
   have q4 : xx K 4 = some 0 := by rw [← hK]; rfl
   have q5 : xx K 5 = some 0 := by rw [← hK]; rfl
   have q6 : xx K 6 = some 0 := by rw [← hK]; rfl
   have q7 : xx K 7 = some 0 := by rw [← hK]; rfl
   unfold x3a
   rw [x78]
   conv => lhs; arg 2; rw [← hK]
   simp only [List.map_cons,List.map_append,List.map_nil,x2r,xj,x1c,x7i,x63,hrf,hnc,x80,q3,q4,q5,q6,q7,Nat.not_lt_zero,if_false,if_true]
  subst hK
  rw [x14b hh hids,xyv (ord := ord) (by rw [hids]; exact hr),hpk,hcm]
  have hmp : x7 (xa ord) (tidy m s) = tidy m s := by
   apply x7a
   rw [hids]
   intro i hi
   simp only [List.mem_cons,List.not_mem_nil,or_false] at hi
   rcases hi with rfl | rfl | rfl | rfl
   ·exact p0
   ·exact p1
   ·exact p2
   ·exact p3
  rw [hmp]
 ·rfl
theorem x1kp {m : List Bool} {s : List A} {y1 y2 x0 x1 : D} {k z g : Nat} {cr cs : List D} {d : List (List Int)} (hl : d.length ≤ 4294967296) : gc 1 m s (.box [.d y1,.d y2] :: .box [.d x0,.sl 4 0 0 0,.sl 5 0 0 0] :: .box [.d x1,.sl 6 0 0 k,.sl 7 0 0 z] :: .arr cr 1 g :: .arr [] 0 0 :: .arr [] 0 0 :: .vec (x3 8 d ++ x6 0) 1 0 :: .arr cs 1 0 :: x9 d) = match box (tidy m s) with
  | .mk s1 => if idsL s1 = [0,1,2,3] then (xj 0 (.box [.d y1,.d y2] :: .box [.d x0,.sl 4 0 0 0,.sl 5 0 0 0] :: .box [.d x1,.sl 6 0 0 k,.sl 7 0 0 z] :: .arr cr 1 g :: .arr [] 0 0 :: .arr [] 0 0 :: .vec (x3 8 d ++ x6 0) 1 0 :: .arr cs 1 0 :: x9 d) (s1),.box [.d y1,.d y2] :: .box [.d x0,.sl 4 0 0 0,.sl 5 0 0 0] :: .box [.d x1,.sl 6 0 0 k,.sl 7 0 0 z] :: .arr cr 1 0 :: .arr [] 0 0 :: .arr [] 0 0 :: .vec (x3 8 d ++ x6 0) 1 0 :: .arr cs 1 0 :: x9 d) else gcO 1 m s (.box [.d y1,.d y2] :: .box [.d x0,.sl 4 0 0 0,.sl 5 0 0 0] :: .box [.d x1,.sl 6 0 0 k,.sl 7 0 0 z] :: .arr cr 1 g :: .arr [] 0 0 :: .arr [] 0 0 :: .vec (x3 8 d ++ x6 0) 1 0 :: .arr cs 1 0 :: x9 d)
  | .no => ([],[]) := by
 simp only [box]
 split
 ·rename_i hc
  have hb := hc
  have hids : idsL (tidy m s) = [0,1,2,3] := by exact hb
  obtain ⟨h,hh⟩ : ∃ h : H,O.box [.d y1,.d y2] :: .box [.d x0,.sl 4 0 0 0,.sl 5 0 0 0] :: .box [.d x1,.sl 6 0 0 k,.sl 7 0 0 z] :: .arr cr 1 g :: .arr [] 0 0 :: .arr [] 0 0 :: .vec (x3 8 d ++ x6 0) 1 0 :: .arr cs 1 0 :: x9 d = h := ⟨_,rfl⟩
  conv => lhs; rw [hh]
  have g0 : h[0]? = some (.box [.d y1,.d y2]) := by rw [← hh]; rfl
  have g1 : h[1]? = some (.box [.d x0,.sl 4 0 0 0,.sl 5 0 0 0]) := by rw [← hh]; rfl
  have g2 : h[2]? = some (.box [.d x1,.sl 6 0 0 k,.sl 7 0 0 z]) := by rw [← hh]; rfl
  have g3 : h[3]? = some (.arr cr 1 g) := by rw [← hh]; rfl
  have g4 : h[4]? = some (.arr [] 0 0) := by rw [← hh]; rfl
  have g5 : h[5]? = some (.arr [] 0 0) := by rw [← hh]; rfl
  have g6 : h[6]? = some (.vec (x3 8 d ++ x6 0) 1 0) := by rw [← hh]; rfl
  have g7 : h[7]? = some (.arr cs 1 0) := by rw [← hh]; rfl
  have hD : h.drop 8 = x9 d ++ [] := by rw [← hh]; exact (List.append_nil _).symm
  have gr := x8v 8 hD
  have k0 : kids h (0) = [] := by simp [kids,g0,idsL,idsA]
  have k1 : kids h (1) = [4,5] := by simp [kids,g1,idsL,idsA]
  have k2 : kids h (2) = [6,7] := by simp [kids,g2,idsL,idsA]
  have k3 : kids h (3) = [] := x1i g3
  have k4 : kids h (4) = [] := x1i g4
  have k5 : kids h (5) = [] := x1i g5
  have k6 : kids h (6) = List.range' 8 d.length := by simp [kids,g6,x1d,x2k,x3h,idsL,idsA]
  have leaf := x9o gr
  have hr : x4 x5 h [0,1,2,3] [] = [0,1,2,3,4,5,6] ++ ([7] ++ (List.range' 8 d.length ++ [])) := x7o (by simp [k0,k1,k2,k3,k4,k5,k6]) (by intro q hq; simp only [List.length_cons,List.length_nil] at hq; have : q = 0 ∨ q = 1 ∨ q = 2 ∨ q = 3 ∨ q = 4 ∨ q = 5 ∨ q = 6 := (by omega); rcases this with rfl | rfl | rfl | rfl | rfl | rfl | rfl <;> simp [k0,k1,k2,k3,k4,k5,k6]) leaf (by intro i hi; simp at hi; subst hi; exact ⟨_,_,_,by assumption⟩) (by intro i hi; simp at hi; rcases hi with rfl | rfl | rfl | rfl | rfl | rfl | rfl <;> exact ⟨_,by assumption,by simp⟩) (by simp <;> omega) (by intro i hi; simp at hi; omega) (by simp only [x5,List.length_cons,List.length_nil]; omega)
  generalize hord : [0,1,2,3,4,5,6] ++ ([7] ++ (List.range' 8 d.length ++ [])) = ord at hr
  have hA : ord = ([0,1,2,3,4,5,6] ++ [7]) ++ (List.range' 8 d.length ++ []) := by rw [← hord,List.append_assoc]
  have pk : ∀ i j,ord[j]? = some i → xa ord i = some j := fun i j h1 => x4i (by rw [← hr]; exact x2h x5 h _ [] (by simp)) h1
  have p0 := pk (0) 0 (by rw [← hord]; rfl)
  have p1 := pk (1) 1 (by rw [← hord]; rfl)
  have p2 := pk (2) 2 (by rw [← hord]; rfl)
  have p3 := pk (3) 3 (by rw [← hord]; rfl)
  have p4 := pk (4) 4 (by rw [← hord]; rfl)
  have p5 := pk (5) 5 (by rw [← hord]; rfl)
  have p6 := pk (6) 6 (by rw [← hord]; rfl)
  have p7 := pk (7) 7 (by rw [← hord]; rfl)
  have pr := x9q (C := 8) pk hA rfl
  obtain ⟨K,hK⟩ : ∃ K : H,O.box [.d y1,.d y2] :: .box [.d x0,.sl 4 0 0 0,.sl 5 0 0 0] :: .box [.d x1,.sl 6 0 0 k,.sl 7 0 0 z] :: .arr cr 1 g :: .arr [] 0 0 :: .arr [] 0 0 :: .vec (x3 8 d ++ x6 0) 1 0 :: .arr cs 1 0 :: x9 d = K := ⟨_,rfl⟩
  have hni : ∀ f,x7 f (x6 0) = x6 0 := fun _ => rfl
  have hpk : pack h ord = K := by
   have hrf : x7 (xa ord) (x3 8 d) = x3 8 d := x6f (c := 0) pr
   rw [xb9 hA gr,← hK]
   simp only [List.cons_append,List.nil_append,List.map_cons,List.map_nil,List.getD_eq_getElem?_getD,g0,g1,g2,g3,g4,g5,g6,g7,Option.getD_some,mapO,x7,mapA,x3v,hrf,hni,p0,p1,p2,p3,p4,p5,p6,p7,List.append_nil]
  have hKD : K.drop 8 = x9 d ++ [] := by rw [← hK]; exact (List.append_nil _).symm
  have hgr := xdf hKD
  have hcm : x3a 0 K = .box [.d y1,.d y2] :: .box [.d x0,.sl 4 0 0 0,.sl 5 0 0 0] :: .box [.d x1,.sl 6 0 0 k,.sl 7 0 0 z] :: .arr cr 1 0 :: .arr [] 0 0 :: .arr [] 0 0 :: .vec (x3 8 d ++ x6 0) 1 0 :: .arr cs 1 0 :: x9 d := by
   have hrf : xj 0 K (x3 8 d) = x3 8 d := x76 hgr
   have hnc : ∀ h : H,xj 0 h (x6 0) = x6 0 := fun _ => rfl
   have q3 : xx K 3 = some g := by rw [← hK]; rfl
   have q4 : xx K 4 = some 0 := by rw [← hK]; rfl
   have q5 : xx K 5 = some 0 := by rw [← hK]; rfl
   have q6 : xx K 6 = some 0 := by rw [← hK]; rfl
   have q7 : xx K 7 = some 0 := by rw [← hK]; rfl
   unfold x3a
   rw [x78]
   conv => lhs; arg 2; rw [← hK]
   simp only [List.map_cons,List.map_append,List.map_nil,x2r,xj,x1c,x7i,x63,hrf,hnc,x80,q3,q4,q5,q6,q7,Nat.not_lt_zero,if_false,if_true]
  subst hK
  rw [x14b hh hids,xyv (ord := ord) (by rw [hids]; exact hr),hpk,hcm]
  have hmp : x7 (xa ord) (tidy m s) = tidy m s := by
   apply x7a
   rw [hids]
   intro i hi
   simp only [List.mem_cons,List.not_mem_nil,or_false] at hi
   rcases hi with rfl | rfl | rfl | rfl
   ·exact p0
   ·exact p1
   ·exact p2
   ·exact p3
  rw [hmp]
 ·rfl
def xvs (n : Nat) (ids : List Nat) : Bool := decide (ids = [0,1,2,n + 7])
theorem x1kh {n : Nat} {ke0 : Nat} (he0 : ke0 = n + 7) : xvs n [0,1,2,ke0] = true := by subst he0; simp [xvs]
def x9w (n i : Nat) : Option Nat := if i = 0 then some 0 else if i = 1 then some 1 else if i = 2 then some 2 else if i = n + 7 then some 3 else none
theorem x14h {n : Nat} : x9w n 0 = some (0) := by unfold x9w; repeat (first | rfl | rw [if_pos rfl] | rw [if_neg (by omega)])
theorem x13v {n : Nat} : x9w n 1 = some (1) := by unfold x9w; repeat (first | rfl | rw [if_pos rfl] | rw [if_neg (by omega)])
theorem x12l {n : Nat} : x9w n 2 = some (2) := by unfold x9w; repeat (first | rfl | rw [if_pos rfl] | rw [if_neg (by omega)])
theorem x104 {n k : Nat} (h : k = n + 7) : x9w n k = some (3) := by subst h; unfold x9w; repeat (first | rfl | rw [if_pos rfl] | rw [if_neg (by omega)])
theorem x200 {m : List Bool} {s : List A} {y1 y2 x0 x1 : D} {k z : Nat} {cs : List D} {d : List (List Int)} {p : H} (hl : d.length ≤ 4294967296) : gc 1 m s (.box [.d y1,.d y2] :: .box [.d x0,.sl 3 0 0 0,.sl 4 0 0 0] :: .box [.d x1,.sl 5 0 0 k,.sl 6 0 0 z] :: .arr [] 0 0 :: .arr [] 0 0 :: .vec (x3 7 d ++ x6 0) 1 0 :: .arr cs 1 0 :: (x9 d ++ .arr [] 1 0 :: p)) = match box (tidy m s) with
  | .mk s1 => if xvs d.length (idsL s1) = true then (xj 0 (.box [.d y1,.d y2] :: .box [.d x0,.sl 4 0 0 0,.sl 5 0 0 0] :: .box [.d x1,.sl 6 0 0 k,.sl 7 0 0 z] :: .arr [] 1 0 :: .arr [] 0 0 :: .arr [] 0 0 :: .vec (x3 8 d ++ x6 0) 1 0 :: .arr cs 1 0 :: x9 d) (x7 (x9w d.length) s1),.box [.d y1,.d y2] :: .box [.d x0,.sl 4 0 0 0,.sl 5 0 0 0] :: .box [.d x1,.sl 6 0 0 k,.sl 7 0 0 z] :: .arr [] 1 0 :: .arr [] 0 0 :: .arr [] 0 0 :: .vec (x3 8 d ++ x6 0) 1 0 :: .arr cs 1 0 :: x9 d) else gcO 1 m s (.box [.d y1,.d y2] :: .box [.d x0,.sl 3 0 0 0,.sl 4 0 0 0] :: .box [.d x1,.sl 5 0 0 k,.sl 6 0 0 z] :: .arr [] 0 0 :: .arr [] 0 0 :: .vec (x3 7 d ++ x6 0) 1 0 :: .arr cs 1 0 :: (x9 d ++ .arr [] 1 0 :: p))
  | .no => ([],[]) := by
 simp only [box]
 split
 ·rename_i hc
  have hb := hc
  have hids : idsL (tidy m s) = [0,1,2,d.length + 7] := by simpa [xvs] using hb
  obtain ⟨h,hh⟩ : ∃ h : H,O.box [.d y1,.d y2] :: .box [.d x0,.sl 3 0 0 0,.sl 4 0 0 0] :: .box [.d x1,.sl 5 0 0 k,.sl 6 0 0 z] :: .arr [] 0 0 :: .arr [] 0 0 :: .vec (x3 7 d ++ x6 0) 1 0 :: .arr cs 1 0 :: (x9 d ++ .arr [] 1 0 :: p) = h := ⟨_,rfl⟩
  conv => lhs; rw [hh]
  have g0 : h[0]? = some (.box [.d y1,.d y2]) := by rw [← hh]; rfl
  have g1 : h[1]? = some (.box [.d x0,.sl 3 0 0 0,.sl 4 0 0 0]) := by rw [← hh]; rfl
  have g2 : h[2]? = some (.box [.d x1,.sl 5 0 0 k,.sl 6 0 0 z]) := by rw [← hh]; rfl
  have g3 : h[3]? = some (.arr [] 0 0) := by rw [← hh]; rfl
  have g4 : h[4]? = some (.arr [] 0 0) := by rw [← hh]; rfl
  have g5 : h[5]? = some (.vec (x3 7 d ++ x6 0) 1 0) := by rw [← hh]; rfl
  have g6 : h[6]? = some (.arr cs 1 0) := by rw [← hh]; rfl
  have hD : h.drop 7 = x9 d ++ (.arr [] 1 0 :: p) := by rw [← hh]; rfl
  have gr := x8v 7 hD
  have ge0 : h[d.length + 7]? = some (.arr [] 1 0) := xka 7 0 hD rfl (by omega)
  have k0 : kids h (0) = [] := by simp [kids,g0,idsL,idsA]
  have k1 : kids h (1) = [3,4] := by simp [kids,g1,idsL,idsA]
  have k2 : kids h (2) = [5,6] := by simp [kids,g2,idsL,idsA]
  have ke0 : kids h (d.length + 7) = [] := x1i ge0
  have k3 : kids h (3) = [] := x1i g3
  have k4 : kids h (4) = [] := x1i g4
  have k5 : kids h (5) = List.range' 7 d.length := by simp [kids,g5,x1d,x2k,x3h,idsL,idsA]
  have leaf := x9o gr
  have hr : x4 x5 h [0,1,2,d.length + 7] [] = [0,1,2,d.length + 7,3,4,5] ++ ([6] ++ (List.range' 7 d.length ++ [])) := x7o (by simp [k0,k1,k2,ke0,k3,k4,k5]) (by intro q hq; simp only [List.length_cons,List.length_nil] at hq; have : q = 0 ∨ q = 1 ∨ q = 2 ∨ q = 3 ∨ q = 4 ∨ q = 5 ∨ q = 6 := (by omega); rcases this with rfl | rfl | rfl | rfl | rfl | rfl | rfl <;> simp [k0,k1,k2,ke0,k3,k4,k5]) leaf (by intro i hi; simp at hi; subst hi; exact ⟨_,_,_,by assumption⟩) (by intro i hi; simp at hi; rcases hi with rfl | rfl | rfl | rfl | rfl | rfl | rfl <;> exact ⟨_,by assumption,by simp⟩) (by simp <;> omega) (by intro i hi; simp at hi; omega) (by simp only [x5,List.length_cons,List.length_nil]; omega)
  generalize hord : [0,1,2,d.length + 7,3,4,5] ++ ([6] ++ (List.range' 7 d.length ++ [])) = ord at hr
  have hA : ord = ([0,1,2,d.length + 7,3,4,5] ++ [6]) ++ (List.range' 7 d.length ++ []) := by rw [← hord,List.append_assoc]
  have pk : ∀ i j,ord[j]? = some i → xa ord i = some j := fun i j h1 => x4i (by rw [← hr]; exact x2h x5 h _ [] (by simp)) h1
  have p0 := pk (0) 0 (by rw [← hord]; rfl)
  have p1 := pk (1) 1 (by rw [← hord]; rfl)
  have p2 := pk (2) 2 (by rw [← hord]; rfl)
  have pe0 := pk (d.length + 7) 3 (by rw [← hord]; rfl)
  have p3 := pk (3) 4 (by rw [← hord]; rfl)
  have p4 := pk (4) 5 (by rw [← hord]; rfl)
  have p5 := pk (5) 6 (by rw [← hord]; rfl)
  have p6 := pk (6) 7 (by rw [← hord]; rfl)
  have pr := x9q (C := 8) pk hA rfl
  obtain ⟨K,hK⟩ : ∃ K : H,O.box [.d y1,.d y2] :: .box [.d x0,.sl 4 0 0 0,.sl 5 0 0 0] :: .box [.d x1,.sl 6 0 0 k,.sl 7 0 0 z] :: .arr [] 1 0 :: .arr [] 0 0 :: .arr [] 0 0 :: .vec (x3 8 d ++ x6 0) 1 0 :: .arr cs 1 0 :: x9 d = K := ⟨_,rfl⟩
  have hni : ∀ f,x7 f (x6 0) = x6 0 := fun _ => rfl
  have hpk : pack h ord = K := by
   have hrf : x7 (xa ord) (x3 7 d) = x3 8 d := x6f (c := 0) pr
   rw [xb9 hA gr,← hK]
   simp only [List.cons_append,List.nil_append,List.map_cons,List.map_nil,List.getD_eq_getElem?_getD,g0,g1,g2,ge0,g3,g4,g5,g6,Option.getD_some,mapO,x7,mapA,x3v,hrf,hni,p0,p1,p2,pe0,p3,p4,p5,p6,List.append_nil]
  have hKD : K.drop 8 = x9 d ++ [] := by rw [← hK]; exact (List.append_nil _).symm
  have hgr := xdf hKD
  have hcm : x3a 0 K = .box [.d y1,.d y2] :: .box [.d x0,.sl 4 0 0 0,.sl 5 0 0 0] :: .box [.d x1,.sl 6 0 0 k,.sl 7 0 0 z] :: .arr [] 1 0 :: .arr [] 0 0 :: .arr [] 0 0 :: .vec (x3 8 d ++ x6 0) 1 0 :: .arr cs 1 0 :: x9 d := by
   have hrf : xj 0 K (x3 8 d) = x3 8 d := x76 hgr
   have hnc : ∀ h : H,xj 0 h (x6 0) = x6 0 := fun _ => rfl
   have q3 : xx K 3 = some 0 := by rw [← hK]; rfl
   have q4 : xx K 4 = some 0 := by rw [← hK]; rfl
   have q5 : xx K 5 = some 0 := by rw [← hK]; rfl
   have q6 : xx K 6 = some 0 := by rw [← hK]; rfl
   have q7 : xx K 7 = some 0 := by rw [← hK]; rfl
   unfold x3a
   rw [x78]
   conv => lhs; arg 2; rw [← hK]
   simp only [List.map_cons,List.map_append,List.map_nil,x2r,xj,x1c,x7i,x63,hrf,hnc,x80,q3,q4,q5,q6,q7,Nat.not_lt_zero,if_false,if_true]
  subst hK
  rw [x14b hh hids,xyv (ord := ord) (by rw [hids]; exact hr),hpk,hcm]
  have hmp : x7 (xa ord) (tidy m s) = x7 (x9w d.length) (tidy m s) := by
   apply xaz
   rw [hids]
   intro i hi
   simp only [List.mem_cons,List.not_mem_nil,or_false] at hi
   rcases hi with rfl | rfl | rfl | rfl
   ·rw [p0,x14h]
   ·rw [p1,x13v]
   ·rw [p2,x12l]
   ·rw [pe0,x104 rfl]
  rw [hmp]
 ·rfl
def xk4 (n : Nat) : List Nat := [0,5,6] ++ (List.range' 7 n ++ [])
def xs6 (n i : Nat) : Option Nat := if i = 0 then some 0 else if i = 5 then some 1 else if i = 6 then some 2 else none
theorem x1ee {n : Nat} : xs6 n 5 = some (1) := by unfold xs6; repeat (first | rfl | rw [if_pos rfl] | rw [if_neg (by omega)])
theorem x1fx {n : Nat} : xs6 n 6 = some (2) := by unfold xs6; repeat (first | rfl | rw [if_pos rfl] | rw [if_neg (by omega)])
theorem x1t7 {y1 y2 : D} {x0 x1 o3 o4 : O} {cs : List D} {d : List (List Int)} (hl : d.length ≤ 4294967296) {ids : List Nat} : x4c 1 (.box [.d y1,.d y2] :: x0 :: x1 :: o3 :: o4 :: .vec (x3 7 d ++ x6 0) 1 0 :: .arr cs 1 0 :: x9 d) ids = if ids = [5,6] then xk4 d.length else x1xp 1 (.box [.d y1,.d y2] :: x0 :: x1 :: o3 :: o4 :: .vec (x3 7 d ++ x6 0) 1 0 :: .arr cs 1 0 :: x9 d) ids := by
 split
 ·rename_i hc
  subst hc
  rw [x1j3]
  obtain ⟨h,hh⟩ : ∃ h : H,O.box [.d y1,.d y2] :: x0 :: x1 :: o3 :: o4 :: .vec (x3 7 d ++ x6 0) 1 0 :: .arr cs 1 0 :: x9 d = h := ⟨_,rfl⟩
  conv => lhs; rw [hh]
  have g0 : h[0]? = some (.box [.d y1,.d y2]) := by rw [← hh]; rfl
  have g5 : h[5]? = some (.vec (x3 7 d ++ x6 0) 1 0) := by rw [← hh]; rfl
  have g6 : h[6]? = some (.arr cs 1 0) := by rw [← hh]; rfl
  have hD : h.drop 7 = x9 d ++ [] := by rw [← hh]; exact (List.append_nil _).symm
  have gr := x8v 7 hD
  have k0 : kids h (0) = [] := by simp [kids,g0,idsL,idsA]
  have k5 : kids h (5) = List.range' 7 d.length := by simp [kids,g5,x1d,x2k,x3h,idsL,idsA]
  have leaf := x9o gr
  have hr : x4 (x5 + 1) h [0,5,6] [] = [0,5] ++ ([6] ++ (List.range' 7 d.length ++ [])) := x7o (by simp [k0,k5]) (by intro q hq; simp only [List.length_cons,List.length_nil] at hq; have : q = 0 ∨ q = 1 := (by omega); rcases this with rfl | rfl <;> simp [k0,k5]) leaf (by intro i hi; simp at hi; subst hi; exact ⟨_,_,_,by assumption⟩) (by intro i hi; simp at hi; rcases hi with rfl | rfl <;> exact ⟨_,by assumption,by simp⟩) (by simp <;> omega) (by intro i hi; simp at hi; omega) (by simp only [x5,List.length_cons,List.length_nil]; omega)
  generalize hord : [0,5] ++ ([6] ++ (List.range' 7 d.length ++ [])) = ord at hr
  rw [hr,← hord]
  rfl
 ·rfl
theorem x1to {y1 y2 : D} {x0 x1 o3 o4 : O} {cs : List D} {d : List (List Int)} (hl : d.length ≤ 4294967296) {s : List A} : trim 1 (.box [.d y1,.d y2] :: x0 :: x1 :: o3 :: o4 :: .vec (x3 7 d ++ x6 0) 1 0 :: .arr cs 1 0 :: x9 d) (xk4 d.length) s = if idsL s = [5,6] ∧ z0As s = true then (x7 (xs6 d.length) s,.box [.d y1,.d y2] :: .vec (x3 3 d ++ x6 0) 1 0 :: .arr cs 1 0 :: x9 d) else x1y7 1 (.box [.d y1,.d y2] :: x0 :: x1 :: o3 :: o4 :: .vec (x3 7 d ++ x6 0) 1 0 :: .arr cs 1 0 :: x9 d) (xk4 d.length) s := by
 split
 ·rename_i hc
  obtain ⟨hids,hz⟩ := hc
  rw [show xk4 d.length = 0 :: (xk4 d.length).tail from rfl,x1dh,show (0 :: (xk4 d.length).tail) = xk4 d.length from rfl]
  obtain ⟨h,hh⟩ : ∃ h : H,O.box [.d y1,.d y2] :: x0 :: x1 :: o3 :: o4 :: .vec (x3 7 d ++ x6 0) 1 0 :: .arr cs 1 0 :: x9 d = h := ⟨_,rfl⟩
  conv => lhs; rw [hh]
  have g0 : h[0]? = some (.box [.d y1,.d y2]) := by rw [← hh]; rfl
  have g5 : h[5]? = some (.vec (x3 7 d ++ x6 0) 1 0) := by rw [← hh]; rfl
  have g6 : h[6]? = some (.arr cs 1 0) := by rw [← hh]; rfl
  have hD : h.drop 7 = x9 d ++ [] := by rw [← hh]; exact (List.append_nil _).symm
  have gr := x8v 7 hD
  have k0 : kids h (0) = [] := by simp [kids,g0,idsL,idsA]
  have k5 : kids h (5) = List.range' 7 d.length := by simp [kids,g5,x1d,x2k,x3h,idsL,idsA]
  have leaf := x9o gr
  have hr : x4 x5 h [0,5,6] [] = [0,5] ++ ([6] ++ (List.range' 7 d.length ++ [])) := x7o (by simp [k0,k5]) (by intro q hq; simp only [List.length_cons,List.length_nil] at hq; have : q = 0 ∨ q = 1 := (by omega); rcases this with rfl | rfl <;> simp [k0,k5]) leaf (by intro i hi; simp at hi; subst hi; exact ⟨_,_,_,by assumption⟩) (by intro i hi; simp at hi; rcases hi with rfl | rfl <;> exact ⟨_,by assumption,by simp⟩) (by simp <;> omega) (by intro i hi; simp at hi; omega) (by simp only [x5,List.length_cons,List.length_nil]; omega)
  generalize hord : [0,5] ++ ([6] ++ (List.range' 7 d.length ++ [])) = ord at hr
  have hA : ord = ([0,5] ++ [6]) ++ (List.range' 7 d.length ++ []) := by rw [← hord,List.append_assoc]
  have pk : ∀ i j,ord[j]? = some i → xa ord i = some j := fun i j h1 => x4i (by rw [← hr]; exact x2h x5 h _ [] (by simp)) h1
  have p0 := pk (0) 0 (by rw [← hord]; rfl)
  have p5 := pk (5) 1 (by rw [← hord]; rfl)
  have p6 := pk (6) 2 (by rw [← hord]; rfl)
  have pr := x9q (C := 3) pk hA rfl
  obtain ⟨K,hK⟩ : ∃ K : H,O.box [.d y1,.d y2] :: .vec (x3 3 d ++ x6 0) 1 0 :: .arr cs 1 0 :: x9 d = K := ⟨_,rfl⟩
  have hni : ∀ f,x7 f (x6 0) = x6 0 := fun _ => rfl
  have hpk : pack h ord = K := by
   have hrf : x7 (xa ord) (x3 7 d) = x3 3 d := x6f (c := 0) pr
   rw [xb9 hA gr,← hK]
   simp only [List.cons_append,List.nil_append,List.map_cons,List.map_nil,List.getD_eq_getElem?_getD,g0,g5,g6,Option.getD_some,mapO,x7,mapA,x3v,hrf,hni,p0,p5,p6,List.append_nil]
  have hKD : K.drop 3 = x9 d ++ [] := by rw [← hK]; exact (List.append_nil _).symm
  have hgr := xdf hKD
  have hcm : x3a 0 K = .box [.d y1,.d y2] :: .vec (x3 3 d ++ x6 0) 1 0 :: .arr cs 1 0 :: x9 d := by
   have hrf : xj 0 K (x3 3 d) = x3 3 d := x76 hgr
   have hnc : ∀ h : H,xj 0 h (x6 0) = x6 0 := fun _ => rfl
   have q1 : xx K 1 = some 0 := by rw [← hK]; rfl
   have q2 : xx K 2 = some 0 := by rw [← hK]; rfl
   unfold x3a
   rw [x78]
   conv => lhs; arg 2; rw [← hK]
   simp only [List.map_cons,List.map_append,List.map_nil,x2r,xj,x1c,x7i,x63,hrf,hnc,x80,q1,q2,Nat.not_lt_zero,if_false,if_true]
  subst hK
  have hoo : xk4 d.length = ord := by rw [← hord]; rfl
  unfold trim
  rw [hoo,hpk,hcm]
  have hz2 : xj 0 (O.box [.d y1,.d y2] :: .vec (x3 3 d ++ x6 0) 1 0 :: .arr cs 1 0 :: x9 d) (x7 (xa ord) s) = x7 (xa ord) s := by
   exact xaw (xto (by simp [z0O,z0As,z0A,xo0,xki,xk7,xtj])) _ (xm2 _ hz)
  have hmp : x7 (xa ord) s = x7 (xs6 d.length) s := by
   apply xaz
   rw [hids]
   intro i hi
   simp only [List.mem_cons,List.not_mem_nil,or_false] at hi
   rcases hi with rfl | rfl
   ·rw [p5,x1ee]
   ·rw [p6,x1fx]
  rw [hz2,hmp]
 ·rfl
theorem x21n {m : List Bool} {s : List A} {a1 a2 a3 x0 x1 : D} {k z : Nat} {r : List Int} {cs : List D} {d : List (List Int)} {p : H} (hl : d.length ≤ 4294967296) : gc 0 m s (.box [.d a1,.d a2,.d a3] :: .box [.d x0,.sl 3 0 0 0,.sl 4 0 0 0] :: .box [.d x1,.sl 5 1 0 k,.sl 6 0 0 z] :: .arr [] 0 0 :: .arr [] 0 0 :: .vec (x3 7 d ++ [.sl (d.length + 7) 1 0 r.length]) 1 1 :: .arr cs 1 0 :: (x9 d ++ .arr (ints r) 1 1 :: p)) = match box (tidy m s) with
  | .mk s1 => if idsL s1 = [0,1,2] then (xj 0 (.box [.d a1,.d a2,.d a3] :: .box [.d x0,.sl 3 0 0 0,.sl 4 0 0 0] :: .box [.d x1,.sl 5 1 0 k,.sl 6 0 0 z] :: .arr [] 0 0 :: .arr [] 0 0 :: .vec (x3 7 d ++ [.sl (d.length + 7) 1 0 r.length]) 1 1 :: .arr cs 1 0 :: (x9 d ++ [.arr (ints r) 1 1])) (s1),.box [.d a1,.d a2,.d a3] :: .box [.d x0,.sl 3 0 0 0,.sl 4 0 0 0] :: .box [.d x1,.sl 5 0 0 k,.sl 6 0 0 z] :: .arr [] 0 0 :: .arr [] 0 0 :: .vec (x3 7 d ++ [.sl (d.length + 7) 0 0 r.length]) 1 0 :: .arr cs 1 0 :: (x9 d ++ [.arr (ints r) 1 0])) else gcO 0 m s (.box [.d a1,.d a2,.d a3] :: .box [.d x0,.sl 3 0 0 0,.sl 4 0 0 0] :: .box [.d x1,.sl 5 1 0 k,.sl 6 0 0 z] :: .arr [] 0 0 :: .arr [] 0 0 :: .vec (x3 7 d ++ [.sl (d.length + 7) 1 0 r.length]) 1 1 :: .arr cs 1 0 :: (x9 d ++ .arr (ints r) 1 1 :: p))
  | .no => ([],[]) := by
 simp only [box]
 split
 ·rename_i hc
  have hb := hc
  have hids : idsL (tidy m s) = [0,1,2] := by exact hb
  obtain ⟨h,hh⟩ : ∃ h : H,O.box [.d a1,.d a2,.d a3] :: .box [.d x0,.sl 3 0 0 0,.sl 4 0 0 0] :: .box [.d x1,.sl 5 1 0 k,.sl 6 0 0 z] :: .arr [] 0 0 :: .arr [] 0 0 :: .vec (x3 7 d ++ [.sl (d.length + 7) 1 0 r.length]) 1 1 :: .arr cs 1 0 :: (x9 d ++ .arr (ints r) 1 1 :: p) = h := ⟨_,rfl⟩
  conv => lhs; rw [hh]
  have g0 : h[0]? = some (.box [.d a1,.d a2,.d a3]) := by rw [← hh]; rfl
  have g1 : h[1]? = some (.box [.d x0,.sl 3 0 0 0,.sl 4 0 0 0]) := by rw [← hh]; rfl
  have g2 : h[2]? = some (.box [.d x1,.sl 5 1 0 k,.sl 6 0 0 z]) := by rw [← hh]; rfl
  have g3 : h[3]? = some (.arr [] 0 0) := by rw [← hh]; rfl
  have g4 : h[4]? = some (.arr [] 0 0) := by rw [← hh]; rfl
  have g5 : h[5]? = some (.vec (x3 7 d ++ [.sl (d.length + 7) 1 0 r.length]) 1 1) := by rw [← hh]; rfl
  have g6 : h[6]? = some (.arr cs 1 0) := by rw [← hh]; rfl
  have hD : h.drop 7 = x9 d ++ (.arr (ints r) 1 1 :: p) := by rw [← hh]; rfl
  have gr := x8v 7 hD
  have ge0 : h[d.length + 7]? = some (.arr (ints r) 1 1) := xka 7 0 hD rfl (by omega)
  have k0 : kids h (0) = [] := by simp [kids,g0,idsL,idsA]
  have k1 : kids h (1) = [3,4] := by simp [kids,g1,idsL,idsA]
  have k2 : kids h (2) = [5,6] := by simp [kids,g2,idsL,idsA]
  have k3 : kids h (3) = [] := x1i g3
  have k4 : kids h (4) = [] := x1i g4
  have k5 : kids h (5) = List.range' 7 d.length ++ [d.length + 7] := by simp [kids,g5,x1d,x2k,x3h,idsL,idsA]
  have leaf := x9o gr
  have hr : x4 x5 h [0,1,2] [] = [0,1,2,3,4,5] ++ ([6] ++ (List.range' 7 d.length ++ [d.length + 7])) := x7o (by simp [k0,k1,k2,k3,k4,k5]) (by intro q hq; simp only [List.length_cons,List.length_nil] at hq; have : q = 0 ∨ q = 1 ∨ q = 2 ∨ q = 3 ∨ q = 4 ∨ q = 5 := (by omega); rcases this with rfl | rfl | rfl | rfl | rfl | rfl <;> simp [k0,k1,k2,k3,k4,k5]) leaf (by intro i hi; simp at hi; rcases hi with rfl | rfl <;> exact ⟨_,_,_,by assumption⟩) (by intro i hi; simp at hi; rcases hi with rfl | rfl | rfl | rfl | rfl | rfl <;> exact ⟨_,by assumption,by simp⟩) (by simp <;> omega) (by intro i hi; simp at hi; omega) (by simp only [x5,List.length_cons,List.length_nil]; omega)
  generalize hord : [0,1,2,3,4,5] ++ ([6] ++ (List.range' 7 d.length ++ [d.length + 7])) = ord at hr
  have hA : ord = ([0,1,2,3,4,5] ++ [6]) ++ (List.range' 7 d.length ++ [d.length + 7]) := by rw [← hord,List.append_assoc]
  have pk : ∀ i j,ord[j]? = some i → xa ord i = some j := fun i j h1 => x4i (by rw [← hr]; exact x2h x5 h _ [] (by simp)) h1
  have p0 := pk (0) 0 (by rw [← hord]; rfl)
  have p1 := pk (1) 1 (by rw [← hord]; rfl)
  have p2 := pk (2) 2 (by rw [← hord]; rfl)
  have p3 := pk (3) 3 (by rw [← hord]; rfl)
  have p4 := pk (4) 4 (by rw [← hord]; rfl)
  have p5 := pk (5) 5 (by rw [← hord]; rfl)
  have p6 := pk (6) 6 (by rw [← hord]; rfl)
  have pr := x9q (C := 7) pk hA rfl
  have pe0 := x13p (C := 7) pk hA rfl 0 (i := d.length + 7) (j := d.length + 7) rfl (by omega)
  obtain ⟨K,hK⟩ : ∃ K : H,O.box [.d a1,.d a2,.d a3] :: .box [.d x0,.sl 3 0 0 0,.sl 4 0 0 0] :: .box [.d x1,.sl 5 1 0 k,.sl 6 0 0 z] :: .arr [] 0 0 :: .arr [] 0 0 :: .vec (x3 7 d ++ [.sl (d.length + 7) 1 0 r.length]) 1 1 :: .arr cs 1 0 :: (x9 d ++ [.arr (ints r) 1 1]) = K := ⟨_,rfl⟩
  have hni : ∀ f,x7 f (x6 0) = x6 0 := fun _ => rfl
  have hpk : pack h ord = K := by
   have hrf : x7 (xa ord) (x3 7 d) = x3 7 d := x6f (c := 0) pr
   rw [xb9 hA gr,← hK]
   simp only [List.cons_append,List.nil_append,List.map_cons,List.map_nil,List.getD_eq_getElem?_getD,g0,g1,g2,g3,g4,g5,g6,ge0,Option.getD_some,mapO,x7,mapA,x3v,hrf,hni,p0,p1,p2,p3,p4,p5,p6,pe0,List.append_nil]
  have hKD : K.drop 7 = x9 d ++ [.arr (ints r) 1 1] := by rw [← hK]; rfl
  have hgr := xdf hKD
  have hge0 : xx K (d.length + 7) = some 1 := by simp only [xx,xka 7 0 hKD rfl (j := d.length + 7) (by omega)]
  have hcm : x3a 0 K = .box [.d a1,.d a2,.d a3] :: .box [.d x0,.sl 3 0 0 0,.sl 4 0 0 0] :: .box [.d x1,.sl 5 0 0 k,.sl 6 0 0 z] :: .arr [] 0 0 :: .arr [] 0 0 :: .vec (x3 7 d ++ [.sl (d.length + 7) 0 0 r.length]) 1 0 :: .arr cs 1 0 :: (x9 d ++ [.arr (ints r) 1 0]) := by
   have hrf : xj 0 K (x3 7 d) = x3 7 d := x76 hgr
   have hnc : ∀ h : H,xj 0 h (x6 0) = x6 0 := fun _ => rfl
   have q3 : xx K 3 = some 0 := by rw [← hK]; rfl
   have q4 : xx K 4 = some 0 := by rw [← hK]; rfl
   have q5 : xx K 5 = some 1 := by rw [← hK]; rfl
   have q6 : xx K 6 = some 0 := by rw [← hK]; rfl
   unfold x3a
   rw [x78]
   conv => lhs; arg 2; rw [← hK]
   simp only [List.map_cons,List.map_append,List.map_nil,x2r,xj,x1c,x7i,x63,hrf,hnc,x80,q3,q4,q5,q6,hge0,Nat.not_lt_zero,if_false,if_true]
  subst hK
  rw [xyv (ord := ord) (by rw [hids]; exact hr),hpk,hcm]
  have hmp : x7 (xa ord) (tidy m s) = tidy m s := by
   apply x7a
   rw [hids]
   intro i hi
   simp only [List.mem_cons,List.not_mem_nil,or_false] at hi
   rcases hi with rfl | rfl | rfl
   ·exact p0
   ·exact p1
   ·exact p2
  rw [hmp]
 ·rfl
theorem x21j {m : List Bool} {s : List A} {a1 a2 a3 x0 x1 : D} {k z : Nat} {cs : List D} {d : List (List Int)} (hl : d.length ≤ 4294967296) : gc 0 m s (.box [.d a1,.d a2,.d a3] :: .box [.d x0,.sl 3 0 0 0,.sl 4 0 0 0] :: .box [.d x1,.sl 5 0 0 k,.sl 6 0 0 z] :: .arr [] 0 0 :: .arr [] 0 0 :: .vec (x3 7 d ++ x6 0) 1 0 :: .arr cs 1 0 :: x9 d) = match box (tidy m s) with
  | .mk s1 => if idsL s1 = [0,1,2] then (xj 0 (.box [.d a1,.d a2,.d a3] :: .box [.d x0,.sl 3 0 0 0,.sl 4 0 0 0] :: .box [.d x1,.sl 5 0 0 k,.sl 6 0 0 z] :: .arr [] 0 0 :: .arr [] 0 0 :: .vec (x3 7 d ++ x6 0) 1 0 :: .arr cs 1 0 :: x9 d) (s1),.box [.d a1,.d a2,.d a3] :: .box [.d x0,.sl 3 0 0 0,.sl 4 0 0 0] :: .box [.d x1,.sl 5 0 0 k,.sl 6 0 0 z] :: .arr [] 0 0 :: .arr [] 0 0 :: .vec (x3 7 d ++ x6 0) 1 0 :: .arr cs 1 0 :: x9 d) else gcO 0 m s (.box [.d a1,.d a2,.d a3] :: .box [.d x0,.sl 3 0 0 0,.sl 4 0 0 0] :: .box [.d x1,.sl 5 0 0 k,.sl 6 0 0 z] :: .arr [] 0 0 :: .arr [] 0 0 :: .vec (x3 7 d ++ x6 0) 1 0 :: .arr cs 1 0 :: x9 d)
  | .no => ([],[]) := by
 simp only [box]
 split
 ·rename_i hc
  have hb := hc
  have hids : idsL (tidy m s) = [0,1,2] := by exact hb
  obtain ⟨h,hh⟩ : ∃ h : H,O.box [.d a1,.d a2,.d a3] :: .box [.d x0,.sl 3 0 0 0,.sl 4 0 0 0] :: .box [.d x1,.sl 5 0 0 k,.sl 6 0 0 z] :: .arr [] 0 0 :: .arr [] 0 0 :: .vec (x3 7 d ++ x6 0) 1 0 :: .arr cs 1 0 :: x9 d = h := ⟨_,rfl⟩
  conv => lhs; rw [hh]
  have g0 : h[0]? = some (.box [.d a1,.d a2,.d a3]) := by rw [← hh]; rfl
  have g1 : h[1]? = some (.box [.d x0,.sl 3 0 0 0,.sl 4 0 0 0]) := by rw [← hh]; rfl
  have g2 : h[2]? = some (.box [.d x1,.sl 5 0 0 k,.sl 6 0 0 z]) := by rw [← hh]; rfl
  have g3 : h[3]? = some (.arr [] 0 0) := by rw [← hh]; rfl
  have g4 : h[4]? = some (.arr [] 0 0) := by rw [← hh]; rfl
  have g5 : h[5]? = some (.vec (x3 7 d ++ x6 0) 1 0) := by rw [← hh]; rfl
  have g6 : h[6]? = some (.arr cs 1 0) := by rw [← hh]; rfl
  have hD : h.drop 7 = x9 d ++ [] := by rw [← hh]; exact (List.append_nil _).symm
  have gr := x8v 7 hD
  have k0 : kids h (0) = [] := by simp [kids,g0,idsL,idsA]
  have k1 : kids h (1) = [3,4] := by simp [kids,g1,idsL,idsA]
  have k2 : kids h (2) = [5,6] := by simp [kids,g2,idsL,idsA]
  have k3 : kids h (3) = [] := x1i g3
  have k4 : kids h (4) = [] := x1i g4
  have k5 : kids h (5) = List.range' 7 d.length := by simp [kids,g5,x1d,x2k,x3h,idsL,idsA]
  have leaf := x9o gr
  have hr : x4 x5 h [0,1,2] [] = [0,1,2,3,4,5] ++ ([6] ++ (List.range' 7 d.length ++ [])) := x7o (by simp [k0,k1,k2,k3,k4,k5]) (by intro q hq; simp only [List.length_cons,List.length_nil] at hq; have : q = 0 ∨ q = 1 ∨ q = 2 ∨ q = 3 ∨ q = 4 ∨ q = 5 := (by omega); rcases this with rfl | rfl | rfl | rfl | rfl | rfl <;> simp [k0,k1,k2,k3,k4,k5]) leaf (by intro i hi; simp at hi; subst hi; exact ⟨_,_,_,by assumption⟩) (by intro i hi; simp at hi; rcases hi with rfl | rfl | rfl | rfl | rfl | rfl <;> exact ⟨_,by assumption,by simp⟩) (by simp <;> omega) (by intro i hi; simp at hi; omega) (by simp only [x5,List.length_cons,List.length_nil]; omega)
  generalize hord : [0,1,2,3,4,5] ++ ([6] ++ (List.range' 7 d.length ++ [])) = ord at hr
  have hA : ord = ([0,1,2,3,4,5] ++ [6]) ++ (List.range' 7 d.length ++ []) := by rw [← hord,List.append_assoc]
  have pk : ∀ i j,ord[j]? = some i → xa ord i = some j := fun i j h1 => x4i (by rw [← hr]; exact x2h x5 h _ [] (by simp)) h1
  have p0 := pk (0) 0 (by rw [← hord]; rfl)
  have p1 := pk (1) 1 (by rw [← hord]; rfl)
  have p2 := pk (2) 2 (by rw [← hord]; rfl)
  have p3 := pk (3) 3 (by rw [← hord]; rfl)
  have p4 := pk (4) 4 (by rw [← hord]; rfl)
  have p5 := pk (5) 5 (by rw [← hord]; rfl)
  have p6 := pk (6) 6 (by rw [← hord]; rfl)
  have pr := x9q (C := 7) pk hA rfl
  obtain ⟨K,hK⟩ : ∃ K : H,O.box [.d a1,.d a2,.d a3] :: .box [.d x0,.sl 3 0 0 0,.sl 4 0 0 0] :: .box [.d x1,.sl 5 0 0 k,.sl 6 0 0 z] :: .arr [] 0 0 :: .arr [] 0 0 :: .vec (x3 7 d ++ x6 0) 1 0 :: .arr cs 1 0 :: x9 d = K := ⟨_,rfl⟩
  have hni : ∀ f,x7 f (x6 0) = x6 0 := fun _ => rfl
  have hpk : pack h ord = K := by
   have hrf : x7 (xa ord) (x3 7 d) = x3 7 d := x6f (c := 0) pr
   rw [xb9 hA gr,← hK]
   simp only [List.cons_append,List.nil_append,List.map_cons,List.map_nil,List.getD_eq_getElem?_getD,g0,g1,g2,g3,g4,g5,g6,Option.getD_some,mapO,x7,mapA,x3v,hrf,hni,p0,p1,p2,p3,p4,p5,p6,List.append_nil]
  have hKD : K.drop 7 = x9 d ++ [] := by rw [← hK]; exact (List.append_nil _).symm
  have hgr := xdf hKD
  have hcm : x3a 0 K = .box [.d a1,.d a2,.d a3] :: .box [.d x0,.sl 3 0 0 0,.sl 4 0 0 0] :: .box [.d x1,.sl 5 0 0 k,.sl 6 0 0 z] :: .arr [] 0 0 :: .arr [] 0 0 :: .vec (x3 7 d ++ x6 0) 1 0 :: .arr cs 1 0 :: x9 d := by
   have hrf : xj 0 K (x3 7 d) = x3 7 d := x76 hgr
   have hnc : ∀ h : H,xj 0 h (x6 0) = x6 0 := fun _ => rfl
   have q3 : xx K 3 = some 0 := by rw [← hK]; rfl
   have q4 : xx K 4 = some 0 := by rw [← hK]; rfl
   have q5 : xx K 5 = some 0 := by rw [← hK]; rfl
   have q6 : xx K 6 = some 0 := by rw [← hK]; rfl
   unfold x3a
   rw [x78]
   conv => lhs; arg 2; rw [← hK]
   simp only [List.map_cons,List.map_append,List.map_nil,x2r,xj,x1c,x7i,x63,hrf,hnc,x80,q3,q4,q5,q6,Nat.not_lt_zero,if_false,if_true]
  subst hK
  rw [xyv (ord := ord) (by rw [hids]; exact hr),hpk,hcm]
  have hmp : x7 (xa ord) (tidy m s) = tidy m s := by
   apply x7a
   rw [hids]
   intro i hi
   simp only [List.mem_cons,List.not_mem_nil,or_false] at hi
   rcases hi with rfl | rfl | rfl
   ·exact p0
   ·exact p1
   ·exact p2
  rw [hmp]
 ·rfl
def x15f (n : Nat) : List Nat := [5,6] ++ (List.range' 7 n ++ [])
def xs8 (n i : Nat) : Option Nat := if i = 5 then some 0 else if i = 6 then some 1 else none
theorem x1fh {n : Nat} : xs8 n 5 = some (0) := by unfold xs8; repeat (first | rfl | rw [if_pos rfl] | rw [if_neg (by omega)])
theorem x1ge {n : Nat} : xs8 n 6 = some (1) := by unfold xs8; repeat (first | rfl | rw [if_pos rfl] | rw [if_neg (by omega)])
theorem x1v7 {o0 x0 x1 : O} {o3 o4 : O} {cs : List D} {d : List (List Int)} (hl : d.length ≤ 4294967296) {ids : List Nat} : x4c 0 (o0 :: x0 :: x1 :: o3 :: o4 :: .vec (x3 7 d ++ x6 0) 1 0 :: .arr cs 1 0 :: x9 d) ids = if ids = [5,6] then x15f d.length else x1xp 0 (o0 :: x0 :: x1 :: o3 :: o4 :: .vec (x3 7 d ++ x6 0) 1 0 :: .arr cs 1 0 :: x9 d) ids := by
 split
 ·rename_i hc
  subst hc
  obtain ⟨h,hh⟩ : ∃ h : H,o0 :: x0 :: x1 :: o3 :: o4 :: .vec (x3 7 d ++ x6 0) 1 0 :: .arr cs 1 0 :: x9 d = h := ⟨_,rfl⟩
  conv => lhs; rw [hh]
  have g5 : h[5]? = some (.vec (x3 7 d ++ x6 0) 1 0) := by rw [← hh]; rfl
  have g6 : h[6]? = some (.arr cs 1 0) := by rw [← hh]; rfl
  have hD : h.drop 7 = x9 d ++ [] := by rw [← hh]; exact (List.append_nil _).symm
  have gr := x8v 7 hD
  have k5 : kids h (5) = List.range' 7 d.length := by simp [kids,g5,x1d,x2k,x3h,idsL,idsA]
  have leaf := x9o gr
  have hr : x4 x5 h [5,6] [] = [5] ++ ([6] ++ (List.range' 7 d.length ++ [])) := x7o (by simp [k5]) (by intro q hq; simp only [List.length_cons,List.length_nil] at hq; have : q = 0 := (by omega); rcases this with rfl <;> simp [k5]) leaf (by intro i hi; simp at hi; subst hi; exact ⟨_,_,_,by assumption⟩) (by intro i hi; simp at hi; subst hi; exact ⟨_,by assumption,by simp⟩) (by simp <;> omega) (by intro i hi; simp at hi; omega) (by simp only [x5,List.length_cons,List.length_nil]; omega)
  generalize hord : [5] ++ ([6] ++ (List.range' 7 d.length ++ [])) = ord at hr
  rw [xl1]
  unfold x5 at hr
  rw [hr,← hord]
  rfl
 ·rfl
theorem x1vz {o0 x0 x1 : O} {o3 o4 : O} {cs : List D} {d : List (List Int)} (hl : d.length ≤ 4294967296) {s : List A} : trim 0 (o0 :: x0 :: x1 :: o3 :: o4 :: .vec (x3 7 d ++ x6 0) 1 0 :: .arr cs 1 0 :: x9 d) (x15f d.length) s = if idsL s = [5,6] ∧ z0As s = true then (x7 (xs8 d.length) s,.vec (x3 2 d ++ x6 0) 1 0 :: .arr cs 1 0 :: x9 d) else x1y7 0 (o0 :: x0 :: x1 :: o3 :: o4 :: .vec (x3 7 d ++ x6 0) 1 0 :: .arr cs 1 0 :: x9 d) (x15f d.length) s := by
 split
 ·rename_i hc
  obtain ⟨hids,hz⟩ := hc
  obtain ⟨h,hh⟩ : ∃ h : H,o0 :: x0 :: x1 :: o3 :: o4 :: .vec (x3 7 d ++ x6 0) 1 0 :: .arr cs 1 0 :: x9 d = h := ⟨_,rfl⟩
  conv => lhs; rw [hh]
  have g5 : h[5]? = some (.vec (x3 7 d ++ x6 0) 1 0) := by rw [← hh]; rfl
  have g6 : h[6]? = some (.arr cs 1 0) := by rw [← hh]; rfl
  have hD : h.drop 7 = x9 d ++ [] := by rw [← hh]; exact (List.append_nil _).symm
  have gr := x8v 7 hD
  have k5 : kids h (5) = List.range' 7 d.length := by simp [kids,g5,x1d,x2k,x3h,idsL,idsA]
  have leaf := x9o gr
  have hr : x4 x5 h [5,6] [] = [5] ++ ([6] ++ (List.range' 7 d.length ++ [])) := x7o (by simp [k5]) (by intro q hq; simp only [List.length_cons,List.length_nil] at hq; have : q = 0 := (by omega); rcases this with rfl <;> simp [k5]) leaf (by intro i hi; simp at hi; subst hi; exact ⟨_,_,_,by assumption⟩) (by intro i hi; simp at hi; subst hi; exact ⟨_,by assumption,by simp⟩) (by simp <;> omega) (by intro i hi; simp at hi; omega) (by simp only [x5,List.length_cons,List.length_nil]; omega)
  generalize hord : [5] ++ ([6] ++ (List.range' 7 d.length ++ [])) = ord at hr
  have hA : ord = ([5] ++ [6]) ++ (List.range' 7 d.length ++ []) := by rw [← hord,List.append_assoc]
  have pk : ∀ i j,ord[j]? = some i → xa ord i = some j := fun i j h1 => x4i (by rw [← hr]; exact x2h x5 h _ [] (by simp)) h1
  have p5 := pk (5) 0 (by rw [← hord]; rfl)
  have p6 := pk (6) 1 (by rw [← hord]; rfl)
  have pr := x9q (C := 2) pk hA rfl
  obtain ⟨K,hK⟩ : ∃ K : H,O.vec (x3 2 d ++ x6 0) 1 0 :: .arr cs 1 0 :: x9 d = K := ⟨_,rfl⟩
  have hni : ∀ f,x7 f (x6 0) = x6 0 := fun _ => rfl
  have hpk : pack h ord = K := by
   have hrf : x7 (xa ord) (x3 7 d) = x3 2 d := x6f (c := 0) pr
   rw [xb9 hA gr,← hK]
   simp only [List.cons_append,List.nil_append,List.map_cons,List.map_nil,List.getD_eq_getElem?_getD,g5,g6,Option.getD_some,mapO,x7,mapA,x3v,hrf,hni,p5,p6,List.append_nil]
  have hKD : K.drop 2 = x9 d ++ [] := by rw [← hK]; exact (List.append_nil _).symm
  have hgr := xdf hKD
  have hcm : x3a 0 K = .vec (x3 2 d ++ x6 0) 1 0 :: .arr cs 1 0 :: x9 d := by
   have hrf : xj 0 K (x3 2 d) = x3 2 d := x76 hgr
   have hnc : ∀ h : H,xj 0 h (x6 0) = x6 0 := fun _ => rfl
   have q0 : xx K 0 = some 0 := by rw [← hK]; rfl
   have q1 : xx K 1 = some 0 := by rw [← hK]; rfl
   unfold x3a
   rw [x78]
   conv => lhs; arg 2; rw [← hK]
   simp only [List.map_cons,List.map_append,List.map_nil,x2r,xj,x1c,x7i,x63,hrf,hnc,x80,q0,q1,Nat.not_lt_zero,if_false,if_true]
  subst hK
  have hoo : x15f d.length = ord := by rw [← hord]; rfl
  unfold trim
  rw [hoo,hpk,hcm]
  have hz2 : xj 0 (O.vec (x3 2 d ++ x6 0) 1 0 :: .arr cs 1 0 :: x9 d) (x7 (xa ord) s) = x7 (xa ord) s := by
   exact xaw (xto (by simp [z0O,z0As,z0A,xo0,xki,xk7,xtj])) _ (xm2 _ hz)
  have hmp : x7 (xa ord) s = x7 (xs8 d.length) s := by
   apply xaz
   rw [hids]
   intro i hi
   simp only [List.mem_cons,List.not_mem_nil,or_false] at hi
   rcases hi with rfl | rfl
   ·rw [p5,x1fh]
   ·rw [p6,x1ge]
  rw [hz2,hmp]
 ·rfl


section
section
variable {h : H} {a b c d : O}
theorem x1wf : (h ++ [a,b,c])[h.length + 1 + 1]? = some c := by
 rw [List.getElem?_append_right (by omega),show h.length + 1 + 1 - h.length = 2 by omega]
 rfl
theorem x1w7 : (h ++ [a,b,c]).set (h.length + 1 + 1) d = h ++ [a,b,d] := by
 rw [List.set_append_right _ _ (by omega),show h.length + 1 + 1 - h.length = 2 by omega]
 rfl
end
theorem x1vq {a b : Foot} (ha : a.ro = true) (hb : b.ro = true) : xau a b = false := by
 unfold xau
 rw [ha,hb]
 rfl
section
variable {L n : Nat} {h : H} {al : Int} {rs : List (List Int)} {ac : List Bool}
end
end
theorem xrf {f : Nat → Option Nat} : ∀ (k : Nat) (cs : List A),(x7 f cs).take k = x7 f (cs.take k)
 | 0,cs => by simp [x7]
 | k + 1,[] => by simp [x7]
 | k + 1,c :: cs => by simp only [x7,List.take_succ_cons,xrf k cs]
theorem xzw {f : Nat → Option Nat} : ∀ (k : Nat) (cs : List A),(x7 f cs).drop k = x7 f (cs.drop k)
 | 0,cs => rfl
 | k + 1,[] => by simp [x7]
 | k + 1,c :: cs => by simp only [x7,List.drop_succ_cons,xzw k cs]
theorem x1lr {h : H} {ord ids : List Nat} {id k : Nat} {o : O} (hc : closed h ord ids = true) (hn : ord.Nodup) (hl : ∀ i ∈ ord,i < h.length) (hk : xa ord id = some k) :
  x18 (fun (k : Nat) => ord[k]?) h ord ((pack h ord).set k o) = h.set id (mapO (fun (k : Nat) => ord[k]?) o) := by
 have hpl : (pack h ord).length = ord.length := by simp [pack]
 have hid := hl id (xwh hk)
 apply List.ext_getElem?
 intro i
 rw [xoq _ ord h _ i hn hl (by simp [pack])]
 cases hp : xa ord i with
 | none =>
  have hne : id ≠ i := fun e => by rw [e,hp] at hk; cases hk
  rw [List.getElem?_set_ne hne]
  simp only []
  split
  ·rfl
  ·rename_i hge
   rw [List.getElem?_eq_none (by simp [pack]),List.getElem?_eq_none (by omega)]
   rfl
 | some q =>
  simp only []
  by_cases hqk : q = k
  ·subst hqk
   have h1 := xz hp
   have h2 := xz hk
   rw [h1] at h2
   obtain rfl : i = id := Option.some.inj h2
   rw [List.getElem?_set_self (by rw [hpl]; exact xnm hp),List.getElem?_set_self hid]
   rfl
  ·have hne : id ≠ i := fun e => by rw [e,hp] at hk; exact hqk (Option.some.inj hk)
   rw [List.getElem?_set_ne (fun e => hqk e.symm),List.getElem?_set_ne hne]
   have hm := xwh hp
   obtain ⟨x,hx⟩ : ∃ x,h[i]? = some x := ⟨h[i]'(hl i hm),List.getElem?_eq_getElem _⟩
   rw [x8u (xz hp) hx,hx,Option.map_some,x11y hc hm hx]
theorem xsr {E : Env} {call : xq} {thaw : List Nat} {dst : Option Tmp} {op : Op} {h : H} {vs : List A} {a a2 : A} {o o2 : O} {id k : Nat} {ord : List Nat} (hord : x4 x5 h (idsL vs) [] = ord) (hc : closed h ord (idsL vs) = true) (hk : xa ord id = some k) (hro : x4e E op vs = false)
  (hev : evOp E call thaw (pack h ord) (x56 dst op) (x7 (xa ord) vs) = some (a,(pack h ord).set k o)) (ha : mapA (fun (k : Nat) => ord[k]?) a = a2) (ho : mapO (fun (k : Nat) => ord[k]?) o = o2) :
  memD E call thaw dst op h vs = some (a2,h.set id o2,{ ids := ord,ro := false,wr := wrOf E op vs ord }) := by
 have hn : ord.Nodup := by rw [← hord]; exact x2h x5 h (idsL vs) [] (by simp)
 have hl : ∀ i ∈ ord,i < h.length := by rw [← hord]; exact xal x5 h (idsL vs) [] (by simp)
 have hpl : ((pack h ord).set k o).length = ord.length := by simp [pack]
 unfold memD
 rw [hord]
 simp only [box,hev,hpl,Nat.le_refl,hc,and_self,if_true,hro,Bool.false_and,Bool.false_eq_true,if_false,x1g8,Nat.sub_self]
 rw [x1lr hc hn hl hk,ha,ho]
 simp
theorem x12g {E : Env} {call : xq} {thaw : List Nat} {dst : Option Tmp} {args : Array Operand} {t e : TypeId} {h : H} {id id2 g g2 len : Nat} {cs : List A} {c : A} (he : x12 E.P t = some e) (hce : E.P.cellsOf e = 1) (hel : x1b E.P e = true)
  (h1 : h[id]? = some (.vec cs 1 g)) (h2 : h[id2]? = some (.vec [c] 1 g2)) (hlen : len ≤ cs.length) (hmax : len + 1 ≤ x2g) (ok1 : Okay h id) (ok2 : Okay h id2) (hw : 2 + wgt h ≤ 1099511627776) :
  memD E call thaw dst (.call ⟨.builtin .append,args,#[t,t]⟩) h [.sl id g 0 len,.sl id2 g2 0 1] = some (.sl id (g + 1) 0 (len + 1),h.set id (.vec (cs.take len ++ [c]) 1 (g + 1)),{ ids := x4 x5 h [id,id2] [],ro := false,wr := [id] }) := by
 have hids : idsL [A.sl id g 0 len,A.sl id2 g2 0 1] = [id,id2] := rfl
 obtain ⟨c1,c2,c3⟩ := x125 (h := h) (ids := [id,id2]) (by intro i hi; simp at hi; rcases hi with rfl | rfl; exact ok1; exact ok2) (by simpa using hw)
 obtain ⟨ord,hord⟩ : ∃ ord,x4 x5 h [id,id2] [] = ord := ⟨_,rfl⟩
 rw [hord] at c1 c2 c3
 obtain ⟨k,hk⟩ := x2u (c2 id (by simp))
 obtain ⟨k2,hk2⟩ := x2u (c2 id2 (by simp))
 have p1 := x8u (h := h) (xz hk) h1
 have p2 := x8u (h := h) (xz hk2) h2
 have kid : ∀ i,i ∈ ord → ∀ q ∈ kids h i,∃ j,xa ord q = some j := fun i hi q hq => x2u (c3 i hi q hq)
 have bk : ∀ xs : List A,(∀ i ∈ idsL xs,i ∈ ord) → x7 (fun (k : Nat) => ord[k]?) (x7 (xa ord) xs) = xs := by
  intro xs hx
  rw [xb3 (q := fun i => (xa ord i).bind fun k => ord[k]?) (fun _ => rfl)]
  apply x7a
  intro i hi
  obtain ⟨j,hj⟩ := x2u (hx i hi)
  simp only [hj,Option.bind_some]
  exact xz hj
 have hcs : ∀ i ∈ idsL cs,i ∈ ord := by
  have := c3 id (c2 id (by simp))
  simpa only [kids,h1] using this
 have hcc : ∀ i ∈ idsL [c],i ∈ ord := by
  have := c3 id2 (c2 id2 (by simp))
  simpa only [kids,h2] using this
 have hnew : ∀ i ∈ idsL (cs.take len ++ [c]),i ∈ ord := by
  intro i hi
  rw [x1d,List.mem_append] at hi
  rcases hi with hi | hi
  ·refine hcs i ?_
   have := List.take_append_drop len cs
   rw [← this,x1d,List.mem_append]
   exact .inl hi
  ·exact hcc i hi
 have hmt : (x7 (xa ord) cs).take len = x7 (xa ord) (cs.take len) := xrf len cs
 have key := xsr (E := E) (call := call) (thaw := thaw) (dst := dst) (op := .call ⟨.builtin .append,args,#[t,t]⟩) (h := h) (vs := [A.sl id g 0 len,A.sl id2 g2 0 1]) (a := .sl k (g + 1) 0 (len + 1)) (a2 := .sl id (g + 1) 0 (len + 1)) (o := .vec (x7 (xa ord) (cs.take len ++ [c])) 1 (g + 1)) (o2 := .vec (cs.take len ++ [c]) 1 (g + 1)) (id := id) (k := k) (ord := ord) (by rw [hids]; exact hord) (by rw [hids]; exact c1) hk rfl ?_ (by simp only [mapA,xz hk]) (by simp only [mapO,bk _ hnew])
 ·rw [key,hord]
  rfl
 ·have hu : E.P.underlying t = some (.slice e) := by
   unfold x12 at he
   split at he
   ·rename_i hq; cases he; exact hq
   ·cases he
  have hv : xru (pack h ord) k = true := by simp only [xru,p1,mapO]
  have hs : x7s (pack h ord) 1 (.sl k2 g2 0 1) = some (1,x7 (xa ord) [c]) := by
   simp [x7s,p2,mapO,x7]
  simp only [x7,mapA,hk,hk2,evOp,x56,x49,x2q,x7v,hv,if_true,xe0,he,hel,hce,hs,p1,mapO,true_and,or_true,Nat.mul_one,xpa,hlen,hmax,and_self,hmt,x3v,hu]
theorem xif {E : Env} {call : xq} {thaw : List Nat} {dst : Option Tmp} {x y : Operand} {t : TypeId} {h : H} {id id2 off g o len : Nat} {cs : List A} (ht : E.P.cellsOf t = 1) (hi : (E.P.info? t).isSome = true)
  (h1 : h[id]? = some (.box cs)) (hoff : off + 1 ≤ cs.length) (ok1 : Okay h id) (ok2 : Okay h id2) (hw : 2 + wgt h ≤ 1099511627776) :
  memD E call thaw dst (.store t x y) h [.ptr id 0 off,.sl id2 g o len] = some (.d .undef,h.set id (.box (x17 cs off [.sl id2 g o len])),{ ids := x4 x5 h [id,id2] [],ro := false,wr := x4 x5 h [id,id2] [] }) := by
 have hids : idsL [A.ptr id 0 off,A.sl id2 g o len] = [id,id2] := rfl
 obtain ⟨c1,c2,c3⟩ := x125 (h := h) (ids := [id,id2]) (by intro i hi; simp at hi; rcases hi with rfl | rfl; exact ok1; exact ok2) (by simpa using hw)
 obtain ⟨ord,hord⟩ : ∃ ord,x4 x5 h [id,id2] [] = ord := ⟨_,rfl⟩
 rw [hord] at c1 c2 c3 ⊢
 obtain ⟨k,hk⟩ := x2u (c2 id (by simp))
 obtain ⟨k2,hk2⟩ := x2u (c2 id2 (by simp))
 have p1 := x8u (h := h) (xz hk) h1
 have bk : ∀ xs : List A,(∀ i ∈ idsL xs,i ∈ ord) → x7 (fun (k : Nat) => ord[k]?) (x7 (xa ord) xs) = xs := by
  intro xs hx
  rw [xb3 (q := fun i => (xa ord i).bind fun k => ord[k]?) (fun _ => rfl)]
  apply x7a
  intro i hi
  obtain ⟨j,hj⟩ := x2u (hx i hi)
  simp only [hj,Option.bind_some]
  exact xz hj
 have hcs : ∀ i ∈ idsL cs,i ∈ ord := by
  have := c3 id (c2 id (by simp))
  simpa only [kids,h1] using this
 have split_cs : ∀ q : Nat,(∀ i ∈ idsL (cs.take q),i ∈ ord) ∧ (∀ i ∈ idsL (cs.drop q),i ∈ ord) := by
  intro q
  have := List.take_append_drop q cs
  constructor
  ·intro i hi
   refine hcs i ?_
   rw [← this,x1d,List.mem_append]; exact .inl hi
  ·intro i hi
   refine hcs i ?_
   rw [← this,x1d,List.mem_append]; exact .inr hi
 have hnew : ∀ i ∈ idsL (x17 cs off [.sl id2 g o len]),i ∈ ord := by
  intro i hi
  unfold x17 at hi
  rw [x1d,x1d,List.mem_append,List.mem_append] at hi
  rcases hi with (hi | hi) | hi
  ·exact (split_cs _).1 i hi
  ·simp [idsL,idsA] at hi; subst hi; exact c2 i (by simp)
  ·exact (split_cs _).2 i hi
 have hmr : x17 (x7 (xa ord) cs) off [.sl k2 g o len] = x7 (xa ord) (x17 cs off [.sl id2 g o len]) := by
  unfold x17
  rw [x3v,x3v,xrf,xzw]
  simp only [x7,mapA,hk2,List.length_cons,List.length_nil]
 have key := xsr (E := E) (call := call) (thaw := thaw) (dst := dst) (op := .store t x y) (h := h) (vs := [A.ptr id 0 off,A.sl id2 g o len]) (a := .d .undef) (a2 := .d .undef) (o := .box (x7 (xa ord) (x17 cs off [.sl id2 g o len]))) (o2 := .box (x17 cs off [.sl id2 g o len])) (id := id) (k := k) (ord := ord) (by rw [hids]; exact hord) (by rw [hids]; exact c1) hk rfl ?_ (by simp only [mapA]) (by simp only [mapO,bk _ hnew])
 ·rw [key]
  rfl
 ·have hoff2 : off + 1 ≤ (x7 (xa ord) cs).length := by rw [xpa]; exact hoff
  simp only [x7,mapA,hk,hk2,evOp,x56,two,xao,xh,List.length_cons,List.length_nil,Nat.zero_add,ht,hi,List.all_cons,List.all_nil,x2f,Bool.and_self,and_self,if_true,p1,mapO,hoff2,xm,hmr,Option.map_some]
end Ev
end Go.Proofs.Ytppdfjdfjfoddaa
