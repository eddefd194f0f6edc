/-
  What the evaluator is told of each function, and each function's code as an equation. Written by a program.
-/
import Derived.Test.YtppdfjdfjfoddaaEvPrim
import Derived.Test.YtppdfjdfjfoddaaChecked
set_option maxRecDepth 100000
namespace Go.Proofs.Ytppdfjdfjfoddaa
namespace Ev
def x1a : Nat → Nat → List Bool
 | 0,_ => []
 | n + 1,k => (k % 2 == 1) :: x1a n (k / 2)
noncomputable def x226 : List (Nat × Hint) := [
 (5,{ mode := 1,exp := false,thaw := [],live := x1a 53 60 }),
 (15,{ mode := 1,exp := false,thaw := [],live := x1a 65 1972248982323214 }),
 (17,{ mode := 2,exp := false,thaw := [],live := x1a 47 62 }),
 (19,{ mode := 3,exp := true,thaw := [],live := x1a 47 49214 }),
 (25,{ mode := 2,exp := false,thaw := [],live := x1a 0 0 }),
 (26,{ mode := 1,exp := false,thaw := [],live := x1a 26 51 }),
 (27,{ mode := 1,exp := false,thaw := [],live := x1a 18 51 }),
 (28,{ mode := 1,exp := false,thaw := [],live := x1a 26 98323 }),
 (32,{ mode := 2,exp := true,thaw := [],live := x1a 0 0 }),
 (36,{ mode := 2,exp := false,thaw := [],live := x1a 54 240553558140 }),
 (39,{ mode := 2,exp := false,thaw := [0,0,0,2],live := x1a 17 45 }),
 (41,{ mode := 1,exp := false,thaw := [],live := x1a 44 30 }),
 (44,{ mode := 2,exp := false,thaw := [],live := x1a 18 29 }),
 (45,{ mode := 1,exp := false,thaw := [],live := x1a 0 0 }),
 (49,{ mode := 1,exp := false,thaw := [],live := x1a 0 0 }),
 (50,{ mode := 1,exp := false,thaw := [],live := x1a 0 0 }),
 (51,{ mode := 0,exp := false,thaw := [],live := x1a 28 13 }),
 (52,{ mode := 1,exp := false,thaw := [],live := x1a 0 0 }),
 (56,{ mode := 1,exp := false,thaw := [],live := x1a 0 0 }),
 (57,{ mode := 1,exp := false,thaw := [],live := x1a 18 51 }),
 (60,{ mode := 1,exp := false,thaw := [],live := x1a 0 0 }),
 (61,{ mode := 1,exp := false,thaw := [],live := x1a 0 0 }),
 (67,{ mode := 0,exp := false,thaw := [],live := x1a 28 29 }),
 (68,{ mode := 1,exp := false,thaw := [],live := x1a 0 0 }),
 (74,{ mode := 0,exp := false,thaw := [],live := x1a 0 0 }),
 (75,{ mode := 0,exp := false,thaw := [],live := x1a 36 29 }),
 (76,{ mode := 0,exp := false,thaw := [0,0,0,0,0,0,0,0,0,0,0,0,0,0,0,0,0,0,0,0,0,0,0,0,0,0,0,0,0,0,0,0,0,0,0,0,0,0,0,0,0,0,0,0,0,0,0,0,0,0,0,0,0,0,0,0,0,0,0,0,0,0,0,0,0,0,0,0,0,0,0,0,0,0,0,0,0,0,0,0,0,0,0,1002,0,0,0,0,0,0,0,0,0,0,0,0,0,0,0,0,0,0,0,0,0,1002],live := x1a 114 112 }),
 (77,{ mode := 0,exp := false,thaw := [],live := x1a 0 0 }),
 (78,{ mode := 0,exp := false,thaw := [],live := x1a 0 0 }),
 (79,{ mode := 1,exp := false,thaw := [],live := x1a 0 0 }),
 (80,{ mode := 1,exp := false,thaw := [],live := x1a 31 197 }),
 (81,{ mode := 1,exp := false,thaw := [],live := x1a 0 0 }),
 (83,{ mode := 1,exp := false,thaw := [],live := x1a 18 115 }),
 (85,{ mode := 1,exp := false,thaw := [],live := x1a 0 0 }),
 (86,{ mode := 1,exp := false,thaw := [],live := x1a 107 65534 }),
 (88,{ mode := 1,exp := false,thaw := [],live := x1a 0 0 }),
 (89,{ mode := 0,exp := false,thaw := [],live := x1a 0 0 }),
 (90,{ mode := 1,exp := false,thaw := [],live := x1a 19 403 }),
 (93,{ mode := 0,exp := false,thaw := [0,0,0,0,0,0,0,0,0,0,0,0,0,0,0,0,0,0,0,0,0,0,0,0,0,0,0,0,0,0,0,0,0,0,0,0,0,0,0,0,0,0,0,0,0,0,0,0,0,0,0,0,0,0,0,0,0,0,0,0,0,0,0,0,0,0,0,0,0,0,0,0,0,0,0,0,0,0,0,0,0,0,0,0,0,0,0,0,0,0,0,0,0,1002],live := x1a 0 0 }),
 (103,{ mode := 2,exp := true,thaw := [0,0,0,0,0,0,0,0,0,0,0,0,0,0,0,0,0,0,0,0,0,0,0,0,0,0,0,0,1002],live := x1a 32 30 }),
 (104,{ mode := 2,exp := false,thaw := [],live := x1a 72 413 }),
 (105,{ mode := 0,exp := false,thaw := [],live := x1a 0 0 }),
 (106,{ mode := 2,exp := false,thaw := [],live := x1a 0 0 }),
 (107,{ mode := 0,exp := false,thaw := [],live := x1a 0 0 }),
 (108,{ mode := 2,exp := false,thaw := [],live := x1a 41 62 }),
 (109,{ mode := 2,exp := false,thaw := [],live := x1a 48 8142 }),
 (110,{ mode := 1,exp := false,thaw := [],live := x1a 64 196 }),
 (111,{ mode := 2,exp := false,thaw := [],live := x1a 33 115 }),
 (112,{ mode := 0,exp := false,thaw := [],live := x1a 35 115 }),
 (113,{ mode := 1,exp := false,thaw := [],live := x1a 25 115 }),
 (114,{ mode := 2,exp := false,thaw := [],live := x1a 64 31775 }),
 (115,{ mode := 1,exp := false,thaw := [],live := x1a 0 0 }),
 (116,{ mode := 0,exp := false,thaw := [],live := x1a 0 0 }),
 (117,{ mode := 1,exp := false,thaw := [0,0,0,0,0,0,0,0,0,0,0,0,0,0,0,0,0,0,2],live := x1a 63 61632781151244 }),
 (118,{ mode := 0,exp := false,thaw := [],live := x1a 0 0 }),
 (119,{ mode := 1,exp := false,thaw := [],live := x1a 18 51 }),
 (133,{ mode := 2,exp := false,thaw := [],live := x1a 36 243 }),
 (134,{ mode := 1,exp := false,thaw := [],live := x1a 14 29 }),
 (135,{ mode := 2,exp := false,thaw := [],live := x1a 36 124 }),
 (136,{ mode := 1,exp := false,thaw := [],live := x1a 54 94 }),
 (137,{ mode := 0,exp := false,thaw := [],live := x1a 49 964 }),
 (138,{ mode := 0,exp := true,thaw := [0,0,0,0,0,0,0,0,0,0,0,0,0,0,0,0,0,0,0,0,0,0,0,0,0,0,0,0,0,0,0,0,0,0,0,0,0,1002],live := x1a 49 4037 }),
 (139,{ mode := 2,exp := false,thaw := [],live := x1a 62 32542 }),
 (140,{ mode := 1,exp := false,thaw := [],live := x1a 0 0 }),
 (141,{ mode := 1,exp := false,thaw := [],live := x1a 36 455 }),
 (142,{ mode := 0,exp := false,thaw := [0,0,0,0,0,0,0,0,0,0,2],live := x1a 50 118331 }),
 (143,{ mode := 1,exp := false,thaw := [0,0,0,2],live := x1a 32 29 }),
 (149,{ mode := 1,exp := false,thaw := [],live := x1a 27 60 }),
 (150,{ mode := 1,exp := false,thaw := [],live := x1a 67 125 }),
 (151,{ mode := 1,exp := false,thaw := [],live := x1a 31 13 }),
 (152,{ mode := 2,exp := false,thaw := [],live := x1a 79 3852 })]
noncomputable def x1cw : List (TypeId × Nat) := []
noncomputable def x1p3 : List (Nat × (List A → H → Option (A × H))) := []
noncomputable def env : Env := { P := Try.prog,hint := fun f => (x226.lookup f).getD {},eqs := x1cw,prim := fun f => x1p3.lookup f }
theorem xml : (env.hint 5).mode = 1 := by kernel_rfl
theorem x7y : (env.hint 15).mode = 1 := by kernel_rfl
theorem xik : (env.hint 17).mode = 2 := by kernel_rfl
theorem x9x : (env.hint 19).mode = 3 := by kernel_rfl
theorem xej : (env.hint 25).mode = 2 := by kernel_rfl
theorem xdc : (env.hint 26).mode = 1 := by kernel_rfl
theorem xo6 : (env.hint 27).mode = 1 := by kernel_rfl
theorem xqn : (env.hint 28).mode = 1 := by kernel_rfl
theorem xyc : (env.hint 32).mode = 2 := by kernel_rfl
theorem xyh : (env.hint 36).mode = 2 := by kernel_rfl
theorem xtr : (env.hint 39).mode = 2 := by kernel_rfl
theorem x7w : (env.hint 41).mode = 1 := by kernel_rfl
theorem xse : (env.hint 44).mode = 2 := by kernel_rfl
theorem xid : (env.hint 45).mode = 1 := by kernel_rfl
theorem xqm : (env.hint 49).mode = 1 := by kernel_rfl
theorem xr4 : (env.hint 50).mode = 1 := by kernel_rfl
theorem x95 : (env.hint 51).mode = 0 := by kernel_rfl
theorem xw4 : (env.hint 52).mode = 1 := by kernel_rfl
theorem xa3 : (env.hint 56).mode = 1 := by kernel_rfl
theorem xtm : (env.hint 57).mode = 1 := by kernel_rfl
theorem xa6 : (env.hint 60).mode = 1 := by kernel_rfl
theorem x75 : (env.hint 61).mode = 1 := by kernel_rfl
theorem x14l : (env.hint 67).mode = 0 := by kernel_rfl
theorem x19e : (env.hint 68).mode = 1 := by kernel_rfl
theorem xqu : (env.hint 74).mode = 0 := by kernel_rfl
theorem x124 : (env.hint 75).mode = 0 := by kernel_rfl
theorem xxs : (env.hint 76).mode = 0 := by kernel_rfl
theorem x10r : (env.hint 77).mode = 0 := by kernel_rfl
theorem xta : (env.hint 78).mode = 0 := by kernel_rfl
theorem xr7 : (env.hint 79).mode = 1 := by kernel_rfl
theorem xts : (env.hint 80).mode = 1 := by kernel_rfl
theorem x12k : (env.hint 81).mode = 1 := by kernel_rfl
theorem xxq : (env.hint 83).mode = 1 := by kernel_rfl
theorem xd7 : (env.hint 85).mode = 1 := by kernel_rfl
theorem xnv : (env.hint 86).mode = 1 := by kernel_rfl
theorem xg7 : (env.hint 88).mode = 1 := by kernel_rfl
theorem xd5 : (env.hint 89).mode = 0 := by kernel_rfl
theorem x83 : (env.hint 90).mode = 1 := by kernel_rfl
theorem xvc : (env.hint 93).mode = 0 := by kernel_rfl
theorem xq5 : (env.hint 103).mode = 2 := by kernel_rfl
theorem xk6 : (env.hint 104).mode = 2 := by kernel_rfl
theorem xwe : (env.hint 105).mode = 0 := by kernel_rfl
theorem xy9 : (env.hint 106).mode = 2 := by kernel_rfl
theorem x10x : (env.hint 107).mode = 0 := by kernel_rfl
theorem xns : (env.hint 108).mode = 2 := by kernel_rfl
theorem xnn : (env.hint 109).mode = 2 := by kernel_rfl
theorem xo2 : (env.hint 110).mode = 1 := by kernel_rfl
theorem xw6 : (env.hint 111).mode = 2 := by kernel_rfl
theorem xq3 : (env.hint 112).mode = 0 := by kernel_rfl
theorem xc6 : (env.hint 113).mode = 1 := by kernel_rfl
theorem xaj : (env.hint 114).mode = 2 := by kernel_rfl
theorem x10o : (env.hint 115).mode = 1 := by kernel_rfl
theorem xcy : (env.hint 116).mode = 0 := by kernel_rfl
theorem xjn : (env.hint 117).mode = 1 := by kernel_rfl
theorem xkb : (env.hint 118).mode = 0 := by kernel_rfl
theorem xx1 : (env.hint 119).mode = 1 := by kernel_rfl
theorem x10m : (env.hint 133).mode = 2 := by kernel_rfl
theorem xm0 : (env.hint 134).mode = 1 := by kernel_rfl
theorem xxj : (env.hint 135).mode = 2 := by kernel_rfl
theorem xih : (env.hint 136).mode = 1 := by kernel_rfl
theorem x11d : (env.hint 137).mode = 0 := by kernel_rfl
theorem xve : (env.hint 138).mode = 0 := by kernel_rfl
theorem xxg : (env.hint 139).mode = 2 := by kernel_rfl
theorem x3u : (env.hint 140).mode = 1 := by kernel_rfl
theorem xeh : (env.hint 141).mode = 1 := by kernel_rfl
theorem xbn : (env.hint 142).mode = 0 := by kernel_rfl
theorem xl2 : (env.hint 143).mode = 1 := by kernel_rfl
theorem xkf : (env.hint 149).mode = 1 := by kernel_rfl
theorem x10c : (env.hint 150).mode = 1 := by kernel_rfl
theorem x10k : (env.hint 151).mode = 1 := by kernel_rfl
theorem xtf : (env.hint 152).mode = 2 := by kernel_rfl
theorem MD0 : type_of% (AI @xml (AI @x7y (AI @xik (AI @x9x (AI @xej (AI @xdc (AI @xo6 (AI @xqn (AI @xyc (AI @xyh (AI @xtr (AI @x7w (AI @xse (AI @xid (AI @xqm (AI @xr4 (AI @x95 (AI @xw4 (AI @xa3 (AI @xtm (AI @xa6 (AI @x75 (AI @x14l (AI @x19e (AI @xqu (AI @x124 (AI @xxs (AI @x10r (AI @xta (AI @xr7 (AI @xts (AI @x12k (AI @xxq (AI @xd7 (AI @xnv (AI @xg7 (AI @xd5 (AI @x83 (AI @xvc (AI @xq5 (AI @xk6 (AI @xwe (AI @xy9 (AI @x10x (AI @xns (AI @xnn (AI @xo2 (AI @xw6 (AI @xq3 (AI @xc6 (AI @xaj (AI @x10o (AI @xcy (AI @xjn (AI @xkb (AI @xx1 (AI @x10m (AI @xm0 (AI @xxj @xih))))))))))))))))))))))))))))))))))))))))))))))))))))))))))) :=
 ⟨@xml,@x7y,@xik,@x9x,@xej,@xdc,@xo6,@xqn,@xyc,@xyh,@xtr,@x7w,@xse,@xid,@xqm,@xr4,@x95,@xw4,@xa3,@xtm,@xa6,@x75,@x14l,@x19e,@xqu,@x124,@xxs,@x10r,@xta,@xr7,@xts,@x12k,@xxq,@xd7,@xnv,@xg7,@xd5,@x83,@xvc,@xq5,@xk6,@xwe,@xy9,@x10x,@xns,@xnn,@xo2,@xw6,@xq3,@xc6,@xaj,@x10o,@xcy,@xjn,@xkb,@xx1,@x10m,@xm0,@xxj,@xih⟩
theorem MD1 : type_of% (AI @x11d (AI @xve (AI @xxg (AI @x3u (AI @xeh (AI @xbn (AI @xl2 (AI @xkf (AI @x10c (AI @x10k @xtf)))))))))) :=
 ⟨@x11d,@xve,@xxg,@x3u,@xeh,@xbn,@xl2,@xkf,@x10c,@x10k,@xtf⟩
theorem MD : type_of% (AI @MD0 @MD1) :=
 ⟨@MD0,@MD1⟩
end Ev
end Go.Proofs.Ytppdfjdfjfoddaa
