/-
  What the evaluator is told of each function, and each function's code as an equation. Written by a program.
-/
import Derived.Test.YtppdfjdfjfoddaaEvPrim
import Derived.Test.YtppdfjdfjfoddaaChecked
set_option maxRecDepth 100000
namespace Go.Proofs.Ytppdfjdfjfoddaa
namespace Ev
def xr : Nat → Nat → List Bool
 | 0,_ => []
 | n + 1,k => (k % 2 == 1) :: xr n (k / 2)
noncomputable def x253 : List (Nat × Hint) := [
 (6,{ mode := 1,exp := false,thaw := [],live := xr 0 0 }),
 (15,{ mode := 1,exp := false,thaw := [],live := xr 65 1972248982323214 }),
 (16,{ mode := 1,exp := false,thaw := [],live := xr 0 0 }),
 (18,{ mode := 2,exp := true,thaw := [],live := xr 0 0 }),
 (20,{ mode := 1,exp := false,thaw := [],live := xr 26 51 }),
 (21,{ mode := 1,exp := false,thaw := [],live := xr 0 0 }),
 (22,{ mode := 0,exp := false,thaw := [],live := xr 0 0 }),
 (23,{ mode := 0,exp := false,thaw := [],live := xr 20 51 }),
 (24,{ mode := 1,exp := false,thaw := [],live := xr 22 51 }),
 (29,{ mode := 2,exp := false,thaw := [],live := xr 32 60 }),
 (30,{ mode := 3,exp := true,thaw := [0,0,0,2],live := xr 31 12302 }),
 (36,{ mode := 2,exp := false,thaw := [],live := xr 54 240553558140 }),
 (39,{ mode := 2,exp := false,thaw := [0,0,0,2],live := xr 17 45 }),
 (41,{ mode := 1,exp := false,thaw := [],live := xr 44 30 }),
 (44,{ mode := 2,exp := false,thaw := [],live := xr 18 29 }),
 (45,{ mode := 1,exp := false,thaw := [],live := xr 0 0 }),
 (49,{ mode := 1,exp := false,thaw := [],live := xr 0 0 }),
 (50,{ mode := 1,exp := false,thaw := [],live := xr 0 0 }),
 (51,{ mode := 0,exp := false,thaw := [],live := xr 28 13 }),
 (54,{ mode := 1,exp := false,thaw := [],live := xr 27 51 }),
 (55,{ mode := 1,exp := false,thaw := [],live := xr 0 0 }),
 (58,{ mode := 2,exp := true,thaw := [0,0,0,0,0,0,0,1002],live := xr 23 29 }),
 (59,{ mode := 2,exp := true,thaw := [],live := xr 22 29 }),
 (62,{ mode := 1,exp := false,thaw := [],live := xr 27 51 }),
 (63,{ mode := 1,exp := false,thaw := [],live := xr 26 51 }),
 (64,{ mode := 0,exp := false,thaw := [],live := xr 19 51 }),
 (65,{ mode := 0,exp := false,thaw := [],live := xr 21 51 }),
 (66,{ mode := 1,exp := false,thaw := [],live := xr 20 13 }),
 (68,{ mode := 1,exp := false,thaw := [],live := xr 0 0 }),
 (69,{ mode := 2,exp := false,thaw := [],live := xr 69 254 }),
 (70,{ mode := 1,exp := false,thaw := [],live := xr 0 0 }),
 (71,{ mode := 1,exp := false,thaw := [],live := xr 0 0 }),
 (72,{ mode := 0,exp := false,thaw := [],live := xr 0 0 }),
 (73,{ mode := 1,exp := false,thaw := [],live := xr 0 0 }),
 (79,{ mode := 1,exp := false,thaw := [],live := xr 0 0 }),
 (80,{ mode := 1,exp := false,thaw := [],live := xr 31 197 }),
 (81,{ mode := 1,exp := false,thaw := [],live := xr 0 0 }),
 (83,{ mode := 1,exp := false,thaw := [],live := xr 18 115 }),
 (84,{ mode := 1,exp := false,thaw := [],live := xr 0 0 }),
 (85,{ mode := 1,exp := false,thaw := [],live := xr 0 0 }),
 (86,{ mode := 1,exp := false,thaw := [],live := xr 107 65534 }),
 (87,{ mode := 2,exp := true,thaw := [],live := xr 22 29 }),
 (91,{ mode := 1,exp := false,thaw := [],live := xr 26 51 }),
 (92,{ mode := 0,exp := false,thaw := [],live := xr 19 51 }),
 (94,{ mode := 2,exp := false,thaw := [],live := xr 43 126 }),
 (95,{ mode := 1,exp := false,thaw := [],live := xr 15 51 }),
 (96,{ mode := 1,exp := false,thaw := [],live := xr 0 0 }),
 (97,{ mode := 0,exp := false,thaw := [],live := xr 0 0 }),
 (98,{ mode := 0,exp := false,thaw := [],live := xr 148 3103 }),
 (99,{ mode := 1,exp := false,thaw := [],live := xr 0 0 }),
 (100,{ mode := 1,exp := false,thaw := [],live := xr 18 460 }),
 (101,{ mode := 1,exp := false,thaw := [],live := xr 0 0 }),
 (102,{ mode := 1,exp := false,thaw := [],live := xr 0 0 }),
 (108,{ mode := 2,exp := false,thaw := [],live := xr 41 62 }),
 (109,{ mode := 2,exp := false,thaw := [],live := xr 48 8142 }),
 (110,{ mode := 1,exp := false,thaw := [],live := xr 64 196 }),
 (111,{ mode := 2,exp := false,thaw := [],live := xr 33 115 }),
 (112,{ mode := 0,exp := false,thaw := [],live := xr 35 115 }),
 (113,{ mode := 1,exp := false,thaw := [],live := xr 25 115 }),
 (114,{ mode := 2,exp := false,thaw := [],live := xr 64 31775 }),
 (115,{ mode := 1,exp := false,thaw := [],live := xr 0 0 }),
 (117,{ mode := 1,exp := false,thaw := [0,0,0,0,0,0,0,0,0,0,0,0,0,0,0,0,0,0,2],live := xr 63 61632781151244 }),
 (119,{ mode := 1,exp := false,thaw := [],live := xr 18 51 }),
 (120,{ mode := 0,exp := false,thaw := [],live := xr 0 0 }),
 (121,{ mode := 0,exp := false,thaw := [],live := xr 53 783 }),
 (122,{ mode := 0,exp := false,thaw := [],live := xr 60 7945 }),
 (123,{ mode := 0,exp := false,thaw := [],live := xr 67 3843 }),
 (124,{ mode := 0,exp := false,thaw := [],live := xr 0 0 }),
 (125,{ mode := 0,exp := false,thaw := [],live := xr 34 769 }),
 (126,{ mode := 0,exp := false,thaw := [],live := xr 141 7951 }),
 (127,{ mode := 0,exp := false,thaw := [],live := xr 90 7187 }),
 (128,{ mode := 0,exp := false,thaw := [],live := xr 178 15379 }),
 (129,{ mode := 1,exp := false,thaw := [],live := xr 0 0 }),
 (130,{ mode := 1,exp := false,thaw := [],live := xr 0 0 }),
 (131,{ mode := 1,exp := false,thaw := [],live := xr 0 0 }),
 (132,{ mode := 1,exp := false,thaw := [],live := xr 0 0 }),
 (139,{ mode := 2,exp := false,thaw := [],live := xr 62 32542 }),
 (140,{ mode := 1,exp := false,thaw := [],live := xr 0 0 }),
 (141,{ mode := 1,exp := false,thaw := [],live := xr 36 455 }),
 (142,{ mode := 0,exp := false,thaw := [0,0,0,0,0,0,0,0,0,0,2],live := xr 50 118331 }),
 (143,{ mode := 1,exp := false,thaw := [0,0,0,2],live := xr 32 29 }),
 (144,{ mode := 0,exp := false,thaw := [],live := xr 82 1053 }),
 (145,{ mode := 1,exp := false,thaw := [],live := xr 0 0 }),
 (147,{ mode := 0,exp := false,thaw := [],live := xr 0 0 }),
 (148,{ mode := 0,exp := false,thaw := [],live := xr 0 0 }),
 (152,{ mode := 2,exp := false,thaw := [],live := xr 79 3852 }),
 (153,{ mode := 0,exp := false,thaw := [],live := xr 0 0 })]
noncomputable def x1eh : List (TypeId × Nat) := []
noncomputable def x1jq : List (Nat × (List A → H → Option (A × H))) := [(72,xso 73)]
noncomputable def env : Env := { P := Try.prog,hint := fun f => (x253.lookup f).getD {},eqs := x1eh,prim := fun f => x1jq.lookup f }
theorem xgf : (env.hint 6).mode = 1 := by kernel_rfl
theorem x70 : (env.hint 15).mode = 1 := by kernel_rfl
theorem xab : (env.hint 16).mode = 1 := by kernel_rfl
theorem xa7 : (env.hint 18).mode = 2 := by kernel_rfl
theorem xa0 : (env.hint 20).mode = 1 := by kernel_rfl
theorem x19 : (env.hint 21).mode = 1 := by kernel_rfl
theorem xet : (env.hint 22).mode = 0 := by kernel_rfl
theorem xhu : (env.hint 23).mode = 0 := by kernel_rfl
theorem xch : (env.hint 24).mode = 1 := by kernel_rfl
theorem xbh : (env.hint 29).mode = 2 := by kernel_rfl
theorem x7u : (env.hint 30).mode = 3 := by kernel_rfl
theorem xyj : (env.hint 36).mode = 2 := by kernel_rfl
theorem xtc : (env.hint 39).mode = 2 := by kernel_rfl
theorem x6u : (env.hint 41).mode = 1 := by kernel_rfl
theorem xt3 : (env.hint 44).mode = 2 := by kernel_rfl
theorem xgr : (env.hint 45).mode = 1 := by kernel_rfl
theorem xq6 : (env.hint 49).mode = 1 := by kernel_rfl
theorem xq7 : (env.hint 50).mode = 1 := by kernel_rfl
theorem x87 : (env.hint 51).mode = 0 := by kernel_rfl
theorem xt8 : (env.hint 54).mode = 1 := by kernel_rfl
theorem xrg : (env.hint 55).mode = 1 := by kernel_rfl
theorem xrw : (env.hint 58).mode = 2 := by kernel_rfl
theorem xsw : (env.hint 59).mode = 2 := by kernel_rfl
theorem xek : (env.hint 62).mode = 1 := by kernel_rfl
theorem xeh : (env.hint 63).mode = 1 := by kernel_rfl
theorem xmf : (env.hint 64).mode = 0 := by kernel_rfl
theorem xm6 : (env.hint 65).mode = 0 := by kernel_rfl
theorem x116 : (env.hint 66).mode = 1 := by kernel_rfl
theorem x1d0 : (env.hint 68).mode = 1 := by kernel_rfl
theorem x10t : (env.hint 69).mode = 2 := by kernel_rfl
theorem x9h : (env.hint 70).mode = 1 := by kernel_rfl
theorem x9i : (env.hint 71).mode = 1 := by kernel_rfl
theorem x6b : (env.hint 72).mode = 0 := by kernel_rfl
theorem xu8 : (env.hint 73).mode = 1 := by kernel_rfl
theorem xpv : (env.hint 79).mode = 1 := by kernel_rfl
theorem xri : (env.hint 80).mode = 1 := by kernel_rfl
theorem x131 : (env.hint 81).mode = 1 := by kernel_rfl
theorem xxb : (env.hint 83).mode = 1 := by kernel_rfl
theorem xwf : (env.hint 84).mode = 1 := by kernel_rfl
theorem xbu : (env.hint 85).mode = 1 := by kernel_rfl
theorem xn7 : (env.hint 86).mode = 1 := by kernel_rfl
theorem xw8 : (env.hint 87).mode = 2 := by kernel_rfl
theorem xgm : (env.hint 91).mode = 1 := by kernel_rfl
theorem xpg : (env.hint 92).mode = 0 := by kernel_rfl
theorem xxo : (env.hint 94).mode = 2 := by kernel_rfl
theorem xmk : (env.hint 95).mode = 1 := by kernel_rfl
theorem xi9 : (env.hint 96).mode = 1 := by kernel_rfl
theorem xkj : (env.hint 97).mode = 0 := by kernel_rfl
theorem x9u : (env.hint 98).mode = 0 := by kernel_rfl
theorem xod : (env.hint 99).mode = 1 := by kernel_rfl
theorem xdx : (env.hint 100).mode = 1 := by kernel_rfl
theorem xkg : (env.hint 101).mode = 1 := by kernel_rfl
theorem xfy : (env.hint 102).mode = 1 := by kernel_rfl
theorem xmm : (env.hint 108).mode = 2 := by kernel_rfl
theorem xma : (env.hint 109).mode = 2 := by kernel_rfl
theorem xmo : (env.hint 110).mode = 1 := by kernel_rfl
theorem xv0 : (env.hint 111).mode = 2 := by kernel_rfl
theorem xpq : (env.hint 112).mode = 0 := by kernel_rfl
theorem xb2 : (env.hint 113).mode = 1 := by kernel_rfl
theorem x98 : (env.hint 114).mode = 2 := by kernel_rfl
theorem x10j : (env.hint 115).mode = 1 := by kernel_rfl
theorem xi3 : (env.hint 117).mode = 1 := by kernel_rfl
theorem xwb : (env.hint 119).mode = 1 := by kernel_rfl
theorem xdp : (env.hint 120).mode = 0 := by kernel_rfl
theorem x7y : (env.hint 121).mode = 0 := by kernel_rfl
theorem x9g : (env.hint 122).mode = 0 := by kernel_rfl
theorem x80 : (env.hint 123).mode = 0 := by kernel_rfl
theorem x8s : (env.hint 124).mode = 0 := by kernel_rfl
theorem x8f : (env.hint 125).mode = 0 := by kernel_rfl
theorem x66 : (env.hint 126).mode = 0 := by kernel_rfl
theorem x7l : (env.hint 127).mode = 0 := by kernel_rfl
theorem x9b : (env.hint 128).mode = 0 := by kernel_rfl
theorem xk3 : (env.hint 129).mode = 1 := by kernel_rfl
theorem xkx : (env.hint 130).mode = 1 := by kernel_rfl
theorem xog : (env.hint 131).mode = 1 := by kernel_rfl
theorem xja : (env.hint 132).mode = 1 := by kernel_rfl
theorem xyn : (env.hint 139).mode = 2 := by kernel_rfl
theorem x33 : (env.hint 140).mode = 1 := by kernel_rfl
theorem xdd : (env.hint 141).mode = 1 := by kernel_rfl
theorem xai : (env.hint 142).mode = 0 := by kernel_rfl
theorem xjk : (env.hint 143).mode = 1 := by kernel_rfl
theorem x9f : (env.hint 144).mode = 0 := by kernel_rfl
theorem xd6 : (env.hint 145).mode = 1 := by kernel_rfl
theorem x7o : (env.hint 147).mode = 0 := by kernel_rfl
theorem xa3 : (env.hint 148).mode = 0 := by kernel_rfl
theorem xsd : (env.hint 152).mode = 2 := by kernel_rfl
theorem xae : (env.hint 153).mode = 0 := by kernel_rfl
theorem MD0 : type_of% (AI @xgf (AI @x70 (AI @xab (AI @xa7 (AI @xa0 (AI @x19 (AI @xet (AI @xhu (AI @xch (AI @xbh (AI @x7u (AI @xyj (AI @xtc (AI @x6u (AI @xt3 (AI @xgr (AI @xq6 (AI @xq7 (AI @x87 (AI @xt8 (AI @xrg (AI @xrw (AI @xsw (AI @xek (AI @xeh (AI @xmf (AI @xm6 (AI @x116 (AI @x1d0 (AI @x10t (AI @x9h (AI @x9i (AI @x6b (AI @xu8 (AI @xpv (AI @xri (AI @x131 (AI @xxb (AI @xwf (AI @xbu (AI @xn7 (AI @xw8 (AI @xgm (AI @xpg (AI @xxo (AI @xmk (AI @xi9 (AI @xkj (AI @x9u (AI @xod (AI @xdx (AI @xkg (AI @xfy (AI @xmm (AI @xma (AI @xmo (AI @xv0 (AI @xpq (AI @xb2 @x98))))))))))))))))))))))))))))))))))))))))))))))))))))))))))) :=
 ⟨@xgf,@x70,@xab,@xa7,@xa0,@x19,@xet,@xhu,@xch,@xbh,@x7u,@xyj,@xtc,@x6u,@xt3,@xgr,@xq6,@xq7,@x87,@xt8,@xrg,@xrw,@xsw,@xek,@xeh,@xmf,@xm6,@x116,@x1d0,@x10t,@x9h,@x9i,@x6b,@xu8,@xpv,@xri,@x131,@xxb,@xwf,@xbu,@xn7,@xw8,@xgm,@xpg,@xxo,@xmk,@xi9,@xkj,@x9u,@xod,@xdx,@xkg,@xfy,@xmm,@xma,@xmo,@xv0,@xpq,@xb2,@x98⟩
theorem MD1 : type_of% (AI @x10j (AI @xi3 (AI @xwb (AI @xdp (AI @x7y (AI @x9g (AI @x80 (AI @x8s (AI @x8f (AI @x66 (AI @x7l (AI @x9b (AI @xk3 (AI @xkx (AI @xog (AI @xja (AI @xyn (AI @x33 (AI @xdd (AI @xai (AI @xjk (AI @x9f (AI @xd6 (AI @x7o (AI @xa3 (AI @xsd @xae)))))))))))))))))))))))))) :=
 ⟨@x10j,@xi3,@xwb,@xdp,@x7y,@x9g,@x80,@x8s,@x8f,@x66,@x7l,@x9b,@xk3,@xkx,@xog,@xja,@xyn,@x33,@xdd,@xai,@xjk,@x9f,@xd6,@x7o,@xa3,@xsd,@xae⟩
theorem MD : type_of% (AI @MD0 @MD1) :=
 ⟨@MD0,@MD1⟩
end Ev
end Go.Proofs.Ytppdfjdfjfoddaa
