/-
  What the evaluator is told of each function, and each function's code as an equation. Written by a program.
-/
import Derived.Test.YtppdfjdfjfoddaaGreatEvPrim
import Derived.Test.YtppdfjdfjfoddaaGreatChecked
set_option maxRecDepth 100000
namespace Go.Proofs.YtppdfjdfjfoddaaGreat
namespace Ev
def aY:Nat → Nat → List Bool
 | 0,_ => []
 | n + 1,k => (k % 2 == 1) :: aY n (k / 2)
noncomputable def aUl:List (Nat × Hint):=[
 (3,{ mode:=1,exp:=false,thaw:=[],live:=aY 97 188 }),
 (4,{ mode:=2,exp:=false,thaw:=[],live:=aY 0 0 }),
 (5,{ mode:=3,exp:=true,thaw:=[0,0,0,2],live:=aY 31 12302 }),
 (6,{ mode:=1,exp:=false,thaw:=[],live:=aY 26 51 }),
 (7,{ mode:=2,exp:=false,thaw:=[],live:=aY 32 60 }),
 (8,{ mode:=1,exp:=false,thaw:=[],live:=aY 65 1972248982323214 }),
 (9,{ mode:=2,exp:=false,thaw:=[],live:=aY 0 0 }),
 (10,{ mode:=1,exp:=false,thaw:=[],live:=aY 0 0 }),
 (11,{ mode:=1,exp:=false,thaw:=[],live:=aY 35 6291570 }),
 (12,{ mode:=1,exp:=false,thaw:=[],live:=aY 0 0 }),
 (13,{ mode:=0,exp:=false,thaw:=[],live:=aY 28 29 }),
 (14,{ mode:=2,exp:=true,thaw:=[],live:=aY 0 0 }),
 (15,{ mode:=0,exp:=false,thaw:=[],live:=aY 0 0 }),
 (16,{ mode:=1,exp:=false,thaw:=[],live:=aY 0 0 }),
 (17,{ mode:=1,exp:=false,thaw:=[],live:=aY 44 30 }),
 (18,{ mode:=2,exp:=false,thaw:=[],live:=aY 69 254 }),
 (19,{ mode:=1,exp:=false,thaw:=[],live:=aY 0 0 }),
 (20,{ mode:=1,exp:=false,thaw:=[],live:=aY 0 0 }),
 (21,{ mode:=2,exp:=false,thaw:=[0,0,0,2],live:=aY 17 45 }),
 (22,{ mode:=2,exp:=false,thaw:=[],live:=aY 45 939524230 }),
 (23,{ mode:=1,exp:=false,thaw:=[],live:=aY 0 0 }),
 (24,{ mode:=0,exp:=false,thaw:=[],live:=aY 0 0 }),
 (25,{ mode:=1,exp:=false,thaw:=[],live:=aY 26 98323 }),
 (26,{ mode:=2,exp:=false,thaw:=[],live:=aY 54 240553558140 }),
 (27,{ mode:=1,exp:=false,thaw:=[],live:=aY 0 0 }),
 (28,{ mode:=1,exp:=false,thaw:=[],live:=aY 0 0 }),
 (29,{ mode:=0,exp:=false,thaw:=[],live:=aY 0 0 }),
 (30,{ mode:=0,exp:=false,thaw:=[],live:=aY 0 0 }),
 (31,{ mode:=0,exp:=false,thaw:=[0,0,0,0,0,0,0,0,0,0,0,0,0,0,0,0,0,0,0,0,0,0,0,0,0,0,0,0,0,0,0,0,0,0,0,0,0,0,0,0,0,0,0,0,0,0,0,0,0,0,0,0,0,0,0,0,0,0,0,0,0,0,0,0,0,0,0,0,0,0,0,0,0,0,0,0,0,0,0,0,0,0,0,0,0,0,0,0,0,0,0,0,0,1002],live:=aY 0 0 }),
 (32,{ mode:=0,exp:=false,thaw:=[],live:=aY 36 29 }),
 (33,{ mode:=0,exp:=false,thaw:=[0,0,0,0,0,0,0,0,0,0,0,0,0,0,0,0,0,0,0,0,0,0,0,0,0,0,0,0,0,0,0,0,0,0,0,0,0,0,0,0,0,0,0,0,0,0,0,0,0,0,0,0,0,0,0,0,0,0,0,0,0,0,0,0,0,0,0,0,0,0,0,0,0,0,0,0,0,0,0,0,0,0,0,1002,0,0,0,0,0,0,0,0,0,0,0,0,0,0,0,0,0,0,0,0,0,1002],live:=aY 114 112 }),
 (34,{ mode:=0,exp:=false,thaw:=[],live:=aY 148 3103 }),
 (35,{ mode:=1,exp:=false,thaw:=[],live:=aY 0 0 }),
 (36,{ mode:=1,exp:=false,thaw:=[],live:=aY 18 460 }),
 (37,{ mode:=1,exp:=false,thaw:=[],live:=aY 0 0 }),
 (38,{ mode:=1,exp:=false,thaw:=[],live:=aY 0 0 }),
 (39,{ mode:=1,exp:=false,thaw:=[],live:=aY 0 0 }),
 (40,{ mode:=1,exp:=false,thaw:=[],live:=aY 31 197 }),
 (41,{ mode:=2,exp:=false,thaw:=[],live:=aY 18 29 }),
 (42,{ mode:=2,exp:=false,thaw:=[],live:=aY 43 126 }),
 (43,{ mode:=1,exp:=false,thaw:=[],live:=aY 15 51 }),
 (44,{ mode:=1,exp:=false,thaw:=[],live:=aY 0 0 }),
 (45,{ mode:=1,exp:=false,thaw:=[],live:=aY 107 65534 }),
 (46,{ mode:=1,exp:=false,thaw:=[],live:=aY 0 0 }),
 (47,{ mode:=2,exp:=false,thaw:=[0,0,0,0,0,0,0,0,0,0,0,0,0,2,0,2],live:=aY 77 30064836366 }),
 (48,{ mode:=0,exp:=false,thaw:=[],live:=aY 0 0 }),
 (49,{ mode:=1,exp:=false,thaw:=[0,0,0,0,0,0,0,0,0,0,0,0,0,0,0,0,0,0,2],live:=aY 63 61632781151244 }),
 (50,{ mode:=0,exp:=false,thaw:=[],live:=aY 0 0 }),
 (51,{ mode:=2,exp:=false,thaw:=[],live:=aY 72 413 }),
 (52,{ mode:=0,exp:=false,thaw:=[],live:=aY 0 0 }),
 (53,{ mode:=2,exp:=false,thaw:=[],live:=aY 0 0 }),
 (54,{ mode:=0,exp:=false,thaw:=[],live:=aY 0 0 }),
 (55,{ mode:=0,exp:=false,thaw:=[],live:=aY 0 0 }),
 (56,{ mode:=2,exp:=true,thaw:=[0,0,0,0,0,0,0,0,0,0,0,0,0,0,0,0,0,0,0,0,0,0,0,0,0,0,0,0,1002],live:=aY 32 30 }),
 (57,{ mode:=0,exp:=false,thaw:=[],live:=aY 53 783 }),
 (58,{ mode:=0,exp:=false,thaw:=[],live:=aY 60 7945 }),
 (59,{ mode:=0,exp:=false,thaw:=[],live:=aY 67 3843 }),
 (60,{ mode:=0,exp:=false,thaw:=[],live:=aY 0 0 }),
 (61,{ mode:=0,exp:=false,thaw:=[],live:=aY 34 769 }),
 (62,{ mode:=0,exp:=false,thaw:=[],live:=aY 141 7951 }),
 (63,{ mode:=0,exp:=false,thaw:=[],live:=aY 90 7187 }),
 (64,{ mode:=0,exp:=false,thaw:=[],live:=aY 178 15379 }),
 (65,{ mode:=1,exp:=false,thaw:=[],live:=aY 0 0 }),
 (66,{ mode:=1,exp:=false,thaw:=[],live:=aY 0 0 }),
 (67,{ mode:=1,exp:=false,thaw:=[],live:=aY 0 0 }),
 (68,{ mode:=1,exp:=false,thaw:=[],live:=aY 0 0 }),
 (69,{ mode:=1,exp:=false,thaw:=[],live:=aY 0 0 }),
 (70,{ mode:=1,exp:=false,thaw:=[],live:=aY 18 51 }),
 (71,{ mode:=2,exp:=false,thaw:=[],live:=aY 41 62 }),
 (72,{ mode:=2,exp:=false,thaw:=[],live:=aY 48 8142 }),
 (73,{ mode:=1,exp:=false,thaw:=[],live:=aY 64 196 }),
 (74,{ mode:=2,exp:=false,thaw:=[],live:=aY 33 115 }),
 (75,{ mode:=0,exp:=false,thaw:=[],live:=aY 35 115 }),
 (76,{ mode:=1,exp:=false,thaw:=[],live:=aY 25 115 }),
 (77,{ mode:=2,exp:=false,thaw:=[],live:=aY 64 31775 }),
 (78,{ mode:=1,exp:=false,thaw:=[],live:=aY 0 0 }),
 (79,{ mode:=0,exp:=false,thaw:=[0,0,0,0,0,0,0,0,0,0,2],live:=aY 50 118331 }),
 (80,{ mode:=1,exp:=false,thaw:=[0,0,0,2],live:=aY 32 29 }),
 (81,{ mode:=2,exp:=false,thaw:=[],live:=aY 36 243 }),
 (82,{ mode:=1,exp:=false,thaw:=[],live:=aY 14 29 }),
 (83,{ mode:=2,exp:=false,thaw:=[],live:=aY 36 124 }),
 (84,{ mode:=1,exp:=false,thaw:=[],live:=aY 54 94 }),
 (85,{ mode:=0,exp:=false,thaw:=[],live:=aY 49 964 }),
 (86,{ mode:=0,exp:=true,thaw:=[0,0,0,0,0,0,0,0,0,0,0,0,0,0,0,0,0,0,0,0,0,0,0,0,0,0,0,0,0,0,0,0,0,0,0,0,0,1002],live:=aY 49 4037 }),
 (87,{ mode:=0,exp:=false,thaw:=[],live:=aY 82 1053 }),
 (88,{ mode:=1,exp:=false,thaw:=[],live:=aY 0 0 }),
 (90,{ mode:=0,exp:=false,thaw:=[],live:=aY 0 0 }),
 (91,{ mode:=0,exp:=false,thaw:=[],live:=aY 0 0 }),
 (92,{ mode:=2,exp:=false,thaw:=[],live:=aY 62 32542 }),
 (93,{ mode:=1,exp:=false,thaw:=[],live:=aY 0 0 }),
 (94,{ mode:=1,exp:=false,thaw:=[],live:=aY 36 455 }),
 (95,{ mode:=1,exp:=false,thaw:=[],live:=aY 0 0 }),
 (96,{ mode:=0,exp:=false,thaw:=[],live:=aY 28 13 }),
 (97,{ mode:=1,exp:=false,thaw:=[],live:=aY 27 60 }),
 (98,{ mode:=1,exp:=false,thaw:=[],live:=aY 67 125 }),
 (99,{ mode:=1,exp:=false,thaw:=[],live:=aY 31 13 }),
 (100,{ mode:=0,exp:=false,thaw:=[],live:=aY 0 0 }),
 (101,{ mode:=2,exp:=false,thaw:=[],live:=aY 79 3852 }),
 (102,{ mode:=1,exp:=false,thaw:=[],live:=aY 0 0 }),
 (103,{ mode:=1,exp:=false,thaw:=[],live:=aY 18 115 })]
noncomputable def aD5:List (TypeId × Nat):=[]
noncomputable def aHe:List (Nat × (List A → H → Option (A × H))):=[(15,LG 16)]
noncomputable def env:Env:={ P:=Tryz.prog,hint:=fun f => (aUl.lookup f).getD {},eqs:=aD5,prim:=fun f => aHe.lookup f }
theorem HI:(env.hint 3).mode = 1:=by kernel_rfl
theorem AF:(env.hint 4).mode = 2:=by kernel_rfl
theorem rE:(env.hint 5).mode = 3:=by kernel_rfl
theorem rH:(env.hint 6).mode = 1:=by kernel_rfl
theorem HC:(env.hint 7).mode = 2:=by kernel_rfl
theorem kN:(env.hint 8).mode = 1:=by kernel_rfl
theorem AW:(env.hint 9).mode = 2:=by kernel_rfl
theorem oF:(env.hint 10).mode = 1:=by kernel_rfl
theorem oI:(env.hint 11).mode = 1:=by kernel_rfl
theorem H0:(env.hint 12).mode = 1:=by kernel_rfl
theorem V8:(env.hint 13).mode = 0:=by kernel_rfl
theorem P8:(env.hint 14).mode = 2:=by kernel_rfl
theorem jS:(env.hint 15).mode = 0:=by kernel_rfl
theorem NH:(env.hint 16).mode = 1:=by kernel_rfl
theorem kM:(env.hint 17).mode = 1:=by kernel_rfl
theorem S0:(env.hint 18).mode = 2:=by kernel_rfl
theorem oG:(env.hint 19).mode = 1:=by kernel_rfl
theorem HK:(env.hint 20).mode = 1:=by kernel_rfl
theorem JW:(env.hint 21).mode = 2:=by kernel_rfl
theorem aAj:(env.hint 22).mode = 2:=by kernel_rfl
theorem y7:(env.hint 23).mode = 1:=by kernel_rfl
theorem BL:(env.hint 24).mode = 0:=by kernel_rfl
theorem HL:(env.hint 25).mode = 1:=by kernel_rfl
theorem QO:(env.hint 26).mode = 2:=by kernel_rfl
theorem NQ:(env.hint 27).mode = 1:=by kernel_rfl
theorem LD:(env.hint 28).mode = 1:=by kernel_rfl
theorem TX:(env.hint 29).mode = 0:=by kernel_rfl
theorem HJ:(env.hint 30).mode = 0:=by kernel_rfl
theorem OC:(env.hint 31).mode = 0:=by kernel_rfl
theorem W5:(env.hint 32).mode = 0:=by kernel_rfl
theorem PZ:(env.hint 33).mode = 0:=by kernel_rfl
theorem oU:(env.hint 34).mode = 0:=by kernel_rfl
theorem F1:(env.hint 35).mode = 1:=by kernel_rfl
theorem uP:(env.hint 36).mode = 1:=by kernel_rfl
theorem CB:(env.hint 37).mode = 1:=by kernel_rfl
theorem wR:(env.hint 38).mode = 1:=by kernel_rfl
theorem H3:(env.hint 39).mode = 1:=by kernel_rfl
theorem JO:(env.hint 40).mode = 1:=by kernel_rfl
theorem J7:(env.hint 41).mode = 2:=by kernel_rfl
theorem PN:(env.hint 42).mode = 2:=by kernel_rfl
theorem D0:(env.hint 43).mode = 1:=by kernel_rfl
theorem rU:(env.hint 44).mode = 1:=by kernel_rfl
theorem EP:(env.hint 45).mode = 1:=by kernel_rfl
theorem aD0:(env.hint 46).mode = 1:=by kernel_rfl
theorem t8:(env.hint 47).mode = 2:=by kernel_rfl
theorem O8:(env.hint 48).mode = 0:=by kernel_rfl
theorem zE:(env.hint 49).mode = 1:=by kernel_rfl
theorem tY:(env.hint 50).mode = 0:=by kernel_rfl
theorem z7:(env.hint 51).mode = 2:=by kernel_rfl
theorem N0:(env.hint 52).mode = 0:=by kernel_rfl
theorem P9:(env.hint 53).mode = 2:=by kernel_rfl
theorem TP:(env.hint 54).mode = 0:=by kernel_rfl
theorem LF:(env.hint 55).mode = 0:=by kernel_rfl
theorem GN:(env.hint 56).mode = 2:=by kernel_rfl
theorem mD:(env.hint 57).mode = 0:=by kernel_rfl
theorem oB:(env.hint 58).mode = 0:=by kernel_rfl
theorem mI:(env.hint 59).mode = 0:=by kernel_rfl
theorem nA:(env.hint 60).mode = 0:=by kernel_rfl
theorem mT:(env.hint 61).mode = 0:=by kernel_rfl
theorem jQ:(env.hint 62).mode = 0:=by kernel_rfl
theorem lP:(env.hint 63).mode = 0:=by kernel_rfl
theorem nR:(env.hint 64).mode = 0:=by kernel_rfl
theorem AO:(env.hint 65).mode = 1:=by kernel_rfl
theorem A9:(env.hint 66).mode = 1:=by kernel_rfl
theorem GG:(env.hint 67).mode = 1:=by kernel_rfl
theorem z6:(env.hint 68).mode = 1:=by kernel_rfl
theorem UQ:(env.hint 69).mode = 1:=by kernel_rfl
theorem OP:(env.hint 70).mode = 1:=by kernel_rfl
theorem D9:(env.hint 71).mode = 2:=by kernel_rfl
theorem EA:(env.hint 72).mode = 2:=by kernel_rfl
theorem ED:(env.hint 73).mode = 1:=by kernel_rfl
theorem N3:(env.hint 74).mode = 2:=by kernel_rfl
theorem G9:(env.hint 75).mode = 0:=by kernel_rfl
theorem pZ:(env.hint 76).mode = 1:=by kernel_rfl
theorem nT:(env.hint 77).mode = 2:=by kernel_rfl
theorem UB:(env.hint 78).mode = 1:=by kernel_rfl
theorem pK:(env.hint 79).mode = 0:=by kernel_rfl
theorem A6:(env.hint 80).mode = 1:=by kernel_rfl
theorem TT:(env.hint 81).mode = 2:=by kernel_rfl
theorem CR:(env.hint 82).mode = 1:=by kernel_rfl
theorem P1:(env.hint 83).mode = 2:=by kernel_rfl
theorem xS:(env.hint 84).mode = 1:=by kernel_rfl
theorem TZ:(env.hint 85).mode = 0:=by kernel_rfl
theorem N4:(env.hint 86).mode = 0:=by kernel_rfl
theorem oC:(env.hint 87).mode = 0:=by kernel_rfl
theorem tI:(env.hint 88).mode = 1:=by kernel_rfl
theorem lJ:(env.hint 90).mode = 0:=by kernel_rfl
theorem pC:(env.hint 91).mode = 0:=by kernel_rfl
theorem QP:(env.hint 92).mode = 2:=by kernel_rfl
theorem eL:(env.hint 93).mode = 1:=by kernel_rfl
theorem tB:(env.hint 94).mode = 1:=by kernel_rfl
theorem HH:(env.hint 95).mode = 1:=by kernel_rfl
theorem mL:(env.hint 96).mode = 0:=by kernel_rfl
theorem zL:(env.hint 97).mode = 1:=by kernel_rfl
theorem SM:(env.hint 98).mode = 1:=by kernel_rfl
theorem TC:(env.hint 99).mode = 1:=by kernel_rfl
theorem pD:(env.hint 100).mode = 0:=by kernel_rfl
theorem LH:(env.hint 101).mode = 2:=by kernel_rfl
theorem xX:(env.hint 102).mode = 1:=by kernel_rfl
theorem QD:(env.hint 103).mode = 1:=by kernel_rfl
theorem MD0:type_of% (AI @HI (AI @AF (AI @rE (AI @rH (AI @HC (AI @kN (AI @AW (AI @oF (AI @oI (AI @H0 (AI @V8 (AI @P8 (AI @jS (AI @NH (AI @kM (AI @S0 (AI @oG (AI @HK (AI @JW (AI @aAj (AI @y7 (AI @BL (AI @HL (AI @QO (AI @NQ (AI @LD (AI @TX (AI @HJ (AI @OC (AI @W5 (AI @PZ (AI @oU (AI @F1 (AI @uP (AI @CB (AI @wR (AI @H3 (AI @JO (AI @J7 (AI @PN (AI @D0 (AI @rU (AI @EP (AI @aD0 (AI @t8 (AI @O8 (AI @zE (AI @tY (AI @z7 (AI @N0 (AI @P9 (AI @TP (AI @LF (AI @GN (AI @mD (AI @oB (AI @mI (AI @nA (AI @mT @jQ))))))))))))))))))))))))))))))))))))))))))))))))))))))))))) :=
 ⟨@HI,@AF,@rE,@rH,@HC,@kN,@AW,@oF,@oI,@H0,@V8,@P8,@jS,@NH,@kM,@S0,@oG,@HK,@JW,@aAj,@y7,@BL,@HL,@QO,@NQ,@LD,@TX,@HJ,@OC,@W5,@PZ,@oU,@F1,@uP,@CB,@wR,@H3,@JO,@J7,@PN,@D0,@rU,@EP,@aD0,@t8,@O8,@zE,@tY,@z7,@N0,@P9,@TP,@LF,@GN,@mD,@oB,@mI,@nA,@mT,@jQ⟩
theorem MD1:type_of% (AI @lP (AI @nR (AI @AO (AI @A9 (AI @GG (AI @z6 (AI @UQ (AI @OP (AI @D9 (AI @EA (AI @ED (AI @N3 (AI @G9 (AI @pZ (AI @nT (AI @UB (AI @pK (AI @A6 (AI @TT (AI @CR (AI @P1 (AI @xS (AI @TZ (AI @N4 (AI @oC (AI @tI (AI @lJ (AI @pC (AI @QP (AI @eL (AI @tB (AI @HH (AI @mL (AI @zL (AI @SM (AI @TC (AI @pD (AI @LH (AI @xX @QD))))))))))))))))))))))))))))))))))))))) :=
 ⟨@lP,@nR,@AO,@A9,@GG,@z6,@UQ,@OP,@D9,@EA,@ED,@N3,@G9,@pZ,@nT,@UB,@pK,@A6,@TT,@CR,@P1,@xS,@TZ,@N4,@oC,@tI,@lJ,@pC,@QP,@eL,@tB,@HH,@mL,@zL,@SM,@TC,@pD,@LH,@xX,@QD⟩
theorem MD:type_of% (AI @MD0 @MD1) :=
 ⟨@MD0,@MD1⟩
end Ev
end Go.Proofs.YtppdfjdfjfoddaaGreat
