/-
  What the evaluator is told of each function, and each function's code as an equation. Written by a program.
-/
import Derived.Test.YtejmccgfigiadaaGreatEvPrim
import Derived.Test.YtejmccgfigiadaaGreatChecked
set_option maxRecDepth 100000
namespace Go.Proofs.YtejmccgfigiadaaGreat
namespace Ev
def aN:Nat → Nat → List Bool
 | 0,_ => []
 | n + 1,k => (k % 2 == 1) :: aN n (k / 2)
noncomputable def aMW:List (Nat × Hint):=[
 (5,{ mode:=1,exp:=false,thaw:=[],live:=aN 0 0 }),
 (12,{ mode:=1,exp:=false,thaw:=[],live:=aN 0 0 }),
 (13,{ mode:=2,exp:=false,thaw:=[],live:=aN 72 8176 }),
 (14,{ mode:=2,exp:=true,thaw:=[],live:=aN 0 0 }),
 (15,{ mode:=3,exp:=true,thaw:=[],live:=aN 68 1000796099450352 }),
 (17,{ mode:=1,exp:=false,thaw:=[],live:=aN 0 0 }),
 (21,{ mode:=1,exp:=false,thaw:=[],live:=aN 48 1496 }),
 (22,{ mode:=1,exp:=false,thaw:=[],live:=aN 41 469762264 }),
 (23,{ mode:=1,exp:=false,thaw:=[],live:=aN 0 0 }),
 (24,{ mode:=1,exp:=false,thaw:=[],live:=aN 0 0 }),
 (28,{ mode:=1,exp:=false,thaw:=[],live:=aN 26 98323 }),
 (30,{ mode:=3,exp:=true,thaw:=[0,0,0,2],live:=aN 31 12302 }),
 (31,{ mode:=3,exp:=true,thaw:=[],live:=aN 47 49214 }),
 (36,{ mode:=1,exp:=false,thaw:=[],live:=aN 0 0 }),
 (39,{ mode:=1,exp:=false,thaw:=[],live:=aN 27 51 }),
 (40,{ mode:=1,exp:=false,thaw:=[],live:=aN 0 0 }),
 (41,{ mode:=1,exp:=false,thaw:=[],live:=aN 44 30 }),
 (42,{ mode:=2,exp:=false,thaw:=[],live:=aN 32 60 }),
 (43,{ mode:=2,exp:=false,thaw:=[],live:=aN 47 62 }),
 (44,{ mode:=2,exp:=false,thaw:=[],live:=aN 47 498 }),
 (45,{ mode:=0,exp:=false,thaw:=[],live:=aN 47 115 }),
 (46,{ mode:=2,exp:=true,thaw:=(W4 (W2 (W1 [1002]))),live:=aN 23 29 }),
 (47,{ mode:=2,exp:=true,thaw:=[],live:=aN 22 29 }),
 (48,{ mode:=1,exp:=false,thaw:=[],live:=aN 65 1972248982323214 }),
 (49,{ mode:=2,exp:=false,thaw:=(W8 (W4 [2002])),live:=aN 48 3787457267 }),
 (50,{ mode:=0,exp:=false,thaw:=[],live:=aN 0 0 }),
 (51,{ mode:=0,exp:=true,thaw:=[],live:=aN 0 0 }),
 (52,{ mode:=1,exp:=false,thaw:=[],live:=aN 0 0 }),
 (53,{ mode:=1,exp:=false,thaw:=[],live:=aN 27 51 }),
 (54,{ mode:=1,exp:=false,thaw:=[],live:=aN 26 51 }),
 (58,{ mode:=1,exp:=false,thaw:=[],live:=aN 0 0 }),
 (59,{ mode:=1,exp:=false,thaw:=[],live:=aN 0 0 }),
 (60,{ mode:=1,exp:=false,thaw:=[],live:=aN 0 0 }),
 (64,{ mode:=1,exp:=false,thaw:=[],live:=aN 0 0 }),
 (65,{ mode:=1,exp:=false,thaw:=[],live:=aN 0 0 }),
 (66,{ mode:=1,exp:=false,thaw:=[],live:=aN 0 0 }),
 (68,{ mode:=1,exp:=false,thaw:=[],live:=aN 0 0 }),
 (69,{ mode:=0,exp:=false,thaw:=[],live:=aN 0 0 }),
 (70,{ mode:=1,exp:=false,thaw:=[],live:=aN 0 0 }),
 (71,{ mode:=1,exp:=false,thaw:=[],live:=aN 0 0 }),
 (76,{ mode:=1,exp:=false,thaw:=[],live:=aN 35 6291570 }),
 (77,{ mode:=1,exp:=false,thaw:=[],live:=aN 0 0 }),
 (80,{ mode:=1,exp:=false,thaw:=[],live:=aN 0 0 }),
 (81,{ mode:=1,exp:=false,thaw:=[],live:=aN 0 0 }),
 (82,{ mode:=1,exp:=false,thaw:=[],live:=aN 31 197 }),
 (83,{ mode:=2,exp:=false,thaw:=[],live:=aN 18 29 }),
 (84,{ mode:=2,exp:=false,thaw:=[],live:=aN 69 254 }),
 (85,{ mode:=1,exp:=false,thaw:=[],live:=aN 0 0 }),
 (86,{ mode:=1,exp:=false,thaw:=[],live:=aN 0 0 }),
 (87,{ mode:=1,exp:=false,thaw:=[],live:=aN 18 51 }),
 (88,{ mode:=1,exp:=false,thaw:=[],live:=aN 0 0 }),
 (89,{ mode:=1,exp:=false,thaw:=[],live:=aN 27 115 }),
 (90,{ mode:=2,exp:=true,thaw:=[],live:=aN 22 29 }),
 (91,{ mode:=2,exp:=false,thaw:=[0,0,0,2],live:=aN 17 45 }),
 (92,{ mode:=1,exp:=false,thaw:=[],live:=aN 0 0 }),
 (93,{ mode:=2,exp:=false,thaw:=[],live:=aN 0 0 }),
 (94,{ mode:=0,exp:=false,thaw:=[],live:=aN 14 33 }),
 (95,{ mode:=1,exp:=false,thaw:=[],live:=aN 18 460 }),
 (96,{ mode:=1,exp:=false,thaw:=[],live:=aN 0 0 }),
 (97,{ mode:=1,exp:=false,thaw:=[],live:=aN 0 0 }),
 (98,{ mode:=1,exp:=false,thaw:=[],live:=aN 26 51 }),
 (100,{ mode:=1,exp:=false,thaw:=[],live:=aN 0 0 }),
 (105,{ mode:=1,exp:=false,thaw:=[],live:=aN 0 0 }),
 (106,{ mode:=0,exp:=false,thaw:=[],live:=aN 0 0 }),
 (107,{ mode:=0,exp:=false,thaw:=[],live:=aN 148 3103 }),
 (108,{ mode:=1,exp:=false,thaw:=[],live:=aN 0 0 }),
 (109,{ mode:=0,exp:=false,thaw:=[],live:=aN 0 0 }),
 (110,{ mode:=1,exp:=false,thaw:=[],live:=aN 19 403 }),
 (117,{ mode:=2,exp:=false,thaw:=[],live:=aN 54 240553558140 }),
 (118,{ mode:=0,exp:=false,thaw:=[],live:=aN 0 0 }),
 (119,{ mode:=1,exp:=false,thaw:=(W16 (W2 [2])),live:=aN 63 61632781151244 }),
 (120,{ mode:=0,exp:=false,thaw:=[],live:=aN 0 0 }),
 (123,{ mode:=1,exp:=false,thaw:=[],live:=aN 0 0 }),
 (124,{ mode:=2,exp:=false,thaw:=[],live:=aN 43 126 }),
 (125,{ mode:=1,exp:=false,thaw:=[],live:=aN 15 51 }),
 (126,{ mode:=1,exp:=false,thaw:=[],live:=aN 0 0 }),
 (127,{ mode:=1,exp:=false,thaw:=[],live:=aN 107 65534 }),
 (128,{ mode:=1,exp:=false,thaw:=[],live:=aN 0 0 }),
 (129,{ mode:=2,exp:=false,thaw:=[],live:=aN 0 0 }),
 (130,{ mode:=1,exp:=false,thaw:=[],live:=aN 0 0 }),
 (131,{ mode:=1,exp:=false,thaw:=[],live:=aN 0 0 }),
 (132,{ mode:=1,exp:=false,thaw:=[],live:=aN 0 0 }),
 (133,{ mode:=1,exp:=false,thaw:=[],live:=aN 21 206 }),
 (134,{ mode:=0,exp:=false,thaw:=[],live:=aN 0 0 }),
 (135,{ mode:=0,exp:=false,thaw:=[],live:=aN 53 783 }),
 (136,{ mode:=0,exp:=false,thaw:=[],live:=aN 60 7945 }),
 (137,{ mode:=0,exp:=false,thaw:=[],live:=aN 67 3843 }),
 (138,{ mode:=0,exp:=false,thaw:=[],live:=aN 0 0 }),
 (139,{ mode:=0,exp:=false,thaw:=[],live:=aN 34 769 }),
 (140,{ mode:=0,exp:=false,thaw:=[],live:=aN 141 7951 }),
 (141,{ mode:=0,exp:=false,thaw:=[],live:=aN 90 7187 }),
 (142,{ mode:=0,exp:=false,thaw:=[],live:=aN 178 15379 }),
 (143,{ mode:=1,exp:=false,thaw:=[],live:=aN 0 0 }),
 (144,{ mode:=1,exp:=false,thaw:=[],live:=aN 0 0 }),
 (151,{ mode:=0,exp:=false,thaw:=(W8 (W2 [2])),live:=aN 50 118331 }),
 (152,{ mode:=1,exp:=false,thaw:=[0,0,0,2],live:=aN 32 29 }),
 (153,{ mode:=1,exp:=false,thaw:=[],live:=aN 18 51 }),
 (154,{ mode:=2,exp:=false,thaw:=[],live:=aN 41 62 }),
 (155,{ mode:=2,exp:=false,thaw:=[],live:=aN 48 8142 }),
 (156,{ mode:=1,exp:=false,thaw:=[],live:=aN 64 196 }),
 (157,{ mode:=2,exp:=false,thaw:=[],live:=aN 33 115 }),
 (158,{ mode:=0,exp:=false,thaw:=[],live:=aN 35 115 }),
 (159,{ mode:=1,exp:=false,thaw:=[],live:=aN 25 115 }),
 (160,{ mode:=2,exp:=false,thaw:=[],live:=aN 64 31775 }),
 (161,{ mode:=1,exp:=false,thaw:=[],live:=aN 23 13 }),
 (162,{ mode:=1,exp:=false,thaw:=[],live:=aN 22 61 }),
 (163,{ mode:=1,exp:=false,thaw:=[],live:=aN 0 0 }),
 (164,{ mode:=1,exp:=false,thaw:=[],live:=aN 0 0 }),
 (165,{ mode:=0,exp:=false,thaw:=[],live:=aN 82 1053 }),
 (166,{ mode:=1,exp:=false,thaw:=[],live:=aN 0 0 }),
 (168,{ mode:=0,exp:=false,thaw:=[],live:=aN 0 0 }),
 (169,{ mode:=0,exp:=false,thaw:=[],live:=aN 0 0 }),
 (174,{ mode:=0,exp:=false,thaw:=[],live:=aN 28 13 }),
 (175,{ mode:=2,exp:=false,thaw:=[],live:=aN 62 32542 }),
 (176,{ mode:=1,exp:=false,thaw:=[],live:=aN 0 0 }),
 (177,{ mode:=1,exp:=false,thaw:=[],live:=aN 36 455 }),
 (178,{ mode:=1,exp:=false,thaw:=[],live:=aN 0 0 }),
 (179,{ mode:=1,exp:=false,thaw:=[],live:=aN 18 115 }),
 (180,{ mode:=0,exp:=false,thaw:=[],live:=aN 0 0 }),
 (182,{ mode:=2,exp:=false,thaw:=[],live:=aN 79 3852 })]
noncomputable def ZJ:List (TypeId × Nat):=[]
noncomputable def aCv:List (Nat × (List A → H → Option (A × H))):=[(50,vH 94 52),(69,CF 52)]
noncomputable def env:Env:={ P:=Tryz.prog,hint:=fun f => (aMW.lookup f).getD {},eqs:=ZJ,prim:=fun f => aCv.lookup f }
theorem iV:(env.hint 14).mode = 2:=kr
theorem l8:(env.hint 15).mode = 3:=kr
theorem rN:(env.hint 17).mode = 1:=kr
theorem xJ:(env.hint 23).mode = 1:=kr
theorem MX:(env.hint 24).mode = 1:=kr
theorem PL:(env.hint 30).mode = 3:=kr
theorem FB:(env.hint 31).mode = 3:=kr
theorem xS:(env.hint 36).mode = 1:=kr
theorem yI:(env.hint 45).mode = 0:=kr
theorem aCK:(env.hint 46).mode = 2:=kr
theorem aDh:(env.hint 47).mode = 2:=kr
theorem uO:(env.hint 50).mode = 0:=kr
theorem kL:(env.hint 51).mode = 0:=kr
theorem x4:(env.hint 59).mode = 1:=kr
theorem EQ:(env.hint 66).mode = 1:=kr
theorem p8:(env.hint 69).mode = 0:=kr
theorem p9:(env.hint 71).mode = 1:=kr
theorem MB:(env.hint 77).mode = 1:=kr
theorem MO:(env.hint 82).mode = 1:=kr
theorem BX:(env.hint 83).mode = 2:=kr
theorem aED:(env.hint 87).mode = 1:=kr
theorem KN:(env.hint 88).mode = 1:=kr
theorem X5:(env.hint 89).mode = 1:=kr
theorem aE8:(env.hint 90).mode = 2:=kr
theorem AE:(env.hint 91).mode = 2:=kr
theorem VD:(env.hint 95).mode = 1:=kr
theorem RF:(env.hint 98).mode = 1:=kr
theorem ST:(env.hint 105).mode = 1:=kr
theorem FX:(env.hint 109).mode = 0:=kr
theorem FZ:(env.hint 117).mode = 2:=kr
theorem F7:(env.hint 118).mode = 0:=kr
theorem lQ:(env.hint 119).mode = 1:=kr
theorem FO:(env.hint 125).mode = 1:=kr
theorem HH:(env.hint 127).mode = 1:=kr
theorem K5:(env.hint 134).mode = 0:=kr
theorem u9:(env.hint 151).mode = 0:=kr
theorem V6:(env.hint 152).mode = 1:=kr
theorem aEW:(env.hint 153).mode = 1:=kr
theorem YT:(env.hint 154).mode = 2:=kr
theorem ZX:(env.hint 155).mode = 2:=kr
theorem wA:(env.hint 156).mode = 1:=kr
theorem DT:(env.hint 157).mode = 2:=kr
theorem aCj:(env.hint 158).mode = 0:=kr
theorem m2:(env.hint 160).mode = 2:=kr
theorem P8:(env.hint 163).mode = 1:=kr
theorem RI:(env.hint 164).mode = 1:=kr
theorem uQ:(env.hint 174).mode = 0:=kr
theorem HL:(env.hint 175).mode = 2:=kr
theorem P6:(env.hint 176).mode = 1:=kr
theorem aB6:(env.hint 177).mode = 1:=kr
theorem GD:(env.hint 179).mode = 1:=kr
theorem BH:(env.hint 182).mode = 2:=kr
theorem MD0:type_of% (AI @xS (AI @yI (AI @x4 (AI @EQ (AI @MO (AI @BX (AI @KN @AE))))))) :=
 ⟨@xS,@yI,@x4,@EQ,@MO,@BX,@KN,@AE⟩
theorem MD1:type_of% (AI @RF (AI @FZ (AI @lQ (AI @FO (AI @wA (AI @DT (AI @P8 (AI @RI (AI @HL (AI @P6 (AI @GD @BH))))))))))) :=
 ⟨@RF,@FZ,@lQ,@FO,@wA,@DT,@P8,@RI,@HL,@P6,@GD,@BH⟩
theorem MD:type_of% (AI @MD0 @MD1) :=
 ⟨@MD0,@MD1⟩
end Ev
end Go.Proofs.YtejmccgfigiadaaGreat
