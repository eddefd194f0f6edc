/-
  What the evaluator is told of each function, and each function's code as an equation. Written by a program.
-/
import Derived.Test.YtejmccgfigiadaaGreatEvPrim
import Derived.Test.YtejmccgfigiadaaGreatChecked
set_option maxRecDepth 100000
namespace Go.Proofs.YtejmccgfigiadaaGreat
namespace Ev
def aR:Nat → Nat → List Bool
 | 0,_ => []
 | n + 1,k => (k % 2 == 1) :: aR n (k / 2)
noncomputable def aNW:List (Nat × Hint):=[
 (6,{ mode:=1,exp:=false,thaw:=[],live:=aR 85 3620 }),
 (13,{ mode:=2,exp:=false,thaw:=[],live:=aR 72 8176 }),
 (15,{ mode:=3,exp:=true,thaw:=[],live:=aR 68 1000796099450352 }),
 (25,{ mode:=2,exp:=false,thaw:=[],live:=aR 0 0 }),
 (26,{ mode:=1,exp:=false,thaw:=[],live:=aR 26 51 }),
 (27,{ mode:=1,exp:=false,thaw:=[],live:=aR 18 51 }),
 (30,{ mode:=3,exp:=true,thaw:=[0,0,0,2],live:=aR 31 12302 }),
 (31,{ mode:=3,exp:=true,thaw:=[],live:=aR 47 49214 }),
 (41,{ mode:=1,exp:=false,thaw:=[],live:=aR 44 30 }),
 (42,{ mode:=2,exp:=false,thaw:=[],live:=aR 32 60 }),
 (43,{ mode:=2,exp:=false,thaw:=[],live:=aR 47 62 }),
 (44,{ mode:=2,exp:=false,thaw:=[],live:=aR 47 498 }),
 (45,{ mode:=0,exp:=false,thaw:=[],live:=aR 47 115 }),
 (48,{ mode:=1,exp:=false,thaw:=[],live:=aR 65 1972248982323214 }),
 (49,{ mode:=2,exp:=false,thaw:=(W8 (W4 [2002])),live:=aR 48 3787457267 }),
 (50,{ mode:=0,exp:=false,thaw:=[],live:=aR 0 0 }),
 (51,{ mode:=0,exp:=true,thaw:=[],live:=aR 0 0 }),
 (52,{ mode:=1,exp:=false,thaw:=[],live:=aR 0 0 }),
 (61,{ mode:=2,exp:=true,thaw:=[],live:=aR 0 0 }),
 (62,{ mode:=0,exp:=false,thaw:=[],live:=aR 0 0 }),
 (63,{ mode:=0,exp:=false,thaw:=[],live:=aR 0 0 }),
 (64,{ mode:=1,exp:=false,thaw:=[],live:=aR 0 0 }),
 (65,{ mode:=1,exp:=false,thaw:=[],live:=aR 0 0 }),
 (68,{ mode:=1,exp:=false,thaw:=[],live:=aR 0 0 }),
 (69,{ mode:=0,exp:=false,thaw:=[],live:=aR 0 0 }),
 (70,{ mode:=1,exp:=false,thaw:=[],live:=aR 0 0 }),
 (71,{ mode:=1,exp:=false,thaw:=[],live:=aR 0 0 }),
 (72,{ mode:=0,exp:=false,thaw:=(W32 (W32 (W16 (W8 (W4 (W1 [1002])))))),live:=aR 0 0 }),
 (73,{ mode:=0,exp:=false,thaw:=[],live:=aR 0 0 }),
 (74,{ mode:=0,exp:=false,thaw:=[],live:=aR 0 0 }),
 (77,{ mode:=1,exp:=false,thaw:=[],live:=aR 0 0 }),
 (81,{ mode:=1,exp:=false,thaw:=[],live:=aR 0 0 }),
 (82,{ mode:=1,exp:=false,thaw:=[],live:=aR 31 197 }),
 (83,{ mode:=2,exp:=false,thaw:=[],live:=aR 18 29 }),
 (84,{ mode:=2,exp:=false,thaw:=[],live:=aR 69 254 }),
 (85,{ mode:=1,exp:=false,thaw:=[],live:=aR 0 0 }),
 (86,{ mode:=1,exp:=false,thaw:=[],live:=aR 0 0 }),
 (87,{ mode:=1,exp:=false,thaw:=[],live:=aR 18 51 }),
 (88,{ mode:=1,exp:=false,thaw:=[],live:=aR 0 0 }),
 (89,{ mode:=1,exp:=false,thaw:=[],live:=aR 27 115 }),
 (91,{ mode:=2,exp:=false,thaw:=[0,0,0,2],live:=aR 17 45 }),
 (92,{ mode:=1,exp:=false,thaw:=[],live:=aR 0 0 }),
 (93,{ mode:=2,exp:=false,thaw:=[],live:=aR 0 0 }),
 (94,{ mode:=0,exp:=false,thaw:=[],live:=aR 14 33 }),
 (95,{ mode:=1,exp:=false,thaw:=[],live:=aR 18 460 }),
 (96,{ mode:=1,exp:=false,thaw:=[],live:=aR 0 0 }),
 (97,{ mode:=1,exp:=false,thaw:=[],live:=aR 0 0 }),
 (101,{ mode:=0,exp:=false,thaw:=(W32 (W32 (W16 (W2 (W1 [1002,0,0,0,0,0,0,0,0,0,0,0,0,0,0,0,0,0,0,0,0,0,1002]))))),live:=aR 114 112 }),
 (102,{ mode:=0,exp:=false,thaw:=[],live:=aR 36 29 }),
 (103,{ mode:=0,exp:=true,thaw:=(W32 (W4 (W1 [1002]))),live:=aR 49 4037 }),
 (104,{ mode:=0,exp:=false,thaw:=[],live:=aR 0 0 }),
 (105,{ mode:=1,exp:=false,thaw:=[],live:=aR 0 0 }),
 (106,{ mode:=0,exp:=false,thaw:=[],live:=aR 0 0 }),
 (107,{ mode:=0,exp:=false,thaw:=[],live:=aR 148 3103 }),
 (108,{ mode:=1,exp:=false,thaw:=[],live:=aR 0 0 }),
 (109,{ mode:=0,exp:=false,thaw:=[],live:=aR 0 0 }),
 (110,{ mode:=1,exp:=false,thaw:=[],live:=aR 19 403 }),
 (111,{ mode:=2,exp:=true,thaw:=(W16 (W8 (W4 [1002]))),live:=aR 32 30 }),
 (112,{ mode:=2,exp:=false,thaw:=[],live:=aR 72 413 }),
 (113,{ mode:=0,exp:=false,thaw:=[],live:=aR 0 0 }),
 (114,{ mode:=2,exp:=false,thaw:=[],live:=aR 0 0 }),
 (115,{ mode:=0,exp:=false,thaw:=[],live:=aR 0 0 }),
 (117,{ mode:=2,exp:=false,thaw:=[],live:=aR 54 240553558140 }),
 (118,{ mode:=0,exp:=false,thaw:=[],live:=aR 0 0 }),
 (119,{ mode:=1,exp:=false,thaw:=(W16 (W2 [2])),live:=aR 63 61632781151244 }),
 (120,{ mode:=0,exp:=false,thaw:=[],live:=aR 0 0 }),
 (123,{ mode:=1,exp:=false,thaw:=[],live:=aR 0 0 }),
 (124,{ mode:=2,exp:=false,thaw:=[],live:=aR 43 126 }),
 (125,{ mode:=1,exp:=false,thaw:=[],live:=aR 15 51 }),
 (126,{ mode:=1,exp:=false,thaw:=[],live:=aR 0 0 }),
 (127,{ mode:=1,exp:=false,thaw:=[],live:=aR 107 65534 }),
 (128,{ mode:=1,exp:=false,thaw:=[],live:=aR 0 0 }),
 (129,{ mode:=2,exp:=false,thaw:=[],live:=aR 0 0 }),
 (130,{ mode:=1,exp:=false,thaw:=[],live:=aR 0 0 }),
 (131,{ mode:=1,exp:=false,thaw:=[],live:=aR 0 0 }),
 (134,{ mode:=0,exp:=false,thaw:=[],live:=aR 0 0 }),
 (135,{ mode:=0,exp:=false,thaw:=[],live:=aR 53 783 }),
 (136,{ mode:=0,exp:=false,thaw:=[],live:=aR 60 7945 }),
 (137,{ mode:=0,exp:=false,thaw:=[],live:=aR 67 3843 }),
 (138,{ mode:=0,exp:=false,thaw:=[],live:=aR 0 0 }),
 (139,{ mode:=0,exp:=false,thaw:=[],live:=aR 34 769 }),
 (140,{ mode:=0,exp:=false,thaw:=[],live:=aR 141 7951 }),
 (141,{ mode:=0,exp:=false,thaw:=[],live:=aR 90 7187 }),
 (142,{ mode:=0,exp:=false,thaw:=[],live:=aR 178 15379 }),
 (143,{ mode:=1,exp:=false,thaw:=[],live:=aR 0 0 }),
 (144,{ mode:=1,exp:=false,thaw:=[],live:=aR 0 0 }),
 (145,{ mode:=2,exp:=false,thaw:=[],live:=aR 36 243 }),
 (146,{ mode:=1,exp:=false,thaw:=[],live:=aR 14 29 }),
 (147,{ mode:=2,exp:=false,thaw:=[],live:=aR 36 124 }),
 (148,{ mode:=1,exp:=false,thaw:=[],live:=aR 54 94 }),
 (149,{ mode:=0,exp:=false,thaw:=[],live:=aR 49 964 }),
 (151,{ mode:=0,exp:=false,thaw:=(W8 (W2 [2])),live:=aR 50 118331 }),
 (152,{ mode:=1,exp:=false,thaw:=[0,0,0,2],live:=aR 32 29 }),
 (153,{ mode:=1,exp:=false,thaw:=[],live:=aR 18 51 }),
 (154,{ mode:=2,exp:=false,thaw:=[],live:=aR 41 62 }),
 (155,{ mode:=2,exp:=false,thaw:=[],live:=aR 48 8142 }),
 (156,{ mode:=1,exp:=false,thaw:=[],live:=aR 64 196 }),
 (157,{ mode:=2,exp:=false,thaw:=[],live:=aR 33 115 }),
 (158,{ mode:=0,exp:=false,thaw:=[],live:=aR 35 115 }),
 (159,{ mode:=1,exp:=false,thaw:=[],live:=aR 25 115 }),
 (160,{ mode:=2,exp:=false,thaw:=[],live:=aR 64 31775 }),
 (161,{ mode:=1,exp:=false,thaw:=[],live:=aR 23 13 }),
 (163,{ mode:=1,exp:=false,thaw:=[],live:=aR 0 0 }),
 (164,{ mode:=1,exp:=false,thaw:=[],live:=aR 0 0 }),
 (165,{ mode:=0,exp:=false,thaw:=[],live:=aR 82 1053 }),
 (166,{ mode:=1,exp:=false,thaw:=[],live:=aR 0 0 }),
 (168,{ mode:=0,exp:=false,thaw:=[],live:=aR 0 0 }),
 (169,{ mode:=0,exp:=false,thaw:=[],live:=aR 0 0 }),
 (170,{ mode:=1,exp:=false,thaw:=[],live:=aR 27 60 }),
 (171,{ mode:=1,exp:=false,thaw:=[],live:=aR 67 125 }),
 (172,{ mode:=1,exp:=false,thaw:=[],live:=aR 31 13 }),
 (174,{ mode:=0,exp:=false,thaw:=[],live:=aR 28 13 }),
 (175,{ mode:=2,exp:=false,thaw:=[],live:=aR 62 32542 }),
 (176,{ mode:=1,exp:=false,thaw:=[],live:=aR 0 0 }),
 (177,{ mode:=1,exp:=false,thaw:=[],live:=aR 36 455 }),
 (179,{ mode:=1,exp:=false,thaw:=[],live:=aR 18 115 }),
 (180,{ mode:=0,exp:=false,thaw:=[],live:=aR 0 0 }),
 (182,{ mode:=2,exp:=false,thaw:=[],live:=aR 79 3852 })]
noncomputable def aAc:List (TypeId × Nat):=[]
noncomputable def aDc:List (Nat × (List A → H → Option (A × H))):=[(50,xO 94 52),(69,DY 52)]
noncomputable def env:Env:={ P:=Tryz.prog,hint:=fun f => (aNW.lookup f).getD {},eqs:=aAc,prim:=fun f => aDc.lookup f }
theorem tM:(env.hint 15).mode = 3:=kr
theorem aAQ:(env.hint 26).mode = 1:=kr
theorem aAu:(env.hint 27).mode = 1:=kr
theorem Q5:(env.hint 30).mode = 3:=kr
theorem G3:(env.hint 31).mode = 3:=kr
theorem z8:(env.hint 45).mode = 0:=kr
theorem wJ:(env.hint 50).mode = 0:=kr
theorem mH:(env.hint 51).mode = 0:=kr
theorem F6:(env.hint 63).mode = 0:=kr
theorem rY:(env.hint 69).mode = 0:=kr
theorem r6:(env.hint 71).mode = 1:=kr
theorem AU:(env.hint 73).mode = 0:=kr
theorem ND:(env.hint 77).mode = 1:=kr
theorem N0:(env.hint 82).mode = 1:=kr
theorem D9:(env.hint 83).mode = 2:=kr
theorem aDN:(env.hint 87).mode = 1:=kr
theorem K3:(env.hint 88).mode = 1:=kr
theorem W6:(env.hint 89).mode = 1:=kr
theorem CY:(env.hint 91).mode = 2:=kr
theorem YF:(env.hint 95).mode = 1:=kr
theorem CM:(env.hint 104).mode = 0:=kr
theorem TQ:(env.hint 105).mode = 1:=kr
theorem IT:(env.hint 109).mode = 0:=kr
theorem LG:(env.hint 111).mode = 2:=kr
theorem HE:(env.hint 117).mode = 2:=kr
theorem IE:(env.hint 118).mode = 0:=kr
theorem mX:(env.hint 119).mode = 1:=kr
theorem H7:(env.hint 125).mode = 1:=kr
theorem HH:(env.hint 127).mode = 1:=kr
theorem MK:(env.hint 134).mode = 0:=kr
theorem wS:(env.hint 151).mode = 0:=kr
theorem XM:(env.hint 152).mode = 1:=kr
theorem aGi:(env.hint 153).mode = 1:=kr
theorem aAM:(env.hint 154).mode = 2:=kr
theorem aAy:(env.hint 155).mode = 2:=kr
theorem xZ:(env.hint 156).mode = 1:=kr
theorem GH:(env.hint 157).mode = 2:=kr
theorem aCW:(env.hint 158).mode = 0:=kr
theorem oP:(env.hint 160).mode = 2:=kr
theorem wL:(env.hint 174).mode = 0:=kr
theorem IO:(env.hint 175).mode = 2:=kr
theorem SG:(env.hint 176).mode = 1:=kr
theorem aC1:(env.hint 177).mode = 1:=kr
theorem HL:(env.hint 179).mode = 1:=kr
theorem CR:(env.hint 182).mode = 2:=kr
theorem MD0:type_of% (AI @z8 (AI @F6 (AI @AU (AI @N0 (AI @D9 (AI @K3 (AI @CY @CM))))))) :=
 ⟨@z8,@F6,@AU,@N0,@D9,@K3,@CY,@CM⟩
theorem MD1:type_of% (AI @HE (AI @mX (AI @H7 (AI @xZ (AI @GH (AI @IO (AI @SG (AI @HL @CR)))))))) :=
 ⟨@HE,@mX,@H7,@xZ,@GH,@IO,@SG,@HL,@CR⟩
theorem MD:type_of% (AI @MD0 @MD1) :=
 ⟨@MD0,@MD1⟩
end Ev
end Go.Proofs.YtejmccgfigiadaaGreat
