/-
  What the evaluator is told of each function, and each function's code as an equation. Written by a program.
-/
import Derived.Test.YtejmccgfigiadaaGreatEvPrim
import Derived.Test.YtejmccgfigiadaaGreatChecked
set_option maxRecDepth 100000
namespace Go.Proofs.YtejmccgfigiadaaGreat
namespace Ev
def aZ:Nat → Nat → List Bool
 | 0,_ => []
 | n + 1,k => (k % 2 == 1) :: aZ n (k / 2)
noncomputable def a0O:List (Nat × Hint):=[
 (4,{ mode:=1,exp:=false,thaw:=[],live:=aZ 0 0 }),
 (12,{ mode:=1,exp:=false,thaw:=[],live:=aZ 0 0 }),
 (13,{ mode:=2,exp:=false,thaw:=[],live:=aZ 72 8176 }),
 (14,{ mode:=2,exp:=true,thaw:=[],live:=aZ 0 0 }),
 (15,{ mode:=3,exp:=true,thaw:=[],live:=aZ 68 1000796099450352 }),
 (17,{ mode:=1,exp:=false,thaw:=[],live:=aZ 0 0 }),
 (21,{ mode:=1,exp:=false,thaw:=[],live:=aZ 48 1496 }),
 (22,{ mode:=1,exp:=false,thaw:=[],live:=aZ 41 469762264 }),
 (28,{ mode:=1,exp:=false,thaw:=[],live:=aZ 26 98323 }),
 (30,{ mode:=3,exp:=true,thaw:=[0,0,0,2],live:=aZ 31 12302 }),
 (31,{ mode:=3,exp:=true,thaw:=[],live:=aZ 47 49214 }),
 (36,{ mode:=1,exp:=false,thaw:=[],live:=aZ 0 0 }),
 (39,{ mode:=1,exp:=false,thaw:=[],live:=aZ 27 51 }),
 (40,{ mode:=1,exp:=false,thaw:=[],live:=aZ 0 0 }),
 (41,{ mode:=1,exp:=false,thaw:=[],live:=aZ 44 30 }),
 (42,{ mode:=2,exp:=false,thaw:=[],live:=aZ 32 60 }),
 (43,{ mode:=2,exp:=false,thaw:=[],live:=aZ 47 62 }),
 (44,{ mode:=2,exp:=false,thaw:=[],live:=aZ 47 498 }),
 (45,{ mode:=0,exp:=false,thaw:=[],live:=aZ 47 115 }),
 (46,{ mode:=2,exp:=true,thaw:=(W4 (W2 (W1 [1002]))),live:=aZ 23 29 }),
 (47,{ mode:=2,exp:=true,thaw:=[],live:=aZ 22 29 }),
 (48,{ mode:=1,exp:=false,thaw:=[],live:=aZ 65 1972248982323214 }),
 (49,{ mode:=2,exp:=false,thaw:=(W8 (W4 [2002])),live:=aZ 48 3787457267 }),
 (50,{ mode:=0,exp:=false,thaw:=[],live:=aZ 0 0 }),
 (51,{ mode:=0,exp:=true,thaw:=[],live:=aZ 0 0 }),
 (52,{ mode:=1,exp:=false,thaw:=[],live:=aZ 0 0 }),
 (53,{ mode:=1,exp:=false,thaw:=[],live:=aZ 27 51 }),
 (54,{ mode:=1,exp:=false,thaw:=[],live:=aZ 26 51 }),
 (58,{ mode:=1,exp:=false,thaw:=[],live:=aZ 0 0 }),
 (59,{ mode:=1,exp:=false,thaw:=[],live:=aZ 0 0 }),
 (60,{ mode:=1,exp:=false,thaw:=[],live:=aZ 0 0 }),
 (64,{ mode:=1,exp:=false,thaw:=[],live:=aZ 0 0 }),
 (65,{ mode:=1,exp:=false,thaw:=[],live:=aZ 0 0 }),
 (66,{ mode:=1,exp:=false,thaw:=[],live:=aZ 0 0 }),
 (68,{ mode:=1,exp:=false,thaw:=[],live:=aZ 0 0 }),
 (69,{ mode:=0,exp:=false,thaw:=[],live:=aZ 0 0 }),
 (70,{ mode:=1,exp:=false,thaw:=[],live:=aZ 0 0 }),
 (71,{ mode:=1,exp:=false,thaw:=[],live:=aZ 0 0 }),
 (76,{ mode:=1,exp:=false,thaw:=[],live:=aZ 35 6291570 }),
 (77,{ mode:=1,exp:=false,thaw:=[],live:=aZ 0 0 }),
 (80,{ mode:=1,exp:=false,thaw:=[],live:=aZ 0 0 }),
 (81,{ mode:=1,exp:=false,thaw:=[],live:=aZ 0 0 }),
 (82,{ mode:=1,exp:=false,thaw:=[],live:=aZ 31 197 }),
 (83,{ mode:=2,exp:=false,thaw:=[],live:=aZ 18 29 }),
 (84,{ mode:=2,exp:=false,thaw:=[],live:=aZ 69 254 }),
 (85,{ mode:=1,exp:=false,thaw:=[],live:=aZ 0 0 }),
 (86,{ mode:=1,exp:=false,thaw:=[],live:=aZ 0 0 }),
 (87,{ mode:=1,exp:=false,thaw:=[],live:=aZ 18 51 }),
 (88,{ mode:=1,exp:=false,thaw:=[],live:=aZ 0 0 }),
 (89,{ mode:=1,exp:=false,thaw:=[],live:=aZ 27 115 }),
 (90,{ mode:=2,exp:=true,thaw:=[],live:=aZ 22 29 }),
 (91,{ mode:=2,exp:=false,thaw:=[0,0,0,2],live:=aZ 17 45 }),
 (92,{ mode:=1,exp:=false,thaw:=[],live:=aZ 0 0 }),
 (93,{ mode:=2,exp:=false,thaw:=[],live:=aZ 0 0 }),
 (94,{ mode:=0,exp:=false,thaw:=[],live:=aZ 14 33 }),
 (95,{ mode:=1,exp:=false,thaw:=[],live:=aZ 18 460 }),
 (96,{ mode:=1,exp:=false,thaw:=[],live:=aZ 0 0 }),
 (97,{ mode:=1,exp:=false,thaw:=[],live:=aZ 0 0 }),
 (98,{ mode:=1,exp:=false,thaw:=[],live:=aZ 26 51 }),
 (100,{ mode:=1,exp:=false,thaw:=[],live:=aZ 0 0 }),
 (105,{ mode:=1,exp:=false,thaw:=[],live:=aZ 0 0 }),
 (106,{ mode:=0,exp:=false,thaw:=[],live:=aZ 0 0 }),
 (107,{ mode:=0,exp:=false,thaw:=[],live:=aZ 148 3103 }),
 (108,{ mode:=1,exp:=false,thaw:=[],live:=aZ 0 0 }),
 (109,{ mode:=0,exp:=false,thaw:=[],live:=aZ 0 0 }),
 (110,{ mode:=1,exp:=false,thaw:=[],live:=aZ 19 403 }),
 (117,{ mode:=2,exp:=false,thaw:=[],live:=aZ 54 240553558140 }),
 (118,{ mode:=0,exp:=false,thaw:=[],live:=aZ 0 0 }),
 (119,{ mode:=1,exp:=false,thaw:=(W16 (W2 [2])),live:=aZ 63 61632781151244 }),
 (120,{ mode:=0,exp:=false,thaw:=[],live:=aZ 0 0 }),
 (123,{ mode:=1,exp:=false,thaw:=[],live:=aZ 0 0 }),
 (124,{ mode:=2,exp:=false,thaw:=[],live:=aZ 43 126 }),
 (125,{ mode:=1,exp:=false,thaw:=[],live:=aZ 15 51 }),
 (126,{ mode:=1,exp:=false,thaw:=[],live:=aZ 0 0 }),
 (127,{ mode:=1,exp:=false,thaw:=[],live:=aZ 107 65534 }),
 (128,{ mode:=1,exp:=false,thaw:=[],live:=aZ 0 0 }),
 (129,{ mode:=2,exp:=false,thaw:=[],live:=aZ 0 0 }),
 (130,{ mode:=1,exp:=false,thaw:=[],live:=aZ 0 0 }),
 (131,{ mode:=1,exp:=false,thaw:=[],live:=aZ 0 0 }),
 (132,{ mode:=1,exp:=false,thaw:=[],live:=aZ 0 0 }),
 (133,{ mode:=1,exp:=false,thaw:=[],live:=aZ 21 206 }),
 (134,{ mode:=0,exp:=false,thaw:=[],live:=aZ 0 0 }),
 (135,{ mode:=0,exp:=false,thaw:=[],live:=aZ 53 783 }),
 (136,{ mode:=0,exp:=false,thaw:=[],live:=aZ 60 7945 }),
 (137,{ mode:=0,exp:=false,thaw:=[],live:=aZ 67 3843 }),
 (138,{ mode:=0,exp:=false,thaw:=[],live:=aZ 0 0 }),
 (139,{ mode:=0,exp:=false,thaw:=[],live:=aZ 34 769 }),
 (140,{ mode:=0,exp:=false,thaw:=[],live:=aZ 141 7951 }),
 (141,{ mode:=0,exp:=false,thaw:=[],live:=aZ 90 7187 }),
 (142,{ mode:=0,exp:=false,thaw:=[],live:=aZ 178 15379 }),
 (143,{ mode:=1,exp:=false,thaw:=[],live:=aZ 0 0 }),
 (144,{ mode:=1,exp:=false,thaw:=[],live:=aZ 0 0 }),
 (151,{ mode:=0,exp:=false,thaw:=(W8 (W2 [2])),live:=aZ 50 118331 }),
 (152,{ mode:=1,exp:=false,thaw:=[0,0,0,2],live:=aZ 32 29 }),
 (153,{ mode:=1,exp:=false,thaw:=[],live:=aZ 18 51 }),
 (154,{ mode:=2,exp:=false,thaw:=[],live:=aZ 41 62 }),
 (155,{ mode:=2,exp:=false,thaw:=[],live:=aZ 48 8142 }),
 (156,{ mode:=1,exp:=false,thaw:=[],live:=aZ 64 196 }),
 (157,{ mode:=2,exp:=false,thaw:=[],live:=aZ 33 115 }),
 (158,{ mode:=0,exp:=false,thaw:=[],live:=aZ 35 115 }),
 (159,{ mode:=1,exp:=false,thaw:=[],live:=aZ 25 115 }),
 (160,{ mode:=2,exp:=false,thaw:=[],live:=aZ 64 31775 }),
 (161,{ mode:=1,exp:=false,thaw:=[],live:=aZ 23 13 }),
 (162,{ mode:=1,exp:=false,thaw:=[],live:=aZ 22 61 }),
 (163,{ mode:=1,exp:=false,thaw:=[],live:=aZ 0 0 }),
 (164,{ mode:=1,exp:=false,thaw:=[],live:=aZ 0 0 }),
 (165,{ mode:=0,exp:=false,thaw:=[],live:=aZ 82 1053 }),
 (166,{ mode:=1,exp:=false,thaw:=[],live:=aZ 0 0 }),
 (168,{ mode:=0,exp:=false,thaw:=[],live:=aZ 0 0 }),
 (169,{ mode:=0,exp:=false,thaw:=[],live:=aZ 0 0 }),
 (174,{ mode:=0,exp:=false,thaw:=[],live:=aZ 28 13 }),
 (175,{ mode:=2,exp:=false,thaw:=[],live:=aZ 62 32542 }),
 (176,{ mode:=1,exp:=false,thaw:=[],live:=aZ 0 0 }),
 (177,{ mode:=1,exp:=false,thaw:=[],live:=aZ 36 455 }),
 (178,{ mode:=1,exp:=false,thaw:=[],live:=aZ 0 0 }),
 (179,{ mode:=1,exp:=false,thaw:=[],live:=aZ 18 115 }),
 (180,{ mode:=0,exp:=false,thaw:=[],live:=aZ 0 0 }),
 (182,{ mode:=2,exp:=false,thaw:=[],live:=aZ 79 3852 })]
noncomputable def aKM:List (TypeId × Nat):=[]
noncomputable def aM9:List (Nat × (List A → H → Option (A × H))):=[(50,LE 94 52),(69,Q7 52)]
noncomputable def env:Env:={ P:=Tryz.prog,hint:=fun f => (a0O.lookup f).getD {},eqs:=aKM,prim:=fun f => aM9.lookup f }
theorem zS:(env.hint 4).mode = 1:=kr
theorem rL:(env.hint 12).mode = 1:=kr
theorem Q8:(env.hint 13).mode = 2:=kr
theorem lM:(env.hint 14).mode = 2:=kr
theorem wA:(env.hint 15).mode = 3:=kr
theorem bZ:(env.hint 17).mode = 1:=kr
theorem bQ:(env.hint 21).mode = 1:=kr
theorem bV:(env.hint 22).mode = 1:=kr
theorem OP:(env.hint 28).mode = 1:=kr
theorem BV:(env.hint 30).mode = 3:=kr
theorem tC:(env.hint 31).mode = 3:=kr
theorem o8:(env.hint 36).mode = 1:=kr
theorem SA:(env.hint 39).mode = 1:=kr
theorem TU:(env.hint 40).mode = 1:=kr
theorem lQ:(env.hint 41).mode = 1:=kr
theorem PJ:(env.hint 42).mode = 2:=kr
theorem B0:(env.hint 43).mode = 2:=kr
theorem R9:(env.hint 44).mode = 2:=kr
theorem OI:(env.hint 45).mode = 0:=kr
theorem SD:(env.hint 46).mode = 2:=kr
theorem TM:(env.hint 47).mode = 2:=kr
theorem lY:(env.hint 48).mode = 1:=kr
theorem TB:(env.hint 49).mode = 2:=kr
theorem nL:(env.hint 50).mode = 0:=kr
theorem gL:(env.hint 51).mode = 0:=kr
theorem UH:(env.hint 52).mode = 1:=kr
theorem zH:(env.hint 53).mode = 1:=kr
theorem zW:(env.hint 54).mode = 1:=kr
theorem dZ:(env.hint 58).mode = 1:=kr
theorem o7:(env.hint 59).mode = 1:=kr
theorem b8:(env.hint 60).mode = 1:=kr
theorem O4:(env.hint 64).mode = 1:=kr
theorem aHx:(env.hint 65).mode = 1:=kr
theorem VQ:(env.hint 66).mode = 1:=kr
theorem pW:(env.hint 68).mode = 1:=kr
theorem kX:(env.hint 69).mode = 0:=kr
theorem oW:(env.hint 70).mode = 1:=kr
theorem kW:(env.hint 71).mode = 1:=kr
theorem p8:(env.hint 76).mode = 1:=kr
theorem zO:(env.hint 77).mode = 1:=kr
theorem XH:(env.hint 80).mode = 1:=kr
theorem O0:(env.hint 81).mode = 1:=kr
theorem TJ:(env.hint 82).mode = 1:=kr
theorem S3:(env.hint 83).mode = 2:=kr
theorem aBI:(env.hint 84).mode = 2:=kr
theorem pX:(env.hint 85).mode = 1:=kr
theorem oZ:(env.hint 86).mode = 1:=kr
theorem Q5:(env.hint 87).mode = 1:=kr
theorem aBx:(env.hint 88).mode = 1:=kr
theorem G5:(env.hint 89).mode = 1:=kr
theorem WV:(env.hint 90).mode = 2:=kr
theorem T0:(env.hint 91).mode = 2:=kr
theorem O6:(env.hint 92).mode = 1:=kr
theorem xG:(env.hint 93).mode = 2:=kr
theorem k4:(env.hint 94).mode = 0:=kr
theorem yS:(env.hint 95).mode = 1:=kr
theorem GK:(env.hint 96).mode = 1:=kr
theorem BF:(env.hint 97).mode = 1:=kr
theorem BZ:(env.hint 98).mode = 1:=kr
theorem PM:(env.hint 100).mode = 1:=kr
theorem DM:(env.hint 105).mode = 1:=kr
theorem GV:(env.hint 106).mode = 0:=kr
theorem qJ:(env.hint 107).mode = 0:=kr
theorem MQ:(env.hint 108).mode = 1:=kr
theorem uZ:(env.hint 109).mode = 0:=kr
theorem l7:(env.hint 110).mode = 1:=kr
theorem Y9:(env.hint 117).mode = 2:=kr
theorem vB:(env.hint 118).mode = 0:=kr
theorem wZ:(env.hint 119).mode = 1:=kr
theorem EH:(env.hint 120).mode = 0:=kr
theorem aDt:(env.hint 123).mode = 1:=kr
theorem Z5:(env.hint 124).mode = 2:=kr
theorem K8:(env.hint 125).mode = 1:=kr
theorem vF:(env.hint 126).mode = 1:=kr
theorem A5:(env.hint 127).mode = 1:=kr
theorem PA:(env.hint 128).mode = 1:=kr
theorem pL:(env.hint 129).mode = 2:=kr
theorem NC:(env.hint 130).mode = 1:=kr
theorem EJ:(env.hint 131).mode = 1:=kr
theorem OU:(env.hint 132).mode = 1:=kr
theorem z8:(env.hint 133).mode = 1:=kr
theorem xX:(env.hint 134).mode = 0:=kr
theorem nK:(env.hint 135).mode = 0:=kr
theorem qB:(env.hint 136).mode = 0:=kr
theorem nC:(env.hint 137).mode = 0:=kr
theorem oL:(env.hint 138).mode = 0:=kr
theorem nV:(env.hint 139).mode = 0:=kr
theorem kU:(env.hint 140).mode = 0:=kr
theorem mO:(env.hint 141).mode = 0:=kr
theorem pM:(env.hint 142).mode = 0:=kr
theorem GR:(env.hint 143).mode = 1:=kr
theorem HF:(env.hint 144).mode = 1:=kr
theorem rT:(env.hint 151).mode = 0:=kr
theorem F0:(env.hint 152).mode = 1:=kr
theorem XC:(env.hint 153).mode = 1:=kr
theorem KJ:(env.hint 154).mode = 2:=kr
theorem KZ:(env.hint 155).mode = 2:=kr
theorem K4:(env.hint 156).mode = 1:=kr
theorem WA:(env.hint 157).mode = 2:=kr
theorem N0:(env.hint 158).mode = 0:=kr
theorem s5:(env.hint 159).mode = 1:=kr
theorem pK:(env.hint 160).mode = 2:=kr
theorem RF:(env.hint 161).mode = 1:=kr
theorem PP:(env.hint 162).mode = 1:=kr
theorem CB:(env.hint 163).mode = 1:=kr
theorem aFr:(env.hint 164).mode = 1:=kr
theorem p3:(env.hint 165).mode = 0:=kr
theorem w5:(env.hint 166).mode = 1:=kr
theorem mQ:(env.hint 168).mode = 0:=kr
theorem qX:(env.hint 169).mode = 0:=kr
theorem nM:(env.hint 174).mode = 0:=kr
theorem Z7:(env.hint 175).mode = 2:=kr
theorem eT:(env.hint 176).mode = 1:=kr
theorem xA:(env.hint 177).mode = 1:=kr
theorem aC7:(env.hint 178).mode = 1:=kr
theorem YT:(env.hint 179).mode = 1:=kr
theorem qU:(env.hint 180).mode = 0:=kr
theorem SP:(env.hint 182).mode = 2:=kr
theorem MD0:type_of% (AI @zS (AI @rL (AI @Q8 (AI @lM (AI @wA (AI @bZ (AI @bQ (AI @bV (AI @OP (AI @BV (AI @tC (AI @o8 (AI @SA (AI @TU (AI @lQ (AI @PJ (AI @B0 (AI @R9 (AI @OI (AI @SD (AI @TM (AI @lY (AI @TB (AI @nL (AI @gL (AI @UH (AI @zH (AI @zW (AI @dZ (AI @o7 (AI @b8 (AI @O4 (AI @aHx (AI @VQ (AI @pW (AI @kX (AI @oW (AI @kW (AI @p8 (AI @zO (AI @XH (AI @O0 (AI @TJ (AI @S3 (AI @aBI (AI @pX (AI @oZ (AI @Q5 (AI @aBx (AI @G5 (AI @WV (AI @T0 (AI @O6 (AI @xG (AI @k4 (AI @yS (AI @GK (AI @BF (AI @BZ @PM))))))))))))))))))))))))))))))))))))))))))))))))))))))))))) :=
 ⟨@zS,@rL,@Q8,@lM,@wA,@bZ,@bQ,@bV,@OP,@BV,@tC,@o8,@SA,@TU,@lQ,@PJ,@B0,@R9,@OI,@SD,@TM,@lY,@TB,@nL,@gL,@UH,@zH,@zW,@dZ,@o7,@b8,@O4,@aHx,@VQ,@pW,@kX,@oW,@kW,@p8,@zO,@XH,@O0,@TJ,@S3,@aBI,@pX,@oZ,@Q5,@aBx,@G5,@WV,@T0,@O6,@xG,@k4,@yS,@GK,@BF,@BZ,@PM⟩
theorem MD1:type_of% (AI @DM (AI @GV (AI @qJ (AI @MQ (AI @uZ (AI @l7 (AI @Y9 (AI @vB (AI @wZ (AI @EH (AI @aDt (AI @Z5 (AI @K8 (AI @vF (AI @A5 (AI @PA (AI @pL (AI @NC (AI @EJ (AI @OU (AI @z8 (AI @xX (AI @nK (AI @qB (AI @nC (AI @oL (AI @nV (AI @kU (AI @mO (AI @pM (AI @GR (AI @HF (AI @rT (AI @F0 (AI @XC (AI @KJ (AI @KZ (AI @K4 (AI @WA (AI @N0 (AI @s5 (AI @pK (AI @RF (AI @PP (AI @CB (AI @aFr (AI @p3 (AI @w5 (AI @mQ (AI @qX (AI @nM (AI @Z7 (AI @eT (AI @xA (AI @aC7 (AI @YT (AI @qU @SP))))))))))))))))))))))))))))))))))))))))))))))))))))))))) :=
 ⟨@DM,@GV,@qJ,@MQ,@uZ,@l7,@Y9,@vB,@wZ,@EH,@aDt,@Z5,@K8,@vF,@A5,@PA,@pL,@NC,@EJ,@OU,@z8,@xX,@nK,@qB,@nC,@oL,@nV,@kU,@mO,@pM,@GR,@HF,@rT,@F0,@XC,@KJ,@KZ,@K4,@WA,@N0,@s5,@pK,@RF,@PP,@CB,@aFr,@p3,@w5,@mQ,@qX,@nM,@Z7,@eT,@xA,@aC7,@YT,@qU,@SP⟩
theorem MD:type_of% (AI @MD0 @MD1) :=
 ⟨@MD0,@MD1⟩
end Ev
end Go.Proofs.YtejmccgfigiadaaGreat
