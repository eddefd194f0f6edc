/-
  What the evaluator is told of each function, and each function's code as an equation. Written by a program.
-/
import Derived.Test.YtejmccgfigiadaaGreatEvPrim
import Derived.Test.YtejmccgfigiadaaGreatChecked
set_option maxRecDepth 100000
namespace Go.Proofs.YtejmccgfigiadaaGreat
namespace Ev
def aZ:Nat → Nat → List Bool
 | 0,_ => []
 | n + 1,k => (k % 2 == 1) :: aZ n (k / 2)
noncomputable def a0Y:List (Nat × Hint):=[
 (4,{ mode:=1,exp:=false,thaw:=[],live:=aZ 0 0 }),
 (12,{ mode:=1,exp:=false,thaw:=[],live:=aZ 0 0 }),
 (13,{ mode:=2,exp:=false,thaw:=[],live:=aZ 72 8176 }),
 (14,{ mode:=2,exp:=true,thaw:=[],live:=aZ 0 0 }),
 (15,{ mode:=3,exp:=true,thaw:=[],live:=aZ 68 1000796099450352 }),
 (17,{ mode:=1,exp:=false,thaw:=[],live:=aZ 0 0 }),
 (21,{ mode:=1,exp:=false,thaw:=[],live:=aZ 48 1496 }),
 (22,{ mode:=1,exp:=false,thaw:=[],live:=aZ 41 469762264 }),
 (28,{ mode:=1,exp:=false,thaw:=[],live:=aZ 26 98323 }),
 (30,{ mode:=3,exp:=true,thaw:=[0,0,0,2],live:=aZ 31 12302 }),
 (31,{ mode:=3,exp:=true,thaw:=[],live:=aZ 47 49214 }),
 (36,{ mode:=1,exp:=false,thaw:=[],live:=aZ 0 0 }),
 (39,{ mode:=1,exp:=false,thaw:=[],live:=aZ 27 51 }),
 (40,{ mode:=1,exp:=false,thaw:=[],live:=aZ 0 0 }),
 (41,{ mode:=1,exp:=false,thaw:=[],live:=aZ 44 30 }),
 (42,{ mode:=2,exp:=false,thaw:=[],live:=aZ 32 60 }),
 (43,{ mode:=2,exp:=false,thaw:=[],live:=aZ 47 62 }),
 (44,{ mode:=2,exp:=false,thaw:=[],live:=aZ 47 498 }),
 (45,{ mode:=0,exp:=false,thaw:=[],live:=aZ 47 115 }),
 (46,{ mode:=2,exp:=true,thaw:=(W4 (W2 (W1 [1002]))),live:=aZ 23 29 }),
 (47,{ mode:=2,exp:=true,thaw:=[],live:=aZ 22 29 }),
 (48,{ mode:=1,exp:=false,thaw:=[],live:=aZ 65 1972248982323214 }),
 (49,{ mode:=2,exp:=false,thaw:=(W8 (W4 [2002])),live:=aZ 48 3787457267 }),
 (50,{ mode:=0,exp:=false,thaw:=[],live:=aZ 0 0 }),
 (51,{ mode:=0,exp:=true,thaw:=[],live:=aZ 0 0 }),
 (52,{ mode:=1,exp:=false,thaw:=[],live:=aZ 0 0 }),
 (53,{ mode:=1,exp:=false,thaw:=[],live:=aZ 27 51 }),
 (54,{ mode:=1,exp:=false,thaw:=[],live:=aZ 26 51 }),
 (58,{ mode:=1,exp:=false,thaw:=[],live:=aZ 0 0 }),
 (59,{ mode:=1,exp:=false,thaw:=[],live:=aZ 0 0 }),
 (60,{ mode:=1,exp:=false,thaw:=[],live:=aZ 0 0 }),
 (64,{ mode:=1,exp:=false,thaw:=[],live:=aZ 0 0 }),
 (65,{ mode:=1,exp:=false,thaw:=[],live:=aZ 0 0 }),
 (66,{ mode:=1,exp:=false,thaw:=[],live:=aZ 0 0 }),
 (68,{ mode:=1,exp:=false,thaw:=[],live:=aZ 0 0 }),
 (69,{ mode:=0,exp:=false,thaw:=[],live:=aZ 0 0 }),
 (70,{ mode:=1,exp:=false,thaw:=[],live:=aZ 0 0 }),
 (71,{ mode:=1,exp:=false,thaw:=[],live:=aZ 0 0 }),
 (76,{ mode:=1,exp:=false,thaw:=[],live:=aZ 35 6291570 }),
 (77,{ mode:=1,exp:=false,thaw:=[],live:=aZ 0 0 }),
 (80,{ mode:=1,exp:=false,thaw:=[],live:=aZ 0 0 }),
 (81,{ mode:=1,exp:=false,thaw:=[],live:=aZ 0 0 }),
 (82,{ mode:=1,exp:=false,thaw:=[],live:=aZ 31 197 }),
 (83,{ mode:=2,exp:=false,thaw:=[],live:=aZ 18 29 }),
 (84,{ mode:=2,exp:=false,thaw:=[],live:=aZ 69 254 }),
 (85,{ mode:=1,exp:=false,thaw:=[],live:=aZ 0 0 }),
 (86,{ mode:=1,exp:=false,thaw:=[],live:=aZ 0 0 }),
 (87,{ mode:=1,exp:=false,thaw:=[],live:=aZ 18 51 }),
 (88,{ mode:=1,exp:=false,thaw:=[],live:=aZ 0 0 }),
 (89,{ mode:=1,exp:=false,thaw:=[],live:=aZ 27 115 }),
 (90,{ mode:=2,exp:=true,thaw:=[],live:=aZ 22 29 }),
 (91,{ mode:=2,exp:=false,thaw:=[0,0,0,2],live:=aZ 17 45 }),
 (92,{ mode:=1,exp:=false,thaw:=[],live:=aZ 0 0 }),
 (93,{ mode:=2,exp:=false,thaw:=[],live:=aZ 0 0 }),
 (94,{ mode:=0,exp:=false,thaw:=[],live:=aZ 14 33 }),
 (95,{ mode:=1,exp:=false,thaw:=[],live:=aZ 18 460 }),
 (96,{ mode:=1,exp:=false,thaw:=[],live:=aZ 0 0 }),
 (97,{ mode:=1,exp:=false,thaw:=[],live:=aZ 0 0 }),
 (98,{ mode:=1,exp:=false,thaw:=[],live:=aZ 26 51 }),
 (100,{ mode:=1,exp:=false,thaw:=[],live:=aZ 0 0 }),
 (105,{ mode:=1,exp:=false,thaw:=[],live:=aZ 0 0 }),
 (106,{ mode:=0,exp:=false,thaw:=[],live:=aZ 0 0 }),
 (107,{ mode:=0,exp:=false,thaw:=[],live:=aZ 148 3103 }),
 (108,{ mode:=1,exp:=false,thaw:=[],live:=aZ 0 0 }),
 (109,{ mode:=0,exp:=false,thaw:=[],live:=aZ 0 0 }),
 (110,{ mode:=1,exp:=false,thaw:=[],live:=aZ 19 403 }),
 (117,{ mode:=2,exp:=false,thaw:=[],live:=aZ 54 240553558140 }),
 (118,{ mode:=0,exp:=false,thaw:=[],live:=aZ 0 0 }),
 (119,{ mode:=1,exp:=false,thaw:=(W16 (W2 [2])),live:=aZ 63 61632781151244 }),
 (120,{ mode:=0,exp:=false,thaw:=[],live:=aZ 0 0 }),
 (123,{ mode:=1,exp:=false,thaw:=[],live:=aZ 0 0 }),
 (124,{ mode:=2,exp:=false,thaw:=[],live:=aZ 43 126 }),
 (125,{ mode:=1,exp:=false,thaw:=[],live:=aZ 15 51 }),
 (126,{ mode:=1,exp:=false,thaw:=[],live:=aZ 0 0 }),
 (127,{ mode:=1,exp:=false,thaw:=[],live:=aZ 107 65534 }),
 (128,{ mode:=1,exp:=false,thaw:=[],live:=aZ 0 0 }),
 (129,{ mode:=2,exp:=false,thaw:=[],live:=aZ 0 0 }),
 (130,{ mode:=1,exp:=false,thaw:=[],live:=aZ 0 0 }),
 (131,{ mode:=1,exp:=false,thaw:=[],live:=aZ 0 0 }),
 (132,{ mode:=1,exp:=false,thaw:=[],live:=aZ 0 0 }),
 (133,{ mode:=1,exp:=false,thaw:=[],live:=aZ 21 206 }),
 (134,{ mode:=0,exp:=false,thaw:=[],live:=aZ 0 0 }),
 (135,{ mode:=0,exp:=false,thaw:=[],live:=aZ 53 783 }),
 (136,{ mode:=0,exp:=false,thaw:=[],live:=aZ 60 7945 }),
 (137,{ mode:=0,exp:=false,thaw:=[],live:=aZ 67 3843 }),
 (138,{ mode:=0,exp:=false,thaw:=[],live:=aZ 0 0 }),
 (139,{ mode:=0,exp:=false,thaw:=[],live:=aZ 34 769 }),
 (140,{ mode:=0,exp:=false,thaw:=[],live:=aZ 141 7951 }),
 (141,{ mode:=0,exp:=false,thaw:=[],live:=aZ 90 7187 }),
 (142,{ mode:=0,exp:=false,thaw:=[],live:=aZ 178 15379 }),
 (143,{ mode:=1,exp:=false,thaw:=[],live:=aZ 0 0 }),
 (144,{ mode:=1,exp:=false,thaw:=[],live:=aZ 0 0 }),
 (151,{ mode:=0,exp:=false,thaw:=(W8 (W2 [2])),live:=aZ 50 118331 }),
 (152,{ mode:=1,exp:=false,thaw:=[0,0,0,2],live:=aZ 32 29 }),
 (153,{ mode:=1,exp:=false,thaw:=[],live:=aZ 18 51 }),
 (154,{ mode:=2,exp:=false,thaw:=[],live:=aZ 41 62 }),
 (155,{ mode:=2,exp:=false,thaw:=[],live:=aZ 48 8142 }),
 (156,{ mode:=1,exp:=false,thaw:=[],live:=aZ 64 196 }),
 (157,{ mode:=2,exp:=false,thaw:=[],live:=aZ 33 115 }),
 (158,{ mode:=0,exp:=false,thaw:=[],live:=aZ 35 115 }),
 (159,{ mode:=1,exp:=false,thaw:=[],live:=aZ 25 115 }),
 (160,{ mode:=2,exp:=false,thaw:=[],live:=aZ 64 31775 }),
 (161,{ mode:=1,exp:=false,thaw:=[],live:=aZ 23 13 }),
 (162,{ mode:=1,exp:=false,thaw:=[],live:=aZ 22 61 }),
 (163,{ mode:=1,exp:=false,thaw:=[],live:=aZ 0 0 }),
 (164,{ mode:=1,exp:=false,thaw:=[],live:=aZ 0 0 }),
 (165,{ mode:=0,exp:=false,thaw:=[],live:=aZ 82 1053 }),
 (166,{ mode:=1,exp:=false,thaw:=[],live:=aZ 0 0 }),
 (168,{ mode:=0,exp:=false,thaw:=[],live:=aZ 0 0 }),
 (169,{ mode:=0,exp:=false,thaw:=[],live:=aZ 0 0 }),
 (174,{ mode:=0,exp:=false,thaw:=[],live:=aZ 28 13 }),
 (175,{ mode:=2,exp:=false,thaw:=[],live:=aZ 62 32542 }),
 (176,{ mode:=1,exp:=false,thaw:=[],live:=aZ 0 0 }),
 (177,{ mode:=1,exp:=false,thaw:=[],live:=aZ 36 455 }),
 (178,{ mode:=1,exp:=false,thaw:=[],live:=aZ 0 0 }),
 (179,{ mode:=1,exp:=false,thaw:=[],live:=aZ 18 115 }),
 (180,{ mode:=0,exp:=false,thaw:=[],live:=aZ 0 0 }),
 (182,{ mode:=2,exp:=false,thaw:=[],live:=aZ 79 3852 })]
noncomputable def aKa:List (TypeId × Nat):=[]
noncomputable def aNb:List (Nat × (List A → H → Option (A × H))):=[(50,KP 94 52),(69,SM 52)]
noncomputable def env:Env:={ P:=Tryz.prog,hint:=fun f => (a0Y.lookup f).getD {},eqs:=aKa,prim:=fun f => aNb.lookup f }
theorem zM:(env.hint 4).mode = 1:=kr
theorem qY:(env.hint 12).mode = 1:=kr
theorem SH:(env.hint 13).mode = 2:=kr
theorem lK:(env.hint 14).mode = 2:=kr
theorem vT:(env.hint 15).mode = 3:=kr
theorem bZ:(env.hint 17).mode = 1:=kr
theorem bQ:(env.hint 21).mode = 1:=kr
theorem bV:(env.hint 22).mode = 1:=kr
theorem O8:(env.hint 28).mode = 1:=kr
theorem B2:(env.hint 30).mode = 3:=kr
theorem s8:(env.hint 31).mode = 3:=kr
theorem o9:(env.hint 36).mode = 1:=kr
theorem R2:(env.hint 39).mode = 1:=kr
theorem TG:(env.hint 40).mode = 1:=kr
theorem lY:(env.hint 41).mode = 1:=kr
theorem PM:(env.hint 42).mode = 2:=kr
theorem CW:(env.hint 43).mode = 2:=kr
theorem S1:(env.hint 44).mode = 2:=kr
theorem OG:(env.hint 45).mode = 0:=kr
theorem TL:(env.hint 46).mode = 2:=kr
theorem SG:(env.hint 47).mode = 2:=kr
theorem lX:(env.hint 48).mode = 1:=kr
theorem TP:(env.hint 49).mode = 2:=kr
theorem nN:(env.hint 50).mode = 0:=kr
theorem gO:(env.hint 51).mode = 0:=kr
theorem UQ:(env.hint 52).mode = 1:=kr
theorem zY:(env.hint 53).mode = 1:=kr
theorem zW:(env.hint 54).mode = 1:=kr
theorem dZ:(env.hint 58).mode = 1:=kr
theorem o7:(env.hint 59).mode = 1:=kr
theorem b8:(env.hint 60).mode = 1:=kr
theorem PA:(env.hint 64).mode = 1:=kr
theorem aH5:(env.hint 65).mode = 1:=kr
theorem U0:(env.hint 66).mode = 1:=kr
theorem p9:(env.hint 68).mode = 1:=kr
theorem kW:(env.hint 69).mode = 0:=kr
theorem oW:(env.hint 70).mode = 1:=kr
theorem kY:(env.hint 71).mode = 1:=kr
theorem p3:(env.hint 76).mode = 1:=kr
theorem y7:(env.hint 77).mode = 1:=kr
theorem XW:(env.hint 80).mode = 1:=kr
theorem PG:(env.hint 81).mode = 1:=kr
theorem RR:(env.hint 82).mode = 1:=kr
theorem TK:(env.hint 83).mode = 2:=kr
theorem aB0:(env.hint 84).mode = 2:=kr
theorem qB:(env.hint 85).mode = 1:=kr
theorem oX:(env.hint 86).mode = 1:=kr
theorem TN:(env.hint 87).mode = 1:=kr
theorem aBp:(env.hint 88).mode = 1:=kr
theorem H7:(env.hint 89).mode = 1:=kr
theorem XK:(env.hint 90).mode = 2:=kr
theorem TZ:(env.hint 91).mode = 2:=kr
theorem PU:(env.hint 92).mode = 1:=kr
theorem xB:(env.hint 93).mode = 2:=kr
theorem k4:(env.hint 94).mode = 0:=kr
theorem yZ:(env.hint 95).mode = 1:=kr
theorem HM:(env.hint 96).mode = 1:=kr
theorem BK:(env.hint 97).mode = 1:=kr
theorem B6:(env.hint 98).mode = 1:=kr
theorem PD:(env.hint 100).mode = 1:=kr
theorem DP:(env.hint 105).mode = 1:=kr
theorem GV:(env.hint 106).mode = 0:=kr
theorem qL:(env.hint 107).mode = 0:=kr
theorem MR:(env.hint 108).mode = 1:=kr
theorem uQ:(env.hint 109).mode = 0:=kr
theorem l7:(env.hint 110).mode = 1:=kr
theorem ZQ:(env.hint 117).mode = 2:=kr
theorem uE:(env.hint 118).mode = 0:=kr
theorem wM:(env.hint 119).mode = 1:=kr
theorem ER:(env.hint 120).mode = 0:=kr
theorem aDx:(env.hint 123).mode = 1:=kr
theorem ZC:(env.hint 124).mode = 2:=kr
theorem KO:(env.hint 125).mode = 1:=kr
theorem u7:(env.hint 126).mode = 1:=kr
theorem A1:(env.hint 127).mode = 1:=kr
theorem PR:(env.hint 128).mode = 1:=kr
theorem pF:(env.hint 129).mode = 2:=kr
theorem NO:(env.hint 130).mode = 1:=kr
theorem EJ:(env.hint 131).mode = 1:=kr
theorem O9:(env.hint 132).mode = 1:=kr
theorem zB:(env.hint 133).mode = 1:=kr
theorem x7:(env.hint 134).mode = 0:=kr
theorem nK:(env.hint 135).mode = 0:=kr
theorem qC:(env.hint 136).mode = 0:=kr
theorem nG:(env.hint 137).mode = 0:=kr
theorem oL:(env.hint 138).mode = 0:=kr
theorem nU:(env.hint 139).mode = 0:=kr
theorem kV:(env.hint 140).mode = 0:=kr
theorem mK:(env.hint 141).mode = 0:=kr
theorem pM:(env.hint 142).mode = 0:=kr
theorem ID:(env.hint 143).mode = 1:=kr
theorem F1:(env.hint 144).mode = 1:=kr
theorem rV:(env.hint 151).mode = 0:=kr
theorem F4:(env.hint 152).mode = 1:=kr
theorem XN:(env.hint 153).mode = 1:=kr
theorem KJ:(env.hint 154).mode = 2:=kr
theorem KN:(env.hint 155).mode = 2:=kr
theorem KQ:(env.hint 156).mode = 1:=kr
theorem VS:(env.hint 157).mode = 2:=kr
theorem OB:(env.hint 158).mode = 0:=kr
theorem sX:(env.hint 159).mode = 1:=kr
theorem pE:(env.hint 160).mode = 2:=kr
theorem R1:(env.hint 161).mode = 1:=kr
theorem PI:(env.hint 162).mode = 1:=kr
theorem CF:(env.hint 163).mode = 1:=kr
theorem aFz:(env.hint 164).mode = 1:=kr
theorem pZ:(env.hint 165).mode = 0:=kr
theorem xF:(env.hint 166).mode = 1:=kr
theorem mM:(env.hint 168).mode = 0:=kr
theorem rG:(env.hint 169).mode = 0:=kr
theorem nM:(env.hint 174).mode = 0:=kr
theorem ZL:(env.hint 175).mode = 2:=kr
theorem eQ:(env.hint 176).mode = 1:=kr
theorem xA:(env.hint 177).mode = 1:=kr
theorem aEf:(env.hint 178).mode = 1:=kr
theorem Z3:(env.hint 179).mode = 1:=kr
theorem qV:(env.hint 180).mode = 0:=kr
theorem SX:(env.hint 182).mode = 2:=kr
theorem MD0:type_of% (AI @zM (AI @qY (AI @SH (AI @lK (AI @vT (AI @bZ (AI @bQ (AI @bV (AI @O8 (AI @B2 (AI @s8 (AI @o9 (AI @R2 (AI @TG (AI @lY (AI @PM (AI @CW (AI @S1 (AI @OG (AI @TL (AI @SG (AI @lX (AI @TP (AI @nN (AI @gO (AI @UQ (AI @zY (AI @zW (AI @dZ (AI @o7 (AI @b8 (AI @PA (AI @aH5 (AI @U0 (AI @p9 (AI @kW (AI @oW (AI @kY (AI @p3 (AI @y7 (AI @XW (AI @PG (AI @RR (AI @TK (AI @aB0 (AI @qB (AI @oX (AI @TN (AI @aBp (AI @H7 (AI @XK (AI @TZ (AI @PU (AI @xB (AI @k4 (AI @yZ (AI @HM (AI @BK (AI @B6 @PD))))))))))))))))))))))))))))))))))))))))))))))))))))))))))) :=
 ⟨@zM,@qY,@SH,@lK,@vT,@bZ,@bQ,@bV,@O8,@B2,@s8,@o9,@R2,@TG,@lY,@PM,@CW,@S1,@OG,@TL,@SG,@lX,@TP,@nN,@gO,@UQ,@zY,@zW,@dZ,@o7,@b8,@PA,@aH5,@U0,@p9,@kW,@oW,@kY,@p3,@y7,@XW,@PG,@RR,@TK,@aB0,@qB,@oX,@TN,@aBp,@H7,@XK,@TZ,@PU,@xB,@k4,@yZ,@HM,@BK,@B6,@PD⟩
theorem MD1:type_of% (AI @DP (AI @GV (AI @qL (AI @MR (AI @uQ (AI @l7 (AI @ZQ (AI @uE (AI @wM (AI @ER (AI @aDx (AI @ZC (AI @KO (AI @u7 (AI @A1 (AI @PR (AI @pF (AI @NO (AI @EJ (AI @O9 (AI @zB (AI @x7 (AI @nK (AI @qC (AI @nG (AI @oL (AI @nU (AI @kV (AI @mK (AI @pM (AI @ID (AI @F1 (AI @rV (AI @F4 (AI @XN (AI @KJ (AI @KN (AI @KQ (AI @VS (AI @OB (AI @sX (AI @pE (AI @R1 (AI @PI (AI @CF (AI @aFz (AI @pZ (AI @xF (AI @mM (AI @rG (AI @nM (AI @ZL (AI @eQ (AI @xA (AI @aEf (AI @Z3 (AI @qV @SX))))))))))))))))))))))))))))))))))))))))))))))))))))))))) :=
 ⟨@DP,@GV,@qL,@MR,@uQ,@l7,@ZQ,@uE,@wM,@ER,@aDx,@ZC,@KO,@u7,@A1,@PR,@pF,@NO,@EJ,@O9,@zB,@x7,@nK,@qC,@nG,@oL,@nU,@kV,@mK,@pM,@ID,@F1,@rV,@F4,@XN,@KJ,@KN,@KQ,@VS,@OB,@sX,@pE,@R1,@PI,@CF,@aFz,@pZ,@xF,@mM,@rG,@nM,@ZL,@eQ,@xA,@aEf,@Z3,@qV,@SX⟩
theorem MD:type_of% (AI @MD0 @MD1) :=
 ⟨@MD0,@MD1⟩
end Ev
end Go.Proofs.YtejmccgfigiadaaGreat
