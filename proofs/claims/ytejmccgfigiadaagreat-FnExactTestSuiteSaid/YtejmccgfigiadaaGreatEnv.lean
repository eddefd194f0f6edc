/-
  What the evaluator is told of each function, and each function's code as an equation. Written by a program.
-/
import Derived.Test.YtejmccgfigiadaaGreatEvPrim
import Derived.Test.YtejmccgfigiadaaGreatChecked
set_option maxRecDepth 100000
namespace Go.Proofs.YtejmccgfigiadaaGreat
namespace Ev
def bD:Nat → Nat → List Bool
 | 0,_ => []
 | n + 1,k => (k % 2 == 1) :: bD n (k / 2)
noncomputable def aZs:List (Nat × Hint):=[
 (3,{ mode:=1,exp:=false,thaw:=[],live:=bD 0 0 }),
 (12,{ mode:=1,exp:=false,thaw:=[],live:=bD 0 0 }),
 (13,{ mode:=2,exp:=false,thaw:=[],live:=bD 72 8176 }),
 (14,{ mode:=2,exp:=true,thaw:=[],live:=bD 0 0 }),
 (15,{ mode:=3,exp:=true,thaw:=[],live:=bD 68 1000796099450352 }),
 (16,{ mode:=1,exp:=false,thaw:=[],live:=bD 26 51 }),
 (17,{ mode:=1,exp:=false,thaw:=[],live:=bD 0 0 }),
 (18,{ mode:=0,exp:=false,thaw:=[],live:=bD 0 0 }),
 (19,{ mode:=0,exp:=false,thaw:=[],live:=bD 20 51 }),
 (20,{ mode:=1,exp:=false,thaw:=[],live:=bD 22 51 }),
 (30,{ mode:=3,exp:=true,thaw:=[0,0,0,2],live:=bD 31 12302 }),
 (31,{ mode:=3,exp:=true,thaw:=[],live:=bD 47 49214 }),
 (39,{ mode:=1,exp:=false,thaw:=[],live:=bD 27 51 }),
 (40,{ mode:=1,exp:=false,thaw:=[],live:=bD 0 0 }),
 (41,{ mode:=1,exp:=false,thaw:=[],live:=bD 44 30 }),
 (42,{ mode:=2,exp:=false,thaw:=[],live:=bD 32 60 }),
 (43,{ mode:=2,exp:=false,thaw:=[],live:=bD 47 62 }),
 (44,{ mode:=2,exp:=false,thaw:=[],live:=bD 47 498 }),
 (45,{ mode:=0,exp:=false,thaw:=[],live:=bD 47 115 }),
 (46,{ mode:=2,exp:=true,thaw:=(W4 (W2 (W1 [1002]))),live:=bD 23 29 }),
 (47,{ mode:=2,exp:=true,thaw:=[],live:=bD 22 29 }),
 (48,{ mode:=1,exp:=false,thaw:=[],live:=bD 65 1972248982323214 }),
 (49,{ mode:=2,exp:=false,thaw:=(W8 (W4 [2002])),live:=bD 48 3787457267 }),
 (50,{ mode:=0,exp:=false,thaw:=[],live:=bD 0 0 }),
 (51,{ mode:=0,exp:=true,thaw:=[],live:=bD 0 0 }),
 (52,{ mode:=1,exp:=false,thaw:=[],live:=bD 0 0 }),
 (53,{ mode:=1,exp:=false,thaw:=[],live:=bD 27 51 }),
 (54,{ mode:=1,exp:=false,thaw:=[],live:=bD 26 51 }),
 (55,{ mode:=0,exp:=false,thaw:=[],live:=bD 19 51 }),
 (56,{ mode:=0,exp:=false,thaw:=[],live:=bD 21 51 }),
 (57,{ mode:=1,exp:=false,thaw:=[],live:=bD 20 13 }),
 (64,{ mode:=1,exp:=false,thaw:=[],live:=bD 0 0 }),
 (65,{ mode:=1,exp:=false,thaw:=[],live:=bD 0 0 }),
 (68,{ mode:=1,exp:=false,thaw:=[],live:=bD 0 0 }),
 (69,{ mode:=0,exp:=false,thaw:=[],live:=bD 0 0 }),
 (70,{ mode:=1,exp:=false,thaw:=[],live:=bD 0 0 }),
 (71,{ mode:=1,exp:=false,thaw:=[],live:=bD 0 0 }),
 (77,{ mode:=1,exp:=false,thaw:=[],live:=bD 0 0 }),
 (80,{ mode:=1,exp:=false,thaw:=[],live:=bD 0 0 }),
 (81,{ mode:=1,exp:=false,thaw:=[],live:=bD 0 0 }),
 (82,{ mode:=1,exp:=false,thaw:=[],live:=bD 31 197 }),
 (83,{ mode:=2,exp:=false,thaw:=[],live:=bD 18 29 }),
 (84,{ mode:=2,exp:=false,thaw:=[],live:=bD 69 254 }),
 (85,{ mode:=1,exp:=false,thaw:=[],live:=bD 0 0 }),
 (86,{ mode:=1,exp:=false,thaw:=[],live:=bD 0 0 }),
 (87,{ mode:=1,exp:=false,thaw:=[],live:=bD 18 51 }),
 (88,{ mode:=1,exp:=false,thaw:=[],live:=bD 0 0 }),
 (89,{ mode:=1,exp:=false,thaw:=[],live:=bD 27 115 }),
 (90,{ mode:=2,exp:=true,thaw:=[],live:=bD 22 29 }),
 (91,{ mode:=2,exp:=false,thaw:=[0,0,0,2],live:=bD 17 45 }),
 (92,{ mode:=1,exp:=false,thaw:=[],live:=bD 0 0 }),
 (93,{ mode:=2,exp:=false,thaw:=[],live:=bD 0 0 }),
 (94,{ mode:=0,exp:=false,thaw:=[],live:=bD 14 33 }),
 (95,{ mode:=1,exp:=false,thaw:=[],live:=bD 18 460 }),
 (96,{ mode:=1,exp:=false,thaw:=[],live:=bD 0 0 }),
 (97,{ mode:=1,exp:=false,thaw:=[],live:=bD 0 0 }),
 (98,{ mode:=1,exp:=false,thaw:=[],live:=bD 26 51 }),
 (99,{ mode:=0,exp:=false,thaw:=[],live:=bD 19 51 }),
 (105,{ mode:=1,exp:=false,thaw:=[],live:=bD 0 0 }),
 (106,{ mode:=0,exp:=false,thaw:=[],live:=bD 0 0 }),
 (107,{ mode:=0,exp:=false,thaw:=[],live:=bD 148 3103 }),
 (108,{ mode:=1,exp:=false,thaw:=[],live:=bD 0 0 }),
 (109,{ mode:=0,exp:=false,thaw:=[],live:=bD 0 0 }),
 (110,{ mode:=1,exp:=false,thaw:=[],live:=bD 19 403 }),
 (117,{ mode:=2,exp:=false,thaw:=[],live:=bD 54 240553558140 }),
 (118,{ mode:=0,exp:=false,thaw:=[],live:=bD 0 0 }),
 (119,{ mode:=1,exp:=false,thaw:=(W16 (W2 [2])),live:=bD 63 61632781151244 }),
 (120,{ mode:=0,exp:=false,thaw:=[],live:=bD 0 0 }),
 (123,{ mode:=1,exp:=false,thaw:=[],live:=bD 0 0 }),
 (124,{ mode:=2,exp:=false,thaw:=[],live:=bD 43 126 }),
 (125,{ mode:=1,exp:=false,thaw:=[],live:=bD 15 51 }),
 (126,{ mode:=1,exp:=false,thaw:=[],live:=bD 0 0 }),
 (127,{ mode:=1,exp:=false,thaw:=[],live:=bD 107 65534 }),
 (128,{ mode:=1,exp:=false,thaw:=[],live:=bD 0 0 }),
 (129,{ mode:=2,exp:=false,thaw:=[],live:=bD 0 0 }),
 (130,{ mode:=1,exp:=false,thaw:=[],live:=bD 0 0 }),
 (131,{ mode:=1,exp:=false,thaw:=[],live:=bD 0 0 }),
 (134,{ mode:=0,exp:=false,thaw:=[],live:=bD 0 0 }),
 (135,{ mode:=0,exp:=false,thaw:=[],live:=bD 53 783 }),
 (136,{ mode:=0,exp:=false,thaw:=[],live:=bD 60 7945 }),
 (137,{ mode:=0,exp:=false,thaw:=[],live:=bD 67 3843 }),
 (138,{ mode:=0,exp:=false,thaw:=[],live:=bD 0 0 }),
 (139,{ mode:=0,exp:=false,thaw:=[],live:=bD 34 769 }),
 (140,{ mode:=0,exp:=false,thaw:=[],live:=bD 141 7951 }),
 (141,{ mode:=0,exp:=false,thaw:=[],live:=bD 90 7187 }),
 (142,{ mode:=0,exp:=false,thaw:=[],live:=bD 178 15379 }),
 (143,{ mode:=1,exp:=false,thaw:=[],live:=bD 0 0 }),
 (144,{ mode:=1,exp:=false,thaw:=[],live:=bD 0 0 }),
 (151,{ mode:=0,exp:=false,thaw:=(W8 (W2 [2])),live:=bD 50 118331 }),
 (152,{ mode:=1,exp:=false,thaw:=[0,0,0,2],live:=bD 32 29 }),
 (153,{ mode:=1,exp:=false,thaw:=[],live:=bD 18 51 }),
 (154,{ mode:=2,exp:=false,thaw:=[],live:=bD 41 62 }),
 (155,{ mode:=2,exp:=false,thaw:=[],live:=bD 48 8142 }),
 (156,{ mode:=1,exp:=false,thaw:=[],live:=bD 64 196 }),
 (157,{ mode:=2,exp:=false,thaw:=[],live:=bD 33 115 }),
 (158,{ mode:=0,exp:=false,thaw:=[],live:=bD 35 115 }),
 (159,{ mode:=1,exp:=false,thaw:=[],live:=bD 25 115 }),
 (160,{ mode:=2,exp:=false,thaw:=[],live:=bD 64 31775 }),
 (161,{ mode:=1,exp:=false,thaw:=[],live:=bD 23 13 }),
 (163,{ mode:=1,exp:=false,thaw:=[],live:=bD 0 0 }),
 (164,{ mode:=1,exp:=false,thaw:=[],live:=bD 0 0 }),
 (165,{ mode:=0,exp:=false,thaw:=[],live:=bD 82 1053 }),
 (166,{ mode:=1,exp:=false,thaw:=[],live:=bD 0 0 }),
 (168,{ mode:=0,exp:=false,thaw:=[],live:=bD 0 0 }),
 (169,{ mode:=0,exp:=false,thaw:=[],live:=bD 0 0 }),
 (174,{ mode:=0,exp:=false,thaw:=[],live:=bD 28 13 }),
 (175,{ mode:=2,exp:=false,thaw:=[],live:=bD 62 32542 }),
 (176,{ mode:=1,exp:=false,thaw:=[],live:=bD 0 0 }),
 (177,{ mode:=1,exp:=false,thaw:=[],live:=bD 36 455 }),
 (179,{ mode:=1,exp:=false,thaw:=[],live:=bD 18 115 }),
 (180,{ mode:=0,exp:=false,thaw:=[],live:=bD 0 0 }),
 (182,{ mode:=2,exp:=false,thaw:=[],live:=bD 79 3852 })]
noncomputable def aIN:List (TypeId × Nat):=[]
noncomputable def aLx:List (Nat × (List A → H → Option (A × H))):=[(50,HG 94 52),(69,N3 52)]
noncomputable def env:Env:={ P:=Tryz.prog,hint:=fun f => (aZs.lookup f).getD {},eqs:=aIN,prim:=fun f => aLx.lookup f }
theorem B8:(env.hint 3).mode = 1:=kr
theorem pM:(env.hint 12).mode = 1:=kr
theorem tZ:(env.hint 13).mode = 2:=kr
theorem pJ:(env.hint 14).mode = 2:=kr
theorem nE:(env.hint 15).mode = 3:=kr
theorem o8:(env.hint 16).mode = 1:=kr
theorem bX:(env.hint 17).mode = 1:=kr
theorem w9:(env.hint 18).mode = 0:=kr
theorem BP:(env.hint 19).mode = 0:=kr
theorem uI:(env.hint 20).mode = 1:=kr
theorem zL:(env.hint 30).mode = 3:=kr
theorem rH:(env.hint 31).mode = 3:=kr
theorem N0:(env.hint 39).mode = 1:=kr
theorem PS:(env.hint 40).mode = 1:=kr
theorem kV:(env.hint 41).mode = 1:=kr
theorem L5:(env.hint 42).mode = 2:=kr
theorem z6:(env.hint 43).mode = 2:=kr
theorem PW:(env.hint 44).mode = 2:=kr
theorem KW:(env.hint 45).mode = 0:=kr
theorem QB:(env.hint 46).mode = 2:=kr
theorem QC:(env.hint 47).mode = 2:=kr
theorem kS:(env.hint 48).mode = 1:=kr
theorem OS:(env.hint 49).mode = 2:=kr
theorem mL:(env.hint 50).mode = 0:=kr
theorem gI:(env.hint 51).mode = 0:=kr
theorem RR:(env.hint 52).mode = 1:=kr
theorem xN:(env.hint 53).mode = 1:=kr
theorem wW:(env.hint 54).mode = 1:=kr
theorem HE:(env.hint 55).mode = 0:=kr
theorem IC:(env.hint 56).mode = 0:=kr
theorem ZJ:(env.hint 57).mode = 1:=kr
theorem L7:(env.hint 64).mode = 1:=kr
theorem aHN:(env.hint 65).mode = 1:=kr
theorem oK:(env.hint 68).mode = 1:=kr
theorem j3:(env.hint 69).mode = 0:=kr
theorem n4:(env.hint 70).mode = 1:=kr
theorem jZ:(env.hint 71).mode = 1:=kr
theorem wZ:(env.hint 77).mode = 1:=kr
theorem TB:(env.hint 80).mode = 1:=kr
theorem LO:(env.hint 81).mode = 1:=kr
theorem O8:(env.hint 82).mode = 1:=kr
theorem PR:(env.hint 83).mode = 2:=kr
theorem Y9:(env.hint 84).mode = 2:=kr
theorem oJ:(env.hint 85).mode = 1:=kr
theorem nV:(env.hint 86).mode = 1:=kr
theorem O5:(env.hint 87).mode = 1:=kr
theorem YG:(env.hint 88).mode = 1:=kr
theorem ET:(env.hint 89).mode = 1:=kr
theorem S6:(env.hint 90).mode = 2:=kr
theorem NW:(env.hint 91).mode = 2:=kr
theorem LY:(env.hint 92).mode = 1:=kr
theorem u2:(env.hint 93).mode = 2:=kr
theorem j6:(env.hint 94).mode = 0:=kr
theorem wN:(env.hint 95).mode = 1:=kr
theorem FE:(env.hint 96).mode = 1:=kr
theorem y2:(env.hint 97).mode = 1:=kr
theorem AK:(env.hint 98).mode = 1:=kr
theorem KZ:(env.hint 99).mode = 0:=kr
theorem BK:(env.hint 105).mode = 1:=kr
theorem EF:(env.hint 106).mode = 0:=kr
theorem o7:(env.hint 107).mode = 0:=kr
theorem JN:(env.hint 108).mode = 1:=kr
theorem sI:(env.hint 109).mode = 0:=kr
theorem k6:(env.hint 110).mode = 1:=kr
theorem UV:(env.hint 117).mode = 2:=kr
theorem sV:(env.hint 118).mode = 0:=kr
theorem uG:(env.hint 119).mode = 1:=kr
theorem CC:(env.hint 120).mode = 0:=kr
theorem aA4:(env.hint 123).mode = 1:=kr
theorem VD:(env.hint 124).mode = 2:=kr
theorem HV:(env.hint 125).mode = 1:=kr
theorem sH:(env.hint 126).mode = 1:=kr
theorem yM:(env.hint 127).mode = 1:=kr
theorem LP:(env.hint 128).mode = 1:=kr
theorem oG:(env.hint 129).mode = 2:=kr
theorem JL:(env.hint 130).mode = 1:=kr
theorem CR:(env.hint 131).mode = 1:=kr
theorem vT:(env.hint 134).mode = 0:=kr
theorem mC:(env.hint 135).mode = 0:=kr
theorem oO:(env.hint 136).mode = 0:=kr
theorem mF:(env.hint 137).mode = 0:=kr
theorem nK:(env.hint 138).mode = 0:=kr
theorem m4:(env.hint 139).mode = 0:=kr
theorem jY:(env.hint 140).mode = 0:=kr
theorem lU:(env.hint 141).mode = 0:=kr
theorem n9:(env.hint 142).mode = 0:=kr
theorem DY:(env.hint 143).mode = 1:=kr
theorem EM:(env.hint 144).mode = 1:=kr
theorem pV:(env.hint 151).mode = 0:=kr
theorem EB:(env.hint 152).mode = 1:=kr
theorem SZ:(env.hint 153).mode = 1:=kr
theorem HX:(env.hint 154).mode = 2:=kr
theorem HZ:(env.hint 155).mode = 2:=kr
theorem HF:(env.hint 156).mode = 1:=kr
theorem QZ:(env.hint 157).mode = 2:=kr
theorem K5:(env.hint 158).mode = 0:=kr
theorem qE:(env.hint 159).mode = 1:=kr
theorem oC:(env.hint 160).mode = 2:=kr
theorem OK:(env.hint 161).mode = 1:=kr
theorem AU:(env.hint 163).mode = 1:=kr
theorem aDT:(env.hint 164).mode = 1:=kr
theorem oM:(env.hint 165).mode = 0:=kr
theorem u3:(env.hint 166).mode = 1:=kr
theorem lN:(env.hint 168).mode = 0:=kr
theorem pF:(env.hint 169).mode = 0:=kr
theorem mK:(env.hint 174).mode = 0:=kr
theorem U5:(env.hint 175).mode = 2:=kr
theorem eP:(env.hint 176).mode = 1:=kr
theorem uV:(env.hint 177).mode = 1:=kr
theorem UO:(env.hint 179).mode = 1:=kr
theorem pN:(env.hint 180).mode = 0:=kr
theorem NZ:(env.hint 182).mode = 2:=kr
theorem MD0:type_of% (AI @B8 (AI @pM (AI @tZ (AI @pJ (AI @nE (AI @o8 (AI @bX (AI @w9 (AI @BP (AI @uI (AI @zL (AI @rH (AI @N0 (AI @PS (AI @kV (AI @L5 (AI @z6 (AI @PW (AI @KW (AI @QB (AI @QC (AI @kS (AI @OS (AI @mL (AI @gI (AI @RR (AI @xN (AI @wW (AI @HE (AI @IC (AI @ZJ (AI @L7 (AI @aHN (AI @oK (AI @j3 (AI @n4 (AI @jZ (AI @wZ (AI @TB (AI @LO (AI @O8 (AI @PR (AI @Y9 (AI @oJ (AI @nV (AI @O5 (AI @YG (AI @ET (AI @S6 (AI @NW (AI @LY (AI @u2 (AI @j6 (AI @wN (AI @FE (AI @y2 (AI @AK (AI @KZ (AI @BK @EF))))))))))))))))))))))))))))))))))))))))))))))))))))))))))) :=
 ⟨@B8,@pM,@tZ,@pJ,@nE,@o8,@bX,@w9,@BP,@uI,@zL,@rH,@N0,@PS,@kV,@L5,@z6,@PW,@KW,@QB,@QC,@kS,@OS,@mL,@gI,@RR,@xN,@wW,@HE,@IC,@ZJ,@L7,@aHN,@oK,@j3,@n4,@jZ,@wZ,@TB,@LO,@O8,@PR,@Y9,@oJ,@nV,@O5,@YG,@ET,@S6,@NW,@LY,@u2,@j6,@wN,@FE,@y2,@AK,@KZ,@BK,@EF⟩
theorem MD1:type_of% (AI @o7 (AI @JN (AI @sI (AI @k6 (AI @UV (AI @sV (AI @uG (AI @CC (AI @aA4 (AI @VD (AI @HV (AI @sH (AI @yM (AI @LP (AI @oG (AI @JL (AI @CR (AI @vT (AI @mC (AI @oO (AI @mF (AI @nK (AI @m4 (AI @jY (AI @lU (AI @n9 (AI @DY (AI @EM (AI @pV (AI @EB (AI @SZ (AI @HX (AI @HZ (AI @HF (AI @QZ (AI @K5 (AI @qE (AI @oC (AI @OK (AI @AU (AI @aDT (AI @oM (AI @u3 (AI @lN (AI @pF (AI @mK (AI @U5 (AI @eP (AI @uV (AI @UO (AI @pN @NZ))))))))))))))))))))))))))))))))))))))))))))))))))) :=
 ⟨@o7,@JN,@sI,@k6,@UV,@sV,@uG,@CC,@aA4,@VD,@HV,@sH,@yM,@LP,@oG,@JL,@CR,@vT,@mC,@oO,@mF,@nK,@m4,@jY,@lU,@n9,@DY,@EM,@pV,@EB,@SZ,@HX,@HZ,@HF,@QZ,@K5,@qE,@oC,@OK,@AU,@aDT,@oM,@u3,@lN,@pF,@mK,@U5,@eP,@uV,@UO,@pN,@NZ⟩
theorem MD:type_of% (AI @MD0 @MD1) :=
 ⟨@MD0,@MD1⟩
end Ev
end Go.Proofs.YtejmccgfigiadaaGreat
