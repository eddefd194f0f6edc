/-
  What the evaluator is told of each function, and each function's code as an equation. Written by a program.
-/
import Derived.Test.YtahbdkmimmnadaaGreatDoorEvPrim
import Derived.Test.YtahbdkmimmnadaaGreatDoorChecked
set_option linter.unusedSimpArgs false
set_option linter.unusedVariables false
set_option maxRecDepth 100000
namespace Go.Proofs.YtahbdkmimmnadaaGreatDoor
namespace Ev
def aR:Nat->Nat->List Bool
 |0,_=>[]
 |n+1,k=>(k % 2==1)::aR n (k/2)
noncomputable def aPX:List (Nat×Hint):=[
 (4,{ mode:=1,exp:=false,thaw:=[],live:=aR 0 0}),
 (11,{ mode:=2,exp:=false,thaw:=[],live:=aR 66 469}),
 (14,{ mode:=2,exp:=false,thaw:=(W4 (W2 (W1 [4]))),live:=aR 62 240518169045}),
 (22,{ mode:=2,exp:=false,thaw:=[],live:=aR 0 0}),
 (23,{ mode:=1,exp:=false,thaw:=[],live:=aR 26 51}),
 (24,{ mode:=1,exp:=false,thaw:=[],live:=aR 0 0}),
 (25,{ mode:=1,exp:=false,thaw:=[],live:=aR 21 3596}),
 (26,{ mode:=2,exp:=false,thaw:=[],live:=aR 0 0}),
 (29,{ mode:=1,exp:=false,thaw:=[],live:=aR 0 0}),
 (30,{ mode:=1,exp:=false,thaw:=[],live:=aR 0 0}),
 (31,{ mode:=1,exp:=false,thaw:=[],live:=aR 65 1972248982323214}),
 (55,{ mode:=1,exp:=false,thaw:=[],live:=aR 33 29}),
 (56,{ mode:=1,exp:=false,thaw:=[],live:=aR 44 30}),
 (57,{ mode:=2,exp:=false,thaw:=[],live:=aR 0 0}),
 (58,{ mode:=1,exp:=false,thaw:=[],live:=aR 0 0}),
 (62,{ mode:=1,exp:=false,thaw:=[],live:=aR 0 0}),
 (63,{ mode:=0,exp:=true,thaw:=[],live:=aR 0 0}),
 (70,{ mode:=2,exp:=true,thaw:=[],live:=aR 0 0}),
 (71,{ mode:=0,exp:=false,thaw:=[],live:=aR 0 0}),
 (72,{ mode:=0,exp:=false,thaw:=[],live:=aR 0 0}),
 (73,{ mode:=0,exp:=false,thaw:=[],live:=aR 0 0}),
 (74,{ mode:=0,exp:=false,thaw:=[],live:=aR 0 0}),
 (75,{ mode:=1,exp:=false,thaw:=[],live:=aR 49 2005}),
 (76,{ mode:=1,exp:=false,thaw:=[],live:=aR 0 0}),
 (77,{ mode:=1,exp:=false,thaw:=[],live:=aR 68 7340038}),
 (78,{ mode:=0,exp:=true,thaw:=[],live:=aR 0 0}),
 (79,{ mode:=0,exp:=true,thaw:=[],live:=aR 0 0}),
 (82,{ mode:=1,exp:=false,thaw:=[],live:=aR 0 0}),
 (83,{ mode:=1,exp:=false,thaw:=[],live:=aR 107 65534}),
 (84,{ mode:=1,exp:=false,thaw:=[],live:=aR 0 0}),
 (85,{ mode:=2,exp:=false,thaw:=[0,0,0,2],live:=aR 17 45}),
 (89,{ mode:=2,exp:=false,thaw:=[],live:=aR 54 240553558140}),
 (95,{ mode:=1,exp:=false,thaw:=[],live:=aR 0 0}),
 (101,{ mode:=1,exp:=false,thaw:=[],live:=aR 55 14}),
 (102,{ mode:=1,exp:=false,thaw:=[],live:=aR 0 0}),
 (112,{ mode:=2,exp:=false,thaw:=[],live:=aR 18 29}),
 (116,{ mode:=1,exp:=false,thaw:=[],live:=aR 0 0}),
 (120,{ mode:=1,exp:=false,thaw:=[],live:=aR 0 0}),
 (124,{ mode:=1,exp:=false,thaw:=[],live:=aR 0 0}),
 (125,{ mode:=1,exp:=false,thaw:=[],live:=aR 31 197}),
 (128,{ mode:=1,exp:=false,thaw:=[],live:=aR 0 0}),
 (129,{ mode:=0,exp:=false,thaw:=[],live:=aR 0 0}),
 (132,{ mode:=0,exp:=true,thaw:=[],live:=aR 26 29}),
 (133,{ mode:=0,exp:=false,thaw:=[],live:=aR 0 0}),
 (134,{ mode:=0,exp:=false,thaw:=(W32 (W32 (W16 (W2 (W1 [1002,0,0,0,0,0,0,0,0,0,0,0,0,0,0,0,0,0,0,0,0,0,1002]))))),live:=aR 114 112}),
 (135,{ mode:=0,exp:=false,thaw:=[],live:=aR 34 19}),
 (136,{ mode:=0,exp:=false,thaw:=[],live:=aR 0 0}),
 (137,{ mode:=2,exp:=false,thaw:=[],live:=aR 0 0}),
 (138,{ mode:=2,exp:=false,thaw:=[],live:=aR 72 1565}),
 (139,{ mode:=2,exp:=false,thaw:=[],live:=aR 72 413}),
 (140,{ mode:=0,exp:=false,thaw:=[],live:=aR 105 1784}),
 (141,{ mode:=0,exp:=false,thaw:=(W32 (W32 (W16 (W8 (W4 (W1 [1002])))))),live:=aR 0 0}),
 (142,{ mode:=1,exp:=false,thaw:=[],live:=aR 18 460}),
 (143,{ mode:=1,exp:=false,thaw:=[],live:=aR 0 0}),
 (144,{ mode:=1,exp:=false,thaw:=[],live:=aR 0 0}),
 (146,{ mode:=0,exp:=false,thaw:=[],live:=aR 0 0}),
 (147,{ mode:=0,exp:=false,thaw:=[],live:=aR 0 0}),
 (148,{ mode:=2,exp:=false,thaw:=[],live:=aR 23 1804}),
 (149,{ mode:=0,exp:=false,thaw:=[],live:=aR 68 22580}),
 (150,{ mode:=0,exp:=false,thaw:=(W8 (W4 (W2 [2]))),live:=aR 91 65572410574514511646}),
 (151,{ mode:=0,exp:=false,thaw:=[],live:=aR 0 0}),
 (152,{ mode:=1,exp:=false,thaw:=(W16 (W2 [2])),live:=aR 63 61632781151244}),
 (153,{ mode:=1,exp:=false,thaw:=[],live:=aR 19 908}),
 (154,{ mode:=2,exp:=false,thaw:=[],live:=aR 41 62}),
 (155,{ mode:=2,exp:=false,thaw:=[],live:=aR 48 8142}),
 (156,{ mode:=1,exp:=false,thaw:=[],live:=aR 64 196}),
 (157,{ mode:=2,exp:=false,thaw:=[],live:=aR 33 115}),
 (158,{ mode:=0,exp:=false,thaw:=[],live:=aR 35 115}),
 (159,{ mode:=1,exp:=false,thaw:=[],live:=aR 25 115}),
 (160,{ mode:=2,exp:=false,thaw:=[],live:=aR 64 31775}),
 (161,{ mode:=1,exp:=false,thaw:=[],live:=aR 0 0}),
 (169,{ mode:=1,exp:=false,thaw:=[],live:=aR 0 0}),
 (180,{ mode:=2,exp:=false,thaw:=[0,0,0,2],live:=aR 17 13}),
 (185,{ mode:=2,exp:=false,thaw:=[],live:=aR 32 1804}),
 (193,{ mode:=1,exp:=false,thaw:=[],live:=aR 19 403}),
 (194,{ mode:=0,exp:=false,thaw:=[],live:=aR 0 0}),
 (195,{ mode:=0,exp:=false,thaw:=[],live:=aR 0 0}),
 (196,{ mode:=0,exp:=false,thaw:=[],live:=aR 49 964}),
 (197,{ mode:=0,exp:=false,thaw:=[],live:=aR 0 0}),
 (198,{ mode:=2,exp:=true,thaw:=(W16 (W8 (W4 [1002]))),live:=aR 32 30}),
 (199,{ mode:=2,exp:=false,thaw:=[],live:=aR 36 243}),
 (200,{ mode:=1,exp:=false,thaw:=[],live:=aR 14 29}),
 (201,{ mode:=1,exp:=false,thaw:=[],live:=aR 67 125}),
 (202,{ mode:=2,exp:=false,thaw:=[],live:=aR 51 29}),
 (203,{ mode:=1,exp:=false,thaw:=[],live:=aR 44 30}),
 (204,{ mode:=2,exp:=false,thaw:=[],live:=aR 36 124}),
 (205,{ mode:=1,exp:=false,thaw:=[],live:=aR 54 94}),
 (206,{ mode:=1,exp:=false,thaw:=[],live:=aR 0 0}),
 (207,{ mode:=0,exp:=false,thaw:=[],live:=aR 0 0}),
 (208,{ mode:=2,exp:=false,thaw:=[],live:=aR 0 0}),
 (209,{ mode:=0,exp:=false,thaw:=[],live:=aR 52 16141}),
 (210,{ mode:=0,exp:=false,thaw:=(W8 (W2 [2])),live:=aR 50 118331}),
 (211,{ mode:=1,exp:=false,thaw:=[0,0,0,2],live:=aR 32 29}),
 (212,{ mode:=2,exp:=false,thaw:=[],live:=aR 62 32542}),
 (213,{ mode:=1,exp:=false,thaw:=[],live:=aR 0 0}),
 (214,{ mode:=1,exp:=false,thaw:=[],live:=aR 36 455}),
 (215,{ mode:=1,exp:=false,thaw:=[],live:=aR 18 51}),
 (240,{ mode:=1,exp:=false,thaw:=[],live:=aR 0 0}),
 (247,{ mode:=0,exp:=true,thaw:=(W32 (W4 (W1 [1002]))),live:=aR 49 4037}),
 (248,{ mode:=1,exp:=false,thaw:=[],live:=aR 27 60}),
 (249,{ mode:=1,exp:=false,thaw:=[],live:=aR 0 0}),
 (250,{ mode:=1,exp:=false,thaw:=[],live:=aR 31 13}),
 (251,{ mode:=0,exp:=false,thaw:=[],live:=aR 28 13}),
 (252,{ mode:=2,exp:=false,thaw:=[],live:=aR 79 3852}),
 (267,{ mode:=1,exp:=false,thaw:=[],live:=aR 0 0}),
 (268,{ mode:=1,exp:=false,thaw:=[],live:=aR 0 0}),
 (270,{ mode:=1,exp:=false,thaw:=[],live:=aR 0 0}),
 (275,{ mode:=1,exp:=false,thaw:=[],live:=aR 18 115})]
noncomputable def aBL:List (TypeId×Nat):=[(53,3)]
noncomputable def aIX:List (Nat×(List A->H->Option (A×H))):=[(63,lM 3),(78,zM 3),(79,lM 3),(240,gCtz)]
noncomputable def env:Env:={ P:=Tryz.prog,hint:=fun f=>(aPX.lookup f).getD {},eqs:=aBL,prim:=fun f=>aIX.lookup f}
theorem FA:(env.hint 4).mode=1:=kr
theorem AS:(env.hint 11).mode=2:=kr
theorem AX:(env.hint 14).mode=2:=kr
theorem tN:(env.hint 22).mode=2:=kr
theorem Q5:(env.hint 23).mode=1:=kr
theorem uT:(env.hint 24).mode=1:=kr
theorem yD:(env.hint 25).mode=1:=kr
theorem IK:(env.hint 26).mode=2:=kr
theorem nA:(env.hint 29).mode=1:=kr
theorem m3:(env.hint 30).mode=1:=kr
theorem wF:(env.hint 31).mode=1:=kr
theorem n7:(env.hint 55).mode=1:=kr
theorem vY:(env.hint 56).mode=1:=kr
theorem KU:(env.hint 57).mode=2:=kr
theorem vC:(env.hint 58).mode=1:=kr
theorem G9:(env.hint 62).mode=1:=kr
theorem fQ:(env.hint 63).mode=0:=kr
theorem LU:(env.hint 70).mode=2:=kr
theorem KH:(env.hint 71).mode=0:=kr
theorem DF:(env.hint 72).mode=0:=kr
theorem LV:(env.hint 73).mode=0:=kr
theorem GN:(env.hint 74).mode=0:=kr
theorem c9:(env.hint 75).mode=1:=kr
theorem y6:(env.hint 76).mode=1:=kr
theorem BP:(env.hint 77).mode=1:=kr
theorem gJ:(env.hint 78).mode=0:=kr
theorem gT:(env.hint 79).mode=0:=kr
theorem qY:(env.hint 82).mode=1:=kr
theorem zG:(env.hint 83).mode=1:=kr
theorem DC:(env.hint 84).mode=1:=kr
theorem FG:(env.hint 85).mode=2:=kr
theorem zE:(env.hint 89).mode=2:=kr
theorem DH:(env.hint 95).mode=1:=kr
theorem A9:(env.hint 101).mode=1:=kr
theorem OH:(env.hint 102).mode=1:=kr
theorem FX:(env.hint 112).mode=2:=kr
theorem PQ:(env.hint 116).mode=1:=kr
theorem aAF:(env.hint 120).mode=1:=kr
theorem CX:(env.hint 124).mode=1:=kr
theorem P0:(env.hint 125).mode=1:=kr
theorem d9:(env.hint 128).mode=1:=kr
theorem A4:(env.hint 129).mode=0:=kr
theorem OP:(env.hint 132).mode=0:=kr
theorem DJ:(env.hint 133).mode=0:=kr
theorem KN:(env.hint 134).mode=0:=kr
theorem KO:(env.hint 135).mode=0:=kr
theorem KY:(env.hint 136).mode=0:=kr
theorem HT:(env.hint 137).mode=2:=kr
theorem BQ:(env.hint 138).mode=2:=kr
theorem vK:(env.hint 139).mode=2:=kr
theorem IY:(env.hint 140).mode=0:=kr
theorem I9:(env.hint 141).mode=0:=kr
theorem xG:(env.hint 142).mode=1:=kr
theorem x6:(env.hint 143).mode=1:=kr
theorem LK:(env.hint 144).mode=1:=kr
theorem KJ:(env.hint 146).mode=0:=kr
theorem OF:(env.hint 147).mode=0:=kr
theorem IF:(env.hint 148).mode=2:=kr
theorem m9:(env.hint 149).mode=0:=kr
theorem sX:(env.hint 150).mode=0:=kr
theorem vN:(env.hint 151).mode=0:=kr
theorem uX:(env.hint 152).mode=1:=kr
theorem CY:(env.hint 153).mode=1:=kr
theorem LO:(env.hint 154).mode=2:=kr
theorem LR:(env.hint 155).mode=2:=kr
theorem zA:(env.hint 156).mode=1:=kr
theorem HM:(env.hint 157).mode=2:=kr
theorem CI:(env.hint 158).mode=0:=kr
theorem IT:(env.hint 159).mode=1:=kr
theorem jQ:(env.hint 160).mode=2:=kr
theorem O0:(env.hint 161).mode=1:=kr
theorem IP:(env.hint 169).mode=1:=kr
theorem KI:(env.hint 180).mode=2:=kr
theorem KS:(env.hint 185).mode=2:=kr
theorem iM:(env.hint 193).mode=1:=kr
theorem LJ:(env.hint 194).mode=0:=kr
theorem OI:(env.hint 195).mode=0:=kr
theorem OK:(env.hint 196).mode=0:=kr
theorem OJ:(env.hint 197).mode=0:=kr
theorem uG:(env.hint 198).mode=2:=kr
theorem N3:(env.hint 199).mode=2:=kr
theorem wQ:(env.hint 200).mode=1:=kr
theorem OC:(env.hint 201).mode=1:=kr
theorem J9:(env.hint 202).mode=2:=kr
theorem yN:(env.hint 203).mode=1:=kr
theorem LF:(env.hint 204).mode=2:=kr
theorem tQ:(env.hint 205).mode=1:=kr
theorem AV:(env.hint 206).mode=1:=kr
theorem IB:(env.hint 207).mode=0:=kr
theorem LD:(env.hint 208).mode=2:=kr
theorem I5:(env.hint 209).mode=0:=kr
theorem lA:(env.hint 210).mode=0:=kr
theorem x4:(env.hint 211).mode=1:=kr
theorem L3:(env.hint 212).mode=2:=kr
theorem V4:(env.hint 213).mode=1:=kr
theorem B7:(env.hint 214).mode=1:=kr
theorem JO:(env.hint 215).mode=1:=kr
theorem nE:(env.hint 240).mode=1:=kr
theorem IS:(env.hint 247).mode=0:=kr
theorem vV:(env.hint 248).mode=1:=kr
theorem VE:(env.hint 249).mode=1:=kr
theorem O8:(env.hint 250).mode=1:=kr
theorem iO:(env.hint 251).mode=0:=kr
theorem GO:(env.hint 252).mode=2:=kr
theorem lY:(env.hint 267).mode=1:=kr
theorem lR:(env.hint 268).mode=1:=kr
theorem U6:(env.hint 270).mode=1:=kr
theorem LX:(env.hint 275).mode=1:=kr
theorem MD0:type_of% (AI @FA (AI @AS (AI @AX (AI @tN (AI @Q5 (AI @uT (AI @yD (AI @IK (AI @nA (AI @m3 (AI @wF (AI @n7 (AI @vY (AI @KU (AI @vC (AI @G9 (AI @fQ (AI @LU (AI @KH (AI @DF (AI @LV (AI @GN (AI @c9 (AI @y6 (AI @BP (AI @gJ (AI @gT (AI @qY (AI @zG (AI @DC (AI @FG (AI @zE (AI @DH (AI @A9 (AI @OH (AI @FX (AI @PQ (AI @aAF (AI @CX (AI @P0 (AI @d9 (AI @A4 (AI @OP (AI @DJ (AI @KN (AI @KO (AI @KY (AI @HT (AI @BQ (AI @vK (AI @IY (AI @I9 (AI @xG (AI @x6 (AI @LK (AI @KJ (AI @OF (AI @IF (AI @m9 @sX))))))))))))))))))))))))))))))))))))))))))))))))))))))))))):=
 ⟨@FA,@AS,@AX,@tN,@Q5,@uT,@yD,@IK,@nA,@m3,@wF,@n7,@vY,@KU,@vC,@G9,@fQ,@LU,@KH,@DF,@LV,@GN,@c9,@y6,@BP,@gJ,@gT,@qY,@zG,@DC,@FG,@zE,@DH,@A9,@OH,@FX,@PQ,@aAF,@CX,@P0,@d9,@A4,@OP,@DJ,@KN,@KO,@KY,@HT,@BQ,@vK,@IY,@I9,@xG,@x6,@LK,@KJ,@OF,@IF,@m9,@sX⟩
theorem MD1:type_of% (AI @vN (AI @uX (AI @CY (AI @LO (AI @LR (AI @zA (AI @HM (AI @CI (AI @IT (AI @jQ (AI @O0 (AI @IP (AI @KI (AI @KS (AI @iM (AI @LJ (AI @OI (AI @OK (AI @OJ (AI @uG (AI @N3 (AI @wQ (AI @OC (AI @J9 (AI @yN (AI @LF (AI @tQ (AI @AV (AI @IB (AI @LD (AI @I5 (AI @lA (AI @x4 (AI @L3 (AI @V4 (AI @B7 (AI @JO (AI @nE (AI @IS (AI @vV (AI @VE (AI @O8 (AI @iO (AI @GO (AI @lY (AI @lR (AI @U6 @LX))))))))))))))))))))))))))))))))))))))))))))))):=
 ⟨@vN,@uX,@CY,@LO,@LR,@zA,@HM,@CI,@IT,@jQ,@O0,@IP,@KI,@KS,@iM,@LJ,@OI,@OK,@OJ,@uG,@N3,@wQ,@OC,@J9,@yN,@LF,@tQ,@AV,@IB,@LD,@I5,@lA,@x4,@L3,@V4,@B7,@JO,@nE,@IS,@vV,@VE,@O8,@iO,@GO,@lY,@lR,@U6,@LX⟩
theorem MD:type_of% (AI @MD0 @MD1):=
 ⟨@MD0,@MD1⟩
end Ev
end Go.Proofs.YtahbdkmimmnadaaGreatDoor
