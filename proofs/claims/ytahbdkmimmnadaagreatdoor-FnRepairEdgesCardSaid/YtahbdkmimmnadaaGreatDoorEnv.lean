/-
  What the evaluator is told of each function, and each function's code as an equation. Written by a program.
-/
import Derived.Test.YtahbdkmimmnadaaGreatDoorEvPrim
import Derived.Test.YtahbdkmimmnadaaGreatDoorChecked
set_option linter.unusedSimpArgs false
set_option linter.unusedVariables false
set_option maxRecDepth 100000
namespace Go.Proofs.YtahbdkmimmnadaaGreatDoor
namespace Ev
def aR:Nat->Nat->List Bool
 |0,_=>[]
 |n+1,k=>(k % 2==1)::aR n (k/2)
noncomputable def aPS:List (Nat×Hint):=[
 (5,{ mode:=1,exp:=false,thaw:=[],live:=aR 120 508}),
 (11,{ mode:=2,exp:=false,thaw:=[],live:=aR 66 469}),
 (14,{ mode:=2,exp:=false,thaw:=(W4 (W2 (W1 [4]))),live:=aR 62 240518169045}),
 (22,{ mode:=2,exp:=false,thaw:=[],live:=aR 0 0}),
 (23,{ mode:=1,exp:=false,thaw:=[],live:=aR 26 51}),
 (24,{ mode:=1,exp:=false,thaw:=[],live:=aR 0 0}),
 (25,{ mode:=1,exp:=false,thaw:=[],live:=aR 21 3596}),
 (26,{ mode:=2,exp:=false,thaw:=[],live:=aR 0 0}),
 (29,{ mode:=1,exp:=false,thaw:=[],live:=aR 0 0}),
 (30,{ mode:=1,exp:=false,thaw:=[],live:=aR 0 0}),
 (31,{ mode:=1,exp:=false,thaw:=[],live:=aR 65 1972248982323214}),
 (55,{ mode:=1,exp:=false,thaw:=[],live:=aR 33 29}),
 (56,{ mode:=1,exp:=false,thaw:=[],live:=aR 44 30}),
 (57,{ mode:=2,exp:=false,thaw:=[],live:=aR 0 0}),
 (58,{ mode:=1,exp:=false,thaw:=[],live:=aR 0 0}),
 (62,{ mode:=1,exp:=false,thaw:=[],live:=aR 0 0}),
 (63,{ mode:=0,exp:=true,thaw:=[],live:=aR 0 0}),
 (70,{ mode:=2,exp:=true,thaw:=[],live:=aR 0 0}),
 (71,{ mode:=0,exp:=false,thaw:=[],live:=aR 0 0}),
 (72,{ mode:=0,exp:=false,thaw:=[],live:=aR 0 0}),
 (73,{ mode:=0,exp:=false,thaw:=[],live:=aR 0 0}),
 (74,{ mode:=0,exp:=false,thaw:=[],live:=aR 0 0}),
 (75,{ mode:=1,exp:=false,thaw:=[],live:=aR 49 2005}),
 (76,{ mode:=1,exp:=false,thaw:=[],live:=aR 0 0}),
 (77,{ mode:=1,exp:=false,thaw:=[],live:=aR 68 7340038}),
 (78,{ mode:=0,exp:=true,thaw:=[],live:=aR 0 0}),
 (79,{ mode:=0,exp:=true,thaw:=[],live:=aR 0 0}),
 (82,{ mode:=1,exp:=false,thaw:=[],live:=aR 0 0}),
 (83,{ mode:=1,exp:=false,thaw:=[],live:=aR 107 65534}),
 (84,{ mode:=1,exp:=false,thaw:=[],live:=aR 0 0}),
 (85,{ mode:=2,exp:=false,thaw:=[0,0,0,2],live:=aR 17 45}),
 (89,{ mode:=2,exp:=false,thaw:=[],live:=aR 54 240553558140}),
 (95,{ mode:=1,exp:=false,thaw:=[],live:=aR 0 0}),
 (101,{ mode:=1,exp:=false,thaw:=[],live:=aR 55 14}),
 (102,{ mode:=1,exp:=false,thaw:=[],live:=aR 0 0}),
 (112,{ mode:=2,exp:=false,thaw:=[],live:=aR 18 29}),
 (116,{ mode:=1,exp:=false,thaw:=[],live:=aR 0 0}),
 (120,{ mode:=1,exp:=false,thaw:=[],live:=aR 0 0}),
 (124,{ mode:=1,exp:=false,thaw:=[],live:=aR 0 0}),
 (125,{ mode:=1,exp:=false,thaw:=[],live:=aR 31 197}),
 (128,{ mode:=1,exp:=false,thaw:=[],live:=aR 0 0}),
 (129,{ mode:=0,exp:=false,thaw:=[],live:=aR 0 0}),
 (132,{ mode:=0,exp:=true,thaw:=[],live:=aR 26 29}),
 (133,{ mode:=0,exp:=false,thaw:=[],live:=aR 0 0}),
 (134,{ mode:=0,exp:=false,thaw:=(W32 (W32 (W16 (W2 (W1 [1002,0,0,0,0,0,0,0,0,0,0,0,0,0,0,0,0,0,0,0,0,0,1002]))))),live:=aR 114 112}),
 (135,{ mode:=0,exp:=false,thaw:=[],live:=aR 34 19}),
 (136,{ mode:=0,exp:=false,thaw:=[],live:=aR 0 0}),
 (137,{ mode:=2,exp:=false,thaw:=[],live:=aR 0 0}),
 (138,{ mode:=2,exp:=false,thaw:=[],live:=aR 72 1565}),
 (139,{ mode:=2,exp:=false,thaw:=[],live:=aR 72 413}),
 (140,{ mode:=0,exp:=false,thaw:=[],live:=aR 105 1784}),
 (141,{ mode:=0,exp:=false,thaw:=(W32 (W32 (W16 (W8 (W4 (W1 [1002])))))),live:=aR 0 0}),
 (142,{ mode:=1,exp:=false,thaw:=[],live:=aR 18 460}),
 (143,{ mode:=1,exp:=false,thaw:=[],live:=aR 0 0}),
 (144,{ mode:=1,exp:=false,thaw:=[],live:=aR 0 0}),
 (146,{ mode:=0,exp:=false,thaw:=[],live:=aR 0 0}),
 (147,{ mode:=0,exp:=false,thaw:=[],live:=aR 0 0}),
 (148,{ mode:=2,exp:=false,thaw:=[],live:=aR 23 1804}),
 (149,{ mode:=0,exp:=false,thaw:=[],live:=aR 68 22580}),
 (150,{ mode:=0,exp:=false,thaw:=(W8 (W4 (W2 [2]))),live:=aR 91 65572410574514511646}),
 (151,{ mode:=0,exp:=false,thaw:=[],live:=aR 0 0}),
 (152,{ mode:=1,exp:=false,thaw:=(W16 (W2 [2])),live:=aR 63 61632781151244}),
 (153,{ mode:=1,exp:=false,thaw:=[],live:=aR 19 908}),
 (154,{ mode:=2,exp:=false,thaw:=[],live:=aR 41 62}),
 (155,{ mode:=2,exp:=false,thaw:=[],live:=aR 48 8142}),
 (156,{ mode:=1,exp:=false,thaw:=[],live:=aR 64 196}),
 (157,{ mode:=2,exp:=false,thaw:=[],live:=aR 33 115}),
 (158,{ mode:=0,exp:=false,thaw:=[],live:=aR 35 115}),
 (159,{ mode:=1,exp:=false,thaw:=[],live:=aR 25 115}),
 (160,{ mode:=2,exp:=false,thaw:=[],live:=aR 64 31775}),
 (161,{ mode:=1,exp:=false,thaw:=[],live:=aR 0 0}),
 (169,{ mode:=1,exp:=false,thaw:=[],live:=aR 0 0}),
 (180,{ mode:=2,exp:=false,thaw:=[0,0,0,2],live:=aR 17 13}),
 (185,{ mode:=2,exp:=false,thaw:=[],live:=aR 32 1804}),
 (193,{ mode:=1,exp:=false,thaw:=[],live:=aR 19 403}),
 (194,{ mode:=0,exp:=false,thaw:=[],live:=aR 0 0}),
 (195,{ mode:=0,exp:=false,thaw:=[],live:=aR 0 0}),
 (196,{ mode:=0,exp:=false,thaw:=[],live:=aR 49 964}),
 (197,{ mode:=0,exp:=false,thaw:=[],live:=aR 0 0}),
 (198,{ mode:=2,exp:=true,thaw:=(W16 (W8 (W4 [1002]))),live:=aR 32 30}),
 (199,{ mode:=2,exp:=false,thaw:=[],live:=aR 36 243}),
 (200,{ mode:=1,exp:=false,thaw:=[],live:=aR 14 29}),
 (201,{ mode:=1,exp:=false,thaw:=[],live:=aR 67 125}),
 (202,{ mode:=2,exp:=false,thaw:=[],live:=aR 51 29}),
 (203,{ mode:=1,exp:=false,thaw:=[],live:=aR 44 30}),
 (204,{ mode:=2,exp:=false,thaw:=[],live:=aR 36 124}),
 (205,{ mode:=1,exp:=false,thaw:=[],live:=aR 54 94}),
 (206,{ mode:=1,exp:=false,thaw:=[],live:=aR 0 0}),
 (207,{ mode:=0,exp:=false,thaw:=[],live:=aR 0 0}),
 (208,{ mode:=2,exp:=false,thaw:=[],live:=aR 0 0}),
 (209,{ mode:=0,exp:=false,thaw:=[],live:=aR 52 16141}),
 (210,{ mode:=0,exp:=false,thaw:=(W8 (W2 [2])),live:=aR 50 118331}),
 (211,{ mode:=1,exp:=false,thaw:=[0,0,0,2],live:=aR 32 29}),
 (212,{ mode:=2,exp:=false,thaw:=[],live:=aR 62 32542}),
 (213,{ mode:=1,exp:=false,thaw:=[],live:=aR 0 0}),
 (214,{ mode:=1,exp:=false,thaw:=[],live:=aR 36 455}),
 (215,{ mode:=1,exp:=false,thaw:=[],live:=aR 18 51}),
 (240,{ mode:=1,exp:=false,thaw:=[],live:=aR 0 0}),
 (247,{ mode:=0,exp:=true,thaw:=(W32 (W4 (W1 [1002]))),live:=aR 49 4037}),
 (248,{ mode:=1,exp:=false,thaw:=[],live:=aR 27 60}),
 (249,{ mode:=1,exp:=false,thaw:=[],live:=aR 0 0}),
 (250,{ mode:=1,exp:=false,thaw:=[],live:=aR 31 13}),
 (251,{ mode:=0,exp:=false,thaw:=[],live:=aR 28 13}),
 (252,{ mode:=2,exp:=false,thaw:=[],live:=aR 79 3852}),
 (267,{ mode:=1,exp:=false,thaw:=[],live:=aR 0 0}),
 (268,{ mode:=1,exp:=false,thaw:=[],live:=aR 0 0}),
 (270,{ mode:=1,exp:=false,thaw:=[],live:=aR 0 0}),
 (275,{ mode:=1,exp:=false,thaw:=[],live:=aR 18 115})]
noncomputable def aBD:List (TypeId×Nat):=[(53,3)]
noncomputable def aJm:List (Nat×(List A->H->Option (A×H))):=[(63,lY 3),(78,zL 3),(79,lY 3),(240,gCtz)]
noncomputable def env:Env:={ P:=Tryz.prog,hint:=fun f=>(aPS.lookup f).getD {},eqs:=aBD,prim:=fun f=>aJm.lookup f}
theorem BS:(env.hint 5).mode=1:=kr
theorem A2:(env.hint 11).mode=2:=kr
theorem BM:(env.hint 14).mode=2:=kr
theorem tX:(env.hint 22).mode=2:=kr
theorem PY:(env.hint 23).mode=1:=kr
theorem oK:(env.hint 24).mode=1:=kr
theorem xC:(env.hint 25).mode=1:=kr
theorem HD:(env.hint 26).mode=2:=kr
theorem m9:(env.hint 29).mode=1:=kr
theorem nG:(env.hint 30).mode=1:=kr
theorem vN:(env.hint 31).mode=1:=kr
theorem nS:(env.hint 55).mode=1:=kr
theorem vL:(env.hint 56).mode=1:=kr
theorem LV:(env.hint 57).mode=2:=kr
theorem uY:(env.hint 58).mode=1:=kr
theorem ID:(env.hint 62).mode=1:=kr
theorem fR:(env.hint 63).mode=0:=kr
theorem LG:(env.hint 70).mode=2:=kr
theorem L8:(env.hint 71).mode=0:=kr
theorem CZ:(env.hint 72).mode=0:=kr
theorem KP:(env.hint 73).mode=0:=kr
theorem FD:(env.hint 74).mode=0:=kr
theorem c9:(env.hint 75).mode=1:=kr
theorem yZ:(env.hint 76).mode=1:=kr
theorem BV:(env.hint 77).mode=1:=kr
theorem gJ:(env.hint 78).mode=0:=kr
theorem gT:(env.hint 79).mode=0:=kr
theorem qQ:(env.hint 82).mode=1:=kr
theorem zD:(env.hint 83).mode=1:=kr
theorem DM:(env.hint 84).mode=1:=kr
theorem FB:(env.hint 85).mode=2:=kr
theorem zN:(env.hint 89).mode=2:=kr
theorem DE:(env.hint 95).mode=1:=kr
theorem BO:(env.hint 101).mode=1:=kr
theorem O5:(env.hint 102).mode=1:=kr
theorem F6:(env.hint 112).mode=2:=kr
theorem R9:(env.hint 116).mode=1:=kr
theorem Z7:(env.hint 120).mode=1:=kr
theorem DO:(env.hint 124).mode=1:=kr
theorem PZ:(env.hint 125).mode=1:=kr
theorem eA:(env.hint 128).mode=1:=kr
theorem BK:(env.hint 129).mode=0:=kr
theorem PI:(env.hint 132).mode=0:=kr
theorem DJ:(env.hint 133).mode=0:=kr
theorem KS:(env.hint 134).mode=0:=kr
theorem MC:(env.hint 135).mode=0:=kr
theorem LW:(env.hint 136).mode=0:=kr
theorem I9:(env.hint 137).mode=2:=kr
theorem BQ:(env.hint 138).mode=2:=kr
theorem wH:(env.hint 139).mode=2:=kr
theorem HJ:(env.hint 140).mode=0:=kr
theorem IG:(env.hint 141).mode=0:=kr
theorem xW:(env.hint 142).mode=1:=kr
theorem wU:(env.hint 143).mode=1:=kr
theorem LC:(env.hint 144).mode=1:=kr
theorem LD:(env.hint 146).mode=0:=kr
theorem PF:(env.hint 147).mode=0:=kr
theorem H4:(env.hint 148).mode=2:=kr
theorem m5:(env.hint 149).mode=0:=kr
theorem s6:(env.hint 150).mode=0:=kr
theorem wB:(env.hint 151).mode=0:=kr
theorem uZ:(env.hint 152).mode=1:=kr
theorem DB:(env.hint 153).mode=1:=kr
theorem LT:(env.hint 154).mode=2:=kr
theorem K4:(env.hint 155).mode=2:=kr
theorem zG:(env.hint 156).mode=1:=kr
theorem HX:(env.hint 157).mode=2:=kr
theorem B6:(env.hint 158).mode=0:=kr
theorem HA:(env.hint 159).mode=1:=kr
theorem jU:(env.hint 160).mode=2:=kr
theorem O8:(env.hint 161).mode=1:=kr
theorem H6:(env.hint 169).mode=1:=kr
theorem KG:(env.hint 180).mode=2:=kr
theorem LS:(env.hint 185).mode=2:=kr
theorem iK:(env.hint 193).mode=1:=kr
theorem ME:(env.hint 194).mode=0:=kr
theorem OD:(env.hint 195).mode=0:=kr
theorem O0:(env.hint 196).mode=0:=kr
theorem ON:(env.hint 197).mode=0:=kr
theorem uB:(env.hint 198).mode=2:=kr
theorem O6:(env.hint 199).mode=2:=kr
theorem x9:(env.hint 200).mode=1:=kr
theorem N8:(env.hint 201).mode=1:=kr
theorem LO:(env.hint 202).mode=2:=kr
theorem zB:(env.hint 203).mode=1:=kr
theorem K9:(env.hint 204).mode=2:=kr
theorem tN:(env.hint 205).mode=1:=kr
theorem A5:(env.hint 206).mode=1:=kr
theorem I8:(env.hint 207).mode=0:=kr
theorem LP:(env.hint 208).mode=2:=kr
theorem HN:(env.hint 209).mode=0:=kr
theorem lE:(env.hint 210).mode=0:=kr
theorem xQ:(env.hint 211).mode=1:=kr
theorem KR:(env.hint 212).mode=2:=kr
theorem VZ:(env.hint 213).mode=1:=kr
theorem B1:(env.hint 214).mode=1:=kr
theorem JV:(env.hint 215).mode=1:=kr
theorem m3:(env.hint 240).mode=1:=kr
theorem H8:(env.hint 247).mode=0:=kr
theorem vM:(env.hint 248).mode=1:=kr
theorem US:(env.hint 249).mode=1:=kr
theorem O9:(env.hint 250).mode=1:=kr
theorem iO:(env.hint 251).mode=0:=kr
theorem GZ:(env.hint 252).mode=2:=kr
theorem lX:(env.hint 267).mode=1:=kr
theorem lZ:(env.hint 268).mode=1:=kr
theorem V3:(env.hint 270).mode=1:=kr
theorem LL:(env.hint 275).mode=1:=kr
theorem MD0:type_of% (AI @BS (AI @A2 (AI @BM (AI @tX (AI @PY (AI @oK (AI @xC (AI @HD (AI @m9 (AI @nG (AI @vN (AI @nS (AI @vL (AI @LV (AI @uY (AI @ID (AI @fR (AI @LG (AI @L8 (AI @CZ (AI @KP (AI @FD (AI @c9 (AI @yZ (AI @BV (AI @gJ (AI @gT (AI @qQ (AI @zD (AI @DM (AI @FB (AI @zN (AI @DE (AI @BO (AI @O5 (AI @F6 (AI @R9 (AI @Z7 (AI @DO (AI @PZ (AI @eA (AI @BK (AI @PI (AI @DJ (AI @KS (AI @MC (AI @LW (AI @I9 (AI @BQ (AI @wH (AI @HJ (AI @IG (AI @xW (AI @wU (AI @LC (AI @LD (AI @PF (AI @H4 (AI @m5 @s6))))))))))))))))))))))))))))))))))))))))))))))))))))))))))):=
 ⟨@BS,@A2,@BM,@tX,@PY,@oK,@xC,@HD,@m9,@nG,@vN,@nS,@vL,@LV,@uY,@ID,@fR,@LG,@L8,@CZ,@KP,@FD,@c9,@yZ,@BV,@gJ,@gT,@qQ,@zD,@DM,@FB,@zN,@DE,@BO,@O5,@F6,@R9,@Z7,@DO,@PZ,@eA,@BK,@PI,@DJ,@KS,@MC,@LW,@I9,@BQ,@wH,@HJ,@IG,@xW,@wU,@LC,@LD,@PF,@H4,@m5,@s6⟩
theorem MD1:type_of% (AI @wB (AI @uZ (AI @DB (AI @LT (AI @K4 (AI @zG (AI @HX (AI @B6 (AI @HA (AI @jU (AI @O8 (AI @H6 (AI @KG (AI @LS (AI @iK (AI @ME (AI @OD (AI @O0 (AI @ON (AI @uB (AI @O6 (AI @x9 (AI @N8 (AI @LO (AI @zB (AI @K9 (AI @tN (AI @A5 (AI @I8 (AI @LP (AI @HN (AI @lE (AI @xQ (AI @KR (AI @VZ (AI @B1 (AI @JV (AI @m3 (AI @H8 (AI @vM (AI @US (AI @O9 (AI @iO (AI @GZ (AI @lX (AI @lZ (AI @V3 @LL))))))))))))))))))))))))))))))))))))))))))))))):=
 ⟨@wB,@uZ,@DB,@LT,@K4,@zG,@HX,@B6,@HA,@jU,@O8,@H6,@KG,@LS,@iK,@ME,@OD,@O0,@ON,@uB,@O6,@x9,@N8,@LO,@zB,@K9,@tN,@A5,@I8,@LP,@HN,@lE,@xQ,@KR,@VZ,@B1,@JV,@m3,@H8,@vM,@US,@O9,@iO,@GZ,@lX,@lZ,@V3,@LL⟩
theorem MD:type_of% (AI @MD0 @MD1):=
 ⟨@MD0,@MD1⟩
end Ev
end Go.Proofs.YtahbdkmimmnadaaGreatDoor
