/-
  What the evaluator is told of each function, and each function's code as an equation. Written by a program.
-/
import Derived.Test.YtahbdkmimmnadaaGreatDoorEvPrim
import Derived.Test.YtahbdkmimmnadaaGreatDoorChecked
set_option linter.unusedSimpArgs false
set_option linter.unusedVariables false
set_option maxRecDepth 100000
namespace Go.Proofs.YtahbdkmimmnadaaGreatDoor
namespace Ev
def aO:Nat->Nat->List Bool
 |0,_=>[]
 |n+1,k=>(k % 2==1)::aO n (k/2)
noncomputable def aS0:List (Nat×Hint):=[
 (6,{ mode:=1,exp:=false,thaw:=[],live:=aO 149 53104}),
 (25,{ mode:=1,exp:=false,thaw:=[],live:=aO 21 3596}),
 (27,{ mode:=2,exp:=false,thaw:=[],live:=aO 0 0}),
 (28,{ mode:=2,exp:=false,thaw:=[],live:=aO 0 0}),
 (29,{ mode:=1,exp:=false,thaw:=[],live:=aO 0 0}),
 (30,{ mode:=1,exp:=false,thaw:=[],live:=aO 0 0}),
 (31,{ mode:=1,exp:=false,thaw:=[],live:=aO 65 1972248982323214}),
 (32,{ mode:=1,exp:=false,thaw:=[],live:=aO 39 117440710}),
 (33,{ mode:=2,exp:=false,thaw:=[],live:=aO 60 120259084742}),
 (34,{ mode:=2,exp:=false,thaw:=(W8 (W2 (W1 [2]))),live:=aO 74 991759488257990}),
 (35,{ mode:=1,exp:=false,thaw:=[],live:=aO 31 917522}),
 (36,{ mode:=1,exp:=false,thaw:=[],live:=aO 43 201326791}),
 (37,{ mode:=1,exp:=false,thaw:=[],live:=aO 0 0}),
 (55,{ mode:=1,exp:=false,thaw:=[],live:=aO 33 29}),
 (56,{ mode:=1,exp:=false,thaw:=[],live:=aO 44 30}),
 (62,{ mode:=1,exp:=false,thaw:=[],live:=aO 0 0}),
 (70,{ mode:=2,exp:=true,thaw:=[],live:=aO 0 0}),
 (71,{ mode:=0,exp:=false,thaw:=[],live:=aO 0 0}),
 (72,{ mode:=0,exp:=false,thaw:=[],live:=aO 0 0}),
 (74,{ mode:=0,exp:=false,thaw:=[],live:=aO 0 0}),
 (76,{ mode:=1,exp:=false,thaw:=[],live:=aO 0 0}),
 (77,{ mode:=1,exp:=false,thaw:=[],live:=aO 68 7340038}),
 (80,{ mode:=0,exp:=false,thaw:=[],live:=aO 0 0}),
 (81,{ mode:=0,exp:=false,thaw:=[],live:=aO 0 0}),
 (82,{ mode:=1,exp:=false,thaw:=[],live:=aO 0 0}),
 (83,{ mode:=1,exp:=false,thaw:=[],live:=aO 107 65534}),
 (84,{ mode:=1,exp:=false,thaw:=[],live:=aO 0 0}),
 (85,{ mode:=2,exp:=false,thaw:=[0,0,0,2],live:=aO 17 45}),
 (86,{ mode:=1,exp:=false,thaw:=[],live:=aO 0 0}),
 (87,{ mode:=1,exp:=false,thaw:=[],live:=aO 0 0}),
 (88,{ mode:=0,exp:=false,thaw:=[],live:=aO 0 0}),
 (89,{ mode:=2,exp:=false,thaw:=[],live:=aO 54 240553558140}),
 (90,{ mode:=0,exp:=true,thaw:=[],live:=aO 0 0}),
 (91,{ mode:=1,exp:=false,thaw:=[],live:=aO 26 98323}),
 (92,{ mode:=1,exp:=false,thaw:=[],live:=aO 0 0}),
 (93,{ mode:=1,exp:=false,thaw:=(W4 (W1 [2])),live:=aO 26 819}),
 (94,{ mode:=1,exp:=false,thaw:=[],live:=aO 0 0}),
 (95,{ mode:=1,exp:=false,thaw:=[],live:=aO 0 0}),
 (96,{ mode:=1,exp:=false,thaw:=[],live:=aO 0 0}),
 (97,{ mode:=1,exp:=false,thaw:=[],live:=aO 0 0}),
 (101,{ mode:=1,exp:=false,thaw:=[],live:=aO 55 14}),
 (102,{ mode:=1,exp:=false,thaw:=[],live:=aO 0 0}),
 (112,{ mode:=2,exp:=false,thaw:=[],live:=aO 18 29}),
 (116,{ mode:=1,exp:=false,thaw:=[],live:=aO 0 0}),
 (120,{ mode:=1,exp:=false,thaw:=[],live:=aO 0 0}),
 (124,{ mode:=1,exp:=false,thaw:=[],live:=aO 0 0}),
 (125,{ mode:=1,exp:=false,thaw:=[],live:=aO 31 197}),
 (128,{ mode:=1,exp:=false,thaw:=[],live:=aO 0 0}),
 (129,{ mode:=0,exp:=false,thaw:=[],live:=aO 0 0}),
 (132,{ mode:=0,exp:=true,thaw:=[],live:=aO 26 29}),
 (133,{ mode:=0,exp:=false,thaw:=[],live:=aO 0 0}),
 (134,{ mode:=0,exp:=false,thaw:=(W32 (W32 (W16 (W2 (W1 [1002,0,0,0,0,0,0,0,0,0,0,0,0,0,0,0,0,0,0,0,0,0,1002]))))),live:=aO 114 112}),
 (135,{ mode:=0,exp:=false,thaw:=[],live:=aO 34 19}),
 (138,{ mode:=2,exp:=false,thaw:=[],live:=aO 72 1565}),
 (142,{ mode:=1,exp:=false,thaw:=[],live:=aO 18 460}),
 (143,{ mode:=1,exp:=false,thaw:=[],live:=aO 0 0}),
 (144,{ mode:=1,exp:=false,thaw:=[],live:=aO 0 0}),
 (145,{ mode:=0,exp:=false,thaw:=[],live:=aO 39 29}),
 (146,{ mode:=0,exp:=false,thaw:=[],live:=aO 0 0}),
 (147,{ mode:=0,exp:=false,thaw:=[],live:=aO 0 0}),
 (148,{ mode:=2,exp:=false,thaw:=[],live:=aO 23 1804}),
 (149,{ mode:=0,exp:=false,thaw:=[],live:=aO 68 22580}),
 (150,{ mode:=0,exp:=false,thaw:=(W8 (W4 (W2 [2]))),live:=aO 91 65572410574514511646}),
 (151,{ mode:=0,exp:=false,thaw:=[],live:=aO 0 0}),
 (152,{ mode:=1,exp:=false,thaw:=(W16 (W2 [2])),live:=aO 63 61632781151244}),
 (153,{ mode:=1,exp:=false,thaw:=[],live:=aO 19 908}),
 (154,{ mode:=2,exp:=false,thaw:=[],live:=aO 41 62}),
 (155,{ mode:=2,exp:=false,thaw:=[],live:=aO 48 8142}),
 (156,{ mode:=1,exp:=false,thaw:=[],live:=aO 64 196}),
 (157,{ mode:=2,exp:=false,thaw:=[],live:=aO 33 115}),
 (158,{ mode:=0,exp:=false,thaw:=[],live:=aO 35 115}),
 (159,{ mode:=1,exp:=false,thaw:=[],live:=aO 25 115}),
 (160,{ mode:=2,exp:=false,thaw:=[],live:=aO 64 31775}),
 (161,{ mode:=1,exp:=false,thaw:=[],live:=aO 0 0}),
 (162,{ mode:=0,exp:=false,thaw:=[],live:=aO 148 3103}),
 (163,{ mode:=1,exp:=false,thaw:=[],live:=aO 0 0}),
 (164,{ mode:=1,exp:=false,thaw:=[],live:=aO 37 242}),
 (165,{ mode:=1,exp:=false,thaw:=[],live:=aO 35 6291570}),
 (169,{ mode:=1,exp:=false,thaw:=[],live:=aO 0 0}),
 (180,{ mode:=2,exp:=false,thaw:=[0,0,0,2],live:=aO 17 13}),
 (185,{ mode:=2,exp:=false,thaw:=[],live:=aO 32 1804}),
 (186,{ mode:=1,exp:=false,thaw:=[],live:=aO 26 199}),
 (193,{ mode:=1,exp:=false,thaw:=[],live:=aO 19 403}),
 (194,{ mode:=0,exp:=false,thaw:=[],live:=aO 0 0}),
 (195,{ mode:=0,exp:=false,thaw:=[],live:=aO 0 0}),
 (196,{ mode:=0,exp:=false,thaw:=[],live:=aO 49 964}),
 (197,{ mode:=0,exp:=false,thaw:=[],live:=aO 0 0}),
 (198,{ mode:=2,exp:=true,thaw:=(W16 (W8 (W4 [1002]))),live:=aO 32 30}),
 (199,{ mode:=2,exp:=false,thaw:=[],live:=aO 36 243}),
 (200,{ mode:=1,exp:=false,thaw:=[],live:=aO 14 29}),
 (201,{ mode:=1,exp:=false,thaw:=[],live:=aO 67 125}),
 (202,{ mode:=2,exp:=false,thaw:=[],live:=aO 51 29}),
 (203,{ mode:=1,exp:=false,thaw:=[],live:=aO 44 30}),
 (206,{ mode:=1,exp:=false,thaw:=[],live:=aO 0 0}),
 (207,{ mode:=0,exp:=false,thaw:=[],live:=aO 0 0}),
 (208,{ mode:=2,exp:=false,thaw:=[],live:=aO 0 0}),
 (209,{ mode:=0,exp:=false,thaw:=[],live:=aO 52 16141}),
 (210,{ mode:=0,exp:=false,thaw:=(W8 (W2 [2])),live:=aO 50 118331}),
 (211,{ mode:=1,exp:=false,thaw:=[0,0,0,2],live:=aO 32 29}),
 (212,{ mode:=2,exp:=false,thaw:=[],live:=aO 62 32542}),
 (213,{ mode:=1,exp:=false,thaw:=[],live:=aO 0 0}),
 (214,{ mode:=1,exp:=false,thaw:=[],live:=aO 36 455}),
 (215,{ mode:=1,exp:=false,thaw:=[],live:=aO 18 51}),
 (216,{ mode:=0,exp:=false,thaw:=[],live:=aO 53 783}),
 (217,{ mode:=0,exp:=false,thaw:=[],live:=aO 60 7945}),
 (218,{ mode:=0,exp:=false,thaw:=[],live:=aO 67 3843}),
 (219,{ mode:=0,exp:=false,thaw:=[],live:=aO 0 0}),
 (220,{ mode:=0,exp:=false,thaw:=[],live:=aO 34 769}),
 (221,{ mode:=0,exp:=false,thaw:=[],live:=aO 141 7951}),
 (222,{ mode:=0,exp:=false,thaw:=[],live:=aO 90 7187}),
 (223,{ mode:=0,exp:=false,thaw:=[],live:=aO 178 15379}),
 (224,{ mode:=1,exp:=false,thaw:=[],live:=aO 0 0}),
 (225,{ mode:=1,exp:=false,thaw:=[],live:=aO 0 0}),
 (240,{ mode:=1,exp:=false,thaw:=[],live:=aO 0 0}),
 (247,{ mode:=0,exp:=true,thaw:=(W32 (W4 (W1 [1002]))),live:=aO 49 4037}),
 (248,{ mode:=1,exp:=false,thaw:=[],live:=aO 27 60}),
 (249,{ mode:=1,exp:=false,thaw:=[],live:=aO 0 0}),
 (250,{ mode:=1,exp:=false,thaw:=[],live:=aO 31 13}),
 (251,{ mode:=0,exp:=false,thaw:=[],live:=aO 28 13}),
 (252,{ mode:=2,exp:=false,thaw:=[],live:=aO 79 3852}),
 (253,{ mode:=0,exp:=false,thaw:=[],live:=aO 82 1053}),
 (254,{ mode:=1,exp:=false,thaw:=[],live:=aO 0 0}),
 (256,{ mode:=0,exp:=false,thaw:=[],live:=aO 0 0}),
 (257,{ mode:=0,exp:=false,thaw:=[],live:=aO 0 0}),
 (267,{ mode:=1,exp:=false,thaw:=[],live:=aO 0 0}),
 (268,{ mode:=1,exp:=false,thaw:=[],live:=aO 0 0}),
 (270,{ mode:=1,exp:=false,thaw:=[],live:=aO 0 0}),
 (271,{ mode:=0,exp:=false,thaw:=[],live:=aO 0 0}),
 (275,{ mode:=1,exp:=false,thaw:=[],live:=aO 18 115})]
noncomputable def aDR:List (TypeId×Nat):=[(53,3)]
noncomputable def aG4:List (Nat×(List A->H->Option (A×H))):=[(88,HM 76),(90,HK 1),(240,gCtz)]
noncomputable def env:Env:={ P:=Tryz.prog,hint:=fun f=>(aS0.lookup f).getD {},eqs:=aDR,prim:=fun f=>aG4.lookup f}
theorem I7:(env.hint 6).mode=1:=kr
theorem zR:(env.hint 25).mode=1:=kr
theorem rA:(env.hint 27).mode=2:=kr
theorem wY:(env.hint 28).mode=2:=kr
theorem nC:(env.hint 29).mode=1:=kr
theorem xV:(env.hint 30).mode=1:=kr
theorem w8:(env.hint 31).mode=1:=kr
theorem AT:(env.hint 32).mode=1:=kr
theorem E4:(env.hint 33).mode=2:=kr
theorem yF:(env.hint 34).mode=2:=kr
theorem qB:(env.hint 35).mode=1:=kr
theorem J7:(env.hint 36).mode=1:=kr
theorem xS:(env.hint 37).mode=1:=kr
theorem oA:(env.hint 55).mode=1:=kr
theorem xO:(env.hint 56).mode=1:=kr
theorem KQ:(env.hint 62).mode=1:=kr
theorem OD:(env.hint 70).mode=2:=kr
theorem NY:(env.hint 71).mode=0:=kr
theorem FT:(env.hint 72).mode=0:=kr
theorem II:(env.hint 74).mode=0:=kr
theorem zY:(env.hint 76).mode=1:=kr
theorem CR:(env.hint 77).mode=1:=kr
theorem VL:(env.hint 80).mode=0:=kr
theorem QQ:(env.hint 81).mode=0:=kr
theorem sI:(env.hint 82).mode=1:=kr
theorem A4:(env.hint 83).mode=1:=kr
theorem FJ:(env.hint 84).mode=1:=kr
theorem IC:(env.hint 85).mode=2:=kr
theorem KW:(env.hint 86).mode=1:=kr
theorem NU:(env.hint 87).mode=1:=kr
theorem fP:(env.hint 88).mode=0:=kr
theorem A6:(env.hint 89).mode=2:=kr
theorem jN:(env.hint 90).mode=0:=kr
theorem FP:(env.hint 91).mode=1:=kr
theorem KR:(env.hint 92).mode=1:=kr
theorem J1:(env.hint 93).mode=1:=kr
theorem HB:(env.hint 94).mode=1:=kr
theorem FD:(env.hint 95).mode=1:=kr
theorem L9:(env.hint 96).mode=1:=kr
theorem DC:(env.hint 97).mode=1:=kr
theorem CB:(env.hint 101).mode=1:=kr
theorem RO:(env.hint 102).mode=1:=kr
theorem IQ:(env.hint 112).mode=2:=kr
theorem S1:(env.hint 116).mode=1:=kr
theorem aBZ:(env.hint 120).mode=1:=kr
theorem FL:(env.hint 124).mode=1:=kr
theorem VS:(env.hint 125).mode=1:=kr
theorem dU:(env.hint 128).mode=1:=kr
theorem CO:(env.hint 129).mode=0:=kr
theorem Q3:(env.hint 132).mode=0:=kr
theorem EW:(env.hint 133).mode=0:=kr
theorem M5:(env.hint 134).mode=0:=kr
theorem OJ:(env.hint 135).mode=0:=kr
theorem DX:(env.hint 138).mode=2:=kr
theorem qX:(env.hint 142).mode=1:=kr
theorem yW:(env.hint 143).mode=1:=kr
theorem NI:(env.hint 144).mode=1:=kr
theorem WJ:(env.hint 145).mode=0:=kr
theorem OS:(env.hint 146).mode=0:=kr
theorem RZ:(env.hint 147).mode=0:=kr
theorem KP:(env.hint 148).mode=2:=kr
theorem nK:(env.hint 149).mode=0:=kr
theorem uA:(env.hint 150).mode=0:=kr
theorem wV:(env.hint 151).mode=0:=kr
theorem wA:(env.hint 152).mode=1:=kr
theorem E6:(env.hint 153).mode=1:=kr
theorem NR:(env.hint 154).mode=2:=kr
theorem NJ:(env.hint 155).mode=2:=kr
theorem AX:(env.hint 156).mode=1:=kr
theorem J8:(env.hint 157).mode=2:=kr
theorem ER:(env.hint 158).mode=0:=kr
theorem L4:(env.hint 159).mode=1:=kr
theorem jT:(env.hint 160).mode=2:=kr
theorem RI:(env.hint 161).mode=1:=kr
theorem kM:(env.hint 162).mode=0:=kr
theorem DK:(env.hint 163).mode=1:=kr
theorem DF:(env.hint 164).mode=1:=kr
theorem E8:(env.hint 165).mode=1:=kr
theorem J9:(env.hint 169).mode=1:=kr
theorem NL:(env.hint 180).mode=2:=kr
theorem ON:(env.hint 185).mode=2:=kr
theorem FI:(env.hint 186).mode=1:=kr
theorem iO:(env.hint 193).mode=1:=kr
theorem NX:(env.hint 194).mode=0:=kr
theorem Q9:(env.hint 195).mode=0:=kr
theorem Q5:(env.hint 196).mode=0:=kr
theorem RB:(env.hint 197).mode=0:=kr
theorem vL:(env.hint 198).mode=2:=kr
theorem QV:(env.hint 199).mode=2:=kr
theorem yX:(env.hint 200).mode=1:=kr
theorem QM:(env.hint 201).mode=1:=kr
theorem OW:(env.hint 202).mode=2:=kr
theorem AB:(env.hint 203).mode=1:=kr
theorem DV:(env.hint 206).mode=1:=kr
theorem LD:(env.hint 207).mode=0:=kr
theorem OG:(env.hint 208).mode=2:=kr
theorem L8:(env.hint 209).mode=0:=kr
theorem lJ:(env.hint 210).mode=0:=kr
theorem yI:(env.hint 211).mode=1:=kr
theorem N7:(env.hint 212).mode=2:=kr
theorem Y3:(env.hint 213).mode=1:=kr
theorem EQ:(env.hint 214).mode=1:=kr
theorem MM:(env.hint 215).mode=1:=kr
theorem iJ:(env.hint 216).mode=0:=kr
theorem kD:(env.hint 217).mode=0:=kr
theorem iM:(env.hint 218).mode=0:=kr
theorem jF:(env.hint 219).mode=0:=kr
theorem iV:(env.hint 220).mode=0:=kr
theorem fM:(env.hint 221).mode=0:=kr
theorem gT:(env.hint 222).mode=0:=kr
theorem jV:(env.hint 223).mode=0:=kr
theorem yN:(env.hint 224).mode=1:=kr
theorem zG:(env.hint 225).mode=1:=kr
theorem nB:(env.hint 240).mode=1:=kr
theorem LV:(env.hint 247).mode=0:=kr
theorem xF:(env.hint 248).mode=1:=kr
theorem YM:(env.hint 249).mode=1:=kr
theorem QP:(env.hint 250).mode=1:=kr
theorem iQ:(env.hint 251).mode=0:=kr
theorem HW:(env.hint 252).mode=2:=kr
theorem j7:(env.hint 253).mode=0:=kr
theorem o9:(env.hint 254).mode=1:=kr
theorem hM:(env.hint 256).mode=0:=kr
theorem lF:(env.hint 257).mode=0:=kr
theorem mE:(env.hint 267).mode=1:=kr
theorem lZ:(env.hint 268).mode=1:=kr
theorem ZK:(env.hint 270).mode=1:=kr
theorem kX:(env.hint 271).mode=0:=kr
theorem OC:(env.hint 275).mode=1:=kr
theorem MD0:type_of% (AI @I7 (AI @zR (AI @rA (AI @wY (AI @nC (AI @xV (AI @w8 (AI @AT (AI @E4 (AI @yF (AI @qB (AI @J7 (AI @xS (AI @oA (AI @xO (AI @KQ (AI @OD (AI @NY (AI @FT (AI @II (AI @zY (AI @CR (AI @VL (AI @QQ (AI @sI (AI @A4 (AI @FJ (AI @IC (AI @KW (AI @NU (AI @fP (AI @A6 (AI @jN (AI @FP (AI @KR (AI @J1 (AI @HB (AI @FD (AI @L9 (AI @DC (AI @CB (AI @RO (AI @IQ (AI @S1 (AI @aBZ (AI @FL (AI @VS (AI @dU (AI @CO (AI @Q3 (AI @EW (AI @M5 (AI @OJ (AI @DX (AI @qX (AI @yW (AI @NI (AI @WJ (AI @OS @RZ))))))))))))))))))))))))))))))))))))))))))))))))))))))))))):=
 ⟨@I7,@zR,@rA,@wY,@nC,@xV,@w8,@AT,@E4,@yF,@qB,@J7,@xS,@oA,@xO,@KQ,@OD,@NY,@FT,@II,@zY,@CR,@VL,@QQ,@sI,@A4,@FJ,@IC,@KW,@NU,@fP,@A6,@jN,@FP,@KR,@J1,@HB,@FD,@L9,@DC,@CB,@RO,@IQ,@S1,@aBZ,@FL,@VS,@dU,@CO,@Q3,@EW,@M5,@OJ,@DX,@qX,@yW,@NI,@WJ,@OS,@RZ⟩
theorem MD1:type_of% (AI @KP (AI @nK (AI @uA (AI @wV (AI @wA (AI @E6 (AI @NR (AI @NJ (AI @AX (AI @J8 (AI @ER (AI @L4 (AI @jT (AI @RI (AI @kM (AI @DK (AI @DF (AI @E8 (AI @J9 (AI @NL (AI @ON (AI @FI (AI @iO (AI @NX (AI @Q9 (AI @Q5 (AI @RB (AI @vL (AI @QV (AI @yX (AI @QM (AI @OW (AI @AB (AI @DV (AI @LD (AI @OG (AI @L8 (AI @lJ (AI @yI (AI @N7 (AI @Y3 (AI @EQ (AI @MM (AI @iJ (AI @kD (AI @iM (AI @jF (AI @iV (AI @fM (AI @gT (AI @jV (AI @yN (AI @zG (AI @nB (AI @LV (AI @xF (AI @YM (AI @QP (AI @iQ @HW))))))))))))))))))))))))))))))))))))))))))))))))))))))))))):=
 ⟨@KP,@nK,@uA,@wV,@wA,@E6,@NR,@NJ,@AX,@J8,@ER,@L4,@jT,@RI,@kM,@DK,@DF,@E8,@J9,@NL,@ON,@FI,@iO,@NX,@Q9,@Q5,@RB,@vL,@QV,@yX,@QM,@OW,@AB,@DV,@LD,@OG,@L8,@lJ,@yI,@N7,@Y3,@EQ,@MM,@iJ,@kD,@iM,@jF,@iV,@fM,@gT,@jV,@yN,@zG,@nB,@LV,@xF,@YM,@QP,@iQ,@HW⟩
theorem MD2:type_of% (AI @j7 (AI @o9 (AI @hM (AI @lF (AI @mE (AI @lZ (AI @ZK (AI @kX @OC)))))))):=
 ⟨@j7,@o9,@hM,@lF,@mE,@lZ,@ZK,@kX,@OC⟩
theorem MD:type_of% (AI @MD0 (AI @MD1 @MD2)):=
 ⟨@MD0,@MD1,@MD2⟩
end Ev
end Go.Proofs.YtahbdkmimmnadaaGreatDoor
