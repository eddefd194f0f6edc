/-
  What the evaluator is told of each function, and each function's code as an equation. Written by a program.
-/
import Derived.Test.YthlkcebdfbjdoaaGreatEvPrim
import Derived.Test.YthlkcebdfbjdoaaGreatChecked
set_option linter.unusedSimpArgs false
set_option linter.unusedVariables false
set_option maxRecDepth 100000
namespace Go.Proofs.YthlkcebdfbjdoaaGreat
namespace Ev
def aP:Nat->Nat->List Bool
 |0,_=>[]
 |n+1,k=>(k % 2==1)::aP n (k/2)
noncomputable def aS4:List (Nat×Hint):=[
 (5,{ mode:=1,exp:=false,thaw:=[],live:=aP 102 5340}),
 (9,{ mode:=3,exp:=true,thaw:=[],live:=aP 68 1000796099450352}),
 (10,{ mode:=2,exp:=false,thaw:=[],live:=aP 72 8176}),
 (12,{ mode:=1,exp:=false,thaw:=[],live:=aP 26 98323}),
 (14,{ mode:=3,exp:=true,thaw:=[0,0,0,2],live:=aP 31 12302}),
 (15,{ mode:=3,exp:=true,thaw:=[],live:=aP 47 49214}),
 (19,{ mode:=2,exp:=false,thaw:=[],live:=aP 0 0}),
 (20,{ mode:=1,exp:=false,thaw:=[],live:=aP 41 469762264}),
 (21,{ mode:=1,exp:=false,thaw:=[],live:=aP 48 1496}),
 (22,{ mode:=1,exp:=false,thaw:=[],live:=aP 0 0}),
 (23,{ mode:=1,exp:=false,thaw:=[],live:=aP 0 0}),
 (27,{ mode:=2,exp:=true,thaw:=[],live:=aP 0 0}),
 (28,{ mode:=0,exp:=false,thaw:=[],live:=aP 0 0}),
 (29,{ mode:=0,exp:=false,thaw:=[],live:=aP 0 0}),
 (30,{ mode:=1,exp:=false,thaw:=[],live:=aP 65 1972248982323214}),
 (31,{ mode:=2,exp:=false,thaw:=(W8 (W4 [2002])),live:=aP 48 3787457267}),
 (32,{ mode:=0,exp:=false,thaw:=[],live:=aP 0 0}),
 (33,{ mode:=0,exp:=true,thaw:=[],live:=aP 0 0}),
 (34,{ mode:=1,exp:=false,thaw:=[],live:=aP 0 0}),
 (35,{ mode:=1,exp:=false,thaw:=[],live:=aP 44 30}),
 (36,{ mode:=2,exp:=false,thaw:=[],live:=aP 32 60}),
 (37,{ mode:=2,exp:=false,thaw:=[],live:=aP 47 62}),
 (38,{ mode:=2,exp:=false,thaw:=[],live:=aP 47 498}),
 (39,{ mode:=0,exp:=false,thaw:=[],live:=aP 47 115}),
 (40,{ mode:=1,exp:=false,thaw:=[],live:=aP 0 0}),
 (41,{ mode:=1,exp:=false,thaw:=[],live:=aP 0 0}),
 (42,{ mode:=1,exp:=false,thaw:=[],live:=aP 0 0}),
 (44,{ mode:=1,exp:=false,thaw:=[],live:=aP 0 0}),
 (45,{ mode:=0,exp:=false,thaw:=[],live:=aP 0 0}),
 (46,{ mode:=1,exp:=false,thaw:=[],live:=aP 0 0}),
 (47,{ mode:=1,exp:=false,thaw:=[],live:=aP 0 0}),
 (48,{ mode:=0,exp:=false,thaw:=(W32 (W32 (W16 (W8 (W4 (W1 [1002])))))),live:=aP 0 0}),
 (49,{ mode:=0,exp:=false,thaw:=[],live:=aP 0 0}),
 (50,{ mode:=0,exp:=false,thaw:=[],live:=aP 0 0}),
 (51,{ mode:=2,exp:=false,thaw:=[],live:=aP 0 0}),
 (52,{ mode:=1,exp:=false,thaw:=[],live:=aP 0 0}),
 (53,{ mode:=1,exp:=false,thaw:=[],live:=aP 0 0}),
 (54,{ mode:=1,exp:=false,thaw:=[],live:=aP 0 0}),
 (55,{ mode:=1,exp:=false,thaw:=[],live:=aP 35 6291570}),
 (56,{ mode:=1,exp:=false,thaw:=[],live:=aP 0 0}),
 (59,{ mode:=0,exp:=false,thaw:=(W32 (W32 (W16 (W2 (W1 [1002,0,0,0,0,0,0,0,0,0,0,0,0,0,0,0,0,0,0,0,0,0,1002]))))),live:=aP 114 112}),
 (60,{ mode:=0,exp:=false,thaw:=[],live:=aP 36 29}),
 (61,{ mode:=0,exp:=true,thaw:=(W32 (W4 (W1 [1002]))),live:=aP 49 4037}),
 (62,{ mode:=0,exp:=false,thaw:=[],live:=aP 0 0}),
 (63,{ mode:=2,exp:=false,thaw:=[0,0,0,2],live:=aP 17 45}),
 (64,{ mode:=1,exp:=false,thaw:=[],live:=aP 0 0}),
 (65,{ mode:=2,exp:=false,thaw:=[],live:=aP 0 0}),
 (66,{ mode:=0,exp:=false,thaw:=[],live:=aP 14 33}),
 (67,{ mode:=1,exp:=false,thaw:=[],live:=aP 18 460}),
 (68,{ mode:=1,exp:=false,thaw:=[],live:=aP 0 0}),
 (69,{ mode:=1,exp:=false,thaw:=[],live:=aP 0 0}),
 (70,{ mode:=1,exp:=false,thaw:=[],live:=aP 0 0}),
 (71,{ mode:=1,exp:=false,thaw:=[],live:=aP 31 197}),
 (72,{ mode:=2,exp:=false,thaw:=[],live:=aP 18 29}),
 (73,{ mode:=2,exp:=false,thaw:=[],live:=aP 69 254}),
 (74,{ mode:=1,exp:=false,thaw:=[],live:=aP 0 0}),
 (75,{ mode:=1,exp:=false,thaw:=[],live:=aP 0 0}),
 (76,{ mode:=1,exp:=false,thaw:=[],live:=aP 18 51}),
 (77,{ mode:=1,exp:=false,thaw:=[],live:=aP 0 0}),
 (78,{ mode:=1,exp:=false,thaw:=[],live:=aP 27 115}),
 (79,{ mode:=1,exp:=false,thaw:=[],live:=aP 0 0}),
 (80,{ mode:=0,exp:=false,thaw:=[],live:=aP 0 0}),
 (81,{ mode:=0,exp:=false,thaw:=[],live:=aP 148 3103}),
 (82,{ mode:=1,exp:=false,thaw:=[],live:=aP 0 0}),
 (83,{ mode:=0,exp:=false,thaw:=[],live:=aP 0 0}),
 (84,{ mode:=1,exp:=false,thaw:=[],live:=aP 19 403}),
 (85,{ mode:=2,exp:=true,thaw:=(W16 (W8 (W4 [1002]))),live:=aP 32 30}),
 (86,{ mode:=2,exp:=false,thaw:=[],live:=aP 72 413}),
 (87,{ mode:=0,exp:=false,thaw:=[],live:=aP 0 0}),
 (88,{ mode:=2,exp:=false,thaw:=[],live:=aP 0 0}),
 (89,{ mode:=0,exp:=false,thaw:=[],live:=aP 0 0}),
 (90,{ mode:=2,exp:=false,thaw:=[],live:=aP 71 2044}),
 (91,{ mode:=1,exp:=false,thaw:=[],live:=aP 0 0}),
 (92,{ mode:=2,exp:=false,thaw:=[],live:=aP 54 240553558140}),
 (93,{ mode:=0,exp:=false,thaw:=[],live:=aP 0 0}),
 (94,{ mode:=1,exp:=false,thaw:=(W16 (W2 [2])),live:=aP 63 61632781151244}),
 (95,{ mode:=0,exp:=false,thaw:=[],live:=aP 0 0}),
 (98,{ mode:=2,exp:=false,thaw:=[],live:=aP 0 0}),
 (99,{ mode:=1,exp:=false,thaw:=[],live:=aP 0 0}),
 (100,{ mode:=1,exp:=false,thaw:=[],live:=aP 0 0}),
 (101,{ mode:=1,exp:=false,thaw:=[],live:=aP 0 0}),
 (102,{ mode:=2,exp:=false,thaw:=[],live:=aP 43 126}),
 (103,{ mode:=1,exp:=false,thaw:=[],live:=aP 15 51}),
 (104,{ mode:=1,exp:=false,thaw:=[],live:=aP 0 0}),
 (105,{ mode:=1,exp:=false,thaw:=[],live:=aP 107 65534}),
 (106,{ mode:=1,exp:=false,thaw:=[],live:=aP 0 0}),
 (107,{ mode:=0,exp:=false,thaw:=[],live:=aP 0 0}),
 (108,{ mode:=0,exp:=false,thaw:=[],live:=aP 53 783}),
 (109,{ mode:=0,exp:=false,thaw:=[],live:=aP 60 7945}),
 (110,{ mode:=0,exp:=false,thaw:=[],live:=aP 67 3843}),
 (111,{ mode:=0,exp:=false,thaw:=[],live:=aP 0 0}),
 (112,{ mode:=0,exp:=false,thaw:=[],live:=aP 34 769}),
 (113,{ mode:=0,exp:=false,thaw:=[],live:=aP 141 7951}),
 (114,{ mode:=0,exp:=false,thaw:=[],live:=aP 90 7187}),
 (115,{ mode:=0,exp:=false,thaw:=[],live:=aP 178 15379}),
 (116,{ mode:=1,exp:=false,thaw:=[],live:=aP 0 0}),
 (117,{ mode:=1,exp:=false,thaw:=[],live:=aP 0 0}),
 (118,{ mode:=2,exp:=false,thaw:=[],live:=aP 36 243}),
 (119,{ mode:=1,exp:=false,thaw:=[],live:=aP 14 29}),
 (120,{ mode:=2,exp:=false,thaw:=[],live:=aP 36 124}),
 (121,{ mode:=1,exp:=false,thaw:=[],live:=aP 54 94}),
 (122,{ mode:=0,exp:=false,thaw:=[],live:=aP 49 964}),
 (123,{ mode:=2,exp:=false,thaw:=[],live:=aP 44 446}),
 (124,{ mode:=1,exp:=false,thaw:=[],live:=aP 0 0}),
 (125,{ mode:=1,exp:=false,thaw:=[],live:=aP 21 206}),
 (126,{ mode:=0,exp:=false,thaw:=(W8 (W2 [2])),live:=aP 50 118331}),
 (127,{ mode:=1,exp:=false,thaw:=[0,0,0,2],live:=aP 32 29}),
 (128,{ mode:=1,exp:=false,thaw:=[],live:=aP 18 51}),
 (129,{ mode:=2,exp:=false,thaw:=[],live:=aP 41 62}),
 (130,{ mode:=2,exp:=false,thaw:=[],live:=aP 48 8142}),
 (131,{ mode:=1,exp:=false,thaw:=[],live:=aP 64 196}),
 (132,{ mode:=2,exp:=false,thaw:=[],live:=aP 33 115}),
 (133,{ mode:=0,exp:=false,thaw:=[],live:=aP 35 115}),
 (134,{ mode:=1,exp:=false,thaw:=[],live:=aP 25 115}),
 (135,{ mode:=2,exp:=false,thaw:=[],live:=aP 64 31775}),
 (136,{ mode:=1,exp:=false,thaw:=[],live:=aP 23 13}),
 (137,{ mode:=0,exp:=false,thaw:=[],live:=aP 82 1053}),
 (138,{ mode:=1,exp:=false,thaw:=[],live:=aP 0 0}),
 (140,{ mode:=0,exp:=false,thaw:=[],live:=aP 0 0}),
 (141,{ mode:=0,exp:=false,thaw:=[],live:=aP 0 0}),
 (142,{ mode:=1,exp:=false,thaw:=[],live:=aP 27 60}),
 (143,{ mode:=1,exp:=false,thaw:=[],live:=aP 67 125}),
 (144,{ mode:=1,exp:=false,thaw:=[],live:=aP 31 13}),
 (145,{ mode:=2,exp:=false,thaw:=[],live:=aP 47 2038}),
 (146,{ mode:=1,exp:=false,thaw:=[],live:=aP 22 61}),
 (147,{ mode:=1,exp:=false,thaw:=[],live:=aP 0 0}),
 (148,{ mode:=1,exp:=false,thaw:=[],live:=aP 0 0}),
 (149,{ mode:=0,exp:=false,thaw:=[],live:=aP 28 13}),
 (150,{ mode:=2,exp:=false,thaw:=[],live:=aP 62 32542}),
 (151,{ mode:=1,exp:=false,thaw:=[],live:=aP 0 0}),
 (152,{ mode:=1,exp:=false,thaw:=[],live:=aP 36 455}),
 (153,{ mode:=0,exp:=false,thaw:=[],live:=aP 0 0}),
 (154,{ mode:=1,exp:=false,thaw:=[],live:=aP 52 798}),
 (155,{ mode:=1,exp:=false,thaw:=[],live:=aP 0 0}),
 (156,{ mode:=1,exp:=false,thaw:=[],live:=aP 18 115}),
 (157,{ mode:=2,exp:=false,thaw:=[],live:=aP 79 3852})]
noncomputable def aFa:List (TypeId×Nat):=[]
noncomputable def aHE:List (Nat×(List A->H->Option (A×H))):=[(32,AG 66 34),(45,HF 34)]
noncomputable def env:Env:={ P:=Tryz.prog,hint:=fun f=>(aS4.lookup f).getD {},eqs:=aFa,prim:=fun f=>aHE.lookup f}
theorem z7:(env.hint 5).mode=1:=kr
theorem iU:(env.hint 9).mode=3:=kr
theorem HG:(env.hint 10).mode=2:=kr
theorem E4:(env.hint 12).mode=1:=kr
theorem uF:(env.hint 14).mode=3:=kr
theorem mB:(env.hint 15).mode=3:=kr
theorem tW:(env.hint 19).mode=2:=kr
theorem zZ:(env.hint 20).mode=1:=kr
theorem zT:(env.hint 21).mode=1:=kr
theorem aEc:(env.hint 22).mode=1:=kr
theorem CJ:(env.hint 23).mode=1:=kr
theorem OD:(env.hint 27).mode=2:=kr
theorem NJ:(env.hint 28).mode=0:=kr
theorem J0:(env.hint 29).mode=0:=kr
theorem wO:(env.hint 30).mode=1:=kr
theorem G3:(env.hint 31).mode=2:=kr
theorem iF:(env.hint 32).mode=0:=kr
theorem dS:(env.hint 33).mode=0:=kr
theorem KH:(env.hint 34).mode=1:=kr
theorem wL:(env.hint 35).mode=1:=kr
theorem E6:(env.hint 36).mode=2:=kr
theorem uH:(env.hint 37).mode=2:=kr
theorem IH:(env.hint 38).mode=2:=kr
theorem DW:(env.hint 39).mode=0:=kr
theorem ES:(env.hint 40).mode=1:=kr
theorem aCT:(env.hint 41).mode=1:=kr
theorem K4:(env.hint 42).mode=1:=kr
theorem EU:(env.hint 44).mode=1:=kr
theorem eX:(env.hint 45).mode=0:=kr
theorem B7:(env.hint 46).mode=1:=kr
theorem eW:(env.hint 47).mode=1:=kr
theorem JG:(env.hint 48).mode=0:=kr
theorem E5:(env.hint 49).mode=0:=kr
theorem RV:(env.hint 50).mode=0:=kr
theorem rS:(env.hint 51).mode=2:=kr
theorem B1:(env.hint 52).mode=1:=kr
theorem V8:(env.hint 53).mode=1:=kr
theorem DG:(env.hint 54).mode=1:=kr
theorem EP:(env.hint 55).mode=1:=kr
theorem rW:(env.hint 56).mode=1:=kr
theorem NN:(env.hint 59).mode=0:=kr
theorem WG:(env.hint 60).mode=0:=kr
theorem K0:(env.hint 61).mode=0:=kr
theorem IL:(env.hint 62).mode=0:=kr
theorem G8:(env.hint 63).mode=2:=kr
theorem EX:(env.hint 64).mode=1:=kr
theorem pF:(env.hint 65).mode=2:=kr
theorem fE:(env.hint 66).mode=0:=kr
theorem yE:(env.hint 67).mode=1:=kr
theorem zP:(env.hint 68).mode=1:=kr
theorem tX:(env.hint 69).mode=1:=kr
theorem EI:(env.hint 70).mode=1:=kr
theorem WS:(env.hint 71).mode=1:=kr
theorem HH:(env.hint 72).mode=2:=kr
theorem Q7:(env.hint 73).mode=2:=kr
theorem EJ:(env.hint 74).mode=1:=kr
theorem CB:(env.hint 75).mode=1:=kr
theorem GO:(env.hint 76).mode=1:=kr
theorem R9:(env.hint 77).mode=1:=kr
theorem xP:(env.hint 78).mode=1:=kr
theorem vR:(env.hint 79).mode=1:=kr
theorem yW:(env.hint 80).mode=0:=kr
theorem kM:(env.hint 81).mode=0:=kr
theorem B8:(env.hint 82).mode=1:=kr
theorem nO:(env.hint 83).mode=0:=kr
theorem lF:(env.hint 84).mode=1:=kr
theorem pJ:(env.hint 85).mode=2:=kr
theorem wV:(env.hint 86).mode=2:=kr
theorem LT:(env.hint 87).mode=0:=kr
theorem ON:(env.hint 88).mode=2:=kr
theorem R3:(env.hint 89).mode=0:=kr
theorem HT:(env.hint 90).mode=2:=kr
theorem EL:(env.hint 91).mode=1:=kr
theorem OT:(env.hint 92).mode=2:=kr
theorem nJ:(env.hint 93).mode=0:=kr
theorem o7:(env.hint 94).mode=1:=kr
theorem wJ:(env.hint 95).mode=0:=kr
theorem jR:(env.hint 98).mode=2:=kr
theorem CE:(env.hint 99).mode=1:=kr
theorem wN:(env.hint 100).mode=1:=kr
theorem WP:(env.hint 101).mode=1:=kr
theorem OS:(env.hint 102).mode=2:=kr
theorem OO:(env.hint 103).mode=1:=kr
theorem NW:(env.hint 104).mode=1:=kr
theorem sX:(env.hint 105).mode=1:=kr
theorem ER:(env.hint 106).mode=1:=kr
theorem qG:(env.hint 107).mode=0:=kr
theorem iE:(env.hint 108).mode=0:=kr
theorem j3:(env.hint 109).mode=0:=kr
theorem iB:(env.hint 110).mode=0:=kr
theorem i7:(env.hint 111).mode=0:=kr
theorem iN:(env.hint 112).mode=0:=kr
theorem eV:(env.hint 113).mode=0:=kr
theorem gS:(env.hint 114).mode=0:=kr
theorem jP:(env.hint 115).mode=0:=kr
theorem x5:(env.hint 116).mode=1:=kr
theorem yM:(env.hint 117).mode=1:=kr
theorem RE:(env.hint 118).mode=2:=kr
theorem x6:(env.hint 119).mode=1:=kr
theorem N2:(env.hint 120).mode=2:=kr
theorem uU:(env.hint 121).mode=1:=kr
theorem Q4:(env.hint 122).mode=0:=kr
theorem IN:(env.hint 123).mode=2:=kr
theorem ET:(env.hint 124).mode=1:=kr
theorem UC:(env.hint 125).mode=1:=kr
theorem lE:(env.hint 126).mode=0:=kr
theorem y5:(env.hint 127).mode=1:=kr
theorem MK:(env.hint 128).mode=1:=kr
theorem AV:(env.hint 129).mode=2:=kr
theorem BK:(env.hint 130).mode=2:=kr
theorem A1:(env.hint 131).mode=1:=kr
theorem JN:(env.hint 132).mode=2:=kr
theorem DT:(env.hint 133).mode=0:=kr
theorem KD:(env.hint 134).mode=1:=kr
theorem jU:(env.hint 135).mode=2:=kr
theorem IO:(env.hint 136).mode=1:=kr
theorem jZ:(env.hint 137).mode=0:=kr
theorem pN:(env.hint 138).mode=1:=kr
theorem gF:(env.hint 140).mode=0:=kr
theorem lA:(env.hint 141).mode=0:=kr
theorem xK:(env.hint 142).mode=1:=kr
theorem RD:(env.hint 143).mode=1:=kr
theorem RI:(env.hint 144).mode=1:=kr
theorem yV:(env.hint 145).mode=2:=kr
theorem EO:(env.hint 146).mode=1:=kr
theorem ZK:(env.hint 147).mode=1:=kr
theorem aAm:(env.hint 148).mode=1:=kr
theorem iG:(env.hint 149).mode=0:=kr
theorem OZ:(env.hint 150).mode=2:=kr
theorem aAE:(env.hint 151).mode=1:=kr
theorem DO:(env.hint 152).mode=1:=kr
theorem kW:(env.hint 153).mode=0:=kr
theorem Q3:(env.hint 154).mode=1:=kr
theorem UQ:(env.hint 155).mode=1:=kr
theorem OA:(env.hint 156).mode=1:=kr
theorem I7:(env.hint 157).mode=2:=kr
theorem MD0:type_of% (AI @z7 (AI @iU (AI @HG (AI @E4 (AI @uF (AI @mB (AI @tW (AI @zZ (AI @zT (AI @aEc (AI @CJ (AI @OD (AI @NJ (AI @J0 (AI @wO (AI @G3 (AI @iF (AI @dS (AI @KH (AI @wL (AI @E6 (AI @uH (AI @IH (AI @DW (AI @ES (AI @aCT (AI @K4 (AI @EU (AI @eX (AI @B7 (AI @eW (AI @JG (AI @E5 (AI @RV (AI @rS (AI @B1 (AI @V8 (AI @DG (AI @EP (AI @rW (AI @NN (AI @WG (AI @K0 (AI @IL (AI @G8 (AI @EX (AI @pF (AI @fE (AI @yE (AI @zP (AI @tX (AI @EI (AI @WS (AI @HH (AI @Q7 (AI @EJ (AI @CB (AI @GO (AI @R9 @xP))))))))))))))))))))))))))))))))))))))))))))))))))))))))))):=
 ⟨@z7,@iU,@HG,@E4,@uF,@mB,@tW,@zZ,@zT,@aEc,@CJ,@OD,@NJ,@J0,@wO,@G3,@iF,@dS,@KH,@wL,@E6,@uH,@IH,@DW,@ES,@aCT,@K4,@EU,@eX,@B7,@eW,@JG,@E5,@RV,@rS,@B1,@V8,@DG,@EP,@rW,@NN,@WG,@K0,@IL,@G8,@EX,@pF,@fE,@yE,@zP,@tX,@EI,@WS,@HH,@Q7,@EJ,@CB,@GO,@R9,@xP⟩
theorem MD1:type_of% (AI @vR (AI @yW (AI @kM (AI @B8 (AI @nO (AI @lF (AI @pJ (AI @wV (AI @LT (AI @ON (AI @R3 (AI @HT (AI @EL (AI @OT (AI @nJ (AI @o7 (AI @wJ (AI @jR (AI @CE (AI @wN (AI @WP (AI @OS (AI @OO (AI @NW (AI @sX (AI @ER (AI @qG (AI @iE (AI @j3 (AI @iB (AI @i7 (AI @iN (AI @eV (AI @gS (AI @jP (AI @x5 (AI @yM (AI @RE (AI @x6 (AI @N2 (AI @uU (AI @Q4 (AI @IN (AI @ET (AI @UC (AI @lE (AI @y5 (AI @MK (AI @AV (AI @BK (AI @A1 (AI @JN (AI @DT (AI @KD (AI @jU (AI @IO (AI @jZ (AI @pN (AI @gF @lA))))))))))))))))))))))))))))))))))))))))))))))))))))))))))):=
 ⟨@vR,@yW,@kM,@B8,@nO,@lF,@pJ,@wV,@LT,@ON,@R3,@HT,@EL,@OT,@nJ,@o7,@wJ,@jR,@CE,@wN,@WP,@OS,@OO,@NW,@sX,@ER,@qG,@iE,@j3,@iB,@i7,@iN,@eV,@gS,@jP,@x5,@yM,@RE,@x6,@N2,@uU,@Q4,@IN,@ET,@UC,@lE,@y5,@MK,@AV,@BK,@A1,@JN,@DT,@KD,@jU,@IO,@jZ,@pN,@gF,@lA⟩
theorem MD2:type_of% (AI @xK (AI @RD (AI @RI (AI @yV (AI @EO (AI @ZK (AI @aAm (AI @iG (AI @OZ (AI @aAE (AI @DO (AI @kW (AI @Q3 (AI @UQ (AI @OA @I7))))))))))))))):=
 ⟨@xK,@RD,@RI,@yV,@EO,@ZK,@aAm,@iG,@OZ,@aAE,@DO,@kW,@Q3,@UQ,@OA,@I7⟩
theorem MD:type_of% (AI @MD0 (AI @MD1 @MD2)):=
 ⟨@MD0,@MD1,@MD2⟩
end Ev
end Go.Proofs.YthlkcebdfbjdoaaGreat
