/-
  What the evaluator is told of each function, and each function's code as an equation. Written by a program.
-/
import Derived.Test.YtppffbehejpglaaGreatEvPrim
import Derived.Test.YtppffbehejpglaaGreatChecked
set_option linter.unusedSimpArgs false
set_option linter.unusedVariables false
set_option maxRecDepth 100000
namespace Go.Proofs.YtppffbehejpglaaGreat
namespace Ev
def aP:Nat->Nat->List Bool
 |0,_=>[]
 |n+1,k=>(k % 2==1)::aP n (k/2)
noncomputable def aTE:List (Nat×Hint):=[
 (3,{ mode:=1,exp:=false,thaw:=[],live:=aP 0 0}),
 (4,{ mode:=2,exp:=false,thaw:=[],live:=aP 0 0}),
 (5,{ mode:=1,exp:=false,thaw:=[],live:=aP 41 469762264}),
 (6,{ mode:=1,exp:=false,thaw:=[],live:=aP 48 1496}),
 (7,{ mode:=3,exp:=true,thaw:=[],live:=aP 68 1000796099450352}),
 (8,{ mode:=2,exp:=false,thaw:=[],live:=aP 30 49180}),
 (9,{ mode:=2,exp:=true,thaw:=[],live:=aP 0 0}),
 (10,{ mode:=0,exp:=false,thaw:=[],live:=aP 0 0}),
 (11,{ mode:=0,exp:=false,thaw:=(W32 (W32 (W16 (W8 (W4 (W1 [1002])))))),live:=aP 0 0}),
 (12,{ mode:=0,exp:=false,thaw:=[],live:=aP 0 0}),
 (13,{ mode:=0,exp:=false,thaw:=[],live:=aP 0 0}),
 (14,{ mode:=2,exp:=false,thaw:=[],live:=aP 0 0}),
 (15,{ mode:=0,exp:=false,thaw:=[],live:=aP 0 0}),
 (16,{ mode:=1,exp:=false,thaw:=[],live:=aP 0 0}),
 (17,{ mode:=1,exp:=false,thaw:=[],live:=aP 0 0}),
 (18,{ mode:=2,exp:=false,thaw:=[],live:=aP 72 8176}),
 (19,{ mode:=1,exp:=false,thaw:=[],live:=aP 0 0}),
 (20,{ mode:=1,exp:=false,thaw:=[],live:=aP 0 0}),
 (21,{ mode:=1,exp:=false,thaw:=[],live:=aP 65 1972248982323214}),
 (22,{ mode:=2,exp:=false,thaw:=(W8 (W4 [2002])),live:=aP 48 3787457267}),
 (23,{ mode:=3,exp:=true,thaw:=[],live:=aP 47 49214}),
 (24,{ mode:=3,exp:=true,thaw:=[0,0,0,2],live:=aP 31 12302}),
 (25,{ mode:=0,exp:=false,thaw:=[],live:=aP 0 0}),
 (26,{ mode:=0,exp:=true,thaw:=[],live:=aP 0 0}),
 (27,{ mode:=1,exp:=false,thaw:=[],live:=aP 0 0}),
 (28,{ mode:=2,exp:=true,thaw:=[],live:=aP 28 57356}),
 (29,{ mode:=0,exp:=false,thaw:=(W32 (W32 (W16 (W2 (W1 [1002,0,0,0,0,0,0,0,0,0,0,0,0,0,0,0,0,0,0,0,0,0,1002]))))),live:=aP 114 112}),
 (30,{ mode:=0,exp:=false,thaw:=[],live:=aP 36 29}),
 (31,{ mode:=0,exp:=true,thaw:=(W32 (W4 (W1 [1002]))),live:=aP 49 4037}),
 (32,{ mode:=2,exp:=true,thaw:=(W16 (W8 (W4 [1002]))),live:=aP 32 30}),
 (33,{ mode:=2,exp:=false,thaw:=[],live:=aP 72 413}),
 (34,{ mode:=0,exp:=false,thaw:=[],live:=aP 0 0}),
 (35,{ mode:=2,exp:=false,thaw:=[],live:=aP 0 0}),
 (36,{ mode:=0,exp:=false,thaw:=[],live:=aP 0 0}),
 (37,{ mode:=0,exp:=false,thaw:=[],live:=aP 0 0}),
 (38,{ mode:=1,exp:=false,thaw:=[],live:=aP 44 30}),
 (39,{ mode:=2,exp:=false,thaw:=[],live:=aP 71 2044}),
 (40,{ mode:=1,exp:=false,thaw:=[],live:=aP 35 6291570}),
 (41,{ mode:=2,exp:=false,thaw:=[],live:=aP 32 60}),
 (42,{ mode:=2,exp:=false,thaw:=[],live:=aP 47 62}),
 (43,{ mode:=2,exp:=false,thaw:=[],live:=aP 47 498}),
 (44,{ mode:=0,exp:=false,thaw:=[],live:=aP 47 115}),
 (45,{ mode:=1,exp:=false,thaw:=[],live:=aP 0 0}),
 (46,{ mode:=1,exp:=false,thaw:=[],live:=aP 0 0}),
 (47,{ mode:=2,exp:=false,thaw:=[0,0,0,2],live:=aP 17 45}),
 (48,{ mode:=1,exp:=false,thaw:=[],live:=aP 0 0}),
 (49,{ mode:=1,exp:=false,thaw:=[],live:=aP 0 0}),
 (50,{ mode:=1,exp:=false,thaw:=[],live:=aP 0 0}),
 (51,{ mode:=1,exp:=false,thaw:=[],live:=aP 0 0}),
 (52,{ mode:=0,exp:=false,thaw:=[],live:=aP 0 0}),
 (53,{ mode:=2,exp:=false,thaw:=[],live:=aP 0 0}),
 (54,{ mode:=0,exp:=false,thaw:=[],live:=aP 14 33}),
 (55,{ mode:=1,exp:=false,thaw:=[],live:=aP 18 460}),
 (56,{ mode:=1,exp:=false,thaw:=[],live:=aP 0 0}),
 (57,{ mode:=1,exp:=false,thaw:=[],live:=aP 0 0}),
 (58,{ mode:=0,exp:=true,thaw:=[],live:=aP 0 0}),
 (59,{ mode:=0,exp:=true,thaw:=[],live:=aP 0 0}),
 (60,{ mode:=2,exp:=false,thaw:=[],live:=aP 18 29}),
 (61,{ mode:=2,exp:=false,thaw:=[],live:=aP 36 243}),
 (62,{ mode:=1,exp:=false,thaw:=[],live:=aP 14 29}),
 (63,{ mode:=2,exp:=false,thaw:=[],live:=aP 36 124}),
 (64,{ mode:=1,exp:=false,thaw:=[],live:=aP 54 94}),
 (65,{ mode:=0,exp:=false,thaw:=[],live:=aP 49 964}),
 (66,{ mode:=1,exp:=false,thaw:=[],live:=aP 0 0}),
 (67,{ mode:=1,exp:=false,thaw:=[],live:=aP 31 197}),
 (68,{ mode:=2,exp:=false,thaw:=[],live:=aP 69 254}),
 (69,{ mode:=2,exp:=false,thaw:=[],live:=aP 44 446}),
 (70,{ mode:=1,exp:=false,thaw:=[],live:=aP 15 51}),
 (71,{ mode:=1,exp:=false,thaw:=[],live:=aP 26 98323}),
 (72,{ mode:=2,exp:=false,thaw:=[],live:=aP 54 240553558140}),
 (73,{ mode:=1,exp:=false,thaw:=[],live:=aP 0 0}),
 (74,{ mode:=1,exp:=false,thaw:=[],live:=aP 0 0}),
 (75,{ mode:=1,exp:=false,thaw:=[],live:=aP 0 0}),
 (76,{ mode:=1,exp:=false,thaw:=[],live:=aP 18 51}),
 (77,{ mode:=1,exp:=false,thaw:=[],live:=aP 0 0}),
 (78,{ mode:=1,exp:=false,thaw:=[],live:=aP 27 115}),
 (79,{ mode:=1,exp:=false,thaw:=[],live:=aP 0 0}),
 (80,{ mode:=1,exp:=false,thaw:=[],live:=aP 21 206}),
 (81,{ mode:=1,exp:=false,thaw:=[],live:=aP 0 0}),
 (82,{ mode:=1,exp:=false,thaw:=[],live:=aP 0 0}),
 (83,{ mode:=0,exp:=false,thaw:=[],live:=aP 0 0}),
 (84,{ mode:=1,exp:=false,thaw:=[],live:=aP 19 403}),
 (85,{ mode:=1,exp:=false,thaw:=[],live:=aP 0 0}),
 (86,{ mode:=0,exp:=false,thaw:=[],live:=aP 0 0}),
 (87,{ mode:=0,exp:=false,thaw:=[],live:=aP 148 3103}),
 (88,{ mode:=1,exp:=false,thaw:=[],live:=aP 0 0}),
 (89,{ mode:=2,exp:=false,thaw:=[],live:=aP 0 0}),
 (90,{ mode:=1,exp:=false,thaw:=[],live:=aP 0 0}),
 (91,{ mode:=1,exp:=false,thaw:=[],live:=aP 0 0}),
 (92,{ mode:=1,exp:=false,thaw:=[],live:=aP 0 0}),
 (93,{ mode:=1,exp:=false,thaw:=[],live:=aP 27 60}),
 (94,{ mode:=1,exp:=false,thaw:=[],live:=aP 67 125}),
 (95,{ mode:=1,exp:=false,thaw:=[],live:=aP 31 13}),
 (96,{ mode:=2,exp:=false,thaw:=[],live:=aP 43 126}),
 (97,{ mode:=2,exp:=false,thaw:=[],live:=aP 47 2038}),
 (98,{ mode:=1,exp:=false,thaw:=[],live:=aP 0 0}),
 (99,{ mode:=1,exp:=false,thaw:=[],live:=aP 107 65534}),
 (100,{ mode:=1,exp:=false,thaw:=[],live:=aP 0 0}),
 (101,{ mode:=1,exp:=false,thaw:=[],live:=aP 22 61}),
 (102,{ mode:=1,exp:=false,thaw:=[],live:=aP 0 0}),
 (103,{ mode:=1,exp:=false,thaw:=[],live:=aP 0 0}),
 (104,{ mode:=0,exp:=false,thaw:=[],live:=aP 0 0}),
 (105,{ mode:=1,exp:=false,thaw:=(W16 (W2 [2])),live:=aP 63 61632781151244}),
 (106,{ mode:=0,exp:=false,thaw:=[],live:=aP 0 0}),
 (107,{ mode:=0,exp:=false,thaw:=[],live:=aP 0 0}),
 (108,{ mode:=0,exp:=false,thaw:=[],live:=aP 53 783}),
 (109,{ mode:=0,exp:=false,thaw:=[],live:=aP 60 7945}),
 (110,{ mode:=0,exp:=false,thaw:=[],live:=aP 67 3843}),
 (111,{ mode:=0,exp:=false,thaw:=[],live:=aP 0 0}),
 (112,{ mode:=0,exp:=false,thaw:=[],live:=aP 34 769}),
 (113,{ mode:=0,exp:=false,thaw:=[],live:=aP 141 7951}),
 (114,{ mode:=0,exp:=false,thaw:=[],live:=aP 90 7187}),
 (115,{ mode:=0,exp:=false,thaw:=[],live:=aP 178 15379}),
 (116,{ mode:=1,exp:=false,thaw:=[],live:=aP 0 0}),
 (117,{ mode:=1,exp:=false,thaw:=[],live:=aP 0 0}),
 (118,{ mode:=1,exp:=false,thaw:=[],live:=aP 18 51}),
 (119,{ mode:=1,exp:=false,thaw:=[],live:=aP 52 798}),
 (120,{ mode:=2,exp:=false,thaw:=[],live:=aP 41 62}),
 (121,{ mode:=2,exp:=false,thaw:=[],live:=aP 48 8142}),
 (122,{ mode:=1,exp:=false,thaw:=[],live:=aP 64 196}),
 (123,{ mode:=2,exp:=false,thaw:=[],live:=aP 33 115}),
 (124,{ mode:=0,exp:=false,thaw:=[],live:=aP 35 115}),
 (125,{ mode:=1,exp:=false,thaw:=[],live:=aP 25 115}),
 (126,{ mode:=2,exp:=false,thaw:=[],live:=aP 64 31775}),
 (127,{ mode:=1,exp:=false,thaw:=[],live:=aP 23 13}),
 (128,{ mode:=1,exp:=false,thaw:=[],live:=aP 0 0}),
 (129,{ mode:=1,exp:=false,thaw:=[],live:=aP 18 115}),
 (130,{ mode:=0,exp:=false,thaw:=(W8 (W2 [2])),live:=aP 50 118331}),
 (131,{ mode:=1,exp:=false,thaw:=[0,0,0,2],live:=aP 32 29}),
 (132,{ mode:=0,exp:=false,thaw:=[],live:=aP 82 1053}),
 (133,{ mode:=1,exp:=false,thaw:=[],live:=aP 0 0}),
 (135,{ mode:=0,exp:=false,thaw:=[],live:=aP 0 0}),
 (136,{ mode:=0,exp:=false,thaw:=[],live:=aP 0 0}),
 (137,{ mode:=2,exp:=false,thaw:=[],live:=aP 62 32542}),
 (138,{ mode:=1,exp:=false,thaw:=[],live:=aP 0 0}),
 (139,{ mode:=1,exp:=false,thaw:=[],live:=aP 36 455}),
 (140,{ mode:=0,exp:=false,thaw:=[],live:=aP 28 13}),
 (141,{ mode:=0,exp:=false,thaw:=[],live:=aP 0 0}),
 (142,{ mode:=2,exp:=false,thaw:=[],live:=aP 79 3852})]
noncomputable def aFu:List (TypeId×Nat):=[]
noncomputable def aIe:List (Nat×(List A->H->Option (A×H))):=[(25,A3 54 27),(52,H6 27),(58,mA 1),(59,mA 1)]
noncomputable def env:Env:={ P:=Tryz.prog,hint:=fun f=>(aTE.lookup f).getD {},eqs:=aFu,prim:=fun f=>aIe.lookup f}
theorem AO:(env.hint 3).mode=1:=kr
theorem uL:(env.hint 4).mode=2:=kr
theorem AT:(env.hint 5).mode=1:=kr
theorem AZ:(env.hint 6).mode=1:=kr
theorem iT:(env.hint 7).mode=3:=kr
theorem pR:(env.hint 8).mode=2:=kr
theorem OE:(env.hint 9).mode=2:=kr
theorem O2:(env.hint 10).mode=0:=kr
theorem LD:(env.hint 11).mode=0:=kr
theorem FR:(env.hint 12).mode=0:=kr
theorem R9:(env.hint 13).mode=0:=kr
theorem sV:(env.hint 14).mode=2:=kr
theorem L3:(env.hint 15).mode=0:=kr
theorem CQ:(env.hint 16).mode=1:=kr
theorem DJ:(env.hint 17).mode=1:=kr
theorem JK:(env.hint 18).mode=2:=kr
theorem VH:(env.hint 19).mode=1:=kr
theorem DS:(env.hint 20).mode=1:=kr
theorem xU:(env.hint 21).mode=1:=kr
theorem J2:(env.hint 22).mode=2:=kr
theorem mR:(env.hint 23).mode=3:=kr
theorem uN:(env.hint 24).mode=3:=kr
theorem iJ:(env.hint 25).mode=0:=kr
theorem dN:(env.hint 26).mode=0:=kr
theorem KY:(env.hint 27).mode=1:=kr
theorem oS:(env.hint 28).mode=2:=kr
theorem PN:(env.hint 29).mode=0:=kr
theorem WJ:(env.hint 30).mode=0:=kr
theorem LJ:(env.hint 31).mode=0:=kr
theorem pW:(env.hint 32).mode=2:=kr
theorem xB:(env.hint 33).mode=2:=kr
theorem KK:(env.hint 34).mode=0:=kr
theorem OQ:(env.hint 35).mode=2:=kr
theorem RV:(env.hint 36).mode=0:=kr
theorem IS:(env.hint 37).mode=0:=kr
theorem xW:(env.hint 38).mode=1:=kr
theorem II:(env.hint 39).mode=2:=kr
theorem FP:(env.hint 40).mode=1:=kr
theorem FA:(env.hint 41).mode=2:=kr
theorem u9:(env.hint 42).mode=2:=kr
theorem HE:(env.hint 43).mode=2:=kr
theorem E1:(env.hint 44).mode=0:=kr
theorem FD:(env.hint 45).mode=1:=kr
theorem FK:(env.hint 46).mode=1:=kr
theorem HP:(env.hint 47).mode=2:=kr
theorem FL:(env.hint 48).mode=1:=kr
theorem D1:(env.hint 49).mode=1:=kr
theorem eZ:(env.hint 50).mode=1:=kr
theorem FY:(env.hint 51).mode=1:=kr
theorem fA:(env.hint 52).mode=0:=kr
theorem pO:(env.hint 53).mode=2:=kr
theorem fF:(env.hint 54).mode=0:=kr
theorem y4:(env.hint 55).mode=1:=kr
theorem zF:(env.hint 56).mode=1:=kr
theorem uM:(env.hint 57).mode=1:=kr
theorem jM:(env.hint 58).mode=0:=kr
theorem kD:(env.hint 59).mode=0:=kr
theorem IF:(env.hint 60).mode=2:=kr
theorem SP:(env.hint 61).mode=2:=kr
theorem zP:(env.hint 62).mode=1:=kr
theorem PA:(env.hint 63).mode=2:=kr
theorem vB:(env.hint 64).mode=1:=kr
theorem RZ:(env.hint 65).mode=0:=kr
theorem FT:(env.hint 66).mode=1:=kr
theorem WL:(env.hint 67).mode=1:=kr
theorem R0:(env.hint 68).mode=2:=kr
theorem IW:(env.hint 69).mode=2:=kr
theorem PC:(env.hint 70).mode=1:=kr
theorem E9:(env.hint 71).mode=1:=kr
theorem PO:(env.hint 72).mode=2:=kr
theorem L4:(env.hint 73).mode=1:=kr
theorem FX:(env.hint 74).mode=1:=kr
theorem DG:(env.hint 75).mode=1:=kr
theorem I7:(env.hint 76).mode=1:=kr
theorem R5:(env.hint 77).mode=1:=kr
theorem x7:(env.hint 78).mode=1:=kr
theorem FS:(env.hint 79).mode=1:=kr
theorem X6:(env.hint 80).mode=1:=kr
theorem aEm:(env.hint 81).mode=1:=kr
theorem rQ:(env.hint 82).mode=1:=kr
theorem nC:(env.hint 83).mode=0:=kr
theorem lK:(env.hint 84).mode=1:=kr
theorem wK:(env.hint 85).mode=1:=kr
theorem yF:(env.hint 86).mode=0:=kr
theorem kL:(env.hint 87).mode=0:=kr
theorem DE:(env.hint 88).mode=1:=kr
theorem jQ:(env.hint 89).mode=2:=kr
theorem D7:(env.hint 90).mode=1:=kr
theorem x3:(env.hint 91).mode=1:=kr
theorem UW:(env.hint 92).mode=1:=kr
theorem xX:(env.hint 93).mode=1:=kr
theorem SD:(env.hint 94).mode=1:=kr
theorem R1:(env.hint 95).mode=1:=kr
theorem NY:(env.hint 96).mode=2:=kr
theorem yM:(env.hint 97).mode=2:=kr
theorem OG:(env.hint 98).mode=1:=kr
theorem tG:(env.hint 99).mode=1:=kr
theorem FE:(env.hint 100).mode=1:=kr
theorem FU:(env.hint 101).mode=1:=kr
theorem aAH:(env.hint 102).mode=1:=kr
theorem aA3:(env.hint 103).mode=1:=kr
theorem n5:(env.hint 104).mode=0:=kr
theorem oJ:(env.hint 105).mode=1:=kr
theorem xY:(env.hint 106).mode=0:=kr
theorem qM:(env.hint 107).mode=0:=kr
theorem iE:(env.hint 108).mode=0:=kr
theorem j2:(env.hint 109).mode=0:=kr
theorem iG:(env.hint 110).mode=0:=kr
theorem jA:(env.hint 111).mode=0:=kr
theorem iP:(env.hint 112).mode=0:=kr
theorem eY:(env.hint 113).mode=0:=kr
theorem gH:(env.hint 114).mode=0:=kr
theorem jU:(env.hint 115).mode=0:=kr
theorem yA:(env.hint 116).mode=1:=kr
theorem y7:(env.hint 117).mode=1:=kr
theorem NJ:(env.hint 118).mode=1:=kr
theorem TA:(env.hint 119).mode=1:=kr
theorem BF:(env.hint 120).mode=2:=kr
theorem A0:(env.hint 121).mode=2:=kr
theorem BX:(env.hint 122).mode=1:=kr
theorem LI:(env.hint 123).mode=2:=kr
theorem EA:(env.hint 124).mode=0:=kr
theorem LC:(env.hint 125).mode=1:=kr
theorem jS:(env.hint 126).mode=2:=kr
theorem HK:(env.hint 127).mode=1:=kr
theorem WC:(env.hint 128).mode=1:=kr
theorem PD:(env.hint 129).mode=1:=kr
theorem lH:(env.hint 130).mode=0:=kr
theorem yK:(env.hint 131).mode=1:=kr
theorem j5:(env.hint 132).mode=0:=kr
theorem pN:(env.hint 133).mode=1:=kr
theorem gL:(env.hint 135).mode=0:=kr
theorem kY:(env.hint 136).mode=0:=kr
theorem PB:(env.hint 137).mode=2:=kr
theorem ZZ:(env.hint 138).mode=1:=kr
theorem EV:(env.hint 139).mode=1:=kr
theorem iI:(env.hint 140).mode=0:=kr
theorem lF:(env.hint 141).mode=0:=kr
theorem HH:(env.hint 142).mode=2:=kr
theorem MD0:type_of% (AI @AO (AI @uL (AI @AT (AI @AZ (AI @iT (AI @pR (AI @OE (AI @O2 (AI @LD (AI @FR (AI @R9 (AI @sV (AI @L3 (AI @CQ (AI @DJ (AI @JK (AI @VH (AI @DS (AI @xU (AI @J2 (AI @mR (AI @uN (AI @iJ (AI @dN (AI @KY (AI @oS (AI @PN (AI @WJ (AI @LJ (AI @pW (AI @xB (AI @KK (AI @OQ (AI @RV (AI @IS (AI @xW (AI @II (AI @FP (AI @FA (AI @u9 (AI @HE (AI @E1 (AI @FD (AI @FK (AI @HP (AI @FL (AI @D1 (AI @eZ (AI @FY (AI @fA (AI @pO (AI @fF (AI @y4 (AI @zF (AI @uM (AI @jM (AI @kD (AI @IF (AI @SP @zP))))))))))))))))))))))))))))))))))))))))))))))))))))))))))):=
 ⟨@AO,@uL,@AT,@AZ,@iT,@pR,@OE,@O2,@LD,@FR,@R9,@sV,@L3,@CQ,@DJ,@JK,@VH,@DS,@xU,@J2,@mR,@uN,@iJ,@dN,@KY,@oS,@PN,@WJ,@LJ,@pW,@xB,@KK,@OQ,@RV,@IS,@xW,@II,@FP,@FA,@u9,@HE,@E1,@FD,@FK,@HP,@FL,@D1,@eZ,@FY,@fA,@pO,@fF,@y4,@zF,@uM,@jM,@kD,@IF,@SP,@zP⟩
theorem MD1:type_of% (AI @PA (AI @vB (AI @RZ (AI @FT (AI @WL (AI @R0 (AI @IW (AI @PC (AI @E9 (AI @PO (AI @L4 (AI @FX (AI @DG (AI @I7 (AI @R5 (AI @x7 (AI @FS (AI @X6 (AI @aEm (AI @rQ (AI @nC (AI @lK (AI @wK (AI @yF (AI @kL (AI @DE (AI @jQ (AI @D7 (AI @x3 (AI @UW (AI @xX (AI @SD (AI @R1 (AI @NY (AI @yM (AI @OG (AI @tG (AI @FE (AI @FU (AI @aAH (AI @aA3 (AI @n5 (AI @oJ (AI @xY (AI @qM (AI @iE (AI @j2 (AI @iG (AI @jA (AI @iP (AI @eY (AI @gH (AI @jU (AI @yA (AI @y7 (AI @NJ (AI @TA (AI @BF (AI @A0 @BX))))))))))))))))))))))))))))))))))))))))))))))))))))))))))):=
 ⟨@PA,@vB,@RZ,@FT,@WL,@R0,@IW,@PC,@E9,@PO,@L4,@FX,@DG,@I7,@R5,@x7,@FS,@X6,@aEm,@rQ,@nC,@lK,@wK,@yF,@kL,@DE,@jQ,@D7,@x3,@UW,@xX,@SD,@R1,@NY,@yM,@OG,@tG,@FE,@FU,@aAH,@aA3,@n5,@oJ,@xY,@qM,@iE,@j2,@iG,@jA,@iP,@eY,@gH,@jU,@yA,@y7,@NJ,@TA,@BF,@A0,@BX⟩
theorem MD2:type_of% (AI @LI (AI @EA (AI @LC (AI @jS (AI @HK (AI @WC (AI @PD (AI @lH (AI @yK (AI @j5 (AI @pN (AI @gL (AI @kY (AI @PB (AI @ZZ (AI @EV (AI @iI (AI @lF @HH)))))))))))))))))):=
 ⟨@LI,@EA,@LC,@jS,@HK,@WC,@PD,@lH,@yK,@j5,@pN,@gL,@kY,@PB,@ZZ,@EV,@iI,@lF,@HH⟩
theorem MD:type_of% (AI @MD0 (AI @MD1 @MD2)):=
 ⟨@MD0,@MD1,@MD2⟩
end Ev
end Go.Proofs.YtppffbehejpglaaGreat
