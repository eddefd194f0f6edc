/-
  What the evaluator is told of each function, and each function's code as an equation. Written by a program.
-/
import Derived.Test.YtppffbehejpglaaGreatDoorEvPrim
import Derived.Test.YtppffbehejpglaaGreatDoorChecked
set_option linter.unusedSimpArgs false
set_option linter.unusedVariables false
set_option maxRecDepth 100000
namespace Go.Proofs.YtppffbehejpglaaGreatDoor
namespace Ev
def aQ:Nat->Nat->List Bool
 |0,_=>[]
 |n+1,k=>(k % 2==1)::aQ n (k/2)
noncomputable def aXm:List (Nat×Hint):=[
 (3,{ mode:=1,exp:=false,thaw:=[],live:=aQ 0 0}),
 (5,{ mode:=2,exp:=false,thaw:=[],live:=aQ 0 0}),
 (6,{ mode:=1,exp:=false,thaw:=[],live:=aQ 0 0}),
 (7,{ mode:=3,exp:=true,thaw:=[],live:=aQ 68 1000796099450352}),
 (8,{ mode:=1,exp:=false,thaw:=[],live:=aQ 0 0}),
 (9,{ mode:=1,exp:=false,thaw:=[],live:=aQ 0 0}),
 (10,{ mode:=2,exp:=false,thaw:=[],live:=aQ 0 0}),
 (12,{ mode:=2,exp:=false,thaw:=[],live:=aQ 0 0}),
 (13,{ mode:=1,exp:=false,thaw:=[],live:=aQ 41 469762264}),
 (14,{ mode:=1,exp:=false,thaw:=[],live:=aQ 0 0}),
 (15,{ mode:=1,exp:=false,thaw:=[],live:=aQ 65 1972248982323214}),
 (16,{ mode:=2,exp:=false,thaw:=(W8 (W4 [2002])),live:=aQ 48 3787457267}),
 (17,{ mode:=3,exp:=true,thaw:=[],live:=aQ 47 49214}),
 (18,{ mode:=3,exp:=true,thaw:=[0,0,0,2],live:=aQ 31 12302}),
 (19,{ mode:=0,exp:=false,thaw:=[],live:=aQ 0 0}),
 (20,{ mode:=0,exp:=true,thaw:=[],live:=aQ 0 0}),
 (21,{ mode:=1,exp:=false,thaw:=[],live:=aQ 0 0}),
 (22,{ mode:=2,exp:=false,thaw:=[],live:=aQ 72 8176}),
 (23,{ mode:=1,exp:=false,thaw:=[],live:=aQ 48 1496}),
 (24,{ mode:=1,exp:=false,thaw:=[],live:=aQ 0 0}),
 (25,{ mode:=2,exp:=false,thaw:=(W4 (W2 (W1 [2]))),live:=aQ 64 15032615102}),
 (27,{ mode:=2,exp:=true,thaw:=[],live:=aQ 0 0}),
 (28,{ mode:=0,exp:=false,thaw:=[],live:=aQ 0 0}),
 (29,{ mode:=0,exp:=false,thaw:=(W32 (W32 (W16 (W8 (W4 (W1 [1002])))))),live:=aQ 0 0}),
 (30,{ mode:=0,exp:=false,thaw:=[],live:=aQ 0 0}),
 (31,{ mode:=0,exp:=false,thaw:=[],live:=aQ 0 0}),
 (32,{ mode:=2,exp:=false,thaw:=[],live:=aQ 0 0}),
 (33,{ mode:=0,exp:=false,thaw:=[],live:=aQ 0 0}),
 (34,{ mode:=1,exp:=false,thaw:=[],live:=aQ 0 0}),
 (35,{ mode:=1,exp:=false,thaw:=[],live:=aQ 0 0}),
 (36,{ mode:=2,exp:=false,thaw:=[0,0,0,2],live:=aQ 17 45}),
 (37,{ mode:=1,exp:=false,thaw:=[],live:=aQ 0 0}),
 (38,{ mode:=1,exp:=false,thaw:=[],live:=aQ 0 0}),
 (39,{ mode:=1,exp:=false,thaw:=[],live:=aQ 0 0}),
 (40,{ mode:=1,exp:=false,thaw:=[],live:=aQ 0 0}),
 (41,{ mode:=0,exp:=false,thaw:=[],live:=aQ 0 0}),
 (42,{ mode:=2,exp:=false,thaw:=[],live:=aQ 0 0}),
 (43,{ mode:=0,exp:=false,thaw:=[],live:=aQ 14 33}),
 (44,{ mode:=1,exp:=false,thaw:=[],live:=aQ 18 460}),
 (45,{ mode:=1,exp:=false,thaw:=[],live:=aQ 0 0}),
 (46,{ mode:=1,exp:=false,thaw:=[],live:=aQ 0 0}),
 (47,{ mode:=1,exp:=false,thaw:=[],live:=aQ 44 30}),
 (48,{ mode:=2,exp:=false,thaw:=[],live:=aQ 32 60}),
 (49,{ mode:=2,exp:=false,thaw:=[],live:=aQ 47 62}),
 (50,{ mode:=2,exp:=false,thaw:=[],live:=aQ 47 498}),
 (51,{ mode:=0,exp:=false,thaw:=[],live:=aQ 47 115}),
 (52,{ mode:=1,exp:=false,thaw:=[],live:=aQ 0 0}),
 (53,{ mode:=2,exp:=false,thaw:=[],live:=aQ 91 7883223496394222}),
 (54,{ mode:=2,exp:=false,thaw:=[],live:=aQ 45 939524230}),
 (55,{ mode:=1,exp:=false,thaw:=[],live:=aQ 0 0}),
 (57,{ mode:=0,exp:=false,thaw:=(W32 (W32 (W16 (W2 (W1 [1002,0,0,0,0,0,0,0,0,0,0,0,0,0,0,0,0,0,0,0,0,0,1002]))))),live:=aQ 114 112}),
 (58,{ mode:=0,exp:=false,thaw:=[],live:=aQ 36 29}),
 (59,{ mode:=0,exp:=true,thaw:=(W32 (W4 (W1 [1002]))),live:=aQ 49 4037}),
 (60,{ mode:=2,exp:=true,thaw:=(W16 (W8 (W4 [1002]))),live:=aQ 32 30}),
 (61,{ mode:=2,exp:=false,thaw:=[],live:=aQ 72 413}),
 (62,{ mode:=0,exp:=false,thaw:=[],live:=aQ 0 0}),
 (63,{ mode:=2,exp:=false,thaw:=[],live:=aQ 0 0}),
 (64,{ mode:=0,exp:=false,thaw:=[],live:=aQ 0 0}),
 (65,{ mode:=0,exp:=false,thaw:=[],live:=aQ 0 0}),
 (66,{ mode:=2,exp:=false,thaw:=[],live:=aQ 71 2044}),
 (67,{ mode:=1,exp:=false,thaw:=[],live:=aQ 35 6291570}),
 (68,{ mode:=1,exp:=false,thaw:=[],live:=aQ 0 0}),
 (69,{ mode:=0,exp:=false,thaw:=[],live:=aQ 0 0}),
 (70,{ mode:=1,exp:=false,thaw:=[],live:=aQ 19 403}),
 (71,{ mode:=1,exp:=false,thaw:=[],live:=aQ 0 0}),
 (72,{ mode:=0,exp:=false,thaw:=[],live:=aQ 0 0}),
 (73,{ mode:=0,exp:=false,thaw:=[],live:=aQ 148 3103}),
 (74,{ mode:=1,exp:=false,thaw:=[],live:=aQ 0 0}),
 (75,{ mode:=2,exp:=false,thaw:=[],live:=aQ 0 0}),
 (76,{ mode:=1,exp:=false,thaw:=[],live:=aQ 0 0}),
 (77,{ mode:=1,exp:=false,thaw:=[],live:=aQ 0 0}),
 (78,{ mode:=1,exp:=false,thaw:=[],live:=aQ 0 0}),
 (79,{ mode:=1,exp:=false,thaw:=[],live:=aQ 31 197}),
 (80,{ mode:=2,exp:=false,thaw:=[],live:=aQ 18 29}),
 (81,{ mode:=2,exp:=false,thaw:=[],live:=aQ 69 254}),
 (82,{ mode:=1,exp:=false,thaw:=[],live:=aQ 0 0}),
 (83,{ mode:=1,exp:=false,thaw:=[],live:=aQ 0 0}),
 (84,{ mode:=1,exp:=false,thaw:=[],live:=aQ 18 51}),
 (85,{ mode:=1,exp:=false,thaw:=[],live:=aQ 0 0}),
 (86,{ mode:=1,exp:=false,thaw:=[],live:=aQ 27 115}),
 (87,{ mode:=1,exp:=false,thaw:=[],live:=aQ 0 0}),
 (88,{ mode:=1,exp:=false,thaw:=[],live:=aQ 0 0}),
 (89,{ mode:=2,exp:=false,thaw:=[],live:=aQ 54 240553558140}),
 (90,{ mode:=2,exp:=false,thaw:=(W8 (W4 (W1 [2,0,2]))),live:=aQ 77 30064836366}),
 (91,{ mode:=0,exp:=false,thaw:=[],live:=aQ 0 0}),
 (92,{ mode:=0,exp:=false,thaw:=[],live:=aQ 0 0}),
 (93,{ mode:=1,exp:=false,thaw:=(W16 (W2 [2])),live:=aQ 63 61632781151244}),
 (94,{ mode:=0,exp:=false,thaw:=[],live:=aQ 0 0}),
 (95,{ mode:=2,exp:=false,thaw:=[],live:=aQ 36 243}),
 (96,{ mode:=1,exp:=false,thaw:=[],live:=aQ 14 29}),
 (97,{ mode:=2,exp:=false,thaw:=[],live:=aQ 36 124}),
 (98,{ mode:=1,exp:=false,thaw:=[],live:=aQ 54 94}),
 (99,{ mode:=0,exp:=false,thaw:=[],live:=aQ 49 964}),
 (100,{ mode:=2,exp:=false,thaw:=[],live:=aQ 44 446}),
 (101,{ mode:=1,exp:=false,thaw:=[],live:=aQ 15 51}),
 (102,{ mode:=1,exp:=false,thaw:=[],live:=aQ 26 98323}),
 (103,{ mode:=1,exp:=false,thaw:=[],live:=aQ 0 0}),
 (104,{ mode:=0,exp:=false,thaw:=[],live:=aQ 0 0}),
 (105,{ mode:=0,exp:=false,thaw:=[],live:=aQ 53 783}),
 (106,{ mode:=0,exp:=false,thaw:=[],live:=aQ 60 7945}),
 (107,{ mode:=0,exp:=false,thaw:=[],live:=aQ 67 3843}),
 (108,{ mode:=0,exp:=false,thaw:=[],live:=aQ 0 0}),
 (109,{ mode:=0,exp:=false,thaw:=[],live:=aQ 34 769}),
 (110,{ mode:=0,exp:=false,thaw:=[],live:=aQ 141 7951}),
 (111,{ mode:=0,exp:=false,thaw:=[],live:=aQ 90 7187}),
 (112,{ mode:=0,exp:=false,thaw:=[],live:=aQ 178 15379}),
 (113,{ mode:=1,exp:=false,thaw:=[],live:=aQ 0 0}),
 (114,{ mode:=1,exp:=false,thaw:=[],live:=aQ 0 0}),
 (115,{ mode:=1,exp:=false,thaw:=[],live:=aQ 0 0}),
 (116,{ mode:=2,exp:=false,thaw:=[],live:=aQ 43 126}),
 (117,{ mode:=1,exp:=false,thaw:=[],live:=aQ 0 0}),
 (118,{ mode:=1,exp:=false,thaw:=[],live:=aQ 107 65534}),
 (119,{ mode:=1,exp:=false,thaw:=[],live:=aQ 0 0}),
 (120,{ mode:=1,exp:=false,thaw:=[],live:=aQ 0 0}),
 (121,{ mode:=1,exp:=false,thaw:=[],live:=aQ 21 206}),
 (122,{ mode:=1,exp:=false,thaw:=[],live:=aQ 0 0}),
 (123,{ mode:=0,exp:=false,thaw:=(W8 (W2 [2])),live:=aQ 50 118331}),
 (124,{ mode:=1,exp:=false,thaw:=[0,0,0,2],live:=aQ 32 29}),
 (125,{ mode:=1,exp:=false,thaw:=[],live:=aQ 27 60}),
 (126,{ mode:=1,exp:=false,thaw:=[],live:=aQ 67 125}),
 (127,{ mode:=1,exp:=false,thaw:=[],live:=aQ 31 13}),
 (128,{ mode:=2,exp:=false,thaw:=[],live:=aQ 47 2038}),
 (129,{ mode:=0,exp:=false,thaw:=[],live:=aQ 82 1053}),
 (130,{ mode:=1,exp:=false,thaw:=[],live:=aQ 0 0}),
 (132,{ mode:=0,exp:=false,thaw:=[],live:=aQ 0 0}),
 (133,{ mode:=0,exp:=false,thaw:=[],live:=aQ 0 0}),
 (134,{ mode:=1,exp:=false,thaw:=[],live:=aQ 18 51}),
 (135,{ mode:=2,exp:=false,thaw:=[],live:=aQ 41 62}),
 (136,{ mode:=2,exp:=false,thaw:=[],live:=aQ 48 8142}),
 (137,{ mode:=1,exp:=false,thaw:=[],live:=aQ 64 196}),
 (138,{ mode:=2,exp:=false,thaw:=[],live:=aQ 33 115}),
 (139,{ mode:=0,exp:=false,thaw:=[],live:=aQ 35 115}),
 (140,{ mode:=1,exp:=false,thaw:=[],live:=aQ 25 115}),
 (141,{ mode:=2,exp:=false,thaw:=[],live:=aQ 64 31775}),
 (142,{ mode:=1,exp:=false,thaw:=[],live:=aQ 23 13}),
 (143,{ mode:=1,exp:=false,thaw:=[],live:=aQ 22 61}),
 (144,{ mode:=1,exp:=false,thaw:=[],live:=aQ 0 0}),
 (145,{ mode:=1,exp:=false,thaw:=[],live:=aQ 0 0}),
 (146,{ mode:=1,exp:=false,thaw:=[],live:=aQ 0 0}),
 (147,{ mode:=0,exp:=false,thaw:=[],live:=aQ 28 13}),
 (148,{ mode:=1,exp:=false,thaw:=[],live:=aQ 52 798}),
 (149,{ mode:=0,exp:=false,thaw:=[],live:=aQ 0 0}),
 (150,{ mode:=2,exp:=false,thaw:=[],live:=aQ 62 32542}),
 (151,{ mode:=1,exp:=false,thaw:=[],live:=aQ 0 0}),
 (152,{ mode:=1,exp:=false,thaw:=[],live:=aQ 36 455}),
 (153,{ mode:=1,exp:=false,thaw:=[],live:=aQ 0 0}),
 (154,{ mode:=1,exp:=false,thaw:=[],live:=aQ 18 115}),
 (155,{ mode:=1,exp:=false,thaw:=[],live:=aQ 0 0}),
 (159,{ mode:=2,exp:=false,thaw:=[],live:=aQ 79 3852}),
 (163,{ mode:=1,exp:=false,thaw:=[],live:=aQ 0 0}),
 (164,{ mode:=1,exp:=false,thaw:=[],live:=aQ 0 0}),
 (165,{ mode:=1,exp:=false,thaw:=[],live:=aQ 0 0})]
noncomputable def aHM:List (TypeId×Nat):=[]
noncomputable def aKI:List (Nat×(List A->H->Option (A×H))):=[(19,CQ 43 21),(41,J4 21),(163,gCtz)]
noncomputable def env:Env:={ P:=Tryz.prog,hint:=fun f=>(aXm.lookup f).getD {},eqs:=aHM,prim:=fun f=>aKI.lookup f}
theorem CD:(env.hint 3).mode=1:=kr
theorem wT:(env.hint 5).mode=2:=kr
theorem F5:(env.hint 6).mode=1:=kr
theorem cQ:(env.hint 7).mode=3:=kr
theorem EY:(env.hint 8).mode=1:=kr
theorem aGL:(env.hint 9).mode=1:=kr
theorem tJ:(env.hint 10).mode=2:=kr
theorem vP:(env.hint 12).mode=2:=kr
theorem CN:(env.hint 13).mode=1:=kr
theorem F0:(env.hint 14).mode=1:=kr
theorem y6:(env.hint 15).mode=1:=kr
theorem LM:(env.hint 16).mode=2:=kr
theorem nK:(env.hint 17).mode=3:=kr
theorem v8:(env.hint 18).mode=3:=kr
theorem iY:(env.hint 19).mode=0:=kr
theorem dS:(env.hint 20).mode=0:=kr
theorem PF:(env.hint 21).mode=1:=kr
theorem JQ:(env.hint 22).mode=2:=kr
theorem CA:(env.hint 23).mode=1:=kr
theorem XW:(env.hint 24).mode=1:=kr
theorem NZ:(env.hint 25).mode=2:=kr
theorem RC:(env.hint 27).mode=2:=kr
theorem QV:(env.hint 28).mode=0:=kr
theorem N6:(env.hint 29).mode=0:=kr
theorem HE:(env.hint 30).mode=0:=kr
theorem WS:(env.hint 31).mode=0:=kr
theorem s9:(env.hint 32).mode=2:=kr
theorem NQ:(env.hint 33).mode=0:=kr
theorem FA:(env.hint 34).mode=1:=kr
theorem HD:(env.hint 35).mode=1:=kr
theorem KD:(env.hint 36).mode=2:=kr
theorem HQ:(env.hint 37).mode=1:=kr
theorem FG:(env.hint 38).mode=1:=kr
theorem fF:(env.hint 39).mode=1:=kr
theorem HW:(env.hint 40).mode=1:=kr
theorem fG:(env.hint 41).mode=0:=kr
theorem qT:(env.hint 42).mode=2:=kr
theorem fL:(env.hint 43).mode=0:=kr
theorem AE:(env.hint 44).mode=1:=kr
theorem BC:(env.hint 45).mode=1:=kr
theorem vM:(env.hint 46).mode=1:=kr
theorem zD:(env.hint 47).mode=1:=kr
theorem HM:(env.hint 48).mode=2:=kr
theorem xH:(env.hint 49).mode=2:=kr
theorem LY:(env.hint 50).mode=2:=kr
theorem GI:(env.hint 51).mode=0:=kr
theorem FZ:(env.hint 52).mode=1:=kr
theorem JI:(env.hint 53).mode=2:=kr
theorem PJ:(env.hint 54).mode=2:=kr
theorem tB:(env.hint 55).mode=1:=kr
theorem RZ:(env.hint 57).mode=0:=kr
theorem aAU:(env.hint 58).mode=0:=kr
theorem O6:(env.hint 59).mode=0:=kr
theorem qY:(env.hint 60).mode=2:=kr
theorem yX:(env.hint 61).mode=2:=kr
theorem OZ:(env.hint 62).mode=0:=kr
theorem Q1:(env.hint 63).mode=2:=kr
theorem VZ:(env.hint 64).mode=0:=kr
theorem LK:(env.hint 65).mode=0:=kr
theorem JL:(env.hint 66).mode=2:=kr
theorem HX:(env.hint 67).mode=1:=kr
theorem aGW:(env.hint 68).mode=1:=kr
theorem oH:(env.hint 69).mode=0:=kr
theorem mD:(env.hint 70).mode=1:=kr
theorem yQ:(env.hint 71).mode=1:=kr
theorem AX:(env.hint 72).mode=0:=kr
theorem kZ:(env.hint 73).mode=0:=kr
theorem F4:(env.hint 74).mode=1:=kr
theorem kA:(env.hint 75).mode=2:=kr
theorem EV:(env.hint 76).mode=1:=kr
theorem y3:(env.hint 77).mode=1:=kr
theorem HI:(env.hint 78).mode=1:=kr
theorem YR:(env.hint 79).mode=1:=kr
theorem LG:(env.hint 80).mode=2:=kr
theorem VW:(env.hint 81).mode=2:=kr
theorem HV:(env.hint 82).mode=1:=kr
theorem E8:(env.hint 83).mode=1:=kr
theorem LI:(env.hint 84).mode=1:=kr
theorem WU:(env.hint 85).mode=1:=kr
theorem zY:(env.hint 86).mode=1:=kr
theorem HG:(env.hint 87).mode=1:=kr
theorem HT:(env.hint 88).mode=1:=kr
theorem RO:(env.hint 89).mode=2:=kr
theorem rX:(env.hint 90).mode=2:=kr
theorem RR:(env.hint 91).mode=0:=kr
theorem oS:(env.hint 92).mode=0:=kr
theorem qI:(env.hint 93).mode=1:=kr
theorem zO:(env.hint 94).mode=0:=kr
theorem WL:(env.hint 95).mode=2:=kr
theorem BL:(env.hint 96).mode=1:=kr
theorem Q6:(env.hint 97).mode=2:=kr
theorem xE:(env.hint 98).mode=1:=kr
theorem VE:(env.hint 99).mode=0:=kr
theorem JD:(env.hint 100).mode=2:=kr
theorem SN:(env.hint 101).mode=1:=kr
theorem HC:(env.hint 102).mode=1:=kr
theorem PD:(env.hint 103).mode=1:=kr
theorem rR:(env.hint 104).mode=0:=kr
theorem iU:(env.hint 105).mode=0:=kr
theorem kM:(env.hint 106).mode=0:=kr
theorem iW:(env.hint 107).mode=0:=kr
theorem jS:(env.hint 108).mode=0:=kr
theorem jF:(env.hint 109).mode=0:=kr
theorem fD:(env.hint 110).mode=0:=kr
theorem gZ:(env.hint 111).mode=0:=kr
theorem kC:(env.hint 112).mode=0:=kr
theorem BI:(env.hint 113).mode=1:=kr
theorem AY:(env.hint 114).mode=1:=kr
theorem ZI:(env.hint 115).mode=1:=kr
theorem RL:(env.hint 116).mode=2:=kr
theorem RA:(env.hint 117).mode=1:=kr
theorem u4:(env.hint 118).mode=1:=kr
theorem HK:(env.hint 119).mode=1:=kr
theorem HA:(env.hint 120).mode=1:=kr
theorem ZQ:(env.hint 121).mode=1:=kr
theorem qU:(env.hint 122).mode=1:=kr
theorem mB:(env.hint 123).mode=0:=kr
theorem zS:(env.hint 124).mode=1:=kr
theorem zA:(env.hint 125).mode=1:=kr
theorem VG:(env.hint 126).mode=1:=kr
theorem VV:(env.hint 127).mode=1:=kr
theorem AM:(env.hint 128).mode=2:=kr
theorem kJ:(env.hint 129).mode=0:=kr
theorem qV:(env.hint 130).mode=1:=kr
theorem iN:(env.hint 132).mode=0:=kr
theorem lW:(env.hint 133).mode=0:=kr
theorem PK:(env.hint 134).mode=1:=kr
theorem C6:(env.hint 135).mode=2:=kr
theorem CT:(env.hint 136).mode=2:=kr
theorem DO:(env.hint 137).mode=1:=kr
theorem PH:(env.hint 138).mode=2:=kr
theorem GV:(env.hint 139).mode=0:=kr
theorem M2:(env.hint 140).mode=1:=kr
theorem kB:(env.hint 141).mode=2:=kr
theorem MN:(env.hint 142).mode=1:=kr
theorem HL:(env.hint 143).mode=1:=kr
theorem aBY:(env.hint 144).mode=1:=kr
theorem aCU:(env.hint 145).mode=1:=kr
theorem mC:(env.hint 146).mode=1:=kr
theorem iX:(env.hint 147).mode=0:=kr
theorem VS:(env.hint 148).mode=1:=kr
theorem lX:(env.hint 149).mode=0:=kr
theorem RY:(env.hint 150).mode=2:=kr
theorem aBT:(env.hint 151).mode=1:=kr
theorem GM:(env.hint 152).mode=1:=kr
theorem aAh:(env.hint 153).mode=1:=kr
theorem RF:(env.hint 154).mode=1:=kr
theorem pF:(env.hint 155).mode=1:=kr
theorem K0:(env.hint 159).mode=2:=kr
theorem oV:(env.hint 163).mode=1:=kr
theorem mU:(env.hint 164).mode=1:=kr
theorem mT:(env.hint 165).mode=1:=kr
theorem MD0:type_of% (AI @CD (AI @wT (AI @F5 (AI @cQ (AI @EY (AI @aGL (AI @tJ (AI @vP (AI @CN (AI @F0 (AI @y6 (AI @LM (AI @nK (AI @v8 (AI @iY (AI @dS (AI @PF (AI @JQ (AI @CA (AI @XW (AI @NZ (AI @RC (AI @QV (AI @N6 (AI @HE (AI @WS (AI @s9 (AI @NQ (AI @FA (AI @HD (AI @KD (AI @HQ (AI @FG (AI @fF (AI @HW (AI @fG (AI @qT (AI @fL (AI @AE (AI @BC (AI @vM (AI @zD (AI @HM (AI @xH (AI @LY (AI @GI (AI @FZ (AI @JI (AI @PJ (AI @tB (AI @RZ (AI @aAU (AI @O6 (AI @qY (AI @yX (AI @OZ (AI @Q1 (AI @VZ (AI @LK @JL))))))))))))))))))))))))))))))))))))))))))))))))))))))))))):=
 ⟨@CD,@wT,@F5,@cQ,@EY,@aGL,@tJ,@vP,@CN,@F0,@y6,@LM,@nK,@v8,@iY,@dS,@PF,@JQ,@CA,@XW,@NZ,@RC,@QV,@N6,@HE,@WS,@s9,@NQ,@FA,@HD,@KD,@HQ,@FG,@fF,@HW,@fG,@qT,@fL,@AE,@BC,@vM,@zD,@HM,@xH,@LY,@GI,@FZ,@JI,@PJ,@tB,@RZ,@aAU,@O6,@qY,@yX,@OZ,@Q1,@VZ,@LK,@JL⟩
theorem MD1:type_of% (AI @HX (AI @aGW (AI @oH (AI @mD (AI @yQ (AI @AX (AI @kZ (AI @F4 (AI @kA (AI @EV (AI @y3 (AI @HI (AI @YR (AI @LG (AI @VW (AI @HV (AI @E8 (AI @LI (AI @WU (AI @zY (AI @HG (AI @HT (AI @RO (AI @rX (AI @RR (AI @oS (AI @qI (AI @zO (AI @WL (AI @BL (AI @Q6 (AI @xE (AI @VE (AI @JD (AI @SN (AI @HC (AI @PD (AI @rR (AI @iU (AI @kM (AI @iW (AI @jS (AI @jF (AI @fD (AI @gZ (AI @kC (AI @BI (AI @AY (AI @ZI (AI @RL (AI @RA (AI @u4 (AI @HK (AI @HA (AI @ZQ (AI @qU (AI @mB (AI @zS (AI @zA @VG))))))))))))))))))))))))))))))))))))))))))))))))))))))))))):=
 ⟨@HX,@aGW,@oH,@mD,@yQ,@AX,@kZ,@F4,@kA,@EV,@y3,@HI,@YR,@LG,@VW,@HV,@E8,@LI,@WU,@zY,@HG,@HT,@RO,@rX,@RR,@oS,@qI,@zO,@WL,@BL,@Q6,@xE,@VE,@JD,@SN,@HC,@PD,@rR,@iU,@kM,@iW,@jS,@jF,@fD,@gZ,@kC,@BI,@AY,@ZI,@RL,@RA,@u4,@HK,@HA,@ZQ,@qU,@mB,@zS,@zA,@VG⟩
theorem MD2:type_of% (AI @VV (AI @AM (AI @kJ (AI @qV (AI @iN (AI @lW (AI @PK (AI @C6 (AI @CT (AI @DO (AI @PH (AI @GV (AI @M2 (AI @kB (AI @MN (AI @HL (AI @aBY (AI @aCU (AI @mC (AI @iX (AI @VS (AI @lX (AI @RY (AI @aBT (AI @GM (AI @aAh (AI @RF (AI @pF (AI @K0 (AI @oV (AI @mU @mT))))))))))))))))))))))))))))))):=
 ⟨@VV,@AM,@kJ,@qV,@iN,@lW,@PK,@C6,@CT,@DO,@PH,@GV,@M2,@kB,@MN,@HL,@aBY,@aCU,@mC,@iX,@VS,@lX,@RY,@aBT,@GM,@aAh,@RF,@pF,@K0,@oV,@mU,@mT⟩
theorem MD:type_of% (AI @MD0 (AI @MD1 @MD2)):=
 ⟨@MD0,@MD1,@MD2⟩
end Ev
end Go.Proofs.YtppffbehejpglaaGreatDoor
