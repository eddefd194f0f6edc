/-
  What the evaluator is told of each function, and each function's code as an equation. Written by a program.
-/
import Derived.Test.YthlkcebdfbjdoaaGreatDoorEvPrim
import Derived.Test.YthlkcebdfbjdoaaGreatDoorChecked
set_option linter.unusedSimpArgs false
set_option linter.unusedVariables false
set_option maxRecDepth 100000
namespace Go.Proofs.YthlkcebdfbjdoaaGreatDoor
namespace Ev
def aP:Nat->Nat->List Bool
 |0,_=>[]
 |n+1,k=>(k % 2==1)::aP n (k/2)
noncomputable def aWN:List (Nat×Hint):=[
 (6,{ mode:=1,exp:=false,thaw:=[],live:=aP 0 0}),
 (8,{ mode:=2,exp:=false,thaw:=[],live:=aP 0 0}),
 (9,{ mode:=1,exp:=false,thaw:=[],live:=aP 0 0}),
 (10,{ mode:=3,exp:=true,thaw:=[],live:=aP 68 1000796099450352}),
 (11,{ mode:=1,exp:=false,thaw:=[],live:=aP 0 0}),
 (13,{ mode:=2,exp:=false,thaw:=[],live:=aP 0 0}),
 (14,{ mode:=1,exp:=false,thaw:=[],live:=aP 0 0}),
 (20,{ mode:=2,exp:=false,thaw:=[],live:=aP 0 0}),
 (21,{ mode:=1,exp:=false,thaw:=[],live:=aP 41 469762264}),
 (22,{ mode:=1,exp:=false,thaw:=[],live:=aP 0 0}),
 (23,{ mode:=1,exp:=false,thaw:=[],live:=aP 65 1972248982323214}),
 (24,{ mode:=2,exp:=false,thaw:=(W8 (W4 [2002])),live:=aP 48 3787457267}),
 (25,{ mode:=3,exp:=true,thaw:=[],live:=aP 47 49214}),
 (26,{ mode:=3,exp:=true,thaw:=[0,0,0,2],live:=aP 31 12302}),
 (27,{ mode:=0,exp:=false,thaw:=[],live:=aP 0 0}),
 (28,{ mode:=0,exp:=true,thaw:=[],live:=aP 0 0}),
 (29,{ mode:=1,exp:=false,thaw:=[],live:=aP 0 0}),
 (30,{ mode:=2,exp:=false,thaw:=[],live:=aP 72 8176}),
 (31,{ mode:=1,exp:=false,thaw:=[],live:=aP 48 1496}),
 (32,{ mode:=1,exp:=false,thaw:=[],live:=aP 0 0}),
 (33,{ mode:=2,exp:=false,thaw:=(W4 (W2 (W1 [2]))),live:=aP 64 15032615102}),
 (34,{ mode:=1,exp:=false,thaw:=[],live:=aP 0 0}),
 (35,{ mode:=2,exp:=true,thaw:=[],live:=aP 0 0}),
 (37,{ mode:=0,exp:=false,thaw:=[],live:=aP 0 0}),
 (40,{ mode:=1,exp:=false,thaw:=[],live:=aP 44 30}),
 (45,{ mode:=0,exp:=false,thaw:=[],live:=aP 0 0}),
 (46,{ mode:=0,exp:=false,thaw:=(W32 (W32 (W16 (W8 (W4 (W1 [1002])))))),live:=aP 0 0}),
 (47,{ mode:=0,exp:=false,thaw:=[],live:=aP 0 0}),
 (48,{ mode:=0,exp:=false,thaw:=[],live:=aP 0 0}),
 (49,{ mode:=2,exp:=false,thaw:=[],live:=aP 0 0}),
 (50,{ mode:=0,exp:=false,thaw:=[],live:=aP 0 0}),
 (51,{ mode:=1,exp:=false,thaw:=[],live:=aP 0 0}),
 (52,{ mode:=1,exp:=false,thaw:=[],live:=aP 0 0}),
 (53,{ mode:=2,exp:=false,thaw:=[0,0,0,2],live:=aP 17 45}),
 (54,{ mode:=1,exp:=false,thaw:=[],live:=aP 0 0}),
 (55,{ mode:=1,exp:=false,thaw:=[],live:=aP 0 0}),
 (56,{ mode:=1,exp:=false,thaw:=[],live:=aP 0 0}),
 (57,{ mode:=1,exp:=false,thaw:=[],live:=aP 0 0}),
 (58,{ mode:=0,exp:=false,thaw:=[],live:=aP 0 0}),
 (59,{ mode:=2,exp:=false,thaw:=[],live:=aP 0 0}),
 (60,{ mode:=0,exp:=false,thaw:=[],live:=aP 14 33}),
 (61,{ mode:=1,exp:=false,thaw:=[],live:=aP 18 460}),
 (62,{ mode:=1,exp:=false,thaw:=[],live:=aP 0 0}),
 (63,{ mode:=1,exp:=false,thaw:=[],live:=aP 0 0}),
 (64,{ mode:=2,exp:=false,thaw:=[],live:=aP 32 60}),
 (65,{ mode:=2,exp:=false,thaw:=[],live:=aP 47 62}),
 (66,{ mode:=2,exp:=false,thaw:=[],live:=aP 47 498}),
 (67,{ mode:=0,exp:=false,thaw:=[],live:=aP 47 115}),
 (68,{ mode:=1,exp:=false,thaw:=[],live:=aP 0 0}),
 (69,{ mode:=2,exp:=false,thaw:=[],live:=aP 91 7883223496394222}),
 (70,{ mode:=2,exp:=false,thaw:=[],live:=aP 45 939524230}),
 (71,{ mode:=1,exp:=false,thaw:=[],live:=aP 0 0}),
 (72,{ mode:=0,exp:=false,thaw:=[],live:=aP 0 0}),
 (73,{ mode:=2,exp:=false,thaw:=[],live:=aP 72 413}),
 (74,{ mode:=0,exp:=false,thaw:=[],live:=aP 0 0}),
 (80,{ mode:=1,exp:=false,thaw:=[],live:=aP 0 0}),
 (81,{ mode:=1,exp:=false,thaw:=[],live:=aP 31 197}),
 (82,{ mode:=2,exp:=false,thaw:=[],live:=aP 18 29}),
 (91,{ mode:=1,exp:=false,thaw:=[],live:=aP 0 0}),
 (92,{ mode:=0,exp:=false,thaw:=(W32 (W32 (W16 (W2 (W1 [1002,0,0,0,0,0,0,0,0,0,0,0,0,0,0,0,0,0,0,0,0,0,1002]))))),live:=aP 114 112}),
 (93,{ mode:=0,exp:=false,thaw:=[],live:=aP 36 29}),
 (94,{ mode:=0,exp:=true,thaw:=(W32 (W4 (W1 [1002]))),live:=aP 49 4037}),
 (95,{ mode:=2,exp:=true,thaw:=(W16 (W8 (W4 [1002]))),live:=aP 32 30}),
 (96,{ mode:=2,exp:=false,thaw:=[],live:=aP 0 0}),
 (97,{ mode:=0,exp:=false,thaw:=[],live:=aP 0 0}),
 (98,{ mode:=2,exp:=false,thaw:=[],live:=aP 71 2044}),
 (99,{ mode:=1,exp:=false,thaw:=[],live:=aP 35 6291570}),
 (100,{ mode:=1,exp:=false,thaw:=[],live:=aP 0 0}),
 (101,{ mode:=0,exp:=false,thaw:=[],live:=aP 0 0}),
 (102,{ mode:=1,exp:=false,thaw:=[],live:=aP 19 403}),
 (103,{ mode:=1,exp:=false,thaw:=[],live:=aP 0 0}),
 (104,{ mode:=0,exp:=false,thaw:=[],live:=aP 0 0}),
 (105,{ mode:=0,exp:=false,thaw:=[],live:=aP 148 3103}),
 (106,{ mode:=1,exp:=false,thaw:=[],live:=aP 0 0}),
 (107,{ mode:=2,exp:=false,thaw:=[],live:=aP 0 0}),
 (108,{ mode:=1,exp:=false,thaw:=[],live:=aP 0 0}),
 (109,{ mode:=1,exp:=false,thaw:=[],live:=aP 0 0}),
 (110,{ mode:=2,exp:=false,thaw:=[],live:=aP 69 254}),
 (111,{ mode:=1,exp:=false,thaw:=[],live:=aP 0 0}),
 (112,{ mode:=1,exp:=false,thaw:=[],live:=aP 0 0}),
 (113,{ mode:=1,exp:=false,thaw:=[],live:=aP 18 51}),
 (114,{ mode:=1,exp:=false,thaw:=[],live:=aP 27 115}),
 (115,{ mode:=1,exp:=false,thaw:=[],live:=aP 0 0}),
 (116,{ mode:=1,exp:=false,thaw:=[],live:=aP 0 0}),
 (117,{ mode:=2,exp:=false,thaw:=[],live:=aP 54 240553558140}),
 (118,{ mode:=2,exp:=false,thaw:=(W8 (W4 (W1 [2,0,2]))),live:=aP 77 30064836366}),
 (119,{ mode:=0,exp:=false,thaw:=[],live:=aP 0 0}),
 (120,{ mode:=0,exp:=false,thaw:=[],live:=aP 0 0}),
 (121,{ mode:=1,exp:=false,thaw:=(W16 (W2 [2])),live:=aP 63 61632781151244}),
 (122,{ mode:=0,exp:=false,thaw:=[],live:=aP 0 0}),
 (123,{ mode:=2,exp:=false,thaw:=[],live:=aP 36 243}),
 (124,{ mode:=1,exp:=false,thaw:=[],live:=aP 14 29}),
 (125,{ mode:=2,exp:=false,thaw:=[],live:=aP 36 124}),
 (126,{ mode:=1,exp:=false,thaw:=[],live:=aP 54 94}),
 (129,{ mode:=1,exp:=false,thaw:=[],live:=aP 0 0}),
 (137,{ mode:=1,exp:=false,thaw:=[],live:=aP 0 0}),
 (139,{ mode:=1,exp:=false,thaw:=[],live:=aP 107 65534}),
 (146,{ mode:=0,exp:=false,thaw:=[],live:=aP 49 964}),
 (147,{ mode:=2,exp:=false,thaw:=[],live:=aP 44 446}),
 (148,{ mode:=1,exp:=false,thaw:=[],live:=aP 15 51}),
 (149,{ mode:=1,exp:=false,thaw:=[],live:=aP 26 98323}),
 (150,{ mode:=0,exp:=false,thaw:=[],live:=aP 0 0}),
 (151,{ mode:=0,exp:=false,thaw:=[],live:=aP 53 783}),
 (152,{ mode:=0,exp:=false,thaw:=[],live:=aP 60 7945}),
 (153,{ mode:=0,exp:=false,thaw:=[],live:=aP 67 3843}),
 (154,{ mode:=0,exp:=false,thaw:=[],live:=aP 0 0}),
 (155,{ mode:=0,exp:=false,thaw:=[],live:=aP 34 769}),
 (156,{ mode:=0,exp:=false,thaw:=[],live:=aP 141 7951}),
 (157,{ mode:=0,exp:=false,thaw:=[],live:=aP 90 7187}),
 (158,{ mode:=0,exp:=false,thaw:=[],live:=aP 178 15379}),
 (159,{ mode:=1,exp:=false,thaw:=[],live:=aP 0 0}),
 (160,{ mode:=1,exp:=false,thaw:=[],live:=aP 0 0}),
 (161,{ mode:=2,exp:=false,thaw:=[],live:=aP 43 126}),
 (162,{ mode:=1,exp:=false,thaw:=[],live:=aP 0 0}),
 (163,{ mode:=1,exp:=false,thaw:=[],live:=aP 0 0}),
 (164,{ mode:=1,exp:=false,thaw:=[],live:=aP 0 0}),
 (165,{ mode:=1,exp:=false,thaw:=[],live:=aP 21 206}),
 (166,{ mode:=1,exp:=false,thaw:=[],live:=aP 0 0}),
 (167,{ mode:=0,exp:=false,thaw:=(W8 (W2 [2])),live:=aP 50 118331}),
 (168,{ mode:=1,exp:=false,thaw:=[0,0,0,2],live:=aP 32 29}),
 (169,{ mode:=1,exp:=false,thaw:=[],live:=aP 27 60}),
 (170,{ mode:=1,exp:=false,thaw:=[],live:=aP 67 125}),
 (171,{ mode:=1,exp:=false,thaw:=[],live:=aP 31 13}),
 (180,{ mode:=2,exp:=false,thaw:=[],live:=aP 41 62}),
 (181,{ mode:=2,exp:=false,thaw:=[],live:=aP 48 8142}),
 (182,{ mode:=1,exp:=false,thaw:=[],live:=aP 64 196}),
 (183,{ mode:=2,exp:=false,thaw:=[],live:=aP 33 115}),
 (184,{ mode:=0,exp:=false,thaw:=[],live:=aP 35 115}),
 (185,{ mode:=1,exp:=false,thaw:=[],live:=aP 25 115}),
 (186,{ mode:=2,exp:=false,thaw:=[],live:=aP 64 31775}),
 (188,{ mode:=1,exp:=false,thaw:=[],live:=aP 0 0}),
 (189,{ mode:=1,exp:=false,thaw:=[],live:=aP 0 0}),
 (193,{ mode:=2,exp:=false,thaw:=[],live:=aP 47 2038}),
 (194,{ mode:=0,exp:=false,thaw:=[],live:=aP 82 1053}),
 (195,{ mode:=1,exp:=false,thaw:=[],live:=aP 0 0}),
 (197,{ mode:=0,exp:=false,thaw:=[],live:=aP 0 0}),
 (198,{ mode:=0,exp:=false,thaw:=[],live:=aP 0 0}),
 (199,{ mode:=1,exp:=false,thaw:=[],live:=aP 18 51}),
 (200,{ mode:=1,exp:=false,thaw:=[],live:=aP 23 13}),
 (201,{ mode:=1,exp:=false,thaw:=[],live:=aP 22 61}),
 (202,{ mode:=1,exp:=false,thaw:=[],live:=aP 0 0}),
 (203,{ mode:=0,exp:=false,thaw:=[],live:=aP 28 13}),
 (206,{ mode:=2,exp:=false,thaw:=[],live:=aP 62 32542}),
 (207,{ mode:=1,exp:=false,thaw:=[],live:=aP 0 0}),
 (208,{ mode:=1,exp:=false,thaw:=[],live:=aP 36 455}),
 (209,{ mode:=1,exp:=false,thaw:=[],live:=aP 18 115}),
 (215,{ mode:=1,exp:=false,thaw:=[],live:=aP 52 798}),
 (216,{ mode:=0,exp:=false,thaw:=[],live:=aP 0 0}),
 (217,{ mode:=1,exp:=false,thaw:=[],live:=aP 0 0}),
 (218,{ mode:=1,exp:=false,thaw:=[],live:=aP 0 0}),
 (225,{ mode:=2,exp:=false,thaw:=[],live:=aP 79 3852}),
 (231,{ mode:=1,exp:=false,thaw:=[],live:=aP 0 0}),
 (232,{ mode:=1,exp:=false,thaw:=[],live:=aP 0 0}),
 (233,{ mode:=1,exp:=false,thaw:=[],live:=aP 0 0})]
noncomputable def aHT:List (TypeId×Nat):=[(218,3)]
noncomputable def aKu:List (Nat×(List A->H->Option (A×H))):=[(27,DY 60 29),(58,MK 29),(231,gCtz)]
noncomputable def env:Env:={ P:=Tryz.prog,hint:=fun f=>(aWN.lookup f).getD {},eqs:=aHT,prim:=fun f=>aKu.lookup f}
theorem HD:(env.hint 6).mode=1:=kr
theorem wJ:(env.hint 8).mode=2:=kr
theorem EJ:(env.hint 9).mode=1:=kr
theorem eL:(env.hint 10).mode=3:=kr
theorem E5:(env.hint 11).mode=1:=kr
theorem tB:(env.hint 13).mode=2:=kr
theorem B9:(env.hint 14).mode=1:=kr
theorem vI:(env.hint 20).mode=2:=kr
theorem CH:(env.hint 21).mode=1:=kr
theorem EI:(env.hint 22).mode=1:=kr
theorem yS:(env.hint 23).mode=1:=kr
theorem JH:(env.hint 24).mode=2:=kr
theorem nC:(env.hint 25).mode=3:=kr
theorem wD:(env.hint 26).mode=3:=kr
theorem iU:(env.hint 27).mode=0:=kr
theorem dS:(env.hint 28).mode=0:=kr
theorem NV:(env.hint 29).mode=1:=kr
theorem JL:(env.hint 30).mode=2:=kr
theorem B5:(env.hint 31).mode=1:=kr
theorem ZP:(env.hint 32).mode=1:=kr
theorem M2:(env.hint 33).mode=2:=kr
theorem NH:(env.hint 34).mode=1:=kr
theorem R1:(env.hint 35).mode=2:=kr
theorem J4:(env.hint 37).mode=0:=kr
theorem y4:(env.hint 40).mode=1:=kr
theorem RR:(env.hint 45).mode=0:=kr
theorem M8:(env.hint 46).mode=0:=kr
theorem HN:(env.hint 47).mode=0:=kr
theorem V5:(env.hint 48).mode=0:=kr
theorem tT:(env.hint 49).mode=2:=kr
theorem ON:(env.hint 50).mode=0:=kr
theorem FU:(env.hint 51).mode=1:=kr
theorem HL:(env.hint 52).mode=1:=kr
theorem J3:(env.hint 53).mode=2:=kr
theorem HI:(env.hint 54).mode=1:=kr
theorem FO:(env.hint 55).mode=1:=kr
theorem fE:(env.hint 56).mode=1:=kr
theorem HJ:(env.hint 57).mode=1:=kr
theorem fD:(env.hint 58).mode=0:=kr
theorem qT:(env.hint 59).mode=2:=kr
theorem fH:(env.hint 60).mode=0:=kr
theorem BO:(env.hint 61).mode=1:=kr
theorem z6:(env.hint 62).mode=1:=kr
theorem vP:(env.hint 63).mode=1:=kr
theorem HV:(env.hint 64).mode=2:=kr
theorem wV:(env.hint 65).mode=2:=kr
theorem JG:(env.hint 66).mode=2:=kr
theorem GS:(env.hint 67).mode=0:=kr
theorem EO:(env.hint 68).mode=1:=kr
theorem LD:(env.hint 69).mode=2:=kr
theorem PP:(env.hint 70).mode=2:=kr
theorem mP:(env.hint 71).mode=1:=kr
theorem tC:(env.hint 72).mode=0:=kr
theorem zG:(env.hint 73).mode=2:=kr
theorem OM:(env.hint 74).mode=0:=kr
theorem G7:(env.hint 80).mode=1:=kr
theorem aAN:(env.hint 81).mode=1:=kr
theorem K3:(env.hint 82).mode=2:=kr
theorem V3:(env.hint 91).mode=1:=kr
theorem SD:(env.hint 92).mode=0:=kr
theorem YR:(env.hint 93).mode=0:=kr
theorem OP:(env.hint 94).mode=0:=kr
theorem qN:(env.hint 95).mode=2:=kr
theorem RU:(env.hint 96).mode=2:=kr
theorem WJ:(env.hint 97).mode=0:=kr
theorem KL:(env.hint 98).mode=2:=kr
theorem HH:(env.hint 99).mode=1:=kr
theorem aEu:(env.hint 100).mode=1:=kr
theorem oF:(env.hint 101).mode=0:=kr
theorem lZ:(env.hint 102).mode=1:=kr
theorem xY:(env.hint 103).mode=1:=kr
theorem BS:(env.hint 104).mode=0:=kr
theorem lE:(env.hint 105).mode=0:=kr
theorem EK:(env.hint 106).mode=1:=kr
theorem j4:(env.hint 107).mode=2:=kr
theorem EG:(env.hint 108).mode=1:=kr
theorem yL:(env.hint 109).mode=1:=kr
theorem VD:(env.hint 110).mode=2:=kr
theorem HM:(env.hint 111).mode=1:=kr
theorem EL:(env.hint 112).mode=1:=kr
theorem JO:(env.hint 113).mode=1:=kr
theorem BR:(env.hint 114).mode=1:=kr
theorem HB:(env.hint 115).mode=1:=kr
theorem HW:(env.hint 116).mode=1:=kr
theorem RV:(env.hint 117).mode=2:=kr
theorem rN:(env.hint 118).mode=2:=kr
theorem R2:(env.hint 119).mode=0:=kr
theorem n9:(env.hint 120).mode=0:=kr
theorem pR:(env.hint 121).mode=1:=kr
theorem zA:(env.hint 122).mode=0:=kr
theorem WB:(env.hint 123).mode=2:=kr
theorem zM:(env.hint 124).mode=1:=kr
theorem RE:(env.hint 125).mode=2:=kr
theorem wG:(env.hint 126).mode=1:=kr
theorem NA:(env.hint 129).mode=1:=kr
theorem aAt:(env.hint 137).mode=1:=kr
theorem u9:(env.hint 139).mode=1:=kr
theorem VQ:(env.hint 146).mode=0:=kr
theorem K6:(env.hint 147).mode=2:=kr
theorem QQ:(env.hint 148).mode=1:=kr
theorem HG:(env.hint 149).mode=1:=kr
theorem rO:(env.hint 150).mode=0:=kr
theorem iR:(env.hint 151).mode=0:=kr
theorem kI:(env.hint 152).mode=0:=kr
theorem iS:(env.hint 153).mode=0:=kr
theorem jL:(env.hint 154).mode=0:=kr
theorem i8:(env.hint 155).mode=0:=kr
theorem fC:(env.hint 156).mode=0:=kr
theorem iG:(env.hint 157).mode=0:=kr
theorem j2:(env.hint 158).mode=0:=kr
theorem BQ:(env.hint 159).mode=1:=kr
theorem zT:(env.hint 160).mode=1:=kr
theorem RC:(env.hint 161).mode=2:=kr
theorem RF:(env.hint 162).mode=1:=kr
theorem HX:(env.hint 163).mode=1:=kr
theorem HC:(env.hint 164).mode=1:=kr
theorem aAm:(env.hint 165).mode=1:=kr
theorem qW:(env.hint 166).mode=1:=kr
theorem lY:(env.hint 167).mode=0:=kr
theorem zU:(env.hint 168).mode=1:=kr
theorem y8:(env.hint 169).mode=1:=kr
theorem VV:(env.hint 170).mode=1:=kr
theorem V0:(env.hint 171).mode=1:=kr
theorem DJ:(env.hint 180).mode=2:=kr
theorem CZ:(env.hint 181).mode=2:=kr
theorem DU:(env.hint 182).mode=1:=kr
theorem NW:(env.hint 183).mode=2:=kr
theorem F7:(env.hint 184).mode=0:=kr
theorem PC:(env.hint 185).mode=1:=kr
theorem j5:(env.hint 186).mode=2:=kr
theorem aCx:(env.hint 188).mode=1:=kr
theorem aCb:(env.hint 189).mode=1:=kr
theorem BP:(env.hint 193).mode=2:=kr
theorem kH:(env.hint 194).mode=0:=kr
theorem qZ:(env.hint 195).mode=1:=kr
theorem hJ:(env.hint 197).mode=0:=kr
theorem lK:(env.hint 198).mode=0:=kr
theorem P2:(env.hint 199).mode=1:=kr
theorem JW:(env.hint 200).mode=1:=kr
theorem HR:(env.hint 201).mode=1:=kr
theorem mB:(env.hint 202).mode=1:=kr
theorem iT:(env.hint 203).mode=0:=kr
theorem Q6:(env.hint 206).mode=2:=kr
theorem aB7:(env.hint 207).mode=1:=kr
theorem G5:(env.hint 208).mode=1:=kr
theorem RS:(env.hint 209).mode=1:=kr
theorem VZ:(env.hint 215).mode=1:=kr
theorem lO:(env.hint 216).mode=0:=kr
theorem aAO:(env.hint 217).mode=1:=kr
theorem pC:(env.hint 218).mode=1:=kr
theorem K9:(env.hint 225).mode=2:=kr
theorem o8:(env.hint 231).mode=1:=kr
theorem mQ:(env.hint 232).mode=1:=kr
theorem mT:(env.hint 233).mode=1:=kr
theorem MD0:type_of% (AI @HD (AI @wJ (AI @EJ (AI @eL (AI @E5 (AI @tB (AI @B9 (AI @vI (AI @CH (AI @EI (AI @yS (AI @JH (AI @nC (AI @wD (AI @iU (AI @dS (AI @NV (AI @JL (AI @B5 (AI @ZP (AI @M2 (AI @NH (AI @R1 (AI @J4 (AI @y4 (AI @RR (AI @M8 (AI @HN (AI @V5 (AI @tT (AI @ON (AI @FU (AI @HL (AI @J3 (AI @HI (AI @FO (AI @fE (AI @HJ (AI @fD (AI @qT (AI @fH (AI @BO (AI @z6 (AI @vP (AI @HV (AI @wV (AI @JG (AI @GS (AI @EO (AI @LD (AI @PP (AI @mP (AI @tC (AI @zG (AI @OM (AI @G7 (AI @aAN (AI @K3 (AI @V3 @SD))))))))))))))))))))))))))))))))))))))))))))))))))))))))))):=
 ⟨@HD,@wJ,@EJ,@eL,@E5,@tB,@B9,@vI,@CH,@EI,@yS,@JH,@nC,@wD,@iU,@dS,@NV,@JL,@B5,@ZP,@M2,@NH,@R1,@J4,@y4,@RR,@M8,@HN,@V5,@tT,@ON,@FU,@HL,@J3,@HI,@FO,@fE,@HJ,@fD,@qT,@fH,@BO,@z6,@vP,@HV,@wV,@JG,@GS,@EO,@LD,@PP,@mP,@tC,@zG,@OM,@G7,@aAN,@K3,@V3,@SD⟩
theorem MD1:type_of% (AI @YR (AI @OP (AI @qN (AI @RU (AI @WJ (AI @KL (AI @HH (AI @aEu (AI @oF (AI @lZ (AI @xY (AI @BS (AI @lE (AI @EK (AI @j4 (AI @EG (AI @yL (AI @VD (AI @HM (AI @EL (AI @JO (AI @BR (AI @HB (AI @HW (AI @RV (AI @rN (AI @R2 (AI @n9 (AI @pR (AI @zA (AI @WB (AI @zM (AI @RE (AI @wG (AI @NA (AI @aAt (AI @u9 (AI @VQ (AI @K6 (AI @QQ (AI @HG (AI @rO (AI @iR (AI @kI (AI @iS (AI @jL (AI @i8 (AI @fC (AI @iG (AI @j2 (AI @BQ (AI @zT (AI @RC (AI @RF (AI @HX (AI @HC (AI @aAm (AI @qW (AI @lY @zU))))))))))))))))))))))))))))))))))))))))))))))))))))))))))):=
 ⟨@YR,@OP,@qN,@RU,@WJ,@KL,@HH,@aEu,@oF,@lZ,@xY,@BS,@lE,@EK,@j4,@EG,@yL,@VD,@HM,@EL,@JO,@BR,@HB,@HW,@RV,@rN,@R2,@n9,@pR,@zA,@WB,@zM,@RE,@wG,@NA,@aAt,@u9,@VQ,@K6,@QQ,@HG,@rO,@iR,@kI,@iS,@jL,@i8,@fC,@iG,@j2,@BQ,@zT,@RC,@RF,@HX,@HC,@aAm,@qW,@lY,@zU⟩
theorem MD2:type_of% (AI @y8 (AI @VV (AI @V0 (AI @DJ (AI @CZ (AI @DU (AI @NW (AI @F7 (AI @PC (AI @j5 (AI @aCx (AI @aCb (AI @BP (AI @kH (AI @qZ (AI @hJ (AI @lK (AI @P2 (AI @JW (AI @HR (AI @mB (AI @iT (AI @Q6 (AI @aB7 (AI @G5 (AI @RS (AI @VZ (AI @lO (AI @aAO (AI @pC (AI @K9 (AI @o8 (AI @mQ @mT))))))))))))))))))))))))))))))))):=
 ⟨@y8,@VV,@V0,@DJ,@CZ,@DU,@NW,@F7,@PC,@j5,@aCx,@aCb,@BP,@kH,@qZ,@hJ,@lK,@P2,@JW,@HR,@mB,@iT,@Q6,@aB7,@G5,@RS,@VZ,@lO,@aAO,@pC,@K9,@o8,@mQ,@mT⟩
theorem MD:type_of% (AI @MD0 (AI @MD1 @MD2)):=
 ⟨@MD0,@MD1,@MD2⟩
end Ev
end Go.Proofs.YthlkcebdfbjdoaaGreatDoor
