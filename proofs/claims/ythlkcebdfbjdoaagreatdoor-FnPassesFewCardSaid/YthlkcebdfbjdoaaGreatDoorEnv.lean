/-
  What the evaluator is told of each function, and each function's code as an equation. Written by a program.
-/
import Derived.Test.YthlkcebdfbjdoaaGreatDoorEvPrim
import Derived.Test.YthlkcebdfbjdoaaGreatDoorChecked
set_option linter.unusedSimpArgs false
set_option linter.unusedVariables false
set_option maxRecDepth 100000
namespace Go.Proofs.YthlkcebdfbjdoaaGreatDoor
namespace Ev
def aQ:Nat->Nat->List Bool
 |0,_=>[]
 |n+1,k=>(k % 2==1)::aQ n (k/2)
noncomputable def aXD:List (Nat×Hint):=[
 (4,{ mode:=1,exp:=false,thaw:=[],live:=aQ 0 0}),
 (8,{ mode:=2,exp:=false,thaw:=[],live:=aQ 0 0}),
 (9,{ mode:=1,exp:=false,thaw:=[],live:=aQ 0 0}),
 (10,{ mode:=3,exp:=true,thaw:=[],live:=aQ 68 1000796099450352}),
 (11,{ mode:=1,exp:=false,thaw:=[],live:=aQ 0 0}),
 (13,{ mode:=2,exp:=false,thaw:=[],live:=aQ 0 0}),
 (14,{ mode:=1,exp:=false,thaw:=[],live:=aQ 0 0}),
 (20,{ mode:=2,exp:=false,thaw:=[],live:=aQ 0 0}),
 (21,{ mode:=1,exp:=false,thaw:=[],live:=aQ 41 469762264}),
 (22,{ mode:=1,exp:=false,thaw:=[],live:=aQ 0 0}),
 (23,{ mode:=1,exp:=false,thaw:=[],live:=aQ 65 1972248982323214}),
 (24,{ mode:=2,exp:=false,thaw:=(W8 (W4 [2002])),live:=aQ 48 3787457267}),
 (25,{ mode:=3,exp:=true,thaw:=[],live:=aQ 47 49214}),
 (26,{ mode:=3,exp:=true,thaw:=[0,0,0,2],live:=aQ 31 12302}),
 (27,{ mode:=0,exp:=false,thaw:=[],live:=aQ 0 0}),
 (28,{ mode:=0,exp:=true,thaw:=[],live:=aQ 0 0}),
 (29,{ mode:=1,exp:=false,thaw:=[],live:=aQ 0 0}),
 (30,{ mode:=2,exp:=false,thaw:=[],live:=aQ 72 8176}),
 (31,{ mode:=1,exp:=false,thaw:=[],live:=aQ 48 1496}),
 (32,{ mode:=1,exp:=false,thaw:=[],live:=aQ 0 0}),
 (33,{ mode:=2,exp:=false,thaw:=(W4 (W2 (W1 [2]))),live:=aQ 64 15032615102}),
 (34,{ mode:=1,exp:=false,thaw:=[],live:=aQ 0 0}),
 (35,{ mode:=2,exp:=true,thaw:=[],live:=aQ 0 0}),
 (37,{ mode:=0,exp:=false,thaw:=[],live:=aQ 0 0}),
 (40,{ mode:=1,exp:=false,thaw:=[],live:=aQ 44 30}),
 (45,{ mode:=0,exp:=false,thaw:=[],live:=aQ 0 0}),
 (46,{ mode:=0,exp:=false,thaw:=(W32 (W32 (W16 (W8 (W4 (W1 [1002])))))),live:=aQ 0 0}),
 (47,{ mode:=0,exp:=false,thaw:=[],live:=aQ 0 0}),
 (48,{ mode:=0,exp:=false,thaw:=[],live:=aQ 0 0}),
 (49,{ mode:=2,exp:=false,thaw:=[],live:=aQ 0 0}),
 (50,{ mode:=0,exp:=false,thaw:=[],live:=aQ 0 0}),
 (51,{ mode:=1,exp:=false,thaw:=[],live:=aQ 0 0}),
 (52,{ mode:=1,exp:=false,thaw:=[],live:=aQ 0 0}),
 (53,{ mode:=2,exp:=false,thaw:=[0,0,0,2],live:=aQ 17 45}),
 (54,{ mode:=1,exp:=false,thaw:=[],live:=aQ 0 0}),
 (55,{ mode:=1,exp:=false,thaw:=[],live:=aQ 0 0}),
 (56,{ mode:=1,exp:=false,thaw:=[],live:=aQ 0 0}),
 (57,{ mode:=1,exp:=false,thaw:=[],live:=aQ 0 0}),
 (58,{ mode:=0,exp:=false,thaw:=[],live:=aQ 0 0}),
 (59,{ mode:=2,exp:=false,thaw:=[],live:=aQ 0 0}),
 (60,{ mode:=0,exp:=false,thaw:=[],live:=aQ 14 33}),
 (61,{ mode:=1,exp:=false,thaw:=[],live:=aQ 18 460}),
 (62,{ mode:=1,exp:=false,thaw:=[],live:=aQ 0 0}),
 (63,{ mode:=1,exp:=false,thaw:=[],live:=aQ 0 0}),
 (64,{ mode:=2,exp:=false,thaw:=[],live:=aQ 32 60}),
 (65,{ mode:=2,exp:=false,thaw:=[],live:=aQ 47 62}),
 (66,{ mode:=2,exp:=false,thaw:=[],live:=aQ 47 498}),
 (67,{ mode:=0,exp:=false,thaw:=[],live:=aQ 47 115}),
 (68,{ mode:=1,exp:=false,thaw:=[],live:=aQ 0 0}),
 (69,{ mode:=2,exp:=false,thaw:=[],live:=aQ 91 7883223496394222}),
 (70,{ mode:=2,exp:=false,thaw:=[],live:=aQ 45 939524230}),
 (71,{ mode:=1,exp:=false,thaw:=[],live:=aQ 0 0}),
 (72,{ mode:=0,exp:=false,thaw:=[],live:=aQ 0 0}),
 (73,{ mode:=2,exp:=false,thaw:=[],live:=aQ 72 413}),
 (74,{ mode:=0,exp:=false,thaw:=[],live:=aQ 0 0}),
 (80,{ mode:=1,exp:=false,thaw:=[],live:=aQ 0 0}),
 (81,{ mode:=1,exp:=false,thaw:=[],live:=aQ 31 197}),
 (82,{ mode:=2,exp:=false,thaw:=[],live:=aQ 18 29}),
 (91,{ mode:=1,exp:=false,thaw:=[],live:=aQ 0 0}),
 (92,{ mode:=0,exp:=false,thaw:=(W32 (W32 (W16 (W2 (W1 [1002,0,0,0,0,0,0,0,0,0,0,0,0,0,0,0,0,0,0,0,0,0,1002]))))),live:=aQ 114 112}),
 (93,{ mode:=0,exp:=false,thaw:=[],live:=aQ 36 29}),
 (94,{ mode:=0,exp:=true,thaw:=(W32 (W4 (W1 [1002]))),live:=aQ 49 4037}),
 (95,{ mode:=2,exp:=true,thaw:=(W16 (W8 (W4 [1002]))),live:=aQ 32 30}),
 (96,{ mode:=2,exp:=false,thaw:=[],live:=aQ 0 0}),
 (97,{ mode:=0,exp:=false,thaw:=[],live:=aQ 0 0}),
 (98,{ mode:=2,exp:=false,thaw:=[],live:=aQ 71 2044}),
 (99,{ mode:=1,exp:=false,thaw:=[],live:=aQ 35 6291570}),
 (100,{ mode:=1,exp:=false,thaw:=[],live:=aQ 0 0}),
 (101,{ mode:=0,exp:=false,thaw:=[],live:=aQ 0 0}),
 (102,{ mode:=1,exp:=false,thaw:=[],live:=aQ 19 403}),
 (103,{ mode:=1,exp:=false,thaw:=[],live:=aQ 0 0}),
 (104,{ mode:=0,exp:=false,thaw:=[],live:=aQ 0 0}),
 (105,{ mode:=0,exp:=false,thaw:=[],live:=aQ 148 3103}),
 (106,{ mode:=1,exp:=false,thaw:=[],live:=aQ 0 0}),
 (107,{ mode:=2,exp:=false,thaw:=[],live:=aQ 0 0}),
 (108,{ mode:=1,exp:=false,thaw:=[],live:=aQ 0 0}),
 (109,{ mode:=1,exp:=false,thaw:=[],live:=aQ 0 0}),
 (110,{ mode:=2,exp:=false,thaw:=[],live:=aQ 69 254}),
 (111,{ mode:=1,exp:=false,thaw:=[],live:=aQ 0 0}),
 (112,{ mode:=1,exp:=false,thaw:=[],live:=aQ 0 0}),
 (113,{ mode:=1,exp:=false,thaw:=[],live:=aQ 18 51}),
 (114,{ mode:=1,exp:=false,thaw:=[],live:=aQ 27 115}),
 (115,{ mode:=1,exp:=false,thaw:=[],live:=aQ 0 0}),
 (116,{ mode:=1,exp:=false,thaw:=[],live:=aQ 0 0}),
 (117,{ mode:=2,exp:=false,thaw:=[],live:=aQ 54 240553558140}),
 (118,{ mode:=2,exp:=false,thaw:=(W8 (W4 (W1 [2,0,2]))),live:=aQ 77 30064836366}),
 (119,{ mode:=0,exp:=false,thaw:=[],live:=aQ 0 0}),
 (120,{ mode:=0,exp:=false,thaw:=[],live:=aQ 0 0}),
 (121,{ mode:=1,exp:=false,thaw:=(W16 (W2 [2])),live:=aQ 63 61632781151244}),
 (122,{ mode:=0,exp:=false,thaw:=[],live:=aQ 0 0}),
 (123,{ mode:=2,exp:=false,thaw:=[],live:=aQ 36 243}),
 (124,{ mode:=1,exp:=false,thaw:=[],live:=aQ 14 29}),
 (125,{ mode:=2,exp:=false,thaw:=[],live:=aQ 36 124}),
 (126,{ mode:=1,exp:=false,thaw:=[],live:=aQ 54 94}),
 (129,{ mode:=1,exp:=false,thaw:=[],live:=aQ 0 0}),
 (137,{ mode:=1,exp:=false,thaw:=[],live:=aQ 0 0}),
 (139,{ mode:=1,exp:=false,thaw:=[],live:=aQ 107 65534}),
 (146,{ mode:=0,exp:=false,thaw:=[],live:=aQ 49 964}),
 (147,{ mode:=2,exp:=false,thaw:=[],live:=aQ 44 446}),
 (148,{ mode:=1,exp:=false,thaw:=[],live:=aQ 15 51}),
 (149,{ mode:=1,exp:=false,thaw:=[],live:=aQ 26 98323}),
 (150,{ mode:=0,exp:=false,thaw:=[],live:=aQ 0 0}),
 (151,{ mode:=0,exp:=false,thaw:=[],live:=aQ 53 783}),
 (152,{ mode:=0,exp:=false,thaw:=[],live:=aQ 60 7945}),
 (153,{ mode:=0,exp:=false,thaw:=[],live:=aQ 67 3843}),
 (154,{ mode:=0,exp:=false,thaw:=[],live:=aQ 0 0}),
 (155,{ mode:=0,exp:=false,thaw:=[],live:=aQ 34 769}),
 (156,{ mode:=0,exp:=false,thaw:=[],live:=aQ 141 7951}),
 (157,{ mode:=0,exp:=false,thaw:=[],live:=aQ 90 7187}),
 (158,{ mode:=0,exp:=false,thaw:=[],live:=aQ 178 15379}),
 (159,{ mode:=1,exp:=false,thaw:=[],live:=aQ 0 0}),
 (160,{ mode:=1,exp:=false,thaw:=[],live:=aQ 0 0}),
 (161,{ mode:=2,exp:=false,thaw:=[],live:=aQ 43 126}),
 (162,{ mode:=1,exp:=false,thaw:=[],live:=aQ 0 0}),
 (163,{ mode:=1,exp:=false,thaw:=[],live:=aQ 0 0}),
 (164,{ mode:=1,exp:=false,thaw:=[],live:=aQ 0 0}),
 (165,{ mode:=1,exp:=false,thaw:=[],live:=aQ 21 206}),
 (166,{ mode:=1,exp:=false,thaw:=[],live:=aQ 0 0}),
 (167,{ mode:=0,exp:=false,thaw:=(W8 (W2 [2])),live:=aQ 50 118331}),
 (168,{ mode:=1,exp:=false,thaw:=[0,0,0,2],live:=aQ 32 29}),
 (169,{ mode:=1,exp:=false,thaw:=[],live:=aQ 27 60}),
 (170,{ mode:=1,exp:=false,thaw:=[],live:=aQ 67 125}),
 (171,{ mode:=1,exp:=false,thaw:=[],live:=aQ 31 13}),
 (180,{ mode:=2,exp:=false,thaw:=[],live:=aQ 41 62}),
 (181,{ mode:=2,exp:=false,thaw:=[],live:=aQ 48 8142}),
 (182,{ mode:=1,exp:=false,thaw:=[],live:=aQ 64 196}),
 (183,{ mode:=2,exp:=false,thaw:=[],live:=aQ 33 115}),
 (184,{ mode:=0,exp:=false,thaw:=[],live:=aQ 35 115}),
 (185,{ mode:=1,exp:=false,thaw:=[],live:=aQ 25 115}),
 (186,{ mode:=2,exp:=false,thaw:=[],live:=aQ 64 31775}),
 (188,{ mode:=1,exp:=false,thaw:=[],live:=aQ 0 0}),
 (189,{ mode:=1,exp:=false,thaw:=[],live:=aQ 0 0}),
 (193,{ mode:=2,exp:=false,thaw:=[],live:=aQ 47 2038}),
 (194,{ mode:=0,exp:=false,thaw:=[],live:=aQ 82 1053}),
 (195,{ mode:=1,exp:=false,thaw:=[],live:=aQ 0 0}),
 (197,{ mode:=0,exp:=false,thaw:=[],live:=aQ 0 0}),
 (198,{ mode:=0,exp:=false,thaw:=[],live:=aQ 0 0}),
 (199,{ mode:=1,exp:=false,thaw:=[],live:=aQ 18 51}),
 (200,{ mode:=1,exp:=false,thaw:=[],live:=aQ 23 13}),
 (201,{ mode:=1,exp:=false,thaw:=[],live:=aQ 22 61}),
 (202,{ mode:=1,exp:=false,thaw:=[],live:=aQ 0 0}),
 (203,{ mode:=0,exp:=false,thaw:=[],live:=aQ 28 13}),
 (206,{ mode:=2,exp:=false,thaw:=[],live:=aQ 62 32542}),
 (207,{ mode:=1,exp:=false,thaw:=[],live:=aQ 0 0}),
 (208,{ mode:=1,exp:=false,thaw:=[],live:=aQ 36 455}),
 (209,{ mode:=1,exp:=false,thaw:=[],live:=aQ 18 115}),
 (215,{ mode:=1,exp:=false,thaw:=[],live:=aQ 52 798}),
 (216,{ mode:=0,exp:=false,thaw:=[],live:=aQ 0 0}),
 (217,{ mode:=1,exp:=false,thaw:=[],live:=aQ 0 0}),
 (218,{ mode:=1,exp:=false,thaw:=[],live:=aQ 0 0}),
 (225,{ mode:=2,exp:=false,thaw:=[],live:=aQ 79 3852}),
 (231,{ mode:=1,exp:=false,thaw:=[],live:=aQ 0 0}),
 (232,{ mode:=1,exp:=false,thaw:=[],live:=aQ 0 0}),
 (233,{ mode:=1,exp:=false,thaw:=[],live:=aQ 0 0})]
noncomputable def aHF:List (TypeId×Nat):=[(218,3)]
noncomputable def aKX:List (Nat×(List A->H->Option (A×H))):=[(27,DI 60 29),(58,L9 29),(231,gCtz)]
noncomputable def env:Env:={ P:=Tryz.prog,hint:=fun f=>(aXD.lookup f).getD {},eqs:=aHF,prim:=fun f=>aKX.lookup f}
theorem MX:(env.hint 4).mode=1:=kr
theorem wP:(env.hint 8).mode=2:=kr
theorem EZ:(env.hint 9).mode=1:=kr
theorem jI:(env.hint 10).mode=3:=kr
theorem EL:(env.hint 11).mode=1:=kr
theorem tH:(env.hint 13).mode=2:=kr
theorem CD:(env.hint 14).mode=1:=kr
theorem vV:(env.hint 20).mode=2:=kr
theorem CJ:(env.hint 21).mode=1:=kr
theorem FV:(env.hint 22).mode=1:=kr
theorem zP:(env.hint 23).mode=1:=kr
theorem J3:(env.hint 24).mode=2:=kr
theorem nB:(env.hint 25).mode=3:=kr
theorem wK:(env.hint 26).mode=3:=kr
theorem iV:(env.hint 27).mode=0:=kr
theorem dT:(env.hint 28).mode=0:=kr
theorem M4:(env.hint 29).mode=1:=kr
theorem L4:(env.hint 30).mode=2:=kr
theorem B9:(env.hint 31).mode=1:=kr
theorem ZB:(env.hint 32).mode=1:=kr
theorem NX:(env.hint 33).mode=2:=kr
theorem NI:(env.hint 34).mode=1:=kr
theorem RB:(env.hint 35).mode=2:=kr
theorem LQ:(env.hint 37).mode=0:=kr
theorem zG:(env.hint 40).mode=1:=kr
theorem SV:(env.hint 45).mode=0:=kr
theorem PK:(env.hint 46).mode=0:=kr
theorem HL:(env.hint 47).mode=0:=kr
theorem VO:(env.hint 48).mode=0:=kr
theorem uA:(env.hint 49).mode=2:=kr
theorem O0:(env.hint 50).mode=0:=kr
theorem FQ:(env.hint 51).mode=1:=kr
theorem HJ:(env.hint 52).mode=1:=kr
theorem LK:(env.hint 53).mode=2:=kr
theorem HZ:(env.hint 54).mode=1:=kr
theorem EV:(env.hint 55).mode=1:=kr
theorem fE:(env.hint 56).mode=1:=kr
theorem H1:(env.hint 57).mode=1:=kr
theorem fD:(env.hint 58).mode=0:=kr
theorem qU:(env.hint 59).mode=2:=kr
theorem fL:(env.hint 60).mode=0:=kr
theorem AN:(env.hint 61).mode=1:=kr
theorem BE:(env.hint 62).mode=1:=kr
theorem vO:(env.hint 63).mode=1:=kr
theorem HD:(env.hint 64).mode=2:=kr
theorem wR:(env.hint 65).mode=2:=kr
theorem L3:(env.hint 66).mode=2:=kr
theorem GE:(env.hint 67).mode=0:=kr
theorem FB:(env.hint 68).mode=1:=kr
theorem MK:(env.hint 69).mode=2:=kr
theorem QF:(env.hint 70).mode=2:=kr
theorem mX:(env.hint 71).mode=1:=kr
theorem tG:(env.hint 72).mode=0:=kr
theorem y8:(env.hint 73).mode=2:=kr
theorem NK:(env.hint 74).mode=0:=kr
theorem HC:(env.hint 80).mode=1:=kr
theorem YX:(env.hint 81).mode=1:=kr
theorem K3:(env.hint 82).mode=2:=kr
theorem WY:(env.hint 91).mode=1:=kr
theorem QY:(env.hint 92).mode=0:=kr
theorem aAT:(env.hint 93).mode=0:=kr
theorem OB:(env.hint 94).mode=0:=kr
theorem rB:(env.hint 95).mode=2:=kr
theorem RZ:(env.hint 96).mode=2:=kr
theorem VM:(env.hint 97).mode=0:=kr
theorem MS:(env.hint 98).mode=2:=kr
theorem HP:(env.hint 99).mode=1:=kr
theorem aFL:(env.hint 100).mode=1:=kr
theorem oK:(env.hint 101).mode=0:=kr
theorem mA:(env.hint 102).mode=1:=kr
theorem yE:(env.hint 103).mode=1:=kr
theorem AT:(env.hint 104).mode=0:=kr
theorem lA:(env.hint 105).mode=0:=kr
theorem ER:(env.hint 106).mode=1:=kr
theorem j6:(env.hint 107).mode=2:=kr
theorem FW:(env.hint 108).mode=1:=kr
theorem y3:(env.hint 109).mode=1:=kr
theorem VR:(env.hint 110).mode=2:=kr
theorem HO:(env.hint 111).mode=1:=kr
theorem F0:(env.hint 112).mode=1:=kr
theorem LU:(env.hint 113).mode=1:=kr
theorem AZ:(env.hint 114).mode=1:=kr
theorem HT:(env.hint 115).mode=1:=kr
theorem HU:(env.hint 116).mode=1:=kr
theorem QP:(env.hint 117).mode=2:=kr
theorem rV:(env.hint 118).mode=2:=kr
theorem QR:(env.hint 119).mode=0:=kr
theorem oY:(env.hint 120).mode=0:=kr
theorem qA:(env.hint 121).mode=1:=kr
theorem yT:(env.hint 122).mode=0:=kr
theorem WU:(env.hint 123).mode=2:=kr
theorem AX:(env.hint 124).mode=1:=kr
theorem RJ:(env.hint 125).mode=2:=kr
theorem wY:(env.hint 126).mode=1:=kr
theorem OP:(env.hint 129).mode=1:=kr
theorem aA1:(env.hint 137).mode=1:=kr
theorem uQ:(env.hint 139).mode=1:=kr
theorem W6:(env.hint 146).mode=0:=kr
theorem ML:(env.hint 147).mode=2:=kr
theorem RI:(env.hint 148).mode=1:=kr
theorem HH:(env.hint 149).mode=1:=kr
theorem rS:(env.hint 150).mode=0:=kr
theorem iR:(env.hint 151).mode=0:=kr
theorem kK:(env.hint 152).mode=0:=kr
theorem iS:(env.hint 153).mode=0:=kr
theorem jO:(env.hint 154).mode=0:=kr
theorem jA:(env.hint 155).mode=0:=kr
theorem fB:(env.hint 156).mode=0:=kr
theorem hU:(env.hint 157).mode=0:=kr
theorem j5:(env.hint 158).mode=0:=kr
theorem AG:(env.hint 159).mode=1:=kr
theorem BF:(env.hint 160).mode=1:=kr
theorem QV:(env.hint 161).mode=2:=kr
theorem RX:(env.hint 162).mode=1:=kr
theorem H2:(env.hint 163).mode=1:=kr
theorem HE:(env.hint 164).mode=1:=kr
theorem YJ:(env.hint 165).mode=1:=kr
theorem qR:(env.hint 166).mode=1:=kr
theorem lY:(env.hint 167).mode=0:=kr
theorem BA:(env.hint 168).mode=1:=kr
theorem zE:(env.hint 169).mode=1:=kr
theorem W9:(env.hint 170).mode=1:=kr
theorem WH:(env.hint 171).mode=1:=kr
theorem D4:(env.hint 180).mode=2:=kr
theorem CU:(env.hint 181).mode=2:=kr
theorem DG:(env.hint 182).mode=1:=kr
theorem OD:(env.hint 183).mode=2:=kr
theorem G4:(env.hint 184).mode=0:=kr
theorem M6:(env.hint 185).mode=1:=kr
theorem j8:(env.hint 186).mode=2:=kr
theorem aC2:(env.hint 188).mode=1:=kr
theorem aCW:(env.hint 189).mode=1:=kr
theorem BK:(env.hint 193).mode=2:=kr
theorem kJ:(env.hint 194).mode=0:=kr
theorem qW:(env.hint 195).mode=1:=kr
theorem iB:(env.hint 197).mode=0:=kr
theorem lT:(env.hint 198).mode=0:=kr
theorem PR:(env.hint 199).mode=1:=kr
theorem JZ:(env.hint 200).mode=1:=kr
theorem HK:(env.hint 201).mode=1:=kr
theorem mB:(env.hint 202).mode=1:=kr
theorem iU:(env.hint 203).mode=0:=kr
theorem QO:(env.hint 206).mode=2:=kr
theorem aCA:(env.hint 207).mode=1:=kr
theorem G0:(env.hint 208).mode=1:=kr
theorem Q2:(env.hint 209).mode=1:=kr
theorem WZ:(env.hint 215).mode=1:=kr
theorem lN:(env.hint 216).mode=0:=kr
theorem aAa:(env.hint 217).mode=1:=kr
theorem pF:(env.hint 218).mode=1:=kr
theorem LP:(env.hint 225).mode=2:=kr
theorem n9:(env.hint 231).mode=1:=kr
theorem mM:(env.hint 232).mode=1:=kr
theorem mQ:(env.hint 233).mode=1:=kr
theorem MD0:type_of% (AI @MX (AI @wP (AI @EZ (AI @jI (AI @EL (AI @tH (AI @CD (AI @vV (AI @CJ (AI @FV (AI @zP (AI @J3 (AI @nB (AI @wK (AI @iV (AI @dT (AI @M4 (AI @L4 (AI @B9 (AI @ZB (AI @NX (AI @NI (AI @RB (AI @LQ (AI @zG (AI @SV (AI @PK (AI @HL (AI @VO (AI @uA (AI @O0 (AI @FQ (AI @HJ (AI @LK (AI @HZ (AI @EV (AI @fE (AI @H1 (AI @fD (AI @qU (AI @fL (AI @AN (AI @BE (AI @vO (AI @HD (AI @wR (AI @L3 (AI @GE (AI @FB (AI @MK (AI @QF (AI @mX (AI @tG (AI @y8 (AI @NK (AI @HC (AI @YX (AI @K3 (AI @WY @QY))))))))))))))))))))))))))))))))))))))))))))))))))))))))))):=
 ⟨@MX,@wP,@EZ,@jI,@EL,@tH,@CD,@vV,@CJ,@FV,@zP,@J3,@nB,@wK,@iV,@dT,@M4,@L4,@B9,@ZB,@NX,@NI,@RB,@LQ,@zG,@SV,@PK,@HL,@VO,@uA,@O0,@FQ,@HJ,@LK,@HZ,@EV,@fE,@H1,@fD,@qU,@fL,@AN,@BE,@vO,@HD,@wR,@L3,@GE,@FB,@MK,@QF,@mX,@tG,@y8,@NK,@HC,@YX,@K3,@WY,@QY⟩
theorem MD1:type_of% (AI @aAT (AI @OB (AI @rB (AI @RZ (AI @VM (AI @MS (AI @HP (AI @aFL (AI @oK (AI @mA (AI @yE (AI @AT (AI @lA (AI @ER (AI @j6 (AI @FW (AI @y3 (AI @VR (AI @HO (AI @F0 (AI @LU (AI @AZ (AI @HT (AI @HU (AI @QP (AI @rV (AI @QR (AI @oY (AI @qA (AI @yT (AI @WU (AI @AX (AI @RJ (AI @wY (AI @OP (AI @aA1 (AI @uQ (AI @W6 (AI @ML (AI @RI (AI @HH (AI @rS (AI @iR (AI @kK (AI @iS (AI @jO (AI @jA (AI @fB (AI @hU (AI @j5 (AI @AG (AI @BF (AI @QV (AI @RX (AI @H2 (AI @HE (AI @YJ (AI @qR (AI @lY @BA))))))))))))))))))))))))))))))))))))))))))))))))))))))))))):=
 ⟨@aAT,@OB,@rB,@RZ,@VM,@MS,@HP,@aFL,@oK,@mA,@yE,@AT,@lA,@ER,@j6,@FW,@y3,@VR,@HO,@F0,@LU,@AZ,@HT,@HU,@QP,@rV,@QR,@oY,@qA,@yT,@WU,@AX,@RJ,@wY,@OP,@aA1,@uQ,@W6,@ML,@RI,@HH,@rS,@iR,@kK,@iS,@jO,@jA,@fB,@hU,@j5,@AG,@BF,@QV,@RX,@H2,@HE,@YJ,@qR,@lY,@BA⟩
theorem MD2:type_of% (AI @zE (AI @W9 (AI @WH (AI @D4 (AI @CU (AI @DG (AI @OD (AI @G4 (AI @M6 (AI @j8 (AI @aC2 (AI @aCW (AI @BK (AI @kJ (AI @qW (AI @iB (AI @lT (AI @PR (AI @JZ (AI @HK (AI @mB (AI @iU (AI @QO (AI @aCA (AI @G0 (AI @Q2 (AI @WZ (AI @lN (AI @aAa (AI @pF (AI @LP (AI @n9 (AI @mM @mQ))))))))))))))))))))))))))))))))):=
 ⟨@zE,@W9,@WH,@D4,@CU,@DG,@OD,@G4,@M6,@j8,@aC2,@aCW,@BK,@kJ,@qW,@iB,@lT,@PR,@JZ,@HK,@mB,@iU,@QO,@aCA,@G0,@Q2,@WZ,@lN,@aAa,@pF,@LP,@n9,@mM,@mQ⟩
theorem MD:type_of% (AI @MD0 (AI @MD1 @MD2)):=
 ⟨@MD0,@MD1,@MD2⟩
end Ev
end Go.Proofs.YthlkcebdfbjdoaaGreatDoor
