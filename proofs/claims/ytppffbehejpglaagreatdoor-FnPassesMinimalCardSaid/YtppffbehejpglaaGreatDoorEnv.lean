/-
  What the evaluator is told of each function, and each function's code as an equation. Written by a program.
-/
import Derived.Test.YtppffbehejpglaaGreatDoorEvPrim
import Derived.Test.YtppffbehejpglaaGreatDoorChecked
set_option linter.unusedSimpArgs false
set_option linter.unusedVariables false
set_option maxRecDepth 100000
namespace Go.Proofs.YtppffbehejpglaaGreatDoor
namespace Ev
def aQ:Nat->Nat->List Bool
 |0,_=>[]
 |n+1,k=>(k % 2==1)::aQ n (k/2)
noncomputable def aXD:List (Nat×Hint):=[
 (4,{ mode:=1,exp:=false,thaw:=[],live:=aQ 0 0}),
 (5,{ mode:=2,exp:=false,thaw:=[],live:=aQ 0 0}),
 (6,{ mode:=1,exp:=false,thaw:=[],live:=aQ 0 0}),
 (7,{ mode:=3,exp:=true,thaw:=[],live:=aQ 68 1000796099450352}),
 (8,{ mode:=1,exp:=false,thaw:=[],live:=aQ 0 0}),
 (10,{ mode:=2,exp:=false,thaw:=[],live:=aQ 0 0}),
 (11,{ mode:=1,exp:=false,thaw:=[],live:=aQ 0 0}),
 (12,{ mode:=2,exp:=false,thaw:=[],live:=aQ 0 0}),
 (13,{ mode:=1,exp:=false,thaw:=[],live:=aQ 41 469762264}),
 (14,{ mode:=1,exp:=false,thaw:=[],live:=aQ 0 0}),
 (15,{ mode:=1,exp:=false,thaw:=[],live:=aQ 65 1972248982323214}),
 (16,{ mode:=2,exp:=false,thaw:=(W8 (W4 [2002])),live:=aQ 48 3787457267}),
 (17,{ mode:=3,exp:=true,thaw:=[],live:=aQ 47 49214}),
 (18,{ mode:=3,exp:=true,thaw:=[0,0,0,2],live:=aQ 31 12302}),
 (19,{ mode:=0,exp:=false,thaw:=[],live:=aQ 0 0}),
 (20,{ mode:=0,exp:=true,thaw:=[],live:=aQ 0 0}),
 (21,{ mode:=1,exp:=false,thaw:=[],live:=aQ 0 0}),
 (22,{ mode:=2,exp:=false,thaw:=[],live:=aQ 72 8176}),
 (23,{ mode:=1,exp:=false,thaw:=[],live:=aQ 48 1496}),
 (24,{ mode:=1,exp:=false,thaw:=[],live:=aQ 0 0}),
 (25,{ mode:=2,exp:=false,thaw:=(W4 (W2 (W1 [2]))),live:=aQ 64 15032615102}),
 (26,{ mode:=1,exp:=false,thaw:=[],live:=aQ 0 0}),
 (27,{ mode:=2,exp:=true,thaw:=[],live:=aQ 0 0}),
 (28,{ mode:=0,exp:=false,thaw:=[],live:=aQ 0 0}),
 (29,{ mode:=0,exp:=false,thaw:=(W32 (W32 (W16 (W8 (W4 (W1 [1002])))))),live:=aQ 0 0}),
 (30,{ mode:=0,exp:=false,thaw:=[],live:=aQ 0 0}),
 (31,{ mode:=0,exp:=false,thaw:=[],live:=aQ 0 0}),
 (32,{ mode:=2,exp:=false,thaw:=[],live:=aQ 0 0}),
 (33,{ mode:=0,exp:=false,thaw:=[],live:=aQ 0 0}),
 (34,{ mode:=1,exp:=false,thaw:=[],live:=aQ 0 0}),
 (35,{ mode:=1,exp:=false,thaw:=[],live:=aQ 0 0}),
 (36,{ mode:=2,exp:=false,thaw:=[0,0,0,2],live:=aQ 17 45}),
 (37,{ mode:=1,exp:=false,thaw:=[],live:=aQ 0 0}),
 (38,{ mode:=1,exp:=false,thaw:=[],live:=aQ 0 0}),
 (39,{ mode:=1,exp:=false,thaw:=[],live:=aQ 0 0}),
 (40,{ mode:=1,exp:=false,thaw:=[],live:=aQ 0 0}),
 (41,{ mode:=0,exp:=false,thaw:=[],live:=aQ 0 0}),
 (42,{ mode:=2,exp:=false,thaw:=[],live:=aQ 0 0}),
 (43,{ mode:=0,exp:=false,thaw:=[],live:=aQ 14 33}),
 (44,{ mode:=1,exp:=false,thaw:=[],live:=aQ 18 460}),
 (45,{ mode:=1,exp:=false,thaw:=[],live:=aQ 0 0}),
 (46,{ mode:=1,exp:=false,thaw:=[],live:=aQ 0 0}),
 (47,{ mode:=1,exp:=false,thaw:=[],live:=aQ 44 30}),
 (48,{ mode:=2,exp:=false,thaw:=[],live:=aQ 32 60}),
 (49,{ mode:=2,exp:=false,thaw:=[],live:=aQ 47 62}),
 (50,{ mode:=2,exp:=false,thaw:=[],live:=aQ 47 498}),
 (51,{ mode:=0,exp:=false,thaw:=[],live:=aQ 47 115}),
 (52,{ mode:=1,exp:=false,thaw:=[],live:=aQ 0 0}),
 (53,{ mode:=2,exp:=false,thaw:=[],live:=aQ 91 7883223496394222}),
 (54,{ mode:=2,exp:=false,thaw:=[],live:=aQ 45 939524230}),
 (55,{ mode:=1,exp:=false,thaw:=[],live:=aQ 0 0}),
 (56,{ mode:=0,exp:=false,thaw:=[],live:=aQ 0 0}),
 (57,{ mode:=0,exp:=false,thaw:=(W32 (W32 (W16 (W2 (W1 [1002,0,0,0,0,0,0,0,0,0,0,0,0,0,0,0,0,0,0,0,0,0,1002]))))),live:=aQ 114 112}),
 (58,{ mode:=0,exp:=false,thaw:=[],live:=aQ 36 29}),
 (59,{ mode:=0,exp:=true,thaw:=(W32 (W4 (W1 [1002]))),live:=aQ 49 4037}),
 (60,{ mode:=2,exp:=true,thaw:=(W16 (W8 (W4 [1002]))),live:=aQ 32 30}),
 (61,{ mode:=2,exp:=false,thaw:=[],live:=aQ 72 413}),
 (62,{ mode:=0,exp:=false,thaw:=[],live:=aQ 0 0}),
 (63,{ mode:=2,exp:=false,thaw:=[],live:=aQ 0 0}),
 (64,{ mode:=0,exp:=false,thaw:=[],live:=aQ 0 0}),
 (65,{ mode:=0,exp:=false,thaw:=[],live:=aQ 0 0}),
 (66,{ mode:=2,exp:=false,thaw:=[],live:=aQ 71 2044}),
 (67,{ mode:=1,exp:=false,thaw:=[],live:=aQ 35 6291570}),
 (68,{ mode:=1,exp:=false,thaw:=[],live:=aQ 0 0}),
 (69,{ mode:=0,exp:=false,thaw:=[],live:=aQ 0 0}),
 (70,{ mode:=1,exp:=false,thaw:=[],live:=aQ 19 403}),
 (71,{ mode:=1,exp:=false,thaw:=[],live:=aQ 0 0}),
 (72,{ mode:=0,exp:=false,thaw:=[],live:=aQ 0 0}),
 (73,{ mode:=0,exp:=false,thaw:=[],live:=aQ 148 3103}),
 (74,{ mode:=1,exp:=false,thaw:=[],live:=aQ 0 0}),
 (75,{ mode:=2,exp:=false,thaw:=[],live:=aQ 0 0}),
 (76,{ mode:=1,exp:=false,thaw:=[],live:=aQ 0 0}),
 (77,{ mode:=1,exp:=false,thaw:=[],live:=aQ 0 0}),
 (78,{ mode:=1,exp:=false,thaw:=[],live:=aQ 0 0}),
 (79,{ mode:=1,exp:=false,thaw:=[],live:=aQ 31 197}),
 (80,{ mode:=2,exp:=false,thaw:=[],live:=aQ 18 29}),
 (81,{ mode:=2,exp:=false,thaw:=[],live:=aQ 69 254}),
 (82,{ mode:=1,exp:=false,thaw:=[],live:=aQ 0 0}),
 (83,{ mode:=1,exp:=false,thaw:=[],live:=aQ 0 0}),
 (84,{ mode:=1,exp:=false,thaw:=[],live:=aQ 18 51}),
 (85,{ mode:=1,exp:=false,thaw:=[],live:=aQ 0 0}),
 (86,{ mode:=1,exp:=false,thaw:=[],live:=aQ 27 115}),
 (87,{ mode:=1,exp:=false,thaw:=[],live:=aQ 0 0}),
 (88,{ mode:=1,exp:=false,thaw:=[],live:=aQ 0 0}),
 (89,{ mode:=2,exp:=false,thaw:=[],live:=aQ 54 240553558140}),
 (90,{ mode:=2,exp:=false,thaw:=(W8 (W4 (W1 [2,0,2]))),live:=aQ 77 30064836366}),
 (91,{ mode:=0,exp:=false,thaw:=[],live:=aQ 0 0}),
 (92,{ mode:=0,exp:=false,thaw:=[],live:=aQ 0 0}),
 (93,{ mode:=1,exp:=false,thaw:=(W16 (W2 [2])),live:=aQ 63 61632781151244}),
 (94,{ mode:=0,exp:=false,thaw:=[],live:=aQ 0 0}),
 (95,{ mode:=2,exp:=false,thaw:=[],live:=aQ 36 243}),
 (96,{ mode:=1,exp:=false,thaw:=[],live:=aQ 14 29}),
 (97,{ mode:=2,exp:=false,thaw:=[],live:=aQ 36 124}),
 (98,{ mode:=1,exp:=false,thaw:=[],live:=aQ 54 94}),
 (99,{ mode:=0,exp:=false,thaw:=[],live:=aQ 49 964}),
 (100,{ mode:=2,exp:=false,thaw:=[],live:=aQ 44 446}),
 (101,{ mode:=1,exp:=false,thaw:=[],live:=aQ 15 51}),
 (102,{ mode:=1,exp:=false,thaw:=[],live:=aQ 26 98323}),
 (103,{ mode:=1,exp:=false,thaw:=[],live:=aQ 0 0}),
 (104,{ mode:=0,exp:=false,thaw:=[],live:=aQ 0 0}),
 (105,{ mode:=0,exp:=false,thaw:=[],live:=aQ 53 783}),
 (106,{ mode:=0,exp:=false,thaw:=[],live:=aQ 60 7945}),
 (107,{ mode:=0,exp:=false,thaw:=[],live:=aQ 67 3843}),
 (108,{ mode:=0,exp:=false,thaw:=[],live:=aQ 0 0}),
 (109,{ mode:=0,exp:=false,thaw:=[],live:=aQ 34 769}),
 (110,{ mode:=0,exp:=false,thaw:=[],live:=aQ 141 7951}),
 (111,{ mode:=0,exp:=false,thaw:=[],live:=aQ 90 7187}),
 (112,{ mode:=0,exp:=false,thaw:=[],live:=aQ 178 15379}),
 (113,{ mode:=1,exp:=false,thaw:=[],live:=aQ 0 0}),
 (114,{ mode:=1,exp:=false,thaw:=[],live:=aQ 0 0}),
 (115,{ mode:=1,exp:=false,thaw:=[],live:=aQ 0 0}),
 (116,{ mode:=2,exp:=false,thaw:=[],live:=aQ 43 126}),
 (117,{ mode:=1,exp:=false,thaw:=[],live:=aQ 0 0}),
 (118,{ mode:=1,exp:=false,thaw:=[],live:=aQ 107 65534}),
 (119,{ mode:=1,exp:=false,thaw:=[],live:=aQ 0 0}),
 (120,{ mode:=1,exp:=false,thaw:=[],live:=aQ 0 0}),
 (121,{ mode:=1,exp:=false,thaw:=[],live:=aQ 21 206}),
 (122,{ mode:=1,exp:=false,thaw:=[],live:=aQ 0 0}),
 (123,{ mode:=0,exp:=false,thaw:=(W8 (W2 [2])),live:=aQ 50 118331}),
 (124,{ mode:=1,exp:=false,thaw:=[0,0,0,2],live:=aQ 32 29}),
 (125,{ mode:=1,exp:=false,thaw:=[],live:=aQ 27 60}),
 (126,{ mode:=1,exp:=false,thaw:=[],live:=aQ 67 125}),
 (127,{ mode:=1,exp:=false,thaw:=[],live:=aQ 31 13}),
 (128,{ mode:=2,exp:=false,thaw:=[],live:=aQ 47 2038}),
 (129,{ mode:=0,exp:=false,thaw:=[],live:=aQ 82 1053}),
 (130,{ mode:=1,exp:=false,thaw:=[],live:=aQ 0 0}),
 (132,{ mode:=0,exp:=false,thaw:=[],live:=aQ 0 0}),
 (133,{ mode:=0,exp:=false,thaw:=[],live:=aQ 0 0}),
 (134,{ mode:=1,exp:=false,thaw:=[],live:=aQ 18 51}),
 (135,{ mode:=2,exp:=false,thaw:=[],live:=aQ 41 62}),
 (136,{ mode:=2,exp:=false,thaw:=[],live:=aQ 48 8142}),
 (137,{ mode:=1,exp:=false,thaw:=[],live:=aQ 64 196}),
 (138,{ mode:=2,exp:=false,thaw:=[],live:=aQ 33 115}),
 (139,{ mode:=0,exp:=false,thaw:=[],live:=aQ 35 115}),
 (140,{ mode:=1,exp:=false,thaw:=[],live:=aQ 25 115}),
 (141,{ mode:=2,exp:=false,thaw:=[],live:=aQ 64 31775}),
 (142,{ mode:=1,exp:=false,thaw:=[],live:=aQ 23 13}),
 (143,{ mode:=1,exp:=false,thaw:=[],live:=aQ 22 61}),
 (144,{ mode:=1,exp:=false,thaw:=[],live:=aQ 0 0}),
 (145,{ mode:=1,exp:=false,thaw:=[],live:=aQ 0 0}),
 (146,{ mode:=1,exp:=false,thaw:=[],live:=aQ 0 0}),
 (147,{ mode:=0,exp:=false,thaw:=[],live:=aQ 28 13}),
 (148,{ mode:=1,exp:=false,thaw:=[],live:=aQ 52 798}),
 (149,{ mode:=0,exp:=false,thaw:=[],live:=aQ 0 0}),
 (150,{ mode:=2,exp:=false,thaw:=[],live:=aQ 62 32542}),
 (151,{ mode:=1,exp:=false,thaw:=[],live:=aQ 0 0}),
 (152,{ mode:=1,exp:=false,thaw:=[],live:=aQ 36 455}),
 (153,{ mode:=1,exp:=false,thaw:=[],live:=aQ 0 0}),
 (154,{ mode:=1,exp:=false,thaw:=[],live:=aQ 18 115}),
 (155,{ mode:=1,exp:=false,thaw:=[],live:=aQ 0 0}),
 (159,{ mode:=2,exp:=false,thaw:=[],live:=aQ 79 3852}),
 (163,{ mode:=1,exp:=false,thaw:=[],live:=aQ 0 0}),
 (164,{ mode:=1,exp:=false,thaw:=[],live:=aQ 0 0}),
 (165,{ mode:=1,exp:=false,thaw:=[],live:=aQ 0 0})]
noncomputable def aHs:List (TypeId×Nat):=[]
noncomputable def aKZ:List (Nat×(List A->H->Option (A×H))):=[(19,CZ 43 21),(41,MK 21),(163,gCtz)]
noncomputable def env:Env:={ P:=Tryz.prog,hint:=fun f=>(aXD.lookup f).getD {},eqs:=aHs,prim:=fun f=>aKZ.lookup f}
theorem AV:(env.hint 4).mode=1:=kr
theorem xA:(env.hint 5).mode=2:=kr
theorem E6:(env.hint 6).mode=1:=kr
theorem jF:(env.hint 7).mode=3:=kr
theorem ET:(env.hint 8).mode=1:=kr
theorem tK:(env.hint 10).mode=2:=kr
theorem CD:(env.hint 11).mode=1:=kr
theorem vS:(env.hint 12).mode=2:=kr
theorem CB:(env.hint 13).mode=1:=kr
theorem EU:(env.hint 14).mode=1:=kr
theorem yW:(env.hint 15).mode=1:=kr
theorem KN:(env.hint 16).mode=2:=kr
theorem nF:(env.hint 17).mode=3:=kr
theorem wB:(env.hint 18).mode=3:=kr
theorem iU:(env.hint 19).mode=0:=kr
theorem dP:(env.hint 20).mode=0:=kr
theorem N1:(env.hint 21).mode=1:=kr
theorem J3:(env.hint 22).mode=2:=kr
theorem CN:(env.hint 23).mode=1:=kr
theorem ZO:(env.hint 24).mode=1:=kr
theorem NK:(env.hint 25).mode=2:=kr
theorem NL:(env.hint 26).mode=1:=kr
theorem RC:(env.hint 27).mode=2:=kr
theorem R9:(env.hint 28).mode=0:=kr
theorem OE:(env.hint 29).mode=0:=kr
theorem H0:(env.hint 30).mode=0:=kr
theorem V9:(env.hint 31).mode=0:=kr
theorem tE:(env.hint 32).mode=2:=kr
theorem NX:(env.hint 33).mode=0:=kr
theorem EM:(env.hint 34).mode=1:=kr
theorem HY:(env.hint 35).mode=1:=kr
theorem KR:(env.hint 36).mode=2:=kr
theorem HT:(env.hint 37).mode=1:=kr
theorem FF:(env.hint 38).mode=1:=kr
theorem fE:(env.hint 39).mode=1:=kr
theorem HM:(env.hint 40).mode=1:=kr
theorem fD:(env.hint 41).mode=0:=kr
theorem rC:(env.hint 42).mode=2:=kr
theorem fJ:(env.hint 43).mode=0:=kr
theorem AW:(env.hint 44).mode=1:=kr
theorem BA:(env.hint 45).mode=1:=kr
theorem vM:(env.hint 46).mode=1:=kr
theorem y7:(env.hint 47).mode=1:=kr
theorem HD:(env.hint 48).mode=2:=kr
theorem wJ:(env.hint 49).mode=2:=kr
theorem MH:(env.hint 50).mode=2:=kr
theorem G5:(env.hint 51).mode=0:=kr
theorem F7:(env.hint 52).mode=1:=kr
theorem JU:(env.hint 53).mode=2:=kr
theorem P8:(env.hint 54).mode=2:=kr
theorem mP:(env.hint 55).mode=1:=kr
theorem tZ:(env.hint 56).mode=0:=kr
theorem SF:(env.hint 57).mode=0:=kr
theorem aAL:(env.hint 58).mode=0:=kr
theorem OM:(env.hint 59).mode=0:=kr
theorem rA:(env.hint 60).mode=2:=kr
theorem y4:(env.hint 61).mode=2:=kr
theorem NT:(env.hint 62).mode=0:=kr
theorem SX:(env.hint 63).mode=2:=kr
theorem VK:(env.hint 64).mode=0:=kr
theorem KJ:(env.hint 65).mode=0:=kr
theorem LP:(env.hint 66).mode=2:=kr
theorem HC:(env.hint 67).mode=1:=kr
theorem aHc:(env.hint 68).mode=1:=kr
theorem n9:(env.hint 69).mode=0:=kr
theorem mB:(env.hint 70).mode=1:=kr
theorem x5:(env.hint 71).mode=1:=kr
theorem zR:(env.hint 72).mode=0:=kr
theorem lD:(env.hint 73).mode=0:=kr
theorem FU:(env.hint 74).mode=1:=kr
theorem j8:(env.hint 75).mode=2:=kr
theorem E4:(env.hint 76).mode=1:=kr
theorem zG:(env.hint 77).mode=1:=kr
theorem HG:(env.hint 78).mode=1:=kr
theorem X5:(env.hint 79).mode=1:=kr
theorem ML:(env.hint 80).mode=2:=kr
theorem WY:(env.hint 81).mode=2:=kr
theorem HL:(env.hint 82).mode=1:=kr
theorem F6:(env.hint 83).mode=1:=kr
theorem JK:(env.hint 84).mode=1:=kr
theorem V7:(env.hint 85).mode=1:=kr
theorem A9:(env.hint 86).mode=1:=kr
theorem HH:(env.hint 87).mode=1:=kr
theorem HI:(env.hint 88).mode=1:=kr
theorem QU:(env.hint 89).mode=2:=kr
theorem rR:(env.hint 90).mode=2:=kr
theorem SP:(env.hint 91).mode=0:=kr
theorem pD:(env.hint 92).mode=0:=kr
theorem qM:(env.hint 93).mode=1:=kr
theorem zD:(env.hint 94).mode=0:=kr
theorem W5:(env.hint 95).mode=2:=kr
theorem AA:(env.hint 96).mode=1:=kr
theorem SQ:(env.hint 97).mode=2:=kr
theorem wL:(env.hint 98).mode=1:=kr
theorem WB:(env.hint 99).mode=0:=kr
theorem J9:(env.hint 100).mode=2:=kr
theorem RO:(env.hint 101).mode=1:=kr
theorem HF:(env.hint 102).mode=1:=kr
theorem OG:(env.hint 103).mode=1:=kr
theorem rT:(env.hint 104).mode=0:=kr
theorem iR:(env.hint 105).mode=0:=kr
theorem kM:(env.hint 106).mode=0:=kr
theorem iS:(env.hint 107).mode=0:=kr
theorem jO:(env.hint 108).mode=0:=kr
theorem jA:(env.hint 109).mode=0:=kr
theorem fB:(env.hint 110).mode=0:=kr
theorem gQ:(env.hint 111).mode=0:=kr
theorem j5:(env.hint 112).mode=0:=kr
theorem BY:(env.hint 113).mode=1:=kr
theorem A3:(env.hint 114).mode=1:=kr
theorem XY:(env.hint 115).mode=1:=kr
theorem SV:(env.hint 116).mode=2:=kr
theorem RF:(env.hint 117).mode=1:=kr
theorem u7:(env.hint 118).mode=1:=kr
theorem HU:(env.hint 119).mode=1:=kr
theorem HX:(env.hint 120).mode=1:=kr
theorem ZB:(env.hint 121).mode=1:=kr
theorem rE:(env.hint 122).mode=1:=kr
theorem mA:(env.hint 123).mode=0:=kr
theorem A1:(env.hint 124).mode=1:=kr
theorem yY:(env.hint 125).mode=1:=kr
theorem VT:(env.hint 126).mode=1:=kr
theorem WL:(env.hint 127).mode=1:=kr
theorem BS:(env.hint 128).mode=2:=kr
theorem kH:(env.hint 129).mode=0:=kr
theorem qS:(env.hint 130).mode=1:=kr
theorem gX:(env.hint 132).mode=0:=kr
theorem lO:(env.hint 133).mode=0:=kr
theorem PX:(env.hint 134).mode=1:=kr
theorem DP:(env.hint 135).mode=2:=kr
theorem C7:(env.hint 136).mode=2:=kr
theorem DK:(env.hint 137).mode=1:=kr
theorem OC:(env.hint 138).mode=2:=kr
theorem GJ:(env.hint 139).mode=0:=kr
theorem O3:(env.hint 140).mode=1:=kr
theorem j9:(env.hint 141).mode=2:=kr
theorem MN:(env.hint 142).mode=1:=kr
theorem HQ:(env.hint 143).mode=1:=kr
theorem aCN:(env.hint 144).mode=1:=kr
theorem aCR:(env.hint 145).mode=1:=kr
theorem mC:(env.hint 146).mode=1:=kr
theorem iV:(env.hint 147).mode=0:=kr
theorem V3:(env.hint 148).mode=1:=kr
theorem lP:(env.hint 149).mode=0:=kr
theorem SK:(env.hint 150).mode=2:=kr
theorem aB8:(env.hint 151).mode=1:=kr
theorem G8:(env.hint 152).mode=1:=kr
theorem aAw:(env.hint 153).mode=1:=kr
theorem QZ:(env.hint 154).mode=1:=kr
theorem pM:(env.hint 155).mode=1:=kr
theorem LC:(env.hint 159).mode=2:=kr
theorem o9:(env.hint 163).mode=1:=kr
theorem m5:(env.hint 164).mode=1:=kr
theorem mQ:(env.hint 165).mode=1:=kr
theorem MD0:type_of% (AI @AV (AI @xA (AI @E6 (AI @jF (AI @ET (AI @tK (AI @CD (AI @vS (AI @CB (AI @EU (AI @yW (AI @KN (AI @nF (AI @wB (AI @iU (AI @dP (AI @N1 (AI @J3 (AI @CN (AI @ZO (AI @NK (AI @NL (AI @RC (AI @R9 (AI @OE (AI @H0 (AI @V9 (AI @tE (AI @NX (AI @EM (AI @HY (AI @KR (AI @HT (AI @FF (AI @fE (AI @HM (AI @fD (AI @rC (AI @fJ (AI @AW (AI @BA (AI @vM (AI @y7 (AI @HD (AI @wJ (AI @MH (AI @G5 (AI @F7 (AI @JU (AI @P8 (AI @mP (AI @tZ (AI @SF (AI @aAL (AI @OM (AI @rA (AI @y4 (AI @NT (AI @SX @VK))))))))))))))))))))))))))))))))))))))))))))))))))))))))))):=
 ⟨@AV,@xA,@E6,@jF,@ET,@tK,@CD,@vS,@CB,@EU,@yW,@KN,@nF,@wB,@iU,@dP,@N1,@J3,@CN,@ZO,@NK,@NL,@RC,@R9,@OE,@H0,@V9,@tE,@NX,@EM,@HY,@KR,@HT,@FF,@fE,@HM,@fD,@rC,@fJ,@AW,@BA,@vM,@y7,@HD,@wJ,@MH,@G5,@F7,@JU,@P8,@mP,@tZ,@SF,@aAL,@OM,@rA,@y4,@NT,@SX,@VK⟩
theorem MD1:type_of% (AI @KJ (AI @LP (AI @HC (AI @aHc (AI @n9 (AI @mB (AI @x5 (AI @zR (AI @lD (AI @FU (AI @j8 (AI @E4 (AI @zG (AI @HG (AI @X5 (AI @ML (AI @WY (AI @HL (AI @F6 (AI @JK (AI @V7 (AI @A9 (AI @HH (AI @HI (AI @QU (AI @rR (AI @SP (AI @pD (AI @qM (AI @zD (AI @W5 (AI @AA (AI @SQ (AI @wL (AI @WB (AI @J9 (AI @RO (AI @HF (AI @OG (AI @rT (AI @iR (AI @kM (AI @iS (AI @jO (AI @jA (AI @fB (AI @gQ (AI @j5 (AI @BY (AI @A3 (AI @XY (AI @SV (AI @RF (AI @u7 (AI @HU (AI @HX (AI @ZB (AI @rE (AI @mA @A1))))))))))))))))))))))))))))))))))))))))))))))))))))))))))):=
 ⟨@KJ,@LP,@HC,@aHc,@n9,@mB,@x5,@zR,@lD,@FU,@j8,@E4,@zG,@HG,@X5,@ML,@WY,@HL,@F6,@JK,@V7,@A9,@HH,@HI,@QU,@rR,@SP,@pD,@qM,@zD,@W5,@AA,@SQ,@wL,@WB,@J9,@RO,@HF,@OG,@rT,@iR,@kM,@iS,@jO,@jA,@fB,@gQ,@j5,@BY,@A3,@XY,@SV,@RF,@u7,@HU,@HX,@ZB,@rE,@mA,@A1⟩
theorem MD2:type_of% (AI @yY (AI @VT (AI @WL (AI @BS (AI @kH (AI @qS (AI @gX (AI @lO (AI @PX (AI @DP (AI @C7 (AI @DK (AI @OC (AI @GJ (AI @O3 (AI @j9 (AI @MN (AI @HQ (AI @aCN (AI @aCR (AI @mC (AI @iV (AI @V3 (AI @lP (AI @SK (AI @aB8 (AI @G8 (AI @aAw (AI @QZ (AI @pM (AI @LC (AI @o9 (AI @m5 @mQ))))))))))))))))))))))))))))))))):=
 ⟨@yY,@VT,@WL,@BS,@kH,@qS,@gX,@lO,@PX,@DP,@C7,@DK,@OC,@GJ,@O3,@j9,@MN,@HQ,@aCN,@aCR,@mC,@iV,@V3,@lP,@SK,@aB8,@G8,@aAw,@QZ,@pM,@LC,@o9,@m5,@mQ⟩
theorem MD:type_of% (AI @MD0 (AI @MD1 @MD2)):=
 ⟨@MD0,@MD1,@MD2⟩
end Ev
end Go.Proofs.YtppffbehejpglaaGreatDoor
