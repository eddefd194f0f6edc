/-
  What the evaluator is told of each function, and each function's code as an equation. Written by a program.
-/
import Derived.Test.YthlkcebdfbjdoaaGreatEvPrim
import Derived.Test.YthlkcebdfbjdoaaGreatChecked
set_option maxRecDepth 100000
namespace Go.Proofs.YthlkcebdfbjdoaaGreat
namespace Ev
def aR:Nat->Nat->List Bool
 |0,_=>[]
 |n+1,k=>(k % 2==1)::aR n (k/2)
noncomputable def aVc:List (Nat×Hint):=[
 (3,{ mode:=1,exp:=false,thaw:=[],live:=aR 88 572}),
 (4,{ mode:=1,exp:=false,thaw:=[],live:=aR 134 32300}),
 (5,{ mode:=1,exp:=false,thaw:=[],live:=aR 102 5340}),
 (6,{ mode:=1,exp:=false,thaw:=[],live:=aR 0 0}),
 (7,{ mode:=1,exp:=false,thaw:=[],live:=aR 0 0}),
 (8,{ mode:=2,exp:=false,thaw:=[],live:=aR 0 0}),
 (9,{ mode:=3,exp:=true,thaw:=[],live:=aR 68 1000796099450352}),
 (10,{ mode:=2,exp:=false,thaw:=[],live:=aR 72 8176}),
 (11,{ mode:=1,exp:=false,thaw:=[],live:=aR 26 51}),
 (12,{ mode:=1,exp:=false,thaw:=[],live:=aR 26 98323}),
 (13,{ mode:=1,exp:=false,thaw:=[],live:=aR 0 0}),
 (14,{ mode:=3,exp:=true,thaw:=[0,0,0,2],live:=aR 31 12302}),
 (15,{ mode:=3,exp:=true,thaw:=[],live:=aR 47 49214}),
 (16,{ mode:=1,exp:=false,thaw:=[],live:=aR 0 0}),
 (17,{ mode:=1,exp:=false,thaw:=[],live:=aR 18 51}),
 (18,{ mode:=1,exp:=false,thaw:=[],live:=aR 0 0}),
 (19,{ mode:=2,exp:=false,thaw:=[],live:=aR 0 0}),
 (20,{ mode:=1,exp:=false,thaw:=[],live:=aR 41 469762264}),
 (21,{ mode:=1,exp:=false,thaw:=[],live:=aR 48 1496}),
 (22,{ mode:=1,exp:=false,thaw:=[],live:=aR 0 0}),
 (23,{ mode:=1,exp:=false,thaw:=[],live:=aR 0 0}),
 (24,{ mode:=1,exp:=false,thaw:=[],live:=aR 0 0}),
 (25,{ mode:=1,exp:=false,thaw:=[],live:=aR 0 0}),
 (26,{ mode:=2,exp:=false,thaw:=[],live:=aR 30 49180}),
 (27,{ mode:=2,exp:=true,thaw:=[],live:=aR 0 0}),
 (28,{ mode:=0,exp:=false,thaw:=[],live:=aR 0 0}),
 (29,{ mode:=0,exp:=false,thaw:=[],live:=aR 0 0}),
 (30,{ mode:=1,exp:=false,thaw:=[],live:=aR 65 1972248982323214}),
 (31,{ mode:=2,exp:=false,thaw:=(W8 (W4 [2002])),live:=aR 48 3787457267}),
 (32,{ mode:=0,exp:=false,thaw:=[],live:=aR 0 0}),
 (33,{ mode:=0,exp:=true,thaw:=[],live:=aR 0 0}),
 (34,{ mode:=1,exp:=false,thaw:=[],live:=aR 0 0}),
 (35,{ mode:=1,exp:=false,thaw:=[],live:=aR 44 30}),
 (36,{ mode:=2,exp:=false,thaw:=[],live:=aR 32 60}),
 (37,{ mode:=2,exp:=false,thaw:=[],live:=aR 47 62}),
 (38,{ mode:=2,exp:=false,thaw:=[],live:=aR 47 498}),
 (39,{ mode:=0,exp:=false,thaw:=[],live:=aR 47 115}),
 (40,{ mode:=1,exp:=false,thaw:=[],live:=aR 0 0}),
 (41,{ mode:=1,exp:=false,thaw:=[],live:=aR 0 0}),
 (42,{ mode:=1,exp:=false,thaw:=[],live:=aR 0 0}),
 (43,{ mode:=1,exp:=false,thaw:=[],live:=aR 0 0}),
 (44,{ mode:=1,exp:=false,thaw:=[],live:=aR 0 0}),
 (45,{ mode:=0,exp:=false,thaw:=[],live:=aR 0 0}),
 (46,{ mode:=1,exp:=false,thaw:=[],live:=aR 0 0}),
 (47,{ mode:=1,exp:=false,thaw:=[],live:=aR 0 0}),
 (48,{ mode:=0,exp:=false,thaw:=(W32 (W32 (W16 (W8 (W4 (W1 [1002])))))),live:=aR 0 0}),
 (49,{ mode:=0,exp:=false,thaw:=[],live:=aR 0 0}),
 (50,{ mode:=0,exp:=false,thaw:=[],live:=aR 0 0}),
 (51,{ mode:=2,exp:=false,thaw:=[],live:=aR 0 0}),
 (52,{ mode:=1,exp:=false,thaw:=[],live:=aR 0 0}),
 (53,{ mode:=1,exp:=false,thaw:=[],live:=aR 0 0}),
 (54,{ mode:=1,exp:=false,thaw:=[],live:=aR 0 0}),
 (55,{ mode:=1,exp:=false,thaw:=[],live:=aR 35 6291570}),
 (56,{ mode:=1,exp:=false,thaw:=[],live:=aR 0 0}),
 (57,{ mode:=0,exp:=false,thaw:=[],live:=aR 0 0}),
 (58,{ mode:=2,exp:=true,thaw:=[],live:=aR 28 57356}),
 (59,{ mode:=0,exp:=false,thaw:=(W32 (W32 (W16 (W2 (W1 [1002,0,0,0,0,0,0,0,0,0,0,0,0,0,0,0,0,0,0,0,0,0,1002]))))),live:=aR 114 112}),
 (60,{ mode:=0,exp:=false,thaw:=[],live:=aR 36 29}),
 (61,{ mode:=0,exp:=true,thaw:=(W32 (W4 (W1 [1002]))),live:=aR 49 4037}),
 (62,{ mode:=0,exp:=false,thaw:=[],live:=aR 0 0}),
 (63,{ mode:=2,exp:=false,thaw:=[0,0,0,2],live:=aR 17 45}),
 (64,{ mode:=1,exp:=false,thaw:=[],live:=aR 0 0}),
 (65,{ mode:=2,exp:=false,thaw:=[],live:=aR 0 0}),
 (66,{ mode:=0,exp:=false,thaw:=[],live:=aR 14 33}),
 (67,{ mode:=1,exp:=false,thaw:=[],live:=aR 18 460}),
 (68,{ mode:=1,exp:=false,thaw:=[],live:=aR 0 0}),
 (69,{ mode:=1,exp:=false,thaw:=[],live:=aR 0 0}),
 (70,{ mode:=1,exp:=false,thaw:=[],live:=aR 0 0}),
 (71,{ mode:=1,exp:=false,thaw:=[],live:=aR 31 197}),
 (72,{ mode:=2,exp:=false,thaw:=[],live:=aR 18 29}),
 (73,{ mode:=2,exp:=false,thaw:=[],live:=aR 69 254}),
 (74,{ mode:=1,exp:=false,thaw:=[],live:=aR 0 0}),
 (75,{ mode:=1,exp:=false,thaw:=[],live:=aR 0 0}),
 (76,{ mode:=1,exp:=false,thaw:=[],live:=aR 18 51}),
 (77,{ mode:=1,exp:=false,thaw:=[],live:=aR 0 0}),
 (78,{ mode:=1,exp:=false,thaw:=[],live:=aR 27 115}),
 (79,{ mode:=1,exp:=false,thaw:=[],live:=aR 0 0}),
 (80,{ mode:=0,exp:=false,thaw:=[],live:=aR 0 0}),
 (81,{ mode:=0,exp:=false,thaw:=[],live:=aR 148 3103}),
 (82,{ mode:=1,exp:=false,thaw:=[],live:=aR 0 0}),
 (83,{ mode:=0,exp:=false,thaw:=[],live:=aR 0 0}),
 (84,{ mode:=1,exp:=false,thaw:=[],live:=aR 19 403}),
 (85,{ mode:=2,exp:=true,thaw:=(W16 (W8 (W4 [1002]))),live:=aR 32 30}),
 (86,{ mode:=2,exp:=false,thaw:=[],live:=aR 72 413}),
 (87,{ mode:=0,exp:=false,thaw:=[],live:=aR 0 0}),
 (88,{ mode:=2,exp:=false,thaw:=[],live:=aR 0 0}),
 (89,{ mode:=0,exp:=false,thaw:=[],live:=aR 0 0}),
 (90,{ mode:=2,exp:=false,thaw:=[],live:=aR 71 2044}),
 (91,{ mode:=1,exp:=false,thaw:=[],live:=aR 0 0}),
 (92,{ mode:=2,exp:=false,thaw:=[],live:=aR 54 240553558140}),
 (93,{ mode:=0,exp:=false,thaw:=[],live:=aR 0 0}),
 (94,{ mode:=1,exp:=false,thaw:=(W16 (W2 [2])),live:=aR 63 61632781151244}),
 (95,{ mode:=0,exp:=false,thaw:=[],live:=aR 0 0}),
 (96,{ mode:=0,exp:=true,thaw:=[],live:=aR 0 0}),
 (97,{ mode:=0,exp:=true,thaw:=[],live:=aR 0 0}),
 (98,{ mode:=2,exp:=false,thaw:=[],live:=aR 0 0}),
 (99,{ mode:=1,exp:=false,thaw:=[],live:=aR 0 0}),
 (100,{ mode:=1,exp:=false,thaw:=[],live:=aR 0 0}),
 (101,{ mode:=1,exp:=false,thaw:=[],live:=aR 0 0}),
 (102,{ mode:=2,exp:=false,thaw:=[],live:=aR 43 126}),
 (103,{ mode:=1,exp:=false,thaw:=[],live:=aR 15 51}),
 (104,{ mode:=1,exp:=false,thaw:=[],live:=aR 0 0}),
 (105,{ mode:=1,exp:=false,thaw:=[],live:=aR 107 65534}),
 (106,{ mode:=1,exp:=false,thaw:=[],live:=aR 0 0}),
 (107,{ mode:=0,exp:=false,thaw:=[],live:=aR 0 0}),
 (108,{ mode:=0,exp:=false,thaw:=[],live:=aR 53 783}),
 (109,{ mode:=0,exp:=false,thaw:=[],live:=aR 60 7945}),
 (110,{ mode:=0,exp:=false,thaw:=[],live:=aR 67 3843}),
 (111,{ mode:=0,exp:=false,thaw:=[],live:=aR 0 0}),
 (112,{ mode:=0,exp:=false,thaw:=[],live:=aR 34 769}),
 (113,{ mode:=0,exp:=false,thaw:=[],live:=aR 141 7951}),
 (114,{ mode:=0,exp:=false,thaw:=[],live:=aR 90 7187}),
 (115,{ mode:=0,exp:=false,thaw:=[],live:=aR 178 15379}),
 (116,{ mode:=1,exp:=false,thaw:=[],live:=aR 0 0}),
 (117,{ mode:=1,exp:=false,thaw:=[],live:=aR 0 0}),
 (118,{ mode:=2,exp:=false,thaw:=[],live:=aR 36 243}),
 (119,{ mode:=1,exp:=false,thaw:=[],live:=aR 14 29}),
 (120,{ mode:=2,exp:=false,thaw:=[],live:=aR 36 124}),
 (121,{ mode:=1,exp:=false,thaw:=[],live:=aR 54 94}),
 (122,{ mode:=0,exp:=false,thaw:=[],live:=aR 49 964}),
 (123,{ mode:=2,exp:=false,thaw:=[],live:=aR 44 446}),
 (124,{ mode:=1,exp:=false,thaw:=[],live:=aR 0 0}),
 (125,{ mode:=1,exp:=false,thaw:=[],live:=aR 21 206}),
 (126,{ mode:=0,exp:=false,thaw:=(W8 (W2 [2])),live:=aR 50 118331}),
 (127,{ mode:=1,exp:=false,thaw:=[0,0,0,2],live:=aR 32 29}),
 (128,{ mode:=1,exp:=false,thaw:=[],live:=aR 18 51}),
 (129,{ mode:=2,exp:=false,thaw:=[],live:=aR 41 62}),
 (130,{ mode:=2,exp:=false,thaw:=[],live:=aR 48 8142}),
 (131,{ mode:=1,exp:=false,thaw:=[],live:=aR 64 196}),
 (132,{ mode:=2,exp:=false,thaw:=[],live:=aR 33 115}),
 (133,{ mode:=0,exp:=false,thaw:=[],live:=aR 35 115}),
 (134,{ mode:=1,exp:=false,thaw:=[],live:=aR 25 115}),
 (135,{ mode:=2,exp:=false,thaw:=[],live:=aR 64 31775}),
 (136,{ mode:=1,exp:=false,thaw:=[],live:=aR 23 13}),
 (137,{ mode:=0,exp:=false,thaw:=[],live:=aR 82 1053}),
 (138,{ mode:=1,exp:=false,thaw:=[],live:=aR 0 0}),
 (140,{ mode:=0,exp:=false,thaw:=[],live:=aR 0 0}),
 (141,{ mode:=0,exp:=false,thaw:=[],live:=aR 0 0}),
 (142,{ mode:=1,exp:=false,thaw:=[],live:=aR 27 60}),
 (143,{ mode:=1,exp:=false,thaw:=[],live:=aR 67 125}),
 (144,{ mode:=1,exp:=false,thaw:=[],live:=aR 31 13}),
 (145,{ mode:=2,exp:=false,thaw:=[],live:=aR 47 2038}),
 (146,{ mode:=1,exp:=false,thaw:=[],live:=aR 22 61}),
 (147,{ mode:=1,exp:=false,thaw:=[],live:=aR 0 0}),
 (148,{ mode:=1,exp:=false,thaw:=[],live:=aR 0 0}),
 (149,{ mode:=0,exp:=false,thaw:=[],live:=aR 28 13}),
 (150,{ mode:=2,exp:=false,thaw:=[],live:=aR 62 32542}),
 (151,{ mode:=1,exp:=false,thaw:=[],live:=aR 0 0}),
 (152,{ mode:=1,exp:=false,thaw:=[],live:=aR 36 455}),
 (153,{ mode:=0,exp:=false,thaw:=[],live:=aR 0 0}),
 (154,{ mode:=1,exp:=false,thaw:=[],live:=aR 52 798}),
 (155,{ mode:=1,exp:=false,thaw:=[],live:=aR 0 0}),
 (156,{ mode:=1,exp:=false,thaw:=[],live:=aR 18 115}),
 (157,{ mode:=2,exp:=false,thaw:=[],live:=aR 79 3852})]
noncomputable def aDM:List (TypeId×Nat):=[]
noncomputable def aGK:List (Nat×(List A->H->Option (A×H))):=[(32,A3 66 34),(45,GM 34),(96,MC 1),(97,MC 1)]
noncomputable def env:Env:={ P:=Tryz.prog,hint:=fun f=>(aVc.lookup f).getD {},eqs:=aDM,prim:=fun f=>aGK.lookup f}
theorem HB:(env.hint 3).mode=1:=kr
theorem HS:(env.hint 4).mode=1:=kr
theorem zV:(env.hint 5).mode=1:=kr
theorem zQ:(env.hint 6).mode=1:=kr
theorem zS:(env.hint 7).mode=1:=kr
theorem y9:(env.hint 8).mode=2:=kr
theorem pD:(env.hint 9).mode=3:=kr
theorem HZ:(env.hint 10).mode=2:=kr
theorem BB:(env.hint 11).mode=1:=kr
theorem EQ:(env.hint 12).mode=1:=kr
theorem E4:(env.hint 13).mode=1:=kr
theorem m9:(env.hint 14).mode=3:=kr
theorem jV:(env.hint 15).mode=3:=kr
theorem aCI:(env.hint 16).mode=1:=kr
theorem BA:(env.hint 17).mode=1:=kr
theorem P8:(env.hint 18).mode=1:=kr
theorem tO:(env.hint 19).mode=2:=kr
theorem z8:(env.hint 20).mode=1:=kr
theorem AB:(env.hint 21).mode=1:=kr
theorem aCG:(env.hint 22).mode=1:=kr
theorem CS:(env.hint 23).mode=1:=kr
theorem LC:(env.hint 24).mode=1:=kr
theorem DB:(env.hint 25).mode=1:=kr
theorem pK:(env.hint 26).mode=2:=kr
theorem M4:(env.hint 27).mode=2:=kr
theorem MX:(env.hint 28).mode=0:=kr
theorem JN:(env.hint 29).mode=0:=kr
theorem xA:(env.hint 30).mode=1:=kr
theorem IJ:(env.hint 31).mode=2:=kr
theorem jE:(env.hint 32).mode=0:=kr
theorem eH:(env.hint 33).mode=0:=kr
theorem J4:(env.hint 34).mode=1:=kr
theorem wR:(env.hint 35).mode=1:=kr
theorem EK:(env.hint 36).mode=2:=kr
theorem uC:(env.hint 37).mode=2:=kr
theorem IW:(env.hint 38).mode=2:=kr
theorem EG:(env.hint 39).mode=0:=kr
theorem EM:(env.hint 40).mode=1:=kr
theorem aB5:(env.hint 41).mode=1:=kr
theorem JX:(env.hint 42).mode=1:=kr
theorem GU:(env.hint 43).mode=1:=kr
theorem EN:(env.hint 44).mode=1:=kr
theorem fQ:(env.hint 45).mode=0:=kr
theorem CX:(env.hint 46).mode=1:=kr
theorem fP:(env.hint 47).mode=1:=kr
theorem IZ:(env.hint 48).mode=0:=kr
theorem EX:(env.hint 49).mode=0:=kr
theorem QX:(env.hint 50).mode=0:=kr
theorem r8:(env.hint 51).mode=2:=kr
theorem CW:(env.hint 52).mode=1:=kr
theorem V2:(env.hint 53).mode=1:=kr
theorem B9:(env.hint 54).mode=1:=kr
theorem EL:(env.hint 55).mode=1:=kr
theorem r7:(env.hint 56).mode=1:=kr
theorem CH:(env.hint 57).mode=0:=kr
theorem x4:(env.hint 58).mode=2:=kr
theorem M2:(env.hint 59).mode=0:=kr
theorem R6:(env.hint 60).mode=0:=kr
theorem KS:(env.hint 61).mode=0:=kr
theorem IU:(env.hint 62).mode=0:=kr
theorem IO:(env.hint 63).mode=2:=kr
theorem ES:(env.hint 64).mode=1:=kr
theorem pJ:(env.hint 65).mode=2:=kr
theorem fV:(env.hint 66).mode=0:=kr
theorem rB:(env.hint 67).mode=1:=kr
theorem yI:(env.hint 68).mode=1:=kr
theorem tR:(env.hint 69).mode=1:=kr
theorem ER:(env.hint 70).mode=1:=kr
theorem US:(env.hint 71).mode=1:=kr
theorem IT:(env.hint 72).mode=2:=kr
theorem QV:(env.hint 73).mode=2:=kr
theorem ET:(env.hint 74).mode=1:=kr
theorem BY:(env.hint 75).mode=1:=kr
theorem HA:(env.hint 76).mode=1:=kr
theorem P1:(env.hint 77).mode=1:=kr
theorem y6:(env.hint 78).mode=1:=kr
theorem vK:(env.hint 79).mode=1:=kr
theorem xM:(env.hint 80).mode=0:=kr
theorem lA:(env.hint 81).mode=0:=kr
theorem DF:(env.hint 82).mode=1:=kr
theorem nT:(env.hint 83).mode=0:=kr
theorem lR:(env.hint 84).mode=1:=kr
theorem u3:(env.hint 85).mode=2:=kr
theorem wF:(env.hint 86).mode=2:=kr
theorem J2:(env.hint 87).mode=0:=kr
theorem NF:(env.hint 88).mode=2:=kr
theorem P2:(env.hint 89).mode=0:=kr
theorem HK:(env.hint 90).mode=2:=kr
theorem EO:(env.hint 91).mode=1:=kr
theorem ND:(env.hint 92).mode=2:=kr
theorem n9:(env.hint 93).mode=0:=kr
theorem oR:(env.hint 94).mode=1:=kr
theorem wY:(env.hint 95).mode=0:=kr
theorem oF:(env.hint 96).mode=0:=kr
theorem qS:(env.hint 97).mode=0:=kr
theorem j7:(env.hint 98).mode=2:=kr
theorem DL:(env.hint 99).mode=1:=kr
theorem wW:(env.hint 100).mode=1:=kr
theorem UK:(env.hint 101).mode=1:=kr
theorem N0:(env.hint 102).mode=2:=kr
theorem MJ:(env.hint 103).mode=1:=kr
theorem MW:(env.hint 104).mode=1:=kr
theorem s5:(env.hint 105).mode=1:=kr
theorem EU:(env.hint 106).mode=1:=kr
theorem p8:(env.hint 107).mode=0:=kr
theorem jB:(env.hint 108).mode=0:=kr
theorem kJ:(env.hint 109).mode=0:=kr
theorem jA:(env.hint 110).mode=0:=kr
theorem jR:(env.hint 111).mode=0:=kr
theorem jK:(env.hint 112).mode=0:=kr
theorem fO:(env.hint 113).mode=0:=kr
theorem iO:(env.hint 114).mode=0:=kr
theorem kE:(env.hint 115).mode=0:=kr
theorem zC:(env.hint 116).mode=1:=kr
theorem xO:(env.hint 117).mode=1:=kr
theorem Q7:(env.hint 118).mode=2:=kr
theorem yA:(env.hint 119).mode=1:=kr
theorem NT:(env.hint 120).mode=2:=kr
theorem uV:(env.hint 121).mode=1:=kr
theorem QQ:(env.hint 122).mode=0:=kr
theorem GK:(env.hint 123).mode=2:=kr
theorem E6:(env.hint 124).mode=1:=kr
theorem VK:(env.hint 125).mode=1:=kr
theorem lQ:(env.hint 126).mode=0:=kr
theorem yN:(env.hint 127).mode=1:=kr
theorem LS:(env.hint 128).mode=1:=kr
theorem AT:(env.hint 129).mode=2:=kr
theorem A7:(env.hint 130).mode=2:=kr
theorem AN:(env.hint 131).mode=1:=kr
theorem JL:(env.hint 132).mode=2:=kr
theorem DZ:(env.hint 133).mode=0:=kr
theorem KG:(env.hint 134).mode=1:=kr
theorem j9:(env.hint 135).mode=2:=kr
theorem GA:(env.hint 136).mode=1:=kr
theorem kL:(env.hint 137).mode=0:=kr
theorem pQ:(env.hint 138).mode=1:=kr
theorem iF:(env.hint 140).mode=0:=kr
theorem lJ:(env.hint 141).mode=0:=kr
theorem wE:(env.hint 142).mode=1:=kr
theorem QJ:(env.hint 143).mode=1:=kr
theorem QP:(env.hint 144).mode=1:=kr
theorem JC:(env.hint 145).mode=2:=kr
theorem EY:(env.hint 146).mode=1:=kr
theorem ZK:(env.hint 147).mode=1:=kr
theorem YC:(env.hint 148).mode=1:=kr
theorem jF:(env.hint 149).mode=0:=kr
theorem MN:(env.hint 150).mode=2:=kr
theorem XP:(env.hint 151).mode=1:=kr
theorem ED:(env.hint 152).mode=1:=kr
theorem lH:(env.hint 153).mode=0:=kr
theorem QY:(env.hint 154).mode=1:=kr
theorem UT:(env.hint 155).mode=1:=kr
theorem NX:(env.hint 156).mode=1:=kr
theorem IV:(env.hint 157).mode=2:=kr
theorem MD0:type_of% (AI @HB (AI @HS (AI @zV (AI @zQ (AI @zS (AI @y9 (AI @pD (AI @HZ (AI @BB (AI @EQ (AI @E4 (AI @m9 (AI @jV (AI @aCI (AI @BA (AI @P8 (AI @tO (AI @z8 (AI @AB (AI @aCG (AI @CS (AI @LC (AI @DB (AI @pK (AI @M4 (AI @MX (AI @JN (AI @xA (AI @IJ (AI @jE (AI @eH (AI @J4 (AI @wR (AI @EK (AI @uC (AI @IW (AI @EG (AI @EM (AI @aB5 (AI @JX (AI @GU (AI @EN (AI @fQ (AI @CX (AI @fP (AI @IZ (AI @EX (AI @QX (AI @r8 (AI @CW (AI @V2 (AI @B9 (AI @EL (AI @r7 (AI @CH (AI @x4 (AI @M2 (AI @R6 (AI @KS @IU))))))))))))))))))))))))))))))))))))))))))))))))))))))))))):=
 ⟨@HB,@HS,@zV,@zQ,@zS,@y9,@pD,@HZ,@BB,@EQ,@E4,@m9,@jV,@aCI,@BA,@P8,@tO,@z8,@AB,@aCG,@CS,@LC,@DB,@pK,@M4,@MX,@JN,@xA,@IJ,@jE,@eH,@J4,@wR,@EK,@uC,@IW,@EG,@EM,@aB5,@JX,@GU,@EN,@fQ,@CX,@fP,@IZ,@EX,@QX,@r8,@CW,@V2,@B9,@EL,@r7,@CH,@x4,@M2,@R6,@KS,@IU⟩
theorem MD1:type_of% (AI @IO (AI @ES (AI @pJ (AI @fV (AI @rB (AI @yI (AI @tR (AI @ER (AI @US (AI @IT (AI @QV (AI @ET (AI @BY (AI @HA (AI @P1 (AI @y6 (AI @vK (AI @xM (AI @lA (AI @DF (AI @nT (AI @lR (AI @u3 (AI @wF (AI @J2 (AI @NF (AI @P2 (AI @HK (AI @EO (AI @ND (AI @n9 (AI @oR (AI @wY (AI @oF (AI @qS (AI @j7 (AI @DL (AI @wW (AI @UK (AI @N0 (AI @MJ (AI @MW (AI @s5 (AI @EU (AI @p8 (AI @jB (AI @kJ (AI @jA (AI @jR (AI @jK (AI @fO (AI @iO (AI @kE (AI @zC (AI @xO (AI @Q7 (AI @yA (AI @NT (AI @uV @QQ))))))))))))))))))))))))))))))))))))))))))))))))))))))))))):=
 ⟨@IO,@ES,@pJ,@fV,@rB,@yI,@tR,@ER,@US,@IT,@QV,@ET,@BY,@HA,@P1,@y6,@vK,@xM,@lA,@DF,@nT,@lR,@u3,@wF,@J2,@NF,@P2,@HK,@EO,@ND,@n9,@oR,@wY,@oF,@qS,@j7,@DL,@wW,@UK,@N0,@MJ,@MW,@s5,@EU,@p8,@jB,@kJ,@jA,@jR,@jK,@fO,@iO,@kE,@zC,@xO,@Q7,@yA,@NT,@uV,@QQ⟩
theorem MD2:type_of% (AI @GK (AI @E6 (AI @VK (AI @lQ (AI @yN (AI @LS (AI @AT (AI @A7 (AI @AN (AI @JL (AI @DZ (AI @KG (AI @j9 (AI @GA (AI @kL (AI @pQ (AI @iF (AI @lJ (AI @wE (AI @QJ (AI @QP (AI @JC (AI @EY (AI @ZK (AI @YC (AI @jF (AI @MN (AI @XP (AI @ED (AI @lH (AI @QY (AI @UT (AI @NX @IV))))))))))))))))))))))))))))))))):=
 ⟨@GK,@E6,@VK,@lQ,@yN,@LS,@AT,@A7,@AN,@JL,@DZ,@KG,@j9,@GA,@kL,@pQ,@iF,@lJ,@wE,@QJ,@QP,@JC,@EY,@ZK,@YC,@jF,@MN,@XP,@ED,@lH,@QY,@UT,@NX,@IV⟩
theorem MD:type_of% (AI @MD0 (AI @MD1 @MD2)):=
 ⟨@MD0,@MD1,@MD2⟩
end Ev
end Go.Proofs.YthlkcebdfbjdoaaGreat
