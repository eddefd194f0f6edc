/-
  What the evaluator is told of each function, and each function's code as an equation. Written by a program.
-/
import Derived.Test.YthlkcebdfbjdoaaGreatEvPrim
import Derived.Test.YthlkcebdfbjdoaaGreatChecked
set_option maxRecDepth 100000
namespace Go.Proofs.YthlkcebdfbjdoaaGreat
namespace Ev
def aR:Nat->Nat->List Bool
 |0,_=>[]
 |n+1,k=>(k % 2==1)::aR n (k/2)
noncomputable def aOf:List (Nat×Hint):=[
 (3,{ mode:=1,exp:=false,thaw:=[],live:=aR 88 572}),
 (4,{ mode:=1,exp:=false,thaw:=[],live:=aR 134 32300}),
 (6,{ mode:=1,exp:=false,thaw:=[],live:=aR 0 0}),
 (8,{ mode:=2,exp:=false,thaw:=[],live:=aR 0 0}),
 (9,{ mode:=3,exp:=true,thaw:=[],live:=aR 68 1000796099450352}),
 (10,{ mode:=2,exp:=false,thaw:=[],live:=aR 72 8176}),
 (11,{ mode:=1,exp:=false,thaw:=[],live:=aR 26 51}),
 (12,{ mode:=1,exp:=false,thaw:=[],live:=aR 26 98323}),
 (13,{ mode:=1,exp:=false,thaw:=[],live:=aR 0 0}),
 (14,{ mode:=3,exp:=true,thaw:=[0,0,0,2],live:=aR 31 12302}),
 (15,{ mode:=3,exp:=true,thaw:=[],live:=aR 47 49214}),
 (16,{ mode:=1,exp:=false,thaw:=[],live:=aR 0 0}),
 (17,{ mode:=1,exp:=false,thaw:=[],live:=aR 18 51}),
 (18,{ mode:=1,exp:=false,thaw:=[],live:=aR 0 0}),
 (19,{ mode:=2,exp:=false,thaw:=[],live:=aR 0 0}),
 (20,{ mode:=1,exp:=false,thaw:=[],live:=aR 41 469762264}),
 (21,{ mode:=1,exp:=false,thaw:=[],live:=aR 48 1496}),
 (23,{ mode:=1,exp:=false,thaw:=[],live:=aR 0 0}),
 (24,{ mode:=1,exp:=false,thaw:=[],live:=aR 0 0}),
 (25,{ mode:=1,exp:=false,thaw:=[],live:=aR 0 0}),
 (27,{ mode:=2,exp:=true,thaw:=[],live:=aR 0 0}),
 (28,{ mode:=0,exp:=false,thaw:=[],live:=aR 0 0}),
 (29,{ mode:=0,exp:=false,thaw:=[],live:=aR 0 0}),
 (30,{ mode:=1,exp:=false,thaw:=[],live:=aR 65 1972248982323214}),
 (31,{ mode:=2,exp:=false,thaw:=(W8 (W4 [2002])),live:=aR 48 3787457267}),
 (32,{ mode:=0,exp:=false,thaw:=[],live:=aR 0 0}),
 (33,{ mode:=0,exp:=true,thaw:=[],live:=aR 0 0}),
 (34,{ mode:=1,exp:=false,thaw:=[],live:=aR 0 0}),
 (35,{ mode:=1,exp:=false,thaw:=[],live:=aR 44 30}),
 (36,{ mode:=2,exp:=false,thaw:=[],live:=aR 32 60}),
 (37,{ mode:=2,exp:=false,thaw:=[],live:=aR 47 62}),
 (38,{ mode:=2,exp:=false,thaw:=[],live:=aR 47 498}),
 (39,{ mode:=0,exp:=false,thaw:=[],live:=aR 47 115}),
 (40,{ mode:=1,exp:=false,thaw:=[],live:=aR 0 0}),
 (41,{ mode:=1,exp:=false,thaw:=[],live:=aR 0 0}),
 (42,{ mode:=1,exp:=false,thaw:=[],live:=aR 0 0}),
 (43,{ mode:=1,exp:=false,thaw:=[],live:=aR 0 0}),
 (44,{ mode:=1,exp:=false,thaw:=[],live:=aR 0 0}),
 (45,{ mode:=0,exp:=false,thaw:=[],live:=aR 0 0}),
 (46,{ mode:=1,exp:=false,thaw:=[],live:=aR 0 0}),
 (47,{ mode:=1,exp:=false,thaw:=[],live:=aR 0 0}),
 (48,{ mode:=0,exp:=false,thaw:=(W32 (W32 (W16 (W8 (W4 (W1 [1002])))))),live:=aR 0 0}),
 (49,{ mode:=0,exp:=false,thaw:=[],live:=aR 0 0}),
 (50,{ mode:=0,exp:=false,thaw:=[],live:=aR 0 0}),
 (51,{ mode:=2,exp:=false,thaw:=[],live:=aR 0 0}),
 (52,{ mode:=1,exp:=false,thaw:=[],live:=aR 0 0}),
 (53,{ mode:=1,exp:=false,thaw:=[],live:=aR 0 0}),
 (54,{ mode:=1,exp:=false,thaw:=[],live:=aR 0 0}),
 (55,{ mode:=1,exp:=false,thaw:=[],live:=aR 35 6291570}),
 (56,{ mode:=1,exp:=false,thaw:=[],live:=aR 0 0}),
 (57,{ mode:=0,exp:=false,thaw:=[],live:=aR 0 0}),
 (59,{ mode:=0,exp:=false,thaw:=(W32 (W32 (W16 (W2 (W1 [1002,0,0,0,0,0,0,0,0,0,0,0,0,0,0,0,0,0,0,0,0,0,1002]))))),live:=aR 114 112}),
 (60,{ mode:=0,exp:=false,thaw:=[],live:=aR 36 29}),
 (61,{ mode:=0,exp:=true,thaw:=(W32 (W4 (W1 [1002]))),live:=aR 49 4037}),
 (62,{ mode:=0,exp:=false,thaw:=[],live:=aR 0 0}),
 (63,{ mode:=2,exp:=false,thaw:=[0,0,0,2],live:=aR 17 45}),
 (64,{ mode:=1,exp:=false,thaw:=[],live:=aR 0 0}),
 (65,{ mode:=2,exp:=false,thaw:=[],live:=aR 0 0}),
 (66,{ mode:=0,exp:=false,thaw:=[],live:=aR 14 33}),
 (67,{ mode:=1,exp:=false,thaw:=[],live:=aR 18 460}),
 (68,{ mode:=1,exp:=false,thaw:=[],live:=aR 0 0}),
 (69,{ mode:=1,exp:=false,thaw:=[],live:=aR 0 0}),
 (70,{ mode:=1,exp:=false,thaw:=[],live:=aR 0 0}),
 (71,{ mode:=1,exp:=false,thaw:=[],live:=aR 31 197}),
 (72,{ mode:=2,exp:=false,thaw:=[],live:=aR 18 29}),
 (73,{ mode:=2,exp:=false,thaw:=[],live:=aR 69 254}),
 (74,{ mode:=1,exp:=false,thaw:=[],live:=aR 0 0}),
 (75,{ mode:=1,exp:=false,thaw:=[],live:=aR 0 0}),
 (76,{ mode:=1,exp:=false,thaw:=[],live:=aR 18 51}),
 (77,{ mode:=1,exp:=false,thaw:=[],live:=aR 0 0}),
 (78,{ mode:=1,exp:=false,thaw:=[],live:=aR 27 115}),
 (79,{ mode:=1,exp:=false,thaw:=[],live:=aR 0 0}),
 (80,{ mode:=0,exp:=false,thaw:=[],live:=aR 0 0}),
 (81,{ mode:=0,exp:=false,thaw:=[],live:=aR 148 3103}),
 (82,{ mode:=1,exp:=false,thaw:=[],live:=aR 0 0}),
 (83,{ mode:=0,exp:=false,thaw:=[],live:=aR 0 0}),
 (84,{ mode:=1,exp:=false,thaw:=[],live:=aR 19 403}),
 (85,{ mode:=2,exp:=true,thaw:=(W16 (W8 (W4 [1002]))),live:=aR 32 30}),
 (86,{ mode:=2,exp:=false,thaw:=[],live:=aR 72 413}),
 (87,{ mode:=0,exp:=false,thaw:=[],live:=aR 0 0}),
 (88,{ mode:=2,exp:=false,thaw:=[],live:=aR 0 0}),
 (89,{ mode:=0,exp:=false,thaw:=[],live:=aR 0 0}),
 (90,{ mode:=2,exp:=false,thaw:=[],live:=aR 71 2044}),
 (91,{ mode:=1,exp:=false,thaw:=[],live:=aR 0 0}),
 (92,{ mode:=2,exp:=false,thaw:=[],live:=aR 54 240553558140}),
 (93,{ mode:=0,exp:=false,thaw:=[],live:=aR 0 0}),
 (94,{ mode:=1,exp:=false,thaw:=(W16 (W2 [2])),live:=aR 63 61632781151244}),
 (95,{ mode:=0,exp:=false,thaw:=[],live:=aR 0 0}),
 (98,{ mode:=2,exp:=false,thaw:=[],live:=aR 0 0}),
 (99,{ mode:=1,exp:=false,thaw:=[],live:=aR 0 0}),
 (100,{ mode:=1,exp:=false,thaw:=[],live:=aR 0 0}),
 (101,{ mode:=1,exp:=false,thaw:=[],live:=aR 0 0}),
 (102,{ mode:=2,exp:=false,thaw:=[],live:=aR 43 126}),
 (103,{ mode:=1,exp:=false,thaw:=[],live:=aR 15 51}),
 (104,{ mode:=1,exp:=false,thaw:=[],live:=aR 0 0}),
 (105,{ mode:=1,exp:=false,thaw:=[],live:=aR 107 65534}),
 (106,{ mode:=1,exp:=false,thaw:=[],live:=aR 0 0}),
 (107,{ mode:=0,exp:=false,thaw:=[],live:=aR 0 0}),
 (108,{ mode:=0,exp:=false,thaw:=[],live:=aR 53 783}),
 (109,{ mode:=0,exp:=false,thaw:=[],live:=aR 60 7945}),
 (110,{ mode:=0,exp:=false,thaw:=[],live:=aR 67 3843}),
 (111,{ mode:=0,exp:=false,thaw:=[],live:=aR 0 0}),
 (112,{ mode:=0,exp:=false,thaw:=[],live:=aR 34 769}),
 (113,{ mode:=0,exp:=false,thaw:=[],live:=aR 141 7951}),
 (114,{ mode:=0,exp:=false,thaw:=[],live:=aR 90 7187}),
 (115,{ mode:=0,exp:=false,thaw:=[],live:=aR 178 15379}),
 (116,{ mode:=1,exp:=false,thaw:=[],live:=aR 0 0}),
 (117,{ mode:=1,exp:=false,thaw:=[],live:=aR 0 0}),
 (118,{ mode:=2,exp:=false,thaw:=[],live:=aR 36 243}),
 (119,{ mode:=1,exp:=false,thaw:=[],live:=aR 14 29}),
 (120,{ mode:=2,exp:=false,thaw:=[],live:=aR 36 124}),
 (121,{ mode:=1,exp:=false,thaw:=[],live:=aR 54 94}),
 (122,{ mode:=0,exp:=false,thaw:=[],live:=aR 49 964}),
 (123,{ mode:=2,exp:=false,thaw:=[],live:=aR 44 446}),
 (124,{ mode:=1,exp:=false,thaw:=[],live:=aR 0 0}),
 (125,{ mode:=1,exp:=false,thaw:=[],live:=aR 21 206}),
 (126,{ mode:=0,exp:=false,thaw:=(W8 (W2 [2])),live:=aR 50 118331}),
 (127,{ mode:=1,exp:=false,thaw:=[0,0,0,2],live:=aR 32 29}),
 (128,{ mode:=1,exp:=false,thaw:=[],live:=aR 18 51}),
 (129,{ mode:=2,exp:=false,thaw:=[],live:=aR 41 62}),
 (130,{ mode:=2,exp:=false,thaw:=[],live:=aR 48 8142}),
 (131,{ mode:=1,exp:=false,thaw:=[],live:=aR 64 196}),
 (132,{ mode:=2,exp:=false,thaw:=[],live:=aR 33 115}),
 (133,{ mode:=0,exp:=false,thaw:=[],live:=aR 35 115}),
 (134,{ mode:=1,exp:=false,thaw:=[],live:=aR 25 115}),
 (135,{ mode:=2,exp:=false,thaw:=[],live:=aR 64 31775}),
 (136,{ mode:=1,exp:=false,thaw:=[],live:=aR 23 13}),
 (137,{ mode:=0,exp:=false,thaw:=[],live:=aR 82 1053}),
 (138,{ mode:=1,exp:=false,thaw:=[],live:=aR 0 0}),
 (140,{ mode:=0,exp:=false,thaw:=[],live:=aR 0 0}),
 (141,{ mode:=0,exp:=false,thaw:=[],live:=aR 0 0}),
 (142,{ mode:=1,exp:=false,thaw:=[],live:=aR 27 60}),
 (143,{ mode:=1,exp:=false,thaw:=[],live:=aR 67 125}),
 (144,{ mode:=1,exp:=false,thaw:=[],live:=aR 31 13}),
 (145,{ mode:=2,exp:=false,thaw:=[],live:=aR 47 2038}),
 (146,{ mode:=1,exp:=false,thaw:=[],live:=aR 22 61}),
 (147,{ mode:=1,exp:=false,thaw:=[],live:=aR 0 0}),
 (148,{ mode:=1,exp:=false,thaw:=[],live:=aR 0 0}),
 (149,{ mode:=0,exp:=false,thaw:=[],live:=aR 28 13}),
 (150,{ mode:=2,exp:=false,thaw:=[],live:=aR 62 32542}),
 (151,{ mode:=1,exp:=false,thaw:=[],live:=aR 0 0}),
 (152,{ mode:=1,exp:=false,thaw:=[],live:=aR 36 455}),
 (153,{ mode:=0,exp:=false,thaw:=[],live:=aR 0 0}),
 (154,{ mode:=1,exp:=false,thaw:=[],live:=aR 52 798}),
 (155,{ mode:=1,exp:=false,thaw:=[],live:=aR 0 0}),
 (156,{ mode:=1,exp:=false,thaw:=[],live:=aR 18 115}),
 (157,{ mode:=2,exp:=false,thaw:=[],live:=aR 79 3852})]
noncomputable def aAJ:List (TypeId×Nat):=[]
noncomputable def aDm:List (Nat×(List A->H->Option (A×H))):=[(32,x2 66 34),(45,DY 34)]
noncomputable def env:Env:={ P:=Tryz.prog,hint:=fun f=>(aOf.lookup f).getD {},eqs:=aAJ,prim:=fun f=>aDm.lookup f}
theorem EB:(env.hint 9).mode=3:=kr
theorem aAt:(env.hint 11).mode=1:=kr
theorem AW:(env.hint 12).mode=1:=kr
theorem RI:(env.hint 14).mode=3:=kr
theorem G5:(env.hint 15).mode=3:=kr
theorem GP:(env.hint 29).mode=0:=kr
theorem wM:(env.hint 32).mode=0:=kr
theorem lT:(env.hint 33).mode=0:=kr
theorem AC:(env.hint 39).mode=0:=kr
theorem sA:(env.hint 45).mode=0:=kr
theorem r5:(env.hint 47).mode=1:=kr
theorem AZ:(env.hint 49).mode=0:=kr
theorem PN:(env.hint 56).mode=1:=kr
theorem CB:(env.hint 62).mode=0:=kr
theorem EG:(env.hint 63).mode=2:=kr
theorem WQ:(env.hint 67).mode=1:=kr
theorem NZ:(env.hint 71).mode=1:=kr
theorem DH:(env.hint 72).mode=2:=kr
theorem aEJ:(env.hint 76).mode=1:=kr
theorem LX:(env.hint 77).mode=1:=kr
theorem YC:(env.hint 78).mode=1:=kr
theorem UR:(env.hint 79).mode=1:=kr
theorem HH:(env.hint 83).mode=0:=kr
theorem MG:(env.hint 85).mode=2:=kr
theorem HJ:(env.hint 92).mode=2:=kr
theorem I6:(env.hint 93).mode=0:=kr
theorem m5:(env.hint 94).mode=1:=kr
theorem H5:(env.hint 103).mode=1:=kr
theorem IB:(env.hint 105).mode=1:=kr
theorem MR:(env.hint 107).mode=0:=kr
theorem wZ:(env.hint 126).mode=0:=kr
theorem ZN:(env.hint 127).mode=1:=kr
theorem aFN:(env.hint 128).mode=1:=kr
theorem aAX:(env.hint 129).mode=2:=kr
theorem aAM:(env.hint 130).mode=2:=kr
theorem xJ:(env.hint 131).mode=1:=kr
theorem FN:(env.hint 132).mode=2:=kr
theorem aCZ:(env.hint 133).mode=0:=kr
theorem oW:(env.hint 135).mode=2:=kr
theorem wK:(env.hint 149).mode=0:=kr
theorem IX:(env.hint 150).mode=2:=kr
theorem R8:(env.hint 151).mode=1:=kr
theorem aDd:(env.hint 152).mode=1:=kr
theorem IZ:(env.hint 156).mode=1:=kr
theorem EC:(env.hint 157).mode=2:=kr
theorem MD0:type_of% (AI @AW (AI @GP (AI @AC (AI @AZ (AI @CB @EG))))):=
 ⟨@AW,@GP,@AC,@AZ,@CB,@EG⟩
theorem MD1:type_of% (AI @NZ (AI @DH (AI @LX (AI @HJ (AI @m5 @H5))))):=
 ⟨@NZ,@DH,@LX,@HJ,@m5,@H5⟩
theorem MD2:type_of% (AI @xJ (AI @FN (AI @IX (AI @R8 (AI @IZ @EC))))):=
 ⟨@xJ,@FN,@IX,@R8,@IZ,@EC⟩
theorem MD:type_of% (AI @MD0 (AI @MD1 @MD2)):=
 ⟨@MD0,@MD1,@MD2⟩
end Ev
end Go.Proofs.YthlkcebdfbjdoaaGreat
