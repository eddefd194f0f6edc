/-
  What the evaluator is told of each function, and each function's code as an equation. Written by a program.
-/
import Derived.Test.YthlkcebdfbjdoaaGreatEvPrim
import Derived.Test.YthlkcebdfbjdoaaGreatChecked
set_option linter.unusedSimpArgs false
set_option linter.unusedVariables false
set_option maxRecDepth 100000
namespace Go.Proofs.YthlkcebdfbjdoaaGreat
namespace Ev
def aP:Nat->Nat->List Bool
 |0,_=>[]
 |n+1,k=>(k % 2==1)::aP n (k/2)
noncomputable def aQA:List (Nat×Hint):=[
 (4,{ mode:=1,exp:=false,thaw:=[],live:=aP 134 32300}),
 (8,{ mode:=2,exp:=false,thaw:=[],live:=aP 0 0}),
 (9,{ mode:=3,exp:=true,thaw:=[],live:=aP 68 1000796099450352}),
 (10,{ mode:=2,exp:=false,thaw:=[],live:=aP 72 8176}),
 (11,{ mode:=1,exp:=false,thaw:=[],live:=aP 26 51}),
 (12,{ mode:=1,exp:=false,thaw:=[],live:=aP 26 98323}),
 (13,{ mode:=1,exp:=false,thaw:=[],live:=aP 0 0}),
 (14,{ mode:=3,exp:=true,thaw:=[0,0,0,2],live:=aP 31 12302}),
 (15,{ mode:=3,exp:=true,thaw:=[],live:=aP 47 49214}),
 (16,{ mode:=1,exp:=false,thaw:=[],live:=aP 0 0}),
 (17,{ mode:=1,exp:=false,thaw:=[],live:=aP 18 51}),
 (18,{ mode:=1,exp:=false,thaw:=[],live:=aP 0 0}),
 (27,{ mode:=2,exp:=true,thaw:=[],live:=aP 0 0}),
 (28,{ mode:=0,exp:=false,thaw:=[],live:=aP 0 0}),
 (29,{ mode:=0,exp:=false,thaw:=[],live:=aP 0 0}),
 (30,{ mode:=1,exp:=false,thaw:=[],live:=aP 65 1972248982323214}),
 (31,{ mode:=2,exp:=false,thaw:=(W8 (W4 [2002])),live:=aP 48 3787457267}),
 (32,{ mode:=0,exp:=false,thaw:=[],live:=aP 0 0}),
 (33,{ mode:=0,exp:=true,thaw:=[],live:=aP 0 0}),
 (34,{ mode:=1,exp:=false,thaw:=[],live:=aP 0 0}),
 (35,{ mode:=1,exp:=false,thaw:=[],live:=aP 44 30}),
 (36,{ mode:=2,exp:=false,thaw:=[],live:=aP 32 60}),
 (37,{ mode:=2,exp:=false,thaw:=[],live:=aP 47 62}),
 (38,{ mode:=2,exp:=false,thaw:=[],live:=aP 47 498}),
 (39,{ mode:=0,exp:=false,thaw:=[],live:=aP 47 115}),
 (40,{ mode:=1,exp:=false,thaw:=[],live:=aP 0 0}),
 (41,{ mode:=1,exp:=false,thaw:=[],live:=aP 0 0}),
 (42,{ mode:=1,exp:=false,thaw:=[],live:=aP 0 0}),
 (43,{ mode:=1,exp:=false,thaw:=[],live:=aP 0 0}),
 (44,{ mode:=1,exp:=false,thaw:=[],live:=aP 0 0}),
 (45,{ mode:=0,exp:=false,thaw:=[],live:=aP 0 0}),
 (46,{ mode:=1,exp:=false,thaw:=[],live:=aP 0 0}),
 (47,{ mode:=1,exp:=false,thaw:=[],live:=aP 0 0}),
 (48,{ mode:=0,exp:=false,thaw:=(W32 (W32 (W16 (W8 (W4 (W1 [1002])))))),live:=aP 0 0}),
 (49,{ mode:=0,exp:=false,thaw:=[],live:=aP 0 0}),
 (50,{ mode:=0,exp:=false,thaw:=[],live:=aP 0 0}),
 (56,{ mode:=1,exp:=false,thaw:=[],live:=aP 0 0}),
 (59,{ mode:=0,exp:=false,thaw:=(W32 (W32 (W16 (W2 (W1 [1002,0,0,0,0,0,0,0,0,0,0,0,0,0,0,0,0,0,0,0,0,0,1002]))))),live:=aP 114 112}),
 (60,{ mode:=0,exp:=false,thaw:=[],live:=aP 36 29}),
 (61,{ mode:=0,exp:=true,thaw:=(W32 (W4 (W1 [1002]))),live:=aP 49 4037}),
 (62,{ mode:=0,exp:=false,thaw:=[],live:=aP 0 0}),
 (63,{ mode:=2,exp:=false,thaw:=[0,0,0,2],live:=aP 17 45}),
 (64,{ mode:=1,exp:=false,thaw:=[],live:=aP 0 0}),
 (65,{ mode:=2,exp:=false,thaw:=[],live:=aP 0 0}),
 (66,{ mode:=0,exp:=false,thaw:=[],live:=aP 14 33}),
 (67,{ mode:=1,exp:=false,thaw:=[],live:=aP 18 460}),
 (68,{ mode:=1,exp:=false,thaw:=[],live:=aP 0 0}),
 (69,{ mode:=1,exp:=false,thaw:=[],live:=aP 0 0}),
 (70,{ mode:=1,exp:=false,thaw:=[],live:=aP 0 0}),
 (71,{ mode:=1,exp:=false,thaw:=[],live:=aP 31 197}),
 (72,{ mode:=2,exp:=false,thaw:=[],live:=aP 18 29}),
 (73,{ mode:=2,exp:=false,thaw:=[],live:=aP 69 254}),
 (74,{ mode:=1,exp:=false,thaw:=[],live:=aP 0 0}),
 (75,{ mode:=1,exp:=false,thaw:=[],live:=aP 0 0}),
 (76,{ mode:=1,exp:=false,thaw:=[],live:=aP 18 51}),
 (77,{ mode:=1,exp:=false,thaw:=[],live:=aP 0 0}),
 (78,{ mode:=1,exp:=false,thaw:=[],live:=aP 27 115}),
 (79,{ mode:=1,exp:=false,thaw:=[],live:=aP 0 0}),
 (80,{ mode:=0,exp:=false,thaw:=[],live:=aP 0 0}),
 (81,{ mode:=0,exp:=false,thaw:=[],live:=aP 148 3103}),
 (82,{ mode:=1,exp:=false,thaw:=[],live:=aP 0 0}),
 (83,{ mode:=0,exp:=false,thaw:=[],live:=aP 0 0}),
 (84,{ mode:=1,exp:=false,thaw:=[],live:=aP 19 403}),
 (85,{ mode:=2,exp:=true,thaw:=(W16 (W8 (W4 [1002]))),live:=aP 32 30}),
 (86,{ mode:=2,exp:=false,thaw:=[],live:=aP 72 413}),
 (87,{ mode:=0,exp:=false,thaw:=[],live:=aP 0 0}),
 (88,{ mode:=2,exp:=false,thaw:=[],live:=aP 0 0}),
 (89,{ mode:=0,exp:=false,thaw:=[],live:=aP 0 0}),
 (92,{ mode:=2,exp:=false,thaw:=[],live:=aP 54 240553558140}),
 (93,{ mode:=0,exp:=false,thaw:=[],live:=aP 0 0}),
 (94,{ mode:=1,exp:=false,thaw:=(W16 (W2 [2])),live:=aP 63 61632781151244}),
 (95,{ mode:=0,exp:=false,thaw:=[],live:=aP 0 0}),
 (98,{ mode:=2,exp:=false,thaw:=[],live:=aP 0 0}),
 (99,{ mode:=1,exp:=false,thaw:=[],live:=aP 0 0}),
 (100,{ mode:=1,exp:=false,thaw:=[],live:=aP 0 0}),
 (101,{ mode:=1,exp:=false,thaw:=[],live:=aP 0 0}),
 (102,{ mode:=2,exp:=false,thaw:=[],live:=aP 43 126}),
 (103,{ mode:=1,exp:=false,thaw:=[],live:=aP 15 51}),
 (104,{ mode:=1,exp:=false,thaw:=[],live:=aP 0 0}),
 (105,{ mode:=1,exp:=false,thaw:=[],live:=aP 107 65534}),
 (106,{ mode:=1,exp:=false,thaw:=[],live:=aP 0 0}),
 (107,{ mode:=0,exp:=false,thaw:=[],live:=aP 0 0}),
 (108,{ mode:=0,exp:=false,thaw:=[],live:=aP 53 783}),
 (109,{ mode:=0,exp:=false,thaw:=[],live:=aP 60 7945}),
 (110,{ mode:=0,exp:=false,thaw:=[],live:=aP 67 3843}),
 (111,{ mode:=0,exp:=false,thaw:=[],live:=aP 0 0}),
 (112,{ mode:=0,exp:=false,thaw:=[],live:=aP 34 769}),
 (113,{ mode:=0,exp:=false,thaw:=[],live:=aP 141 7951}),
 (114,{ mode:=0,exp:=false,thaw:=[],live:=aP 90 7187}),
 (115,{ mode:=0,exp:=false,thaw:=[],live:=aP 178 15379}),
 (116,{ mode:=1,exp:=false,thaw:=[],live:=aP 0 0}),
 (117,{ mode:=1,exp:=false,thaw:=[],live:=aP 0 0}),
 (118,{ mode:=2,exp:=false,thaw:=[],live:=aP 36 243}),
 (119,{ mode:=1,exp:=false,thaw:=[],live:=aP 14 29}),
 (120,{ mode:=2,exp:=false,thaw:=[],live:=aP 36 124}),
 (121,{ mode:=1,exp:=false,thaw:=[],live:=aP 54 94}),
 (122,{ mode:=0,exp:=false,thaw:=[],live:=aP 49 964}),
 (126,{ mode:=0,exp:=false,thaw:=(W8 (W2 [2])),live:=aP 50 118331}),
 (127,{ mode:=1,exp:=false,thaw:=[0,0,0,2],live:=aP 32 29}),
 (128,{ mode:=1,exp:=false,thaw:=[],live:=aP 18 51}),
 (129,{ mode:=2,exp:=false,thaw:=[],live:=aP 41 62}),
 (130,{ mode:=2,exp:=false,thaw:=[],live:=aP 48 8142}),
 (131,{ mode:=1,exp:=false,thaw:=[],live:=aP 64 196}),
 (132,{ mode:=2,exp:=false,thaw:=[],live:=aP 33 115}),
 (133,{ mode:=0,exp:=false,thaw:=[],live:=aP 35 115}),
 (134,{ mode:=1,exp:=false,thaw:=[],live:=aP 25 115}),
 (135,{ mode:=2,exp:=false,thaw:=[],live:=aP 64 31775}),
 (136,{ mode:=1,exp:=false,thaw:=[],live:=aP 23 13}),
 (137,{ mode:=0,exp:=false,thaw:=[],live:=aP 82 1053}),
 (138,{ mode:=1,exp:=false,thaw:=[],live:=aP 0 0}),
 (140,{ mode:=0,exp:=false,thaw:=[],live:=aP 0 0}),
 (141,{ mode:=0,exp:=false,thaw:=[],live:=aP 0 0}),
 (142,{ mode:=1,exp:=false,thaw:=[],live:=aP 27 60}),
 (143,{ mode:=1,exp:=false,thaw:=[],live:=aP 67 125}),
 (144,{ mode:=1,exp:=false,thaw:=[],live:=aP 31 13}),
 (147,{ mode:=1,exp:=false,thaw:=[],live:=aP 0 0}),
 (148,{ mode:=1,exp:=false,thaw:=[],live:=aP 0 0}),
 (149,{ mode:=0,exp:=false,thaw:=[],live:=aP 28 13}),
 (150,{ mode:=2,exp:=false,thaw:=[],live:=aP 62 32542}),
 (151,{ mode:=1,exp:=false,thaw:=[],live:=aP 0 0}),
 (152,{ mode:=1,exp:=false,thaw:=[],live:=aP 36 455}),
 (153,{ mode:=0,exp:=false,thaw:=[],live:=aP 0 0}),
 (156,{ mode:=1,exp:=false,thaw:=[],live:=aP 18 115}),
 (157,{ mode:=2,exp:=false,thaw:=[],live:=aP 79 3852})]
noncomputable def aCq:List (TypeId×Nat):=[]
noncomputable def aFJ:List (Nat×(List A->H->Option (A×H))):=[(32,y8 66 34),(45,FX 34)]
noncomputable def env:Env:={ P:=Tryz.prog,hint:=fun f=>(aQA.lookup f).getD {},eqs:=aCq,prim:=fun f=>aFJ.lookup f}
theorem HR:(env.hint 4).mode=1:=kr
theorem x7:(env.hint 8).mode=2:=kr
theorem nL:(env.hint 9).mode=3:=kr
theorem FF:(env.hint 10).mode=2:=kr
theorem zL:(env.hint 11).mode=1:=kr
theorem C8:(env.hint 12).mode=1:=kr
theorem DG:(env.hint 13).mode=1:=kr
theorem mG:(env.hint 14).mode=3:=kr
theorem iU:(env.hint 15).mode=3:=kr
theorem aAh:(env.hint 16).mode=1:=kr
theorem AD:(env.hint 17).mode=1:=kr
theorem PJ:(env.hint 18).mode=1:=kr
theorem LZ:(env.hint 27).mode=2:=kr
theorem K9:(env.hint 28).mode=0:=kr
theorem HY:(env.hint 29).mode=0:=kr
theorem vC:(env.hint 30).mode=1:=kr
theorem FO:(env.hint 31).mode=2:=kr
theorem iB:(env.hint 32).mode=0:=kr
theorem dO:(env.hint 33).mode=0:=kr
theorem J3:(env.hint 34).mode=1:=kr
theorem vR:(env.hint 35).mode=1:=kr
theorem DH:(env.hint 36).mode=2:=kr
theorem tK:(env.hint 37).mode=2:=kr
theorem FK:(env.hint 38).mode=2:=kr
theorem CJ:(env.hint 39).mode=0:=kr
theorem DO:(env.hint 40).mode=1:=kr
theorem aAi:(env.hint 41).mode=1:=kr
theorem JR:(env.hint 42).mode=1:=kr
theorem E1:(env.hint 43).mode=1:=kr
theorem DC:(env.hint 44).mode=1:=kr
theorem eQ:(env.hint 45).mode=0:=kr
theorem BZ:(env.hint 46).mode=1:=kr
theorem eR:(env.hint 47).mode=1:=kr
theorem IC:(env.hint 48).mode=0:=kr
theorem DJ:(env.hint 49).mode=0:=kr
theorem PB:(env.hint 50).mode=0:=kr
theorem qY:(env.hint 56).mode=1:=kr
theorem L8:(env.hint 59).mode=0:=kr
theorem TD:(env.hint 60).mode=0:=kr
theorem J4:(env.hint 61).mode=0:=kr
theorem HF:(env.hint 62).mode=0:=kr
theorem FC:(env.hint 63).mode=2:=kr
theorem DI:(env.hint 64).mode=1:=kr
theorem oG:(env.hint 65).mode=2:=kr
theorem eV:(env.hint 66).mode=0:=kr
theorem pO:(env.hint 67).mode=1:=kr
theorem x2:(env.hint 68).mode=1:=kr
theorem sP:(env.hint 69).mode=1:=kr
theorem C9:(env.hint 70).mode=1:=kr
theorem QX:(env.hint 71).mode=1:=kr
theorem G6:(env.hint 72).mode=2:=kr
theorem O8:(env.hint 73).mode=2:=kr
theorem DP:(env.hint 74).mode=1:=kr
theorem A2:(env.hint 75).mode=1:=kr
theorem FG:(env.hint 76).mode=1:=kr
theorem P7:(env.hint 77).mode=1:=kr
theorem x9:(env.hint 78).mode=1:=kr
theorem uN:(env.hint 79).mode=1:=kr
theorem xA:(env.hint 80).mode=0:=kr
theorem j9:(env.hint 81).mode=0:=kr
theorem BR:(env.hint 82).mode=1:=kr
theorem m6:(env.hint 83).mode=0:=kr
theorem kT:(env.hint 84).mode=1:=kr
theorem t6:(env.hint 85).mode=2:=kr
theorem vG:(env.hint 86).mode=2:=kr
theorem JV:(env.hint 87).mode=0:=kr
theorem MU:(env.hint 88).mode=2:=kr
theorem OX:(env.hint 89).mode=0:=kr
theorem LR:(env.hint 92).mode=2:=kr
theorem mJ:(env.hint 93).mode=0:=kr
theorem oD:(env.hint 94).mode=1:=kr
theorem vK:(env.hint 95).mode=0:=kr
theorem jL:(env.hint 98).mode=2:=kr
theorem CB:(env.hint 99).mode=1:=kr
theorem wA:(env.hint 100).mode=1:=kr
theorem TS:(env.hint 101).mode=1:=kr
theorem MH:(env.hint 102).mode=2:=kr
theorem LI:(env.hint 103).mode=1:=kr
theorem LK:(env.hint 104).mode=1:=kr
theorem sE:(env.hint 105).mode=1:=kr
theorem DE:(env.hint 106).mode=1:=kr
theorem pD:(env.hint 107).mode=0:=kr
theorem hU:(env.hint 108).mode=0:=kr
theorem jW:(env.hint 109).mode=0:=kr
theorem hZ:(env.hint 110).mode=0:=kr
theorem iT:(env.hint 111).mode=0:=kr
theorem iJ:(env.hint 112).mode=0:=kr
theorem eO:(env.hint 113).mode=0:=kr
theorem gD:(env.hint 114).mode=0:=kr
theorem jG:(env.hint 115).mode=0:=kr
theorem xW:(env.hint 116).mode=1:=kr
theorem wH:(env.hint 117).mode=1:=kr
theorem OU:(env.hint 118).mode=2:=kr
theorem xU:(env.hint 119).mode=1:=kr
theorem K8:(env.hint 120).mode=2:=kr
theorem tQ:(env.hint 121).mode=1:=kr
theorem PD:(env.hint 122).mode=0:=kr
theorem kS:(env.hint 126).mode=0:=kr
theorem xR:(env.hint 127).mode=1:=kr
theorem KD:(env.hint 128).mode=1:=kr
theorem zE:(env.hint 129).mode=2:=kr
theorem zC:(env.hint 130).mode=2:=kr
theorem zR:(env.hint 131).mode=1:=kr
theorem JW:(env.hint 132).mode=2:=kr
theorem CO:(env.hint 133).mode=0:=kr
theorem H3:(env.hint 134).mode=1:=kr
theorem jH:(env.hint 135).mode=2:=kr
theorem FU:(env.hint 136).mode=1:=kr
theorem jV:(env.hint 137).mode=0:=kr
theorem oJ:(env.hint 138).mode=1:=kr
theorem gF:(env.hint 140).mode=0:=kr
theorem kR:(env.hint 141).mode=0:=kr
theorem vY:(env.hint 142).mode=1:=kr
theorem O6:(env.hint 143).mode=1:=kr
theorem OZ:(env.hint 144).mode=1:=kr
theorem XI:(env.hint 147).mode=1:=kr
theorem XV:(env.hint 148).mode=1:=kr
theorem iA:(env.hint 149).mode=0:=kr
theorem LO:(env.hint 150).mode=2:=kr
theorem WO:(env.hint 151).mode=1:=kr
theorem CT:(env.hint 152).mode=1:=kr
theorem kH:(env.hint 153).mode=0:=kr
theorem LL:(env.hint 156).mode=1:=kr
theorem GG:(env.hint 157).mode=2:=kr
theorem MD0:type_of% (AI @HR (AI @x7 (AI @nL (AI @FF (AI @zL (AI @C8 (AI @DG (AI @mG (AI @iU (AI @aAh (AI @AD (AI @PJ (AI @LZ (AI @K9 (AI @HY (AI @vC (AI @FO (AI @iB (AI @dO (AI @J3 (AI @vR (AI @DH (AI @tK (AI @FK (AI @CJ (AI @DO (AI @aAi (AI @JR (AI @E1 (AI @DC (AI @eQ (AI @BZ (AI @eR (AI @IC (AI @DJ (AI @PB (AI @qY (AI @L8 (AI @TD (AI @J4 (AI @HF (AI @FC (AI @DI (AI @oG (AI @eV (AI @pO (AI @x2 (AI @sP (AI @C9 (AI @QX (AI @G6 (AI @O8 (AI @DP (AI @A2 (AI @FG (AI @P7 (AI @x9 (AI @uN (AI @xA @j9))))))))))))))))))))))))))))))))))))))))))))))))))))))))))):=
 ⟨@HR,@x7,@nL,@FF,@zL,@C8,@DG,@mG,@iU,@aAh,@AD,@PJ,@LZ,@K9,@HY,@vC,@FO,@iB,@dO,@J3,@vR,@DH,@tK,@FK,@CJ,@DO,@aAi,@JR,@E1,@DC,@eQ,@BZ,@eR,@IC,@DJ,@PB,@qY,@L8,@TD,@J4,@HF,@FC,@DI,@oG,@eV,@pO,@x2,@sP,@C9,@QX,@G6,@O8,@DP,@A2,@FG,@P7,@x9,@uN,@xA,@j9⟩
theorem MD1:type_of% (AI @BR (AI @m6 (AI @kT (AI @t6 (AI @vG (AI @JV (AI @MU (AI @OX (AI @LR (AI @mJ (AI @oD (AI @vK (AI @jL (AI @CB (AI @wA (AI @TS (AI @MH (AI @LI (AI @LK (AI @sE (AI @DE (AI @pD (AI @hU (AI @jW (AI @hZ (AI @iT (AI @iJ (AI @eO (AI @gD (AI @jG (AI @xW (AI @wH (AI @OU (AI @xU (AI @K8 (AI @tQ (AI @PD (AI @kS (AI @xR (AI @KD (AI @zE (AI @zC (AI @zR (AI @JW (AI @CO (AI @H3 (AI @jH (AI @FU (AI @jV (AI @oJ (AI @gF (AI @kR (AI @vY (AI @O6 (AI @OZ (AI @XI (AI @XV (AI @iA (AI @LO @WO))))))))))))))))))))))))))))))))))))))))))))))))))))))))))):=
 ⟨@BR,@m6,@kT,@t6,@vG,@JV,@MU,@OX,@LR,@mJ,@oD,@vK,@jL,@CB,@wA,@TS,@MH,@LI,@LK,@sE,@DE,@pD,@hU,@jW,@hZ,@iT,@iJ,@eO,@gD,@jG,@xW,@wH,@OU,@xU,@K8,@tQ,@PD,@kS,@xR,@KD,@zE,@zC,@zR,@JW,@CO,@H3,@jH,@FU,@jV,@oJ,@gF,@kR,@vY,@O6,@OZ,@XI,@XV,@iA,@LO,@WO⟩
theorem MD2:type_of% (AI @CT (AI @kH (AI @LL @GG))):=
 ⟨@CT,@kH,@LL,@GG⟩
theorem MD:type_of% (AI @MD0 (AI @MD1 @MD2)):=
 ⟨@MD0,@MD1,@MD2⟩
end Ev
end Go.Proofs.YthlkcebdfbjdoaaGreat
