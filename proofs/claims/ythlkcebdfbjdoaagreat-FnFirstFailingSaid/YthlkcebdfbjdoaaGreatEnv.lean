/-
  What the evaluator is told of each function, and each function's code as an equation. Written by a program.
-/
import Derived.Test.YthlkcebdfbjdoaaGreatEvPrim
import Derived.Test.YthlkcebdfbjdoaaGreatChecked
set_option linter.unusedSimpArgs false
set_option linter.unusedVariables false
set_option maxRecDepth 100000
namespace Go.Proofs.YthlkcebdfbjdoaaGreat
namespace Ev
def aP:Nat->Nat->List Bool
 |0,_=>[]
 |n+1,k=>(k % 2==1)::aP n (k/2)
noncomputable def aUa:List (Nat×Hint):=[
 (6,{ mode:=1,exp:=false,thaw:=[],live:=aP 0 0}),
 (9,{ mode:=3,exp:=true,thaw:=[],live:=aP 68 1000796099450352}),
 (10,{ mode:=2,exp:=false,thaw:=[],live:=aP 72 8176}),
 (12,{ mode:=1,exp:=false,thaw:=[],live:=aP 26 98323}),
 (13,{ mode:=1,exp:=false,thaw:=[],live:=aP 0 0}),
 (14,{ mode:=3,exp:=true,thaw:=[0,0,0,2],live:=aP 31 12302}),
 (15,{ mode:=3,exp:=true,thaw:=[],live:=aP 47 49214}),
 (17,{ mode:=1,exp:=false,thaw:=[],live:=aP 18 51}),
 (19,{ mode:=2,exp:=false,thaw:=[],live:=aP 0 0}),
 (20,{ mode:=1,exp:=false,thaw:=[],live:=aP 41 469762264}),
 (21,{ mode:=1,exp:=false,thaw:=[],live:=aP 48 1496}),
 (23,{ mode:=1,exp:=false,thaw:=[],live:=aP 0 0}),
 (24,{ mode:=1,exp:=false,thaw:=[],live:=aP 0 0}),
 (25,{ mode:=1,exp:=false,thaw:=[],live:=aP 0 0}),
 (27,{ mode:=2,exp:=true,thaw:=[],live:=aP 0 0}),
 (28,{ mode:=0,exp:=false,thaw:=[],live:=aP 0 0}),
 (29,{ mode:=0,exp:=false,thaw:=[],live:=aP 0 0}),
 (30,{ mode:=1,exp:=false,thaw:=[],live:=aP 65 1972248982323214}),
 (31,{ mode:=2,exp:=false,thaw:=(W8 (W4 [2002])),live:=aP 48 3787457267}),
 (32,{ mode:=0,exp:=false,thaw:=[],live:=aP 0 0}),
 (33,{ mode:=0,exp:=true,thaw:=[],live:=aP 0 0}),
 (34,{ mode:=1,exp:=false,thaw:=[],live:=aP 0 0}),
 (35,{ mode:=1,exp:=false,thaw:=[],live:=aP 44 30}),
 (36,{ mode:=2,exp:=false,thaw:=[],live:=aP 32 60}),
 (37,{ mode:=2,exp:=false,thaw:=[],live:=aP 47 62}),
 (38,{ mode:=2,exp:=false,thaw:=[],live:=aP 47 498}),
 (39,{ mode:=0,exp:=false,thaw:=[],live:=aP 47 115}),
 (40,{ mode:=1,exp:=false,thaw:=[],live:=aP 0 0}),
 (41,{ mode:=1,exp:=false,thaw:=[],live:=aP 0 0}),
 (42,{ mode:=1,exp:=false,thaw:=[],live:=aP 0 0}),
 (43,{ mode:=1,exp:=false,thaw:=[],live:=aP 0 0}),
 (44,{ mode:=1,exp:=false,thaw:=[],live:=aP 0 0}),
 (45,{ mode:=0,exp:=false,thaw:=[],live:=aP 0 0}),
 (46,{ mode:=1,exp:=false,thaw:=[],live:=aP 0 0}),
 (47,{ mode:=1,exp:=false,thaw:=[],live:=aP 0 0}),
 (48,{ mode:=0,exp:=false,thaw:=(W32 (W32 (W16 (W8 (W4 (W1 [1002])))))),live:=aP 0 0}),
 (49,{ mode:=0,exp:=false,thaw:=[],live:=aP 0 0}),
 (50,{ mode:=0,exp:=false,thaw:=[],live:=aP 0 0}),
 (51,{ mode:=2,exp:=false,thaw:=[],live:=aP 0 0}),
 (52,{ mode:=1,exp:=false,thaw:=[],live:=aP 0 0}),
 (53,{ mode:=1,exp:=false,thaw:=[],live:=aP 0 0}),
 (54,{ mode:=1,exp:=false,thaw:=[],live:=aP 0 0}),
 (55,{ mode:=1,exp:=false,thaw:=[],live:=aP 35 6291570}),
 (56,{ mode:=1,exp:=false,thaw:=[],live:=aP 0 0}),
 (57,{ mode:=0,exp:=false,thaw:=[],live:=aP 0 0}),
 (59,{ mode:=0,exp:=false,thaw:=(W32 (W32 (W16 (W2 (W1 [1002,0,0,0,0,0,0,0,0,0,0,0,0,0,0,0,0,0,0,0,0,0,1002]))))),live:=aP 114 112}),
 (60,{ mode:=0,exp:=false,thaw:=[],live:=aP 36 29}),
 (61,{ mode:=0,exp:=true,thaw:=(W32 (W4 (W1 [1002]))),live:=aP 49 4037}),
 (62,{ mode:=0,exp:=false,thaw:=[],live:=aP 0 0}),
 (63,{ mode:=2,exp:=false,thaw:=[0,0,0,2],live:=aP 17 45}),
 (64,{ mode:=1,exp:=false,thaw:=[],live:=aP 0 0}),
 (65,{ mode:=2,exp:=false,thaw:=[],live:=aP 0 0}),
 (66,{ mode:=0,exp:=false,thaw:=[],live:=aP 14 33}),
 (67,{ mode:=1,exp:=false,thaw:=[],live:=aP 18 460}),
 (68,{ mode:=1,exp:=false,thaw:=[],live:=aP 0 0}),
 (69,{ mode:=1,exp:=false,thaw:=[],live:=aP 0 0}),
 (70,{ mode:=1,exp:=false,thaw:=[],live:=aP 0 0}),
 (71,{ mode:=1,exp:=false,thaw:=[],live:=aP 31 197}),
 (72,{ mode:=2,exp:=false,thaw:=[],live:=aP 18 29}),
 (73,{ mode:=2,exp:=false,thaw:=[],live:=aP 69 254}),
 (74,{ mode:=1,exp:=false,thaw:=[],live:=aP 0 0}),
 (75,{ mode:=1,exp:=false,thaw:=[],live:=aP 0 0}),
 (76,{ mode:=1,exp:=false,thaw:=[],live:=aP 18 51}),
 (77,{ mode:=1,exp:=false,thaw:=[],live:=aP 0 0}),
 (78,{ mode:=1,exp:=false,thaw:=[],live:=aP 27 115}),
 (79,{ mode:=1,exp:=false,thaw:=[],live:=aP 0 0}),
 (80,{ mode:=0,exp:=false,thaw:=[],live:=aP 0 0}),
 (81,{ mode:=0,exp:=false,thaw:=[],live:=aP 148 3103}),
 (82,{ mode:=1,exp:=false,thaw:=[],live:=aP 0 0}),
 (83,{ mode:=0,exp:=false,thaw:=[],live:=aP 0 0}),
 (84,{ mode:=1,exp:=false,thaw:=[],live:=aP 19 403}),
 (85,{ mode:=2,exp:=true,thaw:=(W16 (W8 (W4 [1002]))),live:=aP 32 30}),
 (86,{ mode:=2,exp:=false,thaw:=[],live:=aP 72 413}),
 (87,{ mode:=0,exp:=false,thaw:=[],live:=aP 0 0}),
 (88,{ mode:=2,exp:=false,thaw:=[],live:=aP 0 0}),
 (89,{ mode:=0,exp:=false,thaw:=[],live:=aP 0 0}),
 (90,{ mode:=2,exp:=false,thaw:=[],live:=aP 71 2044}),
 (91,{ mode:=1,exp:=false,thaw:=[],live:=aP 0 0}),
 (92,{ mode:=2,exp:=false,thaw:=[],live:=aP 54 240553558140}),
 (93,{ mode:=0,exp:=false,thaw:=[],live:=aP 0 0}),
 (94,{ mode:=1,exp:=false,thaw:=(W16 (W2 [2])),live:=aP 63 61632781151244}),
 (95,{ mode:=0,exp:=false,thaw:=[],live:=aP 0 0}),
 (98,{ mode:=2,exp:=false,thaw:=[],live:=aP 0 0}),
 (99,{ mode:=1,exp:=false,thaw:=[],live:=aP 0 0}),
 (100,{ mode:=1,exp:=false,thaw:=[],live:=aP 0 0}),
 (101,{ mode:=1,exp:=false,thaw:=[],live:=aP 0 0}),
 (102,{ mode:=2,exp:=false,thaw:=[],live:=aP 43 126}),
 (103,{ mode:=1,exp:=false,thaw:=[],live:=aP 15 51}),
 (104,{ mode:=1,exp:=false,thaw:=[],live:=aP 0 0}),
 (105,{ mode:=1,exp:=false,thaw:=[],live:=aP 107 65534}),
 (106,{ mode:=1,exp:=false,thaw:=[],live:=aP 0 0}),
 (107,{ mode:=0,exp:=false,thaw:=[],live:=aP 0 0}),
 (108,{ mode:=0,exp:=false,thaw:=[],live:=aP 53 783}),
 (109,{ mode:=0,exp:=false,thaw:=[],live:=aP 60 7945}),
 (110,{ mode:=0,exp:=false,thaw:=[],live:=aP 67 3843}),
 (111,{ mode:=0,exp:=false,thaw:=[],live:=aP 0 0}),
 (112,{ mode:=0,exp:=false,thaw:=[],live:=aP 34 769}),
 (113,{ mode:=0,exp:=false,thaw:=[],live:=aP 141 7951}),
 (114,{ mode:=0,exp:=false,thaw:=[],live:=aP 90 7187}),
 (115,{ mode:=0,exp:=false,thaw:=[],live:=aP 178 15379}),
 (116,{ mode:=1,exp:=false,thaw:=[],live:=aP 0 0}),
 (117,{ mode:=1,exp:=false,thaw:=[],live:=aP 0 0}),
 (118,{ mode:=2,exp:=false,thaw:=[],live:=aP 36 243}),
 (119,{ mode:=1,exp:=false,thaw:=[],live:=aP 14 29}),
 (120,{ mode:=2,exp:=false,thaw:=[],live:=aP 36 124}),
 (121,{ mode:=1,exp:=false,thaw:=[],live:=aP 54 94}),
 (122,{ mode:=0,exp:=false,thaw:=[],live:=aP 49 964}),
 (123,{ mode:=2,exp:=false,thaw:=[],live:=aP 44 446}),
 (124,{ mode:=1,exp:=false,thaw:=[],live:=aP 0 0}),
 (125,{ mode:=1,exp:=false,thaw:=[],live:=aP 21 206}),
 (126,{ mode:=0,exp:=false,thaw:=(W8 (W2 [2])),live:=aP 50 118331}),
 (127,{ mode:=1,exp:=false,thaw:=[0,0,0,2],live:=aP 32 29}),
 (128,{ mode:=1,exp:=false,thaw:=[],live:=aP 18 51}),
 (129,{ mode:=2,exp:=false,thaw:=[],live:=aP 41 62}),
 (130,{ mode:=2,exp:=false,thaw:=[],live:=aP 48 8142}),
 (131,{ mode:=1,exp:=false,thaw:=[],live:=aP 64 196}),
 (132,{ mode:=2,exp:=false,thaw:=[],live:=aP 33 115}),
 (133,{ mode:=0,exp:=false,thaw:=[],live:=aP 35 115}),
 (134,{ mode:=1,exp:=false,thaw:=[],live:=aP 25 115}),
 (135,{ mode:=2,exp:=false,thaw:=[],live:=aP 64 31775}),
 (136,{ mode:=1,exp:=false,thaw:=[],live:=aP 23 13}),
 (137,{ mode:=0,exp:=false,thaw:=[],live:=aP 82 1053}),
 (138,{ mode:=1,exp:=false,thaw:=[],live:=aP 0 0}),
 (140,{ mode:=0,exp:=false,thaw:=[],live:=aP 0 0}),
 (141,{ mode:=0,exp:=false,thaw:=[],live:=aP 0 0}),
 (142,{ mode:=1,exp:=false,thaw:=[],live:=aP 27 60}),
 (143,{ mode:=1,exp:=false,thaw:=[],live:=aP 67 125}),
 (144,{ mode:=1,exp:=false,thaw:=[],live:=aP 31 13}),
 (145,{ mode:=2,exp:=false,thaw:=[],live:=aP 47 2038}),
 (146,{ mode:=1,exp:=false,thaw:=[],live:=aP 22 61}),
 (147,{ mode:=1,exp:=false,thaw:=[],live:=aP 0 0}),
 (148,{ mode:=1,exp:=false,thaw:=[],live:=aP 0 0}),
 (149,{ mode:=0,exp:=false,thaw:=[],live:=aP 28 13}),
 (150,{ mode:=2,exp:=false,thaw:=[],live:=aP 62 32542}),
 (151,{ mode:=1,exp:=false,thaw:=[],live:=aP 0 0}),
 (152,{ mode:=1,exp:=false,thaw:=[],live:=aP 36 455}),
 (153,{ mode:=0,exp:=false,thaw:=[],live:=aP 0 0}),
 (154,{ mode:=1,exp:=false,thaw:=[],live:=aP 52 798}),
 (155,{ mode:=1,exp:=false,thaw:=[],live:=aP 0 0}),
 (156,{ mode:=1,exp:=false,thaw:=[],live:=aP 18 115}),
 (157,{ mode:=2,exp:=false,thaw:=[],live:=aP 79 3852})]
noncomputable def aFX:List (TypeId×Nat):=[]
noncomputable def aIR:List (Nat×(List A->H->Option (A×H))):=[(32,BW 66 34),(45,JX 34)]
noncomputable def env:Env:={ P:=Tryz.prog,hint:=fun f=>(aUa.lookup f).getD {},eqs:=aFX,prim:=fun f=>aIR.lookup f}
theorem AP:(env.hint 6).mode=1:=kr
theorem fU:(env.hint 9).mode=3:=kr
theorem HQ:(env.hint 10).mode=2:=kr
theorem F4:(env.hint 12).mode=1:=kr
theorem FQ:(env.hint 13).mode=1:=kr
theorem uN:(env.hint 14).mode=3:=kr
theorem mN:(env.hint 15).mode=3:=kr
theorem B2:(env.hint 17).mode=1:=kr
theorem tY:(env.hint 19).mode=2:=kr
theorem A1:(env.hint 20).mode=1:=kr
theorem AT:(env.hint 21).mode=1:=kr
theorem C5:(env.hint 23).mode=1:=kr
theorem L3:(env.hint 24).mode=1:=kr
theorem C0:(env.hint 25).mode=1:=kr
theorem O0:(env.hint 27).mode=2:=kr
theorem P9:(env.hint 28).mode=0:=kr
theorem LT:(env.hint 29).mode=0:=kr
theorem xR:(env.hint 30).mode=1:=kr
theorem JO:(env.hint 31).mode=2:=kr
theorem iM:(env.hint 32).mode=0:=kr
theorem dQ:(env.hint 33).mode=0:=kr
theorem ML:(env.hint 34).mode=1:=kr
theorem xW:(env.hint 35).mode=1:=kr
theorem FP:(env.hint 36).mode=2:=kr
theorem vG:(env.hint 37).mode=2:=kr
theorem J4:(env.hint 38).mode=2:=kr
theorem EY:(env.hint 39).mode=0:=kr
theorem FV:(env.hint 40).mode=1:=kr
theorem aEe:(env.hint 41).mode=1:=kr
theorem MH:(env.hint 42).mode=1:=kr
theorem I8:(env.hint 43).mode=1:=kr
theorem FU:(env.hint 44).mode=1:=kr
theorem fC:(env.hint 45).mode=0:=kr
theorem C7:(env.hint 46).mode=1:=kr
theorem fB:(env.hint 47).mode=1:=kr
theorem MF:(env.hint 48).mode=0:=kr
theorem F2:(env.hint 49).mode=0:=kr
theorem TW:(env.hint 50).mode=0:=kr
theorem sM:(env.hint 51).mode=2:=kr
theorem DZ:(env.hint 52).mode=1:=kr
theorem YF:(env.hint 53).mode=1:=kr
theorem D9:(env.hint 54).mode=1:=kr
theorem FS:(env.hint 55).mode=1:=kr
theorem lY:(env.hint 56).mode=1:=kr
theorem sI:(env.hint 57).mode=0:=kr
theorem OO:(env.hint 59).mode=0:=kr
theorem XK:(env.hint 60).mode=0:=kr
theorem LF:(env.hint 61).mode=0:=kr
theorem JM:(env.hint 62).mode=0:=kr
theorem JB:(env.hint 63).mode=2:=kr
theorem F8:(env.hint 64).mode=1:=kr
theorem pQ:(env.hint 65).mode=2:=kr
theorem fI:(env.hint 66).mode=0:=kr
theorem qP:(env.hint 67).mode=1:=kr
theorem yB:(env.hint 68).mode=1:=kr
theorem tZ:(env.hint 69).mode=1:=kr
theorem FO:(env.hint 70).mode=1:=kr
theorem W3:(env.hint 71).mode=1:=kr
theorem JN:(env.hint 72).mode=2:=kr
theorem SK:(env.hint 73).mode=2:=kr
theorem F0:(env.hint 74).mode=1:=kr
theorem DT:(env.hint 75).mode=1:=kr
theorem J0:(env.hint 76).mode=1:=kr
theorem TD:(env.hint 77).mode=1:=kr
theorem yS:(env.hint 78).mode=1:=kr
theorem wJ:(env.hint 79).mode=1:=kr
theorem y6:(env.hint 80).mode=0:=kr
theorem kM:(env.hint 81).mode=0:=kr
theorem C4:(env.hint 82).mode=1:=kr
theorem nH:(env.hint 83).mode=0:=kr
theorem lI:(env.hint 84).mode=1:=kr
theorem pS:(env.hint 85).mode=2:=kr
theorem xO:(env.hint 86).mode=2:=kr
theorem MI:(env.hint 87).mode=0:=kr
theorem OW:(env.hint 88).mode=2:=kr
theorem SG:(env.hint 89).mode=0:=kr
theorem J7:(env.hint 90).mode=2:=kr
theorem F9:(env.hint 91).mode=1:=kr
theorem PY:(env.hint 92).mode=2:=kr
theorem nW:(env.hint 93).mode=0:=kr
theorem oV:(env.hint 94).mode=1:=kr
theorem xC:(env.hint 95).mode=0:=kr
theorem jT:(env.hint 98).mode=2:=kr
theorem D6:(env.hint 99).mode=1:=kr
theorem xL:(env.hint 100).mode=1:=kr
theorem VV:(env.hint 101).mode=1:=kr
theorem OY:(env.hint 102).mode=2:=kr
theorem OJ:(env.hint 103).mode=1:=kr
theorem OV:(env.hint 104).mode=1:=kr
theorem tI:(env.hint 105).mode=1:=kr
theorem F1:(env.hint 106).mode=1:=kr
theorem qF:(env.hint 107).mode=0:=kr
theorem iI:(env.hint 108).mode=0:=kr
theorem j9:(env.hint 109).mode=0:=kr
theorem iJ:(env.hint 110).mode=0:=kr
theorem jD:(env.hint 111).mode=0:=kr
theorem iV:(env.hint 112).mode=0:=kr
theorem eZ:(env.hint 113).mode=0:=kr
theorem hJ:(env.hint 114).mode=0:=kr
theorem jU:(env.hint 115).mode=0:=kr
theorem yU:(env.hint 116).mode=1:=kr
theorem z8:(env.hint 117).mode=1:=kr
theorem S6:(env.hint 118).mode=2:=kr
theorem z7:(env.hint 119).mode=1:=kr
theorem OU:(env.hint 120).mode=2:=kr
theorem u9:(env.hint 121).mode=1:=kr
theorem TX:(env.hint 122).mode=0:=kr
theorem IE:(env.hint 123).mode=2:=kr
theorem FT:(env.hint 124).mode=1:=kr
theorem XH:(env.hint 125).mode=1:=kr
theorem lG:(env.hint 126).mode=0:=kr
theorem zW:(env.hint 127).mode=1:=kr
theorem NW:(env.hint 128).mode=1:=kr
theorem B8:(env.hint 129).mode=2:=kr
theorem BH:(env.hint 130).mode=2:=kr
theorem B5:(env.hint 131).mode=1:=kr
theorem MP:(env.hint 132).mode=2:=kr
theorem FE:(env.hint 133).mode=0:=kr
theorem LJ:(env.hint 134).mode=1:=kr
theorem jW:(env.hint 135).mode=2:=kr
theorem H8:(env.hint 136).mode=1:=kr
theorem j7:(env.hint 137).mode=0:=kr
theorem pP:(env.hint 138).mode=1:=kr
theorem gT:(env.hint 140).mode=0:=kr
theorem kT:(env.hint 141).mode=0:=kr
theorem xZ:(env.hint 142).mode=1:=kr
theorem TV:(env.hint 143).mode=1:=kr
theorem TL:(env.hint 144).mode=1:=kr
theorem yF:(env.hint 145).mode=2:=kr
theorem F3:(env.hint 146).mode=1:=kr
theorem aBa:(env.hint 147).mode=1:=kr
theorem aBn:(env.hint 148).mode=1:=kr
theorem iN:(env.hint 149).mode=0:=kr
theorem PN:(env.hint 150).mode=2:=kr
theorem aBp:(env.hint 151).mode=1:=kr
theorem FI:(env.hint 152).mode=1:=kr
theorem kU:(env.hint 153).mode=0:=kr
theorem TC:(env.hint 154).mode=1:=kr
theorem X9:(env.hint 155).mode=1:=kr
theorem PD:(env.hint 156).mode=1:=kr
theorem IV:(env.hint 157).mode=2:=kr
theorem MD0:type_of% (AI @AP (AI @fU (AI @HQ (AI @F4 (AI @FQ (AI @uN (AI @mN (AI @B2 (AI @tY (AI @A1 (AI @AT (AI @C5 (AI @L3 (AI @C0 (AI @O0 (AI @P9 (AI @LT (AI @xR (AI @JO (AI @iM (AI @dQ (AI @ML (AI @xW (AI @FP (AI @vG (AI @J4 (AI @EY (AI @FV (AI @aEe (AI @MH (AI @I8 (AI @FU (AI @fC (AI @C7 (AI @fB (AI @MF (AI @F2 (AI @TW (AI @sM (AI @DZ (AI @YF (AI @D9 (AI @FS (AI @lY (AI @sI (AI @OO (AI @XK (AI @LF (AI @JM (AI @JB (AI @F8 (AI @pQ (AI @fI (AI @qP (AI @yB (AI @tZ (AI @FO (AI @W3 (AI @JN @SK))))))))))))))))))))))))))))))))))))))))))))))))))))))))))):=
 ⟨@AP,@fU,@HQ,@F4,@FQ,@uN,@mN,@B2,@tY,@A1,@AT,@C5,@L3,@C0,@O0,@P9,@LT,@xR,@JO,@iM,@dQ,@ML,@xW,@FP,@vG,@J4,@EY,@FV,@aEe,@MH,@I8,@FU,@fC,@C7,@fB,@MF,@F2,@TW,@sM,@DZ,@YF,@D9,@FS,@lY,@sI,@OO,@XK,@LF,@JM,@JB,@F8,@pQ,@fI,@qP,@yB,@tZ,@FO,@W3,@JN,@SK⟩
theorem MD1:type_of% (AI @F0 (AI @DT (AI @J0 (AI @TD (AI @yS (AI @wJ (AI @y6 (AI @kM (AI @C4 (AI @nH (AI @lI (AI @pS (AI @xO (AI @MI (AI @OW (AI @SG (AI @J7 (AI @F9 (AI @PY (AI @nW (AI @oV (AI @xC (AI @jT (AI @D6 (AI @xL (AI @VV (AI @OY (AI @OJ (AI @OV (AI @tI (AI @F1 (AI @qF (AI @iI (AI @j9 (AI @iJ (AI @jD (AI @iV (AI @eZ (AI @hJ (AI @jU (AI @yU (AI @z8 (AI @S6 (AI @z7 (AI @OU (AI @u9 (AI @TX (AI @IE (AI @FT (AI @XH (AI @lG (AI @zW (AI @NW (AI @B8 (AI @BH (AI @B5 (AI @MP (AI @FE (AI @LJ @jW))))))))))))))))))))))))))))))))))))))))))))))))))))))))))):=
 ⟨@F0,@DT,@J0,@TD,@yS,@wJ,@y6,@kM,@C4,@nH,@lI,@pS,@xO,@MI,@OW,@SG,@J7,@F9,@PY,@nW,@oV,@xC,@jT,@D6,@xL,@VV,@OY,@OJ,@OV,@tI,@F1,@qF,@iI,@j9,@iJ,@jD,@iV,@eZ,@hJ,@jU,@yU,@z8,@S6,@z7,@OU,@u9,@TX,@IE,@FT,@XH,@lG,@zW,@NW,@B8,@BH,@B5,@MP,@FE,@LJ,@jW⟩
theorem MD2:type_of% (AI @H8 (AI @j7 (AI @pP (AI @gT (AI @kT (AI @xZ (AI @TV (AI @TL (AI @yF (AI @F3 (AI @aBa (AI @aBn (AI @iN (AI @PN (AI @aBp (AI @FI (AI @kU (AI @TC (AI @X9 (AI @PD @IV)))))))))))))))))))):=
 ⟨@H8,@j7,@pP,@gT,@kT,@xZ,@TV,@TL,@yF,@F3,@aBa,@aBn,@iN,@PN,@aBp,@FI,@kU,@TC,@X9,@PD,@IV⟩
theorem MD:type_of% (AI @MD0 (AI @MD1 @MD2)):=
 ⟨@MD0,@MD1,@MD2⟩
end Ev
end Go.Proofs.YthlkcebdfbjdoaaGreat
