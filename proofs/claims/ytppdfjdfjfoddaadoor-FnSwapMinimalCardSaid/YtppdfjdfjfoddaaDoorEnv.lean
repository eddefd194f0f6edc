/-
  What the evaluator is told of each function, and each function's code as an equation. Written by a program.
-/
import Derived.Test.YtppdfjdfjfoddaaDoorEvPrim
import Derived.Test.YtppdfjdfjfoddaaDoorChecked
set_option maxRecDepth 100000
namespace Go.Proofs.YtppdfjdfjfoddaaDoor
namespace Ev
def bC:Nat → Nat → List Bool
 | 0,_ => []
 | n + 1,k => (k % 2 == 1) :: bC n (k / 2)
noncomputable def aRU:List (Nat × Hint):=[
 (4,{ mode:=1,exp:=false,thaw:=[],live:=bC 0 0 }),
 (9,{ mode:=1,exp:=false,thaw:=[],live:=bC 65 1972248982323214 }),
 (10,{ mode:=2,exp:=false,thaw:=[],live:=bC 0 0 }),
 (12,{ mode:=2,exp:=false,thaw:=[],live:=bC 0 0 }),
 (13,{ mode:=2,exp:=false,thaw:=[0,0,0,0,0,0,0,0,0,0,0,2],live:=bC 74 991759488257990 }),
 (14,{ mode:=2,exp:=false,thaw:=[],live:=bC 74 8142 }),
 (15,{ mode:=1,exp:=false,thaw:=[],live:=bC 47 60 }),
 (16,{ mode:=2,exp:=false,thaw:=[],live:=bC 0 0 }),
 (17,{ mode:=1,exp:=false,thaw:=[],live:=bC 0 0 }),
 (18,{ mode:=1,exp:=false,thaw:=[],live:=bC 0 0 }),
 (19,{ mode:=1,exp:=false,thaw:=[],live:=bC 26 51 }),
 (21,{ mode:=2,exp:=true,thaw:=[],live:=bC 0 0 }),
 (24,{ mode:=1,exp:=false,thaw:=[],live:=bC 44 30 }),
 (27,{ mode:=1,exp:=false,thaw:=[],live:=bC 0 0 }),
 (28,{ mode:=2,exp:=false,thaw:=[0,0,0,2],live:=bC 17 45 }),
 (29,{ mode:=2,exp:=false,thaw:=[],live:=bC 91 7883223496394222 }),
 (31,{ mode:=0,exp:=false,thaw:=[],live:=bC 0 0 }),
 (32,{ mode:=0,exp:=false,thaw:=[],live:=bC 0 0 }),
 (33,{ mode:=1,exp:=false,thaw:=[],live:=bC 0 0 }),
 (34,{ mode:=2,exp:=false,thaw:=[],live:=bC 54 240553558140 }),
 (35,{ mode:=1,exp:=false,thaw:=[],live:=bC 39 117440710 }),
 (36,{ mode:=0,exp:=true,thaw:=[],live:=bC 0 0 }),
 (37,{ mode:=1,exp:=false,thaw:=[],live:=bC 0 0 }),
 (38,{ mode:=1,exp:=false,thaw:=[],live:=bC 0 0 }),
 (39,{ mode:=1,exp:=false,thaw:=[],live:=bC 37 455 }),
 (40,{ mode:=2,exp:=false,thaw:=[],live:=bC 18 29 }),
 (41,{ mode:=1,exp:=false,thaw:=[],live:=bC 0 0 }),
 (42,{ mode:=1,exp:=false,thaw:=[],live:=bC 0 0 }),
 (43,{ mode:=1,exp:=false,thaw:=[],live:=bC 26 51 }),
 (44,{ mode:=2,exp:=false,thaw:=[0,0,0,0,0,0,0,2],live:=bC 64 15032615102 }),
 (45,{ mode:=1,exp:=false,thaw:=[],live:=bC 0 0 }),
 (46,{ mode:=1,exp:=false,thaw:=[],live:=bC 0 0 }),
 (47,{ mode:=0,exp:=false,thaw:=[],live:=bC 0 0 }),
 (48,{ mode:=0,exp:=false,thaw:=[],live:=bC 0 0 }),
 (50,{ mode:=0,exp:=false,thaw:=[],live:=bC 36 29 }),
 (51,{ mode:=0,exp:=false,thaw:=[0,0,0,0,0,0,0,0,0,0,0,0,0,0,0,0,0,0,0,0,0,0,0,0,0,0,0,0,0,0,0,0,0,0,0,0,0,0,0,0,0,0,0,0,0,0,0,0,0,0,0,0,0,0,0,0,0,0,0,0,0,0,0,0,0,0,0,0,0,0,0,0,0,0,0,0,0,0,0,0,0,0,0,1002,0,0,0,0,0,0,0,0,0,0,0,0,0,0,0,0,0,0,0,0,0,1002],live:=bC 114 112 }),
 (52,{ mode:=1,exp:=false,thaw:=[],live:=bC 0 0 }),
 (55,{ mode:=1,exp:=false,thaw:=[],live:=bC 0 0 }),
 (56,{ mode:=1,exp:=false,thaw:=[],live:=bC 31 197 }),
 (59,{ mode:=1,exp:=false,thaw:=[],live:=bC 0 0 }),
 (60,{ mode:=1,exp:=false,thaw:=[],live:=bC 0 0 }),
 (61,{ mode:=0,exp:=false,thaw:=[],live:=bC 0 0 }),
 (62,{ mode:=1,exp:=false,thaw:=[],live:=bC 0 0 }),
 (63,{ mode:=1,exp:=false,thaw:=[],live:=bC 0 0 }),
 (64,{ mode:=1,exp:=false,thaw:=[],live:=bC 18 115 }),
 (65,{ mode:=2,exp:=false,thaw:=[],live:=bC 45 939524230 }),
 (66,{ mode:=0,exp:=false,thaw:=[],live:=bC 0 0 }),
 (67,{ mode:=2,exp:=false,thaw:=[],live:=bC 72 413 }),
 (68,{ mode:=0,exp:=false,thaw:=[],live:=bC 0 0 }),
 (69,{ mode:=2,exp:=false,thaw:=[],live:=bC 0 0 }),
 (70,{ mode:=0,exp:=false,thaw:=[],live:=bC 0 0 }),
 (71,{ mode:=2,exp:=true,thaw:=[0,0,0,0,0,0,0,0,0,0,0,0,0,0,0,0,0,0,0,0,0,0,0,0,0,0,0,0,1002],live:=bC 32 30 }),
 (72,{ mode:=0,exp:=false,thaw:=[],live:=bC 0 0 }),
 (73,{ mode:=1,exp:=false,thaw:=[0,0,0,0,0,0,0,0,0,0,0,0,0,0,0,0,0,0,2],live:=bC 63 61632781151244 }),
 (74,{ mode:=0,exp:=false,thaw:=[],live:=bC 0 0 }),
 (82,{ mode:=1,exp:=false,thaw:=[],live:=bC 0 0 }),
 (83,{ mode:=1,exp:=false,thaw:=[],live:=bC 0 0 }),
 (84,{ mode:=2,exp:=false,thaw:=[0,0,0,0,0,0,0,0,0,0,0,0,0,2,0,2],live:=bC 77 30064836366 }),
 (85,{ mode:=0,exp:=false,thaw:=[],live:=bC 0 0 }),
 (86,{ mode:=2,exp:=false,thaw:=[],live:=bC 36 243 }),
 (87,{ mode:=1,exp:=false,thaw:=[],live:=bC 14 29 }),
 (88,{ mode:=2,exp:=false,thaw:=[],live:=bC 36 124 }),
 (89,{ mode:=1,exp:=false,thaw:=[],live:=bC 54 94 }),
 (90,{ mode:=0,exp:=false,thaw:=[],live:=bC 49 964 }),
 (91,{ mode:=0,exp:=true,thaw:=[0,0,0,0,0,0,0,0,0,0,0,0,0,0,0,0,0,0,0,0,0,0,0,0,0,0,0,0,0,0,0,0,0,0,0,0,0,1002],live:=bC 49 4037 }),
 (92,{ mode:=0,exp:=false,thaw:=[0,0,0,0,0,0,0,0,0,0,2],live:=bC 50 118331 }),
 (93,{ mode:=1,exp:=false,thaw:=[0,0,0,2],live:=bC 32 29 }),
 (98,{ mode:=1,exp:=false,thaw:=[],live:=bC 0 0 }),
 (99,{ mode:=1,exp:=false,thaw:=[],live:=bC 27 60 }),
 (100,{ mode:=1,exp:=false,thaw:=[],live:=bC 67 125 }),
 (101,{ mode:=1,exp:=false,thaw:=[],live:=bC 31 13 }),
 (102,{ mode:=1,exp:=false,thaw:=[],live:=bC 0 0 }),
 (103,{ mode:=0,exp:=false,thaw:=[],live:=bC 28 13 }),
 (105,{ mode:=1,exp:=false,thaw:=[],live:=bC 0 0 }),
 (110,{ mode:=1,exp:=false,thaw:=[],live:=bC 0 0 }),
 (113,{ mode:=1,exp:=false,thaw:=[],live:=bC 0 0 }),
 (114,{ mode:=1,exp:=false,thaw:=[],live:=bC 0 0 }),
 (115,{ mode:=1,exp:=false,thaw:=[],live:=bC 0 0 })]
noncomputable def aCV:List (TypeId × Nat):=[]
noncomputable def aIR:List (Nat × (List A → H → Option (A × H))):=[(36,JY 1),(113,gCtz)]
noncomputable def env:Env:={ P:=Tryd.prog,hint:=fun f => (aRU.lookup f).getD {},eqs:=aCV,prim:=fun f => aIR.lookup f }
theorem EO:(env.hint 4).mode = 1:=by kernel_rfl
theorem j4:(env.hint 9).mode = 1:=by kernel_rfl
theorem B7:(env.hint 10).mode = 2:=by kernel_rfl
theorem tD:(env.hint 12).mode = 2:=by kernel_rfl
theorem z1:(env.hint 13).mode = 2:=by kernel_rfl
theorem y4:(env.hint 14).mode = 2:=by kernel_rfl
theorem c7:(env.hint 15).mode = 1:=by kernel_rfl
theorem tL:(env.hint 16).mode = 2:=by kernel_rfl
theorem n6:(env.hint 17).mode = 1:=by kernel_rfl
theorem bT:(env.hint 18).mode = 1:=by kernel_rfl
theorem vY:(env.hint 19).mode = 1:=by kernel_rfl
theorem OI:(env.hint 21).mode = 2:=by kernel_rfl
theorem j5:(env.hint 24).mode = 1:=by kernel_rfl
theorem F5:(env.hint 27).mode = 1:=by kernel_rfl
theorem II:(env.hint 28).mode = 2:=by kernel_rfl
theorem HF:(env.hint 29).mode = 2:=by kernel_rfl
theorem UL:(env.hint 31).mode = 0:=by kernel_rfl
theorem RM:(env.hint 32).mode = 0:=by kernel_rfl
theorem L7:(env.hint 33).mode = 1:=by kernel_rfl
theorem OU:(env.hint 34).mode = 2:=by kernel_rfl
theorem BY:(env.hint 35).mode = 1:=by kernel_rfl
theorem m4:(env.hint 36).mode = 0:=by kernel_rfl
theorem NT:(env.hint 37).mode = 1:=by kernel_rfl
theorem IH:(env.hint 38).mode = 1:=by kernel_rfl
theorem BW:(env.hint 39).mode = 1:=by kernel_rfl
theorem HP:(env.hint 40).mode = 2:=by kernel_rfl
theorem v8:(env.hint 41).mode = 1:=by kernel_rfl
theorem OB:(env.hint 42).mode = 1:=by kernel_rfl
theorem tR:(env.hint 43).mode = 1:=by kernel_rfl
theorem LM:(env.hint 44).mode = 2:=by kernel_rfl
theorem c8:(env.hint 45).mode = 1:=by kernel_rfl
theorem bZ:(env.hint 46).mode = 1:=by kernel_rfl
theorem RQ:(env.hint 47).mode = 0:=by kernel_rfl
theorem FR:(env.hint 48).mode = 0:=by kernel_rfl
theorem S2:(env.hint 50).mode = 0:=by kernel_rfl
theorem OE:(env.hint 51).mode = 0:=by kernel_rfl
theorem s4:(env.hint 52).mode = 1:=by kernel_rfl
theorem GB:(env.hint 55).mode = 1:=by kernel_rfl
theorem I9:(env.hint 56).mode = 1:=by kernel_rfl
theorem aA3:(env.hint 59).mode = 1:=by kernel_rfl
theorem FT:(env.hint 60).mode = 1:=by kernel_rfl
theorem IE:(env.hint 61).mode = 0:=by kernel_rfl
theorem S4:(env.hint 62).mode = 1:=by kernel_rfl
theorem UD:(env.hint 63).mode = 1:=by kernel_rfl
theorem OC:(env.hint 64).mode = 1:=by kernel_rfl
theorem MQ:(env.hint 65).mode = 2:=by kernel_rfl
theorem tT:(env.hint 66).mode = 0:=by kernel_rfl
theorem xX:(env.hint 67).mode = 2:=by kernel_rfl
theorem KB:(env.hint 68).mode = 0:=by kernel_rfl
theorem OF:(env.hint 69).mode = 2:=by kernel_rfl
theorem QK:(env.hint 70).mode = 0:=by kernel_rfl
theorem FA:(env.hint 71).mode = 2:=by kernel_rfl
theorem qD:(env.hint 72).mode = 0:=by kernel_rfl
theorem w9:(env.hint 73).mode = 1:=by kernel_rfl
theorem yL:(env.hint 74).mode = 0:=by kernel_rfl
theorem RE:(env.hint 82).mode = 1:=by kernel_rfl
theorem rQ:(env.hint 83).mode = 1:=by kernel_rfl
theorem sC:(env.hint 84).mode = 2:=by kernel_rfl
theorem NS:(env.hint 85).mode = 0:=by kernel_rfl
theorem QI:(env.hint 86).mode = 2:=by kernel_rfl
theorem zV:(env.hint 87).mode = 1:=by kernel_rfl
theorem NQ:(env.hint 88).mode = 2:=by kernel_rfl
theorem v9:(env.hint 89).mode = 1:=by kernel_rfl
theorem Q8:(env.hint 90).mode = 0:=by kernel_rfl
theorem L9:(env.hint 91).mode = 0:=by kernel_rfl
theorem oB:(env.hint 92).mode = 0:=by kernel_rfl
theorem AK:(env.hint 93).mode = 1:=by kernel_rfl
theorem oG:(env.hint 98).mode = 1:=by kernel_rfl
theorem yO:(env.hint 99).mode = 1:=by kernel_rfl
theorem RH:(env.hint 100).mode = 1:=by kernel_rfl
theorem Q9:(env.hint 101).mode = 1:=by kernel_rfl
theorem F6:(env.hint 102).mode = 1:=by kernel_rfl
theorem lH:(env.hint 103).mode = 0:=by kernel_rfl
theorem qP:(env.hint 105).mode = 1:=by kernel_rfl
theorem yX:(env.hint 110).mode = 1:=by kernel_rfl
theorem pW:(env.hint 113).mode = 1:=by kernel_rfl
theorem oS:(env.hint 114).mode = 1:=by kernel_rfl
theorem oT:(env.hint 115).mode = 1:=by kernel_rfl
theorem MD0:type_of% (AI @EO (AI @j4 (AI @B7 (AI @tD (AI @z1 (AI @y4 (AI @c7 (AI @tL (AI @n6 (AI @bT (AI @vY (AI @OI (AI @j5 (AI @F5 (AI @II (AI @HF (AI @UL (AI @RM (AI @L7 (AI @OU (AI @BY (AI @m4 (AI @NT (AI @IH (AI @BW (AI @HP (AI @v8 (AI @OB (AI @tR (AI @LM (AI @c8 (AI @bZ (AI @RQ (AI @FR (AI @S2 (AI @OE (AI @s4 (AI @GB (AI @I9 (AI @aA3 (AI @FT (AI @IE (AI @S4 (AI @UD (AI @OC (AI @MQ (AI @tT (AI @xX (AI @KB (AI @OF (AI @QK (AI @FA (AI @qD (AI @w9 (AI @yL (AI @RE (AI @rQ (AI @sC (AI @NS @QI))))))))))))))))))))))))))))))))))))))))))))))))))))))))))) :=
 ⟨@EO,@j4,@B7,@tD,@z1,@y4,@c7,@tL,@n6,@bT,@vY,@OI,@j5,@F5,@II,@HF,@UL,@RM,@L7,@OU,@BY,@m4,@NT,@IH,@BW,@HP,@v8,@OB,@tR,@LM,@c8,@bZ,@RQ,@FR,@S2,@OE,@s4,@GB,@I9,@aA3,@FT,@IE,@S4,@UD,@OC,@MQ,@tT,@xX,@KB,@OF,@QK,@FA,@qD,@w9,@yL,@RE,@rQ,@sC,@NS,@QI⟩
theorem MD1:type_of% (AI @zV (AI @NQ (AI @v9 (AI @Q8 (AI @L9 (AI @oB (AI @AK (AI @oG (AI @yO (AI @RH (AI @Q9 (AI @F6 (AI @lH (AI @qP (AI @yX (AI @pW (AI @oS @oT))))))))))))))))) :=
 ⟨@zV,@NQ,@v9,@Q8,@L9,@oB,@AK,@oG,@yO,@RH,@Q9,@F6,@lH,@qP,@yX,@pW,@oS,@oT⟩
theorem MD:type_of% (AI @MD0 @MD1) :=
 ⟨@MD0,@MD1⟩
end Ev
end Go.Proofs.YtppdfjdfjfoddaaDoor
