/-
  What the evaluator is told of each function, and each function's code as an equation. Written by a program.
-/
import Derived.Test.YtppdfjdfjfoddaaDoorEvPrim
import Derived.Test.YtppdfjdfjfoddaaDoorChecked
set_option maxRecDepth 100000
namespace Go.Proofs.YtppdfjdfjfoddaaDoor
namespace Ev
def bC:Nat → Nat → List Bool
 | 0,_ => []
 | n + 1,k => (k % 2 == 1) :: bC n (k / 2)
noncomputable def aTw:List (Nat × Hint):=[
 (3,{ mode:=1,exp:=false,thaw:=[],live:=bC 97 1020 }),
 (5,{ mode:=2,exp:=false,thaw:=[],live:=bC 0 0 }),
 (6,{ mode:=3,exp:=true,thaw:=[],live:=bC 47 49214 }),
 (7,{ mode:=1,exp:=false,thaw:=[],live:=bC 26 51 }),
 (8,{ mode:=2,exp:=false,thaw:=[],live:=bC 47 62 }),
 (9,{ mode:=1,exp:=false,thaw:=[],live:=bC 65 1972248982323214 }),
 (10,{ mode:=2,exp:=false,thaw:=[],live:=bC 0 0 }),
 (11,{ mode:=1,exp:=false,thaw:=[],live:=bC 40 974 }),
 (20,{ mode:=0,exp:=false,thaw:=[],live:=bC 28 29 }),
 (21,{ mode:=2,exp:=true,thaw:=[],live:=bC 0 0 }),
 (22,{ mode:=1,exp:=false,thaw:=[],live:=bC 0 0 }),
 (23,{ mode:=1,exp:=false,thaw:=[],live:=bC 0 0 }),
 (24,{ mode:=1,exp:=false,thaw:=[],live:=bC 44 30 }),
 (25,{ mode:=1,exp:=false,thaw:=[],live:=bC 0 0 }),
 (26,{ mode:=1,exp:=false,thaw:=[],live:=bC 18 51 }),
 (27,{ mode:=1,exp:=false,thaw:=[],live:=bC 0 0 }),
 (28,{ mode:=2,exp:=false,thaw:=[0,0,0,2],live:=bC 17 45 }),
 (29,{ mode:=2,exp:=false,thaw:=[],live:=bC 91 7883223496394222 }),
 (30,{ mode:=1,exp:=false,thaw:=[],live:=bC 0 0 }),
 (34,{ mode:=2,exp:=false,thaw:=[],live:=bC 54 240553558140 }),
 (40,{ mode:=2,exp:=false,thaw:=[],live:=bC 18 29 }),
 (41,{ mode:=1,exp:=false,thaw:=[],live:=bC 0 0 }),
 (47,{ mode:=0,exp:=false,thaw:=[],live:=bC 0 0 }),
 (48,{ mode:=0,exp:=false,thaw:=[],live:=bC 0 0 }),
 (49,{ mode:=0,exp:=false,thaw:=[0,0,0,0,0,0,0,0,0,0,0,0,0,0,0,0,0,0,0,0,0,0,0,0,0,0,0,0,0,0,0,0,0,0,0,0,0,0,0,0,0,0,0,0,0,0,0,0,0,0,0,0,0,0,0,0,0,0,0,0,0,0,0,0,0,0,0,0,0,0,0,0,0,0,0,0,0,0,0,0,0,0,0,0,0,0,0,0,0,0,0,0,0,1002],live:=bC 0 0 }),
 (50,{ mode:=0,exp:=false,thaw:=[],live:=bC 36 29 }),
 (51,{ mode:=0,exp:=false,thaw:=[0,0,0,0,0,0,0,0,0,0,0,0,0,0,0,0,0,0,0,0,0,0,0,0,0,0,0,0,0,0,0,0,0,0,0,0,0,0,0,0,0,0,0,0,0,0,0,0,0,0,0,0,0,0,0,0,0,0,0,0,0,0,0,0,0,0,0,0,0,0,0,0,0,0,0,0,0,0,0,0,0,0,0,1002,0,0,0,0,0,0,0,0,0,0,0,0,0,0,0,0,0,0,0,0,0,1002],live:=bC 114 112 }),
 (52,{ mode:=1,exp:=false,thaw:=[],live:=bC 0 0 }),
 (53,{ mode:=0,exp:=false,thaw:=[],live:=bC 0 0 }),
 (54,{ mode:=1,exp:=false,thaw:=[],live:=bC 19 403 }),
 (55,{ mode:=1,exp:=false,thaw:=[],live:=bC 0 0 }),
 (56,{ mode:=1,exp:=false,thaw:=[],live:=bC 31 197 }),
 (57,{ mode:=1,exp:=false,thaw:=[],live:=bC 0 0 }),
 (58,{ mode:=1,exp:=false,thaw:=[],live:=bC 107 65534 }),
 (59,{ mode:=1,exp:=false,thaw:=[],live:=bC 0 0 }),
 (60,{ mode:=1,exp:=false,thaw:=[],live:=bC 0 0 }),
 (61,{ mode:=0,exp:=false,thaw:=[],live:=bC 0 0 }),
 (62,{ mode:=1,exp:=false,thaw:=[],live:=bC 0 0 }),
 (64,{ mode:=1,exp:=false,thaw:=[],live:=bC 18 115 }),
 (67,{ mode:=2,exp:=false,thaw:=[],live:=bC 72 413 }),
 (68,{ mode:=0,exp:=false,thaw:=[],live:=bC 0 0 }),
 (69,{ mode:=2,exp:=false,thaw:=[],live:=bC 0 0 }),
 (70,{ mode:=0,exp:=false,thaw:=[],live:=bC 0 0 }),
 (71,{ mode:=2,exp:=true,thaw:=[0,0,0,0,0,0,0,0,0,0,0,0,0,0,0,0,0,0,0,0,0,0,0,0,0,0,0,0,1002],live:=bC 32 30 }),
 (72,{ mode:=0,exp:=false,thaw:=[],live:=bC 0 0 }),
 (73,{ mode:=1,exp:=false,thaw:=[0,0,0,0,0,0,0,0,0,0,0,0,0,0,0,0,0,0,2],live:=bC 63 61632781151244 }),
 (74,{ mode:=0,exp:=false,thaw:=[],live:=bC 0 0 }),
 (75,{ mode:=2,exp:=false,thaw:=[],live:=bC 41 62 }),
 (76,{ mode:=2,exp:=false,thaw:=[],live:=bC 48 8142 }),
 (77,{ mode:=1,exp:=false,thaw:=[],live:=bC 64 196 }),
 (78,{ mode:=2,exp:=false,thaw:=[],live:=bC 33 115 }),
 (79,{ mode:=0,exp:=false,thaw:=[],live:=bC 35 115 }),
 (80,{ mode:=1,exp:=false,thaw:=[],live:=bC 25 115 }),
 (81,{ mode:=2,exp:=false,thaw:=[],live:=bC 64 31775 }),
 (82,{ mode:=1,exp:=false,thaw:=[],live:=bC 0 0 }),
 (83,{ mode:=1,exp:=false,thaw:=[],live:=bC 0 0 }),
 (86,{ mode:=2,exp:=false,thaw:=[],live:=bC 36 243 }),
 (87,{ mode:=1,exp:=false,thaw:=[],live:=bC 14 29 }),
 (88,{ mode:=2,exp:=false,thaw:=[],live:=bC 36 124 }),
 (89,{ mode:=1,exp:=false,thaw:=[],live:=bC 54 94 }),
 (90,{ mode:=0,exp:=false,thaw:=[],live:=bC 49 964 }),
 (91,{ mode:=0,exp:=true,thaw:=[0,0,0,0,0,0,0,0,0,0,0,0,0,0,0,0,0,0,0,0,0,0,0,0,0,0,0,0,0,0,0,0,0,0,0,0,0,1002],live:=bC 49 4037 }),
 (92,{ mode:=0,exp:=false,thaw:=[0,0,0,0,0,0,0,0,0,0,2],live:=bC 50 118331 }),
 (93,{ mode:=1,exp:=false,thaw:=[0,0,0,2],live:=bC 32 29 }),
 (94,{ mode:=2,exp:=false,thaw:=[],live:=bC 62 32542 }),
 (95,{ mode:=1,exp:=false,thaw:=[],live:=bC 0 0 }),
 (96,{ mode:=1,exp:=false,thaw:=[],live:=bC 36 455 }),
 (97,{ mode:=1,exp:=false,thaw:=[],live:=bC 18 51 }),
 (98,{ mode:=1,exp:=false,thaw:=[],live:=bC 0 0 }),
 (99,{ mode:=1,exp:=false,thaw:=[],live:=bC 27 60 }),
 (100,{ mode:=1,exp:=false,thaw:=[],live:=bC 67 125 }),
 (101,{ mode:=1,exp:=false,thaw:=[],live:=bC 31 13 }),
 (102,{ mode:=1,exp:=false,thaw:=[],live:=bC 0 0 }),
 (103,{ mode:=0,exp:=false,thaw:=[],live:=bC 28 13 }),
 (104,{ mode:=2,exp:=false,thaw:=[],live:=bC 79 3852 }),
 (105,{ mode:=1,exp:=false,thaw:=[],live:=bC 0 0 }),
 (110,{ mode:=1,exp:=false,thaw:=[],live:=bC 0 0 }),
 (113,{ mode:=1,exp:=false,thaw:=[],live:=bC 0 0 }),
 (114,{ mode:=1,exp:=false,thaw:=[],live:=bC 0 0 }),
 (115,{ mode:=1,exp:=false,thaw:=[],live:=bC 0 0 })]
noncomputable def aD5:List (TypeId × Nat):=[]
noncomputable def aLs:List (Nat × (List A → H → Option (A × H))):=[(113,gCtz)]
noncomputable def env:Env:={ P:=Tryd.prog,hint:=fun f => (aTw.lookup f).getD {},eqs:=aD5,prim:=fun f => aLs.lookup f }
theorem xZ:(env.hint 3).mode = 1:=by kernel_rfl
theorem tI:(env.hint 5).mode = 2:=by kernel_rfl
theorem nP:(env.hint 6).mode = 3:=by kernel_rfl
theorem rX:(env.hint 7).mode = 1:=by kernel_rfl
theorem x5:(env.hint 8).mode = 2:=by kernel_rfl
theorem kY:(env.hint 9).mode = 1:=by kernel_rfl
theorem C8:(env.hint 10).mode = 2:=by kernel_rfl
theorem xQ:(env.hint 11).mode = 1:=by kernel_rfl
theorem WI:(env.hint 20).mode = 0:=by kernel_rfl
theorem QJ:(env.hint 21).mode = 2:=by kernel_rfl
theorem n8:(env.hint 22).mode = 1:=by kernel_rfl
theorem jZ:(env.hint 23).mode = 1:=by kernel_rfl
theorem kX:(env.hint 24).mode = 1:=by kernel_rfl
theorem n5:(env.hint 25).mode = 1:=by kernel_rfl
theorem K5:(env.hint 26).mode = 1:=by kernel_rfl
theorem HJ:(env.hint 27).mode = 1:=by kernel_rfl
theorem I9:(env.hint 28).mode = 2:=by kernel_rfl
theorem LM:(env.hint 29).mode = 2:=by kernel_rfl
theorem aDz:(env.hint 30).mode = 1:=by kernel_rfl
theorem PQ:(env.hint 34).mode = 2:=by kernel_rfl
theorem JA:(env.hint 40).mode = 2:=by kernel_rfl
theorem yJ:(env.hint 41).mode = 1:=by kernel_rfl
theorem TF:(env.hint 47).mode = 0:=by kernel_rfl
theorem HL:(env.hint 48).mode = 0:=by kernel_rfl
theorem N0:(env.hint 49).mode = 0:=by kernel_rfl
theorem V5:(env.hint 50).mode = 0:=by kernel_rfl
theorem P0:(env.hint 51).mode = 0:=by kernel_rfl
theorem uK:(env.hint 52).mode = 1:=by kernel_rfl
theorem rO:(env.hint 53).mode = 0:=by kernel_rfl
theorem lD:(env.hint 54).mode = 1:=by kernel_rfl
theorem HG:(env.hint 55).mode = 1:=by kernel_rfl
theorem KL:(env.hint 56).mode = 1:=by kernel_rfl
theorem r5:(env.hint 57).mode = 1:=by kernel_rfl
theorem DW:(env.hint 58).mode = 1:=by kernel_rfl
theorem aDC:(env.hint 59).mode = 1:=by kernel_rfl
theorem HA:(env.hint 60).mode = 1:=by kernel_rfl
theorem LS:(env.hint 61).mode = 0:=by kernel_rfl
theorem U5:(env.hint 62).mode = 1:=by kernel_rfl
theorem QQ:(env.hint 64).mode = 1:=by kernel_rfl
theorem z3:(env.hint 67).mode = 2:=by kernel_rfl
theorem NS:(env.hint 68).mode = 0:=by kernel_rfl
theorem QF:(env.hint 69).mode = 2:=by kernel_rfl
theorem TQ:(env.hint 70).mode = 0:=by kernel_rfl
theorem GY:(env.hint 71).mode = 2:=by kernel_rfl
theorem sC:(env.hint 72).mode = 0:=by kernel_rfl
theorem zF:(env.hint 73).mode = 1:=by kernel_rfl
theorem zV:(env.hint 74).mode = 0:=by kernel_rfl
theorem EC:(env.hint 75).mode = 2:=by kernel_rfl
theorem EK:(env.hint 76).mode = 2:=by kernel_rfl
theorem EA:(env.hint 77).mode = 1:=by kernel_rfl
theorem NH:(env.hint 78).mode = 2:=by kernel_rfl
theorem GK:(env.hint 79).mode = 0:=by kernel_rfl
theorem qE:(env.hint 80).mode = 1:=by kernel_rfl
theorem oG:(env.hint 81).mode = 2:=by kernel_rfl
theorem TK:(env.hint 82).mode = 1:=by kernel_rfl
theorem tL:(env.hint 83).mode = 1:=by kernel_rfl
theorem S9:(env.hint 86).mode = 2:=by kernel_rfl
theorem BK:(env.hint 87).mode = 1:=by kernel_rfl
theorem PO:(env.hint 88).mode = 2:=by kernel_rfl
theorem x4:(env.hint 89).mode = 1:=by kernel_rfl
theorem TI:(env.hint 90).mode = 0:=by kernel_rfl
theorem NQ:(env.hint 91).mode = 0:=by kernel_rfl
theorem pS:(env.hint 92).mode = 0:=by kernel_rfl
theorem CC:(env.hint 93).mode = 1:=by kernel_rfl
theorem QK:(env.hint 94).mode = 2:=by kernel_rfl
theorem eY:(env.hint 95).mode = 1:=by kernel_rfl
theorem tF:(env.hint 96).mode = 1:=by kernel_rfl
theorem PH:(env.hint 97).mode = 1:=by kernel_rfl
theorem pU:(env.hint 98).mode = 1:=by kernel_rfl
theorem z9:(env.hint 99).mode = 1:=by kernel_rfl
theorem TB:(env.hint 100).mode = 1:=by kernel_rfl
theorem SU:(env.hint 101).mode = 1:=by kernel_rfl
theorem G5:(env.hint 102).mode = 1:=by kernel_rfl
theorem mU:(env.hint 103).mode = 0:=by kernel_rfl
theorem JP:(env.hint 104).mode = 2:=by kernel_rfl
theorem sH:(env.hint 105).mode = 1:=by kernel_rfl
theorem B9:(env.hint 110).mode = 1:=by kernel_rfl
theorem rJ:(env.hint 113).mode = 1:=by kernel_rfl
theorem qH:(env.hint 114).mode = 1:=by kernel_rfl
theorem qP:(env.hint 115).mode = 1:=by kernel_rfl
theorem MD0:type_of% (AI @xZ (AI @tI (AI @nP (AI @rX (AI @x5 (AI @kY (AI @C8 (AI @xQ (AI @WI (AI @QJ (AI @n8 (AI @jZ (AI @kX (AI @n5 (AI @K5 (AI @HJ (AI @I9 (AI @LM (AI @aDz (AI @PQ (AI @JA (AI @yJ (AI @TF (AI @HL (AI @N0 (AI @V5 (AI @P0 (AI @uK (AI @rO (AI @lD (AI @HG (AI @KL (AI @r5 (AI @DW (AI @aDC (AI @HA (AI @LS (AI @U5 (AI @QQ (AI @z3 (AI @NS (AI @QF (AI @TQ (AI @GY (AI @sC (AI @zF (AI @zV (AI @EC (AI @EK (AI @EA (AI @NH (AI @GK (AI @qE (AI @oG (AI @TK (AI @tL (AI @S9 (AI @BK (AI @PO @x4))))))))))))))))))))))))))))))))))))))))))))))))))))))))))) :=
 ⟨@xZ,@tI,@nP,@rX,@x5,@kY,@C8,@xQ,@WI,@QJ,@n8,@jZ,@kX,@n5,@K5,@HJ,@I9,@LM,@aDz,@PQ,@JA,@yJ,@TF,@HL,@N0,@V5,@P0,@uK,@rO,@lD,@HG,@KL,@r5,@DW,@aDC,@HA,@LS,@U5,@QQ,@z3,@NS,@QF,@TQ,@GY,@sC,@zF,@zV,@EC,@EK,@EA,@NH,@GK,@qE,@oG,@TK,@tL,@S9,@BK,@PO,@x4⟩
theorem MD1:type_of% (AI @TI (AI @NQ (AI @pS (AI @CC (AI @QK (AI @eY (AI @tF (AI @PH (AI @pU (AI @z9 (AI @TB (AI @SU (AI @G5 (AI @mU (AI @JP (AI @sH (AI @B9 (AI @rJ (AI @qH @qP))))))))))))))))))) :=
 ⟨@TI,@NQ,@pS,@CC,@QK,@eY,@tF,@PH,@pU,@z9,@TB,@SU,@G5,@mU,@JP,@sH,@B9,@rJ,@qH,@qP⟩
theorem MD:type_of% (AI @MD0 @MD1) :=
 ⟨@MD0,@MD1⟩
end Ev
end Go.Proofs.YtppdfjdfjfoddaaDoor
