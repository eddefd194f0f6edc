/-
  What the evaluator is told of each function, and each function's code as an equation. Written by a program.
-/
import Derived.Test.YtppdfjdfjfoddaaEvPrim
import Derived.Test.YtppdfjdfjfoddaaChecked
set_option maxRecDepth 100000
namespace Go.Proofs.Ytppdfjdfjfoddaa
namespace Ev
def aZ : Nat → Nat → List Bool
 | 0,_ => []
 | n + 1,k => (k % 2 == 1) :: aZ n (k / 2)
noncomputable def aSI : List (Nat × Hint) := [
 (7,{ mode := 1,exp := false,thaw := [],live := aZ 47 52 }),
 (15,{ mode := 1,exp := false,thaw := [],live := aZ 65 1972248982323214 }),
 (26,{ mode := 1,exp := false,thaw := [],live := aZ 26 51 }),
 (27,{ mode := 1,exp := false,thaw := [],live := aZ 18 51 }),
 (29,{ mode := 2,exp := false,thaw := [],live := aZ 32 60 }),
 (30,{ mode := 3,exp := true,thaw := [0,0,0,2],live := aZ 31 12302 }),
 (31,{ mode := 2,exp := false,thaw := [],live := aZ 0 0 }),
 (32,{ mode := 2,exp := true,thaw := [],live := aZ 0 0 }),
 (36,{ mode := 2,exp := false,thaw := [],live := aZ 54 240553558140 }),
 (39,{ mode := 2,exp := false,thaw := [0,0,0,2],live := aZ 17 45 }),
 (41,{ mode := 1,exp := false,thaw := [],live := aZ 44 30 }),
 (44,{ mode := 2,exp := false,thaw := [],live := aZ 18 29 }),
 (45,{ mode := 1,exp := false,thaw := [],live := aZ 0 0 }),
 (49,{ mode := 1,exp := false,thaw := [],live := aZ 0 0 }),
 (50,{ mode := 1,exp := false,thaw := [],live := aZ 0 0 }),
 (51,{ mode := 0,exp := false,thaw := [],live := aZ 28 13 }),
 (67,{ mode := 0,exp := false,thaw := [],live := aZ 28 29 }),
 (68,{ mode := 1,exp := false,thaw := [],live := aZ 0 0 }),
 (69,{ mode := 2,exp := false,thaw := [],live := aZ 69 254 }),
 (70,{ mode := 1,exp := false,thaw := [],live := aZ 0 0 }),
 (71,{ mode := 1,exp := false,thaw := [],live := aZ 0 0 }),
 (72,{ mode := 0,exp := false,thaw := [],live := aZ 0 0 }),
 (73,{ mode := 1,exp := false,thaw := [],live := aZ 0 0 }),
 (74,{ mode := 0,exp := false,thaw := [],live := aZ 0 0 }),
 (75,{ mode := 0,exp := false,thaw := [],live := aZ 36 29 }),
 (76,{ mode := 0,exp := false,thaw := [0,0,0,0,0,0,0,0,0,0,0,0,0,0,0,0,0,0,0,0,0,0,0,0,0,0,0,0,0,0,0,0,0,0,0,0,0,0,0,0,0,0,0,0,0,0,0,0,0,0,0,0,0,0,0,0,0,0,0,0,0,0,0,0,0,0,0,0,0,0,0,0,0,0,0,0,0,0,0,0,0,0,0,1002,0,0,0,0,0,0,0,0,0,0,0,0,0,0,0,0,0,0,0,0,0,1002],live := aZ 114 112 }),
 (77,{ mode := 0,exp := false,thaw := [],live := aZ 0 0 }),
 (78,{ mode := 0,exp := false,thaw := [],live := aZ 0 0 }),
 (79,{ mode := 1,exp := false,thaw := [],live := aZ 0 0 }),
 (80,{ mode := 1,exp := false,thaw := [],live := aZ 31 197 }),
 (81,{ mode := 1,exp := false,thaw := [],live := aZ 0 0 }),
 (83,{ mode := 1,exp := false,thaw := [],live := aZ 18 115 }),
 (85,{ mode := 1,exp := false,thaw := [],live := aZ 0 0 }),
 (86,{ mode := 1,exp := false,thaw := [],live := aZ 107 65534 }),
 (93,{ mode := 0,exp := false,thaw := [0,0,0,0,0,0,0,0,0,0,0,0,0,0,0,0,0,0,0,0,0,0,0,0,0,0,0,0,0,0,0,0,0,0,0,0,0,0,0,0,0,0,0,0,0,0,0,0,0,0,0,0,0,0,0,0,0,0,0,0,0,0,0,0,0,0,0,0,0,0,0,0,0,0,0,0,0,0,0,0,0,0,0,0,0,0,0,0,0,0,0,0,0,1002],live := aZ 0 0 }),
 (94,{ mode := 2,exp := false,thaw := [],live := aZ 43 126 }),
 (95,{ mode := 1,exp := false,thaw := [],live := aZ 15 51 }),
 (96,{ mode := 1,exp := false,thaw := [],live := aZ 0 0 }),
 (97,{ mode := 0,exp := false,thaw := [],live := aZ 0 0 }),
 (98,{ mode := 0,exp := false,thaw := [],live := aZ 148 3103 }),
 (99,{ mode := 1,exp := false,thaw := [],live := aZ 0 0 }),
 (100,{ mode := 1,exp := false,thaw := [],live := aZ 18 460 }),
 (101,{ mode := 1,exp := false,thaw := [],live := aZ 0 0 }),
 (102,{ mode := 1,exp := false,thaw := [],live := aZ 0 0 }),
 (103,{ mode := 2,exp := true,thaw := [0,0,0,0,0,0,0,0,0,0,0,0,0,0,0,0,0,0,0,0,0,0,0,0,0,0,0,0,1002],live := aZ 32 30 }),
 (104,{ mode := 2,exp := false,thaw := [],live := aZ 72 413 }),
 (105,{ mode := 0,exp := false,thaw := [],live := aZ 0 0 }),
 (106,{ mode := 2,exp := false,thaw := [],live := aZ 0 0 }),
 (107,{ mode := 0,exp := false,thaw := [],live := aZ 0 0 }),
 (108,{ mode := 2,exp := false,thaw := [],live := aZ 41 62 }),
 (109,{ mode := 2,exp := false,thaw := [],live := aZ 48 8142 }),
 (110,{ mode := 1,exp := false,thaw := [],live := aZ 64 196 }),
 (111,{ mode := 2,exp := false,thaw := [],live := aZ 33 115 }),
 (112,{ mode := 0,exp := false,thaw := [],live := aZ 35 115 }),
 (113,{ mode := 1,exp := false,thaw := [],live := aZ 25 115 }),
 (114,{ mode := 2,exp := false,thaw := [],live := aZ 64 31775 }),
 (115,{ mode := 1,exp := false,thaw := [],live := aZ 0 0 }),
 (117,{ mode := 1,exp := false,thaw := [0,0,0,0,0,0,0,0,0,0,0,0,0,0,0,0,0,0,2],live := aZ 63 61632781151244 }),
 (119,{ mode := 1,exp := false,thaw := [],live := aZ 18 51 }),
 (120,{ mode := 0,exp := false,thaw := [],live := aZ 0 0 }),
 (121,{ mode := 0,exp := false,thaw := [],live := aZ 53 783 }),
 (122,{ mode := 0,exp := false,thaw := [],live := aZ 60 7945 }),
 (123,{ mode := 0,exp := false,thaw := [],live := aZ 67 3843 }),
 (124,{ mode := 0,exp := false,thaw := [],live := aZ 0 0 }),
 (125,{ mode := 0,exp := false,thaw := [],live := aZ 34 769 }),
 (126,{ mode := 0,exp := false,thaw := [],live := aZ 141 7951 }),
 (127,{ mode := 0,exp := false,thaw := [],live := aZ 90 7187 }),
 (128,{ mode := 0,exp := false,thaw := [],live := aZ 178 15379 }),
 (129,{ mode := 1,exp := false,thaw := [],live := aZ 0 0 }),
 (130,{ mode := 1,exp := false,thaw := [],live := aZ 0 0 }),
 (131,{ mode := 1,exp := false,thaw := [],live := aZ 0 0 }),
 (132,{ mode := 1,exp := false,thaw := [],live := aZ 0 0 }),
 (133,{ mode := 2,exp := false,thaw := [],live := aZ 36 243 }),
 (134,{ mode := 1,exp := false,thaw := [],live := aZ 14 29 }),
 (135,{ mode := 2,exp := false,thaw := [],live := aZ 36 124 }),
 (136,{ mode := 1,exp := false,thaw := [],live := aZ 54 94 }),
 (137,{ mode := 0,exp := false,thaw := [],live := aZ 49 964 }),
 (138,{ mode := 0,exp := true,thaw := [0,0,0,0,0,0,0,0,0,0,0,0,0,0,0,0,0,0,0,0,0,0,0,0,0,0,0,0,0,0,0,0,0,0,0,0,0,1002],live := aZ 49 4037 }),
 (139,{ mode := 2,exp := false,thaw := [],live := aZ 62 32542 }),
 (140,{ mode := 1,exp := false,thaw := [],live := aZ 0 0 }),
 (141,{ mode := 1,exp := false,thaw := [],live := aZ 36 455 }),
 (142,{ mode := 0,exp := false,thaw := [0,0,0,0,0,0,0,0,0,0,2],live := aZ 50 118331 }),
 (143,{ mode := 1,exp := false,thaw := [0,0,0,2],live := aZ 32 29 }),
 (144,{ mode := 0,exp := false,thaw := [],live := aZ 82 1053 }),
 (145,{ mode := 1,exp := false,thaw := [],live := aZ 0 0 }),
 (147,{ mode := 0,exp := false,thaw := [],live := aZ 0 0 }),
 (148,{ mode := 0,exp := false,thaw := [],live := aZ 0 0 }),
 (149,{ mode := 1,exp := false,thaw := [],live := aZ 27 60 }),
 (150,{ mode := 1,exp := false,thaw := [],live := aZ 67 125 }),
 (151,{ mode := 1,exp := false,thaw := [],live := aZ 31 13 }),
 (152,{ mode := 2,exp := false,thaw := [],live := aZ 79 3852 }),
 (153,{ mode := 0,exp := false,thaw := [],live := aZ 0 0 })]
noncomputable def aC3 : List (TypeId × Nat) := []
noncomputable def aF1 : List (Nat × (List A → H → Option (A × H))) := [(72,IK 73)]
noncomputable def env : Env := { P := Try.prog,hint := fun f => (aSI.lookup f).getD {},eqs := aC3,prim := fun f => aF1.lookup f }
theorem EP : (env.hint 7).mode = 1 := by kernel_rfl
theorem kC : (env.hint 15).mode = 1 := by kernel_rfl
theorem qH : (env.hint 26).mode = 1 := by kernel_rfl
theorem DI : (env.hint 27).mode = 1 := by kernel_rfl
theorem GR : (env.hint 29).mode = 2 := by kernel_rfl
theorem p9 : (env.hint 30).mode = 3 := by kernel_rfl
theorem zE : (env.hint 31).mode = 2 := by kernel_rfl
theorem N9 : (env.hint 32).mode = 2 := by kernel_rfl
theorem OD : (env.hint 36).mode = 2 := by kernel_rfl
theorem KH : (env.hint 39).mode = 2 := by kernel_rfl
theorem kA : (env.hint 41).mode = 1 := by kernel_rfl
theorem JC : (env.hint 44).mode = 2 := by kernel_rfl
theorem xE : (env.hint 45).mode = 1 := by kernel_rfl
theorem G6 : (env.hint 49).mode = 1 := by kernel_rfl
theorem GF : (env.hint 50).mode = 1 := by kernel_rfl
theorem lQ : (env.hint 51).mode = 0 := by kernel_rfl
theorem S4 : (env.hint 67).mode = 0 := by kernel_rfl
theorem aAT : (env.hint 68).mode = 1 := by kernel_rfl
theorem SM : (env.hint 69).mode = 2 := by kernel_rfl
theorem nS : (env.hint 70).mode = 1 := by kernel_rfl
theorem nJ : (env.hint 71).mode = 1 := by kernel_rfl
theorem jF : (env.hint 72).mode = 0 := by kernel_rfl
theorem K9 : (env.hint 73).mode = 1 := by kernel_rfl
theorem GX : (env.hint 74).mode = 0 := by kernel_rfl
theorem UC : (env.hint 75).mode = 0 := by kernel_rfl
theorem OP : (env.hint 76).mode = 0 := by kernel_rfl
theorem R6 : (env.hint 77).mode = 0 := by kernel_rfl
theorem IP : (env.hint 78).mode = 0 := by kernel_rfl
theorem GN : (env.hint 79).mode = 1 := by kernel_rfl
theorem KD : (env.hint 80).mode = 1 := by kernel_rfl
theorem V7 : (env.hint 81).mode = 1 := by kernel_rfl
theorem NR : (env.hint 83).mode = 1 := by kernel_rfl
theorem qZ : (env.hint 85).mode = 1 := by kernel_rfl
theorem CY : (env.hint 86).mode = 1 := by kernel_rfl
theorem LE : (env.hint 93).mode = 0 := by kernel_rfl
theorem O8 : (env.hint 94).mode = 2 := by kernel_rfl
theorem C1 : (env.hint 95).mode = 1 := by kernel_rfl
theorem yP : (env.hint 96).mode = 1 := by kernel_rfl
theorem AQ : (env.hint 97).mode = 0 := by kernel_rfl
theorem n9 : (env.hint 98).mode = 0 := by kernel_rfl
theorem FA : (env.hint 99).mode = 1 := by kernel_rfl
theorem tD : (env.hint 100).mode = 1 := by kernel_rfl
theorem zY : (env.hint 101).mode = 1 := by kernel_rfl
theorem vZ : (env.hint 102).mode = 1 := by kernel_rfl
theorem F6 : (env.hint 103).mode = 2 := by kernel_rfl
theorem zC : (env.hint 104).mode = 2 := by kernel_rfl
theorem LZ : (env.hint 105).mode = 0 := by kernel_rfl
theorem O2 : (env.hint 106).mode = 2 := by kernel_rfl
theorem RB : (env.hint 107).mode = 0 := by kernel_rfl
theorem DT : (env.hint 108).mode = 2 := by kernel_rfl
theorem DF : (env.hint 109).mode = 2 := by kernel_rfl
theorem DK : (env.hint 110).mode = 1 := by kernel_rfl
theorem LD : (env.hint 111).mode = 2 := by kernel_rfl
theorem GA : (env.hint 112).mode = 0 := by kernel_rfl
theorem pH : (env.hint 113).mode = 1 := by kernel_rfl
theorem nC : (env.hint 114).mode = 2 := by kernel_rfl
theorem SB : (env.hint 115).mode = 1 := by kernel_rfl
theorem yM : (env.hint 117).mode = 1 := by kernel_rfl
theorem NI : (env.hint 119).mode = 1 := by kernel_rfl
theorem s4 : (env.hint 120).mode = 0 := by kernel_rfl
theorem lL : (env.hint 121).mode = 0 := by kernel_rfl
theorem nL : (env.hint 122).mode = 0 := by kernel_rfl
theorem lM : (env.hint 123).mode = 0 := by kernel_rfl
theorem mL : (env.hint 124).mode = 0 := by kernel_rfl
theorem lY : (env.hint 125).mode = 0 := by kernel_rfl
theorem jD : (env.hint 126).mode = 0 := by kernel_rfl
theorem kW : (env.hint 127).mode = 0 := by kernel_rfl
theorem nA : (env.hint 128).mode = 0 := by kernel_rfl
theorem AO : (env.hint 129).mode = 1 := by kernel_rfl
theorem BR : (env.hint 130).mode = 1 := by kernel_rfl
theorem EL : (env.hint 131).mode = 1 := by kernel_rfl
theorem yW : (env.hint 132).mode = 1 := by kernel_rfl
theorem RF : (env.hint 133).mode = 2 := by kernel_rfl
theorem A1 : (env.hint 134).mode = 1 := by kernel_rfl
theorem OS : (env.hint 135).mode = 2 := by kernel_rfl
theorem xB : (env.hint 136).mode = 1 := by kernel_rfl
theorem RX : (env.hint 137).mode = 0 := by kernel_rfl
theorem KV : (env.hint 138).mode = 0 := by kernel_rfl
theorem PC : (env.hint 139).mode = 2 := by kernel_rfl
theorem eC : (env.hint 140).mode = 1 := by kernel_rfl
theorem sN : (env.hint 141).mode = 1 := by kernel_rfl
theorem oU : (env.hint 142).mode = 0 := by kernel_rfl
theorem BV : (env.hint 143).mode = 1 := by kernel_rfl
theorem nN : (env.hint 144).mode = 0 := by kernel_rfl
theorem sM : (env.hint 145).mode = 1 := by kernel_rfl
theorem kS : (env.hint 147).mode = 0 := by kernel_rfl
theorem oP : (env.hint 148).mode = 0 := by kernel_rfl
theorem zG : (env.hint 149).mode = 1 := by kernel_rfl
theorem SL : (env.hint 150).mode = 1 := by kernel_rfl
theorem RL : (env.hint 151).mode = 1 := by kernel_rfl
theorem JO : (env.hint 152).mode = 2 := by kernel_rfl
theorem oQ : (env.hint 153).mode = 0 := by kernel_rfl
theorem MD0 : type_of% (AI @EP (AI @kC (AI @qH (AI @DI (AI @GR (AI @p9 (AI @zE (AI @N9 (AI @OD (AI @KH (AI @kA (AI @JC (AI @xE (AI @G6 (AI @GF (AI @lQ (AI @S4 (AI @aAT (AI @SM (AI @nS (AI @nJ (AI @jF (AI @K9 (AI @GX (AI @UC (AI @OP (AI @R6 (AI @IP (AI @GN (AI @KD (AI @V7 (AI @NR (AI @qZ (AI @CY (AI @LE (AI @O8 (AI @C1 (AI @yP (AI @AQ (AI @n9 (AI @FA (AI @tD (AI @zY (AI @vZ (AI @F6 (AI @zC (AI @LZ (AI @O2 (AI @RB (AI @DT (AI @DF (AI @DK (AI @LD (AI @GA (AI @pH (AI @nC (AI @SB (AI @yM (AI @NI @s4))))))))))))))))))))))))))))))))))))))))))))))))))))))))))) :=
 ⟨@EP,@kC,@qH,@DI,@GR,@p9,@zE,@N9,@OD,@KH,@kA,@JC,@xE,@G6,@GF,@lQ,@S4,@aAT,@SM,@nS,@nJ,@jF,@K9,@GX,@UC,@OP,@R6,@IP,@GN,@KD,@V7,@NR,@qZ,@CY,@LE,@O8,@C1,@yP,@AQ,@n9,@FA,@tD,@zY,@vZ,@F6,@zC,@LZ,@O2,@RB,@DT,@DF,@DK,@LD,@GA,@pH,@nC,@SB,@yM,@NI,@s4⟩
theorem MD1 : type_of% (AI @lL (AI @nL (AI @lM (AI @mL (AI @lY (AI @jD (AI @kW (AI @nA (AI @AO (AI @BR (AI @EL (AI @yW (AI @RF (AI @A1 (AI @OS (AI @xB (AI @RX (AI @KV (AI @PC (AI @eC (AI @sN (AI @oU (AI @BV (AI @nN (AI @sM (AI @kS (AI @oP (AI @zG (AI @SL (AI @RL (AI @JO @oQ))))))))))))))))))))))))))))))) :=
 ⟨@lL,@nL,@lM,@mL,@lY,@jD,@kW,@nA,@AO,@BR,@EL,@yW,@RF,@A1,@OS,@xB,@RX,@KV,@PC,@eC,@sN,@oU,@BV,@nN,@sM,@kS,@oP,@zG,@SL,@RL,@JO,@oQ⟩
theorem MD : type_of% (AI @MD0 @MD1) :=
 ⟨@MD0,@MD1⟩
end Ev
end Go.Proofs.Ytppdfjdfjfoddaa
