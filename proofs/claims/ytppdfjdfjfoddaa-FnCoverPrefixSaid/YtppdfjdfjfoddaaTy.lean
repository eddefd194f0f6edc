/-
  What the types of the program are, as the evaluator asks. Written by a program.
-/
import Derived.Test.YtppdfjdfjfoddaaEnvF
import Derived.Test.YtppdfjdfjfoddaaEvWalk
set_option maxRecDepth 100000
namespace Go.Proofs.Ytppdfjdfjfoddaa
namespace Ev
def bZ (P : Program) (t : TypeId) (i : Nat) : Option (Nat × Nat) := match P.underlying t with
 | some (.struct fields) => (fields.toList[i]?).map fun f => (f.offset,P.cellsOf f.type)
 | _ => none
def jG (P : Program) (t : TypeId) : Bool := match P.underlying t with
 | some (.struct fields) => fields.toList.all fun f => (P.info? f.type).isSome
 | _ => false
theorem eF {P : Program} {t : TypeId} {z : A} {parts : List (Nat × A)} (hs : jG P t = true) (hz : bR P t = some z) : iL P t parts = (eP (aQ z) (parts.map fun p => (bZ P t p.1,p.2))).map .agg := by
 unfold jG at hs
 unfold iL bZ
 rw [hz]
 cases hu : P.underlying t with
 | none => rw [hu] at hs; cases hs
 | some d =>
  rw [hu] at hs
  cases d <;> first | cases hs | skip
  simp only at hs ⊢
  rw [if_pos hs]
theorem aHd {P : Program} {t e : TypeId} {n c : Nat} {z : A} {parts : List (Nat × A)} (hu : P.underlying t = some (.array n e)) (hz : bR P t = some z) (hi : (P.info? e).isSome = true) (hc : P.cellsOf e = c) : iL P t parts = (eP (aQ z) (parts.map fun p => (some (p.1 * c,c),p.2))).map .agg := by
 unfold iL
 rw [hz,hu]
 simp only [hi,if_true,hc]
theorem mU {P : Program} {h : H} {t u : TypeId} {K K1 K2 : IntKind} {n : Int} (h1 : P.underlying t = some (.int K1)) (h2 : P.underlying u = some (.int K2)) : f9 P h t u (.d (.int K n)) = some (.d (.int K2 (K2.wrap n)),h) := by
 simp only [f9,h1,h2]
theorem aCq : env.P.underlying 2 = some (.int .i64) := by kernel_rfl
theorem ZS : bG env.P 2 = none := by kernel_rfl
theorem aCm : env.P.cellsOf 2 = 1 := by kernel_rfl
theorem aBA : bM env.P 2 = true := by kernel_rfl
theorem YU : bW env.P 2 = some false := by kernel_rfl
theorem aBG : bR env.P 2 = some (.d (.int .i64 0)) := by kernel_rfl
theorem aB0 : (env.P.info? 2).isSome = true := by kernel_rfl
theorem uA : env.P.underlying 3 = some (.int .i64) := by kernel_rfl
theorem aE8 : bG env.P 3 = none := by kernel_rfl
theorem aAF : env.P.cellsOf 3 = 1 := by kernel_rfl
theorem aHX : bM env.P 3 = true := by kernel_rfl
theorem aEj : bW env.P 3 = some false := by kernel_rfl
theorem aG2 : bR env.P 3 = some (.d (.int .i64 0)) := by kernel_rfl
theorem aAD : (env.P.info? 3).isSome = true := by kernel_rfl
theorem aEw : env.P.underlying 4 = some .bool := by kernel_rfl
theorem aCl : bG env.P 4 = none := by kernel_rfl
theorem aEC : env.P.cellsOf 4 = 1 := by kernel_rfl
theorem aDW : bM env.P 4 = true := by kernel_rfl
theorem aCQ : bW env.P 4 = some false := by kernel_rfl
theorem aDO : bR env.P 4 = some (.d (.bool false)) := by kernel_rfl
theorem aFo : (env.P.info? 4).isSome = true := by kernel_rfl
theorem pK : env.P.underlying 5 = some (.int .u8) := by kernel_rfl
theorem Y9 : bG env.P 5 = none := by kernel_rfl
theorem aCk : env.P.cellsOf 5 = 1 := by kernel_rfl
theorem aBx : bM env.P 5 = true := by kernel_rfl
theorem Y3 : bW env.P 5 = some false := by kernel_rfl
theorem aAW : bR env.P 5 = some (.d (.int .u8 0)) := by kernel_rfl
theorem aA6 : (env.P.info? 5).isSome = true := by kernel_rfl
theorem YS : env.P.underlying 9 = some .string := by kernel_rfl
theorem UI : bG env.P 9 = none := by kernel_rfl
theorem ZA : env.P.cellsOf 9 = 1 := by kernel_rfl
theorem Z5 : bM env.P 9 = true := by kernel_rfl
theorem WL : bW env.P 9 = some false := by kernel_rfl
theorem ZT : bR env.P 9 = some (.d (.str [])) := by kernel_rfl
theorem YP : (env.P.info? 9).isSome = true := by kernel_rfl
theorem S9 : env.P.underlying 12 = some (.int .u64) := by kernel_rfl
theorem SJ : bG env.P 12 = none := by kernel_rfl
theorem VE : env.P.cellsOf 12 = 1 := by kernel_rfl
theorem VF : bM env.P 12 = true := by kernel_rfl
theorem RD : bW env.P 12 = some false := by kernel_rfl
theorem V2 : bR env.P 12 = some (.d (.int .u64 0)) := by kernel_rfl
theorem TU : (env.P.info? 12).isSome = true := by kernel_rfl
theorem iM : jG env.P 13 = true := by kernel_rfl
theorem mC : bA env.P 13 0 = some (0,9) := by kernel_rfl
theorem lW : bZ env.P 13 0 = some (0,1) := by kernel_rfl
theorem mD : bA env.P 13 1 = some (1,12) := by kernel_rfl
theorem mA : bZ env.P 13 1 = some (1,1) := by kernel_rfl
theorem mZ : bG env.P 13 = none := by kernel_rfl
theorem m7 : env.P.cellsOf 13 = 2 := by kernel_rfl
theorem m9 : bM env.P 13 = true := by kernel_rfl
theorem mT : bW env.P 13 = some true := by kernel_rfl
theorem jA : bR env.P 13 = some (.agg [.d (.str []),.d (.int .u64 0)]) := by kernel_rfl
theorem nG : (env.P.info? 13).isSome = true := by kernel_rfl
theorem MH : bG env.P 20 = none := by kernel_rfl
theorem OC : env.P.cellsOf 20 = 1 := by kernel_rfl
theorem O3 : bM env.P 20 = true := by kernel_rfl
theorem L6 : bW env.P 20 = some false := by kernel_rfl
theorem O4 : bR env.P 20 = some (.d (.nili)) := by kernel_rfl
theorem OX : (env.P.info? 20).isSome = true := by kernel_rfl
theorem aB7 : env.P.underlying 21 = some (.int .i32) := by kernel_rfl
theorem YK : bG env.P 21 = none := by kernel_rfl
theorem aCu : env.P.cellsOf 21 = 1 := by kernel_rfl
theorem aCv : bM env.P 21 = true := by kernel_rfl
theorem X4 : bW env.P 21 = some false := by kernel_rfl
theorem aBw : bR env.P 21 = some (.d (.int .i32 0)) := by kernel_rfl
theorem aCV : (env.P.info? 21).isSome = true := by kernel_rfl
theorem F1 : env.P.underlying 22 = some (.slice 5) := by kernel_rfl
theorem PK : bG env.P 22 = some 5 := by simp only [bG,F1]
theorem RA : env.P.cellsOf 22 = 1 := by kernel_rfl
theorem RN : bM env.P 22 = true := by kernel_rfl
theorem PF : bW env.P 22 = some false := by kernel_rfl
theorem R0 : bR env.P 22 = some (.d (.nils)) := by kernel_rfl
theorem SD : (env.P.info? 22).isSome = true := by kernel_rfl
theorem DH : env.P.underlying 23 = some (.slice 60) := by kernel_rfl
theorem LU : bG env.P 23 = some 60 := by simp only [bG,DH]
theorem OJ : env.P.cellsOf 23 = 1 := by kernel_rfl
theorem OE : bM env.P 23 = true := by kernel_rfl
theorem L0 : bW env.P 23 = some false := by kernel_rfl
theorem OB : bR env.P 23 = some (.d (.nils)) := by kernel_rfl
theorem NQ : (env.P.info? 23).isSome = true := by kernel_rfl
theorem JY : env.P.underlying 24 = some (.slice 4) := by kernel_rfl
theorem SF : bG env.P 24 = some 4 := by simp only [bG,JY]
theorem VV : env.P.cellsOf 24 = 1 := by kernel_rfl
theorem WI : bM env.P 24 = true := by kernel_rfl
theorem R9 : bW env.P 24 = some false := by kernel_rfl
theorem VI : bR env.P 24 = some (.d (.nils)) := by kernel_rfl
theorem VU : (env.P.info? 24).isSome = true := by kernel_rfl
theorem dS : jG env.P 25 = true := by kernel_rfl
theorem fN : bA env.P 25 0 = some (0,3) := by kernel_rfl
theorem fF : bZ env.P 25 0 = some (0,1) := by kernel_rfl
theorem fH : bA env.P 25 1 = some (1,23) := by kernel_rfl
theorem fJ : bZ env.P 25 1 = some (1,1) := by kernel_rfl
theorem fM : bA env.P 25 2 = some (2,24) := by kernel_rfl
theorem fK : bZ env.P 25 2 = some (2,1) := by kernel_rfl
theorem gF : bG env.P 25 = none := by kernel_rfl
theorem gM : env.P.cellsOf 25 = 3 := by kernel_rfl
theorem gP : bM env.P 25 = true := by kernel_rfl
theorem gJ : bW env.P 25 = some true := by kernel_rfl
theorem dY : bR env.P 25 = some (.agg [.d (.int .i64 0),.d (.nils),.d (.nils)]) := by kernel_rfl
theorem gK : (env.P.info? 25).isSome = true := by kernel_rfl
theorem rN : jG env.P 26 = true := by kernel_rfl
theorem wL : bA env.P 26 0 = some (0,3) := by kernel_rfl
theorem wJ : bZ env.P 26 0 = some (0,1) := by kernel_rfl
theorem wY : bA env.P 26 1 = some (1,23) := by kernel_rfl
theorem xD : bZ env.P 26 1 = some (1,1) := by kernel_rfl
theorem wK : bA env.P 26 2 = some (2,24) := by kernel_rfl
theorem xI : bZ env.P 26 2 = some (2,1) := by kernel_rfl
theorem AA : bG env.P 26 = none := by kernel_rfl
theorem CG : env.P.cellsOf 26 = 3 := by kernel_rfl
theorem CE : bM env.P 26 = true := by kernel_rfl
theorem AZ : bW env.P 26 = some true := by kernel_rfl
theorem sY : bR env.P 26 = some (.agg [.d (.int .i64 0),.d (.nils),.d (.nils)]) := by kernel_rfl
theorem CH : (env.P.info? 26).isSome = true := by kernel_rfl
theorem rW : jG env.P 38 = true := by kernel_rfl
theorem wW : bA env.P 38 0 = some (0,3) := by kernel_rfl
theorem xL : bZ env.P 38 0 = some (0,1) := by kernel_rfl
theorem xH : bA env.P 38 1 = some (1,23) := by kernel_rfl
theorem wQ : bZ env.P 38 1 = some (1,1) := by kernel_rfl
theorem wV : bA env.P 38 2 = some (2,24) := by kernel_rfl
theorem wU : bZ env.P 38 2 = some (2,1) := by kernel_rfl
theorem BN : bG env.P 38 = none := by kernel_rfl
theorem CP : env.P.cellsOf 38 = 3 := by kernel_rfl
theorem B8 : bM env.P 38 = true := by kernel_rfl
theorem BA : bW env.P 38 = some true := by kernel_rfl
theorem s6 : bR env.P 38 = some (.agg [.d (.int .i64 0),.d (.nils),.d (.nils)]) := by kernel_rfl
theorem B4 : (env.P.info? 38).isSome = true := by kernel_rfl
theorem DY : env.P.underlying 40 = some (.slice 9) := by kernel_rfl
theorem MO : bG env.P 40 = some 9 := by simp only [bG,DY]
theorem PI : env.P.cellsOf 40 = 1 := by kernel_rfl
theorem NX : bM env.P 40 = true := by kernel_rfl
theorem MI : bW env.P 40 = some false := by kernel_rfl
theorem OU : bR env.P 40 = some (.d (.nils)) := by kernel_rfl
theorem PL : (env.P.info? 40).isSome = true := by kernel_rfl
theorem CT : env.P.underlying 50 = some (.pointer 82) := by kernel_rfl
theorem zZ : bG env.P 50 = none := by kernel_rfl
theorem CI : env.P.cellsOf 50 = 1 := by kernel_rfl
theorem CL : bM env.P 50 = true := by kernel_rfl
theorem AK : bW env.P 50 = some false := by kernel_rfl
theorem CQ : bR env.P 50 = some (.d (.nilp)) := by kernel_rfl
theorem BZ : (env.P.info? 50).isSome = true := by kernel_rfl
theorem zU : env.P.underlying 56 = some (.slice 62) := by kernel_rfl
theorem KA : bG env.P 56 = some 62 := by simp only [bG,zU]
theorem MT : env.P.cellsOf 56 = 1 := by kernel_rfl
theorem MS : bM env.P 56 = true := by kernel_rfl
theorem JK : bW env.P 56 = some false := by kernel_rfl
theorem K5 : bR env.P 56 = some (.d (.nils)) := by kernel_rfl
theorem LX : (env.P.info? 56).isSome = true := by kernel_rfl
theorem M7 : env.P.underlying 60 = some (.slice 3) := by kernel_rfl
theorem UK : bG env.P 60 = some 3 := by simp only [bG,M7]
theorem ZI : env.P.cellsOf 60 = 1 := by kernel_rfl
theorem YH : bM env.P 60 = true := by kernel_rfl
theorem S3 : bW env.P 60 = some false := by kernel_rfl
theorem YE : bR env.P 60 = some (.d (.nils)) := by kernel_rfl
theorem X8 : (env.P.info? 60).isSome = true := by kernel_rfl
theorem J3 : env.P.underlying 62 = some (.array 6 3) := by kernel_rfl
theorem SI : bG env.P 62 = none := by kernel_rfl
theorem TJ : env.P.cellsOf 62 = 6 := by kernel_rfl
theorem UL : bM env.P 62 = true := by kernel_rfl
theorem RV : bW env.P 62 = some true := by kernel_rfl
theorem JJ : bR env.P 62 = some (.agg [.d (.int .i64 0),.d (.int .i64 0),.d (.int .i64 0),.d (.int .i64 0),.d (.int .i64 0),.d (.int .i64 0)]) := by kernel_rfl
theorem S6 : (env.P.info? 62).isSome = true := by kernel_rfl
theorem lR : jG env.P 81 = true := by kernel_rfl
theorem oW : bA env.P 81 0 = some (0,22) := by kernel_rfl
theorem oX : bZ env.P 81 0 = some (0,1) := by kernel_rfl
theorem oY : bA env.P 81 1 = some (1,3) := by kernel_rfl
theorem oV : bZ env.P 81 1 = some (1,1) := by kernel_rfl
theorem pX : bG env.P 81 = none := by kernel_rfl
theorem qO : env.P.cellsOf 81 = 2 := by kernel_rfl
theorem qX : bM env.P 81 = true := by kernel_rfl
theorem pY : bW env.P 81 = some true := by kernel_rfl
theorem mH : bR env.P 81 = some (.agg [.d (.nils),.d (.int .i64 0)]) := by kernel_rfl
theorem qN : (env.P.info? 81).isSome = true := by kernel_rfl
theorem x7 : jG env.P 82 = true := by kernel_rfl
theorem EZ : bA env.P 82 0 = some (0,22) := by kernel_rfl
theorem EF : bZ env.P 82 0 = some (0,1) := by kernel_rfl
theorem EY : bA env.P 82 1 = some (1,3) := by kernel_rfl
theorem ET : bZ env.P 82 1 = some (1,1) := by kernel_rfl
theorem J9 : bG env.P 82 = none := by kernel_rfl
theorem LM : env.P.cellsOf 82 = 2 := by kernel_rfl
theorem MW : bM env.P 82 = true := by kernel_rfl
theorem IH : bW env.P 82 = some true := by kernel_rfl
theorem AJ : bR env.P 82 = some (.agg [.d (.nils),.d (.int .i64 0)]) := by kernel_rfl
theorem M3 : (env.P.info? 82).isSome = true := by kernel_rfl
theorem pP : env.P.underlying 91 = some (.slice 26) := by kernel_rfl
theorem vV : bG env.P 91 = some 26 := by simp only [bG,pP]
theorem wO : env.P.cellsOf 91 = 1 := by kernel_rfl
theorem xK : bM env.P 91 = true := by kernel_rfl
theorem vP : bW env.P 91 = some false := by kernel_rfl
theorem xO : bR env.P 91 = some (.d (.nils)) := by kernel_rfl
theorem wP : (env.P.info? 91).isSome = true := by kernel_rfl
theorem sZ : env.P.underlying 92 = some (.slice 140) := by kernel_rfl
theorem BJ : bG env.P 92 = some 140 := by simp only [bG,sZ]
theorem CR : env.P.cellsOf 92 = 1 := by kernel_rfl
theorem B5 : bM env.P 92 = true := by kernel_rfl
theorem AT : bW env.P 92 = some false := by kernel_rfl
theorem B0 : bR env.P 92 = some (.d (.nils)) := by kernel_rfl
theorem CO : (env.P.info? 92).isSome = true := by kernel_rfl
theorem bD : jG env.P 93 = true := by kernel_rfl
theorem b7 : bA env.P 93 0 = some (0,92) := by kernel_rfl
theorem cG : bZ env.P 93 0 = some (0,1) := by kernel_rfl
theorem cH : bA env.P 93 1 = some (1,91) := by kernel_rfl
theorem b8 : bZ env.P 93 1 = some (1,1) := by kernel_rfl
theorem b6 : bA env.P 93 2 = some (2,60) := by kernel_rfl
theorem cF : bZ env.P 93 2 = some (2,1) := by kernel_rfl
theorem cI : bA env.P 93 3 = some (3,3) := by kernel_rfl
theorem cC : bZ env.P 93 3 = some (3,1) := by kernel_rfl
theorem cD : bA env.P 93 4 = some (4,3) := by kernel_rfl
theorem cA : bZ env.P 93 4 = some (4,1) := by kernel_rfl
theorem cE : bA env.P 93 5 = some (5,3) := by kernel_rfl
theorem cB : bZ env.P 93 5 = some (5,1) := by kernel_rfl
theorem cL : bG env.P 93 = none := by kernel_rfl
theorem cQ : env.P.cellsOf 93 = 6 := by kernel_rfl
theorem cR : bM env.P 93 = true := by kernel_rfl
theorem cN : bW env.P 93 = some true := by kernel_rfl
theorem bF : bR env.P 93 = some (.agg [.d (.nils),.d (.nils),.d (.nils),.d (.int .i64 0),.d (.int .i64 0),.d (.int .i64 0)]) := by kernel_rfl
theorem cP : (env.P.info? 93).isSome = true := by kernel_rfl
theorem yJ : jG env.P 94 = true := by kernel_rfl
theorem E5 : bA env.P 94 0 = some (0,92) := by kernel_rfl
theorem EX : bZ env.P 94 0 = some (0,1) := by kernel_rfl
theorem E0 : bA env.P 94 1 = some (1,91) := by kernel_rfl
theorem FE : bZ env.P 94 1 = some (1,1) := by kernel_rfl
theorem ER : bA env.P 94 2 = some (2,60) := by kernel_rfl
theorem ES : bZ env.P 94 2 = some (2,1) := by kernel_rfl
theorem EV : bA env.P 94 3 = some (3,3) := by kernel_rfl
theorem FL : bZ env.P 94 3 = some (3,1) := by kernel_rfl
theorem EH : bA env.P 94 4 = some (4,3) := by kernel_rfl
theorem FK : bZ env.P 94 4 = some (4,1) := by kernel_rfl
theorem EM : bA env.P 94 5 = some (5,3) := by kernel_rfl
theorem FC : bZ env.P 94 5 = some (5,1) := by kernel_rfl
theorem I7 : bG env.P 94 = none := by kernel_rfl
theorem KU : env.P.cellsOf 94 = 6 := by kernel_rfl
theorem LI : bM env.P 94 = true := by kernel_rfl
theorem KE : bW env.P 94 = some true := by kernel_rfl
theorem AG : bR env.P 94 = some (.agg [.d (.nils),.d (.nils),.d (.nils),.d (.int .i64 0),.d (.int .i64 0),.d (.int .i64 0)]) := by kernel_rfl
theorem LP : (env.P.info? 94).isSome = true := by kernel_rfl
theorem rG : env.P.underlying 103 = some (.int .u64) := by kernel_rfl
theorem aA0 : bG env.P 103 = none := by kernel_rfl
theorem aEE : env.P.cellsOf 103 = 1 := by kernel_rfl
theorem aFj : bM env.P 103 = true := by kernel_rfl
theorem aBY : bW env.P 103 = some false := by kernel_rfl
theorem aD7 : bR env.P 103 = some (.d (.int .u64 0)) := by kernel_rfl
theorem aEk : (env.P.info? 103).isSome = true := by kernel_rfl
theorem wF : env.P.underlying 110 = some (.slice 23) := by kernel_rfl
theorem EI : bG env.P 110 = some 23 := by simp only [bG,wF]
theorem GI : env.P.cellsOf 110 = 1 := by kernel_rfl
theorem GJ : bM env.P 110 = true := by kernel_rfl
theorem E9 : bW env.P 110 = some false := by kernel_rfl
theorem GK : bR env.P 110 = some (.d (.nils)) := by kernel_rfl
theorem G3 : (env.P.info? 110).isSome = true := by kernel_rfl
theorem xN : env.P.underlying 121 = some (.int .i64) := by kernel_rfl
theorem vY : bG env.P 121 = none := by kernel_rfl
theorem xF : env.P.cellsOf 121 = 1 := by kernel_rfl
theorem wX : bM env.P 121 = true := by kernel_rfl
theorem vL : bW env.P 121 = some false := by kernel_rfl
theorem xG : bR env.P 121 = some (.d (.int .i64 0)) := by kernel_rfl
theorem xM : (env.P.info? 121).isSome = true := by kernel_rfl
theorem X6 : env.P.underlying 129 = some (.int .u32) := by kernel_rfl
theorem WB : bG env.P 129 = none := by kernel_rfl
theorem XW : env.P.cellsOf 129 = 1 := by kernel_rfl
theorem X5 : bM env.P 129 = true := by kernel_rfl
theorem V5 : bW env.P 129 = some false := by kernel_rfl
theorem YV : bR env.P 129 = some (.d (.int .u32 0)) := by kernel_rfl
theorem X0 : (env.P.info? 129).isSome = true := by kernel_rfl
theorem X7 : env.P.underlying 131 = some (.int .u64) := by kernel_rfl
theorem TV : bG env.P 131 = none := by kernel_rfl
theorem XX : env.P.cellsOf 131 = 1 := by kernel_rfl
theorem ZZ : bM env.P 131 = true := by kernel_rfl
theorem WC : bW env.P 131 = some false := by kernel_rfl
theorem Y0 : bR env.P 131 = some (.d (.int .u64 0)) := by kernel_rfl
theorem ZF : (env.P.info? 131).isSome = true := by kernel_rfl
theorem wB : env.P.underlying 138 = some (.slice 159) := by kernel_rfl
theorem E1 : bG env.P 138 = some 159 := by simp only [bG,wB]
theorem GW : env.P.cellsOf 138 = 1 := by kernel_rfl
theorem G7 : bM env.P 138 = true := by kernel_rfl
theorem EJ : bW env.P 138 = some false := by kernel_rfl
theorem G0 : bR env.P 138 = some (.d (.nils)) := by kernel_rfl
theorem GV : (env.P.info? 138).isSome = true := by kernel_rfl
theorem dU : jG env.P 139 = true := by kernel_rfl
theorem fP : bA env.P 139 0 = some (0,3) := by kernel_rfl
theorem fL : bZ env.P 139 0 = some (0,1) := by kernel_rfl
theorem fQ : bA env.P 139 1 = some (1,3) := by kernel_rfl
theorem fG : bZ env.P 139 1 = some (1,1) := by kernel_rfl
theorem fI : bA env.P 139 2 = some (2,138) := by kernel_rfl
theorem fE : bZ env.P 139 2 = some (2,1) := by kernel_rfl
theorem gC : bG env.P 139 = none := by kernel_rfl
theorem gO : env.P.cellsOf 139 = 3 := by kernel_rfl
theorem gL : bM env.P 139 = true := by kernel_rfl
theorem gD : bW env.P 139 = some true := by kernel_rfl
theorem dW : bR env.P 139 = some (.agg [.d (.int .i64 0),.d (.int .i64 0),.d (.nils)]) := by kernel_rfl
theorem gN : (env.P.info? 139).isSome = true := by kernel_rfl
theorem wE : jG env.P 140 = true := by kernel_rfl
theorem CC : bA env.P 140 0 = some (0,3) := by kernel_rfl
theorem CF : bZ env.P 140 0 = some (0,1) := by kernel_rfl
theorem B3 : bA env.P 140 1 = some (1,3) := by kernel_rfl
theorem CB : bZ env.P 140 1 = some (1,1) := by kernel_rfl
theorem CD : bA env.P 140 2 = some (2,138) := by kernel_rfl
theorem CA : bZ env.P 140 2 = some (2,1) := by kernel_rfl
theorem GG : bG env.P 140 = none := by kernel_rfl
theorem JU : env.P.cellsOf 140 = 3 := by kernel_rfl
theorem JP : bM env.P 140 = true := by kernel_rfl
theorem G8 : bW env.P 140 = some true := by kernel_rfl
theorem yE : bR env.P 140 = some (.agg [.d (.int .i64 0),.d (.int .i64 0),.d (.nils)]) := by kernel_rfl
theorem IA : (env.P.info? 140).isSome = true := by kernel_rfl
theorem oZ : env.P.underlying 144 = some (.slice 146) := by kernel_rfl
theorem uL : bG env.P 144 = some 146 := by simp only [bG,oZ]
theorem vQ : env.P.cellsOf 144 = 1 := by kernel_rfl
theorem vS : bM env.P 144 = true := by kernel_rfl
theorem tU : bW env.P 144 = some false := by kernel_rfl
theorem vN : bR env.P 144 = some (.d (.nils)) := by kernel_rfl
theorem vU : (env.P.info? 144).isSome = true := by kernel_rfl
theorem eM : jG env.P 145 = true := by kernel_rfl
theorem iE : bA env.P 145 0 = some (0,3) := by kernel_rfl
theorem iC : bZ env.P 145 0 = some (0,1) := by kernel_rfl
theorem iD : bA env.P 145 1 = some (1,3) := by kernel_rfl
theorem iG : bZ env.P 145 1 = some (1,1) := by kernel_rfl
theorem iH : bA env.P 145 2 = some (2,60) := by kernel_rfl
theorem iF : bZ env.P 145 2 = some (2,1) := by kernel_rfl
theorem iU : bG env.P 145 = none := by kernel_rfl
theorem jB : env.P.cellsOf 145 = 3 := by kernel_rfl
theorem jE : bM env.P 145 = true := by kernel_rfl
theorem iV : bW env.P 145 = some true := by kernel_rfl
theorem eR : bR env.P 145 = some (.agg [.d (.int .i64 0),.d (.int .i64 0),.d (.nils)]) := by kernel_rfl
theorem jC : (env.P.info? 145).isSome = true := by kernel_rfl
theorem qW : jG env.P 146 = true := by kernel_rfl
theorem vT : bA env.P 146 0 = some (0,3) := by kernel_rfl
theorem vR : bZ env.P 146 0 = some (0,1) := by kernel_rfl
theorem vW : bA env.P 146 1 = some (1,3) := by kernel_rfl
theorem vX : bZ env.P 146 1 = some (1,1) := by kernel_rfl
theorem vM : bA env.P 146 2 = some (2,60) := by kernel_rfl
theorem vO : bZ env.P 146 2 = some (2,1) := by kernel_rfl
theorem y4 : bG env.P 146 = none := by kernel_rfl
theorem zM : env.P.cellsOf 146 = 3 := by kernel_rfl
theorem BG : bM env.P 146 = true := by kernel_rfl
theorem zA : bW env.P 146 = some true := by kernel_rfl
theorem r7 : bR env.P 146 = some (.agg [.d (.int .i64 0),.d (.int .i64 0),.d (.nils)]) := by kernel_rfl
theorem BH : (env.P.info? 146).isSome = true := by kernel_rfl
theorem BC : env.P.underlying 149 = some (.int .u64) := by kernel_rfl
theorem yT : bG env.P 149 = none := by kernel_rfl
theorem A5 : env.P.cellsOf 149 = 1 := by kernel_rfl
theorem AN : bM env.P 149 = true := by kernel_rfl
theorem y6 : bW env.P 149 = some false := by kernel_rfl
theorem A2 : bR env.P 149 = some (.d (.int .u64 0)) := by kernel_rfl
theorem AL : (env.P.info? 149).isSome = true := by kernel_rfl
theorem V3 : env.P.underlying 153 = some (.pointer 3) := by kernel_rfl
theorem Q3 : bG env.P 153 = none := by kernel_rfl
theorem UM : env.P.cellsOf 153 = 1 := by kernel_rfl
theorem SX : bM env.P 153 = true := by kernel_rfl
theorem Q4 : bW env.P 153 = some false := by kernel_rfl
theorem UW : bR env.P 153 = some (.d (.nilp)) := by kernel_rfl
theorem UO : (env.P.info? 153).isSome = true := by kernel_rfl
theorem uT : env.P.underlying 156 = some (.pointer 149) := by kernel_rfl
theorem tL : bG env.P 156 = none := by kernel_rfl
theorem uQ : env.P.cellsOf 156 = 1 := by kernel_rfl
theorem tZ : bM env.P 156 = true := by kernel_rfl
theorem tE : bW env.P 156 = some false := by kernel_rfl
theorem uR : bR env.P 156 = some (.d (.nilp)) := by kernel_rfl
theorem tQ : (env.P.info? 156).isSome = true := by kernel_rfl
theorem gT : jG env.P 158 = true := by kernel_rfl
theorem kH : bA env.P 158 0 = some (0,3) := by kernel_rfl
theorem kJ : bZ env.P 158 0 = some (0,1) := by kernel_rfl
theorem kF : bA env.P 158 1 = some (1,3) := by kernel_rfl
theorem kK : bZ env.P 158 1 = some (1,1) := by kernel_rfl
theorem kG : bA env.P 158 2 = some (2,3) := by kernel_rfl
theorem kI : bZ env.P 158 2 = some (2,1) := by kernel_rfl
theorem lK : bG env.P 158 = none := by kernel_rfl
theorem mE : env.P.cellsOf 158 = 3 := by kernel_rfl
theorem lZ : bM env.P 158 = true := by kernel_rfl
theorem lN : bW env.P 158 = some true := by kernel_rfl
theorem hR : bR env.P 158 = some (.agg [.d (.int .i64 0),.d (.int .i64 0),.d (.int .i64 0)]) := by kernel_rfl
theorem lX : (env.P.info? 158).isSome = true := by kernel_rfl
theorem BX : jG env.P 159 = true := by kernel_rfl
theorem GO : bA env.P 159 0 = some (0,3) := by kernel_rfl
theorem GH : bZ env.P 159 0 = some (0,1) := by kernel_rfl
theorem GP : bA env.P 159 1 = some (1,3) := by kernel_rfl
theorem GU : bZ env.P 159 1 = some (1,1) := by kernel_rfl
theorem GQ : bA env.P 159 2 = some (2,3) := by kernel_rfl
theorem G4 : bZ env.P 159 2 = some (2,1) := by kernel_rfl
theorem MC : bG env.P 159 = none := by kernel_rfl
theorem NS : env.P.cellsOf 159 = 3 := by kernel_rfl
theorem O9 : bM env.P 159 = true := by kernel_rfl
theorem K4 : bW env.P 159 = some true := by kernel_rfl
theorem DL : bR env.P 159 = some (.agg [.d (.int .i64 0),.d (.int .i64 0),.d (.int .i64 0)]) := by kernel_rfl
theorem OI : (env.P.info? 159).isSome = true := by kernel_rfl
theorem PJ : env.P.underlying 170 = some (.pointer 5) := by kernel_rfl
theorem L9 : bG env.P 170 = none := by kernel_rfl
theorem ON : env.P.cellsOf 170 = 1 := by kernel_rfl
theorem OQ : bM env.P 170 = true := by kernel_rfl
theorem M2 : bW env.P 170 = some false := by kernel_rfl
theorem N4 : bR env.P 170 = some (.d (.nilp)) := by kernel_rfl
theorem PB : (env.P.info? 170).isSome = true := by kernel_rfl
theorem zS : bG env.P 175 = none := by kernel_rfl
theorem B1 : env.P.cellsOf 175 = 1 := by kernel_rfl
theorem CN : bM env.P 175 = true := by kernel_rfl
theorem AD : bW env.P 175 = some false := by kernel_rfl
theorem B6 : bR env.P 175 = some (.d (.nilp)) := by kernel_rfl
theorem CJ : (env.P.info? 175).isSome = true := by kernel_rfl
theorem m4 : ∀ parts,iL env.P 13 parts = (eP (aQ (.agg [.d (.str []),.d (.int .u64 0)])) (parts.map fun p => (bZ env.P 13 p.1,p.2))).map .agg := fun _ => eF iM jA
theorem gE : ∀ parts,iL env.P 25 parts = (eP (aQ (.agg [.d (.int .i64 0),.d (.nils),.d (.nils)])) (parts.map fun p => (bZ env.P 25 p.1,p.2))).map .agg := fun _ => eF dS dY
theorem zX : ∀ parts,iL env.P 26 parts = (eP (aQ (.agg [.d (.int .i64 0),.d (.nils),.d (.nils)])) (parts.map fun p => (bZ env.P 26 p.1,p.2))).map .agg := fun _ => eF rN sY
theorem A4 : ∀ parts,iL env.P 38 parts = (eP (aQ (.agg [.d (.int .i64 0),.d (.nils),.d (.nils)])) (parts.map fun p => (bZ env.P 38 p.1,p.2))).map .agg := fun _ => eF rW s6
theorem Q6 : ∀ parts,iL env.P 62 parts = (eP (aQ (.agg [.d (.int .i64 0),.d (.int .i64 0),.d (.int .i64 0),.d (.int .i64 0),.d (.int .i64 0),.d (.int .i64 0)])) (parts.map fun p => (some (p.1 * 1,1),p.2))).map .agg := fun _ => aHd J3 JJ aAD aAF
theorem pW : ∀ parts,iL env.P 81 parts = (eP (aQ (.agg [.d (.nils),.d (.int .i64 0)])) (parts.map fun p => (bZ env.P 81 p.1,p.2))).map .agg := fun _ => eF lR mH
theorem KC : ∀ parts,iL env.P 82 parts = (eP (aQ (.agg [.d (.nils),.d (.int .i64 0)])) (parts.map fun p => (bZ env.P 82 p.1,p.2))).map .agg := fun _ => eF x7 AJ
theorem cK : ∀ parts,iL env.P 93 parts = (eP (aQ (.agg [.d (.nils),.d (.nils),.d (.nils),.d (.int .i64 0),.d (.int .i64 0),.d (.int .i64 0)])) (parts.map fun p => (bZ env.P 93 p.1,p.2))).map .agg := fun _ => eF bD bF
theorem KM : ∀ parts,iL env.P 94 parts = (eP (aQ (.agg [.d (.nils),.d (.nils),.d (.nils),.d (.int .i64 0),.d (.int .i64 0),.d (.int .i64 0)])) (parts.map fun p => (bZ env.P 94 p.1,p.2))).map .agg := fun _ => eF yJ AG
theorem gG : ∀ parts,iL env.P 139 parts = (eP (aQ (.agg [.d (.int .i64 0),.d (.int .i64 0),.d (.nils)])) (parts.map fun p => (bZ env.P 139 p.1,p.2))).map .agg := fun _ => eF dU dW
theorem G5 : ∀ parts,iL env.P 140 parts = (eP (aQ (.agg [.d (.int .i64 0),.d (.int .i64 0),.d (.nils)])) (parts.map fun p => (bZ env.P 140 p.1,p.2))).map .agg := fun _ => eF wE yE
theorem iW : ∀ parts,iL env.P 145 parts = (eP (aQ (.agg [.d (.int .i64 0),.d (.int .i64 0),.d (.nils)])) (parts.map fun p => (bZ env.P 145 p.1,p.2))).map .agg := fun _ => eF eM eR
theorem y3 : ∀ parts,iL env.P 146 parts = (eP (aQ (.agg [.d (.int .i64 0),.d (.int .i64 0),.d (.nils)])) (parts.map fun p => (bZ env.P 146 p.1,p.2))).map .agg := fun _ => eF qW r7
theorem lI : ∀ parts,iL env.P 158 parts = (eP (aQ (.agg [.d (.int .i64 0),.d (.int .i64 0),.d (.int .i64 0)])) (parts.map fun p => (bZ env.P 158 p.1,p.2))).map .agg := fun _ => eF gT hR
theorem MM : ∀ parts,iL env.P 159 parts = (eP (aQ (.agg [.d (.int .i64 0),.d (.int .i64 0),.d (.int .i64 0)])) (parts.map fun p => (bZ env.P 159 p.1,p.2))).map .agg := fun _ => eF BX DL
theorem RP {h : H} {n : Int} {K : IntKind} : f9 env.P h 3 3 (.d (.int K n)) = some (.d (.int .i64 (IntKind.wrap .i64 n)),h) := mU uA uA
theorem MJ {h : H} {n : Int} {K : IntKind} : f9 env.P h 3 5 (.d (.int K n)) = some (.d (.int .u8 (IntKind.wrap .u8 n)),h) := mU uA pK
theorem OT {h : H} {n : Int} {K : IntKind} : f9 env.P h 3 103 (.d (.int K n)) = some (.d (.int .u64 (IntKind.wrap .u64 n)),h) := mU uA rG
theorem KY {h : H} {n : Int} {K : IntKind} : f9 env.P h 5 3 (.d (.int K n)) = some (.d (.int .i64 (IntKind.wrap .i64 n)),h) := mU pK uA
theorem GZ {h : H} {n : Int} {K : IntKind} : f9 env.P h 5 5 (.d (.int K n)) = some (.d (.int .u8 (IntKind.wrap .u8 n)),h) := mU pK pK
theorem JW {h : H} {n : Int} {K : IntKind} : f9 env.P h 5 103 (.d (.int K n)) = some (.d (.int .u64 (IntKind.wrap .u64 n)),h) := mU pK rG
theorem N1 {h : H} {n : Int} {K : IntKind} : f9 env.P h 103 3 (.d (.int K n)) = some (.d (.int .i64 (IntKind.wrap .i64 n)),h) := mU rG uA
theorem KO {h : H} {n : Int} {K : IntKind} : f9 env.P h 103 5 (.d (.int K n)) = some (.d (.int .u8 (IntKind.wrap .u8 n)),h) := mU rG pK
theorem MU {h : H} {n : Int} {K : IntKind} : f9 env.P h 103 103 (.d (.int K n)) = some (.d (.int .u64 (IntKind.wrap .u64 n)),h) := mU rG rG
theorem TY0 : type_of% (AI @aCq (AI @ZS (AI @aCm (AI @aBA (AI @YU (AI @aBG (AI @aB0 (AI @uA (AI @aE8 (AI @aAF (AI @aHX (AI @aEj (AI @aG2 (AI @aAD (AI @aEw (AI @aCl (AI @aEC (AI @aDW (AI @aCQ (AI @aDO (AI @aFo (AI @pK (AI @Y9 (AI @aCk (AI @aBx (AI @Y3 (AI @aAW (AI @aA6 (AI @YS (AI @UI (AI @ZA (AI @Z5 (AI @WL (AI @ZT (AI @YP (AI @S9 (AI @SJ (AI @VE (AI @VF @RD))))))))))))))))))))))))))))))))))))))) :=
 ⟨@aCq,@ZS,@aCm,@aBA,@YU,@aBG,@aB0,@uA,@aE8,@aAF,@aHX,@aEj,@aG2,@aAD,@aEw,@aCl,@aEC,@aDW,@aCQ,@aDO,@aFo,@pK,@Y9,@aCk,@aBx,@Y3,@aAW,@aA6,@YS,@UI,@ZA,@Z5,@WL,@ZT,@YP,@S9,@SJ,@VE,@VF,@RD⟩
theorem TY1 : type_of% (AI @V2 (AI @TU (AI @iM (AI @mC (AI @lW (AI @mD (AI @mA (AI @mZ (AI @m7 (AI @m9 (AI @mT (AI @jA (AI @m4 (AI @nG (AI @MH (AI @OC (AI @O3 (AI @L6 (AI @O4 (AI @OX (AI @aB7 (AI @YK (AI @aCu (AI @aCv (AI @X4 (AI @aBw (AI @aCV (AI @F1 (AI @PK (AI @RA (AI @RN (AI @PF (AI @R0 (AI @SD (AI @DH (AI @LU (AI @OJ (AI @OE (AI @L0 @OB))))))))))))))))))))))))))))))))))))))) :=
 ⟨@V2,@TU,@iM,@mC,@lW,@mD,@mA,@mZ,@m7,@m9,@mT,@jA,@m4,@nG,@MH,@OC,@O3,@L6,@O4,@OX,@aB7,@YK,@aCu,@aCv,@X4,@aBw,@aCV,@F1,@PK,@RA,@RN,@PF,@R0,@SD,@DH,@LU,@OJ,@OE,@L0,@OB⟩
theorem TY2 : type_of% (AI @NQ (AI @JY (AI @SF (AI @VV (AI @WI (AI @R9 (AI @VI (AI @VU (AI @dS (AI @fN (AI @fF (AI @fH (AI @fJ (AI @fM (AI @fK (AI @gF (AI @gM (AI @gP (AI @gJ (AI @dY (AI @gE (AI @gK (AI @rN (AI @wL (AI @wJ (AI @wY (AI @xD (AI @wK (AI @xI (AI @AA (AI @CG (AI @CE (AI @AZ (AI @sY (AI @zX (AI @CH (AI @rW (AI @wW (AI @xL @xH))))))))))))))))))))))))))))))))))))))) :=
 ⟨@NQ,@JY,@SF,@VV,@WI,@R9,@VI,@VU,@dS,@fN,@fF,@fH,@fJ,@fM,@fK,@gF,@gM,@gP,@gJ,@dY,@gE,@gK,@rN,@wL,@wJ,@wY,@xD,@wK,@xI,@AA,@CG,@CE,@AZ,@sY,@zX,@CH,@rW,@wW,@xL,@xH⟩
theorem TY3 : type_of% (AI @wQ (AI @wV (AI @wU (AI @BN (AI @CP (AI @B8 (AI @BA (AI @s6 (AI @A4 (AI @B4 (AI @DY (AI @MO (AI @PI (AI @NX (AI @MI (AI @OU (AI @PL (AI @CT (AI @zZ (AI @CI (AI @CL (AI @AK (AI @CQ (AI @BZ (AI @zU (AI @KA (AI @MT (AI @MS (AI @JK (AI @K5 (AI @LX (AI @M7 (AI @UK (AI @ZI (AI @YH (AI @S3 (AI @YE (AI @X8 (AI @J3 @SI))))))))))))))))))))))))))))))))))))))) :=
 ⟨@wQ,@wV,@wU,@BN,@CP,@B8,@BA,@s6,@A4,@B4,@DY,@MO,@PI,@NX,@MI,@OU,@PL,@CT,@zZ,@CI,@CL,@AK,@CQ,@BZ,@zU,@KA,@MT,@MS,@JK,@K5,@LX,@M7,@UK,@ZI,@YH,@S3,@YE,@X8,@J3,@SI⟩
theorem TY4 : type_of% (AI @TJ (AI @UL (AI @RV (AI @JJ (AI @Q6 (AI @S6 (AI @lR (AI @oW (AI @oX (AI @oY (AI @oV (AI @pX (AI @qO (AI @qX (AI @pY (AI @mH (AI @pW (AI @qN (AI @x7 (AI @EZ (AI @EF (AI @EY (AI @ET (AI @J9 (AI @LM (AI @MW (AI @IH (AI @AJ (AI @KC (AI @M3 (AI @pP (AI @vV (AI @wO (AI @xK (AI @vP (AI @xO (AI @wP (AI @sZ (AI @BJ @CR))))))))))))))))))))))))))))))))))))))) :=
 ⟨@TJ,@UL,@RV,@JJ,@Q6,@S6,@lR,@oW,@oX,@oY,@oV,@pX,@qO,@qX,@pY,@mH,@pW,@qN,@x7,@EZ,@EF,@EY,@ET,@J9,@LM,@MW,@IH,@AJ,@KC,@M3,@pP,@vV,@wO,@xK,@vP,@xO,@wP,@sZ,@BJ,@CR⟩
theorem TY5 : type_of% (AI @B5 (AI @AT (AI @B0 (AI @CO (AI @bD (AI @b7 (AI @cG (AI @cH (AI @b8 (AI @b6 (AI @cF (AI @cI (AI @cC (AI @cD (AI @cA (AI @cE (AI @cB (AI @cL (AI @cQ (AI @cR (AI @cN (AI @bF (AI @cK (AI @cP (AI @yJ (AI @E5 (AI @EX (AI @E0 (AI @FE (AI @ER (AI @ES (AI @EV (AI @FL (AI @EH (AI @FK (AI @EM (AI @FC (AI @I7 (AI @KU @LI))))))))))))))))))))))))))))))))))))))) :=
 ⟨@B5,@AT,@B0,@CO,@bD,@b7,@cG,@cH,@b8,@b6,@cF,@cI,@cC,@cD,@cA,@cE,@cB,@cL,@cQ,@cR,@cN,@bF,@cK,@cP,@yJ,@E5,@EX,@E0,@FE,@ER,@ES,@EV,@FL,@EH,@FK,@EM,@FC,@I7,@KU,@LI⟩
theorem TY6 : type_of% (AI @KE (AI @AG (AI @KM (AI @LP (AI @rG (AI @aA0 (AI @aEE (AI @aFj (AI @aBY (AI @aD7 (AI @aEk (AI @wF (AI @EI (AI @GI (AI @GJ (AI @E9 (AI @GK (AI @G3 (AI @xN (AI @vY (AI @xF (AI @wX (AI @vL (AI @xG (AI @xM (AI @X6 (AI @WB (AI @XW (AI @X5 (AI @V5 (AI @YV (AI @X0 (AI @X7 (AI @TV (AI @XX (AI @ZZ (AI @WC (AI @Y0 (AI @ZF @wB))))))))))))))))))))))))))))))))))))))) :=
 ⟨@KE,@AG,@KM,@LP,@rG,@aA0,@aEE,@aFj,@aBY,@aD7,@aEk,@wF,@EI,@GI,@GJ,@E9,@GK,@G3,@xN,@vY,@xF,@wX,@vL,@xG,@xM,@X6,@WB,@XW,@X5,@V5,@YV,@X0,@X7,@TV,@XX,@ZZ,@WC,@Y0,@ZF,@wB⟩
theorem TY7 : type_of% (AI @E1 (AI @GW (AI @G7 (AI @EJ (AI @G0 (AI @GV (AI @dU (AI @fP (AI @fL (AI @fQ (AI @fG (AI @fI (AI @fE (AI @gC (AI @gO (AI @gL (AI @gD (AI @dW (AI @gG (AI @gN (AI @wE (AI @CC (AI @CF (AI @B3 (AI @CB (AI @CD (AI @CA (AI @GG (AI @JU (AI @JP (AI @G8 (AI @yE (AI @G5 (AI @IA (AI @oZ (AI @uL (AI @vQ (AI @vS (AI @tU @vN))))))))))))))))))))))))))))))))))))))) :=
 ⟨@E1,@GW,@G7,@EJ,@G0,@GV,@dU,@fP,@fL,@fQ,@fG,@fI,@fE,@gC,@gO,@gL,@gD,@dW,@gG,@gN,@wE,@CC,@CF,@B3,@CB,@CD,@CA,@GG,@JU,@JP,@G8,@yE,@G5,@IA,@oZ,@uL,@vQ,@vS,@tU,@vN⟩
theorem TY8 : type_of% (AI @vU (AI @eM (AI @iE (AI @iC (AI @iD (AI @iG (AI @iH (AI @iF (AI @iU (AI @jB (AI @jE (AI @iV (AI @eR (AI @iW (AI @jC (AI @qW (AI @vT (AI @vR (AI @vW (AI @vX (AI @vM (AI @vO (AI @y4 (AI @zM (AI @BG (AI @zA (AI @r7 (AI @y3 (AI @BH (AI @BC (AI @yT (AI @A5 (AI @AN (AI @y6 (AI @A2 (AI @AL (AI @V3 (AI @Q3 (AI @UM @SX))))))))))))))))))))))))))))))))))))))) :=
 ⟨@vU,@eM,@iE,@iC,@iD,@iG,@iH,@iF,@iU,@jB,@jE,@iV,@eR,@iW,@jC,@qW,@vT,@vR,@vW,@vX,@vM,@vO,@y4,@zM,@BG,@zA,@r7,@y3,@BH,@BC,@yT,@A5,@AN,@y6,@A2,@AL,@V3,@Q3,@UM,@SX⟩
theorem TY9 : type_of% (AI @Q4 (AI @UW (AI @UO (AI @uT (AI @tL (AI @uQ (AI @tZ (AI @tE (AI @uR (AI @tQ (AI @gT (AI @kH (AI @kJ (AI @kF (AI @kK (AI @kG (AI @kI (AI @lK (AI @mE (AI @lZ (AI @lN (AI @hR (AI @lI (AI @lX (AI @BX (AI @GO (AI @GH (AI @GP (AI @GU (AI @GQ (AI @G4 (AI @MC (AI @NS (AI @O9 (AI @K4 (AI @DL (AI @MM (AI @OI (AI @PJ @L9))))))))))))))))))))))))))))))))))))))) :=
 ⟨@Q4,@UW,@UO,@uT,@tL,@uQ,@tZ,@tE,@uR,@tQ,@gT,@kH,@kJ,@kF,@kK,@kG,@kI,@lK,@mE,@lZ,@lN,@hR,@lI,@lX,@BX,@GO,@GH,@GP,@GU,@GQ,@G4,@MC,@NS,@O9,@K4,@DL,@MM,@OI,@PJ,@L9⟩
theorem TY10 : type_of% (AI @ON (AI @OQ (AI @M2 (AI @N4 (AI @PB (AI @zS (AI @B1 (AI @CN (AI @AD (AI @B6 (AI @CJ (AI @RP (AI @MJ (AI @OT (AI @KY (AI @GZ (AI @JW (AI @N1 (AI @KO @MU))))))))))))))))))) :=
 ⟨@ON,@OQ,@M2,@N4,@PB,@zS,@B1,@CN,@AD,@B6,@CJ,@RP,@MJ,@OT,@KY,@GZ,@JW,@N1,@KO,@MU⟩
theorem TY : type_of% (AI @TY0 (AI @TY1 (AI @TY2 (AI @TY3 (AI @TY4 (AI @TY5 (AI @TY6 (AI @TY7 (AI @TY8 (AI @TY9 @TY10)))))))))) :=
 ⟨@TY0,@TY1,@TY2,@TY3,@TY4,@TY5,@TY6,@TY7,@TY8,@TY9,@TY10⟩
end Ev
end Go.Proofs.Ytppdfjdfjfoddaa
