/-
  What the types of the program are, as the evaluator asks. Written by a program.
-/
import Derived.Test.YtppdfjdfjfoddaaDoorEnvF
import Derived.Test.YtppdfjdfjfoddaaDoorEvWalk
set_option maxRecDepth 100000
namespace Go.Proofs.YtppdfjdfjfoddaaDoor
namespace Ev
def cU (P:Program) (t:TypeId) (i:Nat):Option (Nat × Nat):=match P.underlying t with
 | some (.struct fields) => (fields.toList[i]?).map fun f => (f.offset,P.cellsOf f.type)
 | _ => none
def jV (P:Program) (t:TypeId):Bool:=match P.underlying t with
 | some (.struct fields) => fields.toList.all fun f => (P.info? f.type).isSome
 | _ => false
theorem fH {P:Program} {t:TypeId} {z:A} {parts:List (Nat × A)} (hs:jV P t = true) (hz:bN P t = some z):gD P t parts = (eI (aO z) (parts.map fun p => (cU P t p.1,p.2))).map .agg:=by
 unfold jV at hs
 unfold gD cU
 rw [hz]
 cases hu:P.underlying t with
 | none => rw [hu] at hs; cases hs
 | some d =>
  rw [hu] at hs
  cases d <;> first | cases hs | skip
  simp only at hs ⊢
  rw [if_pos hs]
theorem pZ {P:Program} {t e:TypeId} {n c:Nat} {z:A} {parts:List (Nat × A)} (hu:P.underlying t = some (.array n e)) (hz:bN P t = some z) (hi:(P.info? e).isSome = true) (hc:P.cellsOf e = c):gD P t parts = (eI (aO z) (parts.map fun p => (some (p.1 * c,c),p.2))).map .agg:=by
 unfold gD
 rw [hz,hu]
 simp only [hi,if_true,hc]
theorem mQ {P:Program} {h:H} {t u:TypeId} {K K1 K2:IntKind} {n:Int} (h1:P.underlying t = some (.int K1)) (h2:P.underlying u = some (.int K2)):gI P h t u (.d (.int K n)) = some (.d (.int K2 (K2.wrap n)),h):=by
 simp only [gI,h1,h2]
theorem aBm:env.P.underlying 2 = some (.int .i64):=by kernel_rfl
theorem YJ:bB env.P 2 = none:=by kernel_rfl
theorem aAy:env.P.cellsOf 2 = 1:=by kernel_rfl
theorem aB9:bJ env.P 2 = true:=by kernel_rfl
theorem WO:bM env.P 2 = some false:=by kernel_rfl
theorem aBt:bN env.P 2 = some (.d (.int .i64 0)):=by kernel_rfl
theorem aAP:(env.P.info? 2).isSome = true:=by kernel_rfl
theorem tE:env.P.underlying 3 = some (.int .i64):=by kernel_rfl
theorem aDh:bB env.P 3 = none:=by kernel_rfl
theorem ZG:env.P.cellsOf 3 = 1:=by kernel_rfl
theorem aFE:bJ env.P 3 = true:=by kernel_rfl
theorem aDb:bM env.P 3 = some false:=by kernel_rfl
theorem aFz:bN env.P 3 = some (.d (.int .i64 0)):=by kernel_rfl
theorem YU:(env.P.info? 3).isSome = true:=by kernel_rfl
theorem aEf:env.P.underlying 4 = some .bool:=by kernel_rfl
theorem aAO:bB env.P 4 = none:=by kernel_rfl
theorem aEk:env.P.cellsOf 4 = 1:=by kernel_rfl
theorem aEu:bJ env.P 4 = true:=by kernel_rfl
theorem aBP:bM env.P 4 = some false:=by kernel_rfl
theorem aDw:bN env.P 4 = some (.d (.bool false)):=by kernel_rfl
theorem aDD:(env.P.info? 4).isSome = true:=by kernel_rfl
theorem oO:env.P.underlying 5 = some (.int .u8):=by kernel_rfl
theorem W0:bB env.P 5 = none:=by kernel_rfl
theorem uA:env.P.cellsOf 5 = 1:=by kernel_rfl
theorem aAt:bJ env.P 5 = true:=by kernel_rfl
theorem YC:bM env.P 5 = some false:=by kernel_rfl
theorem aBX:bN env.P 5 = some (.d (.int .u8 0)):=by kernel_rfl
theorem uP:(env.P.info? 5).isSome = true:=by kernel_rfl
theorem WT:env.P.underlying 9 = some .string:=by kernel_rfl
theorem SZ:bB env.P 9 = none:=by kernel_rfl
theorem XU:env.P.cellsOf 9 = 1:=by kernel_rfl
theorem WI:bJ env.P 9 = true:=by kernel_rfl
theorem S7:bM env.P 9 = some false:=by kernel_rfl
theorem XI:bN env.P 9 = some (.d (.str [])):=by kernel_rfl
theorem WW:(env.P.info? 9).isSome = true:=by kernel_rfl
theorem SB:env.P.underlying 12 = some (.int .u64):=by kernel_rfl
theorem QG:bB env.P 12 = none:=by kernel_rfl
theorem VC:env.P.cellsOf 12 = 1:=by kernel_rfl
theorem US:bJ env.P 12 = true:=by kernel_rfl
theorem QE:bM env.P 12 = some false:=by kernel_rfl
theorem ST:bN env.P 12 = some (.d (.int .u64 0)):=by kernel_rfl
theorem VB:(env.P.info? 12).isSome = true:=by kernel_rfl
theorem iL:jV env.P 13 = true:=by kernel_rfl
theorem lY:a9 env.P 13 0 = some (0,9):=by kernel_rfl
theorem lT:cU env.P 13 0 = some (0,1):=by kernel_rfl
theorem lQ:a9 env.P 13 1 = some (1,12):=by kernel_rfl
theorem lV:cU env.P 13 1 = some (1,1):=by kernel_rfl
theorem mY:bB env.P 13 = none:=by kernel_rfl
theorem nD:env.P.cellsOf 13 = 2:=by kernel_rfl
theorem m8:bJ env.P 13 = true:=by kernel_rfl
theorem mV:bM env.P 13 = some true:=by kernel_rfl
theorem iY:bN env.P 13 = some (.agg [.d (.str []),.d (.int .u64 0)]):=by kernel_rfl
theorem nC:(env.P.info? 13).isSome = true:=by kernel_rfl
theorem KE:bB env.P 20 = none:=by kernel_rfl
theorem OL:env.P.cellsOf 20 = 1:=by kernel_rfl
theorem M9:bJ env.P 20 = true:=by kernel_rfl
theorem LV:bM env.P 20 = some false:=by kernel_rfl
theorem NK:bN env.P 20 = some (.d (.nili)):=by kernel_rfl
theorem OQ:(env.P.info? 20).isSome = true:=by kernel_rfl
theorem aBQ:env.P.underlying 21 = some (.int .i32):=by kernel_rfl
theorem YA:bB env.P 21 = none:=by kernel_rfl
theorem aBI:env.P.cellsOf 21 = 1:=by kernel_rfl
theorem aB4:bJ env.P 21 = true:=by kernel_rfl
theorem X4:bM env.P 21 = some false:=by kernel_rfl
theorem aB1:bN env.P 21 = some (.d (.int .i32 0)):=by kernel_rfl
theorem aAh:(env.P.info? 21).isSome = true:=by kernel_rfl
theorem FB:env.P.underlying 22 = some (.slice 5):=by kernel_rfl
theorem OD:bB env.P 22 = some 5:=by simp only [bB,FB]
theorem RS:env.P.cellsOf 22 = 1:=by kernel_rfl
theorem QN:bJ env.P 22 = true:=by kernel_rfl
theorem NY:bM env.P 22 = some false:=by kernel_rfl
theorem QS:bN env.P 22 = some (.d (.nils)):=by kernel_rfl
theorem RL:(env.P.info? 22).isSome = true:=by kernel_rfl
theorem C0:env.P.underlying 23 = some (.slice 32):=by kernel_rfl
theorem L0:bB env.P 23 = some 32:=by simp only [bB,C0]
theorem NI:env.P.cellsOf 23 = 1:=by kernel_rfl
theorem NW:bJ env.P 23 = true:=by kernel_rfl
theorem MI:bM env.P 23 = some false:=by kernel_rfl
theorem OH:bN env.P 23 = some (.d (.nils)):=by kernel_rfl
theorem NR:(env.P.info? 23).isSome = true:=by kernel_rfl
theorem JF:env.P.underlying 24 = some (.slice 4):=by kernel_rfl
theorem RG:bB env.P 24 = some 4:=by simp only [bB,JF]
theorem TM:env.P.cellsOf 24 = 1:=by kernel_rfl
theorem S8:bJ env.P 24 = true:=by kernel_rfl
theorem RT:bM env.P 24 = some false:=by kernel_rfl
theorem TX:bN env.P 24 = some (.d (.nils)):=by kernel_rfl
theorem R4:(env.P.info? 24).isSome = true:=by kernel_rfl
theorem dW:jV env.P 25 = true:=by kernel_rfl
theorem fU:a9 env.P 25 0 = some (0,3):=by kernel_rfl
theorem fW:cU env.P 25 0 = some (0,1):=by kernel_rfl
theorem f0:a9 env.P 25 1 = some (1,23):=by kernel_rfl
theorem fX:cU env.P 25 1 = some (1,1):=by kernel_rfl
theorem fY:a9 env.P 25 2 = some (2,24):=by kernel_rfl
theorem fT:cU env.P 25 2 = some (2,1):=by kernel_rfl
theorem gS:bB env.P 25 = none:=by kernel_rfl
theorem hG:env.P.cellsOf 25 = 3:=by kernel_rfl
theorem gX:bJ env.P 25 = true:=by kernel_rfl
theorem gL:bM env.P 25 = some true:=by kernel_rfl
theorem d8:bN env.P 25 = some (.agg [.d (.int .i64 0),.d (.nils),.d (.nils)]):=by kernel_rfl
theorem gT:(env.P.info? 25).isSome = true:=by kernel_rfl
theorem q8:jV env.P 26 = true:=by kernel_rfl
theorem vM:a9 env.P 26 0 = some (0,3):=by kernel_rfl
theorem wB:cU env.P 26 0 = some (0,1):=by kernel_rfl
theorem vR:a9 env.P 26 1 = some (1,23):=by kernel_rfl
theorem vW:cU env.P 26 1 = some (1,1):=by kernel_rfl
theorem vZ:a9 env.P 26 2 = some (2,24):=by kernel_rfl
theorem wG:cU env.P 26 2 = some (2,1):=by kernel_rfl
theorem z6:bB env.P 26 = none:=by kernel_rfl
theorem BE:env.P.cellsOf 26 = 3:=by kernel_rfl
theorem CC:bJ env.P 26 = true:=by kernel_rfl
theorem AY:bM env.P 26 = some true:=by kernel_rfl
theorem sB:bN env.P 26 = some (.agg [.d (.int .i64 0),.d (.nils),.d (.nils)]):=by kernel_rfl
theorem BD:(env.P.info? 26).isSome = true:=by kernel_rfl
theorem CR:env.P.underlying 28 = some (.slice 9):=by kernel_rfl
theorem L4:bB env.P 28 = some 9:=by simp only [bB,CR]
theorem NG:env.P.cellsOf 28 = 1:=by kernel_rfl
theorem OX:bJ env.P 28 = true:=by kernel_rfl
theorem LO:bM env.P 28 = some false:=by kernel_rfl
theorem NC:bN env.P 28 = some (.d (.nils)):=by kernel_rfl
theorem OY:(env.P.info? 28).isSome = true:=by kernel_rfl
theorem MX:env.P.underlying 32 = some (.slice 3):=by kernel_rfl
theorem TA:bB env.P 32 = some 3:=by simp only [bB,MX]
theorem WZ:env.P.cellsOf 32 = 1:=by kernel_rfl
theorem XS:bJ env.P 32 = true:=by kernel_rfl
theorem S0:bM env.P 32 = some false:=by kernel_rfl
theorem X7:bN env.P 32 = some (.d (.nils)):=by kernel_rfl
theorem XB:(env.P.info? 32).isSome = true:=by kernel_rfl
theorem BC:env.P.underlying 44 = some (.pointer 66):=by kernel_rfl
theorem zH:bB env.P 44 = none:=by kernel_rfl
theorem BM:env.P.cellsOf 44 = 1:=by kernel_rfl
theorem BA:bJ env.P 44 = true:=by kernel_rfl
theorem A1:bM env.P 44 = some false:=by kernel_rfl
theorem BT:bN env.P 44 = some (.d (.nilp)):=by kernel_rfl
theorem BK:(env.P.info? 44).isSome = true:=by kernel_rfl
theorem zU:env.P.underlying 54 = some (.slice 58):=by kernel_rfl
theorem IW:bB env.P 54 = some 58:=by simp only [bB,zU]
theorem K5:env.P.cellsOf 54 = 1:=by kernel_rfl
theorem KL:bJ env.P 54 = true:=by kernel_rfl
theorem H7:bM env.P 54 = some false:=by kernel_rfl
theorem L6:bN env.P 54 = some (.d (.nils)):=by kernel_rfl
theorem LE:(env.P.info? 54).isSome = true:=by kernel_rfl
theorem HV:env.P.underlying 58 = some (.array 6 3):=by kernel_rfl
theorem RN:bB env.P 58 = none:=by kernel_rfl
theorem U0:env.P.cellsOf 58 = 6:=by kernel_rfl
theorem UW:bJ env.P 58 = true:=by kernel_rfl
theorem RD:bM env.P 58 = some true:=by kernel_rfl
theorem IM:bN env.P 58 = some (.agg [.d (.int .i64 0),.d (.int .i64 0),.d (.int .i64 0),.d (.int .i64 0),.d (.int .i64 0),.d (.int .i64 0)]):=by kernel_rfl
theorem SU:(env.P.info? 58).isSome = true:=by kernel_rfl
theorem lG:jV env.P 65 = true:=by kernel_rfl
theorem oI:a9 env.P 65 0 = some (0,22):=by kernel_rfl
theorem oF:cU env.P 65 0 = some (0,1):=by kernel_rfl
theorem oJ:a9 env.P 65 1 = some (1,3):=by kernel_rfl
theorem oH:cU env.P 65 1 = some (1,1):=by kernel_rfl
theorem pI:bB env.P 65 = none:=by kernel_rfl
theorem qJ:env.P.cellsOf 65 = 2:=by kernel_rfl
theorem pV:bJ env.P 65 = true:=by kernel_rfl
theorem pK:bM env.P 65 = some true:=by kernel_rfl
theorem l9:bN env.P 65 = some (.agg [.d (.nils),.d (.int .i64 0)]):=by kernel_rfl
theorem qG:(env.P.info? 65).isSome = true:=by kernel_rfl
theorem wX:jV env.P 66 = true:=by kernel_rfl
theorem EL:a9 env.P 66 0 = some (0,22):=by kernel_rfl
theorem DU:cU env.P 66 0 = some (0,1):=by kernel_rfl
theorem EP:a9 env.P 66 1 = some (1,3):=by kernel_rfl
theorem DW:cU env.P 66 1 = some (1,1):=by kernel_rfl
theorem JO:bB env.P 66 = none:=by kernel_rfl
theorem KK:env.P.cellsOf 66 = 2:=by kernel_rfl
theorem KA:bJ env.P 66 = true:=by kernel_rfl
theorem I5:bM env.P 66 = some true:=by kernel_rfl
theorem AZ:bN env.P 66 = some (.agg [.d (.nils),.d (.int .i64 0)]):=by kernel_rfl
theorem LK:(env.P.info? 66).isSome = true:=by kernel_rfl
theorem pG:env.P.underlying 73 = some (.slice 26):=by kernel_rfl
theorem vA:bB env.P 73 = some 26:=by simp only [bB,pG]
theorem wC:env.P.cellsOf 73 = 1:=by kernel_rfl
theorem vN:bJ env.P 73 = true:=by kernel_rfl
theorem uY:bM env.P 73 = some false:=by kernel_rfl
theorem wE:bN env.P 73 = some (.d (.nils)):=by kernel_rfl
theorem vP:(env.P.info? 73).isSome = true:=by kernel_rfl
theorem sJ:env.P.underlying 74 = some (.slice 112):=by kernel_rfl
theorem z8:bB env.P 74 = some 112:=by simp only [bB,sJ]
theorem B0:env.P.cellsOf 74 = 1:=by kernel_rfl
theorem B8:bJ env.P 74 = true:=by kernel_rfl
theorem z3:bM env.P 74 = some false:=by kernel_rfl
theorem BV:bN env.P 74 = some (.d (.nils)):=by kernel_rfl
theorem BQ:(env.P.info? 74).isSome = true:=by kernel_rfl
theorem bD:jV env.P 75 = true:=by kernel_rfl
theorem cI:a9 env.P 75 0 = some (0,74):=by kernel_rfl
theorem b9:cU env.P 75 0 = some (0,1):=by kernel_rfl
theorem cD:a9 env.P 75 1 = some (1,73):=by kernel_rfl
theorem cG:cU env.P 75 1 = some (1,1):=by kernel_rfl
theorem cJ:a9 env.P 75 2 = some (2,32):=by kernel_rfl
theorem cF:cU env.P 75 2 = some (2,1):=by kernel_rfl
theorem cH:a9 env.P 75 3 = some (3,3):=by kernel_rfl
theorem cA:cU env.P 75 3 = some (3,1):=by kernel_rfl
theorem cB:a9 env.P 75 4 = some (4,3):=by kernel_rfl
theorem b8:cU env.P 75 4 = some (4,1):=by kernel_rfl
theorem cE:a9 env.P 75 5 = some (5,3):=by kernel_rfl
theorem cC:cU env.P 75 5 = some (5,1):=by kernel_rfl
theorem cM:bB env.P 75 = none:=by kernel_rfl
theorem cQ:env.P.cellsOf 75 = 6:=by kernel_rfl
theorem cP:bJ env.P 75 = true:=by kernel_rfl
theorem cL:bM env.P 75 = some true:=by kernel_rfl
theorem bF:bN env.P 75 = some (.agg [.d (.nils),.d (.nils),.d (.nils),.d (.int .i64 0),.d (.int .i64 0),.d (.int .i64 0)]):=by kernel_rfl
theorem cO:(env.P.info? 75).isSome = true:=by kernel_rfl
theorem w7:jV env.P 76 = true:=by kernel_rfl
theorem D5:a9 env.P 76 0 = some (0,74):=by kernel_rfl
theorem EK:cU env.P 76 0 = some (0,1):=by kernel_rfl
theorem EM:a9 env.P 76 1 = some (1,73):=by kernel_rfl
theorem DX:cU env.P 76 1 = some (1,1):=by kernel_rfl
theorem EN:a9 env.P 76 2 = some (2,32):=by kernel_rfl
theorem D1:cU env.P 76 2 = some (2,1):=by kernel_rfl
theorem ET:a9 env.P 76 3 = some (3,3):=by kernel_rfl
theorem DV:cU env.P 76 3 = some (3,1):=by kernel_rfl
theorem EF:a9 env.P 76 4 = some (4,3):=by kernel_rfl
theorem DM:cU env.P 76 4 = some (4,1):=by kernel_rfl
theorem EV:a9 env.P 76 5 = some (5,3):=by kernel_rfl
theorem DQ:cU env.P 76 5 = some (5,1):=by kernel_rfl
theorem HL:bB env.P 76 = none:=by kernel_rfl
theorem KY:env.P.cellsOf 76 = 6:=by kernel_rfl
theorem MJ:bJ env.P 76 = true:=by kernel_rfl
theorem IB:bM env.P 76 = some true:=by kernel_rfl
theorem AL:bN env.P 76 = some (.agg [.d (.nils),.d (.nils),.d (.nils),.d (.int .i64 0),.d (.int .i64 0),.d (.int .i64 0)]):=by kernel_rfl
theorem LC:(env.P.info? 76).isSome = true:=by kernel_rfl
theorem BZ:env.P.underlying 77 = some (.map 9 3):=by kernel_rfl
theorem yS:bB env.P 77 = none:=by kernel_rfl
theorem BI:env.P.cellsOf 77 = 1:=by kernel_rfl
theorem CA:bJ env.P 77 = true:=by kernel_rfl
theorem z7:bM env.P 77 = some false:=by kernel_rfl
theorem B4:bN env.P 77 = some (.d (.nilm)):=by kernel_rfl
theorem BL:(env.P.info? 77).isSome = true:=by kernel_rfl
theorem qM:env.P.underlying 80 = some (.int .u64):=by kernel_rfl
theorem Z9:bB env.P 80 = none:=by kernel_rfl
theorem aDL:env.P.cellsOf 80 = 1:=by kernel_rfl
theorem aEJ:bJ env.P 80 = true:=by kernel_rfl
theorem aAo:bM env.P 80 = some false:=by kernel_rfl
theorem aC4:bN env.P 80 = some (.d (.int .u64 0)):=by kernel_rfl
theorem aEn:(env.P.info? 80).isSome = true:=by kernel_rfl
theorem vJ:env.P.underlying 90 = some (.slice 23):=by kernel_rfl
theorem EE:bB env.P 90 = some 23:=by simp only [bB,vJ]
theorem FL:env.P.cellsOf 90 = 1:=by kernel_rfl
theorem FW:bJ env.P 90 = true:=by kernel_rfl
theorem DL:bM env.P 90 = some false:=by kernel_rfl
theorem FG:bN env.P 90 = some (.d (.nils)):=by kernel_rfl
theorem FM:(env.P.info? 90).isSome = true:=by kernel_rfl
theorem oK:env.P.underlying 105 = some (.slice 107):=by kernel_rfl
theorem s9:bB env.P 105 = some 107:=by simp only [bB,oK]
theorem uV:env.P.cellsOf 105 = 1:=by kernel_rfl
theorem u2:bJ env.P 105 = true:=by kernel_rfl
theorem t8:bM env.P 105 = some false:=by kernel_rfl
theorem u9:bN env.P 105 = some (.d (.nils)):=by kernel_rfl
theorem u7:(env.P.info? 105).isSome = true:=by kernel_rfl
theorem fB:jV env.P 106 = true:=by kernel_rfl
theorem iH:a9 env.P 106 0 = some (0,3):=by kernel_rfl
theorem iF:cU env.P 106 0 = some (0,1):=by kernel_rfl
theorem iC:a9 env.P 106 1 = some (1,3):=by kernel_rfl
theorem iE:cU env.P 106 1 = some (1,1):=by kernel_rfl
theorem iG:a9 env.P 106 2 = some (2,32):=by kernel_rfl
theorem iD:cU env.P 106 2 = some (2,1):=by kernel_rfl
theorem iQ:bB env.P 106 = none:=by kernel_rfl
theorem i7:env.P.cellsOf 106 = 3:=by kernel_rfl
theorem i4:bJ env.P 106 = true:=by kernel_rfl
theorem iP:bM env.P 106 = some true:=by kernel_rfl
theorem fF:bN env.P 106 = some (.agg [.d (.int .i64 0),.d (.int .i64 0),.d (.nils)]):=by kernel_rfl
theorem i6:(env.P.info? 106).isSome = true:=by kernel_rfl
theorem pX:jV env.P 107 = true:=by kernel_rfl
theorem vB:a9 env.P 107 0 = some (0,3):=by kernel_rfl
theorem u6:cU env.P 107 0 = some (0,1):=by kernel_rfl
theorem uZ:a9 env.P 107 1 = some (1,3):=by kernel_rfl
theorem uX:cU env.P 107 1 = some (1,1):=by kernel_rfl
theorem u4:a9 env.P 107 2 = some (2,32):=by kernel_rfl
theorem u5:cU env.P 107 2 = some (2,1):=by kernel_rfl
theorem yE:bB env.P 107 = none:=by kernel_rfl
theorem yT:env.P.cellsOf 107 = 3:=by kernel_rfl
theorem z5:bJ env.P 107 = true:=by kernel_rfl
theorem yN:bM env.P 107 = some true:=by kernel_rfl
theorem rG:bN env.P 107 = some (.agg [.d (.int .i64 0),.d (.int .i64 0),.d (.nils)]):=by kernel_rfl
theorem z9:(env.P.info? 107).isSome = true:=by kernel_rfl
theorem vH:env.P.underlying 110 = some (.slice 129):=by kernel_rfl
theorem EX:bB env.P 110 = some 129:=by simp only [bB,vH]
theorem F0:env.P.cellsOf 110 = 1:=by kernel_rfl
theorem FF:bJ env.P 110 = true:=by kernel_rfl
theorem D7:bM env.P 110 = some false:=by kernel_rfl
theorem FE:bN env.P 110 = some (.d (.nils)):=by kernel_rfl
theorem FP:(env.P.info? 110).isSome = true:=by kernel_rfl
theorem dX:jV env.P 111 = true:=by kernel_rfl
theorem fZ:a9 env.P 111 0 = some (0,3):=by kernel_rfl
theorem f5:cU env.P 111 0 = some (0,1):=by kernel_rfl
theorem fS:a9 env.P 111 1 = some (1,3):=by kernel_rfl
theorem f6:cU env.P 111 1 = some (1,1):=by kernel_rfl
theorem fR:a9 env.P 111 2 = some (2,110):=by kernel_rfl
theorem fV:cU env.P 111 2 = some (2,1):=by kernel_rfl
theorem gK:bB env.P 111 = none:=by kernel_rfl
theorem gW:env.P.cellsOf 111 = 3:=by kernel_rfl
theorem gU:bJ env.P 111 = true:=by kernel_rfl
theorem gN:bM env.P 111 = some true:=by kernel_rfl
theorem d6:bN env.P 111 = some (.agg [.d (.int .i64 0),.d (.int .i64 0),.d (.nils)]):=by kernel_rfl
theorem hJ:(env.P.info? 111).isSome = true:=by kernel_rfl
theorem vD:jV env.P 112 = true:=by kernel_rfl
theorem B6:a9 env.P 112 0 = some (0,3):=by kernel_rfl
theorem BR:cU env.P 112 0 = some (0,1):=by kernel_rfl
theorem BH:a9 env.P 112 1 = some (1,3):=by kernel_rfl
theorem B5:cU env.P 112 1 = some (1,1):=by kernel_rfl
theorem BU:a9 env.P 112 2 = some (2,110):=by kernel_rfl
theorem BO:cU env.P 112 2 = some (2,1):=by kernel_rfl
theorem GA:bB env.P 112 = none:=by kernel_rfl
theorem JL:env.P.cellsOf 112 = 3:=by kernel_rfl
theorem J2:bJ env.P 112 = true:=by kernel_rfl
theorem FV:bM env.P 112 = some true:=by kernel_rfl
theorem xN:bN env.P 112 = some (.agg [.d (.int .i64 0),.d (.int .i64 0),.d (.nils)]):=by kernel_rfl
theorem JR:(env.P.info? 112).isSome = true:=by kernel_rfl
theorem JE:env.P.underlying 118 = some (.map 3 3):=by kernel_rfl
theorem F4:bB env.P 118 = none:=by kernel_rfl
theorem IT:env.P.cellsOf 118 = 1:=by kernel_rfl
theorem JB:bJ env.P 118 = true:=by kernel_rfl
theorem FS:bM env.P 118 = some false:=by kernel_rfl
theorem HZ:bN env.P 118 = some (.d (.nilm)):=by kernel_rfl
theorem IR:(env.P.info? 118).isSome = true:=by kernel_rfl
theorem zF:env.P.underlying 122 = some (.array 24 5):=by kernel_rfl
theorem IU:bB env.P 122 = none:=by kernel_rfl
theorem L3:env.P.cellsOf 122 = 24:=by kernel_rfl
theorem K8:bJ env.P 122 = true:=by kernel_rfl
theorem HM:bM env.P 122 = some true:=by kernel_rfl
theorem AC:bN env.P 122 = some (.agg (List.replicate 24 (.d (.int .u8 0)))):=by kernel_rfl
theorem LX:(env.P.info? 122).isSome = true:=by kernel_rfl
theorem XC:env.P.underlying 123 = some (.int .u64):=by kernel_rfl
theorem SF:bB env.P 123 = none:=by kernel_rfl
theorem M5:env.P.cellsOf 123 = 1:=by kernel_rfl
theorem XO:bJ env.P 123 = true:=by kernel_rfl
theorem TL:bM env.P 123 = some false:=by kernel_rfl
theorem WN:bN env.P 123 = some (.d (.int .u64 0)):=by kernel_rfl
theorem M3:(env.P.info? 123).isSome = true:=by kernel_rfl
theorem hR:jV env.P 128 = true:=by kernel_rfl
theorem kD:a9 env.P 128 0 = some (0,3):=by kernel_rfl
theorem kC:cU env.P 128 0 = some (0,1):=by kernel_rfl
theorem kF:a9 env.P 128 1 = some (1,3):=by kernel_rfl
theorem kB:cU env.P 128 1 = some (1,1):=by kernel_rfl
theorem kG:a9 env.P 128 2 = some (2,3):=by kernel_rfl
theorem kE:cU env.P 128 2 = some (2,1):=by kernel_rfl
theorem lF:bB env.P 128 = none:=by kernel_rfl
theorem lS:env.P.cellsOf 128 = 3:=by kernel_rfl
theorem lU:bJ env.P 128 = true:=by kernel_rfl
theorem lE:bM env.P 128 = some true:=by kernel_rfl
theorem h9:bN env.P 128 = some (.agg [.d (.int .i64 0),.d (.int .i64 0),.d (.int .i64 0)]):=by kernel_rfl
theorem lW:(env.P.info? 128).isSome = true:=by kernel_rfl
theorem AA:jV env.P 129 = true:=by kernel_rfl
theorem FN:a9 env.P 129 0 = some (0,3):=by kernel_rfl
theorem F8:cU env.P 129 0 = some (0,1):=by kernel_rfl
theorem F1:a9 env.P 129 1 = some (1,3):=by kernel_rfl
theorem FZ:cU env.P 129 1 = some (1,1):=by kernel_rfl
theorem FY:a9 env.P 129 2 = some (2,3):=by kernel_rfl
theorem FK:cU env.P 129 2 = some (2,1):=by kernel_rfl
theorem KC:bB env.P 129 = none:=by kernel_rfl
theorem OK:env.P.cellsOf 129 = 3:=by kernel_rfl
theorem OS:bJ env.P 129 = true:=by kernel_rfl
theorem KV:bM env.P 129 = some true:=by kernel_rfl
theorem CJ:bN env.P 129 = some (.agg [.d (.int .i64 0),.d (.int .i64 0),.d (.int .i64 0)]):=by kernel_rfl
theorem NE:(env.P.info? 129).isSome = true:=by kernel_rfl
theorem xE:env.P.underlying 131 = some (.array 20 123):=by kernel_rfl
theorem FD:bB env.P 131 = none:=by kernel_rfl
theorem IV:env.P.cellsOf 131 = 20:=by kernel_rfl
theorem HN:bJ env.P 131 = true:=by kernel_rfl
theorem F9:bM env.P 131 = some true:=by kernel_rfl
theorem xH:bN env.P 131 = some (.agg (List.replicate 20 (.d (.int .u64 0)))):=by kernel_rfl
theorem IQ:(env.P.info? 131).isSome = true:=by kernel_rfl
theorem WP:env.P.underlying 132 = some (.int .u32):=by kernel_rfl
theorem TO:bB env.P 132 = none:=by kernel_rfl
theorem XH:env.P.cellsOf 132 = 1:=by kernel_rfl
theorem WU:bJ env.P 132 = true:=by kernel_rfl
theorem R9:bM env.P 132 = some false:=by kernel_rfl
theorem XP:bN env.P 132 = some (.d (.int .u32 0)):=by kernel_rfl
theorem XV:(env.P.info? 132).isSome = true:=by kernel_rfl
theorem zC:env.P.underlying 133 = some (.array 65 5):=by kernel_rfl
theorem J3:bB env.P 133 = none:=by kernel_rfl
theorem LL:env.P.cellsOf 133 = 65:=by kernel_rfl
theorem MA:bJ env.P 133 = true:=by kernel_rfl
theorem J5:bM env.P 133 = some true:=by kernel_rfl
theorem zJ:bN env.P 133 = some (.agg (List.replicate 65 (.d (.int .u8 0)))):=by kernel_rfl
theorem LU:(env.P.info? 133).isSome = true:=by kernel_rfl
theorem AS:env.P.underlying 136 = some (.array 32 5):=by kernel_rfl
theorem I4:bB env.P 136 = none:=by kernel_rfl
theorem KG:env.P.cellsOf 136 = 32:=by kernel_rfl
theorem KI:bJ env.P 136 = true:=by kernel_rfl
theorem HY:bM env.P 136 = some true:=by kernel_rfl
theorem zX:bN env.P 136 = some (.agg (List.replicate 32 (.d (.int .u8 0)))):=by kernel_rfl
theorem KR:(env.P.info? 136).isSome = true:=by kernel_rfl
theorem AP:env.P.underlying 137 = some (.array 64 5):=by kernel_rfl
theorem JQ:bB env.P 137 = none:=by kernel_rfl
theorem K7:env.P.cellsOf 137 = 64:=by kernel_rfl
theorem K6:bJ env.P 137 = true:=by kernel_rfl
theorem H3:bM env.P 137 = some true:=by kernel_rfl
theorem AU:bN env.P 137 = some (.agg (List.replicate 64 (.d (.int .u8 0)))):=by kernel_rfl
theorem LP:(env.P.info? 137).isSome = true:=by kernel_rfl
theorem NX:env.P.underlying 148 = some (.pointer 5):=by kernel_rfl
theorem J7:bB env.P 148 = none:=by kernel_rfl
theorem OV:env.P.cellsOf 148 = 1:=by kernel_rfl
theorem OM:bJ env.P 148 = true:=by kernel_rfl
theorem MH:bM env.P 148 = some false:=by kernel_rfl
theorem NH:bN env.P 148 = some (.d (.nilp)):=by kernel_rfl
theorem OT:(env.P.info? 148).isSome = true:=by kernel_rfl
theorem yZ:bB env.P 154 = none:=by kernel_rfl
theorem BP:env.P.cellsOf 154 = 1:=by kernel_rfl
theorem BX:bJ env.P 154 = true:=by kernel_rfl
theorem zO:bM env.P 154 = some false:=by kernel_rfl
theorem B9:bN env.P 154 = some (.d (.nilp)):=by kernel_rfl
theorem BJ:(env.P.info? 154).isSome = true:=by kernel_rfl
theorem mX:∀ parts,gD env.P 13 parts = (eI (aO (.agg [.d (.str []),.d (.int .u64 0)])) (parts.map fun p => (cU env.P 13 p.1,p.2))).map .agg:=fun _ => fH iL iY
theorem gQ:∀ parts,gD env.P 25 parts = (eI (aO (.agg [.d (.int .i64 0),.d (.nils),.d (.nils)])) (parts.map fun p => (cU env.P 25 p.1,p.2))).map .agg:=fun _ => fH dW d8
theorem zD:∀ parts,gD env.P 26 parts = (eI (aO (.agg [.d (.int .i64 0),.d (.nils),.d (.nils)])) (parts.map fun p => (cU env.P 26 p.1,p.2))).map .agg:=fun _ => fH q8 sB
theorem QP:∀ parts,gD env.P 58 parts = (eI (aO (.agg [.d (.int .i64 0),.d (.int .i64 0),.d (.int .i64 0),.d (.int .i64 0),.d (.int .i64 0),.d (.int .i64 0)])) (parts.map fun p => (some (p.1 * 1,1),p.2))).map .agg:=fun _ => pZ HV IM YU ZG
theorem pJ:∀ parts,gD env.P 65 parts = (eI (aO (.agg [.d (.nils),.d (.int .i64 0)])) (parts.map fun p => (cU env.P 65 p.1,p.2))).map .agg:=fun _ => fH lG l9
theorem H0:∀ parts,gD env.P 66 parts = (eI (aO (.agg [.d (.nils),.d (.int .i64 0)])) (parts.map fun p => (cU env.P 66 p.1,p.2))).map .agg:=fun _ => fH wX AZ
theorem cK:∀ parts,gD env.P 75 parts = (eI (aO (.agg [.d (.nils),.d (.nils),.d (.nils),.d (.int .i64 0),.d (.int .i64 0),.d (.int .i64 0)])) (parts.map fun p => (cU env.P 75 p.1,p.2))).map .agg:=fun _ => fH bD bF
theorem JD:∀ parts,gD env.P 76 parts = (eI (aO (.agg [.d (.nils),.d (.nils),.d (.nils),.d (.int .i64 0),.d (.int .i64 0),.d (.int .i64 0)])) (parts.map fun p => (cU env.P 76 p.1,p.2))).map .agg:=fun _ => fH w7 AL
theorem iR:∀ parts,gD env.P 106 parts = (eI (aO (.agg [.d (.int .i64 0),.d (.int .i64 0),.d (.nils)])) (parts.map fun p => (cU env.P 106 p.1,p.2))).map .agg:=fun _ => fH fB fF
theorem x5:∀ parts,gD env.P 107 parts = (eI (aO (.agg [.d (.int .i64 0),.d (.int .i64 0),.d (.nils)])) (parts.map fun p => (cU env.P 107 p.1,p.2))).map .agg:=fun _ => fH pX rG
theorem gM:∀ parts,gD env.P 111 parts = (eI (aO (.agg [.d (.int .i64 0),.d (.int .i64 0),.d (.nils)])) (parts.map fun p => (cU env.P 111 p.1,p.2))).map .agg:=fun _ => fH dX d6
theorem F2:∀ parts,gD env.P 112 parts = (eI (aO (.agg [.d (.int .i64 0),.d (.int .i64 0),.d (.nils)])) (parts.map fun p => (cU env.P 112 p.1,p.2))).map .agg:=fun _ => fH vD xN
theorem H8:∀ parts,gD env.P 122 parts = (eI (aO (.agg (List.replicate 24 (.d (.int .u8 0))))) (parts.map fun p => (some (p.1 * 1,1),p.2))).map .agg:=fun _ => pZ zF AC uP uA
theorem lC:∀ parts,gD env.P 128 parts = (eI (aO (.agg [.d (.int .i64 0),.d (.int .i64 0),.d (.int .i64 0)])) (parts.map fun p => (cU env.P 128 p.1,p.2))).map .agg:=fun _ => fH hR h9
theorem KS:∀ parts,gD env.P 129 parts = (eI (aO (.agg [.d (.int .i64 0),.d (.int .i64 0),.d (.int .i64 0)])) (parts.map fun p => (cU env.P 129 p.1,p.2))).map .agg:=fun _ => fH AA CJ
theorem FO:∀ parts,gD env.P 131 parts = (eI (aO (.agg (List.replicate 20 (.d (.int .u64 0))))) (parts.map fun p => (some (p.1 * 1,1),p.2))).map .agg:=fun _ => pZ xE xH M3 M5
theorem HR:∀ parts,gD env.P 133 parts = (eI (aO (.agg (List.replicate 65 (.d (.int .u8 0))))) (parts.map fun p => (some (p.1 * 1,1),p.2))).map .agg:=fun _ => pZ zC zJ uP uA
theorem HK:∀ parts,gD env.P 136 parts = (eI (aO (.agg (List.replicate 32 (.d (.int .u8 0))))) (parts.map fun p => (some (p.1 * 1,1),p.2))).map .agg:=fun _ => pZ AS zX uP uA
theorem JX:∀ parts,gD env.P 137 parts = (eI (aO (.agg (List.replicate 64 (.d (.int .u8 0))))) (parts.map fun p => (some (p.1 * 1,1),p.2))).map .agg:=fun _ => pZ AP AU uP uA
theorem RF {h:H} {n:Int} {K:IntKind}:gI env.P h 3 3 (.d (.int K n)) = some (.d (.int .i64 (IntKind.wrap .i64 n)),h):=mQ tE tE
theorem LG {h:H} {n:Int} {K:IntKind}:gI env.P h 3 5 (.d (.int K n)) = some (.d (.int .u8 (IntKind.wrap .u8 n)),h):=mQ tE oO
theorem NN {h:H} {n:Int} {K:IntKind}:gI env.P h 3 80 (.d (.int K n)) = some (.d (.int .u64 (IntKind.wrap .u64 n)),h):=mQ tE qM
theorem KT {h:H} {n:Int} {K:IntKind}:gI env.P h 5 3 (.d (.int K n)) = some (.d (.int .i64 (IntKind.wrap .i64 n)),h):=mQ oO tE
theorem FH {h:H} {n:Int} {K:IntKind}:gI env.P h 5 5 (.d (.int K n)) = some (.d (.int .u8 (IntKind.wrap .u8 n)),h):=mQ oO oO
theorem HX {h:H} {n:Int} {K:IntKind}:gI env.P h 5 80 (.d (.int K n)) = some (.d (.int .u64 (IntKind.wrap .u64 n)),h):=mQ oO qM
theorem NZ {h:H} {n:Int} {K:IntKind}:gI env.P h 80 3 (.d (.int K n)) = some (.d (.int .i64 (IntKind.wrap .i64 n)),h):=mQ qM tE
theorem H1 {h:H} {n:Int} {K:IntKind}:gI env.P h 80 5 (.d (.int K n)) = some (.d (.int .u8 (IntKind.wrap .u8 n)),h):=mQ qM oO
theorem LH {h:H} {n:Int} {K:IntKind}:gI env.P h 80 80 (.d (.int K n)) = some (.d (.int .u64 (IntKind.wrap .u64 n)),h):=mQ qM qM
theorem TY0:type_of% (AI @aBm (AI @YJ (AI @aAy (AI @aB9 (AI @WO (AI @aBt (AI @aAP (AI @tE (AI @aDh (AI @ZG (AI @aFE (AI @aDb (AI @aFz (AI @YU (AI @aEf (AI @aAO (AI @aEk (AI @aEu (AI @aBP (AI @aDw (AI @aDD (AI @oO (AI @W0 (AI @uA (AI @aAt (AI @YC (AI @aBX (AI @uP (AI @WT (AI @SZ (AI @XU (AI @WI (AI @S7 (AI @XI (AI @WW (AI @SB (AI @QG (AI @VC (AI @US @QE))))))))))))))))))))))))))))))))))))))) :=
 ⟨@aBm,@YJ,@aAy,@aB9,@WO,@aBt,@aAP,@tE,@aDh,@ZG,@aFE,@aDb,@aFz,@YU,@aEf,@aAO,@aEk,@aEu,@aBP,@aDw,@aDD,@oO,@W0,@uA,@aAt,@YC,@aBX,@uP,@WT,@SZ,@XU,@WI,@S7,@XI,@WW,@SB,@QG,@VC,@US,@QE⟩
theorem TY1:type_of% (AI @ST (AI @VB (AI @iL (AI @lY (AI @lT (AI @lQ (AI @lV (AI @mY (AI @nD (AI @m8 (AI @mV (AI @iY (AI @mX (AI @nC (AI @KE (AI @OL (AI @M9 (AI @LV (AI @NK (AI @OQ (AI @aBQ (AI @YA (AI @aBI (AI @aB4 (AI @X4 (AI @aB1 (AI @aAh (AI @FB (AI @OD (AI @RS (AI @QN (AI @NY (AI @QS (AI @RL (AI @C0 (AI @L0 (AI @NI (AI @NW (AI @MI @OH))))))))))))))))))))))))))))))))))))))) :=
 ⟨@ST,@VB,@iL,@lY,@lT,@lQ,@lV,@mY,@nD,@m8,@mV,@iY,@mX,@nC,@KE,@OL,@M9,@LV,@NK,@OQ,@aBQ,@YA,@aBI,@aB4,@X4,@aB1,@aAh,@FB,@OD,@RS,@QN,@NY,@QS,@RL,@C0,@L0,@NI,@NW,@MI,@OH⟩
theorem TY2:type_of% (AI @NR (AI @JF (AI @RG (AI @TM (AI @S8 (AI @RT (AI @TX (AI @R4 (AI @dW (AI @fU (AI @fW (AI @f0 (AI @fX (AI @fY (AI @fT (AI @gS (AI @hG (AI @gX (AI @gL (AI @d8 (AI @gQ (AI @gT (AI @q8 (AI @vM (AI @wB (AI @vR (AI @vW (AI @vZ (AI @wG (AI @z6 (AI @BE (AI @CC (AI @AY (AI @sB (AI @zD (AI @BD (AI @CR (AI @L4 (AI @NG @OX))))))))))))))))))))))))))))))))))))))) :=
 ⟨@NR,@JF,@RG,@TM,@S8,@RT,@TX,@R4,@dW,@fU,@fW,@f0,@fX,@fY,@fT,@gS,@hG,@gX,@gL,@d8,@gQ,@gT,@q8,@vM,@wB,@vR,@vW,@vZ,@wG,@z6,@BE,@CC,@AY,@sB,@zD,@BD,@CR,@L4,@NG,@OX⟩
theorem TY3:type_of% (AI @LO (AI @NC (AI @OY (AI @MX (AI @TA (AI @WZ (AI @XS (AI @S0 (AI @X7 (AI @XB (AI @BC (AI @zH (AI @BM (AI @BA (AI @A1 (AI @BT (AI @BK (AI @zU (AI @IW (AI @K5 (AI @KL (AI @H7 (AI @L6 (AI @LE (AI @HV (AI @RN (AI @U0 (AI @UW (AI @RD (AI @IM (AI @QP (AI @SU (AI @lG (AI @oI (AI @oF (AI @oJ (AI @oH (AI @pI (AI @qJ @pV))))))))))))))))))))))))))))))))))))))) :=
 ⟨@LO,@NC,@OY,@MX,@TA,@WZ,@XS,@S0,@X7,@XB,@BC,@zH,@BM,@BA,@A1,@BT,@BK,@zU,@IW,@K5,@KL,@H7,@L6,@LE,@HV,@RN,@U0,@UW,@RD,@IM,@QP,@SU,@lG,@oI,@oF,@oJ,@oH,@pI,@qJ,@pV⟩
theorem TY4:type_of% (AI @pK (AI @l9 (AI @pJ (AI @qG (AI @wX (AI @EL (AI @DU (AI @EP (AI @DW (AI @JO (AI @KK (AI @KA (AI @I5 (AI @AZ (AI @H0 (AI @LK (AI @pG (AI @vA (AI @wC (AI @vN (AI @uY (AI @wE (AI @vP (AI @sJ (AI @z8 (AI @B0 (AI @B8 (AI @z3 (AI @BV (AI @BQ (AI @bD (AI @cI (AI @b9 (AI @cD (AI @cG (AI @cJ (AI @cF (AI @cH (AI @cA @cB))))))))))))))))))))))))))))))))))))))) :=
 ⟨@pK,@l9,@pJ,@qG,@wX,@EL,@DU,@EP,@DW,@JO,@KK,@KA,@I5,@AZ,@H0,@LK,@pG,@vA,@wC,@vN,@uY,@wE,@vP,@sJ,@z8,@B0,@B8,@z3,@BV,@BQ,@bD,@cI,@b9,@cD,@cG,@cJ,@cF,@cH,@cA,@cB⟩
theorem TY5:type_of% (AI @b8 (AI @cE (AI @cC (AI @cM (AI @cQ (AI @cP (AI @cL (AI @bF (AI @cK (AI @cO (AI @w7 (AI @D5 (AI @EK (AI @EM (AI @DX (AI @EN (AI @D1 (AI @ET (AI @DV (AI @EF (AI @DM (AI @EV (AI @DQ (AI @HL (AI @KY (AI @MJ (AI @IB (AI @AL (AI @JD (AI @LC (AI @BZ (AI @yS (AI @BI (AI @CA (AI @z7 (AI @B4 (AI @BL (AI @qM (AI @Z9 @aDL))))))))))))))))))))))))))))))))))))))) :=
 ⟨@b8,@cE,@cC,@cM,@cQ,@cP,@cL,@bF,@cK,@cO,@w7,@D5,@EK,@EM,@DX,@EN,@D1,@ET,@DV,@EF,@DM,@EV,@DQ,@HL,@KY,@MJ,@IB,@AL,@JD,@LC,@BZ,@yS,@BI,@CA,@z7,@B4,@BL,@qM,@Z9,@aDL⟩
theorem TY6:type_of% (AI @aEJ (AI @aAo (AI @aC4 (AI @aEn (AI @vJ (AI @EE (AI @FL (AI @FW (AI @DL (AI @FG (AI @FM (AI @oK (AI @s9 (AI @uV (AI @u2 (AI @t8 (AI @u9 (AI @u7 (AI @fB (AI @iH (AI @iF (AI @iC (AI @iE (AI @iG (AI @iD (AI @iQ (AI @i7 (AI @i4 (AI @iP (AI @fF (AI @iR (AI @i6 (AI @pX (AI @vB (AI @u6 (AI @uZ (AI @uX (AI @u4 (AI @u5 @yE))))))))))))))))))))))))))))))))))))))) :=
 ⟨@aEJ,@aAo,@aC4,@aEn,@vJ,@EE,@FL,@FW,@DL,@FG,@FM,@oK,@s9,@uV,@u2,@t8,@u9,@u7,@fB,@iH,@iF,@iC,@iE,@iG,@iD,@iQ,@i7,@i4,@iP,@fF,@iR,@i6,@pX,@vB,@u6,@uZ,@uX,@u4,@u5,@yE⟩
theorem TY7:type_of% (AI @yT (AI @z5 (AI @yN (AI @rG (AI @x5 (AI @z9 (AI @vH (AI @EX (AI @F0 (AI @FF (AI @D7 (AI @FE (AI @FP (AI @dX (AI @fZ (AI @f5 (AI @fS (AI @f6 (AI @fR (AI @fV (AI @gK (AI @gW (AI @gU (AI @gN (AI @d6 (AI @gM (AI @hJ (AI @vD (AI @B6 (AI @BR (AI @BH (AI @B5 (AI @BU (AI @BO (AI @GA (AI @JL (AI @J2 (AI @FV (AI @xN @F2))))))))))))))))))))))))))))))))))))))) :=
 ⟨@yT,@z5,@yN,@rG,@x5,@z9,@vH,@EX,@F0,@FF,@D7,@FE,@FP,@dX,@fZ,@f5,@fS,@f6,@fR,@fV,@gK,@gW,@gU,@gN,@d6,@gM,@hJ,@vD,@B6,@BR,@BH,@B5,@BU,@BO,@GA,@JL,@J2,@FV,@xN,@F2⟩
theorem TY8:type_of% (AI @JR (AI @JE (AI @F4 (AI @IT (AI @JB (AI @FS (AI @HZ (AI @IR (AI @zF (AI @IU (AI @L3 (AI @K8 (AI @HM (AI @AC (AI @H8 (AI @LX (AI @XC (AI @SF (AI @M5 (AI @XO (AI @TL (AI @WN (AI @M3 (AI @hR (AI @kD (AI @kC (AI @kF (AI @kB (AI @kG (AI @kE (AI @lF (AI @lS (AI @lU (AI @lE (AI @h9 (AI @lC (AI @lW (AI @AA (AI @FN @F8))))))))))))))))))))))))))))))))))))))) :=
 ⟨@JR,@JE,@F4,@IT,@JB,@FS,@HZ,@IR,@zF,@IU,@L3,@K8,@HM,@AC,@H8,@LX,@XC,@SF,@M5,@XO,@TL,@WN,@M3,@hR,@kD,@kC,@kF,@kB,@kG,@kE,@lF,@lS,@lU,@lE,@h9,@lC,@lW,@AA,@FN,@F8⟩
theorem TY9:type_of% (AI @F1 (AI @FZ (AI @FY (AI @FK (AI @KC (AI @OK (AI @OS (AI @KV (AI @CJ (AI @KS (AI @NE (AI @xE (AI @FD (AI @IV (AI @HN (AI @F9 (AI @xH (AI @FO (AI @IQ (AI @WP (AI @TO (AI @XH (AI @WU (AI @R9 (AI @XP (AI @XV (AI @zC (AI @J3 (AI @LL (AI @MA (AI @J5 (AI @zJ (AI @HR (AI @LU (AI @AS (AI @I4 (AI @KG (AI @KI (AI @HY @zX))))))))))))))))))))))))))))))))))))))) :=
 ⟨@F1,@FZ,@FY,@FK,@KC,@OK,@OS,@KV,@CJ,@KS,@NE,@xE,@FD,@IV,@HN,@F9,@xH,@FO,@IQ,@WP,@TO,@XH,@WU,@R9,@XP,@XV,@zC,@J3,@LL,@MA,@J5,@zJ,@HR,@LU,@AS,@I4,@KG,@KI,@HY,@zX⟩
theorem TY10:type_of% (AI @HK (AI @KR (AI @AP (AI @JQ (AI @K7 (AI @K6 (AI @H3 (AI @AU (AI @JX (AI @LP (AI @NX (AI @J7 (AI @OV (AI @OM (AI @MH (AI @NH (AI @OT (AI @yZ (AI @BP (AI @BX (AI @zO (AI @B9 (AI @BJ (AI @RF (AI @LG (AI @NN (AI @KT (AI @FH (AI @HX (AI @NZ (AI @H1 @LH))))))))))))))))))))))))))))))) :=
 ⟨@HK,@KR,@AP,@JQ,@K7,@K6,@H3,@AU,@JX,@LP,@NX,@J7,@OV,@OM,@MH,@NH,@OT,@yZ,@BP,@BX,@zO,@B9,@BJ,@RF,@LG,@NN,@KT,@FH,@HX,@NZ,@H1,@LH⟩
theorem TY:type_of% (AI @TY0 (AI @TY1 (AI @TY2 (AI @TY3 (AI @TY4 (AI @TY5 (AI @TY6 (AI @TY7 (AI @TY8 (AI @TY9 @TY10)))))))))) :=
 ⟨@TY0,@TY1,@TY2,@TY3,@TY4,@TY5,@TY6,@TY7,@TY8,@TY9,@TY10⟩
end Ev
end Go.Proofs.YtppdfjdfjfoddaaDoor
