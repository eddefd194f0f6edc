/-
  What the types of the program are, as the evaluator asks. Written by a program.
-/
import Derived.Test.YtppdfjdfjfoddaaDoorEnvF
import Derived.Test.YtppdfjdfjfoddaaDoorEvWalk
set_option maxRecDepth 100000
namespace Go.Proofs.YtppdfjdfjfoddaaDoor
namespace Ev
def cV (P:Program) (t:TypeId) (i:Nat):Option (Nat × Nat):=match P.underlying t with
 | some (.struct fields) => (fields.toList[i]?).map fun f => (f.offset,P.cellsOf f.type)
 | _ => none
def kQ (P:Program) (t:TypeId):Bool:=match P.underlying t with
 | some (.struct fields) => fields.toList.all fun f => (P.info? f.type).isSome
 | _ => false
theorem fM {P:Program} {t:TypeId} {z:A} {parts:List (Nat × A)} (hs:kQ P t = true) (hz:bS P t = some z):gJ P t parts = (eQ (aR z) (parts.map fun p => (cV P t p.1,p.2))).map .agg:=by
 unfold kQ at hs
 unfold gJ cV
 rw [hz]
 cases hu:P.underlying t with
 | none => rw [hu] at hs; cases hs
 | some d =>
  rw [hu] at hs
  cases d <;> first | cases hs | skip
  simp only at hs ⊢
  rw [if_pos hs]
theorem rL {P:Program} {t e:TypeId} {n c:Nat} {z:A} {parts:List (Nat × A)} (hu:P.underlying t = some (.array n e)) (hz:bS P t = some z) (hi:(P.info? e).isSome = true) (hc:P.cellsOf e = c):gJ P t parts = (eQ (aR z) (parts.map fun p => (some (p.1 * c,c),p.2))).map .agg:=by
 unfold gJ
 rw [hz,hu]
 simp only [hi,if_true,hc]
theorem nX {P:Program} {h:H} {t u:TypeId} {K K1 K2:IntKind} {n:Int} (h1:P.underlying t = some (.int K1)) (h2:P.underlying u = some (.int K2)):gO P h t u (.d (.int K n)) = some (.d (.int K2 (K2.wrap n)),h):=by
 simp only [gO,h1,h2]
theorem aCR:env.P.underlying 2 = some (.int .i64):=by kernel_rfl
theorem aAh:bH env.P 2 = none:=by kernel_rfl
theorem aDg:env.P.cellsOf 2 = 1:=by kernel_rfl
theorem aCY:bO env.P 2 = true:=by kernel_rfl
theorem aAa:bU env.P 2 = some false:=by kernel_rfl
theorem aCa:bS env.P 2 = some (.d (.int .i64 0)):=by kernel_rfl
theorem aDF:(env.P.info? 2).isSome = true:=by kernel_rfl
theorem uP:env.P.underlying 3 = some (.int .i64):=by kernel_rfl
theorem aED:bH env.P 3 = none:=by kernel_rfl
theorem aBg:env.P.cellsOf 3 = 1:=by kernel_rfl
theorem aIS:bO env.P 3 = true:=by kernel_rfl
theorem aEq:bU env.P 3 = some false:=by kernel_rfl
theorem aIe:bS env.P 3 = some (.d (.int .i64 0)):=by kernel_rfl
theorem aBA:(env.P.info? 3).isSome = true:=by kernel_rfl
theorem aF8:env.P.underlying 4 = some .bool:=by kernel_rfl
theorem aCJ:bH env.P 4 = none:=by kernel_rfl
theorem aFb:env.P.cellsOf 4 = 1:=by kernel_rfl
theorem aFI:bO env.P 4 = true:=by kernel_rfl
theorem aCo:bU env.P 4 = some false:=by kernel_rfl
theorem aEY:bS env.P 4 = some (.d (.bool false)):=by kernel_rfl
theorem aEz:(env.P.info? 4).isSome = true:=by kernel_rfl
theorem qD:env.P.underlying 5 = some (.int .u8):=by kernel_rfl
theorem aAd:bH env.P 5 = none:=by kernel_rfl
theorem vR:env.P.cellsOf 5 = 1:=by kernel_rfl
theorem aCG:bO env.P 5 = true:=by kernel_rfl
theorem Z9:bU env.P 5 = some false:=by kernel_rfl
theorem aCh:bS env.P 5 = some (.d (.int .u8 0)):=by kernel_rfl
theorem vY:(env.P.info? 5).isSome = true:=by kernel_rfl
theorem aAy:env.P.underlying 9 = some .string:=by kernel_rfl
theorem WF:bH env.P 9 = none:=by kernel_rfl
theorem ZW:env.P.cellsOf 9 = 1:=by kernel_rfl
theorem aAe:bO env.P 9 = true:=by kernel_rfl
theorem VR:bU env.P 9 = some false:=by kernel_rfl
theorem aAF:bS env.P 9 = some (.d (.str [])):=by kernel_rfl
theorem Z0:(env.P.info? 9).isSome = true:=by kernel_rfl
theorem W3:env.P.underlying 12 = some (.int .u64):=by kernel_rfl
theorem UC:bH env.P 12 = none:=by kernel_rfl
theorem VL:env.P.cellsOf 12 = 1:=by kernel_rfl
theorem WP:bO env.P 12 = true:=by kernel_rfl
theorem S8:bU env.P 12 = some false:=by kernel_rfl
theorem WS:bS env.P 12 = some (.d (.int .u64 0)):=by kernel_rfl
theorem WT:(env.P.info? 12).isSome = true:=by kernel_rfl
theorem jH:kQ env.P 13 = true:=by kernel_rfl
theorem m4:bD env.P 13 0 = some (0,9):=by kernel_rfl
theorem nA:cV env.P 13 0 = some (0,1):=by kernel_rfl
theorem m7:bD env.P 13 1 = some (1,12):=by kernel_rfl
theorem m5:cV env.P 13 1 = some (1,1):=by kernel_rfl
theorem nW:bH env.P 13 = none:=by kernel_rfl
theorem oH:env.P.cellsOf 13 = 2:=by kernel_rfl
theorem oF:bO env.P 13 = true:=by kernel_rfl
theorem n6:bU env.P 13 = some true:=by kernel_rfl
theorem jQ:bS env.P 13 = some (.agg [.d (.str []),.d (.int .u64 0)]):=by kernel_rfl
theorem oD:(env.P.info? 13).isSome = true:=by kernel_rfl
theorem OL:bH env.P 20 = none:=by kernel_rfl
theorem QS:env.P.cellsOf 20 = 1:=by kernel_rfl
theorem PP:bO env.P 20 = true:=by kernel_rfl
theorem OM:bU env.P 20 = some false:=by kernel_rfl
theorem QT:bS env.P 20 = some (.d (.nili)):=by kernel_rfl
theorem P8:(env.P.info? 20).isSome = true:=by kernel_rfl
theorem aBH:env.P.underlying 21 = some (.int .i32):=by kernel_rfl
theorem Y5:bH env.P 21 = none:=by kernel_rfl
theorem aBK:env.P.cellsOf 21 = 1:=by kernel_rfl
theorem aCU:bO env.P 21 = true:=by kernel_rfl
theorem Z6:bU env.P 21 = some false:=by kernel_rfl
theorem aBF:bS env.P 21 = some (.d (.int .i32 0)):=by kernel_rfl
theorem aBD:(env.P.info? 21).isSome = true:=by kernel_rfl
theorem GS:env.P.underlying 22 = some (.slice 5):=by kernel_rfl
theorem QW:bH env.P 22 = some 5:=by simp only [bH,GS]
theorem S6:env.P.cellsOf 22 = 1:=by kernel_rfl
theorem UD:bO env.P 22 = true:=by kernel_rfl
theorem QU:bU env.P 22 = some false:=by kernel_rfl
theorem TN:bS env.P 22 = some (.d (.nils)):=by kernel_rfl
theorem TL:(env.P.info? 22).isSome = true:=by kernel_rfl
theorem DS:env.P.underlying 23 = some (.slice 32):=by kernel_rfl
theorem M7:bH env.P 23 = some 32:=by simp only [bH,DS]
theorem Q2:env.P.cellsOf 23 = 1:=by kernel_rfl
theorem QP:bO env.P 23 = true:=by kernel_rfl
theorem MY:bU env.P 23 = some false:=by kernel_rfl
theorem P7:bS env.P 23 = some (.d (.nils)):=by kernel_rfl
theorem P3:(env.P.info? 23).isSome = true:=by kernel_rfl
theorem L7:env.P.underlying 24 = some (.slice 4):=by kernel_rfl
theorem UG:bH env.P 24 = some 4:=by simp only [bH,L7]
theorem XR:env.P.cellsOf 24 = 1:=by kernel_rfl
theorem VY:bO env.P 24 = true:=by kernel_rfl
theorem TD:bU env.P 24 = some false:=by kernel_rfl
theorem X1:bS env.P 24 = some (.d (.nils)):=by kernel_rfl
theorem XS:(env.P.info? 24).isSome = true:=by kernel_rfl
theorem eG:kQ env.P 25 = true:=by kernel_rfl
theorem gB:bD env.P 25 0 = some (0,3):=by kernel_rfl
theorem fY:cV env.P 25 0 = some (0,1):=by kernel_rfl
theorem gA:bD env.P 25 1 = some (1,23):=by kernel_rfl
theorem fZ:cV env.P 25 1 = some (1,1):=by kernel_rfl
theorem f0:bD env.P 25 2 = some (2,24):=by kernel_rfl
theorem gG:cV env.P 25 2 = some (2,1):=by kernel_rfl
theorem hM:bH env.P 25 = none:=by kernel_rfl
theorem hU:env.P.cellsOf 25 = 3:=by kernel_rfl
theorem iC:bO env.P 25 = true:=by kernel_rfl
theorem hS:bU env.P 25 = some true:=by kernel_rfl
theorem eK:bS env.P 25 = some (.agg [.d (.int .i64 0),.d (.nils),.d (.nils)]):=by kernel_rfl
theorem iG:(env.P.info? 25).isSome = true:=by kernel_rfl
theorem tA:kQ env.P 26 = true:=by kernel_rfl
theorem yI:bD env.P 26 0 = some (0,3):=by kernel_rfl
theorem x6:cV env.P 26 0 = some (0,1):=by kernel_rfl
theorem xT:bD env.P 26 1 = some (1,23):=by kernel_rfl
theorem xS:cV env.P 26 1 = some (1,1):=by kernel_rfl
theorem xK:bD env.P 26 2 = some (2,24):=by kernel_rfl
theorem yA:cV env.P 26 2 = some (2,1):=by kernel_rfl
theorem B8:bH env.P 26 = none:=by kernel_rfl
theorem CT:env.P.cellsOf 26 = 3:=by kernel_rfl
theorem DP:bO env.P 26 = true:=by kernel_rfl
theorem B5:bU env.P 26 = some true:=by kernel_rfl
theorem tX:bS env.P 26 = some (.agg [.d (.int .i64 0),.d (.nils),.d (.nils)]):=by kernel_rfl
theorem CS:(env.P.info? 26).isSome = true:=by kernel_rfl
theorem D6:env.P.underlying 28 = some (.slice 9):=by kernel_rfl
theorem M6:bH env.P 28 = some 9:=by simp only [bH,D6]
theorem P4:env.P.cellsOf 28 = 1:=by kernel_rfl
theorem PS:bO env.P 28 = true:=by kernel_rfl
theorem NK:bU env.P 28 = some false:=by kernel_rfl
theorem PT:bS env.P 28 = some (.d (.nils)):=by kernel_rfl
theorem P1:(env.P.info? 28).isSome = true:=by kernel_rfl
theorem PC:env.P.underlying 32 = some (.slice 3):=by kernel_rfl
theorem W4:bH env.P 32 = some 3:=by simp only [bH,PC]
theorem aAr:env.P.cellsOf 32 = 1:=by kernel_rfl
theorem aAv:bO env.P 32 = true:=by kernel_rfl
theorem X2:bU env.P 32 = some false:=by kernel_rfl
theorem ZA:bS env.P 32 = some (.d (.nils)):=by kernel_rfl
theorem ZR:(env.P.info? 32).isSome = true:=by kernel_rfl
theorem DO:env.P.underlying 44 = some (.pointer 66):=by kernel_rfl
theorem CH:bH env.P 44 = none:=by kernel_rfl
theorem CX:env.P.cellsOf 44 = 1:=by kernel_rfl
theorem DD:bO env.P 44 = true:=by kernel_rfl
theorem BX:bU env.P 44 = some false:=by kernel_rfl
theorem CU:bS env.P 44 = some (.d (.nilp)):=by kernel_rfl
theorem C6:(env.P.info? 44).isSome = true:=by kernel_rfl
theorem BQ:env.P.underlying 54 = some (.slice 58):=by kernel_rfl
theorem MF:bH env.P 54 = some 58:=by simp only [bH,BQ]
theorem OA:env.P.cellsOf 54 = 1:=by kernel_rfl
theorem OC:bO env.P 54 = true:=by kernel_rfl
theorem KK:bU env.P 54 = some false:=by kernel_rfl
theorem NM:bS env.P 54 = some (.d (.nils)):=by kernel_rfl
theorem OP:(env.P.info? 54).isSome = true:=by kernel_rfl
theorem KW:env.P.underlying 58 = some (.array 6 3):=by kernel_rfl
theorem UA:bH env.P 58 = none:=by kernel_rfl
theorem XH:env.P.cellsOf 58 = 6:=by kernel_rfl
theorem XB:bO env.P 58 = true:=by kernel_rfl
theorem UF:bU env.P 58 = some true:=by kernel_rfl
theorem J5:bS env.P 58 = some (.agg [.d (.int .i64 0),.d (.int .i64 0),.d (.int .i64 0),.d (.int .i64 0),.d (.int .i64 0),.d (.int .i64 0)]):=by kernel_rfl
theorem V8:(env.P.info? 58).isSome = true:=by kernel_rfl
theorem mT:kQ env.P 65 = true:=by kernel_rfl
theorem pV:bD env.P 65 0 = some (0,22):=by kernel_rfl
theorem pT:cV env.P 65 0 = some (0,1):=by kernel_rfl
theorem pW:bD env.P 65 1 = some (1,3):=by kernel_rfl
theorem pY:cV env.P 65 1 = some (1,1):=by kernel_rfl
theorem rC:bH env.P 65 = none:=by kernel_rfl
theorem rY:env.P.cellsOf 65 = 2:=by kernel_rfl
theorem rM:bO env.P 65 = true:=by kernel_rfl
theorem rB:bU env.P 65 = some true:=by kernel_rfl
theorem nH:bS env.P 65 = some (.agg [.d (.nils),.d (.int .i64 0)]):=by kernel_rfl
theorem r7:(env.P.info? 65).isSome = true:=by kernel_rfl
theorem yZ:kQ env.P 66 = true:=by kernel_rfl
theorem FP:bD env.P 66 0 = some (0,22):=by kernel_rfl
theorem F5:cV env.P 66 0 = some (0,1):=by kernel_rfl
theorem E3:bD env.P 66 1 = some (1,3):=by kernel_rfl
theorem E4:cV env.P 66 1 = some (1,1):=by kernel_rfl
theorem J9:bH env.P 66 = none:=by kernel_rfl
theorem OW:env.P.cellsOf 66 = 2:=by kernel_rfl
theorem NF:bO env.P 66 = true:=by kernel_rfl
theorem LC:bU env.P 66 = some true:=by kernel_rfl
theorem BE:bS env.P 66 = some (.agg [.d (.nils),.d (.int .i64 0)]):=by kernel_rfl
theorem NJ:(env.P.info? 66).isSome = true:=by kernel_rfl
theorem qV:env.P.underlying 73 = some (.slice 26):=by kernel_rfl
theorem wT:bH env.P 73 = some 26:=by simp only [bH,qV]
theorem xX:env.P.cellsOf 73 = 1:=by kernel_rfl
theorem xN:bO env.P 73 = true:=by kernel_rfl
theorem wW:bU env.P 73 = some false:=by kernel_rfl
theorem xW:bS env.P 73 = some (.d (.nils)):=by kernel_rfl
theorem xL:(env.P.info? 73).isSome = true:=by kernel_rfl
theorem t7:env.P.underlying 74 = some (.slice 112):=by kernel_rfl
theorem B1:bH env.P 74 = some 112:=by simp only [bH,t7]
theorem CW:env.P.cellsOf 74 = 1:=by kernel_rfl
theorem DC:bO env.P 74 = true:=by kernel_rfl
theorem A9:bU env.P 74 = some false:=by kernel_rfl
theorem C5:bS env.P 74 = some (.d (.nils)):=by kernel_rfl
theorem DL:(env.P.info? 74).isSome = true:=by kernel_rfl
theorem bJ:kQ env.P 75 = true:=by kernel_rfl
theorem cI:bD env.P 75 0 = some (0,74):=by kernel_rfl
theorem cE:cV env.P 75 0 = some (0,1):=by kernel_rfl
theorem cG:bD env.P 75 1 = some (1,73):=by kernel_rfl
theorem cH:cV env.P 75 1 = some (1,1):=by kernel_rfl
theorem cM:bD env.P 75 2 = some (2,32):=by kernel_rfl
theorem cD:cV env.P 75 2 = some (2,1):=by kernel_rfl
theorem cF:bD env.P 75 3 = some (3,3):=by kernel_rfl
theorem cJ:cV env.P 75 3 = some (3,1):=by kernel_rfl
theorem cB:bD env.P 75 4 = some (4,3):=by kernel_rfl
theorem cK:cV env.P 75 4 = some (4,1):=by kernel_rfl
theorem cN:bD env.P 75 5 = some (5,3):=by kernel_rfl
theorem cC:cV env.P 75 5 = some (5,1):=by kernel_rfl
theorem cO:bH env.P 75 = none:=by kernel_rfl
theorem cU:env.P.cellsOf 75 = 6:=by kernel_rfl
theorem cT:bO env.P 75 = true:=by kernel_rfl
theorem cR:bU env.P 75 = some true:=by kernel_rfl
theorem bK:bS env.P 75 = some (.agg [.d (.nils),.d (.nils),.d (.nils),.d (.int .i64 0),.d (.int .i64 0),.d (.int .i64 0)]):=by kernel_rfl
theorem cS:(env.P.info? 75).isSome = true:=by kernel_rfl
theorem yX:kQ env.P 76 = true:=by kernel_rfl
theorem F1:bD env.P 76 0 = some (0,74):=by kernel_rfl
theorem FR:cV env.P 76 0 = some (0,1):=by kernel_rfl
theorem GA:bD env.P 76 1 = some (1,73):=by kernel_rfl
theorem FG:cV env.P 76 1 = some (1,1):=by kernel_rfl
theorem FA:bD env.P 76 2 = some (2,32):=by kernel_rfl
theorem E6:cV env.P 76 2 = some (2,1):=by kernel_rfl
theorem FJ:bD env.P 76 3 = some (3,3):=by kernel_rfl
theorem FU:cV env.P 76 3 = some (3,1):=by kernel_rfl
theorem F2:bD env.P 76 4 = some (4,3):=by kernel_rfl
theorem FX:cV env.P 76 4 = some (4,1):=by kernel_rfl
theorem FO:bD env.P 76 5 = some (5,3):=by kernel_rfl
theorem FS:cV env.P 76 5 = some (5,1):=by kernel_rfl
theorem JE:bH env.P 76 = none:=by kernel_rfl
theorem N7:env.P.cellsOf 76 = 6:=by kernel_rfl
theorem M0:bO env.P 76 = true:=by kernel_rfl
theorem LL:bU env.P 76 = some true:=by kernel_rfl
theorem AH:bS env.P 76 = some (.agg [.d (.nils),.d (.nils),.d (.nils),.d (.int .i64 0),.d (.int .i64 0),.d (.int .i64 0)]):=by kernel_rfl
theorem OH:(env.P.info? 76).isSome = true:=by kernel_rfl
theorem DH:env.P.underlying 77 = some (.map 9 3):=by kernel_rfl
theorem CA:bH env.P 77 = none:=by kernel_rfl
theorem DE:env.P.cellsOf 77 = 1:=by kernel_rfl
theorem CZ:bO env.P 77 = true:=by kernel_rfl
theorem BR:bU env.P 77 = some false:=by kernel_rfl
theorem C0:bS env.P 77 = some (.d (.nilm)):=by kernel_rfl
theorem C7:(env.P.info? 77).isSome = true:=by kernel_rfl
theorem sJ:env.P.underlying 80 = some (.int .u64):=by kernel_rfl
theorem aC1:bH env.P 80 = none:=by kernel_rfl
theorem aE0:env.P.cellsOf 80 = 1:=by kernel_rfl
theorem aFP:bO env.P 80 = true:=by kernel_rfl
theorem aDH:bU env.P 80 = some false:=by kernel_rfl
theorem aEL:bS env.P 80 = some (.d (.int .u64 0)):=by kernel_rfl
theorem aFD:(env.P.info? 80).isSome = true:=by kernel_rfl
theorem xF:env.P.underlying 90 = some (.slice 23):=by kernel_rfl
theorem F7:bH env.P 90 = some 23:=by simp only [bH,xF]
theorem HQ:env.P.cellsOf 90 = 1:=by kernel_rfl
theorem HI:bO env.P 90 = true:=by kernel_rfl
theorem E8:bU env.P 90 = some false:=by kernel_rfl
theorem G8:bS env.P 90 = some (.d (.nils)):=by kernel_rfl
theorem G7:(env.P.info? 90).isSome = true:=by kernel_rfl
theorem pZ:env.P.underlying 105 = some (.slice 107):=by kernel_rfl
theorem uI:bH env.P 105 = some 107:=by simp only [bH,pZ]
theorem xC:env.P.cellsOf 105 = 1:=by kernel_rfl
theorem wU:bO env.P 105 = true:=by kernel_rfl
theorem vI:bU env.P 105 = some false:=by kernel_rfl
theorem wS:bS env.P 105 = some (.d (.nils)):=by kernel_rfl
theorem wP:(env.P.info? 105).isSome = true:=by kernel_rfl
theorem fF:kQ env.P 106 = true:=by kernel_rfl
theorem i8:bD env.P 106 0 = some (0,3):=by kernel_rfl
theorem iV:cV env.P 106 0 = some (0,1):=by kernel_rfl
theorem iY:bD env.P 106 1 = some (1,3):=by kernel_rfl
theorem iW:cV env.P 106 1 = some (1,1):=by kernel_rfl
theorem i7:bD env.P 106 2 = some (2,32):=by kernel_rfl
theorem iZ:cV env.P 106 2 = some (2,1):=by kernel_rfl
theorem jO:bH env.P 106 = none:=by kernel_rfl
theorem jY:env.P.cellsOf 106 = 3:=by kernel_rfl
theorem jW:bO env.P 106 = true:=by kernel_rfl
theorem jN:bU env.P 106 = some true:=by kernel_rfl
theorem fH:bS env.P 106 = some (.agg [.d (.int .i64 0),.d (.int .i64 0),.d (.nils)]):=by kernel_rfl
theorem jX:(env.P.info? 106).isSome = true:=by kernel_rfl
theorem rQ:kQ env.P 107 = true:=by kernel_rfl
theorem wZ:bD env.P 107 0 = some (0,3):=by kernel_rfl
theorem wR:cV env.P 107 0 = some (0,1):=by kernel_rfl
theorem wX:bD env.P 107 1 = some (1,3):=by kernel_rfl
theorem xB:cV env.P 107 1 = some (1,1):=by kernel_rfl
theorem wY:bD env.P 107 2 = some (2,32):=by kernel_rfl
theorem xA:cV env.P 107 2 = some (2,1):=by kernel_rfl
theorem z5:bH env.P 107 = none:=by kernel_rfl
theorem AZ:env.P.cellsOf 107 = 3:=by kernel_rfl
theorem CG:bO env.P 107 = true:=by kernel_rfl
theorem z6:bU env.P 107 = some true:=by kernel_rfl
theorem s5:bS env.P 107 = some (.agg [.d (.int .i64 0),.d (.int .i64 0),.d (.nils)]):=by kernel_rfl
theorem AU:(env.P.info? 107).isSome = true:=by kernel_rfl
theorem xG:env.P.underlying 110 = some (.slice 129):=by kernel_rfl
theorem F3:bH env.P 110 = some 129:=by simp only [bH,xG]
theorem G6:env.P.cellsOf 110 = 1:=by kernel_rfl
theorem G9:bO env.P 110 = true:=by kernel_rfl
theorem FM:bU env.P 110 = some false:=by kernel_rfl
theorem HU:bS env.P 110 = some (.d (.nils)):=by kernel_rfl
theorem HN:(env.P.info? 110).isSome = true:=by kernel_rfl
theorem eF:kQ env.P 111 = true:=by kernel_rfl
theorem fW:bD env.P 111 0 = some (0,3):=by kernel_rfl
theorem gD:cV env.P 111 0 = some (0,1):=by kernel_rfl
theorem fX:bD env.P 111 1 = some (1,3):=by kernel_rfl
theorem gF:cV env.P 111 1 = some (1,1):=by kernel_rfl
theorem gC:bD env.P 111 2 = some (2,110):=by kernel_rfl
theorem gE:cV env.P 111 2 = some (2,1):=by kernel_rfl
theorem hR:bH env.P 111 = none:=by kernel_rfl
theorem iF:env.P.cellsOf 111 = 3:=by kernel_rfl
theorem iB:bO env.P 111 = true:=by kernel_rfl
theorem gY:bU env.P 111 = some true:=by kernel_rfl
theorem eJ:bS env.P 111 = some (.agg [.d (.int .i64 0),.d (.int .i64 0),.d (.nils)]):=by kernel_rfl
theorem iA:(env.P.info? 111).isSome = true:=by kernel_rfl
theorem xI:kQ env.P 112 = true:=by kernel_rfl
theorem CY:bD env.P 112 0 = some (0,3):=by kernel_rfl
theorem DM:cV env.P 112 0 = some (0,1):=by kernel_rfl
theorem DJ:bD env.P 112 1 = some (1,3):=by kernel_rfl
theorem C9:cV env.P 112 1 = some (1,1):=by kernel_rfl
theorem C4:bD env.P 112 2 = some (2,110):=by kernel_rfl
theorem C1:cV env.P 112 2 = some (2,1):=by kernel_rfl
theorem HW:bH env.P 112 = none:=by kernel_rfl
theorem KU:env.P.cellsOf 112 = 3:=by kernel_rfl
theorem JF:bO env.P 112 = true:=by kernel_rfl
theorem HT:bU env.P 112 = some true:=by kernel_rfl
theorem zK:bS env.P 112 = some (.agg [.d (.int .i64 0),.d (.int .i64 0),.d (.nils)]):=by kernel_rfl
theorem MK:(env.P.info? 112).isSome = true:=by kernel_rfl
theorem J2:env.P.underlying 118 = some (.map 3 3):=by kernel_rfl
theorem HB:bH env.P 118 = none:=by kernel_rfl
theorem KQ:env.P.cellsOf 118 = 1:=by kernel_rfl
theorem MJ:bO env.P 118 = true:=by kernel_rfl
theorem HR:bU env.P 118 = some false:=by kernel_rfl
theorem JD:bS env.P 118 = some (.d (.nilm)):=by kernel_rfl
theorem JZ:(env.P.info? 118).isSome = true:=by kernel_rfl
theorem A3:env.P.underlying 122 = some (.array 24 5):=by kernel_rfl
theorem LD:bH env.P 122 = none:=by kernel_rfl
theorem MS:env.P.cellsOf 122 = 24:=by kernel_rfl
theorem NX:bO env.P 122 = true:=by kernel_rfl
theorem KG:bU env.P 122 = some true:=by kernel_rfl
theorem AO:bS env.P 122 = some (.agg (List.replicate 24 (.d (.int .u8 0)))):=by kernel_rfl
theorem MX:(env.P.info? 122).isSome = true:=by kernel_rfl
theorem ZK:env.P.underlying 123 = some (.int .u64):=by kernel_rfl
theorem WJ:bH env.P 123 = none:=by kernel_rfl
theorem O4:env.P.cellsOf 123 = 1:=by kernel_rfl
theorem ZJ:bO env.P 123 = true:=by kernel_rfl
theorem WW:bU env.P 123 = some false:=by kernel_rfl
theorem aAz:bS env.P 123 = some (.d (.int .u64 0)):=by kernel_rfl
theorem PK:(env.P.info? 123).isSome = true:=by kernel_rfl
theorem iJ:kQ env.P 128 = true:=by kernel_rfl
theorem lH:bD env.P 128 0 = some (0,3):=by kernel_rfl
theorem lK:cV env.P 128 0 = some (0,1):=by kernel_rfl
theorem lI:bD env.P 128 1 = some (1,3):=by kernel_rfl
theorem lJ:cV env.P 128 1 = some (1,1):=by kernel_rfl
theorem lF:bD env.P 128 2 = some (2,3):=by kernel_rfl
theorem lG:cV env.P 128 2 = some (2,1):=by kernel_rfl
theorem mM:bH env.P 128 = none:=by kernel_rfl
theorem m2:env.P.cellsOf 128 = 3:=by kernel_rfl
theorem m8:bO env.P 128 = true:=by kernel_rfl
theorem mQ:bU env.P 128 = some true:=by kernel_rfl
theorem iO:bS env.P 128 = some (.agg [.d (.int .i64 0),.d (.int .i64 0),.d (.int .i64 0)]):=by kernel_rfl
theorem mZ:(env.P.info? 128).isSome = true:=by kernel_rfl
theorem CF:kQ env.P 129 = true:=by kernel_rfl
theorem G4:bD env.P 129 0 = some (0,3):=by kernel_rfl
theorem HM:cV env.P 129 0 = some (0,1):=by kernel_rfl
theorem GZ:bD env.P 129 1 = some (1,3):=by kernel_rfl
theorem HC:cV env.P 129 1 = some (1,1):=by kernel_rfl
theorem HD:bD env.P 129 2 = some (2,3):=by kernel_rfl
theorem HP:cV env.P 129 2 = some (2,1):=by kernel_rfl
theorem MU:bH env.P 129 = none:=by kernel_rfl
theorem PV:env.P.cellsOf 129 = 3:=by kernel_rfl
theorem QG:bO env.P 129 = true:=by kernel_rfl
theorem MR:bU env.P 129 = some true:=by kernel_rfl
theorem ED:bS env.P 129 = some (.agg [.d (.int .i64 0),.d (.int .i64 0),.d (.int .i64 0)]):=by kernel_rfl
theorem QB:(env.P.info? 129).isSome = true:=by kernel_rfl
theorem y8:env.P.underlying 131 = some (.array 20 123):=by kernel_rfl
theorem HS:bH env.P 131 = none:=by kernel_rfl
theorem MH:env.P.cellsOf 131 = 20:=by kernel_rfl
theorem JB:bO env.P 131 = true:=by kernel_rfl
theorem HO:bU env.P 131 = some true:=by kernel_rfl
theorem y6:bS env.P 131 = some (.agg (List.replicate 20 (.d (.int .u64 0)))):=by kernel_rfl
theorem L0:(env.P.info? 131).isSome = true:=by kernel_rfl
theorem ZB:env.P.underlying 132 = some (.int .u32):=by kernel_rfl
theorem V4:bH env.P 132 = none:=by kernel_rfl
theorem Y7:env.P.cellsOf 132 = 1:=by kernel_rfl
theorem ZC:bO env.P 132 = true:=by kernel_rfl
theorem VN:bU env.P 132 = some false:=by kernel_rfl
theorem ZO:bS env.P 132 = some (.d (.int .u32 0)):=by kernel_rfl
theorem aAl:(env.P.info? 132).isSome = true:=by kernel_rfl
theorem AE:env.P.underlying 133 = some (.array 65 5):=by kernel_rfl
theorem KJ:bH env.P 133 = none:=by kernel_rfl
theorem NY:env.P.cellsOf 133 = 65:=by kernel_rfl
theorem OT:bO env.P 133 = true:=by kernel_rfl
theorem JH:bU env.P 133 = some true:=by kernel_rfl
theorem CI:bS env.P 133 = some (.agg (List.replicate 65 (.d (.int .u8 0)))):=by kernel_rfl
theorem NV:(env.P.info? 133).isSome = true:=by kernel_rfl
theorem BO:env.P.underlying 136 = some (.array 32 5):=by kernel_rfl
theorem LE:bH env.P 136 = none:=by kernel_rfl
theorem NI:env.P.cellsOf 136 = 32:=by kernel_rfl
theorem NU:bO env.P 136 = true:=by kernel_rfl
theorem LT:bU env.P 136 = some true:=by kernel_rfl
theorem AN:bS env.P 136 = some (.agg (List.replicate 32 (.d (.int .u8 0)))):=by kernel_rfl
theorem N2:(env.P.info? 136).isSome = true:=by kernel_rfl
theorem AW:env.P.underlying 137 = some (.array 64 5):=by kernel_rfl
theorem K3:bH env.P 137 = none:=by kernel_rfl
theorem OJ:env.P.cellsOf 137 = 64:=by kernel_rfl
theorem OQ:bO env.P 137 = true:=by kernel_rfl
theorem KZ:bU env.P 137 = some true:=by kernel_rfl
theorem BI:bS env.P 137 = some (.agg (List.replicate 64 (.d (.int .u8 0)))):=by kernel_rfl
theorem OX:(env.P.info? 137).isSome = true:=by kernel_rfl
theorem P9:env.P.underlying 148 = some (.pointer 5):=by kernel_rfl
theorem N1:bH env.P 148 = none:=by kernel_rfl
theorem QR:env.P.cellsOf 148 = 1:=by kernel_rfl
theorem P2:bO env.P 148 = true:=by kernel_rfl
theorem MW:bU env.P 148 = some false:=by kernel_rfl
theorem Q4:bS env.P 148 = some (.d (.nilp)):=by kernel_rfl
theorem PY:(env.P.info? 148).isSome = true:=by kernel_rfl
theorem AP:bH env.P 154 = none:=by kernel_rfl
theorem DK:env.P.cellsOf 154 = 1:=by kernel_rfl
theorem DQ:bO env.P 154 = true:=by kernel_rfl
theorem CE:bU env.P 154 = some false:=by kernel_rfl
theorem DB:bS env.P 154 = some (.d (.nilp)):=by kernel_rfl
theorem DG:(env.P.info? 154).isSome = true:=by kernel_rfl
theorem nU:∀ parts,gJ env.P 13 parts = (eQ (aR (.agg [.d (.str []),.d (.int .u64 0)])) (parts.map fun p => (cV env.P 13 p.1,p.2))).map .agg:=fun _ => fM jH jQ
theorem hJ:∀ parts,gJ env.P 25 parts = (eQ (aR (.agg [.d (.int .i64 0),.d (.nils),.d (.nils)])) (parts.map fun p => (cV env.P 25 p.1,p.2))).map .agg:=fun _ => fM eG eK
theorem BU:∀ parts,gJ env.P 26 parts = (eQ (aR (.agg [.d (.int .i64 0),.d (.nils),.d (.nils)])) (parts.map fun p => (cV env.P 26 p.1,p.2))).map .agg:=fun _ => fM tA tX
theorem TO:∀ parts,gJ env.P 58 parts = (eQ (aR (.agg [.d (.int .i64 0),.d (.int .i64 0),.d (.int .i64 0),.d (.int .i64 0),.d (.int .i64 0),.d (.int .i64 0)])) (parts.map fun p => (some (p.1 * 1,1),p.2))).map .agg:=fun _ => rL KW J5 aBA aBg
theorem q8:∀ parts,gJ env.P 65 parts = (eQ (aR (.agg [.d (.nils),.d (.int .i64 0)])) (parts.map fun p => (cV env.P 65 p.1,p.2))).map .agg:=fun _ => fM mT nH
theorem KA:∀ parts,gJ env.P 66 parts = (eQ (aR (.agg [.d (.nils),.d (.int .i64 0)])) (parts.map fun p => (cV env.P 66 p.1,p.2))).map .agg:=fun _ => fM yZ BE
theorem cP:∀ parts,gJ env.P 75 parts = (eQ (aR (.agg [.d (.nils),.d (.nils),.d (.nils),.d (.int .i64 0),.d (.int .i64 0),.d (.int .i64 0)])) (parts.map fun p => (cV env.P 75 p.1,p.2))).map .agg:=fun _ => fM bJ bK
theorem MG:∀ parts,gJ env.P 76 parts = (eQ (aR (.agg [.d (.nils),.d (.nils),.d (.nils),.d (.int .i64 0),.d (.int .i64 0),.d (.int .i64 0)])) (parts.map fun p => (cV env.P 76 p.1,p.2))).map .agg:=fun _ => fM yX AH
theorem jP:∀ parts,gJ env.P 106 parts = (eQ (aR (.agg [.d (.int .i64 0),.d (.int .i64 0),.d (.nils)])) (parts.map fun p => (cV env.P 106 p.1,p.2))).map .agg:=fun _ => fM fF fH
theorem zT:∀ parts,gJ env.P 107 parts = (eQ (aR (.agg [.d (.int .i64 0),.d (.int .i64 0),.d (.nils)])) (parts.map fun p => (cV env.P 107 p.1,p.2))).map .agg:=fun _ => fM rQ s5
theorem hG:∀ parts,gJ env.P 111 parts = (eQ (aR (.agg [.d (.int .i64 0),.d (.int .i64 0),.d (.nils)])) (parts.map fun p => (cV env.P 111 p.1,p.2))).map .agg:=fun _ => fM eF eJ
theorem HF:∀ parts,gJ env.P 112 parts = (eQ (aR (.agg [.d (.int .i64 0),.d (.int .i64 0),.d (.nils)])) (parts.map fun p => (cV env.P 112 p.1,p.2))).map .agg:=fun _ => fM xI zK
theorem I8:∀ parts,gJ env.P 122 parts = (eQ (aR (.agg (List.replicate 24 (.d (.int .u8 0))))) (parts.map fun p => (some (p.1 * 1,1),p.2))).map .agg:=fun _ => rL A3 AO vY vR
theorem mN:∀ parts,gJ env.P 128 parts = (eQ (aR (.agg [.d (.int .i64 0),.d (.int .i64 0),.d (.int .i64 0)])) (parts.map fun p => (cV env.P 128 p.1,p.2))).map .agg:=fun _ => fM iJ iO
theorem NT:∀ parts,gJ env.P 129 parts = (eQ (aR (.agg [.d (.int .i64 0),.d (.int .i64 0),.d (.int .i64 0)])) (parts.map fun p => (cV env.P 129 p.1,p.2))).map .agg:=fun _ => fM CF ED
theorem HH:∀ parts,gJ env.P 131 parts = (eQ (aR (.agg (List.replicate 20 (.d (.int .u64 0))))) (parts.map fun p => (some (p.1 * 1,1),p.2))).map .agg:=fun _ => rL y8 y6 PK O4
theorem I7:∀ parts,gJ env.P 133 parts = (eQ (aR (.agg (List.replicate 65 (.d (.int .u8 0))))) (parts.map fun p => (some (p.1 * 1,1),p.2))).map .agg:=fun _ => rL AE CI vY vR
theorem LJ:∀ parts,gJ env.P 136 parts = (eQ (aR (.agg (List.replicate 32 (.d (.int .u8 0))))) (parts.map fun p => (some (p.1 * 1,1),p.2))).map .agg:=fun _ => rL BO AN vY vR
theorem LY:∀ parts,gJ env.P 137 parts = (eQ (aR (.agg (List.replicate 64 (.d (.int .u8 0))))) (parts.map fun p => (some (p.1 * 1,1),p.2))).map .agg:=fun _ => rL AW BI vY vR
theorem S4 {h:H} {n:Int} {K:IntKind}:gO env.P h 3 3 (.d (.int K n)) = some (.d (.int .i64 (IntKind.wrap .i64 n)),h):=nX uP uP
theorem NZ {h:H} {n:Int} {K:IntKind}:gO env.P h 3 5 (.d (.int K n)) = some (.d (.int .u8 (IntKind.wrap .u8 n)),h):=nX uP qD
theorem QI {h:H} {n:Int} {K:IntKind}:gO env.P h 3 80 (.d (.int K n)) = some (.d (.int .u64 (IntKind.wrap .u64 n)),h):=nX uP sJ
theorem OI {h:H} {n:Int} {K:IntKind}:gO env.P h 5 3 (.d (.int K n)) = some (.d (.int .i64 (IntKind.wrap .i64 n)),h):=nX qD uP
theorem HK {h:H} {n:Int} {K:IntKind}:gO env.P h 5 5 (.d (.int K n)) = some (.d (.int .u8 (IntKind.wrap .u8 n)),h):=nX qD qD
theorem J8 {h:H} {n:Int} {K:IntKind}:gO env.P h 5 80 (.d (.int K n)) = some (.d (.int .u64 (IntKind.wrap .u64 n)),h):=nX qD sJ
theorem P5 {h:H} {n:Int} {K:IntKind}:gO env.P h 80 3 (.d (.int K n)) = some (.d (.int .i64 (IntKind.wrap .i64 n)),h):=nX sJ uP
theorem KF {h:H} {n:Int} {K:IntKind}:gO env.P h 80 5 (.d (.int K n)) = some (.d (.int .u8 (IntKind.wrap .u8 n)),h):=nX sJ qD
theorem NN {h:H} {n:Int} {K:IntKind}:gO env.P h 80 80 (.d (.int K n)) = some (.d (.int .u64 (IntKind.wrap .u64 n)),h):=nX sJ sJ
theorem TY0:type_of% (AI @aCR (AI @aAh (AI @aDg (AI @aCY (AI @aAa (AI @aCa (AI @aDF (AI @uP (AI @aED (AI @aBg (AI @aIS (AI @aEq (AI @aIe (AI @aBA (AI @aF8 (AI @aCJ (AI @aFb (AI @aFI (AI @aCo (AI @aEY (AI @aEz (AI @qD (AI @aAd (AI @vR (AI @aCG (AI @Z9 (AI @aCh (AI @vY (AI @aAy (AI @WF (AI @ZW (AI @aAe (AI @VR (AI @aAF (AI @Z0 (AI @W3 (AI @UC (AI @VL (AI @WP @S8))))))))))))))))))))))))))))))))))))))) :=
 ⟨@aCR,@aAh,@aDg,@aCY,@aAa,@aCa,@aDF,@uP,@aED,@aBg,@aIS,@aEq,@aIe,@aBA,@aF8,@aCJ,@aFb,@aFI,@aCo,@aEY,@aEz,@qD,@aAd,@vR,@aCG,@Z9,@aCh,@vY,@aAy,@WF,@ZW,@aAe,@VR,@aAF,@Z0,@W3,@UC,@VL,@WP,@S8⟩
theorem TY1:type_of% (AI @WS (AI @WT (AI @jH (AI @m4 (AI @nA (AI @m7 (AI @m5 (AI @nW (AI @oH (AI @oF (AI @n6 (AI @jQ (AI @nU (AI @oD (AI @OL (AI @QS (AI @PP (AI @OM (AI @QT (AI @P8 (AI @aBH (AI @Y5 (AI @aBK (AI @aCU (AI @Z6 (AI @aBF (AI @aBD (AI @GS (AI @QW (AI @S6 (AI @UD (AI @QU (AI @TN (AI @TL (AI @DS (AI @M7 (AI @Q2 (AI @QP (AI @MY @P7))))))))))))))))))))))))))))))))))))))) :=
 ⟨@WS,@WT,@jH,@m4,@nA,@m7,@m5,@nW,@oH,@oF,@n6,@jQ,@nU,@oD,@OL,@QS,@PP,@OM,@QT,@P8,@aBH,@Y5,@aBK,@aCU,@Z6,@aBF,@aBD,@GS,@QW,@S6,@UD,@QU,@TN,@TL,@DS,@M7,@Q2,@QP,@MY,@P7⟩
theorem TY2:type_of% (AI @P3 (AI @L7 (AI @UG (AI @XR (AI @VY (AI @TD (AI @X1 (AI @XS (AI @eG (AI @gB (AI @fY (AI @gA (AI @fZ (AI @f0 (AI @gG (AI @hM (AI @hU (AI @iC (AI @hS (AI @eK (AI @hJ (AI @iG (AI @tA (AI @yI (AI @x6 (AI @xT (AI @xS (AI @xK (AI @yA (AI @B8 (AI @CT (AI @DP (AI @B5 (AI @tX (AI @BU (AI @CS (AI @D6 (AI @M6 (AI @P4 @PS))))))))))))))))))))))))))))))))))))))) :=
 ⟨@P3,@L7,@UG,@XR,@VY,@TD,@X1,@XS,@eG,@gB,@fY,@gA,@fZ,@f0,@gG,@hM,@hU,@iC,@hS,@eK,@hJ,@iG,@tA,@yI,@x6,@xT,@xS,@xK,@yA,@B8,@CT,@DP,@B5,@tX,@BU,@CS,@D6,@M6,@P4,@PS⟩
theorem TY3:type_of% (AI @NK (AI @PT (AI @P1 (AI @PC (AI @W4 (AI @aAr (AI @aAv (AI @X2 (AI @ZA (AI @ZR (AI @DO (AI @CH (AI @CX (AI @DD (AI @BX (AI @CU (AI @C6 (AI @BQ (AI @MF (AI @OA (AI @OC (AI @KK (AI @NM (AI @OP (AI @KW (AI @UA (AI @XH (AI @XB (AI @UF (AI @J5 (AI @TO (AI @V8 (AI @mT (AI @pV (AI @pT (AI @pW (AI @pY (AI @rC (AI @rY @rM))))))))))))))))))))))))))))))))))))))) :=
 ⟨@NK,@PT,@P1,@PC,@W4,@aAr,@aAv,@X2,@ZA,@ZR,@DO,@CH,@CX,@DD,@BX,@CU,@C6,@BQ,@MF,@OA,@OC,@KK,@NM,@OP,@KW,@UA,@XH,@XB,@UF,@J5,@TO,@V8,@mT,@pV,@pT,@pW,@pY,@rC,@rY,@rM⟩
theorem TY4:type_of% (AI @rB (AI @nH (AI @q8 (AI @r7 (AI @yZ (AI @FP (AI @F5 (AI @E3 (AI @E4 (AI @J9 (AI @OW (AI @NF (AI @LC (AI @BE (AI @KA (AI @NJ (AI @qV (AI @wT (AI @xX (AI @xN (AI @wW (AI @xW (AI @xL (AI @t7 (AI @B1 (AI @CW (AI @DC (AI @A9 (AI @C5 (AI @DL (AI @bJ (AI @cI (AI @cE (AI @cG (AI @cH (AI @cM (AI @cD (AI @cF (AI @cJ @cB))))))))))))))))))))))))))))))))))))))) :=
 ⟨@rB,@nH,@q8,@r7,@yZ,@FP,@F5,@E3,@E4,@J9,@OW,@NF,@LC,@BE,@KA,@NJ,@qV,@wT,@xX,@xN,@wW,@xW,@xL,@t7,@B1,@CW,@DC,@A9,@C5,@DL,@bJ,@cI,@cE,@cG,@cH,@cM,@cD,@cF,@cJ,@cB⟩
theorem TY5:type_of% (AI @cK (AI @cN (AI @cC (AI @cO (AI @cU (AI @cT (AI @cR (AI @bK (AI @cP (AI @cS (AI @yX (AI @F1 (AI @FR (AI @GA (AI @FG (AI @FA (AI @E6 (AI @FJ (AI @FU (AI @F2 (AI @FX (AI @FO (AI @FS (AI @JE (AI @N7 (AI @M0 (AI @LL (AI @AH (AI @MG (AI @OH (AI @DH (AI @CA (AI @DE (AI @CZ (AI @BR (AI @C0 (AI @C7 (AI @sJ (AI @aC1 @aE0))))))))))))))))))))))))))))))))))))))) :=
 ⟨@cK,@cN,@cC,@cO,@cU,@cT,@cR,@bK,@cP,@cS,@yX,@F1,@FR,@GA,@FG,@FA,@E6,@FJ,@FU,@F2,@FX,@FO,@FS,@JE,@N7,@M0,@LL,@AH,@MG,@OH,@DH,@CA,@DE,@CZ,@BR,@C0,@C7,@sJ,@aC1,@aE0⟩
theorem TY6:type_of% (AI @aFP (AI @aDH (AI @aEL (AI @aFD (AI @xF (AI @F7 (AI @HQ (AI @HI (AI @E8 (AI @G8 (AI @G7 (AI @pZ (AI @uI (AI @xC (AI @wU (AI @vI (AI @wS (AI @wP (AI @fF (AI @i8 (AI @iV (AI @iY (AI @iW (AI @i7 (AI @iZ (AI @jO (AI @jY (AI @jW (AI @jN (AI @fH (AI @jP (AI @jX (AI @rQ (AI @wZ (AI @wR (AI @wX (AI @xB (AI @wY (AI @xA @z5))))))))))))))))))))))))))))))))))))))) :=
 ⟨@aFP,@aDH,@aEL,@aFD,@xF,@F7,@HQ,@HI,@E8,@G8,@G7,@pZ,@uI,@xC,@wU,@vI,@wS,@wP,@fF,@i8,@iV,@iY,@iW,@i7,@iZ,@jO,@jY,@jW,@jN,@fH,@jP,@jX,@rQ,@wZ,@wR,@wX,@xB,@wY,@xA,@z5⟩
theorem TY7:type_of% (AI @AZ (AI @CG (AI @z6 (AI @s5 (AI @zT (AI @AU (AI @xG (AI @F3 (AI @G6 (AI @G9 (AI @FM (AI @HU (AI @HN (AI @eF (AI @fW (AI @gD (AI @fX (AI @gF (AI @gC (AI @gE (AI @hR (AI @iF (AI @iB (AI @gY (AI @eJ (AI @hG (AI @iA (AI @xI (AI @CY (AI @DM (AI @DJ (AI @C9 (AI @C4 (AI @C1 (AI @HW (AI @KU (AI @JF (AI @HT (AI @zK @HF))))))))))))))))))))))))))))))))))))))) :=
 ⟨@AZ,@CG,@z6,@s5,@zT,@AU,@xG,@F3,@G6,@G9,@FM,@HU,@HN,@eF,@fW,@gD,@fX,@gF,@gC,@gE,@hR,@iF,@iB,@gY,@eJ,@hG,@iA,@xI,@CY,@DM,@DJ,@C9,@C4,@C1,@HW,@KU,@JF,@HT,@zK,@HF⟩
theorem TY8:type_of% (AI @MK (AI @J2 (AI @HB (AI @KQ (AI @MJ (AI @HR (AI @JD (AI @JZ (AI @A3 (AI @LD (AI @MS (AI @NX (AI @KG (AI @AO (AI @I8 (AI @MX (AI @ZK (AI @WJ (AI @O4 (AI @ZJ (AI @WW (AI @aAz (AI @PK (AI @iJ (AI @lH (AI @lK (AI @lI (AI @lJ (AI @lF (AI @lG (AI @mM (AI @m2 (AI @m8 (AI @mQ (AI @iO (AI @mN (AI @mZ (AI @CF (AI @G4 @HM))))))))))))))))))))))))))))))))))))))) :=
 ⟨@MK,@J2,@HB,@KQ,@MJ,@HR,@JD,@JZ,@A3,@LD,@MS,@NX,@KG,@AO,@I8,@MX,@ZK,@WJ,@O4,@ZJ,@WW,@aAz,@PK,@iJ,@lH,@lK,@lI,@lJ,@lF,@lG,@mM,@m2,@m8,@mQ,@iO,@mN,@mZ,@CF,@G4,@HM⟩
theorem TY9:type_of% (AI @GZ (AI @HC (AI @HD (AI @HP (AI @MU (AI @PV (AI @QG (AI @MR (AI @ED (AI @NT (AI @QB (AI @y8 (AI @HS (AI @MH (AI @JB (AI @HO (AI @y6 (AI @HH (AI @L0 (AI @ZB (AI @V4 (AI @Y7 (AI @ZC (AI @VN (AI @ZO (AI @aAl (AI @AE (AI @KJ (AI @NY (AI @OT (AI @JH (AI @CI (AI @I7 (AI @NV (AI @BO (AI @LE (AI @NI (AI @NU (AI @LT @AN))))))))))))))))))))))))))))))))))))))) :=
 ⟨@GZ,@HC,@HD,@HP,@MU,@PV,@QG,@MR,@ED,@NT,@QB,@y8,@HS,@MH,@JB,@HO,@y6,@HH,@L0,@ZB,@V4,@Y7,@ZC,@VN,@ZO,@aAl,@AE,@KJ,@NY,@OT,@JH,@CI,@I7,@NV,@BO,@LE,@NI,@NU,@LT,@AN⟩
theorem TY10:type_of% (AI @LJ (AI @N2 (AI @AW (AI @K3 (AI @OJ (AI @OQ (AI @KZ (AI @BI (AI @LY (AI @OX (AI @P9 (AI @N1 (AI @QR (AI @P2 (AI @MW (AI @Q4 (AI @PY (AI @AP (AI @DK (AI @DQ (AI @CE (AI @DB (AI @DG (AI @S4 (AI @NZ (AI @QI (AI @OI (AI @HK (AI @J8 (AI @P5 (AI @KF @NN))))))))))))))))))))))))))))))) :=
 ⟨@LJ,@N2,@AW,@K3,@OJ,@OQ,@KZ,@BI,@LY,@OX,@P9,@N1,@QR,@P2,@MW,@Q4,@PY,@AP,@DK,@DQ,@CE,@DB,@DG,@S4,@NZ,@QI,@OI,@HK,@J8,@P5,@KF,@NN⟩
theorem TY:type_of% (AI @TY0 (AI @TY1 (AI @TY2 (AI @TY3 (AI @TY4 (AI @TY5 (AI @TY6 (AI @TY7 (AI @TY8 (AI @TY9 @TY10)))))))))) :=
 ⟨@TY0,@TY1,@TY2,@TY3,@TY4,@TY5,@TY6,@TY7,@TY8,@TY9,@TY10⟩
end Ev
end Go.Proofs.YtppdfjdfjfoddaaDoor
