/-
  What the types of the program are, as the evaluator asks. Written by a program.
-/
import Derived.Test.YtppdfjdfjfoddaaGreatEnvF
import Derived.Test.YtppdfjdfjfoddaaGreatEvWalk
set_option maxRecDepth 100000
namespace Go.Proofs.YtppdfjdfjfoddaaGreat
namespace Ev
def cZ (P:Program) (t:TypeId) (i:Nat):Option (Nat × Nat):=match P.underlying t with
 | some (.struct fields) => (fields.toList[i]?).map fun f => (f.offset,P.cellsOf f.type)
 | _ => none
def kC (P:Program) (t:TypeId):Bool:=match P.underlying t with
 | some (.struct fields) => fields.toList.all fun f => (P.info? f.type).isSome
 | _ => false
theorem fF {P:Program} {t:TypeId} {z:A} {parts:List (Nat × A)} (hs:kC P t = true) (hz:bY P t = some z):jP P t parts = (fH (aT z) (parts.map fun p => (cZ P t p.1,p.2))).map .agg:=by
 unfold kC at hs
 unfold jP cZ
 rw [hz]
 cases hu:P.underlying t with
 | none => rw [hu] at hs; cases hs
 | some d =>
  rw [hu] at hs
  cases d <;> first | cases hs | skip
  simp only at hs ⊢
  rw [if_pos hs]
theorem aHB {P:Program} {t e:TypeId} {n c:Nat} {z:A} {parts:List (Nat × A)} (hu:P.underlying t = some (.array n e)) (hz:bY P t = some z) (hi:(P.info? e).isSome = true) (hc:P.cellsOf e = c):jP P t parts = (fH (aT z) (parts.map fun p => (some (p.1 * c,c),p.2))).map .agg:=by
 unfold jP
 rw [hz,hu]
 simp only [hi,if_true,hc]
theorem mH {P:Program} {h:H} {t u:TypeId} {K K1 K2:IntKind} {n:Int} (h1:P.underlying t = some (.int K1)) (h2:P.underlying u = some (.int K2)):fO P h t u (.d (.int K n)) = some (.d (.int K2 (K2.wrap n)),h):=by
 simp only [fO,h1,h2]
theorem aDq:env.P.underlying 2 = some (.int .i64):=by kernel_rfl
theorem aAz:bM env.P 2 = none:=by kernel_rfl
theorem aCc:env.P.cellsOf 2 = 1:=by kernel_rfl
theorem aBT:bU env.P 2 = true:=by kernel_rfl
theorem ZJ:b7 env.P 2 = some false:=by kernel_rfl
theorem aDr:bY env.P 2 = some (.d (.int .i64 0)):=by kernel_rfl
theorem aCK:(env.P.info? 2).isSome = true:=by kernel_rfl
theorem vS:env.P.underlying 3 = some (.int .i64):=by kernel_rfl
theorem aFw:bM env.P 3 = none:=by kernel_rfl
theorem aBB:env.P.cellsOf 3 = 1:=by kernel_rfl
theorem aIM:bU env.P 3 = true:=by kernel_rfl
theorem aFE:b7 env.P 3 = some false:=by kernel_rfl
theorem aIz:bY env.P 3 = some (.d (.int .i64 0)):=by kernel_rfl
theorem aBq:(env.P.info? 3).isSome = true:=by kernel_rfl
theorem aGb:env.P.underlying 4 = some .bool:=by kernel_rfl
theorem aDp:bM env.P 4 = none:=by kernel_rfl
theorem aE2:env.P.cellsOf 4 = 1:=by kernel_rfl
theorem aGo:bU env.P 4 = true:=by kernel_rfl
theorem aCj:b7 env.P 4 = some false:=by kernel_rfl
theorem aFd:bY env.P 4 = some (.d (.bool false)):=by kernel_rfl
theorem aFK:(env.P.info? 4).isSome = true:=by kernel_rfl
theorem qB:env.P.underlying 5 = some (.int .u8):=by kernel_rfl
theorem aA3:bM env.P 5 = none:=by kernel_rfl
theorem aDv:env.P.cellsOf 5 = 1:=by kernel_rfl
theorem aDn:bU env.P 5 = true:=by kernel_rfl
theorem ZR:b7 env.P 5 = some false:=by kernel_rfl
theorem aB1:bY env.P 5 = some (.d (.int .u8 0)):=by kernel_rfl
theorem aCa:(env.P.info? 5).isSome = true:=by kernel_rfl
theorem aAv:env.P.underlying 9 = some .string:=by kernel_rfl
theorem U5:bM env.P 9 = none:=by kernel_rfl
theorem aAg:env.P.cellsOf 9 = 1:=by kernel_rfl
theorem aAs:bU env.P 9 = true:=by kernel_rfl
theorem VS:b7 env.P 9 = some false:=by kernel_rfl
theorem aAr:bY env.P 9 = some (.d (.str [])):=by kernel_rfl
theorem aAx:(env.P.info? 9).isSome = true:=by kernel_rfl
theorem WM:env.P.underlying 12 = some (.int .u64):=by kernel_rfl
theorem S6:bM env.P 12 = none:=by kernel_rfl
theorem VV:env.P.cellsOf 12 = 1:=by kernel_rfl
theorem VK:bU env.P 12 = true:=by kernel_rfl
theorem UA:b7 env.P 12 = some false:=by kernel_rfl
theorem V5:bY env.P 12 = some (.d (.int .u64 0)):=by kernel_rfl
theorem XE:(env.P.info? 12).isSome = true:=by kernel_rfl
theorem i0:kC env.P 13 = true:=by kernel_rfl
theorem mX:bF env.P 13 0 = some (0,9):=by kernel_rfl
theorem m3:cZ env.P 13 0 = some (0,1):=by kernel_rfl
theorem mU:bF env.P 13 1 = some (1,12):=by kernel_rfl
theorem mY:cZ env.P 13 1 = some (1,1):=by kernel_rfl
theorem nQ:bM env.P 13 = none:=by kernel_rfl
theorem nY:env.P.cellsOf 13 = 2:=by kernel_rfl
theorem n4:bU env.P 13 = true:=by kernel_rfl
theorem nI:b7 env.P 13 = some true:=by kernel_rfl
theorem jH:bY env.P 13 = some (.agg [.d (.str []),.d (.int .u64 0)]):=by kernel_rfl
theorem n5:(env.P.info? 13).isSome = true:=by kernel_rfl
theorem MQ:bM env.P 20 = none:=by kernel_rfl
theorem QS:env.P.cellsOf 20 = 1:=by kernel_rfl
theorem PI:bU env.P 20 = true:=by kernel_rfl
theorem MF:b7 env.P 20 = some false:=by kernel_rfl
theorem PP:bY env.P 20 = some (.d (.nili)):=by kernel_rfl
theorem QB:(env.P.info? 20).isSome = true:=by kernel_rfl
theorem aC5:env.P.underlying 21 = some (.int .i32):=by kernel_rfl
theorem aAR:bM env.P 21 = none:=by kernel_rfl
theorem aB9:env.P.cellsOf 21 = 1:=by kernel_rfl
theorem aDx:bU env.P 21 = true:=by kernel_rfl
theorem aAi:b7 env.P 21 = some false:=by kernel_rfl
theorem aCZ:bY env.P 21 = some (.d (.int .i32 0)):=by kernel_rfl
theorem aBP:(env.P.info? 21).isSome = true:=by kernel_rfl
theorem G5:env.P.underlying 22 = some (.slice 5):=by kernel_rfl
theorem QU:bM env.P 22 = some 5:=by simp only [bM,G5]
theorem SQ:env.P.cellsOf 22 = 1:=by kernel_rfl
theorem SF:bU env.P 22 = true:=by kernel_rfl
theorem PD:b7 env.P 22 = some false:=by kernel_rfl
theorem TO:bY env.P 22 = some (.d (.nils)):=by kernel_rfl
theorem TH:(env.P.info? 22).isSome = true:=by kernel_rfl
theorem EN:env.P.underlying 23 = some (.slice 46):=by kernel_rfl
theorem MK:bM env.P 23 = some 46:=by simp only [bM,EN]
theorem PU:env.P.cellsOf 23 = 1:=by kernel_rfl
theorem QI:bU env.P 23 = true:=by kernel_rfl
theorem NJ:b7 env.P 23 = some false:=by kernel_rfl
theorem O1:bY env.P 23 = some (.d (.nils)):=by kernel_rfl
theorem PM:(env.P.info? 23).isSome = true:=by kernel_rfl
theorem L3:env.P.underlying 24 = some (.slice 4):=by kernel_rfl
theorem SL:bM env.P 24 = some 4:=by simp only [bM,L3]
theorem W7:env.P.cellsOf 24 = 1:=by kernel_rfl
theorem WL:bU env.P 24 = true:=by kernel_rfl
theorem TR:b7 env.P 24 = some false:=by kernel_rfl
theorem XT:bY env.P 24 = some (.d (.nils)):=by kernel_rfl
theorem XS:(env.P.info? 24).isSome = true:=by kernel_rfl
theorem d5:kC env.P 25 = true:=by kernel_rfl
theorem fS:bF env.P 25 0 = some (0,3):=by kernel_rfl
theorem fX:cZ env.P 25 0 = some (0,1):=by kernel_rfl
theorem f0:bF env.P 25 1 = some (1,23):=by kernel_rfl
theorem fW:cZ env.P 25 1 = some (1,1):=by kernel_rfl
theorem fR:bF env.P 25 2 = some (2,24):=by kernel_rfl
theorem fY:cZ env.P 25 2 = some (2,1):=by kernel_rfl
theorem gQ:bM env.P 25 = none:=by kernel_rfl
theorem hM:env.P.cellsOf 25 = 3:=by kernel_rfl
theorem hJ:bU env.P 25 = true:=by kernel_rfl
theorem gR:b7 env.P 25 = some true:=by kernel_rfl
theorem eA:bY env.P 25 = some (.agg [.d (.int .i64 0),.d (.nils),.d (.nils)]):=by kernel_rfl
theorem hR:(env.P.info? 25).isSome = true:=by kernel_rfl
theorem tA:kC env.P 26 = true:=by kernel_rfl
theorem yC:bF env.P 26 0 = some (0,3):=by kernel_rfl
theorem xY:cZ env.P 26 0 = some (0,1):=by kernel_rfl
theorem yA:bF env.P 26 1 = some (1,23):=by kernel_rfl
theorem xZ:cZ env.P 26 1 = some (1,1):=by kernel_rfl
theorem xW:bF env.P 26 2 = some (2,24):=by kernel_rfl
theorem x3:cZ env.P 26 2 = some (2,1):=by kernel_rfl
theorem CN:bM env.P 26 = none:=by kernel_rfl
theorem DL:env.P.cellsOf 26 = 3:=by kernel_rfl
theorem CW:bU env.P 26 = true:=by kernel_rfl
theorem BQ:b7 env.P 26 = some true:=by kernel_rfl
theorem tZ:bY env.P 26 = some (.agg [.d (.int .i64 0),.d (.nils),.d (.nils)]):=by kernel_rfl
theorem DB:(env.P.info? 26).isSome = true:=by kernel_rfl
theorem DW:env.P.underlying 28 = some (.slice 9):=by kernel_rfl
theorem NM:bM env.P 28 = some 9:=by simp only [bM,DW]
theorem O7:env.P.cellsOf 28 = 1:=by kernel_rfl
theorem O9:bU env.P 28 = true:=by kernel_rfl
theorem M5:b7 env.P 28 = some false:=by kernel_rfl
theorem QH:bY env.P 28 = some (.d (.nils)):=by kernel_rfl
theorem O4:(env.P.info? 28).isSome = true:=by kernel_rfl
theorem DM:env.P.underlying 40 = some (.pointer 58):=by kernel_rfl
theorem CI:bM env.P 40 = none:=by kernel_rfl
theorem DS:env.P.cellsOf 40 = 1:=by kernel_rfl
theorem C0:bU env.P 40 = true:=by kernel_rfl
theorem B2:b7 env.P 40 = some false:=by kernel_rfl
theorem DJ:bY env.P 40 = some (.d (.nilp)):=by kernel_rfl
theorem DK:(env.P.info? 40).isSome = true:=by kernel_rfl
theorem OS:env.P.underlying 46 = some (.slice 3):=by kernel_rfl
theorem XL:bM env.P 46 = some 3:=by simp only [bM,OS]
theorem aAH:env.P.cellsOf 46 = 1:=by kernel_rfl
theorem aAQ:bU env.P 46 = true:=by kernel_rfl
theorem XD:b7 env.P 46 = some false:=by kernel_rfl
theorem aAp:bY env.P 46 = some (.d (.nils)):=by kernel_rfl
theorem aAP:(env.P.info? 46).isSome = true:=by kernel_rfl
theorem BX:env.P.underlying 50 = some (.slice 52):=by kernel_rfl
theorem KB:bM env.P 50 = some 52:=by simp only [bM,BX]
theorem OB:env.P.cellsOf 50 = 1:=by kernel_rfl
theorem OF:bU env.P 50 = true:=by kernel_rfl
theorem KX:b7 env.P 50 = some false:=by kernel_rfl
theorem MN:bY env.P 50 = some (.d (.nils)):=by kernel_rfl
theorem N2:(env.P.info? 50).isSome = true:=by kernel_rfl
theorem JE:env.P.underlying 52 = some (.array 6 3):=by kernel_rfl
theorem S2:bM env.P 52 = none:=by kernel_rfl
theorem VH:env.P.cellsOf 52 = 6:=by kernel_rfl
theorem XO:bU env.P 52 = true:=by kernel_rfl
theorem TF:b7 env.P 52 = some true:=by kernel_rfl
theorem KT:bY env.P 52 = some (.agg [.d (.int .i64 0),.d (.int .i64 0),.d (.int .i64 0),.d (.int .i64 0),.d (.int .i64 0),.d (.int .i64 0)]):=by kernel_rfl
theorem VE:(env.P.info? 52).isSome = true:=by kernel_rfl
theorem mK:kC env.P 57 = true:=by kernel_rfl
theorem pL:bF env.P 57 0 = some (0,22):=by kernel_rfl
theorem pO:cZ env.P 57 0 = some (0,1):=by kernel_rfl
theorem pN:bF env.P 57 1 = some (1,3):=by kernel_rfl
theorem pM:cZ env.P 57 1 = some (1,1):=by kernel_rfl
theorem qW:bM env.P 57 = none:=by kernel_rfl
theorem rN:env.P.cellsOf 57 = 2:=by kernel_rfl
theorem rG:bU env.P 57 = true:=by kernel_rfl
theorem qU:b7 env.P 57 = some true:=by kernel_rfl
theorem m9:bY env.P 57 = some (.agg [.d (.nils),.d (.int .i64 0)]):=by kernel_rfl
theorem rM:(env.P.info? 57).isSome = true:=by kernel_rfl
theorem zI:kC env.P 58 = true:=by kernel_rfl
theorem FJ:bF env.P 58 0 = some (0,22):=by kernel_rfl
theorem FB:cZ env.P 58 0 = some (0,1):=by kernel_rfl
theorem E9:bF env.P 58 1 = some (1,3):=by kernel_rfl
theorem FK:cZ env.P 58 1 = some (1,1):=by kernel_rfl
theorem KW:bM env.P 58 = none:=by kernel_rfl
theorem M3:env.P.cellsOf 58 = 2:=by kernel_rfl
theorem M8:bU env.P 58 = true:=by kernel_rfl
theorem K6:b7 env.P 58 = some true:=by kernel_rfl
theorem CK:bY env.P 58 = some (.agg [.d (.nils),.d (.int .i64 0)]):=by kernel_rfl
theorem MR:(env.P.info? 58).isSome = true:=by kernel_rfl
theorem sC:env.P.underlying 61 = some (.int .u64):=by kernel_rfl
theorem aCG:bM env.P 61 = none:=by kernel_rfl
theorem aEY:env.P.cellsOf 61 = 1:=by kernel_rfl
theorem aFx:bU env.P 61 = true:=by kernel_rfl
theorem aDb:b7 env.P 61 = some false:=by kernel_rfl
theorem aEZ:bY env.P 61 = some (.d (.int .u64 0)):=by kernel_rfl
theorem aFJ:(env.P.info? 61).isSome = true:=by kernel_rfl
theorem qM:env.P.underlying 69 = some (.slice 26):=by kernel_rfl
theorem wQ:bM env.P 69 = some 26:=by simp only [bM,qM]
theorem xP:env.P.cellsOf 69 = 1:=by kernel_rfl
theorem xV:bU env.P 69 = true:=by kernel_rfl
theorem wO:b7 env.P 69 = some false:=by kernel_rfl
theorem x9:bY env.P 69 = some (.d (.nils)):=by kernel_rfl
theorem x6:(env.P.info? 69).isSome = true:=by kernel_rfl
theorem tU:env.P.underlying 70 = some (.slice 125):=by kernel_rfl
theorem BB:bM env.P 70 = some 125:=by simp only [bM,tU]
theorem DC:env.P.cellsOf 70 = 1:=by kernel_rfl
theorem DI:bU env.P 70 = true:=by kernel_rfl
theorem CC:b7 env.P 70 = some false:=by kernel_rfl
theorem CX:bY env.P 70 = some (.d (.nils)):=by kernel_rfl
theorem DQ:(env.P.info? 70).isSome = true:=by kernel_rfl
theorem bH:kC env.P 71 = true:=by kernel_rfl
theorem cG:bF env.P 71 0 = some (0,70):=by kernel_rfl
theorem cI:cZ env.P 71 0 = some (0,1):=by kernel_rfl
theorem cK:bF env.P 71 1 = some (1,69):=by kernel_rfl
theorem cF:cZ env.P 71 1 = some (1,1):=by kernel_rfl
theorem cL:bF env.P 71 2 = some (2,46):=by kernel_rfl
theorem cM:cZ env.P 71 2 = some (2,1):=by kernel_rfl
theorem cN:bF env.P 71 3 = some (3,3):=by kernel_rfl
theorem cJ:cZ env.P 71 3 = some (3,1):=by kernel_rfl
theorem cH:bF env.P 71 4 = some (4,3):=by kernel_rfl
theorem cP:cZ env.P 71 4 = some (4,1):=by kernel_rfl
theorem cO:bF env.P 71 5 = some (5,3):=by kernel_rfl
theorem cQ:cZ env.P 71 5 = some (5,1):=by kernel_rfl
theorem cV:bM env.P 71 = none:=by kernel_rfl
theorem cX:env.P.cellsOf 71 = 6:=by kernel_rfl
theorem cY:bU env.P 71 = true:=by kernel_rfl
theorem cT:b7 env.P 71 = some true:=by kernel_rfl
theorem bI:bY env.P 71 = some (.agg [.d (.nils),.d (.nils),.d (.nils),.d (.int .i64 0),.d (.int .i64 0),.d (.int .i64 0)]):=by kernel_rfl
theorem cW:(env.P.info? 71).isSome = true:=by kernel_rfl
theorem zF:kC env.P 72 = true:=by kernel_rfl
theorem FT:bF env.P 72 0 = some (0,70):=by kernel_rfl
theorem GC:cZ env.P 72 0 = some (0,1):=by kernel_rfl
theorem F9:bF env.P 72 1 = some (1,69):=by kernel_rfl
theorem FQ:cZ env.P 72 1 = some (1,1):=by kernel_rfl
theorem GD:bF env.P 72 2 = some (2,46):=by kernel_rfl
theorem FE:cZ env.P 72 2 = some (2,1):=by kernel_rfl
theorem F2:bF env.P 72 3 = some (3,3):=by kernel_rfl
theorem FI:cZ env.P 72 3 = some (3,1):=by kernel_rfl
theorem FW:bF env.P 72 4 = some (4,3):=by kernel_rfl
theorem GF:cZ env.P 72 4 = some (4,1):=by kernel_rfl
theorem F5:bF env.P 72 5 = some (5,3):=by kernel_rfl
theorem FY:cZ env.P 72 5 = some (5,1):=by kernel_rfl
theorem JY:bM env.P 72 = none:=by kernel_rfl
theorem NS:env.P.cellsOf 72 = 6:=by kernel_rfl
theorem N6:bU env.P 72 = true:=by kernel_rfl
theorem JJ:b7 env.P 72 = some true:=by kernel_rfl
theorem BZ:bY env.P 72 = some (.agg [.d (.nils),.d (.nils),.d (.nils),.d (.int .i64 0),.d (.int .i64 0),.d (.int .i64 0)]):=by kernel_rfl
theorem MO:(env.P.info? 72).isSome = true:=by kernel_rfl
theorem xO:env.P.underlying 84 = some (.int .i64):=by kernel_rfl
theorem wU:bM env.P 84 = none:=by kernel_rfl
theorem xR:env.P.cellsOf 84 = 1:=by kernel_rfl
theorem yF:bU env.P 84 = true:=by kernel_rfl
theorem wZ:b7 env.P 84 = some false:=by kernel_rfl
theorem yE:bY env.P 84 = some (.d (.int .i64 0)):=by kernel_rfl
theorem x5:(env.P.info? 84).isSome = true:=by kernel_rfl
theorem aAL:env.P.underlying 92 = some (.int .u32):=by kernel_rfl
theorem UU:bM env.P 92 = none:=by kernel_rfl
theorem ZI:env.P.cellsOf 92 = 1:=by kernel_rfl
theorem aAY:bU env.P 92 = true:=by kernel_rfl
theorem UW:b7 env.P 92 = some false:=by kernel_rfl
theorem aAe:bY env.P 92 = some (.d (.int .u32 0)):=by kernel_rfl
theorem aAF:(env.P.info? 92).isSome = true:=by kernel_rfl
theorem aAc:env.P.underlying 94 = some (.int .u64):=by kernel_rfl
theorem VI:bM env.P 94 = none:=by kernel_rfl
theorem ZV:env.P.cellsOf 94 = 1:=by kernel_rfl
theorem aA0:bU env.P 94 = true:=by kernel_rfl
theorem XW:b7 env.P 94 = some false:=by kernel_rfl
theorem Z9:bY env.P 94 = some (.d (.int .u64 0)):=by kernel_rfl
theorem ZX:(env.P.info? 94).isSome = true:=by kernel_rfl
theorem xK:env.P.underlying 97 = some (.slice 23):=by kernel_rfl
theorem FD:bM env.P 97 = some 23:=by simp only [bM,xK]
theorem H2:env.P.cellsOf 97 = 1:=by kernel_rfl
theorem HM:bU env.P 97 = true:=by kernel_rfl
theorem GB:b7 env.P 97 = some false:=by kernel_rfl
theorem HE:bY env.P 97 = some (.d (.nils)):=by kernel_rfl
theorem H7:(env.P.info? 97).isSome = true:=by kernel_rfl
theorem LS:env.P.underlying 105 = some (.map 3 3):=by kernel_rfl
theorem HA:bM env.P 105 = none:=by kernel_rfl
theorem JN:env.P.cellsOf 105 = 1:=by kernel_rfl
theorem LR:bU env.P 105 = true:=by kernel_rfl
theorem HB:b7 env.P 105 = some false:=by kernel_rfl
theorem KU:bY env.P 105 = some (.d (.nilm)):=by kernel_rfl
theorem JD:(env.P.info? 105).isSome = true:=by kernel_rfl
theorem pQ:env.P.underlying 106 = some (.slice 108):=by kernel_rfl
theorem u4:bM env.P 106 = some 108:=by simp only [bM,pQ]
theorem wP:env.P.cellsOf 106 = 1:=by kernel_rfl
theorem wW:bU env.P 106 = true:=by kernel_rfl
theorem vR:b7 env.P 106 = some false:=by kernel_rfl
theorem wT:bY env.P 106 = some (.d (.nils)):=by kernel_rfl
theorem wX:(env.P.info? 106).isSome = true:=by kernel_rfl
theorem eV:kC env.P 107 = true:=by kernel_rfl
theorem iT:bF env.P 107 0 = some (0,3):=by kernel_rfl
theorem iS:cZ env.P 107 0 = some (0,1):=by kernel_rfl
theorem iP:bF env.P 107 1 = some (1,3):=by kernel_rfl
theorem iR:cZ env.P 107 1 = some (1,1):=by kernel_rfl
theorem iQ:bF env.P 107 2 = some (2,46):=by kernel_rfl
theorem iN:cZ env.P 107 2 = some (2,1):=by kernel_rfl
theorem jC:bM env.P 107 = none:=by kernel_rfl
theorem jN:env.P.cellsOf 107 = 3:=by kernel_rfl
theorem jR:bU env.P 107 = true:=by kernel_rfl
theorem jD:b7 env.P 107 = some true:=by kernel_rfl
theorem fA:bY env.P 107 = some (.agg [.d (.int .i64 0),.d (.int .i64 0),.d (.nils)]):=by kernel_rfl
theorem jO:(env.P.info? 107).isSome = true:=by kernel_rfl
theorem r6:kC env.P 108 = true:=by kernel_rfl
theorem wV:bF env.P 108 0 = some (0,3):=by kernel_rfl
theorem xA:cZ env.P 108 0 = some (0,1):=by kernel_rfl
theorem xB:bF env.P 108 1 = some (1,3):=by kernel_rfl
theorem wS:cZ env.P 108 1 = some (1,1):=by kernel_rfl
theorem xC:bF env.P 108 2 = some (2,46):=by kernel_rfl
theorem wY:cZ env.P 108 2 = some (2,1):=by kernel_rfl
theorem zM:bM env.P 108 = none:=by kernel_rfl
theorem BN:env.P.cellsOf 108 = 3:=by kernel_rfl
theorem CQ:bU env.P 108 = true:=by kernel_rfl
theorem AE:b7 env.P 108 = some true:=by kernel_rfl
theorem s7:bY env.P 108 = some (.agg [.d (.int .i64 0),.d (.int .i64 0),.d (.nils)]):=by kernel_rfl
theorem CM:(env.P.info? 108).isSome = true:=by kernel_rfl
theorem BD:env.P.underlying 117 = some (.int .u64):=by kernel_rfl
theorem AH:bM env.P 117 = none:=by kernel_rfl
theorem AX:env.P.cellsOf 117 = 1:=by kernel_rfl
theorem AS:bU env.P 117 = true:=by kernel_rfl
theorem zR:b7 env.P 117 = some false:=by kernel_rfl
theorem A3:bY env.P 117 = some (.d (.int .u64 0)):=by kernel_rfl
theorem CJ:(env.P.info? 117).isSome = true:=by kernel_rfl
theorem WX:env.P.underlying 121 = some (.pointer 3):=by kernel_rfl
theorem S9:bM env.P 121 = none:=by kernel_rfl
theorem WT:env.P.cellsOf 121 = 1:=by kernel_rfl
theorem WZ:bU env.P 121 = true:=by kernel_rfl
theorem S1:b7 env.P 121 = some false:=by kernel_rfl
theorem XQ:bY env.P 121 = some (.d (.nilp)):=by kernel_rfl
theorem U0:(env.P.info? 121).isSome = true:=by kernel_rfl
theorem xF:env.P.underlying 123 = some (.slice 137):=by kernel_rfl
theorem F8:bM env.P 123 = some 137:=by simp only [bM,xF]
theorem HS:env.P.cellsOf 123 = 1:=by kernel_rfl
theorem HP:bU env.P 123 = true:=by kernel_rfl
theorem F4:b7 env.P 123 = some false:=by kernel_rfl
theorem HQ:bY env.P 123 = some (.d (.nils)):=by kernel_rfl
theorem H1:(env.P.info? 123).isSome = true:=by kernel_rfl
theorem d6:kC env.P 124 = true:=by kernel_rfl
theorem fZ:bF env.P 124 0 = some (0,3):=by kernel_rfl
theorem gB:cZ env.P 124 0 = some (0,1):=by kernel_rfl
theorem fU:bF env.P 124 1 = some (1,3):=by kernel_rfl
theorem gA:cZ env.P 124 1 = some (1,1):=by kernel_rfl
theorem fT:bF env.P 124 2 = some (2,123):=by kernel_rfl
theorem fV:cZ env.P 124 2 = some (2,1):=by kernel_rfl
theorem gX:bM env.P 124 = none:=by kernel_rfl
theorem hG:env.P.cellsOf 124 = 3:=by kernel_rfl
theorem gY:bU env.P 124 = true:=by kernel_rfl
theorem gU:b7 env.P 124 = some true:=by kernel_rfl
theorem d7:bY env.P 124 = some (.agg [.d (.int .i64 0),.d (.int .i64 0),.d (.nils)]):=by kernel_rfl
theorem gZ:(env.P.info? 124).isSome = true:=by kernel_rfl
theorem xI:kC env.P 125 = true:=by kernel_rfl
theorem C7:bF env.P 125 0 = some (0,3):=by kernel_rfl
theorem C1:cZ env.P 125 0 = some (0,1):=by kernel_rfl
theorem CZ:bF env.P 125 1 = some (1,3):=by kernel_rfl
theorem C5:cZ env.P 125 1 = some (1,1):=by kernel_rfl
theorem DE:bF env.P 125 2 = some (2,123):=by kernel_rfl
theorem C9:cZ env.P 125 2 = some (2,1):=by kernel_rfl
theorem H5:bM env.P 125 = none:=by kernel_rfl
theorem KI:env.P.cellsOf 125 = 3:=by kernel_rfl
theorem LW:bU env.P 125 = true:=by kernel_rfl
theorem HT:b7 env.P 125 = some true:=by kernel_rfl
theorem zD:bY env.P 125 = some (.agg [.d (.int .i64 0),.d (.int .i64 0),.d (.nils)]):=by kernel_rfl
theorem LP:(env.P.info? 125).isSome = true:=by kernel_rfl
theorem vD:env.P.underlying 131 = some (.pointer 117):=by kernel_rfl
theorem uH:bM env.P 131 = none:=by kernel_rfl
theorem uZ:env.P.cellsOf 131 = 1:=by kernel_rfl
theorem vC:bU env.P 131 = true:=by kernel_rfl
theorem uN:b7 env.P 131 = some false:=by kernel_rfl
theorem vB:bY env.P 131 = some (.d (.nilp)):=by kernel_rfl
theorem vE:(env.P.info? 131).isSome = true:=by kernel_rfl
theorem hU:kC env.P 136 = true:=by kernel_rfl
theorem kW:bF env.P 136 0 = some (0,3):=by kernel_rfl
theorem lA:cZ env.P 136 0 = some (0,1):=by kernel_rfl
theorem kX:bF env.P 136 1 = some (1,3):=by kernel_rfl
theorem kZ:cZ env.P 136 1 = some (1,1):=by kernel_rfl
theorem kY:bF env.P 136 2 = some (2,3):=by kernel_rfl
theorem kV:cZ env.P 136 2 = some (2,1):=by kernel_rfl
theorem mA:bM env.P 136 = none:=by kernel_rfl
theorem mQ:env.P.cellsOf 136 = 3:=by kernel_rfl
theorem mR:bU env.P 136 = true:=by kernel_rfl
theorem mG:b7 env.P 136 = some true:=by kernel_rfl
theorem iH:bY env.P 136 = some (.agg [.d (.int .i64 0),.d (.int .i64 0),.d (.int .i64 0)]):=by kernel_rfl
theorem mZ:(env.P.info? 136).isSome = true:=by kernel_rfl
theorem A4:kC env.P 137 = true:=by kernel_rfl
theorem HD:bF env.P 137 0 = some (0,3):=by kernel_rfl
theorem HO:cZ env.P 137 0 = some (0,1):=by kernel_rfl
theorem HW:bF env.P 137 1 = some (1,3):=by kernel_rfl
theorem HR:cZ env.P 137 1 = some (1,1):=by kernel_rfl
theorem H4:bF env.P 137 2 = some (2,3):=by kernel_rfl
theorem HZ:cZ env.P 137 2 = some (2,1):=by kernel_rfl
theorem MY:bM env.P 137 = none:=by kernel_rfl
theorem PK:env.P.cellsOf 137 = 3:=by kernel_rfl
theorem P5:bU env.P 137 = true:=by kernel_rfl
theorem NY:b7 env.P 137 = some true:=by kernel_rfl
theorem EG:bY env.P 137 = some (.agg [.d (.int .i64 0),.d (.int .i64 0),.d (.int .i64 0)]):=by kernel_rfl
theorem PG:(env.P.info? 137).isSome = true:=by kernel_rfl
theorem QQ:env.P.underlying 148 = some (.pointer 5):=by kernel_rfl
theorem OE:bM env.P 148 = none:=by kernel_rfl
theorem O2:env.P.cellsOf 148 = 1:=by kernel_rfl
theorem PW:bU env.P 148 = true:=by kernel_rfl
theorem MV:b7 env.P 148 = some false:=by kernel_rfl
theorem QN:bY env.P 148 = some (.d (.nilp)):=by kernel_rfl
theorem QF:(env.P.info? 148).isSome = true:=by kernel_rfl
theorem B4:bM env.P 153 = none:=by kernel_rfl
theorem C4:env.P.cellsOf 153 = 1:=by kernel_rfl
theorem CY:bU env.P 153 = true:=by kernel_rfl
theorem BP:b7 env.P 153 = some false:=by kernel_rfl
theorem DT:bY env.P 153 = some (.d (.nilp)):=by kernel_rfl
theorem C8:(env.P.info? 153).isSome = true:=by kernel_rfl
theorem nN:∀ parts,jP env.P 13 parts = (fH (aT (.agg [.d (.str []),.d (.int .u64 0)])) (parts.map fun p => (cZ env.P 13 p.1,p.2))).map .agg:=fun _ => fF i0 jH
theorem gS:∀ parts,jP env.P 25 parts = (fH (aT (.agg [.d (.int .i64 0),.d (.nils),.d (.nils)])) (parts.map fun p => (cZ env.P 25 p.1,p.2))).map .agg:=fun _ => fF d5 eA
theorem CL:∀ parts,jP env.P 26 parts = (fH (aT (.agg [.d (.int .i64 0),.d (.nils),.d (.nils)])) (parts.map fun p => (cZ env.P 26 p.1,p.2))).map .agg:=fun _ => fF tA tZ
theorem TW:∀ parts,jP env.P 52 parts = (fH (aT (.agg [.d (.int .i64 0),.d (.int .i64 0),.d (.int .i64 0),.d (.int .i64 0),.d (.int .i64 0),.d (.int .i64 0)])) (parts.map fun p => (some (p.1 * 1,1),p.2))).map .agg:=fun _ => aHB JE KT aBq aBB
theorem qV:∀ parts,jP env.P 57 parts = (fH (aT (.agg [.d (.nils),.d (.int .i64 0)])) (parts.map fun p => (cZ env.P 57 p.1,p.2))).map .agg:=fun _ => fF mK m9
theorem KJ:∀ parts,jP env.P 58 parts = (fH (aT (.agg [.d (.nils),.d (.int .i64 0)])) (parts.map fun p => (cZ env.P 58 p.1,p.2))).map .agg:=fun _ => fF zI CK
theorem cS:∀ parts,jP env.P 71 parts = (fH (aT (.agg [.d (.nils),.d (.nils),.d (.nils),.d (.int .i64 0),.d (.int .i64 0),.d (.int .i64 0)])) (parts.map fun p => (cZ env.P 71 p.1,p.2))).map .agg:=fun _ => fF bH bI
theorem LC:∀ parts,jP env.P 72 parts = (fH (aT (.agg [.d (.nils),.d (.nils),.d (.nils),.d (.int .i64 0),.d (.int .i64 0),.d (.int .i64 0)])) (parts.map fun p => (cZ env.P 72 p.1,p.2))).map .agg:=fun _ => fF zF BZ
theorem jB:∀ parts,jP env.P 107 parts = (fH (aT (.agg [.d (.int .i64 0),.d (.int .i64 0),.d (.nils)])) (parts.map fun p => (cZ env.P 107 p.1,p.2))).map .agg:=fun _ => fF eV fA
theorem zZ:∀ parts,jP env.P 108 parts = (fH (aT (.agg [.d (.int .i64 0),.d (.int .i64 0),.d (.nils)])) (parts.map fun p => (cZ env.P 108 p.1,p.2))).map .agg:=fun _ => fF r6 s7
theorem gW:∀ parts,jP env.P 124 parts = (fH (aT (.agg [.d (.int .i64 0),.d (.int .i64 0),.d (.nils)])) (parts.map fun p => (cZ env.P 124 p.1,p.2))).map .agg:=fun _ => fF d6 d7
theorem HG:∀ parts,jP env.P 125 parts = (fH (aT (.agg [.d (.int .i64 0),.d (.int .i64 0),.d (.nils)])) (parts.map fun p => (cZ env.P 125 p.1,p.2))).map .agg:=fun _ => fF xI zD
theorem mE:∀ parts,jP env.P 136 parts = (fH (aT (.agg [.d (.int .i64 0),.d (.int .i64 0),.d (.int .i64 0)])) (parts.map fun p => (cZ env.P 136 p.1,p.2))).map .agg:=fun _ => fF hU iH
theorem NF:∀ parts,jP env.P 137 parts = (fH (aT (.agg [.d (.int .i64 0),.d (.int .i64 0),.d (.int .i64 0)])) (parts.map fun p => (cZ env.P 137 p.1,p.2))).map .agg:=fun _ => fF A4 EG
theorem SS {h:H} {n:Int} {K:IntKind}:fO env.P h 3 3 (.d (.int K n)) = some (.d (.int .i64 (IntKind.wrap .i64 n)),h):=mH vS vS
theorem MT {h:H} {n:Int} {K:IntKind}:fO env.P h 3 5 (.d (.int K n)) = some (.d (.int .u8 (IntKind.wrap .u8 n)),h):=mH vS qB
theorem PH {h:H} {n:Int} {K:IntKind}:fO env.P h 3 61 (.d (.int K n)) = some (.d (.int .u64 (IntKind.wrap .u64 n)),h):=mH vS sC
theorem MZ {h:H} {n:Int} {K:IntKind}:fO env.P h 5 3 (.d (.int K n)) = some (.d (.int .i64 (IntKind.wrap .i64 n)),h):=mH qB vS
theorem HN {h:H} {n:Int} {K:IntKind}:fO env.P h 5 5 (.d (.int K n)) = some (.d (.int .u8 (IntKind.wrap .u8 n)),h):=mH qB qB
theorem LU {h:H} {n:Int} {K:IntKind}:fO env.P h 5 61 (.d (.int K n)) = some (.d (.int .u64 (IntKind.wrap .u64 n)),h):=mH qB sC
theorem O5 {h:H} {n:Int} {K:IntKind}:fO env.P h 61 3 (.d (.int K n)) = some (.d (.int .i64 (IntKind.wrap .i64 n)),h):=mH sC vS
theorem KC {h:H} {n:Int} {K:IntKind}:fO env.P h 61 5 (.d (.int K n)) = some (.d (.int .u8 (IntKind.wrap .u8 n)),h):=mH sC qB
theorem NC {h:H} {n:Int} {K:IntKind}:fO env.P h 61 61 (.d (.int K n)) = some (.d (.int .u64 (IntKind.wrap .u64 n)),h):=mH sC sC
theorem TY0:type_of% (AI @aDq (AI @aAz (AI @aCc (AI @aBT (AI @ZJ (AI @aDr (AI @aCK (AI @vS (AI @aFw (AI @aBB (AI @aIM (AI @aFE (AI @aIz (AI @aBq (AI @aGb (AI @aDp (AI @aE2 (AI @aGo (AI @aCj (AI @aFd (AI @aFK (AI @qB (AI @aA3 (AI @aDv (AI @aDn (AI @ZR (AI @aB1 (AI @aCa (AI @aAv (AI @U5 (AI @aAg (AI @aAs (AI @VS (AI @aAr (AI @aAx (AI @WM (AI @S6 (AI @VV (AI @VK @UA))))))))))))))))))))))))))))))))))))))) :=
 ⟨@aDq,@aAz,@aCc,@aBT,@ZJ,@aDr,@aCK,@vS,@aFw,@aBB,@aIM,@aFE,@aIz,@aBq,@aGb,@aDp,@aE2,@aGo,@aCj,@aFd,@aFK,@qB,@aA3,@aDv,@aDn,@ZR,@aB1,@aCa,@aAv,@U5,@aAg,@aAs,@VS,@aAr,@aAx,@WM,@S6,@VV,@VK,@UA⟩
theorem TY1:type_of% (AI @V5 (AI @XE (AI @i0 (AI @mX (AI @m3 (AI @mU (AI @mY (AI @nQ (AI @nY (AI @n4 (AI @nI (AI @jH (AI @nN (AI @n5 (AI @MQ (AI @QS (AI @PI (AI @MF (AI @PP (AI @QB (AI @aC5 (AI @aAR (AI @aB9 (AI @aDx (AI @aAi (AI @aCZ (AI @aBP (AI @G5 (AI @QU (AI @SQ (AI @SF (AI @PD (AI @TO (AI @TH (AI @EN (AI @MK (AI @PU (AI @QI (AI @NJ @O1))))))))))))))))))))))))))))))))))))))) :=
 ⟨@V5,@XE,@i0,@mX,@m3,@mU,@mY,@nQ,@nY,@n4,@nI,@jH,@nN,@n5,@MQ,@QS,@PI,@MF,@PP,@QB,@aC5,@aAR,@aB9,@aDx,@aAi,@aCZ,@aBP,@G5,@QU,@SQ,@SF,@PD,@TO,@TH,@EN,@MK,@PU,@QI,@NJ,@O1⟩
theorem TY2:type_of% (AI @PM (AI @L3 (AI @SL (AI @W7 (AI @WL (AI @TR (AI @XT (AI @XS (AI @d5 (AI @fS (AI @fX (AI @f0 (AI @fW (AI @fR (AI @fY (AI @gQ (AI @hM (AI @hJ (AI @gR (AI @eA (AI @gS (AI @hR (AI @tA (AI @yC (AI @xY (AI @yA (AI @xZ (AI @xW (AI @x3 (AI @CN (AI @DL (AI @CW (AI @BQ (AI @tZ (AI @CL (AI @DB (AI @DW (AI @NM (AI @O7 @O9))))))))))))))))))))))))))))))))))))))) :=
 ⟨@PM,@L3,@SL,@W7,@WL,@TR,@XT,@XS,@d5,@fS,@fX,@f0,@fW,@fR,@fY,@gQ,@hM,@hJ,@gR,@eA,@gS,@hR,@tA,@yC,@xY,@yA,@xZ,@xW,@x3,@CN,@DL,@CW,@BQ,@tZ,@CL,@DB,@DW,@NM,@O7,@O9⟩
theorem TY3:type_of% (AI @M5 (AI @QH (AI @O4 (AI @DM (AI @CI (AI @DS (AI @C0 (AI @B2 (AI @DJ (AI @DK (AI @OS (AI @XL (AI @aAH (AI @aAQ (AI @XD (AI @aAp (AI @aAP (AI @BX (AI @KB (AI @OB (AI @OF (AI @KX (AI @MN (AI @N2 (AI @JE (AI @S2 (AI @VH (AI @XO (AI @TF (AI @KT (AI @TW (AI @VE (AI @mK (AI @pL (AI @pO (AI @pN (AI @pM (AI @qW (AI @rN @rG))))))))))))))))))))))))))))))))))))))) :=
 ⟨@M5,@QH,@O4,@DM,@CI,@DS,@C0,@B2,@DJ,@DK,@OS,@XL,@aAH,@aAQ,@XD,@aAp,@aAP,@BX,@KB,@OB,@OF,@KX,@MN,@N2,@JE,@S2,@VH,@XO,@TF,@KT,@TW,@VE,@mK,@pL,@pO,@pN,@pM,@qW,@rN,@rG⟩
theorem TY4:type_of% (AI @qU (AI @m9 (AI @qV (AI @rM (AI @zI (AI @FJ (AI @FB (AI @E9 (AI @FK (AI @KW (AI @M3 (AI @M8 (AI @K6 (AI @CK (AI @KJ (AI @MR (AI @sC (AI @aCG (AI @aEY (AI @aFx (AI @aDb (AI @aEZ (AI @aFJ (AI @qM (AI @wQ (AI @xP (AI @xV (AI @wO (AI @x9 (AI @x6 (AI @tU (AI @BB (AI @DC (AI @DI (AI @CC (AI @CX (AI @DQ (AI @bH (AI @cG @cI))))))))))))))))))))))))))))))))))))))) :=
 ⟨@qU,@m9,@qV,@rM,@zI,@FJ,@FB,@E9,@FK,@KW,@M3,@M8,@K6,@CK,@KJ,@MR,@sC,@aCG,@aEY,@aFx,@aDb,@aEZ,@aFJ,@qM,@wQ,@xP,@xV,@wO,@x9,@x6,@tU,@BB,@DC,@DI,@CC,@CX,@DQ,@bH,@cG,@cI⟩
theorem TY5:type_of% (AI @cK (AI @cF (AI @cL (AI @cM (AI @cN (AI @cJ (AI @cH (AI @cP (AI @cO (AI @cQ (AI @cV (AI @cX (AI @cY (AI @cT (AI @bI (AI @cS (AI @cW (AI @zF (AI @FT (AI @GC (AI @F9 (AI @FQ (AI @GD (AI @FE (AI @F2 (AI @FI (AI @FW (AI @GF (AI @F5 (AI @FY (AI @JY (AI @NS (AI @N6 (AI @JJ (AI @BZ (AI @LC (AI @MO (AI @xO (AI @wU @xR))))))))))))))))))))))))))))))))))))))) :=
 ⟨@cK,@cF,@cL,@cM,@cN,@cJ,@cH,@cP,@cO,@cQ,@cV,@cX,@cY,@cT,@bI,@cS,@cW,@zF,@FT,@GC,@F9,@FQ,@GD,@FE,@F2,@FI,@FW,@GF,@F5,@FY,@JY,@NS,@N6,@JJ,@BZ,@LC,@MO,@xO,@wU,@xR⟩
theorem TY6:type_of% (AI @yF (AI @wZ (AI @yE (AI @x5 (AI @aAL (AI @UU (AI @ZI (AI @aAY (AI @UW (AI @aAe (AI @aAF (AI @aAc (AI @VI (AI @ZV (AI @aA0 (AI @XW (AI @Z9 (AI @ZX (AI @xK (AI @FD (AI @H2 (AI @HM (AI @GB (AI @HE (AI @H7 (AI @LS (AI @HA (AI @JN (AI @LR (AI @HB (AI @KU (AI @JD (AI @pQ (AI @u4 (AI @wP (AI @wW (AI @vR (AI @wT (AI @wX @eV))))))))))))))))))))))))))))))))))))))) :=
 ⟨@yF,@wZ,@yE,@x5,@aAL,@UU,@ZI,@aAY,@UW,@aAe,@aAF,@aAc,@VI,@ZV,@aA0,@XW,@Z9,@ZX,@xK,@FD,@H2,@HM,@GB,@HE,@H7,@LS,@HA,@JN,@LR,@HB,@KU,@JD,@pQ,@u4,@wP,@wW,@vR,@wT,@wX,@eV⟩
theorem TY7:type_of% (AI @iT (AI @iS (AI @iP (AI @iR (AI @iQ (AI @iN (AI @jC (AI @jN (AI @jR (AI @jD (AI @fA (AI @jB (AI @jO (AI @r6 (AI @wV (AI @xA (AI @xB (AI @wS (AI @xC (AI @wY (AI @zM (AI @BN (AI @CQ (AI @AE (AI @s7 (AI @zZ (AI @CM (AI @BD (AI @AH (AI @AX (AI @AS (AI @zR (AI @A3 (AI @CJ (AI @WX (AI @S9 (AI @WT (AI @WZ (AI @S1 @XQ))))))))))))))))))))))))))))))))))))))) :=
 ⟨@iT,@iS,@iP,@iR,@iQ,@iN,@jC,@jN,@jR,@jD,@fA,@jB,@jO,@r6,@wV,@xA,@xB,@wS,@xC,@wY,@zM,@BN,@CQ,@AE,@s7,@zZ,@CM,@BD,@AH,@AX,@AS,@zR,@A3,@CJ,@WX,@S9,@WT,@WZ,@S1,@XQ⟩
theorem TY8:type_of% (AI @U0 (AI @xF (AI @F8 (AI @HS (AI @HP (AI @F4 (AI @HQ (AI @H1 (AI @d6 (AI @fZ (AI @gB (AI @fU (AI @gA (AI @fT (AI @fV (AI @gX (AI @hG (AI @gY (AI @gU (AI @d7 (AI @gW (AI @gZ (AI @xI (AI @C7 (AI @C1 (AI @CZ (AI @C5 (AI @DE (AI @C9 (AI @H5 (AI @KI (AI @LW (AI @HT (AI @zD (AI @HG (AI @LP (AI @vD (AI @uH (AI @uZ @vC))))))))))))))))))))))))))))))))))))))) :=
 ⟨@U0,@xF,@F8,@HS,@HP,@F4,@HQ,@H1,@d6,@fZ,@gB,@fU,@gA,@fT,@fV,@gX,@hG,@gY,@gU,@d7,@gW,@gZ,@xI,@C7,@C1,@CZ,@C5,@DE,@C9,@H5,@KI,@LW,@HT,@zD,@HG,@LP,@vD,@uH,@uZ,@vC⟩
theorem TY9:type_of% (AI @uN (AI @vB (AI @vE (AI @hU (AI @kW (AI @lA (AI @kX (AI @kZ (AI @kY (AI @kV (AI @mA (AI @mQ (AI @mR (AI @mG (AI @iH (AI @mE (AI @mZ (AI @A4 (AI @HD (AI @HO (AI @HW (AI @HR (AI @H4 (AI @HZ (AI @MY (AI @PK (AI @P5 (AI @NY (AI @EG (AI @NF (AI @PG (AI @QQ (AI @OE (AI @O2 (AI @PW (AI @MV (AI @QN (AI @QF (AI @B4 @C4))))))))))))))))))))))))))))))))))))))) :=
 ⟨@uN,@vB,@vE,@hU,@kW,@lA,@kX,@kZ,@kY,@kV,@mA,@mQ,@mR,@mG,@iH,@mE,@mZ,@A4,@HD,@HO,@HW,@HR,@H4,@HZ,@MY,@PK,@P5,@NY,@EG,@NF,@PG,@QQ,@OE,@O2,@PW,@MV,@QN,@QF,@B4,@C4⟩
theorem TY10:type_of% (AI @CY (AI @BP (AI @DT (AI @C8 (AI @SS (AI @MT (AI @PH (AI @MZ (AI @HN (AI @LU (AI @O5 (AI @KC @NC)))))))))))) :=
 ⟨@CY,@BP,@DT,@C8,@SS,@MT,@PH,@MZ,@HN,@LU,@O5,@KC,@NC⟩
theorem TY:type_of% (AI @TY0 (AI @TY1 (AI @TY2 (AI @TY3 (AI @TY4 (AI @TY5 (AI @TY6 (AI @TY7 (AI @TY8 (AI @TY9 @TY10)))))))))) :=
 ⟨@TY0,@TY1,@TY2,@TY3,@TY4,@TY5,@TY6,@TY7,@TY8,@TY9,@TY10⟩
end Ev
end Go.Proofs.YtppdfjdfjfoddaaGreat
