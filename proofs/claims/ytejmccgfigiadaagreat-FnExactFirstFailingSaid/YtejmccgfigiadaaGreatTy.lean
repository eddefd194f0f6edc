/-
  What the types of the program are, as the evaluator asks. Written by a program.
-/
import Derived.Test.YtejmccgfigiadaaGreatEnvF
import Derived.Test.YtejmccgfigiadaaGreatEvWalk
set_option maxRecDepth 100000
namespace Go.Proofs.YtejmccgfigiadaaGreat
namespace Ev
def cB (P:Program) (t:TypeId) (i:Nat):Option (Nat × Nat):=match P.underlying t with
 | some (.struct fields) => (fields.toList[i]?).map fun f => (f.offset,P.cellsOf f.type)
 | _ => none
def kY (P:Program) (t:TypeId):Bool:=match P.underlying t with
 | some (.struct fields) => fields.toList.all fun f => (P.info? f.type).isSome
 | _ => false
theorem e7 {P:Program} {t:TypeId} {z:A} {parts:List (Nat × A)} (hs:kY P t = true) (hz:bW P t = some z):jO P t parts = (fH (a6 z) (parts.map fun p => (cB P t p.1,p.2))).map .agg:=by
 unfold kY at hs
 unfold jO cB
 rw [hz]
 cases hu:P.underlying t with
 | none => rw [hu] at hs; cases hs
 | some d =>
  rw [hu] at hs
  cases d <;> first | cases hs | skip
  simp only at hs ⊢
  rw [if_pos hs]
theorem aOy {P:Program} {t e:TypeId} {n c:Nat} {z:A} {parts:List (Nat × A)} (hu:P.underlying t = some (.array n e)) (hz:bW P t = some z) (hi:(P.info? e).isSome = true) (hc:P.cellsOf e = c):jO P t parts = (fH (a6 z) (parts.map fun p => (some (p.1 * c,c),p.2))).map .agg:=by
 unfold jO
 rw [hz,hu]
 simp only [hi,if_true,hc]
theorem lX {P:Program} {h:H} {t u:TypeId} {K K1 K2:IntKind} {n:Int} (h1:P.underlying t = some (.int K1)) (h2:P.underlying u = some (.int K2)):eL P h t u (.d (.int K n)) = some (.d (.int K2 (K2.wrap n)),h):=by
 simp only [eL,h1,h2]
theorem aHV:env.P.underlying 2 = some (.int .i64):=kr
theorem aFQ:bP env.P 2 = none:=kr
theorem aH4:env.P.cellsOf 2 = 1:=kr
theorem aIK:bU env.P 2 = true:=kr
theorem aFE:bX env.P 2 = some false:=kr
theorem aIc:bW env.P 2 = some (nI 0):=kr
theorem aI4:(env.P.info? 2).isSome = true:=kr
theorem zZ:env.P.underlying 3 = some (.int .i64):=kr
theorem aL9:bP env.P 3 = none:=kr
theorem aGL:env.P.cellsOf 3 = 1:=kr
theorem aOD:bU env.P 3 = true:=kr
theorem aK6:bX env.P 3 = some false:=kr
theorem aNk:bW env.P 3 = some (nI 0):=kr
theorem aG4:(env.P.info? 3).isSome = true:=kr
theorem aMb:env.P.underlying 4 = some .bool:=kr
theorem aII:bP env.P 4 = none:=kr
theorem aMn:env.P.cellsOf 4 = 1:=kr
theorem aLW:bU env.P 4 = true:=kr
theorem aH0:bX env.P 4 = some false:=kr
theorem aLf:bW env.P 4 = some (.d (.bool false)):=kr
theorem aLJ:(env.P.info? 4).isSome = true:=kr
theorem sP:env.P.underlying 5 = some (.int .u8):=kr
theorem aF4:bP env.P 5 = none:=kr
theorem aJc:env.P.cellsOf 5 = 1:=kr
theorem aJK:bU env.P 5 = true:=kr
theorem aF2:bX env.P 5 = some false:=kr
theorem aHG:bW env.P 5 = some (.d (.int .u8 0)):=kr
theorem aJg:(env.P.info? 5).isSome = true:=kr
theorem aFO:env.P.underlying 9 = some .string:=kr
theorem aCW:bP env.P 9 = none:=kr
theorem aFh:env.P.cellsOf 9 = 1:=kr
theorem aFk:bU env.P 9 = true:=kr
theorem aDp:bX env.P 9 = some false:=kr
theorem aGa:bW env.P 9 = some (.d (.str [])):=kr
theorem aF6:(env.P.info? 9).isSome = true:=kr
theorem aD1:env.P.underlying 12 = some (.int .u64):=kr
theorem aBy:bP env.P 12 = none:=kr
theorem aDh:env.P.cellsOf 12 = 1:=kr
theorem aDy:bU env.P 12 = true:=kr
theorem aBT:bX env.P 12 = some false:=kr
theorem aDj:bW env.P 12 = some (.d (.int .u64 0)):=kr
theorem aCy:(env.P.info? 12).isSome = true:=kr
theorem jW:kY env.P 13 = true:=kr
theorem nU:bF env.P 13 0 = some (0,9):=kr
theorem n5:cB env.P 13 0 = some (0,1):=kr
theorem nZ:bF env.P 13 1 = some (1,12):=kr
theorem n4:cB env.P 13 1 = some (1,1):=kr
theorem oR:bP env.P 13 = none:=kr
theorem pF:env.P.cellsOf 13 = 2:=kr
theorem pH:bU env.P 13 = true:=kr
theorem pC:bX env.P 13 = some true:=kr
theorem kN:bW env.P 13 = some (.agg [.d (.str []),.d (.int .u64 0)]):=kr
theorem pN:(env.P.info? 13).isSome = true:=kr
theorem UF:bP env.P 20 = none:=kr
theorem YX:env.P.cellsOf 20 = 1:=kr
theorem ZC:bU env.P 20 = true:=kr
theorem V5:bX env.P 20 = some false:=kr
theorem YF:bW env.P 20 = some (.d (.nili)):=kr
theorem ZP:(env.P.info? 20).isSome = true:=kr
theorem aIn:env.P.underlying 21 = some (.int .i32):=kr
theorem aFi:bP env.P 21 = none:=kr
theorem aH7:env.P.cellsOf 21 = 1:=kr
theorem aJu:bU env.P 21 = true:=kr
theorem aF3:bX env.P 21 = some false:=kr
theorem aHD:bW env.P 21 = some (.d (.int .i32 0)):=kr
theorem aHR:(env.P.info? 21).isSome = true:=kr
theorem LC:env.P.underlying 22 = some (.slice 90):=kr
theorem UK:bP env.P 22 = some 90:=by simp only [bP,LC]
theorem YP:env.P.cellsOf 22 = 1:=kr
theorem Y5:bU env.P 22 = true:=kr
theorem WT:bX env.P 22 = some false:=kr
theorem ZD:bW env.P 22 = some (.d (.nils)):=kr
theorem YV:(env.P.info? 22).isSome = true:=kr
theorem RD:env.P.underlying 23 = some (.slice 4):=kr
theorem aB6:bP env.P 23 = some 4:=by simp only [bP,RD]
theorem aDA:env.P.cellsOf 23 = 1:=kr
theorem aD6:bU env.P 23 = true:=kr
theorem aBw:bX env.P 23 = some false:=kr
theorem aEj:bW env.P 23 = some (.d (.nils)):=kr
theorem aDL:(env.P.info? 23).isSome = true:=kr
theorem dX:kY env.P 24 = true:=kr
theorem f0:bF env.P 24 0 = some (0,3):=kr
theorem fU:cB env.P 24 0 = some (0,1):=kr
theorem f5:bF env.P 24 1 = some (1,22):=kr
theorem fX:cB env.P 24 1 = some (1,1):=kr
theorem fZ:bF env.P 24 2 = some (2,23):=kr
theorem fW:cB env.P 24 2 = some (2,1):=kr
theorem gY:bP env.P 24 = none:=kr
theorem hM:env.P.cellsOf 24 = 3:=kr
theorem iA:bU env.P 24 = true:=kr
theorem gP:bX env.P 24 = some true:=kr
theorem d6:bW env.P 24 = some (.agg [nI 0,.d (.nils),.d (.nils)]):=kr
theorem iB:(env.P.info? 24).isSome = true:=kr
theorem wI:kY env.P 25 = true:=kr
theorem CM:bF env.P 25 0 = some (0,3):=kr
theorem CE:cB env.P 25 0 = some (0,1):=kr
theorem CK:bF env.P 25 1 = some (1,22):=kr
theorem B5:cB env.P 25 1 = some (1,1):=kr
theorem CR:bF env.P 25 2 = some (2,23):=kr
theorem CO:cB env.P 25 2 = some (2,1):=kr
theorem HV:bP env.P 25 = none:=kr
theorem J0:env.P.cellsOf 25 = 3:=kr
theorem JX:bU env.P 25 = true:=kr
theorem GY:bX env.P 25 = some true:=kr
theorem x4:bW env.P 25 = some (.agg [nI 0,.d (.nils),.d (.nils)]):=kr
theorem JU:(env.P.info? 25).isSome = true:=kr
theorem KW:env.P.underlying 27 = some (.slice 9):=kr
theorem V1:bP env.P 27 = some 9:=by simp only [bP,KW]
theorem ZB:env.P.cellsOf 27 = 1:=kr
theorem YY:bU env.P 27 = true:=kr
theorem WN:bX env.P 27 = some false:=kr
theorem YW:bW env.P 27 = some (.d (.nils)):=kr
theorem X5:(env.P.info? 27).isSome = true:=kr
theorem vV:kY env.P 30 = true:=kr
theorem B3:bF env.P 30 0 = some (0,3):=kr
theorem BY:cB env.P 30 0 = some (0,1):=kr
theorem CG:bF env.P 30 1 = some (1,22):=kr
theorem CA:cB env.P 30 1 = some (1,1):=kr
theorem B8:bF env.P 30 2 = some (2,23):=kr
theorem CJ:cB env.P 30 2 = some (2,1):=kr
theorem HG:bP env.P 30 = none:=kr
theorem JM:env.P.cellsOf 30 = 3:=kr
theorem J3:bU env.P 30 = true:=kr
theorem GQ:bX env.P 30 = some true:=kr
theorem x2:bW env.P 30 = some (.agg [nI 0,.d (.nils),.d (.nils)]):=kr
theorem JG:(env.P.info? 30).isSome = true:=kr
theorem N1:env.P.underlying 41 = some (.slice 5):=kr
theorem YJ:bP env.P 41 = some 5:=by simp only [bP,N1]
theorem aBN:env.P.cellsOf 41 = 1:=kr
theorem aBL:bU env.P 41 = true:=kr
theorem ZU:bX env.P 41 = some false:=kr
theorem aBE:bW env.P 41 = some (.d (.nils)):=kr
theorem aBC:(env.P.info? 41).isSome = true:=kr
theorem GF:env.P.underlying 64 = some (.map 9 4):=kr
theorem EQ:bP env.P 64 = none:=kr
theorem HT:env.P.cellsOf 64 = 1:=kr
theorem G6:bU env.P 64 = true:=kr
theorem ES:bX env.P 64 = some false:=kr
theorem GX:bW env.P 64 = some (.d (.nilm)):=kr
theorem GJ:(env.P.info? 64).isSome = true:=kr
theorem ET:bP env.P 67 = none:=kr
theorem GD:env.P.cellsOf 67 = 1:=kr
theorem G0:bU env.P 67 = true:=kr
theorem EP:bX env.P 67 = some false:=kr
theorem GG:bW env.P 67 = some (.d (.nilfn)):=kr
theorem ID:(env.P.info? 67).isSome = true:=kr
theorem JD:env.P.underlying 72 = some (.pointer 101):=kr
theorem GI:bP env.P 72 = none:=kr
theorem JA:env.P.cellsOf 72 = 1:=kr
theorem JV:bU env.P 72 = true:=kr
theorem G1:bX env.P 72 = some false:=kr
theorem JY:bW env.P 72 = some (.d (.nilp)):=kr
theorem JI:(env.P.info? 72).isSome = true:=kr
theorem vJ:env.P.underlying 82 = some (.int .u64):=kr
theorem aIS:bP env.P 82 = none:=kr
theorem aL1:env.P.cellsOf 82 = 1:=kr
theorem aMJ:bU env.P 82 = true:=kr
theorem aIi:bX env.P 82 = some false:=kr
theorem aLE:bW env.P 82 = some (.d (.int .u64 0)):=kr
theorem aMf:(env.P.info? 82).isSome = true:=kr
theorem XQ:env.P.underlying 90 = some (.slice 3):=kr
theorem aC4:bP env.P 90 = some 3:=by simp only [bP,XQ]
theorem aFq:env.P.cellsOf 90 = 1:=kr
theorem aFU:bU env.P 90 = true:=kr
theorem aEs:bX env.P 90 = some false:=kr
theorem aFu:bW env.P 90 = some (.d (.nils)):=kr
theorem aFd:(env.P.info? 90).isSome = true:=kr
theorem nN:kY env.P 100 = true:=kr
theorem rX:bF env.P 100 0 = some (0,41):=kr
theorem r7:cB env.P 100 0 = some (0,1):=kr
theorem rY:bF env.P 100 1 = some (1,3):=kr
theorem r6:cB env.P 100 1 = some (1,1):=kr
theorem tK:bP env.P 100 = none:=kr
theorem uR:env.P.cellsOf 100 = 2:=kr
theorem uE:bU env.P 100 = true:=kr
theorem tH:bX env.P 100 = some true:=kr
theorem n9:bW env.P 100 = some (.agg [.d (.nils),nI 0]):=kr
theorem u4:(env.P.info? 100).isSome = true:=kr
theorem DO:kY env.P 101 = true:=kr
theorem MZ:bF env.P 101 0 = some (0,41):=kr
theorem MM:cB env.P 101 0 = some (0,1):=kr
theorem NU:bF env.P 101 1 = some (1,3):=kr
theorem MJ:cB env.P 101 1 = some (1,1):=kr
theorem S2:bP env.P 101 = none:=kr
theorem VT:env.P.cellsOf 101 = 2:=kr
theorem VZ:bU env.P 101 = true:=kr
theorem SN:bX env.P 101 = some true:=kr
theorem FV:bW env.P 101 = some (.agg [.d (.nils),nI 0]):=kr
theorem VI:(env.P.info? 101).isSome = true:=kr
theorem HY:env.P.underlying 111 = some (.slice 113):=kr
theorem SX:bP env.P 111 = some 113:=by simp only [bP,HY]
theorem V0:env.P.cellsOf 111 = 1:=kr
theorem UG:bU env.P 111 = true:=kr
theorem R3:bX env.P 111 = some false:=kr
theorem UR:bW env.P 111 = some (.d (.nils)):=kr
theorem V9:(env.P.info? 111).isSome = true:=kr
theorem RM:env.P.underlying 113 = some (.array 6 3):=kr
theorem aBK:bP env.P 113 = none:=kr
theorem aDV:env.P.cellsOf 113 = 6:=kr
theorem aDw:bU env.P 113 = true:=kr
theorem aBv:bX env.P 113 = some true:=kr
theorem TC:bW env.P 113 = some (.agg [nI 0,nI 0,nI 0,nI 0,nI 0,nI 0]):=kr
theorem aC9:(env.P.info? 113).isSome = true:=kr
theorem tG:env.P.underlying 119 = some (.slice 30):=kr
theorem BI:bP env.P 119 = some 30:=by simp only [bP,tG]
theorem CS:env.P.cellsOf 119 = 1:=kr
theorem CI:bU env.P 119 = true:=kr
theorem BJ:bX env.P 119 = some false:=kr
theorem B1:bW env.P 119 = some (.d (.nils)):=kr
theorem CC:(env.P.info? 119).isSome = true:=kr
theorem xZ:env.P.underlying 120 = some (.slice 169):=kr
theorem GM:bP env.P 120 = some 169:=by simp only [bP,xZ]
theorem JH:env.P.cellsOf 120 = 1:=kr
theorem JZ:bU env.P 120 = true:=kr
theorem HR:bX env.P 120 = some false:=kr
theorem IV:bW env.P 120 = some (.d (.nils)):=kr
theorem JR:(env.P.info? 120).isSome = true:=kr
theorem bN:kY env.P 121 = true:=kr
theorem cG:bF env.P 121 0 = some (0,120):=kr
theorem cD:cB env.P 121 0 = some (0,1):=kr
theorem cF:bF env.P 121 1 = some (1,119):=kr
theorem cO:cB env.P 121 1 = some (1,1):=kr
theorem cP:bF env.P 121 2 = some (2,90):=kr
theorem cL:cB env.P 121 2 = some (2,1):=kr
theorem cJ:bF env.P 121 3 = some (3,3):=kr
theorem cK:cB env.P 121 3 = some (3,1):=kr
theorem cN:bF env.P 121 4 = some (4,3):=kr
theorem cI:cB env.P 121 4 = some (4,1):=kr
theorem cM:bF env.P 121 5 = some (5,3):=kr
theorem cH:cB env.P 121 5 = some (5,1):=kr
theorem cT:bP env.P 121 = none:=kr
theorem cW:env.P.cellsOf 121 = 6:=kr
theorem cU:bU env.P 121 = true:=kr
theorem cR:bX env.P 121 = some true:=kr
theorem bO:bW env.P 121 = some (.agg [.d (.nils),.d (.nils),.d (.nils),nI 0,nI 0,nI 0]):=kr
theorem cV:(env.P.info? 121).isSome = true:=kr
theorem DH:kY env.P 122 = true:=kr
theorem MN:bF env.P 122 0 = some (0,120):=kr
theorem MG:cB env.P 122 0 = some (0,1):=kr
theorem MS:bF env.P 122 1 = some (1,119):=kr
theorem NL:cB env.P 122 1 = some (1,1):=kr
theorem M4:bF env.P 122 2 = some (2,90):=kr
theorem MA:cB env.P 122 2 = some (2,1):=kr
theorem MY:bF env.P 122 3 = some (3,3):=kr
theorem L8:cB env.P 122 3 = some (3,1):=kr
theorem MB:bF env.P 122 4 = some (4,3):=kr
theorem NS:cB env.P 122 4 = some (4,1):=kr
theorem MX:bF env.P 122 5 = some (5,3):=kr
theorem NK:cB env.P 122 5 = some (5,1):=kr
theorem R5:bP env.P 122 = none:=kr
theorem VH:env.P.cellsOf 122 = 6:=kr
theorem T9:bU env.P 122 = true:=kr
theorem TR:bX env.P 122 = some true:=kr
theorem HQ:bW env.P 122 = some (.agg [.d (.nils),.d (.nils),.d (.nils),nI 0,nI 0,nI 0]):=kr
theorem UJ:(env.P.info? 122).isSome = true:=kr
theorem CT:env.P.underlying 126 = some (.int .i64):=kr
theorem BA:bP env.P 126 = none:=kr
theorem CD:env.P.cellsOf 126 = 1:=kr
theorem B4:bU env.P 126 = true:=kr
theorem BN:bX env.P 126 = some false:=kr
theorem CF:bW env.P 126 = some (nI 0):=kr
theorem CP:(env.P.info? 126).isSome = true:=kr
theorem aGo:env.P.underlying 134 = some (.int .u32):=kr
theorem aDk:bP env.P 134 = none:=kr
theorem aFC:env.P.cellsOf 134 = 1:=kr
theorem aFT:bU env.P 134 = true:=kr
theorem aCD:bX env.P 134 = some false:=kr
theorem aFY:bW env.P 134 = some (.d (.int .u32 0)):=kr
theorem aGm:(env.P.info? 134).isSome = true:=kr
theorem aFW:env.P.underlying 136 = some (.int .u64):=kr
theorem aCC:bP env.P 136 = none:=kr
theorem aFl:env.P.cellsOf 136 = 1:=kr
theorem aFF:bU env.P 136 = true:=kr
theorem aDz:bX env.P 136 = some false:=kr
theorem aFg:bW env.P 136 = some (.d (.int .u64 0)):=kr
theorem aFI:(env.P.info? 136).isSome = true:=kr
theorem r9:env.P.underlying 144 = some (.slice 146):=kr
theorem y8:bP env.P 144 = some 146:=by simp only [bP,r9]
theorem A9:env.P.cellsOf 144 = 1:=kr
theorem BG:bU env.P 144 = true:=kr
theorem zR:bX env.P 144 = some false:=kr
theorem BD:bW env.P 144 = some (.d (.nils)):=kr
theorem BB:(env.P.info? 144).isSome = true:=kr
theorem fF:kY env.P 145 = true:=kr
theorem jG:bF env.P 145 0 = some (0,3):=kr
theorem jB:cB env.P 145 0 = some (0,1):=kr
theorem jH:bF env.P 145 1 = some (1,3):=kr
theorem jE:cB env.P 145 1 = some (1,1):=kr
theorem jC:bF env.P 145 2 = some (2,90):=kr
theorem jI:cB env.P 145 2 = some (2,1):=kr
theorem kI:bP env.P 145 = none:=kr
theorem kS:env.P.cellsOf 145 = 3:=kr
theorem kV:bU env.P 145 = true:=kr
theorem kK:bX env.P 145 = some true:=kr
theorem fJ:bW env.P 145 = some (.agg [nI 0,nI 0,.d (.nils)]):=kr
theorem kT:(env.P.info? 145).isSome = true:=kr
theorem vG:kY env.P 146 = true:=kr
theorem BE:bF env.P 146 0 = some (0,3):=kr
theorem BM:cB env.P 146 0 = some (0,1):=kr
theorem BL:bF env.P 146 1 = some (1,3):=kr
theorem BH:cB env.P 146 1 = some (1,1):=kr
theorem BK:bF env.P 146 2 = some (2,90):=kr
theorem BC:cB env.P 146 2 = some (2,1):=kr
theorem FC:bP env.P 146 = none:=kr
theorem GU:env.P.cellsOf 146 = 3:=kr
theorem IH:bU env.P 146 = true:=kr
theorem EX:bX env.P 146 = some true:=kr
theorem vZ:bW env.P 146 = some (.agg [nI 0,nI 0,.d (.nils)]):=kr
theorem F3:(env.P.info? 146).isSome = true:=kr
theorem BP:env.P.underlying 151 = some (.slice 22):=kr
theorem ML:bP env.P 151 = some 22:=by simp only [bP,BP]
theorem O9:env.P.cellsOf 151 = 1:=kr
theorem OL:bU env.P 151 = true:=kr
theorem M1:bX env.P 151 = some false:=kr
theorem OV:bW env.P 151 = some (.d (.nils)):=kr
theorem PO:(env.P.info? 151).isSome = true:=kr
theorem HX:env.P.underlying 159 = some (.int .u64):=kr
theorem FD:bP env.P 159 = none:=kr
theorem FL:env.P.cellsOf 159 = 1:=kr
theorem HB:bU env.P 159 = true:=kr
theorem ED:bX env.P 159 = some false:=kr
theorem FP:bW env.P 159 = some (.d (.int .u64 0)):=kr
theorem FZ:(env.P.info? 159).isSome = true:=kr
theorem aC1:env.P.underlying 163 = some (.pointer 3):=kr
theorem aBB:bP env.P 163 = none:=kr
theorem aDW:env.P.cellsOf 163 = 1:=kr
theorem aDQ:bU env.P 163 = true:=kr
theorem aBP:bX env.P 163 = some false:=kr
theorem aEr:bW env.P 163 = some (.d (.nilp)):=kr
theorem aDr:(env.P.info? 163).isSome = true:=kr
theorem BS:env.P.underlying 167 = some (.slice 179):=kr
theorem NO:bP env.P 167 = some 179:=by simp only [bP,BS]
theorem O3:env.P.cellsOf 167 = 1:=kr
theorem PH:bU env.P 167 = true:=kr
theorem NP:bX env.P 167 = some false:=kr
theorem PI:bW env.P 167 = some (.d (.nils)):=kr
theorem O5:(env.P.info? 167).isSome = true:=kr
theorem dY:kY env.P 168 = true:=kr
theorem fS:bF env.P 168 0 = some (0,3):=kr
theorem f9:cB env.P 168 0 = some (0,1):=kr
theorem fV:bF env.P 168 1 = some (1,3):=kr
theorem fR:cB env.P 168 1 = some (1,1):=kr
theorem fY:bF env.P 168 2 = some (2,167):=kr
theorem fT:cB env.P 168 2 = some (2,1):=kr
theorem gX:bP env.P 168 = none:=kr
theorem iC:env.P.cellsOf 168 = 3:=kr
theorem iE:bU env.P 168 = true:=kr
theorem gW:bX env.P 168 = some true:=kr
theorem d7:bW env.P 168 = some (.agg [nI 0,nI 0,.d (.nils)]):=kr
theorem hZ:(env.P.info? 168).isSome = true:=kr
theorem BX:kY env.P 169 = true:=kr
theorem IS:bF env.P 169 0 = some (0,3):=kr
theorem I4:cB env.P 169 0 = some (0,1):=kr
theorem IZ:bF env.P 169 1 = some (1,3):=kr
theorem JJ:cB env.P 169 1 = some (1,1):=kr
theorem IP:bF env.P 169 2 = some (2,167):=kr
theorem JS:cB env.P 169 2 = some (2,1):=kr
theorem OS:bP env.P 169 = none:=kr
theorem RW:env.P.cellsOf 169 = 3:=kr
theorem R8:bU env.P 169 = true:=kr
theorem OT:bX env.P 169 = some true:=kr
theorem EA:bW env.P 169 = some (.agg [nI 0,nI 0,.d (.nils)]):=kr
theorem RV:(env.P.info? 169).isSome = true:=kr
theorem yY:env.P.underlying 173 = some (.pointer 159):=kr
theorem yU:bP env.P 173 = none:=kr
theorem zC:env.P.cellsOf 173 = 1:=kr
theorem y4:bU env.P 173 = true:=kr
theorem yQ:bX env.P 173 = some false:=kr
theorem zM:bW env.P 173 = some (.d (.nilp)):=kr
theorem AA:(env.P.info? 173).isSome = true:=kr
theorem iK:kY env.P 178 = true:=kr
theorem mC:bF env.P 178 0 = some (0,3):=kr
theorem mE:cB env.P 178 0 = some (0,1):=kr
theorem mD:bF env.P 178 1 = some (1,3):=kr
theorem l9:cB env.P 178 1 = some (1,1):=kr
theorem mA:bF env.P 178 2 = some (2,3):=kr
theorem mB:cB env.P 178 2 = some (2,1):=kr
theorem nH:bP env.P 178 = none:=kr
theorem nW:env.P.cellsOf 178 = 3:=kr
theorem nT:bU env.P 178 = true:=kr
theorem nD:bX env.P 178 = some true:=kr
theorem iW:bW env.P 178 = some (.agg [nI 0,nI 0,nI 0]):=kr
theorem nX:(env.P.info? 178).isSome = true:=kr
theorem G9:kY env.P 179 = true:=kr
theorem OW:bF env.P 179 0 = some (0,3):=kr
theorem PG:cB env.P 179 0 = some (0,1):=kr
theorem OK:bF env.P 179 1 = some (1,3):=kr
theorem OQ:cB env.P 179 1 = some (1,1):=kr
theorem O8:bF env.P 179 2 = some (2,3):=kr
theorem OM:cB env.P 179 2 = some (2,1):=kr
theorem UA:bP env.P 179 = none:=kr
theorem Y0:env.P.cellsOf 179 = 3:=kr
theorem X6:bU env.P 179 = true:=kr
theorem WP:bX env.P 179 = some true:=kr
theorem K5:bW env.P 179 = some (.agg [nI 0,nI 0,nI 0]):=kr
theorem ZJ:(env.P.info? 179).isSome = true:=kr
theorem X4:env.P.underlying 190 = some (.pointer 5):=kr
theorem V6:bP env.P 190 = none:=kr
theorem YU:env.P.cellsOf 190 = 1:=kr
theorem aAa:bU env.P 190 = true:=kr
theorem VS:bX env.P 190 = some false:=kr
theorem YR:bW env.P 190 = some (.d (.nilp)):=kr
theorem Z0:(env.P.info? 190).isSome = true:=kr
theorem FQ:bP env.P 195 = none:=kr
theorem I5:env.P.cellsOf 195 = 1:=kr
theorem IX:bU env.P 195 = true:=kr
theorem IK:bX env.P 195 = some false:=kr
theorem I9:bW env.P 195 = some (.d (.nilp)):=kr
theorem IU:(env.P.info? 195).isSome = true:=kr
theorem oV:∀ parts,jO env.P 13 parts = (fH (a6 (.agg [.d (.str []),.d (.int .u64 0)])) (parts.map fun p => (cB env.P 13 p.1,p.2))).map .agg:=fun _ => e7 jW kN
theorem g6:∀ parts,jO env.P 24 parts = (fH (a6 (.agg [nI 0,.d (.nils),.d (.nils)])) (parts.map fun p => (cB env.P 24 p.1,p.2))).map .agg:=fun _ => e7 dX d6
theorem F9:∀ parts,jO env.P 25 parts = (fH (a6 (.agg [nI 0,.d (.nils),.d (.nils)])) (parts.map fun p => (cB env.P 25 p.1,p.2))).map .agg:=fun _ => e7 wI x4
theorem F2:∀ parts,jO env.P 30 parts = (fH (a6 (.agg [nI 0,.d (.nils),.d (.nils)])) (parts.map fun p => (cB env.P 30 p.1,p.2))).map .agg:=fun _ => e7 vV x2
theorem tJ:∀ parts,jO env.P 100 parts = (fH (a6 (.agg [.d (.nils),nI 0])) (parts.map fun p => (cB env.P 100 p.1,p.2))).map .agg:=fun _ => e7 nN n9
theorem RB:∀ parts,jO env.P 101 parts = (fH (a6 (.agg [.d (.nils),nI 0])) (parts.map fun p => (cB env.P 101 p.1,p.2))).map .agg:=fun _ => e7 DO FV
theorem aBV:∀ parts,jO env.P 113 parts = (fH (a6 (.agg [nI 0,nI 0,nI 0,nI 0,nI 0,nI 0])) (parts.map fun p => (some (p.1 * 1,1),p.2))).map .agg:=fun _ => aOy RM TC aG4 aGL
theorem cQ:∀ parts,jO env.P 121 parts = (fH (a6 (.agg [.d (.nils),.d (.nils),.d (.nils),nI 0,nI 0,nI 0])) (parts.map fun p => (cB env.P 121 p.1,p.2))).map .agg:=fun _ => e7 bN bO
theorem S0:∀ parts,jO env.P 122 parts = (fH (a6 (.agg [.d (.nils),.d (.nils),.d (.nils),nI 0,nI 0,nI 0])) (parts.map fun p => (cB env.P 122 p.1,p.2))).map .agg:=fun _ => e7 DH HQ
theorem kJ:∀ parts,jO env.P 145 parts = (fH (a6 (.agg [nI 0,nI 0,.d (.nils)])) (parts.map fun p => (cB env.P 145 p.1,p.2))).map .agg:=fun _ => e7 fF fJ
theorem E6:∀ parts,jO env.P 146 parts = (fH (a6 (.agg [nI 0,nI 0,.d (.nils)])) (parts.map fun p => (cB env.P 146 p.1,p.2))).map .agg:=fun _ => e7 vG vZ
theorem gT:∀ parts,jO env.P 168 parts = (fH (a6 (.agg [nI 0,nI 0,.d (.nils)])) (parts.map fun p => (cB env.P 168 p.1,p.2))).map .agg:=fun _ => e7 dY d7
theorem PB:∀ parts,jO env.P 169 parts = (fH (a6 (.agg [nI 0,nI 0,.d (.nils)])) (parts.map fun p => (cB env.P 169 p.1,p.2))).map .agg:=fun _ => e7 BX EA
theorem nJ:∀ parts,jO env.P 178 parts = (fH (a6 (.agg [nI 0,nI 0,nI 0])) (parts.map fun p => (cB env.P 178 p.1,p.2))).map .agg:=fun _ => e7 iK iW
theorem UD:∀ parts,jO env.P 179 parts = (fH (a6 (.agg [nI 0,nI 0,nI 0])) (parts.map fun p => (cB env.P 179 p.1,p.2))).map .agg:=fun _ => e7 G9 K5
theorem aBF {h:H} {n:Int} {K:IntKind}:eL env.P h 3 3 (.d (.int K n)) = some (nI (IntKind.wrap .i64 n),h):=lX zZ zZ
theorem T5 {h:H} {n:Int} {K:IntKind}:eL env.P h 3 5 (.d (.int K n)) = some (.d (.int .u8 (IntKind.wrap .u8 n)),h):=lX zZ sP
theorem ZK {h:H} {n:Int} {K:IntKind}:eL env.P h 3 82 (.d (.int K n)) = some (.d (.int .u64 (IntKind.wrap .u64 n)),h):=lX zZ vJ
theorem UO {h:H} {n:Int} {K:IntKind}:eL env.P h 5 3 (.d (.int K n)) = some (nI (IntKind.wrap .i64 n),h):=lX sP zZ
theorem PR {h:H} {n:Int} {K:IntKind}:eL env.P h 5 5 (.d (.int K n)) = some (.d (.int .u8 (IntKind.wrap .u8 n)),h):=lX sP sP
theorem TZ {h:H} {n:Int} {K:IntKind}:eL env.P h 5 82 (.d (.int K n)) = some (.d (.int .u64 (IntKind.wrap .u64 n)),h):=lX sP vJ
theorem ZX {h:H} {n:Int} {K:IntKind}:eL env.P h 82 3 (.d (.int K n)) = some (nI (IntKind.wrap .i64 n),h):=lX vJ zZ
theorem RE {h:H} {n:Int} {K:IntKind}:eL env.P h 82 5 (.d (.int K n)) = some (.d (.int .u8 (IntKind.wrap .u8 n)),h):=lX vJ sP
theorem UW {h:H} {n:Int} {K:IntKind}:eL env.P h 82 82 (.d (.int K n)) = some (.d (.int .u64 (IntKind.wrap .u64 n)),h):=lX vJ vJ
theorem TY0:type_of% (AI @aHV (AI @aFQ (AI @aH4 (AI @aIK (AI @aFE (AI @aIc (AI @aI4 (AI @zZ (AI @aL9 (AI @aGL (AI @aOD (AI @aK6 (AI @aNk (AI @aG4 (AI @aMb (AI @aII (AI @aMn (AI @aLW (AI @aH0 (AI @aLf (AI @aLJ (AI @sP (AI @aF4 (AI @aJc (AI @aJK (AI @aF2 (AI @aHG (AI @aJg (AI @aFO (AI @aCW (AI @aFh (AI @aFk (AI @aDp (AI @aGa (AI @aF6 (AI @aD1 (AI @aBy (AI @aDh (AI @aDy @aBT))))))))))))))))))))))))))))))))))))))) :=
 ⟨@aHV,@aFQ,@aH4,@aIK,@aFE,@aIc,@aI4,@zZ,@aL9,@aGL,@aOD,@aK6,@aNk,@aG4,@aMb,@aII,@aMn,@aLW,@aH0,@aLf,@aLJ,@sP,@aF4,@aJc,@aJK,@aF2,@aHG,@aJg,@aFO,@aCW,@aFh,@aFk,@aDp,@aGa,@aF6,@aD1,@aBy,@aDh,@aDy,@aBT⟩
theorem TY1:type_of% (AI @aDj (AI @aCy (AI @jW (AI @nU (AI @n5 (AI @nZ (AI @n4 (AI @oR (AI @pF (AI @pH (AI @pC (AI @kN (AI @oV (AI @pN (AI @UF (AI @YX (AI @ZC (AI @V5 (AI @YF (AI @ZP (AI @aIn (AI @aFi (AI @aH7 (AI @aJu (AI @aF3 (AI @aHD (AI @aHR (AI @LC (AI @UK (AI @YP (AI @Y5 (AI @WT (AI @ZD (AI @YV (AI @RD (AI @aB6 (AI @aDA (AI @aD6 (AI @aBw @aEj))))))))))))))))))))))))))))))))))))))) :=
 ⟨@aDj,@aCy,@jW,@nU,@n5,@nZ,@n4,@oR,@pF,@pH,@pC,@kN,@oV,@pN,@UF,@YX,@ZC,@V5,@YF,@ZP,@aIn,@aFi,@aH7,@aJu,@aF3,@aHD,@aHR,@LC,@UK,@YP,@Y5,@WT,@ZD,@YV,@RD,@aB6,@aDA,@aD6,@aBw,@aEj⟩
theorem TY2:type_of% (AI @aDL (AI @dX (AI @f0 (AI @fU (AI @f5 (AI @fX (AI @fZ (AI @fW (AI @gY (AI @hM (AI @iA (AI @gP (AI @d6 (AI @g6 (AI @iB (AI @wI (AI @CM (AI @CE (AI @CK (AI @B5 (AI @CR (AI @CO (AI @HV (AI @J0 (AI @JX (AI @GY (AI @x4 (AI @F9 (AI @JU (AI @KW (AI @V1 (AI @ZB (AI @YY (AI @WN (AI @YW (AI @X5 (AI @vV (AI @B3 (AI @BY @CG))))))))))))))))))))))))))))))))))))))) :=
 ⟨@aDL,@dX,@f0,@fU,@f5,@fX,@fZ,@fW,@gY,@hM,@iA,@gP,@d6,@g6,@iB,@wI,@CM,@CE,@CK,@B5,@CR,@CO,@HV,@J0,@JX,@GY,@x4,@F9,@JU,@KW,@V1,@ZB,@YY,@WN,@YW,@X5,@vV,@B3,@BY,@CG⟩
theorem TY3:type_of% (AI @CA (AI @B8 (AI @CJ (AI @HG (AI @JM (AI @J3 (AI @GQ (AI @x2 (AI @F2 (AI @JG (AI @N1 (AI @YJ (AI @aBN (AI @aBL (AI @ZU (AI @aBE (AI @aBC (AI @GF (AI @EQ (AI @HT (AI @G6 (AI @ES (AI @GX (AI @GJ (AI @ET (AI @GD (AI @G0 (AI @EP (AI @GG (AI @ID (AI @JD (AI @GI (AI @JA (AI @JV (AI @G1 (AI @JY (AI @JI (AI @vJ (AI @aIS @aL1))))))))))))))))))))))))))))))))))))))) :=
 ⟨@CA,@B8,@CJ,@HG,@JM,@J3,@GQ,@x2,@F2,@JG,@N1,@YJ,@aBN,@aBL,@ZU,@aBE,@aBC,@GF,@EQ,@HT,@G6,@ES,@GX,@GJ,@ET,@GD,@G0,@EP,@GG,@ID,@JD,@GI,@JA,@JV,@G1,@JY,@JI,@vJ,@aIS,@aL1⟩
theorem TY4:type_of% (AI @aMJ (AI @aIi (AI @aLE (AI @aMf (AI @XQ (AI @aC4 (AI @aFq (AI @aFU (AI @aEs (AI @aFu (AI @aFd (AI @nN (AI @rX (AI @r7 (AI @rY (AI @r6 (AI @tK (AI @uR (AI @uE (AI @tH (AI @n9 (AI @tJ (AI @u4 (AI @DO (AI @MZ (AI @MM (AI @NU (AI @MJ (AI @S2 (AI @VT (AI @VZ (AI @SN (AI @FV (AI @RB (AI @VI (AI @HY (AI @SX (AI @V0 (AI @UG @R3))))))))))))))))))))))))))))))))))))))) :=
 ⟨@aMJ,@aIi,@aLE,@aMf,@XQ,@aC4,@aFq,@aFU,@aEs,@aFu,@aFd,@nN,@rX,@r7,@rY,@r6,@tK,@uR,@uE,@tH,@n9,@tJ,@u4,@DO,@MZ,@MM,@NU,@MJ,@S2,@VT,@VZ,@SN,@FV,@RB,@VI,@HY,@SX,@V0,@UG,@R3⟩
theorem TY5:type_of% (AI @UR (AI @V9 (AI @RM (AI @aBK (AI @aDV (AI @aDw (AI @aBv (AI @TC (AI @aBV (AI @aC9 (AI @tG (AI @BI (AI @CS (AI @CI (AI @BJ (AI @B1 (AI @CC (AI @xZ (AI @GM (AI @JH (AI @JZ (AI @HR (AI @IV (AI @JR (AI @bN (AI @cG (AI @cD (AI @cF (AI @cO (AI @cP (AI @cL (AI @cJ (AI @cK (AI @cN (AI @cI (AI @cM (AI @cH (AI @cT (AI @cW @cU))))))))))))))))))))))))))))))))))))))) :=
 ⟨@UR,@V9,@RM,@aBK,@aDV,@aDw,@aBv,@TC,@aBV,@aC9,@tG,@BI,@CS,@CI,@BJ,@B1,@CC,@xZ,@GM,@JH,@JZ,@HR,@IV,@JR,@bN,@cG,@cD,@cF,@cO,@cP,@cL,@cJ,@cK,@cN,@cI,@cM,@cH,@cT,@cW,@cU⟩
theorem TY6:type_of% (AI @cR (AI @bO (AI @cQ (AI @cV (AI @DH (AI @MN (AI @MG (AI @MS (AI @NL (AI @M4 (AI @MA (AI @MY (AI @L8 (AI @MB (AI @NS (AI @MX (AI @NK (AI @R5 (AI @VH (AI @T9 (AI @TR (AI @HQ (AI @S0 (AI @UJ (AI @CT (AI @BA (AI @CD (AI @B4 (AI @BN (AI @CF (AI @CP (AI @aGo (AI @aDk (AI @aFC (AI @aFT (AI @aCD (AI @aFY (AI @aGm (AI @aFW @aCC))))))))))))))))))))))))))))))))))))))) :=
 ⟨@cR,@bO,@cQ,@cV,@DH,@MN,@MG,@MS,@NL,@M4,@MA,@MY,@L8,@MB,@NS,@MX,@NK,@R5,@VH,@T9,@TR,@HQ,@S0,@UJ,@CT,@BA,@CD,@B4,@BN,@CF,@CP,@aGo,@aDk,@aFC,@aFT,@aCD,@aFY,@aGm,@aFW,@aCC⟩
theorem TY7:type_of% (AI @aFl (AI @aFF (AI @aDz (AI @aFg (AI @aFI (AI @r9 (AI @y8 (AI @A9 (AI @BG (AI @zR (AI @BD (AI @BB (AI @fF (AI @jG (AI @jB (AI @jH (AI @jE (AI @jC (AI @jI (AI @kI (AI @kS (AI @kV (AI @kK (AI @fJ (AI @kJ (AI @kT (AI @vG (AI @BE (AI @BM (AI @BL (AI @BH (AI @BK (AI @BC (AI @FC (AI @GU (AI @IH (AI @EX (AI @vZ (AI @E6 @F3))))))))))))))))))))))))))))))))))))))) :=
 ⟨@aFl,@aFF,@aDz,@aFg,@aFI,@r9,@y8,@A9,@BG,@zR,@BD,@BB,@fF,@jG,@jB,@jH,@jE,@jC,@jI,@kI,@kS,@kV,@kK,@fJ,@kJ,@kT,@vG,@BE,@BM,@BL,@BH,@BK,@BC,@FC,@GU,@IH,@EX,@vZ,@E6,@F3⟩
theorem TY8:type_of% (AI @BP (AI @ML (AI @O9 (AI @OL (AI @M1 (AI @OV (AI @PO (AI @HX (AI @FD (AI @FL (AI @HB (AI @ED (AI @FP (AI @FZ (AI @aC1 (AI @aBB (AI @aDW (AI @aDQ (AI @aBP (AI @aEr (AI @aDr (AI @BS (AI @NO (AI @O3 (AI @PH (AI @NP (AI @PI (AI @O5 (AI @dY (AI @fS (AI @f9 (AI @fV (AI @fR (AI @fY (AI @fT (AI @gX (AI @iC (AI @iE (AI @gW @d7))))))))))))))))))))))))))))))))))))))) :=
 ⟨@BP,@ML,@O9,@OL,@M1,@OV,@PO,@HX,@FD,@FL,@HB,@ED,@FP,@FZ,@aC1,@aBB,@aDW,@aDQ,@aBP,@aEr,@aDr,@BS,@NO,@O3,@PH,@NP,@PI,@O5,@dY,@fS,@f9,@fV,@fR,@fY,@fT,@gX,@iC,@iE,@gW,@d7⟩
theorem TY9:type_of% (AI @gT (AI @hZ (AI @BX (AI @IS (AI @I4 (AI @IZ (AI @JJ (AI @IP (AI @JS (AI @OS (AI @RW (AI @R8 (AI @OT (AI @EA (AI @PB (AI @RV (AI @yY (AI @yU (AI @zC (AI @y4 (AI @yQ (AI @zM (AI @AA (AI @iK (AI @mC (AI @mE (AI @mD (AI @l9 (AI @mA (AI @mB (AI @nH (AI @nW (AI @nT (AI @nD (AI @iW (AI @nJ (AI @nX (AI @G9 (AI @OW @PG))))))))))))))))))))))))))))))))))))))) :=
 ⟨@gT,@hZ,@BX,@IS,@I4,@IZ,@JJ,@IP,@JS,@OS,@RW,@R8,@OT,@EA,@PB,@RV,@yY,@yU,@zC,@y4,@yQ,@zM,@AA,@iK,@mC,@mE,@mD,@l9,@mA,@mB,@nH,@nW,@nT,@nD,@iW,@nJ,@nX,@G9,@OW,@PG⟩
theorem TY10:type_of% (AI @OK (AI @OQ (AI @O8 (AI @OM (AI @UA (AI @Y0 (AI @X6 (AI @WP (AI @K5 (AI @UD (AI @ZJ (AI @X4 (AI @V6 (AI @YU (AI @aAa (AI @VS (AI @YR (AI @Z0 (AI @FQ (AI @I5 (AI @IX (AI @IK (AI @I9 (AI @IU (AI @aBF (AI @T5 (AI @ZK (AI @UO (AI @PR (AI @TZ (AI @ZX (AI @RE @UW)))))))))))))))))))))))))))))))) :=
 ⟨@OK,@OQ,@O8,@OM,@UA,@Y0,@X6,@WP,@K5,@UD,@ZJ,@X4,@V6,@YU,@aAa,@VS,@YR,@Z0,@FQ,@I5,@IX,@IK,@I9,@IU,@aBF,@T5,@ZK,@UO,@PR,@TZ,@ZX,@RE,@UW⟩
theorem TY:type_of% (AI @TY0 (AI @TY1 (AI @TY2 (AI @TY3 (AI @TY4 (AI @TY5 (AI @TY6 (AI @TY7 (AI @TY8 (AI @TY9 @TY10)))))))))) :=
 ⟨@TY0,@TY1,@TY2,@TY3,@TY4,@TY5,@TY6,@TY7,@TY8,@TY9,@TY10⟩
end Ev
end Go.Proofs.YtejmccgfigiadaaGreat
