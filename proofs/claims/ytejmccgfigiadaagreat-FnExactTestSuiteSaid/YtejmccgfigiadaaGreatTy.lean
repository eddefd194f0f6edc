/-
  What the types of the program are, as the evaluator asks. Written by a program.
-/
import Derived.Test.YtejmccgfigiadaaGreatEnvF
import Derived.Test.YtejmccgfigiadaaGreatEvWalk
set_option maxRecDepth 100000
namespace Go.Proofs.YtejmccgfigiadaaGreat
namespace Ev
def b8 (P:Program) (t:TypeId) (i:Nat):Option (Nat × Nat):=match P.underlying t with
 | some (.struct fields) => (fields.toList[i]?).map fun f => (f.offset,P.cellsOf f.type)
 | _ => none
def j4 (P:Program) (t:TypeId):Bool:=match P.underlying t with
 | some (.struct fields) => fields.toList.all fun f => (P.info? f.type).isSome
 | _ => false
theorem e7 {P:Program} {t:TypeId} {z:A} {parts:List (Nat × A)} (hs:j4 P t = true) (hz:bU P t = some z):jF P t parts = (fG (bA z) (parts.map fun p => (b8 P t p.1,p.2))).map .agg:=by
 unfold j4 at hs
 unfold jF b8
 rw [hz]
 cases hu:P.underlying t with
 | none => rw [hu] at hs; cases hs
 | some d =>
  rw [hu] at hs
  cases d <;> first | cases hs | skip
  simp only at hs ⊢
  rw [if_pos hs]
theorem aLP {P:Program} {t e:TypeId} {n c:Nat} {z:A} {parts:List (Nat × A)} (hu:P.underlying t = some (.array n e)) (hz:bU P t = some z) (hi:(P.info? e).isSome = true) (hc:P.cellsOf e = c):jF P t parts = (fG (bA z) (parts.map fun p => (some (p.1 * c,c),p.2))).map .agg:=by
 unfold jF
 rw [hz,hu]
 simp only [hi,if_true,hc]
theorem kR {P:Program} {h:H} {t u:TypeId} {K K1 K2:IntKind} {n:Int} (h1:P.underlying t = some (.int K1)) (h2:P.underlying u = some (.int K2)):eK P h t u (.d (.int K n)) = some (.d (.int K2 (K2.wrap n)),h):=by
 simp only [eK,h1,h2]
theorem aFz:env.P.underlying 2 = some (.int .i64):=kr
theorem aD7:bR env.P 2 = none:=kr
theorem aGR:env.P.cellsOf 2 = 1:=kr
theorem aG1:bT env.P 2 = true:=kr
theorem aC6:bV env.P 2 = some false:=kr
theorem aFV:bU env.P 2 = some (nI 0):=kr
theorem aFF:(env.P.info? 2).isSome = true:=kr
theorem wS:env.P.underlying 3 = some (.int .i64):=kr
theorem aJl:bR env.P 3 = none:=kr
theorem aEA:env.P.cellsOf 3 = 1:=kr
theorem aNB:bT env.P 3 = true:=kr
theorem aK9:bV env.P 3 = some false:=kr
theorem aLU:bU env.P 3 = some (nI 0):=kr
theorem aEm:(env.P.info? 3).isSome = true:=kr
theorem aJZ:env.P.underlying 4 = some .bool:=kr
theorem aHY:bR env.P 4 = none:=kr
theorem aJy:env.P.cellsOf 4 = 1:=kr
theorem aJT:bT env.P 4 = true:=kr
theorem aHH:bV env.P 4 = some false:=kr
theorem aKg:bU env.P 4 = some (.d (.bool false)):=kr
theorem aKE:(env.P.info? 4).isSome = true:=kr
theorem qO:env.P.underlying 5 = some (.int .u8):=kr
theorem aDz:bR env.P 5 = none:=kr
theorem aGJ:env.P.cellsOf 5 = 1:=kr
theorem aFC:bT env.P 5 = true:=kr
theorem aDS:bV env.P 5 = some false:=kr
theorem aFJ:bU env.P 5 = some (.d (.int .u8 0)):=kr
theorem aGa:(env.P.info? 5).isSome = true:=kr
theorem aDC:env.P.underlying 9 = some .string:=kr
theorem aBx:bR env.P 9 = none:=kr
theorem aDq:env.P.cellsOf 9 = 1:=kr
theorem aDs:bT env.P 9 = true:=kr
theorem aAE:bV env.P 9 = some false:=kr
theorem aD3:bU env.P 9 = some (.d (.str [])):=kr
theorem aD4:(env.P.info? 9).isSome = true:=kr
theorem aAr:env.P.underlying 12 = some (.int .u64):=kr
theorem Y3:bR env.P 12 = none:=kr
theorem aAB:env.P.cellsOf 12 = 1:=kr
theorem aB5:bT env.P 12 = true:=kr
theorem ZD:bV env.P 12 = some false:=kr
theorem aBr:bU env.P 12 = some (.d (.int .u64 0)):=kr
theorem aBk:(env.P.info? 12).isSome = true:=kr
theorem i8:j4 env.P 13 = true:=kr
theorem mY:bK env.P 13 0 = some (0,9):=kr
theorem m3:b8 env.P 13 0 = some (0,1):=kr
theorem mV:bK env.P 13 1 = some (1,12):=kr
theorem mU:b8 env.P 13 1 = some (1,1):=kr
theorem nZ:bR env.P 13 = none:=kr
theorem oF:env.P.cellsOf 13 = 2:=kr
theorem oA:bT env.P 13 = true:=kr
theorem nU:bV env.P 13 = some true:=kr
theorem jT:bU env.P 13 = some (.agg [.d (.str []),.d (.int .u64 0)]):=kr
theorem n5:(env.P.info? 13).isSome = true:=kr
theorem Q0:bR env.P 20 = none:=kr
theorem UL:env.P.cellsOf 20 = 1:=kr
theorem TQ:bT env.P 20 = true:=kr
theorem SA:bV env.P 20 = some false:=kr
theorem TU:bU env.P 20 = some (.d (.nili)):=kr
theorem TW:(env.P.info? 20).isSome = true:=kr
theorem aGe:env.P.underlying 21 = some (.int .i32):=kr
theorem aEg:bR env.P 21 = none:=kr
theorem aGh:env.P.cellsOf 21 = 1:=kr
theorem aG3:bT env.P 21 = true:=kr
theorem aDW:bV env.P 21 = some false:=kr
theorem aGD:bU env.P 21 = some (.d (.int .i32 0)):=kr
theorem aG4:(env.P.info? 21).isSome = true:=kr
theorem G5:env.P.underlying 22 = some (.slice 90):=kr
theorem Q3:bR env.P 22 = some 90:=by simp only [bR,G5]
theorem UE:env.P.cellsOf 22 = 1:=kr
theorem VA:bT env.P 22 = true:=kr
theorem QN:bV env.P 22 = some false:=kr
theorem TZ:bU env.P 22 = some (.d (.nils)):=kr
theorem UK:(env.P.info? 22).isSome = true:=kr
theorem NL:env.P.underlying 23 = some (.slice 4):=kr
theorem Y7:bR env.P 23 = some 4:=by simp only [bR,NL]
theorem aAY:env.P.cellsOf 23 = 1:=kr
theorem aAI:bT env.P 23 = true:=kr
theorem ZS:bV env.P 23 = some false:=kr
theorem aBa:bU env.P 23 = some (.d (.nils)):=kr
theorem aAs:(env.P.info? 23).isSome = true:=kr
theorem dW:j4 env.P 24 = true:=kr
theorem fZ:bK env.P 24 0 = some (0,3):=kr
theorem fY:b8 env.P 24 0 = some (0,1):=kr
theorem gA:bK env.P 24 1 = some (1,22):=kr
theorem f0:b8 env.P 24 1 = some (1,1):=kr
theorem f9:bK env.P 24 2 = some (2,23):=kr
theorem gB:b8 env.P 24 2 = some (2,1):=kr
theorem gN:bR env.P 24 = none:=kr
theorem hY:env.P.cellsOf 24 = 3:=kr
theorem g9:bT env.P 24 = true:=kr
theorem gQ:bV env.P 24 = some true:=kr
theorem d6:bU env.P 24 = some (.agg [nI 0,.d (.nils),.d (.nils)]):=kr
theorem hZ:(env.P.info? 24).isSome = true:=kr
theorem tR:j4 env.P 25 = true:=kr
theorem A0:bK env.P 25 0 = some (0,3):=kr
theorem zX:b8 env.P 25 0 = some (0,1):=kr
theorem AE:bK env.P 25 1 = some (1,22):=kr
theorem AJ:b8 env.P 25 1 = some (1,1):=kr
theorem AH:bK env.P 25 2 = some (2,23):=kr
theorem AA:b8 env.P 25 2 = some (2,1):=kr
theorem EY:bR env.P 25 = none:=kr
theorem GP:env.P.cellsOf 25 = 3:=kr
theorem GB:bT env.P 25 = true:=kr
theorem FR:bV env.P 25 = some true:=kr
theorem vP:bU env.P 25 = some (.agg [nI 0,.d (.nils),.d (.nils)]):=kr
theorem GO:(env.P.info? 25).isSome = true:=kr
theorem IB:env.P.underlying 27 = some (.slice 9):=kr
theorem RU:bR env.P 27 = some 9:=by simp only [bR,IB]
theorem VO:env.P.cellsOf 27 = 1:=kr
theorem T4:bT env.P 27 = true:=kr
theorem RT:bV env.P 27 = some false:=kr
theorem VK:bU env.P 27 = some (.d (.nils)):=kr
theorem VJ:(env.P.info? 27).isSome = true:=kr
theorem tV:j4 env.P 30 = true:=kr
theorem AV:bK env.P 30 0 = some (0,3):=kr
theorem zT:b8 env.P 30 0 = some (0,1):=kr
theorem zY:bK env.P 30 1 = some (1,22):=kr
theorem AG:b8 env.P 30 1 = some (1,1):=kr
theorem zR:bK env.P 30 2 = some (2,23):=kr
theorem zV:b8 env.P 30 2 = some (2,1):=kr
theorem ED:bR env.P 30 = none:=kr
theorem F6:env.P.cellsOf 30 = 3:=kr
theorem GL:bT env.P 30 = true:=kr
theorem DG:bV env.P 30 = some true:=kr
theorem vQ:bU env.P 30 = some (.agg [nI 0,.d (.nils),.d (.nils)]):=kr
theorem GS:(env.P.info? 30).isSome = true:=kr
theorem LC:env.P.underlying 41 = some (.slice 5):=kr
theorem T6:bR env.P 41 = some 5:=by simp only [bR,LC]
theorem ZN:env.P.cellsOf 41 = 1:=kr
theorem ZT:bT env.P 41 = true:=kr
theorem VV:bV env.P 41 = some false:=kr
theorem ZG:bU env.P 41 = some (.d (.nils)):=kr
theorem ZA:(env.P.info? 41).isSome = true:=kr
theorem EL:env.P.underlying 64 = some (.map 9 4):=kr
theorem CU:bR env.P 64 = none:=kr
theorem ER:env.P.cellsOf 64 = 1:=kr
theorem E6:bT env.P 64 = true:=kr
theorem C7:bV env.P 64 = some false:=kr
theorem EH:bU env.P 64 = some (.d (.nilm)):=kr
theorem E9:(env.P.info? 64).isSome = true:=kr
theorem CA:bR env.P 67 = none:=kr
theorem EN:env.P.cellsOf 67 = 1:=kr
theorem E1:bT env.P 67 = true:=kr
theorem C0:bV env.P 67 = some false:=kr
theorem FV:bU env.P 67 = some (.d (.nilfn)):=kr
theorem DE:(env.P.info? 67).isSome = true:=kr
theorem GH:env.P.underlying 72 = some (.pointer 101):=kr
theorem FG:bR env.P 72 = none:=kr
theorem GD:env.P.cellsOf 72 = 1:=kr
theorem GI:bT env.P 72 = true:=kr
theorem FP:bV env.P 72 = some false:=kr
theorem GX:bU env.P 72 = some (.d (.nilp)):=kr
theorem GJ:(env.P.info? 72).isSome = true:=kr
theorem tJ:env.P.underlying 82 = some (.int .u64):=kr
theorem aHJ:bR env.P 82 = none:=kr
theorem aJw:env.P.cellsOf 82 = 1:=kr
theorem aLc:bT env.P 82 = true:=kr
theorem aGN:bV env.P 82 = some false:=kr
theorem aJb:bU env.P 82 = some (.d (.int .u64 0)):=kr
theorem aJr:(env.P.info? 82).isSome = true:=kr
theorem SV:env.P.underlying 90 = some (.slice 3):=kr
theorem aBq:bR env.P 90 = some 3:=by simp only [bR,SV]
theorem aDD:env.P.cellsOf 90 = 1:=kr
theorem aEe:bT env.P 90 = true:=kr
theorem aBN:bV env.P 90 = some false:=kr
theorem aDc:bU env.P 90 = some (.d (.nils)):=kr
theorem aDx:(env.P.info? 90).isSome = true:=kr
theorem mM:j4 env.P 100 = true:=kr
theorem pZ:bK env.P 100 0 = some (0,41):=kr
theorem p3:b8 env.P 100 0 = some (0,1):=kr
theorem p4:bK env.P 100 1 = some (1,3):=kr
theorem pY:b8 env.P 100 1 = some (1,1):=kr
theorem rM:bR env.P 100 = none:=kr
theorem s7:env.P.cellsOf 100 = 2:=kr
theorem sB:bT env.P 100 = true:=kr
theorem rL:bV env.P 100 = some true:=kr
theorem nD:bU env.P 100 = some (.agg [.d (.nils),nI 0]):=kr
theorem tE:(env.P.info? 100).isSome = true:=kr
theorem BH:j4 env.P 101 = true:=kr
theorem JY:bK env.P 101 0 = some (0,41):=kr
theorem J6:b8 env.P 101 0 = some (0,1):=kr
theorem KF:bK env.P 101 1 = some (1,3):=kr
theorem J4:b8 env.P 101 1 = some (1,1):=kr
theorem OC:bR env.P 101 = none:=kr
theorem QJ:env.P.cellsOf 101 = 2:=kr
theorem SF:bT env.P 101 = true:=kr
theorem NN:bV env.P 101 = some true:=kr
theorem FX:bU env.P 101 = some (.agg [.d (.nils),nI 0]):=kr
theorem QR:(env.P.info? 101).isSome = true:=kr
theorem E8:env.P.underlying 111 = some (.slice 113):=kr
theorem NV:bR env.P 111 = some 113:=by simp only [bR,E8]
theorem QW:env.P.cellsOf 111 = 1:=kr
theorem RG:bT env.P 111 = true:=kr
theorem PG:bV env.P 111 = some false:=kr
theorem QM:bU env.P 111 = some (.d (.nils)):=kr
theorem QG:(env.P.info? 111).isSome = true:=kr
theorem P3:env.P.underlying 113 = some (.array 6 3):=kr
theorem ZP:bR env.P 113 = none:=kr
theorem aAX:env.P.cellsOf 113 = 6:=kr
theorem aCe:bT env.P 113 = true:=kr
theorem YU:bV env.P 113 = some true:=kr
theorem PP:bU env.P 113 = some (.agg [nI 0,nI 0,nI 0,nI 0,nI 0,nI 0]):=kr
theorem aCc:(env.P.info? 113).isSome = true:=kr
theorem rI:env.P.underlying 119 = some (.slice 30):=kr
theorem y9:bR env.P 119 = some 30:=by simp only [bR,rI]
theorem AM:env.P.cellsOf 119 = 1:=kr
theorem AO:bT env.P 119 = true:=kr
theorem zC:bV env.P 119 = some false:=kr
theorem AL:bU env.P 119 = some (.d (.nils)):=kr
theorem AT:(env.P.info? 119).isSome = true:=kr
theorem vL:env.P.underlying 120 = some (.slice 169):=kr
theorem DP:bR env.P 120 = some 169:=by simp only [bR,vL]
theorem GN:env.P.cellsOf 120 = 1:=kr
theorem F7:bT env.P 120 = true:=kr
theorem D8:bV env.P 120 = some false:=kr
theorem GE:bU env.P 120 = some (.d (.nils)):=kr
theorem GA:(env.P.info? 120).isSome = true:=kr
theorem bP:j4 env.P 121 = true:=kr
theorem cH:bK env.P 121 0 = some (0,120):=kr
theorem b9:b8 env.P 121 0 = some (0,1):=kr
theorem cE:bK env.P 121 1 = some (1,119):=kr
theorem cL:b8 env.P 121 1 = some (1,1):=kr
theorem cI:bK env.P 121 2 = some (2,90):=kr
theorem cK:b8 env.P 121 2 = some (2,1):=kr
theorem cF:bK env.P 121 3 = some (3,3):=kr
theorem cM:b8 env.P 121 3 = some (3,1):=kr
theorem cD:bK env.P 121 4 = some (4,3):=kr
theorem cA:b8 env.P 121 4 = some (4,1):=kr
theorem cJ:bK env.P 121 5 = some (5,3):=kr
theorem cG:b8 env.P 121 5 = some (5,1):=kr
theorem cO:bR env.P 121 = none:=kr
theorem cU:env.P.cellsOf 121 = 6:=kr
theorem cT:bT env.P 121 = true:=kr
theorem cP:bV env.P 121 = some true:=kr
theorem bQ:bU env.P 121 = some (.agg [.d (.nils),.d (.nils),.d (.nils),nI 0,nI 0,nI 0]):=kr
theorem cR:(env.P.info? 121).isSome = true:=kr
theorem BW:j4 env.P 122 = true:=kr
theorem JK:bK env.P 122 0 = some (0,120):=kr
theorem JO:b8 env.P 122 0 = some (0,1):=kr
theorem I7:bK env.P 122 1 = some (1,119):=kr
theorem JT:b8 env.P 122 1 = some (1,1):=kr
theorem KK:bK env.P 122 2 = some (2,90):=kr
theorem KA:b8 env.P 122 2 = some (2,1):=kr
theorem JD:bK env.P 122 3 = some (3,3):=kr
theorem J1:b8 env.P 122 3 = some (3,1):=kr
theorem JH:bK env.P 122 4 = some (4,3):=kr
theorem I6:b8 env.P 122 4 = some (4,1):=kr
theorem JG:bK env.P 122 5 = some (5,3):=kr
theorem J7:b8 env.P 122 5 = some (5,1):=kr
theorem NO:bR env.P 122 = none:=kr
theorem SI:env.P.cellsOf 122 = 6:=kr
theorem RE:bT env.P 122 = true:=kr
theorem OL:bV env.P 122 = some true:=kr
theorem FF:bU env.P 122 = some (.agg [.d (.nils),.d (.nils),.d (.nils),nI 0,nI 0,nI 0]):=kr
theorem R8:(env.P.info? 122).isSome = true:=kr
theorem AX:env.P.underlying 126 = some (.int .i64):=kr
theorem y5:bR env.P 126 = none:=kr
theorem AF:env.P.cellsOf 126 = 1:=kr
theorem AQ:bT env.P 126 = true:=kr
theorem zA:bV env.P 126 = some false:=kr
theorem zS:bU env.P 126 = some (nI 0):=kr
theorem AZ:(env.P.info? 126).isSome = true:=kr
theorem aDH:env.P.underlying 134 = some (.int .u32):=kr
theorem aB1:bR env.P 134 = none:=kr
theorem aDV:env.P.cellsOf 134 = 1:=kr
theorem aD2:bT env.P 134 = true:=kr
theorem aBc:bV env.P 134 = some false:=kr
theorem aDM:bU env.P 134 = some (.d (.int .u32 0)):=kr
theorem aDI:(env.P.info? 134).isSome = true:=kr
theorem aC8:env.P.underlying 136 = some (.int .u64):=kr
theorem aAu:bR env.P 136 = none:=kr
theorem aEb:env.P.cellsOf 136 = 1:=kr
theorem aDo:bT env.P 136 = true:=kr
theorem aA6:bV env.P 136 = some false:=kr
theorem aDj:bU env.P 136 = some (.d (.int .u64 0)):=kr
theorem aEd:(env.P.info? 136).isSome = true:=kr
theorem p5:env.P.underlying 144 = some (.slice 146):=kr
theorem xP:bR env.P 144 = some 146:=by simp only [bR,p5]
theorem zE:env.P.cellsOf 144 = 1:=kr
theorem y7:bT env.P 144 = true:=kr
theorem wY:bV env.P 144 = some false:=kr
theorem y4:bU env.P 144 = some (.d (.nils)):=kr
theorem zF:(env.P.info? 144).isSome = true:=kr
theorem fD:j4 env.P 145 = true:=kr
theorem iS:bK env.P 145 0 = some (0,3):=kr
theorem iU:b8 env.P 145 0 = some (0,1):=kr
theorem iW:bK env.P 145 1 = some (1,3):=kr
theorem iR:b8 env.P 145 1 = some (1,1):=kr
theorem iV:bK env.P 145 2 = some (2,90):=kr
theorem iX:b8 env.P 145 2 = some (2,1):=kr
theorem jL:bR env.P 145 = none:=kr
theorem jX:env.P.cellsOf 145 = 3:=kr
theorem jW:bT env.P 145 = true:=kr
theorem jM:bV env.P 145 = some true:=kr
theorem fI:bU env.P 145 = some (.agg [nI 0,nI 0,.d (.nils)]):=kr
theorem jV:(env.P.info? 145).isSome = true:=kr
theorem sZ:j4 env.P 146 = true:=kr
theorem y8:bK env.P 146 0 = some (0,3):=kr
theorem zG:b8 env.P 146 0 = some (0,1):=kr
theorem zD:bK env.P 146 1 = some (1,3):=kr
theorem y6:b8 env.P 146 1 = some (1,1):=kr
theorem y3:bK env.P 146 2 = some (2,90):=kr
theorem zB:b8 env.P 146 2 = some (2,1):=kr
theorem CI:bR env.P 146 = none:=kr
theorem FH:env.P.cellsOf 146 = 3:=kr
theorem FZ:bT env.P 146 = true:=kr
theorem CY:bV env.P 146 = some true:=kr
theorem uB:bU env.P 146 = some (.agg [nI 0,nI 0,.d (.nils)]):=kr
theorem EA:(env.P.info? 146).isSome = true:=kr
theorem zM:env.P.underlying 151 = some (.slice 22):=kr
theorem J8:bR env.P 151 = some 22:=by simp only [bR,zM]
theorem MA:env.P.cellsOf 151 = 1:=kr
theorem LV:bT env.P 151 = true:=kr
theorem KN:bV env.P 151 = some false:=kr
theorem L1:bU env.P 151 = some (.d (.nils)):=kr
theorem LX:(env.P.info? 151).isSome = true:=kr
theorem D2:env.P.underlying 159 = some (.int .u64):=kr
theorem CP:bR env.P 159 = none:=kr
theorem EW:env.P.cellsOf 159 = 1:=kr
theorem F1:bT env.P 159 = true:=kr
theorem CX:bV env.P 159 = some false:=kr
theorem FJ:bU env.P 159 = some (.d (.int .u64 0)):=kr
theorem D5:(env.P.info? 159).isSome = true:=kr
theorem aBd:env.P.underlying 163 = some (.pointer 3):=kr
theorem YP:bR env.P 163 = none:=kr
theorem aAF:env.P.cellsOf 163 = 1:=kr
theorem aBs:bT env.P 163 = true:=kr
theorem X2:bV env.P 163 = some false:=kr
theorem aBn:bU env.P 163 = some (.d (.nilp)):=kr
theorem aAp:(env.P.info? 163).isSome = true:=kr
theorem zN:env.P.underlying 167 = some (.slice 179):=kr
theorem KL:bR env.P 167 = some 179:=by simp only [bR,zN]
theorem LL:env.P.cellsOf 167 = 1:=kr
theorem L8:bT env.P 167 = true:=kr
theorem JS:bV env.P 167 = some false:=kr
theorem L2:bU env.P 167 = some (.d (.nils)):=kr
theorem LU:(env.P.info? 167).isSome = true:=kr
theorem dZ:j4 env.P 168 = true:=kr
theorem fT:bK env.P 168 0 = some (0,3):=kr
theorem fU:b8 env.P 168 0 = some (0,1):=kr
theorem fW:bK env.P 168 1 = some (1,3):=kr
theorem fX:b8 env.P 168 1 = some (1,1):=kr
theorem fS:bK env.P 168 2 = some (2,167):=kr
theorem fV:b8 env.P 168 2 = some (2,1):=kr
theorem gP:bR env.P 168 = none:=kr
theorem g8:env.P.cellsOf 168 = 3:=kr
theorem gY:bT env.P 168 = true:=kr
theorem gT:bV env.P 168 = some true:=kr
theorem d5:bU env.P 168 = some (.agg [nI 0,nI 0,.d (.nils)]):=kr
theorem gZ:(env.P.info? 168).isSome = true:=kr
theorem zO:j4 env.P 169 = true:=kr
theorem GW:bK env.P 169 0 = some (0,3):=kr
theorem F8:b8 env.P 169 0 = some (0,1):=kr
theorem GG:bK env.P 169 1 = some (1,3):=kr
theorem GZ:b8 env.P 169 1 = some (1,1):=kr
theorem GM:bK env.P 169 2 = some (2,167):=kr
theorem GU:b8 env.P 169 2 = some (2,1):=kr
theorem LW:bR env.P 169 = none:=kr
theorem OH:env.P.cellsOf 169 = 3:=kr
theorem O2:bT env.P 169 = true:=kr
theorem MB:bV env.P 169 = some true:=kr
theorem BE:bU env.P 169 = some (.agg [nI 0,nI 0,.d (.nils)]):=kr
theorem PN:(env.P.info? 169).isSome = true:=kr
theorem x8:env.P.underlying 173 = some (.pointer 159):=kr
theorem wG:bR env.P 173 = none:=kr
theorem xH:env.P.cellsOf 173 = 1:=kr
theorem x3:bT env.P 173 = true:=kr
theorem wH:bV env.P 173 = some false:=kr
theorem xA:bU env.P 173 = some (.d (.nilp)):=kr
theorem xS:(env.P.info? 173).isSome = true:=kr
theorem iD:j4 env.P 178 = true:=kr
theorem k9:bK env.P 178 0 = some (0,3):=kr
theorem lC:b8 env.P 178 0 = some (0,1):=kr
theorem lB:bK env.P 178 1 = some (1,3):=kr
theorem lE:b8 env.P 178 1 = some (1,1):=kr
theorem lA:bK env.P 178 2 = some (2,3):=kr
theorem lD:b8 env.P 178 2 = some (2,1):=kr
theorem mI:bR env.P 178 = none:=kr
theorem mX:env.P.cellsOf 178 = 3:=kr
theorem m2:bT env.P 178 = true:=kr
theorem mD:bV env.P 178 = some true:=kr
theorem iM:bU env.P 178 = some (.agg [nI 0,nI 0,nI 0]):=kr
theorem mT:(env.P.info? 178).isSome = true:=kr
theorem DU:j4 env.P 179 = true:=kr
theorem LT:bK env.P 179 0 = some (0,3):=kr
theorem L9:b8 env.P 179 0 = some (0,1):=kr
theorem LR:bK env.P 179 1 = some (1,3):=kr
theorem ME:b8 env.P 179 1 = some (1,1):=kr
theorem LZ:bK env.P 179 2 = some (2,3):=kr
theorem L4:b8 env.P 179 2 = some (2,1):=kr
theorem RX:bR env.P 179 = none:=kr
theorem T3:env.P.cellsOf 179 = 3:=kr
theorem VS:bT env.P 179 = true:=kr
theorem RA:bV env.P 179 = some true:=kr
theorem HC:bU env.P 179 = some (.agg [nI 0,nI 0,nI 0]):=kr
theorem UF:(env.P.info? 179).isSome = true:=kr
theorem T9:env.P.underlying 190 = some (.pointer 5):=kr
theorem QX:bR env.P 190 = none:=kr
theorem U7:env.P.cellsOf 190 = 1:=kr
theorem VU:bT env.P 190 = true:=kr
theorem QV:bV env.P 190 = some false:=kr
theorem TM:bU env.P 190 = some (.d (.nilp)):=kr
theorem US:(env.P.info? 190).isSome = true:=kr
theorem FQ:bR env.P 195 = none:=kr
theorem GY:env.P.cellsOf 195 = 1:=kr
theorem GK:bT env.P 195 = true:=kr
theorem FB:bV env.P 195 = some false:=kr
theorem GF:bU env.P 195 = some (.d (.nilp)):=kr
theorem GR:(env.P.info? 195).isSome = true:=kr
theorem nQ:∀ parts,jF env.P 13 parts = (fG (bA (.agg [.d (.str []),.d (.int .u64 0)])) (parts.map fun p => (b8 env.P 13 p.1,p.2))).map .agg:=fun _ => e7 i8 jT
theorem gU:∀ parts,jF env.P 24 parts = (fG (bA (.agg [nI 0,.d (.nils),.d (.nils)])) (parts.map fun p => (b8 env.P 24 p.1,p.2))).map .agg:=fun _ => e7 dW d6
theorem F2:∀ parts,jF env.P 25 parts = (fG (bA (.agg [nI 0,.d (.nils),.d (.nils)])) (parts.map fun p => (b8 env.P 25 p.1,p.2))).map .agg:=fun _ => e7 tR vP
theorem DD:∀ parts,jF env.P 30 parts = (fG (bA (.agg [nI 0,.d (.nils),.d (.nils)])) (parts.map fun p => (b8 env.P 30 p.1,p.2))).map .agg:=fun _ => e7 tV vQ
theorem rN:∀ parts,jF env.P 100 parts = (fG (bA (.agg [.d (.nils),nI 0])) (parts.map fun p => (b8 env.P 100 p.1,p.2))).map .agg:=fun _ => e7 mM nD
theorem P5:∀ parts,jF env.P 101 parts = (fG (bA (.agg [.d (.nils),nI 0])) (parts.map fun p => (b8 env.P 101 p.1,p.2))).map .agg:=fun _ => e7 BH FX
theorem YT:∀ parts,jF env.P 113 parts = (fG (bA (.agg [nI 0,nI 0,nI 0,nI 0,nI 0,nI 0])) (parts.map fun p => (some (p.1 * 1,1),p.2))).map .agg:=fun _ => aLP P3 PP aEm aEA
theorem cN:∀ parts,jF env.P 121 parts = (fG (bA (.agg [.d (.nils),.d (.nils),.d (.nils),nI 0,nI 0,nI 0])) (parts.map fun p => (b8 env.P 121 p.1,p.2))).map .agg:=fun _ => e7 bP bQ
theorem PC:∀ parts,jF env.P 122 parts = (fG (bA (.agg [.d (.nils),.d (.nils),.d (.nils),nI 0,nI 0,nI 0])) (parts.map fun p => (b8 env.P 122 p.1,p.2))).map .agg:=fun _ => e7 BW FF
theorem jN:∀ parts,jF env.P 145 parts = (fG (bA (.agg [nI 0,nI 0,.d (.nils)])) (parts.map fun p => (b8 env.P 145 p.1,p.2))).map .agg:=fun _ => e7 fD fI
theorem CN:∀ parts,jF env.P 146 parts = (fG (bA (.agg [nI 0,nI 0,.d (.nils)])) (parts.map fun p => (b8 env.P 146 p.1,p.2))).map .agg:=fun _ => e7 sZ uB
theorem gO:∀ parts,jF env.P 168 parts = (fG (bA (.agg [nI 0,nI 0,.d (.nils)])) (parts.map fun p => (b8 env.P 168 p.1,p.2))).map .agg:=fun _ => e7 dZ d5
theorem LQ:∀ parts,jF env.P 169 parts = (fG (bA (.agg [nI 0,nI 0,.d (.nils)])) (parts.map fun p => (b8 env.P 169 p.1,p.2))).map .agg:=fun _ => e7 zO BE
theorem mH:∀ parts,jF env.P 178 parts = (fG (bA (.agg [nI 0,nI 0,nI 0])) (parts.map fun p => (b8 env.P 178 p.1,p.2))).map .agg:=fun _ => e7 iD iM
theorem QP:∀ parts,jF env.P 179 parts = (fG (bA (.agg [nI 0,nI 0,nI 0])) (parts.map fun p => (b8 env.P 179 p.1,p.2))).map .agg:=fun _ => e7 DU HC
theorem YN {h:H} {n:Int} {K:IntKind}:eK env.P h 3 3 (.d (.int K n)) = some (nI (IntKind.wrap .i64 n),h):=kR wS wS
theorem RD {h:H} {n:Int} {K:IntKind}:eK env.P h 3 5 (.d (.int K n)) = some (.d (.int .u8 (IntKind.wrap .u8 n)),h):=kR wS qO
theorem TP {h:H} {n:Int} {K:IntKind}:eK env.P h 3 82 (.d (.int K n)) = some (.d (.int .u64 (IntKind.wrap .u64 n)),h):=kR wS tJ
theorem SJ {h:H} {n:Int} {K:IntKind}:eK env.P h 5 3 (.d (.int K n)) = some (nI (IntKind.wrap .i64 n),h):=kR qO wS
theorem L6 {h:H} {n:Int} {K:IntKind}:eK env.P h 5 5 (.d (.int K n)) = some (.d (.int .u8 (IntKind.wrap .u8 n)),h):=kR qO qO
theorem OQ {h:H} {n:Int} {K:IntKind}:eK env.P h 5 82 (.d (.int K n)) = some (.d (.int .u64 (IntKind.wrap .u64 n)),h):=kR qO tJ
theorem UH {h:H} {n:Int} {K:IntKind}:eK env.P h 82 3 (.d (.int K n)) = some (nI (IntKind.wrap .i64 n),h):=kR tJ wS
theorem PL {h:H} {n:Int} {K:IntKind}:eK env.P h 82 5 (.d (.int K n)) = some (.d (.int .u8 (IntKind.wrap .u8 n)),h):=kR tJ qO
theorem Q4 {h:H} {n:Int} {K:IntKind}:eK env.P h 82 82 (.d (.int K n)) = some (.d (.int .u64 (IntKind.wrap .u64 n)),h):=kR tJ tJ
theorem TY0:type_of% (AI @aFz (AI @aD7 (AI @aGR (AI @aG1 (AI @aC6 (AI @aFV (AI @aFF (AI @wS (AI @aJl (AI @aEA (AI @aNB (AI @aK9 (AI @aLU (AI @aEm (AI @aJZ (AI @aHY (AI @aJy (AI @aJT (AI @aHH (AI @aKg (AI @aKE (AI @qO (AI @aDz (AI @aGJ (AI @aFC (AI @aDS (AI @aFJ (AI @aGa (AI @aDC (AI @aBx (AI @aDq (AI @aDs (AI @aAE (AI @aD3 (AI @aD4 (AI @aAr (AI @Y3 (AI @aAB (AI @aB5 @ZD))))))))))))))))))))))))))))))))))))))) :=
 ⟨@aFz,@aD7,@aGR,@aG1,@aC6,@aFV,@aFF,@wS,@aJl,@aEA,@aNB,@aK9,@aLU,@aEm,@aJZ,@aHY,@aJy,@aJT,@aHH,@aKg,@aKE,@qO,@aDz,@aGJ,@aFC,@aDS,@aFJ,@aGa,@aDC,@aBx,@aDq,@aDs,@aAE,@aD3,@aD4,@aAr,@Y3,@aAB,@aB5,@ZD⟩
theorem TY1:type_of% (AI @aBr (AI @aBk (AI @i8 (AI @mY (AI @m3 (AI @mV (AI @mU (AI @nZ (AI @oF (AI @oA (AI @nU (AI @jT (AI @nQ (AI @n5 (AI @Q0 (AI @UL (AI @TQ (AI @SA (AI @TU (AI @TW (AI @aGe (AI @aEg (AI @aGh (AI @aG3 (AI @aDW (AI @aGD (AI @aG4 (AI @G5 (AI @Q3 (AI @UE (AI @VA (AI @QN (AI @TZ (AI @UK (AI @NL (AI @Y7 (AI @aAY (AI @aAI (AI @ZS @aBa))))))))))))))))))))))))))))))))))))))) :=
 ⟨@aBr,@aBk,@i8,@mY,@m3,@mV,@mU,@nZ,@oF,@oA,@nU,@jT,@nQ,@n5,@Q0,@UL,@TQ,@SA,@TU,@TW,@aGe,@aEg,@aGh,@aG3,@aDW,@aGD,@aG4,@G5,@Q3,@UE,@VA,@QN,@TZ,@UK,@NL,@Y7,@aAY,@aAI,@ZS,@aBa⟩
theorem TY2:type_of% (AI @aAs (AI @dW (AI @fZ (AI @fY (AI @gA (AI @f0 (AI @f9 (AI @gB (AI @gN (AI @hY (AI @g9 (AI @gQ (AI @d6 (AI @gU (AI @hZ (AI @tR (AI @A0 (AI @zX (AI @AE (AI @AJ (AI @AH (AI @AA (AI @EY (AI @GP (AI @GB (AI @FR (AI @vP (AI @F2 (AI @GO (AI @IB (AI @RU (AI @VO (AI @T4 (AI @RT (AI @VK (AI @VJ (AI @tV (AI @AV (AI @zT @zY))))))))))))))))))))))))))))))))))))))) :=
 ⟨@aAs,@dW,@fZ,@fY,@gA,@f0,@f9,@gB,@gN,@hY,@g9,@gQ,@d6,@gU,@hZ,@tR,@A0,@zX,@AE,@AJ,@AH,@AA,@EY,@GP,@GB,@FR,@vP,@F2,@GO,@IB,@RU,@VO,@T4,@RT,@VK,@VJ,@tV,@AV,@zT,@zY⟩
theorem TY3:type_of% (AI @AG (AI @zR (AI @zV (AI @ED (AI @F6 (AI @GL (AI @DG (AI @vQ (AI @DD (AI @GS (AI @LC (AI @T6 (AI @ZN (AI @ZT (AI @VV (AI @ZG (AI @ZA (AI @EL (AI @CU (AI @ER (AI @E6 (AI @C7 (AI @EH (AI @E9 (AI @CA (AI @EN (AI @E1 (AI @C0 (AI @FV (AI @DE (AI @GH (AI @FG (AI @GD (AI @GI (AI @FP (AI @GX (AI @GJ (AI @tJ (AI @aHJ @aJw))))))))))))))))))))))))))))))))))))))) :=
 ⟨@AG,@zR,@zV,@ED,@F6,@GL,@DG,@vQ,@DD,@GS,@LC,@T6,@ZN,@ZT,@VV,@ZG,@ZA,@EL,@CU,@ER,@E6,@C7,@EH,@E9,@CA,@EN,@E1,@C0,@FV,@DE,@GH,@FG,@GD,@GI,@FP,@GX,@GJ,@tJ,@aHJ,@aJw⟩
theorem TY4:type_of% (AI @aLc (AI @aGN (AI @aJb (AI @aJr (AI @SV (AI @aBq (AI @aDD (AI @aEe (AI @aBN (AI @aDc (AI @aDx (AI @mM (AI @pZ (AI @p3 (AI @p4 (AI @pY (AI @rM (AI @s7 (AI @sB (AI @rL (AI @nD (AI @rN (AI @tE (AI @BH (AI @JY (AI @J6 (AI @KF (AI @J4 (AI @OC (AI @QJ (AI @SF (AI @NN (AI @FX (AI @P5 (AI @QR (AI @E8 (AI @NV (AI @QW (AI @RG @PG))))))))))))))))))))))))))))))))))))))) :=
 ⟨@aLc,@aGN,@aJb,@aJr,@SV,@aBq,@aDD,@aEe,@aBN,@aDc,@aDx,@mM,@pZ,@p3,@p4,@pY,@rM,@s7,@sB,@rL,@nD,@rN,@tE,@BH,@JY,@J6,@KF,@J4,@OC,@QJ,@SF,@NN,@FX,@P5,@QR,@E8,@NV,@QW,@RG,@PG⟩
theorem TY5:type_of% (AI @QM (AI @QG (AI @P3 (AI @ZP (AI @aAX (AI @aCe (AI @YU (AI @PP (AI @YT (AI @aCc (AI @rI (AI @y9 (AI @AM (AI @AO (AI @zC (AI @AL (AI @AT (AI @vL (AI @DP (AI @GN (AI @F7 (AI @D8 (AI @GE (AI @GA (AI @bP (AI @cH (AI @b9 (AI @cE (AI @cL (AI @cI (AI @cK (AI @cF (AI @cM (AI @cD (AI @cA (AI @cJ (AI @cG (AI @cO (AI @cU @cT))))))))))))))))))))))))))))))))))))))) :=
 ⟨@QM,@QG,@P3,@ZP,@aAX,@aCe,@YU,@PP,@YT,@aCc,@rI,@y9,@AM,@AO,@zC,@AL,@AT,@vL,@DP,@GN,@F7,@D8,@GE,@GA,@bP,@cH,@b9,@cE,@cL,@cI,@cK,@cF,@cM,@cD,@cA,@cJ,@cG,@cO,@cU,@cT⟩
theorem TY6:type_of% (AI @cP (AI @bQ (AI @cN (AI @cR (AI @BW (AI @JK (AI @JO (AI @I7 (AI @JT (AI @KK (AI @KA (AI @JD (AI @J1 (AI @JH (AI @I6 (AI @JG (AI @J7 (AI @NO (AI @SI (AI @RE (AI @OL (AI @FF (AI @PC (AI @R8 (AI @AX (AI @y5 (AI @AF (AI @AQ (AI @zA (AI @zS (AI @AZ (AI @aDH (AI @aB1 (AI @aDV (AI @aD2 (AI @aBc (AI @aDM (AI @aDI (AI @aC8 @aAu))))))))))))))))))))))))))))))))))))))) :=
 ⟨@cP,@bQ,@cN,@cR,@BW,@JK,@JO,@I7,@JT,@KK,@KA,@JD,@J1,@JH,@I6,@JG,@J7,@NO,@SI,@RE,@OL,@FF,@PC,@R8,@AX,@y5,@AF,@AQ,@zA,@zS,@AZ,@aDH,@aB1,@aDV,@aD2,@aBc,@aDM,@aDI,@aC8,@aAu⟩
theorem TY7:type_of% (AI @aEb (AI @aDo (AI @aA6 (AI @aDj (AI @aEd (AI @p5 (AI @xP (AI @zE (AI @y7 (AI @wY (AI @y4 (AI @zF (AI @fD (AI @iS (AI @iU (AI @iW (AI @iR (AI @iV (AI @iX (AI @jL (AI @jX (AI @jW (AI @jM (AI @fI (AI @jN (AI @jV (AI @sZ (AI @y8 (AI @zG (AI @zD (AI @y6 (AI @y3 (AI @zB (AI @CI (AI @FH (AI @FZ (AI @CY (AI @uB (AI @CN @EA))))))))))))))))))))))))))))))))))))))) :=
 ⟨@aEb,@aDo,@aA6,@aDj,@aEd,@p5,@xP,@zE,@y7,@wY,@y4,@zF,@fD,@iS,@iU,@iW,@iR,@iV,@iX,@jL,@jX,@jW,@jM,@fI,@jN,@jV,@sZ,@y8,@zG,@zD,@y6,@y3,@zB,@CI,@FH,@FZ,@CY,@uB,@CN,@EA⟩
theorem TY8:type_of% (AI @zM (AI @J8 (AI @MA (AI @LV (AI @KN (AI @L1 (AI @LX (AI @D2 (AI @CP (AI @EW (AI @F1 (AI @CX (AI @FJ (AI @D5 (AI @aBd (AI @YP (AI @aAF (AI @aBs (AI @X2 (AI @aBn (AI @aAp (AI @zN (AI @KL (AI @LL (AI @L8 (AI @JS (AI @L2 (AI @LU (AI @dZ (AI @fT (AI @fU (AI @fW (AI @fX (AI @fS (AI @fV (AI @gP (AI @g8 (AI @gY (AI @gT @d5))))))))))))))))))))))))))))))))))))))) :=
 ⟨@zM,@J8,@MA,@LV,@KN,@L1,@LX,@D2,@CP,@EW,@F1,@CX,@FJ,@D5,@aBd,@YP,@aAF,@aBs,@X2,@aBn,@aAp,@zN,@KL,@LL,@L8,@JS,@L2,@LU,@dZ,@fT,@fU,@fW,@fX,@fS,@fV,@gP,@g8,@gY,@gT,@d5⟩
theorem TY9:type_of% (AI @gO (AI @gZ (AI @zO (AI @GW (AI @F8 (AI @GG (AI @GZ (AI @GM (AI @GU (AI @LW (AI @OH (AI @O2 (AI @MB (AI @BE (AI @LQ (AI @PN (AI @x8 (AI @wG (AI @xH (AI @x3 (AI @wH (AI @xA (AI @xS (AI @iD (AI @k9 (AI @lC (AI @lB (AI @lE (AI @lA (AI @lD (AI @mI (AI @mX (AI @m2 (AI @mD (AI @iM (AI @mH (AI @mT (AI @DU (AI @LT @L9))))))))))))))))))))))))))))))))))))))) :=
 ⟨@gO,@gZ,@zO,@GW,@F8,@GG,@GZ,@GM,@GU,@LW,@OH,@O2,@MB,@BE,@LQ,@PN,@x8,@wG,@xH,@x3,@wH,@xA,@xS,@iD,@k9,@lC,@lB,@lE,@lA,@lD,@mI,@mX,@m2,@mD,@iM,@mH,@mT,@DU,@LT,@L9⟩
theorem TY10:type_of% (AI @LR (AI @ME (AI @LZ (AI @L4 (AI @RX (AI @T3 (AI @VS (AI @RA (AI @HC (AI @QP (AI @UF (AI @T9 (AI @QX (AI @U7 (AI @VU (AI @QV (AI @TM (AI @US (AI @FQ (AI @GY (AI @GK (AI @FB (AI @GF (AI @GR (AI @YN (AI @RD (AI @TP (AI @SJ (AI @L6 (AI @OQ (AI @UH (AI @PL @Q4)))))))))))))))))))))))))))))))) :=
 ⟨@LR,@ME,@LZ,@L4,@RX,@T3,@VS,@RA,@HC,@QP,@UF,@T9,@QX,@U7,@VU,@QV,@TM,@US,@FQ,@GY,@GK,@FB,@GF,@GR,@YN,@RD,@TP,@SJ,@L6,@OQ,@UH,@PL,@Q4⟩
theorem TY:type_of% (AI @TY0 (AI @TY1 (AI @TY2 (AI @TY3 (AI @TY4 (AI @TY5 (AI @TY6 (AI @TY7 (AI @TY8 (AI @TY9 @TY10)))))))))) :=
 ⟨@TY0,@TY1,@TY2,@TY3,@TY4,@TY5,@TY6,@TY7,@TY8,@TY9,@TY10⟩
end Ev
end Go.Proofs.YtejmccgfigiadaaGreat
