/-
  What the types of the program are, as the evaluator asks. Written by a program.
-/
import Derived.Test.YtejmccgfigiadaaGreatEnvF
import Derived.Test.YtejmccgfigiadaaGreatEvWalk
set_option maxRecDepth 100000
namespace Go.Proofs.YtejmccgfigiadaaGreat
namespace Ev
def cB (P:Program) (t:TypeId) (i:Nat):Option (Nat × Nat):=match P.underlying t with
 | some (.struct fields) => (fields.toList[i]?).map fun f => (f.offset,P.cellsOf f.type)
 | _ => none
def kX (P:Program) (t:TypeId):Bool:=match P.underlying t with
 | some (.struct fields) => fields.toList.all fun f => (P.info? f.type).isSome
 | _ => false
theorem e7 {P:Program} {t:TypeId} {z:A} {parts:List (Nat × A)} (hs:kX P t = true) (hz:bW P t = some z):kC P t parts = (fH (a6 z) (parts.map fun p => (cB P t p.1,p.2))).map .agg:=by
 unfold kX at hs
 unfold kC cB
 rw [hz]
 cases hu:P.underlying t with
 | none => rw [hu] at hs; cases hs
 | some d =>
  rw [hu] at hs
  cases d <;> first | cases hs | skip
  simp only at hs ⊢
  rw [if_pos hs]
theorem aPb {P:Program} {t e:TypeId} {n c:Nat} {z:A} {parts:List (Nat × A)} (hu:P.underlying t = some (.array n e)) (hz:bW P t = some z) (hi:(P.info? e).isSome = true) (hc:P.cellsOf e = c):kC P t parts = (fH (a6 z) (parts.map fun p => (some (p.1 * c,c),p.2))).map .agg:=by
 unfold kC
 rw [hz,hu]
 simp only [hi,if_true,hc]
theorem lZ {P:Program} {h:H} {t u:TypeId} {K K1 K2:IntKind} {n:Int} (h1:P.underlying t = some (.int K1)) (h2:P.underlying u = some (.int K2)):eP P h t u (.d (.int K n)) = some (.d (.int K2 (K2.wrap n)),h):=by
 simp only [eP,h1,h2]
theorem aJU:env.P.underlying 2 = some (.int .i64):=kr
theorem aGr:bP env.P 2 = none:=kr
theorem aIU:env.P.cellsOf 2 = 1:=kr
theorem aH7:bU env.P 2 = true:=kr
theorem aFu:bX env.P 2 = some false:=kr
theorem aIM:bW env.P 2 = some (nI 0):=kr
theorem aJp:(env.P.info? 2).isSome = true:=kr
theorem zU:env.P.underlying 3 = some (.int .i64):=kr
theorem aLN:bP env.P 3 = none:=kr
theorem aGM:env.P.cellsOf 3 = 1:=kr
theorem aPi:bU env.P 3 = true:=kr
theorem aLL:bX env.P 3 = some false:=kr
theorem aOT:bW env.P 3 = some (nI 0):=kr
theorem aHA:(env.P.info? 3).isSome = true:=kr
theorem aMi:env.P.underlying 4 = some .bool:=kr
theorem aIS:bP env.P 4 = none:=kr
theorem aLG:env.P.cellsOf 4 = 1:=kr
theorem aLD:bU env.P 4 = true:=kr
theorem aHI:bX env.P 4 = some false:=kr
theorem aL1:bW env.P 4 = some (.d (.bool false)):=kr
theorem aMa:(env.P.info? 4).isSome = true:=kr
theorem sW:env.P.underlying 5 = some (.int .u8):=kr
theorem aFN:bP env.P 5 = none:=kr
theorem aH2:env.P.cellsOf 5 = 1:=kr
theorem aJY:bU env.P 5 = true:=kr
theorem aGg:bX env.P 5 = some false:=kr
theorem aJZ:bW env.P 5 = some (.d (.int .u8 0)):=kr
theorem aIN:(env.P.info? 5).isSome = true:=kr
theorem aGm:env.P.underlying 9 = some .string:=kr
theorem aD7:bP env.P 9 = none:=kr
theorem aFK:env.P.cellsOf 9 = 1:=kr
theorem aGt:bU env.P 9 = true:=kr
theorem aDb:bX env.P 9 = some false:=kr
theorem aGq:bW env.P 9 = some (.d (.str [])):=kr
theorem aGn:(env.P.info? 9).isSome = true:=kr
theorem aEn:env.P.underlying 12 = some (.int .u64):=kr
theorem aBA:bP env.P 12 = none:=kr
theorem aEl:env.P.cellsOf 12 = 1:=kr
theorem aC8:bU env.P 12 = true:=kr
theorem aB5:bX env.P 12 = some false:=kr
theorem aDR:bW env.P 12 = some (.d (.int .u64 0)):=kr
theorem aDW:(env.P.info? 12).isSome = true:=kr
theorem j6:kX env.P 13 = true:=kr
theorem nV:bF env.P 13 0 = some (0,9):=kr
theorem nR:cB env.P 13 0 = some (0,1):=kr
theorem nT:bF env.P 13 1 = some (1,12):=kr
theorem n4:cB env.P 13 1 = some (1,1):=kr
theorem oS:bP env.P 13 = none:=kr
theorem pG:env.P.cellsOf 13 = 2:=kr
theorem pI:bU env.P 13 = true:=kr
theorem o8:bX env.P 13 = some true:=kr
theorem kL:bW env.P 13 = some (.agg [.d (.str []),.d (.int .u64 0)]):=kr
theorem pN:(env.P.info? 13).isSome = true:=kr
theorem WO:bP env.P 20 = none:=kr
theorem YI:env.P.cellsOf 20 = 1:=kr
theorem ZW:bU env.P 20 = true:=kr
theorem V8:bX env.P 20 = some false:=kr
theorem YU:bW env.P 20 = some (.d (.nili)):=kr
theorem ZZ:(env.P.info? 20).isSome = true:=kr
theorem aJF:env.P.underlying 21 = some (.int .i32):=kr
theorem aFk:bP env.P 21 = none:=kr
theorem aJv:env.P.cellsOf 21 = 1:=kr
theorem aIP:bU env.P 21 = true:=kr
theorem aFT:bX env.P 21 = some false:=kr
theorem aI0:bW env.P 21 = some (.d (.int .i32 0)):=kr
theorem aIq:(env.P.info? 21).isSome = true:=kr
theorem LH:env.P.underlying 22 = some (.slice 90):=kr
theorem VQ:bP env.P 22 = some 90:=by simp only [bP,LH]
theorem YO:env.P.cellsOf 22 = 1:=kr
theorem ZA:bU env.P 22 = true:=kr
theorem UI:bX env.P 22 = some false:=kr
theorem X7:bW env.P 22 = some (.d (.nils)):=kr
theorem Z5:(env.P.info? 22).isSome = true:=kr
theorem RP:env.P.underlying 23 = some (.slice 4):=kr
theorem aBZ:bP env.P 23 = some 4:=by simp only [bP,RP]
theorem aDZ:env.P.cellsOf 23 = 1:=kr
theorem aEw:bU env.P 23 = true:=kr
theorem aBV:bX env.P 23 = some false:=kr
theorem aD8:bW env.P 23 = some (.d (.nils)):=kr
theorem aD6:(env.P.info? 23).isSome = true:=kr
theorem dY:kX env.P 24 = true:=kr
theorem f0:bF env.P 24 0 = some (0,3):=kr
theorem fW:cB env.P 24 0 = some (0,1):=kr
theorem f9:bF env.P 24 1 = some (1,22):=kr
theorem fZ:cB env.P 24 1 = some (1,1):=kr
theorem fS:bF env.P 24 2 = some (2,23):=kr
theorem fU:cB env.P 24 2 = some (2,1):=kr
theorem gU:bP env.P 24 = none:=kr
theorem g9:env.P.cellsOf 24 = 3:=kr
theorem iB:bU env.P 24 = true:=kr
theorem gT:bX env.P 24 = some true:=kr
theorem d7:bW env.P 24 = some (.agg [nI 0,.d (.nils),.d (.nils)]):=kr
theorem iA:(env.P.info? 24).isSome = true:=kr
theorem wJ:kX env.P 25 = true:=kr
theorem CD:bF env.P 25 0 = some (0,3):=kr
theorem CH:cB env.P 25 0 = some (0,1):=kr
theorem CC:bF env.P 25 1 = some (1,22):=kr
theorem CJ:cB env.P 25 1 = some (1,1):=kr
theorem B9:bF env.P 25 2 = some (2,23):=kr
theorem CE:cB env.P 25 2 = some (2,1):=kr
theorem FR:bP env.P 25 = none:=kr
theorem JV:env.P.cellsOf 25 = 3:=kr
theorem JI:bU env.P 25 = true:=kr
theorem HU:bX env.P 25 = some true:=kr
theorem yC:bW env.P 25 = some (.agg [nI 0,.d (.nils),.d (.nils)]):=kr
theorem JZ:(env.P.info? 25).isSome = true:=kr
theorem K6:env.P.underlying 27 = some (.slice 9):=kr
theorem WR:bP env.P 27 = some 9:=by simp only [bP,K6]
theorem YM:env.P.cellsOf 27 = 1:=kr
theorem YL:bU env.P 27 = true:=kr
theorem WU:bX env.P 27 = some false:=kr
theorem YW:bW env.P 27 = some (.d (.nils)):=kr
theorem YD:(env.P.info? 27).isSome = true:=kr
theorem wC:kX env.P 30 = true:=kr
theorem CU:bF env.P 30 0 = some (0,3):=kr
theorem CQ:cB env.P 30 0 = some (0,1):=kr
theorem CM:bF env.P 30 1 = some (1,22):=kr
theorem CA:cB env.P 30 1 = some (1,1):=kr
theorem CB:bF env.P 30 2 = some (2,23):=kr
theorem CY:cB env.P 30 2 = some (2,1):=kr
theorem GJ:bP env.P 30 = none:=kr
theorem IZ:env.P.cellsOf 30 = 3:=kr
theorem J9:bU env.P 30 = true:=kr
theorem GR:bX env.P 30 = some true:=kr
theorem yB:bW env.P 30 = some (.agg [nI 0,.d (.nils),.d (.nils)]):=kr
theorem JJ:(env.P.info? 30).isSome = true:=kr
theorem ON:env.P.underlying 41 = some (.slice 5):=kr
theorem aAf:bP env.P 41 = some 5:=by simp only [bP,ON]
theorem aBq:env.P.cellsOf 41 = 1:=kr
theorem aBK:bU env.P 41 = true:=kr
theorem YR:bX env.P 41 = some false:=kr
theorem aBH:bW env.P 41 = some (.d (.nils)):=kr
theorem aB4:(env.P.info? 41).isSome = true:=kr
theorem IP:env.P.underlying 64 = some (.map 9 4):=kr
theorem FB:bP env.P 64 = none:=kr
theorem F2:env.P.cellsOf 64 = 1:=kr
theorem HK:bU env.P 64 = true:=kr
theorem EX:bX env.P 64 = some false:=kr
theorem GC:bW env.P 64 = some (.d (.nilm)):=kr
theorem GM:(env.P.info? 64).isSome = true:=kr
theorem FF:bP env.P 67 = none:=kr
theorem FS:env.P.cellsOf 67 = 1:=kr
theorem G5:bU env.P 67 = true:=kr
theorem EV:bX env.P 67 = some false:=kr
theorem IK:bW env.P 67 = some (.d (.nilfn)):=kr
theorem HC:(env.P.info? 67).isSome = true:=kr
theorem JR:env.P.underlying 72 = some (.pointer 101):=kr
theorem GO:bP env.P 72 = none:=kr
theorem J3:env.P.cellsOf 72 = 1:=kr
theorem J2:bU env.P 72 = true:=kr
theorem HY:bX env.P 72 = some false:=kr
theorem I7:bW env.P 72 = some (.d (.nilp)):=kr
theorem JQ:(env.P.info? 72).isSome = true:=kr
theorem vN:env.P.underlying 82 = some (.int .u64):=kr
theorem aJo:bP env.P 82 = none:=kr
theorem aLk:env.P.cellsOf 82 = 1:=kr
theorem aLh:bU env.P 82 = true:=kr
theorem aIA:bX env.P 82 = some false:=kr
theorem aL0:bW env.P 82 = some (.d (.int .u64 0)):=kr
theorem aLP:(env.P.info? 82).isSome = true:=kr
theorem XH:env.P.underlying 90 = some (.slice 3):=kr
theorem aDs:bP env.P 90 = some 3:=by simp only [bP,XH]
theorem aGa:env.P.cellsOf 90 = 1:=kr
theorem aFs:bU env.P 90 = true:=kr
theorem aCX:bX env.P 90 = some false:=kr
theorem aFI:bW env.P 90 = some (.d (.nils)):=kr
theorem aF9:(env.P.info? 90).isSome = true:=kr
theorem nL:kX env.P 100 = true:=kr
theorem rZ:bF env.P 100 0 = some (0,41):=kr
theorem rY:cB env.P 100 0 = some (0,1):=kr
theorem r6:bF env.P 100 1 = some (1,3):=kr
theorem rX:cB env.P 100 1 = some (1,1):=kr
theorem tI:bP env.P 100 = none:=kr
theorem u2:env.P.cellsOf 100 = 2:=kr
theorem uZ:bU env.P 100 = true:=kr
theorem tH:bX env.P 100 = some true:=kr
theorem oE:bW env.P 100 = some (.agg [.d (.nils),nI 0]):=kr
theorem u6:(env.P.info? 100).isSome = true:=kr
theorem D2:kX env.P 101 = true:=kr
theorem MV:bF env.P 101 0 = some (0,41):=kr
theorem MO:cB env.P 101 0 = some (0,1):=kr
theorem NG:bF env.P 101 1 = some (1,3):=kr
theorem M6:cB env.P 101 1 = some (1,1):=kr
theorem TR:bP env.P 101 = none:=kr
theorem UH:env.P.cellsOf 101 = 2:=kr
theorem UC:bU env.P 101 = true:=kr
theorem TV:bX env.P 101 = some true:=kr
theorem GG:bW env.P 101 = some (.agg [.d (.nils),nI 0]):=kr
theorem VK:(env.P.info? 101).isSome = true:=kr
theorem FQ:env.P.underlying 111 = some (.slice 113):=kr
theorem RF:bP env.P 111 = some 113:=by simp only [bP,FQ]
theorem UF:env.P.cellsOf 111 = 1:=kr
theorem VR:bU env.P 111 = true:=kr
theorem TQ:bX env.P 111 = some false:=kr
theorem WB:bW env.P 111 = some (.d (.nils)):=kr
theorem WT:(env.P.info? 111).isSome = true:=kr
theorem R5:env.P.underlying 113 = some (.array 6 3):=kr
theorem aB1:bP env.P 113 = none:=kr
theorem aEs:env.P.cellsOf 113 = 6:=kr
theorem aEa:bU env.P 113 = true:=kr
theorem aBs:bX env.P 113 = some true:=kr
theorem S5:bW env.P 113 = some (.agg [nI 0,nI 0,nI 0,nI 0,nI 0,nI 0]):=kr
theorem aDL:(env.P.info? 113).isSome = true:=kr
theorem tA:env.P.underlying 119 = some (.slice 30):=kr
theorem BG:bP env.P 119 = some 30:=by simp only [bP,tA]
theorem CX:env.P.cellsOf 119 = 1:=kr
theorem CO:bU env.P 119 = true:=kr
theorem BL:bX env.P 119 = some false:=kr
theorem CK:bW env.P 119 = some (.d (.nils)):=kr
theorem CS:(env.P.info? 119).isSome = true:=kr
theorem x9:env.P.underlying 120 = some (.slice 169):=kr
theorem HF:bP env.P 120 = some 169:=by simp only [bP,x9]
theorem J7:env.P.cellsOf 120 = 1:=kr
theorem JG:bU env.P 120 = true:=kr
theorem IL:bX env.P 120 = some false:=kr
theorem JM:bW env.P 120 = some (.d (.nils)):=kr
theorem I9:(env.P.info? 120).isSome = true:=kr
theorem bN:kX env.P 121 = true:=kr
theorem cM:bF env.P 121 0 = some (0,120):=kr
theorem cI:cB env.P 121 0 = some (0,1):=kr
theorem cK:bF env.P 121 1 = some (1,119):=kr
theorem cP:cB env.P 121 1 = some (1,1):=kr
theorem cC:bF env.P 121 2 = some (2,90):=kr
theorem cH:cB env.P 121 2 = some (2,1):=kr
theorem cJ:bF env.P 121 3 = some (3,3):=kr
theorem cD:cB env.P 121 3 = some (3,1):=kr
theorem cN:bF env.P 121 4 = some (4,3):=kr
theorem cL:cB env.P 121 4 = some (4,1):=kr
theorem cE:bF env.P 121 5 = some (5,3):=kr
theorem cF:cB env.P 121 5 = some (5,1):=kr
theorem cT:bP env.P 121 = none:=kr
theorem cU:env.P.cellsOf 121 = 6:=kr
theorem cW:bU env.P 121 = true:=kr
theorem cQ:bX env.P 121 = some true:=kr
theorem bO:bW env.P 121 = some (.agg [.d (.nils),.d (.nils),.d (.nils),nI 0,nI 0,nI 0]):=kr
theorem cV:(env.P.info? 121).isSome = true:=kr
theorem D9:kX env.P 122 = true:=kr
theorem NT:bF env.P 122 0 = some (0,120):=kr
theorem MG:cB env.P 122 0 = some (0,1):=kr
theorem NM:bF env.P 122 1 = some (1,119):=kr
theorem ME:cB env.P 122 1 = some (1,1):=kr
theorem NC:bF env.P 122 2 = some (2,90):=kr
theorem M5:cB env.P 122 2 = some (2,1):=kr
theorem NN:bF env.P 122 3 = some (3,3):=kr
theorem ML:cB env.P 122 3 = some (3,1):=kr
theorem NQ:bF env.P 122 4 = some (4,3):=kr
theorem MQ:cB env.P 122 4 = some (4,1):=kr
theorem MW:bF env.P 122 5 = some (5,3):=kr
theorem MB:cB env.P 122 5 = some (5,1):=kr
theorem S4:bP env.P 122 = none:=kr
theorem V3:env.P.cellsOf 122 = 6:=kr
theorem VN:bU env.P 122 = true:=kr
theorem T5:bX env.P 122 = some true:=kr
theorem GU:bW env.P 122 = some (.agg [.d (.nils),.d (.nils),.d (.nils),nI 0,nI 0,nI 0]):=kr
theorem US:(env.P.info? 122).isSome = true:=kr
theorem CL:env.P.underlying 126 = some (.int .i64):=kr
theorem BO:bP env.P 126 = none:=kr
theorem B7:env.P.cellsOf 126 = 1:=kr
theorem CZ:bU env.P 126 = true:=kr
theorem BH:bX env.P 126 = some false:=kr
theorem B3:bW env.P 126 = some (nI 0):=kr
theorem CT:(env.P.info? 126).isSome = true:=kr
theorem aFl:env.P.underlying 134 = some (.int .u32):=kr
theorem aCL:bP env.P 134 = none:=kr
theorem aF7:env.P.cellsOf 134 = 1:=kr
theorem aFw:bU env.P 134 = true:=kr
theorem aCC:bX env.P 134 = some false:=kr
theorem aF0:bW env.P 134 = some (.d (.int .u32 0)):=kr
theorem aFF:(env.P.info? 134).isSome = true:=kr
theorem aGb:env.P.underlying 136 = some (.int .u64):=kr
theorem aEr:bP env.P 136 = none:=kr
theorem aGk:env.P.cellsOf 136 = 1:=kr
theorem aFx:bU env.P 136 = true:=kr
theorem aDi:bX env.P 136 = some false:=kr
theorem aFq:bW env.P 136 = some (.d (.int .u64 0)):=kr
theorem aFB:(env.P.info? 136).isSome = true:=kr
theorem r9:env.P.underlying 144 = some (.slice 146):=kr
theorem AA:bP env.P 144 = some 146:=by simp only [bP,r9]
theorem BN:env.P.cellsOf 144 = 1:=kr
theorem BI:bU env.P 144 = true:=kr
theorem zT:bX env.P 144 = some false:=kr
theorem BE:bW env.P 144 = some (.d (.nils)):=kr
theorem BM:(env.P.info? 144).isSome = true:=kr
theorem fF:kX env.P 145 = true:=kr
theorem jC:bF env.P 145 0 = some (0,3):=kr
theorem jF:cB env.P 145 0 = some (0,1):=kr
theorem jG:bF env.P 145 1 = some (1,3):=kr
theorem jI:cB env.P 145 1 = some (1,1):=kr
theorem jD:bF env.P 145 2 = some (2,90):=kr
theorem jA:cB env.P 145 2 = some (2,1):=kr
theorem kJ:bP env.P 145 = none:=kr
theorem kS:env.P.cellsOf 145 = 3:=kr
theorem kT:bU env.P 145 = true:=kr
theorem kI:bX env.P 145 = some true:=kr
theorem fI:bW env.P 145 = some (.agg [nI 0,nI 0,.d (.nils)]):=kr
theorem kU:(env.P.info? 145).isSome = true:=kr
theorem u3:kX env.P 146 = true:=kr
theorem BP:bF env.P 146 0 = some (0,3):=kr
theorem BF:cB env.P 146 0 = some (0,1):=kr
theorem BS:bF env.P 146 1 = some (1,3):=kr
theorem BR:cB env.P 146 1 = some (1,1):=kr
theorem BJ:bF env.P 146 2 = some (2,90):=kr
theorem BQ:cB env.P 146 2 = some (2,1):=kr
theorem FH:bP env.P 146 = none:=kr
theorem FU:env.P.cellsOf 146 = 3:=kr
theorem HG:bU env.P 146 = true:=kr
theorem EK:bX env.P 146 = some true:=kr
theorem wS:bW env.P 146 = some (.agg [nI 0,nI 0,.d (.nils)]):=kr
theorem GI:(env.P.info? 146).isSome = true:=kr
theorem BY:env.P.underlying 151 = some (.slice 22):=kr
theorem M4:bP env.P 151 = some 22:=by simp only [bP,BY]
theorem PJ:env.P.cellsOf 151 = 1:=kr
theorem OV:bU env.P 151 = true:=kr
theorem M1:bX env.P 151 = some false:=kr
theorem O0:bW env.P 151 = some (.d (.nils)):=kr
theorem OP:(env.P.info? 151).isSome = true:=kr
theorem F0:env.P.underlying 159 = some (.int .u64):=kr
theorem FE:bP env.P 159 = none:=kr
theorem IN:env.P.cellsOf 159 = 1:=kr
theorem GA:bU env.P 159 = true:=kr
theorem EP:bX env.P 159 = some false:=kr
theorem GK:bW env.P 159 = some (.d (.int .u64 0)):=kr
theorem IG:(env.P.info? 159).isSome = true:=kr
theorem aDG:env.P.underlying 163 = some (.pointer 3):=kr
theorem aBQ:bP env.P 163 = none:=kr
theorem aDq:env.P.cellsOf 163 = 1:=kr
theorem aCM:bU env.P 163 = true:=kr
theorem aBF:bX env.P 163 = some false:=kr
theorem aC3:bW env.P 163 = some (.d (.nilp)):=kr
theorem aC4:(env.P.info? 163).isSome = true:=kr
theorem BU:env.P.underlying 167 = some (.slice 179):=kr
theorem MX:bP env.P 167 = some 179:=by simp only [bP,BU]
theorem PO:env.P.cellsOf 167 = 1:=kr
theorem O6:bU env.P 167 = true:=kr
theorem NJ:bX env.P 167 = some false:=kr
theorem O3:bW env.P 167 = some (.d (.nils)):=kr
theorem OW:(env.P.info? 167).isSome = true:=kr
theorem dX:kX env.P 168 = true:=kr
theorem fV:bF env.P 168 0 = some (0,3):=kr
theorem f5:cB env.P 168 0 = some (0,1):=kr
theorem gA:bF env.P 168 1 = some (1,3):=kr
theorem fX:cB env.P 168 1 = some (1,1):=kr
theorem fT:bF env.P 168 2 = some (2,167):=kr
theorem fR:cB env.P 168 2 = some (2,1):=kr
theorem gX:bP env.P 168 = none:=kr
theorem hY:env.P.cellsOf 168 = 3:=kr
theorem iE:bU env.P 168 = true:=kr
theorem gY:bX env.P 168 = some true:=kr
theorem d6:bW env.P 168 = some (.agg [nI 0,nI 0,.d (.nils)]):=kr
theorem hU:(env.P.info? 168).isSome = true:=kr
theorem B1:kX env.P 169 = true:=kr
theorem JU:bF env.P 169 0 = some (0,3):=kr
theorem I6:cB env.P 169 0 = some (0,1):=kr
theorem JE:bF env.P 169 1 = some (1,3):=kr
theorem JS:cB env.P 169 1 = some (1,1):=kr
theorem IW:bF env.P 169 2 = some (2,167):=kr
theorem IU:cB env.P 169 2 = some (2,1):=kr
theorem OS:bP env.P 169 = none:=kr
theorem RH:env.P.cellsOf 169 = 3:=kr
theorem SA:bU env.P 169 = true:=kr
theorem PV:bX env.P 169 = some true:=kr
theorem DL:bW env.P 169 = some (.agg [nI 0,nI 0,.d (.nils)]):=kr
theorem TH:(env.P.info? 169).isSome = true:=kr
theorem zK:env.P.underlying 173 = some (.pointer 159):=kr
theorem y2:bP env.P 173 = none:=kr
theorem zX:env.P.cellsOf 173 = 1:=kr
theorem zN:bU env.P 173 = true:=kr
theorem yH:bX env.P 173 = some false:=kr
theorem zS:bW env.P 173 = some (.d (.nilp)):=kr
theorem zA:(env.P.info? 173).isSome = true:=kr
theorem iK:kX env.P 178 = true:=kr
theorem mA:bF env.P 178 0 = some (0,3):=kr
theorem mD:cB env.P 178 0 = some (0,1):=kr
theorem mE:bF env.P 178 1 = some (1,3):=kr
theorem mC:cB env.P 178 1 = some (1,1):=kr
theorem mB:bF env.P 178 2 = some (2,3):=kr
theorem l9:cB env.P 178 2 = some (2,1):=kr
theorem nC:bP env.P 178 = none:=kr
theorem nY:env.P.cellsOf 178 = 3:=kr
theorem nW:bU env.P 178 = true:=kr
theorem nB:bX env.P 178 = some true:=kr
theorem iQ:bW env.P 178 = some (.agg [nI 0,nI 0,nI 0]):=kr
theorem n5:(env.P.info? 178).isSome = true:=kr
theorem HA:kX env.P 179 = true:=kr
theorem O7:bF env.P 179 0 = some (0,3):=kr
theorem O1:cB env.P 179 0 = some (0,1):=kr
theorem OZ:bF env.P 179 1 = some (1,3):=kr
theorem PQ:cB env.P 179 1 = some (1,1):=kr
theorem OO:bF env.P 179 2 = some (2,3):=kr
theorem PB:cB env.P 179 2 = some (2,1):=kr
theorem WC:bP env.P 179 = none:=kr
theorem X4:env.P.cellsOf 179 = 3:=kr
theorem YJ:bU env.P 179 = true:=kr
theorem V9:bX env.P 179 = some true:=kr
theorem K4:bW env.P 179 = some (.agg [nI 0,nI 0,nI 0]):=kr
theorem YA:(env.P.info? 179).isSome = true:=kr
theorem YH:env.P.underlying 190 = some (.pointer 5):=kr
theorem UV:bP env.P 190 = none:=kr
theorem ZE:env.P.cellsOf 190 = 1:=kr
theorem Y7:bU env.P 190 = true:=kr
theorem U9:bX env.P 190 = some false:=kr
theorem ZN:bW env.P 190 = some (.d (.nilp)):=kr
theorem X2:(env.P.info? 190).isSome = true:=kr
theorem HT:bP env.P 195 = none:=kr
theorem J4:env.P.cellsOf 195 = 1:=kr
theorem JB:bU env.P 195 = true:=kr
theorem G2:bX env.P 195 = some false:=kr
theorem JY:bW env.P 195 = some (.d (.nilp)):=kr
theorem IV:(env.P.info? 195).isSome = true:=kr
theorem pA:∀ parts,kC env.P 13 parts = (fH (a6 (.agg [.d (.str []),.d (.int .u64 0)])) (parts.map fun p => (cB env.P 13 p.1,p.2))).map .agg:=fun _ => e7 j6 kL
theorem gW:∀ parts,kC env.P 24 parts = (fH (a6 (.agg [nI 0,.d (.nils),.d (.nils)])) (parts.map fun p => (cB env.P 24 p.1,p.2))).map .agg:=fun _ => e7 dY d7
theorem FO:∀ parts,kC env.P 25 parts = (fH (a6 (.agg [nI 0,.d (.nils),.d (.nils)])) (parts.map fun p => (cB env.P 25 p.1,p.2))).map .agg:=fun _ => e7 wJ yC
theorem HN:∀ parts,kC env.P 30 parts = (fH (a6 (.agg [nI 0,.d (.nils),.d (.nils)])) (parts.map fun p => (cB env.P 30 p.1,p.2))).map .agg:=fun _ => e7 wC yB
theorem tK:∀ parts,kC env.P 100 parts = (fH (a6 (.agg [.d (.nils),nI 0])) (parts.map fun p => (cB env.P 100 p.1,p.2))).map .agg:=fun _ => e7 nL oE
theorem R9:∀ parts,kC env.P 101 parts = (fH (a6 (.agg [.d (.nils),nI 0])) (parts.map fun p => (cB env.P 101 p.1,p.2))).map .agg:=fun _ => e7 D2 GG
theorem aBE:∀ parts,kC env.P 113 parts = (fH (a6 (.agg [nI 0,nI 0,nI 0,nI 0,nI 0,nI 0])) (parts.map fun p => (some (p.1 * 1,1),p.2))).map .agg:=fun _ => aPb R5 S5 aHA aGM
theorem cR:∀ parts,kC env.P 121 parts = (fH (a6 (.agg [.d (.nils),.d (.nils),.d (.nils),nI 0,nI 0,nI 0])) (parts.map fun p => (cB env.P 121 p.1,p.2))).map .agg:=fun _ => e7 bN bO
theorem TS:∀ parts,kC env.P 122 parts = (fH (a6 (.agg [.d (.nils),.d (.nils),.d (.nils),nI 0,nI 0,nI 0])) (parts.map fun p => (cB env.P 122 p.1,p.2))).map .agg:=fun _ => e7 D9 GU
theorem kK:∀ parts,kC env.P 145 parts = (fH (a6 (.agg [nI 0,nI 0,.d (.nils)])) (parts.map fun p => (cB env.P 145 p.1,p.2))).map .agg:=fun _ => e7 fF fI
theorem E5:∀ parts,kC env.P 146 parts = (fH (a6 (.agg [nI 0,nI 0,.d (.nils)])) (parts.map fun p => (cB env.P 146 p.1,p.2))).map .agg:=fun _ => e7 u3 wS
theorem gR:∀ parts,kC env.P 168 parts = (fH (a6 (.agg [nI 0,nI 0,.d (.nils)])) (parts.map fun p => (cB env.P 168 p.1,p.2))).map .agg:=fun _ => e7 dX d6
theorem PH:∀ parts,kC env.P 169 parts = (fH (a6 (.agg [nI 0,nI 0,.d (.nils)])) (parts.map fun p => (cB env.P 169 p.1,p.2))).map .agg:=fun _ => e7 B1 DL
theorem nH:∀ parts,kC env.P 178 parts = (fH (a6 (.agg [nI 0,nI 0,nI 0])) (parts.map fun p => (cB env.P 178 p.1,p.2))).map .agg:=fun _ => e7 iK iQ
theorem UY:∀ parts,kC env.P 179 parts = (fH (a6 (.agg [nI 0,nI 0,nI 0])) (parts.map fun p => (cB env.P 179 p.1,p.2))).map .agg:=fun _ => e7 HA K4
theorem aCa {h:H} {n:Int} {K:IntKind}:eP env.P h 3 3 (.d (.int K n)) = some (nI (IntKind.wrap .i64 n),h):=lZ zU zU
theorem VW {h:H} {n:Int} {K:IntKind}:eP env.P h 3 5 (.d (.int K n)) = some (.d (.int .u8 (IntKind.wrap .u8 n)),h):=lZ zU sW
theorem aAe {h:H} {n:Int} {K:IntKind}:eP env.P h 3 82 (.d (.int K n)) = some (.d (.int .u64 (IntKind.wrap .u64 n)),h):=lZ zU vN
theorem V0 {h:H} {n:Int} {K:IntKind}:eP env.P h 5 3 (.d (.int K n)) = some (nI (IntKind.wrap .i64 n),h):=lZ sW zU
theorem PP {h:H} {n:Int} {K:IntKind}:eP env.P h 5 5 (.d (.int K n)) = some (.d (.int .u8 (IntKind.wrap .u8 n)),h):=lZ sW sW
theorem R3 {h:H} {n:Int} {K:IntKind}:eP env.P h 5 82 (.d (.int K n)) = some (.d (.int .u64 (IntKind.wrap .u64 n)),h):=lZ sW vN
theorem ZD {h:H} {n:Int} {K:IntKind}:eP env.P h 82 3 (.d (.int K n)) = some (nI (IntKind.wrap .i64 n),h):=lZ vN zU
theorem SK {h:H} {n:Int} {K:IntKind}:eP env.P h 82 5 (.d (.int K n)) = some (.d (.int .u8 (IntKind.wrap .u8 n)),h):=lZ vN sW
theorem VD {h:H} {n:Int} {K:IntKind}:eP env.P h 82 82 (.d (.int K n)) = some (.d (.int .u64 (IntKind.wrap .u64 n)),h):=lZ vN vN
theorem TY0:type_of% (AI @aJU (AI @aGr (AI @aIU (AI @aH7 (AI @aFu (AI @aIM (AI @aJp (AI @zU (AI @aLN (AI @aGM (AI @aPi (AI @aLL (AI @aOT (AI @aHA (AI @aMi (AI @aIS (AI @aLG (AI @aLD (AI @aHI (AI @aL1 (AI @aMa (AI @sW (AI @aFN (AI @aH2 (AI @aJY (AI @aGg (AI @aJZ (AI @aIN (AI @aGm (AI @aD7 (AI @aFK (AI @aGt (AI @aDb (AI @aGq (AI @aGn (AI @aEn (AI @aBA (AI @aEl (AI @aC8 @aB5))))))))))))))))))))))))))))))))))))))) :=
 ⟨@aJU,@aGr,@aIU,@aH7,@aFu,@aIM,@aJp,@zU,@aLN,@aGM,@aPi,@aLL,@aOT,@aHA,@aMi,@aIS,@aLG,@aLD,@aHI,@aL1,@aMa,@sW,@aFN,@aH2,@aJY,@aGg,@aJZ,@aIN,@aGm,@aD7,@aFK,@aGt,@aDb,@aGq,@aGn,@aEn,@aBA,@aEl,@aC8,@aB5⟩
theorem TY1:type_of% (AI @aDR (AI @aDW (AI @j6 (AI @nV (AI @nR (AI @nT (AI @n4 (AI @oS (AI @pG (AI @pI (AI @o8 (AI @kL (AI @pA (AI @pN (AI @WO (AI @YI (AI @ZW (AI @V8 (AI @YU (AI @ZZ (AI @aJF (AI @aFk (AI @aJv (AI @aIP (AI @aFT (AI @aI0 (AI @aIq (AI @LH (AI @VQ (AI @YO (AI @ZA (AI @UI (AI @X7 (AI @Z5 (AI @RP (AI @aBZ (AI @aDZ (AI @aEw (AI @aBV @aD8))))))))))))))))))))))))))))))))))))))) :=
 ⟨@aDR,@aDW,@j6,@nV,@nR,@nT,@n4,@oS,@pG,@pI,@o8,@kL,@pA,@pN,@WO,@YI,@ZW,@V8,@YU,@ZZ,@aJF,@aFk,@aJv,@aIP,@aFT,@aI0,@aIq,@LH,@VQ,@YO,@ZA,@UI,@X7,@Z5,@RP,@aBZ,@aDZ,@aEw,@aBV,@aD8⟩
theorem TY2:type_of% (AI @aD6 (AI @dY (AI @f0 (AI @fW (AI @f9 (AI @fZ (AI @fS (AI @fU (AI @gU (AI @g9 (AI @iB (AI @gT (AI @d7 (AI @gW (AI @iA (AI @wJ (AI @CD (AI @CH (AI @CC (AI @CJ (AI @B9 (AI @CE (AI @FR (AI @JV (AI @JI (AI @HU (AI @yC (AI @FO (AI @JZ (AI @K6 (AI @WR (AI @YM (AI @YL (AI @WU (AI @YW (AI @YD (AI @wC (AI @CU (AI @CQ @CM))))))))))))))))))))))))))))))))))))))) :=
 ⟨@aD6,@dY,@f0,@fW,@f9,@fZ,@fS,@fU,@gU,@g9,@iB,@gT,@d7,@gW,@iA,@wJ,@CD,@CH,@CC,@CJ,@B9,@CE,@FR,@JV,@JI,@HU,@yC,@FO,@JZ,@K6,@WR,@YM,@YL,@WU,@YW,@YD,@wC,@CU,@CQ,@CM⟩
theorem TY3:type_of% (AI @CA (AI @CB (AI @CY (AI @GJ (AI @IZ (AI @J9 (AI @GR (AI @yB (AI @HN (AI @JJ (AI @ON (AI @aAf (AI @aBq (AI @aBK (AI @YR (AI @aBH (AI @aB4 (AI @IP (AI @FB (AI @F2 (AI @HK (AI @EX (AI @GC (AI @GM (AI @FF (AI @FS (AI @G5 (AI @EV (AI @IK (AI @HC (AI @JR (AI @GO (AI @J3 (AI @J2 (AI @HY (AI @I7 (AI @JQ (AI @vN (AI @aJo @aLk))))))))))))))))))))))))))))))))))))))) :=
 ⟨@CA,@CB,@CY,@GJ,@IZ,@J9,@GR,@yB,@HN,@JJ,@ON,@aAf,@aBq,@aBK,@YR,@aBH,@aB4,@IP,@FB,@F2,@HK,@EX,@GC,@GM,@FF,@FS,@G5,@EV,@IK,@HC,@JR,@GO,@J3,@J2,@HY,@I7,@JQ,@vN,@aJo,@aLk⟩
theorem TY4:type_of% (AI @aLh (AI @aIA (AI @aL0 (AI @aLP (AI @XH (AI @aDs (AI @aGa (AI @aFs (AI @aCX (AI @aFI (AI @aF9 (AI @nL (AI @rZ (AI @rY (AI @r6 (AI @rX (AI @tI (AI @u2 (AI @uZ (AI @tH (AI @oE (AI @tK (AI @u6 (AI @D2 (AI @MV (AI @MO (AI @NG (AI @M6 (AI @TR (AI @UH (AI @UC (AI @TV (AI @GG (AI @R9 (AI @VK (AI @FQ (AI @RF (AI @UF (AI @VR @TQ))))))))))))))))))))))))))))))))))))))) :=
 ⟨@aLh,@aIA,@aL0,@aLP,@XH,@aDs,@aGa,@aFs,@aCX,@aFI,@aF9,@nL,@rZ,@rY,@r6,@rX,@tI,@u2,@uZ,@tH,@oE,@tK,@u6,@D2,@MV,@MO,@NG,@M6,@TR,@UH,@UC,@TV,@GG,@R9,@VK,@FQ,@RF,@UF,@VR,@TQ⟩
theorem TY5:type_of% (AI @WB (AI @WT (AI @R5 (AI @aB1 (AI @aEs (AI @aEa (AI @aBs (AI @S5 (AI @aBE (AI @aDL (AI @tA (AI @BG (AI @CX (AI @CO (AI @BL (AI @CK (AI @CS (AI @x9 (AI @HF (AI @J7 (AI @JG (AI @IL (AI @JM (AI @I9 (AI @bN (AI @cM (AI @cI (AI @cK (AI @cP (AI @cC (AI @cH (AI @cJ (AI @cD (AI @cN (AI @cL (AI @cE (AI @cF (AI @cT (AI @cU @cW))))))))))))))))))))))))))))))))))))))) :=
 ⟨@WB,@WT,@R5,@aB1,@aEs,@aEa,@aBs,@S5,@aBE,@aDL,@tA,@BG,@CX,@CO,@BL,@CK,@CS,@x9,@HF,@J7,@JG,@IL,@JM,@I9,@bN,@cM,@cI,@cK,@cP,@cC,@cH,@cJ,@cD,@cN,@cL,@cE,@cF,@cT,@cU,@cW⟩
theorem TY6:type_of% (AI @cQ (AI @bO (AI @cR (AI @cV (AI @D9 (AI @NT (AI @MG (AI @NM (AI @ME (AI @NC (AI @M5 (AI @NN (AI @ML (AI @NQ (AI @MQ (AI @MW (AI @MB (AI @S4 (AI @V3 (AI @VN (AI @T5 (AI @GU (AI @TS (AI @US (AI @CL (AI @BO (AI @B7 (AI @CZ (AI @BH (AI @B3 (AI @CT (AI @aFl (AI @aCL (AI @aF7 (AI @aFw (AI @aCC (AI @aF0 (AI @aFF (AI @aGb @aEr))))))))))))))))))))))))))))))))))))))) :=
 ⟨@cQ,@bO,@cR,@cV,@D9,@NT,@MG,@NM,@ME,@NC,@M5,@NN,@ML,@NQ,@MQ,@MW,@MB,@S4,@V3,@VN,@T5,@GU,@TS,@US,@CL,@BO,@B7,@CZ,@BH,@B3,@CT,@aFl,@aCL,@aF7,@aFw,@aCC,@aF0,@aFF,@aGb,@aEr⟩
theorem TY7:type_of% (AI @aGk (AI @aFx (AI @aDi (AI @aFq (AI @aFB (AI @r9 (AI @AA (AI @BN (AI @BI (AI @zT (AI @BE (AI @BM (AI @fF (AI @jC (AI @jF (AI @jG (AI @jI (AI @jD (AI @jA (AI @kJ (AI @kS (AI @kT (AI @kI (AI @fI (AI @kK (AI @kU (AI @u3 (AI @BP (AI @BF (AI @BS (AI @BR (AI @BJ (AI @BQ (AI @FH (AI @FU (AI @HG (AI @EK (AI @wS (AI @E5 @GI))))))))))))))))))))))))))))))))))))))) :=
 ⟨@aGk,@aFx,@aDi,@aFq,@aFB,@r9,@AA,@BN,@BI,@zT,@BE,@BM,@fF,@jC,@jF,@jG,@jI,@jD,@jA,@kJ,@kS,@kT,@kI,@fI,@kK,@kU,@u3,@BP,@BF,@BS,@BR,@BJ,@BQ,@FH,@FU,@HG,@EK,@wS,@E5,@GI⟩
theorem TY8:type_of% (AI @BY (AI @M4 (AI @PJ (AI @OV (AI @M1 (AI @O0 (AI @OP (AI @F0 (AI @FE (AI @IN (AI @GA (AI @EP (AI @GK (AI @IG (AI @aDG (AI @aBQ (AI @aDq (AI @aCM (AI @aBF (AI @aC3 (AI @aC4 (AI @BU (AI @MX (AI @PO (AI @O6 (AI @NJ (AI @O3 (AI @OW (AI @dX (AI @fV (AI @f5 (AI @gA (AI @fX (AI @fT (AI @fR (AI @gX (AI @hY (AI @iE (AI @gY @d6))))))))))))))))))))))))))))))))))))))) :=
 ⟨@BY,@M4,@PJ,@OV,@M1,@O0,@OP,@F0,@FE,@IN,@GA,@EP,@GK,@IG,@aDG,@aBQ,@aDq,@aCM,@aBF,@aC3,@aC4,@BU,@MX,@PO,@O6,@NJ,@O3,@OW,@dX,@fV,@f5,@gA,@fX,@fT,@fR,@gX,@hY,@iE,@gY,@d6⟩
theorem TY9:type_of% (AI @gR (AI @hU (AI @B1 (AI @JU (AI @I6 (AI @JE (AI @JS (AI @IW (AI @IU (AI @OS (AI @RH (AI @SA (AI @PV (AI @DL (AI @PH (AI @TH (AI @zK (AI @y2 (AI @zX (AI @zN (AI @yH (AI @zS (AI @zA (AI @iK (AI @mA (AI @mD (AI @mE (AI @mC (AI @mB (AI @l9 (AI @nC (AI @nY (AI @nW (AI @nB (AI @iQ (AI @nH (AI @n5 (AI @HA (AI @O7 @O1))))))))))))))))))))))))))))))))))))))) :=
 ⟨@gR,@hU,@B1,@JU,@I6,@JE,@JS,@IW,@IU,@OS,@RH,@SA,@PV,@DL,@PH,@TH,@zK,@y2,@zX,@zN,@yH,@zS,@zA,@iK,@mA,@mD,@mE,@mC,@mB,@l9,@nC,@nY,@nW,@nB,@iQ,@nH,@n5,@HA,@O7,@O1⟩
theorem TY10:type_of% (AI @OZ (AI @PQ (AI @OO (AI @PB (AI @WC (AI @X4 (AI @YJ (AI @V9 (AI @K4 (AI @UY (AI @YA (AI @YH (AI @UV (AI @ZE (AI @Y7 (AI @U9 (AI @ZN (AI @X2 (AI @HT (AI @J4 (AI @JB (AI @G2 (AI @JY (AI @IV (AI @aCa (AI @VW (AI @aAe (AI @V0 (AI @PP (AI @R3 (AI @ZD (AI @SK @VD)))))))))))))))))))))))))))))))) :=
 ⟨@OZ,@PQ,@OO,@PB,@WC,@X4,@YJ,@V9,@K4,@UY,@YA,@YH,@UV,@ZE,@Y7,@U9,@ZN,@X2,@HT,@J4,@JB,@G2,@JY,@IV,@aCa,@VW,@aAe,@V0,@PP,@R3,@ZD,@SK,@VD⟩
theorem TY:type_of% (AI @TY0 (AI @TY1 (AI @TY2 (AI @TY3 (AI @TY4 (AI @TY5 (AI @TY6 (AI @TY7 (AI @TY8 (AI @TY9 @TY10)))))))))) :=
 ⟨@TY0,@TY1,@TY2,@TY3,@TY4,@TY5,@TY6,@TY7,@TY8,@TY9,@TY10⟩
end Ev
end Go.Proofs.YtejmccgfigiadaaGreat
