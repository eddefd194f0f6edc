/-
  What the types of the program are, as the evaluator asks. Written by a program.
-/
import Derived.Test.YthlkcebdfbjdoaaGreatEnvF
import Derived.Test.YthlkcebdfbjdoaaGreatEvWalk
set_option linter.unusedSimpArgs false
set_option linter.unusedVariables false
set_option maxRecDepth 100000
namespace Go.Proofs.YthlkcebdfbjdoaaGreat
namespace Ev
def lG(P:Program)(t:TypeId)(i:Nat):Option (Nat×Nat):=match P.underlying t with
 |some (.struct fields)=>(fields.toList[i]?).map fun f=>(f.offset,P.cellsOf f.type)
 |_=>none
def z6(P:Program)(t:TypeId):Bool:=match P.underlying t with
 |some (.struct fields)=>fields.toList.all fun f=>(P.info? f.type).isSome
 |_=>false
theorem uC{P:Program}{t:TypeId}{z:A}{parts:List (Nat×A)}(hs:z6 P t=true)(hz:dF P t=some z):tL P t parts=(iH (aV z) (parts.map fun p=>(lG P t p.1,p.2))).map .agg:=by
 unfold z6 at hs;unfold tL lG;rw[hz]
 cases hu:P.underlying t with
 |none=>rw[hu]at hs;cases hs
 |some d=>
  rw[hu]at hs
  cases d<;>first|cases hs|skip
  simp only at hs|-;rw[if_pos hs]
theorem vM{P:Program}{h:H}{t u:TypeId}{K K1 K2:IntKind}{n:Int}(h1:P.underlying t=some (.int K1))(h2:P.underlying u=some (.int K2)):eF P h t u (.d (.int K n))=some (.d (.int K2 (K2.wrap n)),h):=by
 simp only[eF,h1,h2]
theorem aHZ:env.P.underlying 3=some (.int .i64):=kr
theorem aEQ:cR env.P 3=none:=kr
theorem aGY:env.P.cellsOf 3=1:=kr
theorem aHt:eP env.P 3=true:=kr
theorem aEY:dM env.P 3=some false:=kr
theorem aGW:dF env.P 3=some (nI 0):=kr
theorem aGE:(env.P.info? 3).isSome=true:=kr
theorem aDI:env.P.cellsOf 4=1:=kr
theorem aEM:eP env.P 4=true:=kr
theorem aBh:dM env.P 4=some false:=kr
theorem aDN:dF env.P 4=some (.d (.bool false)):=kr
theorem aD2:(env.P.info? 4).isSome=true:=kr
theorem aCd:env.P.underlying 5=some (.int .u8):=kr
theorem aAI:env.P.cellsOf 5=1:=kr
theorem aAU:eP env.P 5=true:=kr
theorem XP:dM env.P 5=some false:=kr
theorem aAm:dF env.P 5=some (.d (.int .u8 0)):=kr
theorem YC:env.P.underlying 9=some .string:=kr
theorem X2:env.P.cellsOf 9=1:=kr
theorem WW:eP env.P 9=true:=kr
theorem UV:dM env.P 9=some false:=kr
theorem WU:dF env.P 9=some (.d (.str [])):=kr
theorem CN:env.P.underlying 22=some (.slice 5):=kr
theorem LE:cR env.P 22=some 5:=by simp only[cR,CN]
theorem PM:env.P.cellsOf 22=1:=kr
theorem LY:dM env.P 22=some false:=kr
theorem zS:env.P.underlying 23=some (.slice 80):=kr
theorem H7:cR env.P 23=some 80:=by simp only[cR,zS]
theorem L0:env.P.cellsOf 23=1:=kr
theorem LD:eP env.P 23=true:=kr
theorem I4:dM env.P 23=some false:=kr
theorem LC:dF env.P 23=some (.d (.nils)):=kr
theorem MM:(env.P.info? 23).isSome=true:=kr
theorem FZ:env.P.underlying 24=some (.slice 4):=kr
theorem PQ:cR env.P 24=some 4:=by simp only[cR,FZ]
theorem QS:env.P.cellsOf 24=1:=kr
theorem O3:dM env.P 24=some false:=kr
theorem UG:dF env.P 24=some (.d (.nils)):=kr
theorem SB:(env.P.info? 24).isSome=true:=kr
theorem OI:z6 env.P 26=true:=kr
theorem tJ:cQ env.P 26 0=some (0,3):=kr
theorem tB:lG env.P 26 0=some (0,1):=kr
theorem tH:cQ env.P 26 1=some (1,23):=kr
theorem tO:cQ env.P 26 2=some (2,24):=kr
theorem tU:lG env.P 26 2=some (2,1):=kr
theorem yQ:env.P.cellsOf 26=3:=kr
theorem yW:eP env.P 26=true:=kr
theorem xB:dM env.P 26=some true:=kr
theorem pC:dF env.P 26=some (.agg [nI 0,.d (.nils),.d (.nils)]):=kr
theorem yY:(env.P.info? 26).isSome=true:=kr
theorem zU:env.P.underlying 29=some (.slice 9):=kr
theorem I6:cR env.P 29=some 9:=by simp only[cR,zU]
theorem JN:dM env.P 29=some false:=kr
theorem yB:env.P.underlying 55=some (.map 9 4):=kr
theorem ZY:z6 env.P 77=true:=kr
theorem B5:cQ env.P 77 0=some (0,22):=kr
theorem B6:lG env.P 77 0=some (0,1):=kr
theorem A5:cQ env.P 77 1=some (1,3):=kr
theorem aAu:dF env.P 77=some (.agg [.d (.nils),nI 0]):=kr
theorem KI:env.P.underlying 80=some (.slice 3):=kr
theorem R6:cR env.P 80=some 3:=by simp only[cR,KI]
theorem WN:env.P.cellsOf 80=1:=kr
theorem WQ:eP env.P 80=true:=kr
theorem TZ:dM env.P 80=some false:=kr
theorem XL:dF env.P 80=some (.d (.nils)):=kr
theorem IR:env.P.underlying 95=some (.slice 97):=kr
theorem IO:env.P.cellsOf 95=1:=kr
theorem HC:dM env.P 95=some false:=kr
theorem JO:dF env.P 95=some (.d (.nils)):=kr
theorem JC:(env.P.info? 95).isSome=true:=kr
theorem QW:env.P.underlying 97=some (.array 6 3):=kr
theorem SX:env.P.cellsOf 97=6:=kr
theorem lQ:env.P.underlying 107=some (.slice 26):=kr
theorem sO:cR env.P 107=some 26:=by simp only[cR,lQ]
theorem tD:env.P.cellsOf 107=1:=kr
theorem sV:dM env.P 107=some false:=kr
theorem yX:env.P.underlying 108=some (.slice 156):=kr
theorem yZ:env.P.cellsOf 108=1:=kr
theorem xD:dM env.P 108=some false:=kr
theorem Y3:z6 env.P 110=true:=kr
theorem BI:cQ env.P 110 0=some (0,108):=kr
theorem BK:cQ env.P 110 1=some (1,107):=kr
theorem AY:lG env.P 110 1=some (1,1):=kr
theorem B8:cQ env.P 110 2=some (2,80):=kr
theorem A4:lG env.P 110 2=some (2,1):=kr
theorem A3:cQ env.P 110 3=some (3,3):=kr
theorem A9:lG env.P 110 3=some (3,1):=kr
theorem BQ:cQ env.P 110 4=some (4,3):=kr
theorem BD:lG env.P 110 4=some (4,1):=kr
theorem B3:cQ env.P 110 5=some (5,3):=kr
theorem BU:lG env.P 110 5=some (5,1):=kr
theorem JP:env.P.cellsOf 110=6:=kr
theorem F6:dM env.P 110=some true:=kr
theorem aBo:dF env.P 110=some (.agg [.d (.nils),.d (.nils),.d (.nils),nI 0,nI 0,nI 0]):=kr
theorem kV:env.P.underlying 131=some (.slice 133):=kr
theorem rC:cR env.P 131=some 133:=by simp only[cR,kV]
theorem sW:env.P.cellsOf 131=1:=kr
theorem rF:dM env.P 131=some false:=kr
theorem sN:dF env.P 131=some (.d (.nils)):=kr
theorem sR:(env.P.info? 131).isSome=true:=kr
theorem LU:z6 env.P 133=true:=kr
theorem sS:cQ env.P 133 0=some (0,3):=kr
theorem sQ:lG env.P 133 0=some (0,1):=kr
theorem sY:cQ env.P 133 1=some (1,3):=kr
theorem sM:lG env.P 133 1=some (1,1):=kr
theorem sX:cQ env.P 133 2=some (2,80):=kr
theorem sU:lG env.P 133 2=some (2,1):=kr
theorem xK:env.P.cellsOf 133=3:=kr
theorem xS:eP env.P 133=true:=kr
theorem nU:dF env.P 133=some (.agg [nI 0,nI 0,.d (.nils)]):=kr
theorem s8:env.P.underlying 138=some (.slice 23):=kr
theorem A1:cR env.P 138=some 23:=by simp only[cR,s8]
theorem yN:cQ env.P 156 1=some (1,3):=kr
theorem E5:env.P.cellsOf 156=3:=kr
theorem xL:∀parts,tL env.P 26 parts=(iH (aV (.agg [nI 0,.d (.nils),.d (.nils)])) (parts.map fun p=>(lG env.P 26 p.1,p.2))).map .agg:=fun _=>uC OI pC
theorem FI:∀parts,tL env.P 77 parts=(iH (aV (.agg [.d (.nils),nI 0])) (parts.map fun p=>(lG env.P 77 p.1,p.2))).map .agg:=fun _=>uC ZY aAu
theorem FS:∀parts,tL env.P 110 parts=(iH (aV (.agg [.d (.nils),.d (.nils),.d (.nils),nI 0,nI 0,nI 0])) (parts.map fun p=>(lG env.P 110 p.1,p.2))).map .agg:=fun _=>uC Y3 aBo
theorem vL:∀parts,tL env.P 133 parts=(iH (aV (.agg [nI 0,nI 0,.d (.nils)])) (parts.map fun p=>(lG env.P 133 p.1,p.2))).map .agg:=fun _=>uC LU nU
theorem J0{h:H}{n:Int}{K:IntKind}:eF env.P h 3 5 (.d (.int K n))=some (.d (.int .u8 (IntKind.wrap .u8 n)),h):=vM aHZ aCd
theorem HX{h:H}{n:Int}{K:IntKind}:eF env.P h 5 3 (.d (.int K n))=some (nI (IntKind.wrap .i64 n),h):=vM aCd aHZ
theorem TY0:type_of% (AI @aEQ (AI @aGY (AI @aHt (AI @aEY (AI @aGW (AI @aGE (AI @aDI (AI @aEM (AI @aBh (AI @aDN (AI @aD2 (AI @aAI (AI @aAU (AI @XP (AI @aAm (AI @YC (AI @X2 (AI @WW (AI @UV @WU))))))))))))))))))):=
 ⟨@aEQ,@aGY,@aHt,@aEY,@aGW,@aGE,@aDI,@aEM,@aBh,@aDN,@aD2,@aAI,@aAU,@XP,@aAm,@YC,@X2,@WW,@UV,@WU⟩
theorem TY1:type_of% (AI @CN (AI @LE (AI @PM (AI @LY (AI @zS (AI @H7 (AI @L0 (AI @LD (AI @I4 @LC))))))))):=
 ⟨@CN,@LE,@PM,@LY,@zS,@H7,@L0,@LD,@I4,@LC⟩
theorem TY2:type_of% (AI @MM (AI @FZ (AI @PQ (AI @QS (AI @O3 (AI @UG (AI @SB (AI @tJ (AI @tB (AI @tH (AI @tO (AI @tU (AI @yQ (AI @yW (AI @xB (AI @pC (AI @xL (AI @yY (AI @zU @I6))))))))))))))))))):=
 ⟨@MM,@FZ,@PQ,@QS,@O3,@UG,@SB,@tJ,@tB,@tH,@tO,@tU,@yQ,@yW,@xB,@pC,@xL,@yY,@zU,@I6⟩
theorem TY3:type_of% (AI @yB @JN):=
 ⟨@yB,@JN⟩
theorem TY4:type_of% (AI @B5 (AI @B6 (AI @A5 (AI @FI (AI @KI (AI @R6 (AI @WN (AI @WQ (AI @TZ (AI @XL (AI @IR (AI @IO (AI @HC (AI @JO (AI @JC (AI @QW (AI @SX (AI @lQ (AI @sO @tD))))))))))))))))))):=
 ⟨@B5,@B6,@A5,@FI,@KI,@R6,@WN,@WQ,@TZ,@XL,@IR,@IO,@HC,@JO,@JC,@QW,@SX,@lQ,@sO,@tD⟩
theorem TY5:type_of% (AI @sV (AI @yX (AI @yZ (AI @xD (AI @BI (AI @BK (AI @AY (AI @B8 (AI @A4 (AI @A3 (AI @A9 @BQ))))))))))):=
 ⟨@sV,@yX,@yZ,@xD,@BI,@BK,@AY,@B8,@A4,@A3,@A9,@BQ⟩
theorem TY6:type_of% (AI @BD (AI @B3 (AI @BU (AI @JP (AI @F6 (AI @FS (AI @kV (AI @rC (AI @sW (AI @rF (AI @sN @sR))))))))))):=
 ⟨@BD,@B3,@BU,@JP,@F6,@FS,@kV,@rC,@sW,@rF,@sN,@sR⟩
theorem TY7:type_of% (AI @sS (AI @sQ (AI @sY (AI @sM (AI @sX (AI @sU (AI @xK (AI @xS (AI @nU (AI @vL (AI @s8 @A1))))))))))):=
 ⟨@sS,@sQ,@sY,@sM,@sX,@sU,@xK,@xS,@nU,@vL,@s8,@A1⟩
theorem TY8:type_of% (AI @yN @E5):=
 ⟨@yN,@E5⟩
theorem TY10:type_of% (AI @J0 @HX):=
 ⟨@J0,@HX⟩
theorem TY:type_of% (AI @TY0 (AI @TY1 (AI @TY2 (AI @TY3 (AI @TY4 (AI @TY5 (AI @TY6 (AI @TY7 (AI @TY8 @TY10))))))))):=
 ⟨@TY0,@TY1,@TY2,@TY3,@TY4,@TY5,@TY6,@TY7,@TY8,@TY10⟩
end Ev
end Go.Proofs.YthlkcebdfbjdoaaGreat
