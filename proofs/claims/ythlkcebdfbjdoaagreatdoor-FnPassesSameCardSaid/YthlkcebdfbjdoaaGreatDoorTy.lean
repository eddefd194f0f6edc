/-
  What the types of the program are, as the evaluator asks. Written by a program.
-/
import Derived.Test.YthlkcebdfbjdoaaGreatDoorEnvF
import Derived.Test.YthlkcebdfbjdoaaGreatDoorEvWalk
set_option linter.unusedSimpArgs false
set_option linter.unusedVariables false
set_option maxRecDepth 100000
namespace Go.Proofs.YthlkcebdfbjdoaaGreatDoor
namespace Ev
def kP(P:Program)(t:TypeId)(i:Nat):Option (Nat×Nat):=match P.underlying t with
 |some (.struct fields)=>(fields.toList[i]?).map fun f=>(f.offset,P.cellsOf f.type)
 |_=>none
def xV(P:Program)(t:TypeId):Bool:=match P.underlying t with
 |some (.struct fields)=>fields.toList.all fun f=>(P.info? f.type).isSome
 |_=>false
theorem qX{P:Program}{t:TypeId}{z:A}{parts:List (Nat×A)}(hs:xV P t=true)(hz:cZ P t=some z):uD P t parts=(gU (aZ z) (parts.map fun p=>(kP P t p.1,p.2))).map .agg:=by
 unfold xV at hs;unfold uD kP;rw[hz]
 cases hu:P.underlying t with
 |none=>rw[hu]at hs;cases hs
 |some d=>
  rw[hu]at hs
  cases d<;>first|cases hs|skip
  simp only at hs|-;rw[if_pos hs]
theorem zC{P:Program}{h:H}{t u:TypeId}{K K1 K2:IntKind}{n:Int}(h1:P.underlying t=some (.int K1))(h2:P.underlying u=some (.int K2)):eK P h t u (.d (.int K n))=some (.d (.int K2 (K2.wrap n)),h):=by
 simp only[eK,h1,h2]
theorem aMb:env.P.underlying 3=some (.int .i64):=kr
theorem aJB:c7 env.P 3=none:=kr
theorem aMI:env.P.cellsOf 3=1:=kr
theorem aMg:fB env.P 3=true:=kr
theorem aHV:dW env.P 3=some false:=kr
theorem aL1:cZ env.P 3=some (nI 0):=kr
theorem aLr:(env.P.info? 3).isSome=true:=kr
theorem aI0:env.P.cellsOf 4=1:=kr
theorem aIt:fB env.P 4=true:=kr
theorem aFe:dW env.P 4=some false:=kr
theorem aIE:cZ env.P 4=some (.d (.bool false)):=kr
theorem aJy:(env.P.info? 4).isSome=true:=kr
theorem aEZ:env.P.underlying 5=some (.int .u8):=kr
theorem aGt:env.P.cellsOf 5=1:=kr
theorem aGs:fB env.P 5=true:=kr
theorem aCp:dW env.P 5=some false:=kr
theorem aGg:cZ env.P 5=some (.d (.int .u8 0)):=kr
theorem aB2:env.P.underlying 9=some .string:=kr
theorem aCg:env.P.cellsOf 9=1:=kr
theorem aCi:fB env.P 9=true:=kr
theorem ZG:dW env.P 9=some false:=kr
theorem aB1:cZ env.P 9=some (.d (.str [])):=kr
theorem GW:env.P.underlying 22=some (.slice 5):=kr
theorem RA:c7 env.P 22=some 5:=by simp only[c7,GW]
theorem WQ:env.P.cellsOf 22=1:=kr
theorem SF:dW env.P 22=some false:=kr
theorem DF:env.P.underlying 23=some (.slice 58):=kr
theorem OW:c7 env.P 23=some 58:=by simp only[c7,DF]
theorem Q1:env.P.cellsOf 23=1:=kr
theorem R4:fB env.P 23=true:=kr
theorem N1:dW env.P 23=some false:=kr
theorem R9:cZ env.P 23=some (.d (.nils)):=kr
theorem SG:(env.P.info? 23).isSome=true:=kr
theorem KN:env.P.underlying 24=some (.slice 4):=kr
theorem WF:c7 env.P 24=some 4:=by simp only[c7,KN]
theorem aAi:env.P.cellsOf 24=1:=kr
theorem V1:dW env.P 24=some false:=kr
theorem ZN:cZ env.P 24=some (.d (.nils)):=kr
theorem YP:(env.P.info? 24).isSome=true:=kr
theorem UB:xV env.P 26=true:=kr
theorem xB:cQ env.P 26 0=some (0,3):=kr
theorem xE:kP env.P 26 0=some (0,1):=kr
theorem wL:cQ env.P 26 1=some (1,23):=kr
theorem wI:kP env.P 26 1=some (1,1):=kr
theorem wT:cQ env.P 26 2=some (2,24):=kr
theorem wK:kP env.P 26 2=some (2,1):=kr
theorem CD:env.P.cellsOf 26=3:=kr
theorem CE:fB env.P 26=true:=kr
theorem BD:dW env.P 26=some true:=kr
theorem rP:cZ env.P 26=some (.agg [nI 0,.d (.nils),.d (.nils)]):=kr
theorem B3:(env.P.info? 26).isSome=true:=kr
theorem DV:env.P.underlying 30=some (.slice 9):=kr
theorem MP:c7 env.P 30=some 9:=by simp only[c7,DV]
theorem zP:env.P.underlying 44=some (.map 9 4):=kr
theorem P1:env.P.underlying 58=some (.slice 3):=kr
theorem ZY:c7 env.P 58=some 3:=by simp only[c7,P1]
theorem aBL:env.P.cellsOf 58=1:=kr
theorem aCm:fB env.P 58=true:=kr
theorem XJ:dW env.P 58=some false:=kr
theorem aB8:cZ env.P 58=some (.d (.nils)):=kr
theorem oD:xV env.P 59=true:=kr
theorem pB:cZ env.P 59=some (.agg [.d (.nils),.d (.nils)]):=kr
theorem B6:cQ env.P 68 1=some (1,3):=kr
theorem CF:cQ env.P 68 2=some (2,66):=kr
theorem J1:env.P.cellsOf 68=3:=kr
theorem aC3:xV env.P 95=true:=kr
theorem FY:cQ env.P 95 0=some (0,22):=kr
theorem ER:kP env.P 95 0=some (0,1):=kr
theorem FE:cQ env.P 95 1=some (1,3):=kr
theorem aGl:cZ env.P 95=some (.agg [.d (.nils),nI 0]):=kr
theorem B8:env.P.underlying 125=some (.map 9 3):=kr
theorem M5:env.P.underlying 127=some (.slice 131):=kr
theorem NG:env.P.cellsOf 127=1:=kr
theorem LL:dW env.P 127=some false:=kr
theorem OV:cZ env.P 127=some (.d (.nils)):=kr
theorem MR:(env.P.info? 127).isSome=true:=kr
theorem aAf:env.P.underlying 131=some (.array 6 3):=kr
theorem YZ:env.P.cellsOf 131=6:=kr
theorem nB:env.P.underlying 148=some (.slice 26):=kr
theorem vT:c7 env.P 148=some 26:=by simp only[c7,nB]
theorem wY:env.P.cellsOf 148=1:=kr
theorem vQ:dW env.P 148=some false:=kr
theorem CC:env.P.underlying 149=some (.slice 68):=kr
theorem B4:env.P.cellsOf 149=1:=kr
theorem AY:dW env.P 149=some false:=kr
theorem aDS:xV env.P 151=true:=kr
theorem FX:cQ env.P 151 0=some (0,149):=kr
theorem FW:cQ env.P 151 1=some (1,148):=kr
theorem FQ:kP env.P 151 1=some (1,1):=kr
theorem EQ:cQ env.P 151 2=some (2,58):=kr
theorem EN:kP env.P 151 2=some (2,1):=kr
theorem FG:cQ env.P 151 3=some (3,3):=kr
theorem FA:kP env.P 151 3=some (3,1):=kr
theorem F2:cQ env.P 151 4=some (4,3):=kr
theorem FI:kP env.P 151 4=some (4,1):=kr
theorem FK:cQ env.P 151 5=some (5,3):=kr
theorem FP:kP env.P 151 5=some (5,1):=kr
theorem N7:env.P.cellsOf 151=6:=kr
theorem L9:dW env.P 151=some true:=kr
theorem aFV:cZ env.P 151=some (.agg [.d (.nils),.d (.nils),.d (.nils),nI 0,nI 0,nI 0]):=kr
theorem mC:env.P.underlying 175=some (.slice 177):=kr
theorem tV:c7 env.P 175=some 177:=by simp only[c7,mC]
theorem vK:env.P.cellsOf 175=1:=kr
theorem tZ:dW env.P 175=some false:=kr
theorem vM:cZ env.P 175=some (.d (.nils)):=kr
theorem vR:(env.P.info? 175).isSome=true:=kr
theorem QH:xV env.P 177=true:=kr
theorem vL:cQ env.P 177 0=some (0,3):=kr
theorem vS:kP env.P 177 0=some (0,1):=kr
theorem vV:cQ env.P 177 1=some (1,3):=kr
theorem vN:kP env.P 177 1=some (1,1):=kr
theorem vO:cQ env.P 177 2=some (2,58):=kr
theorem vU:kP env.P 177 2=some (2,1):=kr
theorem BT:env.P.cellsOf 177=3:=kr
theorem BU:fB env.P 177=true:=kr
theorem pW:cZ env.P 177=some (.agg [nI 0,nI 0,.d (.nils)]):=kr
theorem wC:env.P.underlying 194=some (.slice 23):=kr
theorem E1:c7 env.P 194=some 23:=by simp only[c7,wC]
theorem zQ:∀parts,uD env.P 26 parts=(gU (aZ (.agg [nI 0,.d (.nils),.d (.nils)])) (parts.map fun p=>(kP env.P 26 p.1,p.2))).map .agg:=fun _=>qX UB rP
theorem fY:∀parts,uD env.P 59 parts=(gU (aZ (.agg [.d (.nils),.d (.nils)])) (parts.map fun p=>(kP env.P 59 p.1,p.2))).map .agg:=fun _=>qX oD pB
theorem LP:∀parts,uD env.P 95 parts=(gU (aZ (.agg [.d (.nils),nI 0])) (parts.map fun p=>(kP env.P 95 p.1,p.2))).map .agg:=fun _=>qX aC3 aGl
theorem LH:∀parts,uD env.P 151 parts=(gU (aZ (.agg [.d (.nils),.d (.nils),.d (.nils),nI 0,nI 0,nI 0])) (parts.map fun p=>(kP env.P 151 p.1,p.2))).map .agg:=fun _=>qX aDS aFV
theorem y9:∀parts,uD env.P 177 parts=(gU (aZ (.agg [nI 0,nI 0,.d (.nils)])) (parts.map fun p=>(kP env.P 177 p.1,p.2))).map .agg:=fun _=>qX QH pW
theorem O3{h:H}{n:Int}{K:IntKind}:eK env.P h 3 5 (.d (.int K n))=some (.d (.int .u8 (IntKind.wrap .u8 n)),h):=zC aMb aEZ
theorem O8{h:H}{n:Int}{K:IntKind}:eK env.P h 5 3 (.d (.int K n))=some (nI (IntKind.wrap .i64 n),h):=zC aEZ aMb
theorem TY0:type_of% (AI @aJB (AI @aMI (AI @aMg (AI @aHV (AI @aL1 (AI @aLr (AI @aI0 (AI @aIt (AI @aFe (AI @aIE (AI @aJy (AI @aGt (AI @aGs (AI @aCp (AI @aGg (AI @aB2 (AI @aCg (AI @aCi (AI @ZG @aB1))))))))))))))))))):=
 ⟨@aJB,@aMI,@aMg,@aHV,@aL1,@aLr,@aI0,@aIt,@aFe,@aIE,@aJy,@aGt,@aGs,@aCp,@aGg,@aB2,@aCg,@aCi,@ZG,@aB1⟩
theorem TY1:type_of% (AI @GW (AI @RA (AI @WQ (AI @SF (AI @DF (AI @OW (AI @Q1 (AI @R4 (AI @N1 @R9))))))))):=
 ⟨@GW,@RA,@WQ,@SF,@DF,@OW,@Q1,@R4,@N1,@R9⟩
theorem TY2:type_of% (AI @SG (AI @KN (AI @WF (AI @aAi (AI @V1 (AI @ZN (AI @YP (AI @xB (AI @xE (AI @wL (AI @wI (AI @wT (AI @wK (AI @CD (AI @CE (AI @BD (AI @rP (AI @zQ (AI @B3 (AI @DV @MP)))))))))))))))))))):=
 ⟨@SG,@KN,@WF,@aAi,@V1,@ZN,@YP,@xB,@xE,@wL,@wI,@wT,@wK,@CD,@CE,@BD,@rP,@zQ,@B3,@DV,@MP⟩
theorem TY3:type_of% (AI @zP (AI @P1 (AI @ZY (AI @aBL (AI @aCm (AI @XJ @aB8)))))):=
 ⟨@zP,@P1,@ZY,@aBL,@aCm,@XJ,@aB8⟩
theorem TY4:type_of% (AI @B6 @fY):=
 ⟨@B6,@fY⟩
theorem TY5:type_of% (AI @J1 @CF):=
 ⟨@J1,@CF⟩
theorem TY6:type_of% (AI @FY @ER):=
 ⟨@FY,@ER⟩
theorem TY7:type_of% (AI @FE @LP):=
 ⟨@FE,@LP⟩
theorem TY8:type_of% (AI @B8 (AI @M5 (AI @NG (AI @LL (AI @OV (AI @MR (AI @aAf (AI @YZ (AI @nB (AI @vT (AI @wY (AI @vQ (AI @CC @B4))))))))))))):=
 ⟨@B8,@M5,@NG,@LL,@OV,@MR,@aAf,@YZ,@nB,@vT,@wY,@vQ,@CC,@B4⟩
theorem TY9:type_of% (AI @AY (AI @FX (AI @FW (AI @FQ (AI @EQ (AI @EN (AI @FG (AI @FA (AI @F2 (AI @FI (AI @FK (AI @FP (AI @N7 @L9))))))))))))):=
 ⟨@AY,@FX,@FW,@FQ,@EQ,@EN,@FG,@FA,@F2,@FI,@FK,@FP,@N7,@L9⟩
theorem TY10:type_of% (AI @LH (AI @mC (AI @tV (AI @vK (AI @tZ (AI @vM @vR)))))):=
 ⟨@LH,@mC,@tV,@vK,@tZ,@vM,@vR⟩
theorem TY11:type_of% (AI @vL (AI @vS (AI @vV (AI @vN (AI @vO (AI @vU (AI @BT (AI @BU (AI @pW @y9))))))))):=
 ⟨@vL,@vS,@vV,@vN,@vO,@vU,@BT,@BU,@pW,@y9⟩
theorem TY13:type_of% (AI @wC @E1):=
 ⟨@wC,@E1⟩
theorem TY17:type_of% (AI @O3 @O8):=
 ⟨@O3,@O8⟩
theorem TY:type_of% (AI @TY0 (AI @TY1 (AI @TY2 (AI @TY3 (AI @TY4 (AI @TY5 (AI @TY6 (AI @TY7 (AI @TY8 (AI @TY9 (AI @TY10 (AI @TY11 (AI @TY13 @TY17))))))))))))):=
 ⟨@TY0,@TY1,@TY2,@TY3,@TY4,@TY5,@TY6,@TY7,@TY8,@TY9,@TY10,@TY11,@TY13,@TY17⟩
end Ev
end Go.Proofs.YthlkcebdfbjdoaaGreatDoor
