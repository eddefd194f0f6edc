/-
  What the types of the program are, as the evaluator asks. Written by a program.
-/
import Derived.Test.YtppffbehejpglaaGreatDoorEnvF
import Derived.Test.YtppffbehejpglaaGreatDoorEvWalk
set_option linter.unusedSimpArgs false
set_option linter.unusedVariables false
set_option maxRecDepth 100000
namespace Go.Proofs.YtppffbehejpglaaGreatDoor
namespace Ev
def mA(P:Program)(t:TypeId)(i:Nat):Option (Nat×Nat):=match P.underlying t with
 |some (.struct fields)=>(fields.toList[i]?).map fun f=>(f.offset,P.cellsOf f.type)
 |_=>none
def DF(P:Program)(t:TypeId):Bool:=match P.underlying t with
 |some (.struct fields)=>fields.toList.all fun f=>(P.info? f.type).isSome
 |_=>false
theorem xZ{P:Program}{t:TypeId}{z:A}{parts:List (Nat×A)}(hs:DF P t=true)(hz:dD P t=some z):wX P t parts=(jC (a7 z) (parts.map fun p=>(mA P t p.1,p.2))).map .agg:=by
 unfold DF at hs;unfold wX mA;rw[hz]
 cases hu:P.underlying t with
 |none=>rw[hu]at hs;cases hs
 |some d=>
  rw[hu]at hs
  cases d<;>first|cases hs|skip
  simp only at hs|-;rw[if_pos hs]
theorem y4{P:Program}{h:H}{t u:TypeId}{K K1 K2:IntKind}{n:Int}(h1:P.underlying t=some (.int K1))(h2:P.underlying u=some (.int K2)):eQ P h t u (.d (.int K n))=some (.d (.int K2 (K2.wrap n)),h):=by
 simp only[eQ,h1,h2]
theorem aMV:env.P.underlying 3=some (.int .i64):=kr
theorem aIu:c8 env.P 3=none:=kr
theorem aMv:env.P.cellsOf 3=1:=kr
theorem aLb:fE env.P 3=true:=kr
theorem aH5:d5 env.P 3=some false:=kr
theorem aLC:dD env.P 3=some (nI 0):=kr
theorem aL2:(env.P.info? 3).isSome=true:=kr
theorem aH7:env.P.cellsOf 4=1:=kr
theorem aJb:fE env.P 4=true:=kr
theorem aFF:d5 env.P 4=some false:=kr
theorem aJR:dD env.P 4=some (.d (.bool false)):=kr
theorem aI3:(env.P.info? 4).isSome=true:=kr
theorem aGb:env.P.underlying 5=some (.int .u8):=kr
theorem aGB:env.P.cellsOf 5=1:=kr
theorem aFP:fE env.P 5=true:=kr
theorem aBU:d5 env.P 5=some false:=kr
theorem aGe:dD env.P 5=some (.d (.int .u8 0)):=kr
theorem aCB:env.P.underlying 9=some .string:=kr
theorem aCg:env.P.cellsOf 9=1:=kr
theorem aCN:fE env.P 9=true:=kr
theorem ZD:d5 env.P 9=some false:=kr
theorem aB7:dD env.P 9=some (.d (.str [])):=kr
theorem GH:env.P.underlying 22=some (.slice 5):=kr
theorem QP:c8 env.P 22=some 5:=by simp only[c8,GH]
theorem VY:env.P.cellsOf 22=1:=kr
theorem QZ:d5 env.P 22=some false:=kr
theorem DX:env.P.underlying 23=some (.slice 58):=kr
theorem OS:c8 env.P 23=some 58:=by simp only[c8,DX]
theorem QK:env.P.cellsOf 23=1:=kr
theorem R2:fE env.P 23=true:=kr
theorem NL:d5 env.P 23=some false:=kr
theorem Q2:dD env.P 23=some (.d (.nils)):=kr
theorem SI:(env.P.info? 23).isSome=true:=kr
theorem JX:env.P.underlying 24=some (.slice 4):=kr
theorem VH:c8 env.P 24=some 4:=by simp only[c8,JX]
theorem YX:env.P.cellsOf 24=1:=kr
theorem VK:d5 env.P 24=some false:=kr
theorem XK:dD env.P 24=some (.d (.nils)):=kr
theorem X5:(env.P.info? 24).isSome=true:=kr
theorem TP:DF env.P 26=true:=kr
theorem xJ:cY env.P 26 0=some (0,3):=kr
theorem xC:mA env.P 26 0=some (0,1):=kr
theorem xI:cY env.P 26 1=some (1,23):=kr
theorem wZ:mA env.P 26 1=some (1,1):=kr
theorem wP:cY env.P 26 2=some (2,24):=kr
theorem wS:mA env.P 26 2=some (2,1):=kr
theorem CH:env.P.cellsOf 26=3:=kr
theorem CC:fE env.P 26=true:=kr
theorem AQ:d5 env.P 26=some true:=kr
theorem rS:dD env.P 26=some (.agg [nI 0,.d (.nils),.d (.nils)]):=kr
theorem CE:(env.P.info? 26).isSome=true:=kr
theorem DB:env.P.underlying 30=some (.slice 9):=kr
theorem O7:c8 env.P 30=some 9:=by simp only[c8,DB]
theorem AC:env.P.underlying 40=some (.map 9 4):=kr
theorem PS:env.P.underlying 58=some (.slice 3):=kr
theorem ZU:c8 env.P 58=some 3:=by simp only[c8,PS]
theorem aCJ:env.P.cellsOf 58=1:=kr
theorem aB9:fE env.P 58=true:=kr
theorem XR:d5 env.P 58=some false:=kr
theorem aCE:dD env.P 58=some (.d (.nils)):=kr
theorem aD6:DF env.P 74=true:=kr
theorem E1:cY env.P 74 0=some (0,22):=kr
theorem F7:mA env.P 74 0=some (0,1):=kr
theorem EM:cY env.P 74 1=some (1,3):=kr
theorem aF2:dD env.P 74=some (.agg [.d (.nils),nI 0]):=kr
theorem B8:env.P.underlying 91=some (.map 9 3):=kr
theorem MW:env.P.underlying 93=some (.slice 97):=kr
theorem OP:env.P.cellsOf 93=1:=kr
theorem K3:d5 env.P 93=some false:=kr
theorem OT:dD env.P 93=some (.d (.nils)):=kr
theorem OK:(env.P.info? 93).isSome=true:=kr
theorem Y3:env.P.underlying 97=some (.array 6 3):=kr
theorem YS:env.P.cellsOf 97=6:=kr
theorem m9:env.P.underlying 123=some (.slice 26):=kr
theorem vX:c8 env.P 123=some 26:=by simp only[c8,m9]
theorem wQ:env.P.cellsOf 123=1:=kr
theorem vZ:d5 env.P 123=some false:=kr
theorem CK:env.P.underlying 124=some (.slice 160):=kr
theorem CO:env.P.cellsOf 124=1:=kr
theorem AK:d5 env.P 124=some false:=kr
theorem aEu:DF env.P 126=true:=kr
theorem F1:cY env.P 126 0=some (0,124):=kr
theorem FC:cY env.P 126 1=some (1,123):=kr
theorem FX:mA env.P 126 1=some (1,1):=kr
theorem FY:cY env.P 126 2=some (2,58):=kr
theorem EN:mA env.P 126 2=some (2,1):=kr
theorem FP:cY env.P 126 3=some (3,3):=kr
theorem FB:mA env.P 126 3=some (3,1):=kr
theorem EU:cY env.P 126 4=some (4,3):=kr
theorem FJ:mA env.P 126 4=some (4,1):=kr
theorem E7:cY env.P 126 5=some (5,3):=kr
theorem EW:mA env.P 126 5=some (5,1):=kr
theorem OC:env.P.cellsOf 126=6:=kr
theorem JM:d5 env.P 126=some true:=kr
theorem aFy:dD env.P 126=some (.agg [.d (.nils),.d (.nils),.d (.nils),nI 0,nI 0,nI 0]):=kr
theorem mG:env.P.underlying 130=some (.slice 132):=kr
theorem tF:c8 env.P 130=some 132:=by simp only[c8,mG]
theorem vV:env.P.cellsOf 130=1:=kr
theorem tL:d5 env.P 130=some false:=kr
theorem vR:dD env.P 130=some (.d (.nils)):=kr
theorem vQ:(env.P.info? 130).isSome=true:=kr
theorem RU:DF env.P 132=true:=kr
theorem vO:cY env.P 132 0=some (0,3):=kr
theorem vS:mA env.P 132 0=some (0,1):=kr
theorem vY:cY env.P 132 1=some (1,3):=kr
theorem vT:mA env.P 132 1=some (1,1):=kr
theorem vN:cY env.P 132 2=some (2,58):=kr
theorem vL:mA env.P 132 2=some (2,1):=kr
theorem BJ:env.P.cellsOf 132=3:=kr
theorem BM:fE env.P 132=true:=kr
theorem qF:dD env.P 132=some (.agg [nI 0,nI 0,.d (.nils)]):=kr
theorem wD:env.P.underlying 144=some (.slice 23):=kr
theorem E6:c8 env.P 144=some 23:=by simp only[c8,wD]
theorem CG:cY env.P 160 1=some (1,3):=kr
theorem JR:env.P.cellsOf 160=3:=kr
theorem BN:∀parts,wX env.P 26 parts=(jC (a7 (.agg [nI 0,.d (.nils),.d (.nils)])) (parts.map fun p=>(mA env.P 26 p.1,p.2))).map .agg:=fun _=>xZ TP rS
theorem MK:∀parts,wX env.P 74 parts=(jC (a7 (.agg [.d (.nils),nI 0])) (parts.map fun p=>(mA env.P 74 p.1,p.2))).map .agg:=fun _=>xZ aD6 aF2
theorem L7:∀parts,wX env.P 126 parts=(jC (a7 (.agg [.d (.nils),.d (.nils),.d (.nils),nI 0,nI 0,nI 0])) (parts.map fun p=>(mA env.P 126 p.1,p.2))).map .agg:=fun _=>xZ aEu aFy
theorem y9:∀parts,wX env.P 132 parts=(jC (a7 (.agg [nI 0,nI 0,.d (.nils)])) (parts.map fun p=>(mA env.P 132 p.1,p.2))).map .agg:=fun _=>xZ RU qF
theorem MX{h:H}{n:Int}{K:IntKind}:eQ env.P h 3 5 (.d (.int K n))=some (.d (.int .u8 (IntKind.wrap .u8 n)),h):=y4 aMV aGb
theorem NP{h:H}{n:Int}{K:IntKind}:eQ env.P h 5 3 (.d (.int K n))=some (nI (IntKind.wrap .i64 n),h):=y4 aGb aMV
theorem TY0:type_of% (AI @aIu (AI @aMv (AI @aLb (AI @aH5 (AI @aLC (AI @aL2 (AI @aH7 (AI @aJb (AI @aFF (AI @aJR (AI @aI3 (AI @aGB (AI @aFP (AI @aBU (AI @aGe (AI @aCB (AI @aCg (AI @aCN (AI @ZD @aB7))))))))))))))))))):=
 ⟨@aIu,@aMv,@aLb,@aH5,@aLC,@aL2,@aH7,@aJb,@aFF,@aJR,@aI3,@aGB,@aFP,@aBU,@aGe,@aCB,@aCg,@aCN,@ZD,@aB7⟩
theorem TY1:type_of% (AI @GH (AI @QP (AI @VY (AI @QZ (AI @DX (AI @OS (AI @QK (AI @R2 (AI @NL @Q2))))))))):=
 ⟨@GH,@QP,@VY,@QZ,@DX,@OS,@QK,@R2,@NL,@Q2⟩
theorem TY2:type_of% (AI @SI (AI @JX (AI @VH (AI @YX (AI @VK (AI @XK (AI @X5 (AI @xJ (AI @xC (AI @xI (AI @wZ (AI @wP (AI @wS (AI @CH (AI @CC (AI @AQ (AI @rS (AI @BN (AI @CE (AI @DB @O7)))))))))))))))))))):=
 ⟨@SI,@JX,@VH,@YX,@VK,@XK,@X5,@xJ,@xC,@xI,@wZ,@wP,@wS,@CH,@CC,@AQ,@rS,@BN,@CE,@DB,@O7⟩
theorem TY3:type_of% (AI @AC (AI @PS (AI @ZU (AI @aCJ (AI @aB9 (AI @XR @aCE)))))):=
 ⟨@AC,@PS,@ZU,@aCJ,@aB9,@XR,@aCE⟩
theorem TY4:type_of% (AI @E1 (AI @F7 (AI @EM (AI @MK (AI @B8 (AI @MW (AI @OP (AI @K3 (AI @OT (AI @OK (AI @Y3 @YS))))))))))):=
 ⟨@E1,@F7,@EM,@MK,@B8,@MW,@OP,@K3,@OT,@OK,@Y3,@YS⟩
theorem TY5:type_of% (AI @m9 (AI @vX (AI @wQ (AI @vZ (AI @CK (AI @CO @AK)))))):=
 ⟨@m9,@vX,@wQ,@vZ,@CK,@CO,@AK⟩
theorem TY6:type_of% (AI @F1 (AI @FC (AI @FX (AI @FY (AI @EN (AI @FP (AI @FB (AI @EU (AI @FJ (AI @E7 (AI @EW (AI @OC (AI @JM @L7))))))))))))):=
 ⟨@F1,@FC,@FX,@FY,@EN,@FP,@FB,@EU,@FJ,@E7,@EW,@OC,@JM,@L7⟩
theorem TY7:type_of% (AI @mG (AI @tF (AI @vV (AI @tL (AI @vR (AI @vQ (AI @vO (AI @vS (AI @vY (AI @vT (AI @vN (AI @vL (AI @BJ (AI @BM (AI @qF @y9))))))))))))))):=
 ⟨@mG,@tF,@vV,@tL,@vR,@vQ,@vO,@vS,@vY,@vT,@vN,@vL,@BJ,@BM,@qF,@y9⟩
theorem TY8:type_of% (AI @wD @E6):=
 ⟨@wD,@E6⟩
theorem TY9:type_of% (AI @CG @JR):=
 ⟨@CG,@JR⟩
theorem TY11:type_of% (AI @MX @NP):=
 ⟨@MX,@NP⟩
theorem TY:type_of% (AI @TY0 (AI @TY1 (AI @TY2 (AI @TY3 (AI @TY4 (AI @TY5 (AI @TY6 (AI @TY7 (AI @TY8 (AI @TY9 @TY11)))))))))):=
 ⟨@TY0,@TY1,@TY2,@TY3,@TY4,@TY5,@TY6,@TY7,@TY8,@TY9,@TY11⟩
end Ev
end Go.Proofs.YtppffbehejpglaaGreatDoor
