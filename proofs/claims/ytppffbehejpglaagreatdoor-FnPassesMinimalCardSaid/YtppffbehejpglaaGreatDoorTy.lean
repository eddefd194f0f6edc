/-
  What the types of the program are, as the evaluator asks. Written by a program.
-/
import Derived.Test.YtppffbehejpglaaGreatDoorEnvF
import Derived.Test.YtppffbehejpglaaGreatDoorEvWalk
set_option linter.unusedSimpArgs false
set_option linter.unusedVariables false
set_option maxRecDepth 100000
namespace Go.Proofs.YtppffbehejpglaaGreatDoor
namespace Ev
def lZ(P:Program)(t:TypeId)(i:Nat):Option (Nat×Nat):=match P.underlying t with
 |some (.struct fields)=>(fields.toList[i]?).map fun f=>(f.offset,P.cellsOf f.type)
 |_=>none
def CR(P:Program)(t:TypeId):Bool:=match P.underlying t with
 |some (.struct fields)=>fields.toList.all fun f=>(P.info? f.type).isSome
 |_=>false
theorem xO{P:Program}{t:TypeId}{z:A}{parts:List (Nat×A)}(hs:CR P t=true)(hz:dA P t=some z):wM P t parts=(iY (a6 z) (parts.map fun p=>(lZ P t p.1,p.2))).map .agg:=by
 unfold CR at hs;unfold wM lZ;rw[hz]
 cases hu:P.underlying t with
 |none=>rw[hu]at hs;cases hs
 |some d=>
  rw[hu]at hs
  cases d<;>first|cases hs|skip
  simp only at hs|-;rw[if_pos hs]
theorem yS{P:Program}{h:H}{t u:TypeId}{K K1 K2:IntKind}{n:Int}(h1:P.underlying t=some (.int K1))(h2:P.underlying u=some (.int K2)):eP P h t u (.d (.int K n))=some (.d (.int K2 (K2.wrap n)),h):=by
 simp only[eP,h1,h2]
theorem aM7:env.P.underlying 3=some (.int .i64):=kr
theorem aJB:cY env.P 3=none:=kr
theorem aNh:env.P.cellsOf 3=1:=kr
theorem aLg:fC env.P 3=true:=kr
theorem aIH:dZ env.P 3=some false:=kr
theorem aMz:dA env.P 3=some (nI 0):=kr
theorem aLs:(env.P.info? 3).isSome=true:=kr
theorem aII:env.P.cellsOf 4=1:=kr
theorem aJj:fC env.P 4=true:=kr
theorem aFN:dZ env.P 4=some false:=kr
theorem aJG:dA env.P 4=some (.d (.bool false)):=kr
theorem aIS:(env.P.info? 4).isSome=true:=kr
theorem aFV:env.P.underlying 5=some (.int .u8):=kr
theorem aFd:env.P.cellsOf 5=1:=kr
theorem aGN:fC env.P 5=true:=kr
theorem aCt:dZ env.P 5=some false:=kr
theorem aFW:dA env.P 5=some (.d (.int .u8 0)):=kr
theorem aCL:env.P.underlying 9=some .string:=kr
theorem aCw:env.P.cellsOf 9=1:=kr
theorem aCv:fC env.P 9=true:=kr
theorem aAJ:dZ env.P 9=some false:=kr
theorem aCS:dA env.P 9=some (.d (.str [])):=kr
theorem GV:env.P.underlying 22=some (.slice 5):=kr
theorem R6:cY env.P 22=some 5:=by simp only[cY,GV]
theorem WS:env.P.cellsOf 22=1:=kr
theorem RA:dZ env.P 22=some false:=kr
theorem D1:env.P.underlying 23=some (.slice 58):=kr
theorem M1:cY env.P 23=some 58:=by simp only[cY,D1]
theorem RS:env.P.cellsOf 23=1:=kr
theorem R4:fC env.P 23=true:=kr
theorem PM:dZ env.P 23=some false:=kr
theorem SW:dA env.P 23=some (.d (.nils)):=kr
theorem QV:(env.P.info? 23).isSome=true:=kr
theorem LM:env.P.underlying 24=some (.slice 4):=kr
theorem VO:cY env.P 24=some 4:=by simp only[cY,LM]
theorem aAg:env.P.cellsOf 24=1:=kr
theorem VM:dZ env.P 24=some false:=kr
theorem X3:dA env.P 24=some (.d (.nils)):=kr
theorem ZC:(env.P.info? 24).isSome=true:=kr
theorem VH:CR env.P 26=true:=kr
theorem wU:cW env.P 26 0=some (0,3):=kr
theorem wW:lZ env.P 26 0=some (0,1):=kr
theorem wQ:cW env.P 26 1=some (1,23):=kr
theorem xB:lZ env.P 26 1=some (1,1):=kr
theorem wP:cW env.P 26 2=some (2,24):=kr
theorem xK:lZ env.P 26 2=some (2,1):=kr
theorem CJ:env.P.cellsOf 26=3:=kr
theorem B8:fC env.P 26=true:=kr
theorem A5:dZ env.P 26=some true:=kr
theorem rU:dA env.P 26=some (.agg [nI 0,.d (.nils),.d (.nils)]):=kr
theorem CM:(env.P.info? 26).isSome=true:=kr
theorem CU:env.P.underlying 30=some (.slice 9):=kr
theorem PC:cY env.P 30=some 9:=by simp only[cY,CU]
theorem BE:env.P.underlying 40=some (.map 9 4):=kr
theorem PS:env.P.underlying 58=some (.slice 3):=kr
theorem aAK:cY env.P 58=some 3:=by simp only[cY,PS]
theorem aC3:env.P.cellsOf 58=1:=kr
theorem aCr:fC env.P 58=true:=kr
theorem YF:dZ env.P 58=some false:=kr
theorem aDa:dA env.P 58=some (.d (.nils)):=kr
theorem aEK:CR env.P 74=true:=kr
theorem FS:cW env.P 74 0=some (0,22):=kr
theorem E7:lZ env.P 74 0=some (0,1):=kr
theorem FW:cW env.P 74 1=some (1,3):=kr
theorem aHd:dA env.P 74=some (.agg [.d (.nils),nI 0]):=kr
theorem CA:env.P.underlying 91=some (.map 9 3):=kr
theorem PB:env.P.underlying 93=some (.slice 97):=kr
theorem OZ:env.P.cellsOf 93=1:=kr
theorem JY:dZ env.P 93=some false:=kr
theorem OO:dA env.P 93=some (.d (.nils)):=kr
theorem O0:(env.P.info? 93).isSome=true:=kr
theorem Z6:env.P.underlying 97=some (.array 6 3):=kr
theorem YQ:env.P.cellsOf 97=6:=kr
theorem m8:env.P.underlying 123=some (.slice 26):=kr
theorem vT:cY env.P 123=some 26:=by simp only[cY,m8]
theorem wI:env.P.cellsOf 123=1:=kr
theorem vK:dZ env.P 123=some false:=kr
theorem B7:env.P.underlying 124=some (.slice 160):=kr
theorem CK:env.P.cellsOf 124=1:=kr
theorem AF:dZ env.P 124=some false:=kr
theorem aD0:CR env.P 126=true:=kr
theorem FZ:cW env.P 126 0=some (0,124):=kr
theorem F4:cW env.P 126 1=some (1,123):=kr
theorem F5:lZ env.P 126 1=some (1,1):=kr
theorem FP:cW env.P 126 2=some (2,58):=kr
theorem FV:lZ env.P 126 2=some (2,1):=kr
theorem ER:cW env.P 126 3=some (3,3):=kr
theorem FQ:lZ env.P 126 3=some (3,1):=kr
theorem GA:cW env.P 126 4=some (4,3):=kr
theorem EX:lZ env.P 126 4=some (4,1):=kr
theorem F2:cW env.P 126 5=some (5,3):=kr
theorem EP:lZ env.P 126 5=some (5,1):=kr
theorem OF:env.P.cellsOf 126=6:=kr
theorem K4:dZ env.P 126=some true:=kr
theorem aFw:dA env.P 126=some (.agg [.d (.nils),.d (.nils),.d (.nils),nI 0,nI 0,nI 0]):=kr
theorem mE:env.P.underlying 130=some (.slice 132):=kr
theorem s8:cY env.P 130=some 132:=by simp only[cY,mE]
theorem vO:env.P.cellsOf 130=1:=kr
theorem tY:dZ env.P 130=some false:=kr
theorem vL:dA env.P 130=some (.d (.nils)):=kr
theorem vR:(env.P.info? 130).isSome=true:=kr
theorem R5:CR env.P 132=true:=kr
theorem vP:cW env.P 132 0=some (0,3):=kr
theorem vV:lZ env.P 132 0=some (0,1):=kr
theorem vN:cW env.P 132 1=some (1,3):=kr
theorem vQ:lZ env.P 132 1=some (1,1):=kr
theorem vU:cW env.P 132 2=some (2,58):=kr
theorem vX:lZ env.P 132 2=some (2,1):=kr
theorem BC:env.P.cellsOf 132=3:=kr
theorem A0:fC env.P 132=true:=kr
theorem qD:dA env.P 132=some (.agg [nI 0,nI 0,.d (.nils)]):=kr
theorem wG:env.P.underlying 144=some (.slice 23):=kr
theorem FO:cY env.P 144=some 23:=by simp only[cY,wG]
theorem CF:cW env.P 160 1=some (1,3):=kr
theorem MP:env.P.cellsOf 160=3:=kr
theorem BR:∀parts,wM env.P 26 parts=(iY (a6 (.agg [nI 0,.d (.nils),.d (.nils)])) (parts.map fun p=>(lZ env.P 26 p.1,p.2))).map .agg:=fun _=>xO VH rU
theorem JM:∀parts,wM env.P 74 parts=(iY (a6 (.agg [.d (.nils),nI 0])) (parts.map fun p=>(lZ env.P 74 p.1,p.2))).map .agg:=fun _=>xO aEK aHd
theorem MO:∀parts,wM env.P 126 parts=(iY (a6 (.agg [.d (.nils),.d (.nils),.d (.nils),nI 0,nI 0,nI 0])) (parts.map fun p=>(lZ env.P 126 p.1,p.2))).map .agg:=fun _=>xO aD0 aFw
theorem zM:∀parts,wM env.P 132 parts=(iY (a6 (.agg [nI 0,nI 0,.d (.nils)])) (parts.map fun p=>(lZ env.P 132 p.1,p.2))).map .agg:=fun _=>xO R5 qD
theorem NI{h:H}{n:Int}{K:IntKind}:eP env.P h 3 5 (.d (.int K n))=some (.d (.int .u8 (IntKind.wrap .u8 n)),h):=yS aM7 aFV
theorem NM{h:H}{n:Int}{K:IntKind}:eP env.P h 5 3 (.d (.int K n))=some (nI (IntKind.wrap .i64 n),h):=yS aFV aM7
theorem TY0:type_of% (AI @aJB (AI @aNh (AI @aLg (AI @aIH (AI @aMz (AI @aLs (AI @aII (AI @aJj (AI @aFN (AI @aJG (AI @aIS (AI @aFd (AI @aGN (AI @aCt (AI @aFW (AI @aCL (AI @aCw (AI @aCv (AI @aAJ @aCS))))))))))))))))))):=
 ⟨@aJB,@aNh,@aLg,@aIH,@aMz,@aLs,@aII,@aJj,@aFN,@aJG,@aIS,@aFd,@aGN,@aCt,@aFW,@aCL,@aCw,@aCv,@aAJ,@aCS⟩
theorem TY1:type_of% (AI @GV (AI @R6 (AI @WS (AI @RA (AI @D1 (AI @M1 (AI @RS (AI @R4 (AI @PM @SW))))))))):=
 ⟨@GV,@R6,@WS,@RA,@D1,@M1,@RS,@R4,@PM,@SW⟩
theorem TY2:type_of% (AI @QV (AI @LM (AI @VO (AI @aAg (AI @VM (AI @X3 (AI @ZC (AI @wU (AI @wW (AI @wQ (AI @xB (AI @wP (AI @xK (AI @CJ (AI @B8 (AI @A5 (AI @rU (AI @BR (AI @CM (AI @CU @PC)))))))))))))))))))):=
 ⟨@QV,@LM,@VO,@aAg,@VM,@X3,@ZC,@wU,@wW,@wQ,@xB,@wP,@xK,@CJ,@B8,@A5,@rU,@BR,@CM,@CU,@PC⟩
theorem TY3:type_of% (AI @BE (AI @PS (AI @aAK (AI @aC3 (AI @aCr (AI @YF @aDa)))))):=
 ⟨@BE,@PS,@aAK,@aC3,@aCr,@YF,@aDa⟩
theorem TY4:type_of% (AI @FS (AI @E7 (AI @FW (AI @JM (AI @CA (AI @PB (AI @OZ (AI @JY (AI @OO (AI @O0 (AI @Z6 @YQ))))))))))):=
 ⟨@FS,@E7,@FW,@JM,@CA,@PB,@OZ,@JY,@OO,@O0,@Z6,@YQ⟩
theorem TY5:type_of% (AI @m8 (AI @vT (AI @wI (AI @vK (AI @B7 (AI @CK @AF)))))):=
 ⟨@m8,@vT,@wI,@vK,@B7,@CK,@AF⟩
theorem TY6:type_of% (AI @FZ (AI @F4 (AI @F5 (AI @FP (AI @FV (AI @ER (AI @FQ (AI @GA (AI @EX (AI @F2 (AI @EP (AI @OF (AI @K4 @MO))))))))))))):=
 ⟨@FZ,@F4,@F5,@FP,@FV,@ER,@FQ,@GA,@EX,@F2,@EP,@OF,@K4,@MO⟩
theorem TY7:type_of% (AI @mE (AI @s8 (AI @vO (AI @tY (AI @vL (AI @vR (AI @vP (AI @vV (AI @vN (AI @vQ (AI @vU (AI @vX (AI @BC (AI @A0 (AI @qD @zM))))))))))))))):=
 ⟨@mE,@s8,@vO,@tY,@vL,@vR,@vP,@vV,@vN,@vQ,@vU,@vX,@BC,@A0,@qD,@zM⟩
theorem TY8:type_of% (AI @wG @FO):=
 ⟨@wG,@FO⟩
theorem TY9:type_of% (AI @CF @MP):=
 ⟨@CF,@MP⟩
theorem TY11:type_of% (AI @NI @NM):=
 ⟨@NI,@NM⟩
theorem TY:type_of% (AI @TY0 (AI @TY1 (AI @TY2 (AI @TY3 (AI @TY4 (AI @TY5 (AI @TY6 (AI @TY7 (AI @TY8 (AI @TY9 @TY11)))))))))):=
 ⟨@TY0,@TY1,@TY2,@TY3,@TY4,@TY5,@TY6,@TY7,@TY8,@TY9,@TY11⟩
end Ev
end Go.Proofs.YtppffbehejpglaaGreatDoor
