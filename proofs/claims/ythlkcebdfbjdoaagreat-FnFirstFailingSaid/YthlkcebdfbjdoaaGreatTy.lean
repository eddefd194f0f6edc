/-
  What the types of the program are, as the evaluator asks. Written by a program.
-/
import Derived.Test.YthlkcebdfbjdoaaGreatEnvF
import Derived.Test.YthlkcebdfbjdoaaGreatEvWalk
set_option linter.unusedSimpArgs false
set_option linter.unusedVariables false
set_option maxRecDepth 100000
namespace Go.Proofs.YthlkcebdfbjdoaaGreat
namespace Ev
def lQ(P:Program)(t:TypeId)(i:Nat):Option (Nat×Nat):=match P.underlying t with
 |some (.struct fields)=>(fields.toList[i]?).map fun f=>(f.offset,P.cellsOf f.type)
 |_=>none
def BQ(P:Program)(t:TypeId):Bool:=match P.underlying t with
 |some (.struct fields)=>fields.toList.all fun f=>(P.info? f.type).isSome
 |_=>false
theorem vR{P:Program}{t:TypeId}{z:A}{parts:List (Nat×A)}(hs:BQ P t=true)(hz:dJ P t=some z):vA P t parts=(iS (aZ z) (parts.map fun p=>(lQ P t p.1,p.2))).map .agg:=by
 unfold BQ at hs;unfold vA lQ;rw[hz]
 cases hu:P.underlying t with
 |none=>rw[hu]at hs;cases hs
 |some d=>
  rw[hu]at hs
  cases d<;>first|cases hs|skip
  simp only at hs|-;rw[if_pos hs]
theorem xF{P:Program}{h:H}{t u:TypeId}{K K1 K2:IntKind}{n:Int}(h1:P.underlying t=some (.int K1))(h2:P.underlying u=some (.int K2)):eI P h t u (.d (.int K n))=some (.d (.int K2 (K2.wrap n)),h):=by
 simp only[eI,h1,h2]
theorem aIS:env.P.underlying 3=some (.int .i64):=kr
theorem aHJ:cX env.P 3=none:=kr
theorem aJH:env.P.cellsOf 3=1:=kr
theorem aI8:fA env.P 3=true:=kr
theorem aGn:dR env.P 3=some false:=kr
theorem aJW:dJ env.P 3=some (nI 0):=kr
theorem aJ1:(env.P.info? 3).isSome=true:=kr
theorem aGx:env.P.cellsOf 4=1:=kr
theorem aG4:fA env.P 4=true:=kr
theorem aD6:dR env.P 4=some false:=kr
theorem aGB:dJ env.P 4=some (.d (.bool false)):=kr
theorem aHo:(env.P.info? 4).isSome=true:=kr
theorem aEW:env.P.underlying 5=some (.int .u8):=kr
theorem aCW:env.P.cellsOf 5=1:=kr
theorem aEJ:fA env.P 5=true:=kr
theorem aBl:dR env.P 5=some false:=kr
theorem aEo:dJ env.P 5=some (.d (.int .u8 0)):=kr
theorem aAC:env.P.underlying 9=some .string:=kr
theorem aAM:env.P.cellsOf 9=1:=kr
theorem aAR:fA env.P 9=true:=kr
theorem VL:dR env.P 9=some false:=kr
theorem aAB:dJ env.P 9=some (.d (.str [])):=kr
theorem E8:env.P.underlying 22=some (.slice 5):=kr
theorem P7:cX env.P 22=some 5:=by simp only[cX,E8]
theorem UD:env.P.cellsOf 22=1:=kr
theorem OC:dR env.P 22=some false:=kr
theorem B6:env.P.underlying 23=some (.slice 80):=kr
theorem K5:cX env.P 23=some 80:=by simp only[cX,B6]
theorem PK:env.P.cellsOf 23=1:=kr
theorem O4:fA env.P 23=true:=kr
theorem MG:dR env.P 23=some false:=kr
theorem PR:dJ env.P 23=some (.d (.nils)):=kr
theorem OD:(env.P.info? 23).isSome=true:=kr
theorem H0:env.P.underlying 24=some (.slice 4):=kr
theorem TH:cX env.P 24=some 4:=by simp only[cX,H0]
theorem W9:env.P.cellsOf 24=1:=kr
theorem SN:dR env.P 24=some false:=kr
theorem YA:dJ env.P 24=some (.d (.nils)):=kr
theorem W0:(env.P.info? 24).isSome=true:=kr
theorem Q4:BQ env.P 26=true:=kr
theorem vE:cW env.P 26 0=some (0,3):=kr
theorem uY:lQ env.P 26 0=some (0,1):=kr
theorem vF:cW env.P 26 1=some (1,23):=kr
theorem vC:cW env.P 26 2=some (2,24):=kr
theorem uV:lQ env.P 26 2=some (2,1):=kr
theorem AQ:env.P.cellsOf 26=3:=kr
theorem A3:fA env.P 26=true:=kr
theorem yW:dR env.P 26=some true:=kr
theorem qE:dJ env.P 26=some (.agg [nI 0,.d (.nils),.d (.nils)]):=kr
theorem AO:(env.P.info? 26).isSome=true:=kr
theorem CA:env.P.underlying 29=some (.slice 9):=kr
theorem K3:cX env.P 29=some 9:=by simp only[cX,CA]
theorem K8:dR env.P 29=some false:=kr
theorem AL:env.P.underlying 55=some (.map 9 4):=kr
theorem aBF:BQ env.P 77=true:=kr
theorem DY:cW env.P 77 0=some (0,22):=kr
theorem EJ:lQ env.P 77 0=some (0,1):=kr
theorem DS:cW env.P 77 1=some (1,3):=kr
theorem aEv:dJ env.P 77=some (.agg [.d (.nils),nI 0]):=kr
theorem N1:env.P.underlying 80=some (.slice 3):=kr
theorem XC:cX env.P 80=some 3:=by simp only[cX,N1]
theorem aBv:env.P.cellsOf 80=1:=kr
theorem aAH:fA env.P 80=true:=kr
theorem YJ:dR env.P 80=some false:=kr
theorem aAI:dJ env.P 80=some (.d (.nils)):=kr
theorem MR:env.P.underlying 95=some (.slice 97):=kr
theorem LZ:env.P.cellsOf 95=1:=kr
theorem IC:dR env.P 95=some false:=kr
theorem LV:dJ env.P 95=some (.d (.nils)):=kr
theorem KW:(env.P.info? 95).isSome=true:=kr
theorem W6:env.P.underlying 97=some (.array 6 3):=kr
theorem XB:env.P.cellsOf 97=6:=kr
theorem mJ:env.P.underlying 107=some (.slice 26):=kr
theorem tX:cX env.P 107=some 26:=by simp only[cX,mJ]
theorem vK:env.P.cellsOf 107=1:=kr
theorem uC:dR env.P 107=some false:=kr
theorem AW:env.P.underlying 108=some (.slice 156):=kr
theorem A6:env.P.cellsOf 108=1:=kr
theorem y7:dR env.P 108=some false:=kr
theorem aBI:BQ env.P 110=true:=kr
theorem EA:cW env.P 110 0=some (0,108):=kr
theorem CY:cW env.P 110 1=some (1,107):=kr
theorem EE:lQ env.P 110 1=some (1,1):=kr
theorem EH:cW env.P 110 2=some (2,80):=kr
theorem DU:lQ env.P 110 2=some (2,1):=kr
theorem EB:cW env.P 110 3=some (3,3):=kr
theorem CX:lQ env.P 110 3=some (3,1):=kr
theorem DM:cW env.P 110 4=some (4,3):=kr
theorem EI:lQ env.P 110 4=some (4,1):=kr
theorem DH:cW env.P 110 5=some (5,3):=kr
theorem EF:lQ env.P 110 5=some (5,1):=kr
theorem L8:env.P.cellsOf 110=6:=kr
theorem I6:dR env.P 110=some true:=kr
theorem aDF:dJ env.P 110=some (.agg [.d (.nils),.d (.nils),.d (.nils),nI 0,nI 0,nI 0]):=kr
theorem lK:env.P.underlying 131=some (.slice 133):=kr
theorem rV:cX env.P 131=some 133:=by simp only[cX,lK]
theorem uB:env.P.cellsOf 131=1:=kr
theorem rZ:dR env.P 131=some false:=kr
theorem uF:dJ env.P 131=some (.d (.nils)):=kr
theorem uA:(env.P.info? 131).isSome=true:=kr
theorem QB:BQ env.P 133=true:=kr
theorem uD:cW env.P 133 0=some (0,3):=kr
theorem t8:lQ env.P 133 0=some (0,1):=kr
theorem tW:cW env.P 133 1=some (1,3):=kr
theorem t7:lQ env.P 133 1=some (1,1):=kr
theorem uE:cW env.P 133 2=some (2,80):=kr
theorem t6:lQ env.P 133 2=some (2,1):=kr
theorem zO:env.P.cellsOf 133=3:=kr
theorem zX:fA env.P 133=true:=kr
theorem oG:dJ env.P 133=some (.agg [nI 0,nI 0,.d (.nils)]):=kr
theorem uJ:env.P.underlying 138=some (.slice 23):=kr
theorem DX:cX env.P 138=some 23:=by simp only[cX,uJ]
theorem A0:cW env.P 156 1=some (1,3):=kr
theorem IU:env.P.cellsOf 156=3:=kr
theorem yC:∀parts,vA env.P 26 parts=(iS (aZ (.agg [nI 0,.d (.nils),.d (.nils)])) (parts.map fun p=>(lQ env.P 26 p.1,p.2))).map .agg:=fun _=>vR Q4 qE
theorem JT:∀parts,vA env.P 77 parts=(iS (aZ (.agg [.d (.nils),nI 0])) (parts.map fun p=>(lQ env.P 77 p.1,p.2))).map .agg:=fun _=>vR aBF aEv
theorem IB:∀parts,vA env.P 110 parts=(iS (aZ (.agg [.d (.nils),.d (.nils),.d (.nils),nI 0,nI 0,nI 0])) (parts.map fun p=>(lQ env.P 110 p.1,p.2))).map .agg:=fun _=>vR aBI aDF
theorem xQ:∀parts,vA env.P 133 parts=(iS (aZ (.agg [nI 0,nI 0,.d (.nils)])) (parts.map fun p=>(lQ env.P 133 p.1,p.2))).map .agg:=fun _=>vR QB oG
theorem KM{h:H}{n:Int}{K:IntKind}:eI env.P h 3 5 (.d (.int K n))=some (.d (.int .u8 (IntKind.wrap .u8 n)),h):=xF aIS aEW
theorem LY{h:H}{n:Int}{K:IntKind}:eI env.P h 5 3 (.d (.int K n))=some (nI (IntKind.wrap .i64 n),h):=xF aEW aIS
theorem TY0:type_of% (AI @aHJ (AI @aJH (AI @aI8 (AI @aGn (AI @aJW (AI @aJ1 (AI @aGx (AI @aG4 (AI @aD6 (AI @aGB (AI @aHo (AI @aCW (AI @aEJ (AI @aBl (AI @aEo (AI @aAC (AI @aAM (AI @aAR (AI @VL @aAB))))))))))))))))))):=
 ⟨@aHJ,@aJH,@aI8,@aGn,@aJW,@aJ1,@aGx,@aG4,@aD6,@aGB,@aHo,@aCW,@aEJ,@aBl,@aEo,@aAC,@aAM,@aAR,@VL,@aAB⟩
theorem TY1:type_of% (AI @E8 (AI @P7 (AI @UD (AI @OC (AI @B6 (AI @K5 (AI @PK (AI @O4 (AI @MG @PR))))))))):=
 ⟨@E8,@P7,@UD,@OC,@B6,@K5,@PK,@O4,@MG,@PR⟩
theorem TY2:type_of% (AI @OD (AI @H0 (AI @TH (AI @W9 (AI @SN (AI @YA (AI @W0 (AI @vE (AI @uY (AI @vF (AI @vC (AI @uV (AI @AQ (AI @A3 (AI @yW (AI @qE (AI @yC (AI @AO (AI @CA @K3))))))))))))))))))):=
 ⟨@OD,@H0,@TH,@W9,@SN,@YA,@W0,@vE,@uY,@vF,@vC,@uV,@AQ,@A3,@yW,@qE,@yC,@AO,@CA,@K3⟩
theorem TY3:type_of% (AI @AL @K8):=
 ⟨@AL,@K8⟩
theorem TY4:type_of% (AI @DY (AI @EJ (AI @DS (AI @JT (AI @N1 (AI @XC (AI @aBv (AI @aAH (AI @YJ (AI @aAI (AI @MR (AI @LZ (AI @IC (AI @LV (AI @KW (AI @W6 (AI @XB (AI @mJ (AI @tX @vK))))))))))))))))))):=
 ⟨@DY,@EJ,@DS,@JT,@N1,@XC,@aBv,@aAH,@YJ,@aAI,@MR,@LZ,@IC,@LV,@KW,@W6,@XB,@mJ,@tX,@vK⟩
theorem TY5:type_of% (AI @uC (AI @AW (AI @A6 (AI @y7 (AI @EA (AI @CY (AI @EE (AI @EH (AI @DU (AI @EB (AI @CX @DM))))))))))):=
 ⟨@uC,@AW,@A6,@y7,@EA,@CY,@EE,@EH,@DU,@EB,@CX,@DM⟩
theorem TY6:type_of% (AI @EI (AI @DH (AI @EF (AI @L8 (AI @I6 (AI @IB (AI @lK (AI @rV (AI @uB (AI @rZ (AI @uF @uA))))))))))):=
 ⟨@EI,@DH,@EF,@L8,@I6,@IB,@lK,@rV,@uB,@rZ,@uF,@uA⟩
theorem TY7:type_of% (AI @uD (AI @t8 (AI @tW (AI @t7 (AI @uE (AI @t6 (AI @zO (AI @zX (AI @oG (AI @xQ (AI @uJ @DX))))))))))):=
 ⟨@uD,@t8,@tW,@t7,@uE,@t6,@zO,@zX,@oG,@xQ,@uJ,@DX⟩
theorem TY8:type_of% (AI @A0 @IU):=
 ⟨@A0,@IU⟩
theorem TY10:type_of% (AI @KM @LY):=
 ⟨@KM,@LY⟩
theorem TY:type_of% (AI @TY0 (AI @TY1 (AI @TY2 (AI @TY3 (AI @TY4 (AI @TY5 (AI @TY6 (AI @TY7 (AI @TY8 @TY10))))))))):=
 ⟨@TY0,@TY1,@TY2,@TY3,@TY4,@TY5,@TY6,@TY7,@TY8,@TY10⟩
end Ev
end Go.Proofs.YthlkcebdfbjdoaaGreat
