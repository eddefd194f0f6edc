/-
  What the types of the program are, as the evaluator asks. Written by a program.
-/
import Derived.Test.YthlkcebdfbjdoaaGreatEnvF
import Derived.Test.YthlkcebdfbjdoaaGreatEvWalk
set_option maxRecDepth 100000
namespace Go.Proofs.YthlkcebdfbjdoaaGreat
namespace Ev
def mC(P:Program)(t:TypeId)(i:Nat):Option (Nat×Nat):=match P.underlying t with
 |some (.struct fields)=>(fields.toList[i]?).map fun f=>(f.offset,P.cellsOf f.type)
 |_=>none
def BG(P:Program)(t:TypeId):Bool:=match P.underlying t with
 |some (.struct fields)=>fields.toList.all fun f=>(P.info? f.type).isSome
 |_=>false
theorem vH{P:Program}{t:TypeId}{z:A}{parts:List (Nat×A)}(hs:BG P t=true)(hz:dX P t=some z):uP P t parts=(gW (aX z) (parts.map fun p=>(mC P t p.1,p.2))).map .agg:=by
 unfold BG at hs;unfold uP mC;rw[hz]
 cases hu:P.underlying t with
 |none=>rw[hu]at hs;cases hs
 |some d=>
  rw[hu]at hs
  cases d<;>first|cases hs|skip
  simp only at hs|-;rw[if_pos hs]
theorem xB{P:Program}{h:H}{t u:TypeId}{K K1 K2:IntKind}{n:Int}(h1:P.underlying t=some (.int K1))(h2:P.underlying u=some (.int K2)):fC P h t u (.d (.int K n))=some (.d (.int K2 (K2.wrap n)),h):=by
 simp only[fC,h1,h2]
theorem aGP:env.P.underlying 3=some (.int .i64):=kr
theorem aEO:cY env.P 3=none:=kr
theorem aId:env.P.cellsOf 3=1:=kr
theorem aHr:eW env.P 3=true:=kr
theorem aE7:eF env.P 3=some false:=kr
theorem aHf:dX env.P 3=some (nI 0):=kr
theorem aI6:(env.P.info? 3).isSome=true:=kr
theorem aEY:env.P.cellsOf 4=1:=kr
theorem aE5:eW env.P 4=true:=kr
theorem aBw:eF env.P 4=some false:=kr
theorem aFY:dX env.P 4=some (.d (.bool false)):=kr
theorem aFm:(env.P.info? 4).isSome=true:=kr
theorem aBf:env.P.underlying 5=some (.int .u8):=kr
theorem aAY:env.P.cellsOf 5=1:=kr
theorem aA4:eW env.P 5=true:=kr
theorem YH:eF env.P 5=some false:=kr
theorem aCY:dX env.P 5=some (.d (.int .u8 0)):=kr
theorem XJ:env.P.underlying 9=some .string:=kr
theorem XZ:env.P.cellsOf 9=1:=kr
theorem Y7:eW env.P 9=true:=kr
theorem SG:eF env.P 9=some false:=kr
theorem Y6:dX env.P 9=some (.d (.str [])):=kr
theorem D8:env.P.underlying 22=some (.slice 5):=kr
theorem NG:cY env.P 22=some 5:=by simp only[cY,D8]
theorem PY:env.P.cellsOf 22=1:=kr
theorem M8:eF env.P 22=some false:=kr
theorem BH:env.P.underlying 23=some (.slice 80):=kr
theorem JO:cY env.P 23=some 80:=by simp only[cY,BH]
theorem M9:env.P.cellsOf 23=1:=kr
theorem N3:eW env.P 23=true:=kr
theorem JF:eF env.P 23=some false:=kr
theorem MQ:dX env.P 23=some (.d (.nils)):=kr
theorem NN:(env.P.info? 23).isSome=true:=kr
theorem GS:env.P.underlying 24=some (.slice 4):=kr
theorem P0:cY env.P 24=some 4:=by simp only[cY,GS]
theorem UI:env.P.cellsOf 24=1:=kr
theorem Q2:eF env.P 24=some false:=kr
theorem V0:dX env.P 24=some (.d (.nils)):=kr
theorem VD:(env.P.info? 24).isSome=true:=kr
theorem OX:BG env.P 26=true:=kr
theorem uM:dH env.P 26 0=some (0,3):=kr
theorem uR:mC env.P 26 0=some (0,1):=kr
theorem uH:dH env.P 26 1=some (1,23):=kr
theorem uO:dH env.P 26 2=some (2,24):=kr
theorem uI:mC env.P 26 2=some (2,1):=kr
theorem zX:env.P.cellsOf 26=3:=kr
theorem zT:eW env.P 26=true:=kr
theorem yX:eF env.P 26=some true:=kr
theorem pZ:dX env.P 26=some (.agg [nI 0,.d (.nils),.d (.nils)]):=kr
theorem zM:(env.P.info? 26).isSome=true:=kr
theorem BD:env.P.underlying 29=some (.slice 9):=kr
theorem JD:cY env.P 29=some 9:=by simp only[cY,BD]
theorem JU:eF env.P 29=some false:=kr
theorem xQ:env.P.underlying 55=some (.map 9 4):=kr
theorem aAr:BG env.P 77=true:=kr
theorem CG:dH env.P 77 0=some (0,22):=kr
theorem CY:mC env.P 77 0=some (0,1):=kr
theorem CE:dH env.P 77 1=some (1,3):=kr
theorem aB9:dX env.P 77=some (.agg [.d (.nils),nI 0]):=kr
theorem LO:env.P.underlying 80=some (.slice 3):=kr
theorem VY:cY env.P 80=some 3:=by simp only[cY,LO]
theorem ZG:env.P.cellsOf 80=1:=kr
theorem XY:eW env.P 80=true:=kr
theorem TR:eF env.P 80=some false:=kr
theorem ZC:dX env.P 80=some (.d (.nils)):=kr
theorem JA:env.P.underlying 95=some (.slice 97):=kr
theorem LJ:env.P.cellsOf 95=1:=kr
theorem IN:eF env.P 95=some false:=kr
theorem K6:dX env.P 95=some (.d (.nils)):=kr
theorem JG:(env.P.info? 95).isSome=true:=kr
theorem SJ:env.P.underlying 97=some (.array 6 3):=kr
theorem R7:env.P.cellsOf 97=6:=kr
theorem mZ:env.P.underlying 107=some (.slice 26):=kr
theorem tU:cY env.P 107=some 26:=by simp only[cY,mZ]
theorem uN:env.P.cellsOf 107=1:=kr
theorem tK:eF env.P 107=some false:=kr
theorem zO:env.P.underlying 108=some (.slice 156):=kr
theorem zU:env.P.cellsOf 108=1:=kr
theorem y8:eF env.P 108=some false:=kr
theorem aAI:BG env.P 110=true:=kr
theorem DK:dH env.P 110 0=some (0,108):=kr
theorem CR:dH env.P 110 1=some (1,107):=kr
theorem C7:mC env.P 110 1=some (1,1):=kr
theorem C5:dH env.P 110 2=some (2,80):=kr
theorem CL:mC env.P 110 2=some (2,1):=kr
theorem CD:dH env.P 110 3=some (3,3):=kr
theorem DI:mC env.P 110 3=some (3,1):=kr
theorem DH:dH env.P 110 4=some (4,3):=kr
theorem DJ:mC env.P 110 4=some (4,1):=kr
theorem DO:dH env.P 110 5=some (5,3):=kr
theorem DQ:mC env.P 110 5=some (5,1):=kr
theorem JW:env.P.cellsOf 110=6:=kr
theorem HQ:eF env.P 110=some true:=kr
theorem aCM:dX env.P 110=some (.agg [.d (.nils),.d (.nils),.d (.nils),nI 0,nI 0,nI 0]):=kr
theorem lT:env.P.underlying 131=some (.slice 133):=kr
theorem rF:cY env.P 131=some 133:=by simp only[cY,lT]
theorem tT:env.P.cellsOf 131=1:=kr
theorem sD:eF env.P 131=some false:=kr
theorem tW:dX env.P 131=some (.d (.nils)):=kr
theorem tN:(env.P.info? 131).isSome=true:=kr
theorem NY:BG env.P 133=true:=kr
theorem tQ:dH env.P 133 0=some (0,3):=kr
theorem tV:mC env.P 133 0=some (0,1):=kr
theorem tL:dH env.P 133 1=some (1,3):=kr
theorem tP:mC env.P 133 1=some (1,1):=kr
theorem tS:dH env.P 133 2=some (2,80):=kr
theorem tM:mC env.P 133 2=some (2,1):=kr
theorem zD:env.P.cellsOf 133=3:=kr
theorem xZ:eW env.P 133=true:=kr
theorem oS:dX env.P 133=some (.agg [nI 0,nI 0,.d (.nils)]):=kr
theorem t6:env.P.underlying 138=some (.slice 23):=kr
theorem C1:cY env.P 138=some 23:=by simp only[cY,t6]
theorem zR:dH env.P 156 1=some (1,3):=kr
theorem IF:env.P.cellsOf 156=3:=kr
theorem yY:∀parts,uP env.P 26 parts=(gW (aX (.agg [nI 0,.d (.nils),.d (.nils)])) (parts.map fun p=>(mC env.P 26 p.1,p.2))).map .agg:=fun _=>vH OX pZ
theorem GE:∀parts,uP env.P 77 parts=(gW (aX (.agg [.d (.nils),nI 0])) (parts.map fun p=>(mC env.P 77 p.1,p.2))).map .agg:=fun _=>vH aAr aB9
theorem H8:∀parts,uP env.P 110 parts=(gW (aX (.agg [.d (.nils),.d (.nils),.d (.nils),nI 0,nI 0,nI 0])) (parts.map fun p=>(mC env.P 110 p.1,p.2))).map .agg:=fun _=>vH aAI aCM
theorem wO:∀parts,uP env.P 133 parts=(gW (aX (.agg [nI 0,nI 0,.d (.nils)])) (parts.map fun p=>(mC env.P 133 p.1,p.2))).map .agg:=fun _=>vH NY oS
theorem K3{h:H}{n:Int}{K:IntKind}:fC env.P h 3 5 (.d (.int K n))=some (.d (.int .u8 (IntKind.wrap .u8 n)),h):=xB aGP aBf
theorem KQ{h:H}{n:Int}{K:IntKind}:fC env.P h 5 3 (.d (.int K n))=some (nI (IntKind.wrap .i64 n),h):=xB aBf aGP
theorem TY0:type_of% (AI @aEO (AI @aId (AI @aHr (AI @aE7 (AI @aHf (AI @aI6 (AI @aEY (AI @aE5 (AI @aBw (AI @aFY (AI @aFm (AI @aAY (AI @aA4 (AI @YH (AI @aCY (AI @XJ (AI @XZ (AI @Y7 (AI @SG @Y6))))))))))))))))))):=
 ⟨@aEO,@aId,@aHr,@aE7,@aHf,@aI6,@aEY,@aE5,@aBw,@aFY,@aFm,@aAY,@aA4,@YH,@aCY,@XJ,@XZ,@Y7,@SG,@Y6⟩
theorem TY1:type_of% (AI @D8 (AI @NG (AI @PY (AI @M8 (AI @BH (AI @JO (AI @M9 (AI @N3 (AI @JF @MQ))))))))):=
 ⟨@D8,@NG,@PY,@M8,@BH,@JO,@M9,@N3,@JF,@MQ⟩
theorem TY2:type_of% (AI @NN (AI @GS (AI @P0 (AI @UI (AI @Q2 (AI @V0 (AI @VD (AI @uM (AI @uR (AI @uH (AI @uO (AI @uI (AI @zX (AI @zT (AI @yX (AI @pZ (AI @yY (AI @zM (AI @BD @JD))))))))))))))))))):=
 ⟨@NN,@GS,@P0,@UI,@Q2,@V0,@VD,@uM,@uR,@uH,@uO,@uI,@zX,@zT,@yX,@pZ,@yY,@zM,@BD,@JD⟩
theorem TY3:type_of% (AI @xQ @JU):=
 ⟨@xQ,@JU⟩
theorem TY4:type_of% (AI @CG (AI @CY (AI @CE (AI @GE (AI @LO (AI @VY (AI @ZG (AI @XY (AI @TR (AI @ZC (AI @JA (AI @LJ (AI @IN (AI @K6 (AI @JG (AI @SJ (AI @R7 (AI @mZ (AI @tU @uN))))))))))))))))))):=
 ⟨@CG,@CY,@CE,@GE,@LO,@VY,@ZG,@XY,@TR,@ZC,@JA,@LJ,@IN,@K6,@JG,@SJ,@R7,@mZ,@tU,@uN⟩
theorem TY5:type_of% (AI @tK (AI @zO (AI @zU (AI @y8 (AI @DK (AI @CR (AI @C7 (AI @C5 (AI @CL (AI @CD (AI @DI @DH))))))))))):=
 ⟨@tK,@zO,@zU,@y8,@DK,@CR,@C7,@C5,@CL,@CD,@DI,@DH⟩
theorem TY6:type_of% (AI @DJ (AI @DO (AI @DQ (AI @JW (AI @HQ (AI @H8 (AI @lT (AI @rF (AI @tT (AI @sD (AI @tW @tN))))))))))):=
 ⟨@DJ,@DO,@DQ,@JW,@HQ,@H8,@lT,@rF,@tT,@sD,@tW,@tN⟩
theorem TY7:type_of% (AI @tQ (AI @tV (AI @tL (AI @tP (AI @tS (AI @tM (AI @zD (AI @xZ (AI @oS (AI @wO (AI @t6 @C1))))))))))):=
 ⟨@tQ,@tV,@tL,@tP,@tS,@tM,@zD,@xZ,@oS,@wO,@t6,@C1⟩
theorem TY8:type_of% (AI @zR @IF):=
 ⟨@zR,@IF⟩
theorem TY10:type_of% (AI @K3 @KQ):=
 ⟨@K3,@KQ⟩
theorem TY:type_of% (AI @TY0 (AI @TY1 (AI @TY2 (AI @TY3 (AI @TY4 (AI @TY5 (AI @TY6 (AI @TY7 (AI @TY8 @TY10))))))))):=
 ⟨@TY0,@TY1,@TY2,@TY3,@TY4,@TY5,@TY6,@TY7,@TY8,@TY10⟩
end Ev
end Go.Proofs.YthlkcebdfbjdoaaGreat
