/-
  What the types of the program are, as the evaluator asks. Written by a program.
-/
import Derived.Test.YtahbdkmimmnadaaGreatDoorEnvF
import Derived.Test.YtahbdkmimmnadaaGreatDoorEvWalk
set_option linter.unusedSimpArgs false
set_option linter.unusedVariables false
set_option maxRecDepth 100000
namespace Go.Proofs.YtahbdkmimmnadaaGreatDoor
namespace Ev
def fA(P:Program)(t:TypeId)(i:Nat):Option (Nat×Nat):=match P.underlying t with
 |some (.struct fields)=>(fields.toList[i]?).map fun f=>(f.offset,P.cellsOf f.type)
 |_=>none
def nR(P:Program)(t:TypeId):Bool:=match P.underlying t with
 |some (.struct fields)=>fields.toList.all fun f=>(P.info? f.type).isSome
 |_=>false
theorem jY{P:Program}{t:TypeId}{z:A}{parts:List (Nat×A)}(hs:nR P t=true)(hz:dB P t=some z):mX P t parts=(gH (aT z) (parts.map fun p=>(fA P t p.1,p.2))).map .agg:=by
 unfold nR at hs;unfold mX fA;rw[hz]
 cases hu:P.underlying t with
 |none=>rw[hu]at hs;cases hs
 |some d=>
  rw[hu]at hs
  cases d<;>first|cases hs|skip
  simp only at hs|-;rw[if_pos hs]
theorem vZ{P:Program}{h:H}{t u:TypeId}{K K1 K2:IntKind}{n:Int}(h1:P.underlying t=some (.int K1))(h2:P.underlying u=some (.int K2)):gI P h t u (.d (.int K n))=some (.d (.int K2 (K2.wrap n)),h):=by
 simp only[gI,h1,h2]
theorem aEA:env.P.underlying 3=some (.int .i64):=kr
theorem aCg:cQ env.P 3=none:=kr
theorem aF3:env.P.cellsOf 3=1:=kr
theorem aEI:eD env.P 3=true:=kr
theorem aDe:cY env.P 3=some false:=kr
theorem aFC:dB env.P 3=some (nI 0):=kr
theorem aGu:(env.P.info? 3).isSome=true:=kr
theorem aCe:env.P.cellsOf 4=1:=kr
theorem aCQ:eD env.P 4=true:=kr
theorem ZQ:cY env.P 4=some false:=kr
theorem aCM:dB env.P 4=some (.d (.bool false)):=kr
theorem aDu:(env.P.info? 4).isSome=true:=kr
theorem ZE:env.P.underlying 5=some (.int .u8):=kr
theorem aAj:env.P.cellsOf 5=1:=kr
theorem ZA:eD env.P 5=true:=kr
theorem VR:cY env.P 5=some false:=kr
theorem aAU:dB env.P 5=some (.d (.int .u8 0)):=kr
theorem UG:env.P.cellsOf 9=1:=kr
theorem P8:cY env.P 9=some false:=kr
theorem zO:env.P.underlying 23=some (.slice 104):=kr
theorem HS:cQ env.P 23=some 104:=by simp only[cQ,zO]
theorem LH:env.P.cellsOf 23=1:=kr
theorem J7:eD env.P 23=true:=kr
theorem I7:cY env.P 23=some false:=kr
theorem LI:dB env.P 23=some (.d (.nils)):=kr
theorem J0:(env.P.info? 23).isSome=true:=kr
theorem F9:env.P.underlying 24=some (.slice 4):=kr
theorem OX:cQ env.P 24=some 4:=by simp only[cQ,F9]
theorem QY:env.P.cellsOf 24=1:=kr
theorem ON:cY env.P 24=some false:=kr
theorem P6:dB env.P 24=some (.d (.nils)):=kr
theorem QR:(env.P.info? 24).isSome=true:=kr
theorem sW:env.P.underlying 29=some (.slice 53):=kr
theorem AK:cQ env.P 29=some 53:=by simp only[cQ,sW]
theorem C4:env.P.cellsOf 29=1:=kr
theorem BN:cY env.P 29=some false:=kr
theorem DD:(env.P.info? 29).isSome=true:=kr
theorem pM:env.P.underlying 31=some (.slice 47):=kr
theorem xK:cQ env.P 31=some 47:=by simp only[cQ,pM]
theorem yV:env.P.cellsOf 31=1:=kr
theorem wO:cY env.P 31=some false:=kr
theorem M2:nR env.P 33=true:=kr
theorem tR:cG env.P 33 0=some (0,3):=kr
theorem tC:fA env.P 33 0=some (0,1):=kr
theorem s9:cG env.P 33 1=some (1,23):=kr
theorem tO:fA env.P 33 1=some (1,1):=kr
theorem tV:cG env.P 33 2=some (2,24):=kr
theorem tG:fA env.P 33 2=some (2,1):=kr
theorem yP:env.P.cellsOf 33=3:=kr
theorem yS:eD env.P 33=true:=kr
theorem xS:cY env.P 33=some true:=kr
theorem pN:dB env.P 33=some (.agg [nI 0,.d (.nils),.d (.nils)]):=kr
theorem yW:(env.P.info? 33).isSome=true:=kr
theorem CL:env.P.underlying 42=some (.slice 5):=kr
theorem LL:cQ env.P 42=some 5:=by simp only[cQ,CL]
theorem NZ:env.P.cellsOf 42=1:=kr
theorem J1:cY env.P 42=some false:=kr
theorem TS:nR env.P 47=true:=kr
theorem yU:cG env.P 47 0=some (0,3):=kr
theorem yX:fA env.P 47 0=some (0,1):=kr
theorem yO:cG env.P 47 1=some (1,3):=kr
theorem yZ:fA env.P 47 1=some (1,1):=kr
theorem y8:cG env.P 47 2=some (2,29):=kr
theorem y4:fA env.P 47 2=some (2,1):=kr
theorem F8:env.P.cellsOf 47=3:=kr
theorem GM:eD env.P 47=true:=kr
theorem CR:cY env.P 47=some true:=kr
theorem uU:dB env.P 47=some (.agg [nI 0,nI 0,.d (.nils)]):=kr
theorem FL:(env.P.info? 47).isSome=true:=kr
theorem aAf:nR env.P 53=true:=kr
theorem CU:cG env.P 53 0=some (0,3):=kr
theorem CS:fA env.P 53 0=some (0,1):=kr
theorem C0:cG env.P 53 1=some (1,3):=kr
theorem C6:fA env.P 53 1=some (1,1):=kr
theorem DE:cG env.P 53 2=some (2,3):=kr
theorem CQ:fA env.P 53 2=some (2,1):=kr
theorem K6:env.P.cellsOf 53=3:=kr
theorem K7:eD env.P 53=true:=kr
theorem IQ:cY env.P 53=some true:=kr
theorem zV:dB env.P 53=some (.agg [nI 0,nI 0,nI 0]):=kr
theorem KF:(env.P.info? 53).isSome=true:=kr
theorem JR:env.P.underlying 104=some (.slice 3):=kr
theorem SE:cQ env.P 104=some 3:=by simp only[cQ,JR]
theorem VK:env.P.cellsOf 104=1:=kr
theorem UD:eD env.P 104=true:=kr
theorem RL:cY env.P 104=some false:=kr
theorem UI:dB env.P 104=some (.d (.nils)):=kr
theorem mB:env.P.underlying 115=some (.slice 33):=kr
theorem sN:cQ env.P 115=some 33:=by simp only[cQ,mB]
theorem tM:env.P.cellsOf 115=1:=kr
theorem sJ:cY env.P 115=some false:=kr
theorem XV:nR env.P 117=true:=kr
theorem A3:cG env.P 117 0=some (0,31):=kr
theorem AY:fA env.P 117 0=some (0,1):=kr
theorem BF:cG env.P 117 1=some (1,115):=kr
theorem BK:fA env.P 117 1=some (1,1):=kr
theorem AN:cG env.P 117 2=some (2,104):=kr
theorem A8:fA env.P 117 2=some (2,1):=kr
theorem AW:cG env.P 117 3=some (3,3):=kr
theorem AO:fA env.P 117 3=some (3,1):=kr
theorem BV:cG env.P 117 4=some (4,3):=kr
theorem BO:fA env.P 117 4=some (4,1):=kr
theorem JB:env.P.cellsOf 117=6:=kr
theorem EL:cY env.P 117=some true:=kr
theorem ZU:dB env.P 117=some (.agg [.d (.nils),.d (.nils),.d (.nils),nI 0,nI 0,nI 0]):=kr
theorem JA:env.P.underlying 121=some (.slice 123):=kr
theorem HE:env.P.cellsOf 121=1:=kr
theorem ER:cY env.P 121=some false:=kr
theorem HF:dB env.P 121=some (.d (.nils)):=kr
theorem H1:(env.P.info? 121).isSome=true:=kr
theorem SY:env.P.underlying 123=some (.array 6 3):=kr
theorem RI:env.P.cellsOf 123=6:=kr
theorem X0:nR env.P 152=true:=kr
theorem BD:cG env.P 152 0=some (0,42):=kr
theorem AU:fA env.P 152 0=some (0,1):=kr
theorem BS:cG env.P 152 1=some (1,3):=kr
theorem ZD:dB env.P 152=some (.agg [.d (.nils),nI 0]):=kr
theorem DB:env.P.underlying 159=some (.slice 161):=kr
theorem KW:env.P.underlying 161=some (.slice 9):=kr
theorem LG:env.P.cellsOf 161=1:=kr
theorem G4:cY env.P 161=some false:=kr
theorem sU:env.P.cellsOf 169=1:=kr
theorem rE:cY env.P 169=some false:=kr
theorem sR:(env.P.info? 169).isSome=true:=kr
theorem mI:env.P.underlying 170=some (.slice 212):=kr
theorem sO:cQ env.P 170=some 212:=by simp only[cQ,mI]
theorem tA:env.P.cellsOf 170=1:=kr
theorem sQ:cY env.P 170=some false:=kr
theorem tT:(env.P.info? 170).isSome=true:=kr
theorem XI:nR env.P 172=true:=kr
theorem A5:cG env.P 172 0=some (0,31):=kr
theorem BI:fA env.P 172 0=some (0,1):=kr
theorem AP:cG env.P 172 1=some (1,170):=kr
theorem G8:env.P.cellsOf 172=2:=kr
theorem GD:cY env.P 172=some true:=kr
theorem xJ:dB env.P 172=some (.agg [.d (.nils),.d (.nils)]):=kr
theorem H5:(env.P.info? 172).isSome=true:=kr
theorem sZ:env.P.underlying 178=some (.slice 23):=kr
theorem A1:cQ env.P 178=some 23:=by simp only[cQ,sZ]
theorem y5:env.P.cellsOf 212=1:=kr
theorem yQ:eD env.P 212=true:=kr
theorem xA:cY env.P 212=some false:=kr
theorem yR:dB env.P 212=some (.d (.nilp)):=kr
theorem lG:env.P.underlying 234=some (.slice 236):=kr
theorem qU:cQ env.P 234=some 236:=by simp only[cQ,lG]
theorem sL:env.P.cellsOf 234=1:=kr
theorem qO:cY env.P 234=some false:=kr
theorem sS:dB env.P 234=some (.d (.nils)):=kr
theorem sF:(env.P.info? 234).isSome=true:=kr
theorem J4:nR env.P 236=true:=kr
theorem sP:cG env.P 236 0=some (0,3):=kr
theorem sG:fA env.P 236 0=some (0,1):=kr
theorem sM:cG env.P 236 1=some (1,3):=kr
theorem sK:fA env.P 236 1=some (1,1):=kr
theorem sV:cG env.P 236 2=some (2,104):=kr
theorem sI:fA env.P 236 2=some (2,1):=kr
theorem xL:env.P.cellsOf 236=3:=kr
theorem wJ:eD env.P 236=true:=kr
theorem n5:dB env.P 236=some (.agg [nI 0,nI 0,.d (.nils)]):=kr
theorem HG:env.P.underlying 266=some (.array 16 123):=kr
theorem HQ:dB env.P 266=some (.agg (List.replicate 96 (nI 0))):=kr
theorem wI:∀parts,mX env.P 33 parts=(gH (aT (.agg [nI 0,.d (.nils),.d (.nils)])) (parts.map fun p=>(fA env.P 33 p.1,p.2))).map .agg:=fun _=>jY M2 pN
theorem DI:∀parts,mX env.P 47 parts=(gH (aT (.agg [nI 0,nI 0,.d (.nils)])) (parts.map fun p=>(fA env.P 47 p.1,p.2))).map .agg:=fun _=>jY TS uU
theorem ID:∀parts,mX env.P 53 parts=(gH (aT (.agg [nI 0,nI 0,nI 0])) (parts.map fun p=>(fA env.P 53 p.1,p.2))).map .agg:=fun _=>jY aAf zV
theorem GG:∀parts,mX env.P 117 parts=(gH (aT (.agg [.d (.nils),.d (.nils),.d (.nils),nI 0,nI 0,nI 0])) (parts.map fun p=>(fA env.P 117 p.1,p.2))).map .agg:=fun _=>jY XV ZU
theorem GE:∀parts,mX env.P 152 parts=(gH (aT (.agg [.d (.nils),nI 0])) (parts.map fun p=>(fA env.P 152 p.1,p.2))).map .agg:=fun _=>jY X0 ZD
theorem FZ:∀parts,mX env.P 172 parts=(gH (aT (.agg [.d (.nils),.d (.nils)])) (parts.map fun p=>(fA env.P 172 p.1,p.2))).map .agg:=fun _=>jY XI xJ
theorem vT:∀parts,mX env.P 236 parts=(gH (aT (.agg [nI 0,nI 0,.d (.nils)])) (parts.map fun p=>(fA env.P 236 p.1,p.2))).map .agg:=fun _=>jY J4 n5
theorem HP{h:H}{n:Int}{K:IntKind}:gI env.P h 3 5 (.d (.int K n))=some (.d (.int .u8 (IntKind.wrap .u8 n)),h):=vZ aEA ZE
theorem HI{h:H}{n:Int}{K:IntKind}:gI env.P h 5 3 (.d (.int K n))=some (nI (IntKind.wrap .i64 n),h):=vZ ZE aEA
theorem TY0:type_of% (AI @aCg (AI @aF3 (AI @aEI (AI @aDe (AI @aFC (AI @aGu (AI @aCe (AI @aCQ (AI @ZQ (AI @aCM (AI @aDu (AI @aAj (AI @ZA (AI @VR (AI @aAU (AI @UG @P8)))))))))))))))):=
 ⟨@aCg,@aF3,@aEI,@aDe,@aFC,@aGu,@aCe,@aCQ,@ZQ,@aCM,@aDu,@aAj,@ZA,@VR,@aAU,@UG,@P8⟩
theorem TY1:type_of% (AI @zO (AI @HS (AI @LH (AI @J7 (AI @I7 @LI))))):=
 ⟨@zO,@HS,@LH,@J7,@I7,@LI⟩
theorem TY2:type_of% (AI @J0 (AI @F9 (AI @OX (AI @QY (AI @ON (AI @P6 (AI @QR (AI @sW (AI @AK @C4))))))))):=
 ⟨@J0,@F9,@OX,@QY,@ON,@P6,@QR,@sW,@AK,@C4⟩
theorem TY3:type_of% (AI @BN (AI @DD (AI @pM (AI @xK (AI @yV (AI @wO (AI @tR (AI @tC (AI @s9 (AI @tO (AI @tV (AI @tG (AI @yP (AI @yS (AI @xS (AI @pN (AI @wI (AI @yW (AI @CL (AI @LL (AI @NZ @J1))))))))))))))))))))):=
 ⟨@BN,@DD,@pM,@xK,@yV,@wO,@tR,@tC,@s9,@tO,@tV,@tG,@yP,@yS,@xS,@pN,@wI,@yW,@CL,@LL,@NZ,@J1⟩
theorem TY4:type_of% (AI @yU (AI @yX (AI @yO (AI @yZ (AI @y8 (AI @y4 (AI @F8 (AI @GM (AI @CR (AI @uU (AI @DI (AI @FL (AI @CU (AI @CS (AI @C0 (AI @C6 (AI @DE @CQ))))))))))))))))):=
 ⟨@yU,@yX,@yO,@yZ,@y8,@y4,@F8,@GM,@CR,@uU,@DI,@FL,@CU,@CS,@C0,@C6,@DE,@CQ⟩
theorem TY5:type_of% (AI @K6 (AI @K7 (AI @IQ (AI @zV (AI @ID @KF))))):=
 ⟨@K6,@K7,@IQ,@zV,@ID,@KF⟩
theorem TY7:type_of% (AI @JR (AI @SE (AI @VK (AI @UD (AI @RL (AI @UI (AI @mB (AI @sN (AI @tM (AI @sJ (AI @A3 (AI @AY (AI @BF @BK))))))))))))):=
 ⟨@JR,@SE,@VK,@UD,@RL,@UI,@mB,@sN,@tM,@sJ,@A3,@AY,@BF,@BK⟩
theorem TY8:type_of% (AI @AN (AI @A8 (AI @AW (AI @AO (AI @BV (AI @BO (AI @JB (AI @EL (AI @GG (AI @JA (AI @HE (AI @ER (AI @HF (AI @H1 (AI @SY @RI))))))))))))))):=
 ⟨@AN,@A8,@AW,@AO,@BV,@BO,@JB,@EL,@GG,@JA,@HE,@ER,@HF,@H1,@SY,@RI⟩
theorem TY9:type_of% (AI @BD (AI @AU (AI @BS (AI @GE (AI @DB (AI @KW (AI @LG (AI @G4 (AI @sU @rE))))))))):=
 ⟨@BD,@AU,@BS,@GE,@DB,@KW,@LG,@G4,@sU,@rE⟩
theorem TY10:type_of% (AI @sR (AI @mI (AI @sO (AI @tA (AI @sQ (AI @tT (AI @A5 (AI @BI (AI @AP (AI @G8 (AI @GD (AI @xJ (AI @FZ (AI @H5 (AI @sZ @A1))))))))))))))):=
 ⟨@sR,@mI,@sO,@tA,@sQ,@tT,@A5,@BI,@AP,@G8,@GD,@xJ,@FZ,@H5,@sZ,@A1⟩
theorem TY13:type_of% (AI @y5 (AI @yQ (AI @xA @yR))):=
 ⟨@y5,@yQ,@xA,@yR⟩
theorem TY14:type_of% (AI @lG (AI @qU (AI @sL (AI @qO (AI @sS (AI @sF (AI @sP (AI @sG (AI @sM (AI @sK (AI @sV (AI @sI (AI @xL (AI @wJ (AI @n5 @vT))))))))))))))):=
 ⟨@lG,@qU,@sL,@qO,@sS,@sF,@sP,@sG,@sM,@sK,@sV,@sI,@xL,@wJ,@n5,@vT⟩
theorem TY16:type_of% (AI @HG @HQ):=
 ⟨@HG,@HQ⟩
theorem TY20:type_of% (AI @HP @HI):=
 ⟨@HP,@HI⟩
theorem TY:type_of% (AI @TY0 (AI @TY1 (AI @TY2 (AI @TY3 (AI @TY4 (AI @TY5 (AI @TY7 (AI @TY8 (AI @TY9 (AI @TY10 (AI @TY13 (AI @TY14 (AI @TY16 @TY20))))))))))))):=
 ⟨@TY0,@TY1,@TY2,@TY3,@TY4,@TY5,@TY7,@TY8,@TY9,@TY10,@TY13,@TY14,@TY16,@TY20⟩
end Ev
end Go.Proofs.YtahbdkmimmnadaaGreatDoor
