/-
  What the types of the program are, as the evaluator asks. Written by a program.
-/
import Derived.Test.YtahbdkmimmnadaaGreatDoorEnvF
import Derived.Test.YtahbdkmimmnadaaGreatDoorEvWalk
set_option linter.unusedSimpArgs false
set_option linter.unusedVariables false
set_option maxRecDepth 100000
namespace Go.Proofs.YtahbdkmimmnadaaGreatDoor
namespace Ev
def fB(P:Program)(t:TypeId)(i:Nat):Option (Nat×Nat):=match P.underlying t with
 |some (.struct fields)=>(fields.toList[i]?).map fun f=>(f.offset,P.cellsOf f.type)
 |_=>none
def oO(P:Program)(t:TypeId):Bool:=match P.underlying t with
 |some (.struct fields)=>fields.toList.all fun f=>(P.info? f.type).isSome
 |_=>false
theorem j0{P:Program}{t:TypeId}{z:A}{parts:List (Nat×A)}(hs:oO P t=true)(hz:dA P t=some z):m4 P t parts=(gI (aT z) (parts.map fun p=>(fB P t p.1,p.2))).map .agg:=by
 unfold oO at hs;unfold m4 fB;rw[hz]
 cases hu:P.underlying t with
 |none=>rw[hu]at hs;cases hs
 |some d=>
  rw[hu]at hs
  cases d<;>first|cases hs|skip
  simp only at hs|-;rw[if_pos hs]
theorem wC{P:Program}{h:H}{t u:TypeId}{K K1 K2:IntKind}{n:Int}(h1:P.underlying t=some (.int K1))(h2:P.underlying u=some (.int K2)):gM P h t u (.d (.int K n))=some (.d (.int K2 (K2.wrap n)),h):=by
 simp only[gM,h1,h2]
theorem aGC:env.P.underlying 3=some (.int .i64):=kr
theorem aCW:cR env.P 3=none:=kr
theorem aFb:env.P.cellsOf 3=1:=kr
theorem aFT:eG env.P 3=true:=kr
theorem aCH:cY env.P 3=some false:=kr
theorem aF4:dA env.P 3=some (nI 0):=kr
theorem aFR:(env.P.info? 3).isSome=true:=kr
theorem aDa:env.P.cellsOf 4=1:=kr
theorem aC5:eG env.P 4=true:=kr
theorem Z6:cY env.P 4=some false:=kr
theorem aCx:dA env.P 4=some (.d (.bool false)):=kr
theorem aDT:(env.P.info? 4).isSome=true:=kr
theorem ZR:env.P.underlying 5=some (.int .u8):=kr
theorem aAF:env.P.cellsOf 5=1:=kr
theorem aAz:eG env.P 5=true:=kr
theorem VH:cY env.P 5=some false:=kr
theorem aAJ:dA env.P 5=some (.d (.int .u8 0)):=kr
theorem UY:env.P.cellsOf 9=1:=kr
theorem QE:cY env.P 9=some false:=kr
theorem zP:env.P.underlying 23=some (.slice 104):=kr
theorem HW:cR env.P 23=some 104:=by simp only[cR,zP]
theorem J9:env.P.cellsOf 23=1:=kr
theorem KM:eG env.P 23=true:=kr
theorem HK:cY env.P 23=some false:=kr
theorem MG:dA env.P 23=some (.d (.nils)):=kr
theorem KH:(env.P.info? 23).isSome=true:=kr
theorem G3:env.P.underlying 24=some (.slice 4):=kr
theorem O1:cR env.P 24=some 4:=by simp only[cR,G3]
theorem QM:env.P.cellsOf 24=1:=kr
theorem O7:cY env.P 24=some false:=kr
theorem QG:dA env.P 24=some (.d (.nils)):=kr
theorem RR:(env.P.info? 24).isSome=true:=kr
theorem s4:env.P.underlying 29=some (.slice 53):=kr
theorem A4:cR env.P 29=some 53:=by simp only[cR,s4]
theorem C5:env.P.cellsOf 29=1:=kr
theorem AO:cY env.P 29=some false:=kr
theorem CY:(env.P.info? 29).isSome=true:=kr
theorem pO:env.P.underlying 31=some (.slice 47):=kr
theorem xI:cR env.P 31=some 47:=by simp only[cR,pO]
theorem y9:env.P.cellsOf 31=1:=kr
theorem wX:cY env.P 31=some false:=kr
theorem NB:oO env.P 33=true:=kr
theorem tW:cE env.P 33 0=some (0,3):=kr
theorem tJ:fB env.P 33 0=some (0,1):=kr
theorem t7:cE env.P 33 1=some (1,23):=kr
theorem tY:fB env.P 33 1=some (1,1):=kr
theorem tC:cE env.P 33 2=some (2,24):=kr
theorem tB:fB env.P 33 2=some (2,1):=kr
theorem yY:env.P.cellsOf 33=3:=kr
theorem y7:eG env.P 33=true:=kr
theorem wQ:cY env.P 33=some true:=kr
theorem pR:dA env.P 33=some (.agg [nI 0,.d (.nils),.d (.nils)]):=kr
theorem yS:(env.P.info? 33).isSome=true:=kr
theorem B3:env.P.underlying 42=some (.slice 5):=kr
theorem MA:cR env.P 42=some 5:=by simp only[cR,B3]
theorem OQ:env.P.cellsOf 42=1:=kr
theorem LK:cY env.P 42=some false:=kr
theorem UG:oO env.P 47=true:=kr
theorem yM:cE env.P 47 0=some (0,3):=kr
theorem yW:fB env.P 47 0=some (0,1):=kr
theorem y4:cE env.P 47 1=some (1,3):=kr
theorem yP:fB env.P 47 1=some (1,1):=kr
theorem y8:cE env.P 47 2=some (2,29):=kr
theorem yU:fB env.P 47 2=some (2,1):=kr
theorem GV:env.P.cellsOf 47=3:=kr
theorem FV:eG env.P 47=true:=kr
theorem C0:cY env.P 47=some true:=kr
theorem vD:dA env.P 47=some (.agg [nI 0,nI 0,.d (.nils)]):=kr
theorem ET:(env.P.info? 47).isSome=true:=kr
theorem aBk:oO env.P 53=true:=kr
theorem CX:cE env.P 53 0=some (0,3):=kr
theorem DL:fB env.P 53 0=some (0,1):=kr
theorem CU:cE env.P 53 1=some (1,3):=kr
theorem C7:fB env.P 53 1=some (1,1):=kr
theorem C4:cE env.P 53 2=some (2,3):=kr
theorem C6:fB env.P 53 2=some (2,1):=kr
theorem L3:env.P.cellsOf 53=3:=kr
theorem L6:eG env.P 53=true:=kr
theorem JB:cY env.P 53=some true:=kr
theorem z9:dA env.P 53=some (.agg [nI 0,nI 0,nI 0]):=kr
theorem KL:(env.P.info? 53).isSome=true:=kr
theorem J3:env.P.underlying 104=some (.slice 3):=kr
theorem Q9:cR env.P 104=some 3:=by simp only[cR,J3]
theorem UX:env.P.cellsOf 104=1:=kr
theorem WJ:eG env.P 104=true:=kr
theorem PW:cY env.P 104=some false:=kr
theorem VK:dA env.P 104=some (.d (.nils)):=kr
theorem mJ:env.P.underlying 115=some (.slice 33):=kr
theorem sU:cR env.P 115=some 33:=by simp only[cR,mJ]
theorem tO:env.P.cellsOf 115=1:=kr
theorem sR:cY env.P 115=some false:=kr
theorem WV:oO env.P 117=true:=kr
theorem A6:cE env.P 117 0=some (0,31):=kr
theorem BJ:fB env.P 117 0=some (0,1):=kr
theorem BR:cE env.P 117 1=some (1,115):=kr
theorem AQ:fB env.P 117 1=some (1,1):=kr
theorem AP:cE env.P 117 2=some (2,104):=kr
theorem AV:fB env.P 117 2=some (2,1):=kr
theorem A1:cE env.P 117 3=some (3,3):=kr
theorem BX:fB env.P 117 3=some (3,1):=kr
theorem AZ:cE env.P 117 4=some (4,3):=kr
theorem BP:fB env.P 117 4=some (4,1):=kr
theorem II:env.P.cellsOf 117=6:=kr
theorem FW:cY env.P 117=some true:=kr
theorem ZK:dA env.P 117=some (.agg [.d (.nils),.d (.nils),.d (.nils),nI 0,nI 0,nI 0]):=kr
theorem HP:env.P.underlying 121=some (.slice 123):=kr
theorem JC:env.P.cellsOf 121=1:=kr
theorem FS:cY env.P 121=some false:=kr
theorem IZ:dA env.P 121=some (.d (.nils)):=kr
theorem IU:(env.P.info? 121).isSome=true:=kr
theorem PX:env.P.underlying 123=some (.array 6 3):=kr
theorem Q1:env.P.cellsOf 123=6:=kr
theorem XB:oO env.P 152=true:=kr
theorem AT:cE env.P 152 0=some (0,42):=kr
theorem A9:fB env.P 152 0=some (0,1):=kr
theorem A0:cE env.P 152 1=some (1,3):=kr
theorem Z3:dA env.P 152=some (.agg [.d (.nils),nI 0]):=kr
theorem DI:env.P.underlying 159=some (.slice 161):=kr
theorem L7:env.P.underlying 161=some (.slice 9):=kr
theorem KW:env.P.cellsOf 161=1:=kr
theorem IE:cY env.P 161=some false:=kr
theorem sJ:env.P.cellsOf 169=1:=kr
theorem rB:cY env.P 169=some false:=kr
theorem sM:(env.P.info? 169).isSome=true:=kr
theorem mI:env.P.underlying 170=some (.slice 212):=kr
theorem sK:cR env.P 170=some 212:=by simp only[cR,mI]
theorem tL:env.P.cellsOf 170=1:=kr
theorem sL:cY env.P 170=some false:=kr
theorem tP:(env.P.info? 170).isSome=true:=kr
theorem WT:oO env.P 172=true:=kr
theorem BY:cE env.P 172 0=some (0,31):=kr
theorem A7:fB env.P 172 0=some (0,1):=kr
theorem BD:cE env.P 172 1=some (1,170):=kr
theorem JK:env.P.cellsOf 172=2:=kr
theorem GB:cY env.P 172=some true:=kr
theorem xL:dA env.P 172=some (.agg [.d (.nils),.d (.nils)]):=kr
theorem I4:(env.P.info? 172).isSome=true:=kr
theorem s7:env.P.underlying 178=some (.slice 23):=kr
theorem BN:cR env.P 178=some 23:=by simp only[cR,s7]
theorem y6:env.P.cellsOf 212=1:=kr
theorem zA:eG env.P 212=true:=kr
theorem xZ:cY env.P 212=some false:=kr
theorem yO:dA env.P 212=some (.d (.nilp)):=kr
theorem lH:env.P.underlying 234=some (.slice 236):=kr
theorem qN:cR env.P 234=some 236:=by simp only[cR,lH]
theorem sY:env.P.cellsOf 234=1:=kr
theorem qV:cY env.P 234=some false:=kr
theorem sS:dA env.P 234=some (.d (.nils)):=kr
theorem sV:(env.P.info? 234).isSome=true:=kr
theorem K8:oO env.P 236=true:=kr
theorem sQ:cE env.P 236 0=some (0,3):=kr
theorem sN:fB env.P 236 0=some (0,1):=kr
theorem sO:cE env.P 236 1=some (1,3):=kr
theorem sI:fB env.P 236 1=some (1,1):=kr
theorem sX:cE env.P 236 2=some (2,104):=kr
theorem sW:fB env.P 236 2=some (2,1):=kr
theorem yD:env.P.cellsOf 236=3:=kr
theorem xB:eG env.P 236=true:=kr
theorem oA:dA env.P 236=some (.agg [nI 0,nI 0,.d (.nils)]):=kr
theorem HZ:env.P.underlying 266=some (.array 16 123):=kr
theorem IR:dA env.P 266=some (.agg (List.replicate 96 (nI 0))):=kr
theorem xH:∀parts,m4 env.P 33 parts=(gI (aT (.agg [nI 0,.d (.nils),.d (.nils)])) (parts.map fun p=>(fB env.P 33 p.1,p.2))).map .agg:=fun _=>j0 NB pR
theorem DK:∀parts,m4 env.P 47 parts=(gI (aT (.agg [nI 0,nI 0,.d (.nils)])) (parts.map fun p=>(fB env.P 47 p.1,p.2))).map .agg:=fun _=>j0 UG vD
theorem IC:∀parts,m4 env.P 53 parts=(gI (aT (.agg [nI 0,nI 0,nI 0])) (parts.map fun p=>(fB env.P 53 p.1,p.2))).map .agg:=fun _=>j0 aBk z9
theorem FY:∀parts,m4 env.P 117 parts=(gI (aT (.agg [.d (.nils),.d (.nils),.d (.nils),nI 0,nI 0,nI 0])) (parts.map fun p=>(fB env.P 117 p.1,p.2))).map .agg:=fun _=>j0 WV ZK
theorem GF:∀parts,m4 env.P 152 parts=(gI (aT (.agg [.d (.nils),nI 0])) (parts.map fun p=>(fB env.P 152 p.1,p.2))).map .agg:=fun _=>j0 XB Z3
theorem G6:∀parts,m4 env.P 172 parts=(gI (aT (.agg [.d (.nils),.d (.nils)])) (parts.map fun p=>(fB env.P 172 p.1,p.2))).map .agg:=fun _=>j0 WT xL
theorem vS:∀parts,m4 env.P 236 parts=(gI (aT (.agg [nI 0,nI 0,.d (.nils)])) (parts.map fun p=>(fB env.P 236 p.1,p.2))).map .agg:=fun _=>j0 K8 oA
theorem JH{h:H}{n:Int}{K:IntKind}:gM env.P h 3 5 (.d (.int K n))=some (.d (.int .u8 (IntKind.wrap .u8 n)),h):=wC aGC ZR
theorem IT{h:H}{n:Int}{K:IntKind}:gM env.P h 5 3 (.d (.int K n))=some (nI (IntKind.wrap .i64 n),h):=wC ZR aGC
theorem TY0:type_of% (AI @aCW (AI @aFb (AI @aFT (AI @aCH (AI @aF4 (AI @aFR (AI @aDa (AI @aC5 (AI @Z6 (AI @aCx (AI @aDT (AI @aAF (AI @aAz (AI @VH (AI @aAJ (AI @UY @QE)))))))))))))))):=
 ⟨@aCW,@aFb,@aFT,@aCH,@aF4,@aFR,@aDa,@aC5,@Z6,@aCx,@aDT,@aAF,@aAz,@VH,@aAJ,@UY,@QE⟩
theorem TY1:type_of% (AI @zP (AI @HW (AI @J9 (AI @KM (AI @HK @MG))))):=
 ⟨@zP,@HW,@J9,@KM,@HK,@MG⟩
theorem TY2:type_of% (AI @KH (AI @G3 (AI @O1 (AI @QM (AI @O7 (AI @QG (AI @RR (AI @s4 (AI @A4 @C5))))))))):=
 ⟨@KH,@G3,@O1,@QM,@O7,@QG,@RR,@s4,@A4,@C5⟩
theorem TY3:type_of% (AI @AO (AI @CY (AI @pO (AI @xI (AI @y9 (AI @wX (AI @tW (AI @tJ (AI @t7 (AI @tY (AI @tC (AI @tB (AI @yY (AI @y7 (AI @wQ (AI @pR (AI @xH (AI @yS (AI @B3 (AI @MA (AI @OQ @LK))))))))))))))))))))):=
 ⟨@AO,@CY,@pO,@xI,@y9,@wX,@tW,@tJ,@t7,@tY,@tC,@tB,@yY,@y7,@wQ,@pR,@xH,@yS,@B3,@MA,@OQ,@LK⟩
theorem TY4:type_of% (AI @yM (AI @yW (AI @y4 (AI @yP (AI @y8 (AI @yU (AI @GV (AI @FV (AI @C0 (AI @vD (AI @DK (AI @ET (AI @CX (AI @DL (AI @CU (AI @C7 (AI @C4 @C6))))))))))))))))):=
 ⟨@yM,@yW,@y4,@yP,@y8,@yU,@GV,@FV,@C0,@vD,@DK,@ET,@CX,@DL,@CU,@C7,@C4,@C6⟩
theorem TY5:type_of% (AI @L3 (AI @L6 (AI @JB (AI @z9 (AI @IC @KL))))):=
 ⟨@L3,@L6,@JB,@z9,@IC,@KL⟩
theorem TY7:type_of% (AI @J3 (AI @Q9 (AI @UX (AI @WJ (AI @PW (AI @VK (AI @mJ (AI @sU (AI @tO (AI @sR (AI @A6 (AI @BJ (AI @BR @AQ))))))))))))):=
 ⟨@J3,@Q9,@UX,@WJ,@PW,@VK,@mJ,@sU,@tO,@sR,@A6,@BJ,@BR,@AQ⟩
theorem TY8:type_of% (AI @AP (AI @AV (AI @A1 (AI @BX (AI @AZ (AI @BP (AI @II (AI @FW (AI @FY (AI @HP (AI @JC (AI @FS (AI @IZ (AI @IU (AI @PX @Q1))))))))))))))):=
 ⟨@AP,@AV,@A1,@BX,@AZ,@BP,@II,@FW,@FY,@HP,@JC,@FS,@IZ,@IU,@PX,@Q1⟩
theorem TY9:type_of% (AI @AT (AI @A9 (AI @A0 (AI @GF (AI @DI (AI @L7 (AI @KW (AI @IE (AI @sJ @rB))))))))):=
 ⟨@AT,@A9,@A0,@GF,@DI,@L7,@KW,@IE,@sJ,@rB⟩
theorem TY10:type_of% (AI @sM (AI @mI (AI @sK (AI @tL (AI @sL (AI @tP (AI @BY (AI @A7 (AI @BD (AI @JK (AI @GB (AI @xL (AI @G6 (AI @I4 (AI @s7 @BN))))))))))))))):=
 ⟨@sM,@mI,@sK,@tL,@sL,@tP,@BY,@A7,@BD,@JK,@GB,@xL,@G6,@I4,@s7,@BN⟩
theorem TY13:type_of% (AI @y6 (AI @zA (AI @xZ @yO))):=
 ⟨@y6,@zA,@xZ,@yO⟩
theorem TY14:type_of% (AI @lH (AI @qN (AI @sY (AI @qV (AI @sS (AI @sV (AI @sQ (AI @sN (AI @sO (AI @sI (AI @sX (AI @sW (AI @yD (AI @xB (AI @oA @vS))))))))))))))):=
 ⟨@lH,@qN,@sY,@qV,@sS,@sV,@sQ,@sN,@sO,@sI,@sX,@sW,@yD,@xB,@oA,@vS⟩
theorem TY16:type_of% (AI @HZ @IR):=
 ⟨@HZ,@IR⟩
theorem TY20:type_of% (AI @JH @IT):=
 ⟨@JH,@IT⟩
theorem TY:type_of% (AI @TY0 (AI @TY1 (AI @TY2 (AI @TY3 (AI @TY4 (AI @TY5 (AI @TY7 (AI @TY8 (AI @TY9 (AI @TY10 (AI @TY13 (AI @TY14 (AI @TY16 @TY20))))))))))))):=
 ⟨@TY0,@TY1,@TY2,@TY3,@TY4,@TY5,@TY7,@TY8,@TY9,@TY10,@TY13,@TY14,@TY16,@TY20⟩
end Ev
end Go.Proofs.YtahbdkmimmnadaaGreatDoor
