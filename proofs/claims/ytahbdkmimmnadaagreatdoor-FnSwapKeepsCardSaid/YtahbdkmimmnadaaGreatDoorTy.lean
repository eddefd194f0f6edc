/-
  What the types of the program are, as the evaluator asks. Written by a program.
-/
import Derived.Test.YtahbdkmimmnadaaGreatDoorEnvF
import Derived.Test.YtahbdkmimmnadaaGreatDoorEvWalk
set_option linter.unusedSimpArgs false
set_option linter.unusedVariables false
set_option maxRecDepth 100000
namespace Go.Proofs.YtahbdkmimmnadaaGreatDoor
namespace Ev
def eQ(P:Program)(t:TypeId)(i:Nat):Option (Nat×Nat):=match P.underlying t with
 |some (.struct fields)=>(fields.toList[i]?).map fun f=>(f.offset,P.cellsOf f.type)
 |_=>none
def oZ(P:Program)(t:TypeId):Bool:=match P.underlying t with
 |some (.struct fields)=>fields.toList.all fun f=>(P.info? f.type).isSome
 |_=>false
theorem j1{P:Program}{t:TypeId}{z:A}{parts:List (Nat×A)}(hs:oZ P t=true)(hz:cX P t=some z):nS P t parts=(gD (aU z) (parts.map fun p=>(eQ P t p.1,p.2))).map .agg:=by
 unfold oZ at hs;unfold nS eQ;rw[hz]
 cases hu:P.underlying t with
 |none=>rw[hu]at hs;cases hs
 |some d=>
  rw[hu]at hs
  cases d<;>first|cases hs|skip
  simp only at hs|-;rw[if_pos hs]
theorem xA{P:Program}{h:H}{t u:TypeId}{K K1 K2:IntKind}{n:Int}(h1:P.underlying t=some (.int K1))(h2:P.underlying u=some (.int K2)):gE P h t u (.d (.int K n))=some (.d (.int K2 (K2.wrap n)),h):=by
 simp only[gE,h1,h2]
theorem aH8:env.P.underlying 3=some (.int .i64):=kr
theorem aEz:cN env.P 3=none:=kr
theorem aIa:env.P.cellsOf 3=1:=kr
theorem aIq:d5 env.P 3=true:=kr
theorem aFo:c7 env.P 3=some false:=kr
theorem aIx:cX env.P 3=some (nI 0):=kr
theorem aHC:(env.P.info? 3).isSome=true:=kr
theorem aFB:env.P.cellsOf 4=1:=kr
theorem aEO:d5 env.P 4=true:=kr
theorem aBW:c7 env.P 4=some false:=kr
theorem aFE:cX env.P 4=some (.d (.bool false)):=kr
theorem aE7:(env.P.info? 4).isSome=true:=kr
theorem aBM:env.P.underlying 5=some (.int .u8):=kr
theorem aCg:env.P.cellsOf 5=1:=kr
theorem aDc:d5 env.P 5=true:=kr
theorem ZY:c7 env.P 5=some false:=kr
theorem aBT:cX env.P 5=some (.d (.int .u8 0)):=kr
theorem ZD:env.P.underlying 9=some .string:=kr
theorem aAb:env.P.cellsOf 9=1:=kr
theorem V9:c7 env.P 9=some false:=kr
theorem A0:env.P.underlying 23=some (.slice 104):=kr
theorem JW:cN env.P 23=some 104:=by simp only[cN,A0]
theorem OB:env.P.cellsOf 23=1:=kr
theorem OQ:d5 env.P 23=true:=kr
theorem LR:c7 env.P 23=some false:=kr
theorem N2:cX env.P 23=some (.d (.nils)):=kr
theorem OA:(env.P.info? 23).isSome=true:=kr
theorem HV:env.P.underlying 24=some (.slice 4):=kr
theorem RM:cN env.P 24=some 4:=by simp only[cN,HV]
theorem UY:env.P.cellsOf 24=1:=kr
theorem Q6:c7 env.P 24=some false:=kr
theorem TZ:cX env.P 24=some (.d (.nils)):=kr
theorem WX:(env.P.info? 24).isSome=true:=kr
theorem tY:env.P.underlying 29=some (.slice 53):=kr
theorem DU:cN env.P 29=some 53:=by simp only[cN,tY]
theorem FR:env.P.cellsOf 29=1:=kr
theorem DD:c7 env.P 29=some false:=kr
theorem FO:(env.P.info? 29).isSome=true:=kr
theorem qI:env.P.underlying 31=some (.slice 47):=kr
theorem yS:cN env.P 31=some 47:=by simp only[cN,qI]
theorem AP:env.P.cellsOf 31=1:=kr
theorem y7:c7 env.P 31=some false:=kr
theorem O0:oZ env.P 33=true:=kr
theorem uV:cF env.P 33 0=some (0,3):=kr
theorem uR:eQ env.P 33 0=some (0,1):=kr
theorem uY:cF env.P 33 1=some (1,23):=kr
theorem u9:eQ env.P 33 1=some (1,1):=kr
theorem uN:cF env.P 33 2=some (2,24):=kr
theorem uU:eQ env.P 33 2=some (2,1):=kr
theorem AD:env.P.cellsOf 33=3:=kr
theorem zZ:d5 env.P 33=true:=kr
theorem x9:c7 env.P 33=some true:=kr
theorem qA:cX env.P 33=some (.agg [nI 0,.d (.nils),.d (.nils)]):=kr
theorem AJ:(env.P.info? 33).isSome=true:=kr
theorem EO:env.P.underlying 42=some (.slice 5):=kr
theorem OI:cN env.P 42=some 5:=by simp only[cN,EO]
theorem R2:env.P.cellsOf 42=1:=kr
theorem OM:c7 env.P 42=some false:=kr
theorem X8:oZ env.P 47=true:=kr
theorem z6:cF env.P 47 0=some (0,3):=kr
theorem AU:eQ env.P 47 0=some (0,1):=kr
theorem AA:cF env.P 47 1=some (1,3):=kr
theorem zX:eQ env.P 47 1=some (1,1):=kr
theorem AQ:cF env.P 47 2=some (2,29):=kr
theorem z8:eQ env.P 47 2=some (2,1):=kr
theorem HN:env.P.cellsOf 47=3:=kr
theorem ID:d5 env.P 47=true:=kr
theorem FQ:c7 env.P 47=some true:=kr
theorem wQ:cX env.P 47=some (.agg [nI 0,nI 0,.d (.nils)]):=kr
theorem H9:(env.P.info? 47).isSome=true:=kr
theorem aB5:oZ env.P 53=true:=kr
theorem FM:cF env.P 53 0=some (0,3):=kr
theorem EV:eQ env.P 53 0=some (0,1):=kr
theorem FS:cF env.P 53 1=some (1,3):=kr
theorem ET:eQ env.P 53 1=some (1,1):=kr
theorem EZ:cF env.P 53 2=some (2,3):=kr
theorem FA:eQ env.P 53 2=some (2,1):=kr
theorem NG:env.P.cellsOf 53=3:=kr
theorem N1:d5 env.P 53=true:=kr
theorem JP:c7 env.P 53=some true:=kr
theorem BT:cX env.P 53=some (.agg [nI 0,nI 0,nI 0]):=kr
theorem NO:(env.P.info? 53).isSome=true:=kr
theorem MY:env.P.underlying 104=some (.slice 3):=kr
theorem VP:cN env.P 104=some 3:=by simp only[cN,MY]
theorem Z7:env.P.cellsOf 104=1:=kr
theorem ZC:d5 env.P 104=true:=kr
theorem VN:c7 env.P 104=some false:=kr
theorem Z3:cX env.P 104=some (.d (.nils)):=kr
theorem mK:env.P.underlying 115=some (.slice 33):=kr
theorem tT:cN env.P 115=some 33:=by simp only[cN,mK]
theorem uH:env.P.cellsOf 115=1:=kr
theorem tP:c7 env.P 115=some false:=kr
theorem aBb:oZ env.P 117=true:=kr
theorem CM:cF env.P 117 0=some (0,31):=kr
theorem CF:eQ env.P 117 0=some (0,1):=kr
theorem C0:cF env.P 117 1=some (1,115):=kr
theorem CG:eQ env.P 117 1=some (1,1):=kr
theorem DI:cF env.P 117 2=some (2,104):=kr
theorem DZ:eQ env.P 117 2=some (2,1):=kr
theorem CE:cF env.P 117 3=some (3,3):=kr
theorem CW:eQ env.P 117 3=some (3,1):=kr
theorem DE:cF env.P 117 4=some (4,3):=kr
theorem CJ:eQ env.P 117 4=some (4,1):=kr
theorem JX:env.P.cellsOf 117=6:=kr
theorem IN:c7 env.P 117=some true:=kr
theorem aBs:cX env.P 117=some (.agg [.d (.nils),.d (.nils),.d (.nils),nI 0,nI 0,nI 0]):=kr
theorem JT:env.P.underlying 121=some (.slice 123):=kr
theorem KL:env.P.cellsOf 121=1:=kr
theorem GZ:c7 env.P 121=some false:=kr
theorem L3:cX env.P 121=some (.d (.nils)):=kr
theorem LK:(env.P.info? 121).isSome=true:=kr
theorem SW:env.P.underlying 123=some (.array 6 3):=kr
theorem S8:env.P.cellsOf 123=6:=kr
theorem aAp:oZ env.P 152=true:=kr
theorem CD:cF env.P 152 0=some (0,42):=kr
theorem CL:eQ env.P 152 0=some (0,1):=kr
theorem DJ:cF env.P 152 1=some (1,3):=kr
theorem aBm:cX env.P 152=some (.agg [.d (.nils),nI 0]):=kr
theorem N0:env.P.underlying 161=some (.slice 9):=kr
theorem aCS:cN env.P 165=none:=kr
theorem tS:env.P.cellsOf 169=1:=kr
theorem sB:c7 env.P 169=some false:=kr
theorem tI:(env.P.info? 169).isSome=true:=kr
theorem mM:env.P.underlying 170=some (.slice 212):=kr
theorem tN:cN env.P 170=some 212:=by simp only[cN,mM]
theorem uM:env.P.cellsOf 170=1:=kr
theorem tV:c7 env.P 170=some false:=kr
theorem uJ:(env.P.info? 170).isSome=true:=kr
theorem aA4:oZ env.P 172=true:=kr
theorem CT:cF env.P 172 0=some (0,31):=kr
theorem CZ:eQ env.P 172 0=some (0,1):=kr
theorem DM:cF env.P 172 1=some (1,170):=kr
theorem JZ:env.P.cellsOf 172=2:=kr
theorem H4:c7 env.P 172=some true:=kr
theorem zF:cX env.P 172=some (.agg [.d (.nils),.d (.nils)]):=kr
theorem LO:(env.P.info? 172).isSome=true:=kr
theorem uE:env.P.underlying 178=some (.slice 23):=kr
theorem DS:cN env.P 178=some 23:=by simp only[cN,uE]
theorem AH:env.P.cellsOf 212=1:=kr
theorem AN:d5 env.P 212=true:=kr
theorem zW:c7 env.P 212=some false:=kr
theorem AK:cX env.P 212=some (.d (.nilp)):=kr
theorem lN:env.P.underlying 234=some (.slice 236):=kr
theorem rZ:cN env.P 234=some 236:=by simp only[cN,lN]
theorem tR:env.P.cellsOf 234=1:=kr
theorem rU:c7 env.P 234=some false:=kr
theorem tK:cX env.P 234=some (.d (.nils)):=kr
theorem tL:(env.P.info? 234).isSome=true:=kr
theorem NA:oZ env.P 236=true:=kr
theorem tJ:cF env.P 236 0=some (0,3):=kr
theorem tU:eQ env.P 236 0=some (0,1):=kr
theorem tO:cF env.P 236 1=some (1,3):=kr
theorem tW:eQ env.P 236 1=some (1,1):=kr
theorem tQ:cF env.P 236 2=some (2,104):=kr
theorem tH:eQ env.P 236 2=some (2,1):=kr
theorem x6:env.P.cellsOf 236=3:=kr
theorem zT:d5 env.P 236=true:=kr
theorem oU:cX env.P 236=some (.agg [nI 0,nI 0,.d (.nils)]):=kr
theorem KS:env.P.underlying 266=some (.array 16 123):=kr
theorem K7:cX env.P 266=some (.agg (List.replicate 96 (nI 0))):=kr
theorem zD:∀parts,nS env.P 33 parts=(gD (aU (.agg [nI 0,.d (.nils),.d (.nils)])) (parts.map fun p=>(eQ env.P 33 p.1,p.2))).map .agg:=fun _=>j1 O0 qA
theorem FG:∀parts,nS env.P 47 parts=(gD (aU (.agg [nI 0,nI 0,.d (.nils)])) (parts.map fun p=>(eQ env.P 47 p.1,p.2))).map .agg:=fun _=>j1 X8 wQ
theorem KB:∀parts,nS env.P 53 parts=(gD (aU (.agg [nI 0,nI 0,nI 0])) (parts.map fun p=>(eQ env.P 53 p.1,p.2))).map .agg:=fun _=>j1 aB5 BT
theorem HS:∀parts,nS env.P 117 parts=(gD (aU (.agg [.d (.nils),.d (.nils),.d (.nils),nI 0,nI 0,nI 0])) (parts.map fun p=>(eQ env.P 117 p.1,p.2))).map .agg:=fun _=>j1 aBb aBs
theorem IM:∀parts,nS env.P 152 parts=(gD (aU (.agg [.d (.nils),nI 0])) (parts.map fun p=>(eQ env.P 152 p.1,p.2))).map .agg:=fun _=>j1 aAp aBm
theorem GU:∀parts,nS env.P 172 parts=(gD (aU (.agg [.d (.nils),.d (.nils)])) (parts.map fun p=>(eQ env.P 172 p.1,p.2))).map .agg:=fun _=>j1 aA4 zF
theorem wX:∀parts,nS env.P 236 parts=(gD (aU (.agg [nI 0,nI 0,.d (.nils)])) (parts.map fun p=>(eQ env.P 236 p.1,p.2))).map .agg:=fun _=>j1 NA oU
theorem KY{h:H}{n:Int}{K:IntKind}:gE env.P h 3 5 (.d (.int K n))=some (.d (.int .u8 (IntKind.wrap .u8 n)),h):=xA aH8 aBM
theorem KH{h:H}{n:Int}{K:IntKind}:gE env.P h 5 3 (.d (.int K n))=some (nI (IntKind.wrap .i64 n),h):=xA aBM aH8
theorem TY0:type_of% (AI @aEz (AI @aIa (AI @aIq (AI @aFo (AI @aIx (AI @aHC (AI @aFB (AI @aEO (AI @aBW (AI @aFE (AI @aE7 (AI @aCg (AI @aDc (AI @ZY (AI @aBT (AI @ZD (AI @aAb @V9))))))))))))))))):=
 ⟨@aEz,@aIa,@aIq,@aFo,@aIx,@aHC,@aFB,@aEO,@aBW,@aFE,@aE7,@aCg,@aDc,@ZY,@aBT,@ZD,@aAb,@V9⟩
theorem TY1:type_of% (AI @A0 (AI @JW (AI @OB (AI @OQ (AI @LR @N2))))):=
 ⟨@A0,@JW,@OB,@OQ,@LR,@N2⟩
theorem TY2:type_of% (AI @OA (AI @HV (AI @RM (AI @UY (AI @Q6 (AI @TZ (AI @WX (AI @tY (AI @DU @FR))))))))):=
 ⟨@OA,@HV,@RM,@UY,@Q6,@TZ,@WX,@tY,@DU,@FR⟩
theorem TY3:type_of% (AI @DD (AI @FO (AI @qI (AI @yS (AI @AP (AI @y7 (AI @uV (AI @uR (AI @uY (AI @u9 (AI @uN (AI @uU (AI @AD (AI @zZ (AI @x9 (AI @qA (AI @zD (AI @AJ (AI @EO (AI @OI (AI @R2 @OM))))))))))))))))))))):=
 ⟨@DD,@FO,@qI,@yS,@AP,@y7,@uV,@uR,@uY,@u9,@uN,@uU,@AD,@zZ,@x9,@qA,@zD,@AJ,@EO,@OI,@R2,@OM⟩
theorem TY4:type_of% (AI @z6 (AI @AU (AI @AA (AI @zX (AI @AQ (AI @z8 (AI @HN (AI @ID (AI @FQ (AI @wQ (AI @FG (AI @H9 (AI @FM (AI @EV (AI @FS (AI @ET (AI @EZ @FA))))))))))))))))):=
 ⟨@z6,@AU,@AA,@zX,@AQ,@z8,@HN,@ID,@FQ,@wQ,@FG,@H9,@FM,@EV,@FS,@ET,@EZ,@FA⟩
theorem TY5:type_of% (AI @NG (AI @N1 (AI @JP (AI @BT (AI @KB @NO))))):=
 ⟨@NG,@N1,@JP,@BT,@KB,@NO⟩
theorem TY7:type_of% (AI @MY (AI @VP (AI @Z7 (AI @ZC (AI @VN (AI @Z3 (AI @mK (AI @tT (AI @uH (AI @tP (AI @CM (AI @CF (AI @C0 @CG))))))))))))):=
 ⟨@MY,@VP,@Z7,@ZC,@VN,@Z3,@mK,@tT,@uH,@tP,@CM,@CF,@C0,@CG⟩
theorem TY8:type_of% (AI @DI (AI @DZ (AI @CE (AI @CW (AI @DE (AI @CJ (AI @JX (AI @IN (AI @HS (AI @JT (AI @KL (AI @GZ (AI @L3 (AI @LK (AI @SW @S8))))))))))))))):=
 ⟨@DI,@DZ,@CE,@CW,@DE,@CJ,@JX,@IN,@HS,@JT,@KL,@GZ,@L3,@LK,@SW,@S8⟩
theorem TY9:type_of% (AI @CD (AI @CL (AI @DJ (AI @IM (AI @N0 (AI @aCS (AI @tS @sB))))))):=
 ⟨@CD,@CL,@DJ,@IM,@N0,@aCS,@tS,@sB⟩
theorem TY10:type_of% (AI @tI (AI @mM (AI @tN (AI @uM (AI @tV (AI @uJ (AI @CT (AI @CZ (AI @DM (AI @JZ (AI @H4 (AI @zF (AI @GU (AI @LO (AI @uE @DS))))))))))))))):=
 ⟨@tI,@mM,@tN,@uM,@tV,@uJ,@CT,@CZ,@DM,@JZ,@H4,@zF,@GU,@LO,@uE,@DS⟩
theorem TY13:type_of% (AI @AH (AI @AN (AI @zW @AK))):=
 ⟨@AH,@AN,@zW,@AK⟩
theorem TY14:type_of% (AI @lN (AI @rZ (AI @tR (AI @rU (AI @tK (AI @tL (AI @tJ (AI @tU (AI @tO (AI @tW (AI @tQ (AI @tH (AI @x6 (AI @zT (AI @oU @wX))))))))))))))):=
 ⟨@lN,@rZ,@tR,@rU,@tK,@tL,@tJ,@tU,@tO,@tW,@tQ,@tH,@x6,@zT,@oU,@wX⟩
theorem TY16:type_of% (AI @KS @K7):=
 ⟨@KS,@K7⟩
theorem TY20:type_of% (AI @KY @KH):=
 ⟨@KY,@KH⟩
theorem TY:type_of% (AI @TY0 (AI @TY1 (AI @TY2 (AI @TY3 (AI @TY4 (AI @TY5 (AI @TY7 (AI @TY8 (AI @TY9 (AI @TY10 (AI @TY13 (AI @TY14 (AI @TY16 @TY20))))))))))))):=
 ⟨@TY0,@TY1,@TY2,@TY3,@TY4,@TY5,@TY7,@TY8,@TY9,@TY10,@TY13,@TY14,@TY16,@TY20⟩
end Ev
end Go.Proofs.YtahbdkmimmnadaaGreatDoor
