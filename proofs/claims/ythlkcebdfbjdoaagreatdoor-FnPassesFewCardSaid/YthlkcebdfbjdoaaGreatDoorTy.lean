/-
  What the types of the program are, as the evaluator asks. Written by a program.
-/
import Derived.Test.YthlkcebdfbjdoaaGreatDoorEnvF
import Derived.Test.YthlkcebdfbjdoaaGreatDoorEvWalk
set_option linter.unusedSimpArgs false
set_option linter.unusedVariables false
set_option maxRecDepth 100000
namespace Go.Proofs.YthlkcebdfbjdoaaGreatDoor
namespace Ev
def kR(P:Program)(t:TypeId)(i:Nat):Option (Nat×Nat):=match P.underlying t with
 |some (.struct fields)=>(fields.toList[i]?).map fun f=>(f.offset,P.cellsOf f.type)
 |_=>none
def yL(P:Program)(t:TypeId):Bool:=match P.underlying t with
 |some (.struct fields)=>fields.toList.all fun f=>(P.info? f.type).isSome
 |_=>false
theorem qY{P:Program}{t:TypeId}{z:A}{parts:List (Nat×A)}(hs:yL P t=true)(hz:cZ P t=some z):s6 P t parts=(gR (aZ z) (parts.map fun p=>(kR P t p.1,p.2))).map .agg:=by
 unfold yL at hs;unfold s6 kR;rw[hz]
 cases hu:P.underlying t with
 |none=>rw[hu]at hs;cases hs
 |some d=>
  rw[hu]at hs
  cases d<;>first|cases hs|skip
  simp only at hs|-;rw[if_pos hs]
theorem zA{P:Program}{h:H}{t u:TypeId}{K K1 K2:IntKind}{n:Int}(h1:P.underlying t=some (.int K1))(h2:P.underlying u=some (.int K2)):eM P h t u (.d (.int K n))=some (.d (.int K2 (K2.wrap n)),h):=by
 simp only[eM,h1,h2]
theorem aNa:env.P.underlying 3=some (.int .i64):=kr
theorem aJU:c7 env.P 3=none:=kr
theorem aNH:env.P.cellsOf 3=1:=kr
theorem aNe:fC env.P 3=true:=kr
theorem aJM:dZ env.P 3=some false:=kr
theorem aMO:cZ env.P 3=some (nI 0):=kr
theorem aLE:(env.P.info? 3).isSome=true:=kr
theorem aIZ:env.P.cellsOf 4=1:=kr
theorem aIY:fC env.P 4=true:=kr
theorem aF4:dZ env.P 4=some false:=kr
theorem aIk:cZ env.P 4=some (.d (.bool false)):=kr
theorem aKd:(env.P.info? 4).isSome=true:=kr
theorem aFu:env.P.underlying 5=some (.int .u8):=kr
theorem aFT:env.P.cellsOf 5=1:=kr
theorem aGw:fC env.P 5=true:=kr
theorem aCF:dZ env.P 5=some false:=kr
theorem aF2:cZ env.P 5=some (.d (.int .u8 0)):=kr
theorem aCT:env.P.underlying 9=some .string:=kr
theorem aCb:env.P.cellsOf 9=1:=kr
theorem aCY:fC env.P 9=true:=kr
theorem XX:dZ env.P 9=some false:=kr
theorem aCy:cZ env.P 9=some (.d (.str [])):=kr
theorem GS:env.P.underlying 22=some (.slice 5):=kr
theorem SA:c7 env.P 22=some 5:=by simp only[c7,GS]
theorem VP:env.P.cellsOf 22=1:=kr
theorem R5:dZ env.P 22=some false:=kr
theorem DU:env.P.underlying 23=some (.slice 58):=kr
theorem N8:c7 env.P 23=some 58:=by simp only[c7,DU]
theorem RA:env.P.cellsOf 23=1:=kr
theorem SN:fC env.P 23=true:=kr
theorem M9:dZ env.P 23=some false:=kr
theorem SY:cZ env.P 23=some (.d (.nils)):=kr
theorem SW:(env.P.info? 23).isSome=true:=kr
theorem MF:env.P.underlying 24=some (.slice 4):=kr
theorem VZ:c7 env.P 24=some 4:=by simp only[c7,MF]
theorem aAu:env.P.cellsOf 24=1:=kr
theorem WG:dZ env.P 24=some false:=kr
theorem aAy:cZ env.P 24=some (.d (.nils)):=kr
theorem aA3:(env.P.info? 24).isSome=true:=kr
theorem UL:yL env.P 26=true:=kr
theorem wN:cQ env.P 26 0=some (0,3):=kr
theorem xK:kR env.P 26 0=some (0,1):=kr
theorem xA:cQ env.P 26 1=some (1,23):=kr
theorem xH:kR env.P 26 1=some (1,1):=kr
theorem wU:cQ env.P 26 2=some (2,24):=kr
theorem xI:kR env.P 26 2=some (2,1):=kr
theorem CH:env.P.cellsOf 26=3:=kr
theorem CC:fC env.P 26=true:=kr
theorem B0:dZ env.P 26=some true:=kr
theorem rT:cZ env.P 26=some (.agg [nI 0,.d (.nils),.d (.nils)]):=kr
theorem CP:(env.P.info? 26).isSome=true:=kr
theorem C1:env.P.underlying 30=some (.slice 9):=kr
theorem NO:c7 env.P 30=some 9:=by simp only[c7,C1]
theorem AO:env.P.underlying 44=some (.map 9 4):=kr
theorem QA:env.P.underlying 58=some (.slice 3):=kr
theorem aAj:c7 env.P 58=some 3:=by simp only[c7,QA]
theorem aCE:env.P.cellsOf 58=1:=kr
theorem aCN:fC env.P 58=true:=kr
theorem YW:dZ env.P 58=some false:=kr
theorem aCJ:cZ env.P 58=some (.d (.nils)):=kr
theorem oB:yL env.P 59=true:=kr
theorem pD:cZ env.P 59=some (.agg [.d (.nils),.d (.nils)]):=kr
theorem CA:cQ env.P 68 1=some (1,3):=kr
theorem CQ:cQ env.P 68 2=some (2,66):=kr
theorem MA:env.P.cellsOf 68=3:=kr
theorem aEG:yL env.P 95=true:=kr
theorem F8:cQ env.P 95 0=some (0,22):=kr
theorem E1:kR env.P 95 0=some (0,1):=kr
theorem FF:cQ env.P 95 1=some (1,3):=kr
theorem aGi:cZ env.P 95=some (.agg [.d (.nils),nI 0]):=kr
theorem CG:env.P.underlying 125=some (.map 9 3):=kr
theorem PC:env.P.underlying 127=some (.slice 131):=kr
theorem NS:env.P.cellsOf 127=1:=kr
theorem J1:dZ env.P 127=some false:=kr
theorem M0:cZ env.P 127=some (.d (.nils)):=kr
theorem PL:(env.P.info? 127).isSome=true:=kr
theorem ZV:env.P.underlying 131=some (.array 6 3):=kr
theorem Z3:env.P.cellsOf 131=6:=kr
theorem m8:env.P.underlying 148=some (.slice 26):=kr
theorem vN:c7 env.P 148=some 26:=by simp only[c7,m8]
theorem xJ:env.P.cellsOf 148=1:=kr
theorem vP:dZ env.P 148=some false:=kr
theorem CN:env.P.underlying 149=some (.slice 68):=kr
theorem CB:env.P.cellsOf 149=1:=kr
theorem BR:dZ env.P 149=some false:=kr
theorem aD3:yL env.P 151=true:=kr
theorem F2:cQ env.P 151 0=some (0,149):=kr
theorem EQ:cQ env.P 151 1=some (1,148):=kr
theorem F9:kR env.P 151 1=some (1,1):=kr
theorem F7:cQ env.P 151 2=some (2,58):=kr
theorem FK:kR env.P 151 2=some (2,1):=kr
theorem ET:cQ env.P 151 3=some (3,3):=kr
theorem F3:kR env.P 151 3=some (3,1):=kr
theorem FY:cQ env.P 151 4=some (4,3):=kr
theorem E5:kR env.P 151 4=some (4,1):=kr
theorem EW:cQ env.P 151 5=some (5,3):=kr
theorem E4:kR env.P 151 5=some (5,1):=kr
theorem PG:env.P.cellsOf 151=6:=kr
theorem JV:dZ env.P 151=some true:=kr
theorem aFJ:cZ env.P 151=some (.agg [.d (.nils),.d (.nils),.d (.nils),nI 0,nI 0,nI 0]):=kr
theorem mC:env.P.underlying 175=some (.slice 177):=kr
theorem uB:c7 env.P 175=some 177:=by simp only[c7,mC]
theorem vR:env.P.cellsOf 175=1:=kr
theorem tF:dZ env.P 175=some false:=kr
theorem vX:cZ env.P 175=some (.d (.nils)):=kr
theorem vZ:(env.P.info? 175).isSome=true:=kr
theorem SB:yL env.P 177=true:=kr
theorem vQ:cQ env.P 177 0=some (0,3):=kr
theorem vT:kR env.P 177 0=some (0,1):=kr
theorem vS:cQ env.P 177 1=some (1,3):=kr
theorem v8:kR env.P 177 1=some (1,1):=kr
theorem vU:cQ env.P 177 2=some (2,58):=kr
theorem wA:kR env.P 177 2=some (2,1):=kr
theorem zS:env.P.cellsOf 177=3:=kr
theorem z7:fC env.P 177=true:=kr
theorem qE:cZ env.P 177=some (.agg [nI 0,nI 0,.d (.nils)]):=kr
theorem wI:env.P.underlying 194=some (.slice 23):=kr
theorem EX:c7 env.P 194=some 23:=by simp only[c7,wI]
theorem AQ:∀parts,s6 env.P 26 parts=(gR (aZ (.agg [nI 0,.d (.nils),.d (.nils)])) (parts.map fun p=>(kR env.P 26 p.1,p.2))).map .agg:=fun _=>qY UL rT
theorem f5:∀parts,s6 env.P 59 parts=(gR (aZ (.agg [.d (.nils),.d (.nils)])) (parts.map fun p=>(kR env.P 59 p.1,p.2))).map .agg:=fun _=>qY oB pD
theorem LR:∀parts,s6 env.P 95 parts=(gR (aZ (.agg [.d (.nils),nI 0])) (parts.map fun p=>(kR env.P 95 p.1,p.2))).map .agg:=fun _=>qY aEG aGi
theorem KZ:∀parts,s6 env.P 151 parts=(gR (aZ (.agg [.d (.nils),.d (.nils),.d (.nils),nI 0,nI 0,nI 0])) (parts.map fun p=>(kR env.P 151 p.1,p.2))).map .agg:=fun _=>qY aD3 aFJ
theorem yV:∀parts,s6 env.P 177 parts=(gR (aZ (.agg [nI 0,nI 0,.d (.nils)])) (parts.map fun p=>(kR env.P 177 p.1,p.2))).map .agg:=fun _=>qY SB qE
theorem PN{h:H}{n:Int}{K:IntKind}:eM env.P h 3 5 (.d (.int K n))=some (.d (.int .u8 (IntKind.wrap .u8 n)),h):=zA aNa aFu
theorem NL{h:H}{n:Int}{K:IntKind}:eM env.P h 5 3 (.d (.int K n))=some (nI (IntKind.wrap .i64 n),h):=zA aFu aNa
theorem TY0:type_of% (AI @aJU (AI @aNH (AI @aNe (AI @aJM (AI @aMO (AI @aLE (AI @aIZ (AI @aIY (AI @aF4 (AI @aIk (AI @aKd (AI @aFT (AI @aGw (AI @aCF (AI @aF2 (AI @aCT (AI @aCb (AI @aCY (AI @XX @aCy))))))))))))))))))):=
 ⟨@aJU,@aNH,@aNe,@aJM,@aMO,@aLE,@aIZ,@aIY,@aF4,@aIk,@aKd,@aFT,@aGw,@aCF,@aF2,@aCT,@aCb,@aCY,@XX,@aCy⟩
theorem TY1:type_of% (AI @GS (AI @SA (AI @VP (AI @R5 (AI @DU (AI @N8 (AI @RA (AI @SN (AI @M9 @SY))))))))):=
 ⟨@GS,@SA,@VP,@R5,@DU,@N8,@RA,@SN,@M9,@SY⟩
theorem TY2:type_of% (AI @SW (AI @MF (AI @VZ (AI @aAu (AI @WG (AI @aAy (AI @aA3 (AI @wN (AI @xK (AI @xA (AI @xH (AI @wU (AI @xI (AI @CH (AI @CC (AI @B0 (AI @rT (AI @AQ (AI @CP (AI @C1 @NO)))))))))))))))))))):=
 ⟨@SW,@MF,@VZ,@aAu,@WG,@aAy,@aA3,@wN,@xK,@xA,@xH,@wU,@xI,@CH,@CC,@B0,@rT,@AQ,@CP,@C1,@NO⟩
theorem TY3:type_of% (AI @AO (AI @QA (AI @aAj (AI @aCE (AI @aCN (AI @YW @aCJ)))))):=
 ⟨@AO,@QA,@aAj,@aCE,@aCN,@YW,@aCJ⟩
theorem TY4:type_of% (AI @CA @f5):=
 ⟨@CA,@f5⟩
theorem TY5:type_of% (AI @MA @CQ):=
 ⟨@MA,@CQ⟩
theorem TY6:type_of% (AI @F8 @E1):=
 ⟨@F8,@E1⟩
theorem TY7:type_of% (AI @FF @LR):=
 ⟨@FF,@LR⟩
theorem TY8:type_of% (AI @CG (AI @PC (AI @NS (AI @J1 (AI @M0 (AI @PL (AI @ZV (AI @Z3 (AI @m8 (AI @vN (AI @xJ (AI @vP (AI @CN @CB))))))))))))):=
 ⟨@CG,@PC,@NS,@J1,@M0,@PL,@ZV,@Z3,@m8,@vN,@xJ,@vP,@CN,@CB⟩
theorem TY9:type_of% (AI @BR (AI @F2 (AI @EQ (AI @F9 (AI @F7 (AI @FK (AI @ET (AI @F3 (AI @FY (AI @E5 (AI @EW (AI @E4 (AI @PG @JV))))))))))))):=
 ⟨@BR,@F2,@EQ,@F9,@F7,@FK,@ET,@F3,@FY,@E5,@EW,@E4,@PG,@JV⟩
theorem TY10:type_of% (AI @KZ (AI @mC (AI @uB (AI @vR (AI @tF (AI @vX @vZ)))))):=
 ⟨@KZ,@mC,@uB,@vR,@tF,@vX,@vZ⟩
theorem TY11:type_of% (AI @vQ (AI @vT (AI @vS (AI @v8 (AI @vU (AI @wA (AI @zS (AI @z7 (AI @qE @yV))))))))):=
 ⟨@vQ,@vT,@vS,@v8,@vU,@wA,@zS,@z7,@qE,@yV⟩
theorem TY13:type_of% (AI @wI @EX):=
 ⟨@wI,@EX⟩
theorem TY17:type_of% (AI @PN @NL):=
 ⟨@PN,@NL⟩
theorem TY:type_of% (AI @TY0 (AI @TY1 (AI @TY2 (AI @TY3 (AI @TY4 (AI @TY5 (AI @TY6 (AI @TY7 (AI @TY8 (AI @TY9 (AI @TY10 (AI @TY11 (AI @TY13 @TY17))))))))))))):=
 ⟨@TY0,@TY1,@TY2,@TY3,@TY4,@TY5,@TY6,@TY7,@TY8,@TY9,@TY10,@TY11,@TY13,@TY17⟩
end Ev
end Go.Proofs.YthlkcebdfbjdoaaGreatDoor
