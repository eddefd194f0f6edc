/-
  What the types of the program are, as the evaluator asks. Written by a program.
-/
import Derived.Test.YthlkcebdfbjdoaaGreatEnvF
import Derived.Test.YthlkcebdfbjdoaaGreatEvWalk
set_option linter.unusedSimpArgs false
set_option linter.unusedVariables false
set_option maxRecDepth 100000
namespace Go.Proofs.YthlkcebdfbjdoaaGreat
namespace Ev
def lV(P:Program)(t:TypeId)(i:Nat):Option (Nat×Nat):=match P.underlying t with
 |some (.struct fields)=>(fields.toList[i]?).map fun f=>(f.offset,P.cellsOf f.type)
 |_=>none
def BH(P:Program)(t:TypeId):Bool:=match P.underlying t with
 |some (.struct fields)=>fields.toList.all fun f=>(P.info? f.type).isSome
 |_=>false
theorem vK{P:Program}{t:TypeId}{z:A}{parts:List (Nat×A)}(hs:BH P t=true)(hz:dE P t=some z):uO P t parts=(iK (aY z) (parts.map fun p=>(lV P t p.1,p.2))).map .agg:=by
 unfold BH at hs;unfold uO lV;rw[hz]
 cases hu:P.underlying t with
 |none=>rw[hu]at hs;cases hs
 |some d=>
  rw[hu]at hs
  cases d<;>first|cases hs|skip
  simp only at hs|-;rw[if_pos hs]
theorem wZ{P:Program}{h:H}{t u:TypeId}{K K1 K2:IntKind}{n:Int}(h1:P.underlying t=some (.int K1))(h2:P.underlying u=some (.int K2)):eE P h t u (.d (.int K n))=some (.d (.int K2 (K2.wrap n)),h):=by
 simp only[eE,h1,h2]
theorem aIR:env.P.underlying 3=some (.int .i64):=kr
theorem aFB:cX env.P 3=none:=kr
theorem aJh:env.P.cellsOf 3=1:=kr
theorem aJH:eU env.P 3=true:=kr
theorem aGw:dM env.P 3=some false:=kr
theorem aIU:dE env.P 3=some (nI 0):=kr
theorem aJY:(env.P.info? 3).isSome=true:=kr
theorem aGj:env.P.cellsOf 4=1:=kr
theorem aGX:eU env.P 4=true:=kr
theorem aCi:dM env.P 4=some false:=kr
theorem aFq:dE env.P 4=some (.d (.bool false)):=kr
theorem aFF:(env.P.info? 4).isSome=true:=kr
theorem aCm:env.P.underlying 5=some (.int .u8):=kr
theorem aCB:env.P.cellsOf 5=1:=kr
theorem aDJ:eU env.P 5=true:=kr
theorem ZP:dM env.P 5=some false:=kr
theorem aCv:dE env.P 5=some (.d (.int .u8 0)):=kr
theorem aAF:env.P.underlying 9=some .string:=kr
theorem Z7:env.P.cellsOf 9=1:=kr
theorem aAH:eU env.P 9=true:=kr
theorem U6:dM env.P 9=some false:=kr
theorem ZA:dE env.P 9=some (.d (.str [])):=kr
theorem EE:env.P.underlying 22=some (.slice 5):=kr
theorem M1:cX env.P 22=some 5:=by simp only[cX,EE]
theorem RQ:env.P.cellsOf 22=1:=kr
theorem NP:dM env.P 22=some false:=kr
theorem AN:env.P.underlying 23=some (.slice 80):=kr
theorem JU:cX env.P 23=some 80:=by simp only[cX,AN]
theorem OE:env.P.cellsOf 23=1:=kr
theorem M9:eU env.P 23=true:=kr
theorem LI:dM env.P 23=some false:=kr
theorem NV:dE env.P 23=some (.d (.nils)):=kr
theorem N0:(env.P.info? 23).isSome=true:=kr
theorem GL:env.P.underlying 24=some (.slice 4):=kr
theorem SF:cX env.P 24=some 4:=by simp only[cX,GL]
theorem TJ:env.P.cellsOf 24=1:=kr
theorem RK:dM env.P 24=some false:=kr
theorem UD:dE env.P 24=some (.d (.nils)):=kr
theorem WU:(env.P.info? 24).isSome=true:=kr
theorem QA:BH env.P 26=true:=kr
theorem uK:cV env.P 26 0=some (0,3):=kr
theorem uX:lV env.P 26 0=some (0,1):=kr
theorem u7:cV env.P 26 1=some (1,23):=kr
theorem uM:cV env.P 26 2=some (2,24):=kr
theorem uI:lV env.P 26 2=some (2,1):=kr
theorem AB:env.P.cellsOf 26=3:=kr
theorem AD:eU env.P 26=true:=kr
theorem x9:dM env.P 26=some true:=kr
theorem qI:dE env.P 26=some (.agg [nI 0,.d (.nils),.d (.nils)]):=kr
theorem AC:(env.P.info? 26).isSome=true:=kr
theorem A8:env.P.underlying 29=some (.slice 9):=kr
theorem KK:cX env.P 29=some 9:=by simp only[cX,A8]
theorem JF:dM env.P 29=some false:=kr
theorem y4:env.P.underlying 55=some (.map 9 4):=kr
theorem aAR:BH env.P 77=true:=kr
theorem B4:cV env.P 77 0=some (0,22):=kr
theorem B3:lV env.P 77 0=some (0,1):=kr
theorem CH:cV env.P 77 1=some (1,3):=kr
theorem aCA:dE env.P 77=some (.agg [.d (.nils),nI 0]):=kr
theorem MA:env.P.underlying 80=some (.slice 3):=kr
theorem UX:cX env.P 80=some 3:=by simp only[cX,MA]
theorem aAt:env.P.cellsOf 80=1:=kr
theorem aAz:eU env.P 80=true:=kr
theorem VK:dM env.P 80=some false:=kr
theorem aAe:dE env.P 80=some (.d (.nils)):=kr
theorem LS:env.P.underlying 95=some (.slice 97):=kr
theorem JJ:env.P.cellsOf 95=1:=kr
theorem G5:dM env.P 95=some false:=kr
theorem LO:dE env.P 95=some (.d (.nils)):=kr
theorem LP:(env.P.info? 95).isSome=true:=kr
theorem V9:env.P.underlying 97=some (.array 6 3):=kr
theorem VV:env.P.cellsOf 97=6:=kr
theorem mK:env.P.underlying 107=some (.slice 26):=kr
theorem tV:cX env.P 107=some 26:=by simp only[cX,mK]
theorem u3:env.P.cellsOf 107=1:=kr
theorem tP:dM env.P 107=some false:=kr
theorem AE:env.P.underlying 108=some (.slice 156):=kr
theorem AF:env.P.cellsOf 108=1:=kr
theorem zO:dM env.P 108=some false:=kr
theorem aBE:BH env.P 110=true:=kr
theorem CO:cV env.P 110 0=some (0,108):=kr
theorem DD:cV env.P 110 1=some (1,107):=kr
theorem C6:lV env.P 110 1=some (1,1):=kr
theorem B0:cV env.P 110 2=some (2,80):=kr
theorem CF:lV env.P 110 2=some (2,1):=kr
theorem CK:cV env.P 110 3=some (3,3):=kr
theorem CX:lV env.P 110 3=some (3,1):=kr
theorem C7:cV env.P 110 4=some (4,3):=kr
theorem DI:lV env.P 110 4=some (4,1):=kr
theorem B5:cV env.P 110 5=some (5,3):=kr
theorem C5:lV env.P 110 5=some (5,1):=kr
theorem JR:env.P.cellsOf 110=6:=kr
theorem GX:dM env.P 110=some true:=kr
theorem aCV:dE env.P 110=some (.agg [.d (.nils),.d (.nils),.d (.nils),nI 0,nI 0,nI 0]):=kr
theorem lI:env.P.underlying 131=some (.slice 133):=kr
theorem r8:cX env.P 131=some 133:=by simp only[cX,lI]
theorem tO:env.P.cellsOf 131=1:=kr
theorem rZ:dM env.P 131=some false:=kr
theorem tR:dE env.P 131=some (.d (.nils)):=kr
theorem tM:(env.P.info? 131).isSome=true:=kr
theorem OB:BH env.P 133=true:=kr
theorem tQ:cV env.P 133 0=some (0,3):=kr
theorem tU:lV env.P 133 0=some (0,1):=kr
theorem tS:cV env.P 133 1=some (1,3):=kr
theorem tN:lV env.P 133 1=some (1,1):=kr
theorem tL:cV env.P 133 2=some (2,80):=kr
theorem tT:lV env.P 133 2=some (2,1):=kr
theorem yA:env.P.cellsOf 133=3:=kr
theorem xZ:eU env.P 133=true:=kr
theorem oF:dE env.P 133=some (.agg [nI 0,nI 0,.d (.nils)]):=kr
theorem uE:env.P.underlying 138=some (.slice 23):=kr
theorem B6:cX env.P 138=some 23:=by simp only[cX,uE]
theorem zW:cV env.P 156 1=some (1,3):=kr
theorem GZ:env.P.cellsOf 156=3:=kr
theorem yR:∀parts,uO env.P 26 parts=(iK (aY (.agg [nI 0,.d (.nils),.d (.nils)])) (parts.map fun p=>(lV env.P 26 p.1,p.2))).map .agg:=fun _=>vK QA qI
theorem IA:∀parts,uO env.P 77 parts=(iK (aY (.agg [.d (.nils),nI 0])) (parts.map fun p=>(lV env.P 77 p.1,p.2))).map .agg:=fun _=>vK aAR aCA
theorem IC:∀parts,uO env.P 110 parts=(iK (aY (.agg [.d (.nils),.d (.nils),.d (.nils),nI 0,nI 0,nI 0])) (parts.map fun p=>(lV env.P 110 p.1,p.2))).map .agg:=fun _=>vK aBE aCV
theorem xF:∀parts,uO env.P 133 parts=(iK (aY (.agg [nI 0,nI 0,.d (.nils)])) (parts.map fun p=>(lV env.P 133 p.1,p.2))).map .agg:=fun _=>vK OB oF
theorem LJ{h:H}{n:Int}{K:IntKind}:eE env.P h 3 5 (.d (.int K n))=some (.d (.int .u8 (IntKind.wrap .u8 n)),h):=wZ aIR aCm
theorem J7{h:H}{n:Int}{K:IntKind}:eE env.P h 5 3 (.d (.int K n))=some (nI (IntKind.wrap .i64 n),h):=wZ aCm aIR
theorem TY0:type_of% (AI @aFB (AI @aJh (AI @aJH (AI @aGw (AI @aIU (AI @aJY (AI @aGj (AI @aGX (AI @aCi (AI @aFq (AI @aFF (AI @aCB (AI @aDJ (AI @ZP (AI @aCv (AI @aAF (AI @Z7 (AI @aAH (AI @U6 @ZA))))))))))))))))))):=
 ⟨@aFB,@aJh,@aJH,@aGw,@aIU,@aJY,@aGj,@aGX,@aCi,@aFq,@aFF,@aCB,@aDJ,@ZP,@aCv,@aAF,@Z7,@aAH,@U6,@ZA⟩
theorem TY1:type_of% (AI @EE (AI @M1 (AI @RQ (AI @NP (AI @AN (AI @JU (AI @OE (AI @M9 (AI @LI @NV))))))))):=
 ⟨@EE,@M1,@RQ,@NP,@AN,@JU,@OE,@M9,@LI,@NV⟩
theorem TY2:type_of% (AI @N0 (AI @GL (AI @SF (AI @TJ (AI @RK (AI @UD (AI @WU (AI @uK (AI @uX (AI @u7 (AI @uM (AI @uI (AI @AB (AI @AD (AI @x9 (AI @qI (AI @yR (AI @AC (AI @A8 @KK))))))))))))))))))):=
 ⟨@N0,@GL,@SF,@TJ,@RK,@UD,@WU,@uK,@uX,@u7,@uM,@uI,@AB,@AD,@x9,@qI,@yR,@AC,@A8,@KK⟩
theorem TY3:type_of% (AI @y4 @JF):=
 ⟨@y4,@JF⟩
theorem TY4:type_of% (AI @B4 (AI @B3 (AI @CH (AI @IA (AI @MA (AI @UX (AI @aAt (AI @aAz (AI @VK (AI @aAe (AI @LS (AI @JJ (AI @G5 (AI @LO (AI @LP (AI @V9 (AI @VV (AI @mK (AI @tV @u3))))))))))))))))))):=
 ⟨@B4,@B3,@CH,@IA,@MA,@UX,@aAt,@aAz,@VK,@aAe,@LS,@JJ,@G5,@LO,@LP,@V9,@VV,@mK,@tV,@u3⟩
theorem TY5:type_of% (AI @tP (AI @AE (AI @AF (AI @zO (AI @CO (AI @DD (AI @C6 (AI @B0 (AI @CF (AI @CK (AI @CX @C7))))))))))):=
 ⟨@tP,@AE,@AF,@zO,@CO,@DD,@C6,@B0,@CF,@CK,@CX,@C7⟩
theorem TY6:type_of% (AI @DI (AI @B5 (AI @C5 (AI @JR (AI @GX (AI @IC (AI @lI (AI @r8 (AI @tO (AI @rZ (AI @tR @tM))))))))))):=
 ⟨@DI,@B5,@C5,@JR,@GX,@IC,@lI,@r8,@tO,@rZ,@tR,@tM⟩
theorem TY7:type_of% (AI @tQ (AI @tU (AI @tS (AI @tN (AI @tL (AI @tT (AI @yA (AI @xZ (AI @oF (AI @xF (AI @uE @B6))))))))))):=
 ⟨@tQ,@tU,@tS,@tN,@tL,@tT,@yA,@xZ,@oF,@xF,@uE,@B6⟩
theorem TY8:type_of% (AI @zW @GZ):=
 ⟨@zW,@GZ⟩
theorem TY10:type_of% (AI @LJ @J7):=
 ⟨@LJ,@J7⟩
theorem TY:type_of% (AI @TY0 (AI @TY1 (AI @TY2 (AI @TY3 (AI @TY4 (AI @TY5 (AI @TY6 (AI @TY7 (AI @TY8 @TY10))))))))):=
 ⟨@TY0,@TY1,@TY2,@TY3,@TY4,@TY5,@TY6,@TY7,@TY8,@TY10⟩
end Ev
end Go.Proofs.YthlkcebdfbjdoaaGreat
