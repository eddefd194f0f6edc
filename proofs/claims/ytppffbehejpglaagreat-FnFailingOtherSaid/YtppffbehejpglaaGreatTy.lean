/-
  What the types of the program are, as the evaluator asks. Written by a program.
-/
import Derived.Test.YtppffbehejpglaaGreatEnvF
import Derived.Test.YtppffbehejpglaaGreatEvWalk
set_option linter.unusedSimpArgs false
set_option linter.unusedVariables false
set_option maxRecDepth 100000
namespace Go.Proofs.YtppffbehejpglaaGreat
namespace Ev
def lR(P:Program)(t:TypeId)(i:Nat):Option (Nat×Nat):=match P.underlying t with
 |some (.struct fields)=>(fields.toList[i]?).map fun f=>(f.offset,P.cellsOf f.type)
 |_=>none
def BA(P:Program)(t:TypeId):Bool:=match P.underlying t with
 |some (.struct fields)=>fields.toList.all fun f=>(P.info? f.type).isSome
 |_=>false
theorem vY{P:Program}{t:TypeId}{z:A}{parts:List (Nat×A)}(hs:BA P t=true)(hz:dG P t=some z):vG P t parts=(iL (aZ z) (parts.map fun p=>(lR P t p.1,p.2))).map .agg:=by
 unfold BA at hs;unfold vG lR;rw[hz]
 cases hu:P.underlying t with
 |none=>rw[hu]at hs;cases hs
 |some d=>
  rw[hu]at hs
  cases d<;>first|cases hs|skip
  simp only at hs|-;rw[if_pos hs]
theorem x5{P:Program}{h:H}{t u:TypeId}{K K1 K2:IntKind}{n:Int}(h1:P.underlying t=some (.int K1))(h2:P.underlying u=some (.int K2)):eQ P h t u (.d (.int K n))=some (.d (.int K2 (K2.wrap n)),h):=by
 simp only[eQ,h1,h2]
theorem aIn:env.P.underlying 3=some (.int .i64):=kr
theorem aGp:cR env.P 3=none:=kr
theorem aKq:env.P.cellsOf 3=1:=kr
theorem aJ9:eF env.P 3=true:=kr
theorem aF0:dV env.P 3=some false:=kr
theorem aIu:dG env.P 3=some (nI 0):=kr
theorem aKz:(env.P.info? 3).isSome=true:=kr
theorem aGW:env.P.cellsOf 4=1:=kr
theorem aF8:eF env.P 4=true:=kr
theorem aDK:dV env.P 4=some false:=kr
theorem aG7:dG env.P 4=some (.d (.bool false)):=kr
theorem aFQ:(env.P.info? 4).isSome=true:=kr
theorem aCw:env.P.underlying 5=some (.int .u8):=kr
theorem aC4:env.P.cellsOf 5=1:=kr
theorem aEq:eF env.P 5=true:=kr
theorem aAN:dV env.P 5=some false:=kr
theorem aEx:dG env.P 5=some (.d (.int .u8 0)):=kr
theorem aAD:env.P.underlying 9=some .string:=kr
theorem aAv:env.P.cellsOf 9=1:=kr
theorem aAC:eF env.P 9=true:=kr
theorem XD:dV env.P 9=some false:=kr
theorem Z6:dG env.P 9=some (.d (.str [])):=kr
theorem EI:env.P.underlying 22=some (.slice 5):=kr
theorem OH:cR env.P 22=some 5:=by simp only[cR,EI]
theorem R7:env.P.cellsOf 22=1:=kr
theorem O1:dV env.P 22=some false:=kr
theorem BR:env.P.underlying 23=some (.slice 58):=kr
theorem L8:cR env.P 23=some 58:=by simp only[cR,BR]
theorem PM:env.P.cellsOf 23=1:=kr
theorem N9:eF env.P 23=true:=kr
theorem KF:dV env.P 23=some false:=kr
theorem PK:dG env.P 23=some (.d (.nils)):=kr
theorem OV:(env.P.info? 23).isSome=true:=kr
theorem JM:env.P.underlying 24=some (.slice 4):=kr
theorem SR:cR env.P 24=some 4:=by simp only[cR,JM]
theorem VO:env.P.cellsOf 24=1:=kr
theorem R6:dV env.P 24=some false:=kr
theorem XJ:dG env.P 24=some (.d (.nils)):=kr
theorem VT:(env.P.info? 24).isSome=true:=kr
theorem Q0:BA env.P 26=true:=kr
theorem u7:cZ env.P 26 0=some (0,3):=kr
theorem vI:lR env.P 26 0=some (0,1):=kr
theorem vH:cZ env.P 26 1=some (1,23):=kr
theorem vF:cZ env.P 26 2=some (2,24):=kr
theorem vJ:lR env.P 26 2=some (2,1):=kr
theorem AX:env.P.cellsOf 26=3:=kr
theorem AM:eF env.P 26=true:=kr
theorem yJ:dV env.P 26=some true:=kr
theorem qR:dG env.P 26=some (.agg [nI 0,.d (.nils),.d (.nils)]):=kr
theorem AL:(env.P.info? 26).isSome=true:=kr
theorem BH:env.P.underlying 31=some (.slice 9):=kr
theorem KS:cR env.P 31=some 9:=by simp only[cR,BH]
theorem yX:env.P.underlying 46=some (.map 9 4):=kr
theorem aBE:BA env.P 56=true:=kr
theorem C7:cZ env.P 56 0=some (0,22):=kr
theorem C8:lR env.P 56 0=some (0,1):=kr
theorem D4:cZ env.P 56 1=some (1,3):=kr
theorem aEb:dG env.P 56=some (.agg [.d (.nils),nI 0]):=kr
theorem NK:env.P.underlying 58=some (.slice 3):=kr
theorem VM:cR env.P 58=some 3:=by simp only[cR,NK]
theorem aAL:env.P.cellsOf 58=1:=kr
theorem aAb:eF env.P 58=true:=kr
theorem XV:dV env.P 58=some false:=kr
theorem aAZ:dG env.P 58=some (.d (.nils)):=kr
theorem LT:env.P.underlying 90=some (.slice 92):=kr
theorem KB:env.P.cellsOf 90=1:=kr
theorem IJ:dV env.P 90=some false:=kr
theorem K3:dG env.P 90=some (.d (.nils)):=kr
theorem KW:(env.P.info? 90).isSome=true:=kr
theorem VV:env.P.underlying 92=some (.array 6 3):=kr
theorem VA:env.P.cellsOf 92=6:=kr
theorem mM:env.P.underlying 109=some (.slice 26):=kr
theorem uB:cR env.P 109=some 26:=by simp only[cR,mM]
theorem vR:env.P.cellsOf 109=1:=kr
theorem uG:dV env.P 109=some false:=kr
theorem AW:env.P.underlying 110=some (.slice 151):=kr
theorem AQ:env.P.cellsOf 110=1:=kr
theorem zD:dV env.P 110=some false:=kr
theorem aBl:BA env.P 112=true:=kr
theorem DU:cZ env.P 112 0=some (0,110):=kr
theorem DQ:cZ env.P 112 1=some (1,109):=kr
theorem DO:lR env.P 112 1=some (1,1):=kr
theorem DZ:cZ env.P 112 2=some (2,58):=kr
theorem CN:lR env.P 112 2=some (2,1):=kr
theorem C1:cZ env.P 112 3=some (3,3):=kr
theorem D3:lR env.P 112 3=some (3,1):=kr
theorem D8:cZ env.P 112 4=some (4,3):=kr
theorem CW:lR env.P 112 4=some (4,1):=kr
theorem CU:cZ env.P 112 5=some (5,3):=kr
theorem CL:lR env.P 112 5=some (5,1):=kr
theorem K7:env.P.cellsOf 112=6:=kr
theorem I9:dV env.P 112=some true:=kr
theorem aD0:dG env.P 112=some (.agg [.d (.nils),.d (.nils),.d (.nils),nI 0,nI 0,nI 0]):=kr
theorem uY:env.P.underlying 131=some (.slice 23):=kr
theorem CK:cR env.P 131=some 23:=by simp only[cR,uY]
theorem lL:env.P.underlying 138=some (.slice 140):=kr
theorem r6:cR env.P 138=some 140:=by simp only[cR,lL]
theorem uJ:env.P.cellsOf 138=1:=kr
theorem r5:dV env.P 138=some false:=kr
theorem uE:dG env.P 138=some (.d (.nils)):=kr
theorem uA:(env.P.info? 138).isSome=true:=kr
theorem O5:BA env.P 140=true:=kr
theorem uC:cZ env.P 140 0=some (0,3):=kr
theorem uI:lR env.P 140 0=some (0,1):=kr
theorem uF:cZ env.P 140 1=some (1,3):=kr
theorem uK:lR env.P 140 1=some (1,1):=kr
theorem uD:cZ env.P 140 2=some (2,58):=kr
theorem t7:lR env.P 140 2=some (2,1):=kr
theorem y5:env.P.cellsOf 140=3:=kr
theorem yD:eF env.P 140=true:=kr
theorem pL:dG env.P 140=some (.agg [nI 0,nI 0,.d (.nils)]):=kr
theorem AK:cZ env.P 151 1=some (1,3):=kr
theorem G6:env.P.cellsOf 151=3:=kr
theorem zZ:∀parts,vG env.P 26 parts=(iL (aZ (.agg [nI 0,.d (.nils),.d (.nils)])) (parts.map fun p=>(lR env.P 26 p.1,p.2))).map .agg:=fun _=>vY Q0 qR
theorem JE:∀parts,vG env.P 56 parts=(iL (aZ (.agg [.d (.nils),nI 0])) (parts.map fun p=>(lR env.P 56 p.1,p.2))).map .agg:=fun _=>vY aBE aEb
theorem JT:∀parts,vG env.P 112 parts=(iL (aZ (.agg [.d (.nils),.d (.nils),.d (.nils),nI 0,nI 0,nI 0])) (parts.map fun p=>(lR env.P 112 p.1,p.2))).map .agg:=fun _=>vY aBl aD0
theorem xT:∀parts,vG env.P 140 parts=(iL (aZ (.agg [nI 0,nI 0,.d (.nils)])) (parts.map fun p=>(lR env.P 140 p.1,p.2))).map .agg:=fun _=>vY O5 pL
theorem KP{h:H}{n:Int}{K:IntKind}:eQ env.P h 3 5 (.d (.int K n))=some (.d (.int .u8 (IntKind.wrap .u8 n)),h):=x5 aIn aCw
theorem L9{h:H}{n:Int}{K:IntKind}:eQ env.P h 5 3 (.d (.int K n))=some (nI (IntKind.wrap .i64 n),h):=x5 aCw aIn
theorem TY0:type_of% (AI @aGp (AI @aKq (AI @aJ9 (AI @aF0 (AI @aIu (AI @aKz (AI @aGW (AI @aF8 (AI @aDK (AI @aG7 (AI @aFQ (AI @aC4 (AI @aEq (AI @aAN (AI @aEx (AI @aAD (AI @aAv (AI @aAC (AI @XD @Z6))))))))))))))))))):=
 ⟨@aGp,@aKq,@aJ9,@aF0,@aIu,@aKz,@aGW,@aF8,@aDK,@aG7,@aFQ,@aC4,@aEq,@aAN,@aEx,@aAD,@aAv,@aAC,@XD,@Z6⟩
theorem TY1:type_of% (AI @EI (AI @OH (AI @R7 (AI @O1 (AI @BR (AI @L8 (AI @PM (AI @N9 (AI @KF @PK))))))))):=
 ⟨@EI,@OH,@R7,@O1,@BR,@L8,@PM,@N9,@KF,@PK⟩
theorem TY2:type_of% (AI @OV (AI @JM (AI @SR (AI @VO (AI @R6 (AI @XJ (AI @VT (AI @u7 (AI @vI (AI @vH (AI @vF (AI @vJ (AI @AX (AI @AM (AI @yJ (AI @qR (AI @zZ (AI @AL (AI @BH @KS))))))))))))))))))):=
 ⟨@OV,@JM,@SR,@VO,@R6,@XJ,@VT,@u7,@vI,@vH,@vF,@vJ,@AX,@AM,@yJ,@qR,@zZ,@AL,@BH,@KS⟩
theorem TY3:type_of% (AI @yX (AI @C7 (AI @C8 @D4))):=
 ⟨@yX,@C7,@C8,@D4⟩
theorem TY4:type_of% (AI @JE (AI @NK (AI @VM (AI @aAL (AI @aAb (AI @XV (AI @aAZ (AI @LT (AI @KB (AI @IJ (AI @K3 (AI @KW (AI @VV (AI @VA (AI @mM (AI @uB @vR)))))))))))))))):=
 ⟨@JE,@NK,@VM,@aAL,@aAb,@XV,@aAZ,@LT,@KB,@IJ,@K3,@KW,@VV,@VA,@mM,@uB,@vR⟩
theorem TY5:type_of% (AI @uG (AI @AW (AI @AQ (AI @zD (AI @DU (AI @DQ (AI @DO (AI @DZ (AI @CN (AI @C1 (AI @D3 @D8))))))))))):=
 ⟨@uG,@AW,@AQ,@zD,@DU,@DQ,@DO,@DZ,@CN,@C1,@D3,@D8⟩
theorem TY6:type_of% (AI @CW (AI @CU (AI @CL (AI @K7 (AI @I9 (AI @JT (AI @uY (AI @CK (AI @lL @r6))))))))):=
 ⟨@CW,@CU,@CL,@K7,@I9,@JT,@uY,@CK,@lL,@r6⟩
theorem TY7:type_of% (AI @uJ (AI @r5 (AI @uE (AI @uA (AI @uC (AI @uI (AI @uF (AI @uK (AI @uD (AI @t7 (AI @y5 (AI @yD (AI @pL @xT))))))))))))):=
 ⟨@uJ,@r5,@uE,@uA,@uC,@uI,@uF,@uK,@uD,@t7,@y5,@yD,@pL,@xT⟩
theorem TY8:type_of% (AI @AK @G6):=
 ⟨@AK,@G6⟩
theorem TY10:type_of% (AI @KP @L9):=
 ⟨@KP,@L9⟩
theorem TY:type_of% (AI @TY0 (AI @TY1 (AI @TY2 (AI @TY3 (AI @TY4 (AI @TY5 (AI @TY6 (AI @TY7 (AI @TY8 @TY10))))))))):=
 ⟨@TY0,@TY1,@TY2,@TY3,@TY4,@TY5,@TY6,@TY7,@TY8,@TY10⟩
end Ev
end Go.Proofs.YtppffbehejpglaaGreat
