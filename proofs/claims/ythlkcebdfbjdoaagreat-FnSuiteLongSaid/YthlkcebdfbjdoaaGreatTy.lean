/-
  What the types of the program are, as the evaluator asks. Written by a program.
-/
import Derived.Test.YthlkcebdfbjdoaaGreatEnvF
import Derived.Test.YthlkcebdfbjdoaaGreatEvWalk
set_option maxRecDepth 100000
namespace Go.Proofs.YthlkcebdfbjdoaaGreat
namespace Ev
def kL(P:Program)(t:TypeId)(i:Nat):Option (Nat×Nat):=match P.underlying t with
 |some (.struct fields)=>(fields.toList[i]?).map fun f=>(f.offset,P.cellsOf f.type)
 |_=>none
def xG(P:Program)(t:TypeId):Bool:=match P.underlying t with
 |some (.struct fields)=>fields.toList.all fun f=>(P.info? f.type).isSome
 |_=>false
theorem s5{P:Program}{t:TypeId}{z:A}{parts:List (Nat×A)}(hs:xG P t=true)(hz:dL P t=some z):sN P t parts=(iC (aW z) (parts.map fun p=>(kL P t p.1,p.2))).map .agg:=by
 unfold xG at hs;unfold sN kL;rw[hz]
 cases hu:P.underlying t with
 |none=>rw[hu]at hs;cases hs
 |some d=>
  rw[hu]at hs
  cases d<;>first|cases hs|skip
  simp only at hs|-;rw[if_pos hs]
theorem uB{P:Program}{h:H}{t u:TypeId}{K K1 K2:IntKind}{n:Int}(h1:P.underlying t=some (.int K1))(h2:P.underlying u=some (.int K2)):eM P h t u (.d (.int K n))=some (.d (.int K2 (K2.wrap n)),h):=by
 simp only[eM,h1,h2]
theorem aE3:env.P.underlying 3=some (.int .i64):=kr
theorem aCu:c8 env.P 3=none:=kr
theorem aFs:env.P.cellsOf 3=1:=kr
theorem aD8:eX env.P 3=true:=kr
theorem aBN:dU env.P 3=some false:=kr
theorem aDI:dL env.P 3=some (nI 0):=kr
theorem aFa:(env.P.info? 3).isSome=true:=kr
theorem aCD:env.P.cellsOf 4=1:=kr
theorem aBY:eX env.P 4=true:=kr
theorem XC:dU env.P 4=some false:=kr
theorem aCr:dL env.P 4=some (.d (.bool false)):=kr
theorem aBL:(env.P.info? 4).isSome=true:=kr
theorem WN:env.P.underlying 5=some (.int .u8):=kr
theorem WC:env.P.cellsOf 5=1:=kr
theorem XD:eX env.P 5=true:=kr
theorem SH:dU env.P 5=some false:=kr
theorem ZM:dL env.P 5=some (.d (.int .u8 0)):=kr
theorem TB:env.P.underlying 9=some .string:=kr
theorem S5:env.P.cellsOf 9=1:=kr
theorem SP:eX env.P 9=true:=kr
theorem NT:dU env.P 9=some false:=kr
theorem SX:dL env.P 9=some (.d (.str [])):=kr
theorem AT:env.P.underlying 22=some (.slice 5):=kr
theorem IT:c8 env.P 22=some 5:=by simp only[c8,AT]
theorem LY:env.P.cellsOf 22=1:=kr
theorem H3:dU env.P 22=some false:=kr
theorem xB:env.P.underlying 23=some (.slice 80):=kr
theorem F6:c8 env.P 23=some 80:=by simp only[c8,xB]
theorem HM:env.P.cellsOf 23=1:=kr
theorem HZ:eX env.P 23=true:=kr
theorem E7:dU env.P 23=some false:=kr
theorem IQ:dL env.P 23=some (.d (.nils)):=kr
theorem H0:(env.P.info? 23).isSome=true:=kr
theorem B8:env.P.underlying 24=some (.slice 4):=kr
theorem L5:c8 env.P 24=some 4:=by simp only[c8,B8]
theorem OZ:env.P.cellsOf 24=1:=kr
theorem L9:dU env.P 24=some false:=kr
theorem NQ:dL env.P 24=some (.d (.nils)):=kr
theorem N3:(env.P.info? 24).isSome=true:=kr
theorem KG:xG env.P 26=true:=kr
theorem sD:cX env.P 26 0=some (0,3):=kr
theorem sS:kL env.P 26 0=some (0,1):=kr
theorem sL:cX env.P 26 1=some (1,23):=kr
theorem sP:cX env.P 26 2=some (2,24):=kr
theorem sT:kL env.P 26 2=some (2,1):=kr
theorem wQ:env.P.cellsOf 26=3:=kr
theorem wV:eX env.P 26=true:=kr
theorem vB:dU env.P 26=some true:=kr
theorem oK:dL env.P 26=some (.agg [nI 0,.d (.nils),.d (.nils)]):=kr
theorem wO:(env.P.info? 26).isSome=true:=kr
theorem xO:env.P.underlying 29=some (.slice 9):=kr
theorem E6:c8 env.P 29=some 9:=by simp only[c8,xO]
theorem FS:dU env.P 29=some false:=kr
theorem vH:env.P.underlying 55=some (.map 9 4):=kr
theorem VF:xG env.P 77=true:=kr
theorem zD:cX env.P 77 0=some (0,22):=kr
theorem y9:kL env.P 77 0=some (0,1):=kr
theorem zC:cX env.P 77 1=some (1,3):=kr
theorem WG:dL env.P 77=some (.agg [.d (.nils),nI 0]):=kr
theorem HA:env.P.underlying 80=some (.slice 3):=kr
theorem NL:c8 env.P 80=some 3:=by simp only[c8,HA]
theorem R3:env.P.cellsOf 80=1:=kr
theorem SQ:eX env.P 80=true:=kr
theorem PY:dU env.P 80=some false:=kr
theorem TH:dL env.P 80=some (.d (.nils)):=kr
theorem FM:env.P.underlying 95=some (.slice 97):=kr
theorem GQ:env.P.cellsOf 95=1:=kr
theorem EJ:dU env.P 95=some false:=kr
theorem GE:dL env.P 95=some (.d (.nils)):=kr
theorem FH:(env.P.info? 95).isSome=true:=kr
theorem P1:env.P.underlying 97=some (.array 6 3):=kr
theorem OU:env.P.cellsOf 97=6:=kr
theorem kY:env.P.underlying 107=some (.slice 26):=kr
theorem rT:c8 env.P 107=some 26:=by simp only[c8,kY]
theorem sO:env.P.cellsOf 107=1:=kr
theorem rW:dU env.P 107=some false:=kr
theorem wU:env.P.underlying 108=some (.slice 156):=kr
theorem wW:env.P.cellsOf 108=1:=kr
theorem vI:dU env.P 108=some false:=kr
theorem TS:xG env.P 110=true:=kr
theorem yQ:cX env.P 110 0=some (0,108):=kr
theorem zI:cX env.P 110 1=some (1,107):=kr
theorem y6:kL env.P 110 1=some (1,1):=kr
theorem zR:cX env.P 110 2=some (2,80):=kr
theorem zU:kL env.P 110 2=some (2,1):=kr
theorem zH:cX env.P 110 3=some (3,3):=kr
theorem yX:kL env.P 110 3=some (3,1):=kr
theorem zP:cX env.P 110 4=some (4,3):=kr
theorem yW:kL env.P 110 4=some (4,1):=kr
theorem zN:cX env.P 110 5=some (5,3):=kr
theorem yP:kL env.P 110 5=some (5,1):=kr
theorem FT:env.P.cellsOf 110=6:=kr
theorem CE:dU env.P 110=some true:=kr
theorem WL:dL env.P 110=some (.agg [.d (.nils),.d (.nils),.d (.nils),nI 0,nI 0,nI 0]):=kr
theorem kE:env.P.underlying 131=some (.slice 133):=kr
theorem pV:c8 env.P 131=some 133:=by simp only[c8,kE]
theorem rY:env.P.cellsOf 131=1:=kr
theorem pJ:dU env.P 131=some false:=kr
theorem rR:dL env.P 131=some (.d (.nils)):=kr
theorem rQ:(env.P.info? 131).isSome=true:=kr
theorem HS:xG env.P 133=true:=kr
theorem rV:cX env.P 133 0=some (0,3):=kr
theorem rU:kL env.P 133 0=some (0,1):=kr
theorem rS:cX env.P 133 1=some (1,3):=kr
theorem rP:kL env.P 133 1=some (1,1):=kr
theorem rX:cX env.P 133 2=some (2,80):=kr
theorem rZ:kL env.P 133 2=some (2,1):=kr
theorem uX:env.P.cellsOf 133=3:=kr
theorem u6:eX env.P 133=true:=kr
theorem nG:dL env.P 133=some (.agg [nI 0,nI 0,.d (.nils)]):=kr
theorem r7:env.P.underlying 138=some (.slice 23):=kr
theorem zV:c8 env.P 138=some 23:=by simp only[c8,r7]
theorem wS:cX env.P 156 1=some (1,3):=kr
theorem B4:env.P.cellsOf 156=3:=kr
theorem vN:∀parts,sN env.P 26 parts=(iC (aW (.agg [nI 0,.d (.nils),.d (.nils)])) (parts.map fun p=>(kL env.P 26 p.1,p.2))).map .agg:=fun _=>s5 KG oK
theorem CI:∀parts,sN env.P 77 parts=(iC (aW (.agg [.d (.nils),nI 0])) (parts.map fun p=>(kL env.P 77 p.1,p.2))).map .agg:=fun _=>s5 VF WG
theorem B7:∀parts,sN env.P 110 parts=(iC (aW (.agg [.d (.nils),.d (.nils),.d (.nils),nI 0,nI 0,nI 0])) (parts.map fun p=>(kL env.P 110 p.1,p.2))).map .agg:=fun _=>s5 TS WL
theorem uA:∀parts,sN env.P 133 parts=(iC (aW (.agg [nI 0,nI 0,.d (.nils)])) (parts.map fun p=>(kL env.P 133 p.1,p.2))).map .agg:=fun _=>s5 HS nG
theorem FD{h:H}{n:Int}{K:IntKind}:eM env.P h 3 5 (.d (.int K n))=some (.d (.int .u8 (IntKind.wrap .u8 n)),h):=uB aE3 WN
theorem FW{h:H}{n:Int}{K:IntKind}:eM env.P h 5 3 (.d (.int K n))=some (nI (IntKind.wrap .i64 n),h):=uB WN aE3
theorem TY0:type_of% (AI @aCu (AI @aFs (AI @aD8 (AI @aBN (AI @aDI (AI @aFa (AI @aCD (AI @aBY (AI @XC (AI @aCr (AI @aBL (AI @WC (AI @XD (AI @SH (AI @ZM (AI @TB (AI @S5 (AI @SP (AI @NT @SX))))))))))))))))))):=
 ⟨@aCu,@aFs,@aD8,@aBN,@aDI,@aFa,@aCD,@aBY,@XC,@aCr,@aBL,@WC,@XD,@SH,@ZM,@TB,@S5,@SP,@NT,@SX⟩
theorem TY1:type_of% (AI @AT (AI @IT (AI @LY (AI @H3 (AI @xB (AI @F6 (AI @HM (AI @HZ (AI @E7 @IQ))))))))):=
 ⟨@AT,@IT,@LY,@H3,@xB,@F6,@HM,@HZ,@E7,@IQ⟩
theorem TY2:type_of% (AI @H0 (AI @B8 (AI @L5 (AI @OZ (AI @L9 (AI @NQ (AI @N3 (AI @sD (AI @sS (AI @sL (AI @sP (AI @sT (AI @wQ (AI @wV (AI @vB (AI @oK (AI @vN (AI @wO (AI @xO @E6))))))))))))))))))):=
 ⟨@H0,@B8,@L5,@OZ,@L9,@NQ,@N3,@sD,@sS,@sL,@sP,@sT,@wQ,@wV,@vB,@oK,@vN,@wO,@xO,@E6⟩
theorem TY3:type_of% (AI @vH @FS):=
 ⟨@vH,@FS⟩
theorem TY4:type_of% (AI @zD (AI @y9 (AI @zC (AI @CI (AI @HA (AI @NL (AI @R3 (AI @SQ (AI @PY (AI @TH (AI @FM (AI @GQ (AI @EJ (AI @GE (AI @FH (AI @P1 (AI @OU (AI @kY (AI @rT @sO))))))))))))))))))):=
 ⟨@zD,@y9,@zC,@CI,@HA,@NL,@R3,@SQ,@PY,@TH,@FM,@GQ,@EJ,@GE,@FH,@P1,@OU,@kY,@rT,@sO⟩
theorem TY5:type_of% (AI @rW (AI @wU (AI @wW (AI @vI (AI @yQ (AI @zI (AI @y6 (AI @zR (AI @zU (AI @zH (AI @yX @zP))))))))))):=
 ⟨@rW,@wU,@wW,@vI,@yQ,@zI,@y6,@zR,@zU,@zH,@yX,@zP⟩
theorem TY6:type_of% (AI @yW (AI @zN (AI @yP (AI @FT (AI @CE (AI @B7 (AI @kE (AI @pV (AI @rY (AI @pJ (AI @rR @rQ))))))))))):=
 ⟨@yW,@zN,@yP,@FT,@CE,@B7,@kE,@pV,@rY,@pJ,@rR,@rQ⟩
theorem TY7:type_of% (AI @rV (AI @rU (AI @rS (AI @rP (AI @rX (AI @rZ (AI @uX (AI @u6 (AI @nG (AI @uA (AI @r7 @zV))))))))))):=
 ⟨@rV,@rU,@rS,@rP,@rX,@rZ,@uX,@u6,@nG,@uA,@r7,@zV⟩
theorem TY8:type_of% (AI @wS @B4):=
 ⟨@wS,@B4⟩
theorem TY10:type_of% (AI @FD @FW):=
 ⟨@FD,@FW⟩
theorem TY:type_of% (AI @TY0 (AI @TY1 (AI @TY2 (AI @TY3 (AI @TY4 (AI @TY5 (AI @TY6 (AI @TY7 (AI @TY8 @TY10))))))))):=
 ⟨@TY0,@TY1,@TY2,@TY3,@TY4,@TY5,@TY6,@TY7,@TY8,@TY10⟩
end Ev
end Go.Proofs.YthlkcebdfbjdoaaGreat
