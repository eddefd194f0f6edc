/-
  What the types of the program are, as the evaluator asks. Written by a program.
-/
import Derived.Test.YtejmccgfigiadaaGreatEnvF
import Derived.Test.YtejmccgfigiadaaGreatEvWalk
set_option maxRecDepth 100000
namespace Go.Proofs.YtejmccgfigiadaaGreat
namespace Ev
def nN (P:Program) (t:TypeId) (i:Nat):Option (Nat × Nat):=match P.underlying t with
 | some (.struct fields) => (fields.toList[i]?).map fun f => (f.offset,P.cellsOf f.type)
 | _ => none
def A3 (P:Program) (t:TypeId):Bool:=match P.underlying t with
 | some (.struct fields) => fields.toList.all fun f => (P.info? f.type).isSome
 | _ => false
theorem yQ {P:Program} {t:TypeId} {z:A} {parts:List (Nat × A)} (hs:A3 P t = true) (hz:cX P t = some z):sY P t parts = (gJ (aR z) (parts.map fun p => (nN P t p.1,p.2))).map .agg:=by
 unfold A3 at hs
 unfold sY nN
 rw [hz]
 cases hu:P.underlying t with
 | none => rw [hu] at hs; cases hs
 | some d =>
  rw [hu] at hs
  cases d <;> first | cases hs | skip
  simp only at hs ⊢
  rw [if_pos hs]
theorem wU {P:Program} {h:H} {t u:TypeId} {K K1 K2:IntKind} {n:Int} (h1:P.underlying t = some (.int K1)) (h2:P.underlying u = some (.int K2)):eD P h t u (.d (.int K n)) = some (.d (.int K2 (K2.wrap n)),h):=by
 simp only [eD,h1,h2]
theorem aJ2:env.P.underlying 3 = some (.int .i64):=kr
theorem aDU:env.P.cellsOf 3 = 1:=kr
theorem aEA:eM env.P 3 = true:=kr
theorem aBT:dJ env.P 3 = some false:=kr
theorem aDY:cX env.P 3 = some (nI 0):=kr
theorem aEI:(env.P.info? 3).isSome = true:=kr
theorem aAx:env.P.cellsOf 4 = 1:=kr
theorem aAv:eM env.P 4 = true:=kr
theorem XR:dJ env.P 4 = some false:=kr
theorem aBH:cX env.P 4 = some (.d (.bool false)):=kr
theorem aG6:env.P.underlying 5 = some (.int .u8):=kr
theorem XM:env.P.cellsOf 5 = 1:=kr
theorem VF:eM env.P 5 = true:=kr
theorem QU:dJ env.P 5 = some false:=kr
theorem XY:cX env.P 5 = some (.d (.int .u8 0)):=kr
theorem QA:env.P.underlying 9 = some .string:=kr
theorem QS:env.P.cellsOf 9 = 1:=kr
theorem RJ:eM env.P 9 = true:=kr
theorem N2:dJ env.P 9 = some false:=kr
theorem Q7:cX env.P 9 = some (.d (.str [])):=kr
theorem vE:env.P.underlying 22 = some (.slice 90):=kr
theorem EA:dG env.P 22 = some 90:=by simp only [dG,vE]
theorem HE:env.P.cellsOf 22 = 1:=kr
theorem HA:eM env.P 22 = true:=kr
theorem DE:dJ env.P 22 = some false:=kr
theorem GQ:cX env.P 22 = some (.d (.nils)):=kr
theorem GS:(env.P.info? 22).isSome = true:=kr
theorem CH:env.P.underlying 23 = some (.slice 4):=kr
theorem J7:dG env.P 23 = some 4:=by simp only [dG,CH]
theorem MH:env.P.cellsOf 23 = 1:=kr
theorem JV:dJ env.P 23 = some false:=kr
theorem OE:cX env.P 23 = some (.d (.nils)):=kr
theorem NM:(env.P.info? 23).isSome = true:=kr
theorem qD:b7 env.P 25 0 = some (0,3):=kr
theorem qM:b7 env.P 25 1 = some (1,22):=kr
theorem qQ:b7 env.P 25 2 = some (2,23):=kr
theorem uT:env.P.cellsOf 25 = 3:=kr
theorem tD:dJ env.P 25 = some true:=kr
theorem vQ:env.P.underlying 27 = some (.slice 9):=kr
theorem DG:dG env.P 27 = some 9:=by simp only [dG,vQ]
theorem IB:A3 env.P 30 = true:=kr
theorem qO:b7 env.P 30 0 = some (0,3):=kr
theorem qB:nN env.P 30 0 = some (0,1):=kr
theorem qH:b7 env.P 30 1 = some (1,22):=kr
theorem qG:b7 env.P 30 2 = some (2,23):=kr
theorem u3:env.P.cellsOf 30 = 3:=kr
theorem uX:eM env.P 30 = true:=kr
theorem sZ:dJ env.P 30 = some true:=kr
theorem mY:cX env.P 30 = some (.agg [nI 0,.d (.nils),.d (.nils)]):=kr
theorem u1:(env.P.info? 30).isSome = true:=kr
theorem yU:env.P.underlying 41 = some (.slice 5):=kr
theorem GX:dG env.P 41 = some 5:=by simp only [dG,yU]
theorem tV:env.P.underlying 64 = some (.map 9 4):=kr
theorem E6:env.P.underlying 90 = some (.slice 3):=kr
theorem OF:dG env.P 90 = some 3:=by simp only [dG,E6]
theorem P9:env.P.cellsOf 90 = 1:=kr
theorem QQ:eM env.P 90 = true:=kr
theorem MU:dJ env.P 90 = some false:=kr
theorem QY:cX env.P 90 = some (.d (.nils)):=kr
theorem DS:env.P.underlying 111 = some (.slice 113):=kr
theorem C5:env.P.cellsOf 111 = 1:=kr
theorem A9:dJ env.P 111 = some false:=kr
theorem DB:cX env.P 111 = some (.d (.nils)):=kr
theorem ER:(env.P.info? 111).isSome = true:=kr
theorem L1:env.P.underlying 113 = some (.array 6 3):=kr
theorem OT:env.P.cellsOf 113 = 6:=kr
theorem j3:env.P.underlying 119 = some (.slice 30):=kr
theorem pM:dG env.P 119 = some 30:=by simp only [dG,j3]
theorem qN:env.P.cellsOf 119 = 1:=kr
theorem pS:dJ env.P 119 = some false:=kr
theorem u4:env.P.underlying 120 = some (.slice 169):=kr
theorem uZ:env.P.cellsOf 120 = 1:=kr
theorem uM:dJ env.P 120 = some false:=kr
theorem R3:A3 env.P 122 = true:=kr
theorem x3:b7 env.P 122 0 = some (0,120):=kr
theorem x8:b7 env.P 122 1 = some (1,119):=kr
theorem xF:nN env.P 122 1 = some (1,1):=kr
theorem x9:b7 env.P 122 2 = some (2,90):=kr
theorem x5:nN env.P 122 2 = some (2,1):=kr
theorem xM:b7 env.P 122 3 = some (3,3):=kr
theorem wR:nN env.P 122 3 = some (3,1):=kr
theorem xC:b7 env.P 122 4 = some (4,3):=kr
theorem w5:nN env.P 122 4 = some (4,1):=kr
theorem xD:b7 env.P 122 5 = some (5,3):=kr
theorem xX:nN env.P 122 5 = some (5,1):=kr
theorem DL:env.P.cellsOf 122 = 6:=kr
theorem CB:dJ env.P 122 = some true:=kr
theorem UX:cX env.P 122 = some (.agg [.d (.nils),.d (.nils),.d (.nils),nI 0,nI 0,nI 0]):=kr
theorem iY:env.P.underlying 144 = some (.slice 146):=kr
theorem oC:dG env.P 144 = some 146:=by simp only [dG,iY]
theorem pN:env.P.cellsOf 144 = 1:=kr
theorem nR:dJ env.P 144 = some false:=kr
theorem pU:cX env.P 144 = some (.d (.nils)):=kr
theorem pP:(env.P.info? 144).isSome = true:=kr
theorem F2:A3 env.P 146 = true:=kr
theorem pQ:b7 env.P 146 0 = some (0,3):=kr
theorem pO:nN env.P 146 0 = some (0,1):=kr
theorem pW:b7 env.P 146 1 = some (1,3):=kr
theorem pT:nN env.P 146 1 = some (1,1):=kr
theorem pV:b7 env.P 146 2 = some (2,90):=kr
theorem pR:nN env.P 146 2 = some (2,1):=kr
theorem tK:env.P.cellsOf 146 = 3:=kr
theorem tO:eM env.P 146 = true:=kr
theorem l6:cX env.P 146 = some (.agg [nI 0,nI 0,.d (.nils)]):=kr
theorem p6:env.P.underlying 151 = some (.slice 22):=kr
theorem wV:dG env.P 151 = some 22:=by simp only [dG,p6]
theorem u7:b7 env.P 169 1 = some (1,3):=kr
theorem AQ:env.P.cellsOf 169 = 3:=kr
theorem yW:b7 env.P 179 1 = some (1,3):=kr
theorem tT:∀ parts,sY env.P 30 parts = (gJ (aR (.agg [nI 0,.d (.nils),.d (.nils)])) (parts.map fun p => (nN env.P 30 p.1,p.2))).map .agg:=fun _ => yQ IB mY
theorem AP:∀ parts,sY env.P 122 parts = (gJ (aR (.agg [.d (.nils),.d (.nils),.d (.nils),nI 0,nI 0,nI 0])) (parts.map fun p => (nN env.P 122 p.1,p.2))).map .agg:=fun _ => yQ R3 UX
theorem sC:∀ parts,sY env.P 146 parts = (gJ (aR (.agg [nI 0,nI 0,.d (.nils)])) (parts.map fun p => (nN env.P 146 p.1,p.2))).map .agg:=fun _ => yQ F2 l6
theorem EG {h:H} {n:Int} {K:IntKind}:eD env.P h 3 5 (.d (.int K n)) = some (.d (.int .u8 (IntKind.wrap .u8 n)),h):=wU aJ2 aG6
theorem TY0:type_of% (AI @aDU (AI @aEA (AI @aBT (AI @aDY (AI @aEI (AI @aAx (AI @aAv (AI @XR (AI @aBH (AI @XM (AI @VF (AI @QU (AI @XY (AI @QA (AI @QS (AI @RJ (AI @N2 @Q7))))))))))))))))) :=
 ⟨@aDU,@aEA,@aBT,@aDY,@aEI,@aAx,@aAv,@XR,@aBH,@XM,@VF,@QU,@XY,@QA,@QS,@RJ,@N2,@Q7⟩
theorem TY1:type_of% (AI @vE (AI @EA (AI @HE (AI @HA (AI @DE (AI @GQ (AI @GS (AI @CH (AI @J7 (AI @MH (AI @JV @OE))))))))))) :=
 ⟨@vE,@EA,@HE,@HA,@DE,@GQ,@GS,@CH,@J7,@MH,@JV,@OE⟩
theorem TY2:type_of% (AI @NM (AI @qD (AI @qM (AI @qQ (AI @uT (AI @tD (AI @vQ (AI @DG (AI @qO (AI @qB @qH)))))))))) :=
 ⟨@NM,@qD,@qM,@qQ,@uT,@tD,@vQ,@DG,@qO,@qB,@qH⟩
theorem TY3:type_of% (AI @qG (AI @u3 (AI @uX (AI @sZ (AI @mY (AI @tT (AI @u1 (AI @yU (AI @GX @tV))))))))) :=
 ⟨@qG,@u3,@uX,@sZ,@mY,@tT,@u1,@yU,@GX,@tV⟩
theorem TY4:type_of% (AI @E6 (AI @OF (AI @P9 (AI @QQ (AI @MU (AI @QY (AI @DS (AI @C5 @A9)))))))) :=
 ⟨@E6,@OF,@P9,@QQ,@MU,@QY,@DS,@C5,@A9⟩
theorem TY5:type_of% (AI @DB (AI @ER (AI @L1 (AI @OT (AI @j3 (AI @pM (AI @qN (AI @pS (AI @u4 (AI @uZ @uM)))))))))) :=
 ⟨@DB,@ER,@L1,@OT,@j3,@pM,@qN,@pS,@u4,@uZ,@uM⟩
theorem TY6:type_of% (AI @x3 (AI @x8 (AI @xF (AI @x9 (AI @x5 (AI @xM (AI @wR (AI @xC (AI @w5 (AI @xD (AI @xX (AI @DL (AI @CB @AP))))))))))))) :=
 ⟨@x3,@x8,@xF,@x9,@x5,@xM,@wR,@xC,@w5,@xD,@xX,@DL,@CB,@AP⟩
theorem TY7:type_of% (AI @iY (AI @oC (AI @pN (AI @nR (AI @pU (AI @pP (AI @pQ (AI @pO (AI @pW (AI @pT (AI @pV (AI @pR (AI @tK (AI @tO (AI @l6 @sC))))))))))))))) :=
 ⟨@iY,@oC,@pN,@nR,@pU,@pP,@pQ,@pO,@pW,@pT,@pV,@pR,@tK,@tO,@l6,@sC⟩
theorem TY8:type_of% (AI @p6 @wV) :=
 ⟨@p6,@wV⟩
theorem TY9:type_of% (AI @u7 @AQ) :=
 ⟨@u7,@AQ⟩
theorem TY10:type_of% (AI @EG @yW) :=
 ⟨@EG,@yW⟩
theorem TY:type_of% (AI @TY0 (AI @TY1 (AI @TY2 (AI @TY3 (AI @TY4 (AI @TY5 (AI @TY6 (AI @TY7 (AI @TY8 (AI @TY9 @TY10)))))))))) :=
 ⟨@TY0,@TY1,@TY2,@TY3,@TY4,@TY5,@TY6,@TY7,@TY8,@TY9,@TY10⟩
end Ev
end Go.Proofs.YtejmccgfigiadaaGreat
