/-
  What the types of the program are, as the evaluator asks. Written by a program.
-/
import Derived.Test.YtejmccgfigiadaaGreatEnvF
import Derived.Test.YtejmccgfigiadaaGreatEvWalk
set_option maxRecDepth 100000
namespace Go.Proofs.YtejmccgfigiadaaGreat
namespace Ev
def kM (P:Program) (t:TypeId) (i:Nat):Option (Nat × Nat):=match P.underlying t with
 | some (.struct fields) => (fields.toList[i]?).map fun f => (f.offset,P.cellsOf f.type)
 | _ => none
def x7 (P:Program) (t:TypeId):Bool:=match P.underlying t with
 | some (.struct fields) => fields.toList.all fun f => (P.info? f.type).isSome
 | _ => false
theorem sS {P:Program} {t:TypeId} {z:A} {parts:List (Nat × A)} (hs:x7 P t = true) (hz:dM P t = some z):sQ P t parts = (hZ (aX z) (parts.map fun p => (kM P t p.1,p.2))).map .agg:=by
 unfold x7 at hs
 unfold sQ kM
 rw [hz]
 cases hu:P.underlying t with
 | none => rw [hu] at hs; cases hs
 | some d =>
  rw [hu] at hs
  cases d <;> first | cases hs | skip
  simp only at hs ⊢
  rw [if_pos hs]
theorem uD {P:Program} {h:H} {t u:TypeId} {K K1 K2:IntKind} {n:Int} (h1:P.underlying t = some (.int K1)) (h2:P.underlying u = some (.int K2)):eL P h t u (.d (.int K n)) = some (.d (.int K2 (K2.wrap n)),h):=by
 simp only [eL,h1,h2]
theorem aEm:env.P.underlying 3 = some (.int .i64):=kr
theorem aCk:cZ env.P 3 = none:=kr
theorem aDV:env.P.cellsOf 3 = 1:=kr
theorem aDD:eW env.P 3 = true:=kr
theorem aBi:d5 env.P 3 = some false:=kr
theorem aDu:dM env.P 3 = some (nI 0):=kr
theorem aEC:(env.P.info? 3).isSome = true:=kr
theorem aB9:env.P.cellsOf 4 = 1:=kr
theorem aBF:eW env.P 4 = true:=kr
theorem X0:d5 env.P 4 = some false:=kr
theorem aCn:dM env.P 4 = some (.d (.bool false)):=kr
theorem aCt:(env.P.info? 4).isSome = true:=kr
theorem YO:env.P.underlying 5 = some (.int .u8):=kr
theorem X3:env.P.cellsOf 5 = 1:=kr
theorem WJ:eW env.P 5 = true:=kr
theorem SD:d5 env.P 5 = some false:=kr
theorem XQ:dM env.P 5 = some (.d (.int .u8 0)):=kr
theorem R9:env.P.underlying 9 = some .string:=kr
theorem SN:env.P.cellsOf 9 = 1:=kr
theorem RM:eW env.P 9 = true:=kr
theorem P3:d5 env.P 9 = some false:=kr
theorem SJ:dM env.P 9 = some (.d (.str [])):=kr
theorem xC:env.P.underlying 22 = some (.slice 90):=kr
theorem FM:cZ env.P 22 = some 90:=by simp only [cZ,xC]
theorem HT:env.P.cellsOf 22 = 1:=kr
theorem IQ:eW env.P 22 = true:=kr
theorem FO:d5 env.P 22 = some false:=kr
theorem H8:dM env.P 22 = some (.d (.nils)):=kr
theorem ID:(env.P.info? 22).isSome = true:=kr
theorem CT:env.P.underlying 23 = some (.slice 4):=kr
theorem LE:cZ env.P 23 = some 4:=by simp only [cZ,CT]
theorem P0:env.P.cellsOf 23 = 1:=kr
theorem LR:d5 env.P 23 = some false:=kr
theorem N6:dM env.P 23 = some (.d (.nils)):=kr
theorem PF:(env.P.info? 23).isSome = true:=kr
theorem xS:env.P.underlying 27 = some (.slice 9):=kr
theorem ER:cZ env.P 27 = some 9:=by simp only [cZ,xS]
theorem KK:x7 env.P 30 = true:=kr
theorem sC:cY env.P 30 0 = some (0,3):=kr
theorem sE:kM env.P 30 0 = some (0,1):=kr
theorem sO:cY env.P 30 1 = some (1,22):=kr
theorem sL:cY env.P 30 2 = some (2,23):=kr
theorem sI:kM env.P 30 2 = some (2,1):=kr
theorem wN:env.P.cellsOf 30 = 3:=kr
theorem wP:eW env.P 30 = true:=kr
theorem u9:d5 env.P 30 = some true:=kr
theorem oI:dM env.P 30 = some (.agg [nI 0,.d (.nils),.d (.nils)]):=kr
theorem wX:(env.P.info? 30).isSome = true:=kr
theorem zU:env.P.underlying 41 = some (.slice 5):=kr
theorem IS:cZ env.P 41 = some 5:=by simp only [cZ,zU]
theorem LQ:env.P.cellsOf 41 = 1:=kr
theorem HS:d5 env.P 41 = some false:=kr
theorem uZ:env.P.underlying 64 = some (.map 9 4):=kr
theorem GS:env.P.underlying 90 = some (.slice 3):=kr
theorem OP:cZ env.P 90 = some 3:=by simp only [cZ,GS]
theorem SS:env.P.cellsOf 90 = 1:=kr
theorem SV:eW env.P 90 = true:=kr
theorem NC:d5 env.P 90 = some false:=kr
theorem RO:dM env.P 90 = some (.d (.nils)):=kr
theorem UQ:x7 env.P 101 = true:=kr
theorem y3:cY env.P 101 0 = some (0,41):=kr
theorem zM:kM env.P 101 0 = some (0,1):=kr
theorem zH:cY env.P 101 1 = some (1,3):=kr
theorem WS:dM env.P 101 = some (.agg [.d (.nils),nI 0]):=kr
theorem GG:env.P.underlying 111 = some (.slice 113):=kr
theorem EM:env.P.cellsOf 111 = 1:=kr
theorem DW:d5 env.P 111 = some false:=kr
theorem E5:dM env.P 111 = some (.d (.nils)):=kr
theorem FS:(env.P.info? 111).isSome = true:=kr
theorem OM:env.P.underlying 113 = some (.array 6 3):=kr
theorem OO:env.P.cellsOf 113 = 6:=kr
theorem lD:env.P.underlying 119 = some (.slice 30):=kr
theorem rP:cZ env.P 119 = some 30:=by simp only [cZ,lD]
theorem sN:env.P.cellsOf 119 = 1:=kr
theorem rJ:d5 env.P 119 = some false:=kr
theorem wM:env.P.underlying 120 = some (.slice 169):=kr
theorem wU:env.P.cellsOf 120 = 1:=kr
theorem vU:d5 env.P 120 = some false:=kr
theorem VA:x7 env.P 122 = true:=kr
theorem zF:cY env.P 122 0 = some (0,120):=kr
theorem yN:cY env.P 122 1 = some (1,119):=kr
theorem zQ:kM env.P 122 1 = some (1,1):=kr
theorem zB:cY env.P 122 2 = some (2,90):=kr
theorem yX:kM env.P 122 2 = some (2,1):=kr
theorem zR:cY env.P 122 3 = some (3,3):=kr
theorem yU:kM env.P 122 3 = some (3,1):=kr
theorem y6:cY env.P 122 4 = some (4,3):=kr
theorem y5:kM env.P 122 4 = some (4,1):=kr
theorem yM:cY env.P 122 5 = some (5,3):=kr
theorem y8:kM env.P 122 5 = some (5,1):=kr
theorem F8:env.P.cellsOf 122 = 6:=kr
theorem EE:d5 env.P 122 = some true:=kr
theorem YN:dM env.P 122 = some (.agg [.d (.nils),.d (.nils),.d (.nils),nI 0,nI 0,nI 0]):=kr
theorem kB:env.P.underlying 144 = some (.slice 146):=kr
theorem pY:cZ env.P 144 = some 146:=by simp only [cZ,kB]
theorem rS:env.P.cellsOf 144 = 1:=kr
theorem pL:d5 env.P 144 = some false:=kr
theorem rN:dM env.P 144 = some (.d (.nils)):=kr
theorem rM:(env.P.info? 144).isSome = true:=kr
theorem IF:x7 env.P 146 = true:=kr
theorem rL:cY env.P 146 0 = some (0,3):=kr
theorem rR:kM env.P 146 0 = some (0,1):=kr
theorem rQ:cY env.P 146 1 = some (1,3):=kr
theorem rK:kM env.P 146 1 = some (1,1):=kr
theorem rO:cY env.P 146 2 = some (2,90):=kr
theorem rT:kM env.P 146 2 = some (2,1):=kr
theorem vV:env.P.cellsOf 146 = 3:=kr
theorem vD:eW env.P 146 = true:=kr
theorem m9:dM env.P 146 = some (.agg [nI 0,nI 0,.d (.nils)]):=kr
theorem r5:env.P.underlying 151 = some (.slice 22):=kr
theorem yL:cZ env.P 151 = some 22:=by simp only [cZ,r5]
theorem wR:cY env.P 169 1 = some (1,3):=kr
theorem CZ:env.P.cellsOf 169 = 3:=kr
theorem uR:∀ parts,sQ env.P 30 parts = (hZ (aX (.agg [nI 0,.d (.nils),.d (.nils)])) (parts.map fun p => (kM env.P 30 p.1,p.2))).map .agg:=fun _ => sS KK oI
theorem C7:∀ parts,sQ env.P 101 parts = (hZ (aX (.agg [.d (.nils),nI 0])) (parts.map fun p => (kM env.P 101 p.1,p.2))).map .agg:=fun _ => sS UQ WS
theorem CC:∀ parts,sQ env.P 122 parts = (hZ (aX (.agg [.d (.nils),.d (.nils),.d (.nils),nI 0,nI 0,nI 0])) (parts.map fun p => (kM env.P 122 p.1,p.2))).map .agg:=fun _ => sS VA YN
theorem tZ:∀ parts,sQ env.P 146 parts = (hZ (aX (.agg [nI 0,nI 0,.d (.nils)])) (parts.map fun p => (kM env.P 146 p.1,p.2))).map .agg:=fun _ => sS IF m9
theorem FG {h:H} {n:Int} {K:IntKind}:eL env.P h 3 5 (.d (.int K n)) = some (.d (.int .u8 (IntKind.wrap .u8 n)),h):=uD aEm YO
theorem EO {h:H} {n:Int} {K:IntKind}:eL env.P h 5 3 (.d (.int K n)) = some (nI (IntKind.wrap .i64 n),h):=uD YO aEm
theorem TY0:type_of% (AI @aCk (AI @aDV (AI @aDD (AI @aBi (AI @aDu (AI @aEC (AI @aB9 (AI @aBF (AI @X0 (AI @aCn (AI @aCt (AI @X3 (AI @WJ (AI @SD (AI @XQ (AI @R9 (AI @SN (AI @RM (AI @P3 @SJ))))))))))))))))))) :=
 ⟨@aCk,@aDV,@aDD,@aBi,@aDu,@aEC,@aB9,@aBF,@X0,@aCn,@aCt,@X3,@WJ,@SD,@XQ,@R9,@SN,@RM,@P3,@SJ⟩
theorem TY1:type_of% (AI @xC (AI @FM (AI @HT (AI @IQ (AI @FO (AI @H8 (AI @ID (AI @CT (AI @LE (AI @P0 (AI @LR @N6))))))))))) :=
 ⟨@xC,@FM,@HT,@IQ,@FO,@H8,@ID,@CT,@LE,@P0,@LR,@N6⟩
theorem TY2:type_of% (AI @PF (AI @xS (AI @ER (AI @sC (AI @sE @sO))))) :=
 ⟨@PF,@xS,@ER,@sC,@sE,@sO⟩
theorem TY3:type_of% (AI @sL (AI @sI (AI @wN (AI @wP (AI @u9 (AI @oI (AI @uR (AI @wX (AI @zU (AI @IS (AI @LQ (AI @HS @uZ)))))))))))) :=
 ⟨@sL,@sI,@wN,@wP,@u9,@oI,@uR,@wX,@zU,@IS,@LQ,@HS,@uZ⟩
theorem TY4:type_of% (AI @GS (AI @OP (AI @SS (AI @SV (AI @NC (AI @RO (AI @y3 (AI @zM (AI @zH (AI @C7 (AI @GG (AI @EM @DW)))))))))))) :=
 ⟨@GS,@OP,@SS,@SV,@NC,@RO,@y3,@zM,@zH,@C7,@GG,@EM,@DW⟩
theorem TY5:type_of% (AI @E5 (AI @FS (AI @OM (AI @OO (AI @lD (AI @rP (AI @sN (AI @rJ (AI @wM (AI @wU @vU)))))))))) :=
 ⟨@E5,@FS,@OM,@OO,@lD,@rP,@sN,@rJ,@wM,@wU,@vU⟩
theorem TY6:type_of% (AI @zF (AI @yN (AI @zQ (AI @zB (AI @yX (AI @zR (AI @yU (AI @y6 (AI @y5 (AI @yM (AI @y8 (AI @F8 (AI @EE @CC))))))))))))) :=
 ⟨@zF,@yN,@zQ,@zB,@yX,@zR,@yU,@y6,@y5,@yM,@y8,@F8,@EE,@CC⟩
theorem TY7:type_of% (AI @kB (AI @pY (AI @rS (AI @pL (AI @rN (AI @rM (AI @rL (AI @rR (AI @rQ (AI @rK (AI @rO (AI @rT (AI @vV (AI @vD (AI @m9 @tZ))))))))))))))) :=
 ⟨@kB,@pY,@rS,@pL,@rN,@rM,@rL,@rR,@rQ,@rK,@rO,@rT,@vV,@vD,@m9,@tZ⟩
theorem TY8:type_of% (AI @r5 @yL) :=
 ⟨@r5,@yL⟩
theorem TY9:type_of% (AI @wR @CZ) :=
 ⟨@wR,@CZ⟩
theorem TY10:type_of% (AI @FG @EO) :=
 ⟨@FG,@EO⟩
theorem TY:type_of% (AI @TY0 (AI @TY1 (AI @TY2 (AI @TY3 (AI @TY4 (AI @TY5 (AI @TY6 (AI @TY7 (AI @TY8 (AI @TY9 @TY10)))))))))) :=
 ⟨@TY0,@TY1,@TY2,@TY3,@TY4,@TY5,@TY6,@TY7,@TY8,@TY9,@TY10⟩
end Ev
end Go.Proofs.YtejmccgfigiadaaGreat
