/-
  What the types of the program are, as the evaluator asks. Written by a program.
-/
import Derived.Test.YtppdfjdfjfoddaaEnvF
import Derived.Test.YtppdfjdfjfoddaaEvWalk
set_option maxRecDepth 100000
namespace Go.Proofs.Ytppdfjdfjfoddaa
namespace Ev
def offOf (P : Program) (t : TypeId) (i : Nat) : Option (Nat × Nat) := match P.underlying t with
 | some (.struct fields) => (fields.toList[i]?).map fun f => (f.offset, P.cellsOf f.type)
 | _ => none
def structOK (P : Program) (t : TypeId) : Bool := match P.underlying t with
 | some (.struct fields) => fields.toList.all fun f => (P.info? f.type).isSome
 | _ => false
theorem aBuild_struct {P : Program} {t : TypeId} {z : A} {parts : List (Nat × A)} (hs : structOK P t = true) (hz : zeroA P t = some z) : aBuild P t parts = (fillA (cellsA z) (parts.map fun p => (offOf P t p.1, p.2))).map .agg := by
 unfold structOK at hs
 unfold aBuild offOf
 rw [hz]
 cases hu : P.underlying t with
 | none => rw [hu] at hs; cases hs
 | some d =>
  rw [hu] at hs
  cases d <;> first | cases hs | skip
  simp only at hs ⊢
  rw [if_pos hs]
theorem aBuild_array {P : Program} {t e : TypeId} {n c : Nat} {z : A} {parts : List (Nat × A)} (hu : P.underlying t = some (.array n e)) (hz : zeroA P t = some z) (hi : (P.info? e).isSome = true) (hc : P.cellsOf e = c) : aBuild P t parts = (fillA (cellsA z) (parts.map fun p => (some (p.1 * c, c), p.2))).map .agg := by
 unfold aBuild
 rw [hz, hu]
 simp only [hi, if_true, hc]
theorem aConv_int {P : Program} {h : H} {t u : TypeId} {K K1 K2 : IntKind} {n : Int} (h1 : P.underlying t = some (.int K1)) (h2 : P.underlying u = some (.int K2)) : aConvert P h t u (.d (.int K n)) = some (.d (.int K2 (K2.wrap n)), h) := by
 simp only [aConvert, h1, h2]
theorem xll : env.P.underlying 2 = some (.int .i64) := by kernel_rfl
theorem xju : elemT env.P 2 = none := by kernel_rfl
theorem xl8 : env.P.cellsOf 2 = 1 := by kernel_rfl
theorem xm1 : elemOk env.P 2 = true := by kernel_rfl
theorem xkf : isAggT env.P 2 = some false := by kernel_rfl
theorem xld : zeroA env.P 2 = some (.d (.int .i64 0)) := by kernel_rfl
theorem xlg : (env.P.info? 2).isSome = true := by kernel_rfl
theorem x7v : env.P.underlying 3 = some (.int .i64) := by kernel_rfl
theorem xmq : elemT env.P 3 = none := by kernel_rfl
theorem xks : env.P.cellsOf 3 = 1 := by kernel_rfl
theorem xnp : elemOk env.P 3 = true := by kernel_rfl
theorem xmo : isAggT env.P 3 = some false := by kernel_rfl
theorem xo5 : zeroA env.P 3 = some (.d (.int .i64 0)) := by kernel_rfl
theorem xkr : (env.P.info? 3).isSome = true := by kernel_rfl
theorem xmm : env.P.underlying 4 = some .bool := by kernel_rfl
theorem xku : elemT env.P 4 = none := by kernel_rfl
theorem xms : env.P.cellsOf 4 = 1 := by kernel_rfl
theorem xmt : elemOk env.P 4 = true := by kernel_rfl
theorem xlc : isAggT env.P 4 = some false := by kernel_rfl
theorem xn0 : zeroA env.P 4 = some (.d (.bool false)) := by kernel_rfl
theorem xmw : (env.P.info? 4).isSome = true := by kernel_rfl
theorem x60 : env.P.underlying 5 = some (.int .u8) := by kernel_rfl
theorem xk4 : elemT env.P 5 = none := by kernel_rfl
theorem xlp : env.P.cellsOf 5 = 1 := by kernel_rfl
theorem xli : elemOk env.P 5 = true := by kernel_rfl
theorem xjw : isAggT env.P 5 = some false := by kernel_rfl
theorem xl1 : zeroA env.P 5 = some (.d (.int .u8 0)) := by kernel_rfl
theorem xly : (env.P.info? 5).isSome = true := by kernel_rfl
theorem xjt : env.P.underlying 9 = some .string := by kernel_rfl
theorem xiq : elemT env.P 9 = none := by kernel_rfl
theorem xjs : env.P.cellsOf 9 = 1 := by kernel_rfl
theorem xjz : elemOk env.P 9 = true := by kernel_rfl
theorem xiw : isAggT env.P 9 = some false := by kernel_rfl
theorem xkh : zeroA env.P 9 = some (.d (.str [])) := by kernel_rfl
theorem xjy : (env.P.info? 9).isSome = true := by kernel_rfl
theorem xip : env.P.underlying 12 = some (.int .u64) := by kernel_rfl
theorem xi1 : elemT env.P 12 = none := by kernel_rfl
theorem xj6 : env.P.cellsOf 12 = 1 := by kernel_rfl
theorem xj0 : elemOk env.P 12 = true := by kernel_rfl
theorem xhu : isAggT env.P 12 = some false := by kernel_rfl
theorem xj2 : zeroA env.P 12 = some (.d (.int .u64 0)) := by kernel_rfl
theorem xid : (env.P.info? 12).isSome = true := by kernel_rfl
theorem x2s : structOK env.P 13 = true := by kernel_rfl
theorem x4a : fieldOff env.P 13 0 = some (0, 9) := by kernel_rfl
theorem x44 : offOf env.P 13 0 = some (0, 1) := by kernel_rfl
theorem x49 : fieldOff env.P 13 1 = some (1, 12) := by kernel_rfl
theorem x47 : offOf env.P 13 1 = some (1, 1) := by kernel_rfl
theorem x4s : elemT env.P 13 = none := by kernel_rfl
theorem x4w : env.P.cellsOf 13 = 2 := by kernel_rfl
theorem x4x : elemOk env.P 13 = true := by kernel_rfl
theorem x4t : isAggT env.P 13 = some true := by kernel_rfl
theorem x2z : zeroA env.P 13 = some (.agg [.d (.str []), .d (.int .u64 0)]) := by kernel_rfl
theorem x51 : (env.P.info? 13).isSome = true := by kernel_rfl
theorem xeq : elemT env.P 20 = none := by kernel_rfl
theorem xgl : env.P.cellsOf 20 = 1 := by kernel_rfl
theorem xg7 : elemOk env.P 20 = true := by kernel_rfl
theorem xfj : isAggT env.P 20 = some false := by kernel_rfl
theorem xgi : zeroA env.P 20 = some (.d (.nili)) := by kernel_rfl
theorem xgf : (env.P.info? 20).isSome = true := by kernel_rfl
theorem xlr : env.P.underlying 21 = some (.int .i32) := by kernel_rfl
theorem xk0 : elemT env.P 21 = none := by kernel_rfl
theorem xln : env.P.cellsOf 21 = 1 := by kernel_rfl
theorem xl7 : elemOk env.P 21 = true := by kernel_rfl
theorem xk6 : isAggT env.P 21 = some false := by kernel_rfl
theorem xlt : zeroA env.P 21 = some (.d (.int .i32 0)) := by kernel_rfl
theorem xl6 : (env.P.info? 21).isSome = true := by kernel_rfl
theorem xcu : env.P.underlying 22 = some (.slice 5) := by kernel_rfl
theorem xgj : elemT env.P 22 = some 5 := by simp only [elemT, xcu]
theorem xhi : env.P.cellsOf 22 = 1 := by kernel_rfl
theorem xi7 : elemOk env.P 22 = true := by kernel_rfl
theorem xg8 : isAggT env.P 22 = some false := by kernel_rfl
theorem xi8 : zeroA env.P 22 = some (.d (.nils)) := by kernel_rfl
theorem xhp : (env.P.info? 22).isSome = true := by kernel_rfl
theorem xbw : env.P.underlying 23 = some (.slice 60) := by kernel_rfl
theorem xey : elemT env.P 23 = some 60 := by simp only [elemT, xbw]
theorem xgc : env.P.cellsOf 23 = 1 := by kernel_rfl
theorem xg5 : elemOk env.P 23 = true := by kernel_rfl
theorem xev : isAggT env.P 23 = some false := by kernel_rfl
theorem xg0 : zeroA env.P 23 = some (.d (.nils)) := by kernel_rfl
theorem xgw : (env.P.info? 23).isSome = true := by kernel_rfl
theorem xed : env.P.underlying 24 = some (.slice 4) := by kernel_rfl
theorem xhz : elemT env.P 24 = some 4 := by simp only [elemT, xed]
theorem xie : env.P.cellsOf 24 = 1 := by kernel_rfl
theorem xje : elemOk env.P 24 = true := by kernel_rfl
theorem xhy : isAggT env.P 24 = some false := by kernel_rfl
theorem xiv : zeroA env.P 24 = some (.d (.nils)) := by kernel_rfl
theorem xin : (env.P.info? 24).isSome = true := by kernel_rfl
theorem x18 : structOK env.P 25 = true := by kernel_rfl
theorem x1s : fieldOff env.P 25 0 = some (0, 3) := by kernel_rfl
theorem x1w : offOf env.P 25 0 = some (0, 1) := by kernel_rfl
theorem x21 : fieldOff env.P 25 1 = some (1, 23) := by kernel_rfl
theorem x1x : offOf env.P 25 1 = some (1, 1) := by kernel_rfl
theorem x1u : fieldOff env.P 25 2 = some (2, 24) := by kernel_rfl
theorem x1r : offOf env.P 25 2 = some (2, 1) := by kernel_rfl
theorem x2b : elemT env.P 25 = none := by kernel_rfl
theorem x2i : env.P.cellsOf 25 = 3 := by kernel_rfl
theorem x2e : elemOk env.P 25 = true := by kernel_rfl
theorem x29 : isAggT env.P 25 = some true := by kernel_rfl
theorem x1a : zeroA env.P 25 = some (.agg [.d (.int .i64 0), .d (.nils), .d (.nils)]) := by kernel_rfl
theorem x2d : (env.P.info? 25).isSome = true := by kernel_rfl
theorem x6u : structOK env.P 26 = true := by kernel_rfl
theorem x9a : fieldOff env.P 26 0 = some (0, 3) := by kernel_rfl
theorem x9f : offOf env.P 26 0 = some (0, 1) := by kernel_rfl
theorem x9c : fieldOff env.P 26 1 = some (1, 23) := by kernel_rfl
theorem x96 : offOf env.P 26 1 = some (1, 1) := by kernel_rfl
theorem x9g : fieldOff env.P 26 2 = some (2, 24) := by kernel_rfl
theorem x8q : offOf env.P 26 2 = some (2, 1) := by kernel_rfl
theorem xal : elemT env.P 26 = none := by kernel_rfl
theorem xbs : env.P.cellsOf 26 = 3 := by kernel_rfl
theorem xbh : elemOk env.P 26 = true := by kernel_rfl
theorem xam : isAggT env.P 26 = some true := by kernel_rfl
theorem x74 : zeroA env.P 26 = some (.agg [.d (.int .i64 0), .d (.nils), .d (.nils)]) := by kernel_rfl
theorem xbk : (env.P.info? 26).isSome = true := by kernel_rfl
theorem x6r : structOK env.P 38 = true := by kernel_rfl
theorem x93 : fieldOff env.P 38 0 = some (0, 3) := by kernel_rfl
theorem x8v : offOf env.P 38 0 = some (0, 1) := by kernel_rfl
theorem x97 : fieldOff env.P 38 1 = some (1, 23) := by kernel_rfl
theorem x8t : offOf env.P 38 1 = some (1, 1) := by kernel_rfl
theorem x90 : fieldOff env.P 38 2 = some (2, 24) := by kernel_rfl
theorem x8w : offOf env.P 38 2 = some (2, 1) := by kernel_rfl
theorem xau : elemT env.P 38 = none := by kernel_rfl
theorem xbe : env.P.cellsOf 38 = 3 := by kernel_rfl
theorem xb4 : elemOk env.P 38 = true := by kernel_rfl
theorem xay : isAggT env.P 38 = some true := by kernel_rfl
theorem x73 : zeroA env.P 38 = some (.agg [.d (.int .i64 0), .d (.nils), .d (.nils)]) := by kernel_rfl
theorem xbt : (env.P.info? 38).isSome = true := by kernel_rfl
theorem xbz : env.P.underlying 40 = some (.slice 9) := by kernel_rfl
theorem xez : elemT env.P 40 = some 9 := by simp only [elemT, xbz]
theorem xgx : env.P.cellsOf 40 = 1 := by kernel_rfl
theorem xgm : elemOk env.P 40 = true := by kernel_rfl
theorem xfk : isAggT env.P 40 = some false := by kernel_rfl
theorem xge : zeroA env.P 40 = some (.d (.nils)) := by kernel_rfl
theorem xgq : (env.P.info? 40).isSome = true := by kernel_rfl
theorem xbf : env.P.underlying 50 = some (.pointer 82) := by kernel_rfl
theorem xab : elemT env.P 50 = none := by kernel_rfl
theorem xbi : env.P.cellsOf 50 = 1 := by kernel_rfl
theorem xbj : elemOk env.P 50 = true := by kernel_rfl
theorem xaw : isAggT env.P 50 = some false := by kernel_rfl
theorem xb1 : zeroA env.P 50 = some (.d (.nilp)) := by kernel_rfl
theorem xb0 : (env.P.info? 50).isSome = true := by kernel_rfl
theorem xak : env.P.underlying 56 = some (.slice 62) := by kernel_rfl
theorem xdx : elemT env.P 56 = some 62 := by simp only [elemT, xak]
theorem xf2 : env.P.cellsOf 56 = 1 := by kernel_rfl
theorem xf9 : elemOk env.P 56 = true := by kernel_rfl
theorem xdv : isAggT env.P 56 = some false := by kernel_rfl
theorem xff : zeroA env.P 56 = some (.d (.nils)) := by kernel_rfl
theorem xfa : (env.P.info? 56).isSome = true := by kernel_rfl
theorem xfv : env.P.underlying 60 = some (.slice 3) := by kernel_rfl
theorem xit : elemT env.P 60 = some 3 := by simp only [elemT, xfv]
theorem xk7 : env.P.cellsOf 60 = 1 := by kernel_rfl
theorem xk9 : elemOk env.P 60 = true := by kernel_rfl
theorem xiy : isAggT env.P 60 = some false := by kernel_rfl
theorem xkj : zeroA env.P 60 = some (.d (.nils)) := by kernel_rfl
theorem xkn : (env.P.info? 60).isSome = true := by kernel_rfl
theorem xdz : env.P.underlying 62 = some (.array 6 3) := by kernel_rfl
theorem xhn : elemT env.P 62 = none := by kernel_rfl
theorem xix : env.P.cellsOf 62 = 6 := by kernel_rfl
theorem xim : elemOk env.P 62 = true := by kernel_rfl
theorem xhh : isAggT env.P 62 = some true := by kernel_rfl
theorem xef : zeroA env.P 62 = some (.agg [.d (.int .i64 0), .d (.int .i64 0), .d (.int .i64 0), .d (.int .i64 0), .d (.int .i64 0), .d (.int .i64 0)]) := by kernel_rfl
theorem xig : (env.P.info? 62).isSome = true := by kernel_rfl
theorem x3y : structOK env.P 81 = true := by kernel_rfl
theorem x5q : fieldOff env.P 81 0 = some (0, 22) := by kernel_rfl
theorem x5r : offOf env.P 81 0 = some (0, 1) := by kernel_rfl
theorem x5p : fieldOff env.P 81 1 = some (1, 3) := by kernel_rfl
theorem x5s : offOf env.P 81 1 = some (1, 1) := by kernel_rfl
theorem x69 : elemT env.P 81 = none := by kernel_rfl
theorem x6h : env.P.cellsOf 81 = 2 := by kernel_rfl
theorem x6m : elemOk env.P 81 = true := by kernel_rfl
theorem x6b : isAggT env.P 81 = some true := by kernel_rfl
theorem x4f : zeroA env.P 81 = some (.agg [.d (.nils), .d (.int .i64 0)]) := by kernel_rfl
theorem x6k : (env.P.info? 81).isSome = true := by kernel_rfl
theorem x9m : structOK env.P 82 = true := by kernel_rfl
theorem xcn : fieldOff env.P 82 0 = some (0, 22) := by kernel_rfl
theorem xc6 : offOf env.P 82 0 = some (0, 1) := by kernel_rfl
theorem xcf : fieldOff env.P 82 1 = some (1, 3) := by kernel_rfl
theorem xcg : offOf env.P 82 1 = some (1, 1) := by kernel_rfl
theorem xej : elemT env.P 82 = none := by kernel_rfl
theorem xeu : env.P.cellsOf 82 = 2 := by kernel_rfl
theorem xf6 : elemOk env.P 82 = true := by kernel_rfl
theorem xee : isAggT env.P 82 = some true := by kernel_rfl
theorem xap : zeroA env.P 82 = some (.agg [.d (.nils), .d (.int .i64 0)]) := by kernel_rfl
theorem xfn : (env.P.info? 82).isSome = true := by kernel_rfl
theorem x64 : env.P.underlying 91 = some (.slice 26) := by kernel_rfl
theorem x8a : elemT env.P 91 = some 26 := by simp only [elemT, x64]
theorem x8r : env.P.cellsOf 91 = 1 := by kernel_rfl
theorem x98 : elemOk env.P 91 = true := by kernel_rfl
theorem x88 : isAggT env.P 91 = some false := by kernel_rfl
theorem x9d : zeroA env.P 91 = some (.d (.nils)) := by kernel_rfl
theorem x8o : (env.P.info? 91).isSome = true := by kernel_rfl
theorem x72 : env.P.underlying 92 = some (.slice 140) := by kernel_rfl
theorem xag : elemT env.P 92 = some 140 := by simp only [elemT, x72]
theorem xbn : env.P.cellsOf 92 = 1 := by kernel_rfl
theorem xb7 : elemOk env.P 92 = true := by kernel_rfl
theorem x9z : isAggT env.P 92 = some false := by kernel_rfl
theorem xb2 : zeroA env.P 92 = some (.d (.nils)) := by kernel_rfl
theorem xbg : (env.P.info? 92).isSome = true := by kernel_rfl
theorem x8 : structOK env.P 93 = true := by kernel_rfl
theorem xl : fieldOff env.P 93 0 = some (0, 92) := by kernel_rfl
theorem xi : offOf env.P 93 0 = some (0, 1) := by kernel_rfl
theorem xk : fieldOff env.P 93 1 = some (1, 91) := by kernel_rfl
theorem xh : offOf env.P 93 1 = some (1, 1) := by kernel_rfl
theorem xg : fieldOff env.P 93 2 = some (2, 60) := by kernel_rfl
theorem xj : offOf env.P 93 2 = some (2, 1) := by kernel_rfl
theorem xd : fieldOff env.P 93 3 = some (3, 3) := by kernel_rfl
theorem xn : offOf env.P 93 3 = some (3, 1) := by kernel_rfl
theorem xp : fieldOff env.P 93 4 = some (4, 3) := by kernel_rfl
theorem xe : offOf env.P 93 4 = some (4, 1) := by kernel_rfl
theorem xm : fieldOff env.P 93 5 = some (5, 3) := by kernel_rfl
theorem xf : offOf env.P 93 5 = some (5, 1) := by kernel_rfl
theorem xr : elemT env.P 93 = none := by kernel_rfl
theorem xw : env.P.cellsOf 93 = 6 := by kernel_rfl
theorem xu : elemOk env.P 93 = true := by kernel_rfl
theorem xt : isAggT env.P 93 = some true := by kernel_rfl
theorem xb : zeroA env.P 93 = some (.agg [.d (.nils), .d (.nils), .d (.nils), .d (.int .i64 0), .d (.int .i64 0), .d (.int .i64 0)]) := by kernel_rfl
theorem xx : (env.P.info? 93).isSome = true := by kernel_rfl
theorem x9k : structOK env.P 94 = true := by kernel_rfl
theorem xca : fieldOff env.P 94 0 = some (0, 92) := by kernel_rfl
theorem xck : offOf env.P 94 0 = some (0, 1) := by kernel_rfl
theorem xc7 : fieldOff env.P 94 1 = some (1, 91) := by kernel_rfl
theorem xcb : offOf env.P 94 1 = some (1, 1) := by kernel_rfl
theorem xcl : fieldOff env.P 94 2 = some (2, 60) := by kernel_rfl
theorem xce : offOf env.P 94 2 = some (2, 1) := by kernel_rfl
theorem xc8 : fieldOff env.P 94 3 = some (3, 3) := by kernel_rfl
theorem xcq : offOf env.P 94 3 = some (3, 1) := by kernel_rfl
theorem xci : fieldOff env.P 94 4 = some (4, 3) := by kernel_rfl
theorem xcd : offOf env.P 94 4 = some (4, 1) := by kernel_rfl
theorem xcc : fieldOff env.P 94 5 = some (5, 3) := by kernel_rfl
theorem xc5 : offOf env.P 94 5 = some (5, 1) := by kernel_rfl
theorem xec : elemT env.P 94 = none := by kernel_rfl
theorem xet : env.P.cellsOf 94 = 6 := by kernel_rfl
theorem xex : elemOk env.P 94 = true := by kernel_rfl
theorem xe2 : isAggT env.P 94 = some true := by kernel_rfl
theorem xai : zeroA env.P 94 = some (.agg [.d (.nils), .d (.nils), .d (.nils), .d (.int .i64 0), .d (.int .i64 0), .d (.int .i64 0)]) := by kernel_rfl
theorem xf1 : (env.P.info? 94).isSome = true := by kernel_rfl
theorem x6q : env.P.underlying 103 = some (.int .u64) := by kernel_rfl
theorem xlk : elemT env.P 103 = none := by kernel_rfl
theorem xmn : env.P.cellsOf 103 = 1 := by kernel_rfl
theorem xn3 : elemOk env.P 103 = true := by kernel_rfl
theorem xlq : isAggT env.P 103 = some false := by kernel_rfl
theorem xmx : zeroA env.P 103 = some (.d (.int .u64 0)) := by kernel_rfl
theorem xn2 : (env.P.info? 103).isSome = true := by kernel_rfl
theorem x8l : env.P.underlying 110 = some (.slice 23) := by kernel_rfl
theorem xc3 : elemT env.P 110 = some 23 := by simp only [elemT, x8l]
theorem xdb : env.P.cellsOf 110 = 1 := by kernel_rfl
theorem xdm : elemOk env.P 110 = true := by kernel_rfl
theorem xc9 : isAggT env.P 110 = some false := by kernel_rfl
theorem xd6 : zeroA env.P 110 = some (.d (.nils)) := by kernel_rfl
theorem xcz : (env.P.info? 110).isSome = true := by kernel_rfl
theorem x9e : env.P.underlying 121 = some (.int .i64) := by kernel_rfl
theorem x86 : elemT env.P 121 = none := by kernel_rfl
theorem x8z : env.P.cellsOf 121 = 1 := by kernel_rfl
theorem x8n : elemOk env.P 121 = true := by kernel_rfl
theorem x8e : isAggT env.P 121 = some false := by kernel_rfl
theorem x99 : zeroA env.P 121 = some (.d (.int .i64 0)) := by kernel_rfl
theorem x8s : (env.P.info? 121).isSome = true := by kernel_rfl
theorem xkl : env.P.underlying 129 = some (.int .u32) := by kernel_rfl
theorem xik : elemT env.P 129 = none := by kernel_rfl
theorem xk1 : env.P.cellsOf 129 = 1 := by kernel_rfl
theorem xjv : elemOk env.P 129 = true := by kernel_rfl
theorem xij : isAggT env.P 129 = some false := by kernel_rfl
theorem xk3 : zeroA env.P 129 = some (.d (.int .u32 0)) := by kernel_rfl
theorem xkb : (env.P.info? 129).isSome = true := by kernel_rfl
theorem xki : env.P.underlying 131 = some (.int .u64) := by kernel_rfl
theorem xj3 : elemT env.P 131 = none := by kernel_rfl
theorem xkc : env.P.cellsOf 131 = 1 := by kernel_rfl
theorem xkm : elemOk env.P 131 = true := by kernel_rfl
theorem xjf : isAggT env.P 131 = some false := by kernel_rfl
theorem xko : zeroA env.P 131 = some (.d (.int .u64 0)) := by kernel_rfl
theorem xka : (env.P.info? 131).isSome = true := by kernel_rfl
theorem x8k : env.P.underlying 138 = some (.slice 159) := by kernel_rfl
theorem xco : elemT env.P 138 = some 159 := by simp only [elemT, x8k]
theorem xdk : env.P.cellsOf 138 = 1 := by kernel_rfl
theorem xd0 : elemOk env.P 138 = true := by kernel_rfl
theorem xcp : isAggT env.P 138 = some false := by kernel_rfl
theorem xd9 : zeroA env.P 138 = some (.d (.nils)) := by kernel_rfl
theorem xd7 : (env.P.info? 138).isSome = true := by kernel_rfl
theorem x17 : structOK env.P 139 = true := by kernel_rfl
theorem x1z : fieldOff env.P 139 0 = some (0, 3) := by kernel_rfl
theorem x1v : offOf env.P 139 0 = some (0, 1) := by kernel_rfl
theorem x1t : fieldOff env.P 139 1 = some (1, 3) := by kernel_rfl
theorem x1q : offOf env.P 139 1 = some (1, 1) := by kernel_rfl
theorem x1y : fieldOff env.P 139 2 = some (2, 138) := by kernel_rfl
theorem x20 : offOf env.P 139 2 = some (2, 1) := by kernel_rfl
theorem x28 : elemT env.P 139 = none := by kernel_rfl
theorem x2g : env.P.cellsOf 139 = 3 := by kernel_rfl
theorem x2f : elemOk env.P 139 = true := by kernel_rfl
theorem x2c : isAggT env.P 139 = some true := by kernel_rfl
theorem x19 : zeroA env.P 139 = some (.agg [.d (.int .i64 0), .d (.int .i64 0), .d (.nils)]) := by kernel_rfl
theorem x2h : (env.P.info? 139).isSome = true := by kernel_rfl
theorem x8m : structOK env.P 140 = true := by kernel_rfl
theorem xbo : fieldOff env.P 140 0 = some (0, 3) := by kernel_rfl
theorem xb6 : offOf env.P 140 0 = some (0, 1) := by kernel_rfl
theorem xbp : fieldOff env.P 140 1 = some (1, 3) := by kernel_rfl
theorem xb5 : offOf env.P 140 1 = some (1, 1) := by kernel_rfl
theorem xaz : fieldOff env.P 140 2 = some (2, 138) := by kernel_rfl
theorem xbl : offOf env.P 140 2 = some (2, 1) := by kernel_rfl
theorem xdl : elemT env.P 140 = none := by kernel_rfl
theorem xe6 : env.P.cellsOf 140 = 3 := by kernel_rfl
theorem xdt : elemOk env.P 140 = true := by kernel_rfl
theorem xd4 : isAggT env.P 140 = some true := by kernel_rfl
theorem x9j : zeroA env.P 140 = some (.agg [.d (.int .i64 0), .d (.int .i64 0), .d (.nils)]) := by kernel_rfl
theorem xe0 : (env.P.info? 140).isSome = true := by kernel_rfl
theorem x5t : env.P.underlying 144 = some (.slice 146) := by kernel_rfl
theorem x7w : elemT env.P 144 = some 146 := by simp only [elemT, x5t]
theorem x8i : env.P.cellsOf 144 = 1 := by kernel_rfl
theorem x8d : elemOk env.P 144 = true := by kernel_rfl
theorem x7f : isAggT env.P 144 = some false := by kernel_rfl
theorem x8h : zeroA env.P 144 = some (.d (.nils)) := by kernel_rfl
theorem x89 : (env.P.info? 144).isSome = true := by kernel_rfl
theorem x1k : structOK env.P 145 = true := by kernel_rfl
theorem x2p : fieldOff env.P 145 0 = some (0, 3) := by kernel_rfl
theorem x2r : offOf env.P 145 0 = some (0, 1) := by kernel_rfl
theorem x2m : fieldOff env.P 145 1 = some (1, 3) := by kernel_rfl
theorem x2n : offOf env.P 145 1 = some (1, 1) := by kernel_rfl
theorem x2q : fieldOff env.P 145 2 = some (2, 60) := by kernel_rfl
theorem x2o : offOf env.P 145 2 = some (2, 1) := by kernel_rfl
theorem x2v : elemT env.P 145 = none := by kernel_rfl
theorem x32 : env.P.cellsOf 145 = 3 := by kernel_rfl
theorem x30 : elemOk env.P 145 = true := by kernel_rfl
theorem x2x : isAggT env.P 145 = some true := by kernel_rfl
theorem x1m : zeroA env.P 145 = some (.agg [.d (.int .i64 0), .d (.int .i64 0), .d (.nils)]) := by kernel_rfl
theorem x31 : (env.P.info? 145).isSome = true := by kernel_rfl
theorem x6o : structOK env.P 146 = true := by kernel_rfl
theorem x8c : fieldOff env.P 146 0 = some (0, 3) := by kernel_rfl
theorem x85 : offOf env.P 146 0 = some (0, 1) := by kernel_rfl
theorem x8b : fieldOff env.P 146 1 = some (1, 3) := by kernel_rfl
theorem x87 : offOf env.P 146 1 = some (1, 1) := by kernel_rfl
theorem x8g : fieldOff env.P 146 2 = some (2, 60) := by kernel_rfl
theorem x8f : offOf env.P 146 2 = some (2, 1) := by kernel_rfl
theorem x9x : elemT env.P 146 = none := by kernel_rfl
theorem xas : env.P.cellsOf 146 = 3 := by kernel_rfl
theorem xar : elemOk env.P 146 = true := by kernel_rfl
theorem x9u : isAggT env.P 146 = some true := by kernel_rfl
theorem x6t : zeroA env.P 146 = some (.agg [.d (.int .i64 0), .d (.int .i64 0), .d (.nils)]) := by kernel_rfl
theorem xaq : (env.P.info? 146).isSome = true := by kernel_rfl
theorem xa9 : env.P.underlying 149 = some (.int .u64) := by kernel_rfl
theorem x9v : elemT env.P 149 = none := by kernel_rfl
theorem xav : env.P.cellsOf 149 = 1 := by kernel_rfl
theorem xae : elemOk env.P 149 = true := by kernel_rfl
theorem x9w : isAggT env.P 149 = some false := by kernel_rfl
theorem xa5 : zeroA env.P 149 = some (.d (.int .u64 0)) := by kernel_rfl
theorem xa1 : (env.P.info? 149).isSome = true := by kernel_rfl
theorem xj1 : env.P.underlying 153 = some (.pointer 3) := by kernel_rfl
theorem xhe : elemT env.P 153 = none := by kernel_rfl
theorem xib : env.P.cellsOf 153 = 1 := by kernel_rfl
theorem xj4 : elemOk env.P 153 = true := by kernel_rfl
theorem xhv : isAggT env.P 153 = some false := by kernel_rfl
theorem xjg : zeroA env.P 153 = some (.d (.nilp)) := by kernel_rfl
theorem xih : (env.P.info? 153).isSome = true := by kernel_rfl
theorem x7z : env.P.underlying 156 = some (.pointer 149) := by kernel_rfl
theorem x7c : elemT env.P 156 = none := by kernel_rfl
theorem x7y : env.P.cellsOf 156 = 1 := by kernel_rfl
theorem x7i : elemOk env.P 156 = true := by kernel_rfl
theorem x7b : isAggT env.P 156 = some false := by kernel_rfl
theorem x7o : zeroA env.P 156 = some (.d (.nilp)) := by kernel_rfl
theorem x7q : (env.P.info? 156).isSome = true := by kernel_rfl
theorem x2j : structOK env.P 158 = true := by kernel_rfl
theorem x3h : fieldOff env.P 158 0 = some (0, 3) := by kernel_rfl
theorem x3k : offOf env.P 158 0 = some (0, 1) := by kernel_rfl
theorem x3f : fieldOff env.P 158 1 = some (1, 3) := by kernel_rfl
theorem x3i : offOf env.P 158 1 = some (1, 1) := by kernel_rfl
theorem x3g : fieldOff env.P 158 2 = some (2, 3) := by kernel_rfl
theorem x3j : offOf env.P 158 2 = some (2, 1) := by kernel_rfl
theorem x3x : elemT env.P 158 = none := by kernel_rfl
theorem x4d : env.P.cellsOf 158 = 3 := by kernel_rfl
theorem x4b : elemOk env.P 158 = true := by kernel_rfl
theorem x3v : isAggT env.P 158 = some true := by kernel_rfl
theorem x2l : zeroA env.P 158 = some (.agg [.d (.int .i64 0), .d (.int .i64 0), .d (.int .i64 0)]) := by kernel_rfl
theorem x48 : (env.P.info? 158).isSome = true := by kernel_rfl
theorem xa4 : structOK env.P 159 = true := by kernel_rfl
theorem xdc : fieldOff env.P 159 0 = some (0, 3) := by kernel_rfl
theorem xd1 : offOf env.P 159 0 = some (0, 1) := by kernel_rfl
theorem xd2 : fieldOff env.P 159 1 = some (1, 3) := by kernel_rfl
theorem xdg : offOf env.P 159 1 = some (1, 1) := by kernel_rfl
theorem xda : fieldOff env.P 159 2 = some (2, 3) := by kernel_rfl
theorem xdh : offOf env.P 159 2 = some (2, 1) := by kernel_rfl
theorem xfd : elemT env.P 159 = none := by kernel_rfl
theorem xg6 : env.P.cellsOf 159 = 3 := by kernel_rfl
theorem xgd : elemOk env.P 159 = true := by kernel_rfl
theorem xfe : isAggT env.P 159 = some true := by kernel_rfl
theorem xby : zeroA env.P 159 = some (.agg [.d (.int .i64 0), .d (.int .i64 0), .d (.int .i64 0)]) := by kernel_rfl
theorem xfz : (env.P.info? 159).isSome = true := by kernel_rfl
theorem xgu : env.P.underlying 170 = some (.pointer 5) := by kernel_rfl
theorem xfg : elemT env.P 170 = none := by kernel_rfl
theorem xgk : env.P.cellsOf 170 = 1 := by kernel_rfl
theorem xgt : elemOk env.P 170 = true := by kernel_rfl
theorem xf4 : isAggT env.P 170 = some false := by kernel_rfl
theorem xg2 : zeroA env.P 170 = some (.d (.nilp)) := by kernel_rfl
theorem xgh : (env.P.info? 170).isSome = true := by kernel_rfl
theorem xat : elemT env.P 175 = none := by kernel_rfl
theorem xba : env.P.cellsOf 175 = 1 := by kernel_rfl
theorem xbq : elemOk env.P 175 = true := by kernel_rfl
theorem xaj : isAggT env.P 175 = some false := by kernel_rfl
theorem xbm : zeroA env.P 175 = some (.d (.nilp)) := by kernel_rfl
theorem xb8 : (env.P.info? 175).isSome = true := by kernel_rfl
theorem x4u : ∀ parts, aBuild env.P 13 parts = (fillA (cellsA (.agg [.d (.str []), .d (.int .u64 0)])) (parts.map fun p => (offOf env.P 13 p.1, p.2))).map .agg := fun _ => aBuild_struct x2s x2z
theorem x27 : ∀ parts, aBuild env.P 25 parts = (fillA (cellsA (.agg [.d (.int .i64 0), .d (.nils), .d (.nils)])) (parts.map fun p => (offOf env.P 25 p.1, p.2))).map .agg := fun _ => aBuild_struct x18 x1a
theorem xaf : ∀ parts, aBuild env.P 26 parts = (fillA (cellsA (.agg [.d (.int .i64 0), .d (.nils), .d (.nils)])) (parts.map fun p => (offOf env.P 26 p.1, p.2))).map .agg := fun _ => aBuild_struct x6u x74
theorem xan : ∀ parts, aBuild env.P 38 parts = (fillA (cellsA (.agg [.d (.int .i64 0), .d (.nils), .d (.nils)])) (parts.map fun p => (offOf env.P 38 p.1, p.2))).map .agg := fun _ => aBuild_struct x6r x73
theorem xho : ∀ parts, aBuild env.P 62 parts = (fillA (cellsA (.agg [.d (.int .i64 0), .d (.int .i64 0), .d (.int .i64 0), .d (.int .i64 0), .d (.int .i64 0), .d (.int .i64 0)])) (parts.map fun p => (some (p.1 * 1, 1), p.2))).map .agg := fun _ => aBuild_array xdz xef xkr xks
theorem x6a : ∀ parts, aBuild env.P 81 parts = (fillA (cellsA (.agg [.d (.nils), .d (.int .i64 0)])) (parts.map fun p => (offOf env.P 81 p.1, p.2))).map .agg := fun _ => aBuild_struct x3y x4f
theorem xea : ∀ parts, aBuild env.P 82 parts = (fillA (cellsA (.agg [.d (.nils), .d (.int .i64 0)])) (parts.map fun p => (offOf env.P 82 p.1, p.2))).map .agg := fun _ => aBuild_struct x9m xap
theorem xq : ∀ parts, aBuild env.P 93 parts = (fillA (cellsA (.agg [.d (.nils), .d (.nils), .d (.nils), .d (.int .i64 0), .d (.int .i64 0), .d (.int .i64 0)])) (parts.map fun p => (offOf env.P 93 p.1, p.2))).map .agg := fun _ => aBuild_struct x8 xb
theorem xe1 : ∀ parts, aBuild env.P 94 parts = (fillA (cellsA (.agg [.d (.nils), .d (.nils), .d (.nils), .d (.int .i64 0), .d (.int .i64 0), .d (.int .i64 0)])) (parts.map fun p => (offOf env.P 94 p.1, p.2))).map .agg := fun _ => aBuild_struct x9k xai
theorem x2a : ∀ parts, aBuild env.P 139 parts = (fillA (cellsA (.agg [.d (.int .i64 0), .d (.int .i64 0), .d (.nils)])) (parts.map fun p => (offOf env.P 139 p.1, p.2))).map .agg := fun _ => aBuild_struct x17 x19
theorem xd3 : ∀ parts, aBuild env.P 140 parts = (fillA (cellsA (.agg [.d (.int .i64 0), .d (.int .i64 0), .d (.nils)])) (parts.map fun p => (offOf env.P 140 p.1, p.2))).map .agg := fun _ => aBuild_struct x8m x9j
theorem x2w : ∀ parts, aBuild env.P 145 parts = (fillA (cellsA (.agg [.d (.int .i64 0), .d (.int .i64 0), .d (.nils)])) (parts.map fun p => (offOf env.P 145 p.1, p.2))).map .agg := fun _ => aBuild_struct x1k x1m
theorem x9t : ∀ parts, aBuild env.P 146 parts = (fillA (cellsA (.agg [.d (.int .i64 0), .d (.int .i64 0), .d (.nils)])) (parts.map fun p => (offOf env.P 146 p.1, p.2))).map .agg := fun _ => aBuild_struct x6o x6t
theorem x3w : ∀ parts, aBuild env.P 158 parts = (fillA (cellsA (.agg [.d (.int .i64 0), .d (.int .i64 0), .d (.int .i64 0)])) (parts.map fun p => (offOf env.P 158 p.1, p.2))).map .agg := fun _ => aBuild_struct x2j x2l
theorem xfl : ∀ parts, aBuild env.P 159 parts = (fillA (cellsA (.agg [.d (.int .i64 0), .d (.int .i64 0), .d (.int .i64 0)])) (parts.map fun p => (offOf env.P 159 p.1, p.2))).map .agg := fun _ => aBuild_struct xa4 xby
theorem xhs {h : H} {n : Int} {K : IntKind} : aConvert env.P h 3 3 (.d (.int K n)) = some (.d (.int .i64 (IntKind.wrap .i64 n)), h) := aConv_int x7v x7v
theorem xer {h : H} {n : Int} {K : IntKind} : aConvert env.P h 3 5 (.d (.int K n)) = some (.d (.int .u8 (IntKind.wrap .u8 n)), h) := aConv_int x7v x60
theorem xh1 {h : H} {n : Int} {K : IntKind} : aConvert env.P h 3 103 (.d (.int K n)) = some (.d (.int .u64 (IntKind.wrap .u64 n)), h) := aConv_int x7v x6q
theorem xfb {h : H} {n : Int} {K : IntKind} : aConvert env.P h 5 3 (.d (.int K n)) = some (.d (.int .i64 (IntKind.wrap .i64 n)), h) := aConv_int x60 x7v
theorem xd8 {h : H} {n : Int} {K : IntKind} : aConvert env.P h 5 5 (.d (.int K n)) = some (.d (.int .u8 (IntKind.wrap .u8 n)), h) := aConv_int x60 x60
theorem xe7 {h : H} {n : Int} {K : IntKind} : aConvert env.P h 5 103 (.d (.int K n)) = some (.d (.int .u64 (IntKind.wrap .u64 n)), h) := aConv_int x60 x6q
theorem xg9 {h : H} {n : Int} {K : IntKind} : aConvert env.P h 103 3 (.d (.int K n)) = some (.d (.int .i64 (IntKind.wrap .i64 n)), h) := aConv_int x6q x7v
theorem xdy {h : H} {n : Int} {K : IntKind} : aConvert env.P h 103 5 (.d (.int K n)) = some (.d (.int .u8 (IntKind.wrap .u8 n)), h) := aConv_int x6q x60
theorem xfm {h : H} {n : Int} {K : IntKind} : aConvert env.P h 103 103 (.d (.int K n)) = some (.d (.int .u64 (IntKind.wrap .u64 n)), h) := aConv_int x6q x6q
theorem TY0 : type_of% (And.intro @xll (And.intro @xju (And.intro @xl8 (And.intro @xm1 (And.intro @xkf (And.intro @xld (And.intro @xlg (And.intro @x7v (And.intro @xmq (And.intro @xks (And.intro @xnp (And.intro @xmo (And.intro @xo5 (And.intro @xkr (And.intro @xmm (And.intro @xku (And.intro @xms (And.intro @xmt (And.intro @xlc (And.intro @xn0 (And.intro @xmw (And.intro @x60 (And.intro @xk4 (And.intro @xlp (And.intro @xli (And.intro @xjw (And.intro @xl1 (And.intro @xly (And.intro @xjt (And.intro @xiq (And.intro @xjs (And.intro @xjz (And.intro @xiw (And.intro @xkh (And.intro @xjy (And.intro @xip (And.intro @xi1 (And.intro @xj6 (And.intro @xj0 @xhu))))))))))))))))))))))))))))))))))))))) := (And.intro @xll (And.intro @xju (And.intro @xl8 (And.intro @xm1 (And.intro @xkf (And.intro @xld (And.intro @xlg (And.intro @x7v (And.intro @xmq (And.intro @xks (And.intro @xnp (And.intro @xmo (And.intro @xo5 (And.intro @xkr (And.intro @xmm (And.intro @xku (And.intro @xms (And.intro @xmt (And.intro @xlc (And.intro @xn0 (And.intro @xmw (And.intro @x60 (And.intro @xk4 (And.intro @xlp (And.intro @xli (And.intro @xjw (And.intro @xl1 (And.intro @xly (And.intro @xjt (And.intro @xiq (And.intro @xjs (And.intro @xjz (And.intro @xiw (And.intro @xkh (And.intro @xjy (And.intro @xip (And.intro @xi1 (And.intro @xj6 (And.intro @xj0 @xhu)))))))))))))))))))))))))))))))))))))))
theorem TY1 : type_of% (And.intro @xj2 (And.intro @xid (And.intro @x2s (And.intro @x4a (And.intro @x44 (And.intro @x49 (And.intro @x47 (And.intro @x4s (And.intro @x4w (And.intro @x4x (And.intro @x4t (And.intro @x2z (And.intro @x4u (And.intro @x51 (And.intro @xeq (And.intro @xgl (And.intro @xg7 (And.intro @xfj (And.intro @xgi (And.intro @xgf (And.intro @xlr (And.intro @xk0 (And.intro @xln (And.intro @xl7 (And.intro @xk6 (And.intro @xlt (And.intro @xl6 (And.intro @xcu (And.intro @xgj (And.intro @xhi (And.intro @xi7 (And.intro @xg8 (And.intro @xi8 (And.intro @xhp (And.intro @xbw (And.intro @xey (And.intro @xgc (And.intro @xg5 (And.intro @xev @xg0))))))))))))))))))))))))))))))))))))))) := (And.intro @xj2 (And.intro @xid (And.intro @x2s (And.intro @x4a (And.intro @x44 (And.intro @x49 (And.intro @x47 (And.intro @x4s (And.intro @x4w (And.intro @x4x (And.intro @x4t (And.intro @x2z (And.intro @x4u (And.intro @x51 (And.intro @xeq (And.intro @xgl (And.intro @xg7 (And.intro @xfj (And.intro @xgi (And.intro @xgf (And.intro @xlr (And.intro @xk0 (And.intro @xln (And.intro @xl7 (And.intro @xk6 (And.intro @xlt (And.intro @xl6 (And.intro @xcu (And.intro @xgj (And.intro @xhi (And.intro @xi7 (And.intro @xg8 (And.intro @xi8 (And.intro @xhp (And.intro @xbw (And.intro @xey (And.intro @xgc (And.intro @xg5 (And.intro @xev @xg0)))))))))))))))))))))))))))))))))))))))
theorem TY2 : type_of% (And.intro @xgw (And.intro @xed (And.intro @xhz (And.intro @xie (And.intro @xje (And.intro @xhy (And.intro @xiv (And.intro @xin (And.intro @x18 (And.intro @x1s (And.intro @x1w (And.intro @x21 (And.intro @x1x (And.intro @x1u (And.intro @x1r (And.intro @x2b (And.intro @x2i (And.intro @x2e (And.intro @x29 (And.intro @x1a (And.intro @x27 (And.intro @x2d (And.intro @x6u (And.intro @x9a (And.intro @x9f (And.intro @x9c (And.intro @x96 (And.intro @x9g (And.intro @x8q (And.intro @xal (And.intro @xbs (And.intro @xbh (And.intro @xam (And.intro @x74 (And.intro @xaf (And.intro @xbk (And.intro @x6r (And.intro @x93 (And.intro @x8v @x97))))))))))))))))))))))))))))))))))))))) := (And.intro @xgw (And.intro @xed (And.intro @xhz (And.intro @xie (And.intro @xje (And.intro @xhy (And.intro @xiv (And.intro @xin (And.intro @x18 (And.intro @x1s (And.intro @x1w (And.intro @x21 (And.intro @x1x (And.intro @x1u (And.intro @x1r (And.intro @x2b (And.intro @x2i (And.intro @x2e (And.intro @x29 (And.intro @x1a (And.intro @x27 (And.intro @x2d (And.intro @x6u (And.intro @x9a (And.intro @x9f (And.intro @x9c (And.intro @x96 (And.intro @x9g (And.intro @x8q (And.intro @xal (And.intro @xbs (And.intro @xbh (And.intro @xam (And.intro @x74 (And.intro @xaf (And.intro @xbk (And.intro @x6r (And.intro @x93 (And.intro @x8v @x97)))))))))))))))))))))))))))))))))))))))
theorem TY3 : type_of% (And.intro @x8t (And.intro @x90 (And.intro @x8w (And.intro @xau (And.intro @xbe (And.intro @xb4 (And.intro @xay (And.intro @x73 (And.intro @xan (And.intro @xbt (And.intro @xbz (And.intro @xez (And.intro @xgx (And.intro @xgm (And.intro @xfk (And.intro @xge (And.intro @xgq (And.intro @xbf (And.intro @xab (And.intro @xbi (And.intro @xbj (And.intro @xaw (And.intro @xb1 (And.intro @xb0 (And.intro @xak (And.intro @xdx (And.intro @xf2 (And.intro @xf9 (And.intro @xdv (And.intro @xff (And.intro @xfa (And.intro @xfv (And.intro @xit (And.intro @xk7 (And.intro @xk9 (And.intro @xiy (And.intro @xkj (And.intro @xkn (And.intro @xdz @xhn))))))))))))))))))))))))))))))))))))))) := (And.intro @x8t (And.intro @x90 (And.intro @x8w (And.intro @xau (And.intro @xbe (And.intro @xb4 (And.intro @xay (And.intro @x73 (And.intro @xan (And.intro @xbt (And.intro @xbz (And.intro @xez (And.intro @xgx (And.intro @xgm (And.intro @xfk (And.intro @xge (And.intro @xgq (And.intro @xbf (And.intro @xab (And.intro @xbi (And.intro @xbj (And.intro @xaw (And.intro @xb1 (And.intro @xb0 (And.intro @xak (And.intro @xdx (And.intro @xf2 (And.intro @xf9 (And.intro @xdv (And.intro @xff (And.intro @xfa (And.intro @xfv (And.intro @xit (And.intro @xk7 (And.intro @xk9 (And.intro @xiy (And.intro @xkj (And.intro @xkn (And.intro @xdz @xhn)))))))))))))))))))))))))))))))))))))))
theorem TY4 : type_of% (And.intro @xix (And.intro @xim (And.intro @xhh (And.intro @xef (And.intro @xho (And.intro @xig (And.intro @x3y (And.intro @x5q (And.intro @x5r (And.intro @x5p (And.intro @x5s (And.intro @x69 (And.intro @x6h (And.intro @x6m (And.intro @x6b (And.intro @x4f (And.intro @x6a (And.intro @x6k (And.intro @x9m (And.intro @xcn (And.intro @xc6 (And.intro @xcf (And.intro @xcg (And.intro @xej (And.intro @xeu (And.intro @xf6 (And.intro @xee (And.intro @xap (And.intro @xea (And.intro @xfn (And.intro @x64 (And.intro @x8a (And.intro @x8r (And.intro @x98 (And.intro @x88 (And.intro @x9d (And.intro @x8o (And.intro @x72 (And.intro @xag @xbn))))))))))))))))))))))))))))))))))))))) := (And.intro @xix (And.intro @xim (And.intro @xhh (And.intro @xef (And.intro @xho (And.intro @xig (And.intro @x3y (And.intro @x5q (And.intro @x5r (And.intro @x5p (And.intro @x5s (And.intro @x69 (And.intro @x6h (And.intro @x6m (And.intro @x6b (And.intro @x4f (And.intro @x6a (And.intro @x6k (And.intro @x9m (And.intro @xcn (And.intro @xc6 (And.intro @xcf (And.intro @xcg (And.intro @xej (And.intro @xeu (And.intro @xf6 (And.intro @xee (And.intro @xap (And.intro @xea (And.intro @xfn (And.intro @x64 (And.intro @x8a (And.intro @x8r (And.intro @x98 (And.intro @x88 (And.intro @x9d (And.intro @x8o (And.intro @x72 (And.intro @xag @xbn)))))))))))))))))))))))))))))))))))))))
theorem TY5 : type_of% (And.intro @xb7 (And.intro @x9z (And.intro @xb2 (And.intro @xbg (And.intro @x8 (And.intro @xl (And.intro @xi (And.intro @xk (And.intro @xh (And.intro @xg (And.intro @xj (And.intro @xd (And.intro @xn (And.intro @xp (And.intro @xe (And.intro @xm (And.intro @xf (And.intro @xr (And.intro @xw (And.intro @xu (And.intro @xt (And.intro @xb (And.intro @xq (And.intro @xx (And.intro @x9k (And.intro @xca (And.intro @xck (And.intro @xc7 (And.intro @xcb (And.intro @xcl (And.intro @xce (And.intro @xc8 (And.intro @xcq (And.intro @xci (And.intro @xcd (And.intro @xcc (And.intro @xc5 (And.intro @xec (And.intro @xet @xex))))))))))))))))))))))))))))))))))))))) := (And.intro @xb7 (And.intro @x9z (And.intro @xb2 (And.intro @xbg (And.intro @x8 (And.intro @xl (And.intro @xi (And.intro @xk (And.intro @xh (And.intro @xg (And.intro @xj (And.intro @xd (And.intro @xn (And.intro @xp (And.intro @xe (And.intro @xm (And.intro @xf (And.intro @xr (And.intro @xw (And.intro @xu (And.intro @xt (And.intro @xb (And.intro @xq (And.intro @xx (And.intro @x9k (And.intro @xca (And.intro @xck (And.intro @xc7 (And.intro @xcb (And.intro @xcl (And.intro @xce (And.intro @xc8 (And.intro @xcq (And.intro @xci (And.intro @xcd (And.intro @xcc (And.intro @xc5 (And.intro @xec (And.intro @xet @xex)))))))))))))))))))))))))))))))))))))))
theorem TY6 : type_of% (And.intro @xe2 (And.intro @xai (And.intro @xe1 (And.intro @xf1 (And.intro @x6q (And.intro @xlk (And.intro @xmn (And.intro @xn3 (And.intro @xlq (And.intro @xmx (And.intro @xn2 (And.intro @x8l (And.intro @xc3 (And.intro @xdb (And.intro @xdm (And.intro @xc9 (And.intro @xd6 (And.intro @xcz (And.intro @x9e (And.intro @x86 (And.intro @x8z (And.intro @x8n (And.intro @x8e (And.intro @x99 (And.intro @x8s (And.intro @xkl (And.intro @xik (And.intro @xk1 (And.intro @xjv (And.intro @xij (And.intro @xk3 (And.intro @xkb (And.intro @xki (And.intro @xj3 (And.intro @xkc (And.intro @xkm (And.intro @xjf (And.intro @xko (And.intro @xka @x8k))))))))))))))))))))))))))))))))))))))) := (And.intro @xe2 (And.intro @xai (And.intro @xe1 (And.intro @xf1 (And.intro @x6q (And.intro @xlk (And.intro @xmn (And.intro @xn3 (And.intro @xlq (And.intro @xmx (And.intro @xn2 (And.intro @x8l (And.intro @xc3 (And.intro @xdb (And.intro @xdm (And.intro @xc9 (And.intro @xd6 (And.intro @xcz (And.intro @x9e (And.intro @x86 (And.intro @x8z (And.intro @x8n (And.intro @x8e (And.intro @x99 (And.intro @x8s (And.intro @xkl (And.intro @xik (And.intro @xk1 (And.intro @xjv (And.intro @xij (And.intro @xk3 (And.intro @xkb (And.intro @xki (And.intro @xj3 (And.intro @xkc (And.intro @xkm (And.intro @xjf (And.intro @xko (And.intro @xka @x8k)))))))))))))))))))))))))))))))))))))))
theorem TY7 : type_of% (And.intro @xco (And.intro @xdk (And.intro @xd0 (And.intro @xcp (And.intro @xd9 (And.intro @xd7 (And.intro @x17 (And.intro @x1z (And.intro @x1v (And.intro @x1t (And.intro @x1q (And.intro @x1y (And.intro @x20 (And.intro @x28 (And.intro @x2g (And.intro @x2f (And.intro @x2c (And.intro @x19 (And.intro @x2a (And.intro @x2h (And.intro @x8m (And.intro @xbo (And.intro @xb6 (And.intro @xbp (And.intro @xb5 (And.intro @xaz (And.intro @xbl (And.intro @xdl (And.intro @xe6 (And.intro @xdt (And.intro @xd4 (And.intro @x9j (And.intro @xd3 (And.intro @xe0 (And.intro @x5t (And.intro @x7w (And.intro @x8i (And.intro @x8d (And.intro @x7f @x8h))))))))))))))))))))))))))))))))))))))) := (And.intro @xco (And.intro @xdk (And.intro @xd0 (And.intro @xcp (And.intro @xd9 (And.intro @xd7 (And.intro @x17 (And.intro @x1z (And.intro @x1v (And.intro @x1t (And.intro @x1q (And.intro @x1y (And.intro @x20 (And.intro @x28 (And.intro @x2g (And.intro @x2f (And.intro @x2c (And.intro @x19 (And.intro @x2a (And.intro @x2h (And.intro @x8m (And.intro @xbo (And.intro @xb6 (And.intro @xbp (And.intro @xb5 (And.intro @xaz (And.intro @xbl (And.intro @xdl (And.intro @xe6 (And.intro @xdt (And.intro @xd4 (And.intro @x9j (And.intro @xd3 (And.intro @xe0 (And.intro @x5t (And.intro @x7w (And.intro @x8i (And.intro @x8d (And.intro @x7f @x8h)))))))))))))))))))))))))))))))))))))))
theorem TY8 : type_of% (And.intro @x89 (And.intro @x1k (And.intro @x2p (And.intro @x2r (And.intro @x2m (And.intro @x2n (And.intro @x2q (And.intro @x2o (And.intro @x2v (And.intro @x32 (And.intro @x30 (And.intro @x2x (And.intro @x1m (And.intro @x2w (And.intro @x31 (And.intro @x6o (And.intro @x8c (And.intro @x85 (And.intro @x8b (And.intro @x87 (And.intro @x8g (And.intro @x8f (And.intro @x9x (And.intro @xas (And.intro @xar (And.intro @x9u (And.intro @x6t (And.intro @x9t (And.intro @xaq (And.intro @xa9 (And.intro @x9v (And.intro @xav (And.intro @xae (And.intro @x9w (And.intro @xa5 (And.intro @xa1 (And.intro @xj1 (And.intro @xhe (And.intro @xib @xj4))))))))))))))))))))))))))))))))))))))) := (And.intro @x89 (And.intro @x1k (And.intro @x2p (And.intro @x2r (And.intro @x2m (And.intro @x2n (And.intro @x2q (And.intro @x2o (And.intro @x2v (And.intro @x32 (And.intro @x30 (And.intro @x2x (And.intro @x1m (And.intro @x2w (And.intro @x31 (And.intro @x6o (And.intro @x8c (And.intro @x85 (And.intro @x8b (And.intro @x87 (And.intro @x8g (And.intro @x8f (And.intro @x9x (And.intro @xas (And.intro @xar (And.intro @x9u (And.intro @x6t (And.intro @x9t (And.intro @xaq (And.intro @xa9 (And.intro @x9v (And.intro @xav (And.intro @xae (And.intro @x9w (And.intro @xa5 (And.intro @xa1 (And.intro @xj1 (And.intro @xhe (And.intro @xib @xj4)))))))))))))))))))))))))))))))))))))))
theorem TY9 : type_of% (And.intro @xhv (And.intro @xjg (And.intro @xih (And.intro @x7z (And.intro @x7c (And.intro @x7y (And.intro @x7i (And.intro @x7b (And.intro @x7o (And.intro @x7q (And.intro @x2j (And.intro @x3h (And.intro @x3k (And.intro @x3f (And.intro @x3i (And.intro @x3g (And.intro @x3j (And.intro @x3x (And.intro @x4d (And.intro @x4b (And.intro @x3v (And.intro @x2l (And.intro @x3w (And.intro @x48 (And.intro @xa4 (And.intro @xdc (And.intro @xd1 (And.intro @xd2 (And.intro @xdg (And.intro @xda (And.intro @xdh (And.intro @xfd (And.intro @xg6 (And.intro @xgd (And.intro @xfe (And.intro @xby (And.intro @xfl (And.intro @xfz (And.intro @xgu @xfg))))))))))))))))))))))))))))))))))))))) := (And.intro @xhv (And.intro @xjg (And.intro @xih (And.intro @x7z (And.intro @x7c (And.intro @x7y (And.intro @x7i (And.intro @x7b (And.intro @x7o (And.intro @x7q (And.intro @x2j (And.intro @x3h (And.intro @x3k (And.intro @x3f (And.intro @x3i (And.intro @x3g (And.intro @x3j (And.intro @x3x (And.intro @x4d (And.intro @x4b (And.intro @x3v (And.intro @x2l (And.intro @x3w (And.intro @x48 (And.intro @xa4 (And.intro @xdc (And.intro @xd1 (And.intro @xd2 (And.intro @xdg (And.intro @xda (And.intro @xdh (And.intro @xfd (And.intro @xg6 (And.intro @xgd (And.intro @xfe (And.intro @xby (And.intro @xfl (And.intro @xfz (And.intro @xgu @xfg)))))))))))))))))))))))))))))))))))))))
theorem TY10 : type_of% (And.intro @xgk (And.intro @xgt (And.intro @xf4 (And.intro @xg2 (And.intro @xgh (And.intro @xat (And.intro @xba (And.intro @xbq (And.intro @xaj (And.intro @xbm (And.intro @xb8 (And.intro @xhs (And.intro @xer (And.intro @xh1 (And.intro @xfb (And.intro @xd8 (And.intro @xe7 (And.intro @xg9 (And.intro @xdy @xfm))))))))))))))))))) := (And.intro @xgk (And.intro @xgt (And.intro @xf4 (And.intro @xg2 (And.intro @xgh (And.intro @xat (And.intro @xba (And.intro @xbq (And.intro @xaj (And.intro @xbm (And.intro @xb8 (And.intro @xhs (And.intro @xer (And.intro @xh1 (And.intro @xfb (And.intro @xd8 (And.intro @xe7 (And.intro @xg9 (And.intro @xdy @xfm)))))))))))))))))))
theorem TY : type_of% (And.intro @TY0 (And.intro @TY1 (And.intro @TY2 (And.intro @TY3 (And.intro @TY4 (And.intro @TY5 (And.intro @TY6 (And.intro @TY7 (And.intro @TY8 (And.intro @TY9 @TY10)))))))))) := (And.intro @TY0 (And.intro @TY1 (And.intro @TY2 (And.intro @TY3 (And.intro @TY4 (And.intro @TY5 (And.intro @TY6 (And.intro @TY7 (And.intro @TY8 (And.intro @TY9 @TY10))))))))))
end Ev
end Go.Proofs.Ytppdfjdfjfoddaa
