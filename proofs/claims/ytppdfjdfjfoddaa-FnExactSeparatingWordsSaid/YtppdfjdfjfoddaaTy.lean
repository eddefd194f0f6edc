/-
  What the types of the program are, as the evaluator asks. Written by a program.
-/
import Derived.Test.YtppdfjdfjfoddaaEnvF
import Derived.Test.YtppdfjdfjfoddaaEvWalk
set_option maxRecDepth 100000
namespace Go.Proofs.Ytppdfjdfjfoddaa
namespace Ev
def offOf (P : Program) (t : TypeId) (i : Nat) : Option (Nat × Nat) := match P.underlying t with
 | some (.struct fields) => (fields.toList[i]?).map fun f => (f.offset, P.cellsOf f.type)
 | _ => none
def structOK (P : Program) (t : TypeId) : Bool := match P.underlying t with
 | some (.struct fields) => fields.toList.all fun f => (P.info? f.type).isSome
 | _ => false
theorem aBuild_struct {P : Program} {t : TypeId} {z : A} {parts : List (Nat × A)} (hs : structOK P t = true) (hz : zeroA P t = some z) : aBuild P t parts = (fillA (cellsA z) (parts.map fun p => (offOf P t p.1, p.2))).map .agg := by
 unfold structOK at hs
 unfold aBuild offOf
 rw [hz]
 cases hu : P.underlying t with
 | none => rw [hu] at hs; cases hs
 | some d =>
  rw [hu] at hs
  cases d <;> first | cases hs | skip
  simp only at hs ⊢
  rw [if_pos hs]
theorem aBuild_array {P : Program} {t e : TypeId} {n c : Nat} {z : A} {parts : List (Nat × A)} (hu : P.underlying t = some (.array n e)) (hz : zeroA P t = some z) (hi : (P.info? e).isSome = true) (hc : P.cellsOf e = c) : aBuild P t parts = (fillA (cellsA z) (parts.map fun p => (some (p.1 * c, c), p.2))).map .agg := by
 unfold aBuild
 rw [hz, hu]
 simp only [hi, if_true, hc]
theorem aConv_int {P : Program} {h : H} {t u : TypeId} {K K1 K2 : IntKind} {n : Int} (h1 : P.underlying t = some (.int K1)) (h2 : P.underlying u = some (.int K2)) : aConvert P h t u (.d (.int K n)) = some (.d (.int K2 (K2.wrap n)), h) := by
 simp only [aConvert, h1, h2]
theorem xqr : env.P.underlying 2 = some (.int .i64) := by kernel_rfl
theorem xog : elemT env.P 2 = none := by kernel_rfl
theorem xq1 : env.P.cellsOf 2 = 1 := by kernel_rfl
theorem xq6 : elemOk env.P 2 = true := by kernel_rfl
theorem xop : isAggT env.P 2 = some false := by kernel_rfl
theorem xrh : zeroA env.P 2 = some (.d (.int .i64 0)) := by kernel_rfl
theorem xq0 : (env.P.info? 2).isSome = true := by kernel_rfl
theorem x8p : env.P.underlying 3 = some (.int .i64) := by kernel_rfl
theorem xsx : elemT env.P 3 = none := by kernel_rfl
theorem xpa : env.P.cellsOf 3 = 1 := by kernel_rfl
theorem xu6 : elemOk env.P 3 = true := by kernel_rfl
theorem xsc : isAggT env.P 3 = some false := by kernel_rfl
theorem xtg : zeroA env.P 3 = some (.d (.int .i64 0)) := by kernel_rfl
theorem xpb : (env.P.info? 3).isSome = true := by kernel_rfl
theorem xss : env.P.underlying 4 = some .bool := by kernel_rfl
theorem xqt : elemT env.P 4 = none := by kernel_rfl
theorem xt3 : env.P.cellsOf 4 = 1 := by kernel_rfl
theorem xsv : elemOk env.P 4 = true := by kernel_rfl
theorem xqm : isAggT env.P 4 = some false := by kernel_rfl
theorem xsh : zeroA env.P 4 = some (.d (.bool false)) := by kernel_rfl
theorem xsq : (env.P.info? 4).isSome = true := by kernel_rfl
theorem x66 : env.P.underlying 5 = some (.int .u8) := by kernel_rfl
theorem xob : elemT env.P 5 = none := by kernel_rfl
theorem xrf : env.P.cellsOf 5 = 1 := by kernel_rfl
theorem xr5 : elemOk env.P 5 = true := by kernel_rfl
theorem xo0 : isAggT env.P 5 = some false := by kernel_rfl
theorem xqg : zeroA env.P 5 = some (.d (.int .u8 0)) := by kernel_rfl
theorem xqn : (env.P.info? 5).isSome = true := by kernel_rfl
theorem xon : env.P.underlying 9 = some .string := by kernel_rfl
theorem xm7 : elemT env.P 9 = none := by kernel_rfl
theorem xnw : env.P.cellsOf 9 = 1 := by kernel_rfl
theorem xos : elemOk env.P 9 = true := by kernel_rfl
theorem xmb : isAggT env.P 9 = some false := by kernel_rfl
theorem xow : zeroA env.P 9 = some (.d (.str [])) := by kernel_rfl
theorem xo9 : (env.P.info? 9).isSome = true := by kernel_rfl
theorem xmu : env.P.underlying 12 = some (.int .u64) := by kernel_rfl
theorem xlk : elemT env.P 12 = none := by kernel_rfl
theorem xmk : env.P.cellsOf 12 = 1 := by kernel_rfl
theorem xme : elemOk env.P 12 = true := by kernel_rfl
theorem xlf : isAggT env.P 12 = some false := by kernel_rfl
theorem xn4 : zeroA env.P 12 = some (.d (.int .u64 0)) := by kernel_rfl
theorem xmm : (env.P.info? 12).isSome = true := by kernel_rfl
theorem x38 : structOK env.P 13 = true := by kernel_rfl
theorem x4y : fieldOff env.P 13 0 = some (0, 9) := by kernel_rfl
theorem x4z : offOf env.P 13 0 = some (0, 1) := by kernel_rfl
theorem x4u : fieldOff env.P 13 1 = some (1, 12) := by kernel_rfl
theorem x4w : offOf env.P 13 1 = some (1, 1) := by kernel_rfl
theorem x5c : elemT env.P 13 = none := by kernel_rfl
theorem x5g : env.P.cellsOf 13 = 2 := by kernel_rfl
theorem x5e : elemOk env.P 13 = true := by kernel_rfl
theorem x5a : isAggT env.P 13 = some true := by kernel_rfl
theorem x3i : zeroA env.P 13 = some (.agg [.d (.str []), .d (.int .u64 0)]) := by kernel_rfl
theorem x5h : (env.P.info? 13).isSome = true := by kernel_rfl
theorem xis : elemT env.P 20 = none := by kernel_rfl
theorem xjn : env.P.cellsOf 20 = 1 := by kernel_rfl
theorem xki : elemOk env.P 20 = true := by kernel_rfl
theorem xii : isAggT env.P 20 = some false := by kernel_rfl
theorem xjr : zeroA env.P 20 = some (.d (.nili)) := by kernel_rfl
theorem xju : (env.P.info? 20).isSome = true := by kernel_rfl
theorem xqh : env.P.underlying 21 = some (.int .i32) := by kernel_rfl
theorem xot : elemT env.P 21 = none := by kernel_rfl
theorem xr4 : env.P.cellsOf 21 = 1 := by kernel_rfl
theorem xr8 : elemOk env.P 21 = true := by kernel_rfl
theorem xov : isAggT env.P 21 = some false := by kernel_rfl
theorem xqf : zeroA env.P 21 = some (.d (.int .i32 0)) := by kernel_rfl
theorem xqc : (env.P.info? 21).isSome = true := by kernel_rfl
theorem xfa : env.P.underlying 22 = some (.slice 5) := by kernel_rfl
theorem xkj : elemT env.P 22 = some 5 := by simp only [elemT, xfa]
theorem xli : env.P.cellsOf 22 = 1 := by kernel_rfl
theorem xl7 : elemOk env.P 22 = true := by kernel_rfl
theorem xji : isAggT env.P 22 = some false := by kernel_rfl
theorem xln : zeroA env.P 22 = some (.d (.nils)) := by kernel_rfl
theorem xl5 : (env.P.info? 22).isSome = true := by kernel_rfl
theorem xdn : env.P.underlying 23 = some (.slice 60) := by kernel_rfl
theorem xie : elemT env.P 23 = some 60 := by simp only [elemT, xdn]
theorem xjv : env.P.cellsOf 23 = 1 := by kernel_rfl
theorem xjy : elemOk env.P 23 = true := by kernel_rfl
theorem xic : isAggT env.P 23 = some false := by kernel_rfl
theorem xjl : zeroA env.P 23 = some (.d (.nils)) := by kernel_rfl
theorem xjx : (env.P.info? 23).isSome = true := by kernel_rfl
theorem xgr : env.P.underlying 24 = some (.slice 4) := by kernel_rfl
theorem xlr : elemT env.P 24 = some 4 := by simp only [elemT, xgr]
theorem xn7 : env.P.cellsOf 24 = 1 := by kernel_rfl
theorem xmh : elemOk env.P 24 = true := by kernel_rfl
theorem xl3 : isAggT env.P 24 = some false := by kernel_rfl
theorem xmg : zeroA env.P 24 = some (.d (.nils)) := by kernel_rfl
theorem xmn : (env.P.info? 24).isSome = true := by kernel_rfl
theorem x1f : structOK env.P 25 = true := by kernel_rfl
theorem x1x : fieldOff env.P 25 0 = some (0, 3) := by kernel_rfl
theorem x26 : offOf env.P 25 0 = some (0, 1) := by kernel_rfl
theorem x21 : fieldOff env.P 25 1 = some (1, 23) := by kernel_rfl
theorem x20 : offOf env.P 25 1 = some (1, 1) := by kernel_rfl
theorem x24 : fieldOff env.P 25 2 = some (2, 24) := by kernel_rfl
theorem x1w : offOf env.P 25 2 = some (2, 1) := by kernel_rfl
theorem x2i : elemT env.P 25 = none := by kernel_rfl
theorem x2s : env.P.cellsOf 25 = 3 := by kernel_rfl
theorem x2u : elemOk env.P 25 = true := by kernel_rfl
theorem x2h : isAggT env.P 25 = some true := by kernel_rfl
theorem x1h : zeroA env.P 25 = some (.agg [.d (.int .i64 0), .d (.nils), .d (.nils)]) := by kernel_rfl
theorem x2t : (env.P.info? 25).isSome = true := by kernel_rfl
theorem x75 : structOK env.P 26 = true := by kernel_rfl
theorem x9s : fieldOff env.P 26 0 = some (0, 3) := by kernel_rfl
theorem xa8 : offOf env.P 26 0 = some (0, 1) := by kernel_rfl
theorem xa1 : fieldOff env.P 26 1 = some (1, 23) := by kernel_rfl
theorem x9m : offOf env.P 26 1 = some (1, 1) := by kernel_rfl
theorem xaa : fieldOff env.P 26 2 = some (2, 24) := by kernel_rfl
theorem xa4 : offOf env.P 26 2 = some (2, 1) := by kernel_rfl
theorem xci : elemT env.P 26 = none := by kernel_rfl
theorem xdb : env.P.cellsOf 26 = 3 := by kernel_rfl
theorem xcy : elemOk env.P 26 = true := by kernel_rfl
theorem xcm : isAggT env.P 26 = some true := by kernel_rfl
theorem x7n : zeroA env.P 26 = some (.agg [.d (.int .i64 0), .d (.nils), .d (.nils)]) := by kernel_rfl
theorem xcx : (env.P.info? 26).isSome = true := by kernel_rfl
theorem x73 : structOK env.P 38 = true := by kernel_rfl
theorem x9k : fieldOff env.P 38 0 = some (0, 3) := by kernel_rfl
theorem x9v : offOf env.P 38 0 = some (0, 1) := by kernel_rfl
theorem xah : fieldOff env.P 38 1 = some (1, 23) := by kernel_rfl
theorem x9o : offOf env.P 38 1 = some (1, 1) := by kernel_rfl
theorem xag : fieldOff env.P 38 2 = some (2, 24) := by kernel_rfl
theorem x9t : offOf env.P 38 2 = some (2, 1) := by kernel_rfl
theorem xc8 : elemT env.P 38 = none := by kernel_rfl
theorem xd0 : env.P.cellsOf 38 = 3 := by kernel_rfl
theorem xdi : elemOk env.P 38 = true := by kernel_rfl
theorem xc4 : isAggT env.P 38 = some true := by kernel_rfl
theorem x7p : zeroA env.P 38 = some (.agg [.d (.int .i64 0), .d (.nils), .d (.nils)]) := by kernel_rfl
theorem xcs : (env.P.info? 38).isSome = true := by kernel_rfl
theorem xdl : env.P.underlying 40 = some (.slice 9) := by kernel_rfl
theorem xi7 : elemT env.P 40 = some 9 := by simp only [elemT, xdl]
theorem xjg : env.P.cellsOf 40 = 1 := by kernel_rfl
theorem xjs : elemOk env.P 40 = true := by kernel_rfl
theorem xiw : isAggT env.P 40 = some false := by kernel_rfl
theorem xk1 : zeroA env.P 40 = some (.d (.nils)) := by kernel_rfl
theorem xkg : (env.P.info? 40).isSome = true := by kernel_rfl
theorem xcz : env.P.underlying 50 = some (.pointer 82) := by kernel_rfl
theorem xbu : elemT env.P 50 = none := by kernel_rfl
theorem xd7 : env.P.cellsOf 50 = 1 := by kernel_rfl
theorem xd9 : elemOk env.P 50 = true := by kernel_rfl
theorem xbv : isAggT env.P 50 = some false := by kernel_rfl
theorem xdf : zeroA env.P 50 = some (.d (.nilp)) := by kernel_rfl
theorem xcu : (env.P.info? 50).isSome = true := by kernel_rfl
theorem xbj : env.P.underlying 56 = some (.slice 62) := by kernel_rfl
theorem xh5 : elemT env.P 56 = some 62 := by simp only [elemT, xbj]
theorem xin : env.P.cellsOf 56 = 1 := by kernel_rfl
theorem xiv : elemOk env.P 56 = true := by kernel_rfl
theorem xgy : isAggT env.P 56 = some false := by kernel_rfl
theorem xip : zeroA env.P 56 = some (.d (.nils)) := by kernel_rfl
theorem xia : (env.P.info? 56).isSome = true := by kernel_rfl
theorem xj6 : env.P.underlying 60 = some (.slice 3) := by kernel_rfl
theorem xn3 : elemT env.P 60 = some 3 := by simp only [elemT, xj6]
theorem xoo : env.P.cellsOf 60 = 1 := by kernel_rfl
theorem xnv : elemOk env.P 60 = true := by kernel_rfl
theorem xmq : isAggT env.P 60 = some false := by kernel_rfl
theorem xoa : zeroA env.P 60 = some (.d (.nils)) := by kernel_rfl
theorem xnu : (env.P.info? 60).isSome = true := by kernel_rfl
theorem xho : env.P.underlying 62 = some (.array 6 3) := by kernel_rfl
theorem xlh : elemT env.P 62 = none := by kernel_rfl
theorem xnb : env.P.cellsOf 62 = 6 := by kernel_rfl
theorem xmy : elemOk env.P 62 = true := by kernel_rfl
theorem xlq : isAggT env.P 62 = some true := by kernel_rfl
theorem xi1 : zeroA env.P 62 = some (.agg [.d (.int .i64 0), .d (.int .i64 0), .d (.int .i64 0), .d (.int .i64 0), .d (.int .i64 0), .d (.int .i64 0)]) := by kernel_rfl
theorem xmt : (env.P.info? 62).isSome = true := by kernel_rfl
theorem x4p : structOK env.P 81 = true := by kernel_rfl
theorem x5w : fieldOff env.P 81 0 = some (0, 22) := by kernel_rfl
theorem x5x : offOf env.P 81 0 = some (0, 1) := by kernel_rfl
theorem x5z : fieldOff env.P 81 1 = some (1, 3) := by kernel_rfl
theorem x60 : offOf env.P 81 1 = some (1, 1) := by kernel_rfl
theorem x6g : elemT env.P 81 = none := by kernel_rfl
theorem x6q : env.P.cellsOf 81 = 2 := by kernel_rfl
theorem x6u : elemOk env.P 81 = true := by kernel_rfl
theorem x6f : isAggT env.P 81 = some true := by kernel_rfl
theorem x51 : zeroA env.P 81 = some (.agg [.d (.nils), .d (.int .i64 0)]) := by kernel_rfl
theorem x6t : (env.P.info? 81).isSome = true := by kernel_rfl
theorem xaw : structOK env.P 82 = true := by kernel_rfl
theorem xeh : fieldOff env.P 82 0 = some (0, 22) := by kernel_rfl
theorem xew : offOf env.P 82 0 = some (0, 1) := by kernel_rfl
theorem xeo : fieldOff env.P 82 1 = some (1, 3) := by kernel_rfl
theorem xea : offOf env.P 82 1 = some (1, 1) := by kernel_rfl
theorem xgz : elemT env.P 82 = none := by kernel_rfl
theorem xid : env.P.cellsOf 82 = 2 := by kernel_rfl
theorem xi8 : elemOk env.P 82 = true := by kernel_rfl
theorem xhb : isAggT env.P 82 = some true := by kernel_rfl
theorem xbw : zeroA env.P 82 = some (.agg [.d (.nils), .d (.int .i64 0)]) := by kernel_rfl
theorem xi5 : (env.P.info? 82).isSome = true := by kernel_rfl
theorem x6a : env.P.underlying 91 = some (.slice 26) := by kernel_rfl
theorem x9c : elemT env.P 91 = some 26 := by simp only [elemT, x6a]
theorem xa2 : env.P.cellsOf 91 = 1 := by kernel_rfl
theorem xad : elemOk env.P 91 = true := by kernel_rfl
theorem x96 : isAggT env.P 91 = some false := by kernel_rfl
theorem x9z : zeroA env.P 91 = some (.d (.nils)) := by kernel_rfl
theorem x9y : (env.P.info? 91).isSome = true := by kernel_rfl
theorem x7q : env.P.underlying 92 = some (.slice 140) := by kernel_rfl
theorem xce : elemT env.P 92 = some 140 := by simp only [elemT, x7q]
theorem xdd : env.P.cellsOf 92 = 1 := by kernel_rfl
theorem xdg : elemOk env.P 92 = true := by kernel_rfl
theorem xc7 : isAggT env.P 92 = some false := by kernel_rfl
theorem xdh : zeroA env.P 92 = some (.d (.nils)) := by kernel_rfl
theorem xd6 : (env.P.info? 92).isSome = true := by kernel_rfl
theorem x3 : structOK env.P 93 = true := by kernel_rfl
theorem xh : fieldOff env.P 93 0 = some (0, 92) := by kernel_rfl
theorem xc : offOf env.P 93 0 = some (0, 1) := by kernel_rfl
theorem xf : fieldOff env.P 93 1 = some (1, 91) := by kernel_rfl
theorem xl : offOf env.P 93 1 = some (1, 1) := by kernel_rfl
theorem xe : fieldOff env.P 93 2 = some (2, 60) := by kernel_rfl
theorem xj : offOf env.P 93 2 = some (2, 1) := by kernel_rfl
theorem xg : fieldOff env.P 93 3 = some (3, 3) := by kernel_rfl
theorem xn : offOf env.P 93 3 = some (3, 1) := by kernel_rfl
theorem xb : fieldOff env.P 93 4 = some (4, 3) := by kernel_rfl
theorem xk : offOf env.P 93 4 = some (4, 1) := by kernel_rfl
theorem xd : fieldOff env.P 93 5 = some (5, 3) := by kernel_rfl
theorem xi : offOf env.P 93 5 = some (5, 1) := by kernel_rfl
theorem xp : elemT env.P 93 = none := by kernel_rfl
theorem xw : env.P.cellsOf 93 = 6 := by kernel_rfl
theorem xt : elemOk env.P 93 = true := by kernel_rfl
theorem xr : isAggT env.P 93 = some true := by kernel_rfl
theorem x4 : zeroA env.P 93 = some (.agg [.d (.nils), .d (.nils), .d (.nils), .d (.int .i64 0), .d (.int .i64 0), .d (.int .i64 0)]) := by kernel_rfl
theorem xu : (env.P.info? 93).isSome = true := by kernel_rfl
theorem xao : structOK env.P 94 = true := by kernel_rfl
theorem xez : fieldOff env.P 94 0 = some (0, 92) := by kernel_rfl
theorem xf1 : offOf env.P 94 0 = some (0, 1) := by kernel_rfl
theorem xej : fieldOff env.P 94 1 = some (1, 91) := by kernel_rfl
theorem xeq : offOf env.P 94 1 = some (1, 1) := by kernel_rfl
theorem xf2 : fieldOff env.P 94 2 = some (2, 60) := by kernel_rfl
theorem xed : offOf env.P 94 2 = some (2, 1) := by kernel_rfl
theorem xey : fieldOff env.P 94 3 = some (3, 3) := by kernel_rfl
theorem xf0 : offOf env.P 94 3 = some (3, 1) := by kernel_rfl
theorem xev : fieldOff env.P 94 4 = some (4, 3) := by kernel_rfl
theorem xei : offOf env.P 94 4 = some (4, 1) := by kernel_rfl
theorem xel : fieldOff env.P 94 5 = some (5, 3) := by kernel_rfl
theorem xen : offOf env.P 94 5 = some (5, 1) := by kernel_rfl
theorem xh3 : elemT env.P 94 = none := by kernel_rfl
theorem xih : env.P.cellsOf 94 = 6 := by kernel_rfl
theorem xik : elemOk env.P 94 = true := by kernel_rfl
theorem xgp : isAggT env.P 94 = some true := by kernel_rfl
theorem xcb : zeroA env.P 94 = some (.agg [.d (.nils), .d (.nils), .d (.nils), .d (.int .i64 0), .d (.int .i64 0), .d (.int .i64 0)]) := by kernel_rfl
theorem xi9 : (env.P.info? 94).isSome = true := by kernel_rfl
theorem x6x : env.P.underlying 103 = some (.int .u64) := by kernel_rfl
theorem xqa : elemT env.P 103 = none := by kernel_rfl
theorem xso : env.P.cellsOf 103 = 1 := by kernel_rfl
theorem xt0 : elemOk env.P 103 = true := by kernel_rfl
theorem xqy : isAggT env.P 103 = some false := by kernel_rfl
theorem xt1 : zeroA env.P 103 = some (.d (.int .u64 0)) := by kernel_rfl
theorem xsm : (env.P.info? 103).isSome = true := by kernel_rfl
theorem x9i : env.P.underlying 110 = some (.slice 23) := by kernel_rfl
theorem xek : elemT env.P 110 = some 23 := by simp only [elemT, x9i]
theorem xfp : env.P.cellsOf 110 = 1 := by kernel_rfl
theorem xgc : elemOk env.P 110 = true := by kernel_rfl
theorem xee : isAggT env.P 110 = some false := by kernel_rfl
theorem xfz : zeroA env.P 110 = some (.d (.nils)) := by kernel_rfl
theorem xga : (env.P.info? 110).isSome = true := by kernel_rfl
theorem x9n : env.P.underlying 121 = some (.int .i64) := by kernel_rfl
theorem x9d : elemT env.P 121 = none := by kernel_rfl
theorem xae : env.P.cellsOf 121 = 1 := by kernel_rfl
theorem xa6 : elemOk env.P 121 = true := by kernel_rfl
theorem x95 : isAggT env.P 121 = some false := by kernel_rfl
theorem x9p : zeroA env.P 121 = some (.d (.int .i64 0)) := by kernel_rfl
theorem xa3 : (env.P.info? 121).isSome = true := by kernel_rfl
theorem xnx : env.P.underlying 129 = some (.int .u32) := by kernel_rfl
theorem xmj : elemT env.P 129 = none := by kernel_rfl
theorem xo3 : env.P.cellsOf 129 = 1 := by kernel_rfl
theorem xny : elemOk env.P 129 = true := by kernel_rfl
theorem xn0 : isAggT env.P 129 = some false := by kernel_rfl
theorem xo8 : zeroA env.P 129 = some (.d (.int .u32 0)) := by kernel_rfl
theorem xoe : (env.P.info? 129).isSome = true := by kernel_rfl
theorem xof : env.P.underlying 131 = some (.int .u64) := by kernel_rfl
theorem xne : elemT env.P 131 = none := by kernel_rfl
theorem xod : env.P.cellsOf 131 = 1 := by kernel_rfl
theorem xoc : elemOk env.P 131 = true := by kernel_rfl
theorem xmf : isAggT env.P 131 = some false := by kernel_rfl
theorem xol : zeroA env.P 131 = some (.d (.int .u64 0)) := by kernel_rfl
theorem xoj : (env.P.info? 131).isSome = true := by kernel_rfl
theorem x9h : env.P.underlying 138 = some (.slice 159) := by kernel_rfl
theorem xes : elemT env.P 138 = some 159 := by simp only [elemT, x9h]
theorem xfo : env.P.cellsOf 138 = 1 := by kernel_rfl
theorem xfq : elemOk env.P 138 = true := by kernel_rfl
theorem xe9 : isAggT env.P 138 = some false := by kernel_rfl
theorem xg7 : zeroA env.P 138 = some (.d (.nils)) := by kernel_rfl
theorem xfr : (env.P.info? 138).isSome = true := by kernel_rfl
theorem x1g : structOK env.P 139 = true := by kernel_rfl
theorem x22 : fieldOff env.P 139 0 = some (0, 3) := by kernel_rfl
theorem x1y : offOf env.P 139 0 = some (0, 1) := by kernel_rfl
theorem x25 : fieldOff env.P 139 1 = some (1, 3) := by kernel_rfl
theorem x23 : offOf env.P 139 1 = some (1, 1) := by kernel_rfl
theorem x27 : fieldOff env.P 139 2 = some (2, 138) := by kernel_rfl
theorem x1z : offOf env.P 139 2 = some (2, 1) := by kernel_rfl
theorem x2g : elemT env.P 139 = none := by kernel_rfl
theorem x2r : env.P.cellsOf 139 = 3 := by kernel_rfl
theorem x2j : elemOk env.P 139 = true := by kernel_rfl
theorem x2e : isAggT env.P 139 = some true := by kernel_rfl
theorem x1j : zeroA env.P 139 = some (.agg [.d (.int .i64 0), .d (.int .i64 0), .d (.nils)]) := by kernel_rfl
theorem x2m : (env.P.info? 139).isSome = true := by kernel_rfl
theorem x9e : structOK env.P 140 = true := by kernel_rfl
theorem xd3 : fieldOff env.P 140 0 = some (0, 3) := by kernel_rfl
theorem xd8 : offOf env.P 140 0 = some (0, 1) := by kernel_rfl
theorem xcr : fieldOff env.P 140 1 = some (1, 3) := by kernel_rfl
theorem xcw : offOf env.P 140 1 = some (1, 1) := by kernel_rfl
theorem xdc : fieldOff env.P 140 2 = some (2, 138) := by kernel_rfl
theorem xd5 : offOf env.P 140 2 = some (2, 1) := by kernel_rfl
theorem xfv : elemT env.P 140 = none := by kernel_rfl
theorem xhe : env.P.cellsOf 140 = 3 := by kernel_rfl
theorem xgo : elemOk env.P 140 = true := by kernel_rfl
theorem xg3 : isAggT env.P 140 = some true := by kernel_rfl
theorem xau : zeroA env.P 140 = some (.agg [.d (.int .i64 0), .d (.int .i64 0), .d (.nils)]) := by kernel_rfl
theorem xhp : (env.P.info? 140).isSome = true := by kernel_rfl
theorem x62 : env.P.underlying 144 = some (.slice 146) := by kernel_rfl
theorem x8k : elemT env.P 144 = some 146 := by simp only [elemT, x62]
theorem x91 : env.P.cellsOf 144 = 1 := by kernel_rfl
theorem x9b : elemOk env.P 144 = true := by kernel_rfl
theorem x80 : isAggT env.P 144 = some false := by kernel_rfl
theorem x99 : zeroA env.P 144 = some (.d (.nils)) := by kernel_rfl
theorem x97 : (env.P.info? 144).isSome = true := by kernel_rfl
theorem x1r : structOK env.P 145 = true := by kernel_rfl
theorem x35 : fieldOff env.P 145 0 = some (0, 3) := by kernel_rfl
theorem x33 : offOf env.P 145 0 = some (0, 1) := by kernel_rfl
theorem x37 : fieldOff env.P 145 1 = some (1, 3) := by kernel_rfl
theorem x36 : offOf env.P 145 1 = some (1, 1) := by kernel_rfl
theorem x34 : fieldOff env.P 145 2 = some (2, 60) := by kernel_rfl
theorem x32 : offOf env.P 145 2 = some (2, 1) := by kernel_rfl
theorem x3f : elemT env.P 145 = none := by kernel_rfl
theorem x3m : env.P.cellsOf 145 = 3 := by kernel_rfl
theorem x3k : elemOk env.P 145 = true := by kernel_rfl
theorem x3h : isAggT env.P 145 = some true := by kernel_rfl
theorem x1t : zeroA env.P 145 = some (.agg [.d (.int .i64 0), .d (.int .i64 0), .d (.nils)]) := by kernel_rfl
theorem x3l : (env.P.info? 145).isSome = true := by kernel_rfl
theorem x6i : structOK env.P 146 = true := by kernel_rfl
theorem x92 : fieldOff env.P 146 0 = some (0, 3) := by kernel_rfl
theorem x93 : offOf env.P 146 0 = some (0, 1) := by kernel_rfl
theorem x9a : fieldOff env.P 146 1 = some (1, 3) := by kernel_rfl
theorem x98 : offOf env.P 146 1 = some (1, 1) := by kernel_rfl
theorem x94 : fieldOff env.P 146 2 = some (2, 60) := by kernel_rfl
theorem x90 : offOf env.P 146 2 = some (2, 1) := by kernel_rfl
theorem xb2 : elemT env.P 146 = none := by kernel_rfl
theorem xbs : env.P.cellsOf 146 = 3 := by kernel_rfl
theorem xc3 : elemOk env.P 146 = true := by kernel_rfl
theorem xb3 : isAggT env.P 146 = some true := by kernel_rfl
theorem x72 : zeroA env.P 146 = some (.agg [.d (.int .i64 0), .d (.int .i64 0), .d (.nils)]) := by kernel_rfl
theorem xc2 : (env.P.info? 146).isSome = true := by kernel_rfl
theorem xcd : env.P.underlying 149 = some (.int .u64) := by kernel_rfl
theorem xb5 : elemT env.P 149 = none := by kernel_rfl
theorem xbf : env.P.cellsOf 149 = 1 := by kernel_rfl
theorem xck : elemOk env.P 149 = true := by kernel_rfl
theorem xb1 : isAggT env.P 149 = some false := by kernel_rfl
theorem xbm : zeroA env.P 149 = some (.d (.int .u64 0)) := by kernel_rfl
theorem xbz : (env.P.info? 149).isSome = true := by kernel_rfl
theorem xn5 : env.P.underlying 153 = some (.pointer 3) := by kernel_rfl
theorem xlj : elemT env.P 153 = none := by kernel_rfl
theorem xng : env.P.cellsOf 153 = 1 := by kernel_rfl
theorem xmo : elemOk env.P 153 = true := by kernel_rfl
theorem xla : isAggT env.P 153 = some false := by kernel_rfl
theorem xm5 : zeroA env.P 153 = some (.d (.nilp)) := by kernel_rfl
theorem xna : (env.P.info? 153).isSome = true := by kernel_rfl
theorem x81 : env.P.underlying 156 = some (.pointer 149) := by kernel_rfl
theorem x7r : elemT env.P 156 = none := by kernel_rfl
theorem x8c : env.P.cellsOf 156 = 1 := by kernel_rfl
theorem x8a : elemOk env.P 156 = true := by kernel_rfl
theorem x7x : isAggT env.P 156 = some false := by kernel_rfl
theorem x8f : zeroA env.P 156 = some (.d (.nilp)) := by kernel_rfl
theorem x8g : (env.P.info? 156).isSome = true := by kernel_rfl
theorem x2w : structOK env.P 158 = true := by kernel_rfl
theorem x44 : fieldOff env.P 158 0 = some (0, 3) := by kernel_rfl
theorem x3z : offOf env.P 158 0 = some (0, 1) := by kernel_rfl
theorem x41 : fieldOff env.P 158 1 = some (1, 3) := by kernel_rfl
theorem x40 : offOf env.P 158 1 = some (1, 1) := by kernel_rfl
theorem x43 : fieldOff env.P 158 2 = some (2, 3) := by kernel_rfl
theorem x42 : offOf env.P 158 2 = some (2, 1) := by kernel_rfl
theorem x4j : elemT env.P 158 = none := by kernel_rfl
theorem x4v : env.P.cellsOf 158 = 3 := by kernel_rfl
theorem x4s : elemOk env.P 158 = true := by kernel_rfl
theorem x4m : isAggT env.P 158 = some true := by kernel_rfl
theorem x2y : zeroA env.P 158 = some (.agg [.d (.int .i64 0), .d (.int .i64 0), .d (.int .i64 0)]) := by kernel_rfl
theorem x4t : (env.P.info? 158).isSome = true := by kernel_rfl
theorem xby : structOK env.P 159 = true := by kernel_rfl
theorem xg0 : fieldOff env.P 159 0 = some (0, 3) := by kernel_rfl
theorem xfy : offOf env.P 159 0 = some (0, 1) := by kernel_rfl
theorem xfw : fieldOff env.P 159 1 = some (1, 3) := by kernel_rfl
theorem xfs : offOf env.P 159 1 = some (1, 1) := by kernel_rfl
theorem xg6 : fieldOff env.P 159 2 = some (2, 3) := by kernel_rfl
theorem xft : offOf env.P 159 2 = some (2, 1) := by kernel_rfl
theorem xio : elemT env.P 159 = none := by kernel_rfl
theorem xk6 : env.P.cellsOf 159 = 3 := by kernel_rfl
theorem xka : elemOk env.P 159 = true := by kernel_rfl
theorem xig : isAggT env.P 159 = some true := by kernel_rfl
theorem xdz : zeroA env.P 159 = some (.agg [.d (.int .i64 0), .d (.int .i64 0), .d (.int .i64 0)]) := by kernel_rfl
theorem xk5 : (env.P.info? 159).isSome = true := by kernel_rfl
theorem xk9 : env.P.underlying 170 = some (.pointer 5) := by kernel_rfl
theorem xit : elemT env.P 170 = none := by kernel_rfl
theorem xjm : env.P.cellsOf 170 = 1 := by kernel_rfl
theorem xjw : elemOk env.P 170 = true := by kernel_rfl
theorem xi3 : isAggT env.P 170 = some false := by kernel_rfl
theorem xje : zeroA env.P 170 = some (.d (.nilp)) := by kernel_rfl
theorem xk7 : (env.P.info? 170).isSome = true := by kernel_rfl
theorem xc0 : elemT env.P 175 = none := by kernel_rfl
theorem xcv : env.P.cellsOf 175 = 1 := by kernel_rfl
theorem xd1 : elemOk env.P 175 = true := by kernel_rfl
theorem xbx : isAggT env.P 175 = some false := by kernel_rfl
theorem xda : zeroA env.P 175 = some (.d (.nilp)) := by kernel_rfl
theorem xd4 : (env.P.info? 175).isSome = true := by kernel_rfl
theorem x58 : ∀ parts, aBuild env.P 13 parts = (fillA (cellsA (.agg [.d (.str []), .d (.int .u64 0)])) (parts.map fun p => (offOf env.P 13 p.1, p.2))).map .agg := fun _ => aBuild_struct x38 x3i
theorem x2c : ∀ parts, aBuild env.P 25 parts = (fillA (cellsA (.agg [.d (.int .i64 0), .d (.nils), .d (.nils)])) (parts.map fun p => (offOf env.P 25 p.1, p.2))).map .agg := fun _ => aBuild_struct x1f x1h
theorem xbt : ∀ parts, aBuild env.P 26 parts = (fillA (cellsA (.agg [.d (.int .i64 0), .d (.nils), .d (.nils)])) (parts.map fun p => (offOf env.P 26 p.1, p.2))).map .agg := fun _ => aBuild_struct x75 x7n
theorem xbc : ∀ parts, aBuild env.P 38 parts = (fillA (cellsA (.agg [.d (.int .i64 0), .d (.nils), .d (.nils)])) (parts.map fun p => (offOf env.P 38 p.1, p.2))).map .agg := fun _ => aBuild_struct x73 x7p
theorem xlg : ∀ parts, aBuild env.P 62 parts = (fillA (cellsA (.agg [.d (.int .i64 0), .d (.int .i64 0), .d (.int .i64 0), .d (.int .i64 0), .d (.int .i64 0), .d (.int .i64 0)])) (parts.map fun p => (some (p.1 * 1, 1), p.2))).map .agg := fun _ => aBuild_array xho xi1 xpb xpa
theorem x6b : ∀ parts, aBuild env.P 81 parts = (fillA (cellsA (.agg [.d (.nils), .d (.int .i64 0)])) (parts.map fun p => (offOf env.P 81 p.1, p.2))).map .agg := fun _ => aBuild_struct x4p x51
theorem xgs : ∀ parts, aBuild env.P 82 parts = (fillA (cellsA (.agg [.d (.nils), .d (.int .i64 0)])) (parts.map fun p => (offOf env.P 82 p.1, p.2))).map .agg := fun _ => aBuild_struct xaw xbw
theorem xq : ∀ parts, aBuild env.P 93 parts = (fillA (cellsA (.agg [.d (.nils), .d (.nils), .d (.nils), .d (.int .i64 0), .d (.int .i64 0), .d (.int .i64 0)])) (parts.map fun p => (offOf env.P 93 p.1, p.2))).map .agg := fun _ => aBuild_struct x3 x4
theorem xh7 : ∀ parts, aBuild env.P 94 parts = (fillA (cellsA (.agg [.d (.nils), .d (.nils), .d (.nils), .d (.int .i64 0), .d (.int .i64 0), .d (.int .i64 0)])) (parts.map fun p => (offOf env.P 94 p.1, p.2))).map .agg := fun _ => aBuild_struct xao xcb
theorem x2f : ∀ parts, aBuild env.P 139 parts = (fillA (cellsA (.agg [.d (.int .i64 0), .d (.int .i64 0), .d (.nils)])) (parts.map fun p => (offOf env.P 139 p.1, p.2))).map .agg := fun _ => aBuild_struct x1g x1j
theorem xfu : ∀ parts, aBuild env.P 140 parts = (fillA (cellsA (.agg [.d (.int .i64 0), .d (.int .i64 0), .d (.nils)])) (parts.map fun p => (offOf env.P 140 p.1, p.2))).map .agg := fun _ => aBuild_struct x9e xau
theorem x3g : ∀ parts, aBuild env.P 145 parts = (fillA (cellsA (.agg [.d (.int .i64 0), .d (.int .i64 0), .d (.nils)])) (parts.map fun p => (offOf env.P 145 p.1, p.2))).map .agg := fun _ => aBuild_struct x1r x1t
theorem xb9 : ∀ parts, aBuild env.P 146 parts = (fillA (cellsA (.agg [.d (.int .i64 0), .d (.int .i64 0), .d (.nils)])) (parts.map fun p => (offOf env.P 146 p.1, p.2))).map .agg := fun _ => aBuild_struct x6i x72
theorem x4n : ∀ parts, aBuild env.P 158 parts = (fillA (cellsA (.agg [.d (.int .i64 0), .d (.int .i64 0), .d (.int .i64 0)])) (parts.map fun p => (offOf env.P 158 p.1, p.2))).map .agg := fun _ => aBuild_struct x2w x2y
theorem xil : ∀ parts, aBuild env.P 159 parts = (fillA (cellsA (.agg [.d (.int .i64 0), .d (.int .i64 0), .d (.int .i64 0)])) (parts.map fun p => (offOf env.P 159 p.1, p.2))).map .agg := fun _ => aBuild_struct xby xdz
theorem xl2 {h : H} {n : Int} {K : IntKind} : aConvert env.P h 3 3 (.d (.int K n)) = some (.d (.int .i64 (IntKind.wrap .i64 n)), h) := aConv_int x8p x8p
theorem xib {h : H} {n : Int} {K : IntKind} : aConvert env.P h 3 5 (.d (.int K n)) = some (.d (.int .u8 (IntKind.wrap .u8 n)), h) := aConv_int x8p x66
theorem xjd {h : H} {n : Int} {K : IntKind} : aConvert env.P h 3 103 (.d (.int K n)) = some (.d (.int .u64 (IntKind.wrap .u64 n)), h) := aConv_int x8p x6x
theorem xiu {h : H} {n : Int} {K : IntKind} : aConvert env.P h 5 3 (.d (.int K n)) = some (.d (.int .i64 (IntKind.wrap .i64 n)), h) := aConv_int x66 x8p
theorem xgb {h : H} {n : Int} {K : IntKind} : aConvert env.P h 5 5 (.d (.int K n)) = some (.d (.int .u8 (IntKind.wrap .u8 n)), h) := aConv_int x66 x66
theorem xh6 {h : H} {n : Int} {K : IntKind} : aConvert env.P h 5 103 (.d (.int K n)) = some (.d (.int .u64 (IntKind.wrap .u64 n)), h) := aConv_int x66 x6x
theorem xke {h : H} {n : Int} {K : IntKind} : aConvert env.P h 103 3 (.d (.int K n)) = some (.d (.int .i64 (IntKind.wrap .i64 n)), h) := aConv_int x6x x8p
theorem xgw {h : H} {n : Int} {K : IntKind} : aConvert env.P h 103 5 (.d (.int K n)) = some (.d (.int .u8 (IntKind.wrap .u8 n)), h) := aConv_int x6x x66
theorem xir {h : H} {n : Int} {K : IntKind} : aConvert env.P h 103 103 (.d (.int K n)) = some (.d (.int .u64 (IntKind.wrap .u64 n)), h) := aConv_int x6x x6x
theorem TY0 : type_of% (And.intro @xqr (And.intro @xog (And.intro @xq1 (And.intro @xq6 (And.intro @xop (And.intro @xrh (And.intro @xq0 (And.intro @x8p (And.intro @xsx (And.intro @xpa (And.intro @xu6 (And.intro @xsc (And.intro @xtg (And.intro @xpb (And.intro @xss (And.intro @xqt (And.intro @xt3 (And.intro @xsv (And.intro @xqm (And.intro @xsh (And.intro @xsq (And.intro @x66 (And.intro @xob (And.intro @xrf (And.intro @xr5 (And.intro @xo0 (And.intro @xqg (And.intro @xqn (And.intro @xon (And.intro @xm7 (And.intro @xnw (And.intro @xos (And.intro @xmb (And.intro @xow (And.intro @xo9 (And.intro @xmu (And.intro @xlk (And.intro @xmk (And.intro @xme @xlf))))))))))))))))))))))))))))))))))))))) := (And.intro @xqr (And.intro @xog (And.intro @xq1 (And.intro @xq6 (And.intro @xop (And.intro @xrh (And.intro @xq0 (And.intro @x8p (And.intro @xsx (And.intro @xpa (And.intro @xu6 (And.intro @xsc (And.intro @xtg (And.intro @xpb (And.intro @xss (And.intro @xqt (And.intro @xt3 (And.intro @xsv (And.intro @xqm (And.intro @xsh (And.intro @xsq (And.intro @x66 (And.intro @xob (And.intro @xrf (And.intro @xr5 (And.intro @xo0 (And.intro @xqg (And.intro @xqn (And.intro @xon (And.intro @xm7 (And.intro @xnw (And.intro @xos (And.intro @xmb (And.intro @xow (And.intro @xo9 (And.intro @xmu (And.intro @xlk (And.intro @xmk (And.intro @xme @xlf)))))))))))))))))))))))))))))))))))))))
theorem TY1 : type_of% (And.intro @xn4 (And.intro @xmm (And.intro @x38 (And.intro @x4y (And.intro @x4z (And.intro @x4u (And.intro @x4w (And.intro @x5c (And.intro @x5g (And.intro @x5e (And.intro @x5a (And.intro @x3i (And.intro @x58 (And.intro @x5h (And.intro @xis (And.intro @xjn (And.intro @xki (And.intro @xii (And.intro @xjr (And.intro @xju (And.intro @xqh (And.intro @xot (And.intro @xr4 (And.intro @xr8 (And.intro @xov (And.intro @xqf (And.intro @xqc (And.intro @xfa (And.intro @xkj (And.intro @xli (And.intro @xl7 (And.intro @xji (And.intro @xln (And.intro @xl5 (And.intro @xdn (And.intro @xie (And.intro @xjv (And.intro @xjy (And.intro @xic @xjl))))))))))))))))))))))))))))))))))))))) := (And.intro @xn4 (And.intro @xmm (And.intro @x38 (And.intro @x4y (And.intro @x4z (And.intro @x4u (And.intro @x4w (And.intro @x5c (And.intro @x5g (And.intro @x5e (And.intro @x5a (And.intro @x3i (And.intro @x58 (And.intro @x5h (And.intro @xis (And.intro @xjn (And.intro @xki (And.intro @xii (And.intro @xjr (And.intro @xju (And.intro @xqh (And.intro @xot (And.intro @xr4 (And.intro @xr8 (And.intro @xov (And.intro @xqf (And.intro @xqc (And.intro @xfa (And.intro @xkj (And.intro @xli (And.intro @xl7 (And.intro @xji (And.intro @xln (And.intro @xl5 (And.intro @xdn (And.intro @xie (And.intro @xjv (And.intro @xjy (And.intro @xic @xjl)))))))))))))))))))))))))))))))))))))))
theorem TY2 : type_of% (And.intro @xjx (And.intro @xgr (And.intro @xlr (And.intro @xn7 (And.intro @xmh (And.intro @xl3 (And.intro @xmg (And.intro @xmn (And.intro @x1f (And.intro @x1x (And.intro @x26 (And.intro @x21 (And.intro @x20 (And.intro @x24 (And.intro @x1w (And.intro @x2i (And.intro @x2s (And.intro @x2u (And.intro @x2h (And.intro @x1h (And.intro @x2c (And.intro @x2t (And.intro @x75 (And.intro @x9s (And.intro @xa8 (And.intro @xa1 (And.intro @x9m (And.intro @xaa (And.intro @xa4 (And.intro @xci (And.intro @xdb (And.intro @xcy (And.intro @xcm (And.intro @x7n (And.intro @xbt (And.intro @xcx (And.intro @x73 (And.intro @x9k (And.intro @x9v @xah))))))))))))))))))))))))))))))))))))))) := (And.intro @xjx (And.intro @xgr (And.intro @xlr (And.intro @xn7 (And.intro @xmh (And.intro @xl3 (And.intro @xmg (And.intro @xmn (And.intro @x1f (And.intro @x1x (And.intro @x26 (And.intro @x21 (And.intro @x20 (And.intro @x24 (And.intro @x1w (And.intro @x2i (And.intro @x2s (And.intro @x2u (And.intro @x2h (And.intro @x1h (And.intro @x2c (And.intro @x2t (And.intro @x75 (And.intro @x9s (And.intro @xa8 (And.intro @xa1 (And.intro @x9m (And.intro @xaa (And.intro @xa4 (And.intro @xci (And.intro @xdb (And.intro @xcy (And.intro @xcm (And.intro @x7n (And.intro @xbt (And.intro @xcx (And.intro @x73 (And.intro @x9k (And.intro @x9v @xah)))))))))))))))))))))))))))))))))))))))
theorem TY3 : type_of% (And.intro @x9o (And.intro @xag (And.intro @x9t (And.intro @xc8 (And.intro @xd0 (And.intro @xdi (And.intro @xc4 (And.intro @x7p (And.intro @xbc (And.intro @xcs (And.intro @xdl (And.intro @xi7 (And.intro @xjg (And.intro @xjs (And.intro @xiw (And.intro @xk1 (And.intro @xkg (And.intro @xcz (And.intro @xbu (And.intro @xd7 (And.intro @xd9 (And.intro @xbv (And.intro @xdf (And.intro @xcu (And.intro @xbj (And.intro @xh5 (And.intro @xin (And.intro @xiv (And.intro @xgy (And.intro @xip (And.intro @xia (And.intro @xj6 (And.intro @xn3 (And.intro @xoo (And.intro @xnv (And.intro @xmq (And.intro @xoa (And.intro @xnu (And.intro @xho @xlh))))))))))))))))))))))))))))))))))))))) := (And.intro @x9o (And.intro @xag (And.intro @x9t (And.intro @xc8 (And.intro @xd0 (And.intro @xdi (And.intro @xc4 (And.intro @x7p (And.intro @xbc (And.intro @xcs (And.intro @xdl (And.intro @xi7 (And.intro @xjg (And.intro @xjs (And.intro @xiw (And.intro @xk1 (And.intro @xkg (And.intro @xcz (And.intro @xbu (And.intro @xd7 (And.intro @xd9 (And.intro @xbv (And.intro @xdf (And.intro @xcu (And.intro @xbj (And.intro @xh5 (And.intro @xin (And.intro @xiv (And.intro @xgy (And.intro @xip (And.intro @xia (And.intro @xj6 (And.intro @xn3 (And.intro @xoo (And.intro @xnv (And.intro @xmq (And.intro @xoa (And.intro @xnu (And.intro @xho @xlh)))))))))))))))))))))))))))))))))))))))
theorem TY4 : type_of% (And.intro @xnb (And.intro @xmy (And.intro @xlq (And.intro @xi1 (And.intro @xlg (And.intro @xmt (And.intro @x4p (And.intro @x5w (And.intro @x5x (And.intro @x5z (And.intro @x60 (And.intro @x6g (And.intro @x6q (And.intro @x6u (And.intro @x6f (And.intro @x51 (And.intro @x6b (And.intro @x6t (And.intro @xaw (And.intro @xeh (And.intro @xew (And.intro @xeo (And.intro @xea (And.intro @xgz (And.intro @xid (And.intro @xi8 (And.intro @xhb (And.intro @xbw (And.intro @xgs (And.intro @xi5 (And.intro @x6a (And.intro @x9c (And.intro @xa2 (And.intro @xad (And.intro @x96 (And.intro @x9z (And.intro @x9y (And.intro @x7q (And.intro @xce @xdd))))))))))))))))))))))))))))))))))))))) := (And.intro @xnb (And.intro @xmy (And.intro @xlq (And.intro @xi1 (And.intro @xlg (And.intro @xmt (And.intro @x4p (And.intro @x5w (And.intro @x5x (And.intro @x5z (And.intro @x60 (And.intro @x6g (And.intro @x6q (And.intro @x6u (And.intro @x6f (And.intro @x51 (And.intro @x6b (And.intro @x6t (And.intro @xaw (And.intro @xeh (And.intro @xew (And.intro @xeo (And.intro @xea (And.intro @xgz (And.intro @xid (And.intro @xi8 (And.intro @xhb (And.intro @xbw (And.intro @xgs (And.intro @xi5 (And.intro @x6a (And.intro @x9c (And.intro @xa2 (And.intro @xad (And.intro @x96 (And.intro @x9z (And.intro @x9y (And.intro @x7q (And.intro @xce @xdd)))))))))))))))))))))))))))))))))))))))
theorem TY5 : type_of% (And.intro @xdg (And.intro @xc7 (And.intro @xdh (And.intro @xd6 (And.intro @x3 (And.intro @xh (And.intro @xc (And.intro @xf (And.intro @xl (And.intro @xe (And.intro @xj (And.intro @xg (And.intro @xn (And.intro @xb (And.intro @xk (And.intro @xd (And.intro @xi (And.intro @xp (And.intro @xw (And.intro @xt (And.intro @xr (And.intro @x4 (And.intro @xq (And.intro @xu (And.intro @xao (And.intro @xez (And.intro @xf1 (And.intro @xej (And.intro @xeq (And.intro @xf2 (And.intro @xed (And.intro @xey (And.intro @xf0 (And.intro @xev (And.intro @xei (And.intro @xel (And.intro @xen (And.intro @xh3 (And.intro @xih @xik))))))))))))))))))))))))))))))))))))))) := (And.intro @xdg (And.intro @xc7 (And.intro @xdh (And.intro @xd6 (And.intro @x3 (And.intro @xh (And.intro @xc (And.intro @xf (And.intro @xl (And.intro @xe (And.intro @xj (And.intro @xg (And.intro @xn (And.intro @xb (And.intro @xk (And.intro @xd (And.intro @xi (And.intro @xp (And.intro @xw (And.intro @xt (And.intro @xr (And.intro @x4 (And.intro @xq (And.intro @xu (And.intro @xao (And.intro @xez (And.intro @xf1 (And.intro @xej (And.intro @xeq (And.intro @xf2 (And.intro @xed (And.intro @xey (And.intro @xf0 (And.intro @xev (And.intro @xei (And.intro @xel (And.intro @xen (And.intro @xh3 (And.intro @xih @xik)))))))))))))))))))))))))))))))))))))))
theorem TY6 : type_of% (And.intro @xgp (And.intro @xcb (And.intro @xh7 (And.intro @xi9 (And.intro @x6x (And.intro @xqa (And.intro @xso (And.intro @xt0 (And.intro @xqy (And.intro @xt1 (And.intro @xsm (And.intro @x9i (And.intro @xek (And.intro @xfp (And.intro @xgc (And.intro @xee (And.intro @xfz (And.intro @xga (And.intro @x9n (And.intro @x9d (And.intro @xae (And.intro @xa6 (And.intro @x95 (And.intro @x9p (And.intro @xa3 (And.intro @xnx (And.intro @xmj (And.intro @xo3 (And.intro @xny (And.intro @xn0 (And.intro @xo8 (And.intro @xoe (And.intro @xof (And.intro @xne (And.intro @xod (And.intro @xoc (And.intro @xmf (And.intro @xol (And.intro @xoj @x9h))))))))))))))))))))))))))))))))))))))) := (And.intro @xgp (And.intro @xcb (And.intro @xh7 (And.intro @xi9 (And.intro @x6x (And.intro @xqa (And.intro @xso (And.intro @xt0 (And.intro @xqy (And.intro @xt1 (And.intro @xsm (And.intro @x9i (And.intro @xek (And.intro @xfp (And.intro @xgc (And.intro @xee (And.intro @xfz (And.intro @xga (And.intro @x9n (And.intro @x9d (And.intro @xae (And.intro @xa6 (And.intro @x95 (And.intro @x9p (And.intro @xa3 (And.intro @xnx (And.intro @xmj (And.intro @xo3 (And.intro @xny (And.intro @xn0 (And.intro @xo8 (And.intro @xoe (And.intro @xof (And.intro @xne (And.intro @xod (And.intro @xoc (And.intro @xmf (And.intro @xol (And.intro @xoj @x9h)))))))))))))))))))))))))))))))))))))))
theorem TY7 : type_of% (And.intro @xes (And.intro @xfo (And.intro @xfq (And.intro @xe9 (And.intro @xg7 (And.intro @xfr (And.intro @x1g (And.intro @x22 (And.intro @x1y (And.intro @x25 (And.intro @x23 (And.intro @x27 (And.intro @x1z (And.intro @x2g (And.intro @x2r (And.intro @x2j (And.intro @x2e (And.intro @x1j (And.intro @x2f (And.intro @x2m (And.intro @x9e (And.intro @xd3 (And.intro @xd8 (And.intro @xcr (And.intro @xcw (And.intro @xdc (And.intro @xd5 (And.intro @xfv (And.intro @xhe (And.intro @xgo (And.intro @xg3 (And.intro @xau (And.intro @xfu (And.intro @xhp (And.intro @x62 (And.intro @x8k (And.intro @x91 (And.intro @x9b (And.intro @x80 @x99))))))))))))))))))))))))))))))))))))))) := (And.intro @xes (And.intro @xfo (And.intro @xfq (And.intro @xe9 (And.intro @xg7 (And.intro @xfr (And.intro @x1g (And.intro @x22 (And.intro @x1y (And.intro @x25 (And.intro @x23 (And.intro @x27 (And.intro @x1z (And.intro @x2g (And.intro @x2r (And.intro @x2j (And.intro @x2e (And.intro @x1j (And.intro @x2f (And.intro @x2m (And.intro @x9e (And.intro @xd3 (And.intro @xd8 (And.intro @xcr (And.intro @xcw (And.intro @xdc (And.intro @xd5 (And.intro @xfv (And.intro @xhe (And.intro @xgo (And.intro @xg3 (And.intro @xau (And.intro @xfu (And.intro @xhp (And.intro @x62 (And.intro @x8k (And.intro @x91 (And.intro @x9b (And.intro @x80 @x99)))))))))))))))))))))))))))))))))))))))
theorem TY8 : type_of% (And.intro @x97 (And.intro @x1r (And.intro @x35 (And.intro @x33 (And.intro @x37 (And.intro @x36 (And.intro @x34 (And.intro @x32 (And.intro @x3f (And.intro @x3m (And.intro @x3k (And.intro @x3h (And.intro @x1t (And.intro @x3g (And.intro @x3l (And.intro @x6i (And.intro @x92 (And.intro @x93 (And.intro @x9a (And.intro @x98 (And.intro @x94 (And.intro @x90 (And.intro @xb2 (And.intro @xbs (And.intro @xc3 (And.intro @xb3 (And.intro @x72 (And.intro @xb9 (And.intro @xc2 (And.intro @xcd (And.intro @xb5 (And.intro @xbf (And.intro @xck (And.intro @xb1 (And.intro @xbm (And.intro @xbz (And.intro @xn5 (And.intro @xlj (And.intro @xng @xmo))))))))))))))))))))))))))))))))))))))) := (And.intro @x97 (And.intro @x1r (And.intro @x35 (And.intro @x33 (And.intro @x37 (And.intro @x36 (And.intro @x34 (And.intro @x32 (And.intro @x3f (And.intro @x3m (And.intro @x3k (And.intro @x3h (And.intro @x1t (And.intro @x3g (And.intro @x3l (And.intro @x6i (And.intro @x92 (And.intro @x93 (And.intro @x9a (And.intro @x98 (And.intro @x94 (And.intro @x90 (And.intro @xb2 (And.intro @xbs (And.intro @xc3 (And.intro @xb3 (And.intro @x72 (And.intro @xb9 (And.intro @xc2 (And.intro @xcd (And.intro @xb5 (And.intro @xbf (And.intro @xck (And.intro @xb1 (And.intro @xbm (And.intro @xbz (And.intro @xn5 (And.intro @xlj (And.intro @xng @xmo)))))))))))))))))))))))))))))))))))))))
theorem TY9 : type_of% (And.intro @xla (And.intro @xm5 (And.intro @xna (And.intro @x81 (And.intro @x7r (And.intro @x8c (And.intro @x8a (And.intro @x7x (And.intro @x8f (And.intro @x8g (And.intro @x2w (And.intro @x44 (And.intro @x3z (And.intro @x41 (And.intro @x40 (And.intro @x43 (And.intro @x42 (And.intro @x4j (And.intro @x4v (And.intro @x4s (And.intro @x4m (And.intro @x2y (And.intro @x4n (And.intro @x4t (And.intro @xby (And.intro @xg0 (And.intro @xfy (And.intro @xfw (And.intro @xfs (And.intro @xg6 (And.intro @xft (And.intro @xio (And.intro @xk6 (And.intro @xka (And.intro @xig (And.intro @xdz (And.intro @xil (And.intro @xk5 (And.intro @xk9 @xit))))))))))))))))))))))))))))))))))))))) := (And.intro @xla (And.intro @xm5 (And.intro @xna (And.intro @x81 (And.intro @x7r (And.intro @x8c (And.intro @x8a (And.intro @x7x (And.intro @x8f (And.intro @x8g (And.intro @x2w (And.intro @x44 (And.intro @x3z (And.intro @x41 (And.intro @x40 (And.intro @x43 (And.intro @x42 (And.intro @x4j (And.intro @x4v (And.intro @x4s (And.intro @x4m (And.intro @x2y (And.intro @x4n (And.intro @x4t (And.intro @xby (And.intro @xg0 (And.intro @xfy (And.intro @xfw (And.intro @xfs (And.intro @xg6 (And.intro @xft (And.intro @xio (And.intro @xk6 (And.intro @xka (And.intro @xig (And.intro @xdz (And.intro @xil (And.intro @xk5 (And.intro @xk9 @xit)))))))))))))))))))))))))))))))))))))))
theorem TY10 : type_of% (And.intro @xjm (And.intro @xjw (And.intro @xi3 (And.intro @xje (And.intro @xk7 (And.intro @xc0 (And.intro @xcv (And.intro @xd1 (And.intro @xbx (And.intro @xda (And.intro @xd4 (And.intro @xl2 (And.intro @xib (And.intro @xjd (And.intro @xiu (And.intro @xgb (And.intro @xh6 (And.intro @xke (And.intro @xgw @xir))))))))))))))))))) := (And.intro @xjm (And.intro @xjw (And.intro @xi3 (And.intro @xje (And.intro @xk7 (And.intro @xc0 (And.intro @xcv (And.intro @xd1 (And.intro @xbx (And.intro @xda (And.intro @xd4 (And.intro @xl2 (And.intro @xib (And.intro @xjd (And.intro @xiu (And.intro @xgb (And.intro @xh6 (And.intro @xke (And.intro @xgw @xir)))))))))))))))))))
theorem TY : type_of% (And.intro @TY0 (And.intro @TY1 (And.intro @TY2 (And.intro @TY3 (And.intro @TY4 (And.intro @TY5 (And.intro @TY6 (And.intro @TY7 (And.intro @TY8 (And.intro @TY9 @TY10)))))))))) := (And.intro @TY0 (And.intro @TY1 (And.intro @TY2 (And.intro @TY3 (And.intro @TY4 (And.intro @TY5 (And.intro @TY6 (And.intro @TY7 (And.intro @TY8 (And.intro @TY9 @TY10))))))))))
end Ev
end Go.Proofs.Ytppdfjdfjfoddaa
