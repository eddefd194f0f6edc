/-
  What the types of the program are, as the evaluator asks. Written by a program.
-/
import Derived.Test.YtppdfjdfjfoddaaEnvF
import Derived.Test.YtppdfjdfjfoddaaEvWalk
set_option maxRecDepth 100000
namespace Go.Proofs.Ytppdfjdfjfoddaa
namespace Ev
def x1g (P : Program) (t : TypeId) (i : Nat) : Option (Nat × Nat) := match P.underlying t with
 | some (.struct fields) => (fields.toList[i]?).map fun f => (f.offset,P.cellsOf f.type)
 | _ => none
def x6c (P : Program) (t : TypeId) : Bool := match P.underlying t with
 | some (.struct fields) => fields.toList.all fun f => (P.info? f.type).isSome
 | _ => false
theorem x3b {P : Program} {t : TypeId} {z : A} {parts : List (Nat × A)} (hs : x6c P t = true) (hz : x17 P t = some z) : x5t P t parts = (x3m (xj z) (parts.map fun p => (x1g P t p.1,p.2))).map .agg := by
 unfold x6c at hs
 unfold x5t x1g
 rw [hz]
 cases hu : P.underlying t with
 | none => rw [hu] at hs; cases hs
 | some d =>
  rw [hu] at hs
  cases d <;> first | cases hs | skip
  simp only at hs ⊢
  rw [if_pos hs]
theorem x1kh {P : Program} {t e : TypeId} {n c : Nat} {z : A} {parts : List (Nat × A)} (hu : P.underlying t = some (.array n e)) (hz : x17 P t = some z) (hi : (P.info? e).isSome = true) (hc : P.cellsOf e = c) : x5t P t parts = (x3m (xj z) (parts.map fun p => (some (p.1 * c,c),p.2))).map .agg := by
 unfold x5t
 rw [hz,hu]
 simp only [hi,if_true,hc]
theorem x91 {P : Program} {h : H} {t u : TypeId} {K K1 K2 : IntKind} {n : Int} (h1 : P.underlying t = some (.int K1)) (h2 : P.underlying u = some (.int K2)) : x4e P h t u (.d (.int K n)) = some (.d (.int K2 (K2.wrap n)),h) := by
 simp only [x4e,h1,h2]
theorem x1bi : env.P.underlying 2 = some (.int .i64) := by kernel_rfl
theorem x17t : x13 env.P 2 = none := by kernel_rfl
theorem x1cw : env.P.cellsOf 2 = 1 := by kernel_rfl
theorem x1dp : x15 env.P 2 = true := by kernel_rfl
theorem x16n : x1a env.P 2 = some false := by kernel_rfl
theorem x1ab : x17 env.P 2 = some (.d (.int .i64 0)) := by kernel_rfl
theorem x1bk : (env.P.info? 2).isSome = true := by kernel_rfl
theorem xf4 : env.P.underlying 3 = some (.int .i64) := by kernel_rfl
theorem x1ho : x13 env.P 3 = none := by kernel_rfl
theorem x18m : env.P.cellsOf 3 = 1 := by kernel_rfl
theorem x1mj : x15 env.P 3 = true := by kernel_rfl
theorem x1i6 : x1a env.P 3 = some false := by kernel_rfl
theorem x1n0 : x17 env.P 3 = some (.d (.int .i64 0)) := by kernel_rfl
theorem x18w : (env.P.info? 3).isSome = true := by kernel_rfl
theorem x1h6 : env.P.underlying 4 = some .bool := by kernel_rfl
theorem x1c1 : x13 env.P 4 = none := by kernel_rfl
theorem x1ih : env.P.cellsOf 4 = 1 := by kernel_rfl
theorem x1hp : x15 env.P 4 = true := by kernel_rfl
theorem x1by : x1a env.P 4 = some false := by kernel_rfl
theorem x1ia : x17 env.P 4 = some (.d (.bool false)) := by kernel_rfl
theorem x1i5 : (env.P.info? 4).isSome = true := by kernel_rfl
theorem xb1 : env.P.underlying 5 = some (.int .u8) := by kernel_rfl
theorem x17f : x13 env.P 5 = none := by kernel_rfl
theorem x1aq : env.P.cellsOf 5 = 1 := by kernel_rfl
theorem x1df : x15 env.P 5 = true := by kernel_rfl
theorem x16o : x1a env.P 5 = some false := by kernel_rfl
theorem x1d7 : x17 env.P 5 = some (.d (.int .u8 0)) := by kernel_rfl
theorem x1dx : (env.P.info? 5).isSome = true := by kernel_rfl
theorem x17n : env.P.underlying 9 = some .string := by kernel_rfl
theorem x14l : x13 env.P 9 = none := by kernel_rfl
theorem x186 : env.P.cellsOf 9 = 1 := by kernel_rfl
theorem x176 : x15 env.P 9 = true := by kernel_rfl
theorem x12f : x1a env.P 9 = some false := by kernel_rfl
theorem x178 : x17 env.P 9 = some (.d (.str [])) := by kernel_rfl
theorem x189 : (env.P.info? 9).isSome = true := by kernel_rfl
theorem x13p : env.P.underlying 12 = some (.int .u64) := by kernel_rfl
theorem x11m : x13 env.P 12 = none := by kernel_rfl
theorem x13e : env.P.cellsOf 12 = 1 := by kernel_rfl
theorem x12v : x15 env.P 12 = true := by kernel_rfl
theorem x11v : x1a env.P 12 = some false := by kernel_rfl
theorem x12r : x17 env.P 12 = some (.d (.int .u64 0)) := by kernel_rfl
theorem x14y : (env.P.info? 12).isSome = true := by kernel_rfl
theorem x5o : x6c env.P 13 = true := by kernel_rfl
theorem x8k : xu env.P 13 0 = some (0,9) := by kernel_rfl
theorem x8e : x1g env.P 13 0 = some (0,1) := by kernel_rfl
theorem x8d : xu env.P 13 1 = some (1,12) := by kernel_rfl
theorem x8j : x1g env.P 13 1 = some (1,1) := by kernel_rfl
theorem x90 : x13 env.P 13 = none := by kernel_rfl
theorem x97 : env.P.cellsOf 13 = 2 := by kernel_rfl
theorem x99 : x15 env.P 13 = true := by kernel_rfl
theorem x8z : x1a env.P 13 = some true := by kernel_rfl
theorem x63 : x17 env.P 13 = some (.agg [.d (.str []),.d (.int .u64 0)]) := by kernel_rfl
theorem x9c : (env.P.info? 13).isSome = true := by kernel_rfl
theorem xtz : x13 env.P 20 = none := by kernel_rfl
theorem xyk : env.P.cellsOf 20 = 1 := by kernel_rfl
theorem xxn : x15 env.P 20 = true := by kernel_rfl
theorem xvi : x1a env.P 20 = some false := by kernel_rfl
theorem xwx : x17 env.P 20 = some (.d (.nili)) := by kernel_rfl
theorem xxc : (env.P.info? 20).isSome = true := by kernel_rfl
theorem x1am : env.P.underlying 21 = some (.int .i32) := by kernel_rfl
theorem x177 : x13 env.P 21 = none := by kernel_rfl
theorem x1c3 : env.P.cellsOf 21 = 1 := by kernel_rfl
theorem x1b2 : x15 env.P 21 = true := by kernel_rfl
theorem x180 : x1a env.P 21 = some false := by kernel_rfl
theorem x1at : x17 env.P 21 = some (.d (.int .i32 0)) := by kernel_rfl
theorem x1d8 : (env.P.info? 21).isSome = true := by kernel_rfl
theorem xpn : env.P.underlying 22 = some (.slice 5) := by kernel_rfl
theorem xx7 : x13 env.P 22 = some 5 := by simp only [x13,xpn]
theorem x11d : env.P.cellsOf 22 = 1 := by kernel_rfl
theorem x11k : x15 env.P 22 = true := by kernel_rfl
theorem xxk : x1a env.P 22 = some false := by kernel_rfl
theorem x11u : x17 env.P 22 = some (.d (.nils)) := by kernel_rfl
theorem x11r : (env.P.info? 22).isSome = true := by kernel_rfl
theorem xn2 : env.P.underlying 23 = some (.slice 60) := by kernel_rfl
theorem xvo : x13 env.P 23 = some 60 := by simp only [x13,xn2]
theorem xwr : env.P.cellsOf 23 = 1 := by kernel_rfl
theorem xwp : x15 env.P 23 = true := by kernel_rfl
theorem xuf : x1a env.P 23 = some false := by kernel_rfl
theorem xyb : x17 env.P 23 = some (.d (.nils)) := by kernel_rfl
theorem xye : (env.P.info? 23).isSome = true := by kernel_rfl
theorem xsv : env.P.underlying 24 = some (.slice 4) := by kernel_rfl
theorem x11h : x13 env.P 24 = some 4 := by simp only [x13,xsv]
theorem x136 : env.P.cellsOf 24 = 1 := by kernel_rfl
theorem x12h : x15 env.P 24 = true := by kernel_rfl
theorem x11b : x1a env.P 24 = some false := by kernel_rfl
theorem x14h : x17 env.P 24 = some (.d (.nils)) := by kernel_rfl
theorem x14v : (env.P.info? 24).isSome = true := by kernel_rfl
theorem x2s : x6c env.P 25 = true := by kernel_rfl
theorem x45 : xu env.P 25 0 = some (0,3) := by kernel_rfl
theorem x3x : x1g env.P 25 0 = some (0,1) := by kernel_rfl
theorem x3z : xu env.P 25 1 = some (1,23) := by kernel_rfl
theorem x43 : x1g env.P 25 1 = some (1,1) := by kernel_rfl
theorem x46 : xu env.P 25 2 = some (2,24) := by kernel_rfl
theorem x40 : x1g env.P 25 2 = some (2,1) := by kernel_rfl
theorem x4q : x13 env.P 25 = none := by kernel_rfl
theorem x4y : env.P.cellsOf 25 = 3 := by kernel_rfl
theorem x4x : x15 env.P 25 = true := by kernel_rfl
theorem x4n : x1a env.P 25 = some true := by kernel_rfl
theorem x2t : x17 env.P 25 = some (.agg [.d (.int .i64 0),.d (.nils),.d (.nils)]) := by kernel_rfl
theorem x4w : (env.P.info? 25).isSome = true := by kernel_rfl
theorem xcm : x6c env.P 26 = true := by kernel_rfl
theorem xgy : xu env.P 26 0 = some (0,3) := by kernel_rfl
theorem xgw : x1g env.P 26 0 = some (0,1) := by kernel_rfl
theorem xh4 : xu env.P 26 1 = some (1,23) := by kernel_rfl
theorem xgn : x1g env.P 26 1 = some (1,1) := by kernel_rfl
theorem xgu : xu env.P 26 2 = some (2,24) := by kernel_rfl
theorem xgt : x1g env.P 26 2 = some (2,1) := by kernel_rfl
theorem xkd : x13 env.P 26 = none := by kernel_rfl
theorem xlt : env.P.cellsOf 26 = 3 := by kernel_rfl
theorem xlq : x15 env.P 26 = true := by kernel_rfl
theorem xkh : x1a env.P 26 = some true := by kernel_rfl
theorem xdm : x17 env.P 26 = some (.agg [.d (.int .i64 0),.d (.nils),.d (.nils)]) := by kernel_rfl
theorem xm5 : (env.P.info? 26).isSome = true := by kernel_rfl
theorem xd2 : x6c env.P 38 = true := by kernel_rfl
theorem xgj : xu env.P 38 0 = some (0,3) := by kernel_rfl
theorem xh6 : x1g env.P 38 0 = some (0,1) := by kernel_rfl
theorem xgk : xu env.P 38 1 = some (1,23) := by kernel_rfl
theorem xgp : x1g env.P 38 1 = some (1,1) := by kernel_rfl
theorem xh3 : xu env.P 38 2 = some (2,24) := by kernel_rfl
theorem xh8 : x1g env.P 38 2 = some (2,1) := by kernel_rfl
theorem xjs : x13 env.P 38 = none := by kernel_rfl
theorem xll : env.P.cellsOf 38 = 3 := by kernel_rfl
theorem xlf : x15 env.P 38 = true := by kernel_rfl
theorem xkt : x1a env.P 38 = some true := by kernel_rfl
theorem xdq : x17 env.P 38 = some (.agg [.d (.int .i64 0),.d (.nils),.d (.nils)]) := by kernel_rfl
theorem xle : (env.P.info? 38).isSome = true := by kernel_rfl
theorem xmq : env.P.underlying 40 = some (.slice 9) := by kernel_rfl
theorem xve : x13 env.P 40 = some 9 := by simp only [x13,xmq]
theorem xxa : env.P.cellsOf 40 = 1 := by kernel_rfl
theorem xy1 : x15 env.P 40 = true := by kernel_rfl
theorem xu0 : x1a env.P 40 = some false := by kernel_rfl
theorem xxq : x17 env.P 40 = some (.d (.nils)) := by kernel_rfl
theorem xwu : (env.P.info? 40).isSome = true := by kernel_rfl
theorem xm3 : env.P.underlying 50 = some (.pointer 82) := by kernel_rfl
theorem xjm : x13 env.P 50 = none := by kernel_rfl
theorem xlp : env.P.cellsOf 50 = 1 := by kernel_rfl
theorem xld : x15 env.P 50 = true := by kernel_rfl
theorem xju : x1a env.P 50 = some false := by kernel_rfl
theorem xlk : x17 env.P 50 = some (.d (.nilp)) := by kernel_rfl
theorem xlm : (env.P.info? 50).isSome = true := by kernel_rfl
theorem xku : env.P.underlying 56 = some (.slice 62) := by kernel_rfl
theorem xrf : x13 env.P 56 = some 62 := by simp only [x13,xku]
theorem xvn : env.P.cellsOf 56 = 1 := by kernel_rfl
theorem xue : x15 env.P 56 = true := by kernel_rfl
theorem xsm : x1a env.P 56 = some false := by kernel_rfl
theorem xty : x17 env.P 56 = some (.d (.nils)) := by kernel_rfl
theorem xvd : (env.P.info? 56).isSome = true := by kernel_rfl
theorem xw0 : env.P.underlying 60 = some (.slice 3) := by kernel_rfl
theorem x14p : x13 env.P 60 = some 3 := by simp only [x13,xw0]
theorem x183 : env.P.cellsOf 60 = 1 := by kernel_rfl
theorem x187 : x15 env.P 60 = true := by kernel_rfl
theorem x14q : x1a env.P 60 = some false := by kernel_rfl
theorem x16t : x17 env.P 60 = some (.d (.nils)) := by kernel_rfl
theorem x16h : (env.P.info? 60).isSome = true := by kernel_rfl
theorem xrj : env.P.underlying 62 = some (.array 6 3) := by kernel_rfl
theorem x11c : x13 env.P 62 = none := by kernel_rfl
theorem x13r : env.P.cellsOf 62 = 6 := by kernel_rfl
theorem x14x : x15 env.P 62 = true := by kernel_rfl
theorem x11n : x1a env.P 62 = some true := by kernel_rfl
theorem xsu : x17 env.P 62 = some (.agg [.d (.int .i64 0),.d (.int .i64 0),.d (.int .i64 0),.d (.int .i64 0),.d (.int .i64 0),.d (.int .i64 0)]) := by kernel_rfl
theorem x14g : (env.P.info? 62).isSome = true := by kernel_rfl
theorem x86 : x6c env.P 81 = true := by kernel_rfl
theorem xal : xu env.P 81 0 = some (0,22) := by kernel_rfl
theorem xam : x1g env.P 81 0 = some (0,1) := by kernel_rfl
theorem xaj : xu env.P 81 1 = some (1,3) := by kernel_rfl
theorem xak : x1g env.P 81 1 = some (1,1) := by kernel_rfl
theorem xbg : x13 env.P 81 = none := by kernel_rfl
theorem xbw : env.P.cellsOf 81 = 2 := by kernel_rfl
theorem xc7 : x15 env.P 81 = true := by kernel_rfl
theorem xbe : x1a env.P 81 = some true := by kernel_rfl
theorem x8l : x17 env.P 81 = some (.agg [.d (.nils),.d (.int .i64 0)]) := by kernel_rfl
theorem xc5 : (env.P.info? 81).isSome = true := by kernel_rfl
theorem xi6 : x6c env.P 82 = true := by kernel_rfl
theorem xo6 : xu env.P 82 0 = some (0,22) := by kernel_rfl
theorem xp4 : x1g env.P 82 0 = some (0,1) := by kernel_rfl
theorem xny : xu env.P 82 1 = some (1,3) := by kernel_rfl
theorem xok : x1g env.P 82 1 = some (1,1) := by kernel_rfl
theorem xs7 : x13 env.P 82 = none := by kernel_rfl
theorem xvc : env.P.cellsOf 82 = 2 := by kernel_rfl
theorem xv5 : x15 env.P 82 = true := by kernel_rfl
theorem xtq : x1a env.P 82 = some true := by kernel_rfl
theorem xjd : x17 env.P 82 = some (.agg [.d (.nils),.d (.int .i64 0)]) := by kernel_rfl
theorem xur : (env.P.info? 82).isSome = true := by kernel_rfl
theorem xb8 : env.P.underlying 91 = some (.slice 26) := by kernel_rfl
theorem xfx : x13 env.P 91 = some 26 := by simp only [x13,xb8]
theorem xgs : env.P.cellsOf 91 = 1 := by kernel_rfl
theorem xhd : x15 env.P 91 = true := by kernel_rfl
theorem xfr : x1a env.P 91 = some false := by kernel_rfl
theorem xgh : x17 env.P 91 = some (.d (.nils)) := by kernel_rfl
theorem xha : (env.P.info? 91).isSome = true := by kernel_rfl
theorem xdr : env.P.underlying 92 = some (.slice 140) := by kernel_rfl
theorem xk5 : x13 env.P 92 = some 140 := by simp only [x13,xdr]
theorem xlw : env.P.cellsOf 92 = 1 := by kernel_rfl
theorem xlz : x15 env.P 92 = true := by kernel_rfl
theorem xk0 : x1a env.P 92 = some false := by kernel_rfl
theorem xlx : x17 env.P 92 = some (.d (.nils)) := by kernel_rfl
theorem xlc : (env.P.info? 92).isSome = true := by kernel_rfl
theorem x10 : x6c env.P 93 = true := by kernel_rfl
theorem x1j : xu env.P 93 0 = some (0,92) := by kernel_rfl
theorem x1l : x1g env.P 93 0 = some (0,1) := by kernel_rfl
theorem x1k : xu env.P 93 1 = some (1,91) := by kernel_rfl
theorem x1p : x1g env.P 93 1 = some (1,1) := by kernel_rfl
theorem x1i : xu env.P 93 2 = some (2,60) := by kernel_rfl
theorem x1u : x1g env.P 93 2 = some (2,1) := by kernel_rfl
theorem x1n : xu env.P 93 3 = some (3,3) := by kernel_rfl
theorem x1r : x1g env.P 93 3 = some (3,1) := by kernel_rfl
theorem x1s : xu env.P 93 4 = some (4,3) := by kernel_rfl
theorem x1q : x1g env.P 93 4 = some (4,1) := by kernel_rfl
theorem x1o : xu env.P 93 5 = some (5,3) := by kernel_rfl
theorem x1m : x1g env.P 93 5 = some (5,1) := by kernel_rfl
theorem x1w : x13 env.P 93 = none := by kernel_rfl
theorem x1z : env.P.cellsOf 93 = 6 := by kernel_rfl
theorem x1y : x15 env.P 93 = true := by kernel_rfl
theorem x1v : x1a env.P 93 = some true := by kernel_rfl
theorem x11 : x17 env.P 93 = some (.agg [.d (.nils),.d (.nils),.d (.nils),.d (.int .i64 0),.d (.int .i64 0),.d (.int .i64 0)]) := by kernel_rfl
theorem x20 : (env.P.info? 93).isSome = true := by kernel_rfl
theorem xig : x6c env.P 94 = true := by kernel_rfl
theorem xop : xu env.P 94 0 = some (0,92) := by kernel_rfl
theorem xns : x1g env.P 94 0 = some (0,1) := by kernel_rfl
theorem xox : xu env.P 94 1 = some (1,91) := by kernel_rfl
theorem xol : x1g env.P 94 1 = some (1,1) := by kernel_rfl
theorem xo0 : xu env.P 94 2 = some (2,60) := by kernel_rfl
theorem xoc : x1g env.P 94 2 = some (2,1) := by kernel_rfl
theorem xo2 : xu env.P 94 3 = some (3,3) := by kernel_rfl
theorem xoj : x1g env.P 94 3 = some (3,1) := by kernel_rfl
theorem xoy : xu env.P 94 4 = some (4,3) := by kernel_rfl
theorem xoi : x1g env.P 94 4 = some (4,1) := by kernel_rfl
theorem xow : xu env.P 94 5 = some (5,3) := by kernel_rfl
theorem xom : x1g env.P 94 5 = some (5,1) := by kernel_rfl
theorem xs0 : x13 env.P 94 = none := by kernel_rfl
theorem xuy : env.P.cellsOf 94 = 6 := by kernel_rfl
theorem xud : x15 env.P 94 = true := by kernel_rfl
theorem xrt : x1a env.P 94 = some true := by kernel_rfl
theorem xjv : x17 env.P 94 = some (.agg [.d (.nils),.d (.nils),.d (.nils),.d (.int .i64 0),.d (.int .i64 0),.d (.int .i64 0)]) := by kernel_rfl
theorem xv6 : (env.P.info? 94).isSome = true := by kernel_rfl
theorem xcf : env.P.underlying 103 = some (.int .u64) := by kernel_rfl
theorem x1bm : x13 env.P 103 = none := by kernel_rfl
theorem x1fq : env.P.cellsOf 103 = 1 := by kernel_rfl
theorem x1fr : x15 env.P 103 = true := by kernel_rfl
theorem x1b4 : x1a env.P 103 = some false := by kernel_rfl
theorem x1hu : x17 env.P 103 = some (.d (.int .u64 0)) := by kernel_rfl
theorem x1ga : (env.P.info? 103).isSome = true := by kernel_rfl
theorem xg9 : env.P.underlying 110 = some (.slice 23) := by kernel_rfl
theorem xnt : x13 env.P 110 = some 23 := by simp only [x13,xg9]
theorem xq5 : env.P.cellsOf 110 = 1 := by kernel_rfl
theorem xqa : x15 env.P 110 = true := by kernel_rfl
theorem xoe : x1a env.P 110 = some false := by kernel_rfl
theorem xqi : x17 env.P 110 = some (.d (.nils)) := by kernel_rfl
theorem xq1 : (env.P.info? 110).isSome = true := by kernel_rfl
theorem xgq : env.P.underlying 121 = some (.int .i64) := by kernel_rfl
theorem xfz : x13 env.P 121 = none := by kernel_rfl
theorem xgz : env.P.cellsOf 121 = 1 := by kernel_rfl
theorem xgl : x15 env.P 121 = true := by kernel_rfl
theorem xg1 : x1a env.P 121 = some false := by kernel_rfl
theorem xh2 : x17 env.P 121 = some (.d (.int .i64 0)) := by kernel_rfl
theorem xgo : (env.P.info? 121).isSome = true := by kernel_rfl
theorem x17p : env.P.underlying 129 = some (.int .u32) := by kernel_rfl
theorem x152 : x13 env.P 129 = none := by kernel_rfl
theorem x17b : env.P.cellsOf 129 = 1 := by kernel_rfl
theorem x18b : x15 env.P 129 = true := by kernel_rfl
theorem x154 : x1a env.P 129 = some false := by kernel_rfl
theorem x16w : x17 env.P 129 = some (.d (.int .u32 0)) := by kernel_rfl
theorem x16c : (env.P.info? 129).isSome = true := by kernel_rfl
theorem x17a : env.P.underlying 131 = some (.int .u64) := by kernel_rfl
theorem x14r : x13 env.P 131 = none := by kernel_rfl
theorem x175 : env.P.cellsOf 131 = 1 := by kernel_rfl
theorem x16q : x15 env.P 131 = true := by kernel_rfl
theorem x137 : x1a env.P 131 = some false := by kernel_rfl
theorem x17c : x17 env.P 131 = some (.d (.int .u64 0)) := by kernel_rfl
theorem x16s : (env.P.info? 131).isSome = true := by kernel_rfl
theorem xg6 : env.P.underlying 138 = some (.slice 159) := by kernel_rfl
theorem xon : x13 env.P 138 = some 159 := by simp only [x13,xg6]
theorem xq9 : env.P.cellsOf 138 = 1 := by kernel_rfl
theorem xqh : x15 env.P 138 = true := by kernel_rfl
theorem xp3 : x1a env.P 138 = some false := by kernel_rfl
theorem xq2 : x17 env.P 138 = some (.d (.nils)) := by kernel_rfl
theorem xqf : (env.P.info? 138).isSome = true := by kernel_rfl
theorem x2r : x6c env.P 139 = true := by kernel_rfl
theorem x44 : xu env.P 139 0 = some (0,3) := by kernel_rfl
theorem x3y : x1g env.P 139 0 = some (0,1) := by kernel_rfl
theorem x41 : xu env.P 139 1 = some (1,3) := by kernel_rfl
theorem x3w : x1g env.P 139 1 = some (1,1) := by kernel_rfl
theorem x3v : xu env.P 139 2 = some (2,138) := by kernel_rfl
theorem x42 : x1g env.P 139 2 = some (2,1) := by kernel_rfl
theorem x4m : x13 env.P 139 = none := by kernel_rfl
theorem x4v : env.P.cellsOf 139 = 3 := by kernel_rfl
theorem x4u : x15 env.P 139 = true := by kernel_rfl
theorem x4p : x1a env.P 139 = some true := by kernel_rfl
theorem x2u : x17 env.P 139 = some (.agg [.d (.int .i64 0),.d (.int .i64 0),.d (.nils)]) := by kernel_rfl
theorem x4t : (env.P.info? 139).isSome = true := by kernel_rfl
theorem xg7 : x6c env.P 140 = true := by kernel_rfl
theorem xlr : xu env.P 140 0 = some (0,3) := by kernel_rfl
theorem xli : x1g env.P 140 0 = some (0,1) := by kernel_rfl
theorem xlv : xu env.P 140 1 = some (1,3) := by kernel_rfl
theorem xlu : x1g env.P 140 1 = some (1,1) := by kernel_rfl
theorem xm1 : xu env.P 140 2 = some (2,138) := by kernel_rfl
theorem xm4 : x1g env.P 140 2 = some (2,1) := by kernel_rfl
theorem xpw : x13 env.P 140 = none := by kernel_rfl
theorem xt5 : env.P.cellsOf 140 = 3 := by kernel_rfl
theorem xsg : x15 env.P 140 = true := by kernel_rfl
theorem xq8 : x1a env.P 140 = some true := by kernel_rfl
theorem xi4 : x17 env.P 140 = some (.agg [.d (.int .i64 0),.d (.int .i64 0),.d (.nils)]) := by kernel_rfl
theorem xrk : (env.P.info? 140).isSome = true := by kernel_rfl
theorem xan : env.P.underlying 144 = some (.slice 146) := by kernel_rfl
theorem xed : x13 env.P 144 = some 146 := by simp only [x13,xan]
theorem xg5 : env.P.cellsOf 144 = 1 := by kernel_rfl
theorem xfv : x15 env.P 144 = true := by kernel_rfl
theorem xec : x1a env.P 144 = some false := by kernel_rfl
theorem xg3 : x17 env.P 144 = some (.d (.nils)) := by kernel_rfl
theorem xg4 : (env.P.info? 144).isSome = true := by kernel_rfl
theorem x3h : x6c env.P 145 = true := by kernel_rfl
theorem x5f : xu env.P 145 0 = some (0,3) := by kernel_rfl
theorem x5i : x1g env.P 145 0 = some (0,1) := by kernel_rfl
theorem x5g : xu env.P 145 1 = some (1,3) := by kernel_rfl
theorem x5h : x1g env.P 145 1 = some (1,1) := by kernel_rfl
theorem x5j : xu env.P 145 2 = some (2,60) := by kernel_rfl
theorem x5k : x1g env.P 145 2 = some (2,1) := by kernel_rfl
theorem x5y : x13 env.P 145 = none := by kernel_rfl
theorem x69 : env.P.cellsOf 145 = 3 := by kernel_rfl
theorem x68 : x15 env.P 145 = true := by kernel_rfl
theorem x5w : x1a env.P 145 = some true := by kernel_rfl
theorem x3n : x17 env.P 145 = some (.agg [.d (.int .i64 0),.d (.int .i64 0),.d (.nils)]) := by kernel_rfl
theorem x6a : (env.P.info? 145).isSome = true := by kernel_rfl
theorem xbx : x6c env.P 146 = true := by kernel_rfl
theorem xft : xu env.P 146 0 = some (0,3) := by kernel_rfl
theorem xfu : x1g env.P 146 0 = some (0,1) := by kernel_rfl
theorem xg0 : xu env.P 146 1 = some (1,3) := by kernel_rfl
theorem xfw : x1g env.P 146 1 = some (1,1) := by kernel_rfl
theorem xfs : xu env.P 146 2 = some (2,60) := by kernel_rfl
theorem xg2 : x1g env.P 146 2 = some (2,1) := by kernel_rfl
theorem xiy : x13 env.P 146 = none := by kernel_rfl
theorem xk8 : env.P.cellsOf 146 = 3 := by kernel_rfl
theorem xka : x15 env.P 146 = true := by kernel_rfl
theorem xj6 : x1a env.P 146 = some true := by kernel_rfl
theorem xcw : x17 env.P 146 = some (.agg [.d (.int .i64 0),.d (.int .i64 0),.d (.nils)]) := by kernel_rfl
theorem xk2 : (env.P.info? 146).isSome = true := by kernel_rfl
theorem xjw : env.P.underlying 149 = some (.int .u64) := by kernel_rfl
theorem xj5 : x13 env.P 149 = none := by kernel_rfl
theorem xky : env.P.cellsOf 149 = 1 := by kernel_rfl
theorem xji : x15 env.P 149 = true := by kernel_rfl
theorem xil : x1a env.P 149 = some false := by kernel_rfl
theorem xkb : x17 env.P 149 = some (.d (.int .u64 0)) := by kernel_rfl
theorem xjq : (env.P.info? 149).isSome = true := by kernel_rfl
theorem x12z : env.P.underlying 153 = some (.pointer 3) := by kernel_rfl
theorem x11x : x13 env.P 153 = none := by kernel_rfl
theorem x143 : env.P.cellsOf 153 = 1 := by kernel_rfl
theorem x12d : x15 env.P 153 = true := by kernel_rfl
theorem x10y : x1a env.P 153 = some false := by kernel_rfl
theorem x127 : x17 env.P 153 = some (.d (.nilp)) := by kernel_rfl
theorem x12k : (env.P.info? 153).isSome = true := by kernel_rfl
theorem xe9 : env.P.underlying 156 = some (.pointer 149) := by kernel_rfl
theorem xe1 : x13 env.P 156 = none := by kernel_rfl
theorem xer : env.P.cellsOf 156 = 1 := by kernel_rfl
theorem xel : x15 env.P 156 = true := by kernel_rfl
theorem xe7 : x1a env.P 156 = some false := by kernel_rfl
theorem xep : x17 env.P 156 = some (.d (.nilp)) := by kernel_rfl
theorem xei : (env.P.info? 156).isSome = true := by kernel_rfl
theorem x50 : x6c env.P 158 = true := by kernel_rfl
theorem x78 : xu env.P 158 0 = some (0,3) := by kernel_rfl
theorem x79 : x1g env.P 158 0 = some (0,1) := by kernel_rfl
theorem x7a : xu env.P 158 1 = some (1,3) := by kernel_rfl
theorem x7c : x1g env.P 158 1 = some (1,1) := by kernel_rfl
theorem x7b : xu env.P 158 2 = some (2,3) := by kernel_rfl
theorem x77 : x1g env.P 158 2 = some (2,1) := by kernel_rfl
theorem x81 : x13 env.P 158 = none := by kernel_rfl
theorem x8i : env.P.cellsOf 158 = 3 := by kernel_rfl
theorem x8h : x15 env.P 158 = true := by kernel_rfl
theorem x82 : x1a env.P 158 = some true := by kernel_rfl
theorem x5a : x17 env.P 158 = some (.agg [.d (.int .i64 0),.d (.int .i64 0),.d (.int .i64 0)]) := by kernel_rfl
theorem x8g : (env.P.info? 158).isSome = true := by kernel_rfl
theorem xjn : x6c env.P 159 = true := by kernel_rfl
theorem xq0 : xu env.P 159 0 = some (0,3) := by kernel_rfl
theorem xpx : x1g env.P 159 0 = some (0,1) := by kernel_rfl
theorem xqc : xu env.P 159 1 = some (1,3) := by kernel_rfl
theorem xpu : x1g env.P 159 1 = some (1,1) := by kernel_rfl
theorem xqg : xu env.P 159 2 = some (2,3) := by kernel_rfl
theorem xqj : x1g env.P 159 2 = some (2,1) := by kernel_rfl
theorem xuh : x13 env.P 159 = none := by kernel_rfl
theorem xwk : env.P.cellsOf 159 = 3 := by kernel_rfl
theorem xwq : x15 env.P 159 = true := by kernel_rfl
theorem xuz : x1a env.P 159 = some true := by kernel_rfl
theorem xml : x17 env.P 159 = some (.agg [.d (.int .i64 0),.d (.int .i64 0),.d (.int .i64 0)]) := by kernel_rfl
theorem xy2 : (env.P.info? 159).isSome = true := by kernel_rfl
theorem xy9 : env.P.underlying 170 = some (.pointer 5) := by kernel_rfl
theorem xu9 : x13 env.P 170 = none := by kernel_rfl
theorem xy6 : env.P.cellsOf 170 = 1 := by kernel_rfl
theorem xx3 : x15 env.P 170 = true := by kernel_rfl
theorem xvl : x1a env.P 170 = some false := by kernel_rfl
theorem xy7 : x17 env.P 170 = some (.d (.nilp)) := by kernel_rfl
theorem xxu : (env.P.info? 170).isSome = true := by kernel_rfl
theorem xl1 : x13 env.P 175 = none := by kernel_rfl
theorem xm2 : env.P.cellsOf 175 = 1 := by kernel_rfl
theorem xlj : x15 env.P 175 = true := by kernel_rfl
theorem xkm : x1a env.P 175 = some false := by kernel_rfl
theorem xly : x17 env.P 175 = some (.d (.nilp)) := by kernel_rfl
theorem xlb : (env.P.info? 175).isSome = true := by kernel_rfl
theorem x93 : ∀ parts,x5t env.P 13 parts = (x3m (xj (.agg [.d (.str []),.d (.int .u64 0)])) (parts.map fun p => (x1g env.P 13 p.1,p.2))).map .agg := fun _ => x3b x5o x63
theorem x4o : ∀ parts,x5t env.P 25 parts = (x3m (xj (.agg [.d (.int .i64 0),.d (.nils),.d (.nils)])) (parts.map fun p => (x1g env.P 25 p.1,p.2))).map .agg := fun _ => x3b x2s x2t
theorem xkr : ∀ parts,x5t env.P 26 parts = (x3m (xj (.agg [.d (.int .i64 0),.d (.nils),.d (.nils)])) (parts.map fun p => (x1g env.P 26 p.1,p.2))).map .agg := fun _ => x3b xcm xdm
theorem xkz : ∀ parts,x5t env.P 38 parts = (x3m (xj (.agg [.d (.int .i64 0),.d (.nils),.d (.nils)])) (parts.map fun p => (x1g env.P 38 p.1,p.2))).map .agg := fun _ => x3b xd2 xdq
theorem x115 : ∀ parts,x5t env.P 62 parts = (x3m (xj (.agg [.d (.int .i64 0),.d (.int .i64 0),.d (.int .i64 0),.d (.int .i64 0),.d (.int .i64 0),.d (.int .i64 0)])) (parts.map fun p => (some (p.1 * 1,1),p.2))).map .agg := fun _ => x1kh xrj xsu x18w x18m
theorem xbf : ∀ parts,x5t env.P 81 parts = (x3m (xj (.agg [.d (.nils),.d (.int .i64 0)])) (parts.map fun p => (x1g env.P 81 p.1,p.2))).map .agg := fun _ => x3b x86 x8l
theorem xsq : ∀ parts,x5t env.P 82 parts = (x3m (xj (.agg [.d (.nils),.d (.int .i64 0)])) (parts.map fun p => (x1g env.P 82 p.1,p.2))).map .agg := fun _ => x3b xi6 xjd
theorem x1x : ∀ parts,x5t env.P 93 parts = (x3m (xj (.agg [.d (.nils),.d (.nils),.d (.nils),.d (.int .i64 0),.d (.int .i64 0),.d (.int .i64 0)])) (parts.map fun p => (x1g env.P 93 p.1,p.2))).map .agg := fun _ => x3b x10 x11
theorem xtb : ∀ parts,x5t env.P 94 parts = (x3m (xj (.agg [.d (.nils),.d (.nils),.d (.nils),.d (.int .i64 0),.d (.int .i64 0),.d (.int .i64 0)])) (parts.map fun p => (x1g env.P 94 p.1,p.2))).map .agg := fun _ => x3b xig xjv
theorem x4r : ∀ parts,x5t env.P 139 parts = (x3m (xj (.agg [.d (.int .i64 0),.d (.int .i64 0),.d (.nils)])) (parts.map fun p => (x1g env.P 139 p.1,p.2))).map .agg := fun _ => x3b x2r x2u
theorem xqe : ∀ parts,x5t env.P 140 parts = (x3m (xj (.agg [.d (.int .i64 0),.d (.int .i64 0),.d (.nils)])) (parts.map fun p => (x1g env.P 140 p.1,p.2))).map .agg := fun _ => x3b xg7 xi4
theorem x5x : ∀ parts,x5t env.P 145 parts = (x3m (xj (.agg [.d (.int .i64 0),.d (.int .i64 0),.d (.nils)])) (parts.map fun p => (x1g env.P 145 p.1,p.2))).map .agg := fun _ => x3b x3h x3n
theorem xis : ∀ parts,x5t env.P 146 parts = (x3m (xj (.agg [.d (.int .i64 0),.d (.int .i64 0),.d (.nils)])) (parts.map fun p => (x1g env.P 146 p.1,p.2))).map .agg := fun _ => x3b xbx xcw
theorem x83 : ∀ parts,x5t env.P 158 parts = (x3m (xj (.agg [.d (.int .i64 0),.d (.int .i64 0),.d (.int .i64 0)])) (parts.map fun p => (x1g env.P 158 p.1,p.2))).map .agg := fun _ => x3b x50 x5a
theorem xv7 : ∀ parts,x5t env.P 159 parts = (x3m (xj (.agg [.d (.int .i64 0),.d (.int .i64 0),.d (.int .i64 0)])) (parts.map fun p => (x1g env.P 159 p.1,p.2))).map .agg := fun _ => x3b xjn xml
theorem x119 {h : H} {n : Int} {K : IntKind} : x4e env.P h 3 3 (.d (.int K n)) = some (.d (.int .i64 (IntKind.wrap .i64 n)),h) := x91 xf4 xf4
theorem xux {h : H} {n : Int} {K : IntKind} : x4e env.P h 3 5 (.d (.int K n)) = some (.d (.int .u8 (IntKind.wrap .u8 n)),h) := x91 xf4 xb1
theorem xyg {h : H} {n : Int} {K : IntKind} : x4e env.P h 3 103 (.d (.int K n)) = some (.d (.int .u64 (IntKind.wrap .u64 n)),h) := x91 xf4 xcf
theorem xvj {h : H} {n : Int} {K : IntKind} : x4e env.P h 5 3 (.d (.int K n)) = some (.d (.int .i64 (IntKind.wrap .i64 n)),h) := x91 xb1 xf4
theorem xqd {h : H} {n : Int} {K : IntKind} : x4e env.P h 5 5 (.d (.int K n)) = some (.d (.int .u8 (IntKind.wrap .u8 n)),h) := x91 xb1 xb1
theorem xrr {h : H} {n : Int} {K : IntKind} : x4e env.P h 5 103 (.d (.int K n)) = some (.d (.int .u64 (IntKind.wrap .u64 n)),h) := x91 xb1 xcf
theorem xy3 {h : H} {n : Int} {K : IntKind} : x4e env.P h 103 3 (.d (.int K n)) = some (.d (.int .i64 (IntKind.wrap .i64 n)),h) := x91 xcf xf4
theorem xrl {h : H} {n : Int} {K : IntKind} : x4e env.P h 103 5 (.d (.int K n)) = some (.d (.int .u8 (IntKind.wrap .u8 n)),h) := x91 xcf xb1
theorem xvh {h : H} {n : Int} {K : IntKind} : x4e env.P h 103 103 (.d (.int K n)) = some (.d (.int .u64 (IntKind.wrap .u64 n)),h) := x91 xcf xcf
theorem TY0 : type_of% (AI @x1bi (AI @x17t (AI @x1cw (AI @x1dp (AI @x16n (AI @x1ab (AI @x1bk (AI @xf4 (AI @x1ho (AI @x18m (AI @x1mj (AI @x1i6 (AI @x1n0 (AI @x18w (AI @x1h6 (AI @x1c1 (AI @x1ih (AI @x1hp (AI @x1by (AI @x1ia (AI @x1i5 (AI @xb1 (AI @x17f (AI @x1aq (AI @x1df (AI @x16o (AI @x1d7 (AI @x1dx (AI @x17n (AI @x14l (AI @x186 (AI @x176 (AI @x12f (AI @x178 (AI @x189 (AI @x13p (AI @x11m (AI @x13e (AI @x12v @x11v))))))))))))))))))))))))))))))))))))))) :=
 ⟨@x1bi,@x17t,@x1cw,@x1dp,@x16n,@x1ab,@x1bk,@xf4,@x1ho,@x18m,@x1mj,@x1i6,@x1n0,@x18w,@x1h6,@x1c1,@x1ih,@x1hp,@x1by,@x1ia,@x1i5,@xb1,@x17f,@x1aq,@x1df,@x16o,@x1d7,@x1dx,@x17n,@x14l,@x186,@x176,@x12f,@x178,@x189,@x13p,@x11m,@x13e,@x12v,@x11v⟩
theorem TY1 : type_of% (AI @x12r (AI @x14y (AI @x5o (AI @x8k (AI @x8e (AI @x8d (AI @x8j (AI @x90 (AI @x97 (AI @x99 (AI @x8z (AI @x63 (AI @x93 (AI @x9c (AI @xtz (AI @xyk (AI @xxn (AI @xvi (AI @xwx (AI @xxc (AI @x1am (AI @x177 (AI @x1c3 (AI @x1b2 (AI @x180 (AI @x1at (AI @x1d8 (AI @xpn (AI @xx7 (AI @x11d (AI @x11k (AI @xxk (AI @x11u (AI @x11r (AI @xn2 (AI @xvo (AI @xwr (AI @xwp (AI @xuf @xyb))))))))))))))))))))))))))))))))))))))) :=
 ⟨@x12r,@x14y,@x5o,@x8k,@x8e,@x8d,@x8j,@x90,@x97,@x99,@x8z,@x63,@x93,@x9c,@xtz,@xyk,@xxn,@xvi,@xwx,@xxc,@x1am,@x177,@x1c3,@x1b2,@x180,@x1at,@x1d8,@xpn,@xx7,@x11d,@x11k,@xxk,@x11u,@x11r,@xn2,@xvo,@xwr,@xwp,@xuf,@xyb⟩
theorem TY2 : type_of% (AI @xye (AI @xsv (AI @x11h (AI @x136 (AI @x12h (AI @x11b (AI @x14h (AI @x14v (AI @x2s (AI @x45 (AI @x3x (AI @x3z (AI @x43 (AI @x46 (AI @x40 (AI @x4q (AI @x4y (AI @x4x (AI @x4n (AI @x2t (AI @x4o (AI @x4w (AI @xcm (AI @xgy (AI @xgw (AI @xh4 (AI @xgn (AI @xgu (AI @xgt (AI @xkd (AI @xlt (AI @xlq (AI @xkh (AI @xdm (AI @xkr (AI @xm5 (AI @xd2 (AI @xgj (AI @xh6 @xgk))))))))))))))))))))))))))))))))))))))) :=
 ⟨@xye,@xsv,@x11h,@x136,@x12h,@x11b,@x14h,@x14v,@x2s,@x45,@x3x,@x3z,@x43,@x46,@x40,@x4q,@x4y,@x4x,@x4n,@x2t,@x4o,@x4w,@xcm,@xgy,@xgw,@xh4,@xgn,@xgu,@xgt,@xkd,@xlt,@xlq,@xkh,@xdm,@xkr,@xm5,@xd2,@xgj,@xh6,@xgk⟩
theorem TY3 : type_of% (AI @xgp (AI @xh3 (AI @xh8 (AI @xjs (AI @xll (AI @xlf (AI @xkt (AI @xdq (AI @xkz (AI @xle (AI @xmq (AI @xve (AI @xxa (AI @xy1 (AI @xu0 (AI @xxq (AI @xwu (AI @xm3 (AI @xjm (AI @xlp (AI @xld (AI @xju (AI @xlk (AI @xlm (AI @xku (AI @xrf (AI @xvn (AI @xue (AI @xsm (AI @xty (AI @xvd (AI @xw0 (AI @x14p (AI @x183 (AI @x187 (AI @x14q (AI @x16t (AI @x16h (AI @xrj @x11c))))))))))))))))))))))))))))))))))))))) :=
 ⟨@xgp,@xh3,@xh8,@xjs,@xll,@xlf,@xkt,@xdq,@xkz,@xle,@xmq,@xve,@xxa,@xy1,@xu0,@xxq,@xwu,@xm3,@xjm,@xlp,@xld,@xju,@xlk,@xlm,@xku,@xrf,@xvn,@xue,@xsm,@xty,@xvd,@xw0,@x14p,@x183,@x187,@x14q,@x16t,@x16h,@xrj,@x11c⟩
theorem TY4 : type_of% (AI @x13r (AI @x14x (AI @x11n (AI @xsu (AI @x115 (AI @x14g (AI @x86 (AI @xal (AI @xam (AI @xaj (AI @xak (AI @xbg (AI @xbw (AI @xc7 (AI @xbe (AI @x8l (AI @xbf (AI @xc5 (AI @xi6 (AI @xo6 (AI @xp4 (AI @xny (AI @xok (AI @xs7 (AI @xvc (AI @xv5 (AI @xtq (AI @xjd (AI @xsq (AI @xur (AI @xb8 (AI @xfx (AI @xgs (AI @xhd (AI @xfr (AI @xgh (AI @xha (AI @xdr (AI @xk5 @xlw))))))))))))))))))))))))))))))))))))))) :=
 ⟨@x13r,@x14x,@x11n,@xsu,@x115,@x14g,@x86,@xal,@xam,@xaj,@xak,@xbg,@xbw,@xc7,@xbe,@x8l,@xbf,@xc5,@xi6,@xo6,@xp4,@xny,@xok,@xs7,@xvc,@xv5,@xtq,@xjd,@xsq,@xur,@xb8,@xfx,@xgs,@xhd,@xfr,@xgh,@xha,@xdr,@xk5,@xlw⟩
theorem TY5 : type_of% (AI @xlz (AI @xk0 (AI @xlx (AI @xlc (AI @x10 (AI @x1j (AI @x1l (AI @x1k (AI @x1p (AI @x1i (AI @x1u (AI @x1n (AI @x1r (AI @x1s (AI @x1q (AI @x1o (AI @x1m (AI @x1w (AI @x1z (AI @x1y (AI @x1v (AI @x11 (AI @x1x (AI @x20 (AI @xig (AI @xop (AI @xns (AI @xox (AI @xol (AI @xo0 (AI @xoc (AI @xo2 (AI @xoj (AI @xoy (AI @xoi (AI @xow (AI @xom (AI @xs0 (AI @xuy @xud))))))))))))))))))))))))))))))))))))))) :=
 ⟨@xlz,@xk0,@xlx,@xlc,@x10,@x1j,@x1l,@x1k,@x1p,@x1i,@x1u,@x1n,@x1r,@x1s,@x1q,@x1o,@x1m,@x1w,@x1z,@x1y,@x1v,@x11,@x1x,@x20,@xig,@xop,@xns,@xox,@xol,@xo0,@xoc,@xo2,@xoj,@xoy,@xoi,@xow,@xom,@xs0,@xuy,@xud⟩
theorem TY6 : type_of% (AI @xrt (AI @xjv (AI @xtb (AI @xv6 (AI @xcf (AI @x1bm (AI @x1fq (AI @x1fr (AI @x1b4 (AI @x1hu (AI @x1ga (AI @xg9 (AI @xnt (AI @xq5 (AI @xqa (AI @xoe (AI @xqi (AI @xq1 (AI @xgq (AI @xfz (AI @xgz (AI @xgl (AI @xg1 (AI @xh2 (AI @xgo (AI @x17p (AI @x152 (AI @x17b (AI @x18b (AI @x154 (AI @x16w (AI @x16c (AI @x17a (AI @x14r (AI @x175 (AI @x16q (AI @x137 (AI @x17c (AI @x16s @xg6))))))))))))))))))))))))))))))))))))))) :=
 ⟨@xrt,@xjv,@xtb,@xv6,@xcf,@x1bm,@x1fq,@x1fr,@x1b4,@x1hu,@x1ga,@xg9,@xnt,@xq5,@xqa,@xoe,@xqi,@xq1,@xgq,@xfz,@xgz,@xgl,@xg1,@xh2,@xgo,@x17p,@x152,@x17b,@x18b,@x154,@x16w,@x16c,@x17a,@x14r,@x175,@x16q,@x137,@x17c,@x16s,@xg6⟩
theorem TY7 : type_of% (AI @xon (AI @xq9 (AI @xqh (AI @xp3 (AI @xq2 (AI @xqf (AI @x2r (AI @x44 (AI @x3y (AI @x41 (AI @x3w (AI @x3v (AI @x42 (AI @x4m (AI @x4v (AI @x4u (AI @x4p (AI @x2u (AI @x4r (AI @x4t (AI @xg7 (AI @xlr (AI @xli (AI @xlv (AI @xlu (AI @xm1 (AI @xm4 (AI @xpw (AI @xt5 (AI @xsg (AI @xq8 (AI @xi4 (AI @xqe (AI @xrk (AI @xan (AI @xed (AI @xg5 (AI @xfv (AI @xec @xg3))))))))))))))))))))))))))))))))))))))) :=
 ⟨@xon,@xq9,@xqh,@xp3,@xq2,@xqf,@x2r,@x44,@x3y,@x41,@x3w,@x3v,@x42,@x4m,@x4v,@x4u,@x4p,@x2u,@x4r,@x4t,@xg7,@xlr,@xli,@xlv,@xlu,@xm1,@xm4,@xpw,@xt5,@xsg,@xq8,@xi4,@xqe,@xrk,@xan,@xed,@xg5,@xfv,@xec,@xg3⟩
theorem TY8 : type_of% (AI @xg4 (AI @x3h (AI @x5f (AI @x5i (AI @x5g (AI @x5h (AI @x5j (AI @x5k (AI @x5y (AI @x69 (AI @x68 (AI @x5w (AI @x3n (AI @x5x (AI @x6a (AI @xbx (AI @xft (AI @xfu (AI @xg0 (AI @xfw (AI @xfs (AI @xg2 (AI @xiy (AI @xk8 (AI @xka (AI @xj6 (AI @xcw (AI @xis (AI @xk2 (AI @xjw (AI @xj5 (AI @xky (AI @xji (AI @xil (AI @xkb (AI @xjq (AI @x12z (AI @x11x (AI @x143 @x12d))))))))))))))))))))))))))))))))))))))) :=
 ⟨@xg4,@x3h,@x5f,@x5i,@x5g,@x5h,@x5j,@x5k,@x5y,@x69,@x68,@x5w,@x3n,@x5x,@x6a,@xbx,@xft,@xfu,@xg0,@xfw,@xfs,@xg2,@xiy,@xk8,@xka,@xj6,@xcw,@xis,@xk2,@xjw,@xj5,@xky,@xji,@xil,@xkb,@xjq,@x12z,@x11x,@x143,@x12d⟩
theorem TY9 : type_of% (AI @x10y (AI @x127 (AI @x12k (AI @xe9 (AI @xe1 (AI @xer (AI @xel (AI @xe7 (AI @xep (AI @xei (AI @x50 (AI @x78 (AI @x79 (AI @x7a (AI @x7c (AI @x7b (AI @x77 (AI @x81 (AI @x8i (AI @x8h (AI @x82 (AI @x5a (AI @x83 (AI @x8g (AI @xjn (AI @xq0 (AI @xpx (AI @xqc (AI @xpu (AI @xqg (AI @xqj (AI @xuh (AI @xwk (AI @xwq (AI @xuz (AI @xml (AI @xv7 (AI @xy2 (AI @xy9 @xu9))))))))))))))))))))))))))))))))))))))) :=
 ⟨@x10y,@x127,@x12k,@xe9,@xe1,@xer,@xel,@xe7,@xep,@xei,@x50,@x78,@x79,@x7a,@x7c,@x7b,@x77,@x81,@x8i,@x8h,@x82,@x5a,@x83,@x8g,@xjn,@xq0,@xpx,@xqc,@xpu,@xqg,@xqj,@xuh,@xwk,@xwq,@xuz,@xml,@xv7,@xy2,@xy9,@xu9⟩
theorem TY10 : type_of% (AI @xy6 (AI @xx3 (AI @xvl (AI @xy7 (AI @xxu (AI @xl1 (AI @xm2 (AI @xlj (AI @xkm (AI @xly (AI @xlb (AI @x119 (AI @xux (AI @xyg (AI @xvj (AI @xqd (AI @xrr (AI @xy3 (AI @xrl @xvh))))))))))))))))))) :=
 ⟨@xy6,@xx3,@xvl,@xy7,@xxu,@xl1,@xm2,@xlj,@xkm,@xly,@xlb,@x119,@xux,@xyg,@xvj,@xqd,@xrr,@xy3,@xrl,@xvh⟩
theorem TY : type_of% (AI @TY0 (AI @TY1 (AI @TY2 (AI @TY3 (AI @TY4 (AI @TY5 (AI @TY6 (AI @TY7 (AI @TY8 (AI @TY9 @TY10)))))))))) :=
 ⟨@TY0,@TY1,@TY2,@TY3,@TY4,@TY5,@TY6,@TY7,@TY8,@TY9,@TY10⟩
end Ev
end Go.Proofs.Ytppdfjdfjfoddaa
