/-
  What the types of the program are, as the evaluator asks. Written by a program.
-/
import Derived.Test.YtppdfjdfjfoddaaEnvF
import Derived.Test.YtppdfjdfjfoddaaEvWalk
set_option maxRecDepth 100000
namespace Go.Proofs.Ytppdfjdfjfoddaa
namespace Ev
def x1r (P : Program) (t : TypeId) (i : Nat) : Option (Nat × Nat) := match P.underlying t with
 | some (.struct fields) => (fields.toList[i]?).map fun f => (f.offset,P.cellsOf f.type)
 | _ => none
def x74 (P : Program) (t : TypeId) : Bool := match P.underlying t with
 | some (.struct fields) => fields.toList.all fun f => (P.info? f.type).isSome
 | _ => false
theorem x3y {P : Program} {t : TypeId} {z : A} {parts : List (Nat × A)} (hs : x74 P t = true) (hz : x1g P t = some z) : x6l P t parts = (x47 (xh z) (parts.map fun p => (x1r P t p.1,p.2))).map .agg := by
 unfold x74 at hs
 unfold x6l x1r
 rw [hz]
 cases hu : P.underlying t with
 | none => rw [hu] at hs; cases hs
 | some d =>
  rw [hu] at hs
  cases d <;> first | cases hs | skip
  simp only at hs ⊢
  rw [if_pos hs]
theorem x1k2 {P : Program} {t e : TypeId} {n c : Nat} {z : A} {parts : List (Nat × A)} (hu : P.underlying t = some (.array n e)) (hz : x1g P t = some z) (hi : (P.info? e).isSome = true) (hc : P.cellsOf e = c) : x6l P t parts = (x47 (xh z) (parts.map fun p => (some (p.1 * c,c),p.2))).map .agg := by
 unfold x6l
 rw [hz,hu]
 simp only [hi,if_true,hc]
theorem x90 {P : Program} {h : H} {t u : TypeId} {K K1 K2 : IntKind} {n : Int} (h1 : P.underlying t = some (.int K1)) (h2 : P.underlying u = some (.int K2)) : x4k P h t u (.d (.int K n)) = some (.d (.int K2 (K2.wrap n)),h) := by
 simp only [x4k,h1,h2]
theorem x1b3 : env.P.underlying 2 = some (.int .i64) := by kernel_rfl
theorem x169 : x12 env.P 2 = none := by kernel_rfl
theorem x1bu : env.P.cellsOf 2 = 1 := by kernel_rfl
theorem x1bk : x1b env.P 2 = true := by kernel_rfl
theorem x170 : x1e env.P 2 = some false := by kernel_rfl
theorem x19a : x1g env.P 2 = some (.d (.int .i64 0)) := by kernel_rfl
theorem x1ao : (env.P.info? 2).isSome = true := by kernel_rfl
theorem xfi : env.P.underlying 3 = some (.int .i64) := by kernel_rfl
theorem x1e4 : x12 env.P 3 = none := by kernel_rfl
theorem x194 : env.P.cellsOf 3 = 1 := by kernel_rfl
theorem x1k5 : x1b env.P 3 = true := by kernel_rfl
theorem x1dy : x1e env.P 3 = some false := by kernel_rfl
theorem x1ii : x1g env.P 3 = some (.d (.int .i64 0)) := by kernel_rfl
theorem x18c : (env.P.info? 3).isSome = true := by kernel_rfl
theorem x1el : env.P.underlying 4 = some .bool := by kernel_rfl
theorem x1c8 : x12 env.P 4 = none := by kernel_rfl
theorem x1dz : env.P.cellsOf 4 = 1 := by kernel_rfl
theorem x1fd : x1b env.P 4 = true := by kernel_rfl
theorem x1bm : x1e env.P 4 = some false := by kernel_rfl
theorem x1e9 : x1g env.P 4 = some (.d (.bool false)) := by kernel_rfl
theorem x1er : (env.P.info? 4).isSome = true := by kernel_rfl
theorem xca : env.P.underlying 5 = some (.int .u8) := by kernel_rfl
theorem x16g : x12 env.P 5 = none := by kernel_rfl
theorem x1cf : env.P.cellsOf 5 = 1 := by kernel_rfl
theorem x1c5 : x1b env.P 5 = true := by kernel_rfl
theorem x17r : x1e env.P 5 = some false := by kernel_rfl
theorem x1at : x1g env.P 5 = some (.d (.int .u8 0)) := by kernel_rfl
theorem x1ak : (env.P.info? 5).isSome = true := by kernel_rfl
theorem x16a : env.P.underlying 9 = some .string := by kernel_rfl
theorem x12p : x12 env.P 9 = none := by kernel_rfl
theorem x165 : env.P.cellsOf 9 = 1 := by kernel_rfl
theorem x174 : x1b env.P 9 = true := by kernel_rfl
theorem x14a : x1e env.P 9 = some false := by kernel_rfl
theorem x17g : x1g env.P 9 = some (.d (.str [])) := by kernel_rfl
theorem x16p : (env.P.info? 9).isSome = true := by kernel_rfl
theorem x13t : env.P.underlying 12 = some (.int .u64) := by kernel_rfl
theorem x106 : x12 env.P 12 = none := by kernel_rfl
theorem x140 : env.P.cellsOf 12 = 1 := by kernel_rfl
theorem x126 : x1b env.P 12 = true := by kernel_rfl
theorem x119 : x1e env.P 12 = some false := by kernel_rfl
theorem x13u : x1g env.P 12 = some (.d (.int .u64 0)) := by kernel_rfl
theorem x13g : (env.P.info? 12).isSome = true := by kernel_rfl
theorem x6k : x74 env.P 13 = true := by kernel_rfl
theorem x9g : xw env.P 13 0 = some (0,9) := by kernel_rfl
theorem x9c : x1r env.P 13 0 = some (0,1) := by kernel_rfl
theorem x9e : xw env.P 13 1 = some (1,12) := by kernel_rfl
theorem x9b : x1r env.P 13 1 = some (1,1) := by kernel_rfl
theorem xa8 : x12 env.P 13 = none := by kernel_rfl
theorem xae : env.P.cellsOf 13 = 2 := by kernel_rfl
theorem xai : x1b env.P 13 = true := by kernel_rfl
theorem xa7 : x1e env.P 13 = some true := by kernel_rfl
theorem x6v : x1g env.P 13 = some (.agg [.d (.str []),.d (.int .u64 0)]) := by kernel_rfl
theorem xak : (env.P.info? 13).isSome = true := by kernel_rfl
theorem xvt : x12 env.P 20 = none := by kernel_rfl
theorem xxx : env.P.cellsOf 20 = 1 := by kernel_rfl
theorem xxb : x1b env.P 20 = true := by kernel_rfl
theorem xv6 : x1e env.P 20 = some false := by kernel_rfl
theorem xyq : x1g env.P 20 = some (.d (.nili)) := by kernel_rfl
theorem xx7 : (env.P.info? 20).isSome = true := by kernel_rfl
theorem x1ce : env.P.underlying 21 = some (.int .i32) := by kernel_rfl
theorem x16q : x12 env.P 21 = none := by kernel_rfl
theorem x19v : env.P.cellsOf 21 = 1 := by kernel_rfl
theorem x1cd : x1b env.P 21 = true := by kernel_rfl
theorem x166 : x1e env.P 21 = some false := by kernel_rfl
theorem x1ax : x1g env.P 21 = some (.d (.int .i32 0)) := by kernel_rfl
theorem x1b8 : (env.P.info? 21).isSome = true := by kernel_rfl
theorem xq7 : env.P.underlying 22 = some (.slice 5) := by kernel_rfl
theorem xyk : x12 env.P 22 = some 5 := by simp only [x12,xq7]
theorem x10d : env.P.cellsOf 22 = 1 := by kernel_rfl
theorem x117 : x1b env.P 22 = true := by kernel_rfl
theorem xyf : x1e env.P 22 = some false := by kernel_rfl
theorem x10z : x1g env.P 22 = some (.d (.nils)) := by kernel_rfl
theorem x108 : (env.P.info? 22).isSome = true := by kernel_rfl
theorem xnl : env.P.underlying 23 = some (.slice 60) := by kernel_rfl
theorem xvk : x12 env.P 23 = some 60 := by simp only [x12,xnl]
theorem xy7 : env.P.cellsOf 23 = 1 := by kernel_rfl
theorem xyp : x1b env.P 23 = true := by kernel_rfl
theorem xwk : x1e env.P 23 = some false := by kernel_rfl
theorem xxt : x1g env.P 23 = some (.d (.nils)) := by kernel_rfl
theorem xyn : (env.P.info? 23).isSome = true := by kernel_rfl
theorem xuh : env.P.underlying 24 = some (.slice 4) := by kernel_rfl
theorem x11b : x12 env.P 24 = some 4 := by simp only [x12,xuh]
theorem x13q : env.P.cellsOf 24 = 1 := by kernel_rfl
theorem x12w : x1b env.P 24 = true := by kernel_rfl
theorem x10w : x1e env.P 24 = some false := by kernel_rfl
theorem x12a : x1g env.P 24 = some (.d (.nils)) := by kernel_rfl
theorem x13r : (env.P.info? 24).isSome = true := by kernel_rfl
theorem x3g : x74 env.P 25 = true := by kernel_rfl
theorem x4v : xw env.P 25 0 = some (0,3) := by kernel_rfl
theorem x4u : x1r env.P 25 0 = some (0,1) := by kernel_rfl
theorem x4r : xw env.P 25 1 = some (1,23) := by kernel_rfl
theorem x4s : x1r env.P 25 1 = some (1,1) := by kernel_rfl
theorem x4z : xw env.P 25 2 = some (2,24) := by kernel_rfl
theorem x50 : x1r env.P 25 2 = some (2,1) := by kernel_rfl
theorem x5c : x12 env.P 25 = none := by kernel_rfl
theorem x5t : env.P.cellsOf 25 = 3 := by kernel_rfl
theorem x5k : x1b env.P 25 = true := by kernel_rfl
theorem x5g : x1e env.P 25 = some true := by kernel_rfl
theorem x3j : x1g env.P 25 = some (.agg [.d (.int .i64 0),.d (.nils),.d (.nils)]) := by kernel_rfl
theorem x5i : (env.P.info? 25).isSome = true := by kernel_rfl
theorem xdy : x74 env.P 26 = true := by kernel_rfl
theorem xiw : xw env.P 26 0 = some (0,3) := by kernel_rfl
theorem xir : x1r env.P 26 0 = some (0,1) := by kernel_rfl
theorem xiq : xw env.P 26 1 = some (1,23) := by kernel_rfl
theorem xis : x1r env.P 26 1 = some (1,1) := by kernel_rfl
theorem xhv : xw env.P 26 2 = some (2,24) := by kernel_rfl
theorem xhx : x1r env.P 26 2 = some (2,1) := by kernel_rfl
theorem xkt : x12 env.P 26 = none := by kernel_rfl
theorem xmx : env.P.cellsOf 26 = 3 := by kernel_rfl
theorem xmr : x1b env.P 26 = true := by kernel_rfl
theorem xmc : x1e env.P 26 = some true := by kernel_rfl
theorem xf1 : x1g env.P 26 = some (.agg [.d (.int .i64 0),.d (.nils),.d (.nils)]) := by kernel_rfl
theorem xnb : (env.P.info? 26).isSome = true := by kernel_rfl
theorem xe3 : x74 env.P 38 = true := by kernel_rfl
theorem xi4 : xw env.P 38 0 = some (0,3) := by kernel_rfl
theorem xhy : x1r env.P 38 0 = some (0,1) := by kernel_rfl
theorem xit : xw env.P 38 1 = some (1,23) := by kernel_rfl
theorem xi8 : x1r env.P 38 1 = some (1,1) := by kernel_rfl
theorem xic : xw env.P 38 2 = some (2,24) := by kernel_rfl
theorem xi3 : x1r env.P 38 2 = some (2,1) := by kernel_rfl
theorem xld : x12 env.P 38 = none := by kernel_rfl
theorem xn4 : env.P.cellsOf 38 = 3 := by kernel_rfl
theorem xmq : x1b env.P 38 = true := by kernel_rfl
theorem xlt : x1e env.P 38 = some true := by kernel_rfl
theorem xf2 : x1g env.P 38 = some (.agg [.d (.int .i64 0),.d (.nils),.d (.nils)]) := by kernel_rfl
theorem xmu : (env.P.info? 38).isSome = true := by kernel_rfl
theorem xo7 : env.P.underlying 40 = some (.slice 9) := by kernel_rfl
theorem xw8 : x12 env.P 40 = some 9 := by simp only [x12,xo7]
theorem xxe : env.P.cellsOf 40 = 1 := by kernel_rfl
theorem xyi : x1b env.P 40 = true := by kernel_rfl
theorem xvu : x1e env.P 40 = some false := by kernel_rfl
theorem xx5 : x1g env.P 40 = some (.d (.nils)) := by kernel_rfl
theorem xyg : (env.P.info? 40).isSome = true := by kernel_rfl
theorem xmw : env.P.underlying 50 = some (.pointer 82) := by kernel_rfl
theorem xlb : x12 env.P 50 = none := by kernel_rfl
theorem xn3 : env.P.cellsOf 50 = 1 := by kernel_rfl
theorem xnc : x1b env.P 50 = true := by kernel_rfl
theorem xma : x1e env.P 50 = some false := by kernel_rfl
theorem xmz : x1g env.P 50 = some (.d (.nilp)) := by kernel_rfl
theorem xn8 : (env.P.info? 50).isSome = true := by kernel_rfl
theorem xm8 : env.P.underlying 56 = some (.slice 62) := by kernel_rfl
theorem xum : x12 env.P 56 = some 62 := by simp only [x12,xm8]
theorem xvm : env.P.cellsOf 56 = 1 := by kernel_rfl
theorem xv7 : x1b env.P 56 = true := by kernel_rfl
theorem xt4 : x1e env.P 56 = some false := by kernel_rfl
theorem xw0 : x1g env.P 56 = some (.d (.nils)) := by kernel_rfl
theorem xuy : (env.P.info? 56).isSome = true := by kernel_rfl
theorem xx2 : env.P.underlying 60 = some (.slice 3) := by kernel_rfl
theorem x120 : x12 env.P 60 = some 3 := by simp only [x12,xx2]
theorem x15z : env.P.cellsOf 60 = 1 := by kernel_rfl
theorem x16k : x1b env.P 60 = true := by kernel_rfl
theorem x122 : x1e env.P 60 = some false := by kernel_rfl
theorem x15x : x1g env.P 60 = some (.d (.nils)) := by kernel_rfl
theorem x16t : (env.P.info? 60).isSome = true := by kernel_rfl
theorem xtd : env.P.underlying 62 = some (.array 6 3) := by kernel_rfl
theorem x10u : x12 env.P 62 = none := by kernel_rfl
theorem x142 : env.P.cellsOf 62 = 6 := by kernel_rfl
theorem x14k : x1b env.P 62 = true := by kernel_rfl
theorem x11c : x1e env.P 62 = some true := by kernel_rfl
theorem xsw : x1g env.P 62 = some (.agg [.d (.int .i64 0),.d (.int .i64 0),.d (.int .i64 0),.d (.int .i64 0),.d (.int .i64 0),.d (.int .i64 0)]) := by kernel_rfl
theorem x11v : (env.P.info? 62).isSome = true := by kernel_rfl
theorem x96 : x74 env.P 81 = true := by kernel_rfl
theorem xbr : xw env.P 81 0 = some (0,22) := by kernel_rfl
theorem xbo : x1r env.P 81 0 = some (0,1) := by kernel_rfl
theorem xbs : xw env.P 81 1 = some (1,3) := by kernel_rfl
theorem xbp : x1r env.P 81 1 = some (1,1) := by kernel_rfl
theorem xcl : x12 env.P 81 = none := by kernel_rfl
theorem xd3 : env.P.cellsOf 81 = 2 := by kernel_rfl
theorem xcz : x1b env.P 81 = true := by kernel_rfl
theorem xco : x1e env.P 81 = some true := by kernel_rfl
theorem x9r : x1g env.P 81 = some (.agg [.d (.nils),.d (.int .i64 0)]) := by kernel_rfl
theorem xdg : (env.P.info? 81).isSome = true := by kernel_rfl
theorem xjh : x74 env.P 82 = true := by kernel_rfl
theorem xpl : xw env.P 82 0 = some (0,22) := by kernel_rfl
theorem xp4 : x1r env.P 82 0 = some (0,1) := by kernel_rfl
theorem xp7 : xw env.P 82 1 = some (1,3) := by kernel_rfl
theorem xpg : x1r env.P 82 1 = some (1,1) := by kernel_rfl
theorem xth : x12 env.P 82 = none := by kernel_rfl
theorem xus : env.P.cellsOf 82 = 2 := by kernel_rfl
theorem xwc : x1b env.P 82 = true := by kernel_rfl
theorem xtt : x1e env.P 82 = some true := by kernel_rfl
theorem xlr : x1g env.P 82 = some (.agg [.d (.nils),.d (.int .i64 0)]) := by kernel_rfl
theorem xvl : (env.P.info? 82).isSome = true := by kernel_rfl
theorem xcf : env.P.underlying 91 = some (.slice 26) := by kernel_rfl
theorem xha : x12 env.P 91 = some 26 := by simp only [x12,xcf]
theorem xi2 : env.P.cellsOf 91 = 1 := by kernel_rfl
theorem xi5 : x1b env.P 91 = true := by kernel_rfl
theorem xh6 : x1e env.P 91 = some false := by kernel_rfl
theorem xio : x1g env.P 91 = some (.d (.nils)) := by kernel_rfl
theorem xiy : (env.P.info? 91).isSome = true := by kernel_rfl
theorem xez : env.P.underlying 92 = some (.slice 140) := by kernel_rfl
theorem xmb : x12 env.P 92 = some 140 := by simp only [x12,xez]
theorem xmt : env.P.cellsOf 92 = 1 := by kernel_rfl
theorem xne : x1b env.P 92 = true := by kernel_rfl
theorem xlp : x1e env.P 92 = some false := by kernel_rfl
theorem xn7 : x1g env.P 92 = some (.d (.nils)) := by kernel_rfl
theorem xmo : (env.P.info? 92).isSome = true := by kernel_rfl
theorem x10 : x74 env.P 93 = true := by kernel_rfl
theorem x24 : xw env.P 93 0 = some (0,92) := by kernel_rfl
theorem x22 : x1r env.P 93 0 = some (0,1) := by kernel_rfl
theorem x1x : xw env.P 93 1 = some (1,91) := by kernel_rfl
theorem x1y : x1r env.P 93 1 = some (1,1) := by kernel_rfl
theorem x23 : xw env.P 93 2 = some (2,60) := by kernel_rfl
theorem x1z : x1r env.P 93 2 = some (2,1) := by kernel_rfl
theorem x1v : xw env.P 93 3 = some (3,3) := by kernel_rfl
theorem x21 : x1r env.P 93 3 = some (3,1) := by kernel_rfl
theorem x1w : xw env.P 93 4 = some (4,3) := by kernel_rfl
theorem x1t : x1r env.P 93 4 = some (4,1) := by kernel_rfl
theorem x1u : xw env.P 93 5 = some (5,3) := by kernel_rfl
theorem x1s : x1r env.P 93 5 = some (5,1) := by kernel_rfl
theorem x26 : x12 env.P 93 = none := by kernel_rfl
theorem x29 : env.P.cellsOf 93 = 6 := by kernel_rfl
theorem x2b : x1b env.P 93 = true := by kernel_rfl
theorem x25 : x1e env.P 93 = some true := by kernel_rfl
theorem x11 : x1g env.P 93 = some (.agg [.d (.nils),.d (.nils),.d (.nils),.d (.int .i64 0),.d (.int .i64 0),.d (.int .i64 0)]) := by kernel_rfl
theorem x2a : (env.P.info? 93).isSome = true := by kernel_rfl
theorem xjs : x74 env.P 94 = true := by kernel_rfl
theorem xpt : xw env.P 94 0 = some (0,92) := by kernel_rfl
theorem xps : x1r env.P 94 0 = some (0,1) := by kernel_rfl
theorem xp3 : xw env.P 94 1 = some (1,91) := by kernel_rfl
theorem xp8 : x1r env.P 94 1 = some (1,1) := by kernel_rfl
theorem xph : xw env.P 94 2 = some (2,60) := by kernel_rfl
theorem xpn : x1r env.P 94 2 = some (2,1) := by kernel_rfl
theorem xpu : xw env.P 94 3 = some (3,3) := by kernel_rfl
theorem xp2 : x1r env.P 94 3 = some (3,1) := by kernel_rfl
theorem xp9 : xw env.P 94 4 = some (4,3) := by kernel_rfl
theorem xp5 : x1r env.P 94 4 = some (4,1) := by kernel_rfl
theorem xpw : xw env.P 94 5 = some (5,3) := by kernel_rfl
theorem xpj : x1r env.P 94 5 = some (5,1) := by kernel_rfl
theorem xu3 : x12 env.P 94 = none := by kernel_rfl
theorem xvz : env.P.cellsOf 94 = 6 := by kernel_rfl
theorem xvj : x1b env.P 94 = true := by kernel_rfl
theorem xuo : x1e env.P 94 = some true := by kernel_rfl
theorem xlh : x1g env.P 94 = some (.agg [.d (.nils),.d (.nils),.d (.nils),.d (.int .i64 0),.d (.int .i64 0),.d (.int .i64 0)]) := by kernel_rfl
theorem xwf : (env.P.info? 94).isSome = true := by kernel_rfl
theorem xdr : env.P.underlying 103 = some (.int .u64) := by kernel_rfl
theorem x1b9 : x12 env.P 103 = none := by kernel_rfl
theorem x1gf : env.P.cellsOf 103 = 1 := by kernel_rfl
theorem x1g9 : x1b env.P 103 = true := by kernel_rfl
theorem x19j : x1e env.P 103 = some false := by kernel_rfl
theorem x1eb : x1g env.P 103 = some (.d (.int .u64 0)) := by kernel_rfl
theorem x1dx : (env.P.info? 103).isSome = true := by kernel_rfl
theorem xhl : env.P.underlying 110 = some (.slice 23) := by kernel_rfl
theorem xpr : x12 env.P 110 = some 23 := by simp only [x12,xhl]
theorem xr5 : env.P.cellsOf 110 = 1 := by kernel_rfl
theorem xr6 : x1b env.P 110 = true := by kernel_rfl
theorem xpq : x1e env.P 110 = some false := by kernel_rfl
theorem xr0 : x1g env.P 110 = some (.d (.nils)) := by kernel_rfl
theorem xra : (env.P.info? 110).isSome = true := by kernel_rfl
theorem xiu : env.P.underlying 121 = some (.int .i64) := by kernel_rfl
theorem xhb : x12 env.P 121 = none := by kernel_rfl
theorem xhr : env.P.cellsOf 121 = 1 := by kernel_rfl
theorem xhz : x1b env.P 121 = true := by kernel_rfl
theorem xhj : x1e env.P 121 = some false := by kernel_rfl
theorem xin : x1g env.P 121 = some (.d (.int .i64 0)) := by kernel_rfl
theorem xhs : (env.P.info? 121).isSome = true := by kernel_rfl
theorem x162 : env.P.underlying 129 = some (.int .u32) := by kernel_rfl
theorem x13o : x12 env.P 129 = none := by kernel_rfl
theorem x17p : env.P.cellsOf 129 = 1 := by kernel_rfl
theorem x15t : x1b env.P 129 = true := by kernel_rfl
theorem x14s : x1e env.P 129 = some false := by kernel_rfl
theorem x160 : x1g env.P 129 = some (.d (.int .u32 0)) := by kernel_rfl
theorem x16b : (env.P.info? 129).isSome = true := by kernel_rfl
theorem x17b : env.P.underlying 131 = some (.int .u64) := by kernel_rfl
theorem x12i : x12 env.P 131 = none := by kernel_rfl
theorem x173 : env.P.cellsOf 131 = 1 := by kernel_rfl
theorem x16d : x1b env.P 131 = true := by kernel_rfl
theorem x132 : x1e env.P 131 = some false := by kernel_rfl
theorem x15s : x1g env.P 131 = some (.d (.int .u64 0)) := by kernel_rfl
theorem x16c : (env.P.info? 131).isSome = true := by kernel_rfl
theorem xhq : env.P.underlying 138 = some (.slice 159) := by kernel_rfl
theorem xov : x12 env.P 138 = some 159 := by simp only [x12,xhq]
theorem xqv : env.P.cellsOf 138 = 1 := by kernel_rfl
theorem xqq : x1b env.P 138 = true := by kernel_rfl
theorem xpm : x1e env.P 138 = some false := by kernel_rfl
theorem xqt : x1g env.P 138 = some (.d (.nils)) := by kernel_rfl
theorem xr3 : (env.P.info? 138).isSome = true := by kernel_rfl
theorem x3e : x74 env.P 139 = true := by kernel_rfl
theorem x4t : xw env.P 139 0 = some (0,3) := by kernel_rfl
theorem x4w : x1r env.P 139 0 = some (0,1) := by kernel_rfl
theorem x4x : xw env.P 139 1 = some (1,3) := by kernel_rfl
theorem x4q : x1r env.P 139 1 = some (1,1) := by kernel_rfl
theorem x51 : xw env.P 139 2 = some (2,138) := by kernel_rfl
theorem x4y : x1r env.P 139 2 = some (2,1) := by kernel_rfl
theorem x5e : x12 env.P 139 = none := by kernel_rfl
theorem x5o : env.P.cellsOf 139 = 3 := by kernel_rfl
theorem x5p : x1b env.P 139 = true := by kernel_rfl
theorem x5f : x1e env.P 139 = some true := by kernel_rfl
theorem x3i : x1g env.P 139 = some (.agg [.d (.int .i64 0),.d (.int .i64 0),.d (.nils)]) := by kernel_rfl
theorem x5j : (env.P.info? 139).isSome = true := by kernel_rfl
theorem xhn : x74 env.P 140 = true := by kernel_rfl
theorem xn0 : xw env.P 140 0 = some (0,3) := by kernel_rfl
theorem xn6 : x1r env.P 140 0 = some (0,1) := by kernel_rfl
theorem xmy : xw env.P 140 1 = some (1,3) := by kernel_rfl
theorem xmp : x1r env.P 140 1 = some (1,1) := by kernel_rfl
theorem xn9 : xw env.P 140 2 = some (2,138) := by kernel_rfl
theorem xnf : x1r env.P 140 2 = some (2,1) := by kernel_rfl
theorem xrb : x12 env.P 140 = none := by kernel_rfl
theorem xu7 : env.P.cellsOf 140 = 3 := by kernel_rfl
theorem xsp : x1b env.P 140 = true := by kernel_rfl
theorem xqw : x1e env.P 140 = some true := by kernel_rfl
theorem xjt : x1g env.P 140 = some (.agg [.d (.int .i64 0),.d (.int .i64 0),.d (.nils)]) := by kernel_rfl
theorem xss : (env.P.info? 140).isSome = true := by kernel_rfl
theorem xbu : env.P.underlying 144 = some (.slice 146) := by kernel_rfl
theorem xfk : x12 env.P 144 = some 146 := by simp only [x12,xbu]
theorem xhk : env.P.cellsOf 144 = 1 := by kernel_rfl
theorem xhd : x1b env.P 144 = true := by kernel_rfl
theorem xft : x1e env.P 144 = some false := by kernel_rfl
theorem xhf : x1g env.P 144 = some (.d (.nils)) := by kernel_rfl
theorem xh8 : (env.P.info? 144).isSome = true := by kernel_rfl
theorem x44 : x74 env.P 145 = true := by kernel_rfl
theorem x69 : xw env.P 145 0 = some (0,3) := by kernel_rfl
theorem x68 : x1r env.P 145 0 = some (0,1) := by kernel_rfl
theorem x6c : xw env.P 145 1 = some (1,3) := by kernel_rfl
theorem x67 : x1r env.P 145 1 = some (1,1) := by kernel_rfl
theorem x6b : xw env.P 145 2 = some (2,60) := by kernel_rfl
theorem x6a : x1r env.P 145 2 = some (2,1) := by kernel_rfl
theorem x6p : x12 env.P 145 = none := by kernel_rfl
theorem x72 : env.P.cellsOf 145 = 3 := by kernel_rfl
theorem x73 : x1b env.P 145 = true := by kernel_rfl
theorem x6q : x1e env.P 145 = some true := by kernel_rfl
theorem x48 : x1g env.P 145 = some (.agg [.d (.int .i64 0),.d (.int .i64 0),.d (.nils)]) := by kernel_rfl
theorem x71 : (env.P.info? 145).isSome = true := by kernel_rfl
theorem xd9 : x74 env.P 146 = true := by kernel_rfl
theorem xhc : xw env.P 146 0 = some (0,3) := by kernel_rfl
theorem xh9 : x1r env.P 146 0 = some (0,1) := by kernel_rfl
theorem xhi : xw env.P 146 1 = some (1,3) := by kernel_rfl
theorem xh7 : x1r env.P 146 1 = some (1,1) := by kernel_rfl
theorem xhh : xw env.P 146 2 = some (2,60) := by kernel_rfl
theorem xhg : x1r env.P 146 2 = some (2,1) := by kernel_rfl
theorem xk8 : x12 env.P 146 = none := by kernel_rfl
theorem xm5 : env.P.cellsOf 146 = 3 := by kernel_rfl
theorem xmk : x1b env.P 146 = true := by kernel_rfl
theorem xkd : x1e env.P 146 = some true := by kernel_rfl
theorem xdz : x1g env.P 146 = some (.agg [.d (.int .i64 0),.d (.int .i64 0),.d (.nils)]) := by kernel_rfl
theorem xly : (env.P.info? 146).isSome = true := by kernel_rfl
theorem xmd : env.P.underlying 149 = some (.int .u64) := by kernel_rfl
theorem xkh : x12 env.P 149 = none := by kernel_rfl
theorem xm1 : env.P.cellsOf 149 = 1 := by kernel_rfl
theorem xm4 : x1b env.P 149 = true := by kernel_rfl
theorem xk9 : x1e env.P 149 = some false := by kernel_rfl
theorem xm6 : x1g env.P 149 = some (.d (.int .u64 0)) := by kernel_rfl
theorem xli : (env.P.info? 149).isSome = true := by kernel_rfl
theorem x12n : env.P.underlying 153 = some (.pointer 3) := by kernel_rfl
theorem x114 : x12 env.P 153 = none := by kernel_rfl
theorem x12y : env.P.cellsOf 153 = 1 := by kernel_rfl
theorem x14q : x1b env.P 153 = true := by kernel_rfl
theorem x109 : x1e env.P 153 = some false := by kernel_rfl
theorem x14e : x1g env.P 153 = some (.d (.nilp)) := by kernel_rfl
theorem x12h : (env.P.info? 153).isSome = true := by kernel_rfl
theorem xfy : env.P.underlying 156 = some (.pointer 149) := by kernel_rfl
theorem xf6 : x12 env.P 156 = none := by kernel_rfl
theorem xfz : env.P.cellsOf 156 = 1 := by kernel_rfl
theorem xfs : x1b env.P 156 = true := by kernel_rfl
theorem xfc : x1e env.P 156 = some false := by kernel_rfl
theorem xgb : x1g env.P 156 = some (.d (.nilp)) := by kernel_rfl
theorem xg3 : (env.P.info? 156).isSome = true := by kernel_rfl
theorem x5v : x74 env.P 158 = true := by kernel_rfl
theorem x87 : xw env.P 158 0 = some (0,3) := by kernel_rfl
theorem x85 : x1r env.P 158 0 = some (0,1) := by kernel_rfl
theorem x89 : xw env.P 158 1 = some (1,3) := by kernel_rfl
theorem x86 : x1r env.P 158 1 = some (1,1) := by kernel_rfl
theorem x8a : xw env.P 158 2 = some (2,3) := by kernel_rfl
theorem x88 : x1r env.P 158 2 = some (2,1) := by kernel_rfl
theorem x93 : x12 env.P 158 = none := by kernel_rfl
theorem x9a : env.P.cellsOf 158 = 3 := by kernel_rfl
theorem x9f : x1b env.P 158 = true := by kernel_rfl
theorem x8z : x1e env.P 158 = some true := by kernel_rfl
theorem x60 : x1g env.P 158 = some (.agg [.d (.int .i64 0),.d (.int .i64 0),.d (.int .i64 0)]) := by kernel_rfl
theorem x9d : (env.P.info? 158).isSome = true := by kernel_rfl
theorem xl3 : x74 env.P 159 = true := by kernel_rfl
theorem xqx : xw env.P 159 0 = some (0,3) := by kernel_rfl
theorem xr1 : x1r env.P 159 0 = some (0,1) := by kernel_rfl
theorem xr8 : xw env.P 159 1 = some (1,3) := by kernel_rfl
theorem xr9 : x1r env.P 159 1 = some (1,1) := by kernel_rfl
theorem xqy : xw env.P 159 2 = some (2,3) := by kernel_rfl
theorem xrd : x1r env.P 159 2 = some (2,1) := by kernel_rfl
theorem xuz : x12 env.P 159 = none := by kernel_rfl
theorem xxr : env.P.cellsOf 159 = 3 := by kernel_rfl
theorem xyj : x1b env.P 159 = true := by kernel_rfl
theorem xw5 : x1e env.P 159 = some true := by kernel_rfl
theorem xo3 : x1g env.P 159 = some (.agg [.d (.int .i64 0),.d (.int .i64 0),.d (.int .i64 0)]) := by kernel_rfl
theorem xxm : (env.P.info? 159).isSome = true := by kernel_rfl
theorem xxp : env.P.underlying 170 = some (.pointer 5) := by kernel_rfl
theorem xwi : x12 env.P 170 = none := by kernel_rfl
theorem xy6 : env.P.cellsOf 170 = 1 := by kernel_rfl
theorem xx9 : x1b env.P 170 = true := by kernel_rfl
theorem xw2 : x1e env.P 170 = some false := by kernel_rfl
theorem xxv : x1g env.P 170 = some (.d (.nilp)) := by kernel_rfl
theorem xye : (env.P.info? 170).isSome = true := by kernel_rfl
theorem xlw : x12 env.P 175 = none := by kernel_rfl
theorem xn1 : env.P.cellsOf 175 = 1 := by kernel_rfl
theorem xms : x1b env.P 175 = true := by kernel_rfl
theorem xkr : x1e env.P 175 = some false := by kernel_rfl
theorem xn5 : x1g env.P 175 = some (.d (.nilp)) := by kernel_rfl
theorem xmv : (env.P.info? 175).isSome = true := by kernel_rfl
theorem xa5 : ∀ parts,x6l env.P 13 parts = (x47 (xh (.agg [.d (.str []),.d (.int .u64 0)])) (parts.map fun p => (x1r env.P 13 p.1,p.2))).map .agg := fun _ => x3y x6k x6v
theorem x5a : ∀ parts,x6l env.P 25 parts = (x47 (xh (.agg [.d (.int .i64 0),.d (.nils),.d (.nils)])) (parts.map fun p => (x1r env.P 25 p.1,p.2))).map .agg := fun _ => x3y x3g x3j
theorem xks : ∀ parts,x6l env.P 26 parts = (x47 (xh (.agg [.d (.int .i64 0),.d (.nils),.d (.nils)])) (parts.map fun p => (x1r env.P 26 p.1,p.2))).map .agg := fun _ => x3y xdy xf1
theorem xlg : ∀ parts,x6l env.P 38 parts = (x47 (xh (.agg [.d (.int .i64 0),.d (.nils),.d (.nils)])) (parts.map fun p => (x1r env.P 38 p.1,p.2))).map .agg := fun _ => x3y xe3 xf2
theorem x10q : ∀ parts,x6l env.P 62 parts = (x47 (xh (.agg [.d (.int .i64 0),.d (.int .i64 0),.d (.int .i64 0),.d (.int .i64 0),.d (.int .i64 0),.d (.int .i64 0)])) (parts.map fun p => (some (p.1 * 1,1),p.2))).map .agg := fun _ => x1k2 xtd xsw x18c x194
theorem xcm : ∀ parts,x6l env.P 81 parts = (x47 (xh (.agg [.d (.nils),.d (.int .i64 0)])) (parts.map fun p => (x1r env.P 81 p.1,p.2))).map .agg := fun _ => x3y x96 x9r
theorem xtq : ∀ parts,x6l env.P 82 parts = (x47 (xh (.agg [.d (.nils),.d (.int .i64 0)])) (parts.map fun p => (x1r env.P 82 p.1,p.2))).map .agg := fun _ => x3y xjh xlr
theorem x28 : ∀ parts,x6l env.P 93 parts = (x47 (xh (.agg [.d (.nils),.d (.nils),.d (.nils),.d (.int .i64 0),.d (.int .i64 0),.d (.int .i64 0)])) (parts.map fun p => (x1r env.P 93 p.1,p.2))).map .agg := fun _ => x3y x10 x11
theorem xu9 : ∀ parts,x6l env.P 94 parts = (x47 (xh (.agg [.d (.nils),.d (.nils),.d (.nils),.d (.int .i64 0),.d (.int .i64 0),.d (.int .i64 0)])) (parts.map fun p => (x1r env.P 94 p.1,p.2))).map .agg := fun _ => x3y xjs xlh
theorem x5b : ∀ parts,x6l env.P 139 parts = (x47 (xh (.agg [.d (.int .i64 0),.d (.int .i64 0),.d (.nils)])) (parts.map fun p => (x1r env.P 139 p.1,p.2))).map .agg := fun _ => x3y x3e x3i
theorem xr2 : ∀ parts,x6l env.P 140 parts = (x47 (xh (.agg [.d (.int .i64 0),.d (.int .i64 0),.d (.nils)])) (parts.map fun p => (x1r env.P 140 p.1,p.2))).map .agg := fun _ => x3y xhn xjt
theorem x6r : ∀ parts,x6l env.P 145 parts = (x47 (xh (.agg [.d (.int .i64 0),.d (.int .i64 0),.d (.nils)])) (parts.map fun p => (x1r env.P 145 p.1,p.2))).map .agg := fun _ => x3y x44 x48
theorem xk2 : ∀ parts,x6l env.P 146 parts = (x47 (xh (.agg [.d (.int .i64 0),.d (.int .i64 0),.d (.nils)])) (parts.map fun p => (x1r env.P 146 p.1,p.2))).map .agg := fun _ => x3y xd9 xdz
theorem x92 : ∀ parts,x6l env.P 158 parts = (x47 (xh (.agg [.d (.int .i64 0),.d (.int .i64 0),.d (.int .i64 0)])) (parts.map fun p => (x1r env.P 158 p.1,p.2))).map .agg := fun _ => x3y x5v x60
theorem xvp : ∀ parts,x6l env.P 159 parts = (x47 (xh (.agg [.d (.int .i64 0),.d (.int .i64 0),.d (.int .i64 0)])) (parts.map fun p => (x1r env.P 159 p.1,p.2))).map .agg := fun _ => x3y xl3 xo3
theorem x113 {h : H} {n : Int} {K : IntKind} : x4k env.P h 3 3 (.d (.int K n)) = some (.d (.int .i64 (IntKind.wrap .i64 n)),h) := x90 xfi xfi
theorem xvo {h : H} {n : Int} {K : IntKind} : x4k env.P h 3 5 (.d (.int K n)) = some (.d (.int .u8 (IntKind.wrap .u8 n)),h) := x90 xfi xca
theorem xxf {h : H} {n : Int} {K : IntKind} : x4k env.P h 3 103 (.d (.int K n)) = some (.d (.int .u64 (IntKind.wrap .u64 n)),h) := x90 xfi xdr
theorem xv2 {h : H} {n : Int} {K : IntKind} : x4k env.P h 5 3 (.d (.int K n)) = some (.d (.int .i64 (IntKind.wrap .i64 n)),h) := x90 xca xfi
theorem xqs {h : H} {n : Int} {K : IntKind} : x4k env.P h 5 5 (.d (.int K n)) = some (.d (.int .u8 (IntKind.wrap .u8 n)),h) := x90 xca xca
theorem xte {h : H} {n : Int} {K : IntKind} : x4k env.P h 5 103 (.d (.int K n)) = some (.d (.int .u64 (IntKind.wrap .u64 n)),h) := x90 xca xdr
theorem xxa {h : H} {n : Int} {K : IntKind} : x4k env.P h 103 3 (.d (.int K n)) = some (.d (.int .i64 (IntKind.wrap .i64 n)),h) := x90 xdr xfi
theorem xst {h : H} {n : Int} {K : IntKind} : x4k env.P h 103 5 (.d (.int K n)) = some (.d (.int .u8 (IntKind.wrap .u8 n)),h) := x90 xdr xca
theorem xv3 {h : H} {n : Int} {K : IntKind} : x4k env.P h 103 103 (.d (.int K n)) = some (.d (.int .u64 (IntKind.wrap .u64 n)),h) := x90 xdr xdr
theorem TY0 : type_of% (AI @x1b3 (AI @x169 (AI @x1bu (AI @x1bk (AI @x170 (AI @x19a (AI @x1ao (AI @xfi (AI @x1e4 (AI @x194 (AI @x1k5 (AI @x1dy (AI @x1ii (AI @x18c (AI @x1el (AI @x1c8 (AI @x1dz (AI @x1fd (AI @x1bm (AI @x1e9 (AI @x1er (AI @xca (AI @x16g (AI @x1cf (AI @x1c5 (AI @x17r (AI @x1at (AI @x1ak (AI @x16a (AI @x12p (AI @x165 (AI @x174 (AI @x14a (AI @x17g (AI @x16p (AI @x13t (AI @x106 (AI @x140 (AI @x126 @x119))))))))))))))))))))))))))))))))))))))) :=
 ⟨@x1b3,@x169,@x1bu,@x1bk,@x170,@x19a,@x1ao,@xfi,@x1e4,@x194,@x1k5,@x1dy,@x1ii,@x18c,@x1el,@x1c8,@x1dz,@x1fd,@x1bm,@x1e9,@x1er,@xca,@x16g,@x1cf,@x1c5,@x17r,@x1at,@x1ak,@x16a,@x12p,@x165,@x174,@x14a,@x17g,@x16p,@x13t,@x106,@x140,@x126,@x119⟩
theorem TY1 : type_of% (AI @x13u (AI @x13g (AI @x6k (AI @x9g (AI @x9c (AI @x9e (AI @x9b (AI @xa8 (AI @xae (AI @xai (AI @xa7 (AI @x6v (AI @xa5 (AI @xak (AI @xvt (AI @xxx (AI @xxb (AI @xv6 (AI @xyq (AI @xx7 (AI @x1ce (AI @x16q (AI @x19v (AI @x1cd (AI @x166 (AI @x1ax (AI @x1b8 (AI @xq7 (AI @xyk (AI @x10d (AI @x117 (AI @xyf (AI @x10z (AI @x108 (AI @xnl (AI @xvk (AI @xy7 (AI @xyp (AI @xwk @xxt))))))))))))))))))))))))))))))))))))))) :=
 ⟨@x13u,@x13g,@x6k,@x9g,@x9c,@x9e,@x9b,@xa8,@xae,@xai,@xa7,@x6v,@xa5,@xak,@xvt,@xxx,@xxb,@xv6,@xyq,@xx7,@x1ce,@x16q,@x19v,@x1cd,@x166,@x1ax,@x1b8,@xq7,@xyk,@x10d,@x117,@xyf,@x10z,@x108,@xnl,@xvk,@xy7,@xyp,@xwk,@xxt⟩
theorem TY2 : type_of% (AI @xyn (AI @xuh (AI @x11b (AI @x13q (AI @x12w (AI @x10w (AI @x12a (AI @x13r (AI @x3g (AI @x4v (AI @x4u (AI @x4r (AI @x4s (AI @x4z (AI @x50 (AI @x5c (AI @x5t (AI @x5k (AI @x5g (AI @x3j (AI @x5a (AI @x5i (AI @xdy (AI @xiw (AI @xir (AI @xiq (AI @xis (AI @xhv (AI @xhx (AI @xkt (AI @xmx (AI @xmr (AI @xmc (AI @xf1 (AI @xks (AI @xnb (AI @xe3 (AI @xi4 (AI @xhy @xit))))))))))))))))))))))))))))))))))))))) :=
 ⟨@xyn,@xuh,@x11b,@x13q,@x12w,@x10w,@x12a,@x13r,@x3g,@x4v,@x4u,@x4r,@x4s,@x4z,@x50,@x5c,@x5t,@x5k,@x5g,@x3j,@x5a,@x5i,@xdy,@xiw,@xir,@xiq,@xis,@xhv,@xhx,@xkt,@xmx,@xmr,@xmc,@xf1,@xks,@xnb,@xe3,@xi4,@xhy,@xit⟩
theorem TY3 : type_of% (AI @xi8 (AI @xic (AI @xi3 (AI @xld (AI @xn4 (AI @xmq (AI @xlt (AI @xf2 (AI @xlg (AI @xmu (AI @xo7 (AI @xw8 (AI @xxe (AI @xyi (AI @xvu (AI @xx5 (AI @xyg (AI @xmw (AI @xlb (AI @xn3 (AI @xnc (AI @xma (AI @xmz (AI @xn8 (AI @xm8 (AI @xum (AI @xvm (AI @xv7 (AI @xt4 (AI @xw0 (AI @xuy (AI @xx2 (AI @x120 (AI @x15z (AI @x16k (AI @x122 (AI @x15x (AI @x16t (AI @xtd @x10u))))))))))))))))))))))))))))))))))))))) :=
 ⟨@xi8,@xic,@xi3,@xld,@xn4,@xmq,@xlt,@xf2,@xlg,@xmu,@xo7,@xw8,@xxe,@xyi,@xvu,@xx5,@xyg,@xmw,@xlb,@xn3,@xnc,@xma,@xmz,@xn8,@xm8,@xum,@xvm,@xv7,@xt4,@xw0,@xuy,@xx2,@x120,@x15z,@x16k,@x122,@x15x,@x16t,@xtd,@x10u⟩
theorem TY4 : type_of% (AI @x142 (AI @x14k (AI @x11c (AI @xsw (AI @x10q (AI @x11v (AI @x96 (AI @xbr (AI @xbo (AI @xbs (AI @xbp (AI @xcl (AI @xd3 (AI @xcz (AI @xco (AI @x9r (AI @xcm (AI @xdg (AI @xjh (AI @xpl (AI @xp4 (AI @xp7 (AI @xpg (AI @xth (AI @xus (AI @xwc (AI @xtt (AI @xlr (AI @xtq (AI @xvl (AI @xcf (AI @xha (AI @xi2 (AI @xi5 (AI @xh6 (AI @xio (AI @xiy (AI @xez (AI @xmb @xmt))))))))))))))))))))))))))))))))))))))) :=
 ⟨@x142,@x14k,@x11c,@xsw,@x10q,@x11v,@x96,@xbr,@xbo,@xbs,@xbp,@xcl,@xd3,@xcz,@xco,@x9r,@xcm,@xdg,@xjh,@xpl,@xp4,@xp7,@xpg,@xth,@xus,@xwc,@xtt,@xlr,@xtq,@xvl,@xcf,@xha,@xi2,@xi5,@xh6,@xio,@xiy,@xez,@xmb,@xmt⟩
theorem TY5 : type_of% (AI @xne (AI @xlp (AI @xn7 (AI @xmo (AI @x10 (AI @x24 (AI @x22 (AI @x1x (AI @x1y (AI @x23 (AI @x1z (AI @x1v (AI @x21 (AI @x1w (AI @x1t (AI @x1u (AI @x1s (AI @x26 (AI @x29 (AI @x2b (AI @x25 (AI @x11 (AI @x28 (AI @x2a (AI @xjs (AI @xpt (AI @xps (AI @xp3 (AI @xp8 (AI @xph (AI @xpn (AI @xpu (AI @xp2 (AI @xp9 (AI @xp5 (AI @xpw (AI @xpj (AI @xu3 (AI @xvz @xvj))))))))))))))))))))))))))))))))))))))) :=
 ⟨@xne,@xlp,@xn7,@xmo,@x10,@x24,@x22,@x1x,@x1y,@x23,@x1z,@x1v,@x21,@x1w,@x1t,@x1u,@x1s,@x26,@x29,@x2b,@x25,@x11,@x28,@x2a,@xjs,@xpt,@xps,@xp3,@xp8,@xph,@xpn,@xpu,@xp2,@xp9,@xp5,@xpw,@xpj,@xu3,@xvz,@xvj⟩
theorem TY6 : type_of% (AI @xuo (AI @xlh (AI @xu9 (AI @xwf (AI @xdr (AI @x1b9 (AI @x1gf (AI @x1g9 (AI @x19j (AI @x1eb (AI @x1dx (AI @xhl (AI @xpr (AI @xr5 (AI @xr6 (AI @xpq (AI @xr0 (AI @xra (AI @xiu (AI @xhb (AI @xhr (AI @xhz (AI @xhj (AI @xin (AI @xhs (AI @x162 (AI @x13o (AI @x17p (AI @x15t (AI @x14s (AI @x160 (AI @x16b (AI @x17b (AI @x12i (AI @x173 (AI @x16d (AI @x132 (AI @x15s (AI @x16c @xhq))))))))))))))))))))))))))))))))))))))) :=
 ⟨@xuo,@xlh,@xu9,@xwf,@xdr,@x1b9,@x1gf,@x1g9,@x19j,@x1eb,@x1dx,@xhl,@xpr,@xr5,@xr6,@xpq,@xr0,@xra,@xiu,@xhb,@xhr,@xhz,@xhj,@xin,@xhs,@x162,@x13o,@x17p,@x15t,@x14s,@x160,@x16b,@x17b,@x12i,@x173,@x16d,@x132,@x15s,@x16c,@xhq⟩
theorem TY7 : type_of% (AI @xov (AI @xqv (AI @xqq (AI @xpm (AI @xqt (AI @xr3 (AI @x3e (AI @x4t (AI @x4w (AI @x4x (AI @x4q (AI @x51 (AI @x4y (AI @x5e (AI @x5o (AI @x5p (AI @x5f (AI @x3i (AI @x5b (AI @x5j (AI @xhn (AI @xn0 (AI @xn6 (AI @xmy (AI @xmp (AI @xn9 (AI @xnf (AI @xrb (AI @xu7 (AI @xsp (AI @xqw (AI @xjt (AI @xr2 (AI @xss (AI @xbu (AI @xfk (AI @xhk (AI @xhd (AI @xft @xhf))))))))))))))))))))))))))))))))))))))) :=
 ⟨@xov,@xqv,@xqq,@xpm,@xqt,@xr3,@x3e,@x4t,@x4w,@x4x,@x4q,@x51,@x4y,@x5e,@x5o,@x5p,@x5f,@x3i,@x5b,@x5j,@xhn,@xn0,@xn6,@xmy,@xmp,@xn9,@xnf,@xrb,@xu7,@xsp,@xqw,@xjt,@xr2,@xss,@xbu,@xfk,@xhk,@xhd,@xft,@xhf⟩
theorem TY8 : type_of% (AI @xh8 (AI @x44 (AI @x69 (AI @x68 (AI @x6c (AI @x67 (AI @x6b (AI @x6a (AI @x6p (AI @x72 (AI @x73 (AI @x6q (AI @x48 (AI @x6r (AI @x71 (AI @xd9 (AI @xhc (AI @xh9 (AI @xhi (AI @xh7 (AI @xhh (AI @xhg (AI @xk8 (AI @xm5 (AI @xmk (AI @xkd (AI @xdz (AI @xk2 (AI @xly (AI @xmd (AI @xkh (AI @xm1 (AI @xm4 (AI @xk9 (AI @xm6 (AI @xli (AI @x12n (AI @x114 (AI @x12y @x14q))))))))))))))))))))))))))))))))))))))) :=
 ⟨@xh8,@x44,@x69,@x68,@x6c,@x67,@x6b,@x6a,@x6p,@x72,@x73,@x6q,@x48,@x6r,@x71,@xd9,@xhc,@xh9,@xhi,@xh7,@xhh,@xhg,@xk8,@xm5,@xmk,@xkd,@xdz,@xk2,@xly,@xmd,@xkh,@xm1,@xm4,@xk9,@xm6,@xli,@x12n,@x114,@x12y,@x14q⟩
theorem TY9 : type_of% (AI @x109 (AI @x14e (AI @x12h (AI @xfy (AI @xf6 (AI @xfz (AI @xfs (AI @xfc (AI @xgb (AI @xg3 (AI @x5v (AI @x87 (AI @x85 (AI @x89 (AI @x86 (AI @x8a (AI @x88 (AI @x93 (AI @x9a (AI @x9f (AI @x8z (AI @x60 (AI @x92 (AI @x9d (AI @xl3 (AI @xqx (AI @xr1 (AI @xr8 (AI @xr9 (AI @xqy (AI @xrd (AI @xuz (AI @xxr (AI @xyj (AI @xw5 (AI @xo3 (AI @xvp (AI @xxm (AI @xxp @xwi))))))))))))))))))))))))))))))))))))))) :=
 ⟨@x109,@x14e,@x12h,@xfy,@xf6,@xfz,@xfs,@xfc,@xgb,@xg3,@x5v,@x87,@x85,@x89,@x86,@x8a,@x88,@x93,@x9a,@x9f,@x8z,@x60,@x92,@x9d,@xl3,@xqx,@xr1,@xr8,@xr9,@xqy,@xrd,@xuz,@xxr,@xyj,@xw5,@xo3,@xvp,@xxm,@xxp,@xwi⟩
theorem TY10 : type_of% (AI @xy6 (AI @xx9 (AI @xw2 (AI @xxv (AI @xye (AI @xlw (AI @xn1 (AI @xms (AI @xkr (AI @xn5 (AI @xmv (AI @x113 (AI @xvo (AI @xxf (AI @xv2 (AI @xqs (AI @xte (AI @xxa (AI @xst @xv3))))))))))))))))))) :=
 ⟨@xy6,@xx9,@xw2,@xxv,@xye,@xlw,@xn1,@xms,@xkr,@xn5,@xmv,@x113,@xvo,@xxf,@xv2,@xqs,@xte,@xxa,@xst,@xv3⟩
theorem TY : type_of% (AI @TY0 (AI @TY1 (AI @TY2 (AI @TY3 (AI @TY4 (AI @TY5 (AI @TY6 (AI @TY7 (AI @TY8 (AI @TY9 @TY10)))))))))) :=
 ⟨@TY0,@TY1,@TY2,@TY3,@TY4,@TY5,@TY6,@TY7,@TY8,@TY9,@TY10⟩
end Ev
end Go.Proofs.Ytppdfjdfjfoddaa
