/-
  The law: minimality has no names.
-/
import Derived.Test.YtppdfjdfjfoddaaDoorAutH
import Derived.Test.YtppdfjdfjfoddaaDoorDistG
import Derived.Test.YtppdfjdfjfoddaaDoorSepC
import Derived.Test.YtppdfjdfjfoddaaDoorAgFrom
set_option linter.unusedSimpArgs false
set_option linter.unusedVariables false
set_option maxRecDepth 8000
set_option maxHeartbeats 4000000
namespace Go.Proofs.YtppdfjdfjfoddaaDoor
namespace Ev
def aFe (a b:Aut):Prop:=(twoG (fun x y => x != y) a b 0 0).2 = false
theorem JH {L n:Nat} (hn:6 ≤ n) (a b:Aut) (ha:AOK a) (hb:AOK b) (hal:a.al = b.al) (hL:2 ^ 60 ≤ L):aA env L n 46 [.agg [.d (.int .i64 a.al),.d (.ivs a.nx.length (aC a.nx)),.d (.ivs a.ac.length (aB a.ac))],.agg [.d (.int .i64 b.al),.d (.ivs b.nx.length (aC b.nx)),.d (.ivs b.ac.length (aB b.ac))]] [] = some (.d (.bool true),[]):=by
 obtain ⟨sa,wa,a1,a2,a3⟩:=bR ha
 obtain ⟨sb,wb,b1,b2,b3⟩:=bR hb
 have hra:=sa.1
 have hrb:=sb.1
 have haa:a.ac.length ≤ 4294967296:=by omega
 have hab:b.ac.length ≤ 4294967296:=by omega
 unfold AOK at ha hb
 rw [← hal] at hb ⊢
 obtain _ | n:=n; omega
 rw [Z3]
 simp only [MC,Tryd.f46,SLM,simprocAttr]
 simp -implicitDefEqProofs (maxSteps:=2000000) (disch:=try exact Dz) only [↓DN,↓kAsg,↓kRet,UP,simprocAttr,↓dB,↓dA,↓cT,↓cR,↓cS,LA,ha,hb,decide_true,beq_self_eq_true]
theorem JS {R:Type} {L n:Nat} {hq:H} {k:A → H → Option R} (hn:6 ≤ n) (a b:Aut) (ha:AOK a) (hb:AOK b) (hal:a.al = b.al) (hL:2 ^ 60 ≤ L):aL env (aA env L n) hq 46 [.agg [.d (.int .i64 a.al),.d (.ivs a.nx.length (aC a.nx)),.d (.ivs a.ac.length (aB a.ac))],.agg [.d (.int .i64 b.al),.d (.ivs b.nx.length (aC b.nx)),.d (.ivs b.ac.length (aB b.ac))]] k = k (.d (.bool true)) hq :=
 aV rfl (JH hn a b ha hb hal hL) rfl (.inl rfl)
theorem JU {R:Type} {L n:Nat} {k:A → Option R} (hn:6 ≤ n) (a b:Aut) (ha:AOK a) (hb:AOK b) (hal:a.al = b.al) (hL:2 ^ 60 ≤ L):aW (aA env L n) 46 [.agg [.d (.int .i64 a.al),.d (.ivs a.nx.length (aC a.nx)),.d (.ivs a.ac.length (aB a.ac))],.agg [.d (.int .i64 b.al),.d (.ivs b.nx.length (aC b.nx)),.d (.ivs b.ac.length (aB b.ac))]] k = k (.d (.bool true)) :=
 kO (JH hn a b ha hb hal hL) rfl
theorem EH {R:Type} {L n:Nat} {hq:H} {k:A → H → Option R} {id0 g0 o0 len0:Nat} {a b:Aut}:aL env (aA env L n) hq 46 [.agg [.d (.int .i64 a.al),.sl id0 g0 o0 len0,.d (.ivs a.ac.length (aB a.ac))],.agg [.d (.int .i64 b.al),.d (.ivs b.nx.length (aC b.nx)),.d (.ivs b.ac.length (aB b.ac))]] k = match box (a5 hq [.agg [.d (.int .i64 a.al),.sl id0 g0 o0 len0,.d (.ivs a.ac.length (aB a.ac))],.agg [.d (.int .i64 b.al),.d (.ivs b.nx.length (aC b.nx)),.d (.ivs b.ac.length (aB b.ac))]]) with
  | .mk (some fs) => aW (aA env L n) 46 fs fun r => k r hq
  | _ => none:=aM bZ
theorem EY {R:Type} {L n:Nat} {hq:H} {k:A → H → Option R} {id1 g1 o1 len1:Nat} {a b:Aut}:aL env (aA env L n) hq 46 [.agg [.d (.int .i64 a.al),.d (.ivs a.nx.length (aC a.nx)),.sl id1 g1 o1 len1],.agg [.d (.int .i64 b.al),.d (.ivs b.nx.length (aC b.nx)),.d (.ivs b.ac.length (aB b.ac))]] k = match box (a5 hq [.agg [.d (.int .i64 a.al),.d (.ivs a.nx.length (aC a.nx)),.sl id1 g1 o1 len1],.agg [.d (.int .i64 b.al),.d (.ivs b.nx.length (aC b.nx)),.d (.ivs b.ac.length (aB b.ac))]]) with
  | .mk (some fs) => aW (aA env L n) 46 fs fun r => k r hq
  | _ => none:=aM bZ
theorem EI {R:Type} {L n:Nat} {hq:H} {k:A → H → Option R} {id1 g1 o1 len1:Nat} {id0 g0 o0 len0:Nat} {a b:Aut}:aL env (aA env L n) hq 46 [.agg [.d (.int .i64 a.al),.sl id0 g0 o0 len0,.sl id1 g1 o1 len1],.agg [.d (.int .i64 b.al),.d (.ivs b.nx.length (aC b.nx)),.d (.ivs b.ac.length (aB b.ac))]] k = match box (a5 hq [.agg [.d (.int .i64 a.al),.sl id0 g0 o0 len0,.sl id1 g1 o1 len1],.agg [.d (.int .i64 b.al),.d (.ivs b.nx.length (aC b.nx)),.d (.ivs b.ac.length (aB b.ac))]]) with
  | .mk (some fs) => aW (aA env L n) 46 fs fun r => k r hq
  | _ => none:=aM bZ
theorem EG {R:Type} {L n:Nat} {hq:H} {k:A → H → Option R} {id2 g2 o2 len2:Nat} {a b:Aut}:aL env (aA env L n) hq 46 [.agg [.d (.int .i64 a.al),.d (.ivs a.nx.length (aC a.nx)),.d (.ivs a.ac.length (aB a.ac))],.agg [.d (.int .i64 b.al),.sl id2 g2 o2 len2,.d (.ivs b.ac.length (aB b.ac))]] k = match box (a5 hq [.agg [.d (.int .i64 a.al),.d (.ivs a.nx.length (aC a.nx)),.d (.ivs a.ac.length (aB a.ac))],.agg [.d (.int .i64 b.al),.sl id2 g2 o2 len2,.d (.ivs b.ac.length (aB b.ac))]]) with
  | .mk (some fs) => aW (aA env L n) 46 fs fun r => k r hq
  | _ => none:=aM bZ
theorem EQ {R:Type} {L n:Nat} {hq:H} {k:A → H → Option R} {id2 g2 o2 len2:Nat} {id0 g0 o0 len0:Nat} {a b:Aut}:aL env (aA env L n) hq 46 [.agg [.d (.int .i64 a.al),.sl id0 g0 o0 len0,.d (.ivs a.ac.length (aB a.ac))],.agg [.d (.int .i64 b.al),.sl id2 g2 o2 len2,.d (.ivs b.ac.length (aB b.ac))]] k = match box (a5 hq [.agg [.d (.int .i64 a.al),.sl id0 g0 o0 len0,.d (.ivs a.ac.length (aB a.ac))],.agg [.d (.int .i64 b.al),.sl id2 g2 o2 len2,.d (.ivs b.ac.length (aB b.ac))]]) with
  | .mk (some fs) => aW (aA env L n) 46 fs fun r => k r hq
  | _ => none:=aM bZ
theorem D9 {R:Type} {L n:Nat} {hq:H} {k:A → H → Option R} {id2 g2 o2 len2:Nat} {id1 g1 o1 len1:Nat} {a b:Aut}:aL env (aA env L n) hq 46 [.agg [.d (.int .i64 a.al),.d (.ivs a.nx.length (aC a.nx)),.sl id1 g1 o1 len1],.agg [.d (.int .i64 b.al),.sl id2 g2 o2 len2,.d (.ivs b.ac.length (aB b.ac))]] k = match box (a5 hq [.agg [.d (.int .i64 a.al),.d (.ivs a.nx.length (aC a.nx)),.sl id1 g1 o1 len1],.agg [.d (.int .i64 b.al),.sl id2 g2 o2 len2,.d (.ivs b.ac.length (aB b.ac))]]) with
  | .mk (some fs) => aW (aA env L n) 46 fs fun r => k r hq
  | _ => none:=aM bZ
theorem D2 {R:Type} {L n:Nat} {hq:H} {k:A → H → Option R} {id2 g2 o2 len2:Nat} {id1 g1 o1 len1:Nat} {id0 g0 o0 len0:Nat} {a b:Aut}:aL env (aA env L n) hq 46 [.agg [.d (.int .i64 a.al),.sl id0 g0 o0 len0,.sl id1 g1 o1 len1],.agg [.d (.int .i64 b.al),.sl id2 g2 o2 len2,.d (.ivs b.ac.length (aB b.ac))]] k = match box (a5 hq [.agg [.d (.int .i64 a.al),.sl id0 g0 o0 len0,.sl id1 g1 o1 len1],.agg [.d (.int .i64 b.al),.sl id2 g2 o2 len2,.d (.ivs b.ac.length (aB b.ac))]]) with
  | .mk (some fs) => aW (aA env L n) 46 fs fun r => k r hq
  | _ => none:=aM bZ
theorem D8 {R:Type} {L n:Nat} {hq:H} {k:A → H → Option R} {id3 g3 o3 len3:Nat} {a b:Aut}:aL env (aA env L n) hq 46 [.agg [.d (.int .i64 a.al),.d (.ivs a.nx.length (aC a.nx)),.d (.ivs a.ac.length (aB a.ac))],.agg [.d (.int .i64 b.al),.d (.ivs b.nx.length (aC b.nx)),.sl id3 g3 o3 len3]] k = match box (a5 hq [.agg [.d (.int .i64 a.al),.d (.ivs a.nx.length (aC a.nx)),.d (.ivs a.ac.length (aB a.ac))],.agg [.d (.int .i64 b.al),.d (.ivs b.nx.length (aC b.nx)),.sl id3 g3 o3 len3]]) with
  | .mk (some fs) => aW (aA env L n) 46 fs fun r => k r hq
  | _ => none:=aM bZ
theorem EC {R:Type} {L n:Nat} {hq:H} {k:A → H → Option R} {id3 g3 o3 len3:Nat} {id0 g0 o0 len0:Nat} {a b:Aut}:aL env (aA env L n) hq 46 [.agg [.d (.int .i64 a.al),.sl id0 g0 o0 len0,.d (.ivs a.ac.length (aB a.ac))],.agg [.d (.int .i64 b.al),.d (.ivs b.nx.length (aC b.nx)),.sl id3 g3 o3 len3]] k = match box (a5 hq [.agg [.d (.int .i64 a.al),.sl id0 g0 o0 len0,.d (.ivs a.ac.length (aB a.ac))],.agg [.d (.int .i64 b.al),.d (.ivs b.nx.length (aC b.nx)),.sl id3 g3 o3 len3]]) with
  | .mk (some fs) => aW (aA env L n) 46 fs fun r => k r hq
  | _ => none:=aM bZ
theorem BN {R:Type} {L n:Nat} {hq:H} {k:A → H → Option R} {id3 g3 o3 len3:Nat} {id1 g1 o1 len1:Nat} {a b:Aut}:aL env (aA env L n) hq 46 [.agg [.d (.int .i64 a.al),.d (.ivs a.nx.length (aC a.nx)),.sl id1 g1 o1 len1],.agg [.d (.int .i64 b.al),.d (.ivs b.nx.length (aC b.nx)),.sl id3 g3 o3 len3]] k = match box (a5 hq [.agg [.d (.int .i64 a.al),.d (.ivs a.nx.length (aC a.nx)),.sl id1 g1 o1 len1],.agg [.d (.int .i64 b.al),.d (.ivs b.nx.length (aC b.nx)),.sl id3 g3 o3 len3]]) with
  | .mk (some fs) => aW (aA env L n) 46 fs fun r => k r hq
  | _ => none:=aM bZ
theorem CB {R:Type} {L n:Nat} {hq:H} {k:A → H → Option R} {id3 g3 o3 len3:Nat} {id1 g1 o1 len1:Nat} {id0 g0 o0 len0:Nat} {a b:Aut}:aL env (aA env L n) hq 46 [.agg [.d (.int .i64 a.al),.sl id0 g0 o0 len0,.sl id1 g1 o1 len1],.agg [.d (.int .i64 b.al),.d (.ivs b.nx.length (aC b.nx)),.sl id3 g3 o3 len3]] k = match box (a5 hq [.agg [.d (.int .i64 a.al),.sl id0 g0 o0 len0,.sl id1 g1 o1 len1],.agg [.d (.int .i64 b.al),.d (.ivs b.nx.length (aC b.nx)),.sl id3 g3 o3 len3]]) with
  | .mk (some fs) => aW (aA env L n) 46 fs fun r => k r hq
  | _ => none:=aM bZ
theorem BB {R:Type} {L n:Nat} {hq:H} {k:A → H → Option R} {id3 g3 o3 len3:Nat} {id2 g2 o2 len2:Nat} {a b:Aut}:aL env (aA env L n) hq 46 [.agg [.d (.int .i64 a.al),.d (.ivs a.nx.length (aC a.nx)),.d (.ivs a.ac.length (aB a.ac))],.agg [.d (.int .i64 b.al),.sl id2 g2 o2 len2,.sl id3 g3 o3 len3]] k = match box (a5 hq [.agg [.d (.int .i64 a.al),.d (.ivs a.nx.length (aC a.nx)),.d (.ivs a.ac.length (aB a.ac))],.agg [.d (.int .i64 b.al),.sl id2 g2 o2 len2,.sl id3 g3 o3 len3]]) with
  | .mk (some fs) => aW (aA env L n) 46 fs fun r => k r hq
  | _ => none:=aM bZ
theorem B2 {R:Type} {L n:Nat} {hq:H} {k:A → H → Option R} {id3 g3 o3 len3:Nat} {id2 g2 o2 len2:Nat} {id0 g0 o0 len0:Nat} {a b:Aut}:aL env (aA env L n) hq 46 [.agg [.d (.int .i64 a.al),.sl id0 g0 o0 len0,.d (.ivs a.ac.length (aB a.ac))],.agg [.d (.int .i64 b.al),.sl id2 g2 o2 len2,.sl id3 g3 o3 len3]] k = match box (a5 hq [.agg [.d (.int .i64 a.al),.sl id0 g0 o0 len0,.d (.ivs a.ac.length (aB a.ac))],.agg [.d (.int .i64 b.al),.sl id2 g2 o2 len2,.sl id3 g3 o3 len3]]) with
  | .mk (some fs) => aW (aA env L n) 46 fs fun r => k r hq
  | _ => none:=aM bZ
theorem BF {R:Type} {L n:Nat} {hq:H} {k:A → H → Option R} {id3 g3 o3 len3:Nat} {id2 g2 o2 len2:Nat} {id1 g1 o1 len1:Nat} {a b:Aut}:aL env (aA env L n) hq 46 [.agg [.d (.int .i64 a.al),.d (.ivs a.nx.length (aC a.nx)),.sl id1 g1 o1 len1],.agg [.d (.int .i64 b.al),.sl id2 g2 o2 len2,.sl id3 g3 o3 len3]] k = match box (a5 hq [.agg [.d (.int .i64 a.al),.d (.ivs a.nx.length (aC a.nx)),.sl id1 g1 o1 len1],.agg [.d (.int .i64 b.al),.sl id2 g2 o2 len2,.sl id3 g3 o3 len3]]) with
  | .mk (some fs) => aW (aA env L n) 46 fs fun r => k r hq
  | _ => none:=aM bZ
theorem BS {R:Type} {L n:Nat} {hq:H} {k:A → H → Option R} {id3 g3 o3 len3:Nat} {id2 g2 o2 len2:Nat} {id1 g1 o1 len1:Nat} {id0 g0 o0 len0:Nat} {a b:Aut}:aL env (aA env L n) hq 46 [.agg [.d (.int .i64 a.al),.sl id0 g0 o0 len0,.sl id1 g1 o1 len1],.agg [.d (.int .i64 b.al),.sl id2 g2 o2 len2,.sl id3 g3 o3 len3]] k = match box (a5 hq [.agg [.d (.int .i64 a.al),.sl id0 g0 o0 len0,.sl id1 g1 o1 len1],.agg [.d (.int .i64 b.al),.sl id2 g2 o2 len2,.sl id3 g3 o3 len3]]) with
  | .mk (some fs) => aW (aA env L n) 46 fs fun r => k r hq
  | _ => none:=aM bZ
theorem ZC {L n:Nat} (hn:1 ≤ n) (x y:Bool):aA env L n 66 [.d (.bool x),.d (.bool y)] [] = some (.d (.bool (x != y)),[]):=by
 obtain _ | n:=n; omega
 rw [YR]
 simp only [K4,Tryd.f66,SLM,simprocAttr]
 simp -implicitDefEqProofs (maxSteps:=2000000) (disch:=try exact Dz) only [↓DN,↓kAsg,↓kRet,UP,simprocAttr,t9]
 all_goals (cases x <;> cases y <;> rfl)
theorem IK {R:Type} {L n:Nat} {hq:H} {k:A → H → Option R} (hn:1 ≤ n) (x y:Bool):aL env (aA env L n) hq 66 [.d (.bool x),.d (.bool y)] k = k (.d (.bool (x != y))) hq :=
 aV rfl (ZC hn x y) rfl (.inl rfl)
theorem QW {L n:Nat} (hn:9 ≤ n) (a b:Aut) (ha:AOK a) (hb:AOK b) (hal:a.al = b.al) (hL:2 ^ 60 ≤ L):aA env L n 45 [.agg [.d (.int .i64 a.al),.d (.ivs a.nx.length (aC a.nx)),.d (.ivs a.ac.length (aB a.ac))],.agg [.d (.int .i64 b.al),.d (.ivs b.nx.length (aC b.nx)),.d (.ivs b.ac.length (aB b.ac))]] [] = some (.tup [.d (.str (txt (twoG (fun x y => x != y) a b 0 0).1)),.d (.bool (twoG (fun x y => x != y) a b 0 0).2)],[]):=by
 obtain ⟨sa,wa,a1,a2,a3⟩:=bR ha
 obtain ⟨sb,wb,b1,b2,b3⟩:=bR hb
 have kc_c:=fun {R:Type} {n:Nat} {hq:H} {k:A → H → Option R} (hn:6 ≤ n) => @JS R L n hq k hn a b ha hb hal hL
 have kl_b:=fun {R:Type} {n:Nat} {k:A → Option R} (hn:8 ≤ n) => kO (call:=aA env L n) (k:=k) (f:=52) (@ZE L n hn hL a b (fun x y => x != y) 66 tT (fun x y {R n hq k} hn => IK hn x y) ha hb 0 0 ⟨by omega,by omega⟩ ⟨by omega,by omega⟩) rfl
 have kv_l:=fun {R:Type} {n:Nat} {hq:H} {args:List A} {k:A → H → Option R} => aM (E:=env) (call:=aA env L n) (h:=hq) (k:=k) (args:=args) s4
 generalize twoG (fun x y => x != y) a b 0 0 = r at *
 obtain _ | n:=n; omega
 rw [aE0]
 simp only [SW,Tryd.f45,SLM,simprocAttr]
 simp -implicitDefEqProofs (maxSteps:=2000000) (disch:=try exact Dz) only [↓DN,↓kAsg,↓kRet,UP,simprocAttr,↓IK,↓JU,↓EH,↓BN,↓CB,↓BB,↓B2,↓BF,↓BS,↓EY,↓EI,↓EG,↓EQ,↓D9,↓D2,↓D8,↓EC,LA,↓kc_c,↓kv_l,↓kl_b]
theorem aE6 {R:Type} {L n:Nat} {hq:H} {k:A → H → Option R} (hn:9 ≤ n) (a b:Aut) (ha:AOK a) (hb:AOK b) (hal:a.al = b.al) (hL:2 ^ 60 ≤ L):aL env (aA env L n) hq 45 [.agg [.d (.int .i64 a.al),.d (.ivs a.nx.length (aC a.nx)),.d (.ivs a.ac.length (aB a.ac))],.agg [.d (.int .i64 b.al),.d (.ivs b.nx.length (aC b.nx)),.d (.ivs b.ac.length (aB b.ac))]] k = k (.tup [.d (.str (txt (twoG (fun x y => x != y) a b 0 0).1)),.d (.bool (twoG (fun x y => x != y) a b 0 0).2)]) hq :=
 aV rfl (QW hn a b ha hb hal hL) rfl (.inl rfl)
theorem aE8 {R:Type} {L n:Nat} {k:A → Option R} (hn:9 ≤ n) (a b:Aut) (ha:AOK a) (hb:AOK b) (hal:a.al = b.al) (hL:2 ^ 60 ≤ L):aW (aA env L n) 45 [.agg [.d (.int .i64 a.al),.d (.ivs a.nx.length (aC a.nx)),.d (.ivs a.ac.length (aB a.ac))],.agg [.d (.int .i64 b.al),.d (.ivs b.nx.length (aC b.nx)),.d (.ivs b.ac.length (aB b.ac))]] k = k (.tup [.d (.str (txt (twoG (fun x y => x != y) a b 0 0).1)),.d (.bool (twoG (fun x y => x != y) a b 0 0).2)]) :=
 kO (QW hn a b ha hb hal hL) rfl
theorem aAk {R:Type} {L n:Nat} {hq:H} {k:A → H → Option R} {id0 g0 o0 len0:Nat} {a b:Aut}:aL env (aA env L n) hq 45 [.agg [.d (.int .i64 a.al),.sl id0 g0 o0 len0,.d (.ivs a.ac.length (aB a.ac))],.agg [.d (.int .i64 b.al),.d (.ivs b.nx.length (aC b.nx)),.d (.ivs b.ac.length (aB b.ac))]] k = match box (a5 hq [.agg [.d (.int .i64 a.al),.sl id0 g0 o0 len0,.d (.ivs a.ac.length (aB a.ac))],.agg [.d (.int .i64 b.al),.d (.ivs b.nx.length (aC b.nx)),.d (.ivs b.ac.length (aB b.ac))]]) with
  | .mk (some fs) => aW (aA env L n) 45 fs fun r => k r hq
  | _ => none:=aM c8
theorem aA5 {R:Type} {L n:Nat} {hq:H} {k:A → H → Option R} {id1 g1 o1 len1:Nat} {a b:Aut}:aL env (aA env L n) hq 45 [.agg [.d (.int .i64 a.al),.d (.ivs a.nx.length (aC a.nx)),.sl id1 g1 o1 len1],.agg [.d (.int .i64 b.al),.d (.ivs b.nx.length (aC b.nx)),.d (.ivs b.ac.length (aB b.ac))]] k = match box (a5 hq [.agg [.d (.int .i64 a.al),.d (.ivs a.nx.length (aC a.nx)),.sl id1 g1 o1 len1],.agg [.d (.int .i64 b.al),.d (.ivs b.nx.length (aC b.nx)),.d (.ivs b.ac.length (aB b.ac))]]) with
  | .mk (some fs) => aW (aA env L n) 45 fs fun r => k r hq
  | _ => none:=aM c8
theorem aAq {R:Type} {L n:Nat} {hq:H} {k:A → H → Option R} {id1 g1 o1 len1:Nat} {id0 g0 o0 len0:Nat} {a b:Aut}:aL env (aA env L n) hq 45 [.agg [.d (.int .i64 a.al),.sl id0 g0 o0 len0,.sl id1 g1 o1 len1],.agg [.d (.int .i64 b.al),.d (.ivs b.nx.length (aC b.nx)),.d (.ivs b.ac.length (aB b.ac))]] k = match box (a5 hq [.agg [.d (.int .i64 a.al),.sl id0 g0 o0 len0,.sl id1 g1 o1 len1],.agg [.d (.int .i64 b.al),.d (.ivs b.nx.length (aC b.nx)),.d (.ivs b.ac.length (aB b.ac))]]) with
  | .mk (some fs) => aW (aA env L n) 45 fs fun r => k r hq
  | _ => none:=aM c8
theorem aAJ {R:Type} {L n:Nat} {hq:H} {k:A → H → Option R} {id2 g2 o2 len2:Nat} {a b:Aut}:aL env (aA env L n) hq 45 [.agg [.d (.int .i64 a.al),.d (.ivs a.nx.length (aC a.nx)),.d (.ivs a.ac.length (aB a.ac))],.agg [.d (.int .i64 b.al),.sl id2 g2 o2 len2,.d (.ivs b.ac.length (aB b.ac))]] k = match box (a5 hq [.agg [.d (.int .i64 a.al),.d (.ivs a.nx.length (aC a.nx)),.d (.ivs a.ac.length (aB a.ac))],.agg [.d (.int .i64 b.al),.sl id2 g2 o2 len2,.d (.ivs b.ac.length (aB b.ac))]]) with
  | .mk (some fs) => aW (aA env L n) 45 fs fun r => k r hq
  | _ => none:=aM c8
theorem aAG {R:Type} {L n:Nat} {hq:H} {k:A → H → Option R} {id2 g2 o2 len2:Nat} {id0 g0 o0 len0:Nat} {a b:Aut}:aL env (aA env L n) hq 45 [.agg [.d (.int .i64 a.al),.sl id0 g0 o0 len0,.d (.ivs a.ac.length (aB a.ac))],.agg [.d (.int .i64 b.al),.sl id2 g2 o2 len2,.d (.ivs b.ac.length (aB b.ac))]] k = match box (a5 hq [.agg [.d (.int .i64 a.al),.sl id0 g0 o0 len0,.d (.ivs a.ac.length (aB a.ac))],.agg [.d (.int .i64 b.al),.sl id2 g2 o2 len2,.d (.ivs b.ac.length (aB b.ac))]]) with
  | .mk (some fs) => aW (aA env L n) 45 fs fun r => k r hq
  | _ => none:=aM c8
theorem aAX {R:Type} {L n:Nat} {hq:H} {k:A → H → Option R} {id2 g2 o2 len2:Nat} {id1 g1 o1 len1:Nat} {a b:Aut}:aL env (aA env L n) hq 45 [.agg [.d (.int .i64 a.al),.d (.ivs a.nx.length (aC a.nx)),.sl id1 g1 o1 len1],.agg [.d (.int .i64 b.al),.sl id2 g2 o2 len2,.d (.ivs b.ac.length (aB b.ac))]] k = match box (a5 hq [.agg [.d (.int .i64 a.al),.d (.ivs a.nx.length (aC a.nx)),.sl id1 g1 o1 len1],.agg [.d (.int .i64 b.al),.sl id2 g2 o2 len2,.d (.ivs b.ac.length (aB b.ac))]]) with
  | .mk (some fs) => aW (aA env L n) 45 fs fun r => k r hq
  | _ => none:=aM c8
theorem aAd {R:Type} {L n:Nat} {hq:H} {k:A → H → Option R} {id2 g2 o2 len2:Nat} {id1 g1 o1 len1:Nat} {id0 g0 o0 len0:Nat} {a b:Aut}:aL env (aA env L n) hq 45 [.agg [.d (.int .i64 a.al),.sl id0 g0 o0 len0,.sl id1 g1 o1 len1],.agg [.d (.int .i64 b.al),.sl id2 g2 o2 len2,.d (.ivs b.ac.length (aB b.ac))]] k = match box (a5 hq [.agg [.d (.int .i64 a.al),.sl id0 g0 o0 len0,.sl id1 g1 o1 len1],.agg [.d (.int .i64 b.al),.sl id2 g2 o2 len2,.d (.ivs b.ac.length (aB b.ac))]]) with
  | .mk (some fs) => aW (aA env L n) 45 fs fun r => k r hq
  | _ => none:=aM c8
theorem aBb {R:Type} {L n:Nat} {hq:H} {k:A → H → Option R} {id3 g3 o3 len3:Nat} {a b:Aut}:aL env (aA env L n) hq 45 [.agg [.d (.int .i64 a.al),.d (.ivs a.nx.length (aC a.nx)),.d (.ivs a.ac.length (aB a.ac))],.agg [.d (.int .i64 b.al),.d (.ivs b.nx.length (aC b.nx)),.sl id3 g3 o3 len3]] k = match box (a5 hq [.agg [.d (.int .i64 a.al),.d (.ivs a.nx.length (aC a.nx)),.d (.ivs a.ac.length (aB a.ac))],.agg [.d (.int .i64 b.al),.d (.ivs b.nx.length (aC b.nx)),.sl id3 g3 o3 len3]]) with
  | .mk (some fs) => aW (aA env L n) 45 fs fun r => k r hq
  | _ => none:=aM c8
theorem aBZ {R:Type} {L n:Nat} {hq:H} {k:A → H → Option R} {id3 g3 o3 len3:Nat} {id0 g0 o0 len0:Nat} {a b:Aut}:aL env (aA env L n) hq 45 [.agg [.d (.int .i64 a.al),.sl id0 g0 o0 len0,.d (.ivs a.ac.length (aB a.ac))],.agg [.d (.int .i64 b.al),.d (.ivs b.nx.length (aC b.nx)),.sl id3 g3 o3 len3]] k = match box (a5 hq [.agg [.d (.int .i64 a.al),.sl id0 g0 o0 len0,.d (.ivs a.ac.length (aB a.ac))],.agg [.d (.int .i64 b.al),.d (.ivs b.nx.length (aC b.nx)),.sl id3 g3 o3 len3]]) with
  | .mk (some fs) => aW (aA env L n) 45 fs fun r => k r hq
  | _ => none:=aM c8
theorem ZW {R:Type} {L n:Nat} {hq:H} {k:A → H → Option R} {id3 g3 o3 len3:Nat} {id1 g1 o1 len1:Nat} {a b:Aut}:aL env (aA env L n) hq 45 [.agg [.d (.int .i64 a.al),.d (.ivs a.nx.length (aC a.nx)),.sl id1 g1 o1 len1],.agg [.d (.int .i64 b.al),.d (.ivs b.nx.length (aC b.nx)),.sl id3 g3 o3 len3]] k = match box (a5 hq [.agg [.d (.int .i64 a.al),.d (.ivs a.nx.length (aC a.nx)),.sl id1 g1 o1 len1],.agg [.d (.int .i64 b.al),.d (.ivs b.nx.length (aC b.nx)),.sl id3 g3 o3 len3]]) with
  | .mk (some fs) => aW (aA env L n) 45 fs fun r => k r hq
  | _ => none:=aM c8
theorem YN {R:Type} {L n:Nat} {hq:H} {k:A → H → Option R} {id3 g3 o3 len3:Nat} {id1 g1 o1 len1:Nat} {id0 g0 o0 len0:Nat} {a b:Aut}:aL env (aA env L n) hq 45 [.agg [.d (.int .i64 a.al),.sl id0 g0 o0 len0,.sl id1 g1 o1 len1],.agg [.d (.int .i64 b.al),.d (.ivs b.nx.length (aC b.nx)),.sl id3 g3 o3 len3]] k = match box (a5 hq [.agg [.d (.int .i64 a.al),.sl id0 g0 o0 len0,.sl id1 g1 o1 len1],.agg [.d (.int .i64 b.al),.d (.ivs b.nx.length (aC b.nx)),.sl id3 g3 o3 len3]]) with
  | .mk (some fs) => aW (aA env L n) 45 fs fun r => k r hq
  | _ => none:=aM c8
theorem ZR {R:Type} {L n:Nat} {hq:H} {k:A → H → Option R} {id3 g3 o3 len3:Nat} {id2 g2 o2 len2:Nat} {a b:Aut}:aL env (aA env L n) hq 45 [.agg [.d (.int .i64 a.al),.d (.ivs a.nx.length (aC a.nx)),.d (.ivs a.ac.length (aB a.ac))],.agg [.d (.int .i64 b.al),.sl id2 g2 o2 len2,.sl id3 g3 o3 len3]] k = match box (a5 hq [.agg [.d (.int .i64 a.al),.d (.ivs a.nx.length (aC a.nx)),.d (.ivs a.ac.length (aB a.ac))],.agg [.d (.int .i64 b.al),.sl id2 g2 o2 len2,.sl id3 g3 o3 len3]]) with
  | .mk (some fs) => aW (aA env L n) 45 fs fun r => k r hq
  | _ => none:=aM c8
theorem ZM {R:Type} {L n:Nat} {hq:H} {k:A → H → Option R} {id3 g3 o3 len3:Nat} {id2 g2 o2 len2:Nat} {id0 g0 o0 len0:Nat} {a b:Aut}:aL env (aA env L n) hq 45 [.agg [.d (.int .i64 a.al),.sl id0 g0 o0 len0,.d (.ivs a.ac.length (aB a.ac))],.agg [.d (.int .i64 b.al),.sl id2 g2 o2 len2,.sl id3 g3 o3 len3]] k = match box (a5 hq [.agg [.d (.int .i64 a.al),.sl id0 g0 o0 len0,.d (.ivs a.ac.length (aB a.ac))],.agg [.d (.int .i64 b.al),.sl id2 g2 o2 len2,.sl id3 g3 o3 len3]]) with
  | .mk (some fs) => aW (aA env L n) 45 fs fun r => k r hq
  | _ => none:=aM c8
theorem ZF {R:Type} {L n:Nat} {hq:H} {k:A → H → Option R} {id3 g3 o3 len3:Nat} {id2 g2 o2 len2:Nat} {id1 g1 o1 len1:Nat} {a b:Aut}:aL env (aA env L n) hq 45 [.agg [.d (.int .i64 a.al),.d (.ivs a.nx.length (aC a.nx)),.sl id1 g1 o1 len1],.agg [.d (.int .i64 b.al),.sl id2 g2 o2 len2,.sl id3 g3 o3 len3]] k = match box (a5 hq [.agg [.d (.int .i64 a.al),.d (.ivs a.nx.length (aC a.nx)),.sl id1 g1 o1 len1],.agg [.d (.int .i64 b.al),.sl id2 g2 o2 len2,.sl id3 g3 o3 len3]]) with
  | .mk (some fs) => aW (aA env L n) 45 fs fun r => k r hq
  | _ => none:=aM c8
theorem ZT {R:Type} {L n:Nat} {hq:H} {k:A → H → Option R} {id3 g3 o3 len3:Nat} {id2 g2 o2 len2:Nat} {id1 g1 o1 len1:Nat} {id0 g0 o0 len0:Nat} {a b:Aut}:aL env (aA env L n) hq 45 [.agg [.d (.int .i64 a.al),.sl id0 g0 o0 len0,.sl id1 g1 o1 len1],.agg [.d (.int .i64 b.al),.sl id2 g2 o2 len2,.sl id3 g3 o3 len3]] k = match box (a5 hq [.agg [.d (.int .i64 a.al),.sl id0 g0 o0 len0,.sl id1 g1 o1 len1],.agg [.d (.int .i64 b.al),.sl id2 g2 o2 len2,.sl id3 g3 o3 len3]]) with
  | .mk (some fs) => aW (aA env L n) 45 fs fun r => k r hq
  | _ => none:=aM c8
theorem F7 {L n:Nat} (hn:10 ≤ n) (a b:Aut) (ha:AOK a) (hb:AOK b) (hal:a.al = b.al) (hs:aFe a b) (hL:2 ^ 60 ≤ L):aA env L n 18 [.agg [.d (.int .i64 a.al),.d (.ivs a.nx.length (aC a.nx)),.d (.ivs a.ac.length (aB a.ac))],.agg [.d (.int .i64 b.al),.d (.ivs b.nx.length (aC b.nx)),.d (.ivs b.ac.length (aB b.ac))]] [] = some (.d (.bool true),[]):=by
 have kc_c:=fun {R:Type} {n:Nat} {hq:H} {k:A → H → Option R} (hn:6 ≤ n) => @JS R L n hq k hn a b ha hb hal hL
 have kc_d:=fun {R:Type} {n:Nat} {hq:H} {k:A → H → Option R} (hn:9 ≤ n) => @aE6 R L n hq k hn a b ha hb hal hL
 unfold aFe at hs
 rw [hs] at kc_d
 generalize twoG (fun x y => x != y) a b 0 0 = r at *
 obtain _ | n:=n; omega
 rw [VZ]
 simp only [H2,Tryd.f18,SLM,simprocAttr]
 simp -implicitDefEqProofs (maxSteps:=2000000) (disch:=try exact Dz) only [↓DN,↓kAsg,↓kRet,UP,simprocAttr,↓aE8,↓JU,↓aAk,↓ZW,↓YN,↓ZR,↓ZM,↓ZF,↓ZT,↓aA5,↓aAq,↓aAJ,↓aAG,↓aAX,↓aAd,↓aBb,↓aBZ,↓EH,↓BN,↓CB,↓BB,↓B2,↓BF,↓BS,↓EY,↓EI,↓EG,↓EQ,↓D9,↓D2,↓D8,↓EC,LA,↓kc_c,↓kc_d]
theorem vF {R:Type} {L n:Nat} {hq:H} {k:A → H → Option R} (hn:10 ≤ n) (a b:Aut) (ha:AOK a) (hb:AOK b) (hal:a.al = b.al) (hs:aFe a b) (hL:2 ^ 60 ≤ L):aL env (aA env L n) hq 18 [.agg [.d (.int .i64 a.al),.d (.ivs a.nx.length (aC a.nx)),.d (.ivs a.ac.length (aB a.ac))],.agg [.d (.int .i64 b.al),.d (.ivs b.nx.length (aC b.nx)),.d (.ivs b.ac.length (aB b.ac))]] k = k (.d (.bool true)) hq :=
 aV rfl (F7 hn a b ha hb hal hs hL) rfl (.inl rfl)
theorem vC {R:Type} {L n:Nat} {k:A → Option R} (hn:10 ≤ n) (a b:Aut) (ha:AOK a) (hb:AOK b) (hal:a.al = b.al) (hs:aFe a b) (hL:2 ^ 60 ≤ L):aW (aA env L n) 18 [.agg [.d (.int .i64 a.al),.d (.ivs a.nx.length (aC a.nx)),.d (.ivs a.ac.length (aB a.ac))],.agg [.d (.int .i64 b.al),.d (.ivs b.nx.length (aC b.nx)),.d (.ivs b.ac.length (aB b.ac))]] k = k (.d (.bool true)) :=
 kO (F7 hn a b ha hb hal hs hL) rfl
theorem sK {R:Type} {L n:Nat} {hq:H} {k:A → H → Option R} {id0 g0 o0 len0:Nat} {a b:Aut}:aL env (aA env L n) hq 18 [.agg [.d (.int .i64 a.al),.sl id0 g0 o0 len0,.d (.ivs a.ac.length (aB a.ac))],.agg [.d (.int .i64 b.al),.d (.ivs b.nx.length (aC b.nx)),.d (.ivs b.ac.length (aB b.ac))]] k = match box (a5 hq [.agg [.d (.int .i64 a.al),.sl id0 g0 o0 len0,.d (.ivs a.ac.length (aB a.ac))],.agg [.d (.int .i64 b.al),.d (.ivs b.nx.length (aC b.nx)),.d (.ivs b.ac.length (aB b.ac))]]) with
  | .mk (some fs) => aW (aA env L n) 18 fs fun r => k r hq
  | _ => none:=aM bT
theorem sO {R:Type} {L n:Nat} {hq:H} {k:A → H → Option R} {id1 g1 o1 len1:Nat} {a b:Aut}:aL env (aA env L n) hq 18 [.agg [.d (.int .i64 a.al),.d (.ivs a.nx.length (aC a.nx)),.sl id1 g1 o1 len1],.agg [.d (.int .i64 b.al),.d (.ivs b.nx.length (aC b.nx)),.d (.ivs b.ac.length (aB b.ac))]] k = match box (a5 hq [.agg [.d (.int .i64 a.al),.d (.ivs a.nx.length (aC a.nx)),.sl id1 g1 o1 len1],.agg [.d (.int .i64 b.al),.d (.ivs b.nx.length (aC b.nx)),.d (.ivs b.ac.length (aB b.ac))]]) with
  | .mk (some fs) => aW (aA env L n) 18 fs fun r => k r hq
  | _ => none:=aM bT
theorem sL {R:Type} {L n:Nat} {hq:H} {k:A → H → Option R} {id1 g1 o1 len1:Nat} {id0 g0 o0 len0:Nat} {a b:Aut}:aL env (aA env L n) hq 18 [.agg [.d (.int .i64 a.al),.sl id0 g0 o0 len0,.sl id1 g1 o1 len1],.agg [.d (.int .i64 b.al),.d (.ivs b.nx.length (aC b.nx)),.d (.ivs b.ac.length (aB b.ac))]] k = match box (a5 hq [.agg [.d (.int .i64 a.al),.sl id0 g0 o0 len0,.sl id1 g1 o1 len1],.agg [.d (.int .i64 b.al),.d (.ivs b.nx.length (aC b.nx)),.d (.ivs b.ac.length (aB b.ac))]]) with
  | .mk (some fs) => aW (aA env L n) 18 fs fun r => k r hq
  | _ => none:=aM bT
theorem sH {R:Type} {L n:Nat} {hq:H} {k:A → H → Option R} {id2 g2 o2 len2:Nat} {a b:Aut}:aL env (aA env L n) hq 18 [.agg [.d (.int .i64 a.al),.d (.ivs a.nx.length (aC a.nx)),.d (.ivs a.ac.length (aB a.ac))],.agg [.d (.int .i64 b.al),.sl id2 g2 o2 len2,.d (.ivs b.ac.length (aB b.ac))]] k = match box (a5 hq [.agg [.d (.int .i64 a.al),.d (.ivs a.nx.length (aC a.nx)),.d (.ivs a.ac.length (aB a.ac))],.agg [.d (.int .i64 b.al),.sl id2 g2 o2 len2,.d (.ivs b.ac.length (aB b.ac))]]) with
  | .mk (some fs) => aW (aA env L n) 18 fs fun r => k r hq
  | _ => none:=aM bT
theorem sA {R:Type} {L n:Nat} {hq:H} {k:A → H → Option R} {id2 g2 o2 len2:Nat} {id0 g0 o0 len0:Nat} {a b:Aut}:aL env (aA env L n) hq 18 [.agg [.d (.int .i64 a.al),.sl id0 g0 o0 len0,.d (.ivs a.ac.length (aB a.ac))],.agg [.d (.int .i64 b.al),.sl id2 g2 o2 len2,.d (.ivs b.ac.length (aB b.ac))]] k = match box (a5 hq [.agg [.d (.int .i64 a.al),.sl id0 g0 o0 len0,.d (.ivs a.ac.length (aB a.ac))],.agg [.d (.int .i64 b.al),.sl id2 g2 o2 len2,.d (.ivs b.ac.length (aB b.ac))]]) with
  | .mk (some fs) => aW (aA env L n) 18 fs fun r => k r hq
  | _ => none:=aM bT
theorem sG {R:Type} {L n:Nat} {hq:H} {k:A → H → Option R} {id2 g2 o2 len2:Nat} {id1 g1 o1 len1:Nat} {a b:Aut}:aL env (aA env L n) hq 18 [.agg [.d (.int .i64 a.al),.d (.ivs a.nx.length (aC a.nx)),.sl id1 g1 o1 len1],.agg [.d (.int .i64 b.al),.sl id2 g2 o2 len2,.d (.ivs b.ac.length (aB b.ac))]] k = match box (a5 hq [.agg [.d (.int .i64 a.al),.d (.ivs a.nx.length (aC a.nx)),.sl id1 g1 o1 len1],.agg [.d (.int .i64 b.al),.sl id2 g2 o2 len2,.d (.ivs b.ac.length (aB b.ac))]]) with
  | .mk (some fs) => aW (aA env L n) 18 fs fun r => k r hq
  | _ => none:=aM bT
theorem sM {R:Type} {L n:Nat} {hq:H} {k:A → H → Option R} {id2 g2 o2 len2:Nat} {id1 g1 o1 len1:Nat} {id0 g0 o0 len0:Nat} {a b:Aut}:aL env (aA env L n) hq 18 [.agg [.d (.int .i64 a.al),.sl id0 g0 o0 len0,.sl id1 g1 o1 len1],.agg [.d (.int .i64 b.al),.sl id2 g2 o2 len2,.d (.ivs b.ac.length (aB b.ac))]] k = match box (a5 hq [.agg [.d (.int .i64 a.al),.sl id0 g0 o0 len0,.sl id1 g1 o1 len1],.agg [.d (.int .i64 b.al),.sl id2 g2 o2 len2,.d (.ivs b.ac.length (aB b.ac))]]) with
  | .mk (some fs) => aW (aA env L n) 18 fs fun r => k r hq
  | _ => none:=aM bT
theorem sN {R:Type} {L n:Nat} {hq:H} {k:A → H → Option R} {id3 g3 o3 len3:Nat} {a b:Aut}:aL env (aA env L n) hq 18 [.agg [.d (.int .i64 a.al),.d (.ivs a.nx.length (aC a.nx)),.d (.ivs a.ac.length (aB a.ac))],.agg [.d (.int .i64 b.al),.d (.ivs b.nx.length (aC b.nx)),.sl id3 g3 o3 len3]] k = match box (a5 hq [.agg [.d (.int .i64 a.al),.d (.ivs a.nx.length (aC a.nx)),.d (.ivs a.ac.length (aB a.ac))],.agg [.d (.int .i64 b.al),.d (.ivs b.nx.length (aC b.nx)),.sl id3 g3 o3 len3]]) with
  | .mk (some fs) => aW (aA env L n) 18 fs fun r => k r hq
  | _ => none:=aM bT
theorem sF {R:Type} {L n:Nat} {hq:H} {k:A → H → Option R} {id3 g3 o3 len3:Nat} {id0 g0 o0 len0:Nat} {a b:Aut}:aL env (aA env L n) hq 18 [.agg [.d (.int .i64 a.al),.sl id0 g0 o0 len0,.d (.ivs a.ac.length (aB a.ac))],.agg [.d (.int .i64 b.al),.d (.ivs b.nx.length (aC b.nx)),.sl id3 g3 o3 len3]] k = match box (a5 hq [.agg [.d (.int .i64 a.al),.sl id0 g0 o0 len0,.d (.ivs a.ac.length (aB a.ac))],.agg [.d (.int .i64 b.al),.d (.ivs b.nx.length (aC b.nx)),.sl id3 g3 o3 len3]]) with
  | .mk (some fs) => aW (aA env L n) 18 fs fun r => k r hq
  | _ => none:=aM bT
theorem rI {R:Type} {L n:Nat} {hq:H} {k:A → H → Option R} {id3 g3 o3 len3:Nat} {id1 g1 o1 len1:Nat} {a b:Aut}:aL env (aA env L n) hq 18 [.agg [.d (.int .i64 a.al),.d (.ivs a.nx.length (aC a.nx)),.sl id1 g1 o1 len1],.agg [.d (.int .i64 b.al),.d (.ivs b.nx.length (aC b.nx)),.sl id3 g3 o3 len3]] k = match box (a5 hq [.agg [.d (.int .i64 a.al),.d (.ivs a.nx.length (aC a.nx)),.sl id1 g1 o1 len1],.agg [.d (.int .i64 b.al),.d (.ivs b.nx.length (aC b.nx)),.sl id3 g3 o3 len3]]) with
  | .mk (some fs) => aW (aA env L n) 18 fs fun r => k r hq
  | _ => none:=aM bT
theorem qZ {R:Type} {L n:Nat} {hq:H} {k:A → H → Option R} {id3 g3 o3 len3:Nat} {id1 g1 o1 len1:Nat} {id0 g0 o0 len0:Nat} {a b:Aut}:aL env (aA env L n) hq 18 [.agg [.d (.int .i64 a.al),.sl id0 g0 o0 len0,.sl id1 g1 o1 len1],.agg [.d (.int .i64 b.al),.d (.ivs b.nx.length (aC b.nx)),.sl id3 g3 o3 len3]] k = match box (a5 hq [.agg [.d (.int .i64 a.al),.sl id0 g0 o0 len0,.sl id1 g1 o1 len1],.agg [.d (.int .i64 b.al),.d (.ivs b.nx.length (aC b.nx)),.sl id3 g3 o3 len3]]) with
  | .mk (some fs) => aW (aA env L n) 18 fs fun r => k r hq
  | _ => none:=aM bT
theorem rE {R:Type} {L n:Nat} {hq:H} {k:A → H → Option R} {id3 g3 o3 len3:Nat} {id2 g2 o2 len2:Nat} {a b:Aut}:aL env (aA env L n) hq 18 [.agg [.d (.int .i64 a.al),.d (.ivs a.nx.length (aC a.nx)),.d (.ivs a.ac.length (aB a.ac))],.agg [.d (.int .i64 b.al),.sl id2 g2 o2 len2,.sl id3 g3 o3 len3]] k = match box (a5 hq [.agg [.d (.int .i64 a.al),.d (.ivs a.nx.length (aC a.nx)),.d (.ivs a.ac.length (aB a.ac))],.agg [.d (.int .i64 b.al),.sl id2 g2 o2 len2,.sl id3 g3 o3 len3]]) with
  | .mk (some fs) => aW (aA env L n) 18 fs fun r => k r hq
  | _ => none:=aM bT
theorem rD {R:Type} {L n:Nat} {hq:H} {k:A → H → Option R} {id3 g3 o3 len3:Nat} {id2 g2 o2 len2:Nat} {id0 g0 o0 len0:Nat} {a b:Aut}:aL env (aA env L n) hq 18 [.agg [.d (.int .i64 a.al),.sl id0 g0 o0 len0,.d (.ivs a.ac.length (aB a.ac))],.agg [.d (.int .i64 b.al),.sl id2 g2 o2 len2,.sl id3 g3 o3 len3]] k = match box (a5 hq [.agg [.d (.int .i64 a.al),.sl id0 g0 o0 len0,.d (.ivs a.ac.length (aB a.ac))],.agg [.d (.int .i64 b.al),.sl id2 g2 o2 len2,.sl id3 g3 o3 len3]]) with
  | .mk (some fs) => aW (aA env L n) 18 fs fun r => k r hq
  | _ => none:=aM bT
theorem rJ {R:Type} {L n:Nat} {hq:H} {k:A → H → Option R} {id3 g3 o3 len3:Nat} {id2 g2 o2 len2:Nat} {id1 g1 o1 len1:Nat} {a b:Aut}:aL env (aA env L n) hq 18 [.agg [.d (.int .i64 a.al),.d (.ivs a.nx.length (aC a.nx)),.sl id1 g1 o1 len1],.agg [.d (.int .i64 b.al),.sl id2 g2 o2 len2,.sl id3 g3 o3 len3]] k = match box (a5 hq [.agg [.d (.int .i64 a.al),.d (.ivs a.nx.length (aC a.nx)),.sl id1 g1 o1 len1],.agg [.d (.int .i64 b.al),.sl id2 g2 o2 len2,.sl id3 g3 o3 len3]]) with
  | .mk (some fs) => aW (aA env L n) 18 fs fun r => k r hq
  | _ => none:=aM bT
theorem rB {R:Type} {L n:Nat} {hq:H} {k:A → H → Option R} {id3 g3 o3 len3:Nat} {id2 g2 o2 len2:Nat} {id1 g1 o1 len1:Nat} {id0 g0 o0 len0:Nat} {a b:Aut}:aL env (aA env L n) hq 18 [.agg [.d (.int .i64 a.al),.sl id0 g0 o0 len0,.sl id1 g1 o1 len1],.agg [.d (.int .i64 b.al),.sl id2 g2 o2 len2,.sl id3 g3 o3 len3]] k = match box (a5 hq [.agg [.d (.int .i64 a.al),.sl id0 g0 o0 len0,.sl id1 g1 o1 len1],.agg [.d (.int .i64 b.al),.sl id2 g2 o2 len2,.sl id3 g3 o3 len3]]) with
  | .mk (some fs) => aW (aA env L n) 18 fs fun r => k r hq
  | _ => none:=aM bT
theorem aRs {L n:Nat} (hn:30 ≤ n) (c:List UInt8) (hsz:¬ (1048576:Int) < c.length) {al x y:Int} {nx:List (List Int)} {ac:List Bool} (hs:aX nx) (ha:ac.length ≤ 4294967296) (kd:∀ (R:Type) (L n:Nat) (hq:H) (k:A → H → Option R),18 ≤ n → 2 ^ 60 ≤ L → aL env (aA env L n) hq 12 [.d (.ivs c.length (bH c))] k = k (.tup [.agg [.d (.int .i64 al),.d (.ivs nx.length (aC nx)),.d (.ivs ac.length (aB ac))],.d (.int .i64 x),.d (.int .i64 y)]) hq) (hd:eO al nx ac x y = false) (hL:2 ^ 60 ≤ L):aA env L n 4 [.d (.ivs c.length (bH c))] [] = some (.d (.bool true),[]):=by
 have h0:kP al nx x y false = []:=rfl
 have h1:kR ac false = []:=rfl
 have hsn:aX []:=⟨by simp,by simp⟩
 have hl0:([]:List Bool).length ≤ 4294967296:=by simp
 have kc_ag:=fun {R:Type} {n:Nat} {hq:H} {k:A → H → Option R} (hn:4 ≤ n) => wJ (R:=R) (L:=L) (n:=n) (hq:=hq) (k:=k) hn (n9 al x y false) [] [] hsn hl0 hL
 simp only [List.length_nil,lD,nV] at kc_ag
 obtain _ | n:=n; omega
 rw [wY]
 simp only [sT,Tryd.f4,SLM,simprocAttr]
 simp -implicitDefEqProofs (maxSteps:=2000000) (disch:=try exact Dz) only [↓DN,↓kAsg,↓kRet,UP,simprocAttr,↓tJ,↓s7,↓wJ,↓mF,↓uJ,↓vF,↓pP,↓yD,↓E0,↓CW,↓vC,↓xV,↓zL,↓wS,↓xM,↓xL,↓w6,↓wZ,↓xC,↓zW,↓AV,↓zZ,↓y8,↓AE,↓zQ,↓AT,↓z4,↓xG,↓xJ,↓xF,↓sK,↓rI,↓qZ,↓rE,↓rD,↓rJ,↓rB,↓sO,↓sL,↓sH,↓sA,↓sG,↓sM,↓sN,↓sF,↓r5,↓rT,↓rZ,LA,hsz,↓kd,hd,h0,h1,List.length_nil,lD,nV,↓kc_ag,t9,zM]
theorem aQO {L n:Nat} (hn:30 ≤ n) (c:List UInt8) (hsz:¬ (1048576:Int) < c.length) {al x y al2:Int} {nx nx2:List (List Int)} {ac:List Bool} (hs:aX nx) (hs2:aX nx2) (ha:ac.length ≤ 4294967296) (kd:∀ (R:Type) (L n:Nat) (hq:H) (k:A → H → Option R),18 ≤ n → 2 ^ 60 ≤ L → aL env (aA env L n) hq 12 [.d (.ivs c.length (bH c))] k = k (.tup [.agg [.d (.int .i64 al),.d (.ivs nx.length (aC nx)),.d (.ivs ac.length (aB ac))],.d (.int .i64 x),.d (.int .i64 y)]) hq)
  (hd:eO al nx ac x y = true) (r1:n9 al x y true = al2) (r2:kP al nx x y true = nx2) (r3:kR ac true = ac) {m n2:Aut} {al3:Int} {nx3:List (List Int)} {cl:List Int} {b0:Bool} (hsm:aX m.nx) (ham:m.ac.length ≤ 4294967296)
  (kc_m1:∀ {R:Type} {n:Nat} {hq:H} {k:A → H → Option R} (hn:11 ≤ n),aL env (aA env L n) hq 16 [.agg [.d (.int .i64 al),.d (.ivs nx.length (aC nx)),.d (.ivs ac.length (aB ac))]] k = k (.tup [.agg [.d (.int .i64 m.al),.d (.ivs m.nx.length (aC m.nx)),.d (.ivs m.ac.length (aB m.ac))],.d (.bool true)]) hq)
  (kc_m2:∀ {R:Type} {n:Nat} {hq:H} {k:A → H → Option R} (hn:11 ≤ n),aL env (aA env L n) hq 16 [.agg [.d (.int .i64 al2),.d (.ivs nx2.length (aC nx2)),.d (.ivs ac.length (aB ac))]] k = k (.tup [.agg [.d (.int .i64 n2.al),.d (.ivs n2.nx.length (aC n2.nx)),.d (.ivs n2.ac.length (aB n2.ac))],.d (.bool true)]) hq)
  (hdm:eO m.al m.nx m.ac x y = true) (s1:n9 m.al x y true = al3) (s2:kP m.al m.nx x y true = nx3) (s3:kR m.ac true = m.ac)
  (kc_i1:∀ {R:Type} {n:Nat} {hq:H} {k:A → H → Option R} (hn:11 ≤ n),aL env (aA env L n) hq 17 [.agg [.d (.int .i64 al),.d (.ivs nx.length (aC nx)),.d (.ivs ac.length (aB ac))]] k = k (.d (.bool b0)) hq)
  (kc_i2:∀ {R:Type} {n:Nat} {hq:H} {k:A → H → Option R} (hn:11 ≤ n),aL env (aA env L n) hq 17 [.agg [.d (.int .i64 al2),.d (.ivs nx2.length (aC nx2)),.d (.ivs ac.length (aB ac))]] k = k (.d (.bool b0)) hq)
  (hlen:(m.nx.length:Int) = n2.nx.length)
  (kc_s:∀ {R:Type} {n:Nat} {hq:H} {k:A → H → Option R} (hn:10 ≤ n),aL env (aA env L n) hq 18 [.agg [.d (.int .i64 al3),.d (.ivs nx3.length (aC nx3)),.d (.ivs m.ac.length (aB m.ac))],.agg [.d (.int .i64 n2.al),.d (.ivs n2.nx.length (aC n2.nx)),.d (.ivs n2.ac.length (aB n2.ac))]] k = k (.d (.bool true)) hq)
  (kc_c1:∀ {R:Type} {n:Nat} {hq:H} {k:A → H → Option R} (hn:7 ≤ n),aL env (aA env L n) hq 10 [.agg [.d (.int .i64 al),.d (.ivs nx.length (aC nx)),.d (.ivs ac.length (aB ac))]] k = k (.d (.ivs cl.length (ints cl))) hq)
  (kc_c2:∀ {R:Type} {n:Nat} {hq:H} {k:A → H → Option R} (hn:7 ≤ n),aL env (aA env L n) hq 10 [.agg [.d (.int .i64 al2),.d (.ivs nx2.length (aC nx2)),.d (.ivs ac.length (aB ac))]] k = k (.d (.ivs cl.length (ints cl))) hq)
  (hcl:cl.length ≤ 4294967296) (hL:2 ^ 60 ≤ L):aA env L n 4 [.d (.ivs c.length (bH c))] [] = some (.d (.bool true),[]):=by
 have hbb:(b0 == b0) = true:=by simp
 obtain _ | n:=n; omega
 rw [wY]
 simp only [sT,Tryd.f4,SLM,simprocAttr]
 simp -implicitDefEqProofs (maxSteps:=2000000) (disch:=try exact Dz) only [↓DN,↓kAsg,↓kRet,UP,simprocAttr,↓tJ,↓s7,↓wJ,↓yD,↓E0,↓CW,↓vC,↓xV,↓zL,↓wS,↓xM,↓xL,↓w6,↓wZ,↓xC,↓zW,↓AV,↓zZ,↓y8,↓AE,↓zQ,↓AT,↓z4,↓xG,↓xJ,↓xF,↓sK,↓rI,↓qZ,↓rE,↓rD,↓rJ,↓rB,↓sO,↓sL,↓sH,↓sA,↓sG,↓sM,↓sN,↓sF,↓r5,↓rT,↓rZ,LA,hsz,↓kd,hd,r1,r2,r3,↓kc_m1,↓kc_m2,hdm,s1,s2,s3,↓kc_i1,↓kc_i2,hlen,↓kc_s,↓kc_c1,↓kc_c2,hbb,t9,zM,Nat.sub_self,List.range'_zero]
theorem ZB {L n:Nat} (hn:30 ≤ n) (c:List UInt8) (hL:2 ^ 60 ≤ L):aA env L n 4 [.d (.ivs c.length (bH c))] [] = some (.d (.bool true),[]):=by
 by_cases hsz:(1048576:Int) < c.length
 ·obtain _ | n:=n; omega
  rw [wY]
  simp only [sT,Tryd.f4,SLM,simprocAttr]
  simp -implicitDefEqProofs (maxSteps:=2000000) (disch:=try exact Dz) only [↓DN,↓kAsg,↓kRet,UP,simprocAttr,↓tJ,↓s7,↓wJ,↓mF,↓uJ,↓vF,↓pP,↓yD,↓E0,↓CW,↓vC,↓xV,↓zL,↓wS,↓xM,↓xL,↓w6,↓wZ,↓xC,↓zW,↓AV,↓zZ,↓y8,↓AE,↓zQ,↓AT,↓z4,↓xG,↓xJ,↓xF,↓sK,↓rI,↓qZ,↓rE,↓rD,↓rJ,↓rB,↓sO,↓sL,↓sH,↓sA,↓sG,↓sM,↓sN,↓sF,↓r5,↓rT,↓rZ,hsz]
 ·obtain ⟨al,nx,ac,x,y,b,_,_,_,_,kd⟩:=PN c (by omega)
  have hs:=b.short (by omega)
  have ha:=b.a
  unfold autD at kd
  cases hd:eO al nx ac x y with
  | false => exact aRs hn c hsz hs (by omega) kd hd hL
  | true =>
   have hd':=hd
   unfold eO at hd'
   simp only [Bool.and_eq_true] at hd'
   obtain ⟨⟨hv,hx⟩,hy⟩:=hd'
   have hal:=(mT hv).2.2.2
   have hA:AOK ⟨al,nx,ac⟩:=hv
   have hB:=R7 hA hx hy
   have hM:=aGU hA
   have hN:=aGU hB
   have hC:=R7 hM hx hy
   obtain ⟨sb,_,_,_,_⟩:=bR hB
   obtain ⟨sm,_,m1,m2,m3⟩:=bR hM
   have hlen:=aJR hA hx hy
   have hcl:=aFu hA hx hy
   have hcn:=TT hA
   obtain ⟨_,_,a1,a2,a3⟩:=bR hA
   have hsl:(swA ⟨al,nx,ac⟩ x y).nx.length = nx.length:=VX
   have hnone:=aLi hC hN rfl (fun w hw => aJa hA hx hy hw)
   refine aQO (x:=x) (y:=y) (al2:=(swA ⟨al,nx,ac⟩ x y).al) (nx2:=(swA ⟨al,nx,ac⟩ x y).nx) (m:=minA ⟨al,nx,ac⟩) (n2:=minA (swA ⟨al,nx,ac⟩ x y)) (al3:=(swA (minA ⟨al,nx,ac⟩) x y).al) (nx3:=(swA (minA ⟨al,nx,ac⟩) x y).nx) (cl:=dC ⟨al,nx,ac⟩) (b0:=decide (((minA ⟨al,nx,ac⟩).nx.length:Int) = nx.length)) hn c hsz hs sb (by omega) kd hd rfl rfl rfl sm (by omega)
    (fun {R n hq k} hn => mF hn ⟨al,nx,ac⟩ hA hL) (fun {R n hq k} hn => mF hn (swA ⟨al,nx,ac⟩ x y) hB hL)
    (by unfold eO; rw [show jB (minA ⟨al,nx,ac⟩).al (minA ⟨al,nx,ac⟩).nx (minA ⟨al,nx,ac⟩).ac = true from hM,hx,hy]; rfl) rfl rfl rfl
    (fun {R n hq k} hn => uJ hn ⟨al,nx,ac⟩ hA hL) (fun {R n hq k} hn => ?_) (by rw [hlen])
    (fun {R n hq k} hn => vF hn (swA (minA ⟨al,nx,ac⟩) x y) (minA (swA ⟨al,nx,ac⟩ x y)) hC hN rfl hnone hL)
    (fun {R n hq k} hn => pP hn ⟨al,nx,ac⟩ hA hL) (fun {R n hq k} hn => ?_) (by rw [hcn]; show nx.length ≤ _; omega) hL
   ·have:=uJ (R:=R) (L:=L) (hq:=hq) (k:=k) hn (swA ⟨al,nx,ac⟩ x y) hB hL
    have he:decide (((minA (swA ⟨al,nx,ac⟩ x y)).nx.length:Int) = (swA ⟨al,nx,ac⟩ x y).nx.length) = decide (((minA ⟨al,nx,ac⟩).nx.length:Int) = nx.length):=by rw [hlen,hsl]
    rw [he] at this
    exact this
   ·have:=pP (R:=R) (L:=L) (hq:=hq) (k:=k) hn (swA ⟨al,nx,ac⟩ x y) hB hL
    rw [hcl] at this
    exact this
end Ev
end Go.Proofs.YtppdfjdfjfoddaaDoor
