/-
  Products as the reference searches them, walked: the table of all nodes, goals, distances, nodes that are bM.
-/
import Derived.Test.YtppdfjdfjfoddaaDoorNetY
set_option linter.unusedSimpArgs false
set_option linter.unusedVariables false
set_option maxRecDepth 8000
set_option maxHeartbeats 4000000
namespace Go.Proofs.YtppdfjdfjfoddaaDoor
namespace Ev
def tabD (t:List (List (List Int))):List D:=t.map fun r => .ivs r.length (aJ r)
theorem aOX:tabD [] = []:=rfl
theorem PA {l:List (List (List Int))}:(tabD l).length = l.length:=by simp [tabD]
theorem aBy {l:List (List (List Int))} {k:Nat} (h:l.length ≤ k):(tabD l).take k = tabD l:=List.take_of_length_le (by rw [PA]; exact h)
theorem aGR {l:List (List (List Int))} {k:Nat} (h:k < l.length):(((tabD l).drop k).map A.d).head? = some (.d (.ivs (l.getD k []).length (aJ (l.getD k [])))):=by
 rw [List.head?_map,List.head?_drop,tabD,List.getElem?_map,List.getD_eq_getElem?_getD,List.getElem?_eq_getElem h]
 rfl
theorem aPX {l:List (List (List Int))} {r:List (List Int)} {z:Nat} (h:z = r.length):tabD l ++ [.ivs z (aJ r)] = tabD (l ++ [r]):=by
 subst h; simp [tabD]
theorem TE:type_of% (AI @PA (AI @aBy @aGR)) :=
 ⟨@PA,@aBy,@aGR⟩
theorem aAX {R:Type} {L n:Nat} (hn:8 ≤ n) (hL:2 ^ 60 ≤ L) {c1 c2 c3 c4 c5 c6:D} {zs ss ls:List Int} {nx:Int → List Int} {out:List (List (List Int))} {tt v:Int} {ol:Nat} (hll:ls.length ≤ 1000) (hzl:zs.length ≤ 4000) (hsl:ss.length ≤ 4000) (hol:out.length ≤ 4294967290)
  (kc_x:∀ (l:Int),l ∈ ls → ∀ {R:Type} {n:Nat} {hq:H} {k:A → H → Option R},7 ≤ n → aL env (aA env L n) hq 94 [.agg [.d c1,.d c2,.d c3,.d c4,.d c5,.d c6],.d (.ivs zs.length (ints zs)),.d (.ivs ss.length (ints ss)),.d (.int .i64 l)] k = k (.d (.ivs (nx l).length (ints (nx l)))) hq)
  {k:Exit → List A → H → Option R}:∀ (j p m:Nat) (o:List (List Int)) (len:Nat) (hp:p + j = ls.length) (hm:j < m) (hlen:len = o.length) (ho:o.length + j ≤ 4000),
  aO env (aA env L n) L 0 [] (Z1 (U2 (U1 (Z2 (U4 (U2 (U1 (Z32 (Z2 (Z1 ([]))))))))))) (mC 1) (U1 (Z2 (Z1 (U2 (Z4 (Z2 (Z1 (U32 (U2 (U1 ([]))))))))))) m (Y1 (.d (.ivs zs.length (ints zs)) :: .d (.int .i64 tt) :: .ptr 0 0 0 :: Y2 (.d .nils :: .sl 1 0 0 ol :: .d (.ivs ls.length (ints ls)) :: .d (.int .i64 v) :: .d (.ivs ss.length (ints ss)) :: .sl 2 0 0 len :: .d (.int .i64 ((p:Int))) :: Y32 (Y2 (Y1 ([])))))) [.box [.d c1,.d c2,.d c3,.d c4,.d c5,.d c6],.arr (tabD out) 1 0,.arr (aJ o) 1 0] k
  = k (.exit 2) (Y1 (.d (.ivs zs.length (ints zs)) :: .d (.int .i64 tt) :: .ptr 0 0 0 :: Y2 (.d .nils :: .sl 1 0 0 ol :: .d (.ivs ls.length (ints ls)) :: .d (.int .i64 v) :: .d (.ivs ss.length (ints ss)) :: .sl 2 0 0 (o ++ (ls.drop p).map nx).length :: .d (.int .i64 (ls.length)) :: Y32 (Y2 (Y1 ([])))))) [.box [.d c1,.d c2,.d c3,.d c4,.d c5,.d c6],.arr (tabD out) 1 0,.arr (aJ (o ++ (ls.drop p).map nx)) 1 0]:=by
 intro j
 induction j with
 | zero =>
  intro p m o len hp hm hlen ho
  obtain _ | m:=m; omega
  obtain rfl:p = ls.length:=by omega
  subst hlen
  rw [KC]
  simp only [GI,Tryd.f76,SLM,simprocAttr]
  simp -implicitDefEqProofs (maxSteps:=2000000) (disch:=try exact Dz) only [↓DN,↓kAsg,↓kRet,UP,simprocAttr,↓aZ,↓dZ,TE,LA,Int.lt_irrefl]
  simp
 | succ j ih =>
  intro p m o len hp hm hlen ho
  obtain _ | m:=m; omega
  subst hlen
  have hk:p < ls.length:=by omega
  have hc:(p:Int) < ls.length:=by omega
  have hp0:(0:Int) ≤ p:=by omega
  have kc_y:=fun {R:Type} {n:Nat} {hq:H} {k:A → H → Option R} (hn:7 ≤ n) => kc_x _ (pG hk) (R:=R) (n:=n) (hq:=hq) (k:=k) hn
  have ih':=ih (p + 1) m (o ++ [nx (ls.getD p 0)]) (o.length + 1) (by omega) (by omega) (by simp) (by rw [List.length_append,List.length_singleton]; omega)
  rw [show ((p + 1:Nat):Int) = (p:Int) + 1 by omega] at ih'
  rw [eS hk (d:=0),List.map_cons]
  simp only [List.append_assoc,List.cons_append,List.nil_append] at ih'
  clear ih kc_x
  generalize nx (ls.getD p 0) = w at *
  rw [KC]
  simp only [GI,Tryd.f76,SLM,simprocAttr]
  simp -implicitDefEqProofs (maxSteps:=2000000) (disch:=try exact Dz) only [↓DN,↓kAsg,↓kRet,UP,simprocAttr,↓aZ,↓dZ,TE,LA,hc,hp0,↓kc_y,Int.toNat_natCast,aMN,List.length_append,↓ih']
theorem aAN {R:Type} {L n:Nat} (hn:8 ≤ n) (hL:2 ^ 60 ≤ L) {c1 c2 c3 c4 c5 c6:D} {zs ls:List Int} {nx:Int → Int → List Int} {tt:Nat} (hll:ls.length ≤ 1000) (hzl:zs.length ≤ 1000) (htt:tt ≤ 16777216) (hzp:∀ z ∈ zs,0 < z ∧ z ≤ 65536)
  (kc_x:∀ (v:Nat) (l:Int),v < tt → l ∈ ls → ∀ {R:Type} {n:Nat} {hq:H} {k:A → H → Option R},7 ≤ n → aL env (aA env L n) hq 94 [.agg [.d c1,.d c2,.d c3,.d c4,.d c5,.d c6],.d (.ivs zs.length (ints zs)),.d (.ivs zs.length (ints (decN zs v))),.d (.int .i64 l)] k = k (.d (.ivs (nx v l).length (ints (nx v l)))) hq)
  {k:Exit → List A → H → Option R}:∀ (j v m:Nat) (o:List (List (List Int))) (len:Nat) (hp:v + j = tt) (hm:j < m) (hlen:len = o.length) (ho:o.length = v),
  aO env (aA env L n) L 0 [] (Z1 (U2 (U1 (Z2 (U4 (U2 (U1 (Z32 (Z2 (Z1 ([]))))))))))) (mC 0) (U1 (Z2 (Z1 (U2 (Z4 (U32 (U4 (U2 ([]))))))))) m (Y1 (.d (.ivs zs.length (ints zs)) :: .d (.int .i64 ((tt:Int))) :: .ptr 0 0 0 :: Y2 (.d .nils :: .sl 1 0 0 len :: .d (.ivs ls.length (ints ls)) :: .d (.int .i64 ((v:Int))) :: Y32 (Y4 (Y2 ([])))))) [.box [.d c1,.d c2,.d c3,.d c4,.d c5,.d c6],.arr (tabD o) 1 0] k
  = k (.exit 0) (Y1 (.d (.ivs zs.length (ints zs)) :: .d (.int .i64 ((tt:Int))) :: .ptr 0 0 0 :: Y2 (.d .nils :: .sl 1 0 0 (o ++ (List.range' v j).map fun (x:Nat) => ls.map (nx x)).length :: .d (.ivs ls.length (ints ls)) :: .d (.int .i64 ((tt:Int))) :: Y32 (Y4 (Y2 ([])))))) [.box [.d c1,.d c2,.d c3,.d c4,.d c5,.d c6],.arr (tabD (o ++ (List.range' v j).map fun (x:Nat) => ls.map (nx x))) 1 0]:=by
 intro j
 induction j with
 | zero =>
  intro v m o len hp hm hlen ho
  obtain _ | m:=m; omega
  obtain rfl:v = tt:=by omega
  subst hlen
  rw [JT]
  simp only [GH,Tryd.f76,SLM,simprocAttr]
  simp -implicitDefEqProofs (maxSteps:=2000000) (disch:=try exact Dz) only [↓DN,↓kAsg,↓kRet,UP,simprocAttr,↓aZ,↓dZ,TE,LA,Int.lt_irrefl]
  all_goals simp
 | succ j ih =>
  intro v m o len hp hm hlen ho
  obtain _ | m:=m; omega
  subst hlen
  have hc:(v:Int) < tt:=by omega
  have hv0:(0:Int) ≤ v:=by omega
  have hdl:=aBl zs v
  have kc_d:=fun {R:Type} {n:Nat} {hq:H} {k:A → H → Option R} (hn:2 ≤ n) => @dZ R L n hq k hn zs v hzp hzl hv0 (by omega) hL
  have loop_c:=fun {R:Type} {n:Nat} {k:Exit → List A → H → Option R} (hn:8 ≤ n) => @aAX R L n hn hL c1 c2 c3 c4 c5 c6 zs (decN zs v) ls (nx v) o tt v o.length hll (by omega) (by omega) (by omega) (fun l hl {R n hq k} hn => by rw [hdl]; exact kc_x v l (by omega) hl hn) k ls.length 0 L [] 0 (by omega) (by omega) rfl (by simp; omega)
  simp only [List.drop_zero,Int.natCast_zero,List.nil_append,aNl,hdl] at loop_c
  have ih':=ih (v + 1) m (o ++ [ls.map (nx v)]) (o.length + 1) (by omega) (by omega) (by simp) (by simp; omega)
  rw [show ((v + 1:Nat):Int) = (v:Int) + 1 by omega] at ih'
  rw [List.range'_succ,List.map_cons]
  simp only [List.append_assoc,List.cons_append,List.nil_append] at ih'
  clear ih kc_x
  have hwl:(ls.map (nx v)).length = ls.length:=by simp
  generalize ls.map (nx v) = w at *
  generalize decN zs v = ss at *
  rw [JT]
  simp only [GH,Tryd.f76,SLM,simprocAttr]
  simp -implicitDefEqProofs (maxSteps:=2000000) (disch:=try exact Dz) only [↓DN,↓kAsg,↓kRet,UP,simprocAttr,↓aZ,TE,LA,hc,hv0,↓kc_d,↓loop_c,Int.toNat_natCast,aPX,List.length_append,↓ih']
theorem aIG {L n:Nat} (hn:9 ≤ n) (hL:2 ^ 60 ≤ L) {n1 n2 n3:Nat} {d1 d2 d3:List D} {kd go:Int} {zs:List Int} {al:Int} {nx:Int → Int → List Int} {tt:Nat} (hzl:zs.length ≤ 1000) (htt:tt ≤ 16777216) (hzp:∀ z ∈ zs,0 < z ∧ z ≤ 65536)
  (kc_x:∀ (v:Nat) (l:Int),v < tt → l ∈ aD al → ∀ {R:Type} {n:Nat} {hq:H} {k:A → H → Option R},7 ≤ n → aL env (aA env L n) hq 94 [.agg [.d (.ivs n1 d1),.d (.ivs n2 d2),.d (.ivs n3 d3),.d (.int .i64 al),.d (.int .i64 kd),.d (.int .i64 go)],.d (.ivs zs.length (ints zs)),.d (.ivs zs.length (ints (decN zs v))),.d (.int .i64 l)] k = k (.d (.ivs (nx v l).length (ints (nx v l)))) hq) :
  aA env L n 76 [.agg [.d (.ivs n1 d1),.d (.ivs n2 d2),.d (.ivs n3 d3),.d (.int .i64 al),.d (.int .i64 kd),.d (.int .i64 go)],.d (.ivs zs.length (ints zs)),.d (.int .i64 (tt:Int))] [] = some (.d (.ivs tt (tabD ((List.range tt).map fun (x:Nat) => (aD al).map (nx x)))),[]):=by
 have hll:(aD al).length ≤ 1000:=by have:=eZ al; omega
 have loop_c:=fun {R:Type} {n:Nat} {k:Exit → List A → H → Option R} (hn:8 ≤ n) => @aAN R L n hn hL (.ivs n1 d1) (.ivs n2 d2) (.ivs n3 d3) (.int .i64 al) (.int .i64 kd) (.int .i64 go) zs (aD al) nx tt hll hzl htt hzp kc_x k tt 0 L [] 0 (by omega) (by omega) rfl rfl
 simp only [Int.natCast_zero,List.nil_append,aOX,← List.range_eq_range'] at loop_c
 have hwl:((List.range tt).map fun (x:Nat) => (aD al).map (nx x)).length = tt:=by simp
 generalize (List.range tt).map (fun (x:Nat) => (aD al).map (nx x)) = w at *
 have e4:(tabD w).take tt = tabD w:=aBy (by omega)
 clear kc_x hzp
 obtain _ | n:=n; omega
 rw [aHh]
 simp only [aAH,Tryd.f76,SLM,simprocAttr]
 simp -implicitDefEqProofs (maxSteps:=2000000) (disch:=try exact Dz) only [↓DN,↓kAsg,↓kRet,UP,simprocAttr,↓aZ,↓dZ,TE,↓loop_c,e4,hwl]
end Ev
end Go.Proofs.YtppdfjdfjfoddaaDoor
