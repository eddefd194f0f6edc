/-
  Products as the reference searches them, walked: sizes, nodes, where a letter leads.
-/
import Derived.Test.YtppdfjdfjfoddaaDoorNetL
set_option linter.unusedSimpArgs false
set_option linter.unusedVariables false
set_option maxRecDepth 8000
set_option maxHeartbeats 4000000
namespace Go.Proofs.YtppdfjdfjfoddaaDoor
namespace Ev
theorem NE:type_of% (AI @E1 (AI @CK (AI @aGX @aFw))) :=
 ⟨@E1,@CK,@aGX,@aFw⟩
theorem pG {l:List Int} {i:Nat} (h:i < l.length):l.getD i 0 ∈ l:=by
 rw [List.getD_eq_getElem?_getD,List.getElem?_eq_getElem h]; exact List.getElem_mem h
theorem aO8 {l:List Int} {j:Nat} (h:j < l.length):(l.take (j + 1)).reverse = l.getD j 0 :: (l.take j).reverse:=by
 rw [List.take_add_one,List.getElem?_eq_getElem h,List.reverse_append,List.getD_eq_getElem?_getD,List.getElem?_eq_getElem h]
 rfl
def decE:List Int → Int → Int
 | [],n => n
 | z :: zs,n => decE zs (n.tdiv z)
theorem aG7:∀ (zs:List Int) (n:Int),(decR zs n).length = zs.length
 | [],_ => rfl
 | z :: zs,n => by simp [decR,aG7 zs]
theorem aBl (zs:List Int) (n:Int):(decN zs n).length = zs.length:=by simp [decN,aG7]
theorem aCT {R:Type} {L n:Nat} (hn:1 ≤ n) {zs:List Int} (hz:∀ z ∈ zs,0 < z ∧ z ≤ 65536) (hl:zs.length ≤ 1000) {k:Exit → List A → H → Option R}:∀ (j:Nat) (i node:Int) (m:Nat) (o:List Int) (len:Nat) (hi:i = (j:Int) - 1) (hj:j ≤ zs.length) (h0:0 ≤ node) (h1:node ≤ 4294967296) (hm:j < m) (ho:o.length = zs.length) (hlen:len = zs.length),
  aO env (aA env L n) L 0 [] (U2 (Z2 (U2 (U1 (Z16 (Z8 (Z2 ([])))))))) (tK 0) (Z2 (U2 (Z2 (Z1 (U16 (U8 (U2 ([])))))))) m (.d (.ivs zs.length (ints zs)) :: .d (.int .i64 node) :: Y2 (.d .nils :: .sl 0 0 0 len :: .d (.int .i64 i) :: Y16 (Y8 (Y2 ([]))))) [.arr (ints o) 1 0] k
  = k (.exit 0) (.d (.ivs zs.length (ints zs)) :: .d (.int .i64 ((decE (zs.take j).reverse node))) :: Y2 (.d .nils :: .sl 0 0 0 len :: .d (.int .i64 ((-1))) :: Y16 (Y8 (Y2 ([]))))) [.arr (ints ((decR (zs.take j).reverse node).reverse ++ o.drop j)) 1 0]:=by
 intro j
 induction j with
 | zero =>
  intro i node m o len hi hj h0 h1 hm ho hlen
  obtain _ | m:=m; omega
  obtain rfl:i = -1:=by omega
  rw [HE]
  simp only [D5,Tryd.f78,SLM,simprocAttr]
  simp -implicitDefEqProofs (maxSteps:=2000000) (disch:=try exact Dz) only [↓DN,↓kAsg,↓kRet,UP,simprocAttr]
  simp [decR,decE]
 | succ j ih =>
  intro i node m o len hi hj h0 h1 hm ho hlen
  obtain _ | m:=m; omega
  obtain rfl:i = (j:Int):=by omega
  subst hlen
  have hk:j < zs.length:=by omega
  have hk2:j < o.length:=by omega
  have hc:(j:Int) < zs.length:=by omega
  obtain ⟨z1,z2⟩:=hz _ (pG hk)
  have hz0:¬ zs.getD j 0 = 0:=by omega
  have t0:0 ≤ node.tdiv (zs.getD j 0):=Int.tdiv_nonneg h0 (by omega)
  have t1:node.tdiv (zs.getD j 0) ≤ node:=by
   rw [Int.tdiv_eq_ediv_of_nonneg h0]
   exact Int.ediv_le_self _ h0
  have ih':=ih ((j:Int) - 1) (node.tdiv (zs.getD j 0)) m (o.set j (node.tmod (zs.getD j 0))) zs.length rfl (by omega) t0 (by omega) (by omega) (by simpa using ho) rfl
  rw [aO8 hk]
  simp only [decR,decE,List.reverse_cons,List.append_assoc,List.cons_append,List.nil_append]
  have e:(o.set j (node.tmod (zs.getD j 0))).drop j = node.tmod (zs.getD j 0) :: o.drop (j + 1):=by
   rw [eS (d:=0) (by simpa using hk2),aFp hk2,if_pos rfl,List.drop_set_of_lt (by omega)]
  rw [e] at ih'
  clear ih e
  have hj0:(0:Int) ≤ j:=by omega
  rw [HE]
  simp only [D5,Tryd.f78,SLM,simprocAttr]
  simp -implicitDefEqProofs (maxSteps:=2000000) (disch:=try exact Dz) only [↓DN,↓kAsg,↓kRet,UP,simprocAttr,hc,hj0,hz0,t0,z1,Int.toNat_natCast,dW,d9,↓IY,↓ih']
theorem aGF {L n:Nat} (hn:2 ≤ n) (zs:List Int) (node:Int) (hz:∀ z ∈ zs,0 < z ∧ z ≤ 65536) (hl:zs.length ≤ 1000) (h0:0 ≤ node) (h1:node ≤ 4294967296) (hL:2 ^ 60 ≤ L):aA env L n 78 [.d (.ivs zs.length (ints zs)),.d (.int .i64 node)] [] = some (.d (.ivs zs.length (ints (decN zs node))),[]):=by
 have loop_c:=fun {R:Type} {n:Nat} {k:Exit → List A → H → Option R} (hn:1 ≤ n) => @aCT R L n hn zs hz hl k zs.length ((zs.length:Int) - 1) node L (List.replicate zs.length 0) zs.length rfl (Nat.le_refl _) h0 h1 (by omega) (by simp) rfl
 have e:(List.replicate zs.length (0:Int)).drop zs.length = []:=by simp
 rw [List.take_length,e,List.append_nil] at loop_c
 have e2:(decR zs.reverse node).reverse = decN zs node:=rfl
 have e3:=aBl zs node
 rw [e2] at loop_c
 generalize decN zs node = w at *
 have e4:(ints w).take zs.length = ints w:=c8 (by omega)
 obtain _ | n:=n; omega
 rw [aGo]
 simp only [U6,Tryd.f78,SLM,simprocAttr]
 simp -implicitDefEqProofs (maxSteps:=2000000) (disch:=try exact Dz) only [↓DN,↓kAsg,↓kRet,UP,simprocAttr,↓vC,Int.toNat_natCast,↓loop_c,e4,e3,dN]
theorem dZ {R:Type} {L n:Nat} {hq:H} {k:A → H → Option R} (hn:2 ≤ n) (zs:List Int) (node:Int) (hz:∀ z ∈ zs,0 < z ∧ z ≤ 65536) (hl:zs.length ≤ 1000) (h0:0 ≤ node) (h1:node ≤ 4294967296) (hL:2 ^ 60 ≤ L):aL env (aA env L n) hq 78 [.d (.ivs zs.length (ints zs)),.d (.int .i64 node)] k = k (.d (.ivs zs.length (ints (decN zs node)))) hq :=
 a5 rfl (aGF hn zs node hz hl h0 h1 hL) rfl (.inr rfl)
def R8:List Int → List Int → Int → Prop
 | z :: zs,s :: ss,node => (0 ≤ node * z ∧ node * z ≤ 4294967296) ∧ (0 ≤ node * z + s ∧ node * z + s ≤ 4294967296) ∧ R8 zs ss (node * z + s)
 | [],[],_ => True
 | _,_,_ => False
theorem aCD {R:Type} {L n:Nat} (hn:1 ≤ n) {zs ss:List Int} (hl:zs.length ≤ 1000) (hls:ss.length = zs.length) {k:Exit → List A → H → Option R}:∀ (j i:Nat) (node:Int) (m:Nat) (hi:i + j = zs.length) (hok:R8 (zs.drop i) (ss.drop i) node) (hm:j < m),
  aO env (aA env L n) L 0 [] (U2 (Z2 (U2 (U1 (Z16 (Z2 ([]))))))) (tM 0) (Z2 (U2 (Z2 (Z1 (U16 (U2 ([]))))))) m (.d (.ivs zs.length (ints zs)) :: .d (.ivs ss.length (ints ss)) :: Y2 (.d (.int .i64 0) :: .d (.int .i64 node) :: .d (.int .i64 ((i:Int))) :: Y16 (Y2 ([])))) [] k
  = k (.exit 0) (.d (.ivs zs.length (ints zs)) :: .d (.ivs ss.length (ints ss)) :: Y2 (.d (.int .i64 0) :: .d (.int .i64 ((encN (zs.drop i) (ss.drop i) node))) :: .d (.int .i64 (zs.length)) :: Y16 (Y2 ([])))) []:=by
 intro j
 induction j with
 | zero =>
  intro i node m hi hok hm
  obtain _ | m:=m; omega
  obtain rfl:i = zs.length:=by omega
  rw [HV]
  simp only [D4,Tryd.f80,SLM,simprocAttr]
  simp -implicitDefEqProofs (maxSteps:=2000000) (disch:=try exact Dz) only [↓DN,↓kAsg,↓kRet,UP,simprocAttr,Int.lt_irrefl]
  simp [encN]
 | succ j ih =>
  intro i node m hi hok hm
  obtain _ | m:=m; omega
  have hk:i < zs.length:=by omega
  have hk2:i < ss.length:=by omega
  have hc:(i:Int) < zs.length:=by omega
  have hc2:(i:Int) < ss.length:=by omega
  rw [eS hk (d:=0),eS hk2 (d:=0)] at hok ⊢
  obtain ⟨b1,b2,b3⟩:=hok
  have ih':=ih (i + 1) _ m (by omega) b3 (by omega)
  rw [show ((i + 1:Nat):Int) = (i:Int) + 1 by omega] at ih'
  simp only [encN]
  clear ih b3
  rw [HV]
  simp only [D4,Tryd.f80,SLM,simprocAttr]
  simp -implicitDefEqProofs (maxSteps:=2000000) (disch:=try exact Dz) only [↓DN,↓kAsg,↓kRet,UP,simprocAttr,hc,hc2,Int.toNat_natCast,↓ih']
theorem TR {L n:Nat} (hn:2 ≤ n) (zs ss:List Int) (hl:zs.length ≤ 1000) (hls:ss.length = zs.length) (hok:R8 zs ss 0) (hL:2 ^ 60 ≤ L):aA env L n 80 [.d (.ivs zs.length (ints zs)),.d (.ivs ss.length (ints ss))] [] = some (.d (.int .i64 (encN zs ss 0)),[]):=by
 have loop_c:=fun {R:Type} {n:Nat} {k:Exit → List A → H → Option R} (hn:1 ≤ n) => @aCD R L n hn zs ss hl hls k zs.length 0 0 L (by omega) hok (by omega)
 simp only [List.drop_zero,Int.natCast_zero] at loop_c
 obtain _ | n:=n; omega
 rw [aGI]
 simp only [XT,Tryd.f80,SLM,simprocAttr]
 simp -implicitDefEqProofs (maxSteps:=2000000) (disch:=try exact Dz) only [↓DN,↓kAsg,↓kRet,UP,simprocAttr,↓loop_c]
theorem fA {R:Type} {L n:Nat} {hq:H} {k:A → H → Option R} (hn:2 ≤ n) (zs ss:List Int) (hl:zs.length ≤ 1000) (hls:ss.length = zs.length) (hok:R8 zs ss 0) (hL:2 ^ 60 ≤ L):aL env (aA env L n) hq 80 [.d (.ivs zs.length (ints zs)),.d (.ivs ss.length (ints ss))] k = k (.d (.int .i64 (encN zs ss 0))) hq :=
 a5 rfl (TR hn zs ss hl hls hok hL) rfl (.inl rfl)
theorem eE {R:Type} {L n:Nat} {k:A → Option R} (hn:2 ≤ n) (zs ss:List Int) (hl:zs.length ≤ 1000) (hls:ss.length = zs.length) (hok:R8 zs ss 0) (hL:2 ^ 60 ≤ L):bL (aA env L n) 80 [.d (.ivs zs.length (ints zs)),.d (.ivs ss.length (ints ss))] k = k (.d (.int .i64 (encN zs ss 0))) :=
 fR (TR hn zs ss hl hls hok hL) rfl
theorem dK {R:Type} {L n:Nat} {hq:H} {k:A → H → Option R} {id0 g0 o0 len0:Nat} {ss:List Int}:aL env (aA env L n) hq 80 [.sl id0 g0 o0 len0,.d (.ivs ss.length (ints ss))] k = match box (cZ hq [.sl id0 g0 o0 len0,.d (.ivs ss.length (ints ss))]) with
  | .mk (some fs) => bL (aA env L n) 80 fs fun r => k r hq
  | _ => none:=aW qE
theorem dL {R:Type} {L n:Nat} {hq:H} {k:A → H → Option R} {id1 g1 o1 len1:Nat} {zs:List Int}:aL env (aA env L n) hq 80 [.d (.ivs zs.length (ints zs)),.sl id1 g1 o1 len1] k = match box (cZ hq [.d (.ivs zs.length (ints zs)),.sl id1 g1 o1 len1]) with
  | .mk (some fs) => bL (aA env L n) 80 fs fun r => k r hq
  | _ => none:=aW qE
theorem dJ {R:Type} {L n:Nat} {hq:H} {k:A → H → Option R} {id1 g1 o1 len1:Nat} {id0 g0 o0 len0:Nat} :aL env (aA env L n) hq 80 [.sl id0 g0 o0 len0,.sl id1 g1 o1 len1] k = match box (cZ hq [.sl id0 g0 o0 len0,.sl id1 g1 o1 len1]) with
  | .mk (some fs) => bL (aA env L n) 80 fs fun r => k r hq
  | _ => none:=aW qE
theorem zA {R:Type} {L n:Nat} (hn:1 ≤ n) {N:Net} (h1:N.ps.length ≤ 1000) (h2:N.us.length ≤ 1000) {k:Exit → List A → H → Option R}:∀ (j i m:Nat) (o:List Int) (len:Nat) (hi:i + j = N.ps.length) (hm:j < m) (hlen:len = o.length) (ho:o.length + j ≤ 4000),
  aO env (aA env L n) L 0 [] (Z1 (U4 (U1 (Z32 (Z2 (Z1 ([]))))))) (lP 0) (U1 (Z4 (U32 (U4 ([]))))) m (Y1 (.ptr 0 0 0 :: .d .nils :: .sl 1 0 0 len :: .d (.int .i64 ((i:Int))) :: Y32 (Y4 ([])))) [.box ((netC N).map A.d),.arr (ints o) 1 0] k
  = k (.exit 0) (Y1 (.ptr 0 0 0 :: .d .nils :: .sl 1 0 0 (o ++ (N.ps.drop i).map (·.st)).length :: .d (.int .i64 (N.ps.length)) :: Y32 (Y4 ([])))) [.box ((netC N).map A.d),.arr (ints (o ++ (N.ps.drop i).map (·.st))) 1 0]:=by
 intro j
 induction j with
 | zero =>
  intro i m o len hi hm hlen ho
  obtain _ | m:=m; omega
  obtain rfl:i = N.ps.length:=by omega
  subst hlen
  rw [J4]
  simp only [GR,Tryd.f75,SLM,simprocAttr]
  simp -implicitDefEqProofs (maxSteps:=2000000) (disch:=try exact Dz) only [↓DN,↓kAsg,↓kRet,UP,simprocAttr,netC,NE,Int.lt_irrefl]
  simp
 | succ j ih =>
  intro i m o len hi hm hlen ho
  obtain _ | m:=m; omega
  subst hlen
  have hk:i < N.ps.length:=by omega
  have hc:(i:Int) < N.ps.length:=by omega
  have g:=aS3 hk
  have ih':=ih (i + 1) m (o ++ [(N.ps.getD i default).st]) (o.length + 1) (by omega) (by omega) (by simp) (by rw [List.length_append,List.length_singleton]; omega)
  rw [show ((i + 1:Nat):Int) = (i:Int) + 1 by omega] at ih'
  rw [eS hk (d:=default),List.map_cons]
  simp only [List.append_assoc,List.cons_append,List.nil_append] at ih'
  clear ih
  generalize (N.ps.getD i default).st = s at *
  simp only [netC,List.map_cons,List.map_nil] at ih' ⊢
  rw [J4]
  simp only [GR,Tryd.f75,SLM,simprocAttr]
  simp -implicitDefEqProofs (maxSteps:=2000000) (disch:=try exact Dz) only [↓DN,↓kAsg,↓kRet,UP,simprocAttr,NE,List.length_map,List.length_drop,List.drop_drop,hc,g,Int.toNat_natCast,c8,iN,List.length_append,↓ih']
theorem aAI {R:Type} {L n:Nat} (hn:1 ≤ n) {N:Net} (h1:N.ps.length ≤ 1000) (h2:N.us.length ≤ 1000) (h3:∀ a ∈ N.us,a.nx.length ≤ 1000) {k:Exit → List A → H → Option R}:∀ (j i m:Nat) (o:List Int) (len i4:Nat) (hi:i + j = N.us.length) (hm:j < m) (hlen:len = o.length) (ho:o.length + j ≤ 4000),
  aO env (aA env L n) L 0 [] (Z1 (U4 (U1 (Z32 (Z2 (Z1 ([]))))))) (lP 1) (U1 (Z4 (Z1 (U32 (U2 (U1 ([]))))))) m (Y1 (.ptr 0 0 0 :: .d .nils :: .sl 1 0 0 len :: .d (.int .i64 ((i4:Int))) :: .d (.int .i64 ((i:Int))) :: Y32 (Y2 (Y1 ([]))))) [.box ((netC N).map A.d),.arr (ints o) 1 0] k
  = k (.exit 2) (Y1 (.ptr 0 0 0 :: .d .nils :: .sl 1 0 0 (o ++ (N.us.drop i).map fun a => (a.nx.length:Int)).length :: .d (.int .i64 ((i4:Int))) :: .d (.int .i64 (N.us.length)) :: Y32 (Y2 (Y1 ([]))))) [.box ((netC N).map A.d),.arr (ints (o ++ (N.us.drop i).map fun a => (a.nx.length:Int))) 1 0]:=by
 intro j
 induction j with
 | zero =>
  intro i m o len i4 hi hm hlen ho
  obtain _ | m:=m; omega
  obtain rfl:i = N.us.length:=by omega
  subst hlen
  rw [KV]
  simp only [GB,Tryd.f75,SLM,simprocAttr]
  simp -implicitDefEqProofs (maxSteps:=2000000) (disch:=try exact Dz) only [↓DN,↓kAsg,↓kRet,UP,simprocAttr,↓zA,netC,NE,Int.lt_irrefl]
  simp
 | succ j ih =>
  intro i m o len i4 hi hm hlen ho
  obtain _ | m:=m; omega
  subst hlen
  have hk:i < N.us.length:=by omega
  have hc:(i:Int) < N.us.length:=by omega
  have hmem:N.us.getD i default ∈ N.us:=by rw [List.getD_eq_getElem?_getD,List.getElem?_eq_getElem hk]; exact List.getElem_mem hk
  have ha:=h3 _ hmem
  have g:=aST hk
  have ih':=ih (i + 1) m (o ++ [((N.us.getD i default).nx.length:Int)]) (o.length + 1) i4 (by omega) (by omega) (by simp) (by rw [List.length_append,List.length_singleton]; omega)
  rw [show ((i + 1:Nat):Int) = (i:Int) + 1 by omega] at ih'
  rw [eS hk (d:=default),List.map_cons]
  simp only [List.append_assoc,List.cons_append,List.nil_append] at ih'
  clear ih hmem
  generalize N.us.getD i default = s at *
  simp only [netC,List.map_cons,List.map_nil] at ih' ⊢
  rw [KV]
  simp only [GB,Tryd.f75,SLM,simprocAttr]
  simp -implicitDefEqProofs (maxSteps:=2000000) (disch:=try exact Dz) only [↓DN,↓kAsg,↓kRet,UP,simprocAttr,↓zA,NE,LA,List.length_map,List.length_drop,List.drop_drop,hc,g,Int.toNat_natCast,c8,iN,List.length_append,↓ih']
theorem W9 {L n:Nat} (hn:2 ≤ n) (N:Net) (h1:N.ps.length ≤ 1000) (h2:N.us.length ≤ 1000) (h3:∀ a ∈ N.us,a.nx.length ≤ 1000) (hL:2 ^ 60 ≤ L):aA env L n 75 [.agg ((netC N).map A.d)] [] = some (.d (.ivs (LF N).length (ints (LF N))),[]):=by
 have loop_a:=fun {R:Type} {n:Nat} {k:Exit → List A → H → Option R} (hn:1 ≤ n) => @zA R L n hn N h1 h2 k N.ps.length 0 L [] 0 (by omega) (by omega) rfl (by simp; omega)
 have loop_b:=fun {R:Type} {n:Nat} {k:Exit → List A → H → Option R} (hn:1 ≤ n) => @aAI R L n hn N h1 h2 h3 k N.us.length 0 L (N.ps.map (·.st)) (N.ps.map (·.st)).length N.ps.length (by omega) (by omega) rfl (by simp; omega)
 simp only [List.drop_zero,Int.natCast_zero,List.nil_append,vQ] at loop_a loop_b
 have e:N.ps.map (·.st) ++ N.us.map (fun a => (a.nx.length:Int)) = LF N:=rfl
 rw [e] at loop_b
 generalize LF N = w at *
 generalize N.ps.map (·.st) = v at *
 have e4:(ints w).take w.length = ints w:=c8 (Nat.le_refl _)
 simp only [netC,List.map_cons,List.map_nil] at loop_a loop_b ⊢
 obtain _ | n:=n; omega
 rw [aHc]
 simp only [aAb,Tryd.f75,SLM,simprocAttr]
 simp -implicitDefEqProofs (maxSteps:=2000000) (disch:=try exact Dz) only [↓DN,↓kAsg,↓kRet,UP,simprocAttr,↓loop_a,↓loop_b,e4,dN]
theorem gN {R:Type} {L n:Nat} {hq:H} {k:A → H → Option R} (hn:2 ≤ n) (N:Net) (h1:N.ps.length ≤ 1000) (h2:N.us.length ≤ 1000) (h3:∀ a ∈ N.us,a.nx.length ≤ 1000) (hL:2 ^ 60 ≤ L):aL env (aA env L n) hq 75 [.agg ((netC N).map A.d)] k = k (.d (.ivs (LF N).length (ints (LF N)))) hq :=
 a5 rfl (W9 hn N h1 h2 h3 hL) rfl (.inr rfl)
end Ev
end Go.Proofs.YtppdfjdfjfoddaaDoor
