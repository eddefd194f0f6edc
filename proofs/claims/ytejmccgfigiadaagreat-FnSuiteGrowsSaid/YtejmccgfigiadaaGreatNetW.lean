/-
  Products as the reference searches them, walked: sizes, nodes, where a letter leads.
-/
import Derived.Test.YtejmccgfigiadaaGreatNetL
set_option linter.unusedSimpArgs false
set_option linter.unusedVariables false
set_option maxRecDepth 8000
set_option maxHeartbeats 4000000
namespace Go.Proofs.YtejmccgfigiadaaGreat
namespace Ev
variable {R:Type} {L n:Nat}
theorem NE:type_of% (AI @GR @CX) :=
 ⟨@GR,@CX⟩
theorem j6 {l:List Int} {i:Nat} (h:i < l.length):l.getD i 0 ∈ l:=by
 rw [List.getD_eq_getElem?_getD,List.getElem?_eq_getElem h]; exact List.getElem_mem h
theorem aLm {l:List Int} {j:Nat} (h:j < l.length):(l.take (j + 1)).reverse = l.getD j 0 :: (l.take j).reverse:=by
 rw [List.take_add_one,List.getElem?_eq_getElem h,List.reverse_append,List.getD_eq_getElem?_getD,List.getElem?_eq_getElem h]
 rfl
def decE:List Int → Int → Int
 | [],n => n
 | z :: zs,n => decE zs (n.tdiv z)
theorem aDp:∀ (zs:List Int) (n:Int),(decR zs n).length = zs.length
 | [],_ => rfl
 | z :: zs,n => by simp [decR,aDp zs]
theorem VD (zs:List Int) (n:Int):(decN zs n).length = zs.length:=by simp [decN,aDp]
theorem XF (hn:1 ≤ n) {zs:List Int} (hz:∀ z ∈ zs,0 < z ∧ z ≤ 65536) (hl:zs.length ≤ 1000) {k:KE R}:∀ (j:Nat) (i node:Int) (m:Nat) (o:List Int) (len:Nat) (hi:i = (j:Int) - 1) (hj:j ≤ zs.length) (h0:0 ≤ node) (h1:node ≤ 4294967296) (hm:j < m) (ho:o.length = zs.length) (hlen:len = zs.length),
  aM env (aA env L n) L 0 [] Bz43 (nU 0) (Z2 (U2 (Z2 (Z1 (U16 (U8 (U2 ([])))))))) m (.d (.ivs zs.length (ints zs)) :: nI node :: Y2 (.d .nils :: .sl 0 0 0 len :: nI i :: Y16 (Y8 (Y2 ([]))))) [.arr (ints o) 1 0] k
  = k (.exit 0) (.d (.ivs zs.length (ints zs)) :: nI (decE (zs.take j).reverse node) :: Y2 (.d .nils :: .sl 0 0 0 len :: nI (-1) :: Y16 (Y8 (Y2 ([]))))) [.arr (ints ((decR (zs.take j).reverse node).reverse ++ o.drop j)) 1 0]:=by
 intro j
 induction j with
 | zero =>
  intro i node m o len hi hj h0 h1 hm ho hlen
  obtain _ | m:=m; omega
  obtain rfl:i = -1:=by omega
  simp -implicitDefEqProofs (maxSteps:=2000000) (disch:=try exact Dz) only [↓DN,↓kRet,UP,simprocAttr,AW,xE,Tryz.f157]
  simp [decR,decE]
 | succ j ih =>
  intro i node m o len hi hj h0 h1 hm ho hlen
  obtain _ | m:=m; omega
  obtain rfl:i = (j:Int):=by omega
  subst hlen
  have hk:j < zs.length:=by omega
  have hk2:j < o.length:=by omega
  have hc:(j:Int) < zs.length:=by omega
  obtain ⟨z1,z2⟩:=hz _ (j6 hk)
  have hz0:¬ zs.getD j 0 = 0:=by omega
  have t0:0 ≤ node.tdiv (zs.getD j 0):=Int.tdiv_nonneg h0 (by omega)
  have t1:node.tdiv (zs.getD j 0) ≤ node:=by
   rw [Int.tdiv_eq_ediv_of_nonneg h0]
   exact Int.ediv_le_self _ h0
  have ih':=ih ((j:Int) - 1) (node.tdiv (zs.getD j 0)) m (o.set j (node.tmod (zs.getD j 0))) zs.length rfl (by omega) t0 (by omega) (by omega) (by simpa using ho) rfl
  rw [aLm hk]
  simp only [decR,decE,List.reverse_cons,List.append_assoc,List.cons_append,List.nil_append]
  have e:(o.set j (node.tmod (zs.getD j 0))).drop j = node.tmod (zs.getD j 0) :: o.drop (j + 1):=by
   rw [cC (d:=0) (by simpa using hk2),aBM hk2,if_pos rfl,List.drop_set_of_lt (by omega)]
  rw [e] at ih'
  clear ih e
  have hj0:(0:Int) ≤ j:=by omega
  simp -implicitDefEqProofs (maxSteps:=2000000) (disch:=try exact Dz) only [↓DN,↓kRet,UP,simprocAttr,hc,hj0,↓QR,↓ih',AW,xE,Tryz.f157]
theorem K5 (hn:2 ≤ n) (zs:List Int) (node:Int) (hz:∀ z ∈ zs,0 < z ∧ z ≤ 65536) (hl:zs.length ≤ 1000) (h0:0 ≤ node) (h1:node ≤ 4294967296) (hL:2 ^ 60 ≤ L):aA env L n 157 [.d (.ivs zs.length (ints zs)),nI node] [] = some (.d (.ivs zs.length (ints (decN zs node))),[]):=by
 have loop_c:=fun {R n k} hn => @XF R L n hn zs hz hl k zs.length ((zs.length:Int) - 1) node L (List.replicate zs.length 0) zs.length rfl (Nat.le_refl _) h0 h1 (by omega) (by simp) rfl
 have e:(List.replicate zs.length (0:Int)).drop zs.length = []:=by simp
 rw [List.take_length,e,List.append_nil] at loop_c
 have e2:(decR zs.reverse node).reverse = decN zs node:=rfl
 have e3:=VD zs node
 rw [e2] at loop_c
 generalize decN zs node = w at *
 have e4:(ints w).take zs.length = ints w:=eB (by omega)
 obtain _ | n:=n; omega
 simp -implicitDefEqProofs (maxSteps:=2000000) (disch:=try exact Dz) only [↓DN,↓kAsg,↓kRet,UP,simprocAttr,↓FJ,↓loop_c,e4,e3,aCH,OD,Tryz.f157]
theorem L4:type_of% fun {L} zs node hz hl h0 h1 hL => ks fun hn => @K5 L _ hn zs node hz hl h0 h1 hL:=fun {L} zs node hz hl h0 h1 hL => ks fun hn => @K5 L _ hn zs node hz hl h0 h1 hL
def I5:List Int → List Int → Int → Prop
 | z :: zs,s :: ss,node => (0 ≤ node * z ∧ node * z ≤ 4294967296) ∧ (0 ≤ node * z + s ∧ node * z + s ≤ 4294967296) ∧ I5 zs ss (node * z + s)
 | [],[],_ => True
 | _,_,_ => False
theorem VY (hn:1 ≤ n) {zs ss:List Int} (hl:zs.length ≤ 1000) (hls:ss.length = zs.length) {k:KE R}:∀ (j i:Nat) (node:Int) (m:Nat) (hi:i + j = zs.length) (hok:I5 (zs.drop i) (ss.drop i) node) (hm:j < m),
  aM env (aA env L n) L 0 [] Bz51 (nX 0) (Z2 (U2 (Z2 (Z1 (U16 (U2 ([]))))))) m (.d (.ivs zs.length (ints zs)) :: .d (.ivs ss.length (ints ss)) :: Y2 (nI 0 :: nI node :: nI i :: Y16 (Y2 ([])))) [] k
  = k (.exit 0) (.d (.ivs zs.length (ints zs)) :: .d (.ivs ss.length (ints ss)) :: Y2 (nI 0 :: nI (encN (zs.drop i) (ss.drop i) node) :: nI (zs.length) :: Y16 (Y2 ([])))) []:=by
 intro j
 induction j with
 | zero =>
  intro i node m hi hok hm
  obtain _ | m:=m; omega
  obtain rfl:i = zs.length:=by omega
  simp -implicitDefEqProofs (maxSteps:=2000000) (disch:=try exact Dz) only [↓DN,↓kRet,UP,simprocAttr,Int.lt_irrefl,AS,x2,Tryz.f159]
  simp [encN]
 | succ j ih =>
  intro i node m hi hok hm
  obtain _ | m:=m; omega
  have hk:i < zs.length:=by omega
  have hk2:i < ss.length:=by omega
  have hc:(i:Int) < zs.length:=by omega
  have hc2:(i:Int) < ss.length:=by omega
  rw [cC hk (d:=0),cC hk2 (d:=0)] at hok ⊢
  obtain ⟨b1,b2,b3⟩:=hok
  have ih':=ih (i + 1) _ m (by omega) b3 (by omega)
  rw [cs1 i] at ih'
  simp only [encN]
  clear ih b3
  simp -implicitDefEqProofs (maxSteps:=2000000) (disch:=try exact Dz) only [↓DN,↓kRet,UP,simprocAttr,hc,hc2,↓ih',AS,x2,Tryz.f159]
theorem aCZ (hn:2 ≤ n) (zs ss:List Int) (hl:zs.length ≤ 1000) (hls:ss.length = zs.length) (hok:I5 zs ss 0) (hL:2 ^ 60 ≤ L):aA env L n 159 [.d (.ivs zs.length (ints zs)),.d (.ivs ss.length (ints ss))] [] = some (nI (encN zs ss 0),[]):=by
 have loop_c:=fun {R n k} hn => @VY R L n hn zs ss hl hls k zs.length 0 0 L (by omega) hok (by omega)
 simp only [List.drop_zero,Int.natCast_zero] at loop_c
 obtain _ | n:=n; omega
 simp -implicitDefEqProofs (maxSteps:=2000000) (disch:=try exact Dz) only [↓DN,↓kAsg,UP,simprocAttr,↓loop_c,aCy,PR,Tryz.f159]
theorem aCV {hq:H} {k:KA R} (hn:2 ≤ n) (zs ss:List Int) (hl:zs.length ≤ 1000) (hls:ss.length = zs.length) (hok:I5 zs ss 0) (hL:2 ^ 60 ≤ L):aY env (aA env L n) hq 159 [.d (.ivs zs.length (ints zs)),.d (.ivs ss.length (ints ss))] k = k (nI (encN zs ss 0)) hq :=
 cP rfl (aCZ hn zs ss hl hls hok hL) rfl (.inl rfl)
theorem TN (hn:1 ≤ n) {N:Net} (h1:N.ps.length ≤ 1000) (h2:N.us.length ≤ 1000) {k:KE R}:∀ (j i m:Nat) (o:List Int) (len:Nat) (hi:i + j = N.ps.length) (hm:j < m) (hlen:len = o.length) (ho:o.length + j ≤ 4000),
  aM env (aA env L n) L 0 [] Bz33 (gF 0) (U1 (Z4 (U32 (U4 ([]))))) m (Y1 (.ptr 0 0 0 :: .d .nils :: .sl 1 0 0 len :: nI i :: Y32 (Y4 ([])))) [.box ((netC N).map A.d),.arr (ints o) 1 0] k
  = k (.exit 0) (Y1 (.ptr 0 0 0 :: .d .nils :: .sl 1 0 0 (o ++ (N.ps.drop i).map (·.st)).length :: nI (N.ps.length) :: Y32 (Y4 ([])))) [.box ((netC N).map A.d),.arr (ints (o ++ (N.ps.drop i).map (·.st))) 1 0]:=by
 intro j
 induction j with
 | zero =>
  intro i m o len hi hm hlen ho
  obtain _ | m:=m; omega
  obtain rfl:i = N.ps.length:=by omega
  subst hlen
  simp -implicitDefEqProofs (maxSteps:=2000000) (disch:=try exact Dz) only [↓DN,↓kRet,UP,simprocAttr,netC,Int.lt_irrefl,CQ,AA,Tryz.f154]
  simp
 | succ j ih =>
  intro i m o len hi hm hlen ho
  obtain _ | m:=m; omega
  subst hlen
  have hk:i < N.ps.length:=by omega
  have hc:(i:Int) < N.ps.length:=by omega
  have g:=aNP hk
  have ih':=ih (i + 1) m (o ++ [(N.ps.getD i default).st]) (o.length + 1) (by omega) (by omega) (by simp) (by rw [List.length_append,List.length_singleton]; omega)
  rw [cs1 i] at ih'
  rw [cC hk (d:=default),List.map_cons]
  simp only [List.append_assoc,List.cons_append,List.nil_append] at ih'
  clear ih
  generalize (N.ps.getD i default).st = s at *
  simp only [netC,List.map_cons,List.map_nil] at ih' ⊢
  simp -implicitDefEqProofs (maxSteps:=2000000) (disch:=try exact Dz) only [↓DN,↓kRet,UP,simprocAttr,NE,List.length_map,List.length_drop,List.drop_drop,hc,g,↓ih',CQ,AA,Tryz.f154]
theorem TJ (hn:1 ≤ n) {N:Net} (h1:N.ps.length ≤ 1000) (h2:N.us.length ≤ 1000) (h3:∀ a ∈ N.us,a.nx.length ≤ 1000) {k:KE R}:∀ (j i m:Nat) (o:List Int) (len i4:Nat) (hi:i + j = N.us.length) (hm:j < m) (hlen:len = o.length) (ho:o.length + j ≤ 4000),
  aM env (aA env L n) L 0 [] Bz33 (gF 1) (U1 (Z4 (Z1 (U32 (U2 (U1 ([]))))))) m (Y1 (.ptr 0 0 0 :: .d .nils :: .sl 1 0 0 len :: nI i4 :: nI i :: Y32 (Y2 (Y1 ([]))))) [.box ((netC N).map A.d),.arr (ints o) 1 0] k
  = k (.exit 2) (Y1 (.ptr 0 0 0 :: .d .nils :: .sl 1 0 0 (o ++ (N.us.drop i).map fun a => (a.nx.length:Int)).length :: nI i4 :: nI (N.us.length) :: Y32 (Y2 (Y1 ([]))))) [.box ((netC N).map A.d),.arr (ints (o ++ (N.us.drop i).map fun a => (a.nx.length:Int))) 1 0]:=by
 intro j
 induction j with
 | zero =>
  intro i m o len i4 hi hm hlen ho
  obtain _ | m:=m; omega
  obtain rfl:i = N.us.length:=by omega
  subst hlen
  simp -implicitDefEqProofs (maxSteps:=2000000) (disch:=try exact Dz) only [↓DN,↓kRet,UP,simprocAttr,netC,Int.lt_irrefl,C6,AO,Tryz.f154]
  simp
 | succ j ih =>
  intro i m o len i4 hi hm hlen ho
  obtain _ | m:=m; omega
  subst hlen
  have hk:i < N.us.length:=by omega
  have hc:(i:Int) < N.us.length:=by omega
  have hmem:N.us.getD i default ∈ N.us:=by rw [List.getD_eq_getElem?_getD,List.getElem?_eq_getElem hk]; exact List.getElem_mem hk
  have ha:=h3 _ hmem
  have g:=aNi hk
  have ih':=ih (i + 1) m (o ++ [((N.us.getD i default).nx.length:Int)]) (o.length + 1) i4 (by omega) (by omega) (by simp) (by rw [List.length_append,List.length_singleton]; omega)
  rw [cs1 i] at ih'
  rw [cC hk (d:=default),List.map_cons]
  simp only [List.append_assoc,List.cons_append,List.nil_append] at ih'
  clear ih hmem
  generalize N.us.getD i default = s at *
  simp only [netC,List.map_cons,List.map_nil] at ih' ⊢
  simp -implicitDefEqProofs (maxSteps:=2000000) (disch:=try exact Dz) only [↓DN,↓kRet,UP,simprocAttr,NE,List.length_map,List.length_drop,List.drop_drop,hc,g,↓ih',C6,AO,Tryz.f154]
theorem M0 (hn:2 ≤ n) (N:Net) (h1:N.ps.length ≤ 1000) (h2:N.us.length ≤ 1000) (h3:∀ a ∈ N.us,a.nx.length ≤ 1000) (hL:2 ^ 60 ≤ L):aA env L n 154 [.agg ((netC N).map A.d)] [] = some (.d (.ivs (IA N).length (ints (IA N))),[]):=by
 have loop_a:=fun {R n k} hn => @TN R L n hn N h1 h2 k N.ps.length 0 L [] 0 (by omega) (by omega) rfl (by simp; omega)
 have loop_b:=fun {R n k} hn => @TJ R L n hn N h1 h2 h3 k N.us.length 0 L (N.ps.map (·.st)) (N.ps.map (·.st)).length N.ps.length (by omega) (by omega) rfl (by simp; omega)
 simp only [List.drop_zero,Int.natCast_zero,List.nil_append,m2] at loop_a loop_b
 have e:N.ps.map (·.st) ++ N.us.map (fun a => (a.nx.length:Int)) = IA N:=rfl
 rw [e] at loop_b
 generalize IA N = w at *
 generalize N.ps.map (·.st) = v at *
 have e4:(ints w).take w.length = ints w:=eB (Nat.le_refl _)
 simp only [netC,List.map_cons,List.map_nil] at loop_a loop_b ⊢
 obtain _ | n:=n; omega
 simp -implicitDefEqProofs (maxSteps:=2000000) (disch:=try exact Dz) only [↓DN,↓kAsg,↓kRet,UP,simprocAttr,↓loop_a,↓loop_b,e4,aDs,RL,Tryz.f154]
end Ev
end Go.Proofs.YtejmccgfigiadaaGreat
