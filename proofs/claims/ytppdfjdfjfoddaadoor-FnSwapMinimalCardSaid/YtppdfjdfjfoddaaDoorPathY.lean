/-
  Letters and words exchanged: plain laws.
-/
import Derived.Test.YtppdfjdfjfoddaaDoorDrawR
import Derived.Test.YtppdfjdfjfoddaaDoorAutoL
import Derived.Test.YtppdfjdfjfoddaaDoorDistG
set_option linter.unusedSimpArgs false
set_option linter.unusedVariables false
set_option maxRecDepth 8000
set_option maxHeartbeats 4000000
namespace Go.Proofs.YtppdfjdfjfoddaaDoor
namespace Ev

def swp (l:List UInt8) (i j:Nat):List UInt8:=(l.set i (l.getD j 0)).set j (l.getD i 0)
theorem CS (l:List UInt8) (i j:Nat):(swp l i j).length = l.length:=by simp [swp]
theorem aQY {l:List UInt8} {i j:Nat} (hi:i < l.length) (hj:j < l.length) {b:UInt8} (h:b ∈ swp l i j):b ∈ l:=by
 unfold swp at h
 have key:∀ {l':List UInt8} {k:Nat} {v b:UInt8},b ∈ l'.set k v → b ∈ l' ∨ b = v:=fun h => List.mem_or_eq_of_mem_set h
 have at':∀ {k:Nat},k < l.length → l.getD k 0 ∈ l:=fun hk => by
  rw [List.getD_eq_getElem?_getD,List.getElem?_eq_getElem hk]; exact List.getElem_mem hk
 rcases key h with h | h
 ·rcases key h with h | h
  ·exact h
  ·rw [h]; exact at' hj
 ·rw [h]; exact at' hi
def revG:Nat → Int → Int → List UInt8 → Int × Int × List UInt8
 | 0,i,j,l => (i,j,l)
 | q + 1,i,j,l => if i < j then revG q (i + 1) (j - 1) (swp l i.toNat j.toNat) else (i,j,l)
theorem aAj:∀ (q:Nat) (i j:Int) (l:List UInt8),0 ≤ i → j < l.length → (revG q i j l).2.2.length = l.length ∧ ∀ b ∈ (revG q i j l).2.2,b ∈ l
 | 0,i,j,l,_,_ => ⟨rfl,fun b h => h⟩
 | q + 1,i,j,l,h0,h1 => by
  unfold revG
  split
  ·rename_i hlt
   have ih:=aAj q (i + 1) (j - 1) (swp l i.toNat j.toNat) (by omega) (by rw [CS]; omega)
   rw [CS] at ih
   exact ⟨ih.1,fun b hb => aQY (by omega) (by omega) (ih.2 b hb)⟩
  ·exact ⟨rfl,fun b h => h⟩
theorem aRa {call:a7} {thaw:List Nat} {dst:Option Tmp} {x y:Operand} {g k:Nat} {l:List UInt8} {b:UInt8} (hk:k < l.length):memD env call thaw dst (.store 5 x y) [.arr (bH l) 1 g] [.ptr 0 g k,.d (.int .u8 (b.toNat:Int))] = some (.d .undef,[.arr (bH (l.set k b)) 1 g],{ ids:=[0],ro:=false,wr:=[0] }):=by
 have hst:=aNF (h:=[]) (g:=g) (e:=1) (b:=b) hk
 have e1:aF aG [O.arr (bH l) 1 g] (idsL [.ptr 0 g k,.d (.int .u8 (b.toNat:Int))]) [] = [0]:=rfl
 have e2:pack [O.arr (bH l) 1 g] [0] = [O.arr (bH l) 1 g]:=rfl
 have e3:aH (aK [0]) [.ptr 0 g k,.d (.int .u8 (b.toNat:Int))] = [.ptr 0 g k,.d (.int .u8 (b.toNat:Int))]:=rfl
 unfold memD
 rw [e1]
 simp only [box]
 rw [e2,e3]
 simp only [evOp,gC,two,hst,Option.map_some]
 rfl
theorem aNt {R:Type} {L n g:Nat} {k:Exit → List A → H → Option R}:∀ (q:Nat) (i j:Int) (m:Nat) (l:List UInt8) (len:Nat) (h0:0 ≤ i) (hj:j < l.length) (hq:j - i < q) (hm:q < m) (hl:len = l.length) (hs:l.length ≤ 2147483648) (hj0:-1 ≤ j),
  aU env (aA env L n) L 1 [] (U1 (Z1 (U2 (Z16 (Z8 ([])))))) (fA 0) (Z1 (U1 (Z2 (U16 (U8 ([])))))) m (.sl 0 g 0 len :: Y1 (.d (.int .i64 i) :: .d (.int .i64 j) :: Y16 (Y8 ([])))) [.arr (bH l) 1 g] k
  = k (.exit 0) (.sl 0 g 0 len :: Y1 (.d (.int .i64 (((revG q i j l).1))) :: .d (.int .i64 (((revG q i j l).2.1))) :: Y16 (Y8 ([])))) [.arr (bH (revG q i j l).2.2) 1 g]:=by
 intro q
 induction q with
 | zero =>
  intro i j m l len h0 hj hq hm hl hs hj0
  obtain _ | m:=m; omega
  have hc:¬ i < j:=by omega
  rw [kA]
  simp only [iT,Tryd.f103,SLM,simprocAttr]
  simp -implicitDefEqProofs (maxSteps:=2000000) (disch:=try exact Dz) only [↓DN,↓kAsg,↓kRet,UP,simprocAttr,hc]
  rfl
 | succ q ih =>
  intro i j m l len h0 hj hq hm hl hs hj0
  obtain _ | m:=m; omega
  by_cases hc:i < j
  ·have hi1:i < (len:Int):=by omega
   have hj1:j < (len:Int):=by omega
   have hi2:i.toNat < l.length:=by omega
   have hj2:j.toNat < l.length:=by omega
   have hj3:j.toNat < (l.set i.toNat (l.getD j.toNat 0)).length:=by rw [List.length_set]; exact hj2
   have hj4:(0:Int) ≤ j:=by omega
   have ih':=ih (i + 1) (j - 1) m (swp l i.toNat j.toNat) len (by omega) (by rw [CS]; omega) (by omega) (by omega) (by rw [CS]; exact hl) (by rw [CS]; exact hs) (by omega)
   unfold swp at ih'
   rw [kA]
   simp only [iT,Tryd.f103,SLM,simprocAttr]
   simp -implicitDefEqProofs (maxSteps:=2000000) (disch:=try exact Dz) only [↓DN,↓kAsg,↓kRet,UP,simprocAttr,hc,N8,VQ,MU,↓aRa,↓ih']
   simp only [revG,hc,if_true,swp]
  ·rw [kA]
   simp only [iT,Tryd.f103,SLM,simprocAttr]
   simp -implicitDefEqProofs (maxSteps:=2000000) (disch:=try exact Dz) only [↓DN,↓kAsg,↓kRet,UP,simprocAttr,hc]
   simp only [revG,hc,if_false]
theorem aRB {L n g:Nat} (hn:1 ≤ n) (l:List UInt8) (hs:l.length ≤ 2147483648) (hL:2 ^ 60 ≤ L):aA env L n 103 [.sl 0 g 0 l.length] [.arr (bH l) 1 g] = some (.tup [],[.arr (bH (revG (l.length + 1) 0 ((l.length:Int) - 1) l).2.2) 1 g]):=by
 have lp:∀ {R:Type} {n:Nat} {k:Exit → List A → H → Option R},aU env (aA env L n) L 1 [] (U1 (Z1 (U2 (Z16 (Z8 ([])))))) (fA 0) (Z1 (U1 (Z2 (U16 (U8 ([])))))) L (.sl 0 g 0 l.length :: Y1 (.d (.int .i64 0) :: .d (.int .i64 (((l.length:Int) - 1))) :: Y16 (Y8 ([])))) [.arr (bH l) 1 g] k
  = k (.exit 0) (.sl 0 g 0 l.length :: Y1 (.d (.int .i64 (((revG (l.length + 1) 0 ((l.length:Int) - 1) l).1))) :: .d (.int .i64 (((revG (l.length + 1) 0 ((l.length:Int) - 1) l).2.1))) :: Y16 (Y8 ([])))) [.arr (bH (revG (l.length + 1) 0 ((l.length:Int) - 1) l).2.2) 1 g] :=
  fun {R n k} => aNt (l.length + 1) 0 _ L l l.length (Int.le_refl _) (by omega) (by omega) (by omega) rfl hs (by omega)
 have loop_a:=@lp
 obtain _ | n:=n; omega
 rw [D6]
 simp only [rP,Tryd.f103,SLM,simprocAttr]
 simp -implicitDefEqProofs (maxSteps:=2000000) (disch:=try exact Dz) only [↓DN,↓kAsg,↓kRet,UP,simprocAttr,↓loop_a]
theorem aRo {R:Type} {L n id g:Nat} {hq:H} {k:A → H → Option R} (hn:1 ≤ n) (l:List UInt8) (hi:hq[id]? = some (.arr (bH l) 1 g)) (hs:l.length ≤ 2147483648) (hL:2 ^ 60 ≤ L):aL env (aA env L n) hq 103 [.sl id g 0 l.length] k = k (.tup []) (hq.set id (.arr (bH (revG (l.length + 1) 0 ((l.length:Int) - 1) l).2.2) 1 g)) :=
 aKI hi (by simp [idsL,idsA]) lH rfl (by simpa [aH,mapA,aK] using aRB hn l hs hL)
def visF:List Int → List Bool → List Int → List Bool × List Int
 | [],s,f => (s,f)
 | n :: ns,s,f => if s.getD n.toNat false = true then visF ns s f else visF ns (s.set n.toNat true) (f ++ [n])
def kU (s:List Bool):Nat:=s.count false
theorem YL:∀ (ns:List Int) (s:List Bool) (f:List Int),(visF ns s f).1.length = s.length
 | [],s,f => rfl
 | n :: ns,s,f => by
  unfold visF
  split
  ·exact YL ns s f
  ·rw [YL ns]; simp
theorem W9:∀ {s:List Bool} {k:Nat},s.getD k false = false → k < s.length → kU (s.set k true) + 1 = kU s
 | [],k,h,hk => by simp at hk
 | b :: s,0,h,hk => by
  simp at h
  subst h
  simp [kU]
 | b :: s,k + 1,h,hk => by
  have ih:=W9 (s:=s) (k:=k) (by simpa using h) (by simpa using hk)
  simp only [kU] at ih ⊢
  simp only [List.set_cons_succ,List.count_cons]
  omega
theorem IC:∀ (ns:List Int) (s:List Bool) (f:List Int),(∀ n ∈ ns,0 ≤ n ∧ n < s.length) → (visF ns s f).2.length + kU (visF ns s f).1 = f.length + kU s
 | [],s,f,h => rfl
 | n :: ns,s,f,h => by
  unfold visF
  split
  ·exact IC ns s f fun m hm => h m (List.mem_cons_of_mem _ hm)
  ·rename_i h1
   have h2:=h n List.mem_cons_self
   rw [IC ns _ _ fun m hm => by simpa using h m (List.mem_cons_of_mem _ hm)]
   have:=W9 (s:=s) (k:=n.toNat) (by simpa using h1) (by omega)
   simp only [List.length_append,List.length_cons,List.length_nil]
   omega
theorem ZD:∀ (ns:List Int) (s:List Bool) (f:List Int) (x:Int),x ∈ (visF ns s f).2 → x ∈ f ∨ x ∈ ns
 | [],s,f,x,h => .inl h
 | n :: ns,s,f,x,h => by
  unfold visF at h
  split at h
  ·rcases ZD ns s f x h with h | h
   ·exact .inl h
   ·exact .inr (List.mem_cons_of_mem _ h)
  ·rcases ZD ns _ _ x h with h | h
   ·rcases List.mem_append.1 h with h | h
    ·exact .inl h
    ·simp at h; subst h; exact .inr List.mem_cons_self
   ·exact .inr (List.mem_cons_of_mem _ h)
theorem TE (s:List Bool):kU s ≤ s.length:=List.count_le_length
structure PGood (I:Int → Prop) (size:Nat) (s:List Bool) (st:List PStep):Prop where
 len:s.length = size
 node:∀ p ∈ st,∀ n ∈ p.ns,I n
 room:st.length + kU s ≤ size
 wide:∀ p ∈ st,p.ns.length ≤ size
theorem aJj {I:Int → Prop} {size:Nat} {s:List Bool} {st:List PStep} (h:PGood I size s st) {ns:List Int} (hI:∀ n ∈ ns,I n) (hr:∀ n,I n → 0 ≤ n ∧ n < size) (p l:Int) :
  PGood I size (visF ns s []).1 (addP st p l (visF ns s []).2) ∧ (addP st p l (visF ns s []).2).length + kU (visF ns s []).1 ≤ st.length + kU s ∧ st.length ≤ (addP st p l (visF ns s []).2).length:=by
 have hc:=IC ns s [] fun n hn => by
  have:=hr n (hI n hn)
  rw [h.len]; exact this
 have hm:=ZD ns s []
 have hl:=YL ns s []
 have hu:=TE s
 rw [h.len] at hu
 have hroom:=h.room
 simp only [List.length_nil,Nat.zero_add] at hc
 unfold addP
 split
 ·rename_i hf
  rw [hf] at hc
  simp only [List.length_nil,Nat.zero_add] at hc
  exact ⟨⟨by rw [hl,h.len],h.node,by omega,h.wide⟩,by omega,by omega⟩
 ·rename_i hf
  have hpos:0 < (visF ns s []).2.length:=List.length_pos_iff.2 hf
  refine ⟨⟨by rw [hl,h.len],?_,by simp only [List.length_append,List.length_cons,List.length_nil]; omega,?_⟩,by simp only [List.length_append,List.length_cons,List.length_nil]; omega,by simp⟩
  ·intro q hq n hn
   rcases List.mem_append.1 hq with hq | hq
   ·exact h.node q hq n hn
   ·simp at hq
    subst hq
    rcases hm n hn with h1 | h1
    ·cases h1
    ·exact hI n h1
  ·intro q hq
   rcases List.mem_append.1 hq with hq | hq
   ·exact h.wide q hq
   ·simp at hq
    subst hq
    show (visF ns s []).2.length ≤ size
    omega
theorem yR (gl:Int → Bool):∀ (ns:List Int) (s:List Bool) (f:List Int) (b:Bool),(visG gl ns s f b).1 = (visF ns s f).1 ∧ (visG gl ns s f b).2.1 = (visF ns s f).2
 | [],s,f,b => ⟨rfl,rfl⟩
 | n :: ns,s,f,b => by
  unfold visG visF
  split
  ·exact yR gl ns s f b
  ·exact yR gl ns _ _ _
theorem MN {I:Int → Prop} {gl:Int → Bool} {size:Nat} {s:List Bool} {st:List PStep} (h:PGood I size s st) {ns:List Int} (hI:∀ n ∈ ns,I n) (hr:∀ n,I n → 0 ≤ n ∧ n < size) (p l:Int) :
  PGood I size (visG gl ns s [] false).1 (addP st p l (visG gl ns s [] false).2.1) ∧ (addP st p l (visG gl ns s [] false).2.1).length + kU (visG gl ns s [] false).1 ≤ st.length + kU s ∧ st.length ≤ (addP st p l (visG gl ns s [] false).2.1).length:=by
 obtain ⟨e1,e2⟩:=yR gl ns s [] false
 rw [e1,e2]
 exact aJj h hI hr p l
theorem QZ {I:Int → Prop} {gl:Int → Bool} {size:Nat} {nx:Int → Int → List Int} {ns:List Int} {p:Int} (hr:∀ n,I n → 0 ≤ n ∧ n < size) (hn:∀ n ∈ ns,I n):∀ (ls:List Int) (q:List Bool × List PStep),(∀ n m,I n → m ∈ ls → ∀ y ∈ nx n m,I y) → PGood I size q.1 q.2 →
  PGood I size (ltG nx gl ns p ls q).2.1 (ltG nx gl ns p ls q).2.2 ∧ (ltG nx gl ns p ls q).2.2.length + kU (ltG nx gl ns p ls q).2.1 ≤ q.2.length + kU q.1 ∧ q.2.length ≤ (ltG nx gl ns p ls q).2.2.length
 | [],q,hx,h => ⟨h,Nat.le_refl _,Nat.le_refl _⟩
 | l :: ls,q,hx,h => by
  have hI:∀ m ∈ flat nx ns l,I m:=by
   intro m hm
   obtain ⟨n,h1,h2⟩:=List.mem_flatMap.1 hm
   exact hx n l (hn n h1) List.mem_cons_self m h2
  obtain ⟨g1,g2,g3⟩:=MN (gl:=gl) h hI hr p l
  unfold ltG
  split
  ·exact ⟨g1,g2,g3⟩
  ·obtain ⟨k1,k2,k3⟩:=QZ (gl:=gl) (p:=p) hr hn ls (_,_) (fun n m h1 h2 => hx n m h1 (List.mem_cons_of_mem _ h2)) g1
   exact ⟨k1,Nat.le_trans k2 g2,Nat.le_trans g3 k3⟩
def dH:List PStep → List D
 | [] => []
 | p :: l => .int .i64 p.par :: .int .i64 p.lt :: .ivs p.ns.length (ints p.ns) :: dH l
theorem wK:∀ {l:List PStep},(dH l).length = l.length * 3
 | [] => rfl
 | p :: l => by simp only [dH,List.length_cons,wK (l:=l)]; omega
theorem aBl:∀ {a b:List PStep},dH a ++ dH b = dH (a ++ b)
 | [],b => rfl
 | p :: a,b => by simp only [dH,List.cons_append,aBl (a:=a)]
theorem aJg {l:List PStep} {p t:Int} {ns:List Int} {z:Nat} (h:z = ns.length):dH l ++ [.int .i64 p,.int .i64 t,.ivs z (ints ns)] = dH (l ++ [⟨p,t,ns⟩]):=by
 subst h
 rw [← aBl]; rfl
theorem C9:∀ {l:List PStep} {k:Nat},(dH l).drop (k * 3) = dH (l.drop k)
 | l,0 => by simp
 | [],k + 1 => by simp [dH]
 | p :: l,k + 1 => by
  rw [Nat.add_mul,Nat.one_mul]
  simp only [dH,List.drop_succ_cons]
  exact C9
theorem QB {l:List PStep} {k:Nat} (h:l.length ≤ k):(dH l).take (k * 3) = dH l:=List.take_of_length_le (by rw [wK]; omega)
theorem XL {l:List PStep} {k:Nat} (h:k < l.length):(((dH l).drop (k * 3 + 2)).map A.d).head? = some (.d (.ivs (l.getD k default).ns.length (ints (l.getD k default).ns))):=by
 rw [← List.drop_drop,C9,nB h (d:=default)]
 rfl
def eU (l:List Bool):List D:=l.map .bool
theorem tP {l:List Bool}:(eU l).length = l.length:=by simp [eU]
theorem aBN {l:List Bool} {k:Nat} (h:k < l.length):(((eU l).drop k).map A.d).head? = some (.d (.bool (l.getD k false))):=by
 rw [List.head?_map,List.head?_drop,eU,List.getElem?_map,List.getD_eq_getElem?_getD,List.getElem?_eq_getElem h]
 rfl
theorem aBW {l:List Bool} {k:Nat} (h:l.length ≤ k):(eU l).take k = eU l:=List.take_of_length_le (by rw [tP]; exact h)
theorem aDK {l:List Bool} {k:Nat} {v:Bool} (h:k < l.length):bS (eU l) k [.bool v] = eU (l.set k v):=GX _ l k v h
theorem SJ {a b c:O} {h:H} {g e k:Nat} {l:List Bool} {v:Bool} (hk:k < l.length):mP env.P (a :: b :: c :: .arr (eU l) e g :: h) 4 (.ptr 3 g k) (.d (.bool v)) = some (a :: b :: c :: .arr (eU (l.set k v)) e g :: h):=by
 rw [uL (id:=3) rfl vX aMO rfl (by rw [tP]; exact hk),aDK hk]; rfl
theorem U6 {a b c d:O} {h:H} {g e k:Nat} {l:List Bool} {v:Bool} (hk:k < l.length):mP env.P (a :: b :: c :: d :: .arr (eU l) e g :: h) 4 (.ptr 4 g k) (.d (.bool v)) = some (a :: b :: c :: d :: .arr (eU (l.set k v)) e g :: h):=by
 rw [uL (id:=4) rfl vX aMO rfl (by rw [tP]; exact hk),aDK hk]; rfl
theorem rng4:List.range 4 = [0,1,2,3]:=rfl
theorem rng5:List.range 5 = [0,1,2,3,4]:=rfl
theorem rng6:List.range 6 = [0,1,2,3,4,5]:=rfl
theorem C7:bM env.P 49 = some false:=by kernel_rfl
theorem PE:type_of% (AI rng4 (AI rng5 (AI rng6 (AI @wK (AI @QB (AI @XL (AI @tP (AI @aBN @aBW)))))))) :=
 ⟨rng4,rng5,rng6,@wK,@QB,@XL,@tP,@aBN,@aBW⟩
theorem aL1 {R:Type} {L n:Nat} (hn:3 ≤ n) (hL:2 ^ 60 ≤ L) {I:Int → Prop} {gl:Int → Bool} {gf:FuncId} {caps:List D} {size:Nat} {p l:Int} {ns:List Int} {sc:List D} {se sg sn:Nat} (kc_g:∀ {R:Type} {n:Nat} {hq:H} {k:A → H → Option R} (x:Int),2 ≤ n → I x → aL env (aA env L n) hq gf (.d (.int .i64 x) :: caps.map A.d) k = k (.d (.bool (gl x))) hq) (hI:∀ x ∈ ns,I x) (hr:∀ x,I x → 0 ≤ x ∧ x < size) (hsz:size ≤ 4294967296) (hnl:ns.length ≤ 4294967290) {k:Exit → List A → H → Option R}:∀ (j i m:Nat) (seen:List Bool) (f:List Int) (b:Bool) (len:Nat) (hi:i + j = ns.length) (hm:j < m) (hs:seen.length = size) (hf:f.length ≤ i) (hlen:len = f.length),
  aU env (aA env L n) L (5) [0,0,0,0,0,0,0,0,0,0,2] (U2 (Z1 (U2 (U1 (Z2 (Z1 (U2 (U1 (Z2 (U2 (U1 (Z32 (Z1 ([])))))))))))))) (kW 0) (Z2 (U1 (Z2 (Z1 (U2 (U1 (Z2 (Z1 (U2 (Z2 (Z1 (U32 (U1 ([])))))))))))))) m (.d (.int .i64 p) :: .d (.int .i64 l) :: Y1 (.ptr 0 0 0 :: .ptr 1 0 0 :: .ptr 2 0 0 :: Y2 (Y1 (.d (.bool false) :: .sl 5 0 0 len :: .d (.bool b) :: Y2 (.d (.ivs ns.length (ints ns)) :: .d (.int .i64 (ns.length)) :: .d (.int .i64 ((i:Int))) :: Y32 (Y1 ([]))))))) [.box [.sl 3 0 0 size],.box [.d (.fn gf caps)],.box [.sl 4 sg 0 sn],.arr (eU seen) 1 0,.arr sc se sg,.arr (ints f) 1 0] k
  = k (.exit 0) (.d (.int .i64 p) :: .d (.int .i64 l) :: Y1 (.ptr 0 0 0 :: .ptr 1 0 0 :: .ptr 2 0 0 :: Y2 (Y1 (.d (.bool false) :: .sl 5 0 0 (visG gl (ns.drop i) seen f b).2.1.length :: .d (.bool (((visG gl (ns.drop i) seen f b).2.2))) :: Y2 (.d (.ivs ns.length (ints ns)) :: .d (.int .i64 (ns.length)) :: .d (.int .i64 (ns.length)) :: Y32 (Y1 ([]))))))) [.box [.sl 3 0 0 size],.box [.d (.fn gf caps)],.box [.sl 4 sg 0 sn],.arr (eU (visG gl (ns.drop i) seen f b).1) 1 0,.arr sc se sg,.arr (ints (visG gl (ns.drop i) seen f b).2.1) 1 0]:=by
 intro j
 induction j with
 | zero =>
  intro i m seen f b len hi hm hs hf hlen
  obtain _ | m:=m; omega
  obtain rfl:i = ns.length:=by omega
  subst hlen
  rw [dR]
  simp only [d5,Tryd.f92,SLM,simprocAttr]
  simp -implicitDefEqProofs (maxSteps:=2000000) (disch:=try exact Dz) only [↓DN,↓kAsg,↓kRet,UP,simprocAttr,PE,C7,Int.lt_irrefl]
  simp only [List.drop_length,visG]
 | succ j ih =>
  intro i m seen f b len hi hm hs hf hlen
  obtain _ | m:=m; omega
  subst hlen
  have hc:(i:Int) < ns.length:=by omega
  have hk:i < ns.length:=by omega
  have hmem:ns.getD i 0 ∈ ns:=by rw [List.getD_eq_getElem?_getD,List.getElem?_eq_getElem hk]; exact List.getElem_mem hk
  have hIx:=hI _ hmem
  obtain ⟨b1,b2⟩:=hr _ hIx
  have b3:(ns.getD i 0).toNat < seen.length:=by omega
  have e4:((i + 1:Nat):Int) = (i:Int) + 1:=by omega
  rw [nB hk (d:=0)]
  cases hb:seen.getD (ns.getD i 0).toNat false with
  | true =>
   have ih':=ih (i + 1) m seen f b f.length (by omega) (by omega) hs (by omega) rfl
   rw [e4] at ih'
   clear ih hmem
   rw [dR]
   simp only [d5,Tryd.f92,SLM,simprocAttr]
   simp -implicitDefEqProofs (maxSteps:=2000000) (disch:=try exact Dz) only [↓DN,↓kAsg,↓kRet,UP,simprocAttr,PE,C7,hc,b1,b2,hb,Int.toNat_natCast,↓ih']
   simp only [visG,hb,if_true]
  | false =>
   cases b with
   | true =>
    have ih':=ih (i + 1) m (seen.set (ns.getD i 0).toNat true) (f ++ [ns.getD i 0]) true (f.length + 1) (by omega) (by omega) (by simp [hs]) (by simp; omega) (by simp)
    rw [e4] at ih'
    clear ih hmem
    rw [dR]
    simp only [d5,Tryd.f92,SLM,simprocAttr]
    simp -implicitDefEqProofs (maxSteps:=2000000) (disch:=try exact Dz) only [↓DN,↓kAsg,↓kRet,UP,simprocAttr,PE,C7,hc,b1,b2,hb,Int.toNat_natCast,↓SJ,cY,gZ,List.length_append,↓ih']
    simp only [visG,hb,Bool.false_eq_true,if_false,Bool.true_or]
   | false =>
    cases hg:gl (ns.getD i 0) with
    | true =>
     have ih':=ih (i + 1) m (seen.set (ns.getD i 0).toNat true) (f ++ [ns.getD i 0]) true (f.length + 1) (by omega) (by omega) (by simp [hs]) (by simp; omega) (by simp)
     rw [e4] at ih'
     clear ih hmem
     rw [dR]
     simp only [d5,Tryd.f92,SLM,simprocAttr]
     simp -implicitDefEqProofs (maxSteps:=2000000) (disch:=try exact Dz) only [↓DN,↓kAsg,↓kRet,UP,simprocAttr,PE,C7,hc,b1,b2,hb,hg,Int.toNat_natCast,↓SJ,↓kc_g,cY,gZ,List.length_append,↓ih']
     simp only [visG,hb,hg,Bool.false_eq_true,if_false,Bool.or_true]
    | false =>
     have ih':=ih (i + 1) m (seen.set (ns.getD i 0).toNat true) (f ++ [ns.getD i 0]) false (f.length + 1) (by omega) (by omega) (by simp [hs]) (by simp; omega) (by simp)
     rw [e4] at ih'
     clear ih hmem
     rw [dR]
     simp only [d5,Tryd.f92,SLM,simprocAttr]
     simp -implicitDefEqProofs (maxSteps:=2000000) (disch:=try exact Dz) only [↓DN,↓kAsg,↓kRet,UP,simprocAttr,PE,C7,hc,b1,b2,hb,hg,Int.toNat_natCast,↓SJ,↓kc_g,cY,gZ,List.length_append,↓ih']
     simp only [visG,hb,hg,Bool.false_eq_true,if_false,Bool.or_false]
theorem aMB {R:Type} {L n:Nat} (hn:3 ≤ n) (hL:2 ^ 60 ≤ L) {I:Int → Prop} {gl:Int → Bool} {gf:FuncId} {caps:List D} {size:Nat} {p l:Int} {ns:List Int} {sc:List D} {se sg sn:Nat} (kc_g:∀ {R:Type} {n:Nat} {hq:H} {k:A → H → Option R} (x:Int),2 ≤ n → I x → aL env (aA env L n) hq gf (.d (.int .i64 x) :: caps.map A.d) k = k (.d (.bool (gl x))) hq) (hI:∀ x ∈ ns,I x) (hr:∀ x,I x → 0 ≤ x ∧ x < size) (hsz:size ≤ 4294967296) (hnl:ns.length ≤ 4294967290) {k:Exit → List A → H → Option R}:∀ (j i m:Nat) (seen:List Bool) (f:List Int) (b:Bool) (len:Nat) (hi:i + j = ns.length) (hm:j < m) (hs:seen.length = size) (hf:f.length ≤ i) (hlen:len = f.length),
  aU env (aA env L n) L (6) [0,0,0,0,0,0,0,0,0,0,2] (U2 (Z1 (U2 (U1 (Z2 (Z1 (U2 (U1 (Z2 (U2 (U1 (Z32 (Z1 ([])))))))))))))) (kW 0) (Z2 (U1 (Z2 (Z1 (U2 (U1 (Z2 (Z1 (U2 (Z2 (Z1 (U32 (U1 ([])))))))))))))) m (.d (.int .i64 p) :: .d (.int .i64 l) :: Y1 (.ptr 0 0 0 :: .ptr 1 0 0 :: .ptr 2 0 0 :: Y2 (Y1 (.d (.bool false) :: .sl 6 0 0 len :: .d (.bool b) :: Y2 (.sl 3 0 0 ns.length :: .d (.int .i64 (ns.length)) :: .d (.int .i64 ((i:Int))) :: Y32 (Y1 ([]))))))) [.box [.sl 4 0 0 size],.box [.d (.fn gf caps)],.box [.sl 5 sg 0 sn],.arr (ints ns) 1 0,.arr (eU seen) 1 0,.arr sc se sg,.arr (ints f) 1 0] k
  = k (.exit 0) (.d (.int .i64 p) :: .d (.int .i64 l) :: Y1 (.ptr 0 0 0 :: .ptr 1 0 0 :: .ptr 2 0 0 :: Y2 (Y1 (.d (.bool false) :: .sl 6 0 0 (visG gl (ns.drop i) seen f b).2.1.length :: .d (.bool (((visG gl (ns.drop i) seen f b).2.2))) :: Y2 (.sl 3 0 0 ns.length :: .d (.int .i64 (ns.length)) :: .d (.int .i64 (ns.length)) :: Y32 (Y1 ([]))))))) [.box [.sl 4 0 0 size],.box [.d (.fn gf caps)],.box [.sl 5 sg 0 sn],.arr (ints ns) 1 0,.arr (eU (visG gl (ns.drop i) seen f b).1) 1 0,.arr sc se sg,.arr (ints (visG gl (ns.drop i) seen f b).2.1) 1 0]:=by
 intro j
 induction j with
 | zero =>
  intro i m seen f b len hi hm hs hf hlen
  obtain _ | m:=m; omega
  obtain rfl:i = ns.length:=by omega
  subst hlen
  rw [dR]
  simp only [d5,Tryd.f92,SLM,simprocAttr]
  simp -implicitDefEqProofs (maxSteps:=2000000) (disch:=try exact Dz) only [↓DN,↓kAsg,↓kRet,UP,simprocAttr,PE,C7,Int.lt_irrefl]
  simp only [List.drop_length,visG]
 | succ j ih =>
  intro i m seen f b len hi hm hs hf hlen
  obtain _ | m:=m; omega
  subst hlen
  have hc:(i:Int) < ns.length:=by omega
  have hk:i < ns.length:=by omega
  have hmem:ns.getD i 0 ∈ ns:=by rw [List.getD_eq_getElem?_getD,List.getElem?_eq_getElem hk]; exact List.getElem_mem hk
  have hIx:=hI _ hmem
  obtain ⟨b1,b2⟩:=hr _ hIx
  have b3:(ns.getD i 0).toNat < seen.length:=by omega
  have e4:((i + 1:Nat):Int) = (i:Int) + 1:=by omega
  rw [nB hk (d:=0)]
  cases hb:seen.getD (ns.getD i 0).toNat false with
  | true =>
   have ih':=ih (i + 1) m seen f b f.length (by omega) (by omega) hs (by omega) rfl
   rw [e4] at ih'
   clear ih hmem
   rw [dR]
   simp only [d5,Tryd.f92,SLM,simprocAttr]
   simp -implicitDefEqProofs (maxSteps:=2000000) (disch:=try exact Dz) only [↓DN,↓kAsg,↓kRet,UP,simprocAttr,PE,C7,hc,b1,b2,hb,Int.toNat_natCast,↓ih']
   simp only [visG,hb,if_true]
  | false =>
   cases b with
   | true =>
    have ih':=ih (i + 1) m (seen.set (ns.getD i 0).toNat true) (f ++ [ns.getD i 0]) true (f.length + 1) (by omega) (by omega) (by simp [hs]) (by simp; omega) (by simp)
    rw [e4] at ih'
    clear ih hmem
    rw [dR]
    simp only [d5,Tryd.f92,SLM,simprocAttr]
    simp -implicitDefEqProofs (maxSteps:=2000000) (disch:=try exact Dz) only [↓DN,↓kAsg,↓kRet,UP,simprocAttr,PE,C7,hc,b1,b2,hb,Int.toNat_natCast,↓U6,cY,gZ,List.length_append,↓ih']
    simp only [visG,hb,Bool.false_eq_true,if_false,Bool.true_or]
   | false =>
    cases hg:gl (ns.getD i 0) with
    | true =>
     have ih':=ih (i + 1) m (seen.set (ns.getD i 0).toNat true) (f ++ [ns.getD i 0]) true (f.length + 1) (by omega) (by omega) (by simp [hs]) (by simp; omega) (by simp)
     rw [e4] at ih'
     clear ih hmem
     rw [dR]
     simp only [d5,Tryd.f92,SLM,simprocAttr]
     simp -implicitDefEqProofs (maxSteps:=2000000) (disch:=try exact Dz) only [↓DN,↓kAsg,↓kRet,UP,simprocAttr,PE,C7,hc,b1,b2,hb,hg,Int.toNat_natCast,↓U6,↓kc_g,cY,gZ,List.length_append,↓ih']
     simp only [visG,hb,hg,Bool.false_eq_true,if_false,Bool.or_true]
    | false =>
     have ih':=ih (i + 1) m (seen.set (ns.getD i 0).toNat true) (f ++ [ns.getD i 0]) false (f.length + 1) (by omega) (by omega) (by simp [hs]) (by simp; omega) (by simp)
     rw [e4] at ih'
     clear ih hmem
     rw [dR]
     simp only [d5,Tryd.f92,SLM,simprocAttr]
     simp -implicitDefEqProofs (maxSteps:=2000000) (disch:=try exact Dz) only [↓DN,↓kAsg,↓kRet,UP,simprocAttr,PE,C7,hc,b1,b2,hb,hg,Int.toNat_natCast,↓U6,↓kc_g,cY,gZ,List.length_append,↓ih']
     simp only [visG,hb,hg,Bool.false_eq_true,if_false,Bool.or_false]
theorem aQz {L n:Nat} (hn:4 ≤ n) (hL:2 ^ 60 ≤ L) {I:Int → Prop} {gl:Int → Bool} {gf:FuncId} {caps:List D} {size:Nat} {p l:Int} {ns:List Int} (kc_g:∀ {R:Type} {n:Nat} {hq:H} {k:A → H → Option R} (x:Int),2 ≤ n → I x → aL env (aA env L n) hq gf (.d (.int .i64 x) :: caps.map A.d) k = k (.d (.bool (gl x))) hq) (hI:∀ x ∈ ns,I x) (hr:∀ x,I x → 0 ≤ x ∧ x < size) (hsz:size ≤ 4294967290) (hnl:ns.length ≤ 4294967290) (seen:List Bool) (hs:seen.length = size) (r:List Bool × List Int × Bool) (he:visG gl ns seen [] false = r) (hpos:(0:Int) < r.2.1.length) :
  aA env L n 92 [.d (.int .i64 p),.d (.int .i64 l),.d (.ivs ns.length (ints ns)),.ptr 0 0 0,.ptr 1 0 0,.ptr 2 0 0] [.box [.sl 3 0 0 size],.box [.d (.fn gf caps)],.box [.sl 4 0 0 0],.arr (eU seen) 1 0,.arr [] 0 0]
  = some (.d (.bool r.2.2),[.box [.sl 3 0 0 size],.box [.d (.fn gf caps)],.box [.sl 4 1 0 1],.arr (eU r.1) 1 0,.arr (dH [⟨p,l,r.2.1⟩]) 3 1]):=by
 have loop_c:=fun {R:Type} {n:Nat} (hn:3 ≤ n) {k:Exit → List A → H → Option R} => @aL1 R L n hn hL I gl gf caps size p l ns [] 0 0 0 (fun {R n hq k} => kc_g) hI hr (by omega) hnl k ns.length 0 L seen [] false 0 (by omega) (by omega) hs (by simp) rfl
 simp only [List.drop_zero,he,qS,Int.natCast_zero] at loop_c
 have hb:r.2.1.length ≤ size:=by
  have h1:=IC ns seen [] fun x hx => by rw [hs]; exact hr x (hI x hx)
  have h2:=TE seen
  rw [← (yR gl ns seen [] false).1,← (yR gl ns seen [] false).2,he] at h1
  simp only [List.length_nil,Nat.zero_add] at h1
  omega
 have et:(ints r.2.1).take r.2.1.length = ints r.2.1:=cY (Nat.le_refl _)
 obtain _ | n:=n; omega
 rw [vI]
 simp only [qV,Tryd.f92,SLM,simprocAttr]
 simp -implicitDefEqProofs (maxSteps:=2000000) (disch:=try exact Dz) only [↓DN,↓kAsg,↓kRet,UP,simprocAttr,PE,↓loop_c,hpos,et]
 rfl
theorem aQF {L n:Nat} (hn:4 ≤ n) (hL:2 ^ 60 ≤ L) {I:Int → Prop} {gl:Int → Bool} {gf:FuncId} {caps:List D} {size:Nat} {p l:Int} {ns:List Int} (kc_g:∀ {R:Type} {n:Nat} {hq:H} {k:A → H → Option R} (x:Int),2 ≤ n → I x → aL env (aA env L n) hq gf (.d (.int .i64 x) :: caps.map A.d) k = k (.d (.bool (gl x))) hq) (hI:∀ x ∈ ns,I x) (hr:∀ x,I x → 0 ≤ x ∧ x < size) (hsz:size ≤ 4294967290) (hnl:ns.length ≤ 4294967290) (seen:List Bool) (hs:seen.length = size) (st:List PStep) (hst:st.length ≤ 4294967290) (r:List Bool × List Int × Bool) (he:visG gl ns seen [] false = r) :
  aA env L n 92 [.d (.int .i64 p),.d (.int .i64 l),.sl 3 0 0 ns.length,.ptr 0 0 0,.ptr 1 0 0,.ptr 2 0 0] [.box [.sl 4 0 0 size],.box [.d (.fn gf caps)],.box [.sl 5 0 0 st.length],.arr (ints ns) 1 0,.arr (eU seen) 1 0,.arr (dH st) 3 0]
  = some (.d (.bool r.2.2),[.box [.sl 4 0 0 size],.box [.d (.fn gf caps)],.box [.sl 5 (if r.2.1 = [] then 0 else 1) 0 (addP st p l r.2.1).length],.arr (ints ns) 1 0,.arr (eU r.1) 1 0,.arr (dH (addP st p l r.2.1)) 3 (if r.2.1 = [] then 0 else 1)]):=by
 have loop_c:=fun {R:Type} {n:Nat} (hn:3 ≤ n) {k:Exit → List A → H → Option R} => @aMB R L n hn hL I gl gf caps size p l ns (dH st) 3 0 st.length (fun {R n hq k} => kc_g) hI hr (by omega) hnl k ns.length 0 L seen [] false 0 (by omega) (by omega) hs (by simp) rfl
 simp only [List.drop_zero,he,qS,Int.natCast_zero] at loop_c
 have hb:r.2.1.length ≤ size:=by
  have h1:=IC ns seen [] fun x hx => by rw [hs]; exact hr x (hI x hx)
  have h2:=TE seen
  rw [← (yR gl ns seen [] false).1,← (yR gl ns seen [] false).2,he] at h1
  simp only [List.length_nil,Nat.zero_add] at h1
  omega
 have et:(ints r.2.1).take r.2.1.length = ints r.2.1:=cY (Nat.le_refl _)
 have es:(dH st).take (st.length * 3) = dH st:=QB (Nat.le_refl _)
 unfold addP
 by_cases hf:r.2.1 = []
 ·rw [if_pos hf,if_pos hf]
  have hz:r.2.1.length = 0:=by rw [hf]; rfl
  rw [hz] at loop_c
  obtain _ | n:=n; omega
  rw [vI]
  simp only [qV,Tryd.f92,SLM,simprocAttr]
  simp -implicitDefEqProofs (maxSteps:=2000000) (disch:=try exact Dz) only [↓DN,↓kAsg,↓kRet,UP,simprocAttr,PE,↓loop_c,Int.natCast_zero,Int.lt_irrefl]
 ·rw [if_neg hf,if_neg hf]
  have hpos:(0:Int) < r.2.1.length:=by have:=List.length_pos_iff.2 hf; omega
  obtain _ | n:=n; omega
  rw [vI]
  simp only [qV,Tryd.f92,SLM,simprocAttr]
  simp -implicitDefEqProofs (maxSteps:=2000000) (disch:=try exact Dz) only [↓DN,↓kAsg,↓kRet,UP,simprocAttr,PE,↓loop_c,hpos,et,es,aJg,List.length_append]
theorem aOw {st:List PStep} {p l:Int} {f:List Int} {i:Nat} (h:i < st.length):(addP st p l f).getD i default = st.getD i default:=by
 unfold addP
 split
 ·rfl
 ·exact nG h
theorem aNm {nx:Int → Int → List Int} {l:Int}:flat nx [] l = []:=rfl
theorem aDQ {nx:Int → Int → List Int} {n l:Int} {ns:List Int}:flat nx (n :: ns) l = nx n l ++ flat nx ns l:=rfl
theorem aGn {nx:Int → Int → List Int} {c:Int} (hw:∀ x c,(nx x c).length ≤ 64):∀ ns:List Int,(flat nx ns c).length ≤ 64 * ns.length
 | [] => by simp [flat]
 | x :: ns => by simp only [aDQ,List.length_append,List.length_cons]; have:=hw x c; have:=aGn (c:=c) hw ns; omega
def ltI (nx:Int → Int → List Int) (gl:Int → Bool) (ns:List Int) (p:Int):List Int → List Bool × List PStep → Nat
 | [],_ => 0
 | l :: ls,q => if (visG gl (flat nx ns l) q.1 [] false).2.2 = true then 0 else ltI nx gl ns p ls ((visG gl (flat nx ns l) q.1 [] false).1,addP q.2 p l (visG gl (flat nx ns l) q.1 [] false).2.1) + 1
def outI (nx:Int → Int → List Int) (gl:Int → Bool) (ls:List Int):Nat → Nat → List Bool × List PStep → Nat
 | 0,i,_ => i
 | j + 1,i,q => if i < q.2.length then
   (if (ltG nx gl (q.2.getD i default).ns i ls q).1 = true then i
    else outI nx gl ls j (i + 1) (ltG nx gl (q.2.getD i default).ns i ls q).2)
  else i
def txt (w:List Int):List UInt8:=w.map LS
def LR (st:List PStep):List UInt8:=txt (j8 st st.length (st.length - 1))
theorem aJJ {R:Type} {E:Env} {call:a7} {h:H} {f:FuncId} {args:List A} {len:Nat} {k:A → H → Option R} {id e g e2 g2:Nat} {cs cs2:List D} (hi:h[id]? = some (.arr cs e g)) (hid:idsL args = [id]) (hm:(E.hint f).mode = 0) (he:call f (aH (aK [id]) args) [.arr cs e g] = some (.sl 0 g2 0 len,[.arr cs2 e2 g2])) :
  aL E call h f args k = k (.sl id g2 0 len) (h.set id (.arr cs2 e2 g2)):=by
 have hre:aF aG h [id] [] = [id]:=by
  have e1:aF aG h [id] [] = match h[id]? with
   | some (.box cs) => aF (aG - 1) h ([] ++ idsL cs) ([] ++ [id])
   | some (.vec cs _ _) => aF (aG - 1) h ([] ++ idsL cs) ([] ++ [id])
   | some .void => aF (aG - 1) h [] []
   | some _ => aF (aG - 1) h [] ([] ++ [id])
   | none => aF (aG - 1) h [] []:=rfl
  rw [e1,hi]; rfl
 have hpk:pack h [id] = [.arr cs e g]:=by
  simp only [pack,List.map_cons,List.map_nil,List.getD_eq_getElem?_getD,hi]; rfl
 unfold aL
 rw [hid,hre,hpk]
 have hc:dO call E.hint [.arr cs e g] f (aH (aK [id]) args) = some (.sl 0 g2 0 len,[.arr cs2 e2 g2]):=by
  unfold dO; rw [hm]; exact he
 rw [hc]
 have hcl:closed h [id] [id] = true:=by
  simp only [closed,List.all_cons,List.all_nil,hi]; simp
 have hb:back [id] h.length 1 0 = some id:=rfl
 simp only [List.length_cons,List.length_nil,Nat.le_refl,hcl,and_self,if_true,mapA,Nat.zero_add,hb]
 simp only [bG,mapO,List.map_nil,List.append_nil]
theorem aJo {R:Type} {L n:Nat} (hn:4 ≤ n) (hL:2 ^ 60 ≤ L) {I:Int → Prop} {nf:FuncId} {caps:List D} {gb:D} {size:Nat} {nx:Int → Int → List Int} {ls ns:List Int} {sc:List D} {seen:List Bool} {sn ii q:Nat} {c:Int}
  (kc_n:∀ {R:Type} {n id:Nat} {hq:H} {k:A → H → Option R} (x c:Int) (o:List Int),4 ≤ n → I x → 0 ≤ c → c < 6 → o.length ≤ 2147483648 → hq[id]? = some (.arr (ints o) 1 0) → aL env (aA env L n) hq nf (.d (.int .i64 x) :: .d (.int .i64 c) :: .sl id 0 0 o.length :: caps.map A.d) k = k (.sl id (nx x c).length 0 (o ++ nx x c).length) (hq.set id (.arr (ints (o ++ nx x c)) 1 (nx x c).length)))
  (hI:∀ x ∈ ns,I x) (hw:∀ x c,(nx x c).length ≤ 64) (hc0:0 ≤ c) (hc6:c < 6) (hnl:ns.length ≤ 16777216) {k:Exit → List A → H → Option R}:∀ (j i m:Nat) (o:List Int) (len:Nat) (hi:i + j = ns.length) (hm:j < m) (ho:o.length ≤ 64 * i) (hlen:len = o.length),
  aU env (aA env L n) L 0 [0,0,0,0,0,0,0,0,0,0,0,0,0,0,0,0,0,0,2] (Z2 (U2 (Z4 (Z2 (U2 (Z1 (U2 (U1 (Z1 (U2 (Z8 (Z4 (Z2 (U2 (U1 (Z4 (Z2 (Z1 (U2 (U1 (Z16 (Z1 ([]))))))))))))))))))))))) (eT 2) (U2 (Z2 (U4 (U2 (Z2 (U1 (Z2 (Z1 (U1 (Z2 (U8 (U4 (U2 (Z2 (Z1 (U4 (U2 (U1 (Z2 (Z1 (U16 (U1 ([]))))))))))))))))))))))) m (Y2 (.d (.ivs ls.length (ints ls)) :: .d (.fn nf caps) :: Y4 (Y2 (.d (.str []) :: .d (.bool false) :: Y1 (.ptr 0 0 0 :: .clo 92 [.ptr 1 0 0,.ptr 2 0 0,.ptr 0 0 0] :: .d (.int .i64 ((ii:Int))) :: Y1 (.d (.int .i64 c) :: .sl 3 0 0 len :: Y8 (Y4 (Y2 (.d (.ivs ls.length (ints ls)) :: .d (.int .i64 (ls.length)) :: .d (.int .i64 ((q:Int))) :: Y4 (Y2 (Y1 (.d (.ivs ns.length (ints ns)) :: .d (.int .i64 (ns.length)) :: .d (.int .i64 ((i:Int))) :: Y16 (Y1 ([])))))))))))))) [.box [.sl 4 0 0 sn],.box [.sl 5 0 0 size],.box [.d gb],.arr (ints o) 1 0,.arr sc 3 0,.arr (eU seen) 1 0] k
  = k (.exit 4) (Y2 (.d (.ivs ls.length (ints ls)) :: .d (.fn nf caps) :: Y4 (Y2 (.d (.str []) :: .d (.bool false) :: Y1 (.ptr 0 0 0 :: .clo 92 [.ptr 1 0 0,.ptr 2 0 0,.ptr 0 0 0] :: .d (.int .i64 ((ii:Int))) :: Y1 (.d (.int .i64 c) :: .sl 3 0 0 (o ++ flat nx (ns.drop i) c).length :: Y8 (Y4 (Y2 (.d (.ivs ls.length (ints ls)) :: .d (.int .i64 (ls.length)) :: .d (.int .i64 ((q:Int))) :: Y4 (Y2 (Y1 (.d (.ivs ns.length (ints ns)) :: .d (.int .i64 (ns.length)) :: .d (.int .i64 (ns.length)) :: Y16 (Y1 ([])))))))))))))) [.box [.sl 4 0 0 sn],.box [.sl 5 0 0 size],.box [.d gb],.arr (ints (o ++ flat nx (ns.drop i) c)) 1 0,.arr sc 3 0,.arr (eU seen) 1 0]:=by
 intro j
 induction j with
 | zero =>
  intro i m o len hi hm ho hlen
  obtain _ | m:=m; omega
  obtain rfl:i = ns.length:=by omega
  subst hlen
  rw [ES]
  simp only [yY,Tryd.f73,SLM,simprocAttr]
  simp -implicitDefEqProofs (maxSteps:=2000000) (disch:=try exact Dz) only [↓DN,↓kAsg,↓kRet,UP,simprocAttr,PE,Int.lt_irrefl]
  simp only [List.drop_length,aNm,List.append_nil,List.length_nil,Nat.add_zero]
 | succ j ih =>
  intro i m o len hi hm ho hlen
  obtain _ | m:=m; omega
  subst hlen
  have hc:(i:Int) < ns.length:=by omega
  have hk:i < ns.length:=by omega
  have hmem:ns.getD i 0 ∈ ns:=by rw [List.getD_eq_getElem?_getD,List.getElem?_eq_getElem hk]; exact List.getElem_mem hk
  have hIx:=hI _ hmem
  have hww:=hw (ns.getD i 0) c
  have hob:o.length ≤ 2147483648:=by omega
  have e4:((i + 1:Nat):Int) = (i:Int) + 1:=by omega
  have ih':=ih (i + 1) m (o ++ nx (ns.getD i 0) c) (o.length + (nx (ns.getD i 0) c).length) (by omega) (by omega) (by rw [List.length_append]; omega) (by rw [List.length_append])
  rw [e4] at ih'
  rw [nB hk (d:=0)]
  simp only [aDQ,← List.append_assoc]
  have kc_m:=fun {R:Type} {n id:Nat} {hq:H} {k:A → H → Option R} (h4:4 ≤ n) (hg:hq[id]? = some (.arr (ints o) 1 0)) => @kc_n R n id hq k (ns.getD i 0) c o h4 hIx hc0 hc6 hob hg
  clear ih hmem kc_n
  generalize nx (ns.getD i 0) c = w at *
  rw [ES]
  simp only [yY,Tryd.f73,SLM,simprocAttr]
  simp -implicitDefEqProofs (maxSteps:=2000000) (disch:=try exact Dz) only [↓DN,↓kAsg,↓kRet,UP,simprocAttr,PE,hc,Int.toNat_natCast,↓kc_m,↓ih',List.length_append]
theorem SR:∀ (ns:List Int) (s:List Bool) (f:List Int),f.length ≤ (visF ns s f).2.length
 | [],s,f => Nat.le_refl _
 | n :: ns,s,f => by
  unfold visF
  split
  ·exact SR ns s f
  ·have:=SR ns (s.set n.toNat true) (f ++ [n])
   simp only [List.length_append,List.length_cons,List.length_nil] at this
   omega
theorem aF6 {ns:List Int} {size:Nat} (h:ns ≠ []):0 < (visF ns (List.replicate size false) []).2.length:=by
 cases ns with
 | nil => exact absurd rfl h
 | cons n ns =>
  have e:(List.replicate size false).getD n.toNat false = false:=by
   rw [List.getD_eq_getElem?_getD,List.getElem?_replicate]
   split <;> rfl
  unfold visF
  rw [e]
  have:=SR ns ((List.replicate size false).set n.toNat true) ([] ++ [n])
  simp only [List.length_append,List.length_cons,List.length_nil] at this
  simp only [Bool.false_eq_true,if_false]
  omega
theorem aQh {R:Type} {L n:Nat} {k:A → H → Option R} (hn:4 ≤ n) (hL:2 ^ 60 ≤ L) {I:Int → Prop} {gl:Int → Bool} {gf:FuncId} {caps:List D} {size:Nat} {p l:Int} {ns:List Int} (kc_g:∀ {R:Type} {n:Nat} {hq:H} {k:A → H → Option R} (x:Int),2 ≤ n → I x → aL env (aA env L n) hq gf (.d (.int .i64 x) :: caps.map A.d) k = k (.d (.bool (gl x))) hq) (hI:∀ x ∈ ns,I x) (hr:∀ x,I x → 0 ≤ x ∧ x < size) (hsz:size ≤ 4294967290) (hnl:ns.length ≤ 4294967290) (hne:ns ≠ []) :
  A0 env (aA env L n) [.box [.d (.fn gf caps)],.arr (eU (List.replicate size false)) 1 0,.arr [] 0 0,.box [.sl 1 0 0 size],.arr [] 0 0,.box [.sl 4 0 0 0]] 92 [.ptr 3 0 0,.ptr 0 0 0,.ptr 5 0 0] [.d (.int .i64 p),.d (.int .i64 l),.d (.ivs ns.length (ints ns))] k
  = k (.d (.bool (visG gl ns (List.replicate size false) [] false).2.2)) [.box [.d (.fn gf caps)],.arr (eU (visG gl ns (List.replicate size false) [] false).1) 1 0,.arr [] 0 0,.box [.sl 1 0 0 size],.arr (dH [⟨p,l,(visG gl ns (List.replicate size false) [] false).2.1⟩]) 3 1,.box [.sl 4 1 0 1]]:=by
 have he:=aQz (gl:=gl) (p:=p) (l:=l) hn hL (fun {R n hq k} => kc_g) hI hr hsz hnl (List.replicate size false) (by simp) _ rfl (by have:=aF6 (size:=size) hne; rw [(yR gl ns _ [] false).2]; omega)
 unfold A0
 generalize List.replicate size false = sz at *
 generalize hh:[O.box [.d (.fn gf caps)],.arr (eU sz) 1 0,.arr [] 0 0,.box [.sl 1 0 0 size],.arr [] 0 0,.box [.sl 4 0 0 0]] = h
 have hre:aF aG h (idsL [A.ptr 3 0 0,.ptr 0 0 0,.ptr 5 0 0] ++ idsL [A.d (.int .i64 p),.d (.int .i64 l),.d (.ivs ns.length (ints ns))]) [] = [3,0,5,1,4]:=by subst hh; rfl
 have hpk:pack h [3,0,5,1,4] = [.box [.sl 3 0 0 size],.box [.d (.fn gf caps)],.box [.sl 4 0 0 0],.arr (eU sz) 1 0,.arr [] 0 0]:=by subst hh; rfl
 have hma:aH (aK [3,0,5,1,4]) [A.d (.int .i64 p),.d (.int .i64 l),.d (.ivs ns.length (ints ns))] ++ aH (aK [3,0,5,1,4]) [A.ptr 3 0 0,.ptr 0 0 0,.ptr 5 0 0] = [.d (.int .i64 p),.d (.int .i64 l),.d (.ivs ns.length (ints ns)),.ptr 0 0 0,.ptr 1 0 0,.ptr 2 0 0]:=rfl
 have hca:∀ h f args,dO (aA env L n) env.hint h f args = if (env.hint f).mode = 0 then aA env L n f args h else dO (aA env L n) env.hint h f args:=by
  intro h f args
  split
  ·rename_i hm
   unfold dO; rw [hm]; rfl
  ·rfl
 rw [hre,hpk,hma,hca,if_pos oB,he]
 have hcl:closed h [3,0,5,1,4] (idsL [A.ptr 3 0 0,.ptr 0 0 0,.ptr 5 0 0] ++ idsL [A.d (.int .i64 p),.d (.int .i64 l),.d (.ivs ns.length (ints ns))]) = true:=by subst hh; rfl
 subst hh
 simp only [hcl,List.length_cons,List.length_nil,Nat.le_refl,and_self,if_true]
 rfl
def gV (r:List Bool × List Int × Bool):Nat:=if r.2.1 = [] then 0 else 1
theorem aQL {R:Type} {L n:Nat} {k:A → H → Option R} (hn:4 ≤ n) (hL:2 ^ 60 ≤ L) {I:Int → Prop} {gl:Int → Bool} {gf:FuncId} {caps:List D} {size:Nat} {p l:Int} {ns:List Int} (kc_g:∀ {R:Type} {n:Nat} {hq:H} {k:A → H → Option R} (x:Int),2 ≤ n → I x → aL env (aA env L n) hq gf (.d (.int .i64 x) :: caps.map A.d) k = k (.d (.bool (gl x))) hq) (hI:∀ x ∈ ns,I x) (hr:∀ x,I x → 0 ≤ x ∧ x < size) (hsz:size ≤ 4294967290) (hnl:ns.length ≤ 4294967290) (seen:List Bool) (hs:seen.length = size) (st:List PStep) (hst:st.length ≤ 4294967290) :
  A0 env (aA env L n) [.box [.sl 4 0 0 st.length],.box [.sl 5 0 0 size],.box [.d (.fn gf caps)],.arr (ints ns) 1 0,.arr (dH st) 3 0,.arr (eU seen) 1 0] 92 [.ptr 1 0 0,.ptr 2 0 0,.ptr 0 0 0] [.d (.int .i64 p),.d (.int .i64 l),.sl 3 0 0 ns.length] k
  = k (.d (.bool (visG gl ns seen [] false).2.2)) [.box [.sl 4 (gV (visG gl ns seen [] false)) 0 (addP st p l (visG gl ns seen [] false).2.1).length],.box [.sl 5 0 0 size],.box [.d (.fn gf caps)],.arr (ints ns) 1 0,.arr (dH (addP st p l (visG gl ns seen [] false).2.1)) 3 (gV (visG gl ns seen [] false)),.arr (eU (visG gl ns seen [] false).1) 1 0]:=by
 have he:=aQF (gl:=gl) (p:=p) (l:=l) hn hL (fun {R n hq k} => kc_g) hI hr hsz hnl seen hs st hst _ rfl
 unfold A0
 generalize hh:[O.box [.sl 4 0 0 st.length],.box [.sl 5 0 0 size],.box [.d (.fn gf caps)],.arr (ints ns) 1 0,.arr (dH st) 3 0,.arr (eU seen) 1 0] = h
 have hre:aF aG h (idsL [A.ptr 1 0 0,.ptr 2 0 0,.ptr 0 0 0] ++ idsL [A.d (.int .i64 p),.d (.int .i64 l),.sl 3 0 0 ns.length]) [] = [1,2,0,3,5,4]:=by subst hh; rfl
 have hpk:pack h [1,2,0,3,5,4] = [.box [.sl 4 0 0 size],.box [.d (.fn gf caps)],.box [.sl 5 0 0 st.length],.arr (ints ns) 1 0,.arr (eU seen) 1 0,.arr (dH st) 3 0]:=by subst hh; rfl
 have hma:aH (aK [1,2,0,3,5,4]) [A.d (.int .i64 p),.d (.int .i64 l),.sl 3 0 0 ns.length] ++ aH (aK [1,2,0,3,5,4]) [A.ptr 1 0 0,.ptr 2 0 0,.ptr 0 0 0] = [.d (.int .i64 p),.d (.int .i64 l),.sl 3 0 0 ns.length,.ptr 0 0 0,.ptr 1 0 0,.ptr 2 0 0]:=rfl
 have hca:∀ h f args,dO (aA env L n) env.hint h f args = if (env.hint f).mode = 0 then aA env L n f args h else dO (aA env L n) env.hint h f args:=by
  intro h f args
  split
  ·rename_i hm
   unfold dO; rw [hm]; rfl
  ·rfl
 rw [hre,hpk,hma,hca,if_pos oB,he]
 have hcl:closed h [1,2,0,3,5,4] (idsL [A.ptr 1 0 0,.ptr 2 0 0,.ptr 0 0 0] ++ idsL [A.d (.int .i64 p),.d (.int .i64 l),.sl 3 0 0 ns.length]) = true:=by subst hh; rfl
 subst hh
 simp only [hcl,List.length_cons,List.length_nil,Nat.le_refl,and_self,if_true]
 rfl
end Ev
end Go.Proofs.YtppdfjdfjfoddaaDoor
