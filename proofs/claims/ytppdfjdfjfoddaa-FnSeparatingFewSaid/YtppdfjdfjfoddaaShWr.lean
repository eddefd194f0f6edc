/-
  Memory that is not written out: operations on it, and what is read off it.
-/
import Derived.Test.YtppdfjdfjfoddaaMemS
import Derived.Test.YtppdfjdfjfoddaaShSf
set_option linter.unusedSimpArgs false
set_option linter.unusedVariables false
set_option maxRecDepth 8000
set_option maxHeartbeats 4000000
namespace Go.Proofs.Ytppdfjdfjfoddaa
namespace Ev
theorem xwa {f : A → Option D} : ∀ {cs : List A} {ds : List D},cs.length = ds.length → (∀ (i : Nat) (a : A) (x : D),cs[i]? = some a → ds[i]? = some x → f a = some x) → x7j f cs = some ds
 | [],[],_,_ => rfl
 | [],_ :: _,h,_ => by cases h
 | _ :: _,[],h,_ => by cases h
 | a :: cs,x :: ds,h,hf => by
  have h0 := hf 0 a x rfl rfl
  have h1 := xwa (f := f) (cs := cs) (ds := ds) (by simpa using h) (fun i b y hb hy => hf (i + 1) b y (by simpa using hb) (by simpa using hy))
  simp only [x7j,h0,h1]
theorem xk3 {h : H} {v gv n : Nat} {cs : List A} {rs : List (List Int)} (hv : h[v]? = some (.vec cs 1 gv)) (hc : x7j (rd0 h) cs = some (xc rs)) (hn : n = rs.length) : rd1 h (.sl v gv 0 n) = some (.ivs rs.length (xc rs)) := by
 subst hn
 have hl := xzc hc
 have hr : (xc rs).length = rs.length := by simp [xc]
 simp only [rd1,hv,hc,Option.map_some,List.drop_zero,Nat.zero_add,Nat.mul_one]
 rw [if_pos ⟨trivial,by omega⟩]
 congr 2
 exact List.take_of_length_le (by omega)
theorem xdp {h : H} {v gv n : Nat} {ac : List Bool} (hv : h[v]? = some (.arr (xb ac) 1 gv)) (hn : n = ac.length) : rd1 h (.sl v gv 0 n) = some (.ivs ac.length (xb ac)) := by
 subst hn
 have hr : (xb ac).length = ac.length := by simp [xb]
 simp only [rd1,rd0,hv,List.drop_zero,Nat.zero_add,Nat.mul_one]
 rw [if_pos ⟨trivial,by omega⟩]
 congr 2
 exact List.take_of_length_le (by omega)
theorem x18h {rs : List (List Int)} {i : Nat} {x : D} (h : (xc rs)[i]? = some x) : ∃ r,rs[i]? = some r ∧ x = rowD r := by
 unfold xc at h
 rw [List.getElem?_map] at h
 cases hr : rs[i]? with
 | none => rw [hr] at h; cases h
 | some r => rw [hr] at h; simp at h; exact ⟨r,rfl,h.symm⟩
theorem xzl : ∀ {rs : List (List Int)} {b i : Nat} {a : A},(x3 b rs)[i]? = some a → ∃ r,rs[i]? = some r ∧ a = .sl (b + i) 0 0 r.length
 | [],b,i,a,h => by simp [x3] at h
 | r :: rs,b,0,a,h => by simp [x3] at h; exact ⟨r,rfl,h.symm⟩
 | r :: rs,b,i + 1,a,h => by
  simp only [x3,List.getElem?_cons_succ] at h
  obtain ⟨q,h1,h2⟩ := xzl h
  exact ⟨q,by simpa using h1,by rw [h2]; congr 1; omega⟩
theorem xaa : ∀ {h : H} {i : Nat} {o : O},wgt (h.set i o) ≤ wgt h + (x5h o).length
 | [],i,o => by simp [wgt]
 | x :: h,0,o => by
  have e1 := xev [o] h
  have e2 := xev [x] h
  have e3 : wgt [o] = (x5h o).length := by cases o <;> simp [wgt,x5h]
  simp only [List.set_cons_zero]
  simp only [List.singleton_append] at e1 e2
  omega
 | x :: h,i + 1,o => by
  have ih := xaa (h := h) (i := i) (o := o)
  have e1 := xev [x] (h.set i o)
  have e2 := xev [x] h
  simp only [List.set_cons_succ]
  simp only [List.singleton_append] at e1 e2
  omega
theorem xbw {o : O} {h : H} : wgt (o :: h) = (x5h o).length + wgt h := by
 cases o <;> simp [wgt,x5h]
theorem xnk {o : O} {h : H} : wgt (h ++ [o]) = wgt h + (x5h o).length := by
 rw [xev,xbw]
 rfl
structure Cpy (y z : O) (al : Int) (nx : List (List Int)) (ac : List Bool) (N : Nat) (T1 T2 T3 : H) : Prop where
 hN : N = nx.length + 6
 h1 : y :: .arr [] 0 0 :: .arr [] 0 0 :: z :: autO 5 nx ac = T1
 l1 : T1.length = N
 h2 : T1 ++ [.arr [] 0 0,.arr [] 0 0,.box [.d (.int .i64 0),.sl (N + 1) 0 0 0,.sl (N + 1 + 1) 0 0 0]] = T2
 b2 : T2[N + 1 + 1]? = some (.box [.d (.int .i64 0),.sl (N + 1) 0 0 0,.sl (N + 1 + 1) 0 0 0])
 h3 : T2.set (N + 1 + 1) (.box [.d (.int .i64 al),.sl 5 0 0 nx.length,.sl 6 0 0 ac.length]) = T3
 l3 : T3.length = N + 1 + 1 + 1
 t3 : T3[3]? = some z
 t4 : T3[4]? = some (.vec (x3 7 nx ++ x6 0) 1 0)
 t5 : T3[5]? = some (.arr (xb ac) 1 0)
 tr : ∀ (i : Nat) (r : List Int),nx[i]? = some r → T3[i + 6]? = some (.arr (ints r) 1 0)
 tb : T3[N + 1 + 1]? = some (.box [.d (.int .i64 al),.sl 5 0 0 nx.length,.sl 6 0 0 ac.length])
 e3 : T3 = y :: .arr [] 0 0 :: .arr [] 0 0 :: z :: .vec (x3 7 nx ++ x6 0) 1 0 :: .arr (xb ac) 1 0 :: (x9 nx ++ [.arr [] 0 0,.arr [] 0 0,.box [.d (.int .i64 al),.sl 5 0 0 nx.length,.sl 6 0 0 ac.length]])
 wg : wgt T3 ≤ nx.length + 8 + (x5h y).length + (x5h z).length
theorem xb1 (y z : O) (al : Int) (nx : List (List Int)) (ac : List Bool) : ∃ (N : Nat) (T1 T2 T3 : H),Cpy y z al nx ac N T1 T2 T3 := by
 have l1 : (y :: .arr [] 0 0 :: .arr [] 0 0 :: z :: autO 5 nx ac).length = nx.length + 6 := by simp [xzh]
 generalize hT1 : y :: .arr [] 0 0 :: .arr [] 0 0 :: z :: autO 5 nx ac = T1 at l1
 have low : ∀ (l : H) (i : Nat),i < nx.length + 6 → (T1 ++ l)[i]? = T1[i]? := fun l i hi => List.getElem?_append_left (by omega)
 have g2 : ∀ a b c : O,(T1 ++ [a,b,c])[nx.length + 6 + 1 + 1]? = some c := fun a b c => by rw [← l1]; exact x1wf
 have g3 : ∀ a b c d : O,(T1 ++ [a,b,c]).set (nx.length + 6 + 1 + 1) d = T1 ++ [a,b,d] := fun a b c d => by rw [← l1]; exact x1w7
 refine ⟨nx.length + 6,T1,_,_,rfl,hT1,l1,rfl,g2 _ _ _,rfl,by rw [List.length_set]; simp [l1],?_,?_,?_,?_,?_,?_,?_⟩
 ·rw [g3,low _ _ (by omega),← hT1]; rfl
 ·rw [g3,low _ _ (by omega),← hT1]; rfl
 ·rw [g3,low _ _ (by omega),← hT1]; rfl
 ·intro i r hr
  have hi : i < nx.length := (List.getElem?_eq_some_iff.1 hr).1
  rw [g3,low _ _ (by omega),← hT1]
  simp only [autO,List.getElem?_cons_succ]
  have := xs7 (p := []) hr
  rwa [List.append_nil] at this
 ·rw [g3,g2]
 ·rw [g3,← hT1]
  simp [autO]
 ·rw [g3,xev,← hT1,xbw,xbw,xbw,xbw,x20z]
  simp [wgt,x5h,idsL,idsA]
  omega
theorem x35 {T T' : H} {i : Nat} {o : O} (h : T.set i o = T') (hi : i < T.length) : T'.length = T.length ∧ T'[i]? = some o ∧ ∀ j,j ≠ i → T'[j]? = T[j]? := by
 subst h
 exact ⟨List.length_set,List.getElem?_set_self hi,fun j hj => List.getElem?_set_ne (fun e => hj e.symm)⟩
theorem xa4 {T T' : H} {o : O} (h : T ++ [o] = T') : T'.length = T.length + 1 ∧ T'[T.length]? = some o ∧ ∀ j,j < T.length → T'[j]? = T[j]? := by
 subst h
 exact ⟨by simp,by simp,fun j hj => List.getElem?_append_left hj⟩
theorem xsl {h : H} {nx : List (List Int)} (hr : ∀ (i : Nat) (r : List Int),nx[i]? = some r → h[i + 7]? = some (.arr (ints r) 1 0)) : x7j (rd0 h) (x3 7 nx ++ x6 0) = some (xc nx) := by
 refine xwa (by rw [List.length_append,x79]; simp [x6,xc]) ?_
 intro i a x ha hx
 obtain ⟨r,hr1,rfl⟩ := x18h hx
 have hn : x6 0 = [] := rfl
 rw [hn,List.append_nil] at ha
 obtain ⟨r2,hr2,rfl⟩ := xzl ha
 rw [hr1] at hr2
 cases hr2
 refine x1c0 ?_
 rw [Nat.add_comm]
 exact hr i r hr1
theorem x1hm {h : H} {b g : Nat} {r : List Int} (hr : h[b]? = some (.arr (ints r) 1 g)) : rd0 h (.sl b g 0 r.length) = some (rowD r) := by
 have hl : (ints r).length = r.length := by simp [ints]
 simp only [rd0,hr,List.drop_zero,Nat.zero_add,Nat.mul_one]
 rw [if_pos ⟨trivial,by omega⟩]
 unfold rowD
 congr 2
 exact List.take_of_length_le (by omega)
theorem x1i8 {h : H} {nx : List (List Int)} {t g : Nat} {row : List Int} (ht : t < nx.length) (hr : ∀ (i : Nat) (r : List Int),i ≠ t → nx[i]? = some r → h[i + 7]? = some (.arr (ints r) 1 0)) (h1 : h[t + 7]? = some (.arr (ints row) 1 g)) {len : Nat} (hl : len = row.length) :
  x7j (rd0 h) ((x3 7 nx ++ x6 0).take t ++ [.sl (t + 7) g 0 len] ++ (x3 7 nx ++ x6 0).drop (t + 1)) = some (xc (nx.set t row)) := by
 subst hl
 have hn : x6 0 = [] := rfl
 rw [hn,List.append_nil]
 have hlr : (x3 7 nx).length = nx.length := x79 _ _
 have e : (x3 7 nx).take t ++ [.sl (t + 7) g 0 row.length] ++ (x3 7 nx).drop (t + 1) = (x3 7 nx).set t (.sl (t + 7) g 0 row.length) := by
  rw [List.set_eq_take_append_cons_drop,if_pos (by omega)]
  simp
 rw [e]
 refine xwa (by simp [hlr,xc]) ?_
 intro i a x ha hx
 obtain ⟨r,hr1,rfl⟩ := x18h hx
 rw [List.getElem?_set] at ha hr1
 by_cases hi : t = i
 ·subst hi
  rw [if_pos rfl,if_pos (by omega)] at ha
  rw [if_pos rfl,if_pos ht] at hr1
  cases ha
  cases hr1
  exact x1hm h1
 ·rw [if_neg hi] at ha hr1
  obtain ⟨r2,hr2,rfl⟩ := xzl ha
  rw [hr1] at hr2
  cases hr2
  refine x1c0 ?_
  rw [Nat.add_comm]
  exact hr i r (fun e => hi e.symm) hr1
theorem x17m {h : H} {i : Nat} {cs : List D} {e g : Nat} (h1 : h[i]? = some (.arr cs e g)) : x4 x5 h [i] [] = [i] := by
 rw [show x5 = 1099511627774 + 1 + 1 from rfl,xe4,xke]
 simp [List.getD_eq_getElem?_getD,h1,xke]
theorem x1l2 {h : H} {i j : Nat} {cs ds : List D} {e g e2 g2 : Nat} (h1 : h[i]? = some (.arr cs e g)) (h2 : h[j]? = some (.arr ds e2 g2)) (hne : i ≠ j) : x4 x5 h [i,j] [] = [i,j] := by
 rw [show x5 = 1099511627773 + 1 + 1 + 1 from rfl,xe4]
 have hne' : ¬ j = i := fun e => hne e.symm
 simp [List.getD_eq_getElem?_getD,h1]
 rw [xe4]
 simp [List.getD_eq_getElem?_getD,h2,hne',xke]
theorem x20i {i j : Nat} (hne : i ≠ j) : xa [i,j] i = some 0 ∧ xa [i,j] j = some 1 := by
 have hne' : ¬ i = j := hne
 simp [xa,hne']
theorem xvd {E : Env} {call : xq} {thaw : List Nat} {dst : Option Tmp} {args : Array Operand} {t e : TypeId} {h : H} {id id2 g g2 e0 len n2 : Nat} {cs src : List D} (he : x12 E.P t = some e) (hce : E.P.cellsOf e = 1) (hel : x1b E.P e = true)
  (h1 : h[id]? = some (.arr cs e0 g)) (he0 : e0 = 0 ∨ e0 = 1) (h2 : h[id2]? = some (.arr src 1 g2)) (hn2 : n2 = src.length) (hlen : len ≤ cs.length) (hmax : len + n2 ≤ x2g) (hne : id ≠ id2) :
  memD E call thaw dst (.call ⟨.builtin .append,args,#[t,t]⟩) h [.sl id g 0 len,.sl id2 g2 0 n2] = some (.sl id (g + 1) 0 (len + n2),h.set id (.arr (cs.take len ++ src) 1 (g + 1)),{ ids := [id,id2],ro := false,wr := [id] }) := by
 subst hn2
 have hids : idsL [A.sl id g 0 len,A.sl id2 g2 0 src.length] = [id,id2] := rfl
 obtain ⟨hk,hk2⟩ := x20i hne
 have hord := x1l2 h1 h2 hne
 have hcl : closed h [id,id2] [id,id2] = true := by simp [closed,h1,h2]
 have p1 := x8u (h := h) (xz hk) h1
 have p2 := x8u (h := h) (xz hk2) h2
 have key := xsr (E := E) (call := call) (thaw := thaw) (dst := dst) (op := .call ⟨.builtin .append,args,#[t,t]⟩) (h := h) (vs := [A.sl id g 0 len,A.sl id2 g2 0 src.length]) (a := .sl 0 (g + 1) 0 (len + src.length)) (a2 := .sl id (g + 1) 0 (len + src.length)) (o := .arr (cs.take len ++ src) 1 (g + 1)) (o2 := .arr (cs.take len ++ src) 1 (g + 1)) (id := id) (k := 0) (ord := [id,id2]) (by rw [hids]; exact hord) (by rw [hids]; exact hcl) hk rfl ?_ rfl rfl
 ·rw [key]
  rfl
 ·have hu : E.P.underlying t = some (.slice e) := by
   unfold x12 at he
   split at he
   ·rename_i hq; cases he; exact hq
   ·cases he
  have hv : xru (pack h [id,id2]) 0 = false := by simp only [xru,p1,mapO]
  have hb : xj4 (pack h [id,id2]) (.sl 1 g2 0 src.length) = false := by simp only [xj4,xru,p2,mapO]
  have hs : x3b (pack h [id,id2]) 1 (.sl 1 g2 0 src.length) = some (src.length,src) := by
   simp [x3b,p2,mapO]
  simp only [x7,mapA,hk,hk2,evOp,x56,x49,x2q,x7v,hv,hb,Bool.false_eq_true,if_false,xcd,he,hel,if_true,hce,hs,p1,mapO,true_and,Nat.mul_one,hlen,hmax,and_self,and_true,he0,hu]
theorem xwv {E : Env} {call : xq} {thaw : List Nat} {dst : Option Tmp} {x y : Operand} {t : TypeId} {h : H} {id g off esz : Nat} {cs : List D} {z : D} (ht : E.P.cellsOf t = 1) (hi : (E.P.info? t).isSome = true) (hz : x2f (.d z) = true)
  (h1 : h[id]? = some (.arr cs esz g)) (hoff : off + 1 ≤ cs.length) :
  memD E call thaw dst (.store t x y) h [.ptr id g off,.d z] = some (.d .undef,h.set id (.arr (x17 cs off [z]) esz g),{ ids := [id],ro := false,wr := [id] }) := by
 have hids : idsL [A.ptr id g off,A.d z] = [id] := rfl
 have hk : xa [id] id = some 0 := by simp [xa]
 have hord := x17m h1
 have hcl : closed h [id] [id] = true := by simp [closed,h1]
 have p1 := x8u (h := h) (xz hk) h1
 have key := xsr (E := E) (call := call) (thaw := thaw) (dst := dst) (op := .store t x y) (h := h) (vs := [A.ptr id g off,A.d z]) (a := .d .undef) (a2 := .d .undef) (o := .arr (x17 cs off [z]) esz g) (o2 := .arr (x17 cs off [z]) esz g) (id := id) (k := 0) (ord := [id]) (by rw [hids]; exact hord) (by rw [hids]; exact hcl) hk rfl ?_ rfl rfl
 ·rw [key]
  rfl
 ·have hf : frzL (pack h [id]) [A.d z] = some ([z],pack h [id]) := by
   unfold frzL
   simp only [x6i]
   have : frz deep (pack h [id]) (.d z) = some (z,pack h [id]) := rfl
   rw [this]
  simp only [x7,mapA,hk,evOp,x56,two,xao,xh,List.length_cons,List.length_nil,Nat.zero_add,ht,hi,List.all_cons,List.all_nil,hz,Bool.and_self,and_self,if_true,p1,mapO,hf,hoff,Option.map_some]
theorem x1ld {E : Env} {call : xq} {thaw : List Nat} {dst : Option Tmp} {x y : Operand} {t : TypeId} {h : H} {id id2 off g g2 o len : Nat} {cs : List A} (ht : E.P.cellsOf t = 1) (hi : (E.P.info? t).isSome = true)
  (h1 : h[id]? = some (.vec cs 1 g2)) (hoff : off + 1 ≤ cs.length) (ok1 : Okay h id) (ok2 : Okay h id2) (hw : 2 + wgt h ≤ 1099511627776) :
  memD E call thaw dst (.store t x y) h [.ptr id g2 off,.sl id2 g o len] = some (.d .undef,h.set id (.vec (x17 cs off [.sl id2 g o len]) 1 g2),{ ids := x4 x5 h [id,id2] [],ro := false,wr := x4 x5 h [id,id2] [] }) := by
 have hids : idsL [A.ptr id g2 off,A.sl id2 g o len] = [id,id2] := rfl
 obtain ⟨c1,c2,c3⟩ := x125 (h := h) (ids := [id,id2]) (by intro i hi; simp at hi; rcases hi with rfl | rfl; exact ok1; exact ok2) (by simpa using hw)
 obtain ⟨ord,hord⟩ : ∃ ord,x4 x5 h [id,id2] [] = ord := ⟨_,rfl⟩
 rw [hord] at c1 c2 c3 ⊢
 obtain ⟨k,hk⟩ := x2u (c2 id (by simp))
 obtain ⟨k2,hk2⟩ := x2u (c2 id2 (by simp))
 have p1 := x8u (h := h) (xz hk) h1
 have bk : ∀ xs : List A,(∀ i ∈ idsL xs,i ∈ ord) → x7 (fun (k : Nat) => ord[k]?) (x7 (xa ord) xs) = xs := by
  intro xs hx
  rw [xb3 (q := fun i => (xa ord i).bind fun k => ord[k]?) (fun _ => rfl)]
  apply x7a
  intro i hi
  obtain ⟨j,hj⟩ := x2u (hx i hi)
  simp only [hj,Option.bind_some]
  exact xz hj
 have hcs : ∀ i ∈ idsL cs,i ∈ ord := by
  have := c3 id (c2 id (by simp))
  simpa only [kids,h1] using this
 have split_cs : ∀ q : Nat,(∀ i ∈ idsL (cs.take q),i ∈ ord) ∧ (∀ i ∈ idsL (cs.drop q),i ∈ ord) := by
  intro q
  have := List.take_append_drop q cs
  constructor
  ·intro i hi
   refine hcs i ?_
   rw [← this,x1d,List.mem_append]; exact .inl hi
  ·intro i hi
   refine hcs i ?_
   rw [← this,x1d,List.mem_append]; exact .inr hi
 have hnew : ∀ i ∈ idsL (x17 cs off [.sl id2 g o len]),i ∈ ord := by
  intro i hi
  unfold x17 at hi
  rw [x1d,x1d,List.mem_append,List.mem_append] at hi
  rcases hi with (hi | hi) | hi
  ·exact (split_cs _).1 i hi
  ·simp [idsL,idsA] at hi; subst hi; exact c2 i (by simp)
  ·exact (split_cs _).2 i hi
 have hmr : x17 (x7 (xa ord) cs) off [.sl k2 g o len] = x7 (xa ord) (x17 cs off [.sl id2 g o len]) := by
  unfold x17
  rw [x3v,x3v,xrf,xzw]
  simp only [x7,mapA,hk2,List.length_cons,List.length_nil]
 have key := xsr (E := E) (call := call) (thaw := thaw) (dst := dst) (op := .store t x y) (h := h) (vs := [A.ptr id g2 off,A.sl id2 g o len]) (a := .d .undef) (a2 := .d .undef) (o := .vec (x7 (xa ord) (x17 cs off [.sl id2 g o len])) 1 g2) (o2 := .vec (x17 cs off [.sl id2 g o len]) 1 g2) (id := id) (k := k) (ord := ord) (by rw [hids]; exact hord) (by rw [hids]; exact c1) hk rfl ?_ (by simp only [mapA]) (by simp only [mapO,bk _ hnew])
 ·rw [key]
  rfl
 ·have hoff2 : off + 1 ≤ (x7 (xa ord) cs).length := by rw [xpa]; exact hoff
  simp only [x7,mapA,hk,hk2,evOp,x56,two,xao,xh,List.length_cons,List.length_nil,Nat.zero_add,ht,hi,List.all_cons,List.all_nil,x2f,Bool.and_self,and_self,if_true,p1,mapO,hoff2,true_and,hmr,Option.map_some]
theorem x1eg {E : Env} {call : xq} {thaw : List Nat} {dst : Option Tmp} {t e : TypeId} {x : Operand} {h : H} {id g len : Nat} {cs : List D} {es : Nat} (hk : xoj thaw dst = true) (he : x12 E.P t = some e) (hz : x1g E.P e = some (.d .nils)) (hce : E.P.cellsOf e = 1) (hel : x1b E.P e = true)
  (h1 : h[id]? = some (.arr cs es g)) :
  memD E call thaw dst (.buildSlice t 1 #[(0,x)]) h [.sl id g 0 len] = some (.sl h.length 0 0 1,h ++ [.vec [.sl id g 0 len] 1 0],{ ids := [id,h.length],ro := false }) := by
 have hids : idsL [A.sl id g 0 len] = [id] := rfl
 have hp : xa [id] id = some 0 := by simp [xa]
 have hord := x17m h1
 have hcl : closed h [id] [id] = true := by simp [closed,h1]
 have hlt : id < h.length := (List.getElem?_eq_some_iff.1 h1).1
 have hgd : h.getD id default = .arr cs es g := by rw [List.getD_eq_getElem?_getD,h1]; rfl
 have hpk : pack h [id] = [.arr cs es g] := by simp only [pack,List.map_cons,List.map_nil,hgd,mapO]
 have hev : evOp E call thaw (pack h [id]) (x56 dst (.buildSlice t 1 #[(0,x)])) (x7 (xa [id]) [A.sl id g 0 len]) = some (.sl 1 0 0 1,[.arr cs es g,.vec [.sl 0 g 0 len] 1 0]) := by
  rw [hpk]
  simp only [x7,mapA,hp,evOp,x56,hk,if_true,xg4,he,hz,hel,hce,xh]
  rfl
 have hset : h.set id (.arr cs es g) = h := by
  obtain ⟨_,h2⟩ := List.getElem?_eq_some_iff.1 h1
  rw [← h2,List.set_getElem_self]
 unfold memD
 rw [hids,show x5 = 1099511627776 from rfl] at *
 rw [hord]
 simp only [box,hev,hcl,List.length_cons,List.length_nil,x4e,Bool.false_and,Bool.false_eq_true,if_false]
 have hb1 : back [id] h.length 2 0 = some id := rfl
 have hb2 : back [id] h.length 2 1 = some h.length := by simp [back]
 simp [mapA,x7,x18,mapO,hb1,hb2,hset,wrOf]
def xe8 (bad : List (Nat × Nat)) (ops : List Oper) (cs : List Foot) : Bool :=
 let b := xrg ops []
 let f := fun (c : Foot) => c.ro && c.ids.isEmpty
 (List.range cs.length).all fun j => (List.range j).all fun i => (b.getD j 0).testBit i || (f (cs.getD i {}) || f (cs.getD j {}) || ((cs.getD i {}).ro && (cs.getD j {}).ro)) || bad.contains (i,j)
theorem x1hy {a b : Foot} (h : (a.ro && a.ids.isEmpty) = true) : xau a b = false ∧ xau b a = false := by
 simp only [Bool.and_eq_true,List.isEmpty_iff] at h
 obtain ⟨ha,hi⟩ := h
 unfold xau
 rw [ha,hi,x1w5]
 simp
theorem xmj {ops : List Oper} {cs : List Foot} (bad : List (Nat × Nat)) (hm : xe8 bad ops cs = true) (hb : ∀ p ∈ bad,xau (cs.getD p.1 {}) (cs.getD p.2 {}) = false) : x64 ops cs = true := by
 refine x1t5 ?_
 unfold xe8 at hm
 unfold xds
 simp only [List.all_eq_true,List.mem_range,Bool.or_eq_true] at hm ⊢
 intro j hj i hi
 rcases hm j hj i hi with (h | h) | h
 ·exact .inl h
 ·refine .inr ?_
  rcases h with (h | h) | h
  ·rw [(x1hy h).1]; rfl
  ·rw [(x1hy h).2]; rfl
  ·simp only [Bool.and_eq_true] at h
   rw [x1vq h.1 h.2]; rfl
 ·have hp := hb (i,j) (by simpa using h)
  exact .inr (by rw [hp]; rfl)
theorem xdo {h : H} {i : Nat} {cs : List D} {e g : Nat} (hg : h[i]? = some (.arr cs e g)) : Okay h i := .mk _ _ hg (by simp) (by rw [x1i hg]; simp)
theorem x1ji {h : H} {i : Nat} {cs : List A} {e g : Nat} (hg : h[i]? = some (.vec cs e g)) (hk : ∀ q ∈ idsL cs,Okay h q) : Okay h i := .mk _ _ hg (by simp) (by
 intro q hq
 have : kids h i = idsL cs := by simp only [kids,hg]
 rw [this] at hq
 exact hk q hq)
theorem x1it {h : H} {i : Nat} {cs : List A} (hg : h[i]? = some (.box cs)) (hk : ∀ q ∈ idsL cs,Okay h q) : Okay h i := .mk _ _ hg (by simp) (by
 intro q hq
 have : kids h i = idsL cs := by simp only [kids,hg]
 rw [this] at hq
 exact hk q hq)
theorem xz6 {h : H} {i : Nat} {nx : List (List Int)} {x : List A} {e g : Nat} (hg : h[i]? = some (.vec (x3 7 nx ++ x) e g)) (hr : ∀ j,j < nx.length → Okay h (j + 7)) (hx : ∀ q ∈ idsL x,Okay h q) : Okay h i := by
 refine x1ji hg ?_
 intro q hq
 rw [x1d,x2k,List.mem_append,List.mem_range'_1] at hq
 rcases hq with hq | hq
 ·obtain ⟨z,rfl⟩ : ∃ z,q = z + 7 := ⟨q - 7,by omega⟩
  exact hr z (by omega)
 ·exact hx q hq
theorem x1k6 {h : H} {nx : List (List Int)} {e g : Nat} {row : List Int} (hr : ∀ (i : Nat) (r : List Int),nx[i]? = some r → h[i + 7]? = some (.arr (ints r) 1 0)) (h1 : h[e]? = some (.arr (ints row) 1 g)) :
  x7j (rd0 h) (x3 7 nx ++ [.sl e g 0 row.length]) = some (xc (nx ++ [row])) := by
 have hlr : (x3 7 nx).length = nx.length := x79 _ _
 refine xwa (by simp [hlr,xc]) ?_
 intro i a x ha hx
 obtain ⟨r,hr1,rfl⟩ := x18h hx
 by_cases hi : i < nx.length
 ·rw [List.getElem?_append_left (by omega)] at ha hr1
  obtain ⟨r2,hr2,rfl⟩ := xzl ha
  rw [hr1] at hr2
  cases hr2
  refine x1c0 ?_
  rw [Nat.add_comm]
  exact hr i r hr1
 ·have hi2 : i < (x3 7 nx ++ [A.sl e g 0 row.length]).length := (List.getElem?_eq_some_iff.1 ha).1
  rw [List.length_append,hlr] at hi2
  simp only [List.length_cons,List.length_nil] at hi2
  obtain rfl : i = nx.length := by omega
  rw [List.getElem?_append_right (by omega)] at ha hr1
  rw [hlr] at ha
  simp only [Nat.sub_self,List.getElem?_cons_zero,Option.some.injEq] at ha hr1
  subst ha
  subst hr1
  exact x1hm h1
theorem x1kx {nx : List (List Int)} {x : A} {t : Nat} (ht : t < nx.length) : ((x3 7 nx ++ [x]).drop t).head? = some (.sl (t + 7) 0 0 (nx.getD t []).length) := by
 have h := xas ht
 have hn : x6 0 = [] := rfl
 have hlr : (x3 7 nx).length = nx.length := x79 _ _
 rw [hn,List.append_nil,List.head?_drop] at h
 rw [List.head?_drop,List.getElem?_append_left (by omega)]
 exact h
theorem xcc {R : Type} {L n : Nat} {o1 o2 o3 o4 o5 : O} {al : Int} {rs : List (List Int)} {ac : List Bool} {T1 : H} {k : A → H → Option R} (hT : o2 :: o3 :: o4 :: o5 :: autO 5 rs ac = T1) (hs : xt rs) (h1 : 1 ≤ rs.length) (ha : ac.length ≤ 4294967295) (hn : 2 ≤ n) (hL : 2 ^ 60 ≤ L) :
  xe env (x2 env L n) [o1,o2,o3,o4,o5] 103 [.agg [.d (.int .i64 al),.d (.ivs rs.length (xc rs)),.d (.ivs ac.length (xb ac))]] k = k (.agg [.d (.int .i64 al),.sl 5 0 0 rs.length,.sl 6 0 0 ac.length]) (o1 :: T1) := by
 rw [x14m hs h1 ha hn hL,← hT]
 rfl
theorem x1oj {c : List UInt8} (hc : c.length ≤ 2000) (al : Int) (nx : List (List Int)) (ac : List Bool) (hs : xt nx) (h1 : 1 ≤ nx.length) (ha : ac.length ≤ 4294967290) (p t : Int)
  (kd1 : (Dw 1 74 [.d (.int .i64 (nx.length))] (.d (.int .i64 t)) c p (p + 1)))
  (kd2 : (Dw 1 74 [.d (.int .i64 30)] (.d (.int .i64 1)) c (p + 1) (p + 1 + 1))) : (Dw 4 76 [autD al nx ac] (autD al nx (ac ++ [true])) c p (p + 1 + 1)) := by
 intro R L n hq k hn hL
 refine x3n xdq (by simp [autD,idsA,idsL]) (by simp [autD,idsA,idsL]) ?_
 have hnl := hs.1
 obtain ⟨N,T1,T2,T3,w⟩ := xb1 (.box [.d (.int .i64 al),.d (.ivs nx.length (xc nx)),.d (.ivs ac.length (xb ac))]) (.box [.d (.int .i64 0),.sl 2 0 0 0,.sl 3 0 0 0]) al nx ac
 have kd3 := fun {R : Type} {n : Nat} {o1 : O} {k : A → H → Option R} (hn : 2 ≤ n) => xcc (R := R) (L := L) (n := n) (o1 := o1) (al := al) (k := k) w.h1 hs h1 (by omega) hn hL
 obtain ⟨hN,hT1,l1,h2,b2,h3,l3,t3,t4,t5,tr,tb,e3,wg⟩ := w
 clear e3
 clear hT1
 obtain ⟨T4,h4⟩ : ∃ T,T3 ++ [.arr [.bool true] 1 0] = T := ⟨_,rfl⟩
 obtain ⟨l4,g4,k4⟩ := xa4 h4
 rw [l3] at l4 g4 k4
 have t45 := k4 5 (by omega)
 rw [t5] at t45
 obtain ⟨T5,h5⟩ : ∃ T,T4.set 5 (.arr (xb (ac ++ [true])) 1 1) = T := ⟨_,rfl⟩
 obtain ⟨l5,g5,k5⟩ := x35 h5 (by omega)
 obtain ⟨T6,h6⟩ : ∃ T,T5.set (N + 1 + 1) (.box [.d (.int .i64 al),.sl 5 0 0 nx.length,.sl 6 1 0 (ac.length + 1)]) = T := ⟨_,rfl⟩
 obtain ⟨l6,g6,k6⟩ := x35 h6 (by omega)
 obtain ⟨T7,h7⟩ : ∃ T,T6.set 3 (.box [.d (.int .i64 al),.sl 5 0 0 nx.length,.sl 6 1 0 (ac.length + 1)]) = T := ⟨_,rfl⟩
 obtain ⟨l7,g7,k7⟩ := x35 h7 (by omega)
 have t5b : T5[N + 1 + 1]? = some (.box [.d (.int .i64 al),.sl 5 0 0 nx.length,.sl 6 0 0 ac.length]) := by rw [k5 _ (by omega),k4 _ (by omega),tb]
 have t63 : T6[3]? = some (.box [.d (.int .i64 0),.sl 2 0 0 0,.sl 3 0 0 0]) := by rw [k6 _ (by omega),k5 _ (by omega),k4 _ (by omega),t3]
 have look : ∀ i,i ≠ 5 → i ≠ 3 → i < N + 2 → T7[i]? = T3[i]? := fun i i5 i3 hi => by rw [k7 _ i3,k6 _ (by omega),k5 _ i5,k4 _ (by omega)]
 have hv : rd1 (rdO c (p + 1 + 1) :: T7) (.sl 5 0 0 nx.length) = some (.ivs nx.length (xc nx)) := by
  refine xk3 (cs := x3 7 nx ++ x6 0) ?_ (xsl fun i r hr => ?_) rfl
  ·rw [List.getElem?_cons_succ,look 4 (by omega) (by omega) (by omega),t4]
  ·have hi : i < nx.length := (List.getElem?_eq_some_iff.1 hr).1
   rw [show i + 7 = i + 6 + 1 by omega,List.getElem?_cons_succ,look _ (by omega) (by omega) (by omega)]
   exact tr i r hr
 have hw : rd1 (rdO c (p + 1 + 1) :: T7) (.sl 6 1 0 (ac.length + 1)) = some (.ivs (ac ++ [true]).length (xb (ac ++ [true]))) := by
  refine xdp ?_ (by simp)
  rw [List.getElem?_cons_succ,k7 _ (by omega),k6 _ (by omega),g5]
 obtain ⟨h2',st_out,st_keep,st_trim⟩ := xga (al := al) hv hw (by omega) (by omega)
 unfold autD at st_out ⊢
 clear hv hw look k4 k5 k6 k7 tr h1 l4 l5 l6 l7 hN
 obtain _ | n := n; omega
 rw [xa1]
 simp only [x9u,Try.f76,SLM,simprocAttr]
 simp -implicitDefEqProofs (maxSteps := 2000000) (disch := first | assumption | exact ⟨by kernel_rfl⟩ | omega | (simp only [GT,LN] <;> omega) | fail) only [↓DN,↓kAsg,↓kRet,UP,simprocAttr,LA,↓kd1,↓kd2,↓kd3,l1,h2,b2,h3,l3,t3,t4,t5,tb,h4,g4,t45,h5,t5b,h6,g6,t63,h7,g7,x4f,xax,xib,xh0,xei,↓st_out,↓st_keep,↓st_trim,List.append_assoc,List.cons_append,List.nil_append]
theorem x1jh {c : List UInt8} (hc : c.length ≤ 2000) (al : Int) (nx : List (List Int)) (ac : List Bool) (hs : xt nx) (h1 : 1 ≤ nx.length) (ha : ac.length ≤ 4294967290) (p t : Int)
  (kd1 : (Dw 1 74 [.d (.int .i64 (nx.length))] (.d (.int .i64 t)) c p (p + 1)))
  (kd2 : (Dw 1 74 [.d (.int .i64 30)] (.d (.int .i64 4)) c (p + 1) (p + 1 + 1))) : (Dw 4 76 [autD al nx ac] (autD al [] []) c p (p + 1 + 1)) := by
 intro R L n hq k hn hL
 refine x3n xdq (by simp [autD,idsA,idsL]) (by simp [autD,idsA,idsL]) ?_
 have hnl := hs.1
 obtain ⟨N,T1,T2,T3,w⟩ := xb1 (.box [.d (.int .i64 al),.d (.ivs nx.length (xc nx)),.d (.ivs ac.length (xb ac))]) (.box [.d (.int .i64 0),.sl 2 0 0 0,.sl 3 0 0 0]) al nx ac
 have kd3 := fun {R : Type} {n : Nat} {o1 : O} {k : A → H → Option R} (hn : 2 ≤ n) => xcc (R := R) (L := L) (n := n) (o1 := o1) (al := al) (k := k) w.h1 hs h1 (by omega) hn hL
 obtain ⟨hN,hT1,l1,h2,b2,h3,l3,t3,t4,t5,tr,tb,e3,wg⟩ := w
 clear e3
 clear hT1
 obtain ⟨T4,h4⟩ : ∃ T,T3 ++ [.vec [] 1 0] = T := ⟨_,rfl⟩
 obtain ⟨l4,g4,k4⟩ := xa4 h4
 rw [l3] at l4 g4 k4
 obtain ⟨T5,h5⟩ : ∃ T,T4.set (N + 1 + 1) (.box [.d (.int .i64 al),.sl (N + 4) 0 0 0,.sl 6 0 0 ac.length]) = T := ⟨_,rfl⟩
 obtain ⟨l5,g5,k5⟩ := x35 h5 (by omega)
 obtain ⟨T6,h6⟩ : ∃ T,T5 ++ [.arr [] 1 0] = T := ⟨_,rfl⟩
 obtain ⟨l6,g6,k6⟩ := xa4 h6
 rw [l5,l4] at l6 g6 k6
 obtain ⟨T7,h7⟩ : ∃ T,T6.set (N + 1 + 1) (.box [.d (.int .i64 al),.sl (N + 4) 0 0 0,.sl (N + 5) 0 0 0]) = T := ⟨_,rfl⟩
 obtain ⟨l7,g7,k7⟩ := x35 h7 (by omega)
 obtain ⟨T8,h8⟩ : ∃ T,T7.set 3 (.box [.d (.int .i64 al),.sl (N + 4) 0 0 0,.sl (N + 5) 0 0 0]) = T := ⟨_,rfl⟩
 obtain ⟨l8,g8,k8⟩ := x35 h8 (by omega)
 have t4b : T4[N + 1 + 1]? = some (.box [.d (.int .i64 al),.sl 5 0 0 nx.length,.sl 6 0 0 ac.length]) := by rw [k4 _ (by omega),tb]
 have t6b : T6[N + 1 + 1]? = some (.box [.d (.int .i64 al),.sl (N + 4) 0 0 0,.sl 6 0 0 ac.length]) := by rw [k6 _ (by omega),g5]
 have t73 : T7[3]? = some (.box [.d (.int .i64 0),.sl 2 0 0 0,.sl 3 0 0 0]) := by rw [k7 _ (by omega),k6 _ (by omega),k5 _ (by omega),k4 _ (by omega),t3]
 rw [l4] at l5
 have hv : rd1 (rdO c (p + 1 + 1) :: T8) (.sl (N + 4) 0 0 0) = some (.ivs ([] : List (List Int)).length (xc [])) := by
  refine xk3 (cs := []) ?_ rfl rfl
  rw [List.getElem?_cons_succ,k8 _ (by omega),k7 _ (by omega),k6 _ (by omega),k5 _ (by omega),g4]
 have hw : rd1 (rdO c (p + 1 + 1) :: T8) (.sl (N + 5) 0 0 0) = some (.ivs ([] : List Bool).length (xb [])) := by
  refine xdp ?_ rfl
  rw [List.getElem?_cons_succ,k8 _ (by omega),k7 _ (by omega),g6]
  rfl
 obtain ⟨h2',st_out,st_keep,st_trim⟩ := xga (al := al) hv hw (by omega) (by omega)
 unfold autD at st_out ⊢
 clear hv hw k4 k5 k6 k7 k8 tr h1 l4 l6 l7 l8 hN
 obtain _ | n := n; omega
 rw [xa1]
 simp only [x9u,Try.f76,SLM,simprocAttr]
 simp -implicitDefEqProofs (maxSteps := 2000000) (disch := first | assumption | exact ⟨by kernel_rfl⟩ | omega | (simp only [GT,LN] <;> omega) | fail) only [↓DN,↓kAsg,↓kRet,UP,simprocAttr,LA,↓kd1,↓kd2,↓kd3,l1,h2,b2,h3,l3,t3,t4,t5,tb,h4,g4,t4b,h5,l5,t6b,h6,g6,t73,h7,g7,h8,g8,xh0,xei,x3l,x3p,↓st_out,↓st_keep,↓st_trim,List.append_assoc,List.cons_append,List.nil_append]
theorem x1lf {c : List UInt8} (hc : c.length ≤ 2000) (al : Int) (nx : List (List Int)) (ac : List Bool) (hs : xt nx) (h1 : 1 ≤ nx.length) (ha : ac.length ≤ 4294967290) (p : Int) (t : Nat) (ht : t < nx.length) (hr : (nx.getD t []).length ≤ 4294967290)
  (kd1 : (Dw 1 74 [.d (.int .i64 (nx.length))] (.d (.int .i64 ((t : Int)))) c p (p + 1)))
  (kd2 : (Dw 1 74 [.d (.int .i64 30)] (.d (.int .i64 2)) c (p + 1) (p + 1 + 1))) : (Dw 4 76 [autD al nx ac] (autD al (nx.set t (nx.getD t [] ++ [0])) ac) c p (p + 1 + 1)) := by
 intro R L n hq k hn hL
 refine x3n xdq (by simp [autD,idsA,idsL]) (by simp [autD,idsA,idsL]) ?_
 have hnl := hs.1
 obtain ⟨N,T1,T2,T3,w⟩ := xb1 (.box [.d (.int .i64 al),.d (.ivs nx.length (xc nx)),.d (.ivs ac.length (xb ac))]) (.box [.d (.int .i64 0),.sl 2 0 0 0,.sl 3 0 0 0]) al nx ac
 have kd3 := fun {R : Type} {n : Nat} {o1 : O} {k : A → H → Option R} (hn : 2 ≤ n) => xcc (R := R) (L := L) (n := n) (o1 := o1) (al := al) (k := k) w.h1 hs h1 (by omega) hn hL
 obtain ⟨hN,hT1,l1,h2,b2,h3,l3,t3,t4,t5,tr,tb,e3,wg⟩ := w
 clear e3
 simp only [x5h,idsL,idsA,List.length_nil,List.length_cons,List.nil_append,List.cons_append,Nat.zero_add] at wg
 clear hT1
 have hrow : nx[t]? = some (nx.getD t []) := by rw [List.getD_eq_getElem?_getD,List.getElem?_eq_getElem ht]; rfl
 generalize hrw : nx.getD t [] = row at hrow hr ⊢
 have hd7 : ((x3 7 nx ++ x6 0).drop t).head? = some (.sl (t + 7) 0 0 row.length) := by rw [xas ht,hrw]
 obtain ⟨T4,h4⟩ : ∃ T,T3 ++ [.arr [.int .i64 0] 1 0] = T := ⟨_,rfl⟩
 obtain ⟨l4,g4,k4⟩ := xa4 h4
 rw [l3] at l4 g4 k4
 have w4 : wgt T4 = wgt T3 := by rw [← h4,xnk]; simp [x5h]
 obtain ⟨T5,h5⟩ : ∃ T,T4.set (t + 6) (.arr (ints (row ++ [0])) 1 1) = T := ⟨_,rfl⟩
 obtain ⟨l5,g5,k5⟩ := x35 h5 (by omega)
 have w5 : wgt T5 ≤ wgt T4 := by rw [← h5]; have := xaa (h := T4) (i := t + 6) (o := .arr (ints (row ++ [0])) 1 1); simpa [x5h] using this
 obtain ⟨T6,h6⟩ : ∃ T,T5.set 4 (.vec ((x3 7 nx ++ x6 0).take t ++ [.sl (t + 7) 1 0 (row.length + 1)] ++ (x3 7 nx ++ x6 0).drop (t + 1)) 1 0) = T := ⟨_,rfl⟩
 obtain ⟨l6,g6,k6⟩ := x35 h6 (by omega)
 obtain ⟨T7,h7⟩ : ∃ T,T6.set 3 (.box [.d (.int .i64 al),.sl 5 0 0 nx.length,.sl 6 0 0 ac.length]) = T := ⟨_,rfl⟩
 obtain ⟨l7,g7,k7⟩ := x35 h7 (by omega)
 have t6b : T6[N + 1 + 1]? = some (.box [.d (.int .i64 al),.sl 5 0 0 nx.length,.sl 6 0 0 ac.length]) := by rw [k6 _ (by omega),k5 _ (by omega),k4 _ (by omega),tb]
 have t63 : T6[3]? = some (.box [.d (.int .i64 0),.sl 2 0 0 0,.sl 3 0 0 0]) := by rw [k6 _ (by omega),k5 _ (by omega),k4 _ (by omega),t3]
 have t44 : T4[4]? = some (.vec (x3 7 nx ++ x6 0) 1 0) := by rw [k4 _ (by omega),t4]
 have t54 : T5[4]? = some (.vec (x3 7 nx ++ x6 0) 1 0) := by rw [k5 _ (by omega),t44]
 have t4r : T4[t + 6]? = some (.arr (ints row) 1 0) := by rw [k4 _ (by omega)]; exact tr _ _ hrow
 have hlv : (x3 7 nx ++ x6 0).length = nx.length := by rw [List.length_append,x79]; rfl
 have st_app : ∀ {call : xq} {thaw : List Nat} {dst : Option Tmp} {args : Array Operand},memD env call thaw dst (.call ⟨.builtin .append,args,#[60,60]⟩) (rdO c (p + 1 + 1) :: T4) [.sl (t + 7) 0 0 row.length,.sl (N + 1 + 1 + 1 + 1) 0 0 1] = some (.sl (t + 7) 1 0 (row.length + 1),rdO c (p + 1 + 1) :: T5,{ ids := [t + 7,N + 1 + 1 + 1 + 1],ro := false,wr := [t + 7] }) := by
  intro call thaw dst args
  rw [xvd (e := 3) (e0 := 1) (n2 := 1) (cs := ints row) (src := [.int .i64 0]) rfl x4m (by kernel_rfl) (by rw [show t + 7 = t + 6 + 1 by omega,List.getElem?_cons_succ]; exact t4r) (.inr rfl) (by rw [List.getElem?_cons_succ]; exact g4) rfl (by simp [ints]) (by unfold x2g; omega) (by omega)]
  rw [show t + 7 = t + 6 + 1 by omega,List.set_cons_succ,← h5,show (ints row).take row.length ++ [D.int .i64 0] = ints (row ++ [0]) by rw [List.take_of_length_le (by simp [ints])]; simp [ints]]
 have ok_row : ∀ (i : Nat) (r : List Int),nx[i]? = some r → Okay (rdO c (p + 1 + 1) :: T5) (i + 7) := by
  intro i r hr
  have hi : i < nx.length := (List.getElem?_eq_some_iff.1 hr).1
  by_cases e : i = t
  ·subst e
   have hg : (rdO c (p + 1 + 1) :: T5)[i + 7]? = some (.arr (ints (row ++ [0])) 1 1) := by rw [show i + 7 = i + 6 + 1 by omega,List.getElem?_cons_succ]; exact g5
   exact .mk _ _ hg (by simp) (by rw [x1i hg]; simp)
  ·have hg : (rdO c (p + 1 + 1) :: T5)[i + 7]? = some (.arr (ints r) 1 0) := by rw [show i + 7 = i + 6 + 1 by omega,List.getElem?_cons_succ,k5 _ (by omega),k4 _ (by omega)]; exact tr _ _ hr
   exact .mk _ _ hg (by simp) (by rw [x1i hg]; simp)
 have ok5 : Okay (rdO c (p + 1 + 1) :: T5) 5 := by
  have hg : (rdO c (p + 1 + 1) :: T5)[5]? = some (.vec (x3 7 nx ++ x6 0) 1 0) := t54
  refine .mk _ _ hg (by simp) ?_
  intro q hq
  have : kids (rdO c (p + 1 + 1) :: T5) 5 = List.range' 7 nx.length := by simp only [kids,hg,x1d,x2k,x3h,List.append_nil]
  rw [this,List.mem_range'_1] at hq
  obtain ⟨z,rfl⟩ : ∃ z,q = z + 7 := ⟨q - 7,by omega⟩
  exact ok_row z (nx[z]'(by omega)) (List.getElem?_eq_getElem _)
 obtain ⟨o2,ho2⟩ : ∃ o,o = x4 x5 (rdO c (p + 1 + 1) :: T5) [5,t + 7] [] := ⟨_,rfl⟩
 have st_sto : ∀ {call : xq} {thaw : List Nat} {dst : Option Tmp} {x y : Operand},memD env call thaw dst (.store 60 x y) (rdO c (p + 1 + 1) :: T5) [.ptr 5 0 t,.sl (t + 7) 1 0 (row.length + 1)] = some (.d .undef,rdO c (p + 1 + 1) :: T6,{ ids := o2,ro := false,wr := o2 }) := by
  intro call thaw dst x y
  rw [x1ld (by kernel_rfl) (by kernel_rfl) (h := rdO c (p + 1 + 1) :: T5) (id := 5) (id2 := t + 7) (cs := x3 7 nx ++ x6 0) t54 (by omega) ok5 (ok_row t row hrow) (by rw [xbw]; simp only [x5h,idsL,idsA,List.nil_append,List.length_nil]; omega),← ho2]
  rw [List.set_cons_succ]
  unfold x17
  rw [← h6]
  rfl
 have hclash : ∀ (ops : List Oper),xe8 [(1,8),(4,8),(6,8),(7,8),(1,9),(8,10),(9,10)] ops [{},{ ids := [N + 2 + 1],ro := true },{},{},{ ids := [N + 2 + 1],ro := true },{},{ ids := [5],ro := true },{ ids := [5],ro := true },{ ids := [N + 1 + 1 + 1 + 1],ro := false },{ ids := [t + 7,N + 1 + 1 + 1 + 1],ro := false,wr := [t + 7] },{ ids := [5],ro := true },{ ids := o2,ro := false,wr := o2 }] = true → x64 ops [{},{ ids := [N + 2 + 1],ro := true },{},{},{ ids := [N + 2 + 1],ro := true },{},{ ids := [5],ro := true },{ ids := [5],ro := true },{ ids := [N + 1 + 1 + 1 + 1],ro := false },{ ids := [t + 7,N + 1 + 1 + 1 + 1],ro := false,wr := [t + 7] },{ ids := [5],ro := true },{ ids := o2,ro := false,wr := o2 }] = true := by
  intro ops hm
  refine xmj _ hm ?_
  intro q hq
  simp only [List.mem_cons,List.not_mem_nil,or_false] at hq
  rcases hq with rfl | rfl | rfl | rfl | rfl | rfl | rfl <;> simp [xau] <;> omega
 have hv : rd1 (rdO c (p + 1 + 1) :: T7) (.sl 5 0 0 nx.length) = some (.ivs (nx.set t (row ++ [0])).length (xc (nx.set t (row ++ [0])))) := by
  refine xk3 (cs := (x3 7 nx ++ x6 0).take t ++ [.sl (t + 7) 1 0 (row.length + 1)] ++ (x3 7 nx ++ x6 0).drop (t + 1)) ?_ ?_ (by simp)
  ·rw [List.getElem?_cons_succ,k7 _ (by omega),g6]
  ·refine x1i8 ht (fun i r hi hr => ?_) ?_ (by simp)
   ·have hil : i < nx.length := (List.getElem?_eq_some_iff.1 hr).1
    rw [show i + 7 = i + 6 + 1 by omega,List.getElem?_cons_succ,k7 _ (by omega),k6 _ (by omega),k5 _ (by omega),k4 _ (by omega)]
    exact tr i r hr
   ·rw [show t + 7 = t + 6 + 1 by omega,List.getElem?_cons_succ,k7 _ (by omega),k6 _ (by omega),g5]
 have hw : rd1 (rdO c (p + 1 + 1) :: T7) (.sl 6 0 0 ac.length) = some (.ivs ac.length (xb ac)) := by
  refine xdp ?_ rfl
  rw [List.getElem?_cons_succ,k7 _ (by omega),k6 _ (by omega),k5 _ (by omega),k4 _ (by omega),t5]
 obtain ⟨h2',st_out,st_keep,st_trim⟩ := xga (al := al) hv hw (by omega) (by omega)
 have hlen : (nx.set t (row ++ [0])).length = nx.length := by simp
 unfold autD at st_out ⊢
 rw [hlen] at st_out ⊢
 have hti : (t : Int) < nx.length := by omega
 have ht0 : (0 : Int) ≤ t := by omega
 have hn0 : (0 : Int) < nx.length := by omega
 clear hv hw k4 k5 k6 k7 tr h1 l4 l6 l7 ok_row ok5 w4 w5 wg ho2 hrow hlv
 obtain _ | n := n; omega
 rw [xa1]
 simp only [x9u,Try.f76,SLM,simprocAttr]
 simp -implicitDefEqProofs (maxSteps := 2000000) (disch := first | assumption | (refine Shut.mk ?_; (show x64 _ _ = true; with_unfolding_all exact hclash _ (by kernel_rfl))) | (refine Shut.mk ?_; kernel_rfl) | omega | (simp only [GT]; done) | (simp only [LN] <;> omega) | fail) only [↓DN,↓kAsg,↓kRet,UP,simprocAttr,LA,↓kd1,↓kd2,↓kd3,l1,h2,b2,h3,l3,t3,t4,t5,tb,h4,t44,hti,ht0,hn0,hd7,t54,↓st_app,↓st_sto,t6b,t63,h7,g7,Int.toNat_natCast,x3l,x3p,x46,x4m,↓st_out,↓st_keep,↓st_trim,List.append_assoc,List.cons_append,List.nil_append]
theorem x1ns {c : List UInt8} (hc : c.length ≤ 2000) (al : Int) (nx : List (List Int)) (ac : List Bool) (hs : xt nx) (h1 : 1 ≤ nx.length) (ha : ac.length ≤ 4294967290) (p : Int) (t : Nat) (ht : t < nx.length) (hr : (nx.getD t []).length = 0)
  (kd1 : (Dw 1 74 [.d (.int .i64 (nx.length))] (.d (.int .i64 ((t : Int)))) c p (p + 1)))
  (kd2 : (Dw 1 74 [.d (.int .i64 30)] (.d (.int .i64 3)) c (p + 1) (p + 1 + 1))) : (Dw 4 76 [autD al nx ac] (autD al nx ac) c p (p + 1 + 1)) := by
 intro R L n hq k hn hL
 refine x3n xdq (by simp [autD,idsA,idsL]) (by simp [autD,idsA,idsL]) ?_
 have hnl := hs.1
 obtain ⟨N,T1,T2,T3,w⟩ := xb1 (.box [.d (.int .i64 al),.d (.ivs nx.length (xc nx)),.d (.ivs ac.length (xb ac))]) (.box [.d (.int .i64 0),.sl 2 0 0 0,.sl 3 0 0 0]) al nx ac
 have kd3 := fun {R : Type} {n : Nat} {o1 : O} {k : A → H → Option R} (hn : 2 ≤ n) => xcc (R := R) (L := L) (n := n) (o1 := o1) (al := al) (k := k) w.h1 hs h1 (by omega) hn hL
 obtain ⟨hN,hT1,l1,h2,b2,h3,l3,t3,t4,t5,tr,tb,e3,wg⟩ := w
 clear e3
 clear hT1
 have hd7 : ((x3 7 nx ++ x6 0).drop t).head? = some (.sl (t + 7) 0 0 0) := by rw [xas ht,hr]
 obtain ⟨T7,h7⟩ : ∃ T,T3.set 3 (.box [.d (.int .i64 al),.sl 5 0 0 nx.length,.sl 6 0 0 ac.length]) = T := ⟨_,rfl⟩
 obtain ⟨l7,g7,k7⟩ := x35 h7 (by omega)
 have hv : rd1 (rdO c (p + 1 + 1) :: T7) (.sl 5 0 0 nx.length) = some (.ivs nx.length (xc nx)) := by
  refine xk3 (cs := x3 7 nx ++ x6 0) ?_ (xsl fun i r hr => ?_) rfl
  ·rw [List.getElem?_cons_succ,k7 _ (by omega),t4]
  ·rw [show i + 7 = i + 6 + 1 by omega,List.getElem?_cons_succ,k7 _ (by omega)]
   exact tr i r hr
 have hw : rd1 (rdO c (p + 1 + 1) :: T7) (.sl 6 0 0 ac.length) = some (.ivs ac.length (xb ac)) := by
  refine xdp ?_ rfl
  rw [List.getElem?_cons_succ,k7 _ (by omega),t5]
 obtain ⟨h2',st_out,st_keep,st_trim⟩ := xga (al := al) hv hw (by omega) (by omega)
 unfold autD at st_out ⊢
 have hti : (t : Int) < nx.length := by omega
 have ht0 : (0 : Int) ≤ t := by omega
 have hn0 : (0 : Int) < nx.length := by omega
 clear hv hw k7 tr h1 l7 wg
 obtain _ | n := n; omega
 rw [xa1]
 simp only [x9u,Try.f76,SLM,simprocAttr]
 simp -implicitDefEqProofs (maxSteps := 2000000) (disch := first | assumption | exact ⟨by kernel_rfl⟩ | omega | (simp only [GT,LN] <;> omega) | fail) only [↓DN,↓kAsg,↓kRet,UP,simprocAttr,LA,↓kd1,↓kd2,↓kd3,l1,h2,b2,h3,l3,t3,t4,t5,tb,hti,ht0,hn0,hd7,h7,g7,Int.toNat_natCast,x3l,x3p,x46,x4m,↓st_out,↓st_keep,↓st_trim,List.append_assoc,List.cons_append,List.nil_append]
theorem x1l4 {c : List UInt8} (hc : c.length ≤ 2000) (al : Int) (nx : List (List Int)) (ac : List Bool) (hs : xt nx) (h1 : 1 ≤ nx.length) (ha : ac.length ≤ 4294967290) (p : Int) (hp : 0 ≤ p) (hp2 : p ≤ 900000000) (t : Nat) (ht : t < nx.length) (j : Nat) (hj : j < (nx.getD t []).length)
  (kd1 : (Dw 1 74 [.d (.int .i64 (nx.length))] (.d (.int .i64 ((t : Int)))) c p (p + 1)))
  (kd2 : (Dw 1 74 [.d (.int .i64 30)] (.d (.int .i64 3)) c (p + 1) (p + 1 + 1)))
  (kd4 : (Dw 1 74 [.d (.int .i64 (((nx.getD t []).length : Int)))] (.d (.int .i64 ((j : Int)))) c (p + 1 + 1) (p + 1 + 1 + 1))) : ∃ v : Int,(Dw 4 76 [autD al nx ac] (autD al (nx.set t ((nx.getD t []).set j v)) ac) c p (p + 1 + 1 + 1 + 1)) := by
 obtain ⟨v,_,kd5⟩ := xup hc [-1,nx.length,(nx.length : Int) - 1,0] (by simp) (by simp) (p + 1 + 1 + 1) (by omega) (by omega)
 simp only [ints,List.map_cons,List.map_nil,List.length_cons,List.length_nil,Nat.zero_add,Nat.reduceAdd] at kd5
 refine ⟨v,?_⟩
 intro R L n hq k hn hL
 refine x3n xdq (by simp [autD,idsA,idsL]) (by simp [autD,idsA,idsL]) ?_
 have hnl := hs.1
 obtain ⟨N,T1,T2,T3,w⟩ := xb1 (.box [.d (.int .i64 al),.d (.ivs nx.length (xc nx)),.d (.ivs ac.length (xb ac))]) (.box [.d (.int .i64 0),.sl 2 0 0 0,.sl 3 0 0 0]) al nx ac
 have kd3 := fun {R : Type} {n : Nat} {o1 : O} {k : A → H → Option R} (hn : 2 ≤ n) => xcc (R := R) (L := L) (n := n) (o1 := o1) (al := al) (k := k) w.h1 hs h1 (by omega) hn hL
 obtain ⟨hN,hT1,l1,h2,b2,h3,l3,t3,t4,t5,tr,tb,e3,wg⟩ := w
 clear e3
 clear hT1
 have hrow : nx[t]? = some (nx.getD t []) := by rw [List.getD_eq_getElem?_getD,List.getElem?_eq_getElem ht]; rfl
 have hrl := xea hs ht
 generalize hrw : nx.getD t [] = row at *
 have hd7 : ((x3 7 nx ++ x6 0).drop t).head? = some (.sl (t + 7) 0 0 row.length) := by rw [xas ht,hrw]
 obtain ⟨T4,h4⟩ : ∃ T,T3 ++ [.arr [.int .i64 (-1),.int .i64 nx.length,.int .i64 ((nx.length : Int) - 1),.int .i64 0] 1 0] = T := ⟨_,rfl⟩
 obtain ⟨l4,g4,k4⟩ := xa4 h4
 rw [l3] at l4 g4 k4
 have g4D : T4.getD (N + 1 + 1 + 1) O.void = .arr [.int .i64 (-1),.int .i64 nx.length,.int .i64 ((nx.length : Int) - 1),.int .i64 0] 1 0 := by rw [List.getD_eq_getElem?_getD,g4]; rfl
 have t4r : T4[t + 6]? = some (.arr (ints row) 1 0) := by rw [k4 _ (by omega)]; exact tr _ _ hrow
 obtain ⟨T5,h5⟩ : ∃ T,T4.set (t + 6) (.arr (ints (row.set j v)) 1 0) = T := ⟨_,rfl⟩
 obtain ⟨l5,g5,k5⟩ := x35 h5 (by omega)
 obtain ⟨T7,h7⟩ : ∃ T,T5.set 3 (.box [.d (.int .i64 al),.sl 5 0 0 nx.length,.sl 6 0 0 ac.length]) = T := ⟨_,rfl⟩
 obtain ⟨l7,g7,k7⟩ := x35 h7 (by omega)
 have t3r : T3[t + 6]? = some (.arr (ints row) 1 0) := tr _ _ hrow
 have t5b : T5[N + 1 + 1]? = some (.box [.d (.int .i64 al),.sl 5 0 0 nx.length,.sl 6 0 0 ac.length]) := by rw [k5 _ (by omega),k4 _ (by omega),tb]
 have t53 : T5[3]? = some (.box [.d (.int .i64 0),.sl 2 0 0 0,.sl 3 0 0 0]) := by rw [k5 _ (by omega),k4 _ (by omega),t3]
 have hset : x17 (ints row) j [.int .i64 v] = ints (row.set j v) := by
  unfold x17
  exact x18a hj
 have st_sto : ∀ {call : xq} {thaw : List Nat} {dst : Option Tmp} {x y : Operand},memD env call thaw dst (.store 3 x y) (rdO c (p + 1 + 1 + 1 + 1) :: T4) [.ptr (t + 7) 0 j,.d (.int .i64 v)] = some (.d .undef,rdO c (p + 1 + 1 + 1 + 1) :: T5,{ ids := [t + 7],ro := false,wr := [t + 7] }) := by
  intro call thaw dst x y
  rw [xwv (by kernel_rfl) (by kernel_rfl) rfl (h := rdO c (p + 1 + 1 + 1 + 1) :: T4) (id := t + 7) (cs := ints row) (esz := 1) (by rw [show t + 7 = t + 6 + 1 by omega,List.getElem?_cons_succ]; exact t4r) (by simp [ints]; omega)]
  rw [show t + 7 = t + 6 + 1 by omega,List.set_cons_succ,hset,h5]
 have hre : ∀ x y : D,x4 1099511627776 (.box [.d x,.d y] :: T4) [0,N + 1 + 1 + 1 + 1] [] = [0,N + 1 + 1 + 1 + 1] := by
  intro x y
  rw [show (1099511627776 : Nat) = 1099511627773 + 1 + 1 + 1 from rfl,xe4]
  simp [idsL,idsA]
  rw [xe4]
  simp [g4,List.getD_eq_getElem?_getD,xke]
 have hclash : ∀ (ops : List Oper),xe8 [(1,10),(3,10),(4,10),(1,11),(3,11),(4,11),(11,12)] ops [{},{ ids := [N + 2 + 1],ro := true },{},{ ids := [5],ro := true },{ ids := [5],ro := true },{},{},{},{},{},{ ids := [N + 1 + 1 + 1 + 1],ro := false },{ ids := [0,N + 1 + 1 + 1 + 1],ro := false },{ ids := [t + 7],ro := true },{ ids := [t + 7],ro := false }] = true → x64 ops [{},{ ids := [N + 2 + 1],ro := true },{},{ ids := [5],ro := true },{ ids := [5],ro := true },{},{},{},{},{},{ ids := [N + 1 + 1 + 1 + 1],ro := false },{ ids := [0,N + 1 + 1 + 1 + 1],ro := false },{ ids := [t + 7],ro := true },{ ids := [t + 7],ro := false }] = true := by
  intro ops hm
  refine xmj _ hm ?_
  intro q hq
  simp only [List.mem_cons,List.not_mem_nil,or_false] at hq
  rcases hq with rfl | rfl | rfl | rfl | rfl | rfl | rfl <;> simp [xau] <;> omega
 have hlen : (nx.set t (row.set j v)).length = nx.length := by simp
 have hv : rd1 (rdO c (p + 1 + 1 + 1 + 1) :: T7) (.sl 5 0 0 nx.length) = some (.ivs (nx.set t (row.set j v)).length (xc (nx.set t (row.set j v)))) := by
  refine xk3 (cs := x3 7 nx ++ x6 0) ?_ ?_ hlen.symm
  ·rw [List.getElem?_cons_succ,k7 _ (by omega),k5 _ (by omega),k4 _ (by omega),t4]
  ·rw [← xpf (b := 7) (rs := nx) (k := t) (r := row.set j v) (by rw [hrw]; simp)]
   refine xsl fun i r hr => ?_
   rw [show i + 7 = i + 6 + 1 by omega,List.getElem?_cons_succ]
   rw [List.getElem?_set] at hr
   by_cases e : t = i
   ·subst e
    rw [if_pos rfl,if_pos ht] at hr
    cases hr
    rw [k7 _ (by omega)]; exact g5
   ·rw [if_neg e] at hr
    have hil : i < nx.length := (List.getElem?_eq_some_iff.1 hr).1
    rw [k7 _ (by omega),k5 _ (by omega),k4 _ (by omega)]
    exact tr i r hr
 have hw : rd1 (rdO c (p + 1 + 1 + 1 + 1) :: T7) (.sl 6 0 0 ac.length) = some (.ivs ac.length (xb ac)) := by
  refine xdp ?_ rfl
  rw [List.getElem?_cons_succ,k7 _ (by omega),k5 _ (by omega),k4 _ (by omega),t5]
 obtain ⟨h2',st_out,st_keep,st_trim⟩ := xga (al := al) hv hw (by omega) (by omega)
 unfold autD at st_out ⊢
 rw [hlen] at st_out ⊢
 have hti : (t : Int) < nx.length := by omega
 have ht0 : (0 : Int) ≤ t := by omega
 have hn0 : (0 : Int) < nx.length := by omega
 have hji : (j : Int) < row.length := by omega
 have hj0 : (0 : Int) ≤ j := by omega
 have hr0 : (0 : Int) < row.length := by omega
 clear hv hw k4 k5 k7 tr h1 l4 l7 wg hrow
 obtain _ | n := n; omega
 rw [xa1]
 simp only [x9u,Try.f76,SLM,simprocAttr]
 simp -implicitDefEqProofs (maxSteps := 2000000) (disch := first | assumption | (refine Shut.mk ?_; (show x64 _ _ = true; with_unfolding_all exact hclash _ (by kernel_rfl))) | (refine Shut.mk ?_; kernel_rfl) | omega | (simp only [GT]; done) | (simp only [LN] <;> omega) | fail) only [↓DN,↓kAsg,↓kRet,UP,simprocAttr,LA,↓kd1,↓kd2,↓kd3,↓kd4,↓kd5,l1,h2,b2,h3,l3,t3,t4,t5,tb,h4,g4,g4D,t3r,t4r,hti,ht0,hn0,hji,hj0,hr0,hd7,hre,↓st_sto,t5b,t53,h7,g7,Int.toNat_natCast,x3l,x3p,x46,x4m,↓st_out,↓st_keep,↓st_trim,Nat.sub_self,List.range'_zero,List.append_nil,List.append_assoc,List.cons_append,List.nil_append]
def xy0 (n : Nat) (ids : List Nat) : Bool := decide (ids = [4,n + 9])
theorem x1ob {n : Nat} {ke2 : Nat} (he2 : ke2 = n + 9) : xy0 n [4,ke2] = true := by subst he2; simp [xy0]
def xnx (n i : Nat) : Option Nat := if i = 0 then some 0 else if i = 4 then some 1 else if i = n + 9 then some 2 else none
theorem x1gb {n : Nat} : xnx n 4 = some (1) := by unfold xnx; repeat (first | rfl | rw [if_pos rfl] | rw [if_neg (by omega)])
theorem x19k {n k : Nat} (h : k = n + 9) : xnx n k = some (2) := by subst h; unfold xnx; repeat (first | rfl | rw [if_pos rfl] | rw [if_neg (by omega)])
theorem x214 {m : List Bool} {s : List A} {y1 y2 x0 x1 : D} {o1 : O} {k z : Nat} {cs : List D} {d : List (List Int)} (hl : d.length ≤ 4294967296) : gc 1 m s (.box [.d y1,.d y2] :: o1 :: .arr [] 0 0 :: .arr [] 0 0 :: .box [.d x0,.sl 2 0 0 0,.sl 3 0 0 0] :: .vec (x3 7 d ++ x6 0) 1 0 :: .arr cs 1 0 :: (x9 d ++ [.arr [] 0 0,.arr [] 0 0,.box [.d x1,.sl 5 0 0 k,.sl 6 0 0 z]])) = match box (tidy m s) with
  | .mk s1 => if xy0 d.length (idsL s1) = true ∧ z0As s1 = true then (x7 (xnx d.length) s1,.box [.d y1,.d y2] :: .box [.d x0,.sl 3 0 0 0,.sl 4 0 0 0] :: .box [.d x1,.sl 5 0 0 k,.sl 6 0 0 z] :: .arr [] 0 0 :: .arr [] 0 0 :: .vec (x3 7 d ++ x6 0) 1 0 :: .arr cs 1 0 :: x9 d) else gcO 1 m s (.box [.d y1,.d y2] :: o1 :: .arr [] 0 0 :: .arr [] 0 0 :: .box [.d x0,.sl 2 0 0 0,.sl 3 0 0 0] :: .vec (x3 7 d ++ x6 0) 1 0 :: .arr cs 1 0 :: (x9 d ++ [.arr [] 0 0,.arr [] 0 0,.box [.d x1,.sl 5 0 0 k,.sl 6 0 0 z]]))
  | .no => ([],[]) := by
 simp only [box]
 split
 ·rename_i hc
  obtain ⟨hb,hz⟩ := hc
  have hids : idsL (tidy m s) = [4,d.length + 9] := by simpa [xy0] using hb
  obtain ⟨h,hh⟩ : ∃ h : H,O.box [.d y1,.d y2] :: o1 :: .arr [] 0 0 :: .arr [] 0 0 :: .box [.d x0,.sl 2 0 0 0,.sl 3 0 0 0] :: .vec (x3 7 d ++ x6 0) 1 0 :: .arr cs 1 0 :: (x9 d ++ [.arr [] 0 0,.arr [] 0 0,.box [.d x1,.sl 5 0 0 k,.sl 6 0 0 z]]) = h := ⟨_,rfl⟩
  conv => lhs; rw [hh]
  have g0 : h[0]? = some (.box [.d y1,.d y2]) := by rw [← hh]; rfl
  have g2 : h[2]? = some (.arr [] 0 0) := by rw [← hh]; rfl
  have g3 : h[3]? = some (.arr [] 0 0) := by rw [← hh]; rfl
  have g4 : h[4]? = some (.box [.d x0,.sl 2 0 0 0,.sl 3 0 0 0]) := by rw [← hh]; rfl
  have g5 : h[5]? = some (.vec (x3 7 d ++ x6 0) 1 0) := by rw [← hh]; rfl
  have g6 : h[6]? = some (.arr cs 1 0) := by rw [← hh]; rfl
  have hD : h.drop 7 = x9 d ++ [.arr [] 0 0,.arr [] 0 0,.box [.d x1,.sl 5 0 0 k,.sl 6 0 0 z]] := by rw [← hh]; rfl
  have gr := x8v 7 hD
  have ge2 : h[d.length + 9]? = some (.box [.d x1,.sl 5 0 0 k,.sl 6 0 0 z]) := xka 7 2 hD rfl (by omega)
  have k0 : kids h (0) = [] := by simp [kids,g0,idsL,idsA]
  have k4 : kids h (4) = [2,3] := by simp [kids,g4,idsL,idsA]
  have ke2 : kids h (d.length + 9) = [5,6] := by simp [kids,ge2,idsL,idsA]
  have k2 : kids h (2) = [] := x1i g2
  have k3 : kids h (3) = [] := x1i g3
  have k5 : kids h (5) = List.range' 7 d.length := by simp [kids,g5,x1d,x2k,x3h,idsL,idsA]
  have leaf := x9o gr
  have hr : x4 (x5 + 1) h [0,4,d.length + 9] [] = [0,4,d.length + 9,2,3,5] ++ ([6] ++ (List.range' 7 d.length ++ [])) := x7o (by simp [k0,k4,ke2,k2,k3,k5]) (by intro q hq; simp only [List.length_cons,List.length_nil] at hq; have : q = 0 ∨ q = 1 ∨ q = 2 ∨ q = 3 ∨ q = 4 ∨ q = 5 := (by omega); rcases this with rfl | rfl | rfl | rfl | rfl | rfl <;> simp [k0,k4,ke2,k2,k3,k5]) leaf (by intro i hi; simp at hi; subst hi; exact ⟨_,_,_,by assumption⟩) (by intro i hi; simp at hi; rcases hi with rfl | rfl | rfl | rfl | rfl | rfl <;> exact ⟨_,by assumption,by simp⟩) (by simp <;> omega) (by intro i hi; simp at hi; omega) (by simp only [x5,List.length_cons,List.length_nil]; omega)
  generalize hord : [0,4,d.length + 9,2,3,5] ++ ([6] ++ (List.range' 7 d.length ++ [])) = ord at hr
  have hA : ord = ([0,4,d.length + 9,2,3,5] ++ [6]) ++ (List.range' 7 d.length ++ []) := by rw [← hord,List.append_assoc]
  have pk : ∀ i j,ord[j]? = some i → xa ord i = some j := fun i j h1 => x4i (by rw [← hr]; exact x2h (x5 + 1) h _ [] (by simp)) h1
  have p0 := pk (0) 0 (by rw [← hord]; rfl)
  have p4 := pk (4) 1 (by rw [← hord]; rfl)
  have pe2 := pk (d.length + 9) 2 (by rw [← hord]; rfl)
  have p2 := pk (2) 3 (by rw [← hord]; rfl)
  have p3 := pk (3) 4 (by rw [← hord]; rfl)
  have p5 := pk (5) 5 (by rw [← hord]; rfl)
  have p6 := pk (6) 6 (by rw [← hord]; rfl)
  have pr := x9q (C := 7) pk hA rfl
  obtain ⟨K,hK⟩ : ∃ K : H,O.box [.d y1,.d y2] :: .box [.d x0,.sl 3 0 0 0,.sl 4 0 0 0] :: .box [.d x1,.sl 5 0 0 k,.sl 6 0 0 z] :: .arr [] 0 0 :: .arr [] 0 0 :: .vec (x3 7 d ++ x6 0) 1 0 :: .arr cs 1 0 :: x9 d = K := ⟨_,rfl⟩
  have hni : ∀ f,x7 f (x6 0) = x6 0 := fun _ => rfl
  have hpk : pack h ord = K := by
   have hrf : x7 (xa ord) (x3 7 d) = x3 7 d := x6f (c := 0) pr
   rw [xb9 hA gr,← hK]
   simp only [List.cons_append,List.nil_append,List.map_cons,List.map_nil,List.getD_eq_getElem?_getD,g0,g4,ge2,g2,g3,g5,g6,Option.getD_some,mapO,x7,mapA,x3v,hrf,hni,p0,p4,pe2,p2,p3,p5,p6,List.append_nil]
  have hKD : K.drop 7 = x9 d ++ [] := by rw [← hK]; exact (List.append_nil _).symm
  have hgr := xdf hKD
  have hcm : x3a 0 K = .box [.d y1,.d y2] :: .box [.d x0,.sl 3 0 0 0,.sl 4 0 0 0] :: .box [.d x1,.sl 5 0 0 k,.sl 6 0 0 z] :: .arr [] 0 0 :: .arr [] 0 0 :: .vec (x3 7 d ++ x6 0) 1 0 :: .arr cs 1 0 :: x9 d := by
   have hrf : xj 0 K (x3 7 d) = x3 7 d := x76 hgr
   have hnc : ∀ h : H,xj 0 h (x6 0) = x6 0 := fun _ => rfl
   have q3 : xx K 3 = some 0 := by rw [← hK]; rfl
   have q4 : xx K 4 = some 0 := by rw [← hK]; rfl
   have q5 : xx K 5 = some 0 := by rw [← hK]; rfl
   have q6 : xx K 6 = some 0 := by rw [← hK]; rfl
   unfold x3a
   rw [x78]
   conv => lhs; arg 2; rw [← hK]
   simp only [List.map_cons,List.map_append,List.map_nil,x2r,xj,x1c,x7i,x63,hrf,hnc,x80,q3,q4,q5,q6,Nat.not_lt_zero,if_false,if_true]
  subst hK
  rw [x1bx hh hids hr,hpk,hcm]
  have hmp : x7 (xa ord) (tidy m s) = x7 (xnx d.length) (tidy m s) := by
   apply xaz
   rw [hids]
   intro i hi
   simp only [List.mem_cons,List.not_mem_nil,or_false] at hi
   rcases hi with rfl | rfl
   ·rw [p4,x1gb]
   ·rw [pe2,x19k rfl]
  have hz2 : xj 0 (O.box [.d y1,.d y2] :: .box [.d x0,.sl 3 0 0 0,.sl 4 0 0 0] :: .box [.d x1,.sl 5 0 0 k,.sl 6 0 0 z] :: .arr [] 0 0 :: .arr [] 0 0 :: .vec (x3 7 d ++ x6 0) 1 0 :: .arr cs 1 0 :: x9 d) (x7 (xa ord) (tidy m s)) = x7 (xa ord) (tidy m s) := by
   exact xaw (xto (by simp [z0O,z0As,z0A,xo0,xki,xk7,xtj])) _ (xm2 _ hz)
  rw [hz2,hmp]
 ·rfl
theorem x1we {m : List Bool} {s : List A} {y1 y2 x0 x1 : D} {k z : Nat} {r : List Int} {cs : List D} {d : List (List Int)} {p : H} (hl : d.length ≤ 4294967296) : gc 1 m s (.box [.d y1,.d y2] :: .box [.d x0,.sl 3 0 0 0,.sl 4 0 0 0] :: .box [.d x1,.sl 5 1 0 k,.sl 6 1 0 z] :: .arr [] 0 0 :: .arr [] 0 0 :: .vec (x3 7 d ++ [.sl (d.length + 7) 1 0 r.length]) 1 1 :: .arr cs 1 1 :: (x9 d ++ .arr (ints r) 1 1 :: p)) = match box (tidy m s) with
  | .mk s1 => if idsL s1 = [1,2] then (xj 0 (.box [.d y1,.d y2] :: .box [.d x0,.sl 3 0 0 0,.sl 4 0 0 0] :: .box [.d x1,.sl 5 1 0 k,.sl 6 1 0 z] :: .arr [] 0 0 :: .arr [] 0 0 :: .vec (x3 7 d ++ [.sl (d.length + 7) 1 0 r.length]) 1 1 :: .arr cs 1 1 :: (x9 d ++ [.arr (ints r) 1 1])) (s1),.box [.d y1,.d y2] :: .box [.d x0,.sl 3 0 0 0,.sl 4 0 0 0] :: .box [.d x1,.sl 5 0 0 k,.sl 6 0 0 z] :: .arr [] 0 0 :: .arr [] 0 0 :: .vec (x3 7 d ++ [.sl (d.length + 7) 0 0 r.length]) 1 0 :: .arr cs 1 0 :: (x9 d ++ [.arr (ints r) 1 0])) else gcO 1 m s (.box [.d y1,.d y2] :: .box [.d x0,.sl 3 0 0 0,.sl 4 0 0 0] :: .box [.d x1,.sl 5 1 0 k,.sl 6 1 0 z] :: .arr [] 0 0 :: .arr [] 0 0 :: .vec (x3 7 d ++ [.sl (d.length + 7) 1 0 r.length]) 1 1 :: .arr cs 1 1 :: (x9 d ++ .arr (ints r) 1 1 :: p))
  | .no => ([],[]) := by
 simp only [box]
 split
 ·rename_i hc
  have hb := hc
  have hids : idsL (tidy m s) = [1,2] := by exact hb
  obtain ⟨h,hh⟩ : ∃ h : H,O.box [.d y1,.d y2] :: .box [.d x0,.sl 3 0 0 0,.sl 4 0 0 0] :: .box [.d x1,.sl 5 1 0 k,.sl 6 1 0 z] :: .arr [] 0 0 :: .arr [] 0 0 :: .vec (x3 7 d ++ [.sl (d.length + 7) 1 0 r.length]) 1 1 :: .arr cs 1 1 :: (x9 d ++ .arr (ints r) 1 1 :: p) = h := ⟨_,rfl⟩
  conv => lhs; rw [hh]
  have g0 : h[0]? = some (.box [.d y1,.d y2]) := by rw [← hh]; rfl
  have g1 : h[1]? = some (.box [.d x0,.sl 3 0 0 0,.sl 4 0 0 0]) := by rw [← hh]; rfl
  have g2 : h[2]? = some (.box [.d x1,.sl 5 1 0 k,.sl 6 1 0 z]) := by rw [← hh]; rfl
  have g3 : h[3]? = some (.arr [] 0 0) := by rw [← hh]; rfl
  have g4 : h[4]? = some (.arr [] 0 0) := by rw [← hh]; rfl
  have g5 : h[5]? = some (.vec (x3 7 d ++ [.sl (d.length + 7) 1 0 r.length]) 1 1) := by rw [← hh]; rfl
  have g6 : h[6]? = some (.arr cs 1 1) := by rw [← hh]; rfl
  have hD : h.drop 7 = x9 d ++ (.arr (ints r) 1 1 :: p) := by rw [← hh]; rfl
  have gr := x8v 7 hD
  have ge0 : h[d.length + 7]? = some (.arr (ints r) 1 1) := xka 7 0 hD rfl (by omega)
  have k0 : kids h (0) = [] := by simp [kids,g0,idsL,idsA]
  have k1 : kids h (1) = [3,4] := by simp [kids,g1,idsL,idsA]
  have k2 : kids h (2) = [5,6] := by simp [kids,g2,idsL,idsA]
  have k3 : kids h (3) = [] := x1i g3
  have k4 : kids h (4) = [] := x1i g4
  have k5 : kids h (5) = List.range' 7 d.length ++ [d.length + 7] := by simp [kids,g5,x1d,x2k,x3h,idsL,idsA]
  have leaf := x9o gr
  have hr : x4 (x5 + 1) h [0,1,2] [] = [0,1,2,3,4,5] ++ ([6] ++ (List.range' 7 d.length ++ [d.length + 7])) := x7o (by simp [k0,k1,k2,k3,k4,k5]) (by intro q hq; simp only [List.length_cons,List.length_nil] at hq; have : q = 0 ∨ q = 1 ∨ q = 2 ∨ q = 3 ∨ q = 4 ∨ q = 5 := (by omega); rcases this with rfl | rfl | rfl | rfl | rfl | rfl <;> simp [k0,k1,k2,k3,k4,k5]) leaf (by intro i hi; simp at hi; rcases hi with rfl | rfl <;> exact ⟨_,_,_,by assumption⟩) (by intro i hi; simp at hi; rcases hi with rfl | rfl | rfl | rfl | rfl | rfl <;> exact ⟨_,by assumption,by simp⟩) (by simp <;> omega) (by intro i hi; simp at hi; omega) (by simp only [x5,List.length_cons,List.length_nil]; omega)
  generalize hord : [0,1,2,3,4,5] ++ ([6] ++ (List.range' 7 d.length ++ [d.length + 7])) = ord at hr
  have hA : ord = ([0,1,2,3,4,5] ++ [6]) ++ (List.range' 7 d.length ++ [d.length + 7]) := by rw [← hord,List.append_assoc]
  have pk : ∀ i j,ord[j]? = some i → xa ord i = some j := fun i j h1 => x4i (by rw [← hr]; exact x2h (x5 + 1) h _ [] (by simp)) h1
  have p0 := pk (0) 0 (by rw [← hord]; rfl)
  have p1 := pk (1) 1 (by rw [← hord]; rfl)
  have p2 := pk (2) 2 (by rw [← hord]; rfl)
  have p3 := pk (3) 3 (by rw [← hord]; rfl)
  have p4 := pk (4) 4 (by rw [← hord]; rfl)
  have p5 := pk (5) 5 (by rw [← hord]; rfl)
  have p6 := pk (6) 6 (by rw [← hord]; rfl)
  have pr := x9q (C := 7) pk hA rfl
  have pe0 := x13p (C := 7) pk hA rfl 0 (i := d.length + 7) (j := d.length + 7) rfl (by omega)
  obtain ⟨K,hK⟩ : ∃ K : H,O.box [.d y1,.d y2] :: .box [.d x0,.sl 3 0 0 0,.sl 4 0 0 0] :: .box [.d x1,.sl 5 1 0 k,.sl 6 1 0 z] :: .arr [] 0 0 :: .arr [] 0 0 :: .vec (x3 7 d ++ [.sl (d.length + 7) 1 0 r.length]) 1 1 :: .arr cs 1 1 :: (x9 d ++ [.arr (ints r) 1 1]) = K := ⟨_,rfl⟩
  have hni : ∀ f,x7 f (x6 0) = x6 0 := fun _ => rfl
  have hpk : pack h ord = K := by
   have hrf : x7 (xa ord) (x3 7 d) = x3 7 d := x6f (c := 0) pr
   rw [xb9 hA gr,← hK]
   simp only [List.cons_append,List.nil_append,List.map_cons,List.map_nil,List.getD_eq_getElem?_getD,g0,g1,g2,g3,g4,g5,g6,ge0,Option.getD_some,mapO,x7,mapA,x3v,hrf,hni,p0,p1,p2,p3,p4,p5,p6,pe0,List.append_nil]
  have hKD : K.drop 7 = x9 d ++ [.arr (ints r) 1 1] := by rw [← hK]; rfl
  have hgr := xdf hKD
  have hge0 : xx K (d.length + 7) = some 1 := by simp only [xx,xka 7 0 hKD rfl (j := d.length + 7) (by omega)]
  have hcm : x3a 0 K = .box [.d y1,.d y2] :: .box [.d x0,.sl 3 0 0 0,.sl 4 0 0 0] :: .box [.d x1,.sl 5 0 0 k,.sl 6 0 0 z] :: .arr [] 0 0 :: .arr [] 0 0 :: .vec (x3 7 d ++ [.sl (d.length + 7) 0 0 r.length]) 1 0 :: .arr cs 1 0 :: (x9 d ++ [.arr (ints r) 1 0]) := by
   have hrf : xj 0 K (x3 7 d) = x3 7 d := x76 hgr
   have hnc : ∀ h : H,xj 0 h (x6 0) = x6 0 := fun _ => rfl
   have q3 : xx K 3 = some 0 := by rw [← hK]; rfl
   have q4 : xx K 4 = some 0 := by rw [← hK]; rfl
   have q5 : xx K 5 = some 1 := by rw [← hK]; rfl
   have q6 : xx K 6 = some 1 := by rw [← hK]; rfl
   unfold x3a
   rw [x78]
   conv => lhs; arg 2; rw [← hK]
   simp only [List.map_cons,List.map_append,List.map_nil,x2r,xj,x1c,x7i,x63,hrf,hnc,x80,q3,q4,q5,q6,hge0,Nat.not_lt_zero,if_false,if_true]
  subst hK
  rw [x1bx hh hids hr,hpk,hcm]
  have hmp : x7 (xa ord) (tidy m s) = tidy m s := by
   apply x7a
   rw [hids]
   intro i hi
   simp only [List.mem_cons,List.not_mem_nil,or_false] at hi
   rcases hi with rfl | rfl
   ·exact p1
   ·exact p2
  rw [hmp]
 ·rfl
end Ev
end Go.Proofs.Ytppdfjdfjfoddaa
