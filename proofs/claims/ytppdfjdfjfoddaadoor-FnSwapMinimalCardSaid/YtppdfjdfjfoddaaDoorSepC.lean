/-
  Classes of states that no word tells apart: plain laws.
-/
import Derived.Test.YtppdfjdfjfoddaaDoorFirsts
import Derived.Test.YtppdfjdfjfoddaaDoorItoa
import Derived.Test.YtppdfjdfjfoddaaDoorAutH
import Derived.Test.YtppdfjdfjfoddaaDoorNetX
import Derived.Test.YtppdfjdfjfoddaaDoorWrongC
import Derived.Test.YtppdfjdfjfoddaaDoorEvDef
import Derived.Test.YtppdfjdfjfoddaaDoorPathY
set_option linter.unusedSimpArgs false
set_option linter.unusedVariables false
set_option maxRecDepth 8000
set_option maxHeartbeats 4000000
namespace Go.Proofs.YtppdfjdfjfoddaaDoor
namespace Ev
def clA (cl:List Int) (t:Int):Int:=cl.getD t.toNat 0
def sigA (a:Aut) (cl:List Int) (q:Nat):List Int:=cl.getD q 0 :: (a.nx.getD q []).map (clA cl)
def sigs (a:Aut) (cl:List Int):List (List Int):=(List.range a.nx.length).map (sigA a cl)
def clsG (a:Aut):Nat → List Int → Nat → List Int
 | 0,cl,_ => cl
 | j + 1,cl,c => if (aZ (sigs a cl)).length = c then numL (sigs a cl) else clsG a j (numL (sigs a cl)) (aZ (sigs a cl)).length
def cl0 (a:Aut):List Int:=a.ac.map fun b => if b = true then 1 else 0
def dC (a:Aut):List Int:=clsG a (a.nx.length + 1) (cl0 a) 0
def acQ (a:Aut) (q:Int):Bool:=a.ac.getD q.toNat false
def Eqv (a:Aut) (i j:Int):Prop:=∀ w:List Int,(∀ l ∈ w,l ∈ aE a.al) → acQ a (w.foldl (goS a) i) = acQ a (w.foldl (goS a) j)
theorem aM0 {a:Aut} {i j l:Int} (h:Eqv a i j) (hl:l ∈ aE a.al):Eqv a (goS a i l) (goS a j l):=fun w hw => h (l :: w) fun x hx => by
 rcases List.mem_cons.1 hx with rfl | hx
 ·exact hl
 ·exact hw x hx
structure Cls (a:Aut) (cl:List Int):Prop where
 len:cl.length = a.nx.length
 rng:∀ q,q < a.nx.length → 0 ≤ cl.getD q 0 ∧ cl.getD q 0 < 12
 coarse:∀ i j:Nat,i < a.nx.length → j < a.nx.length → Eqv a i j → cl.getD i 0 = cl.getD j 0
 fine:∀ i j:Nat,i < a.nx.length → j < a.nx.length → cl.getD i 0 = cl.getD j 0 → acQ a i = acQ a j
theorem i8 (a:Aut) (cl:List Int):(sigs a cl).length = a.nx.length:=by unfold sigs; rw [List.length_map,List.length_range]
theorem rL {a:Aut} {cl:List Int} {q:Nat} (hq:q < (sigs a cl).length):(sigs a cl)[q] = sigA a cl q:=by
 have h:(sigs a cl)[q]? = some (sigA a cl q):=by
  have hq2:=hq
  rw [i8] at hq2
  show ((List.range a.nx.length).map (sigA a cl))[q]? = _
  rw [List.getElem?_map,List.getElem?_range hq2]; rfl
 rw [List.getElem?_eq_getElem hq] at h
 exact Option.some.inj h
theorem tW {a:Aut} (h:AOK a) {cl:List Int} {q:Nat} (hq:q < a.nx.length):(a.nx.getD q []).map (clA cl) = (aE a.al).map fun l => clA cl (goS a q l):=by
 have:=N9 h (v:=(q:Int)) (by omega) (by omega)
 unfold rowA at this
 rw [Int.toNat_natCast] at this
 rw [← this,List.map_map]
 rfl
theorem uQ {a:Aut} (h:AOK a) {q:Nat} (hq:q < a.nx.length) {l:Int} (hl:l ∈ aE a.al):∃ p:Nat,goS a q l = (p:Int) ∧ p < a.nx.length:=by
 have:=yJ h q l (by omega) (by omega) hl
 exact ⟨(goS a q l).toNat,by omega,by omega⟩
theorem ZL {a:Aut} {cl:List Int} {i j:Nat} (hi:i < a.nx.length) (hj:j < a.nx.length):(numL (sigs a cl)).getD i 0 = (numL (sigs a cl)).getD j 0 ↔ sigA a cl i = sigA a cl j:=by
 have hi':i < (sigs a cl).length:=by rw [i8]; exact hi
 have hj':j < (sigs a cl).length:=by rw [i8]; exact hj
 rw [NJ hi' hj',rL,rL]
theorem aGx {a:Aut} (h:AOK a) {cl:List Int} (hc:Cls a cl):Cls a (numL (sigs a cl)):=by
 obtain ⟨_,_,a1,a2,a3⟩:=bR h
 refine ⟨by rw [xK,i8],?_,?_,?_⟩
 ·intro q hq
  have h1:=aN0 (l:=sigs a cl) (i:=q) (by rw [i8]; exact hq)
  have h2:=GI (sigs a cl)
  rw [i8] at h2
  omega
 ·intro i j hi hj he
  rw [ZL hi hj]
  unfold sigA
  rw [hc.coarse i j hi hj he,tW h hi,tW h hj]
  congr 1
  apply List.map_congr_left
  intro l hl
  obtain ⟨p,e1,hp⟩:=uQ h hi hl
  obtain ⟨q,e2,hq⟩:=uQ h hj hl
  have:=aM0 he hl
  rw [e1,e2] at this ⊢
  exact hc.coarse p q hp hq this
 ·intro i j hi hj he
  rw [ZL hi hj] at he
  unfold sigA at he
  exact hc.fine i j hi hj (List.cons.inj he).1
theorem UV {a:Aut} {cl:List Int} (hc:Cls a cl):(sigs a cl).map (fun s => s.headD 0) = cl:=by
 apply List.ext_getElem
 ·rw [List.length_map,i8,hc.len]
 ·intro q h1 h2
  rw [List.getElem_map,rL]
  show cl.getD q 0 = _
  rw [List.getD_eq_getElem?_getD,List.getElem?_eq_getElem h2]; rfl
theorem aI7 {a:Aut} {cl:List Int} (hc:Cls a cl) (hs:(aZ (sigs a cl)).length = (aZ cl).length) {i j:Nat} (hi:i < a.nx.length) (hj:j < a.nx.length) (he:cl.getD i 0 = cl.getD j 0):sigA a cl i = sigA a cl j:=by
 have hi':i < (sigs a cl).length:=by rw [i8]; exact hi
 have hj':j < (sigs a cl).length:=by rw [i8]; exact hj
 rw [← rL hi',← rL hj']
 refine aJN (l:=sigs a cl) (f:=fun s => s.headD 0) (by rw [UV hc]; omega) (List.getElem_mem _) (List.getElem_mem _) ?_
 rw [rL,rL]
 exact he
theorem aBe {a:Aut} (h:AOK a) {cl:List Int} (hc:Cls a cl) (hs:∀ i j:Nat,i < a.nx.length → j < a.nx.length → cl.getD i 0 = cl.getD j 0 → sigA a cl i = sigA a cl j):∀ (w:List Int) (i j:Nat),i < a.nx.length → j < a.nx.length → cl.getD i 0 = cl.getD j 0 → (∀ l ∈ w,l ∈ aE a.al) → acQ a (w.foldl (goS a) i) = acQ a (w.foldl (goS a) j)
 | [],i,j,hi,hj,he,_ => hc.fine i j hi hj he
 | l :: w,i,j,hi,hj,he,hw => by
  have hl:=hw l List.mem_cons_self
  have hsg:=(List.cons.inj (hs i j hi hj he)).2
  rw [tW h hi,tW h hj] at hsg
  have:=List.map_inj_left.1 hsg l hl
  obtain ⟨p,e1,hp⟩:=uQ h hi hl
  obtain ⟨q,e2,hq⟩:=uQ h hj hl
  simp only [List.foldl_cons]
  rw [e1,e2] at this ⊢
  exact aBe h hc hs w p q hp hq this fun x hx => hw x (List.mem_cons_of_mem _ hx)
theorem aEv {α:Type} [DecidableEq α] (l:List α):aFc (numL l) l:=by
 refine ⟨xK l,fun i j hi hj hi' hj' => ?_⟩
 have:=NJ hi' hj'
 rw [List.getD_eq_getElem?_getD,List.getElem?_eq_getElem hi,List.getD_eq_getElem?_getD,List.getElem?_eq_getElem hj] at this
 exact this
def aIj (a:Aut) (r:List Int):Prop:=∃ l:List (List Int),r = numL l ∧ l.length = a.nx.length ∧ (∀ i,i < a.nx.length → 0 ≤ r.getD i 0 ∧ r.getD i 0 < 12) ∧ ∀ i j:Nat,i < a.nx.length → j < a.nx.length → (r.getD i 0 = r.getD j 0 ↔ Eqv a i j)
theorem aH6 {a:Aut} (h:AOK a):∀ (j:Nat) (cl:List Int) (c:Nat),Cls a cl → (c = 0 ∨ c = (aZ cl).length) → a.nx.length < j + c → c ≤ a.nx.length → aIj a (clsG a j cl c)
 | 0,cl,c,hc,h0,hj,hle => by omega
 | j + 1,cl,c,hc,h0,hj,hle => by
  obtain ⟨_,_,a1,a2,a3⟩:=bR h
  have hn:=aGx h hc
  have hpos:0 < (aZ (sigs a cl)).length:=by
   have:(sigs a cl)[0]'(by rw [i8]; omega) ∈ aZ (sigs a cl):=dM.2 (List.getElem_mem _)
   exact List.length_pos_of_mem this
  have hle2:=GI (sigs a cl)
  rw [i8] at hle2
  unfold clsG
  by_cases he:(aZ (sigs a cl)).length = c
  ·rw [if_pos he]
   have hcl:(aZ (sigs a cl)).length = (aZ cl).length:=by omega
   refine ⟨sigs a cl,rfl,i8 a cl,hn.rng,fun i k hi hk => ⟨fun e => ?_,fun e => hn.coarse i k hi hk e⟩⟩
   have e2:=(ZL hi hk).1 e
   have e3:cl.getD i 0 = cl.getD k 0:=(List.cons.inj e2).1
   exact fun w hw => aBe h hc (fun i j hi hj => aI7 hc hcl hi hj) w i k hi hk e3 hw
  ·rw [if_neg he]
   have hge:c ≤ (aZ (sigs a cl)).length:=by
    rcases h0 with h0 | h0
    ·omega
    ·have:=QD (sigs a cl) (fun s => s.headD 0)
     rw [UV hc] at this
     omega
   exact aH6 h j _ _ hn (.inr (PS (aEv (sigs a cl))).2.symm) (by omega) hle2
theorem Y0 {a:Aut} (h:AOK a):Cls a (cl0 a):=by
 obtain ⟨_,_,a1,a2,a3⟩:=bR h
 have hg:∀ i,i < a.nx.length → (cl0 a).getD i 0 = if acQ a i = true then 1 else 0:=by
  intro i hi
  unfold cl0 acQ
  rw [List.getD_eq_getElem?_getD,List.getElem?_map,List.getElem?_eq_getElem (by omega),Int.toNat_natCast,List.getD_eq_getElem?_getD,List.getElem?_eq_getElem (by omega)]
  rfl
 refine ⟨by unfold cl0; rw [List.length_map,a3],?_,?_,?_⟩
 ·intro q hq
  rw [hg q hq]
  split <;> omega
 ·intro i j hi hj he
  rw [hg i hi,hg j hj]
  have:acQ a i = acQ a j:=he [] (by simp)
  rw [this]
 ·intro i j hi hj he
  rw [hg i hi,hg j hj] at he
  cases h1:acQ a i <;> cases h2:acQ a j <;> simp_all
theorem PQ {a:Aut} (h:AOK a):aIj a (dC a):=aH6 h _ _ 0 (Y0 h) (.inl rfl) (by omega) (by omega)
theorem TT {a:Aut} (h:AOK a):(dC a).length = a.nx.length:=by
 obtain ⟨l,e,hl,_⟩:=PQ h
 rw [e,xK,hl]
theorem aJp {a b:Aut} (ha:AOK a) (hb:AOK b) (hl:a.nx.length = b.nx.length) (he:∀ i j:Nat,i < a.nx.length → j < a.nx.length → (Eqv a i j ↔ Eqv b i j)):dC a = dC b:=by
 obtain ⟨l,e1,l1,_,p1⟩:=PQ ha
 obtain ⟨m,e2,l2,_,p2⟩:=PQ hb
 rw [e1,e2] at *
 refine (PS ⟨by omega,fun i j hi hj hi' hj' => ?_⟩).1
 rw [← NJ hi hj,← NJ hi' hj']
 rw [p1 i j (by omega) (by omega),p2 i j (by omega) (by omega)]
 exact he i j (by omega) (by omega)
def keyT (cl:List Int) (r:List Int):Str:=(r.map fun t => 44 :: f7 (clA cl t)).flatten
def keyA (a:Aut) (cl:List Int) (q:Nat):Str:=f7 (cl.getD q 0) ++ keyT cl (a.nx.getD q [])
def keyX:List Int → Str
 | [] => []
 | x :: xs => f7 x ++ (xs.map fun t => 44 :: f7 t).flatten
theorem aGJ (a:Aut) (cl:List Int) (q:Nat):keyX (sigA a cl q) = keyA a cl q:=by
 unfold keyX sigA keyA keyT
 simp only [List.map_map]
 rfl
theorem GH {s r:Str} (hs:(44:UInt8) ∉ s) (hr:r = [] ∨ ∃ t,r = 44 :: t):(s ++ r).takeWhile (fun b => b != 44) = s:=by
 induction s with
 | nil =>
  rcases hr with rfl | ⟨t,rfl⟩
  ·rfl
  ·simp [List.takeWhile]
 | cons b s ih =>
  have hb:¬ b = 44:=fun e => hs (by rw [e]; exact List.mem_cons_self)
  have hs2:(44:UInt8) ∉ s:=fun hh => hs (List.mem_cons_of_mem _ hh)
  rw [List.cons_append,List.takeWhile_cons,ih hs2]
  simp [hb]
theorem aNQ:∀ (xs ys:List Int) (x y:Int),(0 ≤ x ∧ x < 12) → (0 ≤ y ∧ y < 12) → (∀ z ∈ xs,0 ≤ z ∧ z < 12) → (∀ z ∈ ys,0 ≤ z ∧ z < 12) → keyX (x :: xs) = keyX (y :: ys) → x = y ∧ xs = ys:=by
 have hd:∀ xs:List Int,(xs.map fun t => 44 :: f7 t).flatten = [] ∨ ∃ t,(xs.map fun t => 44 :: f7 t).flatten = 44 :: t:=by
  intro xs
  cases xs with
  | nil => exact .inl rfl
  | cons z zs => exact .inr ⟨_,rfl⟩
 intro xs
 induction xs with
 | nil =>
  intro ys x y hx hy _ hys e
  have h1:=GH (GJ hx.1 hx.2) (hd [])
  have h2:=GH (GJ hy.1 hy.2) (hd ys)
  simp only [keyX] at e
  rw [e,h2] at h1
  have hxy:=aFW hx.1 hx.2 hy.1 hy.2 h1.symm
  subst hxy
  have e2:=List.append_cancel_left e
  cases ys with
  | nil => exact ⟨rfl,rfl⟩
  | cons z zs => simp at e2
 | cons z zs ih =>
  intro ys x y hx hy hxs hys e
  have h1:=GH (GJ hx.1 hx.2) (hd (z :: zs))
  have h2:=GH (GJ hy.1 hy.2) (hd ys)
  simp only [keyX] at e
  rw [e,h2] at h1
  have hxy:=aFW hx.1 hx.2 hy.1 hy.2 h1.symm
  subst hxy
  have e2:=List.append_cancel_left e
  cases ys with
  | nil => simp at e2
  | cons u us =>
   simp only [List.map_cons,List.flatten_cons,List.cons_append,List.cons.injEq,true_and] at e2
   obtain ⟨g1,g2⟩:=ih us z u (hxs z List.mem_cons_self) (hys u List.mem_cons_self) (fun w hw => hxs w (List.mem_cons_of_mem _ hw)) (fun w hw => hys w (List.mem_cons_of_mem _ hw)) e2
   rw [g1,g2]
   exact ⟨rfl,rfl⟩
theorem aIs {a:Aut} (h:AOK a) {cl:List Int} (hc:Cls a cl) {q:Nat} (hq:q < a.nx.length):∀ z ∈ sigA a cl q,0 ≤ z ∧ z < 12:=by
 intro z hz
 unfold sigA at hz
 rcases List.mem_cons.1 hz with rfl | hz
 ·exact hc.rng q hq
 ·rw [tW h hq] at hz
  obtain ⟨l,hl,rfl⟩:=List.mem_map.1 hz
  obtain ⟨p,e1,hp⟩:=uQ h hq hl
  show 0 ≤ clA cl (goS a q l) ∧ _
  rw [e1]
  exact hc.rng p hp
def nN (a:Aut) (cl:List Int):List Str:=(List.range a.nx.length).map (keyA a cl)
theorem aGt (a:Aut) (cl:List Int):(nN a cl).length = a.nx.length:=by unfold nN; rw [List.length_map,List.length_range]
theorem aFB {a:Aut} {cl:List Int} {q:Nat} (hq:q < (nN a cl).length):(nN a cl)[q] = keyA a cl q:=by
 have h:(nN a cl)[q]? = some (keyA a cl q):=by
  have hq2:=hq
  rw [aGt] at hq2
  show ((List.range a.nx.length).map (keyA a cl))[q]? = _
  rw [List.getElem?_map,List.getElem?_range hq2]; rfl
 rw [List.getElem?_eq_getElem hq] at h
 exact Option.some.inj h
theorem aKL {a:Aut} (h:AOK a) {cl:List Int} (hc:Cls a cl):numL (nN a cl) = numL (sigs a cl) ∧ (aZ (nN a cl)).length = (aZ (sigs a cl)).length:=by
 refine PS ⟨by rw [aGt,i8],fun i j hi hj hi' hj' => ?_⟩
 rw [aFB,aFB,rL,rL,← aGJ,← aGJ]
 rw [i8] at hi' hj'
 constructor
 ·intro e
  have r1:=aIs h hc hi'
  have r2:=aIs h hc hj'
  unfold sigA at *
  obtain ⟨g1,g2⟩:=aNQ _ _ _ _ (r1 _ List.mem_cons_self) (r2 _ List.mem_cons_self) (fun z hz => r1 z (List.mem_cons_of_mem _ hz)) (fun z hz => r2 z (List.mem_cons_of_mem _ hz)) e
  rw [g1,g2]
 ·intro e; rw [e]
def quoG (a:Aut) (cl:List Int):Nat → Nat → List (List Int) → List Bool → List (List Int) × List Bool
 | 0,_,d,b => (d,b)
 | j + 1,q,d,b => if cl.getD q 0 < d.length then quoG a cl j (q + 1) d b else quoG a cl j (q + 1) (d ++ [(a.nx.getD q []).map (clA cl)]) (b ++ [acQ a q])
def quoA (a:Aut):Aut:=⟨a.al,(quoG a (dC a) a.nx.length 0 [] []).1,(quoG a (dC a) a.nx.length 0 [] []).2⟩
def minA (a:Aut):Aut:=eL (quoA a)
structure Quo (a:Aut) (l:List (List Int)) (cl:List Int) (q:Nat) (d:List (List Int)) (b:List Bool):Prop where
 len:d.length = (aZ (l.take q)).length
 blen:b.length = d.length
 low:∀ p,p < q → 0 ≤ cl.getD p 0 ∧ cl.getD p 0 < d.length
 row:∀ p,p < q → d.getD (cl.getD p 0).toNat [] = (a.nx.getD p []).map (clA cl)
 acc:∀ p,p < q → b.getD (cl.getD p 0).toNat false = acQ a p
 mem:∀ r ∈ d,∃ p,p < q ∧ r = (a.nx.getD p []).map (clA cl)
theorem aDR {α:Type} [DecidableEq α] {l:List α} {q:Nat} (hq:q < l.length):(numL l).getD q 0 = ((idxG (addG (aZ (l.take q)) l[q]) l[q]:Nat):Int):=by
 have e:l = (l.take q ++ [l[q]]) ++ l.drop (q + 1):=by simp
 have key:∀ (u v:List α) (i:Nat),i < u.length → (numL (u ++ v)).getD i 0 = (numL u).getD i 0:=by
  intro u v
  induction v generalizing u with
  | nil => intro i hi; rw [List.append_nil]
  | cons x v ih =>
   intro i hi
   have:u ++ x :: v = (u ++ [x]) ++ v:=by simp
   rw [this,ih (u ++ [x]) i (by simp; omega),xQ,List.getD_eq_getElem?_getD,List.getElem?_append_left (by rw [xK]; exact hi),List.getD_eq_getElem?_getD]
 have h1:=key (l.take q ++ [l[q]]) (l.drop (q + 1)) q (by simp; omega)
 rw [← e] at h1
 rw [h1,xQ,List.getD_eq_getElem?_getD,List.getElem?_append_right (by rw [xK,List.length_take]; omega)]
 have e2:q - (numL (l.take q)).length = 0:=by rw [xK,List.length_take]; omega
 rw [e2]; rfl
theorem aNp {a:Aut} {l:List (List Int)} {cl:List Int} (hcl:cl = numL l) (hl:l.length = a.nx.length) (hst:∀ i j:Nat,i < a.nx.length → j < a.nx.length → cl.getD i 0 = cl.getD j 0 → (a.nx.getD i []).map (clA cl) = (a.nx.getD j []).map (clA cl) ∧ acQ a i = acQ a j) {q:Nat} {d:List (List Int)} {b:List Bool} (hq:q < a.nx.length) (h:Quo a l cl q d b) :
  if cl.getD q 0 < d.length then Quo a l cl (q + 1) d b else Quo a l cl (q + 1) (d ++ [(a.nx.getD q []).map (clA cl)]) (b ++ [acQ a q]):=by
 have hv:=aDR (l:=l) (q:=q) (by omega)
 rw [← hcl] at hv
 have htk:l.take (q + 1) = l.take q ++ [l[q]'(by omega)]:=by rw [List.take_add_one,List.getElem?_eq_getElem (by omega)]; rfl
 have hsame:∀ p (hp:p < q),(cl.getD p 0 = cl.getD q 0 ↔ l[p]'(by omega) = l[q]'(by omega)):=by
  intro p hp
  rw [hcl]
  exact NJ (by omega) (by omega)
 by_cases hin:l[q]'(by omega) ∈ l.take q
 ·have hin2:=dM.2 hin
  rw [aCf hin2] at hv
  have hlt:=aIq hin2
  have hc:cl.getD q 0 < d.length:=by rw [hv,h.len]; omega
  rw [if_pos hc]
  obtain ⟨p,hp,e⟩:=List.getElem_of_mem hin
  rw [List.length_take] at hp
  rw [List.getElem_take] at e
  have hpq:p < q:=by omega
  have ec:=(hsame p hpq).2 e
  refine ⟨by rw [htk,mM,aCf hin2]; exact h.len,h.blen,?_,?_,?_,?_⟩
  ·intro r hr
   by_cases hr2:r = q
   ·subst hr2; exact ⟨by rw [hv]; omega,hc⟩
   ·exact h.low r (by omega)
  ·intro r hr
   by_cases hr2:r = q
   ·subst hr2
    rw [← ec,h.row p hpq]
    exact (hst p r (by omega) hq ec).1
   ·exact h.row r (by omega)
  ·intro r hr
   by_cases hr2:r = q
   ·subst hr2
    rw [← ec,h.acc p hpq]
    exact (hst p r (by omega) hq ec).2
   ·exact h.acc r (by omega)
  ·intro r hr
   obtain ⟨p,hp,e⟩:=h.mem r hr
   exact ⟨p,by omega,e⟩
 ·have hin2:l[q]'(by omega) ∉ aZ (l.take q):=fun hh => hin (dM.1 hh)
  have hnew:=aGf hin2
  rw [P9 hin2,hnew] at hv
  have hv2:cl.getD q 0 = d.length:=by rw [hv,h.len]
  have hc:¬ cl.getD q 0 < d.length:=by omega
  rw [if_neg hc]
  refine ⟨by rw [htk,mM,P9 hin2,List.length_append,List.length_append,h.len]; rfl,by rw [List.length_append,List.length_append,h.blen]; rfl,?_,?_,?_,?_⟩
  ·intro r hr
   rw [List.length_append]
   by_cases hr2:r = q
   ·subst hr2
    simp only [List.length_cons,List.length_nil]
    omega
   ·have:=h.low r (by omega)
    omega
  ·intro r hr
   by_cases hr2:r = q
   ·subst hr2
    rw [hv2,Int.toNat_natCast,List.getD_eq_getElem?_getD]
    simp
   ·have:=h.low r (by omega)
    rw [List.getD_eq_getElem?_getD,List.getElem?_append_left (by omega),← List.getD_eq_getElem?_getD]
    exact h.row r (by omega)
  ·intro r hr
   by_cases hr2:r = q
   ·subst hr2
    rw [hv2,Int.toNat_natCast,← h.blen,List.getD_eq_getElem?_getD]
    simp
   ·have:=h.low r (by omega)
    have hb:=h.blen
    rw [List.getD_eq_getElem?_getD,List.getElem?_append_left (by omega),← List.getD_eq_getElem?_getD]
    exact h.acc r (by omega)
  ·intro r hr
   rcases List.mem_append.1 hr with hr | hr
   ·obtain ⟨p,hp,e⟩:=h.mem r hr
    exact ⟨p,by omega,e⟩
   ·simp only [List.mem_singleton] at hr
    exact ⟨q,by omega,hr⟩
theorem aCT {a:Aut} {l:List (List Int)} {cl:List Int} (hcl:cl = numL l) (hl:l.length = a.nx.length) (hst:∀ i j:Nat,i < a.nx.length → j < a.nx.length → cl.getD i 0 = cl.getD j 0 → (a.nx.getD i []).map (clA cl) = (a.nx.getD j []).map (clA cl) ∧ acQ a i = acQ a j):∀ (j q:Nat) (d:List (List Int)) (b:List Bool),q + j = a.nx.length → Quo a l cl q d b → Quo a l cl a.nx.length (quoG a cl j q d b).1 (quoG a cl j q d b).2
 | 0,q,d,b,hj,h => by
  obtain rfl:q = a.nx.length:=by omega
  exact h
 | j + 1,q,d,b,hj,h => by
  have hs:=aNp hcl hl hst (by omega) h
  unfold quoG
  by_cases hc:cl.getD q 0 < d.length
  ·rw [if_pos hc] at hs ⊢
   exact aCT hcl hl hst j (q + 1) _ _ (by omega) hs
  ·rw [if_neg hc] at hs ⊢
   exact aCT hcl hl hst j (q + 1) _ _ (by omega) hs
structure QuoOK (a:Aut):Prop where
 ok:AOK (quoA a)
 zero:(dC a).getD 0 0 = 0
 low:∀ q:Nat,q < a.nx.length → 0 ≤ (dC a).getD q 0 ∧ (dC a).getD q 0 < (quoA a).nx.length
 go:∀ q:Nat,q < a.nx.length → ∀ l ∈ aE a.al,goS (quoA a) ((dC a).getD q 0) l = clA (dC a) (goS a q l)
 acc:∀ q:Nat,q < a.nx.length → acQ (quoA a) ((dC a).getD q 0) = acQ a q
theorem tM {a:Aut} (h:AOK a):QuoOK a:=by
 obtain ⟨l,e,hl,hrng,hp⟩:=PQ h
 obtain ⟨a1,a2,a3,ha⟩:=mT h
 have hst:∀ i j:Nat,i < a.nx.length → j < a.nx.length → (dC a).getD i 0 = (dC a).getD j 0 → (a.nx.getD i []).map (clA (dC a)) = (a.nx.getD j []).map (clA (dC a)) ∧ acQ a i = acQ a j:=by
  intro i j hi hj he
  have hq:=(hp i j hi hj).1 he
  refine ⟨?_,hq [] (by simp)⟩
  rw [tW h hi,tW h hj]
  apply List.map_congr_left
  intro m hm
  obtain ⟨p,e1,hp1⟩:=uQ h hi hm
  obtain ⟨r,e2,hr1⟩:=uQ h hj hm
  have:=aM0 hq hm
  rw [e1,e2] at this ⊢
  exact (hp p r hp1 hr1).2 this
 have hQ:=aCT e hl hst a.nx.length 0 [] [] (by omega) ⟨by simp [aZ],rfl,fun p hp => by omega,fun p hp => by omega,fun p hp => by omega,fun r hr => by cases hr⟩
 have hfl:=GI (l.take a.nx.length)
 rw [List.length_take] at hfl
 have hlen:=hQ.len
 have hlow0:=hQ.low 0 (by omega)
 have hok:AOK (quoA a):=by
  refine ZU ha (by show 1 ≤ (quoG a (dC a) a.nx.length 0 [] []).1.length; omega) (by show (quoG a (dC a) a.nx.length 0 [] []).1.length ≤ 12; omega) hQ.blen ?_
  intro r hr
  obtain ⟨p,hp1,rfl⟩:=hQ.mem r hr
  rw [tW h hp1]
  refine ⟨List.length_map _,?_⟩
  intro x hx
  obtain ⟨m,hm,rfl⟩:=List.mem_map.1 hx
  obtain ⟨r,e1,hr1⟩:=uQ h hp1 hm
  rw [e1]
  exact hQ.low r hr1
 refine ⟨hok,?_,hQ.low,?_,hQ.acc⟩
 ·rw [e]
  have:=aDR (l:=l) (q:=0) (by omega)
  rw [this]
  simp [aZ,addG,idxG]
 ·intro q hq m hm
  obtain ⟨⟨m0,m1⟩,hb⟩:=gR.1 hm
  obtain ⟨p1,p2⟩:=qO m0 m1 hb
  unfold goS
  rw [CK (show d9 (quoA a).al m = true from hb),CK hb]
  have hr:=hQ.row q hq
  show ((quoG a (dC a) a.nx.length 0 [] []).1.getD ((dC a).getD q 0).toNat []).getD (jM a.al m) 0 = _
  rw [hr,Int.toNat_natCast]
  have hw:=(x4 h (i:=q) hq).1
  rw [List.getD_eq_getElem?_getD,List.getElem?_map,List.getElem?_eq_getElem (by omega),List.getD_eq_getElem?_getD (l:=a.nx.getD q []),List.getElem?_eq_getElem (by omega)]
  rfl
theorem HA {a:Aut} (h:AOK a):∀ (w:List Int) (q:Nat),q < a.nx.length → (∀ l ∈ w,l ∈ aE a.al) → ∃ p:Nat,p < a.nx.length ∧ w.foldl (goS a) q = p ∧ w.foldl (goS (quoA a)) ((dC a).getD q 0) = (dC a).getD p 0
 | [],q,hq,_ => ⟨q,hq,rfl,rfl⟩
 | l :: w,q,hq,hw => by
  have hl:=hw l List.mem_cons_self
  obtain ⟨p,e,hp⟩:=uQ h hq hl
  obtain ⟨r,hr,e1,e2⟩:=HA h w p hp fun x hx => hw x (List.mem_cons_of_mem _ hx)
  refine ⟨r,hr,by simp only [List.foldl_cons]; rw [e,e1],?_⟩
  simp only [List.foldl_cons]
  rw [(tM h).go q hq l hl,e]
  exact e2
def accW (a:Aut) (w:List Int):Bool:=acQ a (w.foldl (goS a) 0)
theorem aQA {a:Aut} (h:AOK a) {w:List Int} (hw:∀ l ∈ w,l ∈ aE a.al):accW (quoA a) w = accW a w:=by
 obtain ⟨_,_,a1,_,_⟩:=bR h
 obtain ⟨p,hp,e1,e2⟩:=HA h w 0 (by omega) hw
 rw [(tM h).zero] at e2
 unfold accW
 have e3:w.foldl (goS a) 0 = (p:Int):=e1
 rw [e2,e3]
 exact (tM h).acc p hp
theorem aNx {a:Aut} (h:AOK a) {w:List Int} (hw:∀ l ∈ w,l ∈ aE a.al):accW (eL a) w = accW a w:=by
 obtain ⟨W,hB⟩:=C3 h
 obtain ⟨h1,h2⟩:=aG2 h hB w 0 hB.pos hw
 rw [hB.o0] at h1 h2
 have h3:w.foldl (goS (eL a)) 0 = idxU (ordA a) (w.foldl (goS a) 0):=h2
 unfold accW
 rw [h3]
 obtain ⟨e,hp⟩:=G4 h1
 unfold acQ idxU eL
 simp only
 rw [Int.toNat_natCast,List.getD_eq_getElem?_getD,List.getElem?_map,List.getElem?_eq_getElem hp]
 show a.ac.getD ((ordA a)[List.idxOf (List.foldl (goS a) 0 w) (ordA a)]).toNat false = _
 rw [List.getElem_idxOf]
theorem aGU {a:Aut} (h:AOK a):AOK (minA a):=aNy (tM h).ok
theorem aH3 {a:Aut} (h:AOK a) {w:List Int} (hw:∀ l ∈ w,l ∈ aE a.al):accW (minA a) w = accW a w:=by
 unfold minA
 rw [aNx (tM h).ok hw,aQA h hw]
theorem aEm {a:Aut} (h:AOK a) (v:Int):v ∈ ordA a ↔ ∃ w:List Int,(∀ l ∈ w,l ∈ aE a.al) ∧ w.foldl (goS a) 0 = v:=by
 obtain ⟨W,hB⟩:=C3 h
 constructor
 ·intro hv
  obtain ⟨e,hp⟩:=G4 hv
  exact ⟨W _,hB.lts _ hp,by rw [hB.run _ hp,e]⟩
 ·rintro ⟨w,hw,rfl⟩
  obtain ⟨q,hq,e,_⟩:=hB.least w.length w rfl hw
  rw [← e]
  exact r6 hq
theorem aIi (a:Aut):(minA a).nx.length = (ordA (quoA a)).length:=List.length_map _
theorem aQt {cl r:List Int} {k:Nat} (h:k < r.length):keyT cl (r.drop k) = 44 :: f7 (clA cl (r.getD k 0)) ++ keyT cl (r.drop (k + 1)):=by
 rw [nB h (d:=0)]; rfl
theorem aHW (a:Aut) (cl:List Int) (q:Nat):(List.range (q + 1)).map (keyA a cl) = (List.range q).map (keyA a cl) ++ [keyA a cl q]:=by
 rw [List.range_succ,List.map_append]; rfl
def cntG (a:Aut):Nat → List Int → Nat → Nat
 | 0,_,c => c
 | j + 1,cl,c => if (aZ (sigs a cl)).length = c then c else cntG a j (numL (sigs a cl)) (aZ (sigs a cl)).length
theorem aNv {a:O} {h:H} {g e k:Nat} {l:List Int} {v:Int} (hk:k < l.length):mP env.P (a :: .arr (ints l) e g :: h) 3 (.ptr 1 g k) (.d (.int .i64 v)) = some (a :: .arr (ints (l.set k v)) e g :: h):=by
 rw [uL (id:=1) rfl dY aJD rfl (by rw [dQ]; exact hk),JK hk]; rfl
theorem aHd {a b c:O} {h:H} {g e k:Nat} {l:List Int} {v:Int} (hk:k < l.length):mP env.P (a :: b :: c :: .arr (ints l) e g :: h) 3 (.ptr 3 g k) (.d (.int .i64 v)) = some (a :: b :: c :: .arr (ints (l.set k v)) e g :: h):=by
 rw [uL (id:=3) rfl dY aJD rfl (by rw [dQ]; exact hk),JK hk]; rfl
theorem oU {R:Type} {L n:Nat} (hn:1 ≤ n) (hL:2 ^ 60 ≤ L) {a:Aut} (ha:AOK a) {k:Exit → List A → H → Option R}:∀ (j i m:Nat) (c:List Int) (hi:i + j = a.nx.length) (hm:j < m) (hc:c = (cl0 a).take i ++ List.replicate (a.nx.length - i) 0),
  aU env (aA env L n) L 0 [] (Z1 (U2 (U1 (Z1 (U4 (Z1 (U1 (Z8 (Z1 (U2 (Z16 (U2 (U1 (Z8 (Z1 (U2 (U1 (Z32 (Z4 (Z2 ([]))))))))))))))))))))) (dJ 0) (U1 (Z2 (Z1 (U16 (Z2 (U32 (U32 (U4 (U1 ([])))))))))) m (Y1 (.ptr 0 0 0 :: .d .nils :: .sl 1 0 0 a.nx.length :: Y16 (.d (.int .i64 ((a.nx.length:Int))) :: .d (.int .i64 ((i:Int))) :: Y32 (Y32 (Y4 (Y1 ([]))))))) [.box [.d (.int .i64 a.al),.d (.ivs a.nx.length (aC a.nx)),.d (.ivs a.ac.length (aB a.ac))],.arr (ints c) 1 0] k
  = k (.exit 0) (Y1 (.ptr 0 0 0 :: .d .nils :: .sl 1 0 0 a.nx.length :: Y16 (.d (.int .i64 ((a.nx.length:Int))) :: .d (.int .i64 ((a.nx.length:Int))) :: Y32 (Y32 (Y4 (Y1 ([]))))))) [.box [.d (.int .i64 a.al),.d (.ivs a.nx.length (aC a.nx)),.d (.ivs a.ac.length (aB a.ac))],.arr (ints (cl0 a)) 1 0]:=by
 obtain ⟨sa,wa,a1,a2,a3⟩:=bR ha
 have hal:=sa.1
 have hcl:(cl0 a).length = a.nx.length:=(Y0 ha).len
 intro j
 induction j with
 | zero =>
  intro i m c hi hm hc
  obtain _ | m:=m; omega
  obtain rfl:i = a.nx.length:=by omega
  have e:c = cl0 a:=by rw [hc,List.take_of_length_le (by omega),Nat.sub_self]; simp
  subst e
  rw [t6]
  simp only [sY,Tryd.f29,SLM,simprocAttr]
  simp -implicitDefEqProofs (maxSteps:=2000000) (disch:=try exact Dz) only [↓DN,↓kAsg,↓kRet,UP,simprocAttr,↓gP,LA,Int.lt_irrefl]
 | succ j ih =>
  intro i m c hi hm hc
  obtain _ | m:=m; omega
  have hlt:(i:Int) < a.nx.length:=by omega
  have hi0:(0:Int) ≤ i:=by omega
  have hia:(i:Int) < a.ac.length:=by omega
  have hlen:c.length = a.nx.length:=by rw [hc,List.length_append,List.length_take,List.length_replicate]; omega
  have hk:i < c.length:=by omega
  have hik:(i:Int) < c.length:=by omega
  have hg:(cl0 a)[i]'(by omega) = if a.ac.getD i false = true then 1 else 0:=by
   unfold cl0
   rw [List.getElem_map,List.getD_eq_getElem?_getD,List.getElem?_eq_getElem (by omega)]; rfl
  have hrep:List.replicate (a.nx.length - i) (0:Int) = 0 :: List.replicate (a.nx.length - (i + 1)) 0:=by
   rw [show a.nx.length - i = (a.nx.length - (i + 1)) + 1 by omega,List.replicate_succ]
  have htk:(cl0 a).take (i + 1) = (cl0 a).take i ++ [(cl0 a)[i]'(by omega)]:=by
   rw [List.take_add_one,List.getElem?_eq_getElem (by omega)]; rfl
  cases hb:a.ac.getD i false with
  | true =>
   have ih':=ih (i + 1) m (c.set i 1) (by omega) (by omega) (by
    rw [htk,hg,hb,hc,hrep,List.set_append_right _ _ (by rw [List.length_take]; omega)]
    rw [show i - ((cl0 a).take i).length = 0 by rw [List.length_take]; omega]
    simp)
   rw [show ((i + 1:Nat):Int) = (i:Int) + 1 by omega] at ih'
   clear ih hc hg hrep htk
   rw [t6]
   simp only [sY,Tryd.f29,SLM,simprocAttr]
   simp -implicitDefEqProofs (maxSteps:=2000000) (disch:=try exact Dz) only [↓DN,↓kAsg,↓kRet,UP,simprocAttr,↓gP,LA,hlt,hi0,hia,hb,hik,dL,dY,hlen,↓aNv,Int.toNat_natCast,↓ih']
  | false =>
   have ih':=ih (i + 1) m c (by omega) (by omega) (by
    rw [htk,hg,hb,hc,hrep]; simp)
   rw [show ((i + 1:Nat):Int) = (i:Int) + 1 by omega] at ih'
   clear ih hc hg hrep htk
   rw [t6]
   simp only [sY,Tryd.f29,SLM,simprocAttr]
   simp -implicitDefEqProofs (maxSteps:=2000000) (disch:=try exact Dz) only [↓DN,↓kAsg,↓kRet,UP,simprocAttr,↓gP,LA,hlt,hi0,hia,hb,hik,Int.toNat_natCast,↓ih']
theorem DZ {R:Type} {L n:Nat} (hn:5 ≤ n) (hL:2 ^ 60 ≤ L) {a:Aut} {cl:List Int} (hcl:cl.length = a.nx.length) (hrng:∀ q,q < a.nx.length → 0 ≤ cl.getD q 0 ∧ cl.getD q 0 < 12) (hal:a.nx.length ≤ 12) {r:List Int} (hr6:r.length ≤ 6) (hr:∀ x ∈ r,0 ≤ x ∧ x < a.nx.length) {o:List (D × D)} {nl:List D} {q n20 n21 c:Int} {k:Exit → List A → H → Option R}:∀ (j p m:Nat) (s:Str) (hp:p + j = r.length) (hm:j < m) (hs:s.length + 3 * j ≤ 1000),
  aU env (aA env L n) L 0 [] (Z1 (U2 (U1 (Z1 (U4 (Z1 (U1 (Z8 (Z1 (U2 (Z16 (U2 (U1 (Z8 (Z1 (U2 (U1 (Z32 (Z4 (Z2 ([]))))))))))))))))))))) (dJ 3) (U1 (Z2 (Z1 (U1 (Z4 (U1 (Z1 (U8 (U1 (Z2 (U16 (Z2 (Z1 (U8 (U1 (Z2 (Z1 (U32 (U4 (U2 ([]))))))))))))))))))))) m (Y1 (.ptr 0 0 0 :: .d .nils :: .sl 1 0 0 a.nx.length :: Y1 (.d (.int .i64 c) :: .mp 2 :: .sl 3 0 0 a.nx.length :: .d (.int .i64 q) :: Y1 (.d (.str s) :: Y8 (Y1 (.d (.int .i64 n20) :: .d (.int .i64 n21) :: Y16 (.d (.ivs a.nx.length (aC a.nx)) :: .d (.int .i64 ((a.nx.length:Int))) :: .d (.int .i64 q) :: Y8 (Y1 (.d (.ivs r.length (ints r)) :: .d (.int .i64 ((r.length:Int))) :: .d (.int .i64 ((p:Int))) :: Y32 (Y4 (Y2 ([])))))))))))) [.box [.d (.int .i64 a.al),.d (.ivs a.nx.length (aC a.nx)),.d (.ivs a.ac.length (aB a.ac))],.arr (ints cl) 1 0,.mp o,.arr nl 1 0] k
  = k (.exit 6) (Y1 (.ptr 0 0 0 :: .d .nils :: .sl 1 0 0 a.nx.length :: Y1 (.d (.int .i64 c) :: .mp 2 :: .sl 3 0 0 a.nx.length :: .d (.int .i64 q) :: Y1 (.d (.str ((s ++ keyT cl (r.drop p)))) :: Y8 (Y1 (.d (.int .i64 n20) :: .d (.int .i64 n21) :: Y16 (.d (.ivs a.nx.length (aC a.nx)) :: .d (.int .i64 ((a.nx.length:Int))) :: .d (.int .i64 q) :: Y8 (Y1 (.d (.ivs r.length (ints r)) :: .d (.int .i64 ((r.length:Int))) :: .d (.int .i64 ((r.length:Int))) :: Y32 (Y4 (Y2 ([])))))))))))) [.box [.d (.int .i64 a.al),.d (.ivs a.nx.length (aC a.nx)),.d (.ivs a.ac.length (aB a.ac))],.arr (ints cl) 1 0,.mp o,.arr nl 1 0]:=by
 intro j
 induction j with
 | zero =>
  intro p m s hp hm hs
  obtain _ | m:=m; omega
  obtain rfl:p = r.length:=by omega
  have e:s ++ keyT cl (r.drop r.length) = s:=by rw [List.drop_length]; simp [keyT]
  rw [e]
  rw [DP]
  simp only [zE,Tryd.f29,SLM,simprocAttr]
  simp -implicitDefEqProofs (maxSteps:=2000000) (disch:=try exact Dz) only [↓DN,↓kAsg,↓kRet,UP,simprocAttr,↓gP,↓oU,LA,Int.lt_irrefl]
 | succ j ih =>
  intro p m s hp hm hs
  obtain _ | m:=m; omega
  have hk:p < r.length:=by omega
  have hlt:(p:Int) < r.length:=by omega
  have hp0:(0:Int) ≤ p:=by omega
  obtain ⟨x0,x1⟩:=hr _ (r6 hk)
  obtain ⟨c0,c1⟩:=hrng (r.getD p 0).toNat (by omega)
  have x2:r.getD p 0 < cl.length:=by omega
  have kc_i:=fun {R:Type} {n:Nat} {hq:H} {k:A → H → Option R} (hn:4 ≤ n) => @gP R L n hq k hn (cl.getD (r.getD p 0).toNat 0) c0 c1
  have hil:=aFw (cl.getD (r.getD p 0).toNat 0)
  rw [aQt hk]
  have ih':=ih (p + 1) m (s ++ 44 :: f7 (cl.getD (r.getD p 0).toNat 0)) (by omega) (by omega) (by rw [List.length_append,List.length_cons]; omega)
  rw [show ((p + 1:Nat):Int) = (p:Int) + 1 by omega] at ih'
  unfold clA
  rw [List.append_assoc] at ih'
  clear ih hr hrng
  generalize keyT cl (r.drop (p + 1)) = w at *
  generalize hx:r.getD p 0 = x at *
  generalize hci:cl.getD x.toNat 0 = ci at *
  generalize f7 ci = t at *
  have hb1:([44]:Str).length + t.length ≤ bW:=by unfold bW; simp; omega
  have hb2:s.length + ([44] ++ t:Str).length ≤ bW:=by unfold bW; simp; omega
  have hb3:s.length + (t.length + 1) ≤ bW:=by unfold bW; omega
  rw [DP]
  simp only [zE,Tryd.f29,SLM,simprocAttr]
  simp -implicitDefEqProofs (maxSteps:=2000000) (disch:=try exact Dz) only [↓DN,↓kAsg,↓kRet,UP,simprocAttr,↓oU,LA,hlt,hp0,hx,x0,x2,hci,hcl,x1,dL,dY,↓kc_i,hb1,hb2,hb3,Int.toNat_natCast,List.cons_append,List.nil_append,List.length_cons,↓ih']
theorem TG {R:Type} {L n:Nat} (hn:5 ≤ n) (hL:2 ^ 60 ≤ L) {a:Aut} (ha:AOK a) {cl:List Int} (hC:Cls a cl) {n20 n21 c:Int} {k:Exit → List A → H → Option R}:∀ (j q m:Nat) (o:List Str) (nl:List Int) (hq:q + j = a.nx.length) (hm:j < m) (ho:o = aZ ((List.range q).map (keyA a cl))) (hnl:nl = numL ((List.range q).map (keyA a cl)) ++ List.replicate (a.nx.length - q) 0),
  aU env (aA env L n) L 0 [] (Z1 (U2 (U1 (Z1 (U4 (Z1 (U1 (Z8 (Z1 (U2 (Z16 (U2 (U1 (Z8 (Z1 (U2 (U1 (Z32 (Z4 (Z2 ([]))))))))))))))))))))) (dJ 2) (U1 (Z2 (Z1 (U1 (Z2 (Z1 (U8 (U4 (Z2 (U16 (Z2 (Z1 (U32 (U16 (U2 ([])))))))))))))))) m (Y1 (.ptr 0 0 0 :: .d .nils :: .sl 1 0 0 a.nx.length :: Y1 (.d (.int .i64 c) :: .mp 2 :: .sl 3 0 0 a.nx.length :: Y8 (Y4 (.d (.int .i64 n20) :: .d (.int .i64 n21) :: Y16 (.d (.ivs a.nx.length (aC a.nx)) :: .d (.int .i64 ((a.nx.length:Int))) :: .d (.int .i64 ((q:Int))) :: Y32 (Y16 (Y2 ([]))))))))) [.box [.d (.int .i64 a.al),.d (.ivs a.nx.length (aC a.nx)),.d (.ivs a.ac.length (aB a.ac))],.arr (ints cl) 1 0,.mp (numS o),.arr (ints nl) 1 0] k
  = k (.exit 4) (Y1 (.ptr 0 0 0 :: .d .nils :: .sl 1 0 0 a.nx.length :: Y1 (.d (.int .i64 c) :: .mp 2 :: .sl 3 0 0 a.nx.length :: Y8 (Y4 (.d (.int .i64 n20) :: .d (.int .i64 n21) :: Y16 (.d (.ivs a.nx.length (aC a.nx)) :: .d (.int .i64 ((a.nx.length:Int))) :: .d (.int .i64 ((a.nx.length:Int))) :: Y32 (Y16 (Y2 ([]))))))))) [.box [.d (.int .i64 a.al),.d (.ivs a.nx.length (aC a.nx)),.d (.ivs a.ac.length (aB a.ac))],.arr (ints cl) 1 0,.mp (numS (aZ (nN a cl))),.arr (ints (numL (nN a cl))) 1 0]:=by
 obtain ⟨sa,wa,a1,a2,a3⟩:=bR ha
 have hal:=sa.1
 intro j
 induction j with
 | zero =>
  intro q m o nl hq hm ho hnl
  obtain _ | m:=m; omega
  obtain rfl:q = a.nx.length:=by omega
  have e1:o = aZ (nN a cl):=ho
  have e2:nl = numL (nN a cl):=by rw [hnl,Nat.sub_self]; simp [nN]
  subst e1; subst e2
  rw [tX]
  simp only [sW,Tryd.f29,SLM,simprocAttr]
  simp -implicitDefEqProofs (maxSteps:=2000000) (disch:=try exact Dz) only [↓DN,↓kAsg,↓kRet,UP,simprocAttr,↓gP,↓oU,↓DZ,LA,Int.lt_irrefl]
 | succ j ih =>
  intro q m o nl hq hm ho hnl
  obtain _ | m:=m; omega
  have hlt:(q:Int) < a.nx.length:=by omega
  have hq0:(0:Int) ≤ q:=by omega
  have hql:(q:Int) < cl.length:=by rw [hC.len]; omega
  obtain ⟨c0,c1⟩:=hC.rng q (by omega)
  have hrow:=(x4 ha (i:=q) (by omega)).1
  have hll:=eP a.al
  have hrr:∀ x ∈ a.nx.getD q [],0 ≤ x ∧ x < a.nx.length:=by
   intro x hx
   have hm2:=N9 ha (v:=(q:Int)) (by omega) (by omega)
   unfold rowA at hm2
   rw [Int.toNat_natCast] at hm2
   rw [← hm2] at hx
   obtain ⟨l,hl,rfl⟩:=List.mem_map.1 hx
   exact yJ ha q l (by omega) (by omega) hl
  have hil:=aFw (cl.getD q 0)
  have kc_i:=fun {R:Type} {n:Nat} {hq:H} {k:A → H → Option R} (hn:4 ≤ n) => @gP R L n hq k hn (cl.getD q 0) c0 c1
  have loop_c:=fun {R:Type} {n:Nat} {o:List (D × D)} {nl:List D} {q':Int} {k:Exit → List A → H → Option R} (hn:5 ≤ n) => @DZ R L n hn hL a cl hC.len hC.rng a2 (a.nx.getD q []) (by omega) hrr o nl q' n20 n21 c k (a.nx.getD q []).length 0 L (f7 (cl.getD q 0)) (by omega) (by omega) (by omega)
  rw [List.drop_zero] at loop_c
  have ek:f7 (cl.getD q 0) ++ keyT cl (a.nx.getD q []) = keyA a cl q:=rfl
  rw [ek] at loop_c
  simp only [Int.natCast_zero] at loop_c
  have hpk:=aHW a cl q
  have hnll:(numL ((List.range q).map (keyA a cl))).length = q:=by rw [xK,List.length_map,List.length_range]
  have hrep:List.replicate (a.nx.length - q) (0:Int) = 0 :: List.replicate (a.nx.length - (q + 1)) 0:=by
   rw [show a.nx.length - q = (a.nx.length - (q + 1)) + 1 by omega,List.replicate_succ]
  have hset:∀ v:Int,nl.set q v = numL ((List.range q).map (keyA a cl)) ++ v :: List.replicate (a.nx.length - (q + 1)) 0:=by
   intro v
   rw [hnl,hrep,List.set_append_right _ _ (by omega),hnll,Nat.sub_self,List.set_cons_zero]
  have hnlen:nl.length = a.nx.length:=by rw [hnl,List.length_append,hnll,List.length_replicate]; omega
  have hqn:q < nl.length:=by omega
  have hqn2:(q:Int) < nl.length:=by omega
  by_cases hin:keyA a cl q ∈ o
  ·have hadd:addG o (keyA a cl q) = o:=aCf hin
   have ih':=ih (q + 1) m o (nl.set q (idxG o (keyA a cl q):Nat)) (by omega) (by omega) (by rw [hpk,mM,← ho,hadd]) (by rw [hset,hpk,xQ,← ho,hadd]; simp)
   rw [show ((q + 1:Nat):Int) = (q:Int) + 1 by omega] at ih'
   clear ih hset hnl ho hpk hnll hrep hrr hC ek hadd
   generalize hci:cl.getD q 0 = ci at *
   generalize hrw:a.nx.getD q [] = rw0 at *
   have hrw2:rw0.length ≤ 6:=by omega
   generalize keyA a cl q = key at *
   rw [tX]
   simp only [sW,Tryd.f29,SLM,simprocAttr]
   simp -implicitDefEqProofs (maxSteps:=2000000) (disch:=try exact Dz) only [↓DN,↓kAsg,↓kRet,UP,simprocAttr,LA,hlt,hq0,hql,hci,hrw,hqn,hqn2,hnlen,Int.toNat_natCast,dL,dY,dZ,eN,↓kc_i,↓loop_c,aDN,hin,decide_true,if_true,↓aHd,↓ih']
  ·have hadd:addG o (keyA a cl q) = o ++ [keyA a cl q]:=P9 hin
   have hidx2:=aGf hin
   have ih':=ih (q + 1) m (o ++ [keyA a cl q]) (nl.set q (o.length:Nat)) (by omega) (by omega) (by rw [hpk,mM,← ho,hadd]) (by rw [hset,hpk,xQ,← ho,hadd,hidx2]; simp)
   rw [show ((q + 1:Nat):Int) = (q:Int) + 1 by omega] at ih'
   clear ih hset hnl ho hpk hnll hrep hrr hC ek hadd hidx2
   generalize hci:cl.getD q 0 = ci at *
   generalize hrw:a.nx.getD q [] = rw0 at *
   have hrw2:rw0.length ≤ 6:=by omega
   generalize keyA a cl q = key at *
   rw [tX]
   simp only [sW,Tryd.f29,SLM,simprocAttr]
   simp -implicitDefEqProofs (maxSteps:=2000000) (disch:=try exact Dz) only [↓DN,↓kAsg,↓kRet,UP,simprocAttr,LA,hlt,hq0,hql,hci,hrw,hqn,hqn2,hnlen,Int.toNat_natCast,dL,dY,dZ,eN,↓kc_i,↓loop_c,aDN,aN1,ZA,hin,decide_false,if_false,↓aHd,↓ih']
theorem S6 {R:Type} {L n:Nat} (hn:5 ≤ n) (hL:2 ^ 60 ≤ L) {a:Aut} (ha:AOK a) {n20 n21:Int} {k:Exit → List A → H → Option R}:∀ (j m:Nat) (cl:List Int) (c:Nat) (hC:Cls a cl) (h0:c = 0 ∨ c = (aZ cl).length) (hj:a.nx.length < j + c) (hle:c ≤ a.nx.length) (hm:j < m),
  aU env (aA env L n) L 0 [] (Z1 (U2 (U1 (Z1 (U4 (Z1 (U1 (Z8 (Z1 (U2 (Z16 (U2 (U1 (Z8 (Z1 (U2 (U1 (Z32 (Z4 (Z2 ([]))))))))))))))))))))) (dJ 1) (U1 (Z2 (Z1 (U1 (Z1 (U8 (U4 (U2 (Z2 (U32 (U32 (U4 (U1 ([])))))))))))))) m (Y1 (.ptr 0 0 0 :: .d .nils :: .sl 1 0 0 a.nx.length :: Y1 (.d (.int .i64 ((c:Int))) :: Y8 (Y4 (Y2 (.d (.int .i64 n20) :: .d (.int .i64 n21) :: Y32 (Y32 (Y4 (Y1 ([])))))))))) [.box [.d (.int .i64 a.al),.d (.ivs a.nx.length (aC a.nx)),.d (.ivs a.ac.length (aB a.ac))],.arr (ints cl) 1 0] k
  = k .ret (Y1 (.ptr 0 0 0 :: .sl 1 0 0 a.nx.length :: .sl 1 0 0 a.nx.length :: Y1 (.d (.int .i64 ((cntG a j cl c:Int))) :: Y8 (Y4 (Y2 (.d (.int .i64 n20) :: .d (.int .i64 n21) :: Y32 (Y32 (Y4 (Y1 ([])))))))))) [.box [.d (.int .i64 a.al),.d (.ivs a.nx.length (aC a.nx)),.d (.ivs a.ac.length (aB a.ac))],.arr (ints (clsG a j cl c)) 1 0]:=by
 obtain ⟨sa,wa,a1,a2,a3⟩:=bR ha
 have hal:=sa.1
 intro j
 induction j with
 | zero =>
  intro m cl c hC h0 hj hle hm
  omega
 | succ j ih =>
  intro m cl c hC h0 hj hle hm
  obtain _ | m:=m; omega
  have hcn:=aGx ha hC
  obtain ⟨ks1,ks2⟩:=aKL ha hC
  have loop_c:=fun {R:Type} {n:Nat} {k:Exit → List A → H → Option R} (hn:5 ≤ n) => @TG R L n hn hL a ha cl hC n20 n21 (c:Int) k a.nx.length 0 L [] (List.replicate a.nx.length 0) (by omega) (by omega) rfl (by simp [numL,aZ])
  rw [ks1,aNH] at loop_c
  simp only [Int.natCast_zero] at loop_c
  have hlen:=hC.len
  have hl2:(aZ (nN a cl)).length = (aZ (sigs a cl)).length:=ks2
  have hle2:=GI (sigs a cl)
  rw [i8] at hle2
  unfold clsG cntG
  by_cases he:(aZ (sigs a cl)).length = c
  ·rw [if_pos he,if_pos he]
   have he2:(((aZ (nN a cl)).length:Nat):Int) = (c:Int):=by omega
   clear ih hcn ks1 ks2 h0 hC
   generalize numL (sigs a cl) = w at *
   generalize aZ (nN a cl) = fk at *
   rw [EA]
   simp only [zS,Tryd.f29,SLM,simprocAttr]
   simp -implicitDefEqProofs (maxSteps:=2000000) (disch:=try exact Dz) only [↓DN,↓kAsg,↓kRet,UP,simprocAttr,↓gP,LA,hlen,↓UO,Int.toNat_natCast,↓loop_c,ZA,he2,dL,dY]
  ·rw [if_neg he,if_neg he]
   have hpos:0 < (aZ (sigs a cl)).length:=by
    have:(sigs a cl)[0]'(by rw [i8]; omega) ∈ aZ (sigs a cl):=dM.2 (List.getElem_mem _)
    exact List.length_pos_of_mem this
   have hge:c ≤ (aZ (sigs a cl)).length:=by
    rcases h0 with h0 | h0
    ·omega
    ·have:=QD (sigs a cl) (fun s => s.headD 0)
     rw [UV hC] at this
     omega
   have ih':=ih m (numL (sigs a cl)) (aZ (sigs a cl)).length hcn (.inr (PS (aEv (sigs a cl))).2.symm) (by omega) hle2 (by omega)
   have he2:¬ ((((aZ (nN a cl)).length:Nat):Int) = (c:Int)):=by omega
   rw [← ks2] at ih' ⊢
   clear ih hcn ks1 ks2 h0 hC hpos hge
   generalize clsG a j (numL (sigs a cl)) (aZ (nN a cl)).length = z at *
   generalize cntG a j (numL (sigs a cl)) (aZ (nN a cl)).length = z2 at *
   generalize numL (sigs a cl) = w at *
   generalize aZ (nN a cl) = fk at *
   rw [EA]
   simp only [zS,Tryd.f29,SLM,simprocAttr]
   simp -implicitDefEqProofs (maxSteps:=2000000) (disch:=try exact Dz) only [↓DN,↓kAsg,↓kRet,UP,simprocAttr,↓gP,LA,hlen,↓UO,Int.toNat_natCast,↓loop_c,ZA,he2,dL,dY,↓ih']
theorem aCe {L n:Nat} (hn:6 ≤ n) (a:Aut) (ha:AOK a) (hL:2 ^ 60 ≤ L):aA env L n 29 [.agg [.d (.int .i64 a.al),.d (.ivs a.nx.length (aC a.nx)),.d (.ivs a.ac.length (aB a.ac))]] [] = some (.d (.ivs (dC a).length (ints (dC a))),[]):=by
 obtain ⟨sa,wa,a1,a2,a3⟩:=bR ha
 have hal:=sa.1
 have loop_a:=fun {R:Type} {n:Nat} {k:Exit → List A → H → Option R} (hn:1 ≤ n) => @oU R L n hn hL a ha k a.nx.length 0 L (List.replicate a.nx.length 0) (by omega) (by omega) (by simp)
 have loop_b:=fun {R:Type} {n:Nat} {n20 n21:Int} {k:Exit → List A → H → Option R} (hn:5 ≤ n) => @S6 R L n hn hL a ha n20 n21 k (a.nx.length + 1) L (cl0 a) 0 (Y0 ha) (.inl rfl) (by omega) (by omega) (by omega)
 have e:clsG a (a.nx.length + 1) (cl0 a) 0 = dC a:=rfl
 rw [e] at loop_b
 have hcl:=TT ha
 simp only [Int.natCast_zero] at loop_a loop_b
 have e4:(ints (dC a)).take a.nx.length = ints (dC a):=by rw [cY (by omega)]
 have e5:(ints (dC a)).length = a.nx.length:=by rw [dQ,hcl]
 rw [hcl]
 generalize cntG a (a.nx.length + 1) (cl0 a) 0 = z2 at *
 generalize dC a = w at *
 obtain _ | n:=n; omega
 rw [aCC]
 simp only [RO,Tryd.f29,SLM,simprocAttr]
 simp -implicitDefEqProofs (maxSteps:=2000000) (disch:=try exact Dz) only [↓DN,↓kAsg,↓kRet,UP,simprocAttr,↓gP,LA,↓UO,Int.toNat_natCast,↓loop_a,↓loop_b,e4,e5,Nat.le_refl]
theorem jX {R:Type} {L n:Nat} {hq:H} {k:A → H → Option R} (hn:6 ≤ n) (a:Aut) (ha:AOK a) (hL:2 ^ 60 ≤ L):aL env (aA env L n) hq 29 [.agg [.d (.int .i64 a.al),.d (.ivs a.nx.length (aC a.nx)),.d (.ivs a.ac.length (aB a.ac))]] k = k (.d (.ivs (dC a).length (ints (dC a)))) hq :=
 aV rfl (aCe hn a ha hL) rfl (.inr rfl)
section
def numG:List Int → Nat → List (D × D)
 | [],_ => []
 | x :: o,i => (.int .i64 x,.int .i64 (i:Nat)) :: numG o (i + 1)
def numM (o:List Int):List (D × D):=numG o 0
theorem aG0:∀ (o:List Int) (x:Int) (i:Nat),numG (o ++ [x]) i = numG o i ++ [(.int .i64 x,.int .i64 ((i + o.length:Nat):Int))]
 | [],x,i => by simp [numG]
 | y :: o,x,i => by
  simp only [List.cons_append,numG,aG0 o x (i + 1),List.length_cons]
  rw [show i + 1 + o.length = i + (o.length + 1) by omega]
theorem aCg {x:Int} {k:IntKind}:∀ (o:List Int) (i c:Nat),wM (.int k) (.int .i64 x) (numG o i) c = some (if x ∈ o then some (c + o.idxOf x) else none)
 | [],i,c => by simp [numG,wM]
 | y :: o,i,c => by
  simp only [numG,wM,aAl,if_true]
  by_cases h:x = y
  ·subst h
   simp
  ·have h2:(x == y) = false:=by simpa using h
   have h3:(y == x) = false:=by simpa using fun e:y = x => h e.symm
   rw [h2]
   simp only [aCg o (i + 1) (c + 1),List.mem_cons,h,false_or,List.idxOf_cons,h3,cond_false]
   by_cases hm:x ∈ o
   ·rw [if_pos hm,if_pos hm,show c + 1 + o.idxOf x = c + (o.idxOf x + 1) by omega]
   ·rw [if_neg hm,if_neg hm]
theorem aGv:∀ (o:List Int) (i q:Nat) (z:D × D),q < o.length → ((numG o i).getD q z).2 = .int .i64 ((i + q:Nat):Int)
 | [],_,_,_,h => by simp at h
 | x :: o,i,0,z,_ => by simp [numG]
 | x :: o,i,q + 1,z,h => by
  simp only [numG,List.getD_cons_succ]
  rw [aGv o (i + 1) q z (by simpa using h),show i + 1 + q = i + (q + 1) by omega]
theorem aIB:mapT env.P 118 = some (.int .i64,3):=by kernel_rfl
theorem aNW:bN env.P 3 = some (.d (.int .i64 0)):=by kernel_rfl
theorem aNT {h:H} {id:Nat} {o:List Int} {x:Int} (hi:h[id]? = some (.mp (numM o))) :
  p8 env.P h 118 true (.mp id) (.d (.int .i64 x)) = some (.tup [.d (.int .i64 (if x ∈ o then idxU o x else 0)),.d (.bool (decide (x ∈ o)))],h):=by
 unfold p8 numM at *
 simp only [aIB,hi,aNW,LJ,sX,decide_true,Bool.and_self,if_true,aCg]
 by_cases hm:x ∈ o
 ·obtain ⟨_,hq⟩:=G4 hm
  simp only [if_pos hm,zY,pY,if_true,Option.isSome_some,Nat.zero_add,aGv o 0 _ _ hq,idxU,decide_eq_true hm]
 ·simp only [if_neg hm,zY,pY,if_true,Option.isSome_none,decide_eq_false hm]
theorem aIF {h:H} {id:Nat} {o:List Int} {x:Int} (hi:h[id]? = some (.mp (numM o))) (hx:x ∉ o) :
  iS env.P h 118 (.mp id) (.d (.int .i64 x)) (.d (.int .i64 (o.length:Int))) = some (.d .undef,h.set id (.mp (numM (o ++ [x])))):=by
 unfold iS
 unfold numM at *
 simp only [aIB,hi,LJ,sX,decide_true,Bool.and_self,if_true,aCg,if_neg hx,A4,aG0,Nat.zero_add]
theorem aDH {a:O} {T:H} {o:List Int} {x:Int}:p8 env.P (a :: .mp (numM o) :: T) 118 true (.mp 1) (.d (.int .i64 x)) = some (.tup [.d (.int .i64 (if x ∈ o then idxU o x else 0)),.d (.bool (decide (x ∈ o)))],a :: .mp (numM o) :: T):=aNT rfl
theorem aNk {a:O} {T:H} {o:List Int} {x:Int} (hx:x ∉ o):iS env.P (a :: .mp (numM o) :: T) 118 (.mp 1) (.d (.int .i64 x)) (.d (.int .i64 (o.length:Int))) = some (.d .undef,a :: .mp (numM (o ++ [x])) :: T):=aIF rfl hx
theorem aNo {a:O} {T:H} {x:Int}:iS env.P (a :: .mp [] :: T) 118 (.mp 1) (.d (.int .i64 x)) (.d (.int .i64 0)) = some (.d .undef,a :: .mp (numM [x]) :: T):=aIF (o:=[]) (h:=a :: .mp [] :: T) rfl (by simp)
theorem VE {f:Int → Int} {r:List Int} {k:Nat} (h:k < r.length):(r.drop k).map f = f (r.getD k 0) :: (r.drop (k + 1)).map f:=by
 rw [nB h (d:=0)]; rfl
theorem aND (o:List Int) (x:Int):∃ t,addU o x = o ++ t:=by
 unfold addU
 split
 ·exact ⟨[],by simp⟩
 ·exact ⟨[x],rfl⟩
theorem aN6 (o:List Int) (x:Int):x ∈ addU o x:=by
 unfold addU
 split
 ·assumption
 ·simp
theorem O4:∀ (xs o:List Int),∃ t,rowU o xs = o ++ t
 | [],o => ⟨[],by simp [rowU]⟩
 | x :: xs,o => by
  obtain ⟨t,ht⟩:=aND o x
  obtain ⟨u,hu⟩:=O4 xs (addU o x)
  refine ⟨t ++ u,?_⟩
  show rowU (addU o x) xs = _
  rw [hu,ht,List.append_assoc]
theorem aCu {o t:List Int} {x:Int} (h:x ∈ o):idxU (o ++ t) x = idxU o x:=by
 unfold idxU
 rw [List.idxOf_append,if_pos h]
theorem aQs {o t:List Int} {x:Int} (h:x ∉ o):idxU (o ++ [x] ++ t) x = o.length:=by
 rw [aCu (by simp)]
 unfold idxU
 rw [List.idxOf_append,if_neg h]
 simp
theorem TF (o xs:List Int) (x:Int):rowU o (x :: xs) = rowU (addU o x) xs:=rfl
theorem aGw:∀ (xs o:List Int) (x:Int),x ∈ xs → x ∈ rowU o xs
 | y :: xs,o,x,h => by
  rw [TF]
  rcases List.mem_cons.1 h with rfl | h
  ·obtain ⟨t,ht⟩:=O4 xs (addU o x)
   rw [ht]
   exact List.mem_append_left _ (aN6 o x)
  ·exact aGw xs _ x h
theorem aGK {n0:Nat}:∀ (xs o:List Int),o.Nodup → (∀ x ∈ o,0 ≤ x ∧ x < n0) → (∀ x ∈ xs,0 ≤ x ∧ x < n0) → (rowU o xs).Nodup ∧ ∀ x ∈ rowU o xs,0 ≤ x ∧ x < n0
 | [],o,h1,h2,_ => ⟨h1,h2⟩
 | y :: xs,o,h1,h2,h3 => by
  rw [TF]
  refine aGK xs _ ?_ ?_ fun x hx => h3 x (List.mem_cons_of_mem _ hx)
  ·unfold addU
   split
   ·exact h1
   ·rename_i hin
    rw [List.nodup_append]
    refine ⟨h1,by simp,fun x hx z hz => ?_⟩
    simp only [List.mem_singleton] at hz
    subst hz
    rintro rfl
    exact hin hx
  ·intro x hx
   unfold addU at hx
   split at hx
   ·exact h2 x hx
   ·rcases List.mem_append.1 hx with hx | hx
    ·exact h2 x hx
    ·simp only [List.mem_singleton] at hx; subst hx; exact h3 _ List.mem_cons_self
section
variable {nx:Int → Int → Int} {nf:FuncId} {caps:List D} {n0:Nat}
theorem aAC {R:Type} {L n:Nat} (hn:4 ≤ n) (hL:2 ^ 60 ≤ L) (hsz:n0 ≤ 4096) {ls:List Int} (hll:ls.length ≤ 6) {v:Int} {i:Nat}
  (kc_n:∀ {R:Type} {n:Nat} {hq:H} {k:A → H → Option R} (c:Int),3 ≤ n → c ∈ ls → aL env (aA env L n) hq nf (.d (.int .i64 v) :: .d (.int .i64 c) :: caps.map A.d) k = k (.d (.int .i64 (nx v c))) hq)
  (hv:∀ c ∈ ls,0 ≤ nx v c ∧ nx v c < n0) {d:List D} {dl:Nat} {k:Exit → List A → H → Option R}:∀ (j q m:Nat) (o r:List Int) (len rl:Nat) (hq:q + j = ls.length) (hm:j < m) (hlen:len = o.length) (hrl:rl = r.length) (hr:r.length + j ≤ 100) (hnd:o.Nodup) (hrg:∀ x ∈ o,0 ≤ x ∧ x < n0) (hi:i < o.length) (hvo:o.getD i 0 = v),
  aU env (aA env L n) L 0 [0,0,0,0,0,0,0,0,0,0,0,0,0,2,0,2] (Z1 (U2 (U1 (Z4 (U8 (Z16 (U2 (U1 (Z32 (Z8 (Z2 ([])))))))))))) (fC 1) (U1 (Z2 (Z1 (U4 (Z8 (U16 (Z2 (Z1 (U32 (U8 (U2 ([])))))))))))) m (Y1 (.d (.ivs ls.length (ints ls)) :: .d (.int .i64 ((n0:Int))) :: .d (.fn nf caps) :: Y4 (.d .nils :: .d .nils :: .d (.bool false) :: .sl 0 0 0 len :: .mp 1 :: .sl 2 0 0 dl :: .d (.int .i64 ((i:Int))) :: .sl 3 0 0 rl :: Y16 (.d (.ivs ls.length (ints ls)) :: .d (.int .i64 ((ls.length:Int))) :: .d (.int .i64 ((q:Int))) :: Y32 (Y8 (Y2 ([]))))))) [.arr (ints o) 1 0,.mp (numM o),.arr d 1 0,.arr (ints r) 1 0] k
  = k (.exit 2) (Y1 (.d (.ivs ls.length (ints ls)) :: .d (.int .i64 ((n0:Int))) :: .d (.fn nf caps) :: Y4 (.d .nils :: .d .nils :: .d (.bool false) :: .sl 0 0 0 (rowU o ((ls.drop q).map (nx v))).length :: .mp 1 :: .sl 2 0 0 dl :: .d (.int .i64 ((i:Int))) :: .sl 3 0 0 (r ++ ((ls.drop q).map (nx v)).map (idxU (rowU o ((ls.drop q).map (nx v))))).length :: Y16 (.d (.ivs ls.length (ints ls)) :: .d (.int .i64 ((ls.length:Int))) :: .d (.int .i64 ((ls.length:Int))) :: Y32 (Y8 (Y2 ([]))))))) [.arr (ints (rowU o ((ls.drop q).map (nx v)))) 1 0,.mp (numM (rowU o ((ls.drop q).map (nx v)))),.arr d 1 0,.arr (ints (r ++ ((ls.drop q).map (nx v)).map (idxU (rowU o ((ls.drop q).map (nx v)))))) 1 0]:=by
 intro j
 induction j with
 | zero =>
  intro q m o r len rl hq hm hlen hrl hr hnd hrg hi hvo
  obtain _ | m:=m; omega
  obtain rfl:q = ls.length:=by omega
  subst hlen; subst hrl
  rw [List.drop_length]
  simp only [List.map_nil,List.append_nil,rowU,List.foldl_nil]
  rw [pT]
  simp only [oR,Tryd.f84,SLM,simprocAttr]
  simp -implicitDefEqProofs (maxSteps:=2000000) (disch:=try exact Dz) only [↓DN,↓kAsg,↓kRet,UP,simprocAttr,LA,Int.lt_irrefl]
 | succ j ih =>
  intro q m o r len rl hq hm hlen hrl hr hnd hrg hi hvo
  obtain _ | m:=m; omega
  subst hlen; subst hrl
  have hk:q < ls.length:=by omega
  have hc:(q:Int) < ls.length:=by omega
  have hq0:(0:Int) ≤ q:=by omega
  have hio:(i:Int) < o.length:=by omega
  have hi0:(0:Int) ≤ i:=by omega
  have hmem:ls.getD q 0 ∈ ls:=r6 hk
  obtain ⟨t0,t1⟩:=hv _ hmem
  have kc_x:=fun {R:Type} {n:Nat} {hq:H} {k:A → H → Option R} (hn:3 ≤ n) => @kc_n R n hq k (ls.getD q 0) hn hmem
  have hol:=o6 hnd hrg
  rw [VE hk,TF]
  obtain ⟨T,hT⟩:=O4 ((ls.drop (q + 1)).map (nx v)) (addU o (nx v (ls.getD q 0)))
  have hr100:r.length ≤ 100:=by omega
  by_cases hin:nx v (ls.getD q 0) ∈ o
  ·have hadd:addU o (nx v (ls.getD q 0)) = o:=by unfold addU; rw [if_pos hin]
   rw [hadd] at hT ⊢
   have ih':=ih (q + 1) m o (r ++ [idxU o (nx v (ls.getD q 0))]) o.length (r.length + 1) (by omega) (by omega) rfl (by simp) (by simp; omega) hnd hrg hi hvo
   rw [show ((q + 1:Nat):Int) = (q:Int) + 1 by omega] at ih'
   have he:idxU (rowU o ((ls.drop (q + 1)).map (nx v))) (nx v (ls.getD q 0)) = idxU o (nx v (ls.getD q 0)):=by rw [hT,aCu hin]
   simp only [List.map_cons,he]
   simp only [List.append_assoc,List.singleton_append] at ih'
   clear ih he hT hadd kc_n hv hnd hrg
   generalize rowU o ((ls.drop (q + 1)).map (nx v)) = w at *
   generalize ((ls.drop (q + 1)).map (nx v)).map (idxU w) = w2 at *
   generalize nx v (ls.getD q 0) = x at *
   rw [pT]
   simp only [oR,Tryd.f84,SLM,simprocAttr]
   simp -implicitDefEqProofs (maxSteps:=2000000) (disch:=try exact Dz) only [↓DN,↓kAsg,↓kRet,UP,simprocAttr,LA,hc,hq0,hio,hi0,hvo,Int.toNat_natCast,dL,dY,↓kc_x,aDH,hin,decide_true,if_true,cY,gZ,List.length_append,↓ih']
  ·have hadd:addU o (nx v (ls.getD q 0)) = o ++ [nx v (ls.getD q 0)]:=by unfold addU; rw [if_neg hin]
   rw [hadd] at hT ⊢
   have hnd2:(o ++ [nx v (ls.getD q 0)]).Nodup:=by
    rw [List.nodup_append]
    refine ⟨hnd,by simp,fun x hx y hy => ?_⟩
    simp only [List.mem_singleton] at hy
    subst hy
    rintro rfl
    exact hin hx
   have hrg2:∀ x ∈ o ++ [nx v (ls.getD q 0)],0 ≤ x ∧ x < n0:=by
    intro x hx
    rcases List.mem_append.1 hx with hx | hx
    ·exact hrg x hx
    ·simp only [List.mem_singleton] at hx; subst hx; exact ⟨t0,t1⟩
   have hol2:=o6 hnd2 hrg2
   rw [List.length_append] at hol2
   simp only [List.length_cons,List.length_nil,Nat.zero_add] at hol2
   have hlim:¬ ((o.length:Int) = n0):=by omega
   have ih':=ih (q + 1) m (o ++ [nx v (ls.getD q 0)]) (r ++ [(o.length:Int)]) (o.length + 1) (r.length + 1) (by omega) (by omega) (by simp) (by simp) (by simp; omega) hnd2 hrg2 (by simp; omega) (by rw [nG hi]; exact hvo)
   rw [show ((q + 1:Nat):Int) = (q:Int) + 1 by omega] at ih'
   have he:idxU (rowU (o ++ [nx v (ls.getD q 0)]) ((ls.drop (q + 1)).map (nx v))) (nx v (ls.getD q 0)) = o.length:=by rw [hT,aQs hin]
   simp only [List.map_cons,he]
   simp only [List.append_assoc,List.singleton_append] at ih'
   clear ih he hT hadd kc_n hv hnd hrg hnd2 hrg2
   generalize rowU (o ++ [nx v (ls.getD q 0)]) ((ls.drop (q + 1)).map (nx v)) = w at *
   generalize ((ls.drop (q + 1)).map (nx v)).map (idxU w) = w2 at *
   generalize nx v (ls.getD q 0) = x at *
   rw [pT]
   simp only [oR,Tryd.f84,SLM,simprocAttr]
   simp -implicitDefEqProofs (maxSteps:=2000000) (disch:=try exact Dz) only [↓DN,↓kAsg,↓kRet,UP,simprocAttr,LA,hc,hq0,hio,hi0,hvo,Int.toNat_natCast,dL,dY,↓kc_x,aDH,aNk,hin,hlim,decide_false,decide_true,if_false,if_true,cY,gZ,List.length_append,↓ih']
theorem aAi {R:Type} {L n:Nat} (hn:4 ≤ n) (hL:2 ^ 60 ≤ L) (hsz:n0 ≤ 4096) {ls:List Int} (hll:ls.length ≤ 6)
  (kc_n:∀ {R:Type} {n:Nat} {hq:H} {k:A → H → Option R} (v c:Int),3 ≤ n → 0 ≤ v → v < n0 → c ∈ ls → aL env (aA env L n) hq nf (.d (.int .i64 v) :: .d (.int .i64 c) :: caps.map A.d) k = k (.d (.int .i64 (nx v c))) hq)
  (hv:∀ v c:Int,0 ≤ v → v < n0 → c ∈ ls → 0 ≤ nx v c ∧ nx v c < n0) {k:Exit → List A → H → Option R}:∀ (j i m:Nat) (o:List Int) (d:List (List Int)) (len dl:Nat) (hi:i ≤ o.length) (hj:n0 < i + j) (hm:j < m) (hlen:len = o.length) (hdl:i = dl) (hd:d = (o.take i).map fun v => (ls.map (nx v)).map (idxU o)) (hcl:∀ v ∈ o.take i,∀ l ∈ ls,nx v l ∈ o) (hnd:o.Nodup) (hrg:∀ x ∈ o,0 ≤ x ∧ x < n0),
  aU env (aA env L n) L 0 [0,0,0,0,0,0,0,0,0,0,0,0,0,2,0,2] (Z1 (U2 (U1 (Z4 (U8 (Z16 (U2 (U1 (Z32 (Z8 (Z2 ([])))))))))))) (fC 0) (U1 (Z2 (Z1 (U4 (Z4 (Z2 (Z1 (U32 (U16 (U8 (U4 (U2 ([]))))))))))))) m (Y1 (.d (.ivs ls.length (ints ls)) :: .d (.int .i64 ((n0:Int))) :: .d (.fn nf caps) :: Y4 (.d .nils :: .d .nils :: .d (.bool false) :: .sl 0 0 0 len :: .mp 1 :: .sl 2 0 0 dl :: .d (.int .i64 ((i:Int))) :: Y32 (Y16 (Y8 (Y4 (Y2 ([])))))))) [.arr (ints o) 1 0,.mp (numM o),.arr (aC d) 1 0] k
  = k (.exit 0) (Y1 (.d (.ivs ls.length (ints ls)) :: .d (.int .i64 ((n0:Int))) :: .d (.fn nf caps) :: Y4 (.d .nils :: .d .nils :: .d (.bool false) :: .sl 0 0 0 (ordB nx ls j i o).length :: .mp 1 :: .sl 2 0 0 (ordB nx ls j i o).length :: .d (.int .i64 (((ordB nx ls j i o).length:Int))) :: Y32 (Y16 (Y8 (Y4 (Y2 ([])))))))) [.arr (ints (ordB nx ls j i o)) 1 0,.mp (numM (ordB nx ls j i o)),.arr (aC ((ordB nx ls j i o).map fun v => (ls.map (nx v)).map (idxU (ordB nx ls j i o)))) 1 0]:=by
 have last:∀ (i m:Nat) (o:List Int) (d:List (List Int)) (len dl:Nat),i = o.length → 0 < m → len = o.length → i = dl → aU env (aA env L n) L 0 [0,0,0,0,0,0,0,0,0,0,0,0,0,2,0,2] (Z1 (U2 (U1 (Z4 (U8 (Z16 (U2 (U1 (Z32 (Z8 (Z2 ([])))))))))))) (fC 0) (U1 (Z2 (Z1 (U4 (Z4 (Z2 (Z1 (U32 (U16 (U8 (U4 (U2 ([]))))))))))))) m (Y1 (.d (.ivs ls.length (ints ls)) :: .d (.int .i64 ((n0:Int))) :: .d (.fn nf caps) :: Y4 (.d .nils :: .d .nils :: .d (.bool false) :: .sl 0 0 0 len :: .mp 1 :: .sl 2 0 0 dl :: .d (.int .i64 ((i:Int))) :: Y32 (Y16 (Y8 (Y4 (Y2 ([])))))))) [.arr (ints o) 1 0,.mp (numM o),.arr (aC d) 1 0] k
  = k (.exit 0) (Y1 (.d (.ivs ls.length (ints ls)) :: .d (.int .i64 ((n0:Int))) :: .d (.fn nf caps) :: Y4 (.d .nils :: .d .nils :: .d (.bool false) :: .sl 0 0 0 o.length :: .mp 1 :: .sl 2 0 0 o.length :: .d (.int .i64 ((o.length:Int))) :: Y32 (Y16 (Y8 (Y4 (Y2 ([])))))))) [.arr (ints o) 1 0,.mp (numM o),.arr (aC d) 1 0]:=by
  intro i m o d len dl hi hm hlen hdl
  obtain _ | m:=m; omega
  subst hdl
  subst hi
  subst hlen
  rw [xP]
  simp only [s6,Tryd.f84,SLM,simprocAttr]
  simp -implicitDefEqProofs (maxSteps:=2000000) (disch:=try exact Dz) only [↓DN,↓kAsg,↓kRet,UP,simprocAttr,LA,Int.lt_irrefl]
 intro j
 induction j with
 | zero =>
  intro i m o d len dl hi hj hm hlen hdl hd hcl hnd hrg
  have:=o6 hnd hrg
  omega
 | succ j ih =>
  intro i m o d len dl hi hj hm hlen hdl hd hcl hnd hrg
  unfold ordB
  by_cases hlt:i < o.length
  ·obtain _ | m:=m; omega
   subst hlen
   subst hdl
   rw [if_pos hlt]
   obtain ⟨v0,v1⟩:=hrg _ (r6 hlt)
   have hol:=o6 hnd hrg
   obtain ⟨T,hT⟩:=O4 (ls.map (nx (o.getD i 0))) o
   have hres:=aGK (n0:=n0) (ls.map (nx (o.getD i 0))) o hnd hrg (by
    intro x hx
    obtain ⟨l,hl,rfl⟩:=List.mem_map.1 hx
    exact hv _ l v0 v1 hl)
   have htk:(rowU o (ls.map (nx (o.getD i 0)))).take (i + 1) = o.take i ++ [o.getD i 0]:=by
    rw [hT,List.take_append_of_le_length (by omega),List.take_add_one,List.getElem?_eq_getElem hlt,List.getD_eq_getElem?_getD,List.getElem?_eq_getElem hlt]; rfl
   have hd2:d ++ [(ls.map (nx (o.getD i 0))).map (idxU (rowU o (ls.map (nx (o.getD i 0)))))] = ((rowU o (ls.map (nx (o.getD i 0)))).take (i + 1)).map fun v => (ls.map (nx v)).map (idxU (rowU o (ls.map (nx (o.getD i 0))))):=by
    rw [htk,List.map_append,hd]
    congr 1
    apply List.map_congr_left
    intro v hvm
    apply List.map_congr_left
    intro x hx
    obtain ⟨l,hl,rfl⟩:=List.mem_map.1 hx
    rw [hT,aCu (hcl v hvm l hl)]
   have hcl2:∀ v ∈ (rowU o (ls.map (nx (o.getD i 0)))).take (i + 1),∀ l ∈ ls,nx v l ∈ rowU o (ls.map (nx (o.getD i 0))):=by
    intro v hvm l hl
    rw [htk] at hvm
    rcases List.mem_append.1 hvm with hvm | hvm
    ·rw [hT]; exact List.mem_append_left _ (hcl v hvm l hl)
    ·simp only [List.mem_singleton] at hvm
     subst hvm
     exact aGw _ _ _ (List.mem_map.2 ⟨l,hl,rfl⟩)
   have hge:o.length ≤ (rowU o (ls.map (nx (o.getD i 0)))).length:=by rw [hT]; simp
   have hdlen:d.length = i:=by rw [hd,List.length_map,List.length_take]; omega
   have loop_c:=fun {R:Type} {n:Nat} {k:Exit → List A → H → Option R} (hn:4 ≤ n) => @aAC nx nf caps n0 R L n hn hL hsz ls hll (o.getD i 0) i (fun {R n hq k} c h3 hc => kc_n _ c h3 v0 v1 hc) (fun c hc => hv _ c v0 v1 hc) (aC d) i k ls.length 0 L o [] o.length 0 (by omega) (by omega) rfl rfl (by rw [List.length_nil]; omega) hnd hrg hlt rfl
   rw [List.drop_zero] at loop_c
   have ih':=ih (i + 1) m (rowU o (ls.map (nx (o.getD i 0)))) _ _ (i + 1) (by omega) (by omega) (by omega) rfl rfl hd2 hcl2 hres.1 hres.2
   rw [show ((i + 1:Nat):Int) = (i:Int) + 1 by omega] at ih'
   simp only [Int.natCast_zero,List.nil_append,qS] at loop_c
   have hc:(i:Int) < o.length:=by omega
   have hi0:(0:Int) ≤ i:=by omega
   have hi12:i ≤ 4096:=by omega
   have hw2l:((ls.map (nx (o.getD i 0))).map (idxU (rowU o (ls.map (nx (o.getD i 0)))))).length ≤ 6:=by rw [List.length_map,List.length_map]; exact hll
   clear ih hd hcl hnd hrg last hd2 hcl2 hres htk hT kc_n hv
   generalize (ls.map (nx (o.getD i 0))).map (idxU (rowU o (ls.map (nx (o.getD i 0))))) = w2 at *
   generalize rowU o (ls.map (nx (o.getD i 0))) = w at *
   generalize ordB nx ls j (i + 1) w = z at *
   have ht:(aC d).take i = aC d:=nT (by omega)
   have hwt:(ints w2).take w2.length = ints w2:=by rw [cY (Nat.le_refl _)]
   rw [xP]
   simp only [s6,Tryd.f84,SLM,simprocAttr]
   simp -implicitDefEqProofs (maxSteps:=2000000) (disch:=try exact Dz) only [↓DN,↓kAsg,↓kRet,UP,simprocAttr,LA,hc,hi0,Int.toNat_natCast,dL,dY,dZ,eN,↓loop_c,ht,hwt,tN,↓ih']
  ·rw [if_neg hlt]
   have hio:i = o.length:=by omega
   have hd3:d = o.map fun v => (ls.map (nx v)).map (idxU o):=by rw [hd,hio,List.take_length]
   rw [last i m o d len dl hio (by omega) hlen hdl,hd3]
theorem WB {L n:Nat} (hn:5 ≤ n) (hL:2 ^ 60 ≤ L) (h0:0 < n0) (hsz:n0 ≤ 4096) {ls:List Int} (hll:ls.length ≤ 6)
  (kc_n:∀ {R:Type} {n:Nat} {hq:H} {k:A → H → Option R} (v c:Int),3 ≤ n → 0 ≤ v → v < n0 → c ∈ ls → aL env (aA env L n) hq nf (.d (.int .i64 v) :: .d (.int .i64 c) :: caps.map A.d) k = k (.d (.int .i64 (nx v c))) hq)
  (hv:∀ v c:Int,0 ≤ v → v < n0 → c ∈ ls → 0 ≤ nx v c ∧ nx v c < n0) :
  aA env L n 84 [.d (.int .i64 0),.d (.ivs ls.length (ints ls)),.d (.int .i64 (n0:Int)),.d (.fn nf caps)] [] = some (.tup [.d (.ivs (ordB nx ls (n0 + 1) 0 [0]).length (ints (ordB nx ls (n0 + 1) 0 [0]))),.d (.ivs (ordB nx ls (n0 + 1) 0 [0]).length (aC ((ordB nx ls (n0 + 1) 0 [0]).map fun v => (ls.map (nx v)).map (idxU (ordB nx ls (n0 + 1) 0 [0]))))),.d (.bool true)],[]):=by
 have loop_c:=fun {R:Type} {n:Nat} {k:Exit → List A → H → Option R} (hn:4 ≤ n) => @aAi nx nf caps n0 R L n hn hL hsz ls hll (fun {R n hq k} => kc_n) hv k (n0 + 1) 0 L [0] [] 1 0 (by omega) (by omega) (by omega) rfl rfl rfl (by intro v hv; cases hv) (by simp) (by intro x hx; simp only [List.mem_singleton] at hx; subst hx; omega)
 have e:ints [0] = [.int .i64 0]:=rfl
 simp only [Int.natCast_zero,lD,e] at loop_c
 have hdl:((ordB nx ls (n0 + 1) 0 [0]).map fun v => (ls.map (nx v)).map (idxU (ordB nx ls (n0 + 1) 0 [0]))).length = (ordB nx ls (n0 + 1) 0 [0]).length:=List.length_map _
 generalize ((ordB nx ls (n0 + 1) 0 [0]).map fun v => (ls.map (nx v)).map (idxU (ordB nx ls (n0 + 1) 0 [0]))) = d at *
 generalize ordB nx ls (n0 + 1) 0 [0] = w at *
 have e4:(ints w).take w.length = ints w:=by rw [cY (Nat.le_refl _)]
 have e5:(aC d).take w.length = aC d:=nT (by omega)
 have e6:(aC d).length = w.length:=by rw [mZ,hdl]
 clear kc_n hv
 obtain _ | n:=n; omega
 rw [V3]
 simp only [I8,Tryd.f84,SLM,simprocAttr]
 simp -implicitDefEqProofs (maxSteps:=2000000) (disch:=try exact Dz) only [↓DN,↓kAsg,↓kRet,UP,simprocAttr,LA,e4,e5,e6,↓loop_c,↓aHC,aNo,dL,dY,Nat.le_refl]
end
end
theorem aG7 {L n:Nat} (hn:1 ≤ n) {a:Aut} (ha:AOK a) {x c:Int} (x0:0 ≤ x) (x1:x < a.nx.length) (hc0:0 ≤ c) (hc6:c < 6) :
  aA env L n 85 [.d (.int .i64 x),.d (.int .i64 c),.d (tabP a)] [] = some (.d (.int .i64 (goS a x c)),[]):=by
 obtain ⟨sa,wa,a1,a2,a3⟩:=bR ha
 have hla:=nL a.al a.nx
 have hta:=VM (al:=a.al) x0 x1 hc0 hc6
 rw [List.drop_drop] at hta
 unfold goS tabP
 have d1:x.toNat * 6 ≤ a.nx.length * 6:=by omega
 have d3:c.toNat < a.nx.length * 6 - x.toNat * 6:=by omega
 generalize goI a.al a.nx x c = g1 at *
 clear ha sa wa
 obtain _ | n:=n; omega
 rw [aFt]
 simp only [W8,Tryd.f85,SLM,simprocAttr]
 simp -implicitDefEqProofs (maxSteps:=2000000) (disch:=try exact Dz) only [↓DN,↓kAsg,↓kRet,UP,simprocAttr,hla,hta,x0,x1,d1,d3,u_t6,u_a6,c_a6,KW,Int.toNat_natCast,List.length_drop,List.drop_drop]
theorem aIS {R:Type} {L n:Nat} {hq:H} {k:A → H → Option R} (hn:1 ≤ n) {a:Aut} (ha:AOK a) {x c:Int} (x0:0 ≤ x) (x1:x < a.nx.length) (hc:c ∈ aE a.al) :
  aL env (aA env L n) hq 85 (.d (.int .i64 x) :: .d (.int .i64 c) :: [tabP a].map A.d) k = k (.d (.int .i64 (goS a x c))) hq:=by
 have:=pA c hc
 exact aV rfl (aG7 hn ha x0 x1 this.1 (by omega)) rfl (.inl rfl)
theorem aOb {a:Aut} (h:AOK a):((ordA a).map fun v => ((aE a.al).map (goS a v)).map (idxU (ordA a))) = (eL a).nx:=by
 obtain ⟨W,hB⟩:=C3 h
 unfold eL
 apply List.map_congr_left
 intro v hv
 obtain ⟨v0,v1⟩:=hB.rng v hv
 rw [N9 h v0 v1]
theorem aQ5 {R:Type} {L n:Nat} {o0 o1 o2 o3 o4:O} {T:H} {k:A → H → Option R} (hn:5 ≤ n) (hL:2 ^ 60 ≤ L) {a:Aut} (ha:AOK a) :
  aL env (aA env L n) (o0 :: o1 :: o2 :: o3 :: o4 :: .box [.d (.ivs a.nx.length (ints (iZ a.al a.nx)))] :: T) 84 [.d (.int .i64 0),.d (.ivs (aE a.al).length (ints (aE a.al))),.d (.int .i64 (a.nx.length:Int)),.clo 85 [.ptr 5 0 0]] k
  = k (.tup [.d (.ivs (ordA a).length (ints (ordA a))),.d (.ivs (ordA a).length (aC (eL a).nx)),.d (.bool true)]) (o0 :: o1 :: o2 :: o3 :: o4 :: .ice [.ivs a.nx.length (ints (iZ a.al a.nx))] 1 0 :: T):=by
 obtain ⟨sa,wa,a1,a2,a3⟩:=bR ha
 have hev:=@WB (goS a) 85 [tabP a] a.nx.length L n hn hL (by omega) (by omega) (aE a.al) (eP a.al) (fun {R n hq k} v c h3 v0 v1 hc => aIS (by omega) ha v0 v1 hc) (fun v c h0 h1 hc => yJ ha v c h0 h1 hc)
 have e1:ordB (goS a) (aE a.al) (a.nx.length + 1) 0 [0] = ordA a:=rfl
 rw [e1,aOb ha] at hev
 have hre:aF aG (o0 :: o1 :: o2 :: o3 :: o4 :: O.box [.d (.ivs a.nx.length (ints (iZ a.al a.nx)))] :: T) [5] [] = [5]:=by
  have e1:aF aG (o0 :: o1 :: o2 :: o3 :: o4 :: O.box [.d (.ivs a.nx.length (ints (iZ a.al a.nx)))] :: T) [5] [] = aF (aG - 1) (o0 :: o1 :: o2 :: o3 :: o4 :: O.box [.d (.ivs a.nx.length (ints (iZ a.al a.nx)))] :: T) [] [5]:=rfl
  rw [e1]; rfl
 refine aBU sC (ids:=[5]) (ord:=[5]) (blk:=[.box [.d (.ivs a.nx.length (ints (iZ a.al a.nx)))]]) (blk2:=[.ice [.ivs a.nx.length (ints (iZ a.al a.nx))] 1 0]) (fs:=[.d (.int .i64 0),.d (.ivs (aE a.al).length (ints (aE a.al))),.d (.int .i64 (a.nx.length:Int)),.d (.fn 85 [tabP a])]) ?_ hre rfl ?_ ?_ hev ?_ (by simp) ?_
 ·rfl
 ·rfl
 ·rfl
 ·rfl
 ·simp [bG,mapO]
theorem XX {b:List Bool} {x:Bool}:aB b ++ [.bool x] = aB (b ++ [x]):=by simp [aB]
theorem aHv {R:Type} {L n:Nat} (hn:3 ≤ n) (hL:2 ^ 60 ≤ L) {a:Aut} (ha:AOK a) {o:List Int} (ho:o.length ≤ 12) (hor:∀ x ∈ o,0 ≤ x ∧ x < a.nx.length) {al2:Int} {nxd:D} {k:Exit → List A → H → Option R}:∀ (j i m:Nat) (b:List Bool) (len e:Nat) (hi:i + j = o.length) (hm:j < m) (hb:b = (o.take i).map fun v => a.ac.getD v.toNat false) (hlen:i = len) (he:e = if i = 0 then 0 else 1),
  aU env (aA env L n) L 0 [] (Z1 (U2 (Z4 (U1 (Z16 (Z2 (Z1 (U2 (U1 (Z8 (Z4 (Z2 (Z1 ([])))))))))))))) (D0 0) (U1 (Z2 (U4 (Z1 (U16 (U2 (U1 (Z2 (Z1 (U8 (U4 (U2 (U1 ([])))))))))))))) m (Y1 (.ptr 0 0 0 :: .ptr 1 0 0 :: Y4 (.ptr 2 0 0 :: Y16 (Y2 (Y1 (.d (.ivs o.length (ints o)) :: .d (.int .i64 ((o.length:Int))) :: .d (.int .i64 ((i:Int))) :: Y8 (Y4 (Y2 (Y1 ([])))))))))) [.box [.d (.int .i64 a.al),.d (.ivs a.nx.length (aC a.nx)),.d (.ivs a.ac.length (aB a.ac))],.box [.d (.int .i64 0),.sl 3 0 0 0,.sl 4 0 0 0],.box [.d (.int .i64 al2),.d nxd,.sl 5 0 0 len],.arr [] 0 0,.arr [] 0 0,.arr (aB b) e 0] k
  = k (.exit 0) (Y1 (.ptr 0 0 0 :: .ptr 1 0 0 :: Y4 (.ptr 2 0 0 :: Y16 (Y2 (Y1 (.d (.ivs o.length (ints o)) :: .d (.int .i64 ((o.length:Int))) :: .d (.int .i64 ((o.length:Int))) :: Y8 (Y4 (Y2 (Y1 ([])))))))))) [.box [.d (.int .i64 a.al),.d (.ivs a.nx.length (aC a.nx)),.d (.ivs a.ac.length (aB a.ac))],.box [.d (.int .i64 0),.sl 3 0 0 0,.sl 4 0 0 0],.box [.d (.int .i64 al2),.d nxd,.sl 5 0 0 o.length],.arr [] 0 0,.arr [] 0 0,.arr (aB (o.map fun v => a.ac.getD v.toNat false)) (if o.length = 0 then 0 else 1) 0]:=by
 obtain ⟨sa,wa,a1,a2,a3⟩:=bR ha
 have hal:=sa.1
 intro j
 induction j with
 | zero =>
  intro i m b len e hi hm hb hlen he
  obtain _ | m:=m; omega
  obtain rfl:i = o.length:=by omega
  rw [List.take_length] at hb
  subst hb; subst hlen; subst he
  rw [E9]
  simp only [GO,Tryd.f65,SLM,simprocAttr]
  simp -implicitDefEqProofs (maxSteps:=2000000) (disch:=try exact Dz) only [↓DN,↓kAsg,↓kRet,UP,simprocAttr,↓fO,↓aQ,LA,Int.lt_irrefl]
 | succ j ih =>
  intro i m b len e hi hm hb hlen he
  obtain _ | m:=m; omega
  subst hlen
  have hio:i < o.length:=by omega
  obtain ⟨v0,v1⟩:=hor _ (r6 hio)
  have htk:o.take (i + 1) = o.take i ++ [o.getD i 0]:=by
   rw [List.take_add_one,List.getElem?_eq_getElem hio,List.getD_eq_getElem?_getD,List.getElem?_eq_getElem hio]; rfl
  have hbl:b.length = i:=by rw [hb,List.length_map,List.length_take]; omega
  have ih':=ih (i + 1) m (b ++ [a.ac.getD (o.getD i 0).toNat false]) (i + 1) 1 (by omega) (by omega) (by rw [htk,hb,List.map_append]; rfl) rfl (by rw [if_neg (by omega)])
  rw [show ((i + 1:Nat):Int) = (i:Int) + 1 by omega] at ih'
  have hc:(i:Int) < o.length:=by omega
  have hi0:(0:Int) ≤ i:=by omega
  clear ih hor hb htk
  generalize hv:o.getD i 0 = v at *
  have hva2:v < a.ac.length:=by omega
  have ht2:(aB b).take i = aB b:=iU (by omega)
  have hi12:i ≤ 12:=by omega
  by_cases hz:i = 0
  ·obtain rfl:e = 0:=by rw [he,if_pos hz]
   clear he hz
   rw [E9]
   simp only [GO,Tryd.f65,SLM,simprocAttr]
   simp -implicitDefEqProofs (maxSteps:=2000000) (disch:=try exact Dz) only [↓DN,↓kAsg,↓kRet,UP,simprocAttr,↓fO,↓aQ,LA,hc,hi0,hv,v0,v1,hva2,dL,dY,Int.toNat_natCast,ht2,XX,↓ih']
  ·obtain rfl:e = 1:=by rw [he,if_neg hz]
   clear he hz
   rw [E9]
   simp only [GO,Tryd.f65,SLM,simprocAttr]
   simp -implicitDefEqProofs (maxSteps:=2000000) (disch:=try exact Dz) only [↓DN,↓kAsg,↓kRet,UP,simprocAttr,↓fO,↓aQ,LA,hc,hi0,hv,v0,v1,hva2,dL,dY,Int.toNat_natCast,ht2,XX,↓ih']
theorem aD5 {L n:Nat} (hn:9 ≤ n) (a:Aut) (ha:AOK a) (hL:2 ^ 60 ≤ L):aA env L n 65 [.agg [.d (.int .i64 a.al),.d (.ivs a.nx.length (aC a.nx)),.d (.ivs a.ac.length (aB a.ac))]] [] = some (.agg [.d (.int .i64 (eL a).al),.d (.ivs (eL a).nx.length (aC (eL a).nx)),.d (.ivs (eL a).ac.length (aB (eL a).ac))],[]):=by
 obtain ⟨sa,wa,a1,a2,a3⟩:=bR ha
 obtain ⟨W,hB⟩:=C3 ha
 have hl:=o6 hB.nod hB.rng
 have hp:=hB.pos
 have loop_c:=fun {R:Type} {n:Nat} {al2:Int} {nxd:D} {k:Exit → List A → H → Option R} (hn:3 ≤ n) => @aHv R L n hn hL a ha (ordA a) (by omega) hB.rng al2 nxd k (ordA a).length 0 L [] 0 0 (by omega) (by omega) rfl rfl rfl
 have kc_q:=fun {R:Type} {n:Nat} {o0 o1 o2 o3 o4:O} {T:H} {k:A → H → Option R} (hn:5 ≤ n) => @aQ5 R L n o0 o1 o2 o3 o4 T k hn hL a ha
 simp only [Int.natCast_zero,nV] at loop_c
 rw [if_neg (by omega)] at loop_c
 have hx1:(eL a).nx.length = (ordA a).length:=List.length_map _
 have hx2:(eL a).ac.length = (ordA a).length:=List.length_map _
 have hx3:(eL a).al = a.al:=rfl
 have e2:((ordA a).map fun v => a.ac.getD v.toNat false) = (eL a).ac:=rfl
 rw [e2] at loop_c
 rw [hx1,hx2,hx3]
 have ht2:(aB (eL a).ac).take (ordA a).length = aB (eL a).ac:=iU (by omega)
 have hb1:(aB (eL a).ac).length = (ordA a).length:=by rw [d7,hx2]
 have hla:=nL a.al a.nx
 clear hB e2
 generalize (eL a).nx = w1 at *
 generalize (eL a).ac = w2 at *
 generalize ordA a = w at *
 obtain _ | n:=n; omega
 rw [aLn]
 simp only [aGk,Tryd.f65,SLM,simprocAttr]
 simp -implicitDefEqProofs (maxSteps:=2000000) (disch:=try exact Dz) only [↓DN,↓kAsg,↓kRet,UP,simprocAttr,↓fO,↓aQ,LA,sa,wa,↓kc_q,↓loop_c,ht2,hb1,hla,dQ,Nat.le_refl,Nat.sub_self,List.range'_zero]
theorem yG {R:Type} {L n:Nat} {hq:H} {k:A → H → Option R} (hn:9 ≤ n) (a:Aut) (ha:AOK a) (hL:2 ^ 60 ≤ L):aL env (aA env L n) hq 65 [.agg [.d (.int .i64 a.al),.d (.ivs a.nx.length (aC a.nx)),.d (.ivs a.ac.length (aB a.ac))]] k = k (.agg [.d (.int .i64 (eL a).al),.d (.ivs (eL a).nx.length (aC (eL a).nx)),.d (.ivs (eL a).ac.length (aB (eL a).ac))]) hq :=
 aV rfl (aD5 hn a ha hL) rfl (.inr rfl)
theorem aRz {d:List (List Int)} (h:0 < d.length):eR d = 1:=by
 unfold eR
 rw [if_neg (by rintro rfl; simp at h)]
theorem V5 {R:Type} {L n:Nat} (hn:3 ≤ n) (hL:2 ^ 60 ≤ L) {a:Aut} {cl:List Int} (hcl:cl.length = a.nx.length) (hal:a.nx.length ≤ 12) {rw0:List Int} (hr6:rw0.length ≤ 6) (hrr:∀ x ∈ rw0,0 ≤ x ∧ x < a.nx.length) {q al2:Int} {d e:Nat} {cn cs2:List D} {k:Exit → List A → H → Option R}:∀ (j p m:Nat) (r:List Int) (len:Nat) (hp:p + j = rw0.length) (hm:j < m) (hlen:len = r.length) (hr2:r.length + j ≤ 1000),
  aU env (aA env L n) L 0 [0,0,0,0,0,0,0,2] (Z1 (U4 (U1 (Z1 (U1 (Z4 (Z2 (Z1 (U2 (U1 (Z8 (Z4 (Z1 (U2 (U1 (Z16 (Z8 (Z4 (Z2 ([])))))))))))))))))))) (jR 1) (U1 (Z4 (Z1 (U1 (Z1 (U4 (U2 (U1 (Z2 (Z1 (U8 (U4 (U1 (Z2 (Z1 (U16 (U8 (U4 (U2 ([])))))))))))))))))))) m (Y1 (.ptr 0 0 0 :: .ptr 1 0 0 :: .d (.ivs a.nx.length (ints cl)) :: .ptr 2 0 0 :: .d (.int .i64 q) :: Y1 (.sl 3 0 0 len :: Y4 (Y2 (Y1 (.d (.ivs a.nx.length (ints cl)) :: .d (.int .i64 ((a.nx.length:Int))) :: .d (.int .i64 q) :: Y8 (Y4 (Y1 (.d (.ivs rw0.length (ints rw0)) :: .d (.int .i64 ((rw0.length:Int))) :: .d (.int .i64 ((p:Int))) :: Y16 (Y8 (Y4 (Y2 ([]))))))))))))) [.box [.d (.int .i64 a.al),.d (.ivs a.nx.length (aC a.nx)),.d (.ivs a.ac.length (aB a.ac))],.box [.d (.int .i64 0),.sl 4 0 0 0,.sl 5 0 0 0],.box [.d (.int .i64 al2),.sl 6 0 0 d,.sl 7 0 0 d],.arr (ints r) 1 0,.arr [] 0 0,.arr [] 0 0,.arr cn e 0,.arr cs2 e 0] k
  = k (.exit 2) (Y1 (.ptr 0 0 0 :: .ptr 1 0 0 :: .d (.ivs a.nx.length (ints cl)) :: .ptr 2 0 0 :: .d (.int .i64 q) :: Y1 (.sl 3 0 0 (r ++ (rw0.drop p).map (clA cl)).length :: Y4 (Y2 (Y1 (.d (.ivs a.nx.length (ints cl)) :: .d (.int .i64 ((a.nx.length:Int))) :: .d (.int .i64 q) :: Y8 (Y4 (Y1 (.d (.ivs rw0.length (ints rw0)) :: .d (.int .i64 ((rw0.length:Int))) :: .d (.int .i64 ((rw0.length:Int))) :: Y16 (Y8 (Y4 (Y2 ([]))))))))))))) [.box [.d (.int .i64 a.al),.d (.ivs a.nx.length (aC a.nx)),.d (.ivs a.ac.length (aB a.ac))],.box [.d (.int .i64 0),.sl 4 0 0 0,.sl 5 0 0 0],.box [.d (.int .i64 al2),.sl 6 0 0 d,.sl 7 0 0 d],.arr (ints (r ++ (rw0.drop p).map (clA cl))) 1 0,.arr [] 0 0,.arr [] 0 0,.arr cn e 0,.arr cs2 e 0]:=by
 intro j
 induction j with
 | zero =>
  intro p m r len hp hm hlen hr2
  obtain _ | m:=m; omega
  obtain rfl:p = rw0.length:=by omega
  subst hlen
  rw [List.drop_length,List.map_nil,List.append_nil]
  rw [FX]
  simp only [CI,Tryd.f44,SLM,simprocAttr]
  simp -implicitDefEqProofs (maxSteps:=2000000) (disch:=try exact Dz) only [↓DN,↓kAsg,↓kRet,UP,simprocAttr,↓jX,↓yG,LA,Int.lt_irrefl]
 | succ j ih =>
  intro p m r len hp hm hlen hr2
  obtain _ | m:=m; omega
  subst hlen
  have hk:p < rw0.length:=by omega
  have hc:(p:Int) < rw0.length:=by omega
  have hp0:(0:Int) ≤ p:=by omega
  obtain ⟨x0,x1⟩:=hrr _ (r6 hk)
  have x2:rw0.getD p 0 < cl.length:=by omega
  have ih':=ih (p + 1) m (r ++ [clA cl (rw0.getD p 0)]) (r.length + 1) (by omega) (by omega) (by simp) (by simp; omega)
  rw [show ((p + 1:Nat):Int) = (p:Int) + 1 by omega] at ih'
  simp only [List.append_assoc,List.singleton_append] at ih'
  rw [VE hk]
  have hr100:r.length ≤ 1000:=by omega
  clear ih hrr
  generalize (rw0.drop (p + 1)).map (clA cl) = w at *
  unfold clA at *
  generalize hx:rw0.getD p 0 = x at *
  generalize hci:cl.getD x.toNat 0 = ci at *
  rw [FX]
  simp only [CI,Tryd.f44,SLM,simprocAttr]
  simp -implicitDefEqProofs (maxSteps:=2000000) (disch:=try exact Dz) only [↓DN,↓kAsg,↓kRet,UP,simprocAttr,↓jX,↓yG,LA,hc,hp0,hx,x0,x1,x2,hci,hcl,Int.toNat_natCast,dL,dY,cY,gZ,List.length_append,↓ih']
theorem XN {b:List Bool} {x:Bool}:aB b ++ [.bool x] = aB (b ++ [x]):=by simp [aB]
theorem V9 {R:Type} {L n:Nat} (hn:3 ≤ n) (hL:2 ^ 60 ≤ L) {a:Aut} (ha:AOK a) {cl:List Int} (hcl:cl.length = a.nx.length) {al2:Int} {k:Exit → List A → H → Option R}:∀ (j q m:Nat) (d:List (List Int)) (b:List Bool) (len:Nat) (hq:q + j = a.nx.length) (hm:j < m) (hlen:len = d.length) (hb:b.length = d.length) (hdq:d.length ≤ q),
  aU env (aA env L n) L 0 [0,0,0,0,0,0,0,2] (Z1 (U4 (U1 (Z1 (U1 (Z4 (Z2 (Z1 (U2 (U1 (Z8 (Z4 (Z1 (U2 (U1 (Z16 (Z8 (Z4 (Z2 ([])))))))))))))))))))) (jR 0) (U1 (Z4 (U8 (U2 (Z2 (Z1 (U32 (U8 (U4 (U2 ([]))))))))))) m (Y1 (.ptr 0 0 0 :: .ptr 1 0 0 :: .d (.ivs a.nx.length (ints cl)) :: .ptr 2 0 0 :: Y8 (Y2 (.d (.ivs a.nx.length (ints cl)) :: .d (.int .i64 ((a.nx.length:Int))) :: .d (.int .i64 ((q:Int))) :: Y32 (Y8 (Y4 (Y2 ([])))))))) [.box [.d (.int .i64 a.al),.d (.ivs a.nx.length (aC a.nx)),.d (.ivs a.ac.length (aB a.ac))],.box [.d (.int .i64 0),.sl 3 0 0 0,.sl 4 0 0 0],.box [.d (.int .i64 al2),.sl 5 0 0 len,.sl 6 0 0 len],.arr [] 0 0,.arr [] 0 0,.arr (aC d) (eR d) 0,.arr (aB b) (eR d) 0] k
  = k (.exit 0) (Y1 (.ptr 0 0 0 :: .ptr 1 0 0 :: .d (.ivs a.nx.length (ints cl)) :: .ptr 2 0 0 :: Y8 (Y2 (.d (.ivs a.nx.length (ints cl)) :: .d (.int .i64 ((a.nx.length:Int))) :: .d (.int .i64 ((a.nx.length:Int))) :: Y32 (Y8 (Y4 (Y2 ([])))))))) [.box [.d (.int .i64 a.al),.d (.ivs a.nx.length (aC a.nx)),.d (.ivs a.ac.length (aB a.ac))],.box [.d (.int .i64 0),.sl 3 0 0 0,.sl 4 0 0 0],.box [.d (.int .i64 al2),.sl 5 0 0 (quoG a cl j q d b).1.length,.sl 6 0 0 (quoG a cl j q d b).1.length],.arr [] 0 0,.arr [] 0 0,.arr (aC (quoG a cl j q d b).1) (eR (quoG a cl j q d b).1) 0,.arr (aB (quoG a cl j q d b).2) (eR (quoG a cl j q d b).1) 0]:=by
 obtain ⟨sa,wa,a1,a2,a3⟩:=bR ha
 have hal:=sa.1
 intro j
 induction j with
 | zero =>
  intro q m d b len hq hm hlen hb hdq
  obtain _ | m:=m; omega
  obtain rfl:q = a.nx.length:=by omega
  subst hlen
  have e:quoG a cl 0 a.nx.length d b = (d,b):=rfl
  rw [e]
  rw [pR]
  simp only [qI,Tryd.f44,SLM,simprocAttr]
  simp -implicitDefEqProofs (maxSteps:=2000000) (disch:=try exact Dz) only [↓DN,↓kAsg,↓kRet,UP,simprocAttr,↓jX,↓yG,LA,Int.lt_irrefl]
 | succ j ih =>
  intro q m d b len hq hm hlen hb hdq
  obtain _ | m:=m; omega
  subst hlen
  have hqc:(q:Int) < a.nx.length:=by omega
  have hql:(q:Int) < cl.length:=by omega
  have hq0:(0:Int) ≤ q:=by omega
  have hqa:(q:Int) < a.ac.length:=by omega
  unfold quoG
  by_cases hlt:cl.getD q 0 < d.length
  ·rw [if_pos hlt]
   have ih':=ih (q + 1) m d b d.length (by omega) (by omega) rfl hb (by omega)
   rw [show ((q + 1:Nat):Int) = (q:Int) + 1 by omega] at ih'
   clear ih
   generalize quoG a cl j (q + 1) d b = z at *
   rw [pR]
   simp only [qI,Tryd.f44,SLM,simprocAttr]
   simp -implicitDefEqProofs (maxSteps:=2000000) (disch:=try exact Dz) only [↓DN,↓kAsg,↓kRet,UP,simprocAttr,↓jX,↓yG,LA,hqc,hql,hq0,hcl,hlt,Int.toNat_natCast,dL,dY,↓ih']
  ·rw [if_neg hlt]
   have hrow:=(x4 ha (i:=q) (by omega)).1
   have hll:=eP a.al
   have hrr:∀ x ∈ a.nx.getD q [],0 ≤ x ∧ x < a.nx.length:=by
    intro x hx
    have hm2:=N9 ha (v:=(q:Int)) (by omega) (by omega)
    unfold rowA at hm2
    rw [Int.toNat_natCast] at hm2
    rw [← hm2] at hx
    obtain ⟨l,hl,rfl⟩:=List.mem_map.1 hx
    exact yJ ha q l (by omega) (by omega) hl
   have loop_c:=fun {R:Type} {n:Nat} {d e:Nat} {cn cs2:List D} {k:Exit → List A → H → Option R} (hn:3 ≤ n) => @V5 R L n hn hL a cl hcl a2 (a.nx.getD q []) (by omega) hrr (q:Int) al2 d e cn cs2 k (a.nx.getD q []).length 0 L [] 0 (by omega) (by omega) rfl (by rw [List.length_nil]; omega)
   rw [List.drop_zero] at loop_c
   simp only [Int.natCast_zero,List.nil_append,qS] at loop_c
   have ih':=ih (q + 1) m (d ++ [(a.nx.getD q []).map (clA cl)]) (b ++ [acQ a q]) (d.length + 1) (by omega) (by omega) (by simp) (by simp [hb]) (by simp; omega)
   rw [show ((q + 1:Nat):Int) = (q:Int) + 1 by omega,CO] at ih'
   have hw6:((a.nx.getD q []).map (clA cl)).length ≤ 6:=by rw [List.length_map]; omega
   have ht:(aC d).take d.length = aC d:=nT (Nat.le_refl _)
   have ht2:(aB b).take d.length = aB b:=iU (by omega)
   have hd12:d.length ≤ 12:=by omega
   clear ih hrr
   unfold acQ at *
   rw [Int.toNat_natCast] at ih' ⊢
   generalize quoG a cl j (q + 1) (d ++ [(a.nx.getD q []).map (clA cl)]) (b ++ [a.ac.getD q false]) = z at *
   generalize (a.nx.getD q []).map (clA cl) = w at *
   have hwt:(ints w).take w.length = ints w:=by rw [cY (Nat.le_refl _)]
   rcases aA2 d with h1 | h1
   ·rw [h1]
    rw [pR]
    simp only [qI,Tryd.f44,SLM,simprocAttr]
    simp -implicitDefEqProofs (maxSteps:=2000000) (disch:=try exact Dz) only [↓DN,↓kAsg,↓kRet,UP,simprocAttr,↓jX,↓yG,LA,hqc,hql,hq0,hqa,hcl,hlt,Int.toNat_natCast,dL,dY,dZ,eN,↓loop_c,ht,ht2,hwt,tN,XN,↓ih']
   ·rw [h1]
    rw [pR]
    simp only [qI,Tryd.f44,SLM,simprocAttr]
    simp -implicitDefEqProofs (maxSteps:=2000000) (disch:=try exact Dz) only [↓DN,↓kAsg,↓kRet,UP,simprocAttr,↓jX,↓yG,LA,hqc,hql,hq0,hqa,hcl,hlt,Int.toNat_natCast,dL,dY,dZ,eN,↓loop_c,ht,ht2,hwt,tN,XN,↓ih']
theorem aNg {R:Type} {L n:Nat} {o0 o1 o2 o3 o4:O} {T:H} {k:A → H → Option R} (hn:9 ≤ n) (hL:2 ^ 60 ≤ L) {a:Aut} (ha:AOK a) :
  aL env (aA env L n) (o0 :: o1 :: o2 :: o3 :: o4 :: .arr (aC a.nx) 1 0 :: .arr (aB a.ac) 1 0 :: T) 65 [.agg [.d (.int .i64 a.al),.sl 5 0 0 a.nx.length,.sl 6 0 0 a.nx.length]] k
  = k (.agg [.d (.int .i64 (eL a).al),.d (.ivs (eL a).nx.length (aC (eL a).nx)),.d (.ivs (eL a).ac.length (aB (eL a).ac))]) (o0 :: o1 :: o2 :: o3 :: o4 :: .ice (aC a.nx) 1 0 :: .ice (aB a.ac) 1 0 :: T):=by
 obtain ⟨sa,wa,a1,a2,a3⟩:=bR ha
 have hev:=@aD5 L n hn a ha hL
 have hre:aF aG (o0 :: o1 :: o2 :: o3 :: o4 :: O.arr (aC a.nx) 1 0 :: O.arr (aB a.ac) 1 0 :: T) [5,6] [] = [5,6]:=by
  have e1:aF aG (o0 :: o1 :: o2 :: o3 :: o4 :: O.arr (aC a.nx) 1 0 :: O.arr (aB a.ac) 1 0 :: T) [5,6] [] = aF (aG - 2) (o0 :: o1 :: o2 :: o3 :: o4 :: O.arr (aC a.nx) 1 0 :: O.arr (aB a.ac) 1 0 :: T) [] [5,6]:=rfl
  rw [e1]; rfl
 refine aBU MQ (ids:=[5,6]) (ord:=[5,6]) (blk:=[.arr (aC a.nx) 1 0,.arr (aB a.ac) 1 0]) (blk2:=[.ice (aC a.nx) 1 0,.ice (aB a.ac) 1 0]) (fs:=[.agg [.d (.int .i64 a.al),.d (.ivs a.nx.length (aC a.nx)),.d (.ivs a.ac.length (aB a.ac))]]) ?_ hre rfl ?_ ?_ hev ?_ (by simp) ?_
 ·rfl
 ·simp [jO,frzA,frzL,hZ,frz,frz0,aH,mapA,aK,deep,mZ,d7,a3,List.take_of_length_le]
 ·rfl
 ·rfl
 ·simp [bG,mapO]
theorem aET {L n:Nat} (hn:10 ≤ n) (a:Aut) (ha:AOK a) (hL:2 ^ 60 ≤ L):aA env L n 44 [.agg [.d (.int .i64 a.al),.d (.ivs a.nx.length (aC a.nx)),.d (.ivs a.ac.length (aB a.ac))]] [] = some (.agg [.d (.int .i64 (minA a).al),.d (.ivs (minA a).nx.length (aC (minA a).nx)),.d (.ivs (minA a).ac.length (aB (minA a).ac))],[]):=by
 obtain ⟨sa,wa,a1,a2,a3⟩:=bR ha
 have hal:=sa.1
 have hcl:=TT ha
 have hqo:=(tM ha).ok
 obtain ⟨_,_,q1,q2,q3⟩:=bR hqo
 have loop_c:=fun {R:Type} {n:Nat} {k:Exit → List A → H → Option R} (hn:3 ≤ n) => @V9 R L n hn hL a ha (dC a) hcl a.al k a.nx.length 0 L [] [] 0 (by omega) (by omega) rfl rfl (by simp)
 have e1:(quoG a (dC a) a.nx.length 0 [] []).1 = (quoA a).nx:=rfl
 have e2:(quoG a (dC a) a.nx.length 0 [] []).2 = (quoA a).ac:=rfl
 rw [e1,e2,aRn,aRz (by omega)] at loop_c
 simp only [Int.natCast_zero,lD,nV] at loop_c
 have kc_q:=fun {R:Type} {n:Nat} {o0 o1 o2 o3 o4:O} {T:H} {k:A → H → Option R} (hn:9 ≤ n) => @aNg R L n o0 o1 o2 o3 o4 T k hn hL (quoA a) hqo
 have kc_c:=fun {R:Type} {n:Nat} {hq:H} {k:A → H → Option R} (hn:6 ≤ n) => @jX R L n hq k hn a ha hL
 have e3:eL (quoA a) = minA a:=rfl
 have e4:(quoA a).al = a.al:=rfl
 rw [e3,e4] at kc_q
 rw [hcl] at kc_c
 clear e1 e2 e3 e4
 generalize minA a = x at *
 generalize (quoA a).nx = w1 at *
 generalize (quoA a).ac = w2 at *
 generalize dC a = cl at *
 obtain _ | n:=n; omega
 rw [aE9]
 simp only [SN,Tryd.f44,SLM,simprocAttr]
 simp -implicitDefEqProofs (maxSteps:=2000000) (disch:=try exact Dz) only [↓DN,↓kAsg,↓kRet,UP,simprocAttr,LA,hcl,↓kc_c,↓loop_c,↓kc_q,Nat.le_refl]
theorem RC {R:Type} {L n:Nat} {hq:H} {k:A → H → Option R} (hn:10 ≤ n) (a:Aut) (ha:AOK a) (hL:2 ^ 60 ≤ L):aL env (aA env L n) hq 44 [.agg [.d (.int .i64 a.al),.d (.ivs a.nx.length (aC a.nx)),.d (.ivs a.ac.length (aB a.ac))]] k = k (.agg [.d (.int .i64 (minA a).al),.d (.ivs (minA a).nx.length (aC (minA a).nx)),.d (.ivs (minA a).ac.length (aB (minA a).ac))]) hq :=
 aV rfl (aET hn a ha hL) rfl (.inr rfl)
theorem MO {L n:Nat} (hn:11 ≤ n) (a:Aut) (ha:AOK a) (hL:2 ^ 60 ≤ L):aA env L n 16 [.agg [.d (.int .i64 a.al),.d (.ivs a.nx.length (aC a.nx)),.d (.ivs a.ac.length (aB a.ac))]] [] = some (.tup [.agg [.d (.int .i64 (minA a).al),.d (.ivs (minA a).nx.length (aC (minA a).nx)),.d (.ivs (minA a).ac.length (aB (minA a).ac))],.d (.bool true)],[]):=by
 obtain ⟨sa,wa,a1,a2,a3⟩:=bR ha
 have hrl:=sa.1
 have hac:a.ac.length ≤ 4294967296:=by omega
 have kc_t:=fun {R:Type} {n:Nat} {hq:H} {k:A → H → Option R} (hn:10 ≤ n) => @RC R L n hq k hn a ha hL
 unfold AOK at ha
 generalize minA a = x at *
 obtain _ | n:=n; omega
 rw [MZ]
 simp only [xY,Tryd.f16,SLM,simprocAttr]
 simp -implicitDefEqProofs (maxSteps:=2000000) (disch:=try exact Dz) only [↓DN,↓kAsg,↓kRet,UP,simprocAttr,↓dB,↓dA,↓cT,↓cR,↓cS,LA,ha,↓kc_t]
theorem mF {R:Type} {L n:Nat} {hq:H} {k:A → H → Option R} (hn:11 ≤ n) (a:Aut) (ha:AOK a) (hL:2 ^ 60 ≤ L):aL env (aA env L n) hq 16 [.agg [.d (.int .i64 a.al),.d (.ivs a.nx.length (aC a.nx)),.d (.ivs a.ac.length (aB a.ac))]] k = k (.tup [.agg [.d (.int .i64 (minA a).al),.d (.ivs (minA a).nx.length (aC (minA a).nx)),.d (.ivs (minA a).ac.length (aB (minA a).ac))],.d (.bool true)]) hq :=
 aV rfl (MO hn a ha hL) rfl (.inr rfl)
theorem aNI {h:H} {a b c:A}:yK env.P h 26 1 (.agg [a,b,c]) = some (b,h):=by
 have h1:a9 env.P 26 1 = some (1,23):=by kernel_rfl
 have h2:bM env.P 23 = some false:=by kernel_rfl
 have h3:env.P.cellsOf 23 = 1:=by kernel_rfl
 simp [yK,h1,h2,h3,rX]
theorem OJ {L n:Nat} (hn:11 ≤ n) (a:Aut) (ha:AOK a) (hL:2 ^ 60 ≤ L):aA env L n 17 [.agg [.d (.int .i64 a.al),.d (.ivs a.nx.length (aC a.nx)),.d (.ivs a.ac.length (aB a.ac))]] [] = some (.d (.bool (decide (((minA a).nx.length:Int) = a.nx.length))),[]):=by
 obtain ⟨sa,wa,a1,a2,a3⟩:=bR ha
 have hrl:=sa.1
 have hac:a.ac.length ≤ 4294967296:=by omega
 have kc_t:=fun {R:Type} {n:Nat} {hq:H} {k:A → H → Option R} (hn:10 ≤ n) => @RC R L n hq k hn a ha hL
 unfold AOK at ha
 generalize minA a = x at *
 obtain _ | n:=n; omega
 rw [aCt]
 simp only [Q5,Tryd.f17,SLM,simprocAttr]
 simp -implicitDefEqProofs (maxSteps:=2000000) (disch:=try exact Dz) only [↓DN,↓kAsg,↓kRet,UP,simprocAttr,↓dB,↓dA,↓cT,↓cR,↓cS,LA,ha,↓kc_t,aNI,Nat.sub_self,List.range'_zero]
theorem uJ {R:Type} {L n:Nat} {hq:H} {k:A → H → Option R} (hn:11 ≤ n) (a:Aut) (ha:AOK a) (hL:2 ^ 60 ≤ L):aL env (aA env L n) hq 17 [.agg [.d (.int .i64 a.al),.d (.ivs a.nx.length (aC a.nx)),.d (.ivs a.ac.length (aB a.ac))]] k = k (.d (.bool (decide (((minA a).nx.length:Int) = a.nx.length)))) hq :=
 aV rfl (OJ hn a ha hL) rfl (.inl rfl)
theorem CW {R:Type} {L n:Nat} {k:A → Option R} (hn:11 ≤ n) (a:Aut) (ha:AOK a) (hL:2 ^ 60 ≤ L):aW (aA env L n) 17 [.agg [.d (.int .i64 a.al),.d (.ivs a.nx.length (aC a.nx)),.d (.ivs a.ac.length (aB a.ac))]] k = k (.d (.bool (decide (((minA a).nx.length:Int) = a.nx.length)))) :=
 kO (OJ hn a ha hL) rfl
theorem xG {R:Type} {L n:Nat} {hq:H} {k:A → H → Option R} {id0 g0 o0 len0:Nat} {a:Aut}:aL env (aA env L n) hq 17 [.agg [.d (.int .i64 a.al),.sl id0 g0 o0 len0,.d (.ivs a.ac.length (aB a.ac))]] k = match box (a5 hq [.agg [.d (.int .i64 a.al),.sl id0 g0 o0 len0,.d (.ivs a.ac.length (aB a.ac))]]) with
  | .mk (some fs) => aW (aA env L n) 17 fs fun r => k r hq
  | _ => none:=aM n6
theorem xJ {R:Type} {L n:Nat} {hq:H} {k:A → H → Option R} {id1 g1 o1 len1:Nat} {a:Aut}:aL env (aA env L n) hq 17 [.agg [.d (.int .i64 a.al),.d (.ivs a.nx.length (aC a.nx)),.sl id1 g1 o1 len1]] k = match box (a5 hq [.agg [.d (.int .i64 a.al),.d (.ivs a.nx.length (aC a.nx)),.sl id1 g1 o1 len1]]) with
  | .mk (some fs) => aW (aA env L n) 17 fs fun r => k r hq
  | _ => none:=aM n6
theorem xF {R:Type} {L n:Nat} {hq:H} {k:A → H → Option R} {id1 g1 o1 len1:Nat} {id0 g0 o0 len0:Nat} {a:Aut}:aL env (aA env L n) hq 17 [.agg [.d (.int .i64 a.al),.sl id0 g0 o0 len0,.sl id1 g1 o1 len1]] k = match box (a5 hq [.agg [.d (.int .i64 a.al),.sl id0 g0 o0 len0,.sl id1 g1 o1 len1]]) with
  | .mk (some fs) => aW (aA env L n) 17 fs fun r => k r hq
  | _ => none:=aM n6
section
def swA (a:Aut) (x y:Int):Aut:=⟨b5 a.al x y,fD a.al a.nx x y (aE (b5 a.al x y)) 0 a.nx.length,a.ac⟩
def swW (x y:Int) (w:List Int):List Int:=w.map fun l => fQ l x y
section
variable {a:Aut} {x y:Int}
theorem R7 (h:AOK a) (hx:bL x = true) (hy:bL y = true):AOK (swA a x y):=aCI h hx hy
theorem VX:(swA a x y).nx.length = a.nx.length:=rA
theorem aKr {al l:Int} (h:l ∈ aE al):bL l = true:=by
 obtain ⟨⟨h0,h1⟩,_⟩:=gR.1 h
 exact I6.2 ⟨h0,h1⟩
theorem aLd (h:AOK a) (hx:bL x = true) (hy:bL y = true) {l:Int} (hl:l ∈ aE (swA a x y).al):fQ l x y ∈ aE a.al:=by
 have ha:=(mT h).2.2.2
 obtain ⟨_,hb⟩:=gR.1 hl
 have hi:=aKr hl
 rw [show (swA a x y).al = b5 a.al x y from rfl,QH ha hx hy hi] at hb
 exact gR.2 ⟨I6.1 (vL hi hx hy),hb⟩
theorem aRi (h:AOK a) (hx:bL x = true) (hy:bL y = true) {l:Int} (hl:l ∈ aE a.al):fQ l x y ∈ aE (swA a x y).al:=by
 have ha:=(mT h).2.2.2
 obtain ⟨_,hb⟩:=gR.1 hl
 have hi:=aKr hl
 have hs:=vL hi hx hy
 refine gR.2 ⟨I6.1 hs,?_⟩
 rw [show (swA a x y).al = b5 a.al x y from rfl,QH ha hx hy hs,DB]
 exact hb
theorem VU (h:AOK a) (hx:bL x = true) (hy:bL y = true) {w:List Int} (hw:∀ l ∈ w,l ∈ aE (swA a x y).al):∀ l ∈ swW x y w,l ∈ aE a.al:=by
 intro l hl
 obtain ⟨m,hm,rfl⟩:=List.mem_map.1 hl
 exact aLd h hx hy (hw m hm)
theorem PU (h:AOK a) (hx:bL x = true) (hy:bL y = true) {w:List Int} (hw:∀ l ∈ w,l ∈ aE a.al):∀ l ∈ swW x y w,l ∈ aE (swA a x y).al:=by
 intro l hl
 obtain ⟨m,hm,rfl⟩:=List.mem_map.1 hl
 exact aRi h hx hy (hw m hm)
theorem aEh (w:List Int):swW x y (swW x y w) = w:=by
 unfold swW
 rw [List.map_map]
 have:((fun l => fQ l x y) ∘ fun l => fQ l x y) = id:=by
  funext l; exact DB
 rw [this,List.map_id]
theorem aRV (h:AOK a) (hx:bL x = true) (hy:bL y = true) {q l:Int} (q0:0 ≤ q) (q1:q < a.nx.length) (hl:l ∈ aE (swA a x y).al):goS (swA a x y) q l = goS a q (fQ l x y):=by
 obtain ⟨⟨l0,l1⟩,hb⟩:=gR.1 hl
 exact aJt q0 q1 l0 l1 hb
theorem DY (h:AOK a) (hx:bL x = true) (hy:bL y = true):∀ (w:List Int) (q:Int),0 ≤ q → q < a.nx.length → (∀ l ∈ w,l ∈ aE (swA a x y).al) → w.foldl (goS (swA a x y)) q = (swW x y w).foldl (goS a) q
 | [],q,_,_,_ => rfl
 | l :: w,q,q0,q1,hw => by
  have hl:=hw l List.mem_cons_self
  show w.foldl (goS (swA a x y)) (goS (swA a x y) q l) = (swW x y w).foldl (goS a) (goS a q (fQ l x y))
  rw [aRV h hx hy q0 q1 hl]
  have hr:=yJ h q _ q0 q1 (aLd h hx hy hl)
  exact DY h hx hy w _ hr.1 hr.2 fun m hm => hw m (List.mem_cons_of_mem _ hm)
theorem aMT (h:AOK a) (hx:bL x = true) (hy:bL y = true) {w:List Int} (hw:∀ l ∈ w,l ∈ aE (swA a x y).al):accW (swA a x y) w = accW a (swW x y w):=by
 obtain ⟨_,_,a1,_,_⟩:=bR h
 unfold accW
 rw [DY h hx hy w 0 (by omega) (by omega) hw]
 rfl
theorem aRO (h:AOK a) (hx:bL x = true) (hy:bL y = true) {i j:Nat} (hi:i < a.nx.length) (hj:j < a.nx.length):Eqv (swA a x y) i j ↔ Eqv a i j:=by
 constructor
 ·intro he w hw
  have:=he (swW x y w) (PU h hx hy hw)
  rw [DY h hx hy _ _ (by omega) (by omega) (PU h hx hy hw),DY h hx hy _ _ (by omega) (by omega) (PU h hx hy hw),aEh] at this
  exact this
 ·intro he w hw
  have:=he (swW x y w) (VU h hx hy hw)
  rw [← DY h hx hy _ _ (by omega) (by omega) hw,← DY h hx hy _ _ (by omega) (by omega) hw] at this
  exact this
theorem aFu (h:AOK a) (hx:bL x = true) (hy:bL y = true):dC (swA a x y) = dC a :=
 (aJp h (R7 h hx hy) VX.symm fun i j hi hj => (aRO h hx hy hi hj).symm).symm
theorem aJR (h:AOK a) (hx:bL x = true) (hy:bL y = true):(minA (swA a x y)).nx.length = (minA a).nx.length:=by
 obtain ⟨_,_,a1,_,_⟩:=bR h
 have hb:=R7 h hx hy
 have hcl:=aFu h hx hy
 rw [aIi,aIi]
 obtain ⟨W1,hB1⟩:=C3 (tM h).ok
 obtain ⟨W2,hB2⟩:=C3 (tM hb).ok
 have hz:=(tM h).zero
 have hreach:∀ v,v ∈ ordA (quoA (swA a x y)) ↔ v ∈ ordA (quoA a):=by
  intro v
  rw [aEm (tM hb).ok,aEm (tM h).ok]
  constructor
  ·rintro ⟨w,hw,rfl⟩
   have hw1:∀ l ∈ w,l ∈ aE (swA a x y).al:=hw
   refine ⟨swW x y w,VU h hx hy hw1,?_⟩
   obtain ⟨p,hp,e1,e2⟩:=HA hb w 0 (by rw [VX]; omega) hw1
   obtain ⟨r,hr,e3,e4⟩:=HA h (swW x y w) 0 (by omega) (VU h hx hy hw1)
   rw [DY h hx hy w _ (by omega) (by omega) hw1,e3] at e1
   have hpr:r = p:=by omega
   rw [hz] at e4
   rw [hcl,hz] at e2
   rw [e4,e2,hpr]
  ·rintro ⟨w,hw,rfl⟩
   have hw1:∀ l ∈ w,l ∈ aE a.al:=hw
   have hw2:=PU h hx hy hw1
   refine ⟨swW x y w,hw2,?_⟩
   obtain ⟨p,hp,e1,e2⟩:=HA hb (swW x y w) 0 (by rw [VX]; omega) hw2
   obtain ⟨r,hr,e3,e4⟩:=HA h w 0 (by omega) hw1
   rw [DY h hx hy _ _ (by omega) (by omega) hw2,aEh,e3] at e1
   have hpr:r = p:=by omega
   rw [hz] at e4
   rw [hcl,hz] at e2
   rw [e4,e2,hpr]
 have l1:=yI hB1.nod fun v hv => (hreach v).2 hv
 have l2:=yI hB2.nod fun v hv => (hreach v).1 hv
 omega
theorem aJa (h:AOK a) (hx:bL x = true) (hy:bL y = true) {w:List Int} (hw:∀ l ∈ w,l ∈ aE (b5 a.al x y)):accW (swA (minA a) x y) w = accW (minA (swA a x y)) w:=by
 have hw1:∀ l ∈ w,l ∈ aE (swA a x y).al:=hw
 have hw2:∀ l ∈ w,l ∈ aE (swA (minA a) x y).al:=hw
 have hs:=VU h hx hy hw1
 rw [aMT (aGU h) hx hy hw2,aH3 h hs,aH3 (R7 h hx hy) hw1,aMT h hx hy hw1]
end
theorem aDW {a b:Aut} (h:AOK a) (hb:AOK b) (hal:a.al = b.al):∀ (w:List Int) (i j u:Int),0 ≤ i → i < a.nx.length → 0 ≤ j → j < b.nx.length →
  Path (nxT a b) (aE a.al) (i * b.nx.length + j) w u → (∀ l ∈ w,l ∈ aE a.al) ∧ u = w.foldl (goS a) i * b.nx.length + w.foldl (goS b) j ∧ (0 ≤ w.foldl (goS a) i ∧ 0 ≤ w.foldl (goS b) j ∧ w.foldl (goS b) j < b.nx.length)
 | [],i,j,u,i0,i1,j0,j1,hp => by
  simp only [Path] at hp
  exact ⟨by simp,hp.symm,i0,j0,j1⟩
 | l :: w,i,j,u,i0,i1,j0,j1,hp => by
  have hn:(0:Int) < b.nx.length:=by omega
  have hsum:0 ≤ i * b.nx.length + j:=by
   have:=Int.mul_nonneg i0 (Int.le_of_lt hn)
   omega
  have e1:(i * (b.nx.length:Int) + j).tdiv b.nx.length = i:=by
   rw [Int.tdiv_eq_ediv_of_nonneg hsum,Int.add_comm,Int.add_mul_ediv_right _ _ (by omega),Int.ediv_eq_zero_of_lt j0 j1]
   omega
  have e2:(i * (b.nx.length:Int) + j).tmod b.nx.length = j:=by
   rw [Int.tmod_eq_emod_of_nonneg hsum,Int.add_comm,Int.add_mul_emod_self_right,Int.emod_eq_of_lt j0 j1]
  simp only [Path,nxT,e1,e2,List.mem_singleton,exists_eq_left] at hp
  obtain ⟨hl,hp⟩:=hp
  have gi:=yJ h i l i0 i1 hl
  have gj:=yJ hb j l j0 j1 (hal ▸ hl)
  obtain ⟨h1,h2,h3⟩:=aDW h hb hal w (goS a i l) (goS b j l) u gi.1 gi.2 gj.1 gj.2 hp
  refine ⟨?_,h2,h3⟩
  intro z hz
  rcases List.mem_cons.1 hz with rfl | hz
  ·exact hl
  ·exact h1 z hz
theorem aLi {a b:Aut} (h:AOK a) (hb:AOK b) (hal:a.al = b.al) (hs:∀ w:List Int,(∀ l ∈ w,l ∈ aE a.al) → accW a w = accW b w):(twoG (fun x y => x != y) a b 0 0).2 = false:=by
 obtain ⟨_,_,a1,_,_⟩:=bR h
 obtain ⟨_,_,b1,_,_⟩:=bR hb
 have hin:=VY (x:=0) (y:=0) (na:=(a.nx.length:Int)) (nb:=(b.nx.length:Int)) (by omega) (by omega)
 have hF:aOY (Hits (nxT a b) (aE a.al) [0 * (b.nx.length:Int) + 0] (glT (fun x y => x != y) a b)) (twoG (fun x y => x != y) a b 0 0):=by
  refine aQg (XD _) (fun v c h0 h1 hc m hm => ?_) (fun n hn => ?_) (by simp)
  ·have:=pA c hc
   rw [Int.natCast_mul] at h1 ⊢
   exact aH9 h hb h0 h1 ⟨this.1,by omega⟩ m hm
  ·simp only [List.mem_singleton] at hn
   subst hn
   rw [Int.natCast_mul]; exact hin
 rcases hF with ⟨_,⟨⟨u,⟨s,hs1,hp⟩,hg⟩,_⟩⟩ | ⟨e,_⟩
 ·exfalso
  simp only [List.mem_singleton] at hs1
  subst hs1
  obtain ⟨h1,h2,h3,h4,h5⟩:=aDW h hb hal _ 0 0 u (by omega) (by omega) (by omega) (by omega) hp
  have hsum:0 ≤ u:=by
   rw [h2]
   have:=Int.mul_nonneg h3 (show (0:Int) ≤ b.nx.length by omega)
   omega
  have e1:u.tdiv b.nx.length = (twoG (fun x y => x != y) a b 0 0).1.foldl (goS a) 0:=by
   rw [Int.tdiv_eq_ediv_of_nonneg hsum,h2,Int.add_comm,Int.add_mul_ediv_right _ _ (by omega),Int.ediv_eq_zero_of_lt h4 h5]
   omega
  have e2:u.tmod b.nx.length = (twoG (fun x y => x != y) a b 0 0).1.foldl (goS b) 0:=by
   rw [Int.tmod_eq_emod_of_nonneg hsum,h2,Int.add_comm,Int.add_mul_emod_self_right,Int.emod_eq_of_lt h4 h5]
  unfold glT at hg
  rw [e1,e2] at hg
  have:=hs _ h1
  unfold accW acQ at this
  rw [this] at hg
  simp at hg
 ·rw [e]
end

section
section
variable (go:Int → Int → Int) (ls:List Int) (acc:Int → Bool)
def aLL (w:List Int) (q:Int):Int:=w.foldl go q
def aFd (k:Nat) (i j:Int):Prop:=∀ w:List Int,(∀ l ∈ w,l ∈ ls) → w.length ≤ k → acc (aLL go w i) = acc (aLL go w j)
variable {go ls acc}
theorem aJz {k m:Nat} {i j:Int} (h:aFd go ls acc m i j) (hk:k ≤ m):aFd go ls acc k i j:=fun w a b => h w a (Nat.le_trans b hk)
variable (go ls acc)
open Classical in
noncomputable def repB (k i:Nat):Bool:=decide (∀ j:Nat,j < i → ¬ aFd go ls acc k (j:Int) (i:Int))
noncomputable def repC (n k:Nat):Nat:=(List.range n).countP (repB go ls acc k)
variable {go ls acc}
theorem aNs {k i:Nat}:repB go ls acc k i = true ↔ ∀ j:Nat,j < i → ¬ aFd go ls acc k (j:Int) (i:Int):=by
 unfold repB
 simp
theorem aNX {k i:Nat} (h:repB go ls acc k i = true):repB go ls acc (k + 1) i = true:=by
 rw [aNs] at h ⊢
 exact fun j hj ha => h j hj (aJz ha (by omega))
theorem aRD {n k:Nat}:repC go ls acc n k ≤ repC go ls acc n (k + 1):=List.countP_mono_left fun _ _ h => aNX h
theorem aR0 {n:Nat}:∀ k:Nat,(∀ m,m < k → repC go ls acc n m ≠ repC go ls acc n (m + 1)) → repC go ls acc n 0 + k ≤ repC go ls acc n k
 | 0,_ => Nat.le_refl _
 | k + 1,h => by
  have h1:=aR0 (n:=n) k fun m hm => h m (by omega)
  have h2:=aRD (go:=go) (ls:=ls) (acc:=acc) (n:=n) (k:=k)
  have h3:=h k (by omega)
  omega
end
end


end Ev
end Go.Proofs.YtppdfjdfjfoddaaDoor
