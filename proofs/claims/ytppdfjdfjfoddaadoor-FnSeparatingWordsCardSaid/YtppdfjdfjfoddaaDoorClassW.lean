/-
  Classes of states that no word tells apart: plain laws.
-/
import Derived.Test.YtppdfjdfjfoddaaDoorFirsts
import Derived.Test.YtppdfjdfjfoddaaDoorItoa
import Derived.Test.YtppdfjdfjfoddaaDoorAccess
import Derived.Test.YtppdfjdfjfoddaaDoorWrongA
import Derived.Test.YtppdfjdfjfoddaaDoorEvDef
import Derived.Test.YtppdfjdfjfoddaaDoorPathY
import Derived.Test.YtppdfjdfjfoddaaDoorAutH
set_option linter.unusedSimpArgs false
set_option linter.unusedVariables false
set_option maxRecDepth 8000
set_option maxHeartbeats 4000000
namespace Go.Proofs.YtppdfjdfjfoddaaDoor
namespace Ev
def clA (cl:List Int) (t:Int):Int:=cl.getD t.toNat 0
def sigA (a:Aut) (cl:List Int) (q:Nat):List Int:=cl.getD q 0 :: (a.nx.getD q []).map (clA cl)
def sigs (a:Aut) (cl:List Int):List (List Int):=(List.range a.nx.length).map (sigA a cl)
def clsG (a:Aut):Nat → List Int → Nat → List Int
 | 0,cl,_ => cl
 | j + 1,cl,c => if (bG (sigs a cl)).length = c then numL (sigs a cl) else clsG a j (numL (sigs a cl)) (bG (sigs a cl)).length
def cl0 (a:Aut):List Int:=a.ac.map fun b => if b = true then 1 else 0
def lS (a:Aut):List Int:=clsG a (a.nx.length + 1) (cl0 a) 0
def acQ (a:Aut) (q:Int):Bool:=a.ac.getD q.toNat false
def Eqv (a:Aut) (i j:Int):Prop:=∀ w:List Int,(∀ l ∈ w,l ∈ aD a.al) → acQ a (w.foldl (goS a) i) = acQ a (w.foldl (goS a) j)
theorem aS6 {a:Aut} {i j l:Int} (h:Eqv a i j) (hl:l ∈ aD a.al):Eqv a (goS a i l) (goS a j l):=fun w hw => h (l :: w) fun x hx => by
 rcases List.mem_cons.1 hx with rfl | hx
 ·exact hl
 ·exact hw x hx
structure Cls (a:Aut) (cl:List Int):Prop where
 len:cl.length = a.nx.length
 rng:∀ q,q < a.nx.length → 0 ≤ cl.getD q 0 ∧ cl.getD q 0 < 12
 coarse:∀ i j:Nat,i < a.nx.length → j < a.nx.length → Eqv a i j → cl.getD i 0 = cl.getD j 0
 fine:∀ i j:Nat,i < a.nx.length → j < a.nx.length → cl.getD i 0 = cl.getD j 0 → acQ a i = acQ a j
theorem j2 (a:Aut) (cl:List Int):(sigs a cl).length = a.nx.length:=by unfold sigs; rw [List.length_map,List.length_range]
theorem s6 {a:Aut} {cl:List Int} {q:Nat} (hq:q < (sigs a cl).length):(sigs a cl)[q] = sigA a cl q:=by
 have h:(sigs a cl)[q]? = some (sigA a cl q):=by
  have hq2:=hq
  rw [j2] at hq2
  show ((List.range a.nx.length).map (sigA a cl))[q]? = _
  rw [List.getElem?_map,List.getElem?_range hq2]; rfl
 rw [List.getElem?_eq_getElem hq] at h
 exact Option.some.inj h
theorem LI {a:Aut} (h:AOK a) {cl:List Int} {q:Nat} (hq:q < a.nx.length):(a.nx.getD q []).map (clA cl) = (aD a.al).map fun l => clA cl (goS a q l):=by
 have:=aKm h (v:=(q:Int)) (by omega) (by omega)
 unfold rowA at this
 rw [Int.toNat_natCast] at this
 rw [← this,List.map_map]
 rfl
theorem PZ {a:Aut} (h:AOK a) {q:Nat} (hq:q < a.nx.length) {l:Int} (hl:l ∈ aD a.al):∃ p:Nat,goS a q l = (p:Int) ∧ p < a.nx.length:=by
 have:=aKC h q l (by omega) (by omega) hl
 exact ⟨(goS a q l).toNat,by omega,by omega⟩
theorem aAL {a:Aut} {cl:List Int} {i j:Nat} (hi:i < a.nx.length) (hj:j < a.nx.length):(numL (sigs a cl)).getD i 0 = (numL (sigs a cl)).getD j 0 ↔ sigA a cl i = sigA a cl j:=by
 have hi':i < (sigs a cl).length:=by rw [j2]; exact hi
 have hj':j < (sigs a cl).length:=by rw [j2]; exact hj
 rw [aKb hi' hj',s6,s6]
theorem aH9 {a:Aut} (h:AOK a) {cl:List Int} (hc:Cls a cl):Cls a (numL (sigs a cl)):=by
 obtain ⟨_,_,a1,a2,a3⟩:=dU h
 refine ⟨by rw [RR,j2],?_,?_,?_⟩
 ·intro q hq
  have h1:=aPO (l:=sigs a cl) (i:=q) (by rw [j2]; exact hq)
  have h2:=SS (sigs a cl)
  rw [j2] at h2
  omega
 ·intro i j hi hj he
  rw [aAL hi hj]
  unfold sigA
  rw [hc.coarse i j hi hj he,LI h hi,LI h hj]
  congr 1
  apply List.map_congr_left
  intro l hl
  obtain ⟨p,e1,hp⟩:=PZ h hi hl
  obtain ⟨q,e2,hq⟩:=PZ h hj hl
  have:=aS6 he hl
  rw [e1,e2] at this ⊢
  exact hc.coarse p q hp hq this
 ·intro i j hi hj he
  rw [aAL hi hj] at he
  unfold sigA at he
  exact hc.fine i j hi hj (List.cons.inj he).1
theorem XP {a:Aut} {cl:List Int} (hc:Cls a cl):(sigs a cl).map (fun s => s.headD 0) = cl:=by
 apply List.ext_getElem
 ·rw [List.length_map,j2,hc.len]
 ·intro q h1 h2
  rw [List.getElem_map,s6]
  show cl.getD q 0 = _
  rw [List.getD_eq_getElem?_getD,List.getElem?_eq_getElem h2]; rfl
theorem aLk {a:Aut} {cl:List Int} (hc:Cls a cl) (hs:(bG (sigs a cl)).length = (bG cl).length) {i j:Nat} (hi:i < a.nx.length) (hj:j < a.nx.length) (he:cl.getD i 0 = cl.getD j 0):sigA a cl i = sigA a cl j:=by
 have hi':i < (sigs a cl).length:=by rw [j2]; exact hi
 have hj':j < (sigs a cl).length:=by rw [j2]; exact hj
 rw [← s6 hi',← s6 hj']
 refine aLA (l:=sigs a cl) (f:=fun s => s.headD 0) (by rw [XP hc]; omega) (List.getElem_mem _) (List.getElem_mem _) ?_
 rw [s6,s6]
 exact he
theorem aBX {a:Aut} (h:AOK a) {cl:List Int} (hc:Cls a cl) (hs:∀ i j:Nat,i < a.nx.length → j < a.nx.length → cl.getD i 0 = cl.getD j 0 → sigA a cl i = sigA a cl j):∀ (w:List Int) (i j:Nat),i < a.nx.length → j < a.nx.length → cl.getD i 0 = cl.getD j 0 → (∀ l ∈ w,l ∈ aD a.al) → acQ a (w.foldl (goS a) i) = acQ a (w.foldl (goS a) j)
 | [],i,j,hi,hj,he,_ => hc.fine i j hi hj he
 | l :: w,i,j,hi,hj,he,hw => by
  have hl:=hw l List.mem_cons_self
  have hsg:=(List.cons.inj (hs i j hi hj he)).2
  rw [LI h hi,LI h hj] at hsg
  have:=List.map_inj_left.1 hsg l hl
  obtain ⟨p,e1,hp⟩:=PZ h hi hl
  obtain ⟨q,e2,hq⟩:=PZ h hj hl
  simp only [List.foldl_cons]
  rw [e1,e2] at this ⊢
  exact aBX h hc hs w p q hp hq this fun x hx => hw x (List.mem_cons_of_mem _ hx)
theorem aE3 {α:Type} [DecidableEq α] (l:List α):aGN (numL l) l:=by
 refine ⟨RR l,fun i j hi hj hi' hj' => ?_⟩
 have:=aKb hi' hj'
 rw [List.getD_eq_getElem?_getD,List.getElem?_eq_getElem hi,List.getD_eq_getElem?_getD,List.getElem?_eq_getElem hj] at this
 exact this
def aJZ (a:Aut) (r:List Int):Prop:=∃ l:List (List Int),r = numL l ∧ l.length = a.nx.length ∧ (∀ i,i < a.nx.length → 0 ≤ r.getD i 0 ∧ r.getD i 0 < 12) ∧ ∀ i j:Nat,i < a.nx.length → j < a.nx.length → (r.getD i 0 = r.getD j 0 ↔ Eqv a i j)
theorem aKd {a:Aut} (h:AOK a):∀ (j:Nat) (cl:List Int) (c:Nat),Cls a cl → (c = 0 ∨ c = (bG cl).length) → a.nx.length < j + c → c ≤ a.nx.length → aJZ a (clsG a j cl c)
 | 0,cl,c,hc,h0,hj,hle => by omega
 | j + 1,cl,c,hc,h0,hj,hle => by
  obtain ⟨_,_,a1,a2,a3⟩:=dU h
  have hn:=aH9 h hc
  have hpos:0 < (bG (sigs a cl)).length:=by
   have:(sigs a cl)[0]'(by rw [j2]; omega) ∈ bG (sigs a cl):=eH.2 (List.getElem_mem _)
   exact List.length_pos_of_mem this
  have hle2:=SS (sigs a cl)
  rw [j2] at hle2
  unfold clsG
  by_cases he:(bG (sigs a cl)).length = c
  ·rw [if_pos he]
   have hcl:(bG (sigs a cl)).length = (bG cl).length:=by omega
   refine ⟨sigs a cl,rfl,j2 a cl,hn.rng,fun i k hi hk => ⟨fun e => ?_,fun e => hn.coarse i k hi hk e⟩⟩
   have e2:=(aAL hi hk).1 e
   have e3:cl.getD i 0 = cl.getD k 0:=(List.cons.inj e2).1
   exact fun w hw => aBX h hc (fun i j hi hj => aLk hc hcl hi hj) w i k hi hk e3 hw
  ·rw [if_neg he]
   have hge:c ≤ (bG (sigs a cl)).length:=by
    rcases h0 with h0 | h0
    ·omega
    ·have:=TV (sigs a cl) (fun s => s.headD 0)
     rw [XP hc] at this
     omega
   exact aKd h j _ _ hn (.inr (aAJ (aE3 (sigs a cl))).2.symm) (by omega) hle2
theorem aA0 {a:Aut} (h:AOK a):Cls a (cl0 a):=by
 obtain ⟨_,_,a1,a2,a3⟩:=dU h
 have hg:∀ i,i < a.nx.length → (cl0 a).getD i 0 = if acQ a i = true then 1 else 0:=by
  intro i hi
  unfold cl0 acQ
  rw [List.getD_eq_getElem?_getD,List.getElem?_map,List.getElem?_eq_getElem (by omega),Int.toNat_natCast,List.getD_eq_getElem?_getD,List.getElem?_eq_getElem (by omega)]
  rfl
 refine ⟨by unfold cl0; rw [List.length_map,a3],?_,?_,?_⟩
 ·intro q hq
  rw [hg q hq]
  split <;> omega
 ·intro i j hi hj he
  rw [hg i hi,hg j hj]
  have:acQ a i = acQ a j:=he [] (by simp)
  rw [this]
 ·intro i j hi hj he
  rw [hg i hi,hg j hj] at he
  cases h1:acQ a i <;> cases h2:acQ a j <;> simp_all
theorem aHg {a:Aut} (h:AOK a):aJZ a (lS a):=aKd h _ _ 0 (aA0 h) (.inl rfl) (by omega) (by omega)
theorem aEW {a:Aut} (h:AOK a):(lS a).length = a.nx.length:=by
 obtain ⟨l,e,hl,_⟩:=aHg h
 rw [e,RR,hl]
def keyT (cl:List Int) (r:List Int):Str:=(r.map fun t => 44 :: gH (clA cl t)).flatten
def keyA (a:Aut) (cl:List Int) (q:Nat):Str:=gH (cl.getD q 0) ++ keyT cl (a.nx.getD q [])
def keyX:List Int → Str
 | [] => []
 | x :: xs => gH x ++ (xs.map fun t => 44 :: gH t).flatten
theorem aG2 (a:Aut) (cl:List Int) (q:Nat):keyX (sigA a cl q) = keyA a cl q:=by
 unfold keyX sigA keyA keyT
 simp only [List.map_map]
 rfl
theorem IL {s r:Str} (hs:(44:UInt8) ∉ s) (hr:r = [] ∨ ∃ t,r = 44 :: t):(s ++ r).takeWhile (fun b => b != 44) = s:=by
 induction s with
 | nil =>
  rcases hr with rfl | ⟨t,rfl⟩
  ·rfl
  ·simp [List.takeWhile]
 | cons b s ih =>
  have hb:¬ b = 44:=fun e => hs (by rw [e]; exact List.mem_cons_self)
  have hs2:(44:UInt8) ∉ s:=fun hh => hs (List.mem_cons_of_mem _ hh)
  rw [List.cons_append,List.takeWhile_cons,ih hs2]
  simp [hb]
theorem aPw:∀ (xs ys:List Int) (x y:Int),(0 ≤ x ∧ x < 12) → (0 ≤ y ∧ y < 12) → (∀ z ∈ xs,0 ≤ z ∧ z < 12) → (∀ z ∈ ys,0 ≤ z ∧ z < 12) → keyX (x :: xs) = keyX (y :: ys) → x = y ∧ xs = ys:=by
 have hd:∀ xs:List Int,(xs.map fun t => 44 :: gH t).flatten = [] ∨ ∃ t,(xs.map fun t => 44 :: gH t).flatten = 44 :: t:=by
  intro xs
  cases xs with
  | nil => exact .inl rfl
  | cons z zs => exact .inr ⟨_,rfl⟩
 intro xs
 induction xs with
 | nil =>
  intro ys x y hx hy _ hys e
  have h1:=IL (IO hx.1 hx.2) (hd [])
  have h2:=IL (IO hy.1 hy.2) (hd ys)
  simp only [keyX] at e
  rw [e,h2] at h1
  have hxy:=aHx hx.1 hx.2 hy.1 hy.2 h1.symm
  subst hxy
  have e2:=List.append_cancel_left e
  cases ys with
  | nil => exact ⟨rfl,rfl⟩
  | cons z zs => simp at e2
 | cons z zs ih =>
  intro ys x y hx hy hxs hys e
  have h1:=IL (IO hx.1 hx.2) (hd (z :: zs))
  have h2:=IL (IO hy.1 hy.2) (hd ys)
  simp only [keyX] at e
  rw [e,h2] at h1
  have hxy:=aHx hx.1 hx.2 hy.1 hy.2 h1.symm
  subst hxy
  have e2:=List.append_cancel_left e
  cases ys with
  | nil => simp at e2
  | cons u us =>
   simp only [List.map_cons,List.flatten_cons,List.cons_append,List.cons.injEq,true_and] at e2
   obtain ⟨g1,g2⟩:=ih us z u (hxs z List.mem_cons_self) (hys u List.mem_cons_self) (fun w hw => hxs w (List.mem_cons_of_mem _ hw)) (fun w hw => hys w (List.mem_cons_of_mem _ hw)) e2
   rw [g1,g2]
   exact ⟨rfl,rfl⟩
theorem aJ7 {a:Aut} (h:AOK a) {cl:List Int} (hc:Cls a cl) {q:Nat} (hq:q < a.nx.length):∀ z ∈ sigA a cl q,0 ≤ z ∧ z < 12:=by
 intro z hz
 unfold sigA at hz
 rcases List.mem_cons.1 hz with rfl | hz
 ·exact hc.rng q hq
 ·rw [LI h hq] at hz
  obtain ⟨l,hl,rfl⟩:=List.mem_map.1 hz
  obtain ⟨p,e1,hp⟩:=PZ h hq hl
  show 0 ≤ clA cl (goS a q l) ∧ _
  rw [e1]
  exact hc.rng p hp
def oS (a:Aut) (cl:List Int):List Str:=(List.range a.nx.length).map (keyA a cl)
theorem aIO (a:Aut) (cl:List Int):(oS a cl).length = a.nx.length:=by unfold oS; rw [List.length_map,List.length_range]
theorem aIL {a:Aut} {cl:List Int} {q:Nat} (hq:q < (oS a cl).length):(oS a cl)[q] = keyA a cl q:=by
 have h:(oS a cl)[q]? = some (keyA a cl q):=by
  have hq2:=hq
  rw [aIO] at hq2
  show ((List.range a.nx.length).map (keyA a cl))[q]? = _
  rw [List.getElem?_map,List.getElem?_range hq2]; rfl
 rw [List.getElem?_eq_getElem hq] at h
 exact Option.some.inj h
theorem aNi {a:Aut} (h:AOK a) {cl:List Int} (hc:Cls a cl):numL (oS a cl) = numL (sigs a cl) ∧ (bG (oS a cl)).length = (bG (sigs a cl)).length:=by
 refine aAJ ⟨by rw [aIO,j2],fun i j hi hj hi' hj' => ?_⟩
 rw [aIL,aIL,s6,s6,← aG2,← aG2]
 rw [j2] at hi' hj'
 constructor
 ·intro e
  have r1:=aJ7 h hc hi'
  have r2:=aJ7 h hc hj'
  unfold sigA at *
  obtain ⟨g1,g2⟩:=aPw _ _ _ _ (r1 _ List.mem_cons_self) (r2 _ List.mem_cons_self) (fun z hz => r1 z (List.mem_cons_of_mem _ hz)) (fun z hz => r2 z (List.mem_cons_of_mem _ hz)) e
  rw [g1,g2]
 ·intro e; rw [e]
def sepJ (a:Aut) (i:Int):Nat → Nat → List Str → List Str
 | 0,_,o => o
 | q + 1,j,o => if (eI a i j).2 = true ∧ txt (eI a i j).1 ∉ o then sepJ a i q (j + 1) (o ++ [txt (eI a i j).1]) else sepJ a i q (j + 1) o
def sepA (a:Aut):Nat → Nat → List Str → List Str
 | 0,_,o => o
 | q + 1,i,o => sepA a q (i + 1) (sepJ a i (a.nx.length - (i + 1)) (i + 1) o)
def sepW (a:Aut):List Str:=sepA a a.nx.length 0 [[]]
theorem LU {a:Aut} {i:Int}:∀ (q j:Nat) (o:List Str),o.length ≤ (sepJ a i q j o).length ∧ (sepJ a i q j o).length ≤ o.length + q
 | 0,_,o => ⟨Nat.le_refl _,Nat.le_refl _⟩
 | q + 1,j,o => by
  unfold sepJ
  split
  ·have:=LU (a:=a) (i:=i) q (j + 1) (o ++ [txt (eI a i j).1]); simp at this ⊢; omega
  ·have:=LU (a:=a) (i:=i) q (j + 1) o; omega
theorem aH6 {a:Aut}:∀ (q i:Nat) (o:List Str),o.length ≤ (sepA a q i o).length ∧ (sepA a q i o).length ≤ o.length + q * a.nx.length
 | 0,_,o => by simp [sepA]
 | q + 1,i,o => by
  unfold sepA
  have h1:=LU (a:=a) (i:=i) (a.nx.length - (i + 1)) (i + 1) o
  have h2:=aH6 (a:=a) q (i + 1) (sepJ a i (a.nx.length - (i + 1)) (i + 1) o)
  rw [Nat.succ_mul]
  omega
theorem aA4 {a:Aut} (h:AOK a):1 ≤ (sepW a).length ∧ (sepW a).length ≤ 145:=by
 obtain ⟨_,_,h1,h2,_⟩:=dU h
 have:=aH6 (a:=a) a.nx.length 0 [[]]
 have hm:a.nx.length * a.nx.length ≤ 12 * 12:=Nat.mul_le_mul h2 h2
 unfold sepW
 simp only [List.length_cons,List.length_nil] at this
 omega
theorem K6 {R:Type} {L n:Nat} (hn:12 ≤ n) (hL:2 ^ 60 ≤ L) {a:Aut} (ha:AOK a) {i:Nat} (hi:i < a.nx.length) {k:Exit → List A → H → Option R}:∀ (q j m:Nat) (o:List Str) (len:Nat) (hq:j + q = a.nx.length) (hm:q < m) (hlen:len = o.length) (ho:o.length + q ≤ 100000),
  aO env (aA env L n) L 0 [] (Z1 (U4 (U1 (Z32 (Z8 (Z1 ([]))))))) (eW 1) (U1 (Z4 (Z1 (U32 (U8 (U1 ([]))))))) m (Y1 (.ptr 0 0 0 :: .d .nils :: .sl 1 0 0 len :: .d (.int .i64 ((i:Int))) :: .d (.int .i64 ((j:Int))) :: Y32 (Y8 (Y1 ([]))))) [.box [.d (.int .i64 a.al),.d (.ivs a.nx.length (aJ a.nx)),.d (.ivs a.ac.length (aK a.ac))],.arr (bV o) 1 0] k
  = k (.exit 2) (Y1 (.ptr 0 0 0 :: .d .nils :: .sl 1 0 0 (sepJ a i q j o).length :: .d (.int .i64 ((i:Int))) :: .d (.int .i64 (a.nx.length)) :: Y32 (Y8 (Y1 ([]))))) [.box [.d (.int .i64 a.al),.d (.ivs a.nx.length (aJ a.nx)),.d (.ivs a.ac.length (aK a.ac))],.arr (bV (sepJ a i q j o)) 1 0]:=by
 obtain ⟨sa,wa,a1,a2,a3⟩:=dU ha
 have hac:a.ac.length ≤ 4294967296:=by omega
 intro q
 induction q with
 | zero =>
  intro j m o len hq hm hlen ho
  obtain _ | m:=m; omega
  obtain rfl:j = a.nx.length:=by omega
  subst hlen
  rw [lW]
  simp only [kS,Tryd.f8,SLM,simprocAttr]
  simp -implicitDefEqProofs (maxSteps:=2000000) (disch:=try exact Dz) only [↓DN,↓kAsg,↓kRet,UP,simprocAttr,↓dR,↓nC,↓qQ,↓dS,↓jG,↓v9,↓dC,↓dD,↓dB,↓hY,↓hZ,↓iH,↓nZ,LA,SE,Int.lt_irrefl]
  rfl
 | succ q ih =>
  intro j m o len hq hm hlen ho
  obtain _ | m:=m; omega
  subst hlen
  have hc:(j:Int) < a.nx.length:=by omega
  have kc_s:=fun {R:Type} {n:Nat} {hq:H} {k:A → H → Option R} (hn:12 ≤ n) => @nC R L n hq k hn a i j sa hac hL
  have hal:=sa.1
  simp only [sepJ]
  generalize eI a i j = r at *
  obtain ⟨w,b⟩:=r
  simp only at kc_s ⊢
  have kl_i:=fun {R:Type} {n:Nat} {k:A → Option R} (hn:2 ≤ n) => @v9 R L n k hn o (txt w) (by omega) hL
  cases b with
  | false =>
   have ih':=ih (j + 1) m o o.length (by omega) (by omega) rfl (by omega)
   rw [show ((j + 1:Nat):Int) = (j:Int) + 1 by omega] at ih'
   rw [if_neg fun h => by cases h.1]
   clear ih
   rw [lW]
   simp only [kS,Tryd.f8,SLM,simprocAttr]
   simp -implicitDefEqProofs (maxSteps:=2000000) (disch:=try exact Dz) only [↓DN,↓kAsg,↓kRet,UP,simprocAttr,↓dR,↓qQ,↓dS,↓jG,↓dC,↓dD,↓dB,↓hY,↓hZ,↓iH,↓nZ,LA,SE,hc,↓kc_s,↓ih']
  | true =>
   by_cases h:txt w ∈ o
   ·have ih':=ih (j + 1) m o o.length (by omega) (by omega) rfl (by omega)
    rw [show ((j + 1:Nat):Int) = (j:Int) + 1 by omega] at ih'
    rw [if_neg fun h2 => h2.2 h]
    rw [decide_eq_true h] at kl_i
    clear ih
    rw [lW]
    simp only [kS,Tryd.f8,SLM,simprocAttr]
    simp -implicitDefEqProofs (maxSteps:=2000000) (disch:=try exact Dz) only [↓DN,↓kAsg,↓kRet,UP,simprocAttr,↓dR,↓qQ,↓dS,↓jG,↓dC,↓dD,↓dB,↓hY,↓hZ,↓iH,↓nZ,LA,SE,hc,↓kc_s,↓kl_i,↓ih']
   ·have ih':=ih (j + 1) m (o ++ [txt w]) (o.length + 1) (by omega) (by omega) (by simp) (by simp; omega)
    rw [show ((j + 1:Nat):Int) = (j:Int) + 1 by omega] at ih'
    rw [if_pos ⟨rfl,h⟩]
    rw [decide_eq_false h] at kl_i
    clear ih
    rw [lW]
    simp only [kS,Tryd.f8,SLM,simprocAttr]
    simp -implicitDefEqProofs (maxSteps:=2000000) (disch:=try exact Dz) only [↓DN,↓kAsg,↓kRet,UP,simprocAttr,↓dR,↓qQ,↓dS,↓jG,↓dC,↓dD,↓dB,↓hY,↓hZ,↓iH,↓nZ,LA,SE,hc,↓kc_s,↓kl_i,AQ,aDr,List.length_append,↓ih']
theorem JW {R:Type} {L n:Nat} (hn:12 ≤ n) (hL:2 ^ 60 ≤ L) {a:Aut} (ha:AOK a) {k:Exit → List A → H → Option R}:∀ (q i m:Nat) (o:List Str) (len:Nat) (hq:i + q = a.nx.length) (hm:q < m) (hlen:len = o.length) (ho:o.length + q * 12 ≤ 10000),
  aO env (aA env L n) L 0 [] (Z1 (U4 (U1 (Z32 (Z8 (Z1 ([]))))))) (eW 0) (U1 (Z4 (U32 (U8 (U2 ([])))))) m (Y1 (.ptr 0 0 0 :: .d .nils :: .sl 1 0 0 len :: .d (.int .i64 ((i:Int))) :: Y32 (Y8 (Y2 ([]))))) [.box [.d (.int .i64 a.al),.d (.ivs a.nx.length (aJ a.nx)),.d (.ivs a.ac.length (aK a.ac))],.arr (bV o) 1 0] k
  = k (.exit 0) (Y1 (.ptr 0 0 0 :: .d .nils :: .sl 1 0 0 (sepA a q i o).length :: .d (.int .i64 (a.nx.length)) :: Y32 (Y8 (Y2 ([]))))) [.box [.d (.int .i64 a.al),.d (.ivs a.nx.length (aJ a.nx)),.d (.ivs a.ac.length (aK a.ac))],.arr (bV (sepA a q i o)) 1 0]:=by
 obtain ⟨sa,wa,a1,a2,a3⟩:=dU ha
 intro q
 induction q with
 | zero =>
  intro i m o len hq hm hlen ho
  obtain _ | m:=m; omega
  obtain rfl:i = a.nx.length:=by omega
  subst hlen
  rw [vJ]
  simp only [rT,Tryd.f8,SLM,simprocAttr]
  simp -implicitDefEqProofs (maxSteps:=2000000) (disch:=try exact Dz) only [↓DN,↓kAsg,↓kRet,UP,simprocAttr,↓dR,↓nC,↓qQ,↓dS,↓jG,↓v9,↓dC,↓dD,↓dB,↓hY,↓hZ,↓iH,↓nZ,LA,SE,Int.lt_irrefl]
  rfl
 | succ q ih =>
  intro i m o len hq hm hlen ho
  obtain _ | m:=m; omega
  subst hlen
  have hc:(i:Int) < a.nx.length:=by omega
  have loop_c:=fun {R:Type} {n:Nat} {k:Exit → List A → H → Option R} (hn:12 ≤ n) => @K6 R L n hn hL a ha i (by omega) k (a.nx.length - (i + 1)) (i + 1) L o o.length (by omega) (by omega) rfl (by omega)
  rw [show ((i + 1:Nat):Int) = (i:Int) + 1 by omega] at loop_c
  have hl:=(LU (a:=a) (i:=i) (a.nx.length - (i + 1)) (i + 1) o).2
  have ih':=ih (i + 1) m (sepJ a i (a.nx.length - (i + 1)) (i + 1) o) _ (by omega) (by omega) rfl (by omega)
  rw [show ((i + 1:Nat):Int) = (i:Int) + 1 by omega] at ih'
  simp only [sepA]
  clear ih
  generalize sepJ a i (a.nx.length - (i + 1)) (i + 1) o = w at *
  rw [vJ]
  simp only [rT,Tryd.f8,SLM,simprocAttr]
  simp -implicitDefEqProofs (maxSteps:=2000000) (disch:=try exact Dz) only [↓DN,↓kAsg,↓kRet,UP,simprocAttr,↓dR,↓nC,↓qQ,↓dS,↓jG,↓v9,↓dC,↓dD,↓dB,↓hY,↓hZ,↓iH,↓nZ,LA,SE,hc,↓loop_c,↓ih']
def sepR (a:Aut):List Str:=if kM a.al a.nx a.ac = true then sepW a else []
theorem RK {L n:Nat} (hn:13 ≤ n) (a:Aut) (hs:bA a.nx) (hac:a.ac.length ≤ 4294967296) (hL:2 ^ 60 ≤ L):aA env L n 8 [.agg [.d (.int .i64 a.al),.d (.ivs a.nx.length (aJ a.nx)),.d (.ivs a.ac.length (aK a.ac))]] [] = some (.d (.ivs (sepR a).length (bV (sepR a))),[]):=by
 have hrl:=hs.1
 unfold sepR
 cases hv:kM a.al a.nx a.ac with
 | false =>
  simp only [Bool.false_eq_true,if_false,List.length_nil,aLB]
  obtain _ | n:=n; omega
  rw [B3]
  simp only [tZ,Tryd.f8,SLM,simprocAttr]
  simp -implicitDefEqProofs (maxSteps:=2000000) (disch:=try exact Dz) only [↓DN,↓kAsg,↓kRet,UP,simprocAttr,↓dR,↓nC,↓qQ,↓dS,↓jG,↓v9,↓dC,↓dD,↓dB,↓hY,↓hZ,↓iH,↓nZ,LA,hv]
 | true =>
  obtain ⟨sa,wa,a1,a2,a3⟩:=dU hv
  have loop_c:=fun {R:Type} {n:Nat} {k:Exit → List A → H → Option R} (hn:12 ≤ n) => @JW R L n hn hL a hv k a.nx.length 0 L [[]] 1 (by omega) (by omega) rfl (by simp; omega)
  have e:bV [[]] = [.str []]:=rfl
  have e2:sepA a a.nx.length 0 [[]] = sepW a:=rfl
  rw [e,e2] at loop_c
  have hl:=aA4 hv
  simp only [if_true,Int.natCast_zero] at loop_c ⊢
  generalize sepW a = w at *
  have e4:(bV w).take w.length = bV w:=AQ (Nat.le_refl _)
  obtain _ | n:=n; omega
  rw [B3]
  simp only [tZ,Tryd.f8,SLM,simprocAttr]
  simp -implicitDefEqProofs (maxSteps:=2000000) (disch:=try exact Dz) only [↓DN,↓kAsg,↓kRet,UP,simprocAttr,↓dR,↓nC,↓qQ,↓dS,↓jG,↓v9,↓dC,↓dD,↓dB,↓hY,↓hZ,↓iH,↓nZ,LA,SE,hv,e4,↓loop_c]
theorem dY {R:Type} {L n:Nat} {hq:H} {k:A → H → Option R} (hn:13 ≤ n) (a:Aut) (hs:bA a.nx) (hac:a.ac.length ≤ 4294967296) (hL:2 ^ 60 ≤ L):aL env (aA env L n) hq 8 [.agg [.d (.int .i64 a.al),.d (.ivs a.nx.length (aJ a.nx)),.d (.ivs a.ac.length (aK a.ac))]] k = k (.d (.ivs (sepR a).length (bV (sepR a)))) hq :=
 a5 rfl (RK hn a hs hac hL) rfl (.inr rfl)
theorem K9 {R:Type} {L n:Nat} (hn:9 ≤ n) (hL:2 ^ 60 ≤ L) {a:Aut} (ha:AOK a) {i:Nat} (hi:i < a.nx.length) {k:Exit → List A → H → Option R}:∀ (q j m:Nat) (o:List Str) (len:Nat) (hq:j + q = a.nx.length) (hm:q < m) (hlen:len = o.length) (ho:o.length + q ≤ 100000),
  aO env (aA env L n) L 0 [] (Z1 (U4 (U1 (Z8 (U2 (Z16 (Z8 (Z4 (Z2 (Z1 ([]))))))))))) (eV 1) (U1 (Z4 (Z1 (U8 (Z2 (U16 (U8 (U4 (U2 (U1 ([]))))))))))) m (Y1 (.ptr 0 0 0 :: .d .nils :: .sl 1 0 0 len :: .d (.int .i64 ((i:Int))) :: .d (.int .i64 ((j:Int))) :: Y8 (.d (.int .i64 (a.nx.length)) :: .d (.int .i64 ((i:Int))) :: Y16 (Y8 (Y4 (Y2 (Y1 ([])))))))) [.box [.d (.int .i64 a.al),.d (.ivs a.nx.length (aJ a.nx)),.d (.ivs a.ac.length (aK a.ac))],.arr (bV o) 1 0] k
  = k (.exit 2) (Y1 (.ptr 0 0 0 :: .d .nils :: .sl 1 0 0 (sepJ a i q j o).length :: .d (.int .i64 ((i:Int))) :: .d (.int .i64 (a.nx.length)) :: Y8 (.d (.int .i64 (a.nx.length)) :: .d (.int .i64 ((i:Int))) :: Y16 (Y8 (Y4 (Y2 (Y1 ([])))))))) [.box [.d (.int .i64 a.al),.d (.ivs a.nx.length (aJ a.nx)),.d (.ivs a.ac.length (aK a.ac))],.arr (bV (sepJ a i q j o)) 1 0]:=by
 obtain ⟨sa,wa,a1,a2,a3⟩:=dU ha
 have hac:a.ac.length ≤ 4294967296:=by omega
 intro q
 induction q with
 | zero =>
  intro j m o len hq hm hlen ho
  obtain _ | m:=m; omega
  obtain rfl:j = a.nx.length:=by omega
  subst hlen
  rw [lQ]
  simp only [kV,Tryd.f6,SLM,simprocAttr]
  simp -implicitDefEqProofs (maxSteps:=2000000) (disch:=try exact Dz) only [↓DN,↓kAsg,↓kRet,UP,simprocAttr,↓a7,↓nI,↓cX,↓a6,↓jI,↓eC,↓aT,↓aU,↓aV,↓iI,↓iD,↓iE,↓cL,LA,SE,Int.lt_irrefl]
  rfl
 | succ q ih =>
  intro j m o len hq hm hlen ho
  obtain _ | m:=m; omega
  subst hlen
  have hc:(j:Int) < a.nx.length:=by omega
  have kc_s:=fun {R:Type} {n:Nat} {hq:H} {k:A → H → Option R} (hn:9 ≤ n) => @nI R L n hq k hn a i j sa hac hL
  have hal:=sa.1
  simp only [sepJ]
  generalize eI a i j = r at *
  obtain ⟨w,b⟩:=r
  simp only at kc_s ⊢
  have kl_i:=fun {R:Type} {n:Nat} {k:A → Option R} (hn:3 ≤ n) => @eC R L n k hn o (txt w) (by omega) hL
  cases b with
  | false =>
   have ih':=ih (j + 1) m o o.length (by omega) (by omega) rfl (by omega)
   rw [show ((j + 1:Nat):Int) = (j:Int) + 1 by omega] at ih'
   rw [if_neg fun h => by cases h.1]
   clear ih
   rw [lQ]
   simp only [kV,Tryd.f6,SLM,simprocAttr]
   simp -implicitDefEqProofs (maxSteps:=2000000) (disch:=try exact Dz) only [↓DN,↓kAsg,↓kRet,UP,simprocAttr,↓a7,↓cX,↓a6,↓jI,↓aT,↓aU,↓aV,↓iI,↓iD,↓iE,↓cL,LA,SE,hc,↓kc_s,↓ih']
  | true =>
   by_cases h:txt w ∈ o
   ·have ih':=ih (j + 1) m o o.length (by omega) (by omega) rfl (by omega)
    rw [show ((j + 1:Nat):Int) = (j:Int) + 1 by omega] at ih'
    rw [if_neg fun h2 => h2.2 h]
    rw [decide_eq_true h] at kl_i
    clear ih
    rw [lQ]
    simp only [kV,Tryd.f6,SLM,simprocAttr]
    simp -implicitDefEqProofs (maxSteps:=2000000) (disch:=try exact Dz) only [↓DN,↓kAsg,↓kRet,UP,simprocAttr,↓a7,↓cX,↓a6,↓jI,↓aT,↓aU,↓aV,↓iI,↓iD,↓iE,↓cL,LA,SE,hc,↓kc_s,↓kl_i,↓ih']
   ·have ih':=ih (j + 1) m (o ++ [txt w]) (o.length + 1) (by omega) (by omega) (by simp) (by simp; omega)
    rw [show ((j + 1:Nat):Int) = (j:Int) + 1 by omega] at ih'
    rw [if_pos ⟨rfl,h⟩]
    rw [decide_eq_false h] at kl_i
    clear ih
    rw [lQ]
    simp only [kV,Tryd.f6,SLM,simprocAttr]
    simp -implicitDefEqProofs (maxSteps:=2000000) (disch:=try exact Dz) only [↓DN,↓kAsg,↓kRet,UP,simprocAttr,↓a7,↓cX,↓a6,↓jI,↓aT,↓aU,↓aV,↓iI,↓iD,↓iE,↓cL,LA,SE,hc,↓kc_s,↓kl_i,AQ,aDr,List.length_append,↓ih']
theorem LW {R:Type} {L n:Nat} (hn:9 ≤ n) (hL:2 ^ 60 ≤ L) {a:Aut} (ha:AOK a) {k:Exit → List A → H → Option R}:∀ (q i m:Nat) (o:List Str) (len:Nat) (hq:i + q = a.nx.length) (hm:q < m) (hlen:len = o.length) (ho:o.length + q * 12 ≤ 10000),
  aO env (aA env L n) L 0 [] (Z1 (U4 (U1 (Z8 (U2 (Z16 (Z8 (Z4 (Z2 (Z1 ([]))))))))))) (eV 0) (U1 (Z2 (Z1 (U8 (U2 (Z2 (U16 (U8 (U4 (U2 (U1 ([])))))))))))) m (Y1 (.ptr 0 0 0 :: .d .nils :: .sl 1 0 0 len :: Y8 (Y2 (.d (.int .i64 (a.nx.length)) :: .d (.int .i64 ((i:Int))) :: Y16 (Y8 (Y4 (Y2 (Y1 ([]))))))))) [.box [.d (.int .i64 a.al),.d (.ivs a.nx.length (aJ a.nx)),.d (.ivs a.ac.length (aK a.ac))],.arr (bV o) 1 0] k
  = k (.exit 0) (Y1 (.ptr 0 0 0 :: .d .nils :: .sl 1 0 0 (sepA a q i o).length :: Y8 (Y2 (.d (.int .i64 (a.nx.length)) :: .d (.int .i64 (a.nx.length)) :: Y16 (Y8 (Y4 (Y2 (Y1 ([]))))))))) [.box [.d (.int .i64 a.al),.d (.ivs a.nx.length (aJ a.nx)),.d (.ivs a.ac.length (aK a.ac))],.arr (bV (sepA a q i o)) 1 0]:=by
 obtain ⟨sa,wa,a1,a2,a3⟩:=dU ha
 intro q
 induction q with
 | zero =>
  intro i m o len hq hm hlen ho
  obtain _ | m:=m; omega
  obtain rfl:i = a.nx.length:=by omega
  subst hlen
  rw [vM]
  simp only [rW,Tryd.f6,SLM,simprocAttr]
  simp -implicitDefEqProofs (maxSteps:=2000000) (disch:=try exact Dz) only [↓DN,↓kAsg,↓kRet,UP,simprocAttr,↓a7,↓nI,↓cX,↓a6,↓jI,↓eC,↓aT,↓aU,↓aV,↓iI,↓iD,↓iE,↓cL,LA,SE,Int.lt_irrefl]
  rfl
 | succ q ih =>
  intro i m o len hq hm hlen ho
  obtain _ | m:=m; omega
  subst hlen
  have hc:(i:Int) < a.nx.length:=by omega
  have loop_c:=fun {R:Type} {n:Nat} {k:Exit → List A → H → Option R} (hn:9 ≤ n) => @K9 R L n hn hL a ha i (by omega) k (a.nx.length - (i + 1)) (i + 1) L o o.length (by omega) (by omega) rfl (by omega)
  rw [show ((i + 1:Nat):Int) = (i:Int) + 1 by omega] at loop_c
  have hl:=(LU (a:=a) (i:=i) (a.nx.length - (i + 1)) (i + 1) o).2
  have ih':=ih (i + 1) m (sepJ a i (a.nx.length - (i + 1)) (i + 1) o) _ (by omega) (by omega) rfl (by omega)
  rw [show ((i + 1:Nat):Int) = (i:Int) + 1 by omega] at ih'
  simp only [sepA]
  clear ih
  generalize sepJ a i (a.nx.length - (i + 1)) (i + 1) o = w at *
  rw [vM]
  simp only [rW,Tryd.f6,SLM,simprocAttr]
  simp -implicitDefEqProofs (maxSteps:=2000000) (disch:=try exact Dz) only [↓DN,↓kAsg,↓kRet,UP,simprocAttr,↓a7,↓nI,↓cX,↓a6,↓jI,↓eC,↓aT,↓aU,↓aV,↓iI,↓iD,↓iE,↓cL,LA,SE,hc,↓loop_c,↓ih']
theorem RV {L n:Nat} (hn:10 ≤ n) (a:Aut) (hv:AOK a) (hL:2 ^ 60 ≤ L):aA env L n 6 [.agg [.d (.int .i64 a.al),.d (.ivs a.nx.length (aJ a.nx)),.d (.ivs a.ac.length (aK a.ac))]] [] = some (.sl 0 0 0 (sepW a).length,[.arr (bV (sepW a)) 1 0]):=by
  obtain ⟨sa,wa,a1,a2,a3⟩:=dU hv
  have hrl:=sa.1
  have hac:a.ac.length ≤ 4294967296:=by omega
  have loop_c:=fun {R:Type} {n:Nat} {k:Exit → List A → H → Option R} (hn:9 ≤ n) => @LW R L n hn hL a hv k a.nx.length 0 L [[]] 1 (by omega) (by omega) rfl (by simp; omega)
  have e:bV [[]] = [.str []]:=rfl
  have e2:sepA a a.nx.length 0 [[]] = sepW a:=rfl
  rw [e,e2] at loop_c
  have hl:=aA4 hv
  unfold AOK at hv
  simp only [if_true,Int.natCast_zero] at loop_c ⊢
  generalize sepW a = w at *
  obtain _ | n:=n; omega
  rw [AC]
  simp only [t6,Tryd.f6,SLM,simprocAttr]
  simp -implicitDefEqProofs (maxSteps:=2000000) (disch:=try exact Dz) only [↓DN,↓kAsg,↓kRet,UP,simprocAttr,↓a7,↓nI,↓cX,↓a6,↓jI,↓eC,↓aT,↓aU,↓aV,↓iI,↓iD,↓iE,↓cL,LA,SE,hv,↓loop_c]
theorem MQ {L n:Nat} (hn:10 ≤ n) (a:Aut) (hv:kM a.al a.nx a.ac = false) (hs:bA a.nx) (hac:a.ac.length ≤ 4294967296) (hL:2 ^ 60 ≤ L):aA env L n 6 [.agg [.d (.int .i64 a.al),.d (.ivs a.nx.length (aJ a.nx)),.d (.ivs a.ac.length (aK a.ac))]] [] = some (.d (.ivs 0 []),[]):=by
  have hrl:=hs.1
  obtain _ | n:=n; omega
  rw [AC]
  simp only [t6,Tryd.f6,SLM,simprocAttr]
  simp -implicitDefEqProofs (maxSteps:=2000000) (disch:=try exact Dz) only [↓DN,↓kAsg,↓kRet,UP,simprocAttr,↓a7,↓nI,↓cX,↓a6,↓jI,↓eC,↓aT,↓aU,↓aV,↓iI,↓iD,↓iE,↓cL,LA,SE,hv]
section
theorem VV {α:Type} {p q:α → Bool}:∀ {l:List α},(∀ x ∈ l,p x = true → q x = true) → l.countP p = l.countP q → ∀ x ∈ l,q x = true → p x = true
 | [],_,_,x,hx,_ => by cases hx
 | a :: l,h,he,x,hx,hq => by
  have hle:=List.countP_mono_left (l:=l) (p:=p) (q:=q) fun y hy => h y (List.mem_cons_of_mem _ hy)
  rw [List.countP_cons,List.countP_cons] at he
  have ha:=h a List.mem_cons_self
  cases hpa:p a with
  | true =>
   rw [hpa,ha hpa] at he
   have he2:l.countP p = l.countP q:=by simpa using he
   rcases List.mem_cons.1 hx with rfl | hx
   ·exact hpa
   ·exact VV (fun y hy => h y (List.mem_cons_of_mem _ hy)) he2 x hx hq
  | false =>
   cases hqa:q a with
   | true =>
    rw [hpa,hqa] at he
    simp at he
    omega
   | false =>
    rw [hpa,hqa] at he
    have he2:l.countP p = l.countP q:=by simpa using he
    rcases List.mem_cons.1 hx with rfl | hx
    ·rw [hqa] at hq; cases hq
    ·exact VV (fun y hy => h y (List.mem_cons_of_mem _ hy)) he2 x hx hq
section
variable (go:Int → Int → Int) (ls:List Int) (acc:Int → Bool)
def rK (w:List Int) (q:Int):Int:=w.foldl go q
def oI (k:Nat) (i j:Int):Prop:=∀ w:List Int,(∀ l ∈ w,l ∈ ls) → w.length ≤ k → acc (rK go w i) = acc (rK go w j)
variable {go ls acc}
theorem aLw {k:Nat} {i:Int}:oI go ls acc k i i:=fun _ _ _ => rfl
theorem RI {k:Nat} {i j:Int} (h:oI go ls acc k i j):oI go ls acc k j i:=fun w a b => (h w a b).symm
theorem EN {k:Nat} {i j m:Int} (h:oI go ls acc k i j) (g:oI go ls acc k j m):oI go ls acc k i m:=fun w a b => (h w a b).trans (g w a b)
theorem RA {k m:Nat} {i j:Int} (h:oI go ls acc m i j) (hk:k ≤ m):oI go ls acc k i j:=fun w a b => h w a (Nat.le_trans b hk)
theorem aCq {k:Nat} {i j:Int}:oI go ls acc (k + 1) i j ↔ acc i = acc j ∧ ∀ l ∈ ls,oI go ls acc k (go i l) (go j l):=by
 constructor
 ·intro h
  refine ⟨h [] (by simp) (by simp),fun l hl w hw hk => ?_⟩
  exact h (l :: w) (by intro x hx; rcases List.mem_cons.1 hx with rfl | hx; exact hl; exact hw x hx) (by simp; omega)
 ·rintro ⟨h1,h2⟩ w hw hk
  cases w with
  | nil => exact h1
  | cons l w => exact h2 l (hw l List.mem_cons_self) w (fun x hx => hw x (List.mem_cons_of_mem _ hx)) (by simp at hk; omega)
variable (go ls acc)
open Classical in
noncomputable def repB (k i:Nat):Bool:=decide (∀ j:Nat,j < i → ¬ oI go ls acc k (j:Int) (i:Int))
noncomputable def repC (n k:Nat):Nat:=(List.range n).countP (repB go ls acc k)
variable {go ls acc}
theorem SH {k i:Nat}:repB go ls acc k i = true ↔ ∀ j:Nat,j < i → ¬ oI go ls acc k (j:Int) (i:Int):=by
 unfold repB
 simp
theorem aKf {k:Nat}:∀ i:Nat,∃ r,r ≤ i ∧ repB go ls acc k r = true ∧ oI go ls acc k (r:Int) (i:Int):=by
 intro i
 induction i using Nat.strongRecOn with
 | ind i ih =>
  by_cases h:∃ j:Nat,j < i ∧ oI go ls acc k (j:Int) (i:Int)
  ·obtain ⟨j,hj,ha⟩:=h
   obtain ⟨r,hr,h1,h2⟩:=ih j hj
   exact ⟨r,by omega,h1,EN h2 ha⟩
  ·refine ⟨i,Nat.le_refl _,SH.2 fun j hj ha => h ⟨j,hj,ha⟩,aLw⟩
theorem aHl {k i:Nat} (h:repB go ls acc k i = true):repB go ls acc (k + 1) i = true:=by
 rw [SH] at h ⊢
 exact fun j hj ha => h j hj (RA ha (by omega))
theorem aTm {n k:Nat}:repC go ls acc n k ≤ repC go ls acc n (k + 1):=List.countP_mono_left fun _ _ h => aHl h
theorem aKL {n k:Nat} (he:repC go ls acc n k = repC go ls acc n (k + 1)) {i j:Nat} (hi:i < n) (hj:j < n) (h:oI go ls acc k (i:Int) (j:Int)):oI go ls acc (k + 1) (i:Int) (j:Int):=by
 have key:=VV (l:=List.range n) (fun x _ h => aHl (go:=go) (ls:=ls) (acc:=acc) (k:=k) (i:=x) h) he
 obtain ⟨r,hr,r1,r2⟩:=aKf (go:=go) (ls:=ls) (acc:=acc) (k:=k + 1) i
 obtain ⟨s,hs,s1,s2⟩:=aKf (go:=go) (ls:=ls) (acc:=acc) (k:=k + 1) j
 have r3:=key r (List.mem_range.2 (by omega)) r1
 have s3:=key s (List.mem_range.2 (by omega)) s1
 rw [SH] at r3 s3
 have hrs:oI go ls acc k (r:Int) (s:Int):=EN (RA r2 (by omega)) (EN h (RI (RA s2 (by omega))))
 have e:r = s:=by
  rcases Nat.lt_trichotomy r s with h1 | h1 | h1
  ·exact absurd hrs (s3 r h1)
  ·exact h1
  ·exact absurd (RI hrs) (r3 s h1)
 subst e
 exact EN (RI r2) s2
theorem aQC {n:Nat}:∀ k:Nat,(∀ m,m < k → repC go ls acc n m ≠ repC go ls acc n (m + 1)) → repC go ls acc n 0 + k ≤ repC go ls acc n k
 | 0,_ => Nat.le_refl _
 | k + 1,h => by
  have h1:=aQC (n:=n) k fun m hm => h m (by omega)
  have h2:=aTm (go:=go) (ls:=ls) (acc:=acc) (n:=n) (k:=k)
  have h3:=h k (by omega)
  omega
theorem aJI {n:Nat} (hgo:∀ q l:Int,0 ≤ q → q < n → l ∈ ls → 0 ≤ go q l ∧ go q l < n) {i j:Int} (hi:0 ≤ i ∧ i < n) (hj:0 ≤ j ∧ j < n) {w:List Int} (hw:∀ l ∈ w,l ∈ ls) (hd:acc (rK go w i) ≠ acc (rK go w j)) :
  ∃ v:List Int,(∀ l ∈ v,l ∈ ls) ∧ v.length < n ∧ acc (rK go v i) ≠ acc (rK go v j):=by
 have hn:1 ≤ n:=by omega
 have hle:∀ k,repC go ls acc n k ≤ n:=fun k => by
  have:=List.countP_le_length (p:=repB go ls acc k) (l:=List.range n)
  simpa [repC] using this
 have h0:1 ≤ repC go ls acc n 0:=by
  unfold repC
  rw [Nat.succ_le_iff,List.countP_pos_iff]
  exact ⟨0,List.mem_range.2 (by omega),SH.2 fun j hj => by omega⟩
 obtain ⟨k,hk,he⟩:∃ k,k < n ∧ repC go ls acc n k = repC go ls acc n (k + 1):=by
  apply Classical.byContradiction
  intro hc
  have:=aQC (go:=go) (ls:=ls) (acc:=acc) (n:=n) n fun m hm he => hc ⟨m,hm,he⟩
  have:=hle n
  omega
 have stay:∀ d:Nat,∀ a b:Nat,a < n → b < n → oI go ls acc k (a:Int) (b:Int) → oI go ls acc (k + d) (a:Int) (b:Int):=by
  intro d
  induction d with
  | zero => intro a b _ _ h; exact h
  | succ d ih =>
   intro a b ha hb h
   have h1:=aKL he ha hb h
   rw [aCq] at h1
   rw [show k + (d + 1) = (k + d) + 1 by omega,aCq]
   refine ⟨h1.1,fun l hl => ?_⟩
   have ga:=hgo a l (by omega) (by omega) hl
   have gb:=hgo b l (by omega) (by omega) hl
   have:=ih (go a l).toNat (go b l).toNat (by omega) (by omega) (by
    rw [Int.toNat_of_nonneg ga.1,Int.toNat_of_nonneg gb.1]
    exact h1.2 l hl)
   rwa [Int.toNat_of_nonneg ga.1,Int.toNat_of_nonneg gb.1] at this
 apply Classical.byContradiction
 intro hc
 have hal:oI go ls acc k ((i.toNat:Nat):Int) ((j.toNat:Nat):Int):=by
  intro v hv hvl
  rw [Int.toNat_of_nonneg hi.1,Int.toNat_of_nonneg hj.1]
  apply Classical.byContradiction
  intro h
  exact hc ⟨v,hv,by omega,h⟩
 have:=stay w.length i.toNat j.toNat (by omega) (by omega) hal w hw (by omega)
 rw [Int.toNat_of_nonneg hi.1,Int.toNat_of_nonneg hj.1] at this
 exact hd this
end
end
def goA (a:Aut) (q l:Int):Int:=goI a.al a.nx q l
def accA (a:Aut) (q:Int):Bool:=a.ac.getD q.toNat false
theorem IZ {a:Aut} (h:AOK a):∀ q l:Int,0 ≤ q → q < a.nx.length → l ∈ aD a.al → 0 ≤ goA a q l ∧ goA a q l < a.nx.length:=by
 intro q l h0 h1 hl
 have:=lX l hl
 exact wM h h0 h1 this.1 (by omega)
theorem zG {a:Aut} (h:AOK a):∀ (w:List Int) (q:Int),(∀ l ∈ w,l ∈ aD a.al) → 0 ≤ q → q < a.nx.length → 0 ≤ rK (goA a) w q ∧ rK (goA a) w q < a.nx.length
 | [],q,_,h0,h1 => ⟨h0,h1⟩
 | l :: w,q,hw,h0,h1 => by
  have hg:=IZ h q l h0 h1 (hw l List.mem_cons_self)
  exact zG h w _ (fun x hx => hw x (List.mem_cons_of_mem _ hx)) hg.1 hg.2
theorem RP {x y n:Int} (hn:0 < n) (hx:0 ≤ x) (hy:0 ≤ y) (hy2:y < n):(x * n + y).tdiv n = x ∧ (x * n + y).tmod n = y:=by
 have h0:0 ≤ x * n + y:=by
  have:=Int.mul_nonneg hx (Int.le_of_lt hn)
  omega
 rw [Int.tdiv_eq_ediv_of_nonneg h0,Int.tmod_eq_emod_of_nonneg h0,Int.add_comm,Int.add_mul_ediv_right _ _ (by omega),Int.add_mul_emod_self_right,Int.ediv_eq_zero_of_lt hy hy2,Int.emod_eq_of_lt hy hy2]
 omega
theorem RO {a:Aut} (h:AOK a):∀ (w:List Int) (i j u:Int),0 ≤ i → i < a.nx.length → 0 ≤ j → j < a.nx.length →
  (Path (nxT a a) (aD a.al) (i * a.nx.length + j) w u ↔ (∀ l ∈ w,l ∈ aD a.al) ∧ u = rK (goA a) w i * a.nx.length + rK (goA a) w j)
 | [],i,j,u,_,_,_,_ => by
  simp only [Path,rK,List.foldl_nil]
  constructor
  ·rintro rfl; exact ⟨by simp,rfl⟩
  ·rintro ⟨_,rfl⟩; rfl
 | l :: w,i,j,u,i0,i1,j0,j1 => by
  obtain ⟨e1,e2⟩:=RP (n:=(a.nx.length:Int)) (by omega) i0 j0 j1
  simp only [Path,nxT,e1,e2,List.mem_singleton,exists_eq_left]
  constructor
  ·rintro ⟨hl,hp⟩
   have gi:=IZ h i l i0 i1 hl
   have gj:=IZ h j l j0 j1 hl
   obtain ⟨h1,h2⟩:=(RO h w (goA a i l) (goA a j l) u gi.1 gi.2 gj.1 gj.2).1 hp
   refine ⟨?_,h2⟩
   intro x hx
   rcases List.mem_cons.1 hx with rfl | hx
   ·exact hl
   ·exact h1 x hx
  ·rintro ⟨hw,hu⟩
   have hl:=hw l List.mem_cons_self
   have gi:=IZ h i l i0 i1 hl
   have gj:=IZ h j l j0 j1 hl
   exact ⟨hl,(RO h w (goA a i l) (goA a j l) u gi.1 gi.2 gj.1 gj.2).2 ⟨fun x hx => hw x (List.mem_cons_of_mem _ hx),hu⟩⟩
def aK0 (a:Aut) (i j:Int) (w:List Int):Prop:=(∀ l ∈ w,l ∈ aD a.al) ∧ accA a (rK (goA a) w i) ≠ accA a (rK (goA a) w j)
theorem aPy {a:Aut} (h:AOK a) {i j:Int} (hi:0 ≤ i ∧ i < a.nx.length) (hj:0 ≤ j ∧ j < a.nx.length) (w:List Int) :
  Hits (nxT a a) (aD a.al) [i * a.nx.length + j] (glT (fun x y => x != y) a a) w ↔ aK0 a i j w:=by
 unfold Hits yQ aK0
 simp only [List.mem_singleton,exists_eq_left]
 constructor
 ·rintro ⟨u,hp,hg⟩
  obtain ⟨h1,rfl⟩:=(RO h w i j u hi.1 hi.2 hj.1 hj.2).1 hp
  have ri:=zG h w i h1 hi.1 hi.2
  have rj:=zG h w j h1 hj.1 hj.2
  obtain ⟨e1,e2⟩:=RP (n:=(a.nx.length:Int)) (by omega) ri.1 rj.1 rj.2
  refine ⟨h1,?_⟩
  unfold glT at hg
  rw [e1,e2] at hg
  simpa [accA] using hg
 ·rintro ⟨h1,h2⟩
  have ri:=zG h w i h1 hi.1 hi.2
  have rj:=zG h w j h1 hj.1 hj.2
  obtain ⟨e1,e2⟩:=RP (n:=(a.nx.length:Int)) (by omega) ri.1 rj.1 rj.2
  refine ⟨_,(RO h w i j _ hi.1 hi.2 hj.1 hj.2).2 ⟨h1,rfl⟩,?_⟩
  unfold glT
  rw [e1,e2]
  simpa [accA] using h2
theorem aFm {a:Aut} (h:AOK a) {i j:Int} (hi:0 ≤ i ∧ i < a.nx.length) (hj:0 ≤ j ∧ j < a.nx.length):N9 (aK0 a i j) (eI a i j):=by
 have hok:PM a i j = true:=by
  have h':kM a.al a.nx a.ac = true:=h
  unfold PM
  rw [h']
  simp; omega
 unfold eI
 rw [if_pos hok]
 refine aLa (aPy h hi hj) ?_
 have hs:=IV hi hj
 have hr:∀ v c:Int,0 ≤ v → v < ((a.nx.length * a.nx.length:Nat):Int) → c ∈ aD a.al → ∀ m ∈ nxT a a v c,0 ≤ m ∧ m < ((a.nx.length * a.nx.length:Nat):Int):=by
  intro v c h0 h1 hc
  have:=lX c hc
  rw [Int.natCast_mul] at h1 ⊢
  exact YH h h h0 h1 (by omega)
 refine aJT (O1 _) hr (fun n hn => ?_) (by simp)
 simp only [List.mem_singleton] at hn
 subst hn
 rw [Int.natCast_mul]; exact hs
theorem aHV {a:Aut} (h:AOK a) {i j:Int} (hi:0 ≤ i ∧ i < a.nx.length) (hj:0 ≤ j ∧ j < a.nx.length) (h2:(eI a i j).2 = true):(eI a i j).1.length < a.nx.length ∧ ∀ l ∈ (eI a i j).1,l ∈ aD a.al:=by
 rcases aFm h hi hj with ⟨_,hl⟩ | ⟨he,_⟩
 ·obtain ⟨⟨t1,t2⟩,hmin⟩:=hl
  refine ⟨?_,t1⟩
  obtain ⟨v,v1,v2,v3⟩:=aJI (go:=goA a) (ls:=aD a.al) (acc:=accA a) (n:=a.nx.length) (IZ h) hi hj t1 t2
  apply Classical.byContradiction
  intro hc
  exact hmin v ⟨v1,v3⟩ (.inl (by omega))
 ·rw [he] at h2; cases h2
theorem aTk {al:Int} (ha:pA al = true) {w:List Int} (hw:∀ l ∈ w,l ∈ aD al) (hl:w.length ≤ 50000):u4 al (txt w) = true:=by
 unfold u4 txt
 simp only [Bool.and_eq_true,decide_eq_true_eq,List.length_map,List.all_eq_true,List.mem_map]
 refine ⟨⟨ha,hl⟩,?_⟩
 rintro b ⟨l,hlm,rfl⟩
 have hb:=lX l (hw l hlm)
 have h2:=(qT.1 (hw l hlm)).2
 unfold inB okB
 rw [aE9 hb.1 hb.2,h2]
 simp [aGO]
 omega
def OD (a:Aut) (o:List Str):Prop:=o.Nodup ∧ ∀ w ∈ o,w.length < a.nx.length ∧ u4 a.al w = true
theorem aDZ {a:Aut} (h:AOK a) {i:Nat} (hi:i < a.nx.length):∀ (q j:Nat) (o:List Str),j + q = a.nx.length → OD a o → OD a (sepJ a i q j o)
 | 0,_,o,_,ho => ho
 | q + 1,j,o,hj,ho => by
  unfold sepJ
  split
  ·rename_i hc
   refine aDZ h hi q (j + 1) _ (by omega) ⟨?_,fun w hw => ?_⟩
   ·rw [List.nodup_append]
    refine ⟨ho.1,by simp,fun x hx y hy => ?_⟩
    simp only [List.mem_singleton] at hy
    subst hy
    rintro rfl
    exact hc.2 hx
   ·rcases List.mem_append.1 hw with hw | hw
    ·exact ho.2 w hw
    ·simp only [List.mem_singleton] at hw
     subst hw
     obtain ⟨_,_,_,a2,_⟩:=dU h
     obtain ⟨s1,s2⟩:=aHV h (i:=i) (j:=j) (by omega) (by omega) hc.1
     exact ⟨by simpa [txt] using s1,aTk (z4 h).2.2.2 s2 (by omega)⟩
  ·exact aDZ h hi q (j + 1) o (by omega) ho
theorem aKq {a:Aut} (h:AOK a):∀ (q i:Nat) (o:List Str),i + q = a.nx.length → OD a o → OD a (sepA a q i o)
 | 0,_,o,_,ho => ho
 | q + 1,i,o,hi,ho => by
  unfold sepA
  exact aKq h q (i + 1) _ (by omega) (aDZ h (by omega) _ (i + 1) o (by omega) ho)
theorem aKg {a:Aut} (h:AOK a):OD a (sepW a):=by
 obtain ⟨a1,_,_,ha⟩:=z4 h
 refine aKq h _ 0 _ (by omega) ⟨by simp,fun w hw => ?_⟩
 simp only [List.mem_singleton] at hw
 subst hw
 refine ⟨by simp; omega,?_⟩
 unfold u4
 simp [ha]
theorem L3 {a:Aut} {i:Int}:∀ (q j:Nat) (o:List Str) (w:Str),w ∈ o → w ∈ sepJ a i q j o
 | 0,_,_,_,h => h
 | q + 1,j,o,w,h => by
  unfold sepJ
  split
  ·exact L3 q (j + 1) _ w (List.mem_append_left _ h)
  ·exact L3 q (j + 1) o w h
theorem aBu {a:Aut} {i:Int}:∀ (q j:Nat) (o:List Str) (p:Nat),j ≤ p → p < j + q → (eI a i p).2 = true → txt (eI a i p).1 ∈ sepJ a i q j o
 | 0,j,o,p,h1,h2,_ => by omega
 | q + 1,j,o,p,h1,h2,hs => by
  unfold sepJ
  by_cases he:p = j
  ·subst he
   by_cases hin:txt (eI a i p).1 ∈ o
   ·rw [if_neg fun h => h.2 hin]
    exact L3 _ _ _ _ hin
   ·rw [if_pos ⟨hs,hin⟩]
    exact L3 _ _ _ _ (by simp)
  ·split
   ·exact aBu q (j + 1) _ p (by omega) (by omega) hs
   ·exact aBu q (j + 1) _ p (by omega) (by omega) hs
theorem aHm {a:Aut}:∀ (q i:Nat) (o:List Str) (w:Str),w ∈ o → w ∈ sepA a q i o
 | 0,_,_,_,h => h
 | q + 1,i,o,w,h => by
  unfold sepA
  exact aHm q (i + 1) _ w (L3 _ _ _ _ h)
theorem aHU {a:Aut}:∀ (q i:Nat) (o:List Str) (p r:Nat),i + q = a.nx.length → i ≤ p → p < r → r < a.nx.length → (eI a p r).2 = true → txt (eI a p r).1 ∈ sepA a q i o
 | 0,i,o,p,r,h0,h1,h2,h3,_ => by omega
 | q + 1,i,o,p,r,h0,h1,h2,h3,hs => by
  unfold sepA
  by_cases he:p = i
  ·subst he
   exact aHm _ _ _ _ (aBu _ _ _ r (by omega) (by omega) hs)
  ·exact aHU q (i + 1) _ p r (by omega) (by omega) h2 h3 hs
theorem aLb {a:Aut}:(sepW a).getD 0 [] = []:=by
 have key:∀ (q i j:Nat) (o:List Str),0 < o.length → (sepJ a i q j o).getD 0 [] = o.getD 0 [] ∧ 0 < (sepJ a i q j o).length:=by
  intro q
  induction q with
  | zero => intro i j o h; exact ⟨rfl,h⟩
  | succ q ih =>
   intro i j o h
   unfold sepJ
   split
   ·obtain ⟨h1,h2⟩:=ih i (j + 1) (o ++ [txt (eI a i j).1]) (by simp)
    refine ⟨?_,h2⟩
    rw [h1,List.getD_eq_getElem?_getD,List.getElem?_append_left h,List.getD_eq_getElem?_getD]
   ·exact ih i (j + 1) o h
 have key2:∀ (q i:Nat) (o:List Str),0 < o.length → (sepA a q i o).getD 0 [] = o.getD 0 []:=by
  intro q
  induction q with
  | zero => intro i o h; rfl
  | succ q ih =>
   intro i o h
   unfold sepA
   obtain ⟨h1,h2⟩:=key (a.nx.length - (i + 1)) i (i + 1) o h
   rw [ih (i + 1) _ h2,h1]
 exact key2 _ 0 [[]] (by simp)
def difW (a:Aut) (i j:Int) (w:Str):Bool:=!(acQ a (stGo a.al a.nx w i) == acQ a (stGo a.al a.nx w j))
theorem MA {a:Aut}:∀ (w:Str) (q:Int),stGo a.al a.nx w q = (w.map ltr).foldl (goS a) q
 | [],_ => rfl
 | b :: w,q => by
  show stGo a.al a.nx w (goI a.al a.nx q (ltr b)) = _
  rw [MA w]; rfl
theorem aEG {al:Int} {w:Str} (hw:u4 al w = true):∀ l ∈ w.map ltr,l ∈ aD al:=by
 obtain ⟨_,_,h⟩:=VW hw
 intro l hl
 obtain ⟨b,hb,rfl⟩:=List.mem_map.1 hl
 obtain ⟨h1,h2⟩:=h b hb
 exact qT.2 ⟨aHY.1 h1,h2⟩
theorem WX {a:Aut}:∀ (w:List Int) (q:Int),(∀ l ∈ w,l ∈ aD a.al) → stGo a.al a.nx (txt w) q = w.foldl (goS a) q
 | [],_,_ => rfl
 | l :: w,q,h => by
  have hb:=lX l (h l List.mem_cons_self)
  show stGo a.al a.nx (txt w) (goI a.al a.nx q (ltr (pQ l))) = _
  rw [aE9 hb.1 hb.2,WX w _ fun m hm => h m (List.mem_cons_of_mem _ hm)]
  rfl
theorem aLD {a:Aut} (h:AOK a) {i j:Nat} (hj:j < i) (hi:i < a.nx.length):(sepW a).any (difW a i j) = !decide ((lS a).getD i 0 = (lS a).getD j 0):=by
 obtain ⟨l,_,_,_,hc⟩:=aHg h
 have hiff:=hc i j hi (by omega)
 rw [Bool.eq_iff_iff,List.any_eq_true]
 simp only [Bool.not_eq_true',decide_eq_false_iff_not]
 rw [hiff]
 constructor
 ·rintro ⟨w,hw,hd⟩ he
  have hwi:=(aKg h).2 w hw
  have:=he (w.map ltr) (aEG hwi.2)
  rw [← MA,← MA] at this
  unfold difW at hd
  rw [this] at hd
  simp at hd
 ·intro hne
  have hsp:=aFm h (i:=(j:Int)) (j:=(i:Int)) (by omega) (by omega)
  have hs2:(eI a j i).2 = true:=by
   rcases hsp with ⟨h1,_⟩ | ⟨_,h2⟩
   ·exact h1
   ·exfalso
    apply hne
    intro w hw
    apply Classical.byContradiction
    intro hn
    exact h2 w ⟨hw,fun e => hn e.symm⟩
  refine ⟨txt (eI a j i).1,aHU _ 0 _ j i (by omega) (by omega) hj hi hs2,?_⟩
  rcases hsp with ⟨_,⟨⟨t1,t2⟩,_⟩⟩ | ⟨h1,_⟩
  ·unfold difW
   rw [WX _ _ t1,WX _ _ t1]
   have:acQ a ((eI a j i).1.foldl (goS a) j) ≠ acQ a ((eI a j i).1.foldl (goS a) i):=t2
   rw [Bool.not_eq_true',beq_eq_false_iff_ne]
   exact fun e => this e.symm
  ·rw [h1] at hs2; cases hs2
theorem aSi {cl r:List Int} {k:Nat} (h:k < r.length):keyT cl (r.drop k) = 44 :: gH (clA cl (r.getD k 0)) ++ keyT cl (r.drop (k + 1)):=by
 rw [eS h (d:=0)]; rfl
theorem aJJ (a:Aut) (cl:List Int) (q:Nat):(List.range (q + 1)).map (keyA a cl) = (List.range q).map (keyA a cl) ++ [keyA a cl q]:=by
 rw [List.range_succ,List.map_append]; rfl
def cntG (a:Aut):Nat → List Int → Nat → Nat
 | 0,_,c => c
 | j + 1,cl,c => if (bG (sigs a cl)).length = c then c else cntG a j (numL (sigs a cl)) (bG (sigs a cl)).length
theorem aPe {a:O} {h:H} {g e k:Nat} {l:List Int} {v:Int} (hk:k < l.length):m3 env.P (a :: .arr (ints l) e g :: h) 3 (.ptr 1 g k) (.d (.int .i64 v)) = some (a :: .arr (ints (l.set k v)) e g :: h):=by
 rw [sV (id:=1) rfl d9 aGL rfl (by rw [dN]; exact hk),DY hk]; rfl
theorem aHA {a b c:O} {h:H} {g e k:Nat} {l:List Int} {v:Int} (hk:k < l.length):m3 env.P (a :: b :: c :: .arr (ints l) e g :: h) 3 (.ptr 3 g k) (.d (.int .i64 v)) = some (a :: b :: c :: .arr (ints (l.set k v)) e g :: h):=by
 rw [sV (id:=3) rfl d9 aGL rfl (by rw [dN]; exact hk),DY hk]; rfl
theorem qM {R:Type} {L n:Nat} (hn:1 ≤ n) (hL:2 ^ 60 ≤ L) {a:Aut} (ha:AOK a) {k:Exit → List A → H → Option R}:∀ (j i m:Nat) (c:List Int) (hi:i + j = a.nx.length) (hm:j < m) (hc:c = (cl0 a).take i ++ List.replicate (a.nx.length - i) 0),
  aO env (aA env L n) L 0 [] (Z1 (U2 (U1 (Z1 (U4 (Z1 (U1 (Z8 (Z1 (U2 (Z16 (U2 (U1 (Z8 (Z1 (U2 (U1 (Z32 (Z4 (Z2 ([]))))))))))))))))))))) (dP 0) (U1 (Z2 (Z1 (U16 (Z2 (U32 (U32 (U4 (U1 ([])))))))))) m (Y1 (.ptr 0 0 0 :: .d .nils :: .sl 1 0 0 a.nx.length :: Y16 (.d (.int .i64 ((a.nx.length:Int))) :: .d (.int .i64 ((i:Int))) :: Y32 (Y32 (Y4 (Y1 ([]))))))) [.box [.d (.int .i64 a.al),.d (.ivs a.nx.length (aJ a.nx)),.d (.ivs a.ac.length (aK a.ac))],.arr (ints c) 1 0] k
  = k (.exit 0) (Y1 (.ptr 0 0 0 :: .d .nils :: .sl 1 0 0 a.nx.length :: Y16 (.d (.int .i64 ((a.nx.length:Int))) :: .d (.int .i64 ((a.nx.length:Int))) :: Y32 (Y32 (Y4 (Y1 ([]))))))) [.box [.d (.int .i64 a.al),.d (.ivs a.nx.length (aJ a.nx)),.d (.ivs a.ac.length (aK a.ac))],.arr (ints (cl0 a)) 1 0]:=by
 obtain ⟨sa,wa,a1,a2,a3⟩:=dU ha
 have hal:=sa.1
 have hcl:(cl0 a).length = a.nx.length:=(aA0 ha).len
 intro j
 induction j with
 | zero =>
  intro i m c hi hm hc
  obtain _ | m:=m; omega
  obtain rfl:i = a.nx.length:=by omega
  have e:c = cl0 a:=by rw [hc,List.take_of_length_le (by omega),Nat.sub_self]; simp
  subst e
  rw [uT]
  simp only [uH,Tryd.f29,SLM,simprocAttr]
  simp -implicitDefEqProofs (maxSteps:=2000000) (disch:=try exact Dz) only [↓DN,↓kAsg,↓kRet,UP,simprocAttr,↓gW,LA,Int.lt_irrefl]
 | succ j ih =>
  intro i m c hi hm hc
  obtain _ | m:=m; omega
  have hlt:(i:Int) < a.nx.length:=by omega
  have hi0:(0:Int) ≤ i:=by omega
  have hia:(i:Int) < a.ac.length:=by omega
  have hlen:c.length = a.nx.length:=by rw [hc,List.length_append,List.length_take,List.length_replicate]; omega
  have hk:i < c.length:=by omega
  have hik:(i:Int) < c.length:=by omega
  have hg:(cl0 a)[i]'(by omega) = if a.ac.getD i false = true then 1 else 0:=by
   unfold cl0
   rw [List.getElem_map,List.getD_eq_getElem?_getD,List.getElem?_eq_getElem (by omega)]; rfl
  have hrep:List.replicate (a.nx.length - i) (0:Int) = 0 :: List.replicate (a.nx.length - (i + 1)) 0:=by
   rw [show a.nx.length - i = (a.nx.length - (i + 1)) + 1 by omega,List.replicate_succ]
  have htk:(cl0 a).take (i + 1) = (cl0 a).take i ++ [(cl0 a)[i]'(by omega)]:=by
   rw [List.take_add_one,List.getElem?_eq_getElem (by omega)]; rfl
  cases hb:a.ac.getD i false with
  | true =>
   have ih':=ih (i + 1) m (c.set i 1) (by omega) (by omega) (by
    rw [htk,hg,hb,hc,hrep,List.set_append_right _ _ (by rw [List.length_take]; omega)]
    rw [show i - ((cl0 a).take i).length = 0 by rw [List.length_take]; omega]
    simp)
   rw [show ((i + 1:Nat):Int) = (i:Int) + 1 by omega] at ih'
   clear ih hc hg hrep htk
   rw [uT]
   simp only [uH,Tryd.f29,SLM,simprocAttr]
   simp -implicitDefEqProofs (maxSteps:=2000000) (disch:=try exact Dz) only [↓DN,↓kAsg,↓kRet,UP,simprocAttr,↓gW,LA,hlt,hi0,hia,hb,hik,dW,d9,hlen,↓aPe,Int.toNat_natCast,↓ih']
  | false =>
   have ih':=ih (i + 1) m c (by omega) (by omega) (by
    rw [htk,hg,hb,hc,hrep]; simp)
   rw [show ((i + 1:Nat):Int) = (i:Int) + 1 by omega] at ih'
   clear ih hc hg hrep htk
   rw [uT]
   simp only [uH,Tryd.f29,SLM,simprocAttr]
   simp -implicitDefEqProofs (maxSteps:=2000000) (disch:=try exact Dz) only [↓DN,↓kAsg,↓kRet,UP,simprocAttr,↓gW,LA,hlt,hi0,hia,hb,hik,Int.toNat_natCast,↓ih']
theorem F9 {R:Type} {L n:Nat} (hn:5 ≤ n) (hL:2 ^ 60 ≤ L) {a:Aut} {cl:List Int} (hcl:cl.length = a.nx.length) (hrng:∀ q,q < a.nx.length → 0 ≤ cl.getD q 0 ∧ cl.getD q 0 < 12) (hal:a.nx.length ≤ 12) {r:List Int} (hr6:r.length ≤ 6) (hr:∀ x ∈ r,0 ≤ x ∧ x < a.nx.length) {o:List (D × D)} {nl:List D} {q n20 n21 c:Int} {k:Exit → List A → H → Option R}:∀ (j p m:Nat) (s:Str) (hp:p + j = r.length) (hm:j < m) (hs:s.length + 3 * j ≤ 1000),
  aO env (aA env L n) L 0 [] (Z1 (U2 (U1 (Z1 (U4 (Z1 (U1 (Z8 (Z1 (U2 (Z16 (U2 (U1 (Z8 (Z1 (U2 (U1 (Z32 (Z4 (Z2 ([]))))))))))))))))))))) (dP 3) (U1 (Z2 (Z1 (U1 (Z4 (U1 (Z1 (U8 (U1 (Z2 (U16 (Z2 (Z1 (U8 (U1 (Z2 (Z1 (U32 (U4 (U2 ([]))))))))))))))))))))) m (Y1 (.ptr 0 0 0 :: .d .nils :: .sl 1 0 0 a.nx.length :: Y1 (.d (.int .i64 c) :: .mp 2 :: .sl 3 0 0 a.nx.length :: .d (.int .i64 q) :: Y1 (.d (.str s) :: Y8 (Y1 (.d (.int .i64 n20) :: .d (.int .i64 n21) :: Y16 (.d (.ivs a.nx.length (aJ a.nx)) :: .d (.int .i64 ((a.nx.length:Int))) :: .d (.int .i64 q) :: Y8 (Y1 (.d (.ivs r.length (ints r)) :: .d (.int .i64 ((r.length:Int))) :: .d (.int .i64 ((p:Int))) :: Y32 (Y4 (Y2 ([])))))))))))) [.box [.d (.int .i64 a.al),.d (.ivs a.nx.length (aJ a.nx)),.d (.ivs a.ac.length (aK a.ac))],.arr (ints cl) 1 0,.mp o,.arr nl 1 0] k
  = k (.exit 6) (Y1 (.ptr 0 0 0 :: .d .nils :: .sl 1 0 0 a.nx.length :: Y1 (.d (.int .i64 c) :: .mp 2 :: .sl 3 0 0 a.nx.length :: .d (.int .i64 q) :: Y1 (.d (.str ((s ++ keyT cl (r.drop p)))) :: Y8 (Y1 (.d (.int .i64 n20) :: .d (.int .i64 n21) :: Y16 (.d (.ivs a.nx.length (aJ a.nx)) :: .d (.int .i64 ((a.nx.length:Int))) :: .d (.int .i64 q) :: Y8 (Y1 (.d (.ivs r.length (ints r)) :: .d (.int .i64 ((r.length:Int))) :: .d (.int .i64 ((r.length:Int))) :: Y32 (Y4 (Y2 ([])))))))))))) [.box [.d (.int .i64 a.al),.d (.ivs a.nx.length (aJ a.nx)),.d (.ivs a.ac.length (aK a.ac))],.arr (ints cl) 1 0,.mp o,.arr nl 1 0]:=by
 intro j
 induction j with
 | zero =>
  intro p m s hp hm hs
  obtain _ | m:=m; omega
  obtain rfl:p = r.length:=by omega
  have e:s ++ keyT cl (r.drop r.length) = s:=by rw [List.drop_length]; simp [keyT]
  rw [e]
  rw [F0]
  simp only [AT,Tryd.f29,SLM,simprocAttr]
  simp -implicitDefEqProofs (maxSteps:=2000000) (disch:=try exact Dz) only [↓DN,↓kAsg,↓kRet,UP,simprocAttr,↓gW,↓qM,LA,Int.lt_irrefl]
 | succ j ih =>
  intro p m s hp hm hs
  obtain _ | m:=m; omega
  have hk:p < r.length:=by omega
  have hlt:(p:Int) < r.length:=by omega
  have hp0:(0:Int) ≤ p:=by omega
  obtain ⟨x0,x1⟩:=hr _ (aSo hk)
  obtain ⟨c0,c1⟩:=hrng (r.getD p 0).toNat (by omega)
  have x2:r.getD p 0 < cl.length:=by omega
  have kc_i:=fun {R:Type} {n:Nat} {hq:H} {k:A → H → Option R} (hn:4 ≤ n) => @gW R L n hq k hn (cl.getD (r.getD p 0).toNat 0) c0 c1
  have hil:=aHK (cl.getD (r.getD p 0).toNat 0)
  rw [aSi hk]
  have ih':=ih (p + 1) m (s ++ 44 :: gH (cl.getD (r.getD p 0).toNat 0)) (by omega) (by omega) (by rw [List.length_append,List.length_cons]; omega)
  rw [show ((p + 1:Nat):Int) = (p:Int) + 1 by omega] at ih'
  unfold clA
  rw [List.append_assoc] at ih'
  clear ih hr hrng
  generalize keyT cl (r.drop (p + 1)) = w at *
  generalize hx:r.getD p 0 = x at *
  generalize hci:cl.getD x.toNat 0 = ci at *
  generalize gH ci = t at *
  have hb1:([44]:Str).length + t.length ≤ b5:=by unfold b5; simp; omega
  have hb2:s.length + ([44] ++ t:Str).length ≤ b5:=by unfold b5; simp; omega
  have hb3:s.length + (t.length + 1) ≤ b5:=by unfold b5; omega
  rw [F0]
  simp only [AT,Tryd.f29,SLM,simprocAttr]
  simp -implicitDefEqProofs (maxSteps:=2000000) (disch:=try exact Dz) only [↓DN,↓kAsg,↓kRet,UP,simprocAttr,↓qM,LA,hlt,hp0,hx,x0,x2,hci,hcl,x1,dW,d9,↓kc_i,hb1,hb2,hb3,Int.toNat_natCast,List.cons_append,List.nil_append,List.length_cons,↓ih']
theorem WA {R:Type} {L n:Nat} (hn:5 ≤ n) (hL:2 ^ 60 ≤ L) {a:Aut} (ha:AOK a) {cl:List Int} (hC:Cls a cl) {n20 n21 c:Int} {k:Exit → List A → H → Option R}:∀ (j q m:Nat) (o:List Str) (nl:List Int) (hq:q + j = a.nx.length) (hm:j < m) (ho:o = bG ((List.range q).map (keyA a cl))) (hnl:nl = numL ((List.range q).map (keyA a cl)) ++ List.replicate (a.nx.length - q) 0),
  aO env (aA env L n) L 0 [] (Z1 (U2 (U1 (Z1 (U4 (Z1 (U1 (Z8 (Z1 (U2 (Z16 (U2 (U1 (Z8 (Z1 (U2 (U1 (Z32 (Z4 (Z2 ([]))))))))))))))))))))) (dP 2) (U1 (Z2 (Z1 (U1 (Z2 (Z1 (U8 (U4 (Z2 (U16 (Z2 (Z1 (U32 (U16 (U2 ([])))))))))))))))) m (Y1 (.ptr 0 0 0 :: .d .nils :: .sl 1 0 0 a.nx.length :: Y1 (.d (.int .i64 c) :: .mp 2 :: .sl 3 0 0 a.nx.length :: Y8 (Y4 (.d (.int .i64 n20) :: .d (.int .i64 n21) :: Y16 (.d (.ivs a.nx.length (aJ a.nx)) :: .d (.int .i64 ((a.nx.length:Int))) :: .d (.int .i64 ((q:Int))) :: Y32 (Y16 (Y2 ([]))))))))) [.box [.d (.int .i64 a.al),.d (.ivs a.nx.length (aJ a.nx)),.d (.ivs a.ac.length (aK a.ac))],.arr (ints cl) 1 0,.mp (numS o),.arr (ints nl) 1 0] k
  = k (.exit 4) (Y1 (.ptr 0 0 0 :: .d .nils :: .sl 1 0 0 a.nx.length :: Y1 (.d (.int .i64 c) :: .mp 2 :: .sl 3 0 0 a.nx.length :: Y8 (Y4 (.d (.int .i64 n20) :: .d (.int .i64 n21) :: Y16 (.d (.ivs a.nx.length (aJ a.nx)) :: .d (.int .i64 ((a.nx.length:Int))) :: .d (.int .i64 ((a.nx.length:Int))) :: Y32 (Y16 (Y2 ([]))))))))) [.box [.d (.int .i64 a.al),.d (.ivs a.nx.length (aJ a.nx)),.d (.ivs a.ac.length (aK a.ac))],.arr (ints cl) 1 0,.mp (numS (bG (oS a cl))),.arr (ints (numL (oS a cl))) 1 0]:=by
 obtain ⟨sa,wa,a1,a2,a3⟩:=dU ha
 have hal:=sa.1
 intro j
 induction j with
 | zero =>
  intro q m o nl hq hm ho hnl
  obtain _ | m:=m; omega
  obtain rfl:q = a.nx.length:=by omega
  have e1:o = bG (oS a cl):=ho
  have e2:nl = numL (oS a cl):=by rw [hnl,Nat.sub_self]; simp [oS]
  subst e1; subst e2
  rw [uO]
  simp only [uB,Tryd.f29,SLM,simprocAttr]
  simp -implicitDefEqProofs (maxSteps:=2000000) (disch:=try exact Dz) only [↓DN,↓kAsg,↓kRet,UP,simprocAttr,↓gW,↓qM,↓F9,LA,Int.lt_irrefl]
 | succ j ih =>
  intro q m o nl hq hm ho hnl
  obtain _ | m:=m; omega
  have hlt:(q:Int) < a.nx.length:=by omega
  have hq0:(0:Int) ≤ q:=by omega
  have hql:(q:Int) < cl.length:=by rw [hC.len]; omega
  obtain ⟨c0,c1⟩:=hC.rng q (by omega)
  have hrow:=(XF ha (i:=q) (by omega)).1
  have hll:=eZ a.al
  have hrr:∀ x ∈ a.nx.getD q [],0 ≤ x ∧ x < a.nx.length:=by
   intro x hx
   have hm2:=aKm ha (v:=(q:Int)) (by omega) (by omega)
   unfold rowA at hm2
   rw [Int.toNat_natCast] at hm2
   rw [← hm2] at hx
   obtain ⟨l,hl,rfl⟩:=List.mem_map.1 hx
   exact aKC ha q l (by omega) (by omega) hl
  have hil:=aHK (cl.getD q 0)
  have kc_i:=fun {R:Type} {n:Nat} {hq:H} {k:A → H → Option R} (hn:4 ≤ n) => @gW R L n hq k hn (cl.getD q 0) c0 c1
  have loop_c:=fun {R:Type} {n:Nat} {o:List (D × D)} {nl:List D} {q':Int} {k:Exit → List A → H → Option R} (hn:5 ≤ n) => @F9 R L n hn hL a cl hC.len hC.rng a2 (a.nx.getD q []) (by omega) hrr o nl q' n20 n21 c k (a.nx.getD q []).length 0 L (gH (cl.getD q 0)) (by omega) (by omega) (by omega)
  rw [List.drop_zero] at loop_c
  have ek:gH (cl.getD q 0) ++ keyT cl (a.nx.getD q []) = keyA a cl q:=rfl
  rw [ek] at loop_c
  simp only [Int.natCast_zero] at loop_c
  have hpk:=aJJ a cl q
  have hnll:(numL ((List.range q).map (keyA a cl))).length = q:=by rw [RR,List.length_map,List.length_range]
  have hrep:List.replicate (a.nx.length - q) (0:Int) = 0 :: List.replicate (a.nx.length - (q + 1)) 0:=by
   rw [show a.nx.length - q = (a.nx.length - (q + 1)) + 1 by omega,List.replicate_succ]
  have hset:∀ v:Int,nl.set q v = numL ((List.range q).map (keyA a cl)) ++ v :: List.replicate (a.nx.length - (q + 1)) 0:=by
   intro v
   rw [hnl,hrep,List.set_append_right _ _ (by omega),hnll,Nat.sub_self,List.set_cons_zero]
  have hnlen:nl.length = a.nx.length:=by rw [hnl,List.length_append,hnll,List.length_replicate]; omega
  have hqn:q < nl.length:=by omega
  have hqn2:(q:Int) < nl.length:=by omega
  by_cases hin:keyA a cl q ∈ o
  ·have hadd:addG o (keyA a cl q) = o:=aR2 hin
   have ih':=ih (q + 1) m o (nl.set q (idxG o (keyA a cl q):Nat)) (by omega) (by omega) (by rw [hpk,qR,← ho,hadd]) (by rw [hset,hpk,NL,← ho,hadd]; simp)
   rw [show ((q + 1:Nat):Int) = (q:Int) + 1 by omega] at ih'
   clear ih hset hnl ho hpk hnll hrep hrr hC ek hadd
   generalize hci:cl.getD q 0 = ci at *
   generalize hrw:a.nx.getD q [] = rw0 at *
   have hrw2:rw0.length ≤ 6:=by omega
   generalize keyA a cl q = key at *
   rw [uO]
   simp only [uB,Tryd.f29,SLM,simprocAttr]
   simp -implicitDefEqProofs (maxSteps:=2000000) (disch:=try exact Dz) only [↓DN,↓kAsg,↓kRet,UP,simprocAttr,LA,hlt,hq0,hql,hci,hrw,hqn,hqn2,hnlen,Int.toNat_natCast,dW,d9,d7,eD,↓kc_i,↓loop_c,aET,hin,decide_true,if_true,↓aHA,↓ih']
  ·have hadd:addG o (keyA a cl q) = o ++ [keyA a cl q]:=aID hin
   have hidx2:=aPA hin
   have ih':=ih (q + 1) m (o ++ [keyA a cl q]) (nl.set q (o.length:Nat)) (by omega) (by omega) (by rw [hpk,qR,← ho,hadd]) (by rw [hset,hpk,NL,← ho,hadd,hidx2]; simp)
   rw [show ((q + 1:Nat):Int) = (q:Int) + 1 by omega] at ih'
   clear ih hset hnl ho hpk hnll hrep hrr hC ek hadd hidx2
   generalize hci:cl.getD q 0 = ci at *
   generalize hrw:a.nx.getD q [] = rw0 at *
   have hrw2:rw0.length ≤ 6:=by omega
   generalize keyA a cl q = key at *
   rw [uO]
   simp only [uB,Tryd.f29,SLM,simprocAttr]
   simp -implicitDefEqProofs (maxSteps:=2000000) (disch:=try exact Dz) only [↓DN,↓kAsg,↓kRet,UP,simprocAttr,LA,hlt,hq0,hql,hci,hrw,hqn,hqn2,hnlen,Int.toNat_natCast,dW,d9,d7,eD,↓kc_i,↓loop_c,aET,aPi,aAV,hin,decide_false,if_false,↓aHA,↓ih']
theorem XQ {R:Type} {L n:Nat} (hn:5 ≤ n) (hL:2 ^ 60 ≤ L) {a:Aut} (ha:AOK a) {n20 n21:Int} {k:Exit → List A → H → Option R}:∀ (j m:Nat) (cl:List Int) (c:Nat) (hC:Cls a cl) (h0:c = 0 ∨ c = (bG cl).length) (hj:a.nx.length < j + c) (hle:c ≤ a.nx.length) (hm:j < m),
  aO env (aA env L n) L 0 [] (Z1 (U2 (U1 (Z1 (U4 (Z1 (U1 (Z8 (Z1 (U2 (Z16 (U2 (U1 (Z8 (Z1 (U2 (U1 (Z32 (Z4 (Z2 ([]))))))))))))))))))))) (dP 1) (U1 (Z2 (Z1 (U1 (Z1 (U8 (U4 (U2 (Z2 (U32 (U32 (U4 (U1 ([])))))))))))))) m (Y1 (.ptr 0 0 0 :: .d .nils :: .sl 1 0 0 a.nx.length :: Y1 (.d (.int .i64 ((c:Int))) :: Y8 (Y4 (Y2 (.d (.int .i64 n20) :: .d (.int .i64 n21) :: Y32 (Y32 (Y4 (Y1 ([])))))))))) [.box [.d (.int .i64 a.al),.d (.ivs a.nx.length (aJ a.nx)),.d (.ivs a.ac.length (aK a.ac))],.arr (ints cl) 1 0] k
  = k .ret (Y1 (.ptr 0 0 0 :: .sl 1 0 0 a.nx.length :: .sl 1 0 0 a.nx.length :: Y1 (.d (.int .i64 ((cntG a j cl c:Int))) :: Y8 (Y4 (Y2 (.d (.int .i64 n20) :: .d (.int .i64 n21) :: Y32 (Y32 (Y4 (Y1 ([])))))))))) [.box [.d (.int .i64 a.al),.d (.ivs a.nx.length (aJ a.nx)),.d (.ivs a.ac.length (aK a.ac))],.arr (ints (clsG a j cl c)) 1 0]:=by
 obtain ⟨sa,wa,a1,a2,a3⟩:=dU ha
 have hal:=sa.1
 intro j
 induction j with
 | zero =>
  intro m cl c hC h0 hj hle hm
  omega
 | succ j ih =>
  intro m cl c hC h0 hj hle hm
  obtain _ | m:=m; omega
  have hcn:=aH9 ha hC
  obtain ⟨ks1,ks2⟩:=aNi ha hC
  have loop_c:=fun {R:Type} {n:Nat} {k:Exit → List A → H → Option R} (hn:5 ≤ n) => @WA R L n hn hL a ha cl hC n20 n21 (c:Int) k a.nx.length 0 L [] (List.replicate a.nx.length 0) (by omega) (by omega) rfl (by simp [numL,bG])
  rw [ks1,aO7] at loop_c
  simp only [Int.natCast_zero] at loop_c
  have hlen:=hC.len
  have hl2:(bG (oS a cl)).length = (bG (sigs a cl)).length:=ks2
  have hle2:=SS (sigs a cl)
  rw [j2] at hle2
  unfold clsG cntG
  by_cases he:(bG (sigs a cl)).length = c
  ·rw [if_pos he,if_pos he]
   have he2:(((bG (oS a cl)).length:Nat):Int) = (c:Int):=by omega
   clear ih hcn ks1 ks2 h0 hC
   generalize numL (sigs a cl) = w at *
   generalize bG (oS a cl) = fk at *
   rw [E7]
   simp only [AM,Tryd.f29,SLM,simprocAttr]
   simp -implicitDefEqProofs (maxSteps:=2000000) (disch:=try exact Dz) only [↓DN,↓kAsg,↓kRet,UP,simprocAttr,↓gW,LA,hlen,↓vC,Int.toNat_natCast,↓loop_c,aAV,he2,dW,d9]
  ·rw [if_neg he,if_neg he]
   have hpos:0 < (bG (sigs a cl)).length:=by
    have:(sigs a cl)[0]'(by rw [j2]; omega) ∈ bG (sigs a cl):=eH.2 (List.getElem_mem _)
    exact List.length_pos_of_mem this
   have hge:c ≤ (bG (sigs a cl)).length:=by
    rcases h0 with h0 | h0
    ·omega
    ·have:=TV (sigs a cl) (fun s => s.headD 0)
     rw [XP hC] at this
     omega
   have ih':=ih m (numL (sigs a cl)) (bG (sigs a cl)).length hcn (.inr (aAJ (aE3 (sigs a cl))).2.symm) (by omega) hle2 (by omega)
   have he2:¬ ((((bG (oS a cl)).length:Nat):Int) = (c:Int)):=by omega
   rw [← ks2] at ih' ⊢
   clear ih hcn ks1 ks2 h0 hC hpos hge
   generalize clsG a j (numL (sigs a cl)) (bG (oS a cl)).length = z at *
   generalize cntG a j (numL (sigs a cl)) (bG (oS a cl)).length = z2 at *
   generalize numL (sigs a cl) = w at *
   generalize bG (oS a cl) = fk at *
   rw [E7]
   simp only [AM,Tryd.f29,SLM,simprocAttr]
   simp -implicitDefEqProofs (maxSteps:=2000000) (disch:=try exact Dz) only [↓DN,↓kAsg,↓kRet,UP,simprocAttr,↓gW,LA,hlen,↓vC,Int.toNat_natCast,↓loop_c,aAV,he2,dW,d9,↓ih']
theorem aDL {L n:Nat} (hn:6 ≤ n) (a:Aut) (ha:AOK a) (hL:2 ^ 60 ≤ L):aA env L n 29 [.agg [.d (.int .i64 a.al),.d (.ivs a.nx.length (aJ a.nx)),.d (.ivs a.ac.length (aK a.ac))]] [] = some (.d (.ivs (lS a).length (ints (lS a))),[]):=by
 obtain ⟨sa,wa,a1,a2,a3⟩:=dU ha
 have hal:=sa.1
 have loop_a:=fun {R:Type} {n:Nat} {k:Exit → List A → H → Option R} (hn:1 ≤ n) => @qM R L n hn hL a ha k a.nx.length 0 L (List.replicate a.nx.length 0) (by omega) (by omega) (by simp)
 have loop_b:=fun {R:Type} {n:Nat} {n20 n21:Int} {k:Exit → List A → H → Option R} (hn:5 ≤ n) => @XQ R L n hn hL a ha n20 n21 k (a.nx.length + 1) L (cl0 a) 0 (aA0 ha) (.inl rfl) (by omega) (by omega) (by omega)
 have e:clsG a (a.nx.length + 1) (cl0 a) 0 = lS a:=rfl
 rw [e] at loop_b
 have hcl:=aEW ha
 simp only [Int.natCast_zero] at loop_a loop_b
 have e4:(ints (lS a)).take a.nx.length = ints (lS a):=by rw [c8 (by omega)]
 have e5:(ints (lS a)).length = a.nx.length:=by rw [dN,hcl]
 rw [hcl]
 generalize cntG a (a.nx.length + 1) (cl0 a) 0 = z2 at *
 generalize lS a = w at *
 obtain _ | n:=n; omega
 rw [aD3]
 simp only [TG,Tryd.f29,SLM,simprocAttr]
 simp -implicitDefEqProofs (maxSteps:=2000000) (disch:=try exact Dz) only [↓DN,↓kAsg,↓kRet,UP,simprocAttr,↓gW,LA,↓vC,Int.toNat_natCast,↓loop_a,↓loop_b,e4,e5,Nat.le_refl]
theorem aDY {R:Type} {L n:Nat} {hq:H} {k:A → H → Option R} (hn:6 ≤ n) (a:Aut) (ha:AOK a) (hL:2 ^ 60 ≤ L):aL env (aA env L n) hq 29 [.agg [.d (.int .i64 a.al),.d (.ivs a.nx.length (aJ a.nx)),.d (.ivs a.ac.length (aK a.ac))]] k = k (.d (.ivs (lS a).length (ints (lS a)))) hq :=
 a5 rfl (aDL hn a ha hL) rfl (.inr rfl)
end Ev
end Go.Proofs.YtppdfjdfjfoddaaDoor
