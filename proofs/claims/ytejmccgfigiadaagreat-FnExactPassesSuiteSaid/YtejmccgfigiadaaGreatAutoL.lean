/-
  The exact laws' own functions, at edges and systems: copies, comparisons, marks.
-/
import Derived.Test.YtejmccgfigiadaaGreatSortLayX
import Derived.Test.YtejmccgfigiadaaGreatVec
set_option linter.unusedSimpArgs false
set_option linter.unusedVariables false
set_option maxRecDepth 8000
set_option maxHeartbeats 4000000
namespace Go.Proofs.YtejmccgfigiadaaGreat
namespace Ev
theorem L6 {R:Type} {E:Env} {call:bE} {h:H} {f:FuncId} {args:List A} {r:A} {k:KA R} {id e g e2 g2:Nat} {cs cs2:List D} (hi:h[id]? = some (.arr cs e g)) (hid:idsL args = [id]) (hm:(E.hint f).mode = 0) (hr:idsA r = []) (he:call f (aM (aJ [id]) args) [.arr cs e g] = some (r,[.arr cs2 e2 g2])) :
  aS E call h f args k = k r (h.set id (.arr cs2 e2 g2)):=by
 have hre:aD aG h [id] [] = [id]:=by
  have e1:aD aG h [id] [] = match h[id]? with
   | some (.box cs) => aD (aG - 1) h ([] ++ idsL cs) ([] ++ [id])
   | some (.vec cs _ _) => aD (aG - 1) h ([] ++ idsL cs) ([] ++ [id])
   | some .void => aD (aG - 1) h [] []
   | some _ => aD (aG - 1) h [] ([] ++ [id])
   | none => aD (aG - 1) h [] []:=rfl
  rw [e1,hi]; rfl
 have hpk:pack h [id] = [.arr cs e g]:=by
  simp only [pack,List.map_cons,List.map_nil,List.getD_eq_getElem?_getD,hi]; rfl
 unfold aS
 rw [hid,hre,hpk]
 have hc:cC call E.hint [.arr cs e g] f (aM (aJ [id]) args) = some (r,[.arr cs2 e2 g2]):=by
  unfold cC; rw [hm]; exact he
 rw [hc]
 have hcl:closed h [id] [id] = true:=by
  simp only [closed,List.all_cons,List.all_nil,hi]; simp
 simp only [List.length_cons,List.length_nil,Nat.le_refl,hcl,and_self,if_true,xW r hr]
 simp only [bG,mapO,List.map_nil,List.append_nil]
theorem EC {R:Type} {E:Env} {call:bE} {h h2:H} {f:FuncId} {args:List A} {r:A} {o:O} {k:KA R} (hs:args.all lZ = true) (hm:(E.hint f).mode = 2) (hc:call f args [] = some (r,o :: h2)) :
  aS E call h f args k = k (mapA (back [] h.length (h2.length + 1)) (mapA (back [] 0 (h2.length + 1)) r)) (h ++ ((o :: h2).map (mapO (back [] 0 (h2.length + 1)))).map (mapO (back [] h.length (h2.length + 1)))):=by
 have hcall:cC call E.hint [] f args = some (mapA (back [] 0 (h2.length + 1)) r,(o :: h2).map (mapO (back [] 0 (h2.length + 1)))):=by
  unfold cC
  rw [hm]
  simp only [mO hs,hc,List.length_nil,List.length_cons,List.nil_append]
 unfold aS
 rw [lM hs,I5,l7 _ (lM hs)]
 have:pack h [] = []:=rfl
 rw [this,hcall]
 simp only [List.length_nil,Nat.zero_le,true_and,closed,List.all_nil,Bool.and_self,if_true,bG,List.length_map,List.length_cons]
section
variable {R:Type} {L n:Nat}
structure Aut where
 al:Int
 nx:List (List Int)
 ac:List Bool
 deriving DecidableEq,Inhabited
def rowD (r:List Int):D:=.ivs r.length (ints r)
def rowsD (rs:List (List Int)):List D:=rs.map rowD
def bools (l:List Bool):List D:=l.map .bool
theorem tI {l:List (List Int)}:(rowsD l).length = l.length:=by simp [rowsD]
theorem kM {l:List Bool}:(bools l).length = l.length:=by simp [bools]
theorem HR {l:List Bool} {k:Nat} (h:l.length ≤ k):(bools l).take k = bools l:=List.take_of_length_le (by rw [kM]; exact h)
theorem X3 {l:List Bool} {k:Nat} (h:k < l.length):(((bools l).drop k).map A.d).head? = some (.d (.bool (l.getD k false))):=by
 rw [List.head?_map,List.head?_drop,bools,List.getElem?_map,List.getD_eq_getElem?_getD,List.getElem?_eq_getElem h]
 rfl
theorem aJq {l:List Bool} {k:Nat} {v:Bool} (h:k < l.length):cG (bools l) k [.bool v] = bools (l.set k v):=uA _ l k v h
theorem aAt {l:List (List Int)} {k:Nat} (h:k < l.length):(((rowsD l).drop k).map A.d).head? = some (.d (.ivs (l.getD k []).length (ints (l.getD k [])))):=by
 rw [List.head?_map,List.head?_drop,rowsD,List.getElem?_map,List.getD_eq_getElem?_getD,List.getElem?_eq_getElem h]
 rfl
theorem wY {l:List (List Int)} {k:Nat} (h:l.length ≤ k):(rowsD l).take k = rowsD l:=List.take_of_length_le (by rw [tI]; exact h)
theorem LA:type_of% (AI @tI (AI @kM (AI @X3 (AI @aAt @wY)))) :=
 ⟨@tI,@kM,@X3,@aAt,@wY⟩
theorem O7 {α:Type} {l:List α} {k:Nat} {v:α} {m:List α} (h:k < l.length):(l.set k v).take (k + 1) ++ m = l.take k ++ (v :: m):=by
 rw [take_set h]; simp
theorem aE0 (hn:1 ≤ n) {l:List Int} (hl:l.length ≤ 4294967296) {k:KE R}:∀ (i:Int) (m:Nat) (o:List Int) (len:Nat) (h0:0 ≤ i) (hi:i ≤ l.length) (hm:(l.length:Int) - i < m) (ho:o.length = l.length) (hlen:len = l.length),
  aF env (aA env L n) L 0 [] Bz18 (xY 0) Bz49 m (.d (.ivs l.length (ints l)) :: Y1 (.d .nils :: .sl 0 0 0 len :: nI i :: Y16 (Y1 ([])))) [.arr (ints o) 1 0] k
  = k (.exit 0) (.d (.ivs l.length (ints l)) :: Y1 (.d .nils :: .sl 0 0 0 l.length :: nI (l.length) :: Y16 (Y1 ([])))) [.arr (ints (o.take i.toNat ++ l.drop i.toNat)) 1 0]:=by
 intro i m o len h0 hi hm ho hlen
 obtain ⟨j,hj⟩:∃ j:Nat,(j:Int) = (l.length:Int) - i:=⟨((l.length:Int) - i).toNat,by omega⟩
 induction j generalizing i m o len with
 | zero =>
  obtain _ | m:=m; omega
  obtain rfl:i = l.length:=by omega
  simp -implicitDefEqProofs (maxSteps:=2000000) (disch:=try exact Dz) only [↓DN,↓kRet,UP,simprocAttr,Int.lt_irrefl,JX,HN,Tryz.f90]
  have e1:o.take l.length = o:=List.take_of_length_le (by omega)
  simp only [List.drop_length,e1,List.append_nil,hlen]
 | succ j ih =>
  obtain _ | m:=m; omega
  have hc:i < l.length:=by omega
  have hk:i.toNat < l.length:=by omega
  have hk2:i.toNat < o.length:=by omega
  have hc2:i < (len:Int):=by omega
  have e1:(i + 1).toNat = i.toNat + 1:=by omega
  simp -implicitDefEqProofs (maxSteps:=2000000) (disch:=try exact Dz) only [↓DN,↓kRet,UP,simprocAttr,hc,hc2,↓HB,↓ih,JX,HN,Tryz.f90]
  rw [bK hk (d:=0),e1,O7 hk2]
theorem aH4 (hn:2 ≤ n) (l:List Int) (hl:l.length ≤ 4294967296) (hL:2 ^ 60 ≤ L):aA env L n 90 [.d (.ivs l.length (ints l))] [] = some (.sl 0 0 0 l.length,[.arr (ints l) 1 0]):=by
 obtain _ | n:=n; omega
 simp -implicitDefEqProofs (maxSteps:=2000000) (disch:=try exact Dz) only [↓DN,↓kAsg,↓kRet,UP,simprocAttr,↓xO,↓aE0,Int.toNat_zero,aIH,aEd,Tryz.f90]
theorem aIo {hq:H} {k:KA R} (hn:2 ≤ n) (l:List Int) (hl:l.length ≤ 4294967296) (hL:2 ^ 60 ≤ L):aS env (aA env L n) hq 90 [.d (.ivs l.length (ints l))] k = k (.sl hq.length 0 0 l.length) (hq ++ [.arr (ints l) 1 0]):=by
 rw [EC rfl aE8 (aH4 hn l hl hL)]
 simp [mapA,back,mapO]
theorem aC0:env.P.cellsOf 90 = 1:=kr
theorem aMB:(env.P.info? 90).isSome = true:=kr
theorem aMe {h:H} {g k id gg o len:Nat} {cells:List A} (hk:k < cells.length):gT env.P (.vec cells 1 g :: h) 90 (.ptr 0 g k) (.sl id gg o len) = some (.vec (cells.set k (.sl id gg o len)) 1 g :: h):=by
 have hc:(aR (.sl id gg o len)).length = env.P.cellsOf 90 ∧ (env.P.info? 90).isSome = true ∧ (aR (.sl id gg o len)).all dO = true:=⟨by rw [aC0]; rfl,aMB,rfl⟩
 have hs:cG cells k (aR (.sl id gg o len)) = cells.set k (.sl id gg o len):=by
  unfold cG
  rw [List.set_eq_take_append_cons_drop,if_pos hk]
  simp [aR]
 unfold gT
 rw [if_pos hc]
 simp only [List.getElem?_cons_zero,aC0,true_and,hs]
 rw [if_pos (by omega)]
 rfl
theorem aKp {n:Int} {h:H} (h0:0 ≤ n) (h1:n ≤ 4294967296):r7 env.P h 22 n n = some (.sl h.length 0 0 n.toNat,h ++ [.vec (a8 n.toNat) 1 0]):=by
 have hm:n ≤ (bF:Nat):=by unfold bF; omega
 have he:dG env.P 22 = some 90:=kr
 have hz:cX env.P 90 = some (.d .nils):=kr
 have hok:eM env.P 90 = true:=kr
 simp only [r7,he,hz,aR,nP,Option.map_some,hok,h0,hm,aC0,Int.le_refl,and_self,if_true,I9,List.map_replicate]
 rfl
theorem aLO {d:List (List Int)} {j k id:Nat} {r:List Int} (hk:k = d.length) (hid:id = d.length + 1):(aU 1 d ++ a8 (j + 1)).set k (.sl id 0 0 r.length) = aU 1 (d ++ [r]) ++ a8 j:=by
 subst hk; subst hid
 rw [WU,List.set_append_right _ _ (by rw [w9]; exact Nat.le_refl _),w9,Nat.sub_self,IU,List.set_cons_zero,Nat.add_comm 1]
 simp
theorem aET (rs:List (List Int)) (r:List Int):bB rs ++ [.arr (ints r) 1 0] = bB (rs ++ [r]):=aHi rs r
def aT (rs:List (List Int)):Prop:=rs.length ≤ 4294967296 ∧ ∀ r ∈ rs,r.length ≤ 4294967296
theorem vZ {rs:List (List Int)} (h:aT rs) {k:Nat} (hk:k < rs.length):(rs.getD k []).length ≤ 4294967296:=by
 rw [List.getD_eq_getElem?_getD,List.getElem?_eq_getElem hk]
 exact h.2 _ (List.getElem_mem hk)
theorem aEB (hn:3 ≤ n) (hL:2 ^ 60 ≤ L) {rs:List (List Int)} (hs:aT rs) {k:KE R}:∀ (j:Nat) (i:Int) (m:Nat) (d:List (List Int)) (len:Nat) (h0:0 ≤ i) (hi:i + j = rs.length) (hm:j < m) (hd:(d.length:Int) = i) (hlen:len = rs.length),
  aF env (aA env L n) L 0 (W4 (W2 (W1 [1002]))) Bz30 (oO 0) Bz50 m (.d (.ivs rs.length (rowsD rs)) :: Y1 (.d .nils :: .sl 0 0 0 len :: nI i :: Y16 (Y2 ([])))) (.vec (aU 1 d ++ a8 j) 1 0 :: bB d) k
  = k (.exit 0) (.d (.ivs rs.length (rowsD rs)) :: Y1 (.d .nils :: .sl 0 0 0 rs.length :: nI (rs.length) :: Y16 (Y2 ([])))) (.vec (aU 1 (d ++ rs.drop i.toNat) ++ a8 0) 1 0 :: bB (d ++ rs.drop i.toNat)):=by
 intro j
 have hrl:=hs.1
 induction j with
 | zero =>
  intro i m d len h0 hi hm hd hlen
  obtain _ | m:=m; omega
  obtain rfl:i = rs.length:=by omega
  have hdl:d.length ≤ 4294967296:=by omega
  simp -implicitDefEqProofs (maxSteps:=2000000) (disch:=try exact Dz) only [↓DN,↓kRet,UP,simprocAttr,Int.lt_irrefl,↓GA,GA,z0As,z0A,eq_self,hlen,GJ,E4,Tryz.f46]
  simp only [List.drop_length,List.append_nil]
 | succ j ih =>
  intro i m d len h0 hi hm hd hlen
  obtain _ | m:=m; omega
  subst hlen
  have hc:i < rs.length:=by omega
  have hk:i.toNat < rs.length:=by omega
  have hk2:i.toNat < (aU 1 d ++ a8 (j + 1)).length:=by simp [w9,aIA]; omega
  have hrow:=vZ hs hk
  have e1:(i + 1).toNat = i.toNat + 1:=by omega
  have e2:i.toNat = d.length:=by omega
  have hdl:(d ++ [rs.getD i.toNat []]).length ≤ 4294967296:=by simp; omega
  simp -implicitDefEqProofs (maxSteps:=2000000) (disch:=try exact Dz) only [↓DN,↓kRet,UP,simprocAttr,↓aIo,LA,hc,↓aMe,aLO,aET,gP,↓GA,GA,z0As,z0A,eq_self,GJ,E4,Tryz.f46]
  rw [ih (i + 1) m _ _ (by omega) (by omega) (by omega) (by simp; omega) rfl,e1,bK hk (d:=[])]
  simp only [List.append_assoc,List.cons_append,List.nil_append]
theorem SM {R:Type} {L n m:Nat} (hn:3 ≤ n) (hL:2 ^ 60 ≤ L) {rs:List (List Int)} (hs:aT rs) {k:KE R} (hm:rs.length < m) :
  aF env (aA env L n) L 0 (W4 (W2 (W1 [1002]))) Bz30 (oO 0) Bz50 m (.d (.ivs rs.length (rowsD rs)) :: Y1 (.d .nils :: .sl 0 0 0 rs.length :: nI 0 :: Y16 (Y2 ([])))) [.vec (a8 rs.length) 1 0] k
  = k (.exit 0) (.d (.ivs rs.length (rowsD rs)) :: Y1 (.d .nils :: .sl 0 0 0 rs.length :: nI (rs.length) :: Y16 (Y2 ([])))) (.vec (aU 1 rs ++ a8 0) 1 0 :: bB rs):=by
 have h:=aEB (R:=R) (L:=L) hn hL hs (k:=k) rs.length 0 m [] rs.length (by omega) (by omega) hm rfl rfl
 simpa [aU,bB] using h
theorem aFO {m:List Bool} {s:List A} {q:Nat}:gc 0 m s [.vec (a8 q) 1 0] = match box (tidy m s) with
  | .mk s1 => if idsL s1 = [0] ∧ z0As s1 = true then (s1,[.vec (a8 q) 1 0]) else gcO 0 m s [.vec (a8 q) 1 0]
  | .no => ([],[]):=GA (rs:=[]) (q:=q) (by simp)
theorem aHq (hn:4 ≤ n) (rs:List (List Int)) (hs:aT rs) (hL:2 ^ 60 ≤ L):aA env L n 46 [.d (.ivs rs.length (rowsD rs))] [] = some (.sl 0 0 0 rs.length,.vec (aU 1 rs ++ a8 0) 1 0 :: bB rs):=by
 have hrl:=hs.1
 obtain _ | n:=n; omega
 simp -implicitDefEqProofs (maxSteps:=2000000) (disch:=try exact Dz) only [↓DN,↓kAsg,↓kRet,UP,simprocAttr,↓aKp,↓SM,↓aFO,aFO,↓aIQ,↓aBF,aBF,z0As,z0A,eq_self,aHw,aBv,Tryz.f46]
theorem aJ0 {h:H} {g e k:Nat} {l:List Bool} {b:Bool} (hk:k < l.length):gT env.P (.arr (bools l) e g :: h) 4 (.ptr 0 g k) (.d (.bool b)) = some (.arr (bools (l.set k b)) e g :: h):=by
 rw [lE (id:=0) rfl UD aEw rfl (by rw [kM]; exact hk),aJq hk]
 rfl
theorem aG7 {n:Int} {h:H} (h0:0 ≤ n) (h1:n ≤ 4294967296):d8 env.P h 23 n n = some (.sl h.length 0 0 n.toNat,h ++ [.arr (bools (List.replicate n.toNat false)) 1 0]):=by
 have hm:n ≤ (bF:Nat):=by unfold bF; omega
 have he:dG env.P 23 = some 4:=kr
 have hz:cX env.P 4 = some (.d (.bool false)):=kr
 have hok:eM env.P 4 = true:=kr
 simp only [d8,he,hz,aR,nP,Option.map_some,hok,h0,hm,UD,Int.le_refl,and_self,if_true,I9,bools,List.map_replicate]
theorem aDE (hn:1 ≤ n) {l:List Bool} (hl:l.length ≤ 4294967296) {k:KE R}:∀ (i:Int) (m:Nat) (o:List Bool) (len:Nat) (h0:0 ≤ i) (hi:i ≤ l.length) (hm:(l.length:Int) - i < m) (ho:o.length = l.length) (hlen:len = l.length),
  aF env (aA env L n) L 0 [] Bz18 (uD 0) Bz49 m (.d (.ivs l.length (bools l)) :: Y1 (.d .nils :: .sl 0 0 0 len :: nI i :: Y16 (Y1 ([])))) [.arr (bools o) 1 0] k
  = k (.exit 0) (.d (.ivs l.length (bools l)) :: Y1 (.d .nils :: .sl 0 0 0 l.length :: nI (l.length) :: Y16 (Y1 ([])))) [.arr (bools (o.take i.toNat ++ l.drop i.toNat)) 1 0]:=by
 intro i m o len h0 hi hm ho hlen
 obtain ⟨j,hj⟩:∃ j:Nat,(j:Int) = (l.length:Int) - i:=⟨((l.length:Int) - i).toNat,by omega⟩
 induction j generalizing i m o len with
 | zero =>
  obtain _ | m:=m; omega
  obtain rfl:i = l.length:=by omega
  simp -implicitDefEqProofs (maxSteps:=2000000) (disch:=try exact Dz) only [↓DN,↓kRet,UP,simprocAttr,Int.lt_irrefl,GW,FL,Tryz.f47]
  have e1:o.take l.length = o:=List.take_of_length_le (by omega)
  simp only [List.drop_length,e1,List.append_nil,hlen]
 | succ j ih =>
  obtain _ | m:=m; omega
  have hc:i < l.length:=by omega
  have hk:i.toNat < l.length:=by omega
  have hk2:i.toNat < o.length:=by omega
  have hc2:i < (len:Int):=by omega
  have e1:(i + 1).toNat = i.toNat + 1:=by omega
  simp -implicitDefEqProofs (maxSteps:=2000000) (disch:=try exact Dz) only [↓DN,↓kRet,UP,simprocAttr,LA,hc,hc2,↓aJ0,↓ih,GW,FL,Tryz.f47]
  rw [bK hk (d:=false),e1,O7 hk2]
theorem aG5 (hn:2 ≤ n) (l:List Bool) (hl:l.length ≤ 4294967296) (hL:2 ^ 60 ≤ L):aA env L n 47 [.d (.ivs l.length (bools l))] [] = some (.sl 0 0 0 l.length,[.arr (bools l) 1 0]):=by
 obtain _ | n:=n; omega
 simp -implicitDefEqProofs (maxSteps:=2000000) (disch:=try exact Dz) only [↓DN,↓kAsg,↓kRet,UP,simprocAttr,↓aG7,↓aDE,Int.toNat_zero,aGu,aBA,Tryz.f47]
theorem aG0 {hq:H} {k:KA R} (hn:2 ≤ n) (l:List Bool) (hl:l.length ≤ 4294967296) (hL:2 ^ 60 ≤ L):aS env (aA env L n) hq 47 [.d (.ivs l.length (bools l))] k = k (.sl hq.length 0 0 l.length) (hq ++ [.arr (bools l) 1 0]):=by
 rw [EC rfl aDh (aG5 hn l hl hL)]
 simp [mapA,back,mapO]
theorem aE3 (hn:1 ≤ n) {l:List Int} (hl:l.length ≤ 4294967296) {k:KE R}:∀ (i:Int) (m:Nat) (h0:0 ≤ i) (hi:i ≤ l.length) (hm:(l.length:Int) - i < m),
  aF env (aA env L n) L 0 [] Bz24 (wZ 0) Bz53 m (.d (.ivs l.length (ints l)) :: .d (.ivs l.length (ints l)) :: Y2 (.d (.bool false) :: nI i :: Y16 (Y4 ([])))) [] k
  = k (.exit 0) (.d (.ivs l.length (ints l)) :: .d (.ivs l.length (ints l)) :: Y2 (.d (.bool false) :: nI (l.length) :: Y16 (Y4 ([])))) []:=by
 intro i m h0 hi hm
 obtain ⟨j,hj⟩:∃ j:Nat,(j:Int) = (l.length:Int) - i:=⟨((l.length:Int) - i).toNat,by omega⟩
 induction j generalizing i m with
 | zero =>
  obtain _ | m:=m; omega
  obtain rfl:i = l.length:=by omega
  simp -implicitDefEqProofs (maxSteps:=2000000) (disch:=try exact Dz) only [↓DN,↓kRet,UP,simprocAttr,Int.lt_irrefl,J8,ID,Tryz.f98]
 | succ j ih =>
  obtain _ | m:=m; omega
  have hc:i < l.length:=by omega
  have hk:i.toNat < l.length:=by omega
  simp -implicitDefEqProofs (maxSteps:=2000000) (disch:=try exact Dz) only [↓DN,↓kRet,UP,simprocAttr,hc,↓ih,J8,ID,Tryz.f98]
theorem aBC (hn:2 ≤ n) (l:List Int) (hl:l.length ≤ 4294967296) (hL:2 ^ 60 ≤ L):aA env L n 98 [.d (.ivs l.length (ints l)),.d (.ivs l.length (ints l))] [] = some (.d (.bool true),[]):=by
 obtain _ | n:=n; omega
 simp -implicitDefEqProofs (maxSteps:=2000000) (disch:=try exact Dz) only [↓DN,↓kAsg,↓kRet,UP,simprocAttr,↓aE3,aIb,aEG,Tryz.f98]
theorem aJl:type_of% fun {L} l hl hL => ks fun hn => @aBC L _ hn l hl hL:=fun {L} l hl hL => ks fun hn => @aBC L _ hn l hl hL
theorem aEe (hn:1 ≤ n) {l:List Bool} (hl:l.length ≤ 4294967296) {k:KE R}:∀ (i:Int) (m:Nat) (h0:0 ≤ i) (hi:i ≤ l.length) (hm:(l.length:Int) - i < m),
  aF env (aA env L n) L 0 [] Bz24 (tR 0) Bz53 m (.d (.ivs l.length (bools l)) :: .d (.ivs l.length (bools l)) :: Y2 (.d (.bool false) :: nI i :: Y16 (Y4 ([])))) [] k
  = k (.exit 0) (.d (.ivs l.length (bools l)) :: .d (.ivs l.length (bools l)) :: Y2 (.d (.bool false) :: nI (l.length) :: Y16 (Y4 ([])))) []:=by
 intro i m h0 hi hm
 obtain ⟨j,hj⟩:∃ j:Nat,(j:Int) = (l.length:Int) - i:=⟨((l.length:Int) - i).toNat,by omega⟩
 induction j generalizing i m with
 | zero =>
  obtain _ | m:=m; omega
  obtain rfl:i = l.length:=by omega
  simp -implicitDefEqProofs (maxSteps:=2000000) (disch:=try exact Dz) only [↓DN,↓kRet,UP,simprocAttr,Int.lt_irrefl,G6,E1,Tryz.f54]
 | succ j ih =>
  obtain _ | m:=m; omega
  have hc:i < l.length:=by omega
  have hk:i.toNat < l.length:=by omega
  simp -implicitDefEqProofs (maxSteps:=2000000) (disch:=try exact Dz) only [↓DN,↓kRet,UP,simprocAttr,LA,hc,↓ih,G6,E1,Tryz.f54]
theorem UQ (hn:2 ≤ n) (l:List Bool) (hl:l.length ≤ 4294967296) (hL:2 ^ 60 ≤ L):aA env L n 54 [.d (.ivs l.length (bools l)),.d (.ivs l.length (bools l))] [] = some (.d (.bool true),[]):=by
 obtain _ | n:=n; omega
 simp -implicitDefEqProofs (maxSteps:=2000000) (disch:=try exact Dz) only [↓DN,↓kAsg,↓kRet,UP,simprocAttr,↓aEe,aHo,aAp,Tryz.f54]
theorem aHI:type_of% fun {L} l hl hL => ks fun hn => @UQ L _ hn l hl hL:=fun {L} l hl hL => ks fun hn => @UQ L _ hn l hl hL
theorem aDC (hn:3 ≤ n) (hL:2 ^ 60 ≤ L) {l:List (List Int)} (hs:aT l) {k:KE R}:∀ (i:Int) (m:Nat) (h0:0 ≤ i) (hi:i ≤ l.length) (hm:(l.length:Int) - i < m),
  aF env (aA env L n) L 0 [] Bz17 (s8 0) Bz51 m (.d (.ivs l.length (rowsD l)) :: .d (.ivs l.length (rowsD l)) :: Y2 (.d (.bool false) :: nI i :: Y16 (Y4 (Y1 ([]))))) [] k
  = k (.exit 0) (.d (.ivs l.length (rowsD l)) :: .d (.ivs l.length (rowsD l)) :: Y2 (.d (.bool false) :: nI (l.length) :: Y16 (Y4 (Y1 ([]))))) []:=by
 intro i m h0 hi hm
 have hl:=hs.1
 obtain ⟨j,hj⟩:∃ j:Nat,(j:Int) = (l.length:Int) - i:=⟨((l.length:Int) - i).toNat,by omega⟩
 induction j generalizing i m with
 | zero =>
  obtain _ | m:=m; omega
  obtain rfl:i = l.length:=by omega
  simp -implicitDefEqProofs (maxSteps:=2000000) (disch:=try exact Dz) only [↓DN,↓kRet,UP,simprocAttr,Int.lt_irrefl,GL,E8,Tryz.f53]
 | succ j ih =>
  obtain _ | m:=m; omega
  have hc:i < l.length:=by omega
  have hk:i.toNat < l.length:=by omega
  have hrow:=vZ hs hk
  simp -implicitDefEqProofs (maxSteps:=2000000) (disch:=try exact Dz) only [↓DN,↓kRet,UP,simprocAttr,↓aJl,LA,hc,↓ih,GL,E8,Tryz.f53]
theorem UB (hn:4 ≤ n) (l:List (List Int)) (hs:aT l) (hL:2 ^ 60 ≤ L):aA env L n 53 [.d (.ivs l.length (rowsD l)),.d (.ivs l.length (rowsD l))] [] = some (.d (.bool true),[]):=by
 have hl:=hs.1
 obtain _ | n:=n; omega
 simp -implicitDefEqProofs (maxSteps:=2000000) (disch:=try exact Dz) only [↓DN,↓kAsg,↓kRet,UP,simprocAttr,↓aDC,aGL,aBp,Tryz.f53]
theorem aG8:type_of% fun {L} l hs hL => ks fun hn => @UB L _ hn l hs hL:=fun {L} l hs hL => ks fun hn => @UB L _ hn l hs hL
theorem aAd (hn:6 ≤ n) (al:Int) (rs:List (List Int)) (ac:List Bool) (hs:aT rs) (ha:ac.length ≤ 4294967296) (hL:2 ^ 60 ≤ L):aA env L n 17 [.agg [nI al,.d (.ivs rs.length (rowsD rs)),.d (.ivs ac.length (bools ac))],.agg [nI al,.d (.ivs rs.length (rowsD rs)),.d (.ivs ac.length (bools ac))]] [] = some (.d (.bool true),[]):=by
 obtain _ | n:=n; omega
 simp -implicitDefEqProofs (maxSteps:=2000000) (disch:=try exact Dz) only [↓DN,↓kAsg,↓kRet,UP,simprocAttr,↓aG8,↓aHI,ZP,J0,Tryz.f17]
theorem aAa {k:A → Option R} (hn:6 ≤ n) (al:Int) (rs:List (List Int)) (ac:List Bool) (hs:aT rs) (ha:ac.length ≤ 4294967296) (hL:2 ^ 60 ≤ L):nH (aA env L n) 17 [.agg [nI al,.d (.ivs rs.length (rowsD rs)),.d (.ivs ac.length (bools ac))],.agg [nI al,.d (.ivs rs.length (rowsD rs)),.d (.ivs ac.length (bools ac))]] k = k (.d (.bool true)) :=
 gF (aAd hn al rs ac hs ha hL) rfl
end
end Ev
end Go.Proofs.YtejmccgfigiadaaGreat
