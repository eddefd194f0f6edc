/-
  The exact laws' own functions, at edges and systems: copies, comparisons, marks.
-/
import Derived.Test.YtejmccgfigiadaaGreatSortLayX
import Derived.Test.YtejmccgfigiadaaGreatVec
set_option linter.unusedSimpArgs false
set_option linter.unusedVariables false
set_option maxRecDepth 8000
set_option maxHeartbeats 4000000
namespace Go.Proofs.YtejmccgfigiadaaGreat
namespace Ev
theorem aDE {R:Type} {E:Env} {call:b7} {h:H} {f:FuncId} {args:List A} {r:A} {k:KA R} {id e g e2 g2:Nat} {cs cs2:List D} (hi:h[id]? = some (.arr cs e g)) (hid:idsL args = [id]) (hm:(E.hint f).mode = 0) (hr:idsA r = []) (he:call f (aW (aN [id]) args) [.arr cs e g] = some (r,[.arr cs2 e2 g2])) :
  bC E call h f args k = k r (h.set id (.arr cs2 e2 g2)):=by
 have hre:aE aK h [id] [] = [id]:=by
  have e1:aE aK h [id] [] = match h[id]? with
   | some (.box cs) => aE (aK - 1) h ([] ++ idsL cs) ([] ++ [id])
   | some (.vec cs _ _) => aE (aK - 1) h ([] ++ idsL cs) ([] ++ [id])
   | some .void => aE (aK - 1) h [] []
   | some _ => aE (aK - 1) h [] ([] ++ [id])
   | none => aE (aK - 1) h [] []:=rfl
  rw [e1,hi]; rfl
 have hpk:pack h [id] = [.arr cs e g]:=by
  simp only [pack,List.map_cons,List.map_nil,List.getD_eq_getElem?_getD,hi]; rfl
 unfold bC
 rw [hid,hre,hpk]
 have hc:eO call E.hint [.arr cs e g] f (aW (aN [id]) args) = some (r,[.arr cs2 e2 g2]):=by
  unfold eO; rw [hm]; exact he
 rw [hc]
 have hcl:closed h [id] [id] = true:=by
  simp only [closed,List.all_cons,List.all_nil,hi]; simp
 simp only [List.length_cons,List.length_nil,Nat.le_refl,hcl,and_self,if_true,M9 r hr]
 simp only [b9,mapO,List.map_nil,List.append_nil]
theorem T6 {R:Type} {E:Env} {call:b7} {h h2:H} {f:FuncId} {args:List A} {r:A} {o:O} {k:KA R} (hs:args.all vS = true) (hm:(E.hint f).mode = 2) (hc:call f args [] = some (r,o :: h2)) :
  bC E call h f args k = k (mapA (back [] h.length (h2.length + 1)) (mapA (back [] 0 (h2.length + 1)) r)) (h ++ ((o :: h2).map (mapO (back [] 0 (h2.length + 1)))).map (mapO (back [] h.length (h2.length + 1)))):=by
 have hcall:eO call E.hint [] f args = some (mapA (back [] 0 (h2.length + 1)) r,(o :: h2).map (mapO (back [] 0 (h2.length + 1)))):=by
  unfold eO
  rw [hm]
  simp only [xT hs,hc,List.length_nil,List.length_cons,List.nil_append]
 unfold bC
 rw [wB hs,aAt,vR _ (wB hs)]
 have:pack h [] = []:=rfl
 rw [this,hcall]
 simp only [List.length_nil,Nat.zero_le,true_and,closed,List.all_nil,Bool.and_self,if_true,b9,List.length_map,List.length_cons]
section
variable {R:Type} {L n:Nat}
structure Aut where
 al:Int
 nx:List (List Int)
 ac:List Bool
 deriving DecidableEq,Inhabited
def rowD (r:List Int):D:=.ivs r.length (ints r)
def rowsD (rs:List (List Int)):List D:=rs.map rowD
def bools (l:List Bool):List D:=l.map .bool
theorem HE {l:List (List Int)}:(rowsD l).length = l.length:=by simp [rowsD]
theorem uU {l:List Bool}:(bools l).length = l.length:=by simp [bools]
theorem GZ {l:List Bool} {k:Nat} (h:l.length ≤ k):(bools l).take k = bools l:=List.take_of_length_le (by rw [uU]; exact h)
theorem aJA {l:List Bool} {k:Nat} (h:k < l.length):(((bools l).drop k).map A.d).head? = some (.d (.bool (l.getD k false))):=by
 rw [List.head?_map,List.head?_drop,bools,List.getElem?_map,List.getD_eq_getElem?_getD,List.getElem?_eq_getElem h]
 rfl
theorem aTk {l:List Bool} {k:Nat} {v:Bool} (h:k < l.length):eQ (bools l) k [.bool v] = bools (l.set k v):=GA _ l k v h
theorem aKW {l:List (List Int)} {k:Nat} (h:k < l.length):(((rowsD l).drop k).map A.d).head? = some (.d (.ivs (l.getD k []).length (ints (l.getD k [])))):=by
 rw [List.head?_map,List.head?_drop,rowsD,List.getElem?_map,List.getD_eq_getElem?_getD,List.getElem?_eq_getElem h]
 rfl
theorem ME {l:List (List Int)} {k:Nat} (h:l.length ≤ k):(rowsD l).take k = rowsD l:=List.take_of_length_le (by rw [HE]; exact h)
theorem LA:type_of% (AI @HE (AI @uU (AI @GZ (AI @aJA (AI @aKW @ME))))) :=
 ⟨@HE,@uU,@GZ,@aJA,@aKW,@ME⟩
theorem aEJ {α:Type} {l:List α} {k:Nat} {v:α} {m:List α} (h:k < l.length):(l.set k v).take (k + 1) ++ m = l.take k ++ (v :: m):=by
 rw [take_set h]; simp
theorem aPk (hn:1 ≤ n) {l:List Int} (hl:l.length ≤ 4294967296) {k:KE R}:∀ (i:Int) (m:Nat) (o:List Int) (len:Nat) (h0:0 ≤ i) (hi:i ≤ l.length) (hm:(l.length:Int) - i < m) (ho:o.length = l.length) (hlen:len = l.length),
  aF env (aA env L n) L 0 [] Bz18 (MI 0) Bz51 m (.d (.ivs l.length (ints l)) :: Y1 (.d .nils :: .sl 0 0 0 len :: nI i :: Y16 (Y1 ([])))) [.arr (ints o) 1 0] k
  = k (.exit 0) (.d (.ivs l.length (ints l)) :: Y1 (.d .nils :: .sl 0 0 0 l.length :: nI (l.length) :: Y16 (Y1 ([])))) [.arr (ints (o.take i.toNat ++ l.drop i.toNat)) 1 0]:=by
 intro i m o len h0 hi hm ho hlen
 obtain ⟨j,hj⟩:∃ j:Nat,(j:Int) = (l.length:Int) - i:=⟨((l.length:Int) - i).toNat,by omega⟩
 induction j generalizing i m o len with
 | zero =>
  obtain _ | m:=m; omega
  obtain rfl:i = l.length:=by omega
  simp -implicitDefEqProofs (maxSteps:=2000000) (disch:=try exact Dz) only [↓DN,↓kAsg,↓kRet,UP,simprocAttr,Int.lt_irrefl,aBD,aAU,Tryz.f90]
  have e1:o.take l.length = o:=List.take_of_length_le (by omega)
  simp only [Int.toNat_natCast,List.drop_length,e1,List.append_nil,hlen]
 | succ j ih =>
  obtain _ | m:=m; omega
  have hc:i < l.length:=by omega
  have hk:i.toNat < l.length:=by omega
  have hk2:i.toNat < o.length:=by omega
  have hc2:i < (len:Int):=by omega
  have e1:(i + 1).toNat = i.toNat + 1:=by omega
  simp -implicitDefEqProofs (maxSteps:=2000000) (disch:=try exact Dz) only [↓DN,↓kAsg,↓kRet,UP,simprocAttr,hc,hc2,dP,jJ,↓KN,↓ih,aBD,aAU,Tryz.f90]
  rw [dC hk (d:=0),e1,aEJ hk2]
theorem aVN (hn:2 ≤ n) (l:List Int) (hl:l.length ≤ 4294967296) (hL:2 ^ 60 ≤ L):aA env L n 90 [.d (.ivs l.length (ints l))] [] = some (.sl 0 0 0 l.length,[.arr (ints l) 1 0]):=by
 obtain _ | n:=n; omega
 simp -implicitDefEqProofs (maxSteps:=2000000) (disch:=try exact Dz) only [↓DN,↓kAsg,↓kRet,UP,simprocAttr,dP,↓NJ,↓aPk,Int.toNat_natCast,Int.toNat_zero,aU2,aPi,Tryz.f90]
theorem aDi {hq:H} {k:KA R} (hn:2 ≤ n) (l:List Int) (hl:l.length ≤ 4294967296) (hL:2 ^ 60 ≤ L):bC env (aA env L n) hq 90 [.d (.ivs l.length (ints l))] k = k (.sl hq.length 0 0 l.length) (hq ++ [.arr (ints l) 1 0]):=by
 rw [T6 rfl WV (aVN hn l hl hL)]
 simp [mapA,back,mapO]
theorem k8:env.P.underlying 22 = some (.slice 90):=kr
theorem lS:env.P.cellsOf 90 = 1:=kr
theorem a0B:(env.P.info? 90).isSome = true:=kr
theorem aZO {h:H} {g k id gg o len:Nat} {cells:List A} (hk:k < cells.length):oX env.P (.vec cells 1 g :: h) 90 (.ptr 0 g k) (.sl id gg o len) = some (.vec (cells.set k (.sl id gg o len)) 1 g :: h):=by
 have hc:(a6 (.sl id gg o len)).length = env.P.cellsOf 90 ∧ (env.P.info? 90).isSome = true ∧ (a6 (.sl id gg o len)).all c9 = true:=⟨by rw [lS]; rfl,a0B,rfl⟩
 have hs:eQ cells k (a6 (.sl id gg o len)) = cells.set k (.sl id gg o len):=by
  unfold eQ
  rw [List.set_eq_take_append_cons_drop,if_pos hk]
  simp [a6]
 unfold oX
 rw [if_pos hc]
 simp only [List.getElem?_cons_zero,lS,true_and,hs]
 rw [if_pos (by omega)]
 rfl
theorem aWI {n:Int} {h:H} (h0:0 ≤ n) (h1:n ≤ 4294967296):D6 env.P h 22 n n = some (.sl h.length 0 0 n.toNat,h ++ [.vec (bM n.toNat) 1 0]):=by
 have hm:n ≤ (cA:Nat):=by unfold cA; omega
 have he:bP env.P 22 = some 90:=kr
 have hz:bW env.P 90 = some (.d .nils):=kr
 have hok:bU env.P 90 = true:=kr
 simp only [D6,he,hz,a6,z7,Option.map_some,hok,h0,hm,lS,Int.le_refl,and_self,if_true,aAw,List.map_replicate]
 rfl
theorem aZE {d:List (List Int)} {j k id:Nat} {r:List Int} (hk:k = d.length) (hid:id = d.length + 1):(bD 1 d ++ bM (j + 1)).set k (.sl id 0 0 r.length) = bD 1 (d ++ [r]) ++ bM j:=by
 subst hk; subst hid
 rw [aJb,List.set_append_right _ _ (by rw [NF]; exact Nat.le_refl _),NF,Nat.sub_self,aAL,List.set_cons_zero,Nat.add_comm 1]
 simp
theorem aPU (rs:List (List Int)) (r:List Int):bR rs ++ [.arr (ints r) 1 0] = bR (rs ++ [r]):=aRS rs r
def bH (rs:List (List Int)):Prop:=rs.length ≤ 4294967296 ∧ ∀ r ∈ rs,r.length ≤ 4294967296
theorem KD {rs:List (List Int)} (h:bH rs) {k:Nat} (hk:k < rs.length):(rs.getD k []).length ≤ 4294967296:=by
 rw [List.getD_eq_getElem?_getD,List.getElem?_eq_getElem hk]
 exact h.2 _ (List.getElem_mem hk)
theorem aCM (hn:3 ≤ n) (hL:2 ^ 60 ≤ L) {rs:List (List Int)} (hs:bH rs) {k:KE R}:∀ (j:Nat) (i:Int) (m:Nat) (d:List (List Int)) (len:Nat) (h0:0 ≤ i) (hi:i + j = rs.length) (hm:j < m) (hd:(d.length:Int) = i) (hlen:len = rs.length),
  aF env (aA env L n) L 0 (W4 (W2 (W1 [1002]))) Bz31 (AJ 0) Bz52 m (.d (.ivs rs.length (rowsD rs)) :: Y1 (.d .nils :: .sl 0 0 0 len :: nI i :: Y16 (Y2 ([])))) (.vec (bD 1 d ++ bM j) 1 0 :: bR d) k
  = k (.exit 0) (.d (.ivs rs.length (rowsD rs)) :: Y1 (.d .nils :: .sl 0 0 0 rs.length :: nI (rs.length) :: Y16 (Y2 ([])))) (.vec (bD 1 (d ++ rs.drop i.toNat) ++ bM 0) 1 0 :: bR (d ++ rs.drop i.toNat)):=by
 intro j
 have hrl:=hs.1
 induction j with
 | zero =>
  intro i m d len h0 hi hm hd hlen
  obtain _ | m:=m; omega
  obtain rfl:i = rs.length:=by omega
  have hdl:d.length ≤ 4294967296:=by omega
  simp -implicitDefEqProofs (maxSteps:=2000000) (disch:=try exact Dz) only [↓DN,↓kAsg,↓kRet,UP,simprocAttr,↓aDi,LA,Int.lt_irrefl,↓XW,XW,z0As,z0A,eq_self,hlen,ZH,XE,Tryz.f46]
  simp only [Int.toNat_natCast,List.drop_length,List.append_nil]
 | succ j ih =>
  intro i m d len h0 hi hm hd hlen
  obtain _ | m:=m; omega
  subst hlen
  have hc:i < rs.length:=by omega
  have hk:i.toNat < rs.length:=by omega
  have hk2:i.toNat < (bD 1 d ++ bM (j + 1)).length:=by simp [NF,aUv]; omega
  have hrow:=KD hs hk
  have e1:(i + 1).toNat = i.toNat + 1:=by omega
  have e2:i.toNat = d.length:=by omega
  have hdl:(d ++ [rs.getD i.toNat []]).length ≤ 4294967296:=by simp; omega
  simp -implicitDefEqProofs (maxSteps:=2000000) (disch:=try exact Dz) only [↓DN,↓kAsg,↓kRet,UP,simprocAttr,↓aDi,LA,hc,k8,lS,↓aZO,aZE,aPU,oY,↓XW,XW,z0As,z0A,eq_self,ZH,XE,Tryz.f46]
  rw [ih (i + 1) m _ _ (by omega) (by omega) (by omega) (by simp; omega) rfl,e1,dC hk (d:=[])]
  simp only [List.append_assoc,List.cons_append,List.nil_append]
theorem aHo {R:Type} {L n m:Nat} (hn:3 ≤ n) (hL:2 ^ 60 ≤ L) {rs:List (List Int)} (hs:bH rs) {k:KE R} (hm:rs.length < m) :
  aF env (aA env L n) L 0 (W4 (W2 (W1 [1002]))) Bz31 (AJ 0) Bz52 m (.d (.ivs rs.length (rowsD rs)) :: Y1 (.d .nils :: .sl 0 0 0 rs.length :: nI 0 :: Y16 (Y2 ([])))) [.vec (bM rs.length) 1 0] k
  = k (.exit 0) (.d (.ivs rs.length (rowsD rs)) :: Y1 (.d .nils :: .sl 0 0 0 rs.length :: nI (rs.length) :: Y16 (Y2 ([])))) (.vec (bD 1 rs ++ bM 0) 1 0 :: bR rs):=by
 have h:=aCM (R:=R) (L:=L) hn hL hs (k:=k) rs.length 0 m [] rs.length (by omega) (by omega) hm rfl rfl
 simpa [bD,bR] using h
theorem aP4 {m:List Bool} {s:List A} {q:Nat}:gc 0 m s [.vec (bM q) 1 0] = match box (tidy m s) with
  | .mk s1 => if idsL s1 = [0] ∧ z0As s1 = true then (s1,[.vec (bM q) 1 0]) else gcO 0 m s [.vec (bM q) 1 0]
  | .no => ([],[]):=XW (rs:=[]) (q:=q) (by simp)
theorem aRp (hn:4 ≤ n) (rs:List (List Int)) (hs:bH rs) (hL:2 ^ 60 ≤ L):aA env L n 46 [.d (.ivs rs.length (rowsD rs))] [] = some (.sl 0 0 0 rs.length,.vec (bD 1 rs ++ bM 0) 1 0 :: bR rs):=by
 have hrl:=hs.1
 obtain _ | n:=n; omega
 simp -implicitDefEqProofs (maxSteps:=2000000) (disch:=try exact Dz) only [↓DN,↓kAsg,↓kRet,UP,simprocAttr,↓aDi,↓aCM,LA,k8,↓aWI,↓aHo,Int.toNat_natCast,↓aP4,aP4,↓aWh,↓aMH,aMH,z0As,z0A,eq_self,aR8,aLC,Tryz.f46]
theorem ZS:env.P.underlying 23 = some (.slice 4):=kr
theorem aWE {h:H} {g e k:Nat} {l:List Bool} {b:Bool} (hk:k < l.length):oX env.P (.arr (bools l) e g :: h) 4 (.ptr 0 g k) (.d (.bool b)) = some (.arr (bools (l.set k b)) e g :: h):=by
 rw [vY (id:=0) rfl MK aNv rfl (by rw [uU]; exact hk),aTk hk]
 rfl
theorem aRP {n:Int} {h:H} (h0:0 ≤ n) (h1:n ≤ 4294967296):kP env.P h 23 n n = some (.sl h.length 0 0 n.toNat,h ++ [.arr (bools (List.replicate n.toNat false)) 1 0]):=by
 have hm:n ≤ (cA:Nat):=by unfold cA; omega
 have he:bP env.P 23 = some 4:=kr
 have hz:bW env.P 4 = some (.d (.bool false)):=kr
 have hok:bU env.P 4 = true:=kr
 simp only [kP,he,hz,a6,z7,Option.map_some,hok,h0,hm,MK,Int.le_refl,and_self,if_true,aAw,bools,List.map_replicate]
theorem aOz (hn:1 ≤ n) {l:List Bool} (hl:l.length ≤ 4294967296) {k:KE R}:∀ (i:Int) (m:Nat) (o:List Bool) (len:Nat) (h0:0 ≤ i) (hi:i ≤ l.length) (hm:(l.length:Int) - i < m) (ho:o.length = l.length) (hlen:len = l.length),
  aF env (aA env L n) L 0 [] Bz18 (F4 0) Bz51 m (.d (.ivs l.length (bools l)) :: Y1 (.d .nils :: .sl 0 0 0 len :: nI i :: Y16 (Y1 ([])))) [.arr (bools o) 1 0] k
  = k (.exit 0) (.d (.ivs l.length (bools l)) :: Y1 (.d .nils :: .sl 0 0 0 l.length :: nI (l.length) :: Y16 (Y1 ([])))) [.arr (bools (o.take i.toNat ++ l.drop i.toNat)) 1 0]:=by
 intro i m o len h0 hi hm ho hlen
 obtain ⟨j,hj⟩:∃ j:Nat,(j:Int) = (l.length:Int) - i:=⟨((l.length:Int) - i).toNat,by omega⟩
 induction j generalizing i m o len with
 | zero =>
  obtain _ | m:=m; omega
  obtain rfl:i = l.length:=by omega
  simp -implicitDefEqProofs (maxSteps:=2000000) (disch:=try exact Dz) only [↓DN,↓kAsg,↓kRet,UP,simprocAttr,LA,Int.lt_irrefl,YK,WX,Tryz.f47]
  have e1:o.take l.length = o:=List.take_of_length_le (by omega)
  simp only [Int.toNat_natCast,List.drop_length,e1,List.append_nil,hlen]
 | succ j ih =>
  obtain _ | m:=m; omega
  have hc:i < l.length:=by omega
  have hk:i.toNat < l.length:=by omega
  have hk2:i.toNat < o.length:=by omega
  have hc2:i < (len:Int):=by omega
  have e1:(i + 1).toNat = i.toNat + 1:=by omega
  simp -implicitDefEqProofs (maxSteps:=2000000) (disch:=try exact Dz) only [↓DN,↓kAsg,↓kRet,UP,simprocAttr,LA,hc,hc2,ZS,MK,↓aWE,↓ih,YK,WX,Tryz.f47]
  rw [dC hk (d:=false),e1,aEJ hk2]
theorem aSb (hn:2 ≤ n) (l:List Bool) (hl:l.length ≤ 4294967296) (hL:2 ^ 60 ≤ L):aA env L n 47 [.d (.ivs l.length (bools l))] [] = some (.sl 0 0 0 l.length,[.arr (bools l) 1 0]):=by
 obtain _ | n:=n; omega
 simp -implicitDefEqProofs (maxSteps:=2000000) (disch:=try exact Dz) only [↓DN,↓kAsg,↓kRet,UP,simprocAttr,LA,ZS,↓aRP,↓aOz,Int.toNat_natCast,Int.toNat_zero,aSf,aMh,Tryz.f47]
theorem aRz {hq:H} {k:KA R} (hn:2 ≤ n) (l:List Bool) (hl:l.length ≤ 4294967296) (hL:2 ^ 60 ≤ L):bC env (aA env L n) hq 47 [.d (.ivs l.length (bools l))] k = k (.sl hq.length 0 0 l.length) (hq ++ [.arr (bools l) 1 0]):=by
 rw [T6 rfl TM (aSb hn l hl hL)]
 simp [mapA,back,mapO]
theorem aPD (hn:1 ≤ n) {l:List Int} (hl:l.length ≤ 4294967296) {k:KE R}:∀ (i:Int) (m:Nat) (h0:0 ≤ i) (hi:i ≤ l.length) (hm:(l.length:Int) - i < m),
  aF env (aA env L n) L 0 [] Bz24 (M0 0) Bz55 m (.d (.ivs l.length (ints l)) :: .d (.ivs l.length (ints l)) :: Y2 (.d (.bool false) :: nI i :: Y16 (Y4 ([])))) [] k
  = k (.exit 0) (.d (.ivs l.length (ints l)) :: .d (.ivs l.length (ints l)) :: Y2 (.d (.bool false) :: nI (l.length) :: Y16 (Y4 ([])))) []:=by
 intro i m h0 hi hm
 obtain ⟨j,hj⟩:∃ j:Nat,(j:Int) = (l.length:Int) - i:=⟨((l.length:Int) - i).toNat,by omega⟩
 induction j generalizing i m with
 | zero =>
  obtain _ | m:=m; omega
  obtain rfl:i = l.length:=by omega
  simp -implicitDefEqProofs (maxSteps:=2000000) (disch:=try exact Dz) only [↓DN,↓kAsg,↓kRet,UP,simprocAttr,LA,Int.lt_irrefl,aBW,aAE,Tryz.f98]
 | succ j ih =>
  obtain _ | m:=m; omega
  have hc:i < l.length:=by omega
  have hk:i.toNat < l.length:=by omega
  simp -implicitDefEqProofs (maxSteps:=2000000) (disch:=try exact Dz) only [↓DN,↓kAsg,↓kRet,UP,simprocAttr,LA,hc,dP,jJ,↓ih,aBW,aAE,Tryz.f98]
theorem UM (hn:2 ≤ n) (l:List Int) (hl:l.length ≤ 4294967296) (hL:2 ^ 60 ≤ L):aA env L n 98 [.d (.ivs l.length (ints l)),.d (.ivs l.length (ints l))] [] = some (.d (.bool true),[]):=by
 obtain _ | n:=n; omega
 simp -implicitDefEqProofs (maxSteps:=2000000) (disch:=try exact Dz) only [↓DN,↓kAsg,↓kRet,UP,simprocAttr,↓aPD,LA,aTr,aNb,Tryz.f98]
theorem aCv:type_of% fun {L} l hl hL => ks fun hn => @UM L _ hn l hl hL:=fun {L} l hl hL => ks fun hn => @UM L _ hn l hl hL
theorem aEe:type_of% fun {L} l hl hL => kt fun hn => @UM L _ hn l hl hL:=fun {L} l hl hL => kt fun hn => @UM L _ hn l hl hL
theorem WU {L:Nat} {id0 g0 o0 len0:Nat} {l:List Int}:KV L 98 [.sl id0 g0 o0 len0,.d (.ivs l.length (ints l))]:=fun _ _ _ _ => aC BZ
theorem XB {L:Nat} {id1 g1 o1 len1:Nat} {l:List Int}:KV L 98 [.d (.ivs l.length (ints l)),.sl id1 g1 o1 len1]:=fun _ _ _ _ => aC BZ
theorem XR {L:Nat} {id1 g1 o1 len1:Nat} {id0 g0 o0 len0:Nat} :KV L 98 [.sl id0 g0 o0 len0,.sl id1 g1 o1 len1]:=fun _ _ _ _ => aC BZ
theorem aN8 (hn:1 ≤ n) {l:List Bool} (hl:l.length ≤ 4294967296) {k:KE R}:∀ (i:Int) (m:Nat) (h0:0 ≤ i) (hi:i ≤ l.length) (hm:(l.length:Int) - i < m),
  aF env (aA env L n) L 0 [] Bz24 (IE 0) Bz55 m (.d (.ivs l.length (bools l)) :: .d (.ivs l.length (bools l)) :: Y2 (.d (.bool false) :: nI i :: Y16 (Y4 ([])))) [] k
  = k (.exit 0) (.d (.ivs l.length (bools l)) :: .d (.ivs l.length (bools l)) :: Y2 (.d (.bool false) :: nI (l.length) :: Y16 (Y4 ([])))) []:=by
 intro i m h0 hi hm
 obtain ⟨j,hj⟩:∃ j:Nat,(j:Int) = (l.length:Int) - i:=⟨((l.length:Int) - i).toNat,by omega⟩
 induction j generalizing i m with
 | zero =>
  obtain _ | m:=m; omega
  obtain rfl:i = l.length:=by omega
  simp -implicitDefEqProofs (maxSteps:=2000000) (disch:=try exact Dz) only [↓DN,↓kAsg,↓kRet,UP,simprocAttr,LA,Int.lt_irrefl,ZW,XJ,Tryz.f54]
 | succ j ih =>
  obtain _ | m:=m; omega
  have hc:i < l.length:=by omega
  have hk:i.toNat < l.length:=by omega
  simp -implicitDefEqProofs (maxSteps:=2000000) (disch:=try exact Dz) only [↓DN,↓kAsg,↓kRet,UP,simprocAttr,LA,hc,ZS,MK,IA,aBe,↓ih,ZW,XJ,Tryz.f54]
theorem P6 (hn:2 ≤ n) (l:List Bool) (hl:l.length ≤ 4294967296) (hL:2 ^ 60 ≤ L):aA env L n 54 [.d (.ivs l.length (bools l)),.d (.ivs l.length (bools l))] [] = some (.d (.bool true),[]):=by
 obtain _ | n:=n; omega
 simp -implicitDefEqProofs (maxSteps:=2000000) (disch:=try exact Dz) only [↓DN,↓kAsg,↓kRet,UP,simprocAttr,↓aN8,LA,aQ9,aMI,Tryz.f54]
theorem aRd:type_of% fun {L} l hl hL => ks fun hn => @P6 L _ hn l hl hL:=fun {L} l hl hL => ks fun hn => @P6 L _ hn l hl hL
theorem aRM:type_of% fun {L} l hl hL => kt fun hn => @P6 L _ hn l hl hL:=fun {L} l hl hL => kt fun hn => @P6 L _ hn l hl hL
theorem aOY {L:Nat} {id0 g0 o0 len0:Nat} {l:List Bool}:KV L 54 [.sl id0 g0 o0 len0,.d (.ivs l.length (bools l))]:=fun _ _ _ _ => aC zW
theorem aNQ {L:Nat} {id1 g1 o1 len1:Nat} {l:List Bool}:KV L 54 [.d (.ivs l.length (bools l)),.sl id1 g1 o1 len1]:=fun _ _ _ _ => aC zW
theorem aNG {L:Nat} {id1 g1 o1 len1:Nat} {id0 g0 o0 len0:Nat} :KV L 54 [.sl id0 g0 o0 len0,.sl id1 g1 o1 len1]:=fun _ _ _ _ => aC zW
theorem aNi (hn:3 ≤ n) (hL:2 ^ 60 ≤ L) {l:List (List Int)} (hs:bH l) {k:KE R}:∀ (i:Int) (m:Nat) (h0:0 ≤ i) (hi:i ≤ l.length) (hm:(l.length:Int) - i < m),
  aF env (aA env L n) L 0 [] Bz17 (HL 0) Bz53 m (.d (.ivs l.length (rowsD l)) :: .d (.ivs l.length (rowsD l)) :: Y2 (.d (.bool false) :: nI i :: Y16 (Y4 (Y1 ([]))))) [] k
  = k (.exit 0) (.d (.ivs l.length (rowsD l)) :: .d (.ivs l.length (rowsD l)) :: Y2 (.d (.bool false) :: nI (l.length) :: Y16 (Y4 (Y1 ([]))))) []:=by
 intro i m h0 hi hm
 have hl:=hs.1
 obtain ⟨j,hj⟩:∃ j:Nat,(j:Int) = (l.length:Int) - i:=⟨((l.length:Int) - i).toNat,by omega⟩
 induction j generalizing i m with
 | zero =>
  obtain _ | m:=m; omega
  obtain rfl:i = l.length:=by omega
  simp -implicitDefEqProofs (maxSteps:=2000000) (disch:=try exact Dz) only [↓DN,↓kAsg,↓kRet,UP,simprocAttr,↓aCv,↓aEe,↓WU,↓XB,↓XR,LA,Int.lt_irrefl,ZR,W7,Tryz.f53]
 | succ j ih =>
  obtain _ | m:=m; omega
  have hc:i < l.length:=by omega
  have hk:i.toNat < l.length:=by omega
  have hrow:=KD hs hk
  simp -implicitDefEqProofs (maxSteps:=2000000) (disch:=try exact Dz) only [↓DN,↓kAsg,↓kRet,UP,simprocAttr,↓aCv,↓aEe,↓WU,↓XB,↓XR,LA,hc,k8,lS,↓ih,ZR,W7,Tryz.f53]
theorem P4 (hn:4 ≤ n) (l:List (List Int)) (hs:bH l) (hL:2 ^ 60 ≤ L):aA env L n 53 [.d (.ivs l.length (rowsD l)),.d (.ivs l.length (rowsD l))] [] = some (.d (.bool true),[]):=by
 have hl:=hs.1
 obtain _ | n:=n; omega
 simp -implicitDefEqProofs (maxSteps:=2000000) (disch:=try exact Dz) only [↓DN,↓kAsg,↓kRet,UP,simprocAttr,↓aCv,↓aEe,↓WU,↓XB,↓XR,↓aNi,LA,aSh,aL4,Tryz.f53]
theorem aRX:type_of% fun {L} l hs hL => ks fun hn => @P4 L _ hn l hs hL:=fun {L} l hs hL => ks fun hn => @P4 L _ hn l hs hL
theorem aRr:type_of% fun {L} l hs hL => kt fun hn => @P4 L _ hn l hs hL:=fun {L} l hs hL => kt fun hn => @P4 L _ hn l hs hL
theorem aO6 {L:Nat} {id0 g0 o0 len0:Nat} {l:List (List Int)}:KV L 53 [.sl id0 g0 o0 len0,.d (.ivs l.length (rowsD l))]:=fun _ _ _ _ => aC zH
theorem aNp {L:Nat} {id1 g1 o1 len1:Nat} {l:List (List Int)}:KV L 53 [.d (.ivs l.length (rowsD l)),.sl id1 g1 o1 len1]:=fun _ _ _ _ => aC zH
theorem aN4 {L:Nat} {id1 g1 o1 len1:Nat} {id0 g0 o0 len0:Nat} :KV L 53 [.sl id0 g0 o0 len0,.sl id1 g1 o1 len1]:=fun _ _ _ _ => aC zH
theorem KO (hn:6 ≤ n) (al:Int) (rs:List (List Int)) (ac:List Bool) (hs:bH rs) (ha:ac.length ≤ 4294967296) (hL:2 ^ 60 ≤ L):aA env L n 17 [.agg [nI al,.d (.ivs rs.length (rowsD rs)),.d (.ivs ac.length (bools ac))],.agg [nI al,.d (.ivs rs.length (rowsD rs)),.d (.ivs ac.length (bools ac))]] [] = some (.d (.bool true),[]):=by
 obtain _ | n:=n; omega
 simp -implicitDefEqProofs (maxSteps:=2000000) (disch:=try exact Dz) only [↓DN,↓kAsg,↓kRet,UP,simprocAttr,↓aRX,↓aRd,↓aRr,↓aRM,↓aO6,↓aNp,↓aN4,↓aOY,↓aNQ,↓aNG,LA,aKJ,aBY,Tryz.f17]
theorem YL:type_of% fun {L} al rs ac hs ha hL => ks fun hn => @KO L _ hn al rs ac hs ha hL:=fun {L} al rs ac hs ha hL => ks fun hn => @KO L _ hn al rs ac hs ha hL
theorem KY {k:A → Option R} (hn:6 ≤ n) (al:Int) (rs:List (List Int)) (ac:List Bool) (hs:bH rs) (ha:ac.length ≤ 4294967296) (hL:2 ^ 60 ≤ L):tR (aA env L n) 17 [.agg [nI al,.d (.ivs rs.length (rowsD rs)),.d (.ivs ac.length (bools ac))],.agg [nI al,.d (.ivs rs.length (rowsD rs)),.d (.ivs ac.length (bools ac))]] k = k (.d (.bool true)) :=
 mP (KO hn al rs ac hs ha hL) rfl
theorem TN {L:Nat} {id0 g0 o0 len0:Nat} {al:Int} {rs:List (List Int)} {ac:List Bool}:KV L 17 [.agg [nI al,.sl id0 g0 o0 len0,.d (.ivs ac.length (bools ac))],.agg [nI al,.d (.ivs rs.length (rowsD rs)),.d (.ivs ac.length (bools ac))]]:=fun _ _ _ _ => aC bZ
theorem TA {L:Nat} {id1 g1 o1 len1:Nat} {al:Int} {rs:List (List Int)} {ac:List Bool}:KV L 17 [.agg [nI al,.d (.ivs rs.length (rowsD rs)),.sl id1 g1 o1 len1],.agg [nI al,.d (.ivs rs.length (rowsD rs)),.d (.ivs ac.length (bools ac))]]:=fun _ _ _ _ => aC bZ
theorem R2 {L:Nat} {id1 g1 o1 len1:Nat} {id0 g0 o0 len0:Nat} {al:Int} {rs:List (List Int)} {ac:List Bool}:KV L 17 [.agg [nI al,.sl id0 g0 o0 len0,.sl id1 g1 o1 len1],.agg [nI al,.d (.ivs rs.length (rowsD rs)),.d (.ivs ac.length (bools ac))]]:=fun _ _ _ _ => aC bZ
theorem Q4 {L:Nat} {id2 g2 o2 len2:Nat} {al:Int} {rs:List (List Int)} {ac:List Bool}:KV L 17 [.agg [nI al,.d (.ivs rs.length (rowsD rs)),.d (.ivs ac.length (bools ac))],.agg [nI al,.sl id2 g2 o2 len2,.d (.ivs ac.length (bools ac))]]:=fun _ _ _ _ => aC bZ
theorem RL {L:Nat} {id2 g2 o2 len2:Nat} {id0 g0 o0 len0:Nat} {al:Int} {ac:List Bool}:KV L 17 [.agg [nI al,.sl id0 g0 o0 len0,.d (.ivs ac.length (bools ac))],.agg [nI al,.sl id2 g2 o2 len2,.d (.ivs ac.length (bools ac))]]:=fun _ _ _ _ => aC bZ
theorem SV {L:Nat} {id2 g2 o2 len2:Nat} {id1 g1 o1 len1:Nat} {al:Int} {rs:List (List Int)} {ac:List Bool}:KV L 17 [.agg [nI al,.d (.ivs rs.length (rowsD rs)),.sl id1 g1 o1 len1],.agg [nI al,.sl id2 g2 o2 len2,.d (.ivs ac.length (bools ac))]]:=fun _ _ _ _ => aC bZ
theorem RJ {L:Nat} {id2 g2 o2 len2:Nat} {id1 g1 o1 len1:Nat} {id0 g0 o0 len0:Nat} {al:Int} {ac:List Bool}:KV L 17 [.agg [nI al,.sl id0 g0 o0 len0,.sl id1 g1 o1 len1],.agg [nI al,.sl id2 g2 o2 len2,.d (.ivs ac.length (bools ac))]]:=fun _ _ _ _ => aC bZ
theorem SI {L:Nat} {id3 g3 o3 len3:Nat} {al:Int} {rs:List (List Int)} {ac:List Bool}:KV L 17 [.agg [nI al,.d (.ivs rs.length (rowsD rs)),.d (.ivs ac.length (bools ac))],.agg [nI al,.d (.ivs rs.length (rowsD rs)),.sl id3 g3 o3 len3]]:=fun _ _ _ _ => aC bZ
theorem SZ {L:Nat} {id3 g3 o3 len3:Nat} {id0 g0 o0 len0:Nat} {al:Int} {rs:List (List Int)} {ac:List Bool}:KV L 17 [.agg [nI al,.sl id0 g0 o0 len0,.d (.ivs ac.length (bools ac))],.agg [nI al,.d (.ivs rs.length (rowsD rs)),.sl id3 g3 o3 len3]]:=fun _ _ _ _ => aC bZ
theorem PN {L:Nat} {id3 g3 o3 len3:Nat} {id1 g1 o1 len1:Nat} {al:Int} {rs:List (List Int)}:KV L 17 [.agg [nI al,.d (.ivs rs.length (rowsD rs)),.sl id1 g1 o1 len1],.agg [nI al,.d (.ivs rs.length (rowsD rs)),.sl id3 g3 o3 len3]]:=fun _ _ _ _ => aC bZ
theorem PC {L:Nat} {id3 g3 o3 len3:Nat} {id1 g1 o1 len1:Nat} {id0 g0 o0 len0:Nat} {al:Int} {rs:List (List Int)}:KV L 17 [.agg [nI al,.sl id0 g0 o0 len0,.sl id1 g1 o1 len1],.agg [nI al,.d (.ivs rs.length (rowsD rs)),.sl id3 g3 o3 len3]]:=fun _ _ _ _ => aC bZ
theorem PF {L:Nat} {id3 g3 o3 len3:Nat} {id2 g2 o2 len2:Nat} {al:Int} {rs:List (List Int)} {ac:List Bool}:KV L 17 [.agg [nI al,.d (.ivs rs.length (rowsD rs)),.d (.ivs ac.length (bools ac))],.agg [nI al,.sl id2 g2 o2 len2,.sl id3 g3 o3 len3]]:=fun _ _ _ _ => aC bZ
theorem O7 {L:Nat} {id3 g3 o3 len3:Nat} {id2 g2 o2 len2:Nat} {id0 g0 o0 len0:Nat} {al:Int} {ac:List Bool}:KV L 17 [.agg [nI al,.sl id0 g0 o0 len0,.d (.ivs ac.length (bools ac))],.agg [nI al,.sl id2 g2 o2 len2,.sl id3 g3 o3 len3]]:=fun _ _ _ _ => aC bZ
theorem PQ {L:Nat} {id3 g3 o3 len3:Nat} {id2 g2 o2 len2:Nat} {id1 g1 o1 len1:Nat} {al:Int} {rs:List (List Int)}:KV L 17 [.agg [nI al,.d (.ivs rs.length (rowsD rs)),.sl id1 g1 o1 len1],.agg [nI al,.sl id2 g2 o2 len2,.sl id3 g3 o3 len3]]:=fun _ _ _ _ => aC bZ
theorem PL {L:Nat} {id3 g3 o3 len3:Nat} {id2 g2 o2 len2:Nat} {id1 g1 o1 len1:Nat} {id0 g0 o0 len0:Nat} {al:Int}:KV L 17 [.agg [nI al,.sl id0 g0 o0 len0,.sl id1 g1 o1 len1],.agg [nI al,.sl id2 g2 o2 len2,.sl id3 g3 o3 len3]]:=fun _ _ _ _ => aC bZ
end
end Ev
end Go.Proofs.YtejmccgfigiadaaGreat
