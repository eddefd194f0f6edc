/-
  The exact laws' own functions, at edges and systems: copies, comparisons, marks.
-/
import Derived.Test.YtejmccgfigiadaaGreatSortLayX
import Derived.Test.YtejmccgfigiadaaGreatVec
set_option linter.unusedSimpArgs false
set_option linter.unusedVariables false
set_option maxRecDepth 8000
set_option maxHeartbeats 4000000
namespace Go.Proofs.YtejmccgfigiadaaGreat
namespace Ev
theorem CJ {R:Type} {E:Env} {call:b5} {h:H} {f:FuncId} {args:List A} {r:A} {k:A → H → Option R} {id e g e2 g2:Nat} {cs cs2:List D} (hi:h[id]? = some (.arr cs e g)) (hid:idsL args = [id]) (hm:(E.hint f).mode = 0) (hr:idsA r = []) (he:call f (aP (aH [id]) args) [.arr cs e g] = some (r,[.arr cs2 e2 g2])) :
  aW E call h f args k = k r (h.set id (.arr cs2 e2 g2)):=by
 have hre:aD aI h [id] [] = [id]:=by
  have e1:aD aI h [id] [] = match h[id]? with
   | some (.box cs) => aD (aI - 1) h ([] ++ idsL cs) ([] ++ [id])
   | some (.vec cs _ _) => aD (aI - 1) h ([] ++ idsL cs) ([] ++ [id])
   | some .void => aD (aI - 1) h [] []
   | some _ => aD (aI - 1) h [] ([] ++ [id])
   | none => aD (aI - 1) h [] []:=rfl
  rw [e1,hi]; rfl
 have hpk:pack h [id] = [.arr cs e g]:=by
  simp only [pack,List.map_cons,List.map_nil,List.getD_eq_getElem?_getD,hi]; rfl
 unfold aW
 rw [hid,hre,hpk]
 have hc:dX call E.hint [.arr cs e g] f (aP (aH [id]) args) = some (r,[.arr cs2 e2 g2]):=by
  unfold dX; rw [hm]; exact he
 rw [hc]
 have hcl:closed h [id] [id] = true:=by
  simp only [closed,List.all_cons,List.all_nil,hi]; simp
 simp only [List.length_cons,List.length_nil,Nat.le_refl,hcl,and_self,if_true,C6 r hr]
 simp only [bJ,mapO,List.map_nil,List.append_nil]
theorem RF {R:Type} {E:Env} {call:b5} {h h2:H} {f:FuncId} {args:List A} {r:A} {o:O} {k:A → H → Option R} (hs:args.all yC = true) (hm:(E.hint f).mode = 2) (hc:call f args [] = some (r,o :: h2)) :
  aW E call h f args k = k (mapA (back [] h.length (h2.length + 1)) (mapA (back [] 0 (h2.length + 1)) r)) (h ++ ((o :: h2).map (mapO (back [] 0 (h2.length + 1)))).map (mapO (back [] h.length (h2.length + 1)))):=by
 have hcall:dX call E.hint [] f args = some (mapA (back [] 0 (h2.length + 1)) r,(o :: h2).map (mapO (back [] 0 (h2.length + 1)))):=by
  unfold dX
  rw [hm]
  simp only [vB hs,hc,List.length_nil,List.length_cons,List.nil_append]
 unfold aW
 rw [uC hs,W5,uP _ (uC hs)]
 have:pack h [] = []:=rfl
 rw [this,hcall]
 simp only [List.length_nil,Nat.zero_le,true_and,closed,List.all_nil,Bool.and_self,if_true,bJ,List.length_map,List.length_cons]
structure Aut where
 al:Int
 nx:List (List Int)
 ac:List Bool
 deriving DecidableEq,Inhabited
def rowD (r:List Int):D:=.ivs r.length (ints r)
def rowsD (rs:List (List Int)):List D:=rs.map rowD
def bools (l:List Bool):List D:=l.map .bool
theorem DW {l:List (List Int)}:(rowsD l).length = l.length:=by simp [rowsD]
theorem sU {l:List Bool}:(bools l).length = l.length:=by simp [bools]
theorem E7 {l:List Bool} {k:Nat} (h:l.length ≤ k):(bools l).take k = bools l:=List.take_of_length_le (by rw [sU]; exact h)
theorem aHc {l:List Bool} {k:Nat} (h:k < l.length):(((bools l).drop k).map A.d).head? = some (.d (.bool (l.getD k false))):=by
 rw [List.head?_map,List.head?_drop,bools,List.getElem?_map,List.getD_eq_getElem?_getD,List.getElem?_eq_getElem h]
 rfl
theorem aRw {l:List Bool} {k:Nat} {v:Bool} (h:k < l.length):eQ (bools l) k [.bool v] = bools (l.set k v):=FM _ l k v h
theorem aI7 {l:List (List Int)} {k:Nat} (h:k < l.length):(((rowsD l).drop k).map A.d).head? = some (.d (.ivs (l.getD k []).length (ints (l.getD k [])))):=by
 rw [List.head?_map,List.head?_drop,rowsD,List.getElem?_map,List.getD_eq_getElem?_getD,List.getElem?_eq_getElem h]
 rfl
theorem I5 {l:List (List Int)} {k:Nat} (h:l.length ≤ k):(rowsD l).take k = rowsD l:=List.take_of_length_le (by rw [DW]; exact h)
theorem LA:type_of% (AI @DW (AI @sU (AI @E7 (AI @aHc (AI @aI7 @I5))))) :=
 ⟨@DW,@sU,@E7,@aHc,@aI7,@I5⟩
theorem CS {α:Type} {l:List α} {k:Nat} {v:α} {m:List α} (h:k < l.length):(l.set k v).take (k + 1) ++ m = l.take k ++ (v :: m):=by
 rw [take_set h]; simp
theorem aOD {R:Type} {L n:Nat} (hn:1 ≤ n) {l:List Int} (hl:l.length ≤ 4294967296) {k:Exit → List A → H → Option R}:∀ (i:Int) (m:Nat) (o:List Int) (len:Nat) (h0:0 ≤ i) (hi:i ≤ l.length) (hm:(l.length:Int) - i < m) (ho:o.length = l.length) (hlen:len = l.length),
  aJ env (aA env L n) L 0 [] Bz20 (KH 0) Bz51 m (.d (.ivs l.length (ints l)) :: Y1 (.d .nils :: .sl 0 0 0 len :: nI i :: Y16 (Y1 ([])))) [.arr (ints o) 1 0] k
  = k (.exit 0) (.d (.ivs l.length (ints l)) :: Y1 (.d .nils :: .sl 0 0 0 l.length :: nI (l.length) :: Y16 (Y1 ([])))) [.arr (ints (o.take i.toNat ++ l.drop i.toNat)) 1 0]:=by
 intro i m o len h0 hi hm ho hlen
 obtain ⟨j,hj⟩:∃ j:Nat,(j:Int) = (l.length:Int) - i:=⟨((l.length:Int) - i).toNat,by omega⟩
 induction j generalizing i m o len with
 | zero =>
  obtain _ | m:=m; omega
  obtain rfl:i = l.length:=by omega
  rw [YW]
  simp only [XX,Tryz.f90,SLM,simprocAttr]
  simp -implicitDefEqProofs (maxSteps:=2000000) (disch:=try exact Dz) only [↓DN,↓kAsg,↓kRet,UP,simprocAttr,Int.lt_irrefl]
  have e1:o.take l.length = o:=List.take_of_length_le (by omega)
  simp only [Int.toNat_natCast,List.drop_length,e1,List.append_nil,hlen]
 | succ j ih =>
  obtain _ | m:=m; omega
  have hc:i < l.length:=by omega
  have hk:i.toNat < l.length:=by omega
  have hk2:i.toNat < o.length:=by omega
  have hc2:i < (len:Int):=by omega
  have e1:(i + 1).toNat = i.toNat + 1:=by omega
  rw [YW]
  simp only [XX,Tryz.f90,SLM,simprocAttr]
  simp -implicitDefEqProofs (maxSteps:=2000000) (disch:=try exact Dz) only [↓DN,↓kAsg,↓kRet,UP,simprocAttr,hc,hc2,dP,iY,↓CW,↓ih]
  rw [dB hk (d:=0),e1,CS hk2]
theorem aUa {L n:Nat} (hn:2 ≤ n) (l:List Int) (hl:l.length ≤ 4294967296) (hL:2 ^ 60 ≤ L):aA env L n 90 [.d (.ivs l.length (ints l))] [] = some (.sl 0 0 0 l.length,[.arr (ints l) 1 0]):=by
 obtain _ | n:=n; omega
 rw [aRi]
 simp only [aMA,Tryz.f90,SLM,simprocAttr]
 simp -implicitDefEqProofs (maxSteps:=2000000) (disch:=try exact Dz) only [↓DN,↓kAsg,↓kRet,UP,simprocAttr,dP,↓J3,↓aOD,Int.toNat_natCast,Int.toNat_zero]
theorem aA7 {R:Type} {L n:Nat} {hq:H} {k:A → H → Option R} (hn:2 ≤ n) (l:List Int) (hl:l.length ≤ 4294967296) (hL:2 ^ 60 ≤ L):aW env (aA env L n) hq 90 [.d (.ivs l.length (ints l))] k = k (.sl hq.length 0 0 l.length) (hq ++ [.arr (ints l) 1 0]):=by
 rw [RF rfl S6 (aUa hn l hl hL)]
 simp [mapA,back,mapO]
theorem jQ:env.P.underlying 22 = some (.slice 90):=kr
theorem kF:env.P.cellsOf 90 = 1:=kr
theorem aY1:(env.P.info? 90).isSome = true:=kr
theorem aYD {h:H} {g k id gg o len:Nat} {cells:List A} (hk:k < cells.length):nW env.P (.vec cells 1 g :: h) 90 (.ptr 0 g k) (.sl id gg o len) = some (.vec (cells.set k (.sl id gg o len)) 1 g :: h):=by
 have hc:(bA (.sl id gg o len)).length = env.P.cellsOf 90 ∧ (env.P.info? 90).isSome = true ∧ (bA (.sl id gg o len)).all c9 = true:=⟨by rw [kF]; rfl,aY1,rfl⟩
 have hs:eQ cells k (bA (.sl id gg o len)) = cells.set k (.sl id gg o len):=by
  unfold eQ
  rw [List.set_eq_take_append_cons_drop,if_pos hk]
  simp [bA]
 unfold nW
 rw [if_pos hc]
 simp only [List.getElem?_cons_zero,kF,true_and,hs]
 rw [if_pos (by omega)]
 rfl
theorem aVv {n:Int} {h:H} (h0:0 ≤ n) (h1:n ≤ 4294967296):BR env.P h 22 n n = some (.sl h.length 0 0 n.toNat,h ++ [.vec (aZ n.toNat) 1 0]):=by
 have hm:n ≤ (b7:Nat):=by unfold b7; omega
 have he:bR env.P 22 = some 90:=kr
 have hz:bU env.P 90 = some (.d .nils):=kr
 have hok:bT env.P 90 = true:=kr
 simp only [BR,he,hz,bA,x4,Option.map_some,hok,h0,hm,kF,Int.le_refl,and_self,if_true,W9,List.map_replicate]
 rfl
theorem aYv {d:List (List Int)} {j k id:Nat} {r:List Int} (hk:k = d.length) (hid:id = d.length + 1):(aQ 1 d ++ aZ (j + 1)).set k (.sl id 0 0 r.length) = aQ 1 (d ++ [r]) ++ aZ j:=by
 subst hk; subst hid
 rw [aGB,List.set_append_right _ _ (by rw [I9]; exact Nat.le_refl _),I9,Nat.sub_self,V0,List.set_cons_zero,Nat.add_comm 1]
 simp
theorem aN0 (rs:List (List Int)) (r:List Int):a6 rs ++ [.arr (ints r) 1 0] = a6 (rs ++ [r]):=aQV rs r
def a8 (rs:List (List Int)):Prop:=rs.length ≤ 4294967296 ∧ ∀ r ∈ rs,r.length ≤ 4294967296
theorem BU {rs:List (List Int)} (h:a8 rs) {k:Nat} (hk:k < rs.length):(rs.getD k []).length ≤ 4294967296:=by
 rw [List.getD_eq_getElem?_getD,List.getElem?_eq_getElem hk]
 exact h.2 _ (List.getElem_mem hk)
theorem aBe {R:Type} {L n:Nat} (hn:3 ≤ n) (hL:2 ^ 60 ≤ L) {rs:List (List Int)} (hs:a8 rs) {k:Exit → List A → H → Option R}:∀ (j:Nat) (i:Int) (m:Nat) (d:List (List Int)) (len:Nat) (h0:0 ≤ i) (hi:i + j = rs.length) (hm:j < m) (hd:(d.length:Int) = i) (hlen:len = rs.length),
  aJ env (aA env L n) L 0 (W4 (W2 (W1 [1002]))) Bz29 (yL 0) Bz52 m (.d (.ivs rs.length (rowsD rs)) :: Y1 (.d .nils :: .sl 0 0 0 len :: nI i :: Y16 (Y2 ([])))) (.vec (aQ 1 d ++ aZ j) 1 0 :: a6 d) k
  = k (.exit 0) (.d (.ivs rs.length (rowsD rs)) :: Y1 (.d .nils :: .sl 0 0 0 rs.length :: nI (rs.length) :: Y16 (Y2 ([])))) (.vec (aQ 1 (d ++ rs.drop i.toNat) ++ aZ 0) 1 0 :: a6 (d ++ rs.drop i.toNat)):=by
 intro j
 have hrl:=hs.1
 induction j with
 | zero =>
  intro i m d len h0 hi hm hd hlen
  obtain _ | m:=m; omega
  obtain rfl:i = rs.length:=by omega
  have hdl:d.length ≤ 4294967296:=by omega
  rw [U6]
  simp only [S8,Tryz.f46,SLM,simprocAttr]
  simp -implicitDefEqProofs (maxSteps:=2000000) (disch:=try exact Dz) only [↓DN,↓kAsg,↓kRet,UP,simprocAttr,↓aA7,LA,Int.lt_irrefl,↓UY,UY,z0As,z0A,eq_self,hlen]
  simp only [Int.toNat_natCast,List.drop_length,List.append_nil]
 | succ j ih =>
  intro i m d len h0 hi hm hd hlen
  obtain _ | m:=m; omega
  subst hlen
  have hc:i < rs.length:=by omega
  have hk:i.toNat < rs.length:=by omega
  have hk2:i.toNat < (aQ 1 d ++ aZ (j + 1)).length:=by simp [I9,aTB]; omega
  have hrow:=BU hs hk
  have e1:(i + 1).toNat = i.toNat + 1:=by omega
  have e2:i.toNat = d.length:=by omega
  have hdl:(d ++ [rs.getD i.toNat []]).length ≤ 4294967296:=by simp; omega
  rw [U6]
  simp only [S8,Tryz.f46,SLM,simprocAttr]
  simp -implicitDefEqProofs (maxSteps:=2000000) (disch:=try exact Dz) only [↓DN,↓kAsg,↓kRet,UP,simprocAttr,↓aA7,LA,hc,jQ,kF,↓aYD,aYv,aN0,cB,↓UY,UY,z0As,z0A,eq_self]
  rw [ih (i + 1) m _ _ (by omega) (by omega) (by omega) (by simp; omega) rfl,e1,dB hk (d:=[])]
  simp only [List.append_assoc,List.cons_append,List.nil_append]
theorem aEM {R:Type} {L n m:Nat} (hn:3 ≤ n) (hL:2 ^ 60 ≤ L) {rs:List (List Int)} (hs:a8 rs) {k:Exit → List A → H → Option R} (hm:rs.length < m) :
  aJ env (aA env L n) L 0 (W4 (W2 (W1 [1002]))) Bz29 (yL 0) Bz52 m (.d (.ivs rs.length (rowsD rs)) :: Y1 (.d .nils :: .sl 0 0 0 rs.length :: nI 0 :: Y16 (Y2 ([])))) [.vec (aZ rs.length) 1 0] k
  = k (.exit 0) (.d (.ivs rs.length (rowsD rs)) :: Y1 (.d .nils :: .sl 0 0 0 rs.length :: nI (rs.length) :: Y16 (Y2 ([])))) (.vec (aQ 1 rs ++ aZ 0) 1 0 :: a6 rs):=by
 have h:=aBe (R:=R) (L:=L) hn hL hs (k:=k) rs.length 0 m [] rs.length (by omega) (by omega) hm rfl rfl
 simpa [aQ,a6] using h
theorem aO6 {m:List Bool} {s:List A} {q:Nat}:gc 0 m s [.vec (aZ q) 1 0] = match box (tidy m s) with
  | .mk s1 => if idsL s1 = [0] ∧ z0As s1 = true then (s1,[.vec (aZ q) 1 0]) else gcO 0 m s [.vec (aZ q) 1 0]
  | .no => ([],[]):=UY (rs:=[]) (q:=q) (by simp)
theorem aQo {L n:Nat} (hn:4 ≤ n) (rs:List (List Int)) (hs:a8 rs) (hL:2 ^ 60 ≤ L):aA env L n 46 [.d (.ivs rs.length (rowsD rs))] [] = some (.sl 0 0 0 rs.length,.vec (aQ 1 rs ++ aZ 0) 1 0 :: a6 rs):=by
 have hrl:=hs.1
 obtain _ | n:=n; omega
 rw [aP7]
 simp only [aJj,Tryz.f46,SLM,simprocAttr]
 simp -implicitDefEqProofs (maxSteps:=2000000) (disch:=try exact Dz) only [↓DN,↓kAsg,↓kRet,UP,simprocAttr,↓aA7,↓aBe,LA,jQ,↓aVv,↓aEM,Int.toNat_natCast,↓aO6,aO6,↓aRd,↓aJV,aJV,z0As,z0A,eq_self]
theorem aCo:env.P.underlying 23 = some (.slice 4):=kr
theorem aM8 {h:H} {g e k:Nat} {l:List Bool} {b:Bool} (hk:k < l.length):nW env.P (.arr (bools l) e g :: h) 4 (.ptr 0 g k) (.d (.bool b)) = some (.arr (bools (l.set k b)) e g :: h):=by
 rw [uD (id:=0) rfl N8 aNv rfl (by rw [sU]; exact hk),aRw hk]
 rfl
theorem aQQ {n:Int} {h:H} (h0:0 ≤ n) (h1:n ≤ 4294967296):jU env.P h 23 n n = some (.sl h.length 0 0 n.toNat,h ++ [.arr (bools (List.replicate n.toNat false)) 1 0]):=by
 have hm:n ≤ (b7:Nat):=by unfold b7; omega
 have he:bR env.P 23 = some 4:=kr
 have hz:bU env.P 4 = some (.d (.bool false)):=kr
 have hok:bT env.P 4 = true:=kr
 simp only [jU,he,hz,bA,x4,Option.map_some,hok,h0,hm,N8,Int.le_refl,and_self,if_true,W9,bools,List.map_replicate]
theorem aM4 {R:Type} {L n:Nat} (hn:1 ≤ n) {l:List Bool} (hl:l.length ≤ 4294967296) {k:Exit → List A → H → Option R}:∀ (i:Int) (m:Nat) (o:List Bool) (len:Nat) (h0:0 ≤ i) (hi:i ≤ l.length) (hm:(l.length:Int) - i < m) (ho:o.length = l.length) (hlen:len = l.length),
  aJ env (aA env L n) L 0 [] Bz20 (DQ 0) Bz51 m (.d (.ivs l.length (bools l)) :: Y1 (.d .nils :: .sl 0 0 0 len :: nI i :: Y16 (Y1 ([])))) [.arr (bools o) 1 0] k
  = k (.exit 0) (.d (.ivs l.length (bools l)) :: Y1 (.d .nils :: .sl 0 0 0 l.length :: nI (l.length) :: Y16 (Y1 ([])))) [.arr (bools (o.take i.toNat ++ l.drop i.toNat)) 1 0]:=by
 intro i m o len h0 hi hm ho hlen
 obtain ⟨j,hj⟩:∃ j:Nat,(j:Int) = (l.length:Int) - i:=⟨((l.length:Int) - i).toNat,by omega⟩
 induction j generalizing i m o len with
 | zero =>
  obtain _ | m:=m; omega
  obtain rfl:i = l.length:=by omega
  rw [T8]
  simp only [TC,Tryz.f47,SLM,simprocAttr]
  simp -implicitDefEqProofs (maxSteps:=2000000) (disch:=try exact Dz) only [↓DN,↓kAsg,↓kRet,UP,simprocAttr,LA,Int.lt_irrefl]
  have e1:o.take l.length = o:=List.take_of_length_le (by omega)
  simp only [Int.toNat_natCast,List.drop_length,e1,List.append_nil,hlen]
 | succ j ih =>
  obtain _ | m:=m; omega
  have hc:i < l.length:=by omega
  have hk:i.toNat < l.length:=by omega
  have hk2:i.toNat < o.length:=by omega
  have hc2:i < (len:Int):=by omega
  have e1:(i + 1).toNat = i.toNat + 1:=by omega
  rw [T8]
  simp only [TC,Tryz.f47,SLM,simprocAttr]
  simp -implicitDefEqProofs (maxSteps:=2000000) (disch:=try exact Dz) only [↓DN,↓kAsg,↓kRet,UP,simprocAttr,LA,hc,hc2,aCo,N8,↓aM8,↓ih]
  rw [dB hk (d:=false),e1,CS hk2]
theorem aQp {L n:Nat} (hn:2 ≤ n) (l:List Bool) (hl:l.length ≤ 4294967296) (hL:2 ^ 60 ≤ L):aA env L n 47 [.d (.ivs l.length (bools l))] [] = some (.sl 0 0 0 l.length,[.arr (bools l) 1 0]):=by
 obtain _ | n:=n; omega
 rw [aQT]
 simp only [aK3,Tryz.f47,SLM,simprocAttr]
 simp -implicitDefEqProofs (maxSteps:=2000000) (disch:=try exact Dz) only [↓DN,↓kAsg,↓kRet,UP,simprocAttr,LA,aCo,↓aQQ,↓aM4,Int.toNat_natCast,Int.toNat_zero]
theorem aPN {R:Type} {L n:Nat} {hq:H} {k:A → H → Option R} (hn:2 ≤ n) (l:List Bool) (hl:l.length ≤ 4294967296) (hL:2 ^ 60 ≤ L):aW env (aA env L n) hq 47 [.d (.ivs l.length (bools l))] k = k (.sl hq.length 0 0 l.length) (hq ++ [.arr (bools l) 1 0]):=by
 rw [RF rfl QC (aQp hn l hl hL)]
 simp [mapA,back,mapO]
theorem aN6 {R:Type} {L n:Nat} (hn:1 ≤ n) {l:List Int} (hl:l.length ≤ 4294967296) {k:Exit → List A → H → Option R}:∀ (i:Int) (m:Nat) (h0:0 ≤ i) (hi:i ≤ l.length) (hm:(l.length:Int) - i < m),
  aJ env (aA env L n) L 0 [] Bz9 (KB 0) Bz35 m (.d (.ivs l.length (ints l)) :: .d (.ivs l.length (ints l)) :: Y2 (.d (.bool false) :: nI i :: Y16 (Y4 ([])))) [] k
  = k (.exit 0) (.d (.ivs l.length (ints l)) :: .d (.ivs l.length (ints l)) :: Y2 (.d (.bool false) :: nI (l.length) :: Y16 (Y4 ([])))) []:=by
 intro i m h0 hi hm
 obtain ⟨j,hj⟩:∃ j:Nat,(j:Int) = (l.length:Int) - i:=⟨((l.length:Int) - i).toNat,by omega⟩
 induction j generalizing i m with
 | zero =>
  obtain _ | m:=m; omega
  obtain rfl:i = l.length:=by omega
  rw [YI]
  simp only [XH,Tryz.f98,SLM,simprocAttr]
  simp -implicitDefEqProofs (maxSteps:=2000000) (disch:=try exact Dz) only [↓DN,↓kAsg,↓kRet,UP,simprocAttr,LA,Int.lt_irrefl]
 | succ j ih =>
  obtain _ | m:=m; omega
  have hc:i < l.length:=by omega
  have hk:i.toNat < l.length:=by omega
  rw [YI]
  simp only [XH,Tryz.f98,SLM,simprocAttr]
  simp -implicitDefEqProofs (maxSteps:=2000000) (disch:=try exact Dz) only [↓DN,↓kAsg,↓kRet,UP,simprocAttr,LA,hc,dP,iY,↓ih]
theorem aKv {L n:Nat} (hn:2 ≤ n) (l:List Int) (hl:l.length ≤ 4294967296) (hL:2 ^ 60 ≤ L):aA env L n 98 [.d (.ivs l.length (ints l)),.d (.ivs l.length (ints l))] [] = some (.d (.bool true),[]):=by
 obtain _ | n:=n; omega
 rw [aRn]
 simp only [aMk,Tryz.f98,SLM,simprocAttr]
 simp -implicitDefEqProofs (maxSteps:=2000000) (disch:=try exact Dz) only [↓DN,↓kAsg,↓kRet,UP,simprocAttr,↓aN6,LA]
theorem aAH {L:Nat} (l:List Int) (hl:l.length ≤ 4294967296) (hL:2 ^ 60 ≤ L):KC 2 L 98 [.d (.ivs l.length (ints l)),.d (.ivs l.length (ints l))] (.d (.bool true)):=ks rfl (fun hn => aKv hn l hl hL) rfl (.inl rfl)
theorem aB2 {L:Nat} (l:List Int) (hl:l.length ≤ 4294967296) (hL:2 ^ 60 ≤ L):KT 2 L 98 [.d (.ivs l.length (ints l)),.d (.ivs l.length (ints l))] (.d (.bool true)):=fun hn => bY (aKv hn l hl hL) rfl
theorem S1 {L:Nat} {id0 g0 o0 len0:Nat} {l:List Int}:KV L 98 [.sl id0 g0 o0 len0,.d (.ivs l.length (ints l))]:=aF AK
theorem SQ {L:Nat} {id1 g1 o1 len1:Nat} {l:List Int}:KV L 98 [.d (.ivs l.length (ints l)),.sl id1 g1 o1 len1]:=aF AK
theorem TG {L:Nat} {id1 g1 o1 len1:Nat} {id0 g0 o0 len0:Nat} :KV L 98 [.sl id0 g0 o0 len0,.sl id1 g1 o1 len1]:=aF AK
theorem aMs {R:Type} {L n:Nat} (hn:1 ≤ n) {l:List Bool} (hl:l.length ≤ 4294967296) {k:Exit → List A → H → Option R}:∀ (i:Int) (m:Nat) (h0:0 ≤ i) (hi:i ≤ l.length) (hm:(l.length:Int) - i < m),
  aJ env (aA env L n) L 0 [] Bz9 (D7 0) Bz35 m (.d (.ivs l.length (bools l)) :: .d (.ivs l.length (bools l)) :: Y2 (.d (.bool false) :: nI i :: Y16 (Y4 ([])))) [] k
  = k (.exit 0) (.d (.ivs l.length (bools l)) :: .d (.ivs l.length (bools l)) :: Y2 (.d (.bool false) :: nI (l.length) :: Y16 (Y4 ([])))) []:=by
 intro i m h0 hi hm
 obtain ⟨j,hj⟩:∃ j:Nat,(j:Int) = (l.length:Int) - i:=⟨((l.length:Int) - i).toNat,by omega⟩
 induction j generalizing i m with
 | zero =>
  obtain _ | m:=m; omega
  obtain rfl:i = l.length:=by omega
  rw [TV]
  simp only [SN,Tryz.f54,SLM,simprocAttr]
  simp -implicitDefEqProofs (maxSteps:=2000000) (disch:=try exact Dz) only [↓DN,↓kAsg,↓kRet,UP,simprocAttr,LA,Int.lt_irrefl]
 | succ j ih =>
  obtain _ | m:=m; omega
  have hc:i < l.length:=by omega
  have hk:i.toNat < l.length:=by omega
  rw [TV]
  simp only [SN,Tryz.f54,SLM,simprocAttr]
  simp -implicitDefEqProofs (maxSteps:=2000000) (disch:=try exact Dz) only [↓DN,↓kAsg,↓kRet,UP,simprocAttr,LA,hc,aCo,N8,EV,XD,↓ih]
theorem aGH {L n:Nat} (hn:2 ≤ n) (l:List Bool) (hl:l.length ≤ 4294967296) (hL:2 ^ 60 ≤ L):aA env L n 54 [.d (.ivs l.length (bools l)),.d (.ivs l.length (bools l))] [] = some (.d (.bool true),[]):=by
 obtain _ | n:=n; omega
 rw [aPH]
 simp only [aK4,Tryz.f54,SLM,simprocAttr]
 simp -implicitDefEqProofs (maxSteps:=2000000) (disch:=try exact Dz) only [↓DN,↓kAsg,↓kRet,UP,simprocAttr,↓aMs,LA]
theorem aQb {L:Nat} (l:List Bool) (hl:l.length ≤ 4294967296) (hL:2 ^ 60 ≤ L):KC 2 L 54 [.d (.ivs l.length (bools l)),.d (.ivs l.length (bools l))] (.d (.bool true)):=ks rfl (fun hn => aGH hn l hl hL) rfl (.inl rfl)
theorem aQt {L:Nat} (l:List Bool) (hl:l.length ≤ 4294967296) (hL:2 ^ 60 ≤ L):KT 2 L 54 [.d (.ivs l.length (bools l)),.d (.ivs l.length (bools l))] (.d (.bool true)):=fun hn => bY (aGH hn l hl hL) rfl
theorem aMq {L:Nat} {id0 g0 o0 len0:Nat} {l:List Bool}:KV L 54 [.sl id0 g0 o0 len0,.d (.ivs l.length (bools l))]:=aF wW
theorem aLF {L:Nat} {id1 g1 o1 len1:Nat} {l:List Bool}:KV L 54 [.d (.ivs l.length (bools l)),.sl id1 g1 o1 len1]:=aF wW
theorem aNw {L:Nat} {id1 g1 o1 len1:Nat} {id0 g0 o0 len0:Nat} :KV L 54 [.sl id0 g0 o0 len0,.sl id1 g1 o1 len1]:=aF wW
theorem aNx {R:Type} {L n:Nat} (hn:3 ≤ n) (hL:2 ^ 60 ≤ L) {l:List (List Int)} (hs:a8 l) {k:Exit → List A → H → Option R}:∀ (i:Int) (m:Nat) (h0:0 ≤ i) (hi:i ≤ l.length) (hm:(l.length:Int) - i < m),
  aJ env (aA env L n) L 0 [] Bz19 (FN 0) Bz53 m (.d (.ivs l.length (rowsD l)) :: .d (.ivs l.length (rowsD l)) :: Y2 (.d (.bool false) :: nI i :: Y16 (Y4 (Y1 ([]))))) [] k
  = k (.exit 0) (.d (.ivs l.length (rowsD l)) :: .d (.ivs l.length (rowsD l)) :: Y2 (.d (.bool false) :: nI (l.length) :: Y16 (Y4 (Y1 ([]))))) []:=by
 intro i m h0 hi hm
 have hl:=hs.1
 obtain ⟨j,hj⟩:∃ j:Nat,(j:Int) = (l.length:Int) - i:=⟨((l.length:Int) - i).toNat,by omega⟩
 induction j generalizing i m with
 | zero =>
  obtain _ | m:=m; omega
  obtain rfl:i = l.length:=by omega
  rw [U0]
  simp only [SS,Tryz.f53,SLM,simprocAttr]
  simp -implicitDefEqProofs (maxSteps:=2000000) (disch:=try exact Dz) only [↓DN,↓kAsg,↓kRet,UP,simprocAttr,↓aAH,↓aB2,↓S1,↓SQ,↓TG,LA,Int.lt_irrefl]
 | succ j ih =>
  obtain _ | m:=m; omega
  have hc:i < l.length:=by omega
  have hk:i.toNat < l.length:=by omega
  have hrow:=BU hs hk
  rw [U0]
  simp only [SS,Tryz.f53,SLM,simprocAttr]
  simp -implicitDefEqProofs (maxSteps:=2000000) (disch:=try exact Dz) only [↓DN,↓kAsg,↓kRet,UP,simprocAttr,↓aAH,↓aB2,↓S1,↓SQ,↓TG,LA,hc,jQ,kF,↓ih]
theorem aGs {L n:Nat} (hn:4 ≤ n) (l:List (List Int)) (hs:a8 l) (hL:2 ^ 60 ≤ L):aA env L n 53 [.d (.ivs l.length (rowsD l)),.d (.ivs l.length (rowsD l))] [] = some (.d (.bool true),[]):=by
 have hl:=hs.1
 obtain _ | n:=n; omega
 rw [aP1]
 simp only [aJQ,Tryz.f53,SLM,simprocAttr]
 simp -implicitDefEqProofs (maxSteps:=2000000) (disch:=try exact Dz) only [↓DN,↓kAsg,↓kRet,UP,simprocAttr,↓aAH,↓aB2,↓S1,↓SQ,↓TG,↓aNx,LA]
theorem aPL {L:Nat} (l:List (List Int)) (hs:a8 l) (hL:2 ^ 60 ≤ L):KC 4 L 53 [.d (.ivs l.length (rowsD l)),.d (.ivs l.length (rowsD l))] (.d (.bool true)):=ks rfl (fun hn => aGs hn l hs hL) rfl (.inl rfl)
theorem aPE {L:Nat} (l:List (List Int)) (hs:a8 l) (hL:2 ^ 60 ≤ L):KT 4 L 53 [.d (.ivs l.length (rowsD l)),.d (.ivs l.length (rowsD l))] (.d (.bool true)):=fun hn => bY (aGs hn l hs hL) rfl
theorem aL9 {L:Nat} {id0 g0 o0 len0:Nat} {l:List (List Int)}:KV L 53 [.sl id0 g0 o0 len0,.d (.ivs l.length (rowsD l))]:=aF xN
theorem aMd {L:Nat} {id1 g1 o1 len1:Nat} {l:List (List Int)}:KV L 53 [.d (.ivs l.length (rowsD l)),.sl id1 g1 o1 len1]:=aF xN
theorem aLR {L:Nat} {id1 g1 o1 len1:Nat} {id0 g0 o0 len0:Nat} :KV L 53 [.sl id0 g0 o0 len0,.sl id1 g1 o1 len1]:=aF xN
theorem TL {L n:Nat} (hn:6 ≤ n) (al:Int) (rs:List (List Int)) (ac:List Bool) (hs:a8 rs) (ha:ac.length ≤ 4294967296) (hL:2 ^ 60 ≤ L):aA env L n 17 [.agg [nI al,.d (.ivs rs.length (rowsD rs)),.d (.ivs ac.length (bools ac))],.agg [nI al,.d (.ivs rs.length (rowsD rs)),.d (.ivs ac.length (bools ac))]] [] = some (.d (.bool true),[]):=by
 obtain _ | n:=n; omega
 rw [aII]
 simp only [ZK,Tryz.f17,SLM,simprocAttr]
 simp -implicitDefEqProofs (maxSteps:=2000000) (disch:=try exact Dz) only [↓DN,↓kAsg,↓kRet,UP,simprocAttr,↓aPL,↓aQb,↓aPE,↓aQt,↓aL9,↓aMd,↓aLR,↓aMq,↓aLF,↓aNw,LA]
theorem aH8 {L:Nat} (al:Int) (rs:List (List Int)) (ac:List Bool) (hs:a8 rs) (ha:ac.length ≤ 4294967296) (hL:2 ^ 60 ≤ L):KC 6 L 17 [.agg [nI al,.d (.ivs rs.length (rowsD rs)),.d (.ivs ac.length (bools ac))],.agg [nI al,.d (.ivs rs.length (rowsD rs)),.d (.ivs ac.length (bools ac))]] (.d (.bool true)):=ks rfl (fun hn => TL hn al rs ac hs ha hL) rfl (.inl rfl)
theorem UC {R:Type} {L n:Nat} {k:A → Option R} (hn:6 ≤ n) (al:Int) (rs:List (List Int)) (ac:List Bool) (hs:a8 rs) (ha:ac.length ≤ 4294967296) (hL:2 ^ 60 ≤ L):rS (aA env L n) 17 [.agg [nI al,.d (.ivs rs.length (rowsD rs)),.d (.ivs ac.length (bools ac))],.agg [nI al,.d (.ivs rs.length (rowsD rs)),.d (.ivs ac.length (bools ac))]] k = k (.d (.bool true)) :=
 bY (TL hn al rs ac hs ha hL) rfl
theorem aEs {L:Nat} {id0 g0 o0 len0:Nat} {al:Int} {rs:List (List Int)} {ac:List Bool}:KV L 17 [.agg [nI al,.sl id0 g0 o0 len0,.d (.ivs ac.length (bools ac))],.agg [nI al,.d (.ivs rs.length (rowsD rs)),.d (.ivs ac.length (bools ac))]]:=aF bX
theorem aEJ {L:Nat} {id1 g1 o1 len1:Nat} {al:Int} {rs:List (List Int)} {ac:List Bool}:KV L 17 [.agg [nI al,.d (.ivs rs.length (rowsD rs)),.sl id1 g1 o1 len1],.agg [nI al,.d (.ivs rs.length (rowsD rs)),.d (.ivs ac.length (bools ac))]]:=aF bX
theorem aEk {L:Nat} {id1 g1 o1 len1:Nat} {id0 g0 o0 len0:Nat} {al:Int} {rs:List (List Int)} {ac:List Bool}:KV L 17 [.agg [nI al,.sl id0 g0 o0 len0,.sl id1 g1 o1 len1],.agg [nI al,.d (.ivs rs.length (rowsD rs)),.d (.ivs ac.length (bools ac))]]:=aF bX
theorem aFk {L:Nat} {id2 g2 o2 len2:Nat} {al:Int} {rs:List (List Int)} {ac:List Bool}:KV L 17 [.agg [nI al,.d (.ivs rs.length (rowsD rs)),.d (.ivs ac.length (bools ac))],.agg [nI al,.sl id2 g2 o2 len2,.d (.ivs ac.length (bools ac))]]:=aF bX
theorem aFc {L:Nat} {id2 g2 o2 len2:Nat} {id0 g0 o0 len0:Nat} {al:Int} {ac:List Bool}:KV L 17 [.agg [nI al,.sl id0 g0 o0 len0,.d (.ivs ac.length (bools ac))],.agg [nI al,.sl id2 g2 o2 len2,.d (.ivs ac.length (bools ac))]]:=aF bX
theorem aEZ {L:Nat} {id2 g2 o2 len2:Nat} {id1 g1 o1 len1:Nat} {al:Int} {rs:List (List Int)} {ac:List Bool}:KV L 17 [.agg [nI al,.d (.ivs rs.length (rowsD rs)),.sl id1 g1 o1 len1],.agg [nI al,.sl id2 g2 o2 len2,.d (.ivs ac.length (bools ac))]]:=aF bX
theorem aEE {L:Nat} {id2 g2 o2 len2:Nat} {id1 g1 o1 len1:Nat} {id0 g0 o0 len0:Nat} {al:Int} {ac:List Bool}:KV L 17 [.agg [nI al,.sl id0 g0 o0 len0,.sl id1 g1 o1 len1],.agg [nI al,.sl id2 g2 o2 len2,.d (.ivs ac.length (bools ac))]]:=aF bX
theorem aE5 {L:Nat} {id3 g3 o3 len3:Nat} {al:Int} {rs:List (List Int)} {ac:List Bool}:KV L 17 [.agg [nI al,.d (.ivs rs.length (rowsD rs)),.d (.ivs ac.length (bools ac))],.agg [nI al,.d (.ivs rs.length (rowsD rs)),.sl id3 g3 o3 len3]]:=aF bX
theorem aFx {L:Nat} {id3 g3 o3 len3:Nat} {id0 g0 o0 len0:Nat} {al:Int} {rs:List (List Int)} {ac:List Bool}:KV L 17 [.agg [nI al,.sl id0 g0 o0 len0,.d (.ivs ac.length (bools ac))],.agg [nI al,.d (.ivs rs.length (rowsD rs)),.sl id3 g3 o3 len3]]:=aF bX
theorem aCP {L:Nat} {id3 g3 o3 len3:Nat} {id1 g1 o1 len1:Nat} {al:Int} {rs:List (List Int)}:KV L 17 [.agg [nI al,.d (.ivs rs.length (rowsD rs)),.sl id1 g1 o1 len1],.agg [nI al,.d (.ivs rs.length (rowsD rs)),.sl id3 g3 o3 len3]]:=aF bX
theorem aCQ {L:Nat} {id3 g3 o3 len3:Nat} {id1 g1 o1 len1:Nat} {id0 g0 o0 len0:Nat} {al:Int} {rs:List (List Int)}:KV L 17 [.agg [nI al,.sl id0 g0 o0 len0,.sl id1 g1 o1 len1],.agg [nI al,.d (.ivs rs.length (rowsD rs)),.sl id3 g3 o3 len3]]:=aF bX
theorem aC1 {L:Nat} {id3 g3 o3 len3:Nat} {id2 g2 o2 len2:Nat} {al:Int} {rs:List (List Int)} {ac:List Bool}:KV L 17 [.agg [nI al,.d (.ivs rs.length (rowsD rs)),.d (.ivs ac.length (bools ac))],.agg [nI al,.sl id2 g2 o2 len2,.sl id3 g3 o3 len3]]:=aF bX
theorem aCR {L:Nat} {id3 g3 o3 len3:Nat} {id2 g2 o2 len2:Nat} {id0 g0 o0 len0:Nat} {al:Int} {ac:List Bool}:KV L 17 [.agg [nI al,.sl id0 g0 o0 len0,.d (.ivs ac.length (bools ac))],.agg [nI al,.sl id2 g2 o2 len2,.sl id3 g3 o3 len3]]:=aF bX
theorem aCX {L:Nat} {id3 g3 o3 len3:Nat} {id2 g2 o2 len2:Nat} {id1 g1 o1 len1:Nat} {al:Int} {rs:List (List Int)}:KV L 17 [.agg [nI al,.d (.ivs rs.length (rowsD rs)),.sl id1 g1 o1 len1],.agg [nI al,.sl id2 g2 o2 len2,.sl id3 g3 o3 len3]]:=aF bX
theorem aCT {L:Nat} {id3 g3 o3 len3:Nat} {id2 g2 o2 len2:Nat} {id1 g1 o1 len1:Nat} {id0 g0 o0 len0:Nat} {al:Int}:KV L 17 [.agg [nI al,.sl id0 g0 o0 len0,.sl id1 g1 o1 len1],.agg [nI al,.sl id2 g2 o2 len2,.sl id3 g3 o3 len3]]:=aF bX
def xU:Nat → Int → List Int
 | 0,_ => []
 | j + 1,k => k :: xU j (k + 1)
theorem aFU:∀ (j:Nat) (k:Int),(xU j k).length = j
 | 0,_ => rfl
 | j + 1,k => by simp [xU,aFU j]
theorem aLk {R:Type} {L n:Nat} {k:Exit → List A → H → Option R}:∀ (i c:Int) (m:Nat) (o:List Int) (len:Nat) (h0:0 ≤ i) (hi:i ≤ len) (hm:(len:Int) - i < m) (ho:o.length = len) (hl:len ≤ 4294967296) (hc0:0 ≤ c) (hc1:c + ((len:Int) - i) ≤ 1000000000000),
  aJ env (aA env L n) L 1 [] Bz12 (AN 0) Bz32 m (.sl 0 0 0 len :: nI c :: Y2 (nI 0 :: nI i :: Y8 (Y4 (Y1 ([]))))) [.arr (ints o) 1 0] k
  = k (.exit 0) (.sl 0 0 0 len :: nI (c + ((len:Int) - i)) :: Y2 (nI 0 :: nI len :: Y8 (Y4 (Y1 ([]))))) [.arr (ints (o.take i.toNat ++ xU ((len:Int) - i).toNat c)) 1 0]:=by
 intro i c m o len h0 hi hm ho hl hc0 hc1
 obtain ⟨j,hj⟩:∃ j:Nat,(j:Int) = (len:Int) - i:=⟨((len:Int) - i).toNat,by omega⟩
 induction j generalizing i c m o len with
 | zero =>
  obtain _ | m:=m; omega
  obtain rfl:i = len:=by omega
  rw [QY]
  simp only [O7,Tryz.f99,SLM,simprocAttr]
  simp -implicitDefEqProofs (maxSteps:=2000000) (disch:=try exact Dz) only [↓DN,↓kAsg,↓kRet,UP,simprocAttr,Int.lt_irrefl]
  have e1:o.take len = o:=List.take_of_length_le (by omega)
  have e2:((len:Int) - len).toNat = 0:=by omega
  simp only [Int.toNat_natCast,e1,e2,xU,List.append_nil]
  congr 3
  simp
 | succ j ih =>
  obtain _ | m:=m; omega
  have hc:i < len:=by omega
  have hk:i.toNat < o.length:=by omega
  have e1:(i + 1).toNat = i.toNat + 1:=by omega
  have e2:((len:Int) - i).toNat = j + 1:=by omega
  have e3:((len:Int) - (i + 1)).toNat = j:=by omega
  rw [QY]
  simp only [O7,Tryz.f99,SLM,simprocAttr]
  simp -implicitDefEqProofs (maxSteps:=2000000) (disch:=try exact Dz) only [↓DN,↓kAsg,↓kRet,UP,simprocAttr,hc,dP,iY,↓CW,↓ih]
  have e4:c + 1 + ((len:Int) - (i + 1)) = c + ((len:Int) - i):=by omega
  rw [e1,e2,e3,CS hk,e4]
  simp only [xU]
theorem aOB {L n:Nat} (hn:1 ≤ n) (o:List Int) (c:Int) (hl:o.length ≤ 4294967296) (hc0:0 ≤ c) (hc1:c ≤ 100000000000) (hL:2 ^ 60 ≤ L):aA env L n 99 [.sl 0 0 0 o.length,nI c] [.arr (ints o) 1 0] = some (nI (c + o.length),[.arr (ints (xU o.length c)) 1 0]):=by
 obtain _ | n:=n; omega
 rw [aOu]
 simp only [aF7,Tryz.f99,SLM,simprocAttr]
 simp -implicitDefEqProofs (maxSteps:=2000000) (disch:=try exact Dz) only [↓DN,↓kAsg,↓kRet,UP,simprocAttr,↓aLk,Int.toNat_zero,Int.sub_zero,Int.toNat_natCast,List.take_zero,List.nil_append]
theorem SR {R:Type} {L n id:Nat} {hq:H} {k:A → H → Option R} (hn:1 ≤ n) (o:List Int) (c:Int) (hi:hq[id]? = some (.arr (ints o) 1 0)) (hl:o.length ≤ 4294967296) (hc0:0 ≤ c) (hc1:c ≤ 100000000000) (hL:2 ^ 60 ≤ L):aW env (aA env L n) hq 99 [.sl id 0 0 o.length,nI c] k = k (nI (c + o.length)) (hq.set id (.arr (ints (xU o.length c)) 1 0)) :=
 CJ hi (by simp [idsL,idsA]) KZ rfl (by simpa [aP,mapA,aH] using aOB hn o c hl hc0 hc1 hL)
end Ev
end Go.Proofs.YtejmccgfigiadaaGreat
