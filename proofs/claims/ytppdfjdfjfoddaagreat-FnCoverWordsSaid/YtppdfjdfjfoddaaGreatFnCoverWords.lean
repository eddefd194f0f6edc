/-
  Nodes that words lead to, numbered in the order of their first words: the program's way (with a map).
-/
import Derived.Test.YtppdfjdfjfoddaaGreatCovL
import Derived.Test.YtppdfjdfjfoddaaGreatNetX
import Derived.Test.YtppdfjdfjfoddaaGreatAutH
import Derived.Test.YtppdfjdfjfoddaaGreatAccess
import Derived.Test.YtppdfjdfjfoddaaGreatAutF
set_option linter.unusedSimpArgs false
set_option linter.unusedVariables false
set_option maxRecDepth 8000
set_option maxHeartbeats 4000000
namespace Go.Proofs.YtppdfjdfjfoddaaGreat
namespace Ev
section
def numG:List Int → Nat → List (D × D)
 | [],_ => []
 | x :: o,i => (.int .i64 x,.int .i64 (i:Nat)) :: numG o (i + 1)
def numM (o:List Int):List (D × D):=numG o 0
theorem aJl:∀ (o:List Int) (x:Int) (i:Nat),numG (o ++ [x]) i = numG o i ++ [(.int .i64 x,.int .i64 ((i + o.length:Nat):Int))]
 | [],x,i => by simp [numG]
 | y :: o,x,i => by
  simp only [List.cons_append,numG,aJl o x (i + 1),List.length_cons]
  rw [show i + 1 + o.length = i + (o.length + 1) by omega]
theorem aEE {x:Int} {k:IntKind}:∀ (o:List Int) (i c:Nat),IF (.int k) (.int .i64 x) (numG o i) c = some (if x ∈ o then some (c + o.idxOf x) else none)
 | [],i,c => by simp [numG,IF]
 | y :: o,i,c => by
  simp only [numG,IF,aHf,if_true]
  by_cases h:x = y
  ·subst h
   simp
  ·have h2:(x == y) = false:=by simpa using h
   have h3:(y == x) = false:=by simpa using fun e:y = x => h e.symm
   rw [h2]
   simp only [aEE o (i + 1) (c + 1),List.mem_cons,h,false_or,List.idxOf_cons,h3,cond_false]
   by_cases hm:x ∈ o
   ·rw [if_pos hm,if_pos hm,show c + 1 + o.idxOf x = c + (o.idxOf x + 1) by omega]
   ·rw [if_neg hm,if_neg hm]
theorem aIx:∀ (o:List Int) (i q:Nat) (z:D × D),q < o.length → ((numG o i).getD q z).2 = .int .i64 ((i + q:Nat):Int)
 | [],_,_,_,h => by simp at h
 | x :: o,i,0,z,_ => by simp [numG]
 | x :: o,i,q + 1,z,h => by
  simp only [numG,List.getD_cons_succ]
  rw [aIx o (i + 1) q z (by simpa using h),show i + 1 + q = i + (q + 1) by omega]
theorem aKQ:mapT env.P 105 = some (.int .i64,3):=by kernel_rfl
theorem aPZ:bY env.P 3 = some (.d (.int .i64 0)):=by kernel_rfl
theorem aP6 {h:H} {id:Nat} {o:List Int} {x:Int} (hi:h[id]? = some (.mp (numM o))) :
  z8 env.P h 105 true (.mp id) (.d (.int .i64 x)) = some (.tup [.d (.int .i64 (if x ∈ o then idxU o x else 0)),.d (.bool (decide (x ∈ o)))],h):=by
 unfold z8 numM at *
 simp only [aKQ,hi,aPZ,YP,yR,decide_true,Bool.and_self,if_true,aEE]
 by_cases hm:x ∈ o
 ·obtain ⟨_,hq⟩:=AC hm
  simp only [if_pos hm,KN,wN,if_true,Option.isSome_some,Nat.zero_add,aIx o 0 _ _ hq,idxU,decide_eq_true hm]
 ·simp only [if_neg hm,KN,wN,if_true,Option.isSome_none,decide_eq_false hm]
theorem aKB {h:H} {id:Nat} {o:List Int} {x:Int} (hi:h[id]? = some (.mp (numM o))) (hx:x ∉ o) :
  nD env.P h 105 (.mp id) (.d (.int .i64 x)) (.d (.int .i64 (o.length:Int))) = some (.d .undef,h.set id (.mp (numM (o ++ [x])))):=by
 unfold nD
 unfold numM at *
 simp only [aKQ,hi,YP,yR,decide_true,Bool.and_self,if_true,aEE,if_neg hx,GA,aJl,Nat.zero_add]
theorem aGG {a:O} {T:H} {o:List Int} {x:Int}:z8 env.P (a :: .mp (numM o) :: T) 105 true (.mp 1) (.d (.int .i64 x)) = some (.tup [.d (.int .i64 (if x ∈ o then idxU o x else 0)),.d (.bool (decide (x ∈ o)))],a :: .mp (numM o) :: T):=aP6 rfl
theorem aQM {a:O} {T:H} {o:List Int} {x:Int} (hx:x ∉ o):nD env.P (a :: .mp (numM o) :: T) 105 (.mp 1) (.d (.int .i64 x)) (.d (.int .i64 (o.length:Int))) = some (.d .undef,a :: .mp (numM (o ++ [x])) :: T):=aKB rfl hx
theorem aQz {a:O} {T:H} {x:Int}:nD env.P (a :: .mp [] :: T) 105 (.mp 1) (.d (.int .i64 x)) (.d (.int .i64 0)) = some (.d .undef,a :: .mp (numM [x]) :: T):=aKB (o:=[]) (h:=a :: .mp [] :: T) rfl (by simp)
theorem aHo {f:Int → Int} {r:List Int} {k:Nat} (h:k < r.length):(r.drop k).map f = f (r.getD k 0) :: (r.drop (k + 1)).map f:=by
 rw [dZ h (d:=0)]; rfl
theorem aPY (o:List Int) (x:Int):∃ t,addU o x = o ++ t:=by
 unfold addU
 split
 ·exact ⟨[],by simp⟩
 ·exact ⟨[x],rfl⟩
theorem aQc (o:List Int) (x:Int):x ∈ addU o x:=by
 unfold addU
 split
 ·assumption
 ·simp
theorem RV:∀ (xs o:List Int),∃ t,rowU o xs = o ++ t
 | [],o => ⟨[],by simp [rowU]⟩
 | x :: xs,o => by
  obtain ⟨t,ht⟩:=aPY o x
  obtain ⟨u,hu⟩:=RV xs (addU o x)
  refine ⟨t ++ u,?_⟩
  show rowU (addU o x) xs = _
  rw [hu,ht,List.append_assoc]
theorem aEr {o t:List Int} {x:Int} (h:x ∈ o):idxU (o ++ t) x = idxU o x:=by
 unfold idxU
 rw [List.idxOf_append,if_pos h]
theorem aSZ {o t:List Int} {x:Int} (h:x ∉ o):idxU (o ++ [x] ++ t) x = o.length:=by
 rw [aEr (by simp)]
 unfold idxU
 rw [List.idxOf_append,if_neg h]
 simp
theorem VT (o xs:List Int) (x:Int):rowU o (x :: xs) = rowU (addU o x) xs:=rfl
theorem aHR:∀ (xs o:List Int) (x:Int),x ∈ xs → x ∈ rowU o xs
 | y :: xs,o,x,h => by
  rw [VT]
  rcases List.mem_cons.1 h with rfl | h
  ·obtain ⟨t,ht⟩:=RV xs (addU o x)
   rw [ht]
   exact List.mem_append_left _ (aQc o x)
  ·exact aHR xs _ x h
theorem aIA {n0:Nat}:∀ (xs o:List Int),o.Nodup → (∀ x ∈ o,0 ≤ x ∧ x < n0) → (∀ x ∈ xs,0 ≤ x ∧ x < n0) → (rowU o xs).Nodup ∧ ∀ x ∈ rowU o xs,0 ≤ x ∧ x < n0
 | [],o,h1,h2,_ => ⟨h1,h2⟩
 | y :: xs,o,h1,h2,h3 => by
  rw [VT]
  refine aIA xs _ ?_ ?_ fun x hx => h3 x (List.mem_cons_of_mem _ hx)
  ·unfold addU
   split
   ·exact h1
   ·rename_i hin
    rw [List.nodup_append]
    refine ⟨h1,by simp,fun x hx z hz => ?_⟩
    simp only [List.mem_singleton] at hz
    subst hz
    rintro rfl
    exact hin hx
  ·intro x hx
   unfold addU at hx
   split at hx
   ·exact h2 x hx
   ·rcases List.mem_append.1 hx with hx | hx
    ·exact h2 x hx
    ·simp only [List.mem_singleton] at hx; subst hx; exact h3 _ List.mem_cons_self
section
variable {nx:Int → Int → Int} {nf:FuncId} {caps:List D} {n0:Nat}
theorem aCi {R:Type} {L n:Nat} (hn:4 ≤ n) (hL:2 ^ 60 ≤ L) (hsz:n0 ≤ 4096) {ls:List Int} (hll:ls.length ≤ 6) {v:Int} {i:Nat}
  (kc_n:∀ {R:Type} {n:Nat} {hq:H} {k:A → H → Option R} (c:Int),3 ≤ n → c ∈ ls → aL env (aA env L n) hq nf (.d (.int .i64 v) :: .d (.int .i64 c) :: caps.map A.d) k = k (.d (.int .i64 (nx v c))) hq)
  (hv:∀ c ∈ ls,0 ≤ nx v c ∧ nx v c < n0) {d:List D} {dl:Nat} {k:Exit → List A → H → Option R}:∀ (j q m:Nat) (o r:List Int) (len rl:Nat) (hq:q + j = ls.length) (hm:j < m) (hlen:len = o.length) (hrl:rl = r.length) (hr:r.length + j ≤ 100) (hnd:o.Nodup) (hrg:∀ x ∈ o,0 ≤ x ∧ x < n0) (hi:i < o.length) (hvo:o.getD i 0 = v),
  aO env (aA env L n) L 0 [0,0,0,0,0,0,0,0,0,0,0,0,0,2,0,2] (Z1 (U2 (U1 (Z4 (U8 (Z16 (U2 (U1 (Z32 (Z8 (Z2 ([])))))))))))) (eW 1) (U1 (Z2 (Z1 (U4 (Z8 (U16 (Z2 (Z1 (U32 (U8 (U2 ([])))))))))))) m (Y1 (.d (.ivs ls.length (ints ls)) :: .d (.int .i64 ((n0:Int))) :: .d (.fn nf caps) :: Y4 (.d .nils :: .d .nils :: .d (.bool false) :: .sl 0 0 0 len :: .mp 1 :: .sl 2 0 0 dl :: .d (.int .i64 ((i:Int))) :: .sl 3 0 0 rl :: Y16 (.d (.ivs ls.length (ints ls)) :: .d (.int .i64 ((ls.length:Int))) :: .d (.int .i64 ((q:Int))) :: Y32 (Y8 (Y2 ([]))))))) [.arr (ints o) 1 0,.mp (numM o),.arr d 1 0,.arr (ints r) 1 0] k
  = k (.exit 2) (Y1 (.d (.ivs ls.length (ints ls)) :: .d (.int .i64 ((n0:Int))) :: .d (.fn nf caps) :: Y4 (.d .nils :: .d .nils :: .d (.bool false) :: .sl 0 0 0 (rowU o ((ls.drop q).map (nx v))).length :: .mp 1 :: .sl 2 0 0 dl :: .d (.int .i64 ((i:Int))) :: .sl 3 0 0 (r ++ ((ls.drop q).map (nx v)).map (idxU (rowU o ((ls.drop q).map (nx v))))).length :: Y16 (.d (.ivs ls.length (ints ls)) :: .d (.int .i64 ((ls.length:Int))) :: .d (.int .i64 ((ls.length:Int))) :: Y32 (Y8 (Y2 ([]))))))) [.arr (ints (rowU o ((ls.drop q).map (nx v)))) 1 0,.mp (numM (rowU o ((ls.drop q).map (nx v)))),.arr d 1 0,.arr (ints (r ++ ((ls.drop q).map (nx v)).map (idxU (rowU o ((ls.drop q).map (nx v)))))) 1 0]:=by
 intro j
 induction j with
 | zero =>
  intro q m o r len rl hq hm hlen hrl hr hnd hrg hi hvo
  obtain _ | m:=m; omega
  obtain rfl:q = ls.length:=by omega
  subst hlen; subst hrl
  rw [List.drop_length]
  simp only [List.map_nil,List.append_nil,rowU,List.foldl_nil]
  rw [rP]
  simp only [qA,Tryz.f47,SLM,simprocAttr]
  simp -implicitDefEqProofs (maxSteps:=2000000) (disch:=try exact Dz) only [↓DN,↓kAsg,↓kRet,UP,simprocAttr,LA,Int.lt_irrefl]
 | succ j ih =>
  intro q m o r len rl hq hm hlen hrl hr hnd hrg hi hvo
  obtain _ | m:=m; omega
  subst hlen; subst hrl
  have hk:q < ls.length:=by omega
  have hc:(q:Int) < ls.length:=by omega
  have hq0:(0:Int) ≤ q:=by omega
  have hio:(i:Int) < o.length:=by omega
  have hi0:(0:Int) ≤ i:=by omega
  have hmem:ls.getD q 0 ∈ ls:=pS hk
  obtain ⟨t0,t1⟩:=hv _ hmem
  have kc_x:=fun {R:Type} {n:Nat} {hq:H} {k:A → H → Option R} (hn:3 ≤ n) => @kc_n R n hq k (ls.getD q 0) hn hmem
  have hol:=iF hnd hrg
  rw [aHo hk,VT]
  obtain ⟨T,hT⟩:=RV ((ls.drop (q + 1)).map (nx v)) (addU o (nx v (ls.getD q 0)))
  have hr100:r.length ≤ 100:=by omega
  by_cases hin:nx v (ls.getD q 0) ∈ o
  ·have hadd:addU o (nx v (ls.getD q 0)) = o:=by unfold addU; rw [if_pos hin]
   rw [hadd] at hT ⊢
   have ih':=ih (q + 1) m o (r ++ [idxU o (nx v (ls.getD q 0))]) o.length (r.length + 1) (by omega) (by omega) rfl (by simp) (by simp; omega) hnd hrg hi hvo
   rw [show ((q + 1:Nat):Int) = (q:Int) + 1 by omega] at ih'
   have he:idxU (rowU o ((ls.drop (q + 1)).map (nx v))) (nx v (ls.getD q 0)) = idxU o (nx v (ls.getD q 0)):=by rw [hT,aEr hin]
   simp only [List.map_cons,he]
   simp only [List.append_assoc,List.singleton_append] at ih'
   clear ih he hT hadd kc_n hv hnd hrg
   generalize rowU o ((ls.drop (q + 1)).map (nx v)) = w at *
   generalize ((ls.drop (q + 1)).map (nx v)).map (idxU w) = w2 at *
   generalize nx v (ls.getD q 0) = x at *
   rw [rP]
   simp only [qA,Tryz.f47,SLM,simprocAttr]
   simp -implicitDefEqProofs (maxSteps:=2000000) (disch:=try exact Dz) only [↓DN,↓kAsg,↓kRet,UP,simprocAttr,LA,hc,hq0,hio,hi0,hvo,Int.toNat_natCast,b9,dQ,↓kc_x,aGG,hin,decide_true,if_true,bX,eU,List.length_append,↓ih']
  ·have hadd:addU o (nx v (ls.getD q 0)) = o ++ [nx v (ls.getD q 0)]:=by unfold addU; rw [if_neg hin]
   rw [hadd] at hT ⊢
   have hnd2:(o ++ [nx v (ls.getD q 0)]).Nodup:=by
    rw [List.nodup_append]
    refine ⟨hnd,by simp,fun x hx y hy => ?_⟩
    simp only [List.mem_singleton] at hy
    subst hy
    rintro rfl
    exact hin hx
   have hrg2:∀ x ∈ o ++ [nx v (ls.getD q 0)],0 ≤ x ∧ x < n0:=by
    intro x hx
    rcases List.mem_append.1 hx with hx | hx
    ·exact hrg x hx
    ·simp only [List.mem_singleton] at hx; subst hx; exact ⟨t0,t1⟩
   have hol2:=iF hnd2 hrg2
   rw [List.length_append] at hol2
   simp only [List.length_cons,List.length_nil,Nat.zero_add] at hol2
   have hlim:¬ ((o.length:Int) = n0):=by omega
   have ih':=ih (q + 1) m (o ++ [nx v (ls.getD q 0)]) (r ++ [(o.length:Int)]) (o.length + 1) (r.length + 1) (by omega) (by omega) (by simp) (by simp) (by simp; omega) hnd2 hrg2 (by simp; omega) (by rw [n9 hi]; exact hvo)
   rw [show ((q + 1:Nat):Int) = (q:Int) + 1 by omega] at ih'
   have he:idxU (rowU (o ++ [nx v (ls.getD q 0)]) ((ls.drop (q + 1)).map (nx v))) (nx v (ls.getD q 0)) = o.length:=by rw [hT,aSZ hin]
   simp only [List.map_cons,he]
   simp only [List.append_assoc,List.singleton_append] at ih'
   clear ih he hT hadd kc_n hv hnd hrg hnd2 hrg2
   generalize rowU (o ++ [nx v (ls.getD q 0)]) ((ls.drop (q + 1)).map (nx v)) = w at *
   generalize ((ls.drop (q + 1)).map (nx v)).map (idxU w) = w2 at *
   generalize nx v (ls.getD q 0) = x at *
   rw [rP]
   simp only [qA,Tryz.f47,SLM,simprocAttr]
   simp -implicitDefEqProofs (maxSteps:=2000000) (disch:=try exact Dz) only [↓DN,↓kAsg,↓kRet,UP,simprocAttr,LA,hc,hq0,hio,hi0,hvo,Int.toNat_natCast,b9,dQ,↓kc_x,aGG,aQM,hin,hlim,decide_false,decide_true,if_false,if_true,bX,eU,List.length_append,↓ih']
theorem aCS {R:Type} {L n:Nat} (hn:4 ≤ n) (hL:2 ^ 60 ≤ L) (hsz:n0 ≤ 4096) {ls:List Int} (hll:ls.length ≤ 6)
  (kc_n:∀ {R:Type} {n:Nat} {hq:H} {k:A → H → Option R} (v c:Int),3 ≤ n → 0 ≤ v → v < n0 → c ∈ ls → aL env (aA env L n) hq nf (.d (.int .i64 v) :: .d (.int .i64 c) :: caps.map A.d) k = k (.d (.int .i64 (nx v c))) hq)
  (hv:∀ v c:Int,0 ≤ v → v < n0 → c ∈ ls → 0 ≤ nx v c ∧ nx v c < n0) {k:Exit → List A → H → Option R}:∀ (j i m:Nat) (o:List Int) (d:List (List Int)) (len dl:Nat) (hi:i ≤ o.length) (hj:n0 < i + j) (hm:j < m) (hlen:len = o.length) (hdl:i = dl) (hd:d = (o.take i).map fun v => (ls.map (nx v)).map (idxU o)) (hcl:∀ v ∈ o.take i,∀ l ∈ ls,nx v l ∈ o) (hnd:o.Nodup) (hrg:∀ x ∈ o,0 ≤ x ∧ x < n0),
  aO env (aA env L n) L 0 [0,0,0,0,0,0,0,0,0,0,0,0,0,2,0,2] (Z1 (U2 (U1 (Z4 (U8 (Z16 (U2 (U1 (Z32 (Z8 (Z2 ([])))))))))))) (eW 0) (U1 (Z2 (Z1 (U4 (Z4 (Z2 (Z1 (U32 (U16 (U8 (U4 (U2 ([]))))))))))))) m (Y1 (.d (.ivs ls.length (ints ls)) :: .d (.int .i64 ((n0:Int))) :: .d (.fn nf caps) :: Y4 (.d .nils :: .d .nils :: .d (.bool false) :: .sl 0 0 0 len :: .mp 1 :: .sl 2 0 0 dl :: .d (.int .i64 ((i:Int))) :: Y32 (Y16 (Y8 (Y4 (Y2 ([])))))))) [.arr (ints o) 1 0,.mp (numM o),.arr (aK d) 1 0] k
  = k (.exit 0) (Y1 (.d (.ivs ls.length (ints ls)) :: .d (.int .i64 ((n0:Int))) :: .d (.fn nf caps) :: Y4 (.d .nils :: .d .nils :: .d (.bool false) :: .sl 0 0 0 (ordB nx ls j i o).length :: .mp 1 :: .sl 2 0 0 (ordB nx ls j i o).length :: .d (.int .i64 (((ordB nx ls j i o).length:Int))) :: Y32 (Y16 (Y8 (Y4 (Y2 ([])))))))) [.arr (ints (ordB nx ls j i o)) 1 0,.mp (numM (ordB nx ls j i o)),.arr (aK ((ordB nx ls j i o).map fun v => (ls.map (nx v)).map (idxU (ordB nx ls j i o)))) 1 0]:=by
 have last:∀ (i m:Nat) (o:List Int) (d:List (List Int)) (len dl:Nat),i = o.length → 0 < m → len = o.length → i = dl → aO env (aA env L n) L 0 [0,0,0,0,0,0,0,0,0,0,0,0,0,2,0,2] (Z1 (U2 (U1 (Z4 (U8 (Z16 (U2 (U1 (Z32 (Z8 (Z2 ([])))))))))))) (eW 0) (U1 (Z2 (Z1 (U4 (Z4 (Z2 (Z1 (U32 (U16 (U8 (U4 (U2 ([]))))))))))))) m (Y1 (.d (.ivs ls.length (ints ls)) :: .d (.int .i64 ((n0:Int))) :: .d (.fn nf caps) :: Y4 (.d .nils :: .d .nils :: .d (.bool false) :: .sl 0 0 0 len :: .mp 1 :: .sl 2 0 0 dl :: .d (.int .i64 ((i:Int))) :: Y32 (Y16 (Y8 (Y4 (Y2 ([])))))))) [.arr (ints o) 1 0,.mp (numM o),.arr (aK d) 1 0] k
  = k (.exit 0) (Y1 (.d (.ivs ls.length (ints ls)) :: .d (.int .i64 ((n0:Int))) :: .d (.fn nf caps) :: Y4 (.d .nils :: .d .nils :: .d (.bool false) :: .sl 0 0 0 o.length :: .mp 1 :: .sl 2 0 0 o.length :: .d (.int .i64 ((o.length:Int))) :: Y32 (Y16 (Y8 (Y4 (Y2 ([])))))))) [.arr (ints o) 1 0,.mp (numM o),.arr (aK d) 1 0]:=by
  intro i m o d len dl hi hm hlen hdl
  obtain _ | m:=m; omega
  subst hdl
  subst hi
  subst hlen
  rw [AB]
  simp only [u3,Tryz.f47,SLM,simprocAttr]
  simp -implicitDefEqProofs (maxSteps:=2000000) (disch:=try exact Dz) only [↓DN,↓kAsg,↓kRet,UP,simprocAttr,LA,Int.lt_irrefl]
 intro j
 induction j with
 | zero =>
  intro i m o d len dl hi hj hm hlen hdl hd hcl hnd hrg
  have:=iF hnd hrg
  omega
 | succ j ih =>
  intro i m o d len dl hi hj hm hlen hdl hd hcl hnd hrg
  unfold ordB
  by_cases hlt:i < o.length
  ·obtain _ | m:=m; omega
   subst hlen
   subst hdl
   rw [if_pos hlt]
   obtain ⟨v0,v1⟩:=hrg _ (pS hlt)
   have hol:=iF hnd hrg
   obtain ⟨T,hT⟩:=RV (ls.map (nx (o.getD i 0))) o
   have hres:=aIA (n0:=n0) (ls.map (nx (o.getD i 0))) o hnd hrg (by
    intro x hx
    obtain ⟨l,hl,rfl⟩:=List.mem_map.1 hx
    exact hv _ l v0 v1 hl)
   have htk:(rowU o (ls.map (nx (o.getD i 0)))).take (i + 1) = o.take i ++ [o.getD i 0]:=by
    rw [hT,List.take_append_of_le_length (by omega),List.take_add_one,List.getElem?_eq_getElem hlt,List.getD_eq_getElem?_getD,List.getElem?_eq_getElem hlt]; rfl
   have hd2:d ++ [(ls.map (nx (o.getD i 0))).map (idxU (rowU o (ls.map (nx (o.getD i 0)))))] = ((rowU o (ls.map (nx (o.getD i 0)))).take (i + 1)).map fun v => (ls.map (nx v)).map (idxU (rowU o (ls.map (nx (o.getD i 0))))):=by
    rw [htk,List.map_append,hd]
    congr 1
    apply List.map_congr_left
    intro v hvm
    apply List.map_congr_left
    intro x hx
    obtain ⟨l,hl,rfl⟩:=List.mem_map.1 hx
    rw [hT,aEr (hcl v hvm l hl)]
   have hcl2:∀ v ∈ (rowU o (ls.map (nx (o.getD i 0)))).take (i + 1),∀ l ∈ ls,nx v l ∈ rowU o (ls.map (nx (o.getD i 0))):=by
    intro v hvm l hl
    rw [htk] at hvm
    rcases List.mem_append.1 hvm with hvm | hvm
    ·rw [hT]; exact List.mem_append_left _ (hcl v hvm l hl)
    ·simp only [List.mem_singleton] at hvm
     subst hvm
     exact aHR _ _ _ (List.mem_map.2 ⟨l,hl,rfl⟩)
   have hge:o.length ≤ (rowU o (ls.map (nx (o.getD i 0)))).length:=by rw [hT]; simp
   have hdlen:d.length = i:=by rw [hd,List.length_map,List.length_take]; omega
   have loop_c:=fun {R:Type} {n:Nat} {k:Exit → List A → H → Option R} (hn:4 ≤ n) => @aCi nx nf caps n0 R L n hn hL hsz ls hll (o.getD i 0) i (fun {R n hq k} c h3 hc => kc_n _ c h3 v0 v1 hc) (fun c hc => hv _ c v0 v1 hc) (aK d) i k ls.length 0 L o [] o.length 0 (by omega) (by omega) rfl rfl (by rw [List.length_nil]; omega) hnd hrg hlt rfl
   rw [List.drop_zero] at loop_c
   have ih':=ih (i + 1) m (rowU o (ls.map (nx (o.getD i 0)))) _ _ (i + 1) (by omega) (by omega) (by omega) rfl rfl hd2 hcl2 hres.1 hres.2
   rw [show ((i + 1:Nat):Int) = (i:Int) + 1 by omega] at ih'
   simp only [Int.natCast_zero,List.nil_append,qL] at loop_c
   have hc:(i:Int) < o.length:=by omega
   have hi0:(0:Int) ≤ i:=by omega
   have hi12:i ≤ 4096:=by omega
   have hw2l:((ls.map (nx (o.getD i 0))).map (idxU (rowU o (ls.map (nx (o.getD i 0)))))).length ≤ 6:=by rw [List.length_map,List.length_map]; exact hll
   clear ih hd hcl hnd hrg last hd2 hcl2 hres htk hT kc_n hv
   generalize (ls.map (nx (o.getD i 0))).map (idxU (rowU o (ls.map (nx (o.getD i 0))))) = w2 at *
   generalize rowU o (ls.map (nx (o.getD i 0))) = w at *
   generalize ordB nx ls j (i + 1) w = z at *
   have ht:(aK d).take i = aK d:=vO (by omega)
   have hwt:(ints w2).take w2.length = ints w2:=by rw [bX (Nat.le_refl _)]
   rw [AB]
   simp only [u3,Tryz.f47,SLM,simprocAttr]
   simp -implicitDefEqProofs (maxSteps:=2000000) (disch:=try exact Dz) only [↓DN,↓kAsg,↓kRet,UP,simprocAttr,LA,hc,hi0,Int.toNat_natCast,b9,dQ,dN,dS,↓loop_c,ht,hwt,M6,↓ih']
  ·rw [if_neg hlt]
   have hio:i = o.length:=by omega
   have hd3:d = o.map fun v => (ls.map (nx v)).map (idxU o):=by rw [hd,hio,List.take_length]
   rw [last i m o d len dl hio (by omega) hlen hdl,hd3]
theorem ZE {L n:Nat} (hn:5 ≤ n) (hL:2 ^ 60 ≤ L) (h0:0 < n0) (hsz:n0 ≤ 4096) {ls:List Int} (hll:ls.length ≤ 6)
  (kc_n:∀ {R:Type} {n:Nat} {hq:H} {k:A → H → Option R} (v c:Int),3 ≤ n → 0 ≤ v → v < n0 → c ∈ ls → aL env (aA env L n) hq nf (.d (.int .i64 v) :: .d (.int .i64 c) :: caps.map A.d) k = k (.d (.int .i64 (nx v c))) hq)
  (hv:∀ v c:Int,0 ≤ v → v < n0 → c ∈ ls → 0 ≤ nx v c ∧ nx v c < n0) :
  aA env L n 47 [.d (.int .i64 0),.d (.ivs ls.length (ints ls)),.d (.int .i64 (n0:Int)),.d (.fn nf caps)] [] = some (.tup [.d (.ivs (ordB nx ls (n0 + 1) 0 [0]).length (ints (ordB nx ls (n0 + 1) 0 [0]))),.d (.ivs (ordB nx ls (n0 + 1) 0 [0]).length (aK ((ordB nx ls (n0 + 1) 0 [0]).map fun v => (ls.map (nx v)).map (idxU (ordB nx ls (n0 + 1) 0 [0]))))),.d (.bool true)],[]):=by
 have loop_c:=fun {R:Type} {n:Nat} {k:Exit → List A → H → Option R} (hn:4 ≤ n) => @aCS nx nf caps n0 R L n hn hL hsz ls hll (fun {R n hq k} => kc_n) hv k (n0 + 1) 0 L [0] [] 1 0 (by omega) (by omega) (by omega) rfl rfl rfl (by intro v hv; cases hv) (by simp) (by intro x hx; simp only [List.mem_singleton] at hx; subst hx; omega)
 have e:ints [0] = [.int .i64 0]:=rfl
 simp only [Int.natCast_zero,UZ,e] at loop_c
 have hdl:((ordB nx ls (n0 + 1) 0 [0]).map fun v => (ls.map (nx v)).map (idxU (ordB nx ls (n0 + 1) 0 [0]))).length = (ordB nx ls (n0 + 1) 0 [0]).length:=List.length_map _
 generalize ((ordB nx ls (n0 + 1) 0 [0]).map fun v => (ls.map (nx v)).map (idxU (ordB nx ls (n0 + 1) 0 [0]))) = d at *
 generalize ordB nx ls (n0 + 1) 0 [0] = w at *
 have e4:(ints w).take w.length = ints w:=by rw [bX (Nat.le_refl _)]
 have e5:(aK d).take w.length = aK d:=vO (by omega)
 have e6:(aK d).length = w.length:=by rw [sA,hdl]
 clear kc_n hv
 obtain _ | n:=n; omega
 rw [ZC]
 simp only [JU,Tryz.f47,SLM,simprocAttr]
 simp -implicitDefEqProofs (maxSteps:=2000000) (disch:=try exact Dz) only [↓DN,↓kAsg,↓kRet,UP,simprocAttr,LA,e4,e5,e6,↓loop_c,↓aJP,aQz,b9,dQ,Nat.le_refl]
end
end
theorem aJq {L n:Nat} (hn:1 ≤ n) {a:Aut} (ha:AOK a) {x c:Int} (x0:0 ≤ x) (x1:x < a.nx.length) (hc0:0 ≤ c) (hc6:c < 6) :
  aA env L n 48 [.d (.int .i64 x),.d (.int .i64 c),.d (tabP a)] [] = some (.d (.int .i64 (goS a x c)),[]):=by
 obtain ⟨sa,wa,a1,a2,a3⟩:=eE ha
 have hla:=sR a.al a.nx
 have hta:=aES (al:=a.al) x0 x1 hc0 hc6
 rw [List.drop_drop] at hta
 unfold goS tabP
 have d1:x.toNat * 6 ≤ a.nx.length * 6:=by omega
 have d3:c.toNat < a.nx.length * 6 - x.toNat * 6:=by omega
 generalize goI a.al a.nx x c = g1 at *
 clear ha sa wa
 obtain _ | n:=n; omega
 rw [aJf]
 simp only [ZS,Tryz.f48,SLM,simprocAttr]
 simp -implicitDefEqProofs (maxSteps:=2000000) (disch:=try exact Dz) only [↓DN,↓kAsg,↓kRet,UP,simprocAttr,hla,hta,x0,x1,d1,d3,u_t6,u_a6,c_a6,MG,Int.toNat_natCast,List.length_drop,List.drop_drop]
theorem aLo {R:Type} {L n:Nat} {hq:H} {k:A → H → Option R} (hn:1 ≤ n) {a:Aut} (ha:AOK a) {x c:Int} (x0:0 ≤ x) (x1:x < a.nx.length) (hc:c ∈ aC a.al) :
  aL env (aA env L n) hq 48 (.d (.int .i64 x) :: .d (.int .i64 c) :: [tabP a].map A.d) k = k (.d (.int .i64 (goS a x c))) hq:=by
 have:=jL c hc
 exact aR rfl (aJq hn ha x0 x1 this.1 (by omega)) rfl (.inl rfl)
theorem aQU {a:Aut} (h:AOK a):((ordA a).map fun v => ((aC a.al).map (goS a v)).map (idxU (ordA a))) = (bL a).nx:=by
 obtain ⟨W,hB⟩:=tO h
 unfold bL
 apply List.map_congr_left
 intro v hv
 obtain ⟨v0,v1⟩:=hB.rng v hv
 rw [YK h v0 v1]
theorem aTz {R:Type} {L n:Nat} {o0 o1 o2 o3 o4:O} {T:H} {k:A → H → Option R} (hn:5 ≤ n) (hL:2 ^ 60 ≤ L) {a:Aut} (ha:AOK a) :
  aL env (aA env L n) (o0 :: o1 :: o2 :: o3 :: o4 :: .box [.d (.ivs a.nx.length (ints (kL a.al a.nx)))] :: T) 47 [.d (.int .i64 0),.d (.ivs (aC a.al).length (ints (aC a.al))),.d (.int .i64 (a.nx.length:Int)),.clo 48 [.ptr 5 0 0]] k
  = k (.tup [.d (.ivs (ordA a).length (ints (ordA a))),.d (.ivs (ordA a).length (aK (bL a).nx)),.d (.bool true)]) (o0 :: o1 :: o2 :: o3 :: o4 :: .ice [.ivs a.nx.length (ints (kL a.al a.nx))] 1 0 :: T):=by
 obtain ⟨sa,wa,a1,a2,a3⟩:=eE ha
 have hev:=@ZE (goS a) 48 [tabP a] a.nx.length L n hn hL (by omega) (by omega) (aC a.al) (eY a.al) (fun {R n hq k} v c h3 v0 v1 hc => aLo (by omega) ha v0 v1 hc) (fun v c h0 h1 hc => aEo ha v c h0 h1 hc)
 have e1:ordB (goS a) (aC a.al) (a.nx.length + 1) 0 [0] = ordA a:=rfl
 rw [e1,aQU ha] at hev
 have hre:aD aE (o0 :: o1 :: o2 :: o3 :: o4 :: O.box [.d (.ivs a.nx.length (ints (kL a.al a.nx)))] :: T) [5] [] = [5]:=by
  have e1:aD aE (o0 :: o1 :: o2 :: o3 :: o4 :: O.box [.d (.ivs a.nx.length (ints (kL a.al a.nx)))] :: T) [5] [] = aD (aE - 1) (o0 :: o1 :: o2 :: o3 :: o4 :: O.box [.d (.ivs a.nx.length (ints (kL a.al a.nx)))] :: T) [] [5]:=rfl
  rw [e1]; rfl
 refine sP t8 (ids:=[5]) (ord:=[5]) (blk:=[.box [.d (.ivs a.nx.length (ints (kL a.al a.nx)))]]) (blk2:=[.ice [.ivs a.nx.length (ints (kL a.al a.nx))] 1 0]) (fs:=[.d (.int .i64 0),.d (.ivs (aC a.al).length (ints (aC a.al))),.d (.int .i64 (a.nx.length:Int)),.d (.fn 48 [tabP a])]) ?_ hre rfl ?_ ?_ hev ?_ (by simp) ?_
 ·rfl
 ·rfl
 ·rfl
 ·rfl
 ·simp [bP,mapO]
theorem ZZ {b:List Bool} {x:Bool}:aH b ++ [.bool x] = aH (b ++ [x]):=by simp [aH]
theorem aJF {R:Type} {L n:Nat} (hn:3 ≤ n) (hL:2 ^ 60 ≤ L) {a:Aut} (ha:AOK a) {o:List Int} (ho:o.length ≤ 12) (hor:∀ x ∈ o,0 ≤ x ∧ x < a.nx.length) {al2:Int} {nxd:D} {k:Exit → List A → H → Option R}:∀ (j i m:Nat) (b:List Bool) (len e:Nat) (hi:i + j = o.length) (hm:j < m) (hb:b = (o.take i).map fun v => a.ac.getD v.toNat false) (hlen:i = len) (he:e = if i = 0 then 0 else 1),
  aO env (aA env L n) L 0 [] (Z1 (U2 (Z4 (U1 (Z16 (Z2 (Z1 (U2 (U1 (Z8 (Z4 (Z2 (Z1 ([])))))))))))))) (FN 0) (U1 (Z2 (U4 (Z1 (U16 (U2 (U1 (Z2 (Z1 (U8 (U4 (U2 (U1 ([])))))))))))))) m (Y1 (.ptr 0 0 0 :: .ptr 1 0 0 :: Y4 (.ptr 2 0 0 :: Y16 (Y2 (Y1 (.d (.ivs o.length (ints o)) :: .d (.int .i64 ((o.length:Int))) :: .d (.int .i64 ((i:Int))) :: Y8 (Y4 (Y2 (Y1 ([])))))))))) [.box [.d (.int .i64 a.al),.d (.ivs a.nx.length (aK a.nx)),.d (.ivs a.ac.length (aH a.ac))],.box [.d (.int .i64 0),.sl 3 0 0 0,.sl 4 0 0 0],.box [.d (.int .i64 al2),.d nxd,.sl 5 0 0 len],.arr [] 0 0,.arr [] 0 0,.arr (aH b) e 0] k
  = k (.exit 0) (Y1 (.ptr 0 0 0 :: .ptr 1 0 0 :: Y4 (.ptr 2 0 0 :: Y16 (Y2 (Y1 (.d (.ivs o.length (ints o)) :: .d (.int .i64 ((o.length:Int))) :: .d (.int .i64 ((o.length:Int))) :: Y8 (Y4 (Y2 (Y1 ([])))))))))) [.box [.d (.int .i64 a.al),.d (.ivs a.nx.length (aK a.nx)),.d (.ivs a.ac.length (aH a.ac))],.box [.d (.int .i64 0),.sl 3 0 0 0,.sl 4 0 0 0],.box [.d (.int .i64 al2),.d nxd,.sl 5 0 0 o.length],.arr [] 0 0,.arr [] 0 0,.arr (aH (o.map fun v => a.ac.getD v.toNat false)) (if o.length = 0 then 0 else 1) 0]:=by
 obtain ⟨sa,wa,a1,a2,a3⟩:=eE ha
 have hal:=sa.1
 intro j
 induction j with
 | zero =>
  intro i m b len e hi hm hb hlen he
  obtain _ | m:=m; omega
  obtain rfl:i = o.length:=by omega
  rw [List.take_length] at hb
  subst hb; subst hlen; subst he
  rw [G6]
  simp only [IL,Tryz.f22,SLM,simprocAttr]
  simp -implicitDefEqProofs (maxSteps:=2000000) (disch:=try exact Dz) only [↓DN,↓kAsg,↓kRet,UP,simprocAttr,↓j2,↓bQ,LA,Int.lt_irrefl]
 | succ j ih =>
  intro i m b len e hi hm hb hlen he
  obtain _ | m:=m; omega
  subst hlen
  have hio:i < o.length:=by omega
  obtain ⟨v0,v1⟩:=hor _ (pS hio)
  have htk:o.take (i + 1) = o.take i ++ [o.getD i 0]:=by
   rw [List.take_add_one,List.getElem?_eq_getElem hio,List.getD_eq_getElem?_getD,List.getElem?_eq_getElem hio]; rfl
  have hbl:b.length = i:=by rw [hb,List.length_map,List.length_take]; omega
  have ih':=ih (i + 1) m (b ++ [a.ac.getD (o.getD i 0).toNat false]) (i + 1) 1 (by omega) (by omega) (by rw [htk,hb,List.map_append]; rfl) rfl (by rw [if_neg (by omega)])
  rw [show ((i + 1:Nat):Int) = (i:Int) + 1 by omega] at ih'
  have hc:(i:Int) < o.length:=by omega
  have hi0:(0:Int) ≤ i:=by omega
  clear ih hor hb htk
  generalize hv:o.getD i 0 = v at *
  have hva2:v < a.ac.length:=by omega
  have ht2:(aH b).take i = aH b:=jF (by omega)
  have hi12:i ≤ 12:=by omega
  by_cases hz:i = 0
  ·obtain rfl:e = 0:=by rw [he,if_pos hz]
   clear he hz
   rw [G6]
   simp only [IL,Tryz.f22,SLM,simprocAttr]
   simp -implicitDefEqProofs (maxSteps:=2000000) (disch:=try exact Dz) only [↓DN,↓kAsg,↓kRet,UP,simprocAttr,↓j2,↓bQ,LA,hc,hi0,hv,v0,v1,hva2,b9,dQ,Int.toNat_natCast,ht2,ZZ,↓ih']
  ·obtain rfl:e = 1:=by rw [he,if_neg hz]
   clear he hz
   rw [G6]
   simp only [IL,Tryz.f22,SLM,simprocAttr]
   simp -implicitDefEqProofs (maxSteps:=2000000) (disch:=try exact Dz) only [↓DN,↓kAsg,↓kRet,UP,simprocAttr,↓j2,↓bQ,LA,hc,hi0,hv,v0,v1,hva2,b9,dQ,Int.toNat_natCast,ht2,ZZ,↓ih']
theorem aOe {L n:Nat} (hn:9 ≤ n) (a:Aut) (ha:AOK a) (hL:2 ^ 60 ≤ L):aA env L n 22 [.agg [.d (.int .i64 a.al),.d (.ivs a.nx.length (aK a.nx)),.d (.ivs a.ac.length (aH a.ac))]] [] = some (.agg [.d (.int .i64 (bL a).al),.d (.ivs (bL a).nx.length (aK (bL a).nx)),.d (.ivs (bL a).ac.length (aH (bL a).ac))],[]):=by
 obtain ⟨sa,wa,a1,a2,a3⟩:=eE ha
 obtain ⟨W,hB⟩:=tO ha
 have hl:=iF hB.nod hB.rng
 have hp:=hB.pos
 have loop_c:=fun {R:Type} {n:Nat} {al2:Int} {nxd:D} {k:Exit → List A → H → Option R} (hn:3 ≤ n) => @aJF R L n hn hL a ha (ordA a) (by omega) hB.rng al2 nxd k (ordA a).length 0 L [] 0 0 (by omega) (by omega) rfl rfl rfl
 have kc_q:=fun {R:Type} {n:Nat} {o0 o1 o2 o3 o4:O} {T:H} {k:A → H → Option R} (hn:5 ≤ n) => @aTz R L n o0 o1 o2 o3 o4 T k hn hL a ha
 simp only [Int.natCast_zero,aE4] at loop_c
 rw [if_neg (by omega)] at loop_c
 have hx1:(bL a).nx.length = (ordA a).length:=List.length_map _
 have hx2:(bL a).ac.length = (ordA a).length:=List.length_map _
 have hx3:(bL a).al = a.al:=rfl
 have e2:((ordA a).map fun v => a.ac.getD v.toNat false) = (bL a).ac:=rfl
 rw [e2] at loop_c
 rw [hx1,hx2,hx3]
 have ht2:(aH (bL a).ac).take (ordA a).length = aH (bL a).ac:=jF (by omega)
 have hb1:(aH (bL a).ac).length = (ordA a).length:=by rw [eF,hx2]
 have hla:=sR a.al a.nx
 clear hB e2
 generalize (bL a).nx = w1 at *
 generalize (bL a).ac = w2 at *
 generalize ordA a = w at *
 obtain _ | n:=n; omega
 rw [aOG]
 simp only [aI6,Tryz.f22,SLM,simprocAttr]
 simp -implicitDefEqProofs (maxSteps:=2000000) (disch:=try exact Dz) only [↓DN,↓kAsg,↓kRet,UP,simprocAttr,↓j2,↓bQ,LA,sa,wa,↓kc_q,↓loop_c,ht2,hb1,hla,dM,Nat.le_refl,Nat.sub_self,List.range'_zero]
theorem aOb {R:Type} {L n:Nat} {hq:H} {k:A → H → Option R} (hn:9 ≤ n) (a:Aut) (ha:AOK a) (hL:2 ^ 60 ≤ L):aL env (aA env L n) hq 22 [.agg [.d (.int .i64 a.al),.d (.ivs a.nx.length (aK a.nx)),.d (.ivs a.ac.length (aH a.ac))]] k = k (.agg [.d (.int .i64 (bL a).al),.d (.ivs (bL a).nx.length (aK (bL a).nx)),.d (.ivs (bL a).ac.length (aH (bL a).ac))]) hq :=
 aR rfl (aOe hn a ha hL) rfl (.inr rfl)
theorem WV {L n:Nat} (hn:10 ≤ n) (a:Aut) (ha:AOK a) (hL:2 ^ 60 ≤ L):aA env L n 9 [.agg [.d (.int .i64 a.al),.d (.ivs a.nx.length (aK a.nx)),.d (.ivs a.ac.length (aH a.ac))]] [] = some (.tup [.agg [.d (.int .i64 (bL a).al),.d (.ivs (bL a).nx.length (aK (bL a).nx)),.d (.ivs (bL a).ac.length (aH (bL a).ac))],.d (.bool true)],[]):=by
 obtain ⟨sa,wa,a1,a2,a3⟩:=eE ha
 have hrl:=sa.1
 have hac:a.ac.length ≤ 4294967296:=by omega
 have kc_t:=fun {R:Type} {n:Nat} {hq:H} {k:A → H → Option R} (hn:9 ≤ n) => @aOb R L n hq k hn a ha hL
 unfold AOK at ha
 generalize bL a = x at *
 obtain _ | n:=n; omega
 rw [W8]
 simp only [HX,Tryz.f9,SLM,simprocAttr]
 simp -implicitDefEqProofs (maxSteps:=2000000) (disch:=try exact Dz) only [↓DN,↓kAsg,↓kRet,UP,simprocAttr,↓bN,↓bO,↓bD,↓bC,↓bB,LA,ha,↓kc_t]
theorem kK {R:Type} {L n:Nat} {hq:H} {k:A → H → Option R} (hn:10 ≤ n) (a:Aut) (ha:AOK a) (hL:2 ^ 60 ≤ L):aL env (aA env L n) hq 9 [.agg [.d (.int .i64 a.al),.d (.ivs a.nx.length (aK a.nx)),.d (.ivs a.ac.length (aH a.ac))]] k = k (.tup [.agg [.d (.int .i64 (bL a).al),.d (.ivs (bL a).nx.length (aK (bL a).nx)),.d (.ivs (bL a).ac.length (aH (bL a).ac))],.d (.bool true)]) hq :=
 aR rfl (WV hn a ha hL) rfl (.inr rfl)
theorem aSH {al q:Int} {rs:List (List Int)} {w:List UInt8} {i:Nat} (h:i < w.length):stGo al rs (w.drop i) q = stGo al rs (w.drop (i + 1)) (goI al rs q (ltr (w.getD i 0))):=by
 rw [dZ h (d:=0)]
 rfl
theorem ZA {R:Type} {L n:Nat} (hn:1 ≤ n) {al:Int} {rs:List (List Int)} {ac:List Bool} {w:List UInt8} (hok:gC al rs ac = true) (hw:tG al w = true) {k:Exit → List A → H → Option R}:∀ (i q:Int) (m:Nat) (h0:0 ≤ i) (hi:i ≤ w.length) (hm:(w.length:Int) - i < m) (hq0:0 ≤ q) (hq1:q < rs.length),
  aO env (aA env L n) L 0 [] (Z1 (U1 (Z2 (U2 (U1 (Z8 (Z4 (Z2 (U2 (Z8 (Z4 ([])))))))))))) (qG 0) (U1 (Z1 (U2 (Z2 (Z1 (U8 (U4 (U2 (Z2 (U8 (U4 ([])))))))))))) m (Y1 (.d (.str w) :: Y2 (.d (.int .i64 0) :: .d (.ivs rs.length (ints (kL al rs))) :: .d (.int .i64 q) :: Y8 (Y4 (Y2 (.d (.int .i64 (w.length)) :: .d (.int .i64 i) :: Y8 (Y4 ([])))))))) [] k
  = k (.exit 0) (Y1 (.d (.str w) :: Y2 (.d (.int .i64 0) :: .d (.ivs rs.length (ints (kL al rs))) :: .d (.int .i64 ((stGo al rs (w.drop i.toNat) q))) :: Y8 (Y4 (Y2 (.d (.int .i64 (w.length)) :: .d (.int .i64 (w.length)) :: Y8 (Y4 ([])))))))) []:=by
 intro i q m h0 hi hm hq0 hq1
 have htl:=sR al rs
 have hlen:=FC hok
 obtain ⟨hal,hwl,hin⟩:=aMQ hw
 obtain ⟨j,hj⟩:∃ j:Nat,(j:Int) = (w.length:Int) - i:=⟨((w.length:Int) - i).toNat,by omega⟩
 induction j generalizing i q m with
 | zero =>
  obtain _ | m:=m; omega
  obtain rfl:i = w.length:=by omega
  rw [DH]
  simp only [y6,Tryz.f11,SLM,simprocAttr]
  simp -implicitDefEqProofs (maxSteps:=2000000) (disch:=try exact Dz) only [↓DN,↓kAsg,↓kRet,UP,simprocAttr,↓bN,↓nZ,↓j2,↓gE,↓bO,↓bD,↓bC,↓bB,LA,Int.lt_irrefl]
  simp only [Int.toNat_natCast,List.drop_length,stGo,List.foldl_nil]
 | succ j ih =>
  obtain _ | m:=m; omega
  have hc:i < w.length:=by omega
  have hk:i.toNat < w.length:=by omega
  have hb:w.getD i.toNat 0 ∈ w:=by rw [List.getD_eq_getElem?_getD,List.getElem?_eq_getElem hk]; exact List.getElem_mem hk
  obtain ⟨hb1,hb2⟩:=hin _ hb
  have hl6:=aQi.1 hb1
  have hg:=aQm hok hq0 hq1 hl6.1 hl6.2
  have e1:(i + 1).toNat = i.toNat + 1:=by omega
  have ih':=ih (i + 1) (goI al rs q (ltr (w.getD i.toNat 0))) m (by omega) (by omega) (by omega) hg.1 hg.2 (by omega)
  have hb3:uO (ltr (w.getD i.toNat 0)) = true:=hb1
  have hl0:=hl6.1
  have hl1:=hl6.2
  have hcl:(ltr (w.getD i.toNat 0)).toNat ≤ (List.drop (q.toNat * 6) (ints (kL al rs))).length:=by rw [List.length_drop,dM,htl]; omega
  rw [aSH hk,← e1]
  clear ih hg hl6 hb hin hw hok
  rw [DH]
  simp only [y6,Tryz.f11,SLM,simprocAttr]
  simp -implicitDefEqProofs (maxSteps:=2000000) (disch:=try exact Dz) only [↓DN,↓kAsg,↓kRet,UP,simprocAttr,↓bN,↓nZ,↓j2,↓gE,↓bO,↓bD,↓bC,↓bB,LA,hc,hb3,b9,dQ,u_t6,u_a6,c_a6,MG,aES,htl,bX,dM,if_true,↓ih']
theorem M4 {L n:Nat} (hn:5 ≤ n) (al:Int) (rs:List (List Int)) (ac:List Bool) (w:List UInt8) (hs:a8 rs) (ha:ac.length ≤ 4294967296) (hwl:w.length ≤ 4294967295) (hL:2 ^ 60 ≤ L):aA env L n 11 [.agg [.d (.int .i64 al),.d (.ivs rs.length (aK rs)),.d (.ivs ac.length (aH ac))],.d (.str w)] [] = some (.d (.int .i64 (nG al rs ac w)),[]):=by
 have hl:=hs.1
 unfold nG
 cases hv:gC al rs ac with
 | false =>
  obtain _ | n:=n; omega
  rw [B0]
  simp only [vX,Tryz.f11,SLM,simprocAttr]
  simp -implicitDefEqProofs (maxSteps:=2000000) (disch:=try exact Dz) only [↓DN,↓kAsg,↓kRet,UP,simprocAttr,↓bN,↓nZ,↓j2,↓gE,↓bO,↓bD,↓bC,↓bB,LA,hv,Bool.false_and,Bool.false_eq_true,if_false]
 | true =>
  cases hw:tG al w with
  | false =>
   obtain _ | n:=n; omega
   rw [B0]
   simp only [vX,Tryz.f11,SLM,simprocAttr]
   simp -implicitDefEqProofs (maxSteps:=2000000) (disch:=try exact Dz) only [↓DN,↓kAsg,↓kRet,UP,simprocAttr,↓bN,↓nZ,↓j2,↓gE,↓bO,↓bD,↓bC,↓bB,LA,hv,hw,Bool.and_false,Bool.false_eq_true,if_false]
  | true =>
   have hwd:=II hv
   have hlen:=FC hv
   have loop_a:=fun {R:Type} {n:Nat} (hn:1 ≤ n) {k:Exit → List A → H → Option R} => ZA (R:=R) (L:=L) (n:=n) hn (k:=k) hv hw 0 0 L (by omega) (by omega) (by omega) (by omega) (by omega)
   simp only [Int.toNat_zero,List.drop_zero] at loop_a
   obtain _ | n:=n; omega
   rw [B0]
   simp only [vX,Tryz.f11,SLM,simprocAttr]
   simp -implicitDefEqProofs (maxSteps:=2000000) (disch:=try exact Dz) only [↓DN,↓kAsg,↓kRet,UP,simprocAttr,↓bN,↓nZ,↓j2,↓gE,↓bO,↓bD,↓bC,↓bB,LA,hv,hw,Bool.and_self,if_true,↓loop_a]
theorem pY {R:Type} {L n:Nat} {hq:H} {k:A → H → Option R} (hn:5 ≤ n) (al:Int) (rs:List (List Int)) (ac:List Bool) (w:List UInt8) (hs:a8 rs) (ha:ac.length ≤ 4294967296) (hwl:w.length ≤ 4294967295) (hL:2 ^ 60 ≤ L):aL env (aA env L n) hq 11 [.agg [.d (.int .i64 al),.d (.ivs rs.length (aK rs)),.d (.ivs ac.length (aH ac))],.d (.str w)] k = k (.d (.int .i64 (nG al rs ac w))) hq :=
 aR rfl (M4 hn al rs ac w hs ha hwl hL) rfl (.inl rfl)
theorem n8 {R:Type} {L n:Nat} {k:A → Option R} (hn:5 ≤ n) (al:Int) (rs:List (List Int)) (ac:List Bool) (w:List UInt8) (hs:a8 rs) (ha:ac.length ≤ 4294967296) (hwl:w.length ≤ 4294967295) (hL:2 ^ 60 ≤ L):bK (aA env L n) 11 [.agg [.d (.int .i64 al),.d (.ivs rs.length (aK rs)),.d (.ivs ac.length (aH ac))],.d (.str w)] k = k (.d (.int .i64 (nG al rs ac w))) :=
 fM (M4 hn al rs ac w hs ha hwl hL) rfl
theorem lU {R:Type} {L n:Nat} {hq:H} {k:A → H → Option R} {id0 g0 o0 len0:Nat} {al:Int} {ac:List Bool} {w:List UInt8}:aL env (aA env L n) hq 11 [.agg [.d (.int .i64 al),.sl id0 g0 o0 len0,.d (.ivs ac.length (aH ac))],.d (.str w)] k = match box (dA hq [.agg [.d (.int .i64 al),.sl id0 g0 o0 len0,.d (.ivs ac.length (aH ac))],.d (.str w)]) with
  | .mk (some fs) => bK (aA env L n) 11 fs fun r => k r hq
  | _ => none:=aU oI
theorem lZ {R:Type} {L n:Nat} {hq:H} {k:A → H → Option R} {id1 g1 o1 len1:Nat} {al:Int} {rs:List (List Int)} {w:List UInt8}:aL env (aA env L n) hq 11 [.agg [.d (.int .i64 al),.d (.ivs rs.length (aK rs)),.sl id1 g1 o1 len1],.d (.str w)] k = match box (dA hq [.agg [.d (.int .i64 al),.d (.ivs rs.length (aK rs)),.sl id1 g1 o1 len1],.d (.str w)]) with
  | .mk (some fs) => bK (aA env L n) 11 fs fun r => k r hq
  | _ => none:=aU oI
theorem lR {R:Type} {L n:Nat} {hq:H} {k:A → H → Option R} {id1 g1 o1 len1:Nat} {id0 g0 o0 len0:Nat} {al:Int} {w:List UInt8}:aL env (aA env L n) hq 11 [.agg [.d (.int .i64 al),.sl id0 g0 o0 len0,.sl id1 g1 o1 len1],.d (.str w)] k = match box (dA hq [.agg [.d (.int .i64 al),.sl id0 g0 o0 len0,.sl id1 g1 o1 len1],.d (.str w)]) with
  | .mk (some fs) => bK (aA env L n) 11 fs fun r => k r hq
  | _ => none:=aU oI
theorem aCP {L n:Nat} (hn:6 ≤ n) (v w:List UInt8) (hv:v.length ≤ 4294967295) (hw:w.length ≤ 4294967295) (hL:2 ^ 60 ≤ L):aA env L n 12 [.d (.str v),.d (.str w)] [] = some (.d (.bool (rJ v && rJ w && decide (cmpX v w < 0))),[]):=by
 cases h1:rJ v with
 | false =>
  obtain _ | n:=n; omega
  rw [BG]
  simp only [v8,Tryz.f12,SLM,simprocAttr]
  simp -implicitDefEqProofs (maxSteps:=2000000) (disch:=try exact Dz) only [↓DN,↓kAsg,↓kRet,UP,simprocAttr,↓D6,↓mC,h1,Bool.false_and]
 | true =>
  cases h2:rJ w with
  | false =>
   obtain _ | n:=n; omega
   rw [BG]
   simp only [v8,Tryz.f12,SLM,simprocAttr]
   simp -implicitDefEqProofs (maxSteps:=2000000) (disch:=try exact Dz) only [↓DN,↓kAsg,↓kRet,UP,simprocAttr,↓D6,↓mC,h1,h2,Bool.and_false,Bool.false_and]
  | true =>
   obtain _ | n:=n; omega
   rw [BG]
   simp only [v8,Tryz.f12,SLM,simprocAttr]
   simp -implicitDefEqProofs (maxSteps:=2000000) (disch:=try exact Dz) only [↓DN,↓kAsg,↓kRet,UP,simprocAttr,↓D6,↓mC,h1,h2,Bool.true_and]
theorem nX {R:Type} {L n:Nat} {hq:H} {k:A → H → Option R} (hn:6 ≤ n) (v w:List UInt8) (hv:v.length ≤ 4294967295) (hw:w.length ≤ 4294967295) (hL:2 ^ 60 ≤ L):aL env (aA env L n) hq 12 [.d (.str v),.d (.str w)] k = k (.d (.bool (rJ v && rJ w && decide (cmpX v w < 0)))) hq :=
 aR rfl (aCP hn v w hv hw hL) rfl (.inl rfl)
theorem YW {R:Type} {L n:Nat} (hn:12 ≤ n) (hL:2 ^ 60 ≤ L) {a:Aut} (ha:AOK a) {l:List Str} (hok:CovOK a l) {k:Exit → List A → H → Option R} {t1:Int} {t2 t3:D}:∀ (j i m:Nat) (hi:i + j = l.length) (hm:j < m),
  aO env (aA env L n) L 0 [] (Z2 (U4 (Z1 (U1 (Z32 (Z32 (Z16 (Z8 (Z1 ([])))))))))) (qI 0) (U2 (Z4 (U1 (Z1 (U32 (U32 (U16 (U8 (U1 ([])))))))))) m (Y2 (.d (.bool false) :: .ptr 0 0 0 :: .sl 1 0 0 l.length :: .ptr 2 0 0 :: Y1 (.d (.int .i64 ((i:Int))) :: Y32 (Y32 (Y16 (Y8 (Y1 ([])))))))) [.box [.d (.int .i64 a.al),.d (.ivs a.nx.length (aK a.nx)),.d (.ivs a.ac.length (aH a.ac))],.arr (cR l) 1 0,.box [.d (.int .i64 t1),.d t2,.d t3]] k
  = k (.exit 0) (Y2 (.d (.bool false) :: .ptr 0 0 0 :: .sl 1 0 0 l.length :: .ptr 2 0 0 :: Y1 (.d (.int .i64 ((l.length:Int))) :: Y32 (Y32 (Y16 (Y8 (Y1 ([])))))))) [.box [.d (.int .i64 a.al),.d (.ivs a.nx.length (aK a.nx)),.d (.ivs a.ac.length (aH a.ac))],.arr (cR l) 1 0,.box [.d (.int .i64 t1),.d t2,.d t3]]:=by
 obtain ⟨sa,wa,a1,a2,a3⟩:=eE ha
 have hac:a.ac.length ≤ 4294967296:=by omega
 have hlb:=hok.big
 intro j
 induction j with
 | zero =>
  intro i m hi hm
  obtain _ | m:=m; omega
  obtain rfl:i = l.length:=by omega
  rw [t7]
  simp only [s8,Tryz.f3,SLM,simprocAttr]
  simp -implicitDefEqProofs (maxSteps:=2000000) (disch:=try exact Dz) only [↓DN,↓kAsg,↓kRet,UP,simprocAttr,↓nV,↓sB,↓bN,↓kK,↓pY,↓iJ,↓nX,↓rI,↓bO,↓n8,↓fJ,↓o6,↓oZ,↓oY,↓bD,↓bC,↓bB,↓lU,↓lZ,↓lR,↓eH,↓eI,↓eG,LA,SE,Int.lt_irrefl]
 | succ j ih =>
  intro i m hi hm
  obtain _ | m:=m; omega
  have hc:(i:Int) < l.length:=by omega
  have hk:i < l.length:=by omega
  have hi0:(0:Int) ≤ i:=by omega
  obtain ⟨u,hu,hacc⟩:=hok.acc i hk
  have h1:=hok.ok i hk
  have h2:=hok.short i hk
  have kc_s:=fun {R:Type} {n:Nat} {hq:H} {k:A → H → Option R} (hn:5 ≤ n) => @pY R L n hq k hn a.al a.nx a.ac (l.getD i []) sa hac h2 hL
  have kc_a:=fun {R:Type} {n:Nat} {hq:H} {k:A → H → Option R} (hn:9 ≤ n) => @iJ R L n hq k hn a (nG a.al a.nx a.ac (l.getD i [])) sa hac hL
  rw [hacc,hu] at kc_a
  have ih':=ih (i + 1) m (by omega) (by omega)
  rw [show ((i + 1:Nat):Int) = (i:Int) + 1 by omega] at ih'
  by_cases hz:i = 0
  ·have hz2:¬ ((0:Int) < i):=by omega
   clear ih hok hacc hu
   generalize hw:l.getD i [] = w at *
   generalize nG a.al a.nx a.ac w = st at *
   rw [t7]
   simp only [s8,Tryz.f3,SLM,simprocAttr]
   simp -implicitDefEqProofs (maxSteps:=2000000) (disch:=try exact Dz) only [↓DN,↓kAsg,↓kRet,UP,simprocAttr,↓nV,↓sB,↓bN,↓kK,↓nX,↓rI,↓bO,↓n8,↓fJ,↓o6,↓oZ,↓oY,↓bD,↓bC,↓bB,↓lU,↓lZ,↓lR,↓eH,↓eI,↓eG,LA,SE,hc,hi0,hz2,hw,Nat.sub_self,List.range'_zero,↓kc_s,↓kc_a,bne_self_eq_false,beq_self_eq_true,Bool.not_true,Int.toNat_natCast,↓ih']
  ·have hz2:(0:Int) < i:=by omega
   have hb0:(0:Int) ≤ (i:Int) - 1:=by omega
   have hb1:(i:Int) - 1 < l.length:=by omega
   have e1:((i:Int) - 1).toNat = i - 1:=by omega
   have h3:=hok.ok (i - 1) (by omega)
   have h4:=hok.short (i - 1) (by omega)
   have h5:=hok.asc (i - 1) (by omega)
   rw [show i - 1 + 1 = i by omega] at h5
   have kc_w:=fun {R:Type} {n:Nat} {hq:H} {k:A → H → Option R} (hn:6 ≤ n) => @nX R L n hq k hn (l.getD (i - 1) []) (l.getD i []) h4 h2 hL
   rw [h3,h1,decide_eq_true h5] at kc_w
   simp only [Bool.and_self] at kc_w
   clear ih hok hacc hu h5
   generalize hw:l.getD i [] = w at *
   generalize hw0:l.getD (i - 1) [] = w0 at *
   generalize nG a.al a.nx a.ac w = st at *
   rw [t7]
   simp only [s8,Tryz.f3,SLM,simprocAttr]
   simp -implicitDefEqProofs (maxSteps:=2000000) (disch:=try exact Dz) only [↓DN,↓kAsg,↓kRet,UP,simprocAttr,↓nV,↓sB,↓bN,↓kK,↓rI,↓bO,↓n8,↓fJ,↓o6,↓oZ,↓oY,↓bD,↓bC,↓bB,↓lU,↓lZ,↓lR,↓eH,↓eI,↓eG,LA,SE,hc,hi0,hz2,hb0,hb1,e1,hw,hw0,Nat.sub_self,List.range'_zero,↓kc_s,↓kc_a,↓kc_w,bne_self_eq_false,beq_self_eq_true,Bool.not_true,Int.toNat_natCast,↓ih']
theorem aBK {L n:Nat} (hn:30 ≤ n) (c:List UInt8) (hL:2 ^ 60 ≤ L):aA env L n 3 [.d (.ivs c.length (bT c))] [] = some (.d (.bool true),[]):=by
 by_cases hsz:(1048576:Int) < c.length
 ·obtain _ | n:=n; omega
  rw [CO]
  simp only [vV,Tryz.f3,SLM,simprocAttr]
  simp -implicitDefEqProofs (maxSteps:=2000000) (disch:=try exact Dz) only [↓DN,↓kAsg,↓kRet,UP,simprocAttr,↓nV,↓sB,↓bN,↓kK,↓pY,↓iJ,↓nX,↓rI,↓bO,↓n8,↓fJ,↓o6,↓oZ,↓oY,↓bD,↓bC,↓bB,↓lU,↓lZ,↓lR,↓eH,↓eI,↓eG,hsz]
 ·obtain ⟨al,nx,ac,b,kd⟩:=YY c (by omega)
  have hs:=b.short (by omega)
  have ha:=b.a
  have ha2:ac.length ≤ 4294967296:=by omega
  have hrl:=hs.1
  unfold autD at kd
  cases hv:gC al nx ac with
  | false =>
   have kc_1:=fun {R:Type} {n:Nat} {hq:H} {k:A → H → Option R} (hn:10 ≤ n) => aGP (h:=hq) (k:=k) rfl rE (WA (L:=L) hn ⟨al,nx,ac⟩ hv hs ha2 hL)
   have kc_2:=fun {R:Type} {n:Nat} {hq:H} {k:A → H → Option R} (hn:13 ≤ n) => @nV R L n hq k hn ⟨al,nx,ac⟩ hs ha2 hL
   have hr:BU ⟨al,nx,ac⟩ = []:=by unfold BU; rw [hv]; rfl
   have kc_3:=fun {R:Type} {n:Nat} {hq:H} {k:A → H → Option R} (hn:2 ≤ n) => @sB R L n hq k hn [] (by simp) hL
   have es:cR [] = []:=rfl
   rw [hr] at kc_2
   simp only [List.length_nil,es] at kc_2 kc_3
   obtain _ | n:=n; omega
   rw [CO]
   simp only [vV,Tryz.f3,SLM,simprocAttr]
   simp -implicitDefEqProofs (maxSteps:=2000000) (disch:=try exact Dz) only [↓DN,↓kAsg,↓kRet,UP,simprocAttr,↓bN,↓kK,↓pY,↓iJ,↓nX,↓rI,↓bO,↓n8,↓fJ,↓o6,↓oZ,↓oY,↓bD,↓bC,↓bB,↓lU,↓lZ,↓lR,↓eH,↓eI,↓eG,LA,SE,hsz,hv,↓kd,↓kc_1,↓kc_2,↓kc_3]
  | true =>
   have hok:AOK ⟨al,nx,ac⟩:=hv
   have kc_1:=fun {R:Type} {n:Nat} {hq:H} {k:A → H → Option R} (hn:10 ≤ n) => aJK (h:=hq) (k:=k) rfl rE (aDj (L:=L) hn ⟨al,nx,ac⟩ hok hL)
   have kc_2:=fun {R:Type} {n:Nat} {hq:H} {k:A → H → Option R} (hn:13 ≤ n) => @nV R L n hq k hn ⟨al,nx,ac⟩ hs ha2 hL
   have kc_t:=fun {R:Type} {n:Nat} {hq:H} {k:A → H → Option R} (hn:10 ≤ n) => @kK R L n hq k hn ⟨al,nx,ac⟩ hok hL
   have hr:BU ⟨al,nx,ac⟩ = qD ⟨al,nx,ac⟩:=by unfold BU; rw [hv]; rfl
   have hso:=aPP hok
   have hln:=RA hok
   rw [hr] at kc_2
   generalize qD ⟨al,nx,ac⟩ = l at *
   have loop_a:=fun {R:Type} {n:Nat} {t1:Int} {t2 t3:D} {k:Exit → List A → H → Option R} (hn:12 ≤ n) => @YW R L n hn hL ⟨al,nx,ac⟩ hok l hso k t1 t2 t3 l.length 0 L (by omega) (by omega)
   simp only [Int.natCast_zero] at loop_a
   have hl1:(bL ⟨al,nx,ac⟩).nx.length = l.length:=hso.len.symm
   have hf:=hso.first
   have hl0:(0:Int) < l.length:=by omega
   have hf2:(List.map A.d (cR l)).head? = some (.d (.str [])):=by
    cases l with
    | nil => simp at hl0
    | cons s l => simp at hf; subst hf; rfl
   rw [hl1] at kc_t
   clear hso hl1
   generalize bL ⟨al,nx,ac⟩ = x at *
   obtain _ | n:=n; omega
   rw [CO]
   simp only [vV,Tryz.f3,SLM,simprocAttr]
   simp -implicitDefEqProofs (maxSteps:=2000000) (disch:=try exact Dz) only [↓DN,↓kAsg,↓kRet,UP,simprocAttr,↓sB,↓bN,↓pY,↓iJ,↓nX,↓rI,↓bO,↓n8,↓fJ,↓o6,↓oZ,↓oY,↓bD,↓bC,↓bB,↓lU,↓lZ,↓lR,↓eH,↓eI,↓eG,LA,SE,hsz,hv,hl0,hf,hf2,↓kd,↓kc_1,↓kc_2,↓kc_t,↓loop_a,beq_self_eq_true]
end Ev
end Go.Proofs.YtppdfjdfjfoddaaGreat
