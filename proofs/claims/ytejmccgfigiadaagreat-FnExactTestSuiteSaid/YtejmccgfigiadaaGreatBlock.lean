/-
  Automata in memory, as blocks: laid, read, written. Calls that are told of memory no more than that.
-/
import Derived.Test.YtejmccgfigiadaaGreatAutoL
set_option linter.unusedSimpArgs false
set_option linter.unusedVariables false
namespace Go.Proofs.YtejmccgfigiadaaGreat
namespace Ev
def autO (b:Nat) (rs:List (List Int)) (ac:List Bool):H:=.vec (aQ (b + 2) rs ++ aZ 0) 1 0 :: .arr (bools ac) 1 0 :: a6 rs
def autA (v:Nat) (al:Int) (n m:Nat):A:=.agg [nI al,.sl v 0 0 n,.sl (v + 1) 0 0 m]
def autD (al:Int) (rs:List (List Int)) (ac:List Bool):A:=.agg [nI al,.d (.ivs rs.length (rowsD rs)),.d (.ivs ac.length (bools ac))]
structure Has (h:H) (v:Nat) (rs:List (List Int)) (ac:List Bool):Prop where
 vec:h[v]? = some (.vec (aQ (v + 2) rs ++ aZ 0) 1 0)
 acc:h[v + 1]? = some (.arr (bools ac) 1 0)
 row:∀ (i:Nat) (r:List Int),rs[i]? = some r → h[v + 2 + i]? = some (.arr (ints r) 1 0)
theorem xQ {b:Nat} {rs:List (List Int)} {ac:List Bool}:(autO b rs ac).length = rs.length + 2:=by simp [autO,cB]
theorem CF {h:H} {rs:List (List Int)} {ac:List Bool}:Has (h ++ autO h.length rs ac) h.length rs ac:=by
 refine ⟨by simp [autO],by simp [autO],fun i r hr => ?_⟩
 rw [List.getElem?_append_right (by omega),show h.length + 2 + i - h.length = i + 1 + 1 by omega]
 simp only [autO,List.getElem?_cons_succ]
 exact qM hr
theorem T1 {h h2:H} {v:Nat} {rs:List (List Int)} {ac:List Bool} (k:Has h v rs ac):Has (h ++ h2) v rs ac :=
 ⟨by rw [List.getElem?_append_left (oW k.vec)]; exact k.vec,by rw [List.getElem?_append_left (oW k.acc)]; exact k.acc,
  fun i r hr => by rw [List.getElem?_append_left (oW (k.row i r hr))]; exact k.row i r hr⟩
theorem aZm {h:H} {b:Nat} {r:List Int} (hr:h[b]? = some (.arr (ints r) 1 0)):rd0 h (.sl b 0 0 r.length) = some (rowD r):=by
 simp only [rd0,hr,true_and,Nat.zero_add,Nat.mul_one,eE,Nat.le_refl,if_true,List.drop_zero,cQ,rowD]
theorem aPA {h:H}:∀ {rs:List (List Int)} {b:Nat},(∀ (i:Nat) (r:List Int),rs[i]? = some r → h[b + i]? = some (.arr (ints r) 1 0)) → fF (rd0 h) (aQ b rs) = some (rowsD rs)
 | [],b,_ => rfl
 | r :: rs,b,hh => by
  have h0:=hh 0 r rfl
  simp only [Nat.add_zero] at h0
  simp only [aQ,fF,aZm h0,aPA (rs:=rs) (b:=b + 1) fun i q hq => by
   rw [show b + 1 + i = b + (i + 1) by omega]; exact hh (i + 1) q (by simpa using hq)]
  rfl
theorem aYY {h:H} {v:Nat} {rs:List (List Int)} {ac:List Bool} (k:Has h v rs ac):rd1 h (.sl v 0 0 rs.length) = some (.ivs rs.length (rowsD rs)):=by
 have hl:0 + rs.length * 1 ≤ (aQ (v + 2) rs ++ aZ 0).length:=by rw [List.length_append,I9]; omega
 have hn:aZ 0 = []:=rfl
 simp only [rd1,k.vec]
 rw [if_pos ⟨trivial,hl⟩]
 simp only [hn,List.append_nil,aPA k.row,Option.map_some,List.drop_zero,Nat.mul_one,I5 (Nat.le_refl _)]
theorem aYV {h:H} {v:Nat} {rs:List (List Int)} {ac:List Bool} (k:Has h v rs ac):rd1 h (.sl (v + 1) 0 0 ac.length) = some (.ivs ac.length (bools ac)):=by
 have hl:0 + ac.length * 1 ≤ (bools ac).length:=by rw [sU]; omega
 simp only [rd1,rd0,k.acc]
 rw [if_pos ⟨trivial,hl⟩]
 simp only [List.drop_zero,Nat.mul_one,E7 (Nat.le_refl _)]
theorem CZ {h:H} {v:Nat} {al:Int} {rs:List (List Int)} {ac:List Bool} (k:Has h v rs ac):rdA h (autA v al rs.length ac.length) = some (autD al rs ac):=by
 simp only [rdA,autA,fF,rd1,rd0] 
 have e1:=aYY k
 have e2:=aYV k
 simp only [rd1,rd0] at e1 e2
 simp only [e1,e2,Option.map_some,List.map_cons,List.map_nil,autD]
theorem oP {h:H} {x:D}:rdA h (.d x) = some (.d x):=rfl
theorem l7:∀ (h h2:H),wgt (h ++ h2) = wgt h + wgt h2
 | [],h2 => by simp [wgt]
 | o :: h,h2 => by cases o <;> simp [wgt,l7 h h2] <;> omega
theorem aV2 (rs:List (List Int)):wgt (a6 rs) = 0:=by
 induction rs with
 | nil => rfl
 | cons r rs ih => simpa [a6,wgt] using ih
theorem CB {b:Nat} {rs:List (List Int)} {ac:List Bool}:wgt (autO b rs ac) = rs.length:=by
 simp [autO,wgt,aV2,kN,kZ,mE]
def aZw (h h':H):Prop:=h'.length = h.length ∧ ∀ i,(kids h' i).length ≤ (kids h i).length
theorem aLJ {f g:Nat → Nat} (hfg:∀ i,f i ≤ g i):∀ l:List Nat,l.foldr (fun i n => f i + n) 0 ≤ l.foldr (fun i n => g i + n) 0
 | [] => Nat.le_refl _
 | a :: l => by simp only [List.foldr_cons]; have:=aLJ hfg l; have:=hfg a; omega
theorem aI9 {h h':H} (k:aZw h h'):wgt h' ≤ wgt h:=by
 rw [aMO,aMO,k.1]
 exact aLJ k.2 _
mutual
theorem aOa {f:Nat → Option Nat}:∀ a:A,(idsA (mapA f a)).length ≤ (idsA a).length
 | .d x => by simp [mapA,idsA]
 | .sl id gen off len => by
  simp only [mapA]
  cases f id <;> simp [idsA]
 | .ptr id gen off => by
  simp only [mapA]
  cases f id <;> simp [idsA]
 | .mp id => by
  simp only [mapA]
  cases f id <;> simp [idsA]
 | .clo g caps => by simpa only [mapA,idsA] using zU caps
 | .agg cs => by simpa only [mapA,idsA] using zU cs
 | .tup cs => by simpa only [mapA,idsA] using zU cs
 | .junk => by simp [mapA,idsA]
theorem zU {f:Nat → Option Nat}:∀ xs:List A,(idsL (aP f xs)).length ≤ (idsL xs).length
 | [] => by simp [aP,idsL]
 | a :: xs => by
  have h1:=aOa (f:=f) a
  have h2:=zU (f:=f) xs
  simp only [aP,idsL,List.length_append]
  omega
end
def kJ:O → List Nat
 | .box cs => idsL cs
 | .vec cs _ _ => idsL cs
 | _ => []
theorem M9 (h:H) (i:Nat):kids h i = match h[i]? with | some o => kJ o | none => []:=by
 unfold kids kJ
 cases h[i]? with
 | none => rfl
 | some o => cases o <;> rfl
theorem NR (f:Nat → Option Nat) (o:O):(kJ (mapO f o)).length ≤ (kJ o).length:=by
 cases o <;> simp [kJ,mapO,zU]
section
variable {h:H} {v:Nat} {rs:List (List Int)} {ac:List Bool}
theorem aV4 (k:Has h v rs ac):kids h v = List.range' (v + 2) rs.length:=by
 simp only [kids,k.vec,kN,kZ,mE,List.append_nil]
theorem aER (k:Has h v rs ac) {i:Nat} (hi:i ∈ List.range' (v + 2) rs.length):∃ r:List Int,h[i]? = some (.arr (ints r) 1 0):=by
 simp only [List.mem_range'_1] at hi
 obtain ⟨j,rfl⟩:∃ j,i = v + 2 + j:=⟨i - (v + 2),by omega⟩
 exact ⟨rs[j]'(by omega),k.row j _ (List.getElem?_eq_getElem (by omega))⟩
theorem WE:[v,v + 1] ++ List.range' (v + 2) rs.length = List.range' v (rs.length + 2):=by
 rw [List.range'_succ,List.range'_succ]
 rfl
theorem aA8 (k:Has h v rs ac) (hl:rs.length ≤ 4294967296):aD aI h [v,v + 1] [] = List.range' v (rs.length + 2):=by
 rw [← WE]
 have k1:kids h (v + 1) = []:=by simp only [kids,k.acc]
 refine JW (P:=[v,v + 1]) (T:=List.range' (v + 2) rs.length) ?_ ?_ ?_ ?_ ?_ ?_
 ·simp [aV4 k,k1]
 ·intro i hi
  obtain ⟨r,hr⟩:=aER k hi
  simp only [kids,hr]
 ·intro j hj
  simp at hj
  simp only [List.length_cons,List.length_nil]
  omega
 ·rw [WE]; exact List.nodup_range'
 ·intro i hi
  simp only [List.cons_append,List.nil_append,List.mem_cons] at hi
  rcases hi with rfl | rfl | hi
  ·exact ⟨_,k.vec,by simp⟩
  ·exact ⟨_,k.acc,by simp⟩
  ·obtain ⟨r,hr⟩:=aER k hi
   exact ⟨_,hr,by simp⟩
 ·simp only [List.length_append,List.length_cons,List.length_nil,List.length_range',aI]; omega
theorem QE {n i:Nat} (hi:i < n):aH (List.range' v n) (v + i) = some i:=zW _ _ _ hi
theorem HA {f:Nat → Option Nat} {b d:Nat} (hf:∀ i,i < rs.length → f (b + i) = some (d + i)):mapO f (.vec (aQ b rs ++ aZ 0) 1 0) = .vec (aQ d rs ++ aZ 0) 1 0:=by
 have hn:aZ 0 = []:=rfl
 simp only [mapO,hn,List.append_nil,R6 (c:=0) hf]
theorem aU7 (k:Has h v rs ac):pack h (List.range' v (rs.length + 2)) = autO 0 rs ac:=by
 have e1:pack h (List.range' v (rs.length + 2)) = mapO (aH (List.range' v (rs.length + 2))) (h.getD v default) :: mapO (aH (List.range' v (rs.length + 2))) (h.getD (v + 1) default) :: (List.range' (v + 2) rs.length).map (fun i => mapO (aH (List.range' v (rs.length + 2))) (h.getD i default)):=by
  conv => lhs; unfold pack
  conv => lhs; rw [← WE]
  rfl
 rw [e1,JX (rs:=rs) fun i r hr => k.row i r hr,List.getD_eq_getElem?_getD,List.getD_eq_getElem?_getD,k.vec,k.acc]
 simp only [Option.getD_some]
 rw [HA (d:=2) fun i hi => by rw [Nat.add_assoc v 2 i]; exact QE (by omega)]
 rfl
theorem aEl {f:Nat → Option Nat} {al:Int} {n m a b:Nat} (h0:f a = some b) (h1:f (a + 1) = some (b + 1)):mapA f (autA a al n m) = autA b al n m:=by
 simp only [autA,mapA,aP,h0,h1]
theorem uF {al:Int} {n m:Nat}:idsA (autA v al n m) = [v,v + 1]:=by simp [autA,idsA,idsL]
theorem t6 {b n i:Nat} (hi:i < n):back [] b n i = some (b + i):=by
 unfold back
 simp [hi]
theorem aMZ {b n:Nat} (hn:n = rs.length + 2):(autO 0 rs ac).map (mapO (back [] b n)) = autO b rs ac:=by
 subst hn
 unfold autO
 rw [List.map_cons,List.map_cons,aNl,HA (d:=b + 2) fun i hi => by rw [t6 (by omega)]; congr 1; omega]
 rfl
theorem aQl (k:Has h v rs ac):closed h (List.range' v (rs.length + 2)) [v,v + 1] = true:=by
 simp only [closed,Bool.and_eq_true,List.all_eq_true,List.contains_eq_mem,decide_eq_true_eq]
 refine ⟨by intro i hi; simp at hi; rw [List.mem_range'_1]; omega,fun i hi => ?_⟩
 rw [← WE] at hi
 simp only [List.cons_append,List.nil_append,List.mem_cons] at hi
 rcases hi with rfl | rfl | hi
 ·simp only [k.vec,List.all_eq_true,decide_eq_true_eq,kN,kZ,mE,List.append_nil]
  intro j hj
  rw [List.mem_range'_1] at hj
  have:j ∈ List.range' i (rs.length + 2):=by rw [List.mem_range'_1]; omega
  simpa using this
 ·simp only [k.acc]
 ·obtain ⟨r,hr⟩:=aER k hi
  simp only [hr]
end
section
variable {E:Env} {call:b5} {h:H} {f:FuncId}
theorem aV9 {rs rs2:List (List Int)} (hl:rs2.map List.length = rs.map List.length):rs2.length = rs.length:=by
 have:=congrArg List.length hl
 simpa using this
theorem aHQ:∀ {rs rs2:List (List Int)} {b:Nat},rs2.map List.length = rs.map List.length → aQ b rs2 = aQ b rs
 | [],[],b,_ => rfl
 | [],_ :: _,b,hl => by simp at hl
 | _ :: _,[],b,hl => by simp at hl
 | r :: rs,q :: rs2,b,hl => by
  simp only [List.map_cons,List.cons.injEq] at hl
  simp only [aQ,hl.1,aHQ hl.2]
theorem aQM {v:Nat} {rs rs2:List (List Int)} {ac ac2:List Bool} {al:Int} {c x:D} (hm:(E.hint f).mode = 0) (k0:Has h v rs ac) (hb:rs.length ≤ 4294967296)
  (he:call f [autA 0 al rs.length ac.length,.d c] (autO 0 rs ac) = some (.d x,autO 0 rs2 ac2)) (hl:rs2.map List.length = rs.map List.length) :
  ∃ h',(∀ (R:Type) (k:A → H → Option R),aW E call h f [autA v al rs.length ac.length,.d c] k = k (.d x) h') ∧ h'.length = h.length ∧ Has h' v rs2 ac2 ∧ (∀ i,i < v ∨ v + 2 + rs.length ≤ i → h'[i]? = h[i]?) ∧ wgt h' ≤ wgt h:=by
 have hl2:=aV9 hl
 have hids:idsL [autA v al rs.length ac.length,A.d c] = [v,v + 1]:=by simp [idsL,uF,idsA]
 have hr:=aA8 k0 hb
 have hp:=aU7 k0
 have hcl:=aQl k0
 have hmap:aP (aH (List.range' v (rs.length + 2))) [autA v al rs.length ac.length,A.d c] = [autA 0 al rs.length ac.length,A.d c]:=by
  simp only [aP,mapA]
  rw [aEl (a:=v) (b:=0) (by simpa using QE (v:=v) (n:=rs.length + 2) (i:=0) (by omega)) (QE (by omega))]
 have hn:(List.range' v (rs.length + 2)).Nodup:=List.nodup_range'
 have hlt:∀ i ∈ List.range' v (rs.length + 2),i < h.length:=by
  rw [← hr]; exact j2 aI h _ [] (by simp)
 have hlen1:(autO 0 rs2 ac2).length = (List.range' v (rs.length + 2)).length:=by rw [xQ,List.length_range',hl2]
 have hlen2:(autO 0 rs2 ac2).length = rs.length + 2:=by rw [xQ,hl2]
 have hget:∀ i,(bJ (back (List.range' v (rs.length + 2)) h.length (rs.length + 2)) h (List.range' v (rs.length + 2)) (autO 0 rs2 ac2))[i]? = if v ≤ i ∧ i < v + (rs.length + 2) then ((autO 0 rs2 ac2)[i - v]?).map (mapO (back (List.range' v (rs.length + 2)) h.length (rs.length + 2))) else h[i]?:=by
  intro i
  rw [rE _ _ _ _ _ hn hlt (by omega)]
  split
  ·rename_i j hj
   have:=aBz hj
   rw [List.mem_range'_1] at this
   obtain ⟨q,rfl⟩:∃ q,i = v + q:=⟨i - v,by omega⟩
   rw [QE (by omega)] at hj
   cases hj
   rw [if_pos (by omega),Nat.add_sub_cancel_left]
  ·rename_i hj
   have:¬ (v ≤ i ∧ i < v + (rs.length + 2)):=by
    intro hc
    have hm:i ∈ List.range' v (rs.length + 2):=by rw [List.mem_range'_1]; exact hc
    obtain ⟨q,hq⟩:=eZ hm
    rw [hq] at hj; cases hj
   rw [if_neg this]
   split
   ·rfl
   ·rw [List.getElem?_eq_none (by omega),List.getElem?_eq_none (by omega)]; rfl
 have hbk:∀ j,j < rs.length + 2 → back (List.range' v (rs.length + 2)) h.length (rs.length + 2) j = some (v + j):=by
  intro j hj
  unfold back
  rw [List.length_range',if_pos hj,List.getElem?_range' hj]
  simp
 refine ⟨bJ (back (List.range' v (rs.length + 2)) h.length (rs.length + 2)) h (List.range' v (rs.length + 2)) (autO 0 rs2 ac2),?_,?_,⟨?_,?_,?_⟩,?_,?_⟩
 ·intro R k
  unfold aW
  rw [hids,hr,hp,hmap]
  unfold dX
  rw [hm]
  simp only [he,hcl,hlen1,Nat.le_refl,and_self,if_true,mapA]
  rw [List.length_range']
 ·rw [G6 (h:=h) (ids:=[]) (h1:=[]) (ord:=[]) _ h _ _ (by omega)]; omega
 ·rw [hget,if_pos (by omega),Nat.sub_self]
  simp only [autO,List.getElem?_cons_zero,Option.map_some]
  rw [HA (d:=v + 2) fun i hi => by rw [hbk _ (by omega)]; congr 1; omega]
 ·rw [hget,if_pos (by omega),Nat.add_sub_cancel_left]
  rfl
 ·intro i r hr
  have:=oW hr
  rw [hget,if_pos (by omega),show v + 2 + i - v = i + 1 + 1 by omega]
  simp only [autO,List.getElem?_cons_succ,qM hr,Option.map_some]
  rfl
 ·intro i hi
  rw [hget,if_neg (by omega)]
 ·apply aI9
  refine ⟨by rw [G6 (h:=h) (ids:=[]) (h1:=[]) (ord:=[]) _ h _ _ (by omega)]; omega,fun i => ?_⟩
  rw [M9,M9,hget]
  by_cases hc:v ≤ i ∧ i < v + (rs.length + 2)
  ·rw [if_pos hc]
   obtain ⟨q,rfl⟩:∃ q,i = v + q:=⟨i - v,by omega⟩
   rw [Nat.add_sub_cancel_left]
   match q with
   | 0 =>
    simp only [autO,List.getElem?_cons_zero,Option.map_some,Nat.add_zero,k0.vec]
    refine Nat.le_trans (NR _ _) ?_
    simp only [kJ,kN,kZ,List.length_append,List.length_range',hl2]
    exact Nat.le_refl _
   | 1 => simp [autO,kJ,mapO]
   | q + 2 =>
    have hq:q < rs2.length:=by omega
    simp only [autO,List.getElem?_cons_succ,qM (List.getElem?_eq_getElem hq),Option.map_some,mapO,kJ,List.length_nil]
    exact Nat.zero_le _
  ·rw [if_neg hc]
   exact Nat.le_refl _
theorem aHB {args fs:List A} {r:A} (hm:(E.hint f).mode = 2) (hr:rdAs h args = some fs) (hw:(idsL args).length + wgt h ≤ 1099511627776) (hc:call f fs [] = some (r,[])) (hi:idsA r = []) :
  ∃ h',(∀ (R:Type) (k:A → H → Option R),aW E call h f args k = k r h') ∧ h'.length = h.length ∧ wgt h' ≤ wgt h ∧ ∀ i:Nat,i ∉ aD aI h (idsL args) [] → h'[i]? = h[i]?:=by
 obtain ⟨c1,c2,c3⟩:=aAW (SK hr) hw
 have hn:=fE aI h (idsL args) [] (by simp)
 have hl:=j2 aI h (idsL args) [] (by simp)
 have hp:=QQ hn c3 hl c2
 rw [hr] at hp
 obtain ⟨k',e,hice⟩:=XN (aB3 _) hp
 generalize hord:aD aI h (idsL args) [] = ord at *
 have hkl:k'.length = ord.length:=by
  have hpl:(pack h ord).length = ord.length:=by simp [pack]
  rw [← hpl]
  have same:∀ i:Nat,(k'[i]?).isSome = ((pack h ord)[i]?).isSome:=by
   intro i
   rcases hice i with q | ⟨cs,e,g,q1,q2⟩ | ⟨cs,ds,e,g,q1,q2,_⟩
   ·rw [q]
   ·rw [q1,q2]; rfl
   ·rw [q1,q2]; rfl
  apply Nat.le_antisymm
  ·apply Nat.le_of_not_lt
   intro hlt
   have:=same (pack h ord).length
   rw [List.getElem?_eq_getElem hlt,List.getElem?_eq_none (Nat.le_refl _)] at this
   simp at this
  ·apply Nat.le_of_not_lt
   intro hlt
   have:=same k'.length
   rw [List.getElem?_eq_getElem hlt,List.getElem?_eq_none (Nat.le_refl _)] at this
   simp at this
 have hlen:(bJ (back ord h.length ord.length) h ord k').length = h.length:=by
  rw [G6 (h:=h) (ids:=[]) (h1:=[]) (ord:=[]) ord h k' _ (by omega)]; omega
 have hout:∀ i:Nat,i ∉ ord → (bJ (back ord h.length ord.length) h ord k')[i]? = h[i]?:=by
  intro i hi'
  rw [rE _ ord h k' i hn hl (by omega)]
  have hpn:aH ord i = none:=qQ hi'
  rw [hpn]
  simp only []
  split
  ·rfl
  ·rename_i hge
   rw [List.getElem?_eq_none (by omega),List.getElem?_eq_none (by omega)]
   rfl
 refine ⟨bJ (back ord h.length ord.length) h ord k',?_,hlen,?_,hout⟩
 ·intro R k
  unfold aW dX
  rw [hm,hord]
  simp only [e,hc,hkl,Nat.le_refl,true_and,c1,if_true,C6 r hi]
 ·refine aI9 ⟨hlen,fun i => ?_⟩
  by_cases hi':i ∈ ord
  ·obtain ⟨k,hk⟩:=eZ hi'
   have hko:=cX hk
   have hil:=hl i hi'
   obtain ⟨o,ho⟩:∃ o,h[i]? = some o:=⟨_,List.getElem?_eq_getElem hil⟩
   have hpk:=sG hko ho
   rw [M9,M9,rE _ ord h k' i hn hl (by omega),hk,ho]
   simp only []
   rcases hice k with q | ⟨cs,e,g,q1,q2⟩ | ⟨cs,ds,e,g,q1,q2,_⟩
   ·rw [q,hpk]
    simp only [Option.map_some]
    exact Nat.le_trans (NR _ _) (NR _ _)
   ·rw [q2]
    simp only [Option.map_some,mapO,kJ,List.length_nil,Nat.zero_le]
   ·rw [q2]
    simp only [Option.map_some,mapO,kJ,List.length_nil,Nat.zero_le]
  ·rw [M9,M9,hout i hi']
   exact Nat.le_refl _
end
end Ev
end Go.Proofs.YtejmccgfigiadaaGreat
