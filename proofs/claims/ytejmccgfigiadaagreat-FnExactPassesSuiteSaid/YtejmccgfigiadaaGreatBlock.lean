/-
  Automata in memory, as blocks: laid, read, written. Calls that are told of memory no more than that.
-/
import Derived.Test.YtejmccgfigiadaaGreatAutoL
set_option linter.unusedSimpArgs false
set_option linter.unusedVariables false
namespace Go.Proofs.YtejmccgfigiadaaGreat
namespace Ev
def autO (b:Nat) (rs:List (List Int)) (ac:List Bool):H:=.vec (aU (b + 2) rs ++ a8 0) 1 0 :: .arr (bools ac) 1 0 :: bB rs
def autA (v:Nat) (al:Int) (n m:Nat):A:=.agg [nI al,.sl v 0 0 n,.sl (v + 1) 0 0 m]
def autD (al:Int) (rs:List (List Int)) (ac:List Bool):A:=.agg [nI al,.d (.ivs rs.length (rowsD rs)),.d (.ivs ac.length (bools ac))]
structure Has (h:H) (v:Nat) (rs:List (List Int)) (ac:List Bool):Prop where
 vec:h[v]? = some (.vec (aU (v + 2) rs ++ a8 0) 1 0)
 acc:h[v + 1]? = some (.arr (bools ac) 1 0)
 row:∀ (i:Nat) (r:List Int),rs[i]? = some r → h[v + 2 + i]? = some (.arr (ints r) 1 0)
theorem nX {b:Nat} {rs:List (List Int)} {ac:List Bool}:(autO b rs ac).length = rs.length + 2:=by simp [autO,gP]
theorem zV {h:H} {rs:List (List Int)} {ac:List Bool}:Has (h ++ autO h.length rs ac) h.length rs ac:=by
 refine ⟨by simp [autO],by simp [autO],fun i r hr => ?_⟩
 rw [List.getElem?_append_right (by omega),show h.length + 2 + i - h.length = i + 1 + 1 by omega]
 simp only [autO,List.getElem?_cons_succ]
 exact wT hr
theorem sO {h h2:H} {v:Nat} {rs:List (List Int)} {ac:List Bool} (k:Has h v rs ac):Has (h ++ h2) v rs ac :=
 ⟨by rw [List.getElem?_append_left (k9 k.vec)]; exact k.vec,by rw [List.getElem?_append_left (k9 k.acc)]; exact k.acc,
  fun i r hr => by rw [List.getElem?_append_left (k9 (k.row i r hr))]; exact k.row i r hr⟩
theorem aMI {h:H} {b:Nat} {r:List Int} (hr:h[b]? = some (.arr (ints r) 1 0)):rd0 h (.sl b 0 0 r.length) = some (rowD r):=by
 simp only [rd0,hr,true_and,Nat.zero_add,Nat.mul_one,eK,Nat.le_refl,if_true,List.drop_zero,dR,rowD]
theorem aGd {h:H}:∀ {rs:List (List Int)} {b:Nat},(∀ (i:Nat) (r:List Int),rs[i]? = some r → h[b + i]? = some (.arr (ints r) 1 0)) → cQ (rd0 h) (aU b rs) = some (rowsD rs)
 | [],b,_ => rfl
 | r :: rs,b,hh => by
  have h0:=hh 0 r rfl
  simp only [Nat.add_zero] at h0
  simp only [aU,cQ,aMI h0,aGd (rs:=rs) (b:=b + 1) fun i q hq => by
   rw [show b + 1 + i = b + (i + 1) by omega]; exact hh (i + 1) q (by simpa using hq)]
  rfl
theorem aMu {h:H} {v:Nat} {rs:List (List Int)} {ac:List Bool} (k:Has h v rs ac):rd1 h (.sl v 0 0 rs.length) = some (.ivs rs.length (rowsD rs)):=by
 have hl:0 + rs.length * 1 ≤ (aU (v + 2) rs ++ a8 0).length:=by rw [List.length_append,w9]; omega
 have hn:a8 0 = []:=rfl
 simp only [rd1,k.vec]
 rw [if_pos ⟨trivial,hl⟩]
 simp only [hn,List.append_nil,aGd k.row,Option.map_some,List.drop_zero,Nat.mul_one,wY (Nat.le_refl _)]
theorem aMj {h:H} {v:Nat} {rs:List (List Int)} {ac:List Bool} (k:Has h v rs ac):rd1 h (.sl (v + 1) 0 0 ac.length) = some (.ivs ac.length (bools ac)):=by
 have hl:0 + ac.length * 1 ≤ (bools ac).length:=by rw [kM]; omega
 simp only [rd1,rd0,k.acc]
 rw [if_pos ⟨trivial,hl⟩]
 simp only [List.drop_zero,Nat.mul_one,HR (Nat.le_refl _)]
theorem zW {h:H} {v:Nat} {al:Int} {rs:List (List Int)} {ac:List Bool} (k:Has h v rs ac):rdA h (autA v al rs.length ac.length) = some (autD al rs ac):=by
 simp only [rdA,autA,cQ,rd1,rd0] 
 have e1:=aMu k
 have e2:=aMj k
 simp only [rd1,rd0] at e1 e2
 simp only [e1,e2,Option.map_some,List.map_cons,List.map_nil,autD]
theorem aM2 {h:H} {x:D}:rdA h (.d x) = some (.d x):=rfl
theorem sH:∀ (h h2:H),wgt (h ++ h2) = wgt h + wgt h2
 | [],h2 => by simp [wgt]
 | o :: h,h2 => by cases o <;> simp [wgt,sH h h2] <;> omega
theorem aKA (rs:List (List Int)):wgt (bB rs) = 0:=by
 induction rs with
 | nil => rfl
 | cons r rs ih => simpa [bB,wgt] using ih
theorem zT {b:Nat} {rs:List (List Int)} {ac:List Bool}:wgt (autO b rs ac) = rs.length:=by
 simp [autO,wgt,aKA,oF,sF,sG]
def aCx:O → List Nat
 | .box cs => idsL cs
 | .vec cs _ _ => idsL cs
 | _ => []
section
variable {h:H} {v:Nat} {rs:List (List Int)} {ac:List Bool}
theorem Y7 {f:Nat → Option Nat} {b d:Nat} (hf:∀ i,i < rs.length → f (b + i) = some (d + i)):mapO f (.vec (aU b rs ++ a8 0) 1 0) = .vec (aU d rs ++ a8 0) 1 0:=by
 have hn:a8 0 = []:=rfl
 simp only [mapO,hn,List.append_nil,DQ (c:=0) hf]
theorem aEo {f:Nat → Option Nat} {al:Int} {n m a b:Nat} (h0:f a = some b) (h1:f (a + 1) = some (b + 1)):mapA f (autA a al n m) = autA b al n m:=by
 simp only [autA,mapA,aM,h0,h1]
theorem aDd {al:Int} {n m:Nat}:idsA (autA v al n m) = [v,v + 1]:=by simp [autA,idsA,idsL]
theorem lC {b n i:Nat} (hi:i < n):back [] b n i = some (b + i):=by
 unfold back
 simp [hi]
theorem aCV {b n:Nat} (hn:n = rs.length + 2):(autO 0 rs ac).map (mapO (back [] b n)) = autO b rs ac:=by
 subst hn
 unfold autO
 rw [List.map_cons,List.map_cons,aCD,Y7 (d:=b + 2) fun i hi => by rw [lC (by omega)]; congr 1; omega]
 rfl
end
section
variable {E:Env} {call:bE} {h:H} {f:FuncId}
end
end Ev
end Go.Proofs.YtejmccgfigiadaaGreat
