/-
  Automata in memory, as blocks: laid, read, written. Calls that are told of memory no more than that.
-/
import Derived.Test.YtppdfjdfjfoddaaDoorAutoL
set_option linter.unusedSimpArgs false
set_option linter.unusedVariables false
namespace Go.Proofs.YtppdfjdfjfoddaaDoor
namespace Ev
def autO (b:Nat) (rs:List (List Int)) (ac:List Bool):H:=.vec (aB (b + 2) rs ++ aF 0) 1 0 :: .arr (aK ac) 1 0 :: aH rs
def autA (v:Nat) (al:Int) (n m:Nat):A:=.agg [.d (.int .i64 al),.sl v 0 0 n,.sl (v + 1) 0 0 m]
def autD (al:Int) (rs:List (List Int)) (ac:List Bool):A:=.agg [.d (.int .i64 al),.d (.ivs rs.length (aJ rs)),.d (.ivs ac.length (aK ac))]
structure Has (h:H) (v:Nat) (rs:List (List Int)) (ac:List Bool):Prop where
 vec:h[v]? = some (.vec (aB (v + 2) rs ++ aF 0) 1 0)
 acc:h[v + 1]? = some (.arr (aK ac) 1 0)
 row:∀ (i:Nat) (r:List Int),rs[i]? = some r → h[v + 2 + i]? = some (.arr (ints r) 1 0)
theorem RB {b:Nat} {rs:List (List Int)} {ac:List Bool}:(autO b rs ac).length = rs.length + 2:=by simp [autO,dQ]
theorem aSn {h:H} {rs:List (List Int)} {ac:List Bool}:Has (h ++ autO h.length rs ac) h.length rs ac:=by
 refine ⟨by simp [autO],by simp [autO],fun i r hr => ?_⟩
 rw [List.getElem?_append_right (by omega),show h.length + 2 + i - h.length = i + 1 + 1 by omega]
 simp only [autO,List.getElem?_cons_succ]
 exact WR hr
theorem aSJ {h h2:H} {v:Nat} {rs:List (List Int)} {ac:List Bool} (k:Has h v rs ac):Has (h ++ h2) v rs ac :=
 ⟨by rw [List.getElem?_append_left (uQ k.vec)]; exact k.vec,by rw [List.getElem?_append_left (uQ k.acc)]; exact k.acc,
  fun i r hr => by rw [List.getElem?_append_left (uQ (k.row i r hr))]; exact k.row i r hr⟩
theorem aCV {h:H} {b:Nat} {r:List Int} (hr:h[b]? = some (.arr (ints r) 1 0)):rd0 h (.sl b 0 0 r.length) = some (rowD r):=by
 simp only [rd0,hr,true_and,Nat.zero_add,Nat.mul_one,dN,Nat.le_refl,if_true,List.drop_zero,c8,rowD]
theorem aKk {h:H}:∀ {rs:List (List Int)} {b:Nat},(∀ (i:Nat) (r:List Int),rs[i]? = some r → h[b + i]? = some (.arr (ints r) 1 0)) → kF (rd0 h) (aB b rs) = some (aJ rs)
 | [],b,_ => rfl
 | r :: rs,b,hh => by
  have h0:=hh 0 r rfl
  simp only [Nat.add_zero] at h0
  simp only [aB,kF,aCV h0,aKk (rs:=rs) (b:=b + 1) fun i q hq => by
   rw [show b + 1 + i = b + (i + 1) by omega]; exact hh (i + 1) q (by simpa using hq)]
  rfl
theorem aTf {h:H} {v:Nat} {rs:List (List Int)} {ac:List Bool} (k:Has h v rs ac):rd1 h (.sl v 0 0 rs.length) = some (.ivs rs.length (aJ rs)):=by
 have hl:0 + rs.length * 1 ≤ (aB (v + 2) rs ++ aF 0).length:=by rw [List.length_append,j6]; omega
 have hn:aF 0 = []:=rfl
 simp only [rd1,k.vec]
 rw [if_pos ⟨trivial,hl⟩]
 simp only [hn,List.append_nil,aKk k.row,Option.map_some,List.drop_zero,Nat.mul_one,VJ (Nat.le_refl _)]
theorem aS0 {h:H} {v:Nat} {rs:List (List Int)} {ac:List Bool} (k:Has h v rs ac):rd1 h (.sl (v + 1) 0 0 ac.length) = some (.ivs ac.length (aK ac)):=by
 have hl:0 + ac.length * 1 ≤ (aK ac).length:=by rw [fO]; omega
 simp only [rd1,rd0,k.acc]
 rw [if_pos ⟨trivial,hl⟩]
 simp only [List.drop_zero,Nat.mul_one,oX (Nat.le_refl _)]
theorem tP:∀ (h h2:H),wgt (h ++ h2) = wgt h + wgt h2
 | [],h2 => by simp [wgt]
 | o :: h,h2 => by cases o <;> simp [wgt,tP h h2] <;> omega
theorem LO (rs:List (List Int)):wgt (aH rs) = 0:=by
 induction rs with
 | nil => rfl
 | cons r rs ih => simpa [aH,wgt] using ih
theorem aSC {b:Nat} {rs:List (List Int)} {ac:List Bool}:wgt (autO b rs ac) = rs.length:=by
 simp [autO,wgt,LO,bW,c9,eM]
def gZ:O → List Nat
 | .box cs => idsL cs
 | .vec cs _ _ => idsL cs
 | _ => []
section
variable {h:H} {v:Nat} {rs:List (List Int)} {ac:List Bool}
theorem aKD {f:Nat → Option Nat} {b d:Nat} (hf:∀ i,i < rs.length → f (b + i) = some (d + i)):mapO f (.vec (aB b rs ++ aF 0) 1 0) = .vec (aB d rs ++ aF 0) 1 0:=by
 have hn:aF 0 = []:=rfl
 simp only [mapO,hn,List.append_nil,jD (c:=0) hf]
theorem aHb {f:Nat → Option Nat} {al:Int} {n m a b:Nat} (h0:f a = some b) (h1:f (a + 1) = some (b + 1)):mapA f (autA a al n m) = autA b al n m:=by
 simp only [autA,mapA,aG,h0,h1]
theorem aIj {b n i:Nat} (hi:i < n):back [] b n i = some (b + i):=by
 unfold back
 simp [hi]
theorem aOS {b n:Nat} (hn:n = rs.length + 2):(autO 0 rs ac).map (mapO (back [] b n)) = autO b rs ac:=by
 subst hn
 unfold autO
 rw [List.map_cons,List.map_cons,aIN,aKD (d:=b + 2) fun i hi => by rw [aIj (by omega)]; congr 1; omega]
 rfl
end
section
variable {E:Env} {call:a9} {h:H} {f:FuncId}
theorem aCv:∀ {rs rs2:List (List Int)} {b:Nat},rs2.map List.length = rs.map List.length → aB b rs2 = aB b rs
 | [],[],b,_ => rfl
 | [],_ :: _,b,hl => by simp at hl
 | _ :: _,[],b,hl => by simp at hl
 | r :: rs,q :: rs2,b,hl => by
  simp only [List.map_cons,List.cons.injEq] at hl
  simp only [aB,hl.1,aCv hl.2]
end
end Ev
end Go.Proofs.YtppdfjdfjfoddaaDoor
