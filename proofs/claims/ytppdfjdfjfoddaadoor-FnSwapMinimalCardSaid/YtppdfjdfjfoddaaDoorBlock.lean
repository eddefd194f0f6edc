/-
  Automata in memory, as blocks: laid, read, written. Calls that are told of memory no more than that.
-/
import Derived.Test.YtppdfjdfjfoddaaDoorAutoL
set_option linter.unusedSimpArgs false
set_option linter.unusedVariables false
namespace Go.Proofs.YtppdfjdfjfoddaaDoor
namespace Ev
def autO (b:Nat) (rs:List (List Int)) (ac:List Bool):H:=.vec (aD (b + 2) rs ++ aI 0) 1 0 :: .arr (aB ac) 1 0 :: aJ rs
def autA (v:Nat) (al:Int) (n m:Nat):A:=.agg [.d (.int .i64 al),.sl v 0 0 n,.sl (v + 1) 0 0 m]
def autD (al:Int) (rs:List (List Int)) (ac:List Bool):A:=.agg [.d (.int .i64 al),.d (.ivs rs.length (aC rs)),.d (.ivs ac.length (aB ac))]
structure Has (h:H) (v:Nat) (rs:List (List Int)) (ac:List Bool):Prop where
 vec:h[v]? = some (.vec (aD (v + 2) rs ++ aI 0) 1 0)
 acc:h[v + 1]? = some (.arr (aB ac) 1 0)
 row:∀ (i:Nat) (r:List Int),rs[i]? = some r → h[v + 2 + i]? = some (.arr (ints r) 1 0)
theorem PR {b:Nat} {rs:List (List Int)} {ac:List Bool}:(autO b rs ac).length = rs.length + 2:=by simp [autO,dK]
theorem aQJ {h:H} {rs:List (List Int)} {ac:List Bool}:Has (h ++ autO h.length rs ac) h.length rs ac:=by
 refine ⟨by simp [autO],by simp [autO],fun i r hr => ?_⟩
 rw [List.getElem?_append_right (by omega),show h.length + 2 + i - h.length = i + 1 + 1 by omega]
 simp only [autO,List.getElem?_cons_succ]
 exact UZ hr
theorem aRd {h h2:H} {v:Nat} {rs:List (List Int)} {ac:List Bool} (k:Has h v rs ac):Has (h ++ h2) v rs ac :=
 ⟨by rw [List.getElem?_append_left (tK k.vec)]; exact k.vec,by rw [List.getElem?_append_left (tK k.acc)]; exact k.acc,
  fun i r hr => by rw [List.getElem?_append_left (tK (k.row i r hr))]; exact k.row i r hr⟩
theorem aGI {h:H} {b:Nat} {r:List Int} (hr:h[b]? = some (.arr (ints r) 1 0)):rd0 h (.sl b 0 0 r.length) = some (rowD r):=by
 simp only [rd0,hr,true_and,Nat.zero_add,Nat.mul_one,dQ,Nat.le_refl,if_true,List.drop_zero,cY,rowD]
theorem aIK {h:H}:∀ {rs:List (List Int)} {b:Nat},(∀ (i:Nat) (r:List Int),rs[i]? = some r → h[b + i]? = some (.arr (ints r) 1 0)) → jY (rd0 h) (aD b rs) = some (aC rs)
 | [],b,_ => rfl
 | r :: rs,b,hh => by
  have h0:=hh 0 r rfl
  simp only [Nat.add_zero] at h0
  simp only [aD,jY,aGI h0,aIK (rs:=rs) (b:=b + 1) fun i q hq => by
   rw [show b + 1 + i = b + (i + 1) by omega]; exact hh (i + 1) q (by simpa using hq)]
  rfl
theorem aRr {h:H} {v:Nat} {rs:List (List Int)} {ac:List Bool} (k:Has h v rs ac):rd1 h (.sl v 0 0 rs.length) = some (.ivs rs.length (aC rs)):=by
 have hl:0 + rs.length * 1 ≤ (aD (v + 2) rs ++ aI 0).length:=by rw [List.length_append,mO]; omega
 have hn:aI 0 = []:=rfl
 simp only [rd1,k.vec]
 rw [if_pos ⟨trivial,hl⟩]
 simp only [hn,List.append_nil,aIK k.row,Option.map_some,List.drop_zero,Nat.mul_one,nT (Nat.le_refl _)]
theorem aRI {h:H} {v:Nat} {rs:List (List Int)} {ac:List Bool} (k:Has h v rs ac):rd1 h (.sl (v + 1) 0 0 ac.length) = some (.ivs ac.length (aB ac)):=by
 have hl:0 + ac.length * 1 ≤ (aB ac).length:=by rw [d7]; omega
 simp only [rd1,rd0,k.acc]
 rw [if_pos ⟨trivial,hl⟩]
 simp only [List.drop_zero,Nat.mul_one,iU (Nat.le_refl _)]
theorem r9:∀ (h h2:H),wgt (h ++ h2) = wgt h + wgt h2
 | [],h2 => by simp [wgt]
 | o :: h,h2 => by cases o <;> simp [wgt,r9 h h2] <;> omega
theorem HW (rs:List (List Int)):wgt (aJ rs) = 0:=by
 induction rs with
 | nil => rfl
 | cons r rs ih => simpa [aJ,wgt] using ih
theorem aQ9 {b:Nat} {rs:List (List Int)} {ac:List Bool}:wgt (autO b rs ac) = rs.length:=by
 simp [autO,wgt,HW,bY,dE,eH]
def mG:O → List Nat
 | .box cs => idsL cs
 | .vec cs _ _ => idsL cs
 | _ => []
section
variable {h:H} {v:Nat} {rs:List (List Int)} {ac:List Bool}
theorem aIz {f:Nat → Option Nat} {b d:Nat} (hf:∀ i,i < rs.length → f (b + i) = some (d + i)):mapO f (.vec (aD b rs ++ aI 0) 1 0) = .vec (aD d rs ++ aI 0) 1 0:=by
 have hn:aI 0 = []:=rfl
 simp only [mapO,hn,List.append_nil,iK (c:=0) hf]
theorem aGO {f:Nat → Option Nat} {al:Int} {n m a b:Nat} (h0:f a = some b) (h1:f (a + 1) = some (b + 1)):mapA f (autA a al n m) = autA b al n m:=by
 simp only [autA,mapA,aH,h0,h1]
theorem aGA {b n i:Nat} (hi:i < n):back [] b n i = some (b + i):=by
 unfold back
 simp [hi]
theorem aOd {b n:Nat} (hn:n = rs.length + 2):(autO 0 rs ac).map (mapO (back [] b n)) = autO b rs ac:=by
 subst hn
 unfold autO
 rw [List.map_cons,List.map_cons,aFF,aIz (d:=b + 2) fun i hi => by rw [aGA (by omega)]; congr 1; omega]
 rfl
end
section
variable {E:Env} {call:a7} {h:H} {f:FuncId}
theorem aBk:∀ {rs rs2:List (List Int)} {b:Nat},rs2.map List.length = rs.map List.length → aD b rs2 = aD b rs
 | [],[],b,_ => rfl
 | [],_ :: _,b,hl => by simp at hl
 | _ :: _,[],b,hl => by simp at hl
 | r :: rs,q :: rs2,b,hl => by
  simp only [List.map_cons,List.cons.injEq] at hl
  simp only [aD,hl.1,aBk hl.2]
end
end Ev
end Go.Proofs.YtppdfjdfjfoddaaDoor
