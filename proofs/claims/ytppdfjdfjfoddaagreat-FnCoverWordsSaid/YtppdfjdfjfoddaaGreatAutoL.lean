/-
  The exact laws' own functions, at edges and systems: copies, comparisons, marks.
-/
import Derived.Test.YtppdfjdfjfoddaaGreatSortLayX
import Derived.Test.YtppdfjdfjfoddaaGreatVec
set_option linter.unusedSimpArgs false
set_option linter.unusedVariables false
set_option maxRecDepth 8000
set_option maxHeartbeats 4000000
namespace Go.Proofs.YtppdfjdfjfoddaaGreat
namespace Ev
theorem XK {R:Type} {E:Env} {call:a7} {h:H} {f:FuncId} {args:List A} {r:A} {k:A → H → Option R} {id e g e2 g2:Nat} {cs cs2:List D} (hi:h[id]? = some (.arr cs e g)) (hid:idsL args = [id]) (hm:(E.hint f).mode = 0) (hr:idsA r = []) (he:call f (aF (aJ [id]) args) [.arr cs e g] = some (r,[.arr cs2 e2 g2])) :
  aL E call h f args k = k r (h.set id (.arr cs2 e2 g2)):=by
 have hre:aD aE h [id] [] = [id]:=by
  have e1:aD aE h [id] [] = match h[id]? with
   | some (.box cs) => aD (aE - 1) h ([] ++ idsL cs) ([] ++ [id])
   | some (.vec cs _ _) => aD (aE - 1) h ([] ++ idsL cs) ([] ++ [id])
   | some .void => aD (aE - 1) h [] []
   | some _ => aD (aE - 1) h [] ([] ++ [id])
   | none => aD (aE - 1) h [] []:=rfl
  rw [e1,hi]; rfl
 have hpk:pack h [id] = [.arr cs e g]:=by
  simp only [pack,List.map_cons,List.map_nil,List.getD_eq_getElem?_getD,hi]; rfl
 unfold aL
 rw [hid,hre,hpk]
 have hc:dT call E.hint [.arr cs e g] f (aF (aJ [id]) args) = some (r,[.arr cs2 e2 g2]):=by
  unfold dT; rw [hm]; exact he
 rw [hc]
 have hcl:closed h [id] [id] = true:=by
  simp only [closed,List.all_cons,List.all_nil,hi]; simp
 simp only [List.length_cons,List.length_nil,Nat.le_refl,hcl,and_self,if_true,vM r hr]
 simp only [bP,mapO,List.map_nil,List.append_nil]
structure Aut where
 al:Int
 nx:List (List Int)
 ac:List Bool
 deriving DecidableEq,Inhabited
def rowD (r:List Int):D:=.ivs r.length (ints r)
def aK (rs:List (List Int)):List D:=rs.map rowD
def aH (l:List Bool):List D:=l.map .bool
theorem sA {l:List (List Int)}:(aK l).length = l.length:=by simp [aK]
theorem eF {l:List Bool}:(aH l).length = l.length:=by simp [aH]
theorem jF {l:List Bool} {k:Nat} (h:l.length ≤ k):(aH l).take k = aH l:=List.take_of_length_le (by rw [eF]; exact h)
theorem H9 {l:List Bool} {k:Nat} (h:k < l.length):(((aH l).drop k).map A.d).head? = some (.d (.bool (l.getD k false))):=by
 rw [List.head?_map,List.head?_drop,aH,List.getElem?_map,List.getD_eq_getElem?_getD,List.getElem?_eq_getElem h]
 rfl
theorem aEW {l:List Bool} {k:Nat} {v:Bool} (h:k < l.length):bR (aH l) k [.bool v] = aH (l.set k v):=IS _ l k v h
theorem VZ {l:List (List Int)} {k:Nat} (h:k < l.length):(((aK l).drop k).map A.d).head? = some (.d (.ivs (l.getD k []).length (ints (l.getD k [])))):=by
 rw [List.head?_map,List.head?_drop,aK,List.getElem?_map,List.getD_eq_getElem?_getD,List.getElem?_eq_getElem h]
 rfl
theorem vO {l:List (List Int)} {k:Nat} (h:l.length ≤ k):(aK l).take k = aK l:=List.take_of_length_le (by rw [sA]; exact h)
theorem LA:type_of% (AI @sA (AI @eF (AI @jF (AI @H9 (AI @VZ @vO))))) :=
 ⟨@sA,@eF,@jF,@H9,@VZ,@vO⟩
theorem aKV {α:Type} {l:List α} {k:Nat} {v:α} {m:List α} (h:k < l.length):(l.set k v).take (k + 1) ++ m = l.take k ++ (v :: m):=by
 rw [take_set h]; simp
theorem dN:env.P.underlying 23 = some (.slice 46):=by kernel_rfl
theorem dS:env.P.cellsOf 46 = 1:=by kernel_rfl
theorem O0 (rs:List (List Int)) (r:List Int):aI rs ++ [.arr (ints r) 1 0] = aI (rs ++ [r]):=aLZ rs r
def a8 (rs:List (List Int)):Prop:=rs.length ≤ 4294967296 ∧ ∀ r ∈ rs,r.length ≤ 4294967296
theorem sZ {rs:List (List Int)} (h:a8 rs) {k:Nat} (hk:k < rs.length):(rs.getD k []).length ≤ 4294967296:=by
 rw [List.getD_eq_getElem?_getD,List.getElem?_eq_getElem hk]
 exact h.2 _ (List.getElem_mem hk)
theorem wK:env.P.underlying 24 = some (.slice 4):=by kernel_rfl
end Ev
end Go.Proofs.YtppdfjdfjfoddaaGreat
