/-
  The exact laws' own functions, at edges and systems: copies, comparisons, marks.
-/
import Derived.Test.YtejmccgfigiadaaGreatSortLayX
import Derived.Test.YtejmccgfigiadaaGreatVec
set_option linter.unusedSimpArgs false
set_option linter.unusedVariables false
set_option maxRecDepth 8000
set_option maxHeartbeats 4000000
namespace Go.Proofs.YtejmccgfigiadaaGreat
namespace Ev
theorem NW {R:Type} {E:Env} {call:aW} {h:H} {f:FuncId} {args:List A} {r:A} {k:KA R} {id e g e2 g2:Nat} {cs cs2:List D} (hi:h[id]? = some (.arr cs e g)) (hid:idsL args = [id]) (hm:(E.hint f).mode = 0) (hr:idsA r = []) (he:call f (aE (aI [id]) args) [.arr cs e g] = some (r,[.arr cs2 e2 g2])) :
  aY E call h f args k = k r (h.set id (.arr cs2 e2 g2)):=by
 have hre:aD aG h [id] [] = [id]:=by
  have e1:aD aG h [id] [] = match h[id]? with
   | some (.box cs) => aD (aG - 1) h ([] ++ idsL cs) ([] ++ [id])
   | some (.vec cs _ _) => aD (aG - 1) h ([] ++ idsL cs) ([] ++ [id])
   | some .void => aD (aG - 1) h [] []
   | some _ => aD (aG - 1) h [] ([] ++ [id])
   | none => aD (aG - 1) h [] []:=rfl
  rw [e1,hi]; rfl
 have hpk:pack h [id] = [.arr cs e g]:=by
  simp only [pack,List.map_cons,List.map_nil,List.getD_eq_getElem?_getD,hi]; rfl
 unfold aY
 rw [hid,hre,hpk]
 have hc:bV call E.hint [.arr cs e g] f (aE (aI [id]) args) = some (r,[.arr cs2 e2 g2]):=by
  unfold bV; rw [hm]; exact he
 rw [hc]
 have hcl:closed h [id] [id] = true:=by
  simp only [closed,List.all_cons,List.all_nil,hi]; simp
 simp only [List.length_cons,List.length_nil,Nat.le_refl,hcl,and_self,if_true,pK r hr]
 simp only [bJ,mapO,List.map_nil,List.append_nil]
structure Aut where
 al:Int
 nx:List (List Int)
 ac:List Bool
 deriving DecidableEq,Inhabited
def rowD (r:List Int):D:=.ivs r.length (ints r)
def aO (rs:List (List Int)):List D:=rs.map rowD
def aJ (l:List Bool):List D:=l.map .bool
theorem pP {l:List (List Int)}:(aO l).length = l.length:=by simp [aO]
theorem d8 {l:List Bool}:(aJ l).length = l.length:=by simp [aJ]
theorem qU {l:List Bool} {k:Nat} (h:l.length ≤ k):(aJ l).take k = aJ l:=List.take_of_length_le (by rw [d8]; exact h)
theorem AY {l:List Bool} {k:Nat} (h:k < l.length):(((aJ l).drop k).map A.d).head? = some (.d (.bool (l.getD k false))):=by
 rw [List.head?_map,List.head?_drop,aJ,List.getElem?_map,List.getD_eq_getElem?_getD,List.getElem?_eq_getElem h]
 rfl
theorem aCc {l:List Bool} {k:Nat} {v:Bool} (h:k < l.length):bG (aJ l) k [.bool v] = aJ (l.set k v):=vY _ l k v h
theorem N5 {l:List (List Int)} {k:Nat} (h:k < l.length):(((aO l).drop k).map A.d).head? = some (.d (.ivs (l.getD k []).length (ints (l.getD k [])))):=by
 rw [List.head?_map,List.head?_drop,aO,List.getElem?_map,List.getD_eq_getElem?_getD,List.getElem?_eq_getElem h]
 rfl
theorem yR {l:List (List Int)} {k:Nat} (h:l.length ≤ k):(aO l).take k = aO l:=List.take_of_length_le (by rw [pP]; exact h)
theorem LA:type_of% (AI @pP (AI @d8 (AI @qU (AI @AY (AI @N5 @yR))))) :=
 ⟨@pP,@d8,@qU,@AY,@N5,@yR⟩
theorem aGy {α:Type} {l:List α} {k:Nat} {v:α} {m:List α} (h:k < l.length):(l.set k v).take (k + 1) ++ m = l.take k ++ (v :: m):=by
 rw [take_set h]; simp
theorem MV:env.P.cellsOf 90 = 1:=kr
theorem G7 (rs:List (List Int)) (r:List Int):aH rs ++ [.arr (ints r) 1 0] = aH (rs ++ [r]):=aHT rs r
def bF (rs:List (List Int)):Prop:=rs.length ≤ 4294967296 ∧ ∀ r ∈ rs,r.length ≤ 4294967296
theorem nD {rs:List (List Int)} (h:bF rs) {k:Nat} (hk:k < rs.length):(rs.getD k []).length ≤ 4294967296:=by
 rw [List.getD_eq_getElem?_getD,List.getElem?_eq_getElem hk]
 exact h.2 _ (List.getElem_mem hk)
end Ev
end Go.Proofs.YtejmccgfigiadaaGreat
