/-
  The exact laws' own functions, at edges and systems: copies, comparisons, marks.
-/
import Derived.Test.YthlkcebdfbjdoaaGreatSortLayX
import Derived.Test.YthlkcebdfbjdoaaGreatVec
set_option linter.unusedSimpArgs false
set_option linter.unusedVariables false
set_option maxRecDepth 8000
set_option maxHeartbeats 4000000
namespace Go.Proofs.YthlkcebdfbjdoaaGreat
namespace Ev
theorem UL{R:Type}{E:Env}{call:aZ}{h:H}{f:FuncId}{args:List A}{r:A}{k:KA R}{id e g e2 g2:Nat}{cs cs2:List D}(hi:h[id]? =some (.arr cs e g))(hid:idsL args=[id])(hm:(E.hint f).mode=0)(hr:idsA r=[])(he:call f (aE (aH [id]) args) [.arr cs e g]=some (r,[.arr cs2 e2 g2])):
  a6 E call h f args k=k r (h.set id (.arr cs2 e2 g2)):=by
 have hre:aD aG h [id] []=[id]:=by
  have e1:aD aG h [id] []=match h[id]? with
   |some (.box cs)=>aD (aG-1) h ([]++idsL cs) ([]++[id])
   |some (.vec cs _ _)=>aD (aG-1) h ([]++idsL cs) ([]++[id])
   |some .void=>aD (aG-1) h [] []
   |some _=>aD (aG-1) h [] ([]++[id])
   |none=>aD (aG-1) h [] []:=rfl
  rw[e1,hi];rfl
 have hpk:pack h [id]=[.arr cs e g]:=by
  simp only[pack,Ai,Ap,Aa,hi];rfl
 unfold a6;rw[hid,hre,hpk]
 have hc:b8 call E.hint [.arr cs e g] f (aE (aH [id]) args)=some (r,[.arr cs2 e2 g2]):=by
  unfold b8;rw[hm];exact he
 rw[hc]
 have hcl:closed h [id] [id]=true:=by
  simp only[closed,Bs,Cb,hi];simp
 simp only[Ad,Ac,Ab,hcl,and_self,if_true,rZ r hr];simp only[bG,mapO,Ap,Ah]
structure Aut where
 al:Int
 nx:List (List Int)
 ac:List Bool
 deriving DecidableEq,Inhabited
def rowD(r:List Int):D:=.ivs r.length (ints r)
def aN(rs:List (List Int)):List D:=rs.map rowD
def aJ(l:List Bool):List D:=l.map .bool
theorem rG{l:List (List Int)}:(aN l).length=l.length:=by simp[aN]
theorem eP{l:List Bool}:(aJ l).length=l.length:=by simp[aJ]
theorem sS{l:List Bool}{k:Nat}(h:l.length<=k):(aJ l).take k=aJ l:=Bz (by rw[eP];exact h)
theorem FS{l:List Bool}{k:Nat}(h:k<l.length):(((aJ l).drop k).map A.d).head? =some (.d (.bool (l.getD k false))):=by
 rw[List.head?_map,Da,aJ,Bd,Aa,Ae h];rfl
theorem aFB{l:List Bool}{k:Nat}{v:Bool}(h:k<l.length):bH (aJ l) k [.bool v]=aJ (l.set k v):=xW _ l k v h
theorem V1{l:List (List Int)}{k:Nat}(h:k<l.length):(((aN l).drop k).map A.d).head? =some (.d (.ivs (l.getD k []).length (ints (l.getD k [])))):=by
 rw[List.head?_map,Da,aN,Bd,Aa,Ae h];rfl
theorem B5{l:List (List Int)}{k:Nat}(h:l.length<=k):(aN l).take k=aN l:=Bz (by rw[rG];exact h)
theorem LA:type_of% (AI @rG (AI @eP (AI @sS (AI @FS (AI @V1 @B5))))):=
 ⟨@rG,@eP,@sS,@FS,@V1,@B5⟩
theorem aKV{α:Type}{l:List α}{k:Nat}{v:α}{m:List α}(h:k<l.length):(l.set k v).take (k+1)++m=l.take k++(v::m):=by
 rw[take_set h];simp
theorem SV:env.P.cellsOf 80=1:=kr
theorem LT(rs:List (List Int))(r:List Int):aI rs++[.arr (ints r) 1 0]=aI (rs++[r]):=aLl rs r
def bF(rs:List (List Int)):Prop:=rs.length<=4294967296/\∀r∈rs,r.length<=4294967296
theorem oX{rs:List (List Int)}(h:bF rs){k:Nat}(hk:k<rs.length):(rs.getD k []).length<=4294967296:=by
 rw[Aa,Ae hk];exact h.2 _ (Az hk)
end Ev
end Go.Proofs.YthlkcebdfbjdoaaGreat
