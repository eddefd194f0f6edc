/-
  Products of systems and automata as the reference searches them: plain laws.
-/
import Derived.Test.YtejmccgfigiadaaGreatDistG
set_option linter.unusedSimpArgs false
set_option linter.unusedVariables false
namespace Go.Proofs.YtejmccgfigiadaaGreat
namespace Ev
def sysD:List Sys → List D
 | [] => []
 | s :: l => .int .i64 s.al :: .int .i64 s.st :: .ivs s.es.length (aMh s.es) :: sysD l
def eY:List Aut → List D
 | [] => []
 | a :: l => .int .i64 a.al :: .ivs a.nx.length (rowsD a.nx) :: .ivs a.ac.length (bools a.ac) :: eY l
theorem E5:∀ {l:List Sys},(sysD l).length = l.length * 3
 | [] => rfl
 | p :: l => by simp only [sysD,List.length_cons,E5 (l:=l)]; omega
theorem BY:∀ {l:List Aut},(eY l).length = l.length * 3
 | [] => rfl
 | p :: l => by simp only [eY,List.length_cons,BY (l:=l)]; omega
theorem aBE:∀ {l:List Sys} {k:Nat},(sysD l).drop (k * 3) = sysD (l.drop k)
 | l,0 => by simp
 | [],k + 1 => by simp [sysD]
 | p :: l,k + 1 => by
  rw [Nat.add_mul,Nat.one_mul]
  simp only [sysD,List.drop_succ_cons]
  exact aBE
theorem zA:∀ {l:List Aut} {k:Nat},(eY l).drop (k * 3) = eY (l.drop k)
 | l,0 => by simp
 | [],k + 1 => by simp [eY]
 | p :: l,k + 1 => by
  rw [Nat.add_mul,Nat.one_mul]
  simp only [eY,List.drop_succ_cons]
  exact zA
theorem aMA {l:List Sys} {k:Nat} (h:k < l.length):(((sysD l).drop (k * 3 + 1)).map A.d).head? = some (.d (.int .i64 (l.getD k default).st)):=by
 rw [← List.drop_drop,aBE,bK h (d:=default)]; rfl
theorem aMi {l:List Aut} {k:Nat} (h:k < l.length):(((eY l).drop (k * 3 + 1)).map A.d).head? = some (.d (.ivs (l.getD k default).nx.length (rowsD (l.getD k default).nx))):=by
 rw [← List.drop_drop,zA,bK h (d:=default)]; rfl
theorem aMs {l:List Aut} {k:Nat} (h:k < l.length):(((eY l).drop (k * 3 + 2)).map A.d).head? = some (.d (.ivs (l.getD k default).ac.length (bools (l.getD k default).ac))):=by
 rw [← List.drop_drop,zA,bK h (d:=default)]; rfl
theorem aL7 {l:List Aut} {k:Nat} (h:k < l.length):(((eY l).drop (k * 3)).map A.d).take 3 = [.d (.int .i64 (l.getD k default).al),.d (.ivs (l.getD k default).nx.length (rowsD (l.getD k default).nx)),.d (.ivs (l.getD k default).ac.length (bools (l.getD k default).ac))]:=by
 rw [zA,bK h (d:=default)]; rfl
structure Net where
 ps:List Sys
 us:List Aut
 start:List Int
 ls:Int
 kind:Int
 goal:Int
def netC (N:Net):List D:=[.ivs N.ps.length (sysD N.ps),.ivs N.us.length (eY N.us),.ivs N.start.length (ints N.start),.int .i64 N.ls,.int .i64 N.kind,.int .i64 N.goal]
def HF (N:Net):List Int:=N.ps.map (·.st) ++ N.us.map fun a => (a.nx.length:Int)
def decR:List Int → Int → List Int
 | [],_ => []
 | z :: zs,node => node.tmod z :: decR zs (node.tdiv z)
def decN (zs:List Int) (node:Int):List Int:=(decR zs.reverse node).reverse
def encN:List Int → List Int → Int → Int
 | z :: zs,s :: ss,node => encN zs ss (node * z + s)
 | _,_,node => node
def mulN (out:List Int) (z:Int) (ch:List Int):List Int:=out.flatMap fun o => ch.map fun c => o * z + c
def okN (N:Net) (states:List Int) (i:Nat):Bool:=(N.us.getD i default).ac.getD (states.getD (N.ps.length + i) 0).toNat false
def FR (N:Net) (states:List Int) (mvs:List (List Int)):Bool :=
 if N.kind = 0 then okN N states 0
 else if N.kind = 1 then okN N states 0 != okN N states 1
 else if N.kind = 2 then okN N states 0 && !okN N states 1
 else if N.kind = 3 then !okN N states 0
 else if N.kind = 5 then decide (states.getD N.ps.length 0 = N.goal)
 else mvs.all fun r => r.isEmpty
end Ev
end Go.Proofs.YtejmccgfigiadaaGreat
