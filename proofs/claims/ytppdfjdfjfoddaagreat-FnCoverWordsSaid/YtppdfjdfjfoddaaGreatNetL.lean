/-
  Products of systems and automata as the reference searches them: plain laws.
-/
import Derived.Test.YtppdfjdfjfoddaaGreatDistG
set_option linter.unusedSimpArgs false
set_option linter.unusedVariables false
namespace Go.Proofs.YtppdfjdfjfoddaaGreat
namespace Ev
def sysD:List Sys → List D
 | [] => []
 | s :: l => .int .i64 s.al :: .int .i64 s.st :: .ivs s.es.length (aTX s.es) :: sysD l
def eZ:List Aut → List D
 | [] => []
 | a :: l => .int .i64 a.al :: .ivs a.nx.length (aK a.nx) :: .ivs a.ac.length (aH a.ac) :: eZ l
theorem E5:∀ {l:List Sys},(sysD l).length = l.length * 3
 | [] => rfl
 | p :: l => by simp only [sysD,List.length_cons,E5 (l:=l)]; omega
theorem A1:∀ {l:List Aut},(eZ l).length = l.length * 3
 | [] => rfl
 | p :: l => by simp only [eZ,List.length_cons,A1 (l:=l)]; omega
theorem aGv:∀ {l:List Sys} {k:Nat},(sysD l).drop (k * 3) = sysD (l.drop k)
 | l,0 => by simp
 | [],k + 1 => by simp [sysD]
 | p :: l,k + 1 => by
  rw [Nat.add_mul,Nat.one_mul]
  simp only [sysD,List.drop_succ_cons]
  exact aGv
theorem IM:∀ {l:List Aut} {k:Nat},(eZ l).drop (k * 3) = eZ (l.drop k)
 | l,0 => by simp
 | [],k + 1 => by simp [eZ]
 | p :: l,k + 1 => by
  rw [Nat.add_mul,Nat.one_mul]
  simp only [eZ,List.drop_succ_cons]
  exact IM
theorem aI2 {l:List Sys} {k:Nat} (h:l.length ≤ k):(sysD l).take (k * 3) = sysD l:=List.take_of_length_le (by rw [E5]; omega)
theorem aGs {l:List Aut} {k:Nat} (h:l.length ≤ k):(eZ l).take (k * 3) = eZ l:=List.take_of_length_le (by rw [A1]; omega)
theorem aT5 {l:List Sys} {k:Nat} (h:k < l.length):(((sysD l).drop (k * 3 + 1)).map A.d).head? = some (.d (.int .i64 (l.getD k default).st)):=by
 rw [← List.drop_drop,aGv,dZ h (d:=default)]; rfl
theorem aTL {l:List Aut} {k:Nat} (h:k < l.length):(((eZ l).drop (k * 3 + 1)).map A.d).head? = some (.d (.ivs (l.getD k default).nx.length (aK (l.getD k default).nx))):=by
 rw [← List.drop_drop,IM,dZ h (d:=default)]; rfl
theorem aTJ {l:List Aut} {k:Nat} (h:k < l.length):(((eZ l).drop (k * 3 + 2)).map A.d).head? = some (.d (.ivs (l.getD k default).ac.length (aH (l.getD k default).ac))):=by
 rw [← List.drop_drop,IM,dZ h (d:=default)]; rfl
theorem aSQ {l:List Aut} {k:Nat} (h:k < l.length):(((eZ l).drop (k * 3)).map A.d).take 3 = [.d (.int .i64 (l.getD k default).al),.d (.ivs (l.getD k default).nx.length (aK (l.getD k default).nx)),.d (.ivs (l.getD k default).ac.length (aH (l.getD k default).ac))]:=by
 rw [IM,dZ h (d:=default)]; rfl
structure Net where
 ps:List Sys
 us:List Aut
 start:List Int
 ls:Int
 kind:Int
 goal:Int
def netC (N:Net):List D:=[.ivs N.ps.length (sysD N.ps),.ivs N.us.length (eZ N.us),.ivs N.start.length (ints N.start),.int .i64 N.ls,.int .i64 N.kind,.int .i64 N.goal]
def JZ (N:Net):List Int:=N.ps.map (·.st) ++ N.us.map fun a => (a.nx.length:Int)
def decR:List Int → Int → List Int
 | [],_ => []
 | z :: zs,node => node.tmod z :: decR zs (node.tdiv z)
def decN (zs:List Int) (node:Int):List Int:=(decR zs.reverse node).reverse
def encN:List Int → List Int → Int → Int
 | z :: zs,s :: ss,node => encN zs ss (node * z + s)
 | _,_,node => node
def mulN (out:List Int) (z:Int) (ch:List Int):List Int:=out.flatMap fun o => ch.map fun c => o * z + c
def okN (N:Net) (states:List Int) (i:Nat):Bool:=(N.us.getD i default).ac.getD (states.getD (N.ps.length + i) 0).toNat false
def aHZ (N:Net) (states:List Int) (mvs:List (List Int)):Bool :=
 if N.kind = 0 then okN N states 0
 else if N.kind = 1 then okN N states 0 != okN N states 1
 else if N.kind = 2 then okN N states 0 && !okN N states 1
 else if N.kind = 3 then !okN N states 0
 else if N.kind = 5 then decide (states.getD N.ps.length 0 = N.goal)
 else mvs.all fun r => r.isEmpty
end Ev
end Go.Proofs.YtppdfjdfjfoddaaGreat
