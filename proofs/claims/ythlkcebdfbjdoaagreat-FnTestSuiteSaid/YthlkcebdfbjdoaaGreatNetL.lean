/-
  Products of systems and automata as the reference searches them: plain laws.
-/
import Derived.Test.YthlkcebdfbjdoaaGreatDistG
set_option linter.unusedSimpArgs false
set_option linter.unusedVariables false
namespace Go.Proofs.YthlkcebdfbjdoaaGreat
namespace Ev
def sysD:List Sys->List D
 | []=>[]
 |s::l=>.int .i64 s.al::.int .i64 s.st::.ivs s.es.length (aUA s.es)::sysD l
def fS:List Aut->List D
 | []=>[]
 |a::l=>.int .i64 a.al::.ivs a.nx.length (aN a.nx)::.ivs a.ac.length (aJ a.ac)::fS l
theorem BN:∀ {l:List Sys},(sysD l).length=l.length*3
 | []=>rfl
 |p::l=>by simp only[sysD,Ad,BN (l:=l)];omega
theorem xG:∀ {l:List Aut},(fS l).length=l.length*3
 | []=>rfl
 |p::l=>by simp only[fS,Ad,xG (l:=l)];omega
theorem aFb:∀ {l:List Sys} {k:Nat},(sysD l).drop (k*3)=sysD (l.drop k)
 |l,0=>by simp
 | [],k+1=>by simp[sysD]
 |p::l,k+1=>by
  rw[Bx,Nat.one_mul];simp only[sysD,Dh];exact aFb
theorem FI:∀ {l:List Aut} {k:Nat},(fS l).drop (k*3)=fS (l.drop k)
 |l,0=>by simp
 | [],k+1=>by simp[fS]
 |p::l,k+1=>by
  rw[Bx,Nat.one_mul];simp only[fS,Dh];exact FI
theorem aIC{l:List Sys}{k:Nat}(h:l.length<=k):(sysD l).take (k*3)=sysD l:=Bz (by rw[BN];omega)
theorem aEJ{l:List Aut}{k:Nat}(h:l.length<=k):(fS l).take (k*3)=fS l:=Bz (by rw[xG];omega)
theorem aUC{l:List Sys}{k:Nat}(h:k<l.length):(((sysD l).drop (k*3+1)).map A.d).head? =some (.d (.int .i64 (l.getD k default).st)):=by
 rw[<-Cj,aFb,cI h (d:=default)];rfl
theorem aUU{l:List Aut}{k:Nat}(h:k<l.length):(((fS l).drop (k*3+1)).map A.d).head? =some (.d (.ivs (l.getD k default).nx.length (aN (l.getD k default).nx))):=by
 rw[<-Cj,FI,cI h (d:=default)];rfl
theorem aUT{l:List Aut}{k:Nat}(h:k<l.length):(((fS l).drop (k*3+2)).map A.d).head? =some (.d (.ivs (l.getD k default).ac.length (aJ (l.getD k default).ac))):=by
 rw[<-Cj,FI,cI h (d:=default)];rfl
theorem aUb{l:List Aut}{k:Nat}(h:k<l.length):(((fS l).drop (k*3)).map A.d).take 3=[.d (.int .i64 (l.getD k default).al),.d (.ivs (l.getD k default).nx.length (aN (l.getD k default).nx)),.d (.ivs (l.getD k default).ac.length (aJ (l.getD k default).ac))]:=by
 rw[FI,cI h (d:=default)];rfl
structure Net where
 ps:List Sys
 us:List Aut
 start:List Int
 ls:Int
 kind:Int
 goal:Int
def netC(N:Net):List D:=[.ivs N.ps.length (sysD N.ps),.ivs N.us.length (fS N.us),.ivs N.start.length (ints N.start),.int .i64 N.ls,.int .i64 N.kind,.int .i64 N.goal]
def MY(N:Net):List Int:=N.ps.map (·.st)++N.us.map fun a=>(a.nx.length:Int)
def decR:List Int->Int->List Int
 | [],_=>[]
 |z::zs,node=>node.tmod z::decR zs (node.tdiv z)
def decN(zs:List Int)(node:Int):List Int:=(decR zs.reverse node).reverse
def encN:List Int->List Int->Int->Int
 |z::zs,s::ss,node=>encN zs ss (node*z+s)
 |_,_,node=>node
def mulN(out:List Int)(z:Int)(ch:List Int):List Int:=out.flatMap fun o=>ch.map fun c=>o*z+c
def okN(N:Net)(states:List Int)(i:Nat):Bool:=(N.us.getD i default).ac.getD (states.getD (N.ps.length+i) 0).toNat false
def NP(N:Net)(states:List Int)(mvs:List (List Int)):Bool:=
 if N.kind=0 then okN N states 0
 else if N.kind=1 then okN N states 0 !=okN N states 1
 else if N.kind=2 then okN N states 0&& !okN N states 1
 else if N.kind=3 then !okN N states 0
 else if N.kind=5 then decide (states.getD N.ps.length 0=N.goal)
 else mvs.all fun r=>r.isEmpty
end Ev
end Go.Proofs.YthlkcebdfbjdoaaGreat
