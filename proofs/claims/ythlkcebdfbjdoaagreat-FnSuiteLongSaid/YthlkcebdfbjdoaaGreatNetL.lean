/-
  Products of systems and automata as the reference searches them: plain laws.
-/
import Derived.Test.YthlkcebdfbjdoaaGreatDistG
set_option linter.unusedSimpArgs false
set_option linter.unusedVariables false
namespace Go.Proofs.YthlkcebdfbjdoaaGreat
namespace Ev
def sysD:List Sys->List D
 | []=>[]
 |s::l=>.int .i64 s.al::.int .i64 s.st::.ivs s.es.length (aNX s.es)::sysD l
def fY:List Aut->List D
 | []=>[]
 |a::l=>.int .i64 a.al::.ivs a.nx.length (aN a.nx)::.ivs a.ac.length (aJ a.ac)::fY l
theorem G6:∀ {l:List Sys},(sysD l).length=l.length*3
 | []=>rfl
 |p::l=>by simp only[sysD,Ad,G6 (l:=l)];omega
theorem CQ:∀ {l:List Aut},(fY l).length=l.length*3
 | []=>rfl
 |p::l=>by simp only[fY,Ad,CQ (l:=l)];omega
theorem aBF:∀ {l:List Sys} {k:Nat},(sysD l).drop (k*3)=sysD (l.drop k)
 |l,0=>by simp
 | [],k+1=>by simp[sysD]
 |p::l,k+1=>by
  rw[Bw,Nat.one_mul];simp only[sysD,Dg];exact aBF
theorem BN:∀ {l:List Aut} {k:Nat},(fY l).drop (k*3)=fY (l.drop k)
 |l,0=>by simp
 | [],k+1=>by simp[fY]
 |p::l,k+1=>by
  rw[Bw,Nat.one_mul];simp only[fY,Dg];exact BN
theorem aNF{l:List Sys}{k:Nat}(h:k<l.length):(((sysD l).drop (k*3+1)).map A.d).head? =some (.d (.int .i64 (l.getD k default).st)):=by
 rw[<-Ci,aBF,cB h (d:=default)];rfl
theorem aNE{l:List Aut}{k:Nat}(h:k<l.length):(((fY l).drop (k*3+1)).map A.d).head? =some (.d (.ivs (l.getD k default).nx.length (aN (l.getD k default).nx))):=by
 rw[<-Ci,BN,cB h (d:=default)];rfl
theorem aNC{l:List Aut}{k:Nat}(h:k<l.length):(((fY l).drop (k*3+2)).map A.d).head? =some (.d (.ivs (l.getD k default).ac.length (aJ (l.getD k default).ac))):=by
 rw[<-Ci,BN,cB h (d:=default)];rfl
theorem aMW{l:List Aut}{k:Nat}(h:k<l.length):(((fY l).drop (k*3)).map A.d).take 3=[.d (.int .i64 (l.getD k default).al),.d (.ivs (l.getD k default).nx.length (aN (l.getD k default).nx)),.d (.ivs (l.getD k default).ac.length (aJ (l.getD k default).ac))]:=by
 rw[BN,cB h (d:=default)];rfl
structure Net where
 ps:List Sys
 us:List Aut
 start:List Int
 ls:Int
 kind:Int
 goal:Int
def netC(N:Net):List D:=[.ivs N.ps.length (sysD N.ps),.ivs N.us.length (fY N.us),.ivs N.start.length (ints N.start),.int .i64 N.ls,.int .i64 N.kind,.int .i64 N.goal]
def H6(N:Net):List Int:=N.ps.map (·.st)++N.us.map fun a=>(a.nx.length:Int)
def decR:List Int->Int->List Int
 | [],_=>[]
 |z::zs,node=>node.tmod z::decR zs (node.tdiv z)
def decN(zs:List Int)(node:Int):List Int:=(decR zs.reverse node).reverse
def encN:List Int->List Int->Int->Int
 |z::zs,s::ss,node=>encN zs ss (node*z+s)
 |_,_,node=>node
def mulN(out:List Int)(z:Int)(ch:List Int):List Int:=out.flatMap fun o=>ch.map fun c=>o*z+c
def okN(N:Net)(states:List Int)(i:Nat):Bool:=(N.us.getD i default).ac.getD (states.getD (N.ps.length+i) 0).toNat false
def IM(N:Net)(states:List Int)(mvs:List (List Int)):Bool:=
 if N.kind=0 then okN N states 0
 else if N.kind=1 then okN N states 0 !=okN N states 1
 else if N.kind=2 then okN N states 0&& !okN N states 1
 else if N.kind=3 then !okN N states 0
 else if N.kind=5 then decide (states.getD N.ps.length 0=N.goal)
 else mvs.all fun r=>r.isEmpty
end Ev
end Go.Proofs.YthlkcebdfbjdoaaGreat
