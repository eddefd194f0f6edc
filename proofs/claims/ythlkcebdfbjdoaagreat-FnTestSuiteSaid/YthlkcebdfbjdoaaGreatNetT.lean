/-
  Products as the reference searches them, walked: the table of all nodes, goals, distances, nodes that are bJ.
-/
import Derived.Test.YthlkcebdfbjdoaaGreatNetY
set_option linter.unusedSimpArgs false
set_option linter.unusedVariables false
set_option maxRecDepth 8000
set_option maxHeartbeats 4000000
namespace Go.Proofs.YthlkcebdfbjdoaaGreat
namespace Ev
variable{R:Type}{L n:Nat}
def tabD(t:List (List (List Int))):List D:=t.map fun r=>.ivs r.length (aN r)
theorem aQ7:tabD []=[]:=rfl
theorem L7{l:List (List (List Int))}:(tabD l).length=l.length:=by simp[tabD]
theorem aAt{l:List (List (List Int))}{k:Nat}(h:l.length<=k):(tabD l).take k=tabD l:=Bz (by rw[L7];exact h)
theorem aIR{l:List (List (List Int))}{k:Nat}(h:k<l.length):(((tabD l).drop k).map A.d).head? =some (.d (.ivs (l.getD k []).length (aN (l.getD k [])))):=by
 rw[List.head?_map,Da,tabD,Bd,Aa,Ae h];rfl
theorem aQ2{l:List (List (List Int))}{r:List (List Int)}{z:Nat}(h:z=r.length):tabD l++[.ivs z (aN r)]=tabD (l++[r]):=by
 subst h;simp[tabD]
theorem TE:type_of% (AI @L7 (AI @aAt @aIR)):=
 ⟨@L7,@aAt,@aIR⟩
theorem aAk(hn:8<=n)(hL:2^60<=L){c1 c2 c3 c4 c5 c6:D}{zs ss ls:List Int}{nx:Int->List Int}{out:List (List (List Int))}{tt v:Int}{ol:Nat}(hll:ls.length<=1000)(hzl:zs.length<=4000)(hsl:ss.length<=4000)(hol:out.length<=4294967290)
  (kc_x:∀(l:Int),l∈ls->∀ {R:Type} {n:Nat} {hq:H} {k:KA R},7<=n->a6 env (aA env L n) hq 150 [.agg [.d c1,.d c2,.d c3,.d c4,.d c5,.d c6],.d (.ivs zs.length (ints zs)),.d (.ivs ss.length (ints ss)),nI l] k=k (.d (.ivs (nx l).length (ints (nx l)))) hq)
  {k:KE R}:∀(j p m:Nat) (o:List (List Int)) (len:Nat) (hp:p+j=ls.length) (hm:j<m) (hlen:len=o.length) (ho:o.length+j<=4000),
  aM env (aA env L n) L 0 [] Bz17 (iM 1) (U1 (Z2 (Z1 (U2 (Z4 (Z2 (Z1 (U32 (U2 (U1 ([]))))))))))) m (Y1 (.d (.ivs zs.length (ints zs))::nI tt::.ptr 0 0 0::Y2 (.d .nils::.sl 1 0 0 ol::.d (.ivs ls.length (ints ls))::nI v::.d (.ivs ss.length (ints ss))::.sl 2 0 0 len::nI p::Y32 (Y2 (Y1 ([])))))) [.box [.d c1,.d c2,.d c3,.d c4,.d c5,.d c6],.arr (tabD out) 1 0,.arr (aN o) 1 0] k
  =k (.exit 2) (Y1 (.d (.ivs zs.length (ints zs))::nI tt::.ptr 0 0 0::Y2 (.d .nils::.sl 1 0 0 ol::.d (.ivs ls.length (ints ls))::nI v::.d (.ivs ss.length (ints ss))::.sl 2 0 0 (o++(ls.drop p).map nx).length::nI (ls.length)::Y32 (Y2 (Y1 ([])))))) [.box [.d c1,.d c2,.d c3,.d c4,.d c5,.d c6],.arr (tabD out) 1 0,.arr (aN (o++(ls.drop p).map nx)) 1 0]:=by
 intro j
 induction j with
 |zero=>
  intro p m o len hp hm hlen ho;obtain _|m:=m;omega;obtain rfl:p=ls.length:=by omega
  subst hlen;simp -implicitDefEqProofs (maxSteps:=2000000) (disch:=try exact Dz) only[↓DN,↓kRet,UP,simprocAttr,Aj,GR,DW,Tryz.f130];simp
 |succ j ih=>
  intro p m o len hp hm hlen ho;obtain _|m:=m;omega;subst hlen;have hk:p<ls.length:=by omega
  have hc:(p:Int)<ls.length:=by omega
  have hp0:(0:Int)<=p:=by omega
  have kc_y:=fun {R:Type} {n:Nat} {hq:H} {k:KA R} (hn:7<=n)=>kc_x _ (lN hk) (R:=R) (n:=n) (hq:=hq) (k:=k) hn;have ih':=ih (p+1) m (o++[nx (ls.getD p 0)]) (o.length+1) (by omega) (by omega) (by simp) (by rw[Af,Co];omega);rw[cs1 p]at ih';rw[cI hk (d:=0),Ai];simp only[Ao,Av,Am]at ih';clear ih kc_x;generalize nx (ls.getD p 0)=w at *;simp -implicitDefEqProofs (maxSteps:=2000000) (disch:=try exact Dz) only[↓DN,↓kRet,UP,simprocAttr,LA,hc,hp0,↓kc_y,TU,↓ih',GR,DW,Tryz.f130]
theorem ZZ(hn:8<=n)(hL:2^60<=L){c1 c2 c3 c4 c5 c6:D}{zs ls:List Int}{nx:Int->Int->List Int}{tt:Nat}(hll:ls.length<=1000)(hzl:zs.length<=1000)(htt:tt<=16777216)(hzp:∀z∈zs,0<z/\z<=65536)
  (kc_x:∀(v:Nat) (l:Int),v<tt->l∈ls->∀ {R:Type} {n:Nat} {hq:H} {k:KA R},7<=n->a6 env (aA env L n) hq 150 [.agg [.d c1,.d c2,.d c3,.d c4,.d c5,.d c6],.d (.ivs zs.length (ints zs)),.d (.ivs zs.length (ints (decN zs v))),nI l] k=k (.d (.ivs (nx v l).length (ints (nx v l)))) hq)
  {k:KE R}:∀(j v m:Nat) (o:List (List (List Int))) (len:Nat) (hp:v+j=tt) (hm:j<m) (hlen:len=o.length) (ho:o.length=v),
  aM env (aA env L n) L 0 [] Bz17 (iM 0) (U1 (Z2 (Z1 (U2 (Z4 (U32 (U4 (U2 ([]))))))))) m (Y1 (.d (.ivs zs.length (ints zs))::nI tt::.ptr 0 0 0::Y2 (.d .nils::.sl 1 0 0 len::.d (.ivs ls.length (ints ls))::nI v::Y32 (Y4 (Y2 ([])))))) [.box [.d c1,.d c2,.d c3,.d c4,.d c5,.d c6],.arr (tabD o) 1 0] k
  =k (.exit 0) (Y1 (.d (.ivs zs.length (ints zs))::nI tt::.ptr 0 0 0::Y2 (.d .nils::.sl 1 0 0 (o++(List.range' v j).map fun(x:Nat)=>ls.map (nx x)).length::.d (.ivs ls.length (ints ls))::nI tt::Y32 (Y4 (Y2 ([])))))) [.box [.d c1,.d c2,.d c3,.d c4,.d c5,.d c6],.arr (tabD (o++(List.range' v j).map fun(x:Nat)=>ls.map (nx x))) 1 0]:=by
 intro j
 induction j with
 |zero=>
  intro v m o len hp hm hlen ho;obtain _|m:=m;omega;obtain rfl:v=tt:=by omega
  subst hlen;simp -implicitDefEqProofs (maxSteps:=2000000) (disch:=try exact Dz) only[↓DN,↓kRet,UP,simprocAttr,Aj,G7,DY,Tryz.f130]
  all_goals simp
 |succ j ih=>
  intro v m o len hp hm hlen ho;obtain _|m:=m;omega;subst hlen;have hc:(v:Int)<tt:=by omega
  have hv0:(0:Int)<=v:=by omega
  have hdl:=ZQ zs v;have kc_d:=@Q6 L zs v hzp hzl hv0 (by omega) hL;have loop_c:=fun {R n k} hn=> @aAk R L n hn hL c1 c2 c3 c4 c5 c6 zs (decN zs v) ls (nx v) o tt v o.length hll (by omega) (by omega) (by omega) (fun l hl {R n hq k} hn=>by rw[hdl];exact kc_x v l (by omega) hl hn) k ls.length 0 L [] 0 (by omega) (by omega) rfl (by simp;omega);simp only[Bc,Aq,Am,aFM,hdl]at loop_c;have ih':=ih (v+1) m (o++[ls.map (nx v)]) (o.length+1) (by omega) (by omega) (by simp) (by simp;omega);rw[cs1 v]at ih';rw[Do,Ai];simp only[Ao,Av,Am]at ih';clear ih kc_x;have hwl:(ls.map (nx v)).length=ls.length:=by simp
  generalize ls.map (nx v)=w at *;generalize decN zs v=ss at *;simp -implicitDefEqProofs (maxSteps:=2000000) (disch:=try exact Dz) only[↓DN,↓kAsg,↓kRet,UP,simprocAttr,TE,LA,hc,↓kc_d,↓loop_c,aQ2,↓ih',G7,DY,Tryz.f130]
theorem aIG(hn:9<=n)(hL:2^60<=L){n1 n2 n3:Nat}{d1 d2 d3:List D}{kd go:Int}{zs:List Int}{al:Int}{nx:Int->Int->List Int}{tt:Nat}(hzl:zs.length<=1000)(htt:tt<=16777216)(hzp:∀z∈zs,0<z/\z<=65536)
  (kc_x:∀(v:Nat) (l:Int),v<tt->l∈aB al->∀ {R:Type} {n:Nat} {hq:H} {k:KA R},7<=n->a6 env (aA env L n) hq 150 [.agg [.d (.ivs n1 d1),.d (.ivs n2 d2),.d (.ivs n3 d3),nI al,nI kd,nI go],.d (.ivs zs.length (ints zs)),.d (.ivs zs.length (ints (decN zs v))),nI l] k=k (.d (.ivs (nx v l).length (ints (nx v l)))) hq):
  aA env L n 130 [.agg [.d (.ivs n1 d1),.d (.ivs n2 d2),.d (.ivs n3 d3),nI al,nI kd,nI go],.d (.ivs zs.length (ints zs)),nI tt] []=some (.d (.ivs tt (tabD ((List.range tt).map fun(x:Nat)=>(aB al).map (nx x)))),[]):=by
 have hll:(aB al).length<=1000:=by have:=b9 al;omega
 have loop_c:=fun {R n k} hn=> @ZZ R L n hn hL (.ivs n1 d1) (.ivs n2 d2) (.ivs n3 d3) (.int .i64 al) (.int .i64 kd) (.int .i64 go) zs (aB al) nx tt hll hzl htt hzp kc_x k tt 0 L [] 0 (by omega) (by omega) rfl rfl;simp only[Aq,Am,aQ7,<-List.range_eq_range']at loop_c;have hwl:((List.range tt).map fun(x:Nat)=>(aB al).map (nx x)).length=tt:=by simp
 generalize(List.range tt).map (fun(x:Nat)=>(aB al).map (nx x))=w at *;have e4:(tabD w).take tt=tabD w:=aAt (by omega);clear kc_x hzp;obtain _|n:=n;omega;simp -implicitDefEqProofs (maxSteps:=2000000) (disch:=try exact Dz) only[↓DN,↓kAsg,↓kRet,UP,simprocAttr,↓gP,TE,↓loop_c,e4,hwl,aHj,X0,Tryz.f130]
end Ev
end Go.Proofs.YthlkcebdfbjdoaaGreat
