/-
  A function that draws an automaton, as its callers see it.
-/
import Derived.Test.YthlkcebdfbjdoaaGreatDrawR
set_option linter.unusedSimpArgs false
set_option linter.unusedVariables false
set_option maxRecDepth 8000
set_option maxHeartbeats 4000000
namespace Go.Proofs.YthlkcebdfbjdoaaGreat
namespace Ev
theorem aJp{R:Type}{call:aZ}{hq:H}{f:FuncId}{args:List A}{c:List UInt8}{p q al:Int}{rs:List (List Int)}{ac:List Bool}{k:KA R}(hm:(env.hint f).mode=0)(ha:idsL args=[])(he:call f (.ptr 0 0 0::args) [rdO c p]=some (autA 1 al rs.length ac.length,rdO c q::autO 1 rs ac)):
  a6 env call (rdO c p::hq) f (.ptr 0 0 0::args) k=k (autA (hq.length+1) al rs.length ac.length) (rdO c q::(hq++autO (hq.length+1) rs ac)):=by
 have hid:idsL (A.ptr 0 0 0::args)=[0]:=by simp[idsL,idsA,ha]
 have hre:aD aG (rdO c p::hq) [0] []=[0]:=rfl;have hpk:pack (rdO c p::hq) [0]=[rdO c p]:=rfl
 have hma:aE (aH [0]) (A.ptr 0 0 0::args)=A.ptr 0 0 0::args:=by
  simp only[aE,iT _ ha];rfl
 have hc:b8 call env.hint [rdO c p] f (.ptr 0 0 0::args)=some (autA 1 al rs.length ac.length,rdO c q::autO 1 rs ac):=by
  unfold b8;rw[hm];exact he
 have hcl:closed (rdO c p::hq) [0] [0]=true:=rfl
 have hb:∀i,i<rs.length+2->back [0] (hq.length+1) (rs.length+3) (1+i)=some (hq.length+1+i):=by
  intro i hi;unfold back;rw[if_neg (by simp),if_pos (by omega)];simp
 have hmp:(autO 1 rs ac).map (mapO (back [0] (hq.length+1) (rs.length+3)))=autO (hq.length+1) rs ac:=by
  simp only[autO,Ai];rw[aK6 (d:=hq.length+1+2) fun i hi=>by rw[show 1+2+i=1+(2+i) by omega,hb _ (by omega)];congr 1;omega,aIV];rfl
 have hrm:mapA (back [0] (hq.length+1) (rs.length+3)) (autA 1 al rs.length ac.length)=autA (hq.length+1) al rs.length ac.length:=
  aHz (by simpa using hb 0 (by omega)) (hb 1 (by omega))
 have hlen:(rdO c q::autO 1 rs ac).length=rs.length+3:=by rw[Ad,OB]
 unfold a6;rw[hid,hre,hpk,hma,hc];simp only[hlen,Ad,Ac,hcl,hrm,Ag,show 1<=rs.length+3 by omega,and_self,if_true];simp only[bG,Cf,hmp]
 congr 1
theorem NC{t:H}{y1 y2:D}{v n m:Nat}{al:Int}{rs:List (List Int)}{ac:List Bool}(k:Has (.box [.d y1,.d y2]::t) v rs ac)(hv:1<=v)(hn:n=rs.length)(hm:m=ac.length):
  ∃h2,oT 1 false (.box [.d y1,.d y2]::t) [.agg [nI al,.sl v 0 0 n,.sl (v+1) 0 0 m]]=some ([autD al rs ac],h2)/\aD 1099511627776 h2 (d6 (List.take 1 h2)) [0]=[0]/\List.getD h2 0 default=.box [.d y1,.d y2]:=by
 subst hn;subst hm;obtain⟨ha,e1,i1⟩:=WU 4 (aE4 _) (aUX k);obtain⟨hb,e2,i2⟩:=WU 4 i1 (aUE k)
 have h0:hb[0]? =some (.box [.d y1,.d y2]):=by
  rcases i2 0 with h|⟨_,_,_,h,_⟩|⟨_,_,_,_,h,_⟩
  ·rw[h];rfl
  ·cases h
  ·cases h
 obtain⟨t2,rfl⟩:∃t2,hb=.box [.d y1,.d y2]::t2:=by
  cases hb with
  |nil=>simp at h0
  |cons o t2=>simp at h0;exact⟨t2,by rw[h0]⟩
 refine⟨.box [.d y1,.d y2]::t2,?_,rfl,rfl⟩;have hv1:¬(v<1):=by omega
 have hv2:¬(v+1<1):=by omega
 simp only[oT,outA,BJ,outS,hv1,hv2,decide_false,Bool.or_self,Ak,if_false];rw[show deep=4+1 from rfl,e1];simp only[Ax];rw[e2];rfl
theorem NH{h:H}{v:Nat}{rs:List (List Int)}{ac:List Bool}{p:H}(hd:h.length=v):Has (h++(.vec (aC (v+2) rs++aF 0) 1 0::.arr (aJ ac) 1 0::(aI rs++p))) v rs ac:=by
 subst hd;have:=aT6 (h2:=p) (aT5 (h:=h) (rs:=rs) (ac:=ac))
 simpa [autO]using this
theorem aL2:(env.hint 61).mode=0:=kr
theorem L5{R:Type}{L n:Nat}{hq:H}{c:List UInt8}{p q al st:Int}{rs:List (List Int)}{ac:List Bool}{k:KA R}(hn:3<=n)(hL:2^60<=L)
  (he:∀(L n:Nat),3<=n->2^60<=L->aA env L n 61 [.ptr 0 0 0,nI al,nI st] [rdO c p]=some (autA 1 al rs.length ac.length,rdO c q::autO 1 rs ac)):
  a6 env (aA env L n) (rdO c p::hq) 61 [.ptr 0 0 0,nI al,nI st] k=k (autA (hq.length+1) al rs.length ac.length) (rdO c q::(hq++autO (hq.length+1) rs ac)):=
 aJp aL2 (by simp[idsL,idsA]) (he L n hn hL)
end Ev
end Go.Proofs.YthlkcebdfbjdoaaGreat
