/-
  The search of the product of two automata, as the reference does it: what it finds.
-/
import Derived.Test.YthlkcebdfbjdoaaGreatNetR
import Derived.Test.YthlkcebdfbjdoaaGreatDistG
import Derived.Test.YthlkcebdfbjdoaaGreatAutH
set_option linter.unusedSimpArgs false
set_option linter.unusedVariables false
set_option maxRecDepth 8000
set_option maxHeartbeats 4000000
namespace Go.Proofs.YthlkcebdfbjdoaaGreat
namespace Ev
def AOK(a:Aut):Prop:=dP a.al a.nx a.ac=true
theorem aTD{al:Int}{rs:List (List Int)}{ac:List Bool}(h:dP al rs ac=true){q i:Nat}(hq:q<rs.length)(hi:i<(aB al).length):0<=(rs.getD q []).getD i 0/\(rs.getD q []).getD i 0<rs.length:=by
 have hw:=x5 h;unfold dP at h;simp only[Ar]at h;have hb:=G9 h.2 hq;unfold gK B8 at hb;simp only[Bool.or_eq_false_iff,Bool.not_eq_false',decide_eq_true_eq]at hb
 have hn:(seek (badQ rs.length (rs.getD q [])) (rs.getD q []).length 0).isNone=true:=by
  cases hs:seek (badQ rs.length (rs.getD q [])) (rs.getD q []).length 0 with
  |none=>rfl
  |some r=>rw[hs]at hb;cases hb.2
 exact xK.1 (G9 hn (by omega))
theorem nP{a:Aut}(h:AOK a){q l:Int}(h0:0<=q)(h1:q<a.nx.length)(h2:0<=l)(h3:l<6):0<=goI a.al a.nx q l/\goI a.al a.nx q l<a.nx.length:=by
 unfold goI
 split
 ·rename_i hb
  exact aTD h (by omega) (CU h2 h3 hb).1
 ·exact⟨h0,h1⟩
theorem mY(al:Int):(aB al).Pairwise (·<·):=by
 unfold aB;exact List.Pairwise.filter _ (by decide)
def nxT(a b:Aut)(v l:Int):List Int:=[goI a.al a.nx (v.tdiv b.nx.length) l*b.nx.length+goI b.al b.nx (v.tmod b.nx.length) l]
def glT(f:Bool->Bool->Bool)(a b:Aut)(v:Int):Bool:=f (a.ac.getD (v.tdiv b.nx.length).toNat false) (b.ac.getD (v.tmod b.nx.length).toNat false)
theorem AW{na nb v:Int}(hb:0<nb)(h0:0<=v)(h1:v<na*nb):(0<=v.tdiv nb/\v.tdiv nb<na)/\(0<=v.tmod nb/\v.tmod nb<nb):=by
 rw[Eh h0,Ei h0];exact⟨⟨Int.ediv_nonneg h0 (by omega),Int.ediv_lt_of_lt_mul hb h1⟩,Int.emod_nonneg _ (by omega),Int.emod_lt_of_pos _ hb⟩
theorem FV{x y na nb:Int}(hx:0<=x/\x<na)(hy:0<=y/\y<nb):0<=x*nb+y/\x*nb+y<na*nb:=by
 have h1:0<=x*nb:=Int.mul_nonneg hx.1 (by omega);have h2:(x+1)*nb<=na*nb:=Dx (by omega) (by omega);rw[Int.add_mul,Int.one_mul]at h2;omega
theorem WA{a b:Aut}(ha:AOK a)(hb:AOK b){v c:Int}(h0:0<=v)(h1:v<(a.nx.length:Int)*b.nx.length)(hc:0<=c/\c<6):∀m∈nxT a b v c,0<=m/\m<(a.nx.length:Int)*b.nx.length:=by
 intro m hm;obtain⟨b1,b2,b3,b4⟩:=kX hb;obtain⟨p,q⟩:=AW (na:=a.nx.length) (nb:=b.nx.length) (by omega) h0 h1;simp only[nxT,Bk]at hm;subst hm;exact FV (nP ha p.1 p.2 hc.1 hc.2) (nP hb q.1 q.2 hc.1 hc.2)
def twoG(f:Bool->Bool->Bool)(a b:Aut)(i j:Int):List Int×Bool:=FR (nxT a b) (glT f a b) (aB a.al) [i*b.nx.length+j] (a.nx.length*b.nx.length)
theorem aM3{f:Bool->Bool->Bool}{a b:Aut}{i j:Int}(ha:AOK a)(hb:AOK b)(hi:0<=i/\i<a.nx.length)(hj:0<=j/\j<b.nx.length):WO (nxT a b) (glT f a b) (aB a.al) (a.nx.length*b.nx.length) (i*b.nx.length+j)=twoG f a b i j:=by
 have hs:=FV hi hj
 have hr:∀v c:Int,0<=v->v<((a.nx.length*b.nx.length:Nat):Int)->c∈aB a.al->∀m∈nxT a b v c,0<=m/\m<((a.nx.length*b.nx.length:Nat):Int):=by
  intro v c h0 h1 hc;have:=cQ c hc;rw[Cd]at h1|-;exact WA ha hb h0 h1 (by omega)
 refine rY (aIM hr (mY _) hs.1 (by rw[Cd];exact hs.2)) (aDC (mY _) hr (fun n hn=> ?_) (by simp));simp only[Bk]at hn;subst hn;rw[Cd];exact hs
def netT(a b:Aut)(i j kd:Int):Net:=⟨[],[a,b],[i,j],a.al,kd,0⟩
theorem aK4{na nb v:Int}(hb:0<nb)(h0:0<=v)(h1:v<na*nb):decN [na,nb] v=[v.tdiv nb,v.tmod nb]:=by
 obtain⟨p,q⟩:=AW hb h0 h1
 have e:(v.tdiv nb).tmod na=v.tdiv nb:=by
  rw[Ei p.1];exact Int.emod_eq_of_lt p.1 p.2
 show [((v.tdiv nb).tmod na),v.tmod nb]=_;rw[e]
theorem aGr{L n:Nat}(hn:11<=n)(hL:2^60<=L){a b:Aut}{i j kd:Int}(ha:AOK a)(hb:AOK b)(hal:a.al=b.al)(hi:0<=i/\i<a.nx.length)(hj:0<=j/\j<b.nx.length)(hk:kd=1\/kd=2):
  aA env L n 105 [.agg [.d .nils,.d (.ivs 2 (fS [a,b])),.d (.ivs 2 (ints [i,j])),nI a.al,nI kd,nI 0]] []=some (.tup [.d (.str (txt (twoG (if kd=1 then fun x y=>x !=y else fun x y=>x&& !y) a b i j).1)),.d (.bool (twoG (if kd=1 then fun x y=>x !=y else fun x y=>x&& !y) a b i j).2)],[]):=by
 obtain⟨a1,a2,a3,a4⟩:=kX ha;obtain⟨b1,b2,b3,b4⟩:=kX hb;have aw:=x5 ha;have bw:=x5 hb;have sa:bF a.nx:=⟨by omega,fun r hr=>by have:=aw r hr;have:=b9 a.al;omega⟩
 have sb:bF b.nx:=⟨by omega,fun r hr=>by have:=bw r hr;have:=b9 b.al;omega⟩
 have hprod:(a.nx.length:Int)*b.nx.length<=144:=by
  have h1:(a.nx.length:Int)*b.nx.length<=12*b.nx.length:=Dx (by omega) (by omega);omega
 have hz:MY (netT a b i j kd)=[(a.nx.length:Int),(b.nx.length:Int)]:=rfl;have hin:=FV hi hj;rw[<-aM3 (f:=if kd=1 then fun x y=>x !=y else fun x y=>x&& !y) ha hb hi hj]
 have key:=@S3 L n hn hL 2 (fS [a,b]) kd 0 a.al (i*b.nx.length+j) [i,j] [(a.nx.length:Int),(b.nx.length:Int)] (nxT a b) (glT (if kd=1 then fun x y=>x !=y else fun x y=>x&& !y) a b) (a.nx.length*b.nx.length) (by simp) rfl (by
   intro q hq
   match q,hq with
   |0,_=>exact⟨by simp,by simp⟩
   |1,_=>simp;omega
   |2,_=>simp;exact⟨Int.mul_nonneg (by omega) (by omega),by omega⟩
   |q+3,hq=>simp at hq) (by simp) (by intro z hz;simp at hz;rcases hz with rfl|rfl<;>omega) (by
   simp only[OQ,and_true];refine⟨by omega,by omega,⟨by simp;exact Int.mul_nonneg hi.1 (by omega),?_⟩,?_⟩
   ·simp
    have:i*(b.nx.length:Int)<=i*12:=Int.mul_le_mul_of_nonneg_left (by omega) hi.1;omega
   ·simp;omega) (by simp[encN]) hin.1 (by rw[Cd];exact hin.2)
   (fun {n} hn=>by
    have:=@U5 L n hn (netT a b i j kd) (by simp[netT]) (by simp[netT]) (fun x hx=>by simp[netT]at hx;rcases hx with rfl|rfl<;>omega) hL;exact this)
   (fun v l hv hl {R n hq k} hn=>by
    have hl2:=cQ l hl;have hv2:(v:Int)<(a.nx.length:Int)*b.nx.length:=by rw[<-Cd];omega
    obtain⟨p,q⟩:=AW (na:=a.nx.length) (nb:=b.nx.length) (by omega) (by omega) hv2;rw[aK4 (by omega) (by omega) hv2];have ga:=nP ha p.1 p.2 hl2.1 (by omega);have gb:=nP hb q.1 q.2 hl2.1 (by omega)
    have hnx:nexG (fun i=>if i=0 then [goI a.al a.nx ((v:Int).tdiv b.nx.length) l]else [goI b.al b.nx ((v:Int).tmod b.nx.length) l]) [(a.nx.length:Int),(b.nx.length:Int)] 2 0 [0]=nxT a b v l:=by
     simp[nexG,mulN,nxT]
    rw[<-hnx];refine c8 rfl (@VU L n hn hL 0 2 2 [] (fS [a,b]) (ints [i,j]) a.al kd 0 [(a.nx.length:Int),(b.nx.length:Int)] [(v:Int).tdiv b.nx.length,(v:Int).tmod b.nx.length] l (fun i=>if i=0 then [goI a.al a.nx ((v:Int).tdiv b.nx.length) l]else [goI b.al b.nx ((v:Int).tmod b.nx.length) l]) (fun i=>if i=0 then 0 else if i=1 then 11 else 143) rfl (by simp) (fun t ht {R n hq k} hn=> ?_) (fun t ht=> ?_) (fun t ht=> ?_) (fun t ht c hc=> ?_) (by simp) (fun t ht=> ?_)) rfl (.inr rfl)
    ·match t,ht with
     |0,_=>exact c8 rfl (AS hn (netT a b i j kd) 0 _ l (Ab _) (by simp[netT]) (by simp[netT]) (by simp[netT]) a rfl sa aw p.1 p.2 hl2.1 (by omega) hL) rfl (.inr rfl)
     |1,_=>exact c8 rfl (AS hn (netT a b i j kd) 1 _ l (by simp[netT]) (by simp[netT]) (by simp[netT]) (by simp[netT]) b rfl sb bw q.1 q.2 hl2.1 (by omega) hL) rfl (.inr rfl)
     |t+2,ht=>exact absurd ht (by show ¬(t+2<2);omega)
    ·match t,ht with
     |0,_=>simp;omega
     |1,_=>simp;omega
     |t+2,ht=>exact absurd ht (by show ¬(t+2<2);omega)
    ·show(if t=0 then _ else _:List Int).length<=16
     split<;>simp
    ·match t,ht with
     |0,_=>simp at hc;subst hc;simpa using ga
     |1,_=>simp at hc;subst hc;simpa using gb
     |t+2,ht=>exact absurd ht (by show ¬(t+2<2);omega)
    ·match t,ht with
     |0,_=>simp;omega
     |1,_=>simp;omega
     |t+2,ht=>exact absurd ht (by show ¬(t+2<2);omega))
   (fun v hv {R n k} hn=>by
    have hv2:(v:Int)<(a.nx.length:Int)*b.nx.length:=by rw[<-Cd];omega
    obtain⟨p,q⟩:=AW (na:=a.nx.length) (nb:=b.nx.length) (by omega) (by omega) hv2;rw[aK4 (by omega) (by omega) hv2]
    have hg:NP (netT a b i j kd) [(v:Int).tdiv b.nx.length,(v:Int).tmod b.nx.length] ((movT (nxT a b) (aB a.al) (a.nx.length*b.nx.length)).getD v [])=glT (if kd=1 then fun x y=>x !=y else fun x y=>x&& !y) a b v:=by
     rcases hk with rfl|rfl
     ·rfl
     ·rfl
    rw[<-hg];exact lI (aIt hn (netT a b i j kd) [(v:Int).tdiv b.nx.length,(v:Int).tmod b.nx.length] ((movT (nxT a b) (aB a.al) (a.nx.length*b.nx.length)).getD v []) (by rcases hk with rfl|rfl<;>simp[netT]) (by simp[netT]) (by simp[netT]) (by simp) ⟨by simp[netT],by simp[netT],by simp[netT];omega,p.1,by show(v:Int).tdiv b.nx.length<(a.ac.length:Int);omega⟩ (fun _=>⟨by simp[netT],by simp[netT],by simp[netT];omega,q.1,by show(v:Int).tmod b.nx.length<(b.ac.length:Int);omega⟩) hL) rfl)
   (fun v c h0 h1 hc=>by
    have:=cQ c hc;rw[Cd]at h1|-;exact⟨by simp[nxT],WA ha hb h0 h1 (by omega)⟩)
 exact key
end Ev
end Go.Proofs.YthlkcebdfbjdoaaGreat
