/-
  What the types of the program are.
-/
import Derived.Test.YtahbdkmimmnadaaGreatDoorTy
import Derived.IntWalk
import Derived.Test.YtahbdkmimmnadaaGreatDoorEvRun
import Derived.Lib.TrailingZeros
import Derived.Test.YtahbdkmimmnadaaGreatDoorEvDraw
import Derived.Test.YtahbdkmimmnadaaGreatDoorEvPrim
import Derived.Test.YtahbdkmimmnadaaGreatDoorChecked
import Derived.WalkKit
import Derived.Deep.RegionLaw
import Derived.Shelf.RegionOpenPlain
import Derived.Lib.Walk
import Derived.Lib.SliceRun
import Derived.Shelf.SlSortCmp.NoneTotal
import Derived.Deep.LoopGhost
import Derived.Shelf.Spec.TrailingZeros
import Derived.Laws.StructEq
import Derived.ChangeSlices
import Derived.RowKit3
import Derived.Test.YtahbdkmimmnadaaGreatDoorEvWalk
set_option linter.unusedSimpArgs false
set_option linter.unusedVariables false
set_option linter.unusedSectionVars false
set_option maxRecDepth 1000000
set_option maxHeartbeats 4000000
namespace Go.Proofs.YtahbdkmimmnadaaGreatDoor
namespace Ev
theorem dM{n:Int}(h1:-9223372036854775808<=n)(h2:n<=9223372036854775807):IntKind.i64.wrap n=n:=IntWalk.i64_in n ⟨h1,h2⟩
theorem aG9{n:Int}(h1:0<=n)(h2:n<=18446744073709551615):IntKind.u64.wrap n=n:=IntWalk.u64_in n ⟨h1,h2⟩
theorem aSX{n:Int}(h1:0<=n)(h2:n<=255):IntKind.u8.wrap n=n:=IntWalk.u8_in n ⟨h1,h2⟩
theorem aGZ:env.P.underlying 3=some (.int .i64):=kr
theorem aMV:env.P.underlying 165=some (.int .u64):=kr
theorem aDT:env.P.underlying 5=some (.int .u8):=kr
theorem aOC:env.P.underlying 4=some .bool:=kr
theorem aHs:env.P.underlying 9=some .string:=kr
theorem aSB:env.P.underlying 104=some (.slice 3):=kr
theorem aDF:env.P.underlying 42=some (.slice 5):=kr
theorem QH:env.P.cellsOf 3=1:=kr
theorem aD6:env.P.cellsOf 5=1:=kr
theorem aSW:d5 env.P 3=true:=kr
theorem aQ2:d5 env.P 5=true:=kr
theorem aSY:cX env.P 3=some (nI 0):=kr
theorem aQ6:cX env.P 5=some (.d (.int .u8 0)):=kr
theorem aGv{h:H}{n:Int}{K:IntKind}:gE env.P h 3 165 (.d (.int K n))=some (.d (.int .u64 (IntKind.u64.wrap n)),h):=xA aGZ aMV
theorem aDH{h:H}{n:Int}{K:IntKind}:gE env.P h 3 5 (.d (.int K n))=some (.d (.int .u8 (IntKind.u8.wrap n)),h):=xA aGZ aDT
theorem aD5{h:H}{n:Int}{K:IntKind}:gE env.P h 5 3 (.d (.int K n))=some (nI (IntKind.i64.wrap n),h):=xA aDT aGZ
def ints(l:List Int):List D:=l.map (.int .i64)
def a7(l:List UInt8):List D:=l.map fun b=>.int .u8 b.toNat
abbrev rdO(c:List UInt8)(p:Int):O:=.box [.d (.ivs c.length (a7 c)),nI p]
abbrev Dw(m f:Nat)(xs:List A)(r:A)(c:List UInt8)(p q:Int):Prop:=∀(R:Type) (L n:Nat) (hq:H) (k:KA R),m<=n->2^60<=L->aW env (aA env L n) (rdO c p::hq) f (.ptr 0 0 0::xs) k=k r (rdO c q::hq)
abbrev KC(d L:Nat)(f:Nat)(xs:List A)(r:A):Prop:=∀(R:Type) (n:Nat) (hq:H) (k:KA R),d<=n->aW env (aA env L n) hq f xs k=k r hq
theorem ks{d L:Nat}{f:Nat}{xs:List A}{r:A}(h2:∀ {n:Nat},d<=n->aA env L n f xs []=some (r,[]))(h1:xs.all x4=true:=by rfl)(h3:idsA r=[]:=by rfl)(h4:iA r=true\/((env.hint f).mode==1||(env.hint f).mode==3)=false:=by first|exact .inl rfl|exact .inr rfl):KC d L f xs r:=fun _ _ _ _ hn=>cS h1 (h2 hn) h3 h4
abbrev KT(d L:Nat)(f:Nat)(xs:List A)(r:A):Prop:=∀(R:Type) (n:Nat) (k:A->Option R),d<=n->mU (aA env L n) f xs k=k r
theorem kt{d L:Nat}{f:Nat}{xs:List A}{r:A}(h2:∀ {n:Nat},d<=n->aA env L n f xs []=some (r,[]))(h:iA r=true:=by rfl):KT d L f xs r:=fun _ _ _ hn=>oQ (h2 hn) h
abbrev KV(L:Nat)(f:Nat)(xs:List A):Prop:=∀(R:Type) (n:Nat) (hq:H) (k:KA R),aW env (aA env L n) hq f xs k=match box (W7 hq xs)with
 |.mk (some fs)=>mU (aA env L n) f fs fun r=>k r hq
 |_=>none
theorem aMo:cN env.P 104=some 3:=by simp only[cN,aSB]
theorem aJ2:cN env.P 42=some 5:=by simp only[cN,aDF]
theorem fE{l:List Int}:(ints l).length=l.length:=by simp[ints]
theorem aEM{l:List Int}{v:Int}:ints l++[.int .i64 v]=ints (l++[v]):=by simp[ints]
theorem gY:ints []=[]:=rfl
theorem eW{l:List Int}{k:Nat}(h:l.length<=k):(ints l).take k=ints l:=Ca (by rw[fE];exact h)
theorem WA{l:List Int}{k:Nat}(h:k<l.length):(((ints l).drop k).map A.d).head? =some (nI (l.getD k 0)):=by
 rw[List.head?_map,Dc,ints,Bb,Aa,Ae h];rfl
section
theorem GF{α:Type}(f:α->D)(l:List α)(k:Nat)(v:α)(h:k<l.length):bD (l.map f) k [f v]=(l.set k v).map f:=by
 unfold bD;rw[List.map_set];have:k<(l.map f).length:=by simpa using h
 generalize l.map f=m at *;rw[Ej,if_pos this];simp
theorem pL{l:List UInt8}:(a7 l).length=l.length:=by simp[a7]
theorem aMm:a7 []=[]:=rfl
theorem aML{e g:Nat}:O.arr [] e g=O.arr (a7 []) e g:=rfl
theorem aOD{e g:Nat}:O.arr [] e g=O.arr (ints []) e g:=rfl
theorem aAa{l:List UInt8}{v:UInt8}:a7 l++[.int .u8 (v.toNat:Int)]=a7 (l++[v]):=by simp[a7]
theorem MP{l:List UInt8}{k:Nat}(h:l.length<=k):(a7 l).take k=a7 l:=Ca (by rw[pL];exact h)
theorem ZQ{l:List UInt8}{k:Nat}(h:k<l.length):(((a7 l).drop k).map A.d).head? =some (.d (.int .u8 ((l.getD k 0).toNat:Int))):=by
 rw[List.head?_map,Dc,a7,Bb,Aa,Ae h];rfl
theorem aL4{l:List UInt8}{k:Nat}{v:UInt8}(h:k<l.length):bD (a7 l) k [.int .u8 (v.toNat:Int)]=a7 (l.set k v):=GF _ l k v h
theorem aAK{l:List Int}{k:Nat}{v:Int}(h:k<l.length):bD (ints l) k [.int .i64 v]=ints (l.set k v):=GF _ l k v h
theorem aFw:∀l:List UInt8,H0 (a7 l)=some l
 | []=>rfl
 |b::l=>by
  have ih:=aFw l;unfold a7 at ih|-;simp only[Af,H0,ih,Ay];simp
theorem getElem?_zero_cons {o:O} {h:H}:(o::h)[0]? =some o:=rfl
theorem sY{l:List UInt8}{g len:Nat}{h:H}(hl:len=l.length):gE env.P (.arr (a7 l) 1 g::h) 42 9 (.sl 0 g 0 len)=some (.d (.str l),.arr (a7 l) 1 g::h):=by
 subst hl;simp only[gE,aDF,aHs,aDT,cG,getElem?_zero_cons,pL,or_true,Bu,Ag,Ad,and_self,if_true,Ax,MP (Ad _),aFw,Ay]
theorem aAN{α:Type}(x:α):∀n:Nat,(List.replicate n [x]).flatten=List.replicate n x
 |0=>rfl
 |n+1=>by simp[Dr,aAN x n]
theorem aLm{n:Int}{h:H}(h0:0<=n)(h1:n<=4294967296):fG env.P h 42 n n=some (.sl h.length 0 0 n.toNat,h++[.arr (a7 (List.replicate n.toNat 0)) 1 0]):=by
 have hm:n<=(bI:Nat):=by unfold bI;omega
 simp only[fG,aJ2,aQ6,aU,vF,Ay,aQ2,h0,hm,aD6,Cb,and_self,if_true,aAN,a7,List.map_replicate]<;>rfl
theorem DW{n:Int}{h:H}(h0:0<=n)(h1:n<=4294967296):fG env.P h 104 n n=some (.sl h.length 0 0 n.toNat,h++[.arr (ints (List.replicate n.toNat 0)) 1 0]):=by
 have hm:n<=(bI:Nat):=by unfold bI;omega
 simp only[fG,aMo,aSY,aU,vF,Ay,aSW,h0,hm,QH,Cb,and_self,if_true,aAN,ints,List.map_replicate]
theorem aBr{i:Int}{s:List UInt8}(h0:0<=i)(h:i<s.length):OL env.P 9 (.d (.str s)) i=some (.d (.int .u8 ((s.getD i.toNat 0).toNat))):=by
 have hk:i.toNat<s.length:=om;simp only[OL,aHs,if_pos h0,Aa,Ae hk,Ay,Bd]
theorem take_set{α:Type}{l:List α}{k:Nat}{v:α}(h:k<l.length):(l.set k v).take (k+1)=l.take k++[v]:=by
 rw[List.take_set,Dt,Ae h];simp only[Option.toList_some];have hl:(l.take k).length=k:=by rw[Cv];omega
 rw[List.set_append_right _ _ om,hl,Cp];rfl
theorem aRW{o:O}{h:H}{id:Nat}(hs:h[id]? =some o):h.set id o=h:=by
 apply Cj;intro j;rw[Cu];obtain⟨hl,he⟩:=At.1 hs
 by_cases e:id=j
 ·subst e;simp[hl,he]
 ·simp[e]
theorem yH{h:H}{id gen off esz:Nat}{t:TypeId}{cs:List D}{d:D}(hid:h[id]? =some (.arr cs esz gen))(c1:env.P.cellsOf t=1)(hi:(env.P.info? t).isSome=true)(hd:dE (.d d)=true)(hk:off<cs.length):
  iW env.P h t (.ptr id gen off) (.d d)=some (h.set id (.arr (bD cs off [d]) esz gen)):=by
 have hc:(aU (.d d)).length=env.P.cellsOf t/\(env.P.info? t).isSome=true/\(aU (.d d)).all dE=true:=⟨by rw[c1];rfl,hi,by simp[aU,hd]⟩
 have hf:frzL h (aU (.d d))=some ([d],h):=rfl;unfold iW;rw[if_pos hc];simp only[hid,hf,c1,true_and];rw[if_pos om]
theorem aQR:(env.P.info? 5).isSome=true:=kr
theorem aLA:(env.P.info? 3).isSome=true:=kr
theorem aN0:(env.P.info? 4).isSome=true:=kr
theorem aNJ:env.P.cellsOf 4=1:=kr
theorem aIA{h:H}{g e k:Nat}{l:List UInt8}{b:UInt8}(hk:k<l.length):iW env.P (.arr (a7 l) e g::h) 5 (.ptr 0 g k) (.d (.int .u8 (b.toNat:Int)))=some (.arr (a7 (l.set k b)) e g::h):=by
 rw[yH (id:=0) rfl aD6 aQR rfl (by rw[pL];exact hk),aL4 hk];rfl
theorem GR{h:H}{g e k:Nat}{l:List Int}{b:Int}(hk:k<l.length):iW env.P (.arr (ints l) e g::h) 3 (.ptr 0 g k) (nI b)=some (.arr (ints (l.set k b)) e g::h):=by
 rw[yH (id:=0) rfl QH aLA rfl (by rw[fE];exact hk),aAK hk];rfl
theorem aLj{o:O}{h:H}{g e k:Nat}{l:List Int}{b:Int}(hk:k<l.length):iW env.P (o::.arr (ints l) e g::h) 3 (.ptr 1 g k) (nI b)=some (o::.arr (ints (l.set k b)) e g::h):=by
 rw[yH (id:=1) rfl QH aLA rfl (by rw[fE];exact hk),aAK hk];rfl
section
variable{t:TypeId}{h:H}{a b:List UInt8}
theorem aCR:cA env .eql t h (.d (.str a)) (.d (.str b))=some (.d (.bool (a==b)),h):=by simp[cA,aBin]
theorem aDn:cA env .neq t h (.d (.str a)) (.d (.str b))=some (.d (.bool (!(a==b))),h):=by simp[cA,aBin]
theorem aB6(hl:a.length+b.length<=4294967296):cA env .add t h (.d (.str a)) (.d (.str b))=some (.d (.str (a++b)),h):=by
 have:a.length+b.length<=bI:=hl;simp[cA,aBin,this]
end
theorem toNat_lt(b:UInt8):b.toNat<256:=b.toNat_lt
theorem aHH{b:UInt8}:IntKind.i64.wrap (b.toNat:Int)=b.toNat:=dM om (by have:=toNat_lt b;omega)
theorem IG{l:List UInt8}{n:Nat}{lo hi:Option Int}{h:H}(hn:n=l.length)(h0:0<=lo.getD 0)(h1:lo.getD 0<=hi.getD l.length)(h2:hi.getD l.length<=l.length):jR env.P h 42 (.d (.ivs n (a7 l))) lo hi=some (.d (.ivs ((l.drop (lo.getD 0).toNat).take ((hi.getD l.length).toNat-(lo.getD 0).toNat)).length (a7 ((l.drop (lo.getD 0).toNat).take ((hi.getD l.length).toNat-(lo.getD 0).toNat))))):=by
 subst hn;simp only[jR,aDF,aD6,wW,h0,h1,h2,and_self,if_true,Bu,Ay,Nat.zero_lt_one,a7,List.map_take,List.map_drop]
 congr 3
 rw[Cv,Bj];omega
theorem ZN{l:List UInt8}{n:Nat}{u:Int}{h:H}(hn:n=l.length)(h0:0<=u)(h1:u<=l.length):jR env.P h 42 (.d (.ivs n (a7 l))) none (some u)=some (.d (.ivs (l.take u.toNat).length (a7 (l.take u.toNat)))):=by
 rw[IG hn sm (by simpa using h0) (by simpa using h1)];simp
theorem Q0{l:List UInt8}{n:Nat}{u:Int}{h:H}(hn:n=l.length)(h0:0<=u)(h1:u<=l.length):jR env.P h 42 (.d (.ivs n (a7 l))) (some u) none=some (.d (.ivs (l.drop u.toNat).length (a7 (l.drop u.toNat)))):=by
 rw[IG hn (by simpa using h0) (by simpa using h1) sm];have:(List.take (l.length-u.toNat) (l.drop u.toNat))=l.drop u.toNat:=Ca sm;simp[this]
theorem aBw{h:H}{a b:Bool}:cA env .eql 4 h (.d (.bool a)) (.d (.bool b))=some (.d (.bool (a==b)),h):=by simp[cA,aBin,aNil,aOC,eqlA]
theorem aCP{h:H}{a b:Bool}:cA env .neq 4 h (.d (.bool a)) (.d (.bool b))=some (.d (.bool (!(a==b))),h):=by simp[cA,aBin,aNil,aOC,eqlA]
theorem LB:type_of% (AI @pL (AI @fE (AI @ZQ (AI @WA (AI @MP (AI @eW (AI @aAa (AI @aEM (AI @aBr (AI @aCR (AI @aDn (AI @aB6 (AI @aHH (AI @aBw (AI @aCP @Ct))))))))))))))):=
 ⟨@pL,@fE,@ZQ,@WA,@MP,@eW,@aAa,@aEM,@aBr,@aCR,@aDn,@aB6,@aHH,@aBw,@aCP,@Ct⟩
theorem CV:type_of% (AI @ZN @Q0):=
 ⟨@ZN,@Q0⟩
theorem DN:type_of% (AI @WD (AI @aBp (AI @WDD @CV))):=
 ⟨@WD,@aBp,@WDD,@CV⟩
theorem Dz{p:Prop}(h:p:=by first|assumption|exact⟨by kernel_rfl⟩|omega|(simp only[GT,LN]<;>omega)):p:=h
theorem UP:type_of% (AI @SLM (AI @WK (AI @UN (AI @TY (AI @LB (AI @MD @dM)))))):=
 ⟨@SLM,@WK,@UN,@TY,@LB,@MD,@dM⟩
end
def gnd:Gnd:=⟨[(1,(Lib.deBruijn64tab.map fun(n:Nat)=>Value.int .u8 (n:Int)).toArray)],false⟩
section
variable{G:Gnd}
open Go.RowKit Go.Lib
theorem X7{P:Program}{w w':World}{ops:Array Oper}{rest:List Oper}{o:Oper}{a:Act}{Q:Exit->Act->World->Prop}(hgd:o.guard=none)(s x:Operand)(t:TypeId)
  (ho:o.op=.call { callee:=.builtin .append,args:=#[s,x],argTypes:=#[t,t]}) {sv xv v:Value} (hs:a.eval s=sv) (hx:a.eval x=xv) (hrun:(Builtin.append_ #[t,t] o.type #[sv,xv]).run P w=.ok v w')
  (h:wpList P ops Q rest (a.put o.dst v) w'):wpList P ops Q (o::rest) a w:=
 wpList_plain hgd fun _ hK=>by
  unfold Oper.wp;simp[execOp,ho,resolve,invoke,builtin,hs,hx,hrun,Result.andThen];exact hK _ _ h
theorem aLz{esz:Nat}{x:A}{xv:Value}{n:Nat}{ds:List D}{h:H}{ρ:Rho}{w:World}{I:Nat->Prop}(he:cG h esz x=some (n,ds))(hns:∀s,x≠.d (.str s))(hz:0<esz)(r:Rel G h ρ w I)(hx:AR h ρ w I x xv):
  ∃a cap,xv=.slice a n cap/\n<=cap/\(a=none->n=0):=by
 unfold cG at he
 split at he
 ·cases he;simp only[AR,DR]at hx
  obtain⟨a,rfl⟩:=hx;exact⟨a,0,rfl,Ad _,fun _=>rfl⟩
 ·split at he
  ·rename_i hl
   cases he;simp only[AR,DR]at hx
   obtain⟨a,cap,rfl,hc,hh⟩:=hx;refine⟨a,cap,rfl,hc,fun ha=> ?_⟩
   rcases hh with hh|⟨b,o,hb,_⟩
   ·rw[hh]at hl
    rcases De n with h0|h0
    ·exact h0
    ·have:=Nat.mul_pos h0 hz;simp at hl;omega
   ·rw[ha]at hb;cases hb
  ·cases he
 ·rename_i s;exact absurd rfl (hns s)
 ·rename_i id gen off len
  split at he
  ·rename_i cs e g hid
   split at he
   ·rename_i hc
    cases he;simp only[AR]at hx
    obtain⟨a,cap,rfl,hs⟩:=hx;simp only[slOK,hid]at hs;have h2:=hs.2 hc.1.symm;refine⟨a,cap,rfl,h2.1,fun ha=> ?_⟩;have h3:=h2.2
    split at h3
    ·omega
    ·rcases h3 with h3|h3
     ·omega
     ·rw[ha]at h3;cases h3.1
   ·cases he
  ·rename_i cs e g hid
   split at he
   ·rename_i hc
    cases he;simp only[AR]at hx
    obtain⟨a,cap,rfl,hs⟩:=hx;simp only[slOK,hid]at hs;have h2:=hs.2 hc.1.symm;refine⟨a,cap,rfl,h2.1,fun ha=> ?_⟩
    rcases h2.2 with h3|⟨_,b,hb,_⟩
    ·exact h3
    ·rw[ha]at hb;cases hb
   ·cases he
  ·cases he
 ·cases he
theorem aLZ:C7 G Tryz.prog 90 (HK 1):=by
 intro k args h x h' he;simp only at he
 split at he
 ·rename_i hk
  subst hk;refine⟨⟨_,Tryz.func90,by kernel_rfl,by kernel_rfl⟩,fun ρ w I vs r ha=> ?_⟩;unfold HK at he
  split at he
  ·cases he
  ·rename_i y hns
   split at he
   ·rename_i n cs hsc
    split at he
    ·rename_i hn
     cases he;obtain⟨xv,rest,rfl,hx,hr⟩:=iG ha
     simp only[ARv]at hr;subst hr;have hns':∀s,y≠.d (.str s):=fun s hy=>by subst hy;exact hns s rfl
     obtain⟨a,cap,rfl,hcap,hnil⟩:=aLz hsc hns' om r hx;have hu:=Tryz.underlying24;have q22:∀(w:World) (a:Option Addr) (n c n' c':Nat),(binOp .eql 24 (.slice a n c) (.slice none n' c')).run Tryz.prog w=.ok (.bool a.isNone) w:=fun w a n c n' c'=>Lib.run_eql_slice_nil w _ _ a n c n' c' hu
     by_cases hnone:a.isNone=true
     ·have hn0:n=0:=hnil (by simpa using hnone);subst hn0
      have hs0:cs=[]:=by
       have:=(zS (P:=Tryz.prog) hsc r hx).2.1
       simpa using this
      subst hs0;have s1:=fU r (Grew.refl w) (.arr [] 1 0) none sm (fun _=>by simp[OR,bA])
      have hsl:AR (h++[.arr [] 1 0]) (upd ρ h.length none) w I (.sl h.length 0 0 0) (.slice none 0 0):=by
       simp only[AR];refine⟨none,0,rfl,?_⟩;have e1:(h++[O.arr [] 1 0])[h.length]? =some (.arr [] 1 0):=sm;simp only[slOK,e1,bA];simp
      clear hx ha hsc
      go_enter Tryz.func90,Tryz.ntmps90
      go_wp2_with fail
      go_ret
      exact⟨_,rfl,upd ρ h.length none,I,s1,hsl⟩
     ·have hnone':a.isNone=false:=by cases a<;>simp_all
      have s1:=K6 r (Grew.push w (Obj.cells #[] 4));have hx1:=iY s1.ext y _ hx;have hel:cN Tryz.prog 24=some 4:=kr;have hok:d5 Tryz.prog 4=true:=kr;have hce:Tryz.prog.cellsOf 4=1:=kr
      have hap:j2 Tryz.prog h 24 (.d .nils) y=some (.sl h.length 0 0 n,h++[.arr cs 1 0]):=by
       simp only[j2,hel,hok,hce,hsc,if_true,hn]
      obtain⟨v,ρ',w',I',hrun,st,ar⟩:=F2 (P:=Tryz.prog) (ty:=24) hu (fun k hk=>by cases hk) hap s1.rel (sv:=.slice (some ⟨w.heap.size,0,none⟩) 0 0) (by simp only[AR,DR];exact⟨_,rfl⟩) hx1;have fin:=s1.trans st;clear hx ha hsc hx1 s1 st
      go_enter Tryz.func90,Tryz.ntmps90
      go_wp2_with (at_builtin;refine X7 rfl _ _ 24 rfl rfl rfl hrun ?_)
      go_wp2
      go_ret
      exact⟨v,ρ',I',rfl,fin,ar⟩
    ·cases he
   ·cases he
  ·cases he
 ·cases he
end
section
variable{R:Type}{L n:Nat}
def cH(l x y:Int):Int:=if l=x then y else if l=y then x else l
def aT(x:Int):Bool:=decide (0<=x/\x<6)
def bH(x:Int):Bool:=decide (0<=x/\x<=63)
theorem K9(hn:1<=n)(a:Int):aA env L n 124 [nI a] []=some (.d (.bool (bH a)),[]):=by
 obtain _|n:=n;omega
 simp-implicitDefEqProofs (maxSteps:=9^7) (disch:=try exact Dz) only[↓DN,↓kAsg,↓kRet,UP,simprocAttr,aBz,OP,Tryz.f124]
 by_cases h:0<=a<;>simp[h,bH]
theorem dN:type_of% fun {L} a=>ks fun hn=> @K9 L _ hn a:=fun {L} a=>ks fun hn=> @K9 L _ hn a
theorem JS(hn:1<=n)(a:Int):aA env L n 84 [nI a] []=some (.d (.bool (bH a)),[]):=by
 obtain _|n:=n;omega
 simp-implicitDefEqProofs (maxSteps:=9^7) (disch:=try exact Dz) only[↓DN,↓kAsg,↓kRet,UP,simprocAttr,aDh,N3,Tryz.f84]
 by_cases h:0<=a<;>simp[h,bH]
theorem bR:type_of% fun {L} a=>ks fun hn=> @JS L _ hn a:=fun {L} a=>ks fun hn=> @JS L _ hn a
theorem QL(hn:1<=n)(a:Int):aA env L n 86 [nI a] []=some (.d (.bool (aT a)),[]):=by
 obtain _|n:=n;omega
 simp-implicitDefEqProofs (maxSteps:=9^7) (disch:=try exact Dz) only[↓DN,↓kAsg,↓kRet,UP,simprocAttr,aGf,TU,Tryz.f86]
 by_cases h:0<=a<;>simp[h,aT]
theorem fF:type_of% fun {L} a=>ks fun hn=> @QL L _ hn a:=fun {L} a=>ks fun hn=> @QL L _ hn a
theorem TI(hn:1<=n)(l x y:Int):aA env L n 87 [nI l,nI x,nI y] []=some (nI (cH l x y),[]):=by
 obtain _|n:=n;omega
 simp-implicitDefEqProofs (maxSteps:=9^7) (disch:=try exact Dz) only[↓DN,↓kAsg,↓kRet,UP,simprocAttr,aIB,YR,Tryz.f87];unfold cH
 split
 ·rfl
 ·split<;>rfl
theorem yZ:type_of% fun {L} l x y=>ks fun hn=> @TI L _ hn l x y:=fun {L} l x y=>ks fun hn=> @TI L _ hn l x y
def bG(a i:Int):Bool:=decide ((a.fdiv (2^(min i.toNat 64))) % 2=1)
def bitI(n:Int):Int:=IntKind.i64.wrap (1*2^(min n.toNat 64))
theorem toNat_ofInt(x:Int):((BitVec.ofInt 64 x).toNat:Int)=x % 18446744073709551616:=by
 rw[BitVec.toNat_ofInt];omega
theorem aJj(x:Int):iAnd .i64 x 1=x % 2:=by
 unfold iAnd
 have h1:(BitVec.ofInt IntKind.i64.bits x&&&BitVec.ofInt IntKind.i64.bits 1).toNat=(BitVec.ofInt 64 x).toNat % 2:=by
  change (BitVec.ofInt 64 x&&&BitVec.ofInt 64 1).toNat=_
  rw[BitVec.toNat_and];exact Nat.and_one_is_mod _
 rw[h1];have h2:=toNat_ofInt x;rw[dM om om];omega
theorem aCF:IntKind.i64.bits=64:=rfl
theorem aCj(hn:1<=n)(a i:Int)(hi:0<=i)(hi2:i<=9223372036854775807):aA env L n 116 [nI a,nI i] []=some (.d (.bool (bG a i)),[]):=by
 obtain _|n:=n;omega
 simp-implicitDefEqProofs (maxSteps:=9^7) (disch:=try exact Dz) only[↓DN,↓kAsg,↓kRet,UP,simprocAttr,↓aGv,aG9,aJj,aCF,aLQ,aEF,Tryz.f116]<;>rfl
theorem kF:type_of% fun {L} a i hi hi2=>ks fun hn=> @aCj L _ hn a i hi hi2:=fun {L} a i hi hi2=>ks fun hn=> @aCj L _ hn a i hi hi2
theorem aJh(hn:1<=n)(a i:Int):aA env L n 120 [nI a,nI i] []=some (.d (.bool (decide (0<=i)&&bG a i)),[]):=by
 obtain _|n:=n;omega
 simp-implicitDefEqProofs (maxSteps:=9^7) (disch:=try exact Dz) only[↓DN,↓kAsg,↓kRet,UP,simprocAttr,aJj,aCF,aPL,aLe,Tryz.f120]
 by_cases h:0<=i<;>simp[h,bG]
theorem jA:type_of% fun {L} a i=>ks fun hn=> @aJh L _ hn a i:=fun {L} a i=>ks fun hn=> @aJh L _ hn a i
def aC(a:Int):List Int:=[0,1,2,3,4,5].filter (bG a)
def aLn(x y:Int)(out l:Int):Int:=iOr .i64 out (bitI (cH l x y))
def bO(a x y:Int):Int:=if bH a&&aT x&&aT y then(aC a).foldl (aLn x y) 0 else -1
theorem LM{l x y:Int}(hl:0<=l)(hx:0<=x)(hy:0<=y):0<=cH l x y:=by
 unfold cH;split
 ·exact hy
 ·split<;>assumption
theorem aAw{l x y b:Int}(hl:l<=b)(hx:x<=b)(hy:y<=b):cH l x y<=b:=by
 unfold cH;split
 ·exact hy
 ·split<;>assumption
def rF:Nat->List Int
 |0=>[]
 |j+1=>(6-((j+1:Nat):Int))::rF j
theorem cU{x:Int}:aT x=true↔0<=x/\x<=5:=by
 unfold aT;simp;omega
theorem aAC(hn:1<=n){a:Int}{k:KE R}:∀(j:Nat) (i:Int) (l:List Int) (len m:Nat),i+j=6->0<=i->j<m->len=l.length->l.length+j<100->
  aS env (aA env L n) L 0 [0,0,0,2] Bz32 (s8 0) Bz55 m (nI a::Y1 (.d .nils::.sl 0 0 0 len::Y1 (nI i::Y8 (Y2 (Y1 ([])))))) [.arr (ints l) 1 0] k
  =k (.exit 0) (nI a::Y1 (.d .nils::.sl 0 0 0 (len+((rF j).filter (bG a)).length)::Y1 (nI 6::Y8 (Y2 (Y1 ([])))))) [.arr (ints (l++(rF j).filter (bG a))) 1 0]:=by
 intro j
 induction j with
 |zero=>
  intro i l len m hi h0 hm hl hlen;obtain _|m:=m;omega;obtain rfl:i=6:=om
  simp-implicitDefEqProofs (maxSteps:=9^7) (disch:=try exact Dz) only[↓DN,↓kRet,UP,simprocAttr,rI,qY,Tryz.f85];simp only[rF,List.filter_nil,Ah,Ab,Bm]
 |succ j ih=>
  intro i l len m hi h0 hm hl hlen;obtain _|m:=m;omega;have hc:i<6:=om;have hr:rF (j+1)=i::rF j:=by simp only[rF];congr 1;omega
  rw[hr,List.filter_cons]
  cases hb:bG a i with
  |true=>
   simp-implicitDefEqProofs (maxSteps:=9^7) (disch:=try exact Dz) only[↓DN,↓kRet,UP,simprocAttr,↓jA,↓ih,hc,hb,h0,rI,qY,Tryz.f85]
   try simp only[Ao,As,Am,Dd,Ck 1]
  |false=>
   simp-implicitDefEqProofs (maxSteps:=9^7) (disch:=try exact Dz) only[↓DN,↓kRet,UP,simprocAttr,↓jA,↓ih,hc,hb,h0,rI,qY,Tryz.f85]
theorem PU{R:Type}{L n m:Nat}(hn:1<=n){a:Int}{k:KE R}(hm:6<m):
  aS env (aA env L n) L 0 [0,0,0,2] Bz32 (s8 0) Bz55 m (nI a::Y1 (.d .nils::.sl 0 0 0 0::Y1 (nI 0::Y8 (Y2 (Y1 ([])))))) [.arr [] 1 0] k
  =k (.exit 0) (nI a::Y1 (.d .nils::.sl 0 0 0 (aC a).length::Y1 (nI 6::Y8 (Y2 (Y1 ([])))))) [.arr (ints (aC a)) 1 0]:=by
 have h:=aAC (R:=R) (L:=L) hn (a:=a) (k:=k) 6 0 [] 0 m rfl om hm rfl sm;simp only[Ag,Am]at h;exact h
theorem dD(a:Int):(aC a).length<=6:=by
 unfold aC;exact List.length_filter_le _ _
theorem NS(hn:2<=n)(a:Int)(hL:2^60<=L):aA env L n 85 [nI a] []=some (.d (.ivs (aC a).length (ints (aC a))),[]):=by
 obtain _|n:=n;omega
 simp-implicitDefEqProofs (maxSteps:=9^7) (disch:=try exact Dz) only[↓DN,↓kAsg,UP,simprocAttr,↓PU,aD0,RK,Tryz.f85]
theorem gI:type_of% fun {L} a hL=>ks fun hn=> @NS L _ hn a hL:=fun {L} a hL=>ks fun hn=> @NS L _ hn a hL
theorem aNj{α:Type}{d:α}{l:List α}{j:Nat}{i:Int}(hi:i=(l.length:Int)-((j+1:Nat):Int))(hj:j+1<=l.length):l.drop (l.length-(j+1))=l.getD i.toNat d::l.drop (l.length-j):=by
 have hp:i.toNat=l.length-(j+1):=om;rw[hp,Da om,Aa,Ae om]
 congr 2
 omega
theorem aAq{l:List Int}{P:Int->Prop}(h:∀v∈l,P v){k:Nat}(hk:k<l.length):P (l.getD k 0):=by
 rw[Aa,Ae hk];exact h _ (Ba hk)
theorem d7{a:Int}:∀v∈aC a,0<=v/\v<=5:=by
 intro v hv;have:=(Cz.1 hv).1;simp at this;omega
theorem SQ(hn:2<=n){x y:Int}(hx:0<=x)(hy:0<=y){l:List Int}(hl:∀v∈l,0<=v/\v<=5)(hlen:l.length<100){k:KE R}:∀(j:Nat) (i out:Int) (m:Nat),i=(l.length:Int)-(j:Int)->j<=l.length->j<m->
  aS env (aA env L n) L 0 [] Bz17 (m3 0) Bz41 m (Y1 (nI x::nI y::Y2 (Y1 (nI 0::nI out::Y16 (.d (.ivs l.length (ints l))::nI l.length::nI i::Y8 (Y4 ([]))))))) [] k
  =k (.exit 0) (Y1 (nI x::nI y::Y2 (Y1 (nI 0::nI ((l.drop (l.length-j)).foldl (aLn x y) out)::Y16 (.d (.ivs l.length (ints l))::nI l.length::nI l.length::Y8 (Y4 ([]))))))) []:=by
 intro j
 induction j with
 |zero=>
  intro i out m hi hj hm;obtain _|m:=m;omega;obtain rfl:i=l.length:=om
  simp-implicitDefEqProofs (maxSteps:=9^7) (disch:=try exact Dz) only[↓DN,↓kRet,UP,simprocAttr,Ak,xC,rT,Tryz.f32];simp only[Nat.sub_zero,Bl,List.foldl_nil]
 |succ j ih=>
  intro i out m hi hj hm;obtain _|m:=m;omega;have hc:i<l.length:=om;have h0:0<=i:=om;have hk:i.toNat<l.length:=om;have hv:=aAq hl hk;have hs1:=LM hv.1 hx hy
  simp-implicitDefEqProofs (maxSteps:=9^7) (disch:=try exact Dz) only[↓DN,↓kRet,UP,simprocAttr,↓yZ,↓ih,hc,aCF,xC,rT,Tryz.f32];rw[aNj (d:=0) hi hj];rfl
theorem JL{R:Type}{L n m:Nat}(hn:2<=n){x y:Int}(hx:0<=x)(hy:0<=y){l:List Int}(hl:∀v∈l,0<=v/\v<=5)(hlen:l.length<100)(hm:l.length<m){k:KE R}:
  aS env (aA env L n) L 0 [] Bz17 (m3 0) Bz41 m (Y1 (nI x::nI y::Y2 (Y1 (nI 0::nI 0::Y16 (.d (.ivs l.length (ints l))::nI l.length::nI 0::Y8 (Y4 ([]))))))) [] k
  =k (.exit 0) (Y1 (nI x::nI y::Y2 (Y1 (nI 0::nI (l.foldl (aLn x y) 0)::Y16 (.d (.ivs l.length (ints l))::nI l.length::nI l.length::Y8 (Y4 ([]))))))) []:=by
 have h:=SQ (R:=R) (L:=L) hn hx hy hl hlen (k:=k) l.length 0 0 m om (Ad _) hm
 simpa only[Cp,Ax]using h
theorem E7(hn:3<=n)(a x y:Int)(hL:2^60<=L):aA env L n 32 [nI a,nI x,nI y] []=some (nI (bO a x y),[]):=by
 unfold bO
 cases ha:bH a with
 |false=>
  obtain _|n:=n;omega
  simp-implicitDefEqProofs (maxSteps:=9^7) (disch:=try exact Dz) only[↓DN,↓kAsg,↓kRet,UP,simprocAttr,↓bR,ha,m6,lG,Tryz.f32]
 |true=>
  cases hx:aT x with
  |false=>
   obtain _|n:=n;omega
   simp-implicitDefEqProofs (maxSteps:=9^7) (disch:=try exact Dz) only[↓DN,↓kAsg,↓kRet,UP,simprocAttr,↓bR,↓fF,ha,hx,m6,lG,Tryz.f32]
  |true=>
   cases hy:aT y with
   |false=>
    obtain _|n:=n;omega
    simp-implicitDefEqProofs (maxSteps:=9^7) (disch:=try exact Dz) only[↓DN,↓kAsg,↓kRet,UP,simprocAttr,↓bR,↓fF,ha,hx,hy,m6,lG,Tryz.f32]
   |true=>
    have bx:=cU.1 hx;have by':=cU.1 hy
    have hin:=d7 (a:=a);have hll:=dD a;obtain _|n:=n;omega
    simp-implicitDefEqProofs (maxSteps:=9^7) (disch:=try exact Dz) only[↓DN,↓kAsg,↓kRet,UP,simprocAttr,↓bR,↓fF,↓gI,ha,hx,hy,↓JL,m6,lG,Tryz.f32]
theorem kB:type_of% fun {L} a x y hL=>ks fun hn=> @E7 L _ hn a x y hL:=fun {L} a x y hL=>ks fun hn=> @E7 L _ hn a x y hL
end
section
variable{R:Type}{L n:Nat}
structure Edge where
 fr:Int
 lt:Int
 to:Int
 deriving DecidableEq,Inhabited
def aQG(e:Edge):List D:=[.int .i64 e.fr,.int .i64 e.lt,.int .i64 e.to]
def aJ(l:List Edge):List D:=(l.map aQG).flatten
theorem mF:aJ []=[]:=rfl
theorem f8(e:Edge)(l:List Edge):aJ (e::l)=.int .i64 e.fr::.int .i64 e.lt::.int .i64 e.to::aJ l:=rfl
theorem vJ{l:List Edge}:(aJ l).length=l.length*3:=by
 induction l with
 |nil=>rfl
 |cons e l ih=>rw[f8];simp only[Ac,ih];omega
theorem PL{a b:List Edge}:aJ a++aJ b=aJ (a++b):=by simp[aJ]
theorem JE:∀ {l:List Edge} {k:Nat},(aJ l).drop (k*3)=aJ (l.drop k)
 |l,0=>by simp
 | [],k+1=>by simp[mF]
 |e::l,k+1=>by
  have e:(k+1)*3=k*3+1+1+1:=om;rw[f8,e];simp only[Dg];exact JE
theorem r5:∀ {l:List Edge} {k:Nat},(aJ l).take (k*3)=aJ (l.take k)
 |l,0=>by simp[mF]
 | [],k+1=>by simp[mF]
 |e::l,k+1=>by
  have e2:(k+1)*3=k*3+1+1+1:=om;rw[f8,e2];simp only[Ds,r5 (l:=l) (k:=k),f8]
theorem kG{l:List Edge}{k:Nat}(h:l.length<=k):(aJ l).take (k*3)=aJ l:=by rw[r5,Ca h]
theorem oC{l:List Edge}{k:Nat}(h:k<l.length):(aJ l).drop (k*3)=.int .i64 (l.getD k default).fr::.int .i64 (l.getD k default).lt::.int .i64 (l.getD k default).to::aJ (l.drop (k+1)):=by
 rw[JE,Da h,f8,Aa,Ae h];rfl
theorem aB7{l:List Edge}{a b c:Int}:aJ l++[.int .i64 a,.int .i64 b,.int .i64 c]=aJ (l++[⟨a,b,c⟩]):=by simp[aJ,aQG]
theorem LE:type_of% (AI @vJ (AI @oC (AI @kG @aB7))):=
 ⟨@vJ,@oC,@kG,@aB7⟩
def cmpI(a b:Int):Int:=if a<b then -1 else if b<a then 1 else 0
theorem IY(hn:1<=n)(a:Int):aA env L n 206 [nI a] []=some (.d (.bool false),[]):=by
 obtain _|n:=n;omega
 simp-implicitDefEqProofs (maxSteps:=9^7) (disch:=try exact Dz) only[↓DN,↓kAsg,↓kRet,UP,simprocAttr,aAB,qP,Tryz.f206]
theorem wC:type_of% fun {L} a=>ks fun hn=> @IY L _ hn a:=fun {L} a=>ks fun hn=> @IY L _ hn a
theorem C8(hn:2<=n)(a b:Int):aA env L n 143 [nI a,nI b] []=some (nI (cmpI a b),[]):=by
 unfold cmpI
 by_cases h1:a<b
 ·obtain _|n:=n;omega
  simp-implicitDefEqProofs (maxSteps:=9^7) (disch:=try exact Dz) only[↓DN,↓kAsg,↓kRet,UP,simprocAttr,↓wC,h1,rM,eH,Tryz.f143]
 ·by_cases h2:b<a
  ·obtain _|n:=n;omega
   simp-implicitDefEqProofs (maxSteps:=9^7) (disch:=try exact Dz) only[↓DN,↓kAsg,↓kRet,UP,simprocAttr,↓wC,h1,h2,rM,eH,Tryz.f143]
  ·obtain _|n:=n;omega
   simp-implicitDefEqProofs (maxSteps:=9^7) (disch:=try exact Dz) only[↓DN,↓kAsg,↓kRet,UP,simprocAttr,↓wC,h1,h2,rM,eH,Tryz.f143]
theorem UC:type_of% fun {L} a b=>ks fun hn=> @C8 L _ hn a b:=fun {L} a b=>ks fun hn=> @C8 L _ hn a b
def d6:List Int->Int
 | []=>0
 |a::l=>if a=0 then d6 l else a
def cmpE(a b:Edge):Int:=d6 [cmpI a.fr b.fr,cmpI a.lt b.lt,cmpI a.to b.to]
def lz:List Int->Nat
 | []=>0
 |a::l=>if a=0 then lz l+1 else 0
theorem bP{α:Type}{l:List α}{i:Nat}{d:α}(h:i<l.length):l.drop i=l.getD i d::l.drop (i+1):=by
 rw[Da h,Aa,Ae h];rfl
theorem LC(hn:1<=n){l:List Int}(hl:l.length<=1000){k:KE R}:∀(i:Int) (m:Nat) (h0:0<=i) (hi:i<=l.length) (hm:(l.length:Int)-i<m),
  aS env (aA env L n) L 0 [] Bz38 (iL 0) Bz67 m (Y2 (nI 0::nI 0::Y2 (.d (.ivs l.length (ints l))::nI (l.length)::nI i::Y8 (Y1 ([]))))) [] k
  =if d6 (l.drop i.toNat)=0 then k (.exit 0) (Y2 (nI 0::nI 0::Y2 (.d (.ivs l.length (ints l))::nI (l.length)::nI (l.length)::Y8 (Y1 ([]))))) []else k .ret (Y2 (nI (d6 (l.drop i.toNat))::nI 0::Y2 (.d (.ivs l.length (ints l))::nI (l.length)::nI (i+lz (l.drop i.toNat))::Y8 (Y1 ([]))))) []:=by
 intro i m h0 hi hm;obtain⟨j,hj⟩:∃j:Nat,(j:Int)=(l.length:Int)-i:=⟨((l.length:Int)-i).toNat,by omega⟩
 induction j generalizing i m with
 |zero=>
  obtain _|m:=m;omega;obtain rfl:i=l.length:=om
  simp-implicitDefEqProofs (maxSteps:=9^7) (disch:=try exact Dz) only[↓DN,↓kRet,UP,simprocAttr,Ak,tZ,gO,Tryz.f142];simp only[Bl,d6,if_true]
 |succ j ih=>
  obtain _|m:=m;omega;have hc:i<l.length:=om;have hk:i.toNat<l.length:=om;have e1:(i+1).toNat=i.toNat+1:=om;rw[bP hk (d:=0)]
  by_cases hz:l.getD i.toNat 0=0
  ·simp-implicitDefEqProofs (maxSteps:=9^7) (disch:=try exact Dz) only[↓DN,↓kRet,UP,simprocAttr,hc,hz,↓ih,tZ,gO,Tryz.f142];simp only[d6,lz,if_true,e1,Int.natCast_add,Int.add_assoc,Int.add_comm 1]<;>rfl
  ·simp-implicitDefEqProofs (maxSteps:=9^7) (disch:=try exact Dz) only[↓DN,↓kRet,UP,simprocAttr,hc,hz,tZ,gO,Tryz.f142];simp only[d6,lz,hz,if_false,Aw,Int.add_zero]
theorem aGM(hn:2<=n)(l:List Int)(hl:l.length<=1000)(hL:2^60<=L):aA env L n 142 [.d (.ivs l.length (ints l))] []=some (nI (d6 l),[]):=by
 by_cases hz:d6 l=0
 ·obtain _|n:=n;omega
  simp-implicitDefEqProofs (maxSteps:=9^7) (disch:=try exact Dz) only[↓DN,↓kAsg,↓kRet,UP,simprocAttr,↓LC,Cf,hz,QZ,nU,Tryz.f142]
 ·obtain _|n:=n;omega
  simp-implicitDefEqProofs (maxSteps:=9^7) (disch:=try exact Dz) only[↓DN,↓kAsg,↓kRet,UP,simprocAttr,↓LC,Cf,hz,QZ,nU,Tryz.f142]
theorem aGq{k:A->Option R}(hn:2<=n)(l:List Int)(hl:l.length<=1000)(hL:2^60<=L):mU (aA env L n) 142 [.d (.ivs l.length (ints l))] k=k (nI (d6 l)):=
 oQ (aGM hn l hl hL) rfl
theorem aC4{L:Nat}{id0 g0 o0 len0:Nat}:KV L 142 [.sl id0 g0 o0 len0]:=fun _ _ _ _=>fI qX
theorem aQI{a b c:Int}:[D.int .i64 a,.int .i64 b,.int .i64 c]=ints [a,b,c]:=rfl
theorem E0(hn:4<=n)(a b c d e f:Int)(hL:2^60<=L):aA env L n 76 [.agg [nI a,nI b,nI c],.agg [nI d,nI e,nI f]] []=some (nI (cmpE ⟨a,b,c⟩ ⟨d,e,f⟩),[]):=by
 have k3:∀ {R:Type} {n:Nat} {k:A->Option R},2<=n->mU (aA env L n) 142 [.d (.ivs 3 (ints [cmpI a d,cmpI b e,cmpI c f]))] k=k (nI (d6 [cmpI a d,cmpI b e,cmpI c f])):=fun h=>aGq h [cmpI a d,cmpI b e,cmpI c f] sm hL;obtain _|n:=n;omega
 simp-implicitDefEqProofs (maxSteps:=9^7) (disch:=try exact Dz) only[↓DN,↓kAsg,↓kRet,UP,simprocAttr,↓UC,↓aC4,aQI,↓k3,YF,n8,Tryz.f76]<;>rfl
theorem EU:type_of% fun {L} a b c d e f hL=>ks fun hn=> @E0 L _ hn a b c d e f hL:=fun {L} a b c d e f hL=>ks fun hn=> @E0 L _ hn a b c d e f hL
def seek(p:Nat->Bool):Nat->Nat->Option Nat
 |0,_=>none
 |j+1,i=>if p i=true then some i else seek p j (i+1)
theorem jP{p:Nat->Bool}:∀ {j i:Nat},seek p j i=none↔∀k,i<=k->k<i+j->p k=false
 |0,i=>by simp only[seek,true_iff];intro k h1 h2;omega
 |j+1,i=>by
  simp only[seek]
  by_cases hp:p i=true
  ·rw[if_pos hp];simp only[false_iff,reduceCtorEq];intro h;have:=h i (Ad _) om;rw[hp]at this;cases this
  ·rw[if_neg hp,jP]
   constructor
   ·intro h k h1 h2
    by_cases e:k=i
    ·subst e;simpa using hp
    ·exact h k om om
   ·intro h k h1 h2;exact h k om om
theorem LZ{p:Nat->Bool}:∀ {j i r:Nat},seek p j i=some r->i<=r/\r<i+j/\p r=true/\∀k,i<=k->k<r->p k=false
 |0,i,r,h=>by simp[seek]at h
 |j+1,i,r,h=>by
  simp only[seek]at h
  by_cases hp:p i=true
  ·rw[if_pos hp]at h;cases h;exact⟨Ad _,by omega,hp,fun k h1 h2=>by omega⟩
  ·rw[if_neg hp]at h;obtain⟨h1,h2,h3,h4⟩:=LZ h;refine⟨by omega,by omega,h3,fun k k1 k2=> ?_⟩
   by_cases e:k=i
   ·subst e;simpa using hp
   ·exact h4 k om k2
theorem i7{p:Nat->Bool}{j i:Nat}(h:p i=true):seek p (j+1) i=some i:=by simp[seek,h]
theorem lC{p:Nat->Bool}{j i:Nat}(h:p i=false):seek p (j+1) i=seek p j (i+1):=by simp[seek,h]
structure Sys where
 al:Int
 st:Int
 es:List Edge
 deriving DecidableEq,Inhabited
def cD(al st:Int)(e:Edge):Bool:=decide (0<=e.fr)&&decide (e.fr<st)&&decide (0<=e.to)&&decide (e.to<st)&&decide (0<=e.lt)&&decide (e.lt<6)&&bG al e.lt
def cK(e f:Edge):Bool:=if e.fr=f.fr then(if e.lt=f.lt then decide (e.to<f.to)else decide (e.lt<f.lt))else decide (e.fr<f.fr)
def kJ(al st:Int)(l:List Edge)(i:Nat):Bool:=!cD al st (l.getD i default)||(decide (0<i)&& !cK (l.getD (i-1) default) (l.getD i default))
def bK(s:Sys):Bool:=bH s.al&&decide (1<=s.st)&&decide (s.st<=16)&&(seek (kJ s.al s.st s.es) s.es.length 0).isNone
theorem Z9(hn:2<=n)(al st a b c:Int):aA env L n 102 [nI al,nI st,.agg [nI a,nI b,nI c]] []=some (.d (.bool (cD al st ⟨a,b,c⟩)),[]):=by
 by_cases hq1:(a<0)
 ·obtain _|n:=n;omega
  simp-implicitDefEqProofs (maxSteps:=9^7) (disch:=try exact Dz) only[↓DN,↓kAsg,↓kRet,UP,simprocAttr,hq1,mJ,lS,Tryz.f102]
  all_goals (first|(simp[cD];done)|(simp[cD];omega)|(simp[cD];intros;omega)|(simp only[cD];rw[decide_eq_true (show 0<=a by omega),decide_eq_true (show a<st by omega),decide_eq_true (show 0<=c by omega),decide_eq_true (show c<st by omega),decide_eq_true (show 0<=b by omega),decide_eq_true (show b<6 by omega)];simp))
 ·by_cases hq2:(st<=a)
  ·obtain _|n:=n;omega
   simp-implicitDefEqProofs (maxSteps:=9^7) (disch:=try exact Dz) only[↓DN,↓kAsg,↓kRet,UP,simprocAttr,hq1,hq2,mJ,lS,Tryz.f102]
   all_goals (first|(simp[cD];done)|(simp[cD];omega)|(simp[cD];intros;omega)|(simp only[cD];rw[decide_eq_true (show 0<=a by omega),decide_eq_true (show a<st by omega),decide_eq_true (show 0<=c by omega),decide_eq_true (show c<st by omega),decide_eq_true (show 0<=b by omega),decide_eq_true (show b<6 by omega)];simp))
  ·by_cases hq3:(c<0)
   ·obtain _|n:=n;omega
    simp-implicitDefEqProofs (maxSteps:=9^7) (disch:=try exact Dz) only[↓DN,↓kAsg,↓kRet,UP,simprocAttr,hq1,hq2,hq3,mJ,lS,Tryz.f102]
    all_goals (first|(simp[cD];done)|(simp[cD];omega)|(simp[cD];intros;omega)|(simp only[cD];rw[decide_eq_true (show 0<=a by omega),decide_eq_true (show a<st by omega),decide_eq_true (show 0<=c by omega),decide_eq_true (show c<st by omega),decide_eq_true (show 0<=b by omega),decide_eq_true (show b<6 by omega)];simp))
   ·by_cases hq4:(st<=c)
    ·obtain _|n:=n;omega
     simp-implicitDefEqProofs (maxSteps:=9^7) (disch:=try exact Dz) only[↓DN,↓kAsg,↓kRet,UP,simprocAttr,hq1,hq2,hq3,hq4,mJ,lS,Tryz.f102]
     all_goals (first|(simp[cD];done)|(simp[cD];omega)|(simp[cD];intros;omega)|(simp only[cD];rw[decide_eq_true (show 0<=a by omega),decide_eq_true (show a<st by omega),decide_eq_true (show 0<=c by omega),decide_eq_true (show c<st by omega),decide_eq_true (show 0<=b by omega),decide_eq_true (show b<6 by omega)];simp))
    ·by_cases hq5:(¬0<=b)
     ·obtain _|n:=n;omega
      simp-implicitDefEqProofs (maxSteps:=9^7) (disch:=try exact Dz) only[↓DN,↓kAsg,↓kRet,UP,simprocAttr,hq1,hq2,hq3,hq4,hq5,mJ,lS,Tryz.f102]
      all_goals (first|(simp[cD];done)|(simp[cD];omega)|(simp[cD];intros;omega)|(simp only[cD];rw[decide_eq_true (show 0<=a by omega),decide_eq_true (show a<st by omega),decide_eq_true (show 0<=c by omega),decide_eq_true (show c<st by omega),decide_eq_true (show 0<=b by omega),decide_eq_true (show b<6 by omega)];simp))
     ·have hq5:=Classical.not_not.1 hq5
      by_cases hq6:(¬b<6)
      ·obtain _|n:=n;omega
       simp-implicitDefEqProofs (maxSteps:=9^7) (disch:=try exact Dz) only[↓DN,↓kAsg,↓kRet,UP,simprocAttr,hq1,hq2,hq3,hq4,hq5,hq6,mJ,lS,Tryz.f102]
       all_goals (first|(simp[cD];done)|(simp[cD];omega)|(simp[cD];intros;omega)|(simp only[cD];rw[decide_eq_true (show 0<=a by omega),decide_eq_true (show a<st by omega),decide_eq_true (show 0<=c by omega),decide_eq_true (show c<st by omega),decide_eq_true (show 0<=b by omega),decide_eq_true (show b<6 by omega)];simp))
      ·have hq6:=Classical.not_not.1 hq6;obtain _|n:=n;omega
       simp-implicitDefEqProofs (maxSteps:=9^7) (disch:=try exact Dz) only[↓DN,↓kAsg,↓kRet,UP,simprocAttr,↓kF,hq1,hq2,hq3,hq4,hq5,hq6,mJ,lS,Tryz.f102]
       all_goals (first|(simp[cD];done)|(simp[cD];omega)|(simp[cD];intros;omega)|(simp only[cD];rw[decide_eq_true (show 0<=a by omega),decide_eq_true (show a<st by omega),decide_eq_true (show 0<=c by omega),decide_eq_true (show c<st by omega),decide_eq_true (show 0<=b by omega),decide_eq_true (show b<6 by omega)];simp))
theorem B0:type_of% fun {L} al st a b c=>ks fun hn=> @Z9 L _ hn al st a b c:=fun {L} al st a b c=>ks fun hn=> @Z9 L _ hn al st a b c
theorem RW(hn:1<=n)(a b c d e f:Int):aA env L n 169 [.agg [nI a,nI b,nI c],.agg [nI d,nI e,nI f]] []=some (.d (.bool (cK ⟨a,b,c⟩ ⟨d,e,f⟩)),[]):=by
 by_cases hq1:(¬a=d)
 ·obtain _|n:=n;omega
  simp-implicitDefEqProofs (maxSteps:=9^7) (disch:=try exact Dz) only[↓DN,↓kAsg,↓kRet,UP,simprocAttr,hq1,EB,x3,Tryz.f169]
  all_goals ((by_cases e1:a=d<;>by_cases e2:b=e<;>simp_all [cK]))
 ·have hq1:=Classical.not_not.1 hq1
  by_cases hq2:(¬b=e)
  ·obtain _|n:=n;omega
   simp-implicitDefEqProofs (maxSteps:=9^7) (disch:=try exact Dz) only[↓DN,↓kAsg,↓kRet,UP,simprocAttr,hq1,hq2,EB,x3,Tryz.f169]
   all_goals ((by_cases e1:a=d<;>by_cases e2:b=e<;>simp_all [cK]))
  ·have hq2:=Classical.not_not.1 hq2;obtain _|n:=n;omega
   simp-implicitDefEqProofs (maxSteps:=9^7) (disch:=try exact Dz) only[↓DN,↓kAsg,↓kRet,UP,simprocAttr,hq1,hq2,EB,x3,Tryz.f169]
   all_goals ((by_cases e1:a=d<;>by_cases e2:b=e<;>simp_all [cK]))
theorem RC:type_of% fun {L} a b c d e f=>ks fun hn=> @RW L _ hn a b c d e f:=fun {L} a b c d e f=>ks fun hn=> @RW L _ hn a b c d e f
theorem V6(hn:1<=n)(al st:Int)(z:Nat)(cs:List D)(q:Int):aA env L n 144 [.agg [nI al,nI st,.d (.ivs z cs)],nI q] []=some (.d (.bool (decide (0<=q)&&decide (q<st))),[]):=by
 by_cases hq1:(¬0<=q)
 ·obtain _|n:=n;omega
  simp-implicitDefEqProofs (maxSteps:=9^7) (disch:=try exact Dz) only[↓DN,↓kAsg,↓kRet,UP,simprocAttr,hq1,TL,MG,Tryz.f144]
  all_goals (simp_all)
 ·have hq1:=Classical.not_not.1 hq1;obtain _|n:=n;omega
  simp-implicitDefEqProofs (maxSteps:=9^7) (disch:=try exact Dz) only[↓DN,↓kAsg,↓kRet,UP,simprocAttr,hq1,TL,MG,Tryz.f144]
  all_goals (simp_all)
theorem gA:type_of% fun {L} al st z cs q=>ks fun hn=> @V6 L _ hn al st z cs q:=fun {L} al st z cs q=>ks fun hn=> @V6 L _ hn al st z cs q
theorem MF{e f:Edge}:decide (0<=cmpE e f)= !cK e f:=by
 unfold cmpE cK cmpI d6
 by_cases h1:e.fr<f.fr
 ·have:¬e.fr=f.fr:=om;simp[h1,this]
 ·by_cases h2:f.fr<e.fr
  ·have:¬e.fr=f.fr:=om;simp[h1,h2,this]
  ·have:e.fr=f.fr:=om;simp only[this,if_true,d6]
   by_cases h3:e.lt<f.lt
   ·have:¬e.lt=f.lt:=om;simp[h3,this]
   ·by_cases h4:f.lt<e.lt
    ·have:¬e.lt=f.lt:=om;simp[h3,h4,this]
    ·have:e.lt=f.lt:=om;simp only[this,if_true]
     by_cases h5:e.to<f.to
     ·simp[h5]
     ·by_cases h6:f.to<e.to<;>simp[h5,h6]
theorem U5(hn:3<=n){al st:Int}{l:List Edge}(hl:l.length<=4294967296){k:KE R}:∀(j:Nat) (i:Int) (m:Nat) (h0:0<=i) (hi:i+j=l.length) (hm:j<m),
  aS env (aA env L n) L 0 [] Bz35 (oN 0) Bz56 m (Y1 (.ptr 0 0 0::.d (.bool false)::nI i::Y32 (Y16 (Y2 (Y1 ([])))))) [.box [nI al,nI st,.d (.ivs l.length (aJ l))]] k
  =match seek (kJ al st l) j i.toNat with
   |none=>k (.exit 0) (Y1 (.ptr 0 0 0::.d (.bool false)::nI (l.length)::Y32 (Y16 (Y2 (Y1 ([])))))) [.box [nI al,nI st,.d (.ivs l.length (aJ l))]]
   |some r=>k .ret (Y1 (.ptr 0 0 0::.d (.bool false)::nI r::Y32 (Y16 (Y2 (Y1 ([])))))) [.box [nI al,nI st,.d (.ivs l.length (aJ l))]]:=by
 intro j
 induction j with
 |zero=>
  intro i m h0 hi hm;obtain _|m:=m;omega;obtain rfl:i=l.length:=om
  simp-implicitDefEqProofs (maxSteps:=9^7) (disch:=try exact Dz) only[↓DN,↓kRet,UP,simprocAttr,Ak,gW,iE,Tryz.f101]<;>rfl
 |succ j ih=>
  intro i m h0 hi hm;obtain _|m:=m;omega;have hc:i<l.length:=om;have hk:i.toNat<l.length:=om;have e1:(i+1).toNat=i.toNat+1:=om;have e2:(i-1).toNat=i.toNat-1:=om;have e3:((i.toNat:Nat):Int)=i:=om
  cases hb:kJ al st l i.toNat with
  |true=>
   rw[i7 hb]
   cases hb1:cD al st (l.getD i.toNat default)with
   |false=>
    simp-implicitDefEqProofs (maxSteps:=9^7) (disch:=try exact Dz) only[↓DN,↓kAsg,↓kRet,UP,simprocAttr,↓B0,LE,hc,hb1,e3,gW,iE,Tryz.f101]
   |true=>
    unfold kJ at hb;rw[hb1]at hb;simp only[Bool.not_true,Bool.false_or,Aj,decide_eq_true_eq,Dy]at hb;obtain⟨hz,hb3⟩:=hb;have hz:0<i:=om;have hk2:(i-1).toNat<l.length:=om;rw[<-e2]at hb3
    simp-implicitDefEqProofs (maxSteps:=9^7) (disch:=try exact Dz) only[↓DN,↓kAsg,↓kRet,UP,simprocAttr,↓B0,↓RC,LE,hc,hz,hb1,hb3,e3,gW,iE,Tryz.f101]
  |false=>
   rw[lC hb];unfold kJ at hb;simp only[Ei,Eb,Bool.and_eq_false_imp,decide_eq_true_eq]at hb;obtain⟨hb1,hb2⟩:=hb
   by_cases hz:0<i
   ·have hb3:=hb2 om;have hk2:(i-1).toNat<l.length:=om;rw[<-e2]at hb3
    simp-implicitDefEqProofs (maxSteps:=9^7) (disch:=try exact Dz) only[↓DN,↓kRet,UP,simprocAttr,↓B0,↓RC,LE,hc,hz,hb1,hb3,↓ih,e1,gW,iE,Tryz.f101]
   ·simp-implicitDefEqProofs (maxSteps:=9^7) (disch:=try exact Dz) only[↓DN,↓kRet,UP,simprocAttr,↓B0,LE,hc,hz,hb1,↓ih,e1,gW,iE,Tryz.f101]
theorem uP{R:Type}{L n m:Nat}(hn:3<=n){al st:Int}{l:List Edge}(hl:l.length<=4294967296){k:KE R}(hm:l.length<m):
  aS env (aA env L n) L 0 [] Bz35 (oN 0) Bz56 m (Y1 (.ptr 0 0 0::.d (.bool false)::nI 0::Y32 (Y16 (Y2 (Y1 ([])))))) [.box [nI al,nI st,.d (.ivs l.length (aJ l))]] k
  =match seek (kJ al st l) l.length 0 with
   |none=>k (.exit 0) (Y1 (.ptr 0 0 0::.d (.bool false)::nI (l.length)::Y32 (Y16 (Y2 (Y1 ([])))))) [.box [nI al,nI st,.d (.ivs l.length (aJ l))]]
   |some r=>k .ret (Y1 (.ptr 0 0 0::.d (.bool false)::nI r::Y32 (Y16 (Y2 (Y1 ([])))))) [.box [nI al,nI st,.d (.ivs l.length (aJ l))]]:=
 U5 hn hl l.length 0 m om om hm
theorem G4(hn:4<=n)(al st:Int)(l:List Edge)(hl:l.length<=4294967296)(hL:2^60<=L):aA env L n 101 [.agg [nI al,nI st,.d (.ivs l.length (aJ l))]] []=some (.d (.bool (bK ⟨al,st,l⟩)),[]):=by
 unfold bK;simp only[]
 cases ha:bH al with
 |false=>
  obtain _|n:=n;omega
  simp-implicitDefEqProofs (maxSteps:=9^7) (disch:=try exact Dz) only[↓DN,↓kAsg,↓kRet,UP,simprocAttr,↓dN,ha,lA,jU,Tryz.f101]
 |true=>
  by_cases h1:st<1
  ·have e1:decide (1<=st)=false:=by simp;omega
   obtain _|n:=n;omega
   simp-implicitDefEqProofs (maxSteps:=9^7) (disch:=try exact Dz) only[↓DN,↓kAsg,↓kRet,UP,simprocAttr,↓dN,ha,h1,e1,lA,jU,Tryz.f101]
  ·by_cases h2:16<st
   ·have e1:decide (st<=16)=false:=by simp;omega
    obtain _|n:=n;omega
    simp-implicitDefEqProofs (maxSteps:=9^7) (disch:=try exact Dz) only[↓DN,↓kAsg,↓kRet,UP,simprocAttr,↓dN,ha,h1,h2,e1,lA,jU,Tryz.f101]
   ·have e1:decide (1<=st)=true:=by simp;omega
    have e2:decide (st<=16)=true:=by simp;omega
    cases hs:seek (kJ al st l) l.length 0 with
    |none=>
     obtain _|n:=n;omega
     simp-implicitDefEqProofs (maxSteps:=9^7) (disch:=try exact Dz) only[↓DN,↓kAsg,↓kRet,UP,simprocAttr,↓dN,↓uP,ha,h1,h2,e1,e2,hs,lA,jU,Tryz.f101]
    |some r=>
     obtain _|n:=n;omega
     simp-implicitDefEqProofs (maxSteps:=9^7) (disch:=try exact Dz) only[↓DN,↓kAsg,↓kRet,UP,simprocAttr,↓dN,↓uP,ha,h1,h2,e1,e2,hs,lA,jU,Tryz.f101]
theorem wO:type_of% fun {L} al st l hl hL=>ks fun hn=> @G4 L _ hn al st l hl hL:=fun {L} al st l hl hL=>ks fun hn=> @G4 L _ hn al st l hl hL
end
section
variable{R:Type}{L n:Nat}
noncomputable def env1:Env:={ env with prim:=fun _=>none,eqs:=[]}
theorem e1P:env1.P=env.P:=rfl
theorem e1H:env1.hint=env.hint:=rfl
theorem YI{args:List A}{h:H}:aA env1 L (n+1) 206 args h=dG env1 (aA env1 L n) L h.length [] ([]) GX qP (args++List.replicate (Tryz.f206.ntmps-args.length) (.d .undef)) h (kFin env1.P h.length false [.tmp 2]):=
 VV (mode:=1) kr Tryz.func206 kr kr IZ kr kr
theorem pZ{args:List A}{h:H}:aA env1 L (n+1) 143 args h=dG env1 (aA env1 L n) L h.length [] ([]) CX eH (args++List.replicate (Tryz.f143.ntmps-args.length) (.d .undef)) h (kFin env1.P h.length false [.tmp 4]):=
 VV (mode:=1) kr Tryz.func143 kr kr DH kr kr
theorem OO{args:List A}{h:H}:aA env1 L (n+1) 142 args h=dG env1 (aA env1 L n) L h.length [] (false::false::true::true::false::false::true::true::true::false::false::false::false::false::false::false::false::false::[]) iL nU (args++List.replicate (Tryz.f142.ntmps-args.length) (.d .undef)) h (kFin env1.P h.length false [.tmp 2]):=
 VV (mode:=1) kr Tryz.func142 kr kr vQ kr kr
theorem r8{R:Type}{call:aX}{L nf n:Nat}{thaw:List Nat}{live m:List Bool}{s:List A}{h:H}{k:KE R}:aS env1 call L nf thaw live (iL 0) m (n+1) s h k=dG env1 call L nf thaw live iL gO s h (XA env1 call L nf thaw live (iL 0) m n k):=
 aCv vQ kr
theorem VJ{args:List A}{h:H}:aA env1 L (n+1) 76 args h=dG env1 (aA env1 L n) L h.length [] ([]) FE n8 (args++List.replicate (Tryz.f76.ntmps-args.length) (.d .undef)) h (kFin env1.P h.length false [.tmp 4]):=
 VV (mode:=1) kr Tryz.func76 kr kr FB kr kr
theorem X5(hn:1<=n)(a:Int):aA env1 L n 206 [nI a] []=some (.d (.bool false),[]):=by
 obtain _|n:=n;omega;rw[YI];simp only[qP,Tryz.f206,SLM,simprocAttr]
 simp-implicitDefEqProofs (maxSteps:=9^7) (disch:=try exact Dz) only[↓DN,↓kAsg,↓kRet,e1P,UP,simprocAttr]
theorem t6{hq:H}{k:KA R}(hn:1<=n)(a:Int):aW env1 (aA env1 L n) hq 206 [nI a] k=k (.d (.bool false)) hq:=
 cS rfl (X5 hn a) rfl (.inl rfl)
theorem SU(hn:2<=n)(a b:Int):aA env1 L n 143 [nI a,nI b] []=some (nI (cmpI a b),[]):=by
 unfold cmpI
 by_cases h1:a<b
 ·obtain _|n:=n;omega;rw[pZ];simp only[eH,Tryz.f143,SLM,simprocAttr]
  simp-implicitDefEqProofs (maxSteps:=9^7) (disch:=try exact Dz) only[↓DN,↓kAsg,↓kRet,e1P,UP,simprocAttr,↓t6,h1]
 ·by_cases h2:b<a
  ·obtain _|n:=n;omega;rw[pZ];simp only[eH,Tryz.f143,SLM,simprocAttr]
   simp-implicitDefEqProofs (maxSteps:=9^7) (disch:=try exact Dz) only[↓DN,↓kAsg,↓kRet,e1P,UP,simprocAttr,↓t6,h1,h2]
  ·obtain _|n:=n;omega;rw[pZ];simp only[eH,Tryz.f143,SLM,simprocAttr]
   simp-implicitDefEqProofs (maxSteps:=9^7) (disch:=try exact Dz) only[↓DN,↓kAsg,↓kRet,e1P,UP,simprocAttr,↓t6,h1,h2]
theorem R5{hq:H}{k:KA R}(hn:2<=n)(a b:Int):aW env1 (aA env1 L n) hq 143 [nI a,nI b] k=k (nI (cmpI a b)) hq:=
 cS rfl (SU hn a b) rfl (.inl rfl)
theorem IB(hn:1<=n){l:List Int}(hl:l.length<=1000){k:KE R}:∀(i:Int) (m:Nat) (h0:0<=i) (hi:i<=l.length) (hm:(l.length:Int)-i<m),
  aS env1 (aA env1 L n) L 0 [] Bz38 (iL 0) Bz67 m (Y2 (nI 0::nI 0::Y2 (.d (.ivs l.length (ints l))::nI (l.length)::nI i::Y8 (Y1 ([]))))) [] k
  =if d6 (l.drop i.toNat)=0 then k (.exit 0) (Y2 (nI 0::nI 0::Y2 (.d (.ivs l.length (ints l))::nI (l.length)::nI (l.length)::Y8 (Y1 ([]))))) []else k .ret (Y2 (nI (d6 (l.drop i.toNat))::nI 0::Y2 (.d (.ivs l.length (ints l))::nI (l.length)::nI (i+lz (l.drop i.toNat))::Y8 (Y1 ([]))))) []:=by
 intro i m h0 hi hm;obtain⟨j,hj⟩:∃j:Nat,(j:Int)=(l.length:Int)-i:=⟨((l.length:Int)-i).toNat,by omega⟩
 induction j generalizing i m with
 |zero=>
  obtain _|m:=m;omega;obtain rfl:i=l.length:=om;rw[r8];simp only[gO,Tryz.f142,SLM,simprocAttr]
  simp-implicitDefEqProofs (maxSteps:=9^7) (disch:=try exact Dz) only[↓DN,↓kRet,UP,simprocAttr,Ak];simp only[Bl,d6,if_true]
 |succ j ih=>
  obtain _|m:=m;omega;have hc:i<l.length:=om;have hk:i.toNat<l.length:=om;have e1:(i+1).toNat=i.toNat+1:=om;rw[bP hk (d:=0)]
  by_cases hz:l.getD i.toNat 0=0
  ·rw[r8];simp only[gO,Tryz.f142,SLM,simprocAttr]
   simp-implicitDefEqProofs (maxSteps:=9^7) (disch:=try exact Dz) only[↓DN,↓kRet,e1P,UP,simprocAttr,hc,hz,↓ih];simp only[d6,lz,if_true,e1,Int.natCast_add,Int.add_assoc,Int.add_comm 1]<;>rfl
  ·rw[r8];simp only[gO,Tryz.f142,SLM,simprocAttr]
   simp-implicitDefEqProofs (maxSteps:=9^7) (disch:=try exact Dz) only[↓DN,↓kRet,e1P,UP,simprocAttr,hc,hz];simp only[d6,lz,hz,if_false,Aw,Int.add_zero]
theorem aD2(hn:2<=n)(l:List Int)(hl:l.length<=1000)(hL:2^60<=L):aA env1 L n 142 [.d (.ivs l.length (ints l))] []=some (nI (d6 l),[]):=by
 by_cases hz:d6 l=0
 ·obtain _|n:=n;omega;rw[OO];simp only[nU,Tryz.f142,SLM,simprocAttr]
  simp-implicitDefEqProofs (maxSteps:=9^7) (disch:=try exact Dz) only[↓DN,↓kAsg,↓kRet,e1P,UP,simprocAttr,↓IB,Cf,hz]
 ·obtain _|n:=n;omega;rw[OO];simp only[nU,Tryz.f142,SLM,simprocAttr]
  simp-implicitDefEqProofs (maxSteps:=9^7) (disch:=try exact Dz) only[↓DN,↓kAsg,↓kRet,e1P,UP,simprocAttr,↓IB,Cf,hz]
theorem aDI{k:A->Option R}(hn:2<=n)(l:List Int)(hl:l.length<=1000)(hL:2^60<=L):mU (aA env1 L n) 142 [.d (.ivs l.length (ints l))] k=k (nI (d6 l)):=
 oQ (aD2 hn l hl hL) rfl
theorem aAo{hq:H}{k:KA R}{id0 g0 o0 len0:Nat}:aW env1 (aA env1 L n) hq 142 [.sl id0 g0 o0 len0] k=match box (W7 hq [.sl id0 g0 o0 len0])with
  |.mk (some fs)=>mU (aA env1 L n) 142 fs fun r=>k r hq
  |_=>none:=fI qX
theorem UR(hn:4<=n)(a b c d e f:Int)(hL:2^60<=L):aA env1 L n 76 [.agg [nI a,nI b,nI c],.agg [nI d,nI e,nI f]] []=some (nI (cmpE ⟨a,b,c⟩ ⟨d,e,f⟩),[]):=by
 have k3:∀ {R:Type} {n:Nat} {k:A->Option R},2<=n->mU (aA env1 L n) 142 [.d (.ivs 3 (ints [cmpI a d,cmpI b e,cmpI c f]))] k=k (nI (d6 [cmpI a d,cmpI b e,cmpI c f])):=fun h=>aDI h [cmpI a d,cmpI b e,cmpI c f] sm hL;obtain _|n:=n;omega;rw[VJ];simp only[n8,Tryz.f76,SLM,simprocAttr]
 simp-implicitDefEqProofs (maxSteps:=9^7) (disch:=try exact Dz) only[↓DN,↓kAsg,↓kRet,e1P,e1H,UP,simprocAttr,↓R5,↓aAo,aQI,↓k3]<;>rfl
end
section
open Go.Shelf
def aJW:Go.Shelf.Ren:=⟨fun|6=>88|15=>163|14=>162|28=>224|29=>225|20=>216|21=>217|22=>218|23=>219|24=>220|25=>221|26=>222|27=>223|46=>253|47=>254|48=>255|49=>256|50=>257|57=>271|n=>n,fun|22=>29|24=>53|25=>107|3=>3|39=>165|0=>0|53=>251|55=>253|4=>4|46=>245|45=>244|50=>105|5=>5|9=>9|66=>270|70=>274|76=>291|77=>111|n=>n,fun|n=>n⟩
theorem aKt:Go.Proofs.SlLaysF0.n6 Tryz.prog aJW:={
 mixed:=by kernel_rfl
 f6:=⟨Tryz.f88.name,by decide,Tryz.func88.trans (congrArg some (by kernel_rfl))⟩
 f14:=⟨Tryz.f162.name,by decide,Tryz.func162.trans (congrArg some (by kernel_rfl))⟩
 f15:=Tryz.func163.trans (congrArg some (by kernel_rfl))
 f20:=⟨Tryz.f216.name,by decide,Tryz.func216.trans (congrArg some (by kernel_rfl))⟩
 f21:=⟨Tryz.f217.name,by decide,Tryz.func217.trans (congrArg some (by kernel_rfl))⟩
 f22:=⟨Tryz.f218.name,by decide,Tryz.func218.trans (congrArg some (by kernel_rfl))⟩
 f23:=⟨Tryz.f219.name,by decide,Tryz.func219.trans (congrArg some (by kernel_rfl))⟩
 f24:=⟨Tryz.f220.name,by decide,Tryz.func220.trans (congrArg some (by kernel_rfl))⟩
 f25:=⟨Tryz.f221.name,by decide,Tryz.func221.trans (congrArg some (by kernel_rfl))⟩
 f26:=⟨Tryz.f222.name,by decide,Tryz.func222.trans (congrArg some (by kernel_rfl))⟩
 f27:=⟨Tryz.f223.name,by decide,Tryz.func223.trans (congrArg some (by kernel_rfl))⟩
 f28:=Tryz.func224.trans (congrArg some (by kernel_rfl))
 f29:=Tryz.func225.trans (congrArg some (by kernel_rfl))
 f46:=⟨Tryz.f253.name,by decide,Tryz.func253.trans (congrArg some (by kernel_rfl))⟩
 f47:=Tryz.func254.trans (congrArg some (by kernel_rfl))
 f48:=Tryz.func255.trans (congrArg some (by kernel_rfl))
 f49:=⟨Tryz.f256.name,by decide,Tryz.func256.trans (congrArg some (by kernel_rfl))⟩
 f50:=⟨Tryz.f257.name,by decide,Tryz.func257.trans (congrArg some (by kernel_rfl))⟩
 f57:=⟨Tryz.f271.name,by decide,Tryz.func271.trans (congrArg some (by kernel_rfl))⟩
 t0:=Tryz.underlying0
 a0:=Tryz.isAgg0
 z0:=Tryz.sizeOf0
 v0:=Tryz.zeroValue0
 t3:=Tryz.underlying3
 a3:=Tryz.isAgg3
 z3:=Tryz.sizeOf3
 v3:=Tryz.zeroValue3
 t4:=Tryz.underlying4
 a4:=Tryz.isAgg4
 z4:=Tryz.sizeOf4
 v4:=Tryz.zeroValue4
 t5:=Tryz.underlying5
 a5:=Tryz.isAgg5
 z5:=Tryz.sizeOf5
 v5:=Tryz.zeroValue5
 t9:=Tryz.underlying9
 a9:=Tryz.isAgg9
 z9:=Tryz.sizeOf9
 v9:=Tryz.zeroValue9
 t22:=Tryz.underlying29
 a22:=Tryz.isAgg29
 z22:=Tryz.sizeOf29
 v22:=Tryz.zeroValue29
 t25:=Tryz.underlying107
 a25:=Tryz.isAgg107
 z25:=Tryz.sizeOf107
 v25:=Tryz.zeroValue107
 t39:=Tryz.underlying165
 a39:=Tryz.isAgg165
 z39:=Tryz.sizeOf165
 v39:=Tryz.zeroValue165
 t45:=Tryz.underlying244
 a45:=Tryz.isAgg244
 z45:=Tryz.sizeOf244
 v45:=Tryz.zeroValue244
 t46:=Tryz.underlying245
 a46:=Tryz.isAgg245
 z46:=Tryz.sizeOf245
 v46:=Tryz.zeroValue245
 t50:=Tryz.underlying105
 a50:=Tryz.isAgg105
 z50:=Tryz.sizeOf105
 v50:=Tryz.zeroValue105
 t53:=Tryz.underlying251
 a53:=Tryz.isAgg251
 z53:=Tryz.sizeOf251
 v53:=Tryz.zeroValue251
 t55:=Tryz.underlying253
 a55:=Tryz.isAgg253
 z55:=Tryz.sizeOf253
 v55:=Tryz.zeroValue253
 t66:=Tryz.underlying270
 a66:=Tryz.isAgg270
 z66:=Tryz.sizeOf270
 v66:=Tryz.zeroValue270
 t70:=Tryz.underlying274
 a70:=Tryz.isAgg274
 z70:=Tryz.sizeOf274
 v70:=Tryz.zeroValue274
 t76:=Tryz.underlying291
 a76:=Tryz.isAgg291
 z76:=Tryz.sizeOf291
 v76:=Tryz.zeroValue291
 t77:=Tryz.underlying111
 a77:=Tryz.isAgg111
 z77:=Tryz.sizeOf111
 v77:=Tryz.zeroValue111}
end
section
variable{G:Gnd}
open Go.RowKit Go.Lib
def over(C:Array Value):Nat->List Value->Array Value
 |_,[]=>C
 |o,v::vs=>over (C.setIfInBounds o v) (o+1) vs
end
section
variable{G:Gnd}
open Go.RowKit Go.Lib Go.Sort
theorem aQ0(x y:Int×Int×Int):cmpE ⟨x.1,x.2.1,x.2.2⟩ ⟨y.1,y.2.1,y.2.2⟩=cmp3 x y:=rfl
theorem aRV:EnvOK env1:=⟨fun t n h=>by
  have:env1.eqs=[]:=rfl;rw[this]at h;simp at h,by kernel_rfl⟩
theorem aPz{w w':World}(g:Grew true w w'):∃q os,w'=grow (w.drewN q) os:=by
 refine⟨w'.drawn-w.drawn,w'.heap.extract w.heap.size w'.heap.size,?_⟩
 have h1:w'.heap=w.heap++w'.heap.extract w.heap.size w'.heap.size:=by
  apply Array.ext_getElem?;intro j;rw[Array.getElem?_append]
  by_cases h:j<w.heap.size
  ·rw[if_pos h];exact g.same j h
  ·rw[if_neg h,Array.getElem?_extract];have:=g.size
   by_cases h2:j<w'.heap.size
   ·rw[if_pos om];congr 1;omega
   ·rw[if_neg om,Array.getElem?_eq_none om]
 have h2:w.drawn+(w'.drawn-w.drawn)=w'.drawn:=by have:=g.drawn rfl;omega
 have h3:=g.os;have h4:=g.tape;have h5:=g.output;generalize w'.heap.extract w.heap.size w'.heap.size=os at h1|-;generalize w'.drawn-w.drawn=q at h2|-
 cases w' with
 |mk heap tape drawn os' output=>
  simp only at h1 h2 h3 h4 h5;subst h1;subst h2;subst h3;subst h4;subst h5;rfl
def encE(x:Int×Int×Int):List Value:=[.int .i64 x.1,.int .i64 x.2.1,.int .i64 x.2.2]
theorem aR4(x y:Int×Int×Int)(w:World):Calls Tryz.prog 76 #[.agg (encE x).toArray,.agg (encE y).toArray] w fun e w'=>e=.returned (.int .i64 (cmp3 x y))/\∃q os,w'=grow (w.drewN q) os:=by
 have he:=UR (L:=2^60) (n:=4) (Ad _) x.1 x.2.1 x.2.2 y.1 y.2.1 y.2.2 (Ad _);obtain⟨_,hc⟩:=aLY (G:=⟨[],true⟩) (E:=env1) (L:=2^60) aRV (fun f g h=>by cases h) 4 _ _ _ _ _ he
 have ha:ARv [] (fun _=>none) w (fun b=>b<w.heap.size) [.agg [nI x.1,nI x.2.1,nI x.2.2],.agg [nI y.1,nI y.2.1,nI y.2.2]] [.agg (encE x).toArray,.agg (encE y).toArray]:=by
  simp only[ARv,AR,DR,encE];exact⟨_,_,rfl,⟨_,rfl,_,_,rfl,rfl,_,_,rfl,rfl,_,_,rfl,rfl,rfl⟩,_,_,rfl,⟨_,rfl,_,_,rfl,rfl,_,_,rfl,rfl,_,_,rfl,rfl,rfl⟩,rfl⟩
 refine(hc (fun _=>none) w (fun b=>b<w.heap.size) _ (w7 (fun _ h=>h) (aMp _ _)) ha).mono fun e w' hh=> ?_;obtain⟨v,ρ',I',rfl,s,hv⟩:=hh;have hv:v=.int .i64 (cmp3 x y):=by simpa only[AR,DR,aQ0]using hv
 subst hv;exact⟨rfl,aPz (O2 s)⟩
theorem TQ{a b:Int}:lR a b<0↔a<b:=by
 unfold lR
 by_cases h1:a<b
 ·simp[h1]
 ·by_cases h2:b<a<;>simp[h1,h2]
theorem B6{a b:Int}:lR a b=0↔a=b:=by
 unfold lR
 by_cases h1:a<b
 ·simp[h1];omega
 ·by_cases h2:b<a
  ·simp[h1,h2];omega
  ·simp[h1,h2];omega
theorem aRp{x y:Int×Int×Int}:cmp3 x y<0↔x.1<y.1\/(x.1=y.1/\(x.2.1<y.2.1\/(x.2.1=y.2.1/\x.2.2<y.2.2))):=by
 unfold cmp3;simp only[aEg]
 by_cases h1:x.1=y.1
 ·have e1:lR x.1 y.1=0:=B6.2 h1;rw[if_pos e1]
  by_cases h2:x.2.1=y.2.1
  ·have e2:lR x.2.1 y.2.1=0:=B6.2 h2;rw[if_pos e2];have e3:(if lR x.2.2 y.2.2=0 then(0:Int)else lR x.2.2 y.2.2)=lR x.2.2 y.2.2:=by split<;>simp_all
   rw[e3,TQ];omega
  ·have e2:¬lR x.2.1 y.2.1=0:=fun h=>h2 (B6.1 h);rw[if_neg e2,TQ];omega
 ·have e1:¬lR x.1 y.1=0:=fun h=>h1 (B6.1 h);rw[if_neg e1,TQ];omega
theorem lt3(x y:Int×Int×Int):ltOf cmp3 x y=decide (x.1<y.1\/(x.1=y.1/\(x.2.1<y.2.1\/(x.2.1=y.2.1/\x.2.2<y.2.2)))):=by
 unfold ltOf;exact decide_eq_decide.2 aRp
theorem swo3:SWO (ltOf cmp3) where
 irrefl x:=by rw[lt3];simp
 trans x y z h1 h2:=by rw[lt3]at *;simp only[decide_eq_true_eq]at *;omega
 ntrans x y z h1 h2:=by rw[lt3]at *;simp only[decide_eq_false_iff_not]at *;omega
theorem tot3(x y:Int×Int×Int)(h1:ltOf cmp3 x y=false)(h2:ltOf cmp3 y x=false):x=y:=by
 rw[lt3]at *;simp only[decide_eq_false_iff_not]at *;obtain⟨a,b,c⟩:=x;obtain⟨d,e,f⟩:=y;simp only at *;have:a=d:=om;have:b=e:=om;have:c=f:=om
 simp_all
theorem nH:∀l:List (Int×Int×Int),(kE l).length=l.length*3
 | []=>rfl
 |(a,b,c)::l=>by simp only[kE,Ac,nH l];omega
theorem aRE(ds:List D):∀(l:List (Int×Int×Int)),trip ds=some l->ds=kE l:=by
 induction ds using trip.induct with
 |case1=>intro l h;simp only[trip,Option.some.injEq]at h;subst h;rfl
 |case2 a b c ds ih=>
  intro l h;simp only[trip]at h;obtain⟨l',h1,rfl⟩:=Az.1 h;rw[ih l' h1];rfl
 |case3 ds h1 h2=>
  intro l h;rw[trip]at h
  ·cases h
  ·exact h1
  ·exact h2
theorem aFL:∀(l:List (Int×Int×Int)) (j:Nat),j<l.length*3->∃z:Int,(kE l)[j]? =some (.int .i64 z)/\(encE (l.toArray[j/3]!))[j % 3]! =.int .i64 z
 | [],j,h=>by simp at h
 |(a,b,c)::l,j,h=>by
  rcases j with _|_|_|j
  ·exact⟨a,rfl,rfl⟩
  ·exact⟨b,rfl,rfl⟩
  ·exact⟨c,rfl,rfl⟩
  ·simp only[Ac]at h;obtain⟨z,h1,h2⟩:=aFL l j om;have e1:(j+1+1+1)/3=j/3+1:=om;have e2:(j+1+1+1) % 3=j % 3:=om;refine⟨z,by simpa [kE]using h1,?_⟩;rw[e1,e2];have e3:((a,b,c)::l).toArray[j/3+1]! =l.toArray[j/3]!:=sm;rw[e3];exact h2
theorem aIC{l:List (Int×Int×Int)}{j:Nat}(h:j<l.length*3):∃z:Int,(kE l)[j]? =some (.int .i64 z)/\(flatK encE 3 l.toArray)[j]! =.int .i64 z:=by
 obtain⟨z,h1,h2⟩:=aFL l j h;exact⟨z,h1,by rw[get_flatK _ _ _ _ (by simpa using h)];exact h2⟩
theorem aOP(b len cap:Nat)(l:List (Int×Int×Int))(hl:l.length=len)(w:World)(hH:HoldsK encE 3 w b 0 l.toArray)(hb:b<w.heap.size)(hm:len<=4294967296):
  Calls Tryz.prog 88 #[.slice (some ⟨b,0,none⟩) len cap,.func (.func 76) #[] #[]] w fun e w'=>e=.returned (.tuple #[])/\∃n os,w'=sortWorldK encE 3 w b 0 n (l.mergeSort le3).toArray os:=by
 have eg:∀args w,(callFunc 76 args).run Tryz.prog w=.ok (.enter 76 args) w:=enters_of Tryz.func76 kr rfl;have hS:=AnyQ.slices_SortFunc_total aKt 3 Tryz.isAgg53 Tryz.sizeOf53 encE (fun _=>rfl) (fun x v hv=>by simp[encE]at hv;rcases hv with rfl|rfl|rfl<;>rfl) cmp3 swo3 76 #[] b 0 cap l.toArray w eg (fun _ _ _ _ x y=>aR4 x y _) hH hb (by simp;omega) tot3;have e1:l.toArray.size=len:=by simpa using hl
 rw[e1]at hS;exact hS
theorem aMM(p:Option Addr)(cap:Nat)(fv:Value)(w:World):Calls Tryz.prog 88 #[.slice p 0 cap,fv] w fun e w'=>e=.returned (.tuple #[])/\w'=w:=
 AnyF.slices_SortFunc_none aKt p cap fv w
theorem aMT:C7 G Tryz.prog 88 (HM 76):=by
 intro k args h x h' he;simp only at he
 split at he
 ·rename_i hk
  subst hk;refine⟨⟨_,Tryz.func88,by kernel_rfl,by kernel_rfl⟩,fun ρ w I vs r ha=> ?_⟩;unfold HM at he
  split at he
  ·rename_i id gen off len f
   split at he
   ·rename_i cs e g hid
    split at he
    ·rename_i hc
     obtain⟨rfl,rfl,rfl,he3,hcl,hmx⟩:=hc
     split at he
     ·rename_i l htr
      cases he;obtain⟨v1,rest1,rfl,hx,hr1⟩:=iG ha
      obtain⟨v2,rest2,rfl,hv2,hr2⟩:=iG hr1;simp only[ARv]at hr2;subst hr2;simp only[AR,ARv]at hv2 hx;obtain⟨caps,rfl,hcaps⟩:=hv2;obtain rfl:caps= #[]:=by simpa using hcaps
      obtain⟨a,cap,rfl,hs⟩:=hx;have hcs:=aRE _ _ htr
      have hll:l.length=len:=by
       have:=congrArg List.length hcs;rw[nH,Cv]at this;omega
      by_cases h0:len=0
      ·subst h0;have hl0:l=[]:=Bs.1 hll;subst hl0;refine(aMM a cap _ w).mono ?_;rintro e' w' ⟨rfl,rfl⟩
       have hsame:h.set id (.arr (kE (List.mergeSort [] le3)++cs.drop (0*3)) e g)=h:=by
        have:kE (List.mergeSort [] le3)++cs.drop (0*3)=cs:=by simp[kE]
        rw[this];apply Cj;intro j;rw[Cu];obtain⟨hl,hee⟩:=At.1 hid
        by_cases e1:id=j
        ·subst e1;simp[hl,hee]
        ·simp[e1]
       rw[hsame];exact⟨_,ρ,I,rfl,.refl r,by simp[AR,ARv]⟩
      ·obtain rfl:e=3:=om;simp only[slOK,hid]at hs;obtain⟨_,hs⟩:=hs;obtain⟨hlc,hs⟩:=hs trivial
       obtain⟨b,hρ⟩:∃b,ρ id=some b:=by
        cases hb:ρ id with
        |none=>rw[hb]at hs;simp only at hs;omega
        |some b=>exact⟨b,rfl⟩
       rw[hρ]at hs;simp only at hs;obtain⟨rfl,_,C,E,fz,hbk,hC⟩:=hs.resolve_left (by omega:¬cap=0);have hO:=r.obj id _ hid;simp only[OR,hρ]at hO;obtain⟨_,hIb,C2,E2,fz2,hbk2,hun,hdr⟩:=hO;rw[hbk]at hbk2;cases hbk2;simp only[Ag]at hC;rw[fX]at hdr;have hcell:=dZ hbk;have hlt:b<w.heap.size:=(Bn.1 hbk).1
       have hH:HoldsK encE 3 w b 0 l.toArray:=by
        intro j hj;simp only[size_flatK,List.size_toArray]at hj;obtain⟨z,h1,h2⟩:=aIC hj
        have hk:cs[j]? =some (.int .i64 z):=by
         rw[<-hcs,Dh,if_pos om]at h1;exact h1
        obtain⟨v,hv,hd,_⟩:=hdr j _ hk;simp only[DR]at hd;subst hd;rw[Ag]at hv|-;refine⟨by rw[cell?_eq,hv,h2];rfl,?_⟩;have h3:=hun.1 j om;simp only[World.frozen?,hbk]
        by_cases h4:fz.1<=j<;>by_cases h5:j<fz.2<;>simp[h4,h5]
        exact h3 ⟨h4,h5⟩
       refine(aOP b len cap l hll w hH hlt hmx).mono ?_;rintro e' w' ⟨rfl,n,os,rfl⟩;have hsl:(l.mergeSort le3).length=len:=by rw[List.length_mergeSort];exact hll
       obtain⟨C',hC'⟩:∃C',C'=putCells _root_.id 0 (flatK encE 3 (l.mergeSort le3).toArray) C:=⟨_,rfl⟩
       have hC's:C'.size=C.size:=by rw[hC'];simp[putCells]
       have hC'g:∀k,k<C.size->C'[k]? =if k<len*3 then some ((flatK encE 3 (l.mergeSort le3).toArray)[k]!)else C[k]?:=by
        intro k hk;rw[hC'];simp only[putCells,Array.getElem?_mapIdx,size_flatK,List.size_toArray,hsl,Cw,true_and,Ag,Nat.sub_zero,_root_.id];rw[Array.getElem?_eq_getElem hk]
        by_cases hk2:k<len*3<;>simp[hk2]
       obtain⟨W,hW⟩:∃W,W=sortWorldK encE 3 w b 0 n (l.mergeSort le3).toArray os:=⟨_,rfl⟩
       rw[<-hW];have hWh:W.heap=(w.heap.modify b (onCells (putCells _root_.id 0 (flatK encE 3 (l.mergeSort le3).toArray))))++os:=by rw[hW];rfl
       have hWb:W.heap[b]? =some (.cells C' E fz):=by
        rw[hWh,Array.getElem?_append_left (by simpa using hlt),Array.getElem?_modify,if_pos rfl,hbk,hC'];rfl
       have hWo:∀k,k<w.heap.size->k≠b->W.heap[k]? =w.heap[k]?:=by
        intro k hk hne;rw[hWh,Array.getElem?_append_left (by simpa using hk),Array.getElem?_modify,if_neg (Ne.symm hne)]
       have hcsC:cs.length<=C.size:=by
        rcases Cr C.size cs.length with hlt|hge
        ·obtain⟨v,hv,_⟩:=hdr C.size _ (Ae hlt);rw[Ag,hcell]at hv;simp at hv
        ·exact hge
       have hlen':(kE (l.mergeSort le3)++cs.drop (len*3)).length=cs.length:=by
        rw[Ai,nH,Bj,hsl];omega
       have at_id:(h.set id (.arr (kE (l.mergeSort le3)++cs.drop (len*3)) 3 g))[id]? =some (.arr (kE (l.mergeSort le3)++cs.drop (len*3)) 3 g):=by
        have:=(At.1 hid).1;simp[this]
       have hpk:∀(k:Nat) (d:D),(kE (l.mergeSort le3)++cs.drop (len*3))[k]? =some d->∃v,C'[k]? =some v/\v.oneCell'=true/\DR w I d v:=by
        intro k d hk;have hkl:=(At.1 hk).1;rw[hlen']at hkl;rw[hC'g k om]
        by_cases hk3:k<len*3
        ·obtain⟨z,h1,h2⟩:=aIC (l:=l.mergeSort le3) (j:=k) om;rw[Be (by rw[nH];omega),h1]at hk;cases hk;rw[if_pos hk3,h2];exact⟨_,rfl,rfl,by simp only[DR]⟩
        ·rw[if_neg hk3];rw[Bq (by rw[nH];omega),nH,List.getElem?_drop]at hk;have e5:len*3+(k-(l.mergeSort le3).length*3)=k:=om;rw[e5]at hk;obtain⟨v,hv,hd,h1⟩:=hdr k d hk;rw[Ag,hcell]at hv;exact⟨v,hv,h1,hd⟩
       have st:=d8 (w':=W) (I':=I) (o':=.arr (kE (l.mergeSort le3)++cs.drop (len*3)) 3 g) r hid trivial (some b) (by rw[hW];rfl) (by rw[hW];rfl) (by rw[hW];rfl)
        (by rw[hWh];simp) (fun k hk hne=>hWo k hk fun e=>hne (by rw[hρ,e])) (fun _ hb=>hb) (fun _ hb=>.inl hb) (fun b' hb'=>.inl (by rw[hρ];exact hb')) (fun _ gen' off' len' a' cap' hs2=> ?_) (fun _ gen' b' hs2=> ?_) (fun hE=> ?_) (by rw[hW];show w.drawn<=w.drawn+n;omega)
       ·exact⟨_,_,I,rfl,st,by simp[AR,ARv]⟩
       ·simp only[slOK,hid]at hs2;simp only[slOK,at_id,bA];refine⟨hs2.1,fun hg=> ?_⟩;obtain⟨q1,q2⟩:=hs2.2 hg;rw[hρ]at q2;simp only at q2;refine⟨q1,?_⟩
        rcases q2 with q2|⟨q3,q4,C3,E3,fz3,q5,q6⟩
        ·exact .inl q2
        ·rw[hbk]at q5;cases q5;exact .inr ⟨q3,by rw[hlen'];exact q4,C',E,fz,hWb,by rw[hC's];exact q6⟩
       ·simp only[ptOK,hid]at hs2;simp only[ptOK,at_id,bA];exact⟨hs2.1,fun hg=>by rw[<-hρ];exact hs2.2 hg⟩
       ·simp only[OR,bA];refine⟨by omega,hIb,C',E,fz,hWb,hun.keep om,?_⟩;rw[fX];intro k d hk;obtain⟨v,hv,h1,hd⟩:=hpk k d hk;refine⟨v,?_,nR hE.imm d v hd,h1⟩;rw[Ag,dZ hWb,hv]
     ·cases he
    ·cases he
   ·cases he
  ·cases he
 ·cases he
end
section
open Go.RowKit
set_option maxHeartbeats 1000000 in
theorem aRt(x k idx:Nat)(w:World)(hx0:((x:Int)==0)=false)
  (key:IntKind.u64.wrap (bits BinOp.and IntKind.u64 (x:Int) (IntKind.u64.wrap (-(x:Int)))*285870213051353865)/288230376151711744=(idx:Int))
  (hi:idx<64) (hk:k<64) (hcell:w.cell? ⟨1,idx,none⟩=some (.int .u8 k)):
  Calls Tryz.prog 268 #[.int .u64 x] w fun e w'=>e=.returned (.int .i64 k)/\w'=w:=by
 go_enter Tryz.func268,Tryz.ntmps268
 go_wp2_with (simp only[key])
 go_ret
 exact⟨rfl,rfl⟩
theorem aRa(w:World):Calls Tryz.prog 268 #[.int .u64 0] w fun e w'=>e=.returned (.int .i64 64)/\w'=w:=by
 go_enter Tryz.func268,Tryz.ntmps268
 go_wp2
 go_ret
 exact⟨rfl,rfl⟩
theorem aSJ(x:Nat)(hx:x<18446744073709551616)(w:World)(hT:TabAt 1 Lib.deBruijn64tab w):
  Calls Tryz.prog 268 #[.int .u64 x] w fun e w'=>e=.returned (.int .i64 (Lib.ctz 64 x))/\w'=w:=by
 by_cases hx0:x=0
 ·subst hx0;exact aRa w
 ·obtain⟨hlow,hk⟩:=Lib.lowest_bit 64 x hx0 hx;obtain⟨hi,htab⟩:=Lib.deBruijn64_at _ hk;have hcell:=hT _ hi;rw[htab]at hcell;exact aRt x _ _ w (by simp;omega) (tz64_key x _ hx hx0 hlow) hi hk hcell
theorem aSn(x:Nat)(hx:x<18446744073709551616)(w:World)(hT:TabAt 1 Lib.deBruijn64tab w):
  Calls Tryz.prog 240 #[.int .u64 x] w fun e w'=>e=.returned (.int .i64 (Lib.ctz 64 x))/\w'=w:=by
 have c64:=aSJ x hx w hT;have e29:∀args w,(callFunc 268 args).run Tryz.prog w=.ok (.enter 268 args) w:=enters_of Tryz.func268 kr rfl;have hw:IntKind.u64.wrap (x:Int)=(x:Int):=by rw[IntKind.wrap_u64];omega
 go_enter Tryz.func240,Tryz.ntmps240
 go_wp2_with (go_at_fn 268;refine c64.mono ?_;rintro e w' ⟨rfl,hw'⟩;rw[hw'])
 go_ret
 exact⟨rfl,rfl⟩
theorem aSM{w:World}{I:Nat->Prop}(hg:Ground gnd w I):TabAt 1 Lib.deBruijn64tab w:=by
 intro j hj;obtain⟨_,h2⟩:=hg 1 _ (Bi.2 rfl);have h3:=h2 j (.int .u8 (Lib.deBruijn64tab.getD j 0)) (by simp[Aa,hj]);unfold cellAt at h3;simp only[World.cell?]
 split at h3
 ·rename_i C E fz hh
  simp[hh,h3]
 ·cases h3
theorem aSk:C7 gnd Tryz.prog 240 gCtz:=by
 intro k args h x h' he;simp only at he
 split at he
 ·rename_i hk
  subst hk;refine⟨⟨_,Tryz.func240,by kernel_rfl,by kernel_rfl⟩,fun ρ w I vs r ha=> ?_⟩;unfold gCtz at he
  split at he
  ·rename_i n
   split at he
   ·rename_i hn
    cases he;obtain⟨xv,rest,rfl,hx,hr⟩:=iG ha
    simp only[ARv]at hr;subst hr;have hx:xv=.int .u64 n:=by simpa only[AR,DR]using hx
    subst hx;have run:=aSn n.toNat om w (aSM r.ground);have e1:((n.toNat:Nat):Int)=n:=om;rw[e1]at run;refine run.mono fun e w' hh=> ?_;obtain⟨rfl,rfl⟩:=hh;exact⟨_,ρ,I,rfl,.refl r,by simp only[AR,DR]⟩
   ·cases he
  ·cases he
 ·cases he
end
section
open Go.RowKit
theorem aR1(xs ys:List Int)(ha:xs.length=3)(hb:ys.length=3)(w:World):
  (Op.equal 53 (.agg (xs.map (Value.int .i64)).toArray) (.agg (ys.map (Value.int .i64)).toArray)).run Tryz.prog w=.ok (xs==ys) w/\
  ∀op x y,(eqGuard op 53 x y (.agg (xs.map (Value.int .i64)).toArray) (.agg (ys.map (Value.int .i64)).toArray)).run Tryz.prog w=.ok () w:=by
 refine⟨?_,fun op x y=>run_eqGuard_agg w op _ x y _ _ kr⟩
 obtain⟨a1,a2,a3,rfl⟩:∃a1 a2 a3,xs=[a1,a2,a3]:=by
  match xs,ha with
  | [a1,a2,a3],_=>exact⟨a1,a2,a3,rfl⟩
 obtain⟨b1,b2,b3,rfl⟩:∃b1 b2 b3,ys=[b1,b2,b3]:=by
  match ys,hb with
  | [b1,b2,b3],_=>exact⟨b1,b2,b3,rfl⟩
 have u3:=Tryz.underlying3;have a3':=Tryz.isAgg3;have z3:=Tryz.sizeOf3;have hS:Tryz.prog.underlying 53=some (.struct (Tryz.prog.fieldsOf 53)):=kr;have hp:Tryz.prog.stoodInHeld 53=false:=kr;unfold Op.equal;simp only[Op.maxDepth,show(10000:Nat)=9999+1 from rfl,Af,Al];rw[run_equalIn_agg w 9999 53 _ _ hS hp];simp only[Program.fieldsOf,Tryz.underlying53]
 go_simp
 by_cases h1:a1=b1<;>by_cases h2:a2=b2<;>by_cases h3:a3=b3<;>simp[h1,h2,h3]
theorem aSH:aLW Tryz.prog aDR:=by
 intro t n h
 have hh:t=53/\n=3:=by
  unfold aDR at h
  simpa using h
 obtain⟨rfl,rfl⟩:=hh;exact fun xs ys ha hb w=>aR1 xs ys ha hb w
theorem aLo:Tryz.prog.follows .mixedOrders=true:=kr
theorem aSj:EnvOK env:=⟨aSH,aLo⟩
theorem aQb:∀f g,env.prim f=some g->C7 gnd env.P f g:=by
 have key:∀(l:List (Nat×(List A->H->Option (A×H)))),(∀p∈l,C7 gnd Tryz.prog p.1 p.2)->∀f g,l.lookup f=some g->C7 gnd Tryz.prog f g:=by
  intro l
  induction l with
  |nil=>intro _ f g h;simp at h
  |cons p l ih=>
   intro hp f g h;obtain⟨k,q⟩:=p;rw[List.lookup_cons]at h
   split at h
   ·rename_i he
    have he':f=k:=by simpa using he
    cases h;subst he'
    exact hp (f,g) sm
   ·exact ih (fun p hm=>hp p (by simp[hm])) f g h
 refine key aG4 ?_;intro p hp;unfold aG4 at hp;simp only[Au,Bv,or_false]at hp
 rcases hp with rfl|rfl|rfl
 ·exact aMT
 ·exact aLZ
 ·exact aSk
def there(w:World):Nat->Prop:=fun b=>b<w.heap.size
theorem run_law{L n:Nat}{f:FuncId}{args:List A}{vs:List Value}{w:World}(he:aA env L n f args []=some (.d (.bool true),[]))(hg:Ground gnd w (there w))(ha:ARv [] (fun _=>none) w (there w) args vs):
  Calls Tryz.prog f vs.toArray w fun e w'=>e=.returned (.bool true)/\Below w.heap.size w w':=by
 obtain⟨_,hc⟩:=aLY (L:=L) aSj aQb n f args [] _ _ he;refine(hc (fun _=>none) w (there w) vs (w7 (fun _ h=>h) hg) ha).mono fun e w' hh=> ?_;obtain⟨v,ρ',I',he',s,hv⟩:=hh;have hv:v=.bool true:=by simpa only[AR,DR]using hv
 subst hv;have g:=O2 s;exact⟨he',g.os,g.tape,g.output,g.size,g.same⟩
def roundsMax:Nat:=2^70
theorem rounds_le:2^60<=roundsMax:=by unfold roundsMax;omega
structure IsBytes(w:World)(v:Value)(z:List UInt8):Prop where
 rel:DR w (there w) (.ivs z.length (a7 z)) v
open Go.ChangeShapes Go.WideShapes in
theorem open_bytes{P:Program}{H:Type}{enc:TypeId×Value->H}{W:World}{t e:TypeId}{r:Reach}{b0:Nat}{v:Value}{d:DataW H}{p:List MemPlace}(ht:P.underlying t=some (.slice e))(he:P.underlying e=some (.int .u8))(hc:P.cellsOf e=1)(hval:Value.okWide P W r b0 t v)(hd:DataW.Trod enc P W 0 (fun _=>true) true t v d p):∃z,IsBytes W v z:=by
 obtain⟨a0,len,cap,rfl⟩:=okWide_slice ht hval;obtain⟨fuel,hf⟩:=hd
 rcases open_ints ht he hc hf with⟨h,_⟩|⟨a,len',cap',zs,h,hb,hl,hm,hz,_,hcell,hwf⟩
 ·simp[Value.cells]at h;obtain⟨rfl,rfl,rfl⟩:=h;exact⟨[],⟨by simp only[DR];exact⟨none,0,rfl,Ad _,.inl rfl⟩⟩⟩
 ·simp[Value.cells]at h;obtain⟨rfl,rfl,rfl⟩:=h;simp only[if_true]at hz;have hzl:(zs.take len).length=len:=by rw[Cv];omega
  refine⟨(zs.take len).map fun n=>UInt8.ofNat n.toNat,⟨?_⟩⟩;simp only[DR];refine⟨some a,cap,by rw[Ar,hzl],by rw[Ar,hzl];exact hl,?_⟩
  by_cases h0:len=0
  ·left;subst h0;simp[a7]
  ·right;have c0:=hcell 0 om;have hadd:a.add 0=a:=by simp[Addr.add]
   rw[hadd]at c0;have hs:=World.cell?_spot c0;obtain⟨b,o,sp⟩:=a;simp only at hs;subst hs;rw[cell?_eq]at c0
   have hlt:b<W.heap.size:=by
    unfold cellAt at c0
    cases hx:W.heap[b]? with
    |none=>rw[hx]at c0;cases c0
    |some o=>exact(Bn.1 hx).1
   refine⟨b,o,rfl,hlt,?_⟩;rw[fX];intro k x hk;simp only[a7,List.map_map,Bb]at hk;obtain⟨n,hn,hx⟩:=Az.1 hk;obtain⟨hkl,hkn⟩:=At.1 hn;rw[hzl]at hkl;have hkz:k<zs.length:=om
   have hzn:zs.getD k 0=n:=by
    rw[Aa,Ae hkz];rw[List.getElem_take]at hkn;exact hkn
   have hc2:=hcell k hkz;rw[hzn]at hc2;have hw:=hwf n (by rw[<-hkn,List.getElem_take];exact Ba hkz);simp only[Lit.wf,Aj,decide_eq_true_eq]at hw;have hn0:0<=n:=hw.1;have hn1:n<=255:=hw.2
   have hadd2:(⟨b,o,none⟩:Addr).add k=⟨b,o+k,none⟩:=by
    unfold Addr.add
    by_cases hk0:k=0
    ·subst hk0;simp
    ·simp[hk0]
   rw[hadd2,cell?_eq]at hc2;refine⟨.int .u8 n,hc2,?_,rfl⟩;subst hx;simp only[Function.comp,DR]
   have:((UInt8.ofNat n.toNat).toNat:Int)=n:=by
    rw[UInt8.toNat_ofNat'];omega
   rw[this]
end
section
def gN(f:A->Option D):List A->Option (List D)
 | []=>some []
 |a::asx=>match f a,gN f asx with
  |some x,some xs=>some (x::xs)
  |_,_=>none
def rd0(h:H):A->Option D
 |.d x=>some x
 |.sl id gen off len=>match h[id]? with
  |some (.arr cs esz g)=>if g=gen/\off+len*esz<=cs.length then some (.ivs len ((cs.drop off).take (len*esz)))else none
  |some (.ice cs esz g)=>if g=gen/\off+len*esz<=cs.length then some (.ivs len ((cs.drop off).take (len*esz)))else none
  |_=>none
 |_=>none
def rd1(h:H):A->Option D
 |.sl id gen off len=>match h[id]? with
  |some (.vec cs esz g)=>if g=gen/\off+len*esz<=cs.length then(gN (rd0 h) cs).map fun ds=>.ivs len ((ds.drop off).take (len*esz))else none
  |_=>rd0 h (.sl id gen off len)
 |.clo f caps=>(gN (rd0 h) caps).map (.fn f)
 |a=>rd0 h a
theorem PV{f:A->Option D}:∀ {asx:List A} {ds:List D},gN f asx=some ds->ds.length=asx.length
 | [],ds,h=>by simp only[gN,Option.some.injEq]at h;subst h;rfl
 |a::asx,ds,h=>by
  simp only[gN]at h
  split at h
  ·rename_i x xs h1 h2
   simp only[Option.some.injEq]at h;subst h;simp[PV h2]
  ·cases h
def Iced(h h':H):Prop:=∀i:Nat,h'[i]? =h[i]?\/(∃cs e g,h[i]? =some (.arr cs e g)/\h'[i]? =some (.ice cs e g))\/(∃cs ds e g,h[i]? =some (.vec cs e g)/\h'[i]? =some (.ice ds e g)/\gN (rd0 h) cs=some ds)
theorem aFi(h:H):Iced h h:=fun _=>.inl rfl
theorem aHz{h0 h:H}(hi:Iced h0 h){id:Nat}{cs:List D}{e g:Nat}(h1:h0[id]? =some (.arr cs e g))(hl:id<h.length):Iced h0 (h.set id (.ice cs e g)):=by
 intro i
 by_cases e1:id=i
 ·subst e1;exact .inr (.inl ⟨cs,e,g,h1,by simp[hl]⟩)
 ·rw[Dl e1];exact hi i
theorem aHx{h0 h:H}(hi:Iced h0 h){id:Nat}{cs:List A}{ds:List D}{e g:Nat}(h1:h0[id]? =some (.vec cs e g))(hd:gN (rd0 h0) cs=some ds)(hl:id<h.length):Iced h0 (h.set id (.ice ds e g)):=by
 intro i
 by_cases e1:id=i
 ·subst e1;exact .inr (.inr ⟨cs,ds,e,g,h1,by simp[hl],hd⟩)
 ·rw[Dl e1];exact hi i
theorem sF{α:Type}{l:List α}{i:Nat}{a:α}(h:l[i]? =some a):i<l.length:=(At.1 h).1
theorem aDJ{h0:H}(n:Nat){h:H}(hi:Iced h0 h){a:A}{x:D}(hx:rd0 h0 a=some x):∃h',frz n h a=some (x,h')/\Iced h0 h'/\∀(i:Nat) (cs:List A) (e g:Nat),h[i]? =some (.vec cs e g)->h'[i]? =some (.vec cs e g):=by
 cases a with
 |d y=>
  simp only[rd0,Option.some.injEq]at hx;subst hx;exact⟨h,by cases n<;>rfl,hi,fun _ _ _ _ h=>h⟩
 |sl id gen off len=>
  simp only[rd0]at hx
  have key:∀(o:O),h[id]? =some o->(∀cs e g,o≠.vec cs e g)->frz n h (.sl id gen off len)=frz0 h (.sl id gen off len):=by
   intro o ho hv
   cases n with
   |zero=>rfl
   |succ n=>
    simp only[frz,ho]
    cases o<;>first|rfl|exact absurd rfl (hv _ _ _)
  cases h1:h0[id]? with
  |none=>rw[h1]at hx;cases hx
  |some o=>
   rw[h1]at hx
   cases o with
   |arr cs e g=>
    simp only[]at hx
    split at hx
    ·rename_i hc
     simp only[Option.some.injEq]at hx;subst hx
     rcases hi id with q|⟨cs',e',g',q1,q2⟩|⟨cs',ds,e',g',q1,q2,q3⟩
     ·rw[h1]at q;refine⟨_,by rw[key _ q (by intro _ _ _ h;cases h)];simp only[frz0,q];rw[if_pos hc],aHz hi h1 (sF q),fun i cs' e' g' hv=> ?_⟩;rw[Dl (by intro e;subst e;rw[q]at hv;cases hv)];exact hv
     ·rw[h1]at q1;cases q1;exact⟨h,by rw[key _ q2 (by intro _ _ _ h;cases h)];simp only[frz0,q2];rw[if_pos hc],hi,fun _ _ _ _ h=>h⟩
     ·rw[h1]at q1;cases q1
    ·cases hx
   |ice cs e g=>
    simp only[]at hx
    split at hx
    ·rename_i hc
     simp only[Option.some.injEq]at hx;subst hx
     rcases hi id with q|⟨cs',e',g',q1,q2⟩|⟨cs',ds,e',g',q1,q2,q3⟩
     ·rw[h1]at q;exact⟨h,by rw[key _ q (by intro _ _ _ h;cases h)];simp only[frz0,q];rw[if_pos hc],hi,fun _ _ _ _ h=>h⟩
     ·rw[h1]at q1;cases q1
     ·rw[h1]at q1;cases q1
    ·cases hx
   |_=>cases hx
 |_=>simp[rd0]at hx
theorem aA3{h0:H}(n:Nat):∀ {asx:List A} {ds:List D} {h:H},Iced h0 h->gN (rd0 h0) asx=some ds->∃h',eJ (frz n) h asx=some (ds,h')/\Iced h0 h'/\∀(i:Nat) (cs:List A) (e g:Nat),h[i]? =some (.vec cs e g)->h'[i]? =some (.vec cs e g)
 | [],ds,h,hi,hr=>by simp only[gN,Option.some.injEq]at hr;subst hr;exact⟨h,rfl,hi,fun _ _ _ _ h=>h⟩
 |a::asx,ds,h,hi,hr=>by
  simp only[gN]at hr
  split at hr
  ·rename_i x xs h1 h2
   simp only[Option.some.injEq]at hr;subst hr;obtain⟨k1,e1,i1,v1⟩:=aDJ n hi h1;obtain⟨k2,e2,i2,v2⟩:=aA3 n i1 h2;exact⟨k2,by simp only[eJ,e1,e2],i2,fun i cs e g hv=>v2 i cs e g (v1 i cs e g hv)⟩
  ·cases hr
theorem W0{h0:H}(n:Nat){h:H}(hi:Iced h0 h){a:A}{x:D}(hx:rd1 h0 a=some x):∃h',frz (n+1) h a=some (x,h')/\Iced h0 h':=by
 cases a with
 |sl id gen off len=>
  have leaf:rd0 h0 (.sl id gen off len)=some x->∃h',frz (n+1) h (.sl id gen off len)=some (x,h')/\Iced h0 h':=fun h1=>by
   obtain⟨k,e,i,_⟩:=aDJ (n+1) hi h1;exact⟨k,e,i⟩
  simp only[rd1]at hx
  cases h1:h0[id]? with
  |none=>rw[h1]at hx;exact leaf hx
  |some o=>
   rw[h1]at hx
   cases o with
   |vec cs e g=>
    simp only[]at hx
    split at hx
    ·rename_i hc
     cases hr:gN (rd0 h0) cs with
     |none=>rw[hr]at hx;cases hx
     |some ds=>
      rw[hr]at hx;simp only[Ay,Option.some.injEq]at hx;subst hx;have hl:=PV hr
      rcases hi id with q|⟨cs',e',g',q1,q2⟩|⟨cs',ds',e',g',q1,q2,q3⟩
      ·rw[h1]at q;obtain⟨k,e1,i1,v1⟩:=aA3 n hi hr;have q':=v1 _ _ _ _ q;refine⟨k.set id (.ice ds e g),?_,aHx i1 h1 hr (sF q')⟩;simp only[frz,q];rw[if_pos hc,e1];simp only[q',and_self,if_true]
      ·rw[h1]at q1;cases q1
      ·rw[h1]at q1;cases q1;rw[hr]at q3;cases q3;refine⟨h,?_,hi⟩;simp only[frz,q2,frz0];rw[if_pos om]
    ·cases hx
   |_=>exact leaf hx
 |clo f caps=>
  simp only[rd1]at hx
  cases hr:gN (rd0 h0) caps with
  |none=>rw[hr]at hx;cases hx
  |some ds=>
   rw[hr]at hx;simp only[Ay,Option.some.injEq]at hx;subst hx;obtain⟨k,e1,i1,_⟩:=aA3 n hi hr;exact⟨k,by simp only[frz,e1],i1⟩
 |d y=>
  obtain⟨k,e,i,_⟩:=aDJ (n+1) hi (a:=.d y) hx;exact⟨k,e,i⟩
 |ptr _ _ _=>simp[rd1,rd0]at hx
 |mp _=>simp[rd1,rd0]at hx
 |agg _=>simp[rd1,rd0]at hx
 |tup _=>simp[rd1,rd0]at hx
 |junk=>simp[rd1,rd0]at hx
def kids(h:H)(i:Nat):List Nat:=match h[i]? with
 |some (.box cs)=>idsL cs
 |some (.vec cs _ _)=>idsL cs
 |_=>[]
inductive Okay(h:H):Nat->Prop where
 |mk (i:Nat) (o:O) (hi:h[i]? =some o) (hv:o≠.void) (hk:∀j∈kids h i,Okay h j):Okay h i
def wgt:H->Nat
 | []=>0
 |.box cs::h=>(idsL cs).length+wgt h
 |.vec cs _ _::h=>(idsL cs).length+wgt h
 |_::h=>wgt h
def wgtN(h:H)(acc:List Nat):Nat:=((List.range h.length).filter fun i=> !acc.contains i).foldr (fun i n=>(kids h i).length+n) 0
theorem aSu:∀(h:H),wgt h=(List.range h.length).foldr (fun i n=>(kids h i).length+n) 0:=by
 intro h
 induction h with
 |nil=>rfl
 |cons o h ih=>
  rw[Ac,List.range_succ_eq_map,List.foldr_cons,List.foldr_map];have e:∀i,kids (o::h) (i+1)=kids h i:=fun i=>by simp only[kids,Av]
  simp only[e,<-ih]
  cases o<;>simp[wgt,kids]
theorem JV{f:Nat->Nat}{p:Nat->Bool}:∀(l:List Nat),(l.filter p).foldr (fun i n=>f i+n) 0<=l.foldr (fun i n=>f i+n) 0
 | []=>by simp
 |a::l=>by
  have:=JV (f:=f) (p:=p) l;simp only[List.filter_cons]
  split
  ·simp only[List.foldr_cons];omega
  ·simp only[List.foldr_cons];omega
theorem aRS(h:H)(acc:List Nat):wgtN h acc<=wgt h:=by rw[aSu];exact JV _
theorem ZL{f:Nat->Nat}{acc:List Nat}{i:Nat}(hn:i∉acc):∀(l:List Nat),l.Nodup->i∈l->(l.filter fun k=> !(acc++[i]).contains k).foldr (fun i n=>f i+n) 0+f i=(l.filter fun k=> !acc.contains k).foldr (fun i n=>f i+n) 0
 | [],_,h=>by simp at h
 |a::l,hd,hm=>by
  obtain⟨ha,hl⟩:=Dj.1 hd
  by_cases e:a=i
  ·subst e
   have h1:(l.filter fun k=> !(acc++[a]).contains k)=l.filter fun k=> !acc.contains k:=by
    apply List.filter_congr;intro x hx;have:x≠a:=fun h=>ha (h▸hx);simp[this]
   have h2:((a::l).filter fun k=> !(acc++[a]).contains k)=(l.filter fun k=> !acc.contains k):=by
    rw[Ek sm,h1]
   have h3:((a::l).filter fun k=> !acc.contains k)=a::(l.filter fun k=> !acc.contains k):=by
    rw[El (by simp[hn])]
   rw[h2,h3,List.foldr_cons];omega
  ·have hm':i∈l:=by simpa [Ne.symm e]using hm
   have ih:=ZL (f:=f) hn l hl hm'
   by_cases hc:a∈acc
   ·rw[Ek (by simp[hc]),Ek (by simp[hc])];exact ih
   ·rw[El (by simp[hc,e]),El (by simp[hc]),List.foldr_cons,List.foldr_cons];omega
theorem aH0{h:H}:∀(n:Nat) (todo acc:List Nat),(∀i∈todo,Okay h i)->(∀i∈acc,∀j∈kids h i,j∈acc\/j∈todo)->(∀i∈acc,Okay h i)->todo.length+wgtN h acc<=n->
  (∀i∈todo,i∈aD n h todo acc)/\(∀i∈acc,i∈aD n h todo acc)/\(∀i∈aD n h todo acc,∀j∈kids h i,j∈aD n h todo acc)/\(∀i∈aD n h todo acc,Okay h i):=by
 intro n
 induction n with
 |zero=>
  intro todo acc ht ha hk hn;have:todo=[]:=by cases todo<;>simp_all
  subst this;simp only[aD];exact⟨by simp,fun i hi=>hi,fun i hi j hj=>by simpa using ha i hi j hj,hk⟩
 |succ n ih=>
  intro todo acc ht ha hk hn
  cases todo with
  |nil=>
   simp only[aD];exact⟨by simp,fun i hi=>hi,fun i hi j hj=>by simpa using ha i hi j hj,hk⟩
  |cons i todo=>
   by_cases hc:acc.contains i=true
   ·have e:aD (n+1) h (i::todo) acc=aD n h todo acc:=by simp only[aD,hc,if_true]
    rw[e];have hm:i∈acc:=by simpa using hc
    obtain⟨r1,r2,r3,r4⟩:=ih todo acc (fun j hj=>ht j (by simp[hj])) (fun j hj k hk'=>by
     rcases ha j hj k hk' with h1|h1
     ·exact .inl h1
     ·rcases Au.1 h1 with h2|h2
      ·subst h2;exact .inl hm
      ·exact .inr h2) hk (by simp only[Ac]at hn;omega)
    refine⟨fun j hj=> ?_,r2,r3,r4⟩
    rcases Au.1 hj with h1|h1
    ·subst h1;exact r2 _ hm
    ·exact r1 j h1
   ·have hm:i∉acc:=by simpa using hc
    obtain⟨_,o,ho,hv,hkd⟩:=ht i sm;have hil:i<h.length:=sF ho
    have e:aD (n+1) h (i::todo) acc=aD n h (todo++kids h i) (acc++[i]):=by
     simp only[aD,hc,if_false,ho,kids,Ap]
     cases o<;>first|rfl|(simp;done)|exact absurd rfl hv
    rw[e];have hw:wgtN h (acc++[i])+(kids h i).length=wgtN h acc:=ZL (f:=fun i=>(kids h i).length) hm (List.range h.length) List.nodup_range (by simpa using hil)
    obtain⟨r1,r2,r3,r4⟩:=ih (todo++kids h i) (acc++[i]) (fun j hj=>by
     rcases Aq.1 hj with h1|h1
     ·exact ht j (by simp[h1])
     ·exact hkd j h1) (fun j hj k hk'=>by
     rcases Aq.1 hj with h1|h1
     ·rcases ha j h1 k hk' with h2|h2
      ·exact .inl (by simp[h2])
      ·rcases Au.1 h2 with h3|h3
       ·subst h3;exact .inl sm
       ·exact .inr (by simp[h3])
     ·simp only[Bi]at h1;subst h1;exact .inr (by simp[hk'])) (fun j hj=>by
     rcases Aq.1 hj with h1|h1
     ·exact hk j h1
     ·simp only[Bi]at h1;subst h1;exact ht _ sm) (by simp only[Ai,Ac]at hn|-;omega)
    refine⟨fun j hj=> ?_,fun j hj=>r2 j (by simp[hj]),r3,r4⟩
    rcases Au.1 hj with h1|h1
    ·subst h1;exact r2 _ sm
    ·exact r1 j (by simp[h1])
theorem WN{h:H}{ids:List Nat}(hk:∀i∈ids,Okay h i)(hw:ids.length+wgt h<=1099511627776):closed h (aD aF h ids []) ids=true/\(∀i∈ids,i∈aD aF h ids [])/\∀i∈aD aF h ids [],∀j∈kids h i,j∈aD aF h ids []:=by
 have hle:=aRS h [];obtain⟨r1,_,r3,_⟩:=aH0 aF ids [] hk sm sm (by unfold aF;omega);refine⟨?_,r1,r3⟩;simp only[closed,Aj,Bh,List.contains_eq_mem,decide_eq_true_eq];refine⟨r1,fun i hi=> ?_⟩;have:=r3 i hi;unfold kids at this
 cases ho:h[i]? with
 |none=>rfl
 |some o=>
  rw[ho]at this
  cases o<;>first|rfl|(simp only[Bh,List.contains_eq_mem,decide_eq_true_eq];exact this)
section
variable{h:H}{ord:List Nat}
end
section
variable{R:Type}{E:Env}{call:aX}{h:H}{f:FuncId}{args:List A}{k:KA R}
mutual
theorem aNi{f g q:Nat->Option Nat}(hq:∀i,(g i).bind f=q i):∀a:A,mapA f (mapA g a)=mapA q a
 |.d x=>by simp only[mapA]
 |.sl id gen off len=>by
  simp only[mapA];have:=hq id
  cases hg:g id with
  |none=>rw[hg]at this;rw[<-this];simp only[mapA,Option.bind_none]
  |some j=>rw[hg]at this;simp only[mapA,<-this,Df]
 |.ptr id gen off=>by
  simp only[mapA];have:=hq id
  cases hg:g id with
  |none=>rw[hg]at this;rw[<-this];simp only[mapA,Option.bind_none]
  |some j=>rw[hg]at this;simp only[mapA,<-this,Df]
 |.mp id=>by
  simp only[mapA];have:=hq id
  cases hg:g id with
  |none=>rw[hg]at this;rw[<-this];simp only[mapA,Option.bind_none]
  |some j=>rw[hg]at this;simp only[mapA,<-this,Df]
 |.clo c caps=>by simp only[mapA,mN hq caps]
 |.agg cs=>by simp only[mapA,mN hq cs]
 |.tup cs=>by simp only[mapA,mN hq cs]
 |.junk=>by simp only[mapA]
theorem mN{f g q:Nat->Option Nat}(hq:∀i,(g i).bind f=q i):∀asx:List A,aE f (aE g asx)=aE q asx
 | []=>by simp only[aE]
 |a::asx=>by simp only[aE,aNi hq a,mN hq asx]
end
end
end
end Ev
end Go.Proofs.YtahbdkmimmnadaaGreatDoor
