/-
  What the types of the program are.
-/
import Derived.Test.YtahbdkmimmnadaaGreatDoorTy
import Derived.IntWalk
import Derived.Test.YtahbdkmimmnadaaGreatDoorEvRun
import Derived.Lib.TrailingZeros
import Derived.Test.YtahbdkmimmnadaaGreatDoorEvDraw
import Derived.Test.YtahbdkmimmnadaaGreatDoorEvPrim
import Derived.Test.YtahbdkmimmnadaaGreatDoorChecked
import Derived.WalkKit
import Derived.Deep.RegionLaw
import Derived.Shelf.RegionOpenPlain
import Derived.Lib.Walk
import Derived.Lib.SliceRun
import Derived.Deep.LoopGhost
import Derived.Shelf.Spec.TrailingZeros
import Derived.Laws.StructEq
import Derived.ChangeSlices
import Derived.RowKit3
import Derived.Test.YtahbdkmimmnadaaGreatDoorEvWalk
set_option linter.unusedSimpArgs false
set_option linter.unusedVariables false
set_option linter.unusedSectionVars false
set_option maxRecDepth 1000000
set_option maxHeartbeats 4000000
namespace Go.Proofs.YtahbdkmimmnadaaGreatDoor
namespace Ev
theorem dW{n:Int}(h1:-9223372036854775808<=n)(h2:n<=9223372036854775807):IntKind.i64.wrap n=n:=IntWalk.i64_in n ⟨h1,h2⟩
theorem ZO{n:Int}(h1:0<=n)(h2:n<=18446744073709551615):IntKind.u64.wrap n=n:=IntWalk.u64_in n ⟨h1,h2⟩
theorem aPW{n:Int}(h1:0<=n)(h2:n<=255):IntKind.u8.wrap n=n:=IntWalk.u8_in n ⟨h1,h2⟩
theorem aEB:env.P.underlying 3=some (.int .i64):=kr
theorem aFt:env.P.underlying 165=some (.int .u64):=kr
theorem aIj:env.P.underlying 5=some (.int .u8):=kr
theorem aPh:env.P.underlying 4=some .bool:=kr
theorem aMg:env.P.underlying 9=some .string:=kr
theorem aPA:env.P.underlying 104=some (.slice 3):=kr
theorem aIO:env.P.underlying 42=some (.slice 5):=kr
theorem IQ:env.P.cellsOf 3=1:=kr
theorem aIR:env.P.cellsOf 5=1:=kr
theorem aPT:eG env.P 3=true:=kr
theorem aPR:dA env.P 3=some (nI 0):=kr
theorem CB{h:H}{n:Int}{K:IntKind}:gM env.P h 3 165 (.d (.int K n))=some (.d (.int .u64 (IntKind.u64.wrap n)),h):=wC aEB aFt
theorem aBT{h:H}{n:Int}{K:IntKind}:gM env.P h 3 5 (.d (.int K n))=some (.d (.int .u8 (IntKind.u8.wrap n)),h):=wC aEB aIj
def ints(l:List Int):List D:=l.map (.int .i64)
def bE(l:List UInt8):List D:=l.map fun b=>.int .u8 b.toNat
abbrev rdO(c:List UInt8)(p:Int):O:=.box [.d (.ivs c.length (bE c)),nI p]
abbrev Dw(m f:Nat)(xs:List A)(r:A)(c:List UInt8)(p q:Int):Prop:=∀(R:Type) (L n:Nat) (hq:H) (k:KA R),m<=n->2^60<=L->aU env (aA env L n) (rdO c p::hq) f (.ptr 0 0 0::xs) k=k r (rdO c q::hq)
abbrev KC(d L:Nat)(f:Nat)(xs:List A)(r:A):Prop:=∀(R:Type) (n:Nat) (hq:H) (k:KA R),d<=n->aU env (aA env L n) hq f xs k=k r hq
theorem ks{d L:Nat}{f:Nat}{xs:List A}{r:A}(h2:∀ {n:Nat},d<=n->aA env L n f xs []=some (r,[]))(h1:xs.all wO=true:=by rfl)(h3:idsA r=[]:=by rfl)(h4:iC r=true\/((env.hint f).mode==1||(env.hint f).mode==3)=false:=by first|exact .inl rfl|exact .inr rfl):KC d L f xs r:=fun _ _ _ _ hn=>cW h1 (h2 hn) h3 h4
abbrev KT(d L:Nat)(f:Nat)(xs:List A)(r:A):Prop:=∀(R:Type) (n:Nat) (k:A->Option R),d<=n->uI (aA env L n) f xs k=k r
theorem kt{d L:Nat}{f:Nat}{xs:List A}{r:A}(h2:∀ {n:Nat},d<=n->aA env L n f xs []=some (r,[]))(h:iC r=true:=by rfl):KT d L f xs r:=fun _ _ _ hn=>uU (h2 hn) h
abbrev KV(L:Nat)(f:Nat)(xs:List A):Prop:=∀(R:Type) (n:Nat) (hq:H) (k:KA R),aU env (aA env L n) hq f xs k=match box (aA2 hq xs)with
 |.mk (some fs)=>uI (aA env L n) f fs fun r=>k r hq
 |_=>none
theorem aJr:cR env.P 104=some 3:=by simp only[cR,aPA]
theorem gW{l:List Int}:(ints l).length=l.length:=by simp[ints]
theorem aCm{l:List Int}{v:Int}:ints l++[.int .i64 v]=ints (l++[v]):=by simp[ints]
theorem i7:ints []=[]:=rfl
theorem fJ{l:List Int}{k:Nat}(h:l.length<=k):(ints l).take k=ints l:=Bx (by rw[gW];exact h)
theorem R3{l:List Int}{k:Nat}(h:k<l.length):(((ints l).drop k).map A.d).head? =some (nI (l.getD k 0)):=by
 rw[Dm,Cs,ints,Bc,Ab,Ae h];rfl
section
theorem D0{α:Type}(f:α->D)(l:List α)(k:Nat)(v:α)(h:k<l.length):a6 (l.map f) k [f v]=(l.set k v).map f:=by
 unfold a6;rw[List.map_set];have:k<(l.map f).length:=by simpa using h
 generalize l.map f=m at *;rw[Ej,if_pos this];simp
theorem oV{l:List UInt8}:(bE l).length=l.length:=by simp[bE]
theorem aJn:bE []=[]:=rfl
theorem aMz{e g:Nat}:O.arr [] e g=O.arr (ints []) e g:=rfl
theorem VY{l:List UInt8}{v:UInt8}:bE l++[.int .u8 (v.toNat:Int)]=bE (l++[v]):=by simp[bE]
theorem J1{l:List UInt8}{k:Nat}(h:l.length<=k):(bE l).take k=bE l:=Bx (by rw[oV];exact h)
theorem V8{l:List UInt8}{k:Nat}(h:k<l.length):(((bE l).drop k).map A.d).head? =some (.d (.int .u8 ((l.getD k 0).toNat:Int))):=by
 rw[Dm,Cs,bE,Bc,Ab,Ae h];rfl
theorem aJt{l:List UInt8}{k:Nat}{v:UInt8}(h:k<l.length):a6 (bE l) k [.int .u8 (v.toNat:Int)]=bE (l.set k v):=D0 _ l k v h
theorem W6{l:List Int}{k:Nat}{v:Int}(h:k<l.length):a6 (ints l) k [.int .i64 v]=ints (l.set k v):=D0 _ l k v h
theorem aDk:∀l:List UInt8,E7 (bE l)=some l
 | []=>rfl
 |b::l=>by
  have ih:=aDk l;unfold bE at ih|-;simp only[Ag,E7,ih,Ax];simp
theorem getElem?_zero_cons {o:O} {h:H}:(o::h)[0]? =some o:=rfl
theorem LU{l:List UInt8}{g len:Nat}{h:H}(hl:len=l.length):gM env.P (.arr (bE l) 1 g::h) 42 9 (.sl 0 g 0 len)=some (.d (.str l),.arr (bE l) 1 g::h):=by
 subst hl;simp only[gM,aIO,aMg,aIj,bT,getElem?_zero_cons,oV,or_true,By,Af,Ad,and_self,if_true,Ay,J1 (Ad _),aDk,Ax]
theorem aGJ{α:Type}(x:α):∀n:Nat,(List.replicate n [x]).flatten=List.replicate n x
 |0=>rfl
 |n+1=>by simp[Dr,aGJ x n]
theorem AN{n:Int}{h:H}(h0:0<=n)(h1:n<=4294967296):iD env.P h 104 n n=some (.sl h.length 0 0 n.toNat,h++[.arr (ints (List.replicate n.toNat 0)) 1 0]):=by
 have hm:n<=(bF:Nat):=by unfold bF;omega
 simp only[iD,aJr,aPR,aT,wW,Ax,aPT,h0,hm,IQ,Int.le_refl,and_self,if_true,aGJ,ints,List.map_replicate]
theorem take_set{α:Type}{l:List α}{k:Nat}{v:α}(h:k<l.length):(l.set k v).take (k+1)=l.take k++[v]:=by
 rw[List.take_set,Dt,Ae h];simp only[Option.toList_some];have hl:(l.take k).length=k:=by rw[Cf];omega
 rw[List.set_append_right _ _ om,hl,Cl];rfl
theorem aOA{o:O}{h:H}{id:Nat}(hs:h[id]? =some o):h.set id o=h:=by
 apply Cn;intro j;rw[Co];obtain⟨hl,he⟩:=Ar.1 hs
 by_cases e:id=j
 ·subst e;simp[hl,he]
 ·simp[e]
theorem xX{h:H}{id gen off esz:Nat}{t:TypeId}{cs:List D}{d:D}(hid:h[id]? =some (.arr cs esz gen))(c1:env.P.cellsOf t=1)(hi:(env.P.info? t).isSome=true)(hd:dH (.d d)=true)(hk:off<cs.length):
  iW env.P h t (.ptr id gen off) (.d d)=some (h.set id (.arr (a6 cs off [d]) esz gen)):=by
 have hc:(aT (.d d)).length=env.P.cellsOf t/\(env.P.info? t).isSome=true/\(aT (.d d)).all dH=true:=⟨by rw[c1];rfl,hi,by simp[aT,hd]⟩
 have hf:frzL h (aT (.d d))=some ([d],h):=rfl;unfold iW;rw[if_pos hc];simp only[hid,hf,c1,true_and];rw[if_pos om]
theorem aO9:(env.P.info? 5).isSome=true:=kr
theorem aI6:(env.P.info? 3).isSome=true:=kr
theorem aKx:(env.P.info? 4).isSome=true:=kr
theorem aGp:env.P.cellsOf 4=1:=kr
theorem aMn{h:H}{g e k:Nat}{l:List UInt8}{b:UInt8}(hk:k<l.length):iW env.P (.arr (bE l) e g::h) 5 (.ptr 0 g k) (.d (.int .u8 (b.toNat:Int)))=some (.arr (bE (l.set k b)) e g::h):=by
 rw[xX (id:=0) rfl aIR aO9 rfl (by rw[oV];exact hk),aJt hk];rfl
theorem EM{h:H}{g e k:Nat}{l:List Int}{b:Int}(hk:k<l.length):iW env.P (.arr (ints l) e g::h) 3 (.ptr 0 g k) (nI b)=some (.arr (ints (l.set k b)) e g::h):=by
 rw[xX (id:=0) rfl IQ aI6 rfl (by rw[gW];exact hk),W6 hk];rfl
theorem aIq{o:O}{h:H}{g e k:Nat}{l:List Int}{b:Int}(hk:k<l.length):iW env.P (o::.arr (ints l) e g::h) 3 (.ptr 1 g k) (nI b)=some (o::.arr (ints (l.set k b)) e g::h):=by
 rw[xX (id:=1) rfl IQ aI6 rfl (by rw[gW];exact hk),W6 hk];rfl
section
variable{t:TypeId}{h:H}{a b:List UInt8}
theorem aBi(hl:a.length+b.length<=4294967296):cH env .add t h (.d (.str a)) (.d (.str b))=some (.d (.str (a++b)),h):=by
 have:a.length+b.length<=bF:=hl;simp[cH,aBin,this]
end
theorem toNat_lt(b:UInt8):b.toNat<256:=b.toNat_lt
theorem aGQ{b:UInt8}:IntKind.i64.wrap (b.toNat:Int)=b.toNat:=dW om (by have:=toNat_lt b;omega)
theorem GJ{l:List UInt8}{n:Nat}{lo hi:Option Int}{h:H}(hn:n=l.length)(h0:0<=lo.getD 0)(h1:lo.getD 0<=hi.getD l.length)(h2:hi.getD l.length<=l.length):gE env.P h 42 (.d (.ivs n (bE l))) lo hi=some (.d (.ivs ((l.drop (lo.getD 0).toNat).take ((hi.getD l.length).toNat-(lo.getD 0).toNat)).length (bE ((l.drop (lo.getD 0).toNat).take ((hi.getD l.length).toNat-(lo.getD 0).toNat))))):=by
 subst hn;simp only[gE,aIO,aIR,lJ,h0,h1,h2,and_self,if_true,By,Ax,Nat.zero_lt_one,bE,List.map_take,List.map_drop]
 congr 3
 rw[Cf,Ba];omega
theorem UV{l:List UInt8}{n:Nat}{u:Int}{h:H}(hn:n=l.length)(h0:0<=u)(h1:u<=l.length):gE env.P h 42 (.d (.ivs n (bE l))) none (some u)=some (.d (.ivs (l.take u.toNat).length (bE (l.take u.toNat)))):=by
 rw[GJ hn sm (by simpa using h0) (by simpa using h1)];simp
theorem OM{l:List UInt8}{n:Nat}{u:Int}{h:H}(hn:n=l.length)(h0:0<=u)(h1:u<=l.length):gE env.P h 42 (.d (.ivs n (bE l))) (some u) none=some (.d (.ivs (l.drop u.toNat).length (bE (l.drop u.toNat)))):=by
 rw[GJ hn (by simpa using h0) (by simpa using h1) sm];have:(List.take (l.length-u.toNat) (l.drop u.toNat))=l.drop u.toNat:=Bx sm;simp[this]
theorem aAt{h:H}{a b:Bool}:cH env .neq 4 h (.d (.bool a)) (.d (.bool b))=some (.d (.bool (!(a==b))),h):=by simp[cH,aBin,aNil,aPh,eqlA]
theorem LB:type_of% (AI @oV (AI @gW (AI @V8 (AI @R3 (AI @J1 (AI @fJ (AI @VY (AI @aCm (AI @aBi (AI @aGQ (AI @aAt @Cd))))))))))):=
 ⟨@oV,@gW,@V8,@R3,@J1,@fJ,@VY,@aCm,@aBi,@aGQ,@aAt,@Cd⟩
theorem CV:type_of% (AI @UV @OM):=
 ⟨@UV,@OM⟩
theorem DN:type_of% (AI @WD (AI @aAl (AI @WDD (AI @aAE @CV)))):=
 ⟨@WD,@aAl,@WDD,@aAE,@CV⟩
theorem Dz{p:Prop}(h:p:=by first|assumption|exact⟨by kernel_rfl⟩|omega|(simp only[GT,LN]<;>omega)):p:=h
theorem UP:type_of% (AI @SLM (AI @WK (AI @UN (AI @TY (AI @LB (AI @MD @dW)))))):=
 ⟨@SLM,@WK,@UN,@TY,@LB,@MD,@dW⟩
end
def gnd:Gnd:=⟨[(1,(Lib.deBruijn64tab.map fun(n:Nat)=>Value.int .u8 (n:Int)).toArray)],false⟩
section
variable{G:Gnd}
open Go.RowKit Go.Lib
theorem C8{P:Program}{w w':World}{ops:Array Oper}{rest:List Oper}{o:Oper}{a:Act}{Q:Exit->Act->World->Prop}(hgd:o.guard=none)(s x:Operand)(t:TypeId)
  (ho:o.op=.call { callee:=.builtin .append,args:=#[s,x],argTypes:=#[t,t]}) {sv xv v:Value} (hs:a.eval s=sv) (hx:a.eval x=xv) (hrun:(Builtin.append_ #[t,t] o.type #[sv,xv]).run P w=.ok v w')
  (h:wpList P ops Q rest (a.put o.dst v) w'):wpList P ops Q (o::rest) a w:=
 wpList_plain hgd fun _ hK=>by
  unfold Oper.wp;simp[execOp,ho,resolve,invoke,builtin,hs,hx,hrun,Result.andThen];exact hK _ _ h
theorem aA3{esz:Nat}{x:A}{xv:Value}{n:Nat}{ds:List D}{h:H}{ρ:Rho}{w:World}{I:Nat->Prop}(he:bT h esz x=some (n,ds))(hns:∀s,x≠.d (.str s))(hz:0<esz)(r:Rel G h ρ w I)(hx:AR h ρ w I x xv):
  ∃a cap,xv=.slice a n cap/\n<=cap/\(a=none->n=0):=by
 unfold bT at he
 split at he
 ·cases he;simp only[AR,DR]at hx
  obtain⟨a,rfl⟩:=hx;exact⟨a,0,rfl,Ad _,fun _=>rfl⟩
 ·split at he
  ·rename_i hl
   cases he;simp only[AR,DR]at hx
   obtain⟨a,cap,rfl,hc,hh⟩:=hx;refine⟨a,cap,rfl,hc,fun ha=> ?_⟩
   rcases hh with hh|⟨b,o,hb,_⟩
   ·rw[hh]at hl
    rcases Dc n with h0|h0
    ·exact h0
    ·have:=Nat.mul_pos h0 hz;simp at hl;omega
   ·rw[ha]at hb;cases hb
  ·cases he
 ·rename_i s;exact absurd rfl (hns s)
 ·rename_i id gen off len
  split at he
  ·rename_i cs e g hid
   split at he
   ·rename_i hc
    cases he;simp only[AR]at hx
    obtain⟨a,cap,rfl,hs⟩:=hx;simp only[slOK,hid]at hs;have h2:=hs.2 hc.1.symm;refine⟨a,cap,rfl,h2.1,fun ha=> ?_⟩;have h3:=h2.2
    split at h3
    ·omega
    ·rcases h3 with h3|h3
     ·omega
     ·rw[ha]at h3;cases h3.1
   ·cases he
  ·rename_i cs e g hid
   split at he
   ·rename_i hc
    cases he;simp only[AR]at hx
    obtain⟨a,cap,rfl,hs⟩:=hx;simp only[slOK,hid]at hs;have h2:=hs.2 hc.1.symm;refine⟨a,cap,rfl,h2.1,fun ha=> ?_⟩
    rcases h2.2 with h3|⟨_,b,hb,_⟩
    ·exact h3
    ·rw[ha]at hb;cases hb
   ·cases he
  ·cases he
 ·cases he
theorem aJy:yK G Tryz.prog 79 (lY 3):=by
 intro k args h x h' he;simp only at he
 split at he
 ·rename_i hk
  subst hk;refine⟨⟨_,Tryz.func79,by kernel_rfl,by kernel_rfl⟩,fun ρ w I vs r ha=> ?_⟩;unfold lY at he
  split at he
  ·cases he
  ·rename_i y hns
   split at he
   ·rename_i n cs hsc
    split at he
    ·rename_i hn
     cases he;obtain⟨xv,rest,rfl,hx,hr⟩:=f6 ha
     simp only[ARv]at hr;subst hr;have hns':∀s,y≠.d (.str s):=fun s hy=>by subst hy;exact hns s rfl
     obtain⟨a,cap,rfl,hcap,hnil⟩:=aA3 hsc hns' om r hx;have hu:=Tryz.underlying29;have q22:∀(w:World) (a:Option Addr) (n c n' c':Nat),(binOp .eql 29 (.slice a n c) (.slice none n' c')).run Tryz.prog w=.ok (.bool a.isNone) w:=fun w a n c n' c'=>Lib.run_eql_slice_nil w _ _ a n c n' c' hu
     by_cases hnone:a.isNone=true
     ·have hn0:n=0:=hnil (by simpa using hnone);subst hn0
      have hs0:cs=[]:=by
       have:=(r6 (P:=Tryz.prog) hsc r hx).2.1
       simpa using this
      subst hs0;have s1:=fH r (Grew.refl w) (.arr [] 3 0) none sm (fun _=>by simp[OR,a7])
      have hsl:AR (h++[.arr [] 3 0]) (upd ρ h.length none) w I (.sl h.length 0 0 0) (.slice none 0 0):=by
       simp only[AR];refine⟨none,0,rfl,?_⟩;have e1:(h++[O.arr [] 3 0])[h.length]? =some (.arr [] 3 0):=sm;simp only[slOK,e1,a7];simp
      clear hx ha hsc
      go_enter Tryz.func79,Tryz.ntmps79
      go_wp2_with fail
      go_ret
      exact⟨_,rfl,upd ρ h.length none,I,s1,hsl⟩
     ·have hnone':a.isNone=false:=by cases a<;>simp_all
      have s1:=BU r (Grew.push w (Obj.cells #[] 53));have hx1:=hG s1.ext y _ hx;have hel:cR Tryz.prog 29=some 53:=kr;have hok:eG Tryz.prog 53=true:=kr;have hce:Tryz.prog.cellsOf 53=3:=kr
      have hap:iE Tryz.prog h 29 (.d .nils) y=some (.sl h.length 0 0 n,h++[.arr cs 3 0]):=by
       simp only[iE,hel,hok,hce,hsc,if_true,hn]
      obtain⟨v,ρ',w',I',hrun,st,ar⟩:=wR (P:=Tryz.prog) (ty:=29) hu (fun k hk=>by cases hk) hap s1.rel (sv:=.slice (some ⟨w.heap.size,0,none⟩) 0 0) (by simp only[AR,DR];exact⟨_,rfl⟩) hx1;have fin:=s1.trans st;clear hx ha hsc hx1 s1 st
      go_enter Tryz.func79,Tryz.ntmps79
      go_wp2_with (at_builtin;refine C8 rfl _ _ 29 rfl rfl rfl hrun ?_)
      go_wp2
      go_ret
      exact⟨v,ρ',I',rfl,fin,ar⟩
    ·cases he
   ·cases he
  ·cases he
 ·cases he
theorem aG5:yK G Tryz.prog 63 (lY 3):=by
 intro k args h x h' he;simp only at he
 split at he
 ·rename_i hk
  subst hk;refine⟨⟨_,Tryz.func63,by kernel_rfl,by kernel_rfl⟩,fun ρ w I vs r ha=> ?_⟩;unfold lY at he
  split at he
  ·cases he
  ·rename_i y hns
   split at he
   ·rename_i n cs hsc
    split at he
    ·rename_i hn
     cases he;obtain⟨xv,rest,rfl,hx,hr⟩:=f6 ha
     simp only[ARv]at hr;subst hr;have hns':∀s,y≠.d (.str s):=fun s hy=>by subst hy;exact hns s rfl
     obtain⟨a,cap,rfl,hcap,hnil⟩:=aA3 hsc hns' om r hx;have hu:=Tryz.underlying31;have q22:∀(w:World) (a:Option Addr) (n c n' c':Nat),(binOp .eql 31 (.slice a n c) (.slice none n' c')).run Tryz.prog w=.ok (.bool a.isNone) w:=fun w a n c n' c'=>Lib.run_eql_slice_nil w _ _ a n c n' c' hu
     by_cases hnone:a.isNone=true
     ·have hn0:n=0:=hnil (by simpa using hnone);subst hn0
      have hs0:cs=[]:=by
       have:=(r6 (P:=Tryz.prog) hsc r hx).2.1
       simpa using this
      subst hs0;have s1:=fH r (Grew.refl w) (.arr [] 3 0) none sm (fun _=>by simp[OR,a7])
      have hsl:AR (h++[.arr [] 3 0]) (upd ρ h.length none) w I (.sl h.length 0 0 0) (.slice none 0 0):=by
       simp only[AR];refine⟨none,0,rfl,?_⟩;have e1:(h++[O.arr [] 3 0])[h.length]? =some (.arr [] 3 0):=sm;simp only[slOK,e1,a7];simp
      clear hx ha hsc
      go_enter Tryz.func63,Tryz.ntmps63
      go_wp2_with fail
      go_ret
      exact⟨_,rfl,upd ρ h.length none,I,s1,hsl⟩
     ·have hnone':a.isNone=false:=by cases a<;>simp_all
      have s1:=BU r (Grew.push w (Obj.cells #[] 47));have hx1:=hG s1.ext y _ hx;have hel:cR Tryz.prog 31=some 47:=kr;have hok:eG Tryz.prog 47=true:=kr;have hce:Tryz.prog.cellsOf 47=3:=kr
      have hap:iE Tryz.prog h 31 (.d .nils) y=some (.sl h.length 0 0 n,h++[.arr cs 3 0]):=by
       simp only[iE,hel,hok,hce,hsc,if_true,hn]
      obtain⟨v,ρ',w',I',hrun,st,ar⟩:=wR (P:=Tryz.prog) (ty:=31) hu (fun k hk=>by cases hk) hap s1.rel (sv:=.slice (some ⟨w.heap.size,0,none⟩) 0 0) (by simp only[AR,DR];exact⟨_,rfl⟩) hx1;have fin:=s1.trans st;clear hx ha hsc hx1 s1 st
      go_enter Tryz.func63,Tryz.ntmps63
      go_wp2_with (at_builtin;refine C8 rfl _ _ 31 rfl rfl rfl hrun ?_)
      go_wp2
      go_ret
      exact⟨v,ρ',I',rfl,fin,ar⟩
    ·cases he
   ·cases he
  ·cases he
 ·cases he
end
section
variable{G:Gnd}
open Go.RowKit Go.Lib
def over(C:Array Value):Nat->List Value->Array Value
 |_,[]=>C
 |o,v::vs=>over (C.setIfInBounds o v) (o+1) vs
theorem qW:∀(vs:List Value) (C:Array Value) (o:Nat),(over C o vs).size=C.size
 | [],_,_=>rfl
 |v::vs,C,o=>by rw[over,qW vs];simp
theorem XS:∀(vs:List Value) (C:Array Value) (o k:Nat),o+vs.length<=C.size->(over C o vs)[k]? =if o<=k/\k<o+vs.length then vs[k-o]? else C[k]?
 | [],C,o,k,_=>by simp only[over,Aa];rw[if_neg om]
 |v::vs,C,o,k,h=>by
  simp only[Ac]at h|-;rw[over,XS vs _ (o+1) k (by simp;omega)]
  by_cases h1:o+1<=k/\k<o+1+vs.length
  ·rw[if_pos h1,if_pos om];obtain⟨m,hm⟩:∃m,k-o=m+1:=⟨k-o-1,by omega⟩
   rw[hm,As]
   congr 1;omega
  ·rw[if_neg h1]
   by_cases h2:k=o
   ·subst h2;rw[if_pos om,Cl];simp[Ee];omega
   ·rw[if_neg om];rw[Ee,if_neg (Ne.symm h2)]
theorem CG{b:Nat}{E:TypeId}{fz:Nat×Nat}:∀(vs:List Value) (o:Nat) (w:World) (C:Array Value),w.heap[b]? =some (.cells C E fz)->o+vs.length<=C.size->w.setCells b o vs=b9 w b (.cells (over C o vs) E fz)
 | [],o,w,C,hb,_=>by
  simp only[World.setCells,over,b9]
  have:w.heap.setIfInBounds b (Obj.cells C E fz)=w.heap:=by
   apply Array.ext_getElem?;intro j;rw[Ee]
   split
   ·rename_i e;subst e
    split
    ·exact hb.symm
    ·rename_i h;rw[Array.getElem?_eq_none om]
   ·rfl
  rw[this]
 |v::vs,o,w,C,hb,hl=>by
  simp only[Ac]at hl;have hlt:b<w.heap.size:=(Bj.1 hb).1;rw[World.setCells,U0 hb v,CG vs (o+1) _ _ (dN hlt) (by simp;omega),NC,over]
theorem YY{P:Program}(w:World)(t e ty:TypeId)(z:Value)(ht:P.underlying t=some (.slice e))(hv:∀w,(zeroValue e).run P w=.ok z w)(b o n c:Nat)(hn:0<n)
  (h1:∀u∈(Builtin.zeroCells z.cells n).toList,u.oneCell'=true)
  (hc:∀j,j<(Builtin.zeroCells z.cells n).toList.length->(w.cell? ⟨b,o+j,none⟩).isSome=true) (hf:∀j,j<(Builtin.zeroCells z.cells n).toList.length->w.frozen? ⟨b,o+j,none⟩=false):
  (Builtin.clear_ #[t] ty #[.slice (some ⟨b,o,none⟩) n c]).run P w=.ok (.tuple #[]) (w.setCells b o (Builtin.zeroCells z.cells n).toList):=by
 have hst:=run_storeCells_cells (P:=P) b o (Builtin.zeroCells z.cells n).toList 0 w (by simpa using hc) (by simpa using hf) h1;simp only[Br]at hst;obtain⟨m,rfl⟩:∃m,n=m+1:=⟨n-1,by omega⟩
 simp[Builtin.clear_,run_underlying ht,hv,hst]
theorem aJF(b len cap i j:Nat)(C:Array Value)(E:TypeId)(fz:Nat×Nat)(w:World)(hb:w.heap[b]? =some (.cells C E fz))(hu:rC C fz)(hC:cap*3<=C.size)(hlen:len<=cap)(hm:len<=4294967296)(hij:i<j)(hj:j<=len)(hone:∀k v,k<len*3->C[k]? =some v->v.oneCell'=true):
  Calls Tryz.prog 78 #[.slice (some ⟨b,0,none⟩) len cap,.int .i64 i,.int .i64 j] w fun e w'=>e=.returned (.slice (some ⟨b,0,none⟩) (i+(len-j)) cap)/\∃C',C'.size=C.size/\(∀k,k<(i+(len-j))*3->C'[k]? =if k<i*3 then C[k]? else C[j*3+(k-i*3)]?)/\w'=b9 w.drew b (.cells C' E fz):=by
 have hlt:b<w.heap.size:=(Bj.1 hb).1;obtain⟨news,hnews⟩:∃news,news=(C.toList.drop (j*3)).take ((len-j)*3):=⟨_,rfl⟩
 have hnl:news.length=(len-j)*3:=by rw[hnews,Cf,Ba,Eh];omega
 have hng:∀t,t<(len-j)*3->news[t]? =C[j*3+t]?:=by
  intro t ht;rw[hnews,Cx,if_pos ht,List.getElem?_drop,Array.getElem?_toList]
 have hcell:∀(w1:World) (C1:Array Value) (k:Nat),w1.heap[b]? =some (.cells C1 E fz)->w1.cell? ⟨b,k,none⟩=C1[k]?:=fun w1 C1 k h1=>by rw[cell?_eq,dX h1]
 have hfro:∀(w1:World) (C1:Array Value) (k:Nat),w1.heap[b]? =some (.cells C1 E fz)->C1.size=C.size->k<C.size->w1.frozen? ⟨b,k,none⟩=false:=by
  intro w1 C1 k h1 hs hk;have h2:=hu k hk;simp only[World.frozen?,h1]
  by_cases h3:fz.1<=k<;>by_cases h4:k<fz.2<;>simp[h3,h4]
  exact h2 ⟨h3,h4⟩
 have hbd:w.drew.heap[b]? =some (.cells C E fz):=hb
 obtain⟨A,hA,hsrc⟩:∃A:Addr,(if cap=j then some (⟨b,0,none⟩:Addr)else some ⟨b,j*3,none⟩)=some A/\Hid (∀t u,news[t]? =some u->w.drew.cell? (A.add t)=some u):=by
  by_cases h:cap=j
  ·refine⟨⟨b,0,none⟩,by simp[h],fun t u hu=> ?_⟩;have h0:news.length=0:=by rw[hnl];omega
   rw[Bw.1 h0]at hu;simp at hu
  ·refine⟨⟨b,j*3,none⟩,by simp[h],fun t u hu=> ?_⟩
   have ht:t<(len-j)*3:=by
    have:=(Ar.1 hu).1
    rwa [hnl]at this
   rw[Addr.add_lit,hcell _ _ _ hbd,<-hng t ht];exact hu
 have s1:Hid (news.length=(len-j)*3):=hnl
 have s2:Hid (∀u∈news,u.oneCell'=true):=by
  intro u hmem;obtain⟨t,ht⟩:=List.getElem?_of_mem hmem
  have htl:t<(len-j)*3:=by
   have:=(Ar.1 ht).1
   rwa [hnl]at this
  rw[hng t htl]at ht;exact hone _ u om ht
 have s3:Hid (∀t,t<news.length->(w.drew.cell? ⟨b,0+i*3+t,none⟩).isSome=true/\w.drew.frozen? ⟨b,0+i*3+t,none⟩=false):=by
  intro t ht;rw[hnl]at ht;refine⟨?_,hfro _ _ _ hbd rfl om⟩;rw[hcell _ _ _ hbd,Array.getElem?_eq_getElem om];rfl
 obtain⟨W1,hW1⟩:∃W1,W1=w.drew.setCells b (0+i*3) news:=⟨_,rfl⟩
 have hW1':W1=b9 w.drew b (.cells (over C (0+i*3) news) E fz):=by rw[hW1];exact CG news _ _ C hbd (by rw[hnl];omega)
 have hb1:W1.heap[b]? =some (.cells (over C (0+i*3) news) E fz):=by rw[hW1'];exact dN (w:=w.drew) hlt
 obtain⟨z,hz⟩:∃z:Value,z=.agg #[.int .i64 0,.int .i64 0,.int .i64 0]:=⟨_,rfl⟩
 have hzv:∀w,(zeroValue 53).run Tryz.prog w=.ok z w:=by rw[hz];exact Tryz.zeroValue53
 have hzl:(Builtin.zeroCells z.cells (len-(i+(len-j)))).toList.length=(len-(i+(len-j)))*3:=by rw[jB,hz];simp[Value.cells]
 have hz1:∀u∈(Builtin.zeroCells z.cells (len-(i+(len-j)))).toList,u.oneCell'=true:=by
  intro u hmem;rw[jB,hz]at hmem;simp only[List.mem_flatten,List.mem_replicate]at hmem;obtain⟨l,⟨_,rfl⟩,hmem⟩:=hmem;simp[Value.cells]at hmem;rw[hmem];rfl
 obtain⟨zs,hzs⟩:∃zs,zs=(Builtin.zeroCells z.cells (len-(i+(len-j)))).toList:=⟨_,rfl⟩
 rw[<-hzs]at hzl hz1
 have hcl:∀ty,(Builtin.clear_ #[29] ty #[.slice (some ⟨b,(i+(len-j))*3,none⟩) (len-(i+(len-j))) (cap-(i+(len-j)))]).run Tryz.prog W1=.ok (.tuple #[]) (W1.setCells b ((i+(len-j))*3) zs):=fun ty=>by
  rw[hzs];refine YY W1 _ _ ty z Tryz.underlying29 hzv b _ _ _ om ?_ ?_ ?_
  ·rw[<-hzs];exact hz1
  ·rw[<-hzs,hzl];intro t ht;rw[hcell _ _ _ hb1,Array.getElem?_eq_getElem (by rw[qW];omega)];rfl
  ·rw[<-hzs,hzl];intro t ht;exact hfro _ _ _ hb1 (qW _ _ _) om
 have hfin:∃C',C'.size=C.size/\(∀k,k<(i+(len-j))*3->C'[k]? =if k<i*3 then C[k]? else C[j*3+(k-i*3)]?)/\W1.setCells b ((i+(len-j))*3) zs=b9 w.drew b (.cells C' E fz):=by
  refine⟨over (over C (0+i*3) news) ((i+(len-j))*3) zs,by rw[qW,qW],fun k hk=> ?_,?_⟩
  ·rw[XS _ _ _ _ (by rw[qW,hzl];omega),if_neg om,XS _ _ _ _ (by rw[hnl];omega),hnl]
   by_cases h1:k<i*3
   ·rw[if_neg om,if_pos h1]
   ·rw[if_pos om,if_neg h1,hng _ om]
    congr 1;omega
  ·rw[CG zs _ W1 _ hb1 (by rw[qW,hzl];omega),hW1',NC]
 have hce:Tryz.prog.cellsOf 53=3:=kr;obtain⟨i0,hi0⟩:=kI (P:=Tryz.prog) (e:=53) (by rw[hce];omega);have hi1:i0.size=3:=by rw[<-hce];simp[Program.cellsOf,hi0]
 clear hce;have hW:Hid (W1=w.drew.setCells b (0+i*3) news):=hW1;have hic:i<=cap:=om;have hjc:j<=cap:=om;have t22:=Tryz.underlying29;obtain⟨C',k1,k2,k3⟩:=hfin;have K3:Aside (W1.setCells b ((i+(len-j))*3) zs=b9 w.drew b (.cells C' E fz)):=k3;have K2:Aside (∀k,k<(i+(len-j))*3->C'[k]? =if k<i*3 then C[k]? else C[j*3+(k-i*3)]?):=k2;clear hW1 hW1' hb1 hb hbd hng hnews hcell hfro hone hzs hz hzv k2 k3 hu
 go_enter Tryz.func78,Tryz.ntmps78
 go_wp2_with fail
 go_region_law (refine step_append_room rfl (.tmp 22) (.tmp 25) 29 rfl 53 i0 3 t22 hi0 hi1 b 0 i cap (by simp[Act.eval,Act.put]) A (len-j) (cap-j) news (by simp[Act.eval,Act.put]) s1.out hsrc.out s2.out om s3.out ?_;rw[<-hW.out])
 go_wp2
 go_ret
 exact⟨rfl,C',k1,K2.out,K3.out⟩
theorem aHv:yK G Tryz.prog 78 (zL 3):=by
 intro k args h x h' he;simp only at he
 split at he
 ·rename_i hk
  subst hk;refine⟨⟨_,Tryz.func78,by kernel_rfl,by kernel_rfl⟩,fun ρ w I vs r ha=> ?_⟩;unfold zL at he
  split at he
  ·rename_i id gen off len i j
   split at he
   ·rename_i cs e g hid
    split at he
    ·rename_i hc
     obtain⟨rfl,rfl,rfl,hi0,hij,hjl,hmx,hcl⟩:=hc;cases he;obtain⟨v1,rest1,rfl,hx,hr1⟩:=f6 ha;obtain⟨v2,rest2,rfl,hv2,hr2⟩:=f6 hr1;obtain⟨v3,rest3,rfl,hv3,hr3⟩:=f6 hr2;simp only[ARv]at hr3;subst hr3;simp only[AR,DR]at hv2 hv3;subst hv2;subst hv3;simp only[AR]at hx;obtain⟨a,cap,rfl,hs⟩:=hx;simp only[slOK,hid]at hs;obtain⟨_,hs⟩:=hs;obtain⟨hlc,hs⟩:=hs trivial
     obtain⟨b,hρ⟩:∃b,ρ id=some b:=by
      cases hb:ρ id with
      |none=>rw[hb]at hs;simp only at hs;omega
      |some b=>exact⟨b,rfl⟩
     rw[hρ]at hs;simp only at hs;have hcap0:cap≠0:=om;obtain⟨rfl,_,C,E,fz,hbk,hC⟩:=hs.resolve_left hcap0;have hO:=r.obj id _ hid;simp only[OR,hρ]at hO;obtain⟨_,hIb,C2,E2,fz2,hbk2,hun,hdr⟩:=hO;rw[hbk]at hbk2;cases hbk2;simp only[Af]at hC;rw[f7]at hdr;have hcell:=dX hbk
     have hcsC:cs.length<=C.size:=by
      rcases Cr C.size cs.length with hlt|hge
      ·obtain⟨v,hv,_⟩:=hdr C.size _ (Ae hlt);rw[Af,hcell]at hv;simp at hv
      ·exact hge
     have hone:∀k v,k<len*3->C[k]? =some v->v.oneCell'=true:=fun k v hk hv=>by
      obtain⟨u,hu,_,h1⟩:=hdr k _ (Ae om);rw[Af,hcell,hv]at hu
      cases hu;exact h1
     have hlt:b<w.heap.size:=(Bj.1 hbk).1;obtain⟨i,rfl⟩:=Db hi0;obtain⟨j,rfl⟩:=Db (by omega:0<=j);have hij':i<j:=om;have hjl':j<=len:=om;refine(aJF b len cap i j C E fz w hbk hun.1 hC hlc hmx hij' hjl' hone).mono ?_;rintro e w' ⟨rfl,C',hs',hg',rfl⟩
     have hcs'len:(cs.take (i*3)++(cs.drop (j*3)).take ((len-j)*3)).length=(i+(len-j))*3:=by
      simp only[Ah,Cf,Ba];omega
     have hcs':∀(k:Nat) (d:D),(cs.take (i*3)++(cs.drop (j*3)).take ((len-j)*3))[k]? =some d->∃m:Nat,cs[m]? =some d/\C'[k]? =C[m]?:=by
      intro k d hk;have hkl:=(Ar.1 hk).1;rw[hcs'len]at hkl;have hti:(cs.take (i*3)).length=i*3:=by rw[Cf];omega
      by_cases hki:k<i*3
      ·rw[Bb om,Cx,if_pos hki]at hk;exact⟨k,hk,by rw[hg' k hkl,if_pos hki]⟩
      ·rw[Bq om,hti,Cx,if_pos om,List.getElem?_drop]at hk;exact⟨_,hk,by rw[hg' k hkl,if_neg hki]⟩
     have hlt':b<w.drew.heap.size:=hlt;have hnew:(b9 w.drew b (.cells C' E fz)).heap[b]? =some (.cells C' E fz):=dN hlt'
     have at_id:(h.set id (.arr (cs.take (i*3)++(cs.drop (j*3)).take ((len-j)*3)) 3 (g+1)))[id]? =some (.arr (cs.take (i*3)++(cs.drop (j*3)).take ((len-j)*3)) 3 (g+1)):=by
      have:=(Ar.1 hid).1;simp[this]
     have st:=eH (w':=b9 w.drew b (.cells C' E fz)) (I':=I) (o':=.arr (cs.take (i*3)++(cs.drop (j*3)).take ((len-j)*3)) 3 (g+1)) r hid trivial (some b) rfl rfl rfl
      (by show w.heap.size<=(w.heap.setIfInBounds b _).size;simp) (fun k hk hne=>kO (w:=w.drew) (fun e=>hne (by rw[hρ,e])))
      (fun _ hb=>hb) (fun _ hb=>.inl hb) (fun b' hb'=>.inl (by rw[hρ];exact hb')) (fun _ gen' off' len' a' cap' hs2=> ?_) (fun _ gen' b' hs2=> ?_) (fun hE=> ?_)
     ·refine⟨_,_,I,rfl,st,?_⟩;simp only[AR];refine⟨some ⟨b,0,none⟩,cap,?_,?_⟩
      ·simp only[Cd];have:len-(j-i)=i+(len-j):=om;rw[this]
      ·simp only[Cd,slOK,at_id,a7];refine⟨Ad _,fun _=>⟨by omega,.inr ⟨trivial,by rw[hcs'len];omega,C',E,fz,hnew,by rw[hs'];omega⟩⟩⟩
     ·simp only[slOK,hid]at hs2;simp only[slOK,at_id];exact⟨by omega,fun he=>by omega⟩
     ·simp only[ptOK,hid]at hs2;simp only[ptOK,at_id];exact⟨by omega,fun he=>by omega⟩
     ·simp only[OR,a7];refine⟨by omega,hIb,C',E,fz,hnew,hun.keep om,?_⟩;rw[f7];intro k d hk;obtain⟨m,hm,hC'⟩:=hcs' k d hk;obtain⟨v,hv,hd,h1⟩:=hdr m d hm;rw[Af,hcell]at hv;refine⟨v,?_,nA hE.imm d v hd,h1⟩;rw[Af,dX hnew,hC',hv]
    ·cases he
   ·cases he
  ·cases he
 ·cases he
end
section
open Go.RowKit
set_option maxHeartbeats 1000000 in
theorem aO1(x k idx:Nat)(w:World)(hx0:((x:Int)==0)=false)
  (key:IntKind.u64.wrap (bits BinOp.and IntKind.u64 (x:Int) (IntKind.u64.wrap (-(x:Int)))*285870213051353865)/288230376151711744=(idx:Int))
  (hi:idx<64) (hk:k<64) (hcell:w.cell? ⟨1,idx,none⟩=some (.int .u8 k)):
  Calls Tryz.prog 268 #[.int .u64 x] w fun e w'=>e=.returned (.int .i64 k)/\w'=w:=by
 go_enter Tryz.func268,Tryz.ntmps268
 go_wp2_with (simp only[key])
 go_ret
 exact⟨rfl,rfl⟩
theorem aPa(w:World):Calls Tryz.prog 268 #[.int .u64 0] w fun e w'=>e=.returned (.int .i64 64)/\w'=w:=by
 go_enter Tryz.func268,Tryz.ntmps268
 go_wp2
 go_ret
 exact⟨rfl,rfl⟩
theorem aPt(x:Nat)(hx:x<18446744073709551616)(w:World)(hT:TabAt 1 Lib.deBruijn64tab w):
  Calls Tryz.prog 268 #[.int .u64 x] w fun e w'=>e=.returned (.int .i64 (Lib.ctz 64 x))/\w'=w:=by
 by_cases hx0:x=0
 ·subst hx0;exact aPa w
 ·obtain⟨hlow,hk⟩:=Lib.lowest_bit 64 x hx0 hx;obtain⟨hi,htab⟩:=Lib.deBruijn64_at _ hk;have hcell:=hT _ hi;rw[htab]at hcell;exact aO1 x _ _ w (by simp;omega) (tz64_key x _ hx hx0 hlow) hi hk hcell
theorem aPB(x:Nat)(hx:x<18446744073709551616)(w:World)(hT:TabAt 1 Lib.deBruijn64tab w):
  Calls Tryz.prog 240 #[.int .u64 x] w fun e w'=>e=.returned (.int .i64 (Lib.ctz 64 x))/\w'=w:=by
 have c64:=aPt x hx w hT;have e29:∀args w,(callFunc 268 args).run Tryz.prog w=.ok (.enter 268 args) w:=enters_of Tryz.func268 kr rfl;have hw:IntKind.u64.wrap (x:Int)=(x:Int):=by rw[IntKind.wrap_u64];omega
 go_enter Tryz.func240,Tryz.ntmps240
 go_wp2_with (go_at_fn 268;refine c64.mono ?_;rintro e w' ⟨rfl,hw'⟩;rw[hw'])
 go_ret
 exact⟨rfl,rfl⟩
theorem aPF{w:World}{I:Nat->Prop}(hg:Ground gnd w I):TabAt 1 Lib.deBruijn64tab w:=by
 intro j hj;obtain⟨_,h2⟩:=hg 1 _ (Cc.2 rfl);have h3:=h2 j (.int .u8 (Lib.deBruijn64tab.getD j 0)) (by simp[Ab,hj]);unfold cellAt at h3;simp only[World.cell?]
 split at h3
 ·rename_i C E fz hh
  simp[hh,h3]
 ·cases h3
theorem aPu:yK gnd Tryz.prog 240 gCtz:=by
 intro k args h x h' he;simp only at he
 split at he
 ·rename_i hk
  subst hk;refine⟨⟨_,Tryz.func240,by kernel_rfl,by kernel_rfl⟩,fun ρ w I vs r ha=> ?_⟩;unfold gCtz at he
  split at he
  ·rename_i n
   split at he
   ·rename_i hn
    cases he;obtain⟨xv,rest,rfl,hx,hr⟩:=f6 ha
    simp only[ARv]at hr;subst hr;have hx:xv=.int .u64 n:=by simpa only[AR,DR]using hx
    subst hx;have run:=aPB n.toNat om w (aPF r.ground);have e1:((n.toNat:Nat):Int)=n:=om;rw[e1]at run;refine run.mono fun e w' hh=> ?_;obtain⟨rfl,rfl⟩:=hh;exact⟨_,ρ,I,rfl,.refl r,by simp only[AR,DR]⟩
   ·cases he
  ·cases he
 ·cases he
end
section
open Go.RowKit
theorem aO0(xs ys:List Int)(ha:xs.length=3)(hb:ys.length=3)(w:World):
  (Op.equal 53 (.agg (xs.map (Value.int .i64)).toArray) (.agg (ys.map (Value.int .i64)).toArray)).run Tryz.prog w=.ok (xs==ys) w/\
  ∀op x y,(eqGuard op 53 x y (.agg (xs.map (Value.int .i64)).toArray) (.agg (ys.map (Value.int .i64)).toArray)).run Tryz.prog w=.ok () w:=by
 refine⟨?_,fun op x y=>run_eqGuard_agg w op _ x y _ _ kr⟩
 obtain⟨a1,a2,a3,rfl⟩:∃a1 a2 a3,xs=[a1,a2,a3]:=by
  match xs,ha with
  | [a1,a2,a3],_=>exact⟨a1,a2,a3,rfl⟩
 obtain⟨b1,b2,b3,rfl⟩:∃b1 b2 b3,ys=[b1,b2,b3]:=by
  match ys,hb with
  | [b1,b2,b3],_=>exact⟨b1,b2,b3,rfl⟩
 have u3:=Tryz.underlying3;have a3':=Tryz.isAgg3;have z3:=Tryz.sizeOf3;have hS:Tryz.prog.underlying 53=some (.struct (Tryz.prog.fieldsOf 53)):=kr;have hp:Tryz.prog.stoodInHeld 53=false:=kr;unfold Op.equal;simp only[Op.maxDepth,show(10000:Nat)=9999+1 from rfl,Ag,Ak];rw[run_equalIn_agg w 9999 53 _ _ hS hp];simp only[Program.fieldsOf,Tryz.underlying53]
 go_simp
 by_cases h1:a1=b1<;>by_cases h2:a2=b2<;>by_cases h3:a3=b3<;>simp[h1,h2,h3]
theorem aPD:aI0 Tryz.prog aBD:=by
 intro t n h
 have hh:t=53/\n=3:=by
  unfold aBD at h
  simpa using h
 obtain⟨rfl,rfl⟩:=hh;exact fun xs ys ha hb w=>aO0 xs ys ha hb w
theorem aJv:Tryz.prog.follows .mixedOrders=true:=kr
theorem aPm:EnvOK env:=⟨aPD,aJv⟩
theorem aMB:∀f g,env.prim f=some g->yK gnd env.P f g:=by
 have key:∀(l:List (Nat×(List A->H->Option (A×H)))),(∀p∈l,yK gnd Tryz.prog p.1 p.2)->∀f g,l.lookup f=some g->yK gnd Tryz.prog f g:=by
  intro l
  induction l with
  |nil=>intro _ f g h;simp at h
  |cons p l ih=>
   intro hp f g h;obtain⟨k,q⟩:=p;rw[List.lookup_cons]at h
   split at h
   ·rename_i he
    have he':f=k:=by simpa using he
    cases h;subst he'
    exact hp (f,g) sm
   ·exact ih (fun p hm=>hp p (by simp[hm])) f g h
 refine key aJm ?_;intro p hp;unfold aJm at hp;simp only[Au,Bo,or_false]at hp
 rcases hp with rfl|rfl|rfl|rfl
 ·exact aG5
 ·exact aHv
 ·exact aJy
 ·exact aPu
def there(w:World):Nat->Prop:=fun b=>b<w.heap.size
theorem run_law{L n:Nat}{f:FuncId}{args:List A}{vs:List Value}{w:World}(he:aA env L n f args []=some (.d (.bool true),[]))(hg:Ground gnd w (there w))(ha:ARv [] (fun _=>none) w (there w) args vs):
  Calls Tryz.prog f vs.toArray w fun e w'=>e=.returned (.bool true)/\Below w.heap.size w w':=by
 obtain⟨_,hc⟩:=aNB (L:=L) aPm aMB n f args [] _ _ he;refine(hc (fun _=>none) w (there w) vs (BC (fun _ h=>h) hg) ha).mono fun e w' hh=> ?_;obtain⟨v,ρ',I',he',s,hv⟩:=hh;have hv:v=.bool true:=by simpa only[AR,DR]using hv
 subst hv;have g:=aAQ s;exact⟨he',g.os,g.tape,g.output,g.size,g.same⟩
def roundsMax:Nat:=2^70
theorem rounds_le:2^60<=roundsMax:=by unfold roundsMax;omega
structure IsBytes(w:World)(v:Value)(z:List UInt8):Prop where
 rel:DR w (there w) (.ivs z.length (bE z)) v
open Go.ChangeShapes Go.WideShapes in
theorem open_bytes{P:Program}{H:Type}{enc:TypeId×Value->H}{W:World}{t e:TypeId}{r:Reach}{b0:Nat}{v:Value}{d:DataW H}{p:List MemPlace}(ht:P.underlying t=some (.slice e))(he:P.underlying e=some (.int .u8))(hc:P.cellsOf e=1)(hval:Value.okWide P W r b0 t v)(hd:DataW.Trod enc P W 0 (fun _=>true) true t v d p):∃z,IsBytes W v z:=by
 obtain⟨a0,len,cap,rfl⟩:=okWide_slice ht hval;obtain⟨fuel,hf⟩:=hd
 rcases open_ints ht he hc hf with⟨h,_⟩|⟨a,len',cap',zs,h,hb,hl,hm,hz,_,hcell,hwf⟩
 ·simp[Value.cells]at h;obtain⟨rfl,rfl,rfl⟩:=h;exact⟨[],⟨by simp only[DR];exact⟨none,0,rfl,Ad _,.inl rfl⟩⟩⟩
 ·simp[Value.cells]at h;obtain⟨rfl,rfl,rfl⟩:=h;simp only[if_true]at hz;have hzl:(zs.take len).length=len:=by rw[Cf];omega
  refine⟨(zs.take len).map fun n=>UInt8.ofNat n.toNat,⟨?_⟩⟩;simp only[DR];refine⟨some a,cap,by rw[Aw,hzl],by rw[Aw,hzl];exact hl,?_⟩
  by_cases h0:len=0
  ·left;subst h0;simp[bE]
  ·right;have c0:=hcell 0 om;have hadd:a.add 0=a:=by simp[Addr.add]
   rw[hadd]at c0;have hs:=World.cell?_spot c0;obtain⟨b,o,sp⟩:=a;simp only at hs;subst hs;rw[cell?_eq]at c0
   have hlt:b<W.heap.size:=by
    unfold cellAt at c0
    cases hx:W.heap[b]? with
    |none=>rw[hx]at c0;cases c0
    |some o=>exact(Bj.1 hx).1
   refine⟨b,o,rfl,hlt,?_⟩;rw[f7];intro k x hk;simp only[bE,List.map_map,Bc]at hk;obtain⟨n,hn,hx⟩:=Az.1 hk;obtain⟨hkl,hkn⟩:=Ar.1 hn;rw[hzl]at hkl;have hkz:k<zs.length:=om
   have hzn:zs.getD k 0=n:=by
    rw[Ab,Ae hkz];rw[List.getElem_take]at hkn;exact hkn
   have hc2:=hcell k hkz;rw[hzn]at hc2;have hw:=hwf n (by rw[<-hkn,List.getElem_take];exact Bd hkz);simp only[Lit.wf,Ap,decide_eq_true_eq]at hw;have hn0:0<=n:=hw.1;have hn1:n<=255:=hw.2
   have hadd2:(⟨b,o,none⟩:Addr).add k=⟨b,o+k,none⟩:=by
    unfold Addr.add
    by_cases hk0:k=0
    ·subst hk0;simp
    ·simp[hk0]
   rw[hadd2,cell?_eq]at hc2;refine⟨.int .u8 n,hc2,?_,rfl⟩;subst hx;simp only[Function.comp,DR]
   have:((UInt8.ofNat n.toNat).toNat:Int)=n:=by
    rw[UInt8.toNat_ofNat'];omega
   rw[this]
end
section
def gB(f:A->Option D):List A->Option (List D)
 | []=>some []
 |a::asx=>match f a,gB f asx with
  |some x,some xs=>some (x::xs)
  |_,_=>none
def rd0(h:H):A->Option D
 |.d x=>some x
 |.sl id gen off len=>match h[id]? with
  |some (.arr cs esz g)=>if g=gen/\off+len*esz<=cs.length then some (.ivs len ((cs.drop off).take (len*esz)))else none
  |some (.ice cs esz g)=>if g=gen/\off+len*esz<=cs.length then some (.ivs len ((cs.drop off).take (len*esz)))else none
  |_=>none
 |_=>none
def rd1(h:H):A->Option D
 |.sl id gen off len=>match h[id]? with
  |some (.vec cs esz g)=>if g=gen/\off+len*esz<=cs.length then(gB (rd0 h) cs).map fun ds=>.ivs len ((ds.drop off).take (len*esz))else none
  |_=>rd0 h (.sl id gen off len)
 |.clo f caps=>(gB (rd0 h) caps).map (.fn f)
 |a=>rd0 h a
theorem NM{f:A->Option D}:∀ {asx:List A} {ds:List D},gB f asx=some ds->ds.length=asx.length
 | [],ds,h=>by simp only[gB,Option.some.injEq]at h;subst h;rfl
 |a::asx,ds,h=>by
  simp only[gB]at h
  split at h
  ·rename_i x xs h1 h2
   simp only[Option.some.injEq]at h;subst h;simp[NM h2]
  ·cases h
def Iced(h h':H):Prop:=∀i:Nat,h'[i]? =h[i]?\/(∃cs e g,h[i]? =some (.arr cs e g)/\h'[i]? =some (.ice cs e g))\/(∃cs ds e g,h[i]? =some (.vec cs e g)/\h'[i]? =some (.ice ds e g)/\gB (rd0 h) cs=some ds)
theorem aDc(h:H):Iced h h:=fun _=>.inl rfl
theorem aG4{h0 h:H}(hi:Iced h0 h){id:Nat}{cs:List D}{e g:Nat}(h1:h0[id]? =some (.arr cs e g))(hl:id<h.length):Iced h0 (h.set id (.ice cs e g)):=by
 intro i
 by_cases e1:id=i
 ·subst e1;exact .inr (.inl ⟨cs,e,g,h1,by simp[hl]⟩)
 ·rw[Df e1];exact hi i
theorem aES{h0 h:H}(hi:Iced h0 h){id:Nat}{cs:List A}{ds:List D}{e g:Nat}(h1:h0[id]? =some (.vec cs e g))(hd:gB (rd0 h0) cs=some ds)(hl:id<h.length):Iced h0 (h.set id (.ice ds e g)):=by
 intro i
 by_cases e1:id=i
 ·subst e1;exact .inr (.inr ⟨cs,ds,e,g,h1,by simp[hl],hd⟩)
 ·rw[Df e1];exact hi i
theorem qS{α:Type}{l:List α}{i:Nat}{a:α}(h:l[i]? =some a):i<l.length:=(Ar.1 h).1
theorem aBM{h0:H}(n:Nat){h:H}(hi:Iced h0 h){a:A}{x:D}(hx:rd0 h0 a=some x):∃h',frz n h a=some (x,h')/\Iced h0 h'/\∀(i:Nat) (cs:List A) (e g:Nat),h[i]? =some (.vec cs e g)->h'[i]? =some (.vec cs e g):=by
 cases a with
 |d y=>
  simp only[rd0,Option.some.injEq]at hx;subst hx;exact⟨h,by cases n<;>rfl,hi,fun _ _ _ _ h=>h⟩
 |sl id gen off len=>
  simp only[rd0]at hx
  have key:∀(o:O),h[id]? =some o->(∀cs e g,o≠.vec cs e g)->frz n h (.sl id gen off len)=frz0 h (.sl id gen off len):=by
   intro o ho hv
   cases n with
   |zero=>rfl
   |succ n=>
    simp only[frz,ho]
    cases o<;>first|rfl|exact absurd rfl (hv _ _ _)
  cases h1:h0[id]? with
  |none=>rw[h1]at hx;cases hx
  |some o=>
   rw[h1]at hx
   cases o with
   |arr cs e g=>
    simp only[]at hx
    split at hx
    ·rename_i hc
     simp only[Option.some.injEq]at hx;subst hx
     rcases hi id with q|⟨cs',e',g',q1,q2⟩|⟨cs',ds,e',g',q1,q2,q3⟩
     ·rw[h1]at q;refine⟨_,by rw[key _ q (by intro _ _ _ h;cases h)];simp only[frz0,q];rw[if_pos hc],aG4 hi h1 (qS q),fun i cs' e' g' hv=> ?_⟩;rw[Df (by intro e;subst e;rw[q]at hv;cases hv)];exact hv
     ·rw[h1]at q1;cases q1;exact⟨h,by rw[key _ q2 (by intro _ _ _ h;cases h)];simp only[frz0,q2];rw[if_pos hc],hi,fun _ _ _ _ h=>h⟩
     ·rw[h1]at q1;cases q1
    ·cases hx
   |ice cs e g=>
    simp only[]at hx
    split at hx
    ·rename_i hc
     simp only[Option.some.injEq]at hx;subst hx
     rcases hi id with q|⟨cs',e',g',q1,q2⟩|⟨cs',ds,e',g',q1,q2,q3⟩
     ·rw[h1]at q;exact⟨h,by rw[key _ q (by intro _ _ _ h;cases h)];simp only[frz0,q];rw[if_pos hc],hi,fun _ _ _ _ h=>h⟩
     ·rw[h1]at q1;cases q1
     ·rw[h1]at q1;cases q1
    ·cases hx
   |_=>cases hx
 |_=>simp[rd0]at hx
theorem XX{h0:H}(n:Nat):∀ {asx:List A} {ds:List D} {h:H},Iced h0 h->gB (rd0 h0) asx=some ds->∃h',eS (frz n) h asx=some (ds,h')/\Iced h0 h'/\∀(i:Nat) (cs:List A) (e g:Nat),h[i]? =some (.vec cs e g)->h'[i]? =some (.vec cs e g)
 | [],ds,h,hi,hr=>by simp only[gB,Option.some.injEq]at hr;subst hr;exact⟨h,rfl,hi,fun _ _ _ _ h=>h⟩
 |a::asx,ds,h,hi,hr=>by
  simp only[gB]at hr
  split at hr
  ·rename_i x xs h1 h2
   simp only[Option.some.injEq]at hr;subst hr;obtain⟨k1,e1,i1,v1⟩:=aBM n hi h1;obtain⟨k2,e2,i2,v2⟩:=XX n i1 h2;exact⟨k2,by simp only[eS,e1,e2],i2,fun i cs e g hv=>v2 i cs e g (v1 i cs e g hv)⟩
  ·cases hr
theorem UA{h0:H}(n:Nat){h:H}(hi:Iced h0 h){a:A}{x:D}(hx:rd1 h0 a=some x):∃h',frz (n+1) h a=some (x,h')/\Iced h0 h':=by
 cases a with
 |sl id gen off len=>
  have leaf:rd0 h0 (.sl id gen off len)=some x->∃h',frz (n+1) h (.sl id gen off len)=some (x,h')/\Iced h0 h':=fun h1=>by
   obtain⟨k,e,i,_⟩:=aBM (n+1) hi h1;exact⟨k,e,i⟩
  simp only[rd1]at hx
  cases h1:h0[id]? with
  |none=>rw[h1]at hx;exact leaf hx
  |some o=>
   rw[h1]at hx
   cases o with
   |vec cs e g=>
    simp only[]at hx
    split at hx
    ·rename_i hc
     cases hr:gB (rd0 h0) cs with
     |none=>rw[hr]at hx;cases hx
     |some ds=>
      rw[hr]at hx;simp only[Ax,Option.some.injEq]at hx;subst hx;have hl:=NM hr
      rcases hi id with q|⟨cs',e',g',q1,q2⟩|⟨cs',ds',e',g',q1,q2,q3⟩
      ·rw[h1]at q;obtain⟨k,e1,i1,v1⟩:=XX n hi hr;have q':=v1 _ _ _ _ q;refine⟨k.set id (.ice ds e g),?_,aES i1 h1 hr (qS q')⟩;simp only[frz,q];rw[if_pos hc,e1];simp only[q',and_self,if_true]
      ·rw[h1]at q1;cases q1
      ·rw[h1]at q1;cases q1;rw[hr]at q3;cases q3;refine⟨h,?_,hi⟩;simp only[frz,q2,frz0];rw[if_pos om]
    ·cases hx
   |_=>exact leaf hx
 |clo f caps=>
  simp only[rd1]at hx
  cases hr:gB (rd0 h0) caps with
  |none=>rw[hr]at hx;cases hx
  |some ds=>
   rw[hr]at hx;simp only[Ax,Option.some.injEq]at hx;subst hx;obtain⟨k,e1,i1,_⟩:=XX n hi hr;exact⟨k,by simp only[frz,e1],i1⟩
 |d y=>
  obtain⟨k,e,i,_⟩:=aBM (n+1) hi (a:=.d y) hx;exact⟨k,e,i⟩
 |ptr _ _ _=>simp[rd1,rd0]at hx
 |mp _=>simp[rd1,rd0]at hx
 |agg _=>simp[rd1,rd0]at hx
 |tup _=>simp[rd1,rd0]at hx
 |junk=>simp[rd1,rd0]at hx
def kids(h:H)(i:Nat):List Nat:=match h[i]? with
 |some (.box cs)=>idsL cs
 |some (.vec cs _ _)=>idsL cs
 |_=>[]
inductive Okay(h:H):Nat->Prop where
 |mk (i:Nat) (o:O) (hi:h[i]? =some o) (hv:o≠.void) (hk:∀j∈kids h i,Okay h j):Okay h i
def wgt:H->Nat
 | []=>0
 |.box cs::h=>(idsL cs).length+wgt h
 |.vec cs _ _::h=>(idsL cs).length+wgt h
 |_::h=>wgt h
def wgtN(h:H)(acc:List Nat):Nat:=((List.range h.length).filter fun i=> !acc.contains i).foldr (fun i n=>(kids h i).length+n) 0
theorem aPJ:∀(h:H),wgt h=(List.range h.length).foldr (fun i n=>(kids h i).length+n) 0:=by
 intro h
 induction h with
 |nil=>rfl
 |cons o h ih=>
  rw[Ac,List.range_succ_eq_map,List.foldr_cons,List.foldr_map];have e:∀i,kids (o::h) (i+1)=kids h i:=fun i=>by simp only[kids,As]
  simp only[e,<-ih]
  cases o<;>simp[wgt,kids]
theorem IO{f:Nat->Nat}{p:Nat->Bool}:∀(l:List Nat),(l.filter p).foldr (fun i n=>f i+n) 0<=l.foldr (fun i n=>f i+n) 0
 | []=>by simp
 |a::l=>by
  have:=IO (f:=f) (p:=p) l;simp only[List.filter_cons]
  split
  ·simp only[List.foldr_cons];omega
  ·simp only[List.foldr_cons];omega
theorem aOF(h:H)(acc:List Nat):wgtN h acc<=wgt h:=by rw[aPJ];exact IO _
theorem UR{f:Nat->Nat}{acc:List Nat}{i:Nat}(hn:i∉acc):∀(l:List Nat),l.Nodup->i∈l->(l.filter fun k=> !(acc++[i]).contains k).foldr (fun i n=>f i+n) 0+f i=(l.filter fun k=> !acc.contains k).foldr (fun i n=>f i+n) 0
 | [],_,h=>by simp at h
 |a::l,hd,hm=>by
  obtain⟨ha,hl⟩:=List.nodup_cons.1 hd
  by_cases e:a=i
  ·subst e
   have h1:(l.filter fun k=> !(acc++[a]).contains k)=l.filter fun k=> !acc.contains k:=by
    apply List.filter_congr;intro x hx;have:x≠a:=fun h=>ha (h▸hx);simp[this]
   have h2:((a::l).filter fun k=> !(acc++[a]).contains k)=(l.filter fun k=> !acc.contains k):=by
    rw[El sm,h1]
   have h3:((a::l).filter fun k=> !acc.contains k)=a::(l.filter fun k=> !acc.contains k):=by
    rw[Em (by simp[hn])]
   rw[h2,h3,List.foldr_cons];omega
  ·have hm':i∈l:=by simpa [Ne.symm e]using hm
   have ih:=UR (f:=f) hn l hl hm'
   by_cases hc:a∈acc
   ·rw[El (by simp[hc]),El (by simp[hc])];exact ih
   ·rw[Em (by simp[hc,e]),Em (by simp[hc]),List.foldr_cons,List.foldr_cons];omega
theorem aGE{h:H}:∀(n:Nat) (todo acc:List Nat),(∀i∈todo,Okay h i)->(∀i∈acc,∀j∈kids h i,j∈acc\/j∈todo)->(∀i∈acc,Okay h i)->todo.length+wgtN h acc<=n->
  (∀i∈todo,i∈aC n h todo acc)/\(∀i∈acc,i∈aC n h todo acc)/\(∀i∈aC n h todo acc,∀j∈kids h i,j∈aC n h todo acc)/\(∀i∈aC n h todo acc,Okay h i):=by
 intro n
 induction n with
 |zero=>
  intro todo acc ht ha hk hn;have:todo=[]:=by cases todo<;>simp_all
  subst this;simp only[aC];exact⟨by simp,fun i hi=>hi,fun i hi j hj=>by simpa using ha i hi j hj,hk⟩
 |succ n ih=>
  intro todo acc ht ha hk hn
  cases todo with
  |nil=>
   simp only[aC];exact⟨by simp,fun i hi=>hi,fun i hi j hj=>by simpa using ha i hi j hj,hk⟩
  |cons i todo=>
   by_cases hc:acc.contains i=true
   ·have e:aC (n+1) h (i::todo) acc=aC n h todo acc:=by simp only[aC,hc,if_true]
    rw[e];have hm:i∈acc:=by simpa using hc
    obtain⟨r1,r2,r3,r4⟩:=ih todo acc (fun j hj=>ht j (by simp[hj])) (fun j hj k hk'=>by
     rcases ha j hj k hk' with h1|h1
     ·exact .inl h1
     ·rcases Au.1 h1 with h2|h2
      ·subst h2;exact .inl hm
      ·exact .inr h2) hk (by simp only[Ac]at hn;omega)
    refine⟨fun j hj=> ?_,r2,r3,r4⟩
    rcases Au.1 hj with h1|h1
    ·subst h1;exact r2 _ hm
    ·exact r1 j h1
   ·have hm:i∉acc:=by simpa using hc
    obtain⟨_,o,ho,hv,hkd⟩:=ht i sm;have hil:i<h.length:=qS ho
    have e:aC (n+1) h (i::todo) acc=aC n h (todo++kids h i) (acc++[i]):=by
     simp only[aC,hc,if_false,ho,kids,Aj]
     cases o<;>first|rfl|(simp;done)|exact absurd rfl hv
    rw[e];have hw:wgtN h (acc++[i])+(kids h i).length=wgtN h acc:=UR (f:=fun i=>(kids h i).length) hm (List.range h.length) List.nodup_range (by simpa using hil)
    obtain⟨r1,r2,r3,r4⟩:=ih (todo++kids h i) (acc++[i]) (fun j hj=>by
     rcases Aq.1 hj with h1|h1
     ·exact ht j (by simp[h1])
     ·exact hkd j h1) (fun j hj k hk'=>by
     rcases Aq.1 hj with h1|h1
     ·rcases ha j h1 k hk' with h2|h2
      ·exact .inl (by simp[h2])
      ·rcases Au.1 h2 with h3|h3
       ·subst h3;exact .inl sm
       ·exact .inr (by simp[h3])
     ·simp only[Cc]at h1;subst h1;exact .inr (by simp[hk'])) (fun j hj=>by
     rcases Aq.1 hj with h1|h1
     ·exact hk j h1
     ·simp only[Cc]at h1;subst h1;exact ht _ sm) (by simp only[Ah,Ac]at hn|-;omega)
    refine⟨fun j hj=> ?_,fun j hj=>r2 j (by simp[hj]),r3,r4⟩
    rcases Au.1 hj with h1|h1
    ·subst h1;exact r2 _ sm
    ·exact r1 j (by simp[h1])
theorem P0{h:H}{ids:List Nat}(hk:∀i∈ids,Okay h i)(hw:ids.length+wgt h<=1099511627776):closed h (aC aD h ids []) ids=true/\(∀i∈ids,i∈aC aD h ids [])/\∀i∈aC aD h ids [],∀j∈kids h i,j∈aC aD h ids []:=by
 have hle:=aOF h [];obtain⟨r1,_,r3,_⟩:=aGE aD ids [] hk sm sm (by unfold aD;omega);refine⟨?_,r1,r3⟩;simp only[closed,Ap,Bs,List.contains_eq_mem,decide_eq_true_eq];refine⟨r1,fun i hi=> ?_⟩;have:=r3 i hi;unfold kids at this
 cases ho:h[i]? with
 |none=>rfl
 |some o=>
  rw[ho]at this
  cases o<;>first|rfl|(simp only[Bs,List.contains_eq_mem,decide_eq_true_eq];exact this)
section
variable{h:H}{ord:List Nat}
end
section
variable{R:Type}{E:Env}{call:aW}{h:H}{f:FuncId}{args:List A}{k:KA R}
mutual
theorem aJZ{f g q:Nat->Option Nat}(hq:∀i,(g i).bind f=q i):∀a:A,mapA f (mapA g a)=mapA q a
 |.d x=>by simp only[mapA]
 |.sl id gen off len=>by
  simp only[mapA];have:=hq id
  cases hg:g id with
  |none=>rw[hg]at this;rw[<-this];simp only[mapA,Option.bind_none]
  |some j=>rw[hg]at this;simp only[mapA,<-this,De]
 |.ptr id gen off=>by
  simp only[mapA];have:=hq id
  cases hg:g id with
  |none=>rw[hg]at this;rw[<-this];simp only[mapA,Option.bind_none]
  |some j=>rw[hg]at this;simp only[mapA,<-this,De]
 |.mp id=>by
  simp only[mapA];have:=hq id
  cases hg:g id with
  |none=>rw[hg]at this;rw[<-this];simp only[mapA,Option.bind_none]
  |some j=>rw[hg]at this;simp only[mapA,<-this,De]
 |.clo c caps=>by simp only[mapA,mC hq caps]
 |.agg cs=>by simp only[mapA,mC hq cs]
 |.tup cs=>by simp only[mapA,mC hq cs]
 |.junk=>by simp only[mapA]
theorem mC{f g q:Nat->Option Nat}(hq:∀i,(g i).bind f=q i):∀asx:List A,aE f (aE g asx)=aE q asx
 | []=>by simp only[aE]
 |a::asx=>by simp only[aE,aJZ hq a,mC hq asx]
end
end
end
section
theorem aKy{h:H}{ids P T:List Nat}(hfix:P++T=ids++P.flatMap (kids h))(hT:∀i∈T,kids h i=[])(hprog:∀k,k<P.length->k<ids.length+((P.take k).flatMap (kids h)).length)(hnd:(P++T).Nodup)(hv:∀i∈P++T,∃o,h[i]? =some o/\o≠.void){n:Nat}(hf:(P++T).length<=n):aC n h ids []=P++T:=by
 generalize hL:P++T=L at *
 have hTf:T.flatMap (kids h)=[]:=by
  rw[List.flatMap_eq_nil_iff];exact hT
 have hLf:L.flatMap (kids h)=P.flatMap (kids h):=by rw[<-hL,List.flatMap_append,hTf,Ai]
 have fix:L=ids++L.flatMap (kids h):=by rw[hLf];exact hfix
 have prog:∀k,k<L.length->k<ids.length+((L.take k).flatMap (kids h)).length:=by
  intro k hk
  by_cases h1:k<P.length
  ·have:=hprog k h1;have e:L.take k=P.take k:=by rw[<-hL,List.take_append_of_le_length om]
   rw[e];exact this
  ·have e:(L.take k).flatMap (kids h)=P.flatMap (kids h):=by
    rw[<-hL,List.take_append,List.flatMap_append,Bx om]
    have:(T.take (k-P.length)).flatMap (kids h)=[]:=by
     rw[List.flatMap_eq_nil_iff];intro i hi;exact hT i (List.mem_of_mem_take hi)
    rw[this,Ai]
   rw[e];have:=congrArg List.length hfix;rw[Ah]at this;omega
 have key:∀(n k:Nat),k<=L.length->L.length-k<=n->aC n h ((ids++(L.take k).flatMap (kids h)).drop k) (L.take k)=L:=by
  intro n
  induction n with
  |zero=>
   intro k hk hn;have:k=L.length:=om;subst this;simp only[aC,Cv]
  |succ n ih=>
   intro k hk hn
   by_cases hkl:k=L.length
   ·subst hkl;rw[Cv,<-fix,Cg];simp only[aC]
   ·have hk':k<L.length:=om;have hp:=prog k hk';have hX:k<(ids++(L.take k).flatMap (kids h)).length:=by rw[Ah];exact hp
    have hget:(ids++(L.take k).flatMap (kids h))[k]'hX=L[k]:=by
     have e:L=(ids++(L.take k).flatMap (kids h))++(L.drop k).flatMap (kids h):=by
      rw[Ao,<-List.flatMap_append,List.take_append_drop];exact fix
     have e2:L[k]? =(ids++(L.take k).flatMap (kids h))[k]?:=by
      conv=>lhs;rw[e]
      rw[Bb hX]
     rw[Ae hk',Ae hX]at e2;exact(Option.some.inj e2).symm
    rw[List.drop_eq_getElem_cons hX,hget];obtain⟨o,ho,hov⟩:=hv L[k] (Bd hk')
    have hni:L[k]∉L.take k:=by
     intro hm;obtain⟨j,hj,he⟩:=Dj hm;rw[Cf]at hj;rw[List.getElem_take]at he;exact(List.pairwise_iff_getElem.1 hnd) j k om hk' om he
    have hc:(L.take k).contains L[k]=false:=by simpa using hni
    have hstep:aC (n+1) h (L[k]::(ids++(L.take k).flatMap (kids h)).drop (k+1)) (L.take k)=aC n h ((ids++(L.take k).flatMap (kids h)).drop (k+1)++kids h L[k]) (L.take k++[L[k]]):=by
     simp only[aC,hc,Aj,if_false,ho,kids]
     cases o<;>first|rfl|(simp;done)|exact absurd rfl hov
    rw[hstep];have ht:L.take (k+1)=L.take k++[L[k]]:=by rw[Dt,Ae hk'];rfl
    have hd:(ids++(L.take k).flatMap (kids h)).drop (k+1)++kids h L[k]=(ids++(L.take (k+1)).flatMap (kids h)).drop (k+1):=by
     rw[ht,List.flatMap_append,List.flatMap_singleton,<-Ao];exact(List.drop_append_of_le_length hX).symm
    rw[hd,<-ht];exact ih (k+1) om om
 have:=key n 0 om om
 simpa using this
def aB(b:Nat):List (List Int)->List A
 | []=>[]
 |r::rs=>.sl b 0 0 r.length::aB (b+1) rs
def aI(rs:List (List Int)):H:=rs.map fun r=>.arr (r.map (.int .i64)) 1 0
theorem bQ:∀(rs:List (List Int)) (b:Nat),idsL (aB b rs)=List.range' b rs.length
 | [],b=>by simp[aB,idsL]
 |r::rs,b=>by simp[aB,idsL,idsA,bQ rs,Dq]
theorem gN:∀(rs:List (List Int)) (b:Nat),(aB b rs).length=rs.length
 | [],b=>rfl
 |r::rs,b=>by simp[aB,gN rs]
theorem DW:∀(rs:List (List Int)) (b:Nat) (r:List Int),aB b (rs++[r])=aB b rs++[.sl (b+rs.length) 0 0 r.length]
 | [],b,r=>by simp[aB]
 |q::rs,b,r=>by
  simp only[At,aB,DW rs,Ac];rw[show b+1+rs.length=b+(rs.length+1) by omega]
theorem aI5(rs:List (List Int))(r:List Int):aI rs++[.arr (r.map (.int .i64)) 1 0]=aI (rs++[r]):=by simp[aI]
theorem cD(rs:List (List Int)):(aI rs).length=rs.length:=by simp[aI]
theorem Q8{rs:List (List Int)}{i:Nat}{r:List Int}(h:rs[i]? =some r):(aI rs)[i]? =some (.arr (r.map (.int .i64)) 1 0):=by simp[aI,h]
theorem fD{f:Nat->Option Nat}{c:Nat}:∀ {rs:List (List Int)} {b d:Nat},(∀i,i<rs.length->f (b+i)=some (d+i))->aE f (aB b rs)=aB d rs
 | [],b,d,_=>by simp[aB,aE]
 |r::rs,b,d,h=>by
  have h0:=h 0 sm;simp only[Br]at h0;simp only[aB,aE,mapA,h0]
  rw[fD (c:=c) (rs:=rs) (b:=b+1) (d:=d+1) fun i hi=>by
   have:=h (i+1) (by simp;omega);rw[show b+1+i=b+(i+1) by omega,this]
   congr 1;omega]
theorem aGT(f:Nat->Option Nat)(rs:List (List Int)):(aI rs).map (mapO f)=aI rs:=by
 simp only[aI,List.map_map]<;>rfl
theorem aDh{h:H}{f:Nat->Option Nat}:∀ {rs:List (List Int)} {b:Nat},(∀i r,rs[i]? =some r->h[b+i]? =some (.arr (r.map (.int .i64)) 1 0))->(List.range' b rs.length).map (fun i=>mapO f (h.getD i default))=aI rs
 | [],b,_=>by simp[aI]
 |r::rs,b,hh=>by
  have h0:=hh 0 r rfl;simp only[Br]at h0;simp only[Ac,Dq,Ag,Ab,h0,Bh]
  have:=aDh (h:=h) (f:=f) (rs:=rs) (b:=b+1) fun i q hq=>by
   rw[show b+1+i=b+(i+1) by omega];exact hh (i+1) q (by simpa using hq)
  simp only[Ab]at this;rw[this];rfl
mutual
theorem aNn{f:Nat->Option Nat}:∀a:A,(∀i∈idsA a,f i=some i)->mapA f a=a
 |.d x,_=>by simp only[mapA]
 |.sl id gen off len,h=>by simp only[mapA,h id (by simp[idsA])]
 |.ptr id gen off,h=>by simp only[mapA,h id (by simp[idsA])]
 |.mp id,h=>by simp only[mapA,h id (by simp[idsA])]
 |.clo g caps,h=>by simp only[mapA];rw[fY caps (by simpa only[idsA]using h)]
 |.agg cs,h=>by simp only[mapA];rw[fY cs (by simpa only[idsA]using h)]
 |.tup cs,h=>by simp only[mapA];rw[fY cs (by simpa only[idsA]using h)]
 |.junk,_=>by simp only[mapA]
theorem fY{f:Nat->Option Nat}:∀asx:List A,(∀i∈idsL asx,f i=some i)->aE f asx=asx
 | [],_=>by simp only[aE]
 |a::asx,h=>by
  simp only[idsL,Aq]at h;simp only[aE];rw[aNn a fun i hi=>h i (.inl hi),fY asx fun i hi=>h i (.inr hi)]
end
mutual
def z0A:A->Bool
 |.sl _ g _ _=>g==0
 |.ptr _ g _=>g==0
 |.mp _=>true
 |.clo _ caps=>z0As caps
 |.agg cs=>z0As cs
 |.tup cs=>z0As cs
 |.d _=>true
 |.junk=>true
def z0As:List A->Bool
 | []=>true
 |a::asx=>z0A a&&z0As asx
end
mutual
theorem aLb{nf:Nat}{h:H}(hg:∀i g,aZ h i=some g->g=0):∀a:A,z0A a=true->bI nf h a=a
 |.d x,_=>by simp only[bI]
 |.sl id gen off len,hz=>by
  simp only[z0A,beq_iff_eq]at hz;subst hz;simp only[bI,hR]
  split
  ·rfl
  ·cases hgo:aZ h id with
   |none=>rfl
   |some g=>have:=hg id g hgo;subst this;simp
 |.ptr id gen off,hz=>by
  simp only[z0A,beq_iff_eq]at hz;subst hz;simp only[bI,ES]
  split
  ·rfl
  ·cases hgo:aZ h id with
   |none=>rfl
   |some g=>have:=hg id g hgo;subst this;simp
 |.mp id,hz=>by simp only[bI]
 |.clo g caps,hz=>by simp only[bI];rw[j9 hg caps (by simpa only[z0A]using hz)]
 |.agg cs,hz=>by simp only[bI];rw[j9 hg cs (by simpa only[z0A]using hz)]
 |.tup cs,hz=>by simp only[bI];rw[j9 hg cs (by simpa only[z0A]using hz)]
 |.junk,_=>by simp only[bI]
theorem j9{nf:Nat}{h:H}(hg:∀i g,aZ h i=some g->g=0):∀asx:List A,z0As asx=true->aP nf h asx=asx
 | [],_=>by simp only[aP]
 |a::asx,hz=>by
  simp only[z0As,Ap]at hz;simp only[aP];rw[aLb hg a hz.1,j9 hg asx hz.2]
end
def z0O:O->Bool
 |.arr _ _ g=>g==0
 |.box cs=>z0As cs
 |.ice _ _ g=>g==0
 |.vec cs _ g=>g==0&&z0As cs
 |.log _=>true
 |.mp _=>true
 |.void=>true
theorem GA{h:H}(hz:h.all z0O=true):∀i g,aZ h i=some g->g=0:=by
 intro i g hg;unfold aZ at hg
 cases ho:h[i]? with
 |none=>rw[ho]at hg;cases hg
 |some o=>
  have:=Bs.1 hz o (Bp ho);rw[ho]at hg
  cases o with
  |arr cs e g'=>simp only[Option.some.injEq]at hg;subst hg;simpa [z0O]using this
  |ice cs e g'=>simp only[Option.some.injEq]at hg;subst hg;simpa [z0O]using this
  |vec cs e g'=>simp only[Option.some.injEq]at hg;subst hg;simp only[z0O,Ap,beq_iff_eq]at this;exact this.1
  |_=>cases hg
theorem zV:∀(asx bs:List A),z0As (asx++bs)=(z0As asx&&z0As bs)
 | [],bs=>by simp[z0As]
 |a::asx,bs=>by simp[z0As,zV asx bs,Bool.and_assoc]
theorem vQ:∀(rs:List (List Int)) (b:Nat),z0As (aB b rs)=true
 | [],b=>by simp[aB,z0As]
 |r::rs,b=>by simp[aB,z0As,z0A,vQ rs]
theorem GU(rs:List (List Int)):(aI rs).all z0O=true:=by simp[aI,z0O]
def gcO(nf:Nat)(m:List Bool)(s:List A)(h:H):List A×H:=gc nf m s h
def aNG(nf:Nat)(h:H)(ord:List Nat)(s:List A):List A×H:=trim nf h ord s
def aF(q:Nat):List A:=List.replicate q (.d .nils)
theorem YP(q:Nat):aF (q+1)=.d .nils::aF q:=rfl
theorem aLi(q:Nat):(aF q).length=q:=by simp[aF]
theorem dE:∀q:Nat,idsL (aF q)=[]
 |0=>by simp[aF,idsL]
 |q+1=>by rw[YP];simp[idsL,idsA,dE q]
theorem vZ:∀q:Nat,z0As (aF q)=true
 |0=>by simp[aF,z0As]
 |q+1=>by rw[YP];simp[z0As,z0A,vZ q]
section
variable{rs:List (List Int)}{q:Nat}
def aNO(nf:Nat)(h:H)(ids:List Nat):List Nat:=dK nf h ids
end
end
section
variable{R:Type}{L n:Nat}
def fQ(x:Int):Bool:=decide (0<=x/\x<=63)
theorem IB(hn:1<=n)(a:Int):aA env L n 124 [nI a] []=some (.d (.bool (fQ a)),[]):=by
 obtain _|n:=n;omega
 simp-implicitDefEqProofs (maxSteps:=9^7) (disch:=try exact Dz) only[↓DN,↓kAsg,↓kRet,UP,simprocAttr,aAC,KO,Tryz.f124]
 by_cases h:0<=a<;>simp[h,fQ]
theorem dQ:type_of% fun {L} a=>ks fun hn=> @IB L _ hn a:=fun {L} a=>ks fun hn=> @IB L _ hn a
theorem HB(hn:1<=n)(a:Int):aA env L n 84 [nI a] []=some (.d (.bool (fQ a)),[]):=by
 obtain _|n:=n;omega
 simp-implicitDefEqProofs (maxSteps:=9^7) (disch:=try exact Dz) only[↓DN,↓kAsg,↓kRet,UP,simprocAttr,ZA,KX,Tryz.f84]
 by_cases h:0<=a<;>simp[h,fQ]
theorem dO:type_of% fun {L} a=>ks fun hn=> @HB L _ hn a:=fun {L} a=>ks fun hn=> @HB L _ hn a
def dT(a i:Int):Bool:=decide ((a.fdiv (2^(min i.toNat 64))) % 2=1)
theorem toNat_ofInt(x:Int):((BitVec.ofInt 64 x).toNat:Int)=x % 18446744073709551616:=by
 rw[BitVec.toNat_ofInt];omega
theorem aGc(x:Int):iAnd .i64 x 1=x % 2:=by
 unfold iAnd
 have h1:(BitVec.ofInt IntKind.i64.bits x&&&BitVec.ofInt IntKind.i64.bits 1).toNat=(BitVec.ofInt 64 x).toNat % 2:=by
  change (BitVec.ofInt 64 x&&&BitVec.ofInt 64 1).toNat=_
  rw[BitVec.toNat_and];exact Nat.and_one_is_mod _
 rw[h1];have h2:=toNat_ofInt x;rw[dW om om];omega
theorem aEK:IntKind.i64.bits=64:=rfl
theorem YR(hn:1<=n)(a i:Int)(hi:0<=i)(hi2:i<=9223372036854775807):aA env L n 116 [nI a,nI i] []=some (.d (.bool (dT a i)),[]):=by
 obtain _|n:=n;omega
 simp-implicitDefEqProofs (maxSteps:=9^7) (disch:=try exact Dz) only[↓DN,↓kAsg,↓kRet,UP,simprocAttr,↓CB,ZO,aGc,aEK,aIZ,aCL,Tryz.f116]<;>rfl
theorem j8:type_of% fun {L} a i hi hi2=>ks fun hn=> @YR L _ hn a i hi hi2:=fun {L} a i hi hi2=>ks fun hn=> @YR L _ hn a i hi hi2
theorem aFW(hn:1<=n)(a i:Int):aA env L n 120 [nI a,nI i] []=some (.d (.bool (decide (0<=i)&&dT a i)),[]):=by
 obtain _|n:=n;omega
 simp-implicitDefEqProofs (maxSteps:=9^7) (disch:=try exact Dz) only[↓DN,↓kAsg,↓kRet,UP,simprocAttr,aGc,aEK,aMX,aH9,Tryz.f120]
 by_cases h:0<=i<;>simp[h,dT]
theorem oG:type_of% fun {L} a i=>ks fun hn=> @aFW L _ hn a i:=fun {L} a i=>ks fun hn=> @aFW L _ hn a i
def aG(a:Int):List Int:=[0,1,2,3,4,5].filter (dT a)
def qA:Nat->List Int
 |0=>[]
 |j+1=>(6-((j+1:Nat):Int))::qA j
theorem X4(hn:1<=n){a:Int}{k:KE R}:∀(j:Nat) (i:Int) (l:List Int) (len m:Nat),i+j=6->0<=i->j<m->len=l.length->l.length+j<100->
  aV env (aA env L n) L 0 [0,0,0,2] Bz31 (rY 0) Bz49 m (nI a::Y1 (.d .nils::.sl 0 0 0 len::Y1 (nI i::Y8 (Y2 (Y1 ([])))))) [.arr (ints l) 1 0] k
  =k (.exit 0) (nI a::Y1 (.d .nils::.sl 0 0 0 (len+((qA j).filter (dT a)).length)::Y1 (nI 6::Y8 (Y2 (Y1 ([])))))) [.arr (ints (l++(qA j).filter (dT a))) 1 0]:=by
 intro j
 induction j with
 |zero=>
  intro i l len m hi h0 hm hl hlen;obtain _|m:=m;omega;obtain rfl:i=6:=om
  simp-implicitDefEqProofs (maxSteps:=9^7) (disch:=try exact Dz) only[↓DN,↓kRet,UP,simprocAttr,qR,qD,Tryz.f85];simp only[qA,List.filter_nil,Ai,Aa,Br]
 |succ j ih=>
  intro i l len m hi h0 hm hl hlen;obtain _|m:=m;omega;have hc:i<6:=om;have hr:qA (j+1)=i::qA j:=by simp only[qA];congr 1;omega
  rw[hr,List.filter_cons]
  cases hb:dT a i with
  |true=>
   simp-implicitDefEqProofs (maxSteps:=9^7) (disch:=try exact Dz) only[↓DN,↓kRet,UP,simprocAttr,↓oG,↓ih,hc,hb,h0,qR,qD,Tryz.f85]
   try simp only[Ao,At,Am,Nat.add_assoc,Nat.add_comm 1]
  |false=>
   simp-implicitDefEqProofs (maxSteps:=9^7) (disch:=try exact Dz) only[↓DN,↓kRet,UP,simprocAttr,↓oG,↓ih,hc,hb,h0,qR,qD,Tryz.f85]
theorem NP{R:Type}{L n m:Nat}(hn:1<=n){a:Int}{k:KE R}(hm:6<m):
  aV env (aA env L n) L 0 [0,0,0,2] Bz31 (rY 0) Bz49 m (nI a::Y1 (.d .nils::.sl 0 0 0 0::Y1 (nI 0::Y8 (Y2 (Y1 ([])))))) [.arr [] 1 0] k
  =k (.exit 0) (nI a::Y1 (.d .nils::.sl 0 0 0 (aG a).length::Y1 (nI 6::Y8 (Y2 (Y1 ([])))))) [.arr (ints (aG a)) 1 0]:=by
 have h:=X4 (R:=R) (L:=L) hn (a:=a) (k:=k) 6 0 [] 0 m rfl om hm rfl sm;simp only[Af,Am]at h;exact h
theorem dF(a:Int):(aG a).length<=6:=by
 unfold aG;exact List.length_filter_le _ _
theorem LJ(hn:2<=n)(a:Int)(hL:2^60<=L):aA env L n 85 [nI a] []=some (.d (.ivs (aG a).length (ints (aG a))),[]):=by
 obtain _|n:=n;omega
 simp-implicitDefEqProofs (maxSteps:=9^7) (disch:=try exact Dz) only[↓DN,↓kAsg,UP,simprocAttr,↓NP,aBs,PC,Tryz.f85]
theorem nB:type_of% fun {L} a hL=>ks fun hn=> @LJ L _ hn a hL:=fun {L} a hL=>ks fun hn=> @LJ L _ hn a hL
theorem aM1{l:List Int}{P:Int->Prop}(h:∀v∈l,P v){k:Nat}(hk:k<l.length):P (l.getD k 0):=by
 rw[Ab,Ae hk];exact h _ (Bd hk)
theorem kA{a:Int}:∀v∈aG a,0<=v/\v<=5:=by
 intro v hv;have:=(Dl.1 hv).1;simp at this;omega
end
section
variable{R:Type}{L n:Nat}
structure Edge where
 fr:Int
 lt:Int
 to:Int
 deriving DecidableEq,Inhabited
def aN2(e:Edge):List D:=[.int .i64 e.fr,.int .i64 e.lt,.int .i64 e.to]
def aJ(l:List Edge):List D:=(l.map aN2).flatten
theorem cV:aJ []=[]:=rfl
theorem jI(e:Edge)(l:List Edge):aJ (e::l)=.int .i64 e.fr::.int .i64 e.lt::.int .i64 e.to::aJ l:=rfl
theorem uM{l:List Edge}:(aJ l).length=l.length*3:=by
 induction l with
 |nil=>rfl
 |cons e l ih=>rw[jI];simp only[Ac,ih];omega
theorem rW{a b:List Edge}:aJ a++aJ b=aJ (a++b):=by simp[aJ]
theorem yF:∀ {l:List Edge} {k:Nat},(aJ l).drop (k*3)=aJ (l.drop k)
 |l,0=>by simp
 | [],k+1=>by simp[cV]
 |e::l,k+1=>by
  have e:(k+1)*3=k*3+1+1+1:=om;rw[jI,e];simp only[Dh];exact yF
theorem jL:∀ {l:List Edge} {k:Nat},(aJ l).take (k*3)=aJ (l.take k)
 |l,0=>by simp[cV]
 | [],k+1=>by simp[cV]
 |e::l,k+1=>by
  have e2:(k+1)*3=k*3+1+1+1:=om;rw[jI,e2];simp only[Ds,jL (l:=l) (k:=k),jI]
theorem j7{l:List Edge}{k:Nat}(h:l.length<=k):(aJ l).take (k*3)=aJ l:=by rw[jL,Bx h]
theorem n8{l:List Edge}{k:Nat}(h:k<l.length):(aJ l).drop (k*3)=.int .i64 (l.getD k default).fr::.int .i64 (l.getD k default).lt::.int .i64 (l.getD k default).to::aJ (l.drop (k+1)):=by
 rw[yF,List.drop_eq_getElem_cons h,jI,Ab,Ae h];rfl
theorem aAK{l:List Edge}{a b c:Int}:aJ l++[.int .i64 a,.int .i64 b,.int .i64 c]=aJ (l++[⟨a,b,c⟩]):=by simp[aJ,aN2]
theorem aCA{h:H}{a b c d e f:Int}:cH env .eql 53 h (.agg [nI a,nI b,nI c]) (.agg [nI d,nI e,nI f])=some (.d (.bool (decide ((⟨a,b,c⟩:Edge)=⟨d,e,f⟩))),h):=by
 have hc:env.eqs.contains (53,3)=true:=kr;have h1:aBin .eql (.agg [nI a,nI b,nI c]) (.agg [nI d,nI e,nI f])=none:=rfl
 have h2:aNil env.P .eql 53 (.agg [nI a,nI b,nI c]) (.agg [nI d,nI e,nI f])=none:=by
  unfold aNil
  cases env.P.underlying 53 with
  |none=>rfl
  |some t=>cases t<;>rfl
 simp only[cH,h1,h2,SS,I6,Ax,Ac,Aa,Af,Nat.reduceAdd,hc,and_self,if_true,eqlA];have:([a,b,c]==[d,e,f])=decide ((⟨a,b,c⟩:Edge)=⟨d,e,f⟩):=by rw[Bool.eq_iff_iff];simp
 rw[this]
theorem LE:type_of% (AI @uM (AI @n8 (AI @j7 (AI @aAK (AI @aCA @rW))))):=
 ⟨@uM,@n8,@j7,@aAK,@aCA,@rW⟩
def cmpI(a b:Int):Int:=if a<b then -1 else if b<a then 1 else 0
theorem E1(hn:1<=n)(a:Int):aA env L n 206 [nI a] []=some (.d (.bool false),[]):=by
 obtain _|n:=n;omega
 simp-implicitDefEqProofs (maxSteps:=9^7) (disch:=try exact Dz) only[↓DN,↓kAsg,↓kRet,UP,simprocAttr,YC,JD,Tryz.f206]
theorem vA:type_of% fun {L} a=>ks fun hn=> @E1 L _ hn a:=fun {L} a=>ks fun hn=> @E1 L _ hn a
theorem BA(hn:2<=n)(a b:Int):aA env L n 143 [nI a,nI b] []=some (nI (cmpI a b),[]):=by
 unfold cmpI
 by_cases h1:a<b
 ·obtain _|n:=n;omega
  simp-implicitDefEqProofs (maxSteps:=9^7) (disch:=try exact Dz) only[↓DN,↓kAsg,↓kRet,UP,simprocAttr,↓vA,h1,qU,mL,Tryz.f143]
 ·by_cases h2:b<a
  ·obtain _|n:=n;omega
   simp-implicitDefEqProofs (maxSteps:=9^7) (disch:=try exact Dz) only[↓DN,↓kAsg,↓kRet,UP,simprocAttr,↓vA,h1,h2,qU,mL,Tryz.f143]
  ·obtain _|n:=n;omega
   simp-implicitDefEqProofs (maxSteps:=9^7) (disch:=try exact Dz) only[↓DN,↓kAsg,↓kRet,UP,simprocAttr,↓vA,h1,h2,qU,mL,Tryz.f143]
theorem QI:type_of% fun {L} a b=>ks fun hn=> @BA L _ hn a b:=fun {L} a b=>ks fun hn=> @BA L _ hn a b
def jW:List Int->Int
 | []=>0
 |a::l=>if a=0 then jW l else a
def cmpE(a b:Edge):Int:=jW [cmpI a.fr b.fr,cmpI a.lt b.lt,cmpI a.to b.to]
def lz:List Int->Nat
 | []=>0
 |a::l=>if a=0 then lz l+1 else 0
theorem bM{α:Type}{l:List α}{i:Nat}{d:α}(h:i<l.length):l.drop i=l.getD i d::l.drop (i+1):=by
 rw[List.drop_eq_getElem_cons h,Ab,Ae h];rfl
theorem IH(hn:1<=n){l:List Int}(hl:l.length<=1000){k:KE R}:∀(i:Int) (m:Nat) (h0:0<=i) (hi:i<=l.length) (hm:(l.length:Int)-i<m),
  aV env (aA env L n) L 0 [] Bz57 (CR 0) (U2 (Z2 (U2 (Z2 (Z1 (U8 (U1 ([])))))))) m (Y2 (nI 0::nI 0::Y2 (.d (.ivs l.length (ints l))::nI (l.length)::nI i::Y8 (Y1 ([]))))) [] k
  =if jW (l.drop i.toNat)=0 then k (.exit 0) (Y2 (nI 0::nI 0::Y2 (.d (.ivs l.length (ints l))::nI (l.length)::nI (l.length)::Y8 (Y1 ([]))))) []else k .ret (Y2 (nI (jW (l.drop i.toNat))::nI 0::Y2 (.d (.ivs l.length (ints l))::nI (l.length)::nI (i+lz (l.drop i.toNat))::Y8 (Y1 ([]))))) []:=by
 intro i m h0 hi hm;obtain⟨j,hj⟩:∃j:Nat,(j:Int)=(l.length:Int)-i:=⟨((l.length:Int)-i).toNat,by omega⟩
 induction j generalizing i m with
 |zero=>
  obtain _|m:=m;omega;obtain rfl:i=l.length:=om
  simp-implicitDefEqProofs (maxSteps:=9^7) (disch:=try exact Dz) only[↓DN,↓kRet,UP,simprocAttr,Al,s9,r8,Tryz.f142];simp only[Cg,jW,if_true]
 |succ j ih=>
  obtain _|m:=m;omega;have hc:i<l.length:=om;have hk:i.toNat<l.length:=om;have e1:(i+1).toNat=i.toNat+1:=om;rw[bM hk (d:=0)]
  by_cases hz:l.getD i.toNat 0=0
  ·simp-implicitDefEqProofs (maxSteps:=9^7) (disch:=try exact Dz) only[↓DN,↓kRet,UP,simprocAttr,hc,hz,↓ih,s9,r8,Tryz.f142];simp only[jW,lz,if_true,e1,Int.natCast_add,Int.add_assoc,Int.add_comm 1]<;>rfl
  ·simp-implicitDefEqProofs (maxSteps:=9^7) (disch:=try exact Dz) only[↓DN,↓kRet,UP,simprocAttr,hc,hz,s9,r8,Tryz.f142];simp only[jW,lz,hz,if_false,Av,Int.add_zero]
theorem aEw(hn:2<=n)(l:List Int)(hl:l.length<=1000)(hL:2^60<=L):aA env L n 142 [.d (.ivs l.length (ints l))] []=some (nI (jW l),[]):=by
 by_cases hz:jW l=0
 ·obtain _|n:=n;omega
  simp-implicitDefEqProofs (maxSteps:=9^7) (disch:=try exact Dz) only[↓DN,↓kAsg,↓kRet,UP,simprocAttr,↓IH,Cp,hz,OW,FA,Tryz.f142]
 ·obtain _|n:=n;omega
  simp-implicitDefEqProofs (maxSteps:=9^7) (disch:=try exact Dz) only[↓DN,↓kAsg,↓kRet,UP,simprocAttr,↓IH,Cp,hz,OW,FA,Tryz.f142]
theorem aD4{k:A->Option R}(hn:2<=n)(l:List Int)(hl:l.length<=1000)(hL:2^60<=L):uI (aA env L n) 142 [.d (.ivs l.length (ints l))] k=k (nI (jW l)):=
 uU (aEw hn l hl hL) rfl
theorem ZD{L:Nat}{id0 g0 o0 len0:Nat}:KV L 142 [.sl id0 g0 o0 len0]:=fun _ _ _ _=>d7 xW
theorem aPQ{a b c:Int}:[D.int .i64 a,.int .i64 b,.int .i64 c]=ints [a,b,c]:=rfl
theorem DF(hn:4<=n)(a b c d e f:Int)(hL:2^60<=L):aA env L n 76 [.agg [nI a,nI b,nI c],.agg [nI d,nI e,nI f]] []=some (nI (cmpE ⟨a,b,c⟩ ⟨d,e,f⟩),[]):=by
 have k3:∀ {R:Type} {n:Nat} {k:A->Option R},2<=n->uI (aA env L n) 142 [.d (.ivs 3 (ints [cmpI a d,cmpI b e,cmpI c f]))] k=k (nI (jW [cmpI a d,cmpI b e,cmpI c f])):=fun h=>aD4 h [cmpI a d,cmpI b e,cmpI c f] sm hL;obtain _|n:=n;omega
 simp-implicitDefEqProofs (maxSteps:=9^7) (disch:=try exact Dz) only[↓DN,↓kAsg,↓kRet,UP,simprocAttr,↓QI,↓ZD,aPQ,↓k3,UD,EW,Tryz.f76]<;>rfl
theorem j4:type_of% fun {L} a b c d e f hL=>ks fun hn=> @DF L _ hn a b c d e f hL:=fun {L} a b c d e f hL=>ks fun hn=> @DF L _ hn a b c d e f hL
def seek(p:Nat->Bool):Nat->Nat->Option Nat
 |0,_=>none
 |j+1,i=>if p i=true then some i else seek p j (i+1)
theorem kF{p:Nat->Bool}:∀ {j i:Nat},seek p j i=none↔∀k,i<=k->k<i+j->p k=false
 |0,i=>by simp only[seek,true_iff];intro k h1 h2;omega
 |j+1,i=>by
  simp only[seek]
  by_cases hp:p i=true
  ·rw[if_pos hp];simp only[false_iff,reduceCtorEq];intro h;have:=h i (Ad _) om;rw[hp]at this;cases this
  ·rw[if_neg hp,kF]
   constructor
   ·intro h k h1 h2
    by_cases e:k=i
    ·subst e;simpa using hp
    ·exact h k om om
   ·intro h k h1 h2;exact h k om om
theorem HV{p:Nat->Bool}:∀ {j i r:Nat},seek p j i=some r->i<=r/\r<i+j/\p r=true/\∀k,i<=k->k<r->p k=false
 |0,i,r,h=>by simp[seek]at h
 |j+1,i,r,h=>by
  simp only[seek]at h
  by_cases hp:p i=true
  ·rw[if_pos hp]at h;cases h;exact⟨Ad _,by omega,hp,fun k h1 h2=>by omega⟩
  ·rw[if_neg hp]at h;obtain⟨h1,h2,h3,h4⟩:=HV h;refine⟨by omega,by omega,h3,fun k k1 k2=> ?_⟩
   by_cases e:k=i
   ·subst e;simpa using hp
   ·exact h4 k om k2
theorem iY{p:Nat->Bool}{j i:Nat}(h:p i=true):seek p (j+1) i=some i:=by simp[seek,h]
theorem kS{p:Nat->Bool}{j i:Nat}(h:p i=false):seek p (j+1) i=seek p j (i+1):=by simp[seek,h]
structure Sys where
 al:Int
 st:Int
 es:List Edge
 deriving DecidableEq,Inhabited
def cM(al st:Int)(e:Edge):Bool:=decide (0<=e.fr)&&decide (e.fr<st)&&decide (0<=e.to)&&decide (e.to<st)&&decide (0<=e.lt)&&decide (e.lt<6)&&dT al e.lt
def bY(e f:Edge):Bool:=if e.fr=f.fr then(if e.lt=f.lt then decide (e.to<f.to)else decide (e.lt<f.lt))else decide (e.fr<f.fr)
def lD(al st:Int)(l:List Edge)(i:Nat):Bool:=!cM al st (l.getD i default)||(decide (0<i)&& !bY (l.getD (i-1) default) (l.getD i default))
def cF(s:Sys):Bool:=fQ s.al&&decide (1<=s.st)&&decide (s.st<=16)&&(seek (lD s.al s.st s.es) s.es.length 0).isNone
theorem V0(hn:2<=n)(al st a b c:Int):aA env L n 102 [nI al,nI st,.agg [nI a,nI b,nI c]] []=some (.d (.bool (cM al st ⟨a,b,c⟩)),[]):=by
 by_cases hq1:(a<0)
 ·obtain _|n:=n;omega
  simp-implicitDefEqProofs (maxSteps:=9^7) (disch:=try exact Dz) only[↓DN,↓kAsg,↓kRet,UP,simprocAttr,hq1,mE,lR,Tryz.f102]
  all_goals (first|(simp[cM];done)|(simp[cM];omega)|(simp[cM];intros;omega)|(simp only[cM];rw[decide_eq_true (show 0<=a by omega),decide_eq_true (show a<st by omega),decide_eq_true (show 0<=c by omega),decide_eq_true (show c<st by omega),decide_eq_true (show 0<=b by omega),decide_eq_true (show b<6 by omega)];simp))
 ·by_cases hq2:(st<=a)
  ·obtain _|n:=n;omega
   simp-implicitDefEqProofs (maxSteps:=9^7) (disch:=try exact Dz) only[↓DN,↓kAsg,↓kRet,UP,simprocAttr,hq1,hq2,mE,lR,Tryz.f102]
   all_goals (first|(simp[cM];done)|(simp[cM];omega)|(simp[cM];intros;omega)|(simp only[cM];rw[decide_eq_true (show 0<=a by omega),decide_eq_true (show a<st by omega),decide_eq_true (show 0<=c by omega),decide_eq_true (show c<st by omega),decide_eq_true (show 0<=b by omega),decide_eq_true (show b<6 by omega)];simp))
  ·by_cases hq3:(c<0)
   ·obtain _|n:=n;omega
    simp-implicitDefEqProofs (maxSteps:=9^7) (disch:=try exact Dz) only[↓DN,↓kAsg,↓kRet,UP,simprocAttr,hq1,hq2,hq3,mE,lR,Tryz.f102]
    all_goals (first|(simp[cM];done)|(simp[cM];omega)|(simp[cM];intros;omega)|(simp only[cM];rw[decide_eq_true (show 0<=a by omega),decide_eq_true (show a<st by omega),decide_eq_true (show 0<=c by omega),decide_eq_true (show c<st by omega),decide_eq_true (show 0<=b by omega),decide_eq_true (show b<6 by omega)];simp))
   ·by_cases hq4:(st<=c)
    ·obtain _|n:=n;omega
     simp-implicitDefEqProofs (maxSteps:=9^7) (disch:=try exact Dz) only[↓DN,↓kAsg,↓kRet,UP,simprocAttr,hq1,hq2,hq3,hq4,mE,lR,Tryz.f102]
     all_goals (first|(simp[cM];done)|(simp[cM];omega)|(simp[cM];intros;omega)|(simp only[cM];rw[decide_eq_true (show 0<=a by omega),decide_eq_true (show a<st by omega),decide_eq_true (show 0<=c by omega),decide_eq_true (show c<st by omega),decide_eq_true (show 0<=b by omega),decide_eq_true (show b<6 by omega)];simp))
    ·by_cases hq5:(¬0<=b)
     ·obtain _|n:=n;omega
      simp-implicitDefEqProofs (maxSteps:=9^7) (disch:=try exact Dz) only[↓DN,↓kAsg,↓kRet,UP,simprocAttr,hq1,hq2,hq3,hq4,hq5,mE,lR,Tryz.f102]
      all_goals (first|(simp[cM];done)|(simp[cM];omega)|(simp[cM];intros;omega)|(simp only[cM];rw[decide_eq_true (show 0<=a by omega),decide_eq_true (show a<st by omega),decide_eq_true (show 0<=c by omega),decide_eq_true (show c<st by omega),decide_eq_true (show 0<=b by omega),decide_eq_true (show b<6 by omega)];simp))
     ·have hq5:=Classical.not_not.1 hq5
      by_cases hq6:(¬b<6)
      ·obtain _|n:=n;omega
       simp-implicitDefEqProofs (maxSteps:=9^7) (disch:=try exact Dz) only[↓DN,↓kAsg,↓kRet,UP,simprocAttr,hq1,hq2,hq3,hq4,hq5,hq6,mE,lR,Tryz.f102]
       all_goals (first|(simp[cM];done)|(simp[cM];omega)|(simp[cM];intros;omega)|(simp only[cM];rw[decide_eq_true (show 0<=a by omega),decide_eq_true (show a<st by omega),decide_eq_true (show 0<=c by omega),decide_eq_true (show c<st by omega),decide_eq_true (show 0<=b by omega),decide_eq_true (show b<6 by omega)];simp))
      ·have hq6:=Classical.not_not.1 hq6;obtain _|n:=n;omega
       simp-implicitDefEqProofs (maxSteps:=9^7) (disch:=try exact Dz) only[↓DN,↓kAsg,↓kRet,UP,simprocAttr,↓j8,hq1,hq2,hq3,hq4,hq5,hq6,mE,lR,Tryz.f102]
       all_goals (first|(simp[cM];done)|(simp[cM];omega)|(simp[cM];intros;omega)|(simp only[cM];rw[decide_eq_true (show 0<=a by omega),decide_eq_true (show a<st by omega),decide_eq_true (show 0<=c by omega),decide_eq_true (show c<st by omega),decide_eq_true (show 0<=b by omega),decide_eq_true (show b<6 by omega)];simp))
theorem AG:type_of% fun {L} al st a b c=>ks fun hn=> @V0 L _ hn al st a b c:=fun {L} al st a b c=>ks fun hn=> @V0 L _ hn al st a b c
theorem OU(hn:1<=n)(a b c d e f:Int):aA env L n 169 [.agg [nI a,nI b,nI c],.agg [nI d,nI e,nI f]] []=some (.d (.bool (bY ⟨a,b,c⟩ ⟨d,e,f⟩)),[]):=by
 by_cases hq1:(¬a=d)
 ·obtain _|n:=n;omega
  simp-implicitDefEqProofs (maxSteps:=9^7) (disch:=try exact Dz) only[↓DN,↓kAsg,↓kRet,UP,simprocAttr,hq1,CH,wT,Tryz.f169]
  all_goals ((by_cases e1:a=d<;>by_cases e2:b=e<;>simp_all [bY]))
 ·have hq1:=Classical.not_not.1 hq1
  by_cases hq2:(¬b=e)
  ·obtain _|n:=n;omega
   simp-implicitDefEqProofs (maxSteps:=9^7) (disch:=try exact Dz) only[↓DN,↓kAsg,↓kRet,UP,simprocAttr,hq1,hq2,CH,wT,Tryz.f169]
   all_goals ((by_cases e1:a=d<;>by_cases e2:b=e<;>simp_all [bY]))
  ·have hq2:=Classical.not_not.1 hq2;obtain _|n:=n;omega
   simp-implicitDefEqProofs (maxSteps:=9^7) (disch:=try exact Dz) only[↓DN,↓kAsg,↓kRet,UP,simprocAttr,hq1,hq2,CH,wT,Tryz.f169]
   all_goals ((by_cases e1:a=d<;>by_cases e2:b=e<;>simp_all [bY]))
theorem d8:type_of% fun {L} a b c d e f=>ks fun hn=> @OU L _ hn a b c d e f:=fun {L} a b c d e f=>ks fun hn=> @OU L _ hn a b c d e f
theorem QP(hn:1<=n)(al st:Int)(z:Nat)(cs:List D)(q:Int):aA env L n 144 [.agg [nI al,nI st,.d (.ivs z cs)],nI q] []=some (.d (.bool (decide (0<=q)&&decide (q<st))),[]):=by
 by_cases hq1:(¬0<=q)
 ·obtain _|n:=n;omega
  simp-implicitDefEqProofs (maxSteps:=9^7) (disch:=try exact Dz) only[↓DN,↓kAsg,↓kRet,UP,simprocAttr,hq1,QA,JY,Tryz.f144]
  all_goals (simp_all)
 ·have hq1:=Classical.not_not.1 hq1;obtain _|n:=n;omega
  simp-implicitDefEqProofs (maxSteps:=9^7) (disch:=try exact Dz) only[↓DN,↓kAsg,↓kRet,UP,simprocAttr,hq1,QA,JY,Tryz.f144]
  all_goals (simp_all)
theorem gC:type_of% fun {L} al st z cs q=>ks fun hn=> @QP L _ hn al st z cs q:=fun {L} al st z cs q=>ks fun hn=> @QP L _ hn al st z cs q
theorem JQ{e f:Edge}:decide (0<=cmpE e f)= !bY e f:=by
 unfold cmpE bY cmpI jW
 by_cases h1:e.fr<f.fr
 ·have:¬e.fr=f.fr:=om;simp[h1,this]
 ·by_cases h2:f.fr<e.fr
  ·have:¬e.fr=f.fr:=om;simp[h1,h2,this]
  ·have:e.fr=f.fr:=om;simp only[this,if_true,jW]
   by_cases h3:e.lt<f.lt
   ·have:¬e.lt=f.lt:=om;simp[h3,this]
   ·by_cases h4:f.lt<e.lt
    ·have:¬e.lt=f.lt:=om;simp[h3,h4,this]
    ·have:e.lt=f.lt:=om;simp only[this,if_true]
     by_cases h5:e.to<f.to
     ·simp[h5]
     ·by_cases h6:f.to<e.to<;>simp[h5,h6]
theorem P4(hn:3<=n){al st:Int}{l:List Edge}(hl:l.length<=4294967296){k:KE R}:∀(j:Nat) (i:Int) (m:Nat) (h0:0<=i) (hi:i+j=l.length) (hm:j<m),
  aV env (aA env L n) L 0 [] Bz34 (oP 0) Bz50 m (Y1 (.ptr 0 0 0::.d (.bool false)::nI i::Y32 (Y16 (Y2 (Y1 ([])))))) [.box [nI al,nI st,.d (.ivs l.length (aJ l))]] k
  =match seek (lD al st l) j i.toNat with
   |none=>k (.exit 0) (Y1 (.ptr 0 0 0::.d (.bool false)::nI (l.length)::Y32 (Y16 (Y2 (Y1 ([])))))) [.box [nI al,nI st,.d (.ivs l.length (aJ l))]]
   |some r=>k .ret (Y1 (.ptr 0 0 0::.d (.bool false)::nI r::Y32 (Y16 (Y2 (Y1 ([])))))) [.box [nI al,nI st,.d (.ivs l.length (aJ l))]]:=by
 intro j
 induction j with
 |zero=>
  intro i m h0 hi hm;obtain _|m:=m;omega;obtain rfl:i=l.length:=om
  simp-implicitDefEqProofs (maxSteps:=9^7) (disch:=try exact Dz) only[↓DN,↓kRet,UP,simprocAttr,Al,gX,iH,Tryz.f101]<;>rfl
 |succ j ih=>
  intro i m h0 hi hm;obtain _|m:=m;omega;have hc:i<l.length:=om;have hk:i.toNat<l.length:=om;have e1:(i+1).toNat=i.toNat+1:=om;have e2:(i-1).toNat=i.toNat-1:=om;have e3:((i.toNat:Nat):Int)=i:=om
  cases hb:lD al st l i.toNat with
  |true=>
   rw[iY hb]
   cases hb1:cM al st (l.getD i.toNat default)with
   |false=>
    simp-implicitDefEqProofs (maxSteps:=9^7) (disch:=try exact Dz) only[↓DN,↓kAsg,↓kRet,UP,simprocAttr,↓AG,LE,hc,hb1,e3,gX,iH,Tryz.f101]
   |true=>
    unfold lD at hb;rw[hb1]at hb;simp only[Dg,Bool.false_or,Ap,decide_eq_true_eq,Bool.not_eq_true']at hb;obtain⟨hz,hb3⟩:=hb;have hz:0<i:=om;have hk2:(i-1).toNat<l.length:=om;rw[<-e2]at hb3
    simp-implicitDefEqProofs (maxSteps:=9^7) (disch:=try exact Dz) only[↓DN,↓kAsg,↓kRet,UP,simprocAttr,↓AG,↓d8,LE,hc,hz,hb1,hb3,e3,gX,iH,Tryz.f101]
  |false=>
   rw[kS hb];unfold lD at hb;simp only[Ei,Ea,Bool.and_eq_false_imp,decide_eq_true_eq]at hb;obtain⟨hb1,hb2⟩:=hb
   by_cases hz:0<i
   ·have hb3:=hb2 om;have hk2:(i-1).toNat<l.length:=om;rw[<-e2]at hb3
    simp-implicitDefEqProofs (maxSteps:=9^7) (disch:=try exact Dz) only[↓DN,↓kRet,UP,simprocAttr,↓AG,↓d8,LE,hc,hz,hb1,hb3,↓ih,e1,gX,iH,Tryz.f101]
   ·simp-implicitDefEqProofs (maxSteps:=9^7) (disch:=try exact Dz) only[↓DN,↓kRet,UP,simprocAttr,↓AG,LE,hc,hz,hb1,↓ih,e1,gX,iH,Tryz.f101]
theorem tU{R:Type}{L n m:Nat}(hn:3<=n){al st:Int}{l:List Edge}(hl:l.length<=4294967296){k:KE R}(hm:l.length<m):
  aV env (aA env L n) L 0 [] Bz34 (oP 0) Bz50 m (Y1 (.ptr 0 0 0::.d (.bool false)::nI 0::Y32 (Y16 (Y2 (Y1 ([])))))) [.box [nI al,nI st,.d (.ivs l.length (aJ l))]] k
  =match seek (lD al st l) l.length 0 with
   |none=>k (.exit 0) (Y1 (.ptr 0 0 0::.d (.bool false)::nI (l.length)::Y32 (Y16 (Y2 (Y1 ([])))))) [.box [nI al,nI st,.d (.ivs l.length (aJ l))]]
   |some r=>k .ret (Y1 (.ptr 0 0 0::.d (.bool false)::nI r::Y32 (Y16 (Y2 (Y1 ([])))))) [.box [nI al,nI st,.d (.ivs l.length (aJ l))]]:=
 P4 hn hl l.length 0 m om om hm
theorem GM(hn:4<=n)(al st:Int)(l:List Edge)(hl:l.length<=4294967296)(hL:2^60<=L):aA env L n 101 [.agg [nI al,nI st,.d (.ivs l.length (aJ l))]] []=some (.d (.bool (cF ⟨al,st,l⟩)),[]):=by
 unfold cF;simp only[]
 cases ha:fQ al with
 |false=>
  obtain _|n:=n;omega
  simp-implicitDefEqProofs (maxSteps:=9^7) (disch:=try exact Dz) only[↓DN,↓kAsg,↓kRet,UP,simprocAttr,↓dQ,ha,kU,jT,Tryz.f101]
 |true=>
  by_cases h1:st<1
  ·have e1:decide (1<=st)=false:=by simp;omega
   obtain _|n:=n;omega
   simp-implicitDefEqProofs (maxSteps:=9^7) (disch:=try exact Dz) only[↓DN,↓kAsg,↓kRet,UP,simprocAttr,↓dQ,ha,h1,e1,kU,jT,Tryz.f101]
  ·by_cases h2:16<st
   ·have e1:decide (st<=16)=false:=by simp;omega
    obtain _|n:=n;omega
    simp-implicitDefEqProofs (maxSteps:=9^7) (disch:=try exact Dz) only[↓DN,↓kAsg,↓kRet,UP,simprocAttr,↓dQ,ha,h1,h2,e1,kU,jT,Tryz.f101]
   ·have e1:decide (1<=st)=true:=by simp;omega
    have e2:decide (st<=16)=true:=by simp;omega
    cases hs:seek (lD al st l) l.length 0 with
    |none=>
     obtain _|n:=n;omega
     simp-implicitDefEqProofs (maxSteps:=9^7) (disch:=try exact Dz) only[↓DN,↓kAsg,↓kRet,UP,simprocAttr,↓dQ,↓tU,ha,h1,h2,e1,e2,hs,kU,jT,Tryz.f101]
    |some r=>
     obtain _|n:=n;omega
     simp-implicitDefEqProofs (maxSteps:=9^7) (disch:=try exact Dz) only[↓DN,↓kAsg,↓kRet,UP,simprocAttr,↓dQ,↓tU,ha,h1,h2,e1,e2,hs,kU,jT,Tryz.f101]
theorem vB:type_of% fun {L} al st l hl hL=>ks fun hn=> @GM L _ hn al st l hl hL:=fun {L} al st l hl hL=>ks fun hn=> @GM L _ hn al st l hl hL
end
end Ev
end Go.Proofs.YtahbdkmimmnadaaGreatDoor
