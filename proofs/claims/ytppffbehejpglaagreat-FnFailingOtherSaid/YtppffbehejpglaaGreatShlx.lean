/-
  What the types of the program are.
-/
import Derived.Test.YtppffbehejpglaaGreatTy
import Derived.IntWalk
import Derived.Test.YtppffbehejpglaaGreatEvRen
import Derived.Test.YtppffbehejpglaaGreatEvDraw
import Derived.Test.YtppffbehejpglaaGreatEvPrim
import Derived.Test.YtppffbehejpglaaGreatChecked
import Derived.WalkKit
import Derived.Deep.RegionLaw
import Derived.Shelf.RegionOpenPlain
import Derived.Lib.Walk
import Derived.Lib.SliceRun
set_option linter.unusedSimpArgs false
set_option linter.unusedVariables false
set_option linter.unusedSectionVars false
set_option maxRecDepth 100000
set_option maxHeartbeats 4000000
namespace Go.Proofs.YtppffbehejpglaaGreat
namespace Ev
theorem zU{n:Int}(h1:-9223372036854775808<=n)(h2:n<=9223372036854775807):IntKind.i64.wrap n=n:=IntWalk.i64_in n ⟨h1,h2⟩
theorem aOM{n:Int}(h1:0<=n)(h2:n<=18446744073709551615):IntKind.u64.wrap n=n:=IntWalk.u64_in n ⟨h1,h2⟩
theorem aTN{n:Int}(h1:0<=n)(h2:n<=255):IntKind.u8.wrap n=n:=IntWalk.u8_in n ⟨h1,h2⟩
theorem aMK:env.P.underlying 3=some (.int .i64):=kr
theorem aTh:env.P.underlying 103=some (.int .u64):=kr
theorem YM:env.P.underlying 5=some (.int .u8):=kr
theorem aOj:env.P.underlying 4=some .bool:=kr
theorem aIx:env.P.underlying 9=some .string:=kr
theorem aS8:env.P.underlying 58=some (.slice 3):=kr
theorem aL7:env.P.underlying 22=some (.slice 5):=kr
theorem YB:env.P.cellsOf 3=1:=kr
theorem aMe:env.P.cellsOf 5=1:=kr
theorem aTH:eF env.P 3=true:=kr
theorem aTG:dG env.P 3=some (nI 0):=kr
theorem RU{h:H}{n:Int}{K:IntKind}:eQ env.P h 3 103 (.d (.int K n))=some (.d (.int .u64 (IntKind.u64.wrap n)),h):=x5 aMK aTh
theorem aFb{h:H}{n:Int}{K:IntKind}:eQ env.P h 3 5 (.d (.int K n))=some (.d (.int .u8 (IntKind.u8.wrap n)),h):=x5 aMK YM
theorem N8{h:H}{n:Int}{K:IntKind}:eQ env.P h 5 3 (.d (.int K n))=some (nI (IntKind.i64.wrap n),h):=x5 YM aMK
def ints(l:List Int):List D:=l.map (.int .i64)
def bK(l:List UInt8):List D:=l.map fun b=>.int .u8 b.toNat
abbrev rdO(c:List UInt8)(p:Int):O:=.box [.d (.ivs c.length (bK c)),nI p]
abbrev Dw(m f:Nat)(xs:List A)(r:A)(c:List UInt8)(p q:Int):Prop:=∀(R:Type) (L n:Nat) (hq:H) (k:KA R),m<=n->2^60<=L->aW env (aA env L n) (rdO c p::hq) f (.ptr 0 0 0::xs) k=k r (rdO c q::hq)
abbrev KC(d L:Nat)(f:Nat)(xs:List A)(r:A):Prop:=∀(R:Type) (n:Nat) (hq:H) (k:KA R),d<=n->aW env (aA env L n) hq f xs k=k r hq
theorem ks{d L:Nat}{f:Nat}{xs:List A}{r:A}(h2:∀ {n:Nat},d<=n->aA env L n f xs []=some (r,[]))(h1:xs.all pD=true:=by rfl)(h3:idsA r=[]:=by rfl)(h4:gP r=true\/((env.hint f).mode==1||(env.hint f).mode==3)=false:=by first|exact .inl rfl|exact .inr rfl):KC d L f xs r:=fun _ _ _ _ hn=>b6 h1 (h2 hn) h3 h4
abbrev KT(d L:Nat)(f:Nat)(xs:List A)(r:A):Prop:=∀(R:Type) (n:Nat) (k:A->Option R),d<=n->vX (aA env L n) f xs k=k r
theorem kt{d L:Nat}{f:Nat}{xs:List A}{r:A}(h2:∀ {n:Nat},d<=n->aA env L n f xs []=some (r,[]))(h:gP r=true:=by rfl):KT d L f xs r:=fun _ _ _ hn=>mJ (h2 hn) h
abbrev KV(L:Nat)(f:Nat)(xs:List A):Prop:=∀(R:Type) (n:Nat) (hq:H) (k:KA R),aW env (aA env L n) hq f xs k=match box (YC hq xs)with
 |.mk (some fs)=>vX (aA env L n) f fs fun r=>k r hq
 |_=>none
theorem aNk:cR env.P 58=some 3:=by simp only[cR,aS8]
theorem d8{l:List Int}:(ints l).length=l.length:=by simp[ints]
theorem aGH{l:List Int}{v:Int}:ints l++[.int .i64 v]=ints (l++[v]):=by simp[ints]
theorem mL:ints []=[]:=rfl
theorem cW{l:List Int}{k:Nat}(h:l.length<=k):(ints l).take k=ints l:=Ce (by rw[d8];exact h)
theorem XZ{l:List Int}{k:Nat}(h:k<l.length):(((ints l).drop k).map A.d).head? =some (nI (l.getD k 0)):=by
 rw[List.head?_map,Db,ints,Bd,Aa,Ad h];rfl
section
theorem zO{α:Type}(f:α->D)(l:List α)(k:Nat)(v:α)(h:k<l.length):bI (l.map f) k [f v]=(l.set k v).map f:=by
 unfold bI;rw[List.map_set];have:k<(l.map f).length:=by simpa using h
 generalize l.map f=m at *;rw[List.set_eq_take_append_cons_drop,if_pos this];simp
theorem pS{l:List UInt8}:(bK l).length=l.length:=by simp[bK]
theorem aNd:bK []=[]:=rfl
theorem aQe{e g:Nat}:O.arr [] e g=O.arr (ints []) e g:=rfl
theorem aAg{l:List UInt8}{v:UInt8}:bK l++[.int .u8 (v.toNat:Int)]=bK (l++[v]):=by simp[bK]
theorem M8{l:List UInt8}{k:Nat}(h:l.length<=k):(bK l).take k=bK l:=Ce (by rw[pS];exact h)
theorem aAU{l:List UInt8}{k:Nat}(h:k<l.length):(((bK l).drop k).map A.d).head? =some (.d (.int .u8 ((l.getD k 0).toNat:Int))):=by
 rw[List.head?_map,Db,bK,Bd,Aa,Ad h];rfl
theorem aM1{l:List UInt8}{k:Nat}{v:UInt8}(h:k<l.length):bI (bK l) k [.int .u8 (v.toNat:Int)]=bK (l.set k v):=zO _ l k v h
theorem aB1{l:List Int}{k:Nat}{v:Int}(h:k<l.length):bI (ints l) k [.int .i64 v]=ints (l.set k v):=zO _ l k v h
theorem aG3:∀l:List UInt8,HA (bK l)=some l
 | []=>rfl
 |b::l=>by
  have ih:=aG3 l;unfold bK at ih|-;simp only[Ai,HA,ih,Az];simp
theorem getElem?_zero_cons {o:O} {h:H}:(o::h)[0]? =some o:=rfl
theorem NW{l:List UInt8}{g len:Nat}{h:H}(hl:len=l.length):eQ env.P (.arr (bK l) 1 g::h) 22 9 (.sl 0 g 0 len)=some (.d (.str l),.arr (bK l) 1 g::h):=by
 subst hl;simp only[eQ,aL7,aIx,YM,b8,getElem?_zero_cons,pS,or_true,Cc,Ag,Ab,and_self,if_true,Ba,M8 (Ab _),aG3,Az]
theorem aJU{α:Type}(x:α):∀n:Nat,(List.replicate n [x]).flatten=List.replicate n x
 |0=>rfl
 |n+1=>by simp[List.replicate_succ,aJU x n]
theorem KR{n:Int}{h:H}(h0:0<=n)(h1:n<=4294967296):gR env.P h 58 n n=some (.sl h.length 0 0 n.toNat,h++[.arr (ints (List.replicate n.toNat 0)) 1 0]):=by
 have hm:n<=(bH:Nat):=by unfold bH;omega
 simp only[gR,aNk,aTG,aZ,yW,Az,aTH,h0,hm,YB,Int.le_refl,and_self,if_true,aJU,ints,List.map_replicate]
theorem aCV{i:Int}{s:List UInt8}(h0:0<=i)(h:i<s.length):OK env.P 9 (.d (.str s)) i=some (.d (.int .u8 ((s.getD i.toNat 0).toNat))):=by
 have hk:i.toNat<s.length:=om;simp only[OK,aIx,if_pos h0,Aa,Ad hk,Az,Bb]
theorem take_set{α:Type}{l:List α}{k:Nat}{v:α}(h:k<l.length):(l.set k v).take (k+1)=l.take k++[v]:=by
 rw[List.take_set,De,Ad h];simp only[Option.toList_some];have hl:(l.take k).length=k:=by rw[Bk];omega
 rw[Do _ _ om,hl,Bh];rfl
theorem aSC{o:O}{h:H}{id:Nat}(hs:h[id]? =some o):h.set id o=h:=by
 apply Cm;intro j;rw[Cj];obtain⟨hl,he⟩:=Au.1 hs
 by_cases e:id=j
 ·subst e;simp[hl,he]
 ·simp[e]
theorem tC{h:H}{id gen off esz:Nat}{t:TypeId}{cs:List D}{d:D}(hid:h[id]? =some (.arr cs esz gen))(c1:env.P.cellsOf t=1)(hi:(env.P.info? t).isSome=true)(hd:dO (.d d)=true)(hk:off<cs.length):
  jK env.P h t (.ptr id gen off) (.d d)=some (h.set id (.arr (bI cs off [d]) esz gen)):=by
 have hc:(aZ (.d d)).length=env.P.cellsOf t/\(env.P.info? t).isSome=true/\(aZ (.d d)).all dO=true:=⟨by rw[c1];rfl,hi,by simp[aZ,hd]⟩
 have hf:frzL h (aZ (.d d))=some ([d],h):=rfl;unfold jK;rw[if_pos hc];simp only[hid,hf,c1,true_and];rw[if_pos om]
theorem aSs:(env.P.info? 5).isSome=true:=kr
theorem aRu:(env.P.info? 3).isSome=true:=kr
theorem aOR:(env.P.info? 4).isSome=true:=kr
theorem aIp:env.P.cellsOf 4=1:=kr
theorem aRe{h:H}{g e k:Nat}{l:List UInt8}{b:UInt8}(hk:k<l.length):jK env.P (.arr (bK l) e g::h) 5 (.ptr 0 g k) (.d (.int .u8 (b.toNat:Int)))=some (.arr (bK (l.set k b)) e g::h):=by
 rw[tC (id:=0) rfl aMe aSs rfl (by rw[pS];exact hk),aM1 hk];rfl
theorem YQ{h:H}{g e k:Nat}{l:List Int}{b:Int}(hk:k<l.length):jK env.P (.arr (ints l) e g::h) 3 (.ptr 0 g k) (nI b)=some (.arr (ints (l.set k b)) e g::h):=by
 rw[tC (id:=0) rfl YB aRu rfl (by rw[d8];exact hk),aB1 hk];rfl
theorem aMf{o:O}{h:H}{g e k:Nat}{l:List Int}{b:Int}(hk:k<l.length):jK env.P (o::.arr (ints l) e g::h) 3 (.ptr 1 g k) (nI b)=some (o::.arr (ints (l.set k b)) e g::h):=by
 rw[tC (id:=1) rfl YB aRu rfl (by rw[d8];exact hk),aB1 hk];rfl
section
variable{t:TypeId}{h:H}{a b:List UInt8}
theorem aDM:bW env .eql t h (.d (.str a)) (.d (.str b))=some (.d (.bool (a==b)),h):=by simp[bW,aBin]
theorem aDU:bW env .neq t h (.d (.str a)) (.d (.str b))=some (.d (.bool (!(a==b))),h):=by simp[bW,aBin]
theorem aDG(hl:a.length+b.length<=4294967296):bW env .add t h (.d (.str a)) (.d (.str b))=some (.d (.str (a++b)),h):=by
 have:a.length+b.length<=bH:=hl;simp[bW,aBin,this]
theorem aC8:bW env .lss t h (.d (.str a)) (.d (.str b))=some (.d (.bool (Op.bytesLess a b)),h):=by simp[bW,aBin]
end
theorem toNat_lt(b:UInt8):b.toNat<256:=b.toNat_lt
theorem aIZ{b:UInt8}:IntKind.i64.wrap (b.toNat:Int)=b.toNat:=zU om (by have:=toNat_lt b;omega)
theorem HG{l:List UInt8}{n:Nat}{lo hi:Option Int}{h:H}(hn:n=l.length)(h0:0<=lo.getD 0)(h1:lo.getD 0<=hi.getD l.length)(h2:hi.getD l.length<=l.length):gQ env.P h 22 (.d (.ivs n (bK l))) lo hi=some (.d (.ivs ((l.drop (lo.getD 0).toNat).take ((hi.getD l.length).toNat-(lo.getD 0).toNat)).length (bK ((l.drop (lo.getD 0).toNat).take ((hi.getD l.length).toNat-(lo.getD 0).toNat))))):=by
 subst hn;simp only[gQ,aL7,aMe,qA,h0,h1,h2,and_self,if_true,Cc,Az,Nat.zero_lt_one,bK,List.map_take,List.map_drop]
 congr 3
 rw[Bk,Cf];omega
theorem aA5{l:List UInt8}{n:Nat}{u:Int}{h:H}(hn:n=l.length)(h0:0<=u)(h1:u<=l.length):gQ env.P h 22 (.d (.ivs n (bK l))) none (some u)=some (.d (.ivs (l.take u.toNat).length (bK (l.take u.toNat)))):=by
 rw[HG hn sm (by simpa using h0) (by simpa using h1)];simp
theorem S7{l:List UInt8}{n:Nat}{u:Int}{h:H}(hn:n=l.length)(h0:0<=u)(h1:u<=l.length):gQ env.P h 22 (.d (.ivs n (bK l))) (some u) none=some (.d (.ivs (l.drop u.toNat).length (bK (l.drop u.toNat)))):=by
 rw[HG hn (by simpa using h0) (by simpa using h1) sm];have:(List.take (l.length-u.toNat) (l.drop u.toNat))=l.drop u.toNat:=Ce sm;simp[this]
theorem aCD{h:H}{a b:Bool}:bW env .eql 4 h (.d (.bool a)) (.d (.bool b))=some (.d (.bool (a==b)),h):=by simp[bW,aBin,aNil,aOj,eqlA]
theorem aC7{h:H}{a b:Bool}:bW env .neq 4 h (.d (.bool a)) (.d (.bool b))=some (.d (.bool (!(a==b))),h):=by simp[bW,aBin,aNil,aOj,eqlA]
theorem LB:type_of% (AI @pS (AI @d8 (AI @aAU (AI @XZ (AI @M8 (AI @cW (AI @aAg (AI @aGH (AI @aCV (AI @aDM (AI @aDU (AI @aDG (AI @aC8 (AI @aIZ (AI @aCD (AI @aC7 @Cn)))))))))))))))):=
 ⟨@pS,@d8,@aAU,@XZ,@M8,@cW,@aAg,@aGH,@aCV,@aDM,@aDU,@aDG,@aC8,@aIZ,@aCD,@aC7,@Cn⟩
theorem CV:type_of% (AI @aA5 @S7):=
 ⟨@aA5,@S7⟩
theorem DN:type_of% (AI @WD (AI @aEd (AI @WDD (AI @aDb @CV)))):=
 ⟨@WD,@aEd,@WDD,@aDb,@CV⟩
theorem Dz{p:Prop}(h:p:=by first|assumption|exact⟨by kernel_rfl⟩|omega|(simp only[GT,LN]<;>omega)):p:=h
theorem UP:type_of% (AI @SLM (AI @WK (AI @UN (AI @TY (AI @LB (AI @MD @zU)))))):=
 ⟨@SLM,@WK,@UN,@TY,@LB,@MD,@zU⟩
end
def gnd:Gnd:=⟨[],false⟩
section
variable{G:Gnd}
open Go.RowKit Go.Lib
theorem FI{P:Program}{w w':World}{ops:Array Oper}{rest:List Oper}{o:Oper}{a:Act}{Q:Exit->Act->World->Prop}(hgd:o.guard=none)(s x:Operand)(t:TypeId)
  (ho:o.op=.call { callee:=.builtin .append,args:=#[s,x],argTypes:=#[t,t]}) {sv xv v:Value} (hs:a.eval s=sv) (hx:a.eval x=xv) (hrun:(Builtin.append_ #[t,t] o.type #[sv,xv]).run P w=.ok v w')
  (h:wpList P ops Q rest (a.put o.dst v) w'):wpList P ops Q (o::rest) a w:=
 wpList_plain hgd fun _ hK=>by
  unfold Oper.wp;simp[execOp,ho,resolve,invoke,builtin,hs,hx,hrun,Result.andThen];exact hK _ _ h
theorem aDj{esz:Nat}{x:A}{xv:Value}{n:Nat}{ds:List D}{h:H}{ρ:Rho}{w:World}{I:Nat->Prop}(he:b8 h esz x=some (n,ds))(hns:∀s,x≠.d (.str s))(hz:0<esz)(r:Rel G h ρ w I)(hx:AR h ρ w I x xv):
  ∃a cap,xv=.slice a n cap/\n<=cap/\(a=none->n=0):=by
 unfold b8 at he
 split at he
 ·cases he;simp only[AR,DR]at hx
  obtain⟨a,rfl⟩:=hx;exact⟨a,0,rfl,Ab _,fun _=>rfl⟩
 ·split at he
  ·rename_i hl
   cases he;simp only[AR,DR]at hx
   obtain⟨a,cap,rfl,hc,hh⟩:=hx;refine⟨a,cap,rfl,hc,fun ha=> ?_⟩
   rcases hh with hh|⟨b,o,hb,_⟩
   ·rw[hh]at hl
    rcases Cr n with h0|h0
    ·exact h0
    ·have:=Nat.mul_pos h0 hz;simp at hl;omega
   ·rw[ha]at hb;cases hb
  ·cases he
 ·rename_i s;exact absurd rfl (hns s)
 ·rename_i id gen off len
  split at he
  ·rename_i cs e g hid
   split at he
   ·rename_i hc
    cases he;simp only[AR]at hx
    obtain⟨a,cap,rfl,hs⟩:=hx;simp only[slOK,hid]at hs;have h2:=hs.2 hc.1.symm;refine⟨a,cap,rfl,h2.1,fun ha=> ?_⟩;have h3:=h2.2
    split at h3
    ·omega
    ·rcases h3 with h3|h3
     ·omega
     ·rw[ha]at h3;cases h3.1
   ·cases he
  ·rename_i cs e g hid
   split at he
   ·rename_i hc
    cases he;simp only[AR]at hx
    obtain⟨a,cap,rfl,hs⟩:=hx;simp only[slOK,hid]at hs;have h2:=hs.2 hc.1.symm;refine⟨a,cap,rfl,h2.1,fun ha=> ?_⟩
    rcases h2.2 with h3|⟨_,b,hb,_⟩
    ·exact h3
    ·rw[ha]at hb;cases hb
   ·cases he
  ·cases he
 ·cases he
theorem aNE:yQ G Tryz.prog 58 (mA 1):=by
 intro k args h x h' he;simp only at he
 split at he
 ·rename_i hk
  subst hk;refine⟨⟨_,Tryz.func58,by kernel_rfl,by kernel_rfl⟩,fun ρ w I vs r ha=> ?_⟩;unfold mA at he
  split at he
  ·cases he
  ·rename_i y hns
   split at he
   ·rename_i n cs hsc
    split at he
    ·rename_i hn
     cases he;obtain⟨xv,rest,rfl,hx,hr⟩:=fI ha
     simp only[ARv]at hr;subst hr;have hns':∀s,y≠.d (.str s):=fun s hy=>by subst hy;exact hns s rfl
     obtain⟨a,cap,rfl,hcap,hnil⟩:=aDj hsc hns' om r hx;have hu:=Tryz.underlying24;have q22:∀(w:World) (a:Option Addr) (n c n' c':Nat),(binOp .eql 24 (.slice a n c) (.slice none n' c')).run Tryz.prog w=.ok (.bool a.isNone) w:=fun w a n c n' c'=>Lib.run_eql_slice_nil w _ _ a n c n' c' hu
     by_cases hnone:a.isNone=true
     ·have hn0:n=0:=hnil (by simpa using hnone);subst hn0
      have hs0:cs=[]:=by
       have:=(tD (P:=Tryz.prog) hsc r hx).2.1
       simpa using this
      subst hs0;have s1:=d9 r (Grew.refl w) (.arr [] 1 0) none sm (fun _=>by simp[OR,a7])
      have hsl:AR (h++[.arr [] 1 0]) (upd ρ h.length none) w I (.sl h.length 0 0 0) (.slice none 0 0):=by
       simp only[AR];refine⟨none,0,rfl,?_⟩;have e1:(h++[O.arr [] 1 0])[h.length]? =some (.arr [] 1 0):=sm;simp only[slOK,e1,a7];simp
      clear hx ha hsc
      go_enter Tryz.func58,Tryz.ntmps58
      go_wp2_with fail
      go_ret
      exact⟨_,rfl,upd ρ h.length none,I,s1,hsl⟩
     ·have hnone':a.isNone=false:=by cases a<;>simp_all
      have s1:=CX r (Grew.push w (Obj.cells #[] 4));have hx1:=gU s1.ext y _ hx;have hel:cR Tryz.prog 24=some 4:=kr;have hok:eF Tryz.prog 4=true:=kr;have hce:Tryz.prog.cellsOf 4=1:=kr
      have hap:gZ Tryz.prog h 24 (.d .nils) y=some (.sl h.length 0 0 n,h++[.arr cs 1 0]):=by
       simp only[gZ,hel,hok,hce,hsc,if_true,hn]
      obtain⟨v,ρ',w',I',hrun,st,ar⟩:=yV (P:=Tryz.prog) (ty:=24) hu (fun k hk=>by cases hk) hap s1.rel (sv:=.slice (some ⟨w.heap.size,0,none⟩) 0 0) (by simp only[AR,DR];exact⟨_,rfl⟩) hx1;have fin:=s1.trans st;clear hx ha hsc hx1 s1 st
      go_enter Tryz.func58,Tryz.ntmps58
      go_wp2_with (at_builtin;refine FI rfl _ _ 24 rfl rfl rfl hrun ?_)
      go_wp2
      go_ret
      exact⟨v,ρ',I',rfl,fin,ar⟩
    ·cases he
   ·cases he
  ·cases he
 ·cases he
theorem aOd:yQ G Tryz.prog 59 (mA 1):=by
 intro k args h x h' he;simp only at he
 split at he
 ·rename_i hk
  subst hk;refine⟨⟨_,Tryz.func59,by kernel_rfl,by kernel_rfl⟩,fun ρ w I vs r ha=> ?_⟩;unfold mA at he
  split at he
  ·cases he
  ·rename_i y hns
   split at he
   ·rename_i n cs hsc
    split at he
    ·rename_i hn
     cases he;obtain⟨xv,rest,rfl,hx,hr⟩:=fI ha
     simp only[ARv]at hr;subst hr;have hns':∀s,y≠.d (.str s):=fun s hy=>by subst hy;exact hns s rfl
     obtain⟨a,cap,rfl,hcap,hnil⟩:=aDj hsc hns' om r hx;have hu:=Tryz.underlying58;have q22:∀(w:World) (a:Option Addr) (n c n' c':Nat),(binOp .eql 58 (.slice a n c) (.slice none n' c')).run Tryz.prog w=.ok (.bool a.isNone) w:=fun w a n c n' c'=>Lib.run_eql_slice_nil w _ _ a n c n' c' hu
     by_cases hnone:a.isNone=true
     ·have hn0:n=0:=hnil (by simpa using hnone);subst hn0
      have hs0:cs=[]:=by
       have:=(tD (P:=Tryz.prog) hsc r hx).2.1
       simpa using this
      subst hs0;have s1:=d9 r (Grew.refl w) (.arr [] 1 0) none sm (fun _=>by simp[OR,a7])
      have hsl:AR (h++[.arr [] 1 0]) (upd ρ h.length none) w I (.sl h.length 0 0 0) (.slice none 0 0):=by
       simp only[AR];refine⟨none,0,rfl,?_⟩;have e1:(h++[O.arr [] 1 0])[h.length]? =some (.arr [] 1 0):=sm;simp only[slOK,e1,a7];simp
      clear hx ha hsc
      go_enter Tryz.func59,Tryz.ntmps59
      go_wp2_with fail
      go_ret
      exact⟨_,rfl,upd ρ h.length none,I,s1,hsl⟩
     ·have hnone':a.isNone=false:=by cases a<;>simp_all
      have s1:=CX r (Grew.push w (Obj.cells #[] 3));have hx1:=gU s1.ext y _ hx;have hel:cR Tryz.prog 58=some 3:=kr;have hok:eF Tryz.prog 3=true:=kr;have hce:Tryz.prog.cellsOf 3=1:=kr
      have hap:gZ Tryz.prog h 58 (.d .nils) y=some (.sl h.length 0 0 n,h++[.arr cs 1 0]):=by
       simp only[gZ,hel,hok,hce,hsc,if_true,hn]
      obtain⟨v,ρ',w',I',hrun,st,ar⟩:=yV (P:=Tryz.prog) (ty:=58) hu (fun k hk=>by cases hk) hap s1.rel (sv:=.slice (some ⟨w.heap.size,0,none⟩) 0 0) (by simp only[AR,DR];exact⟨_,rfl⟩) hx1;have fin:=s1.trans st;clear hx ha hsc hx1 s1 st
      go_enter Tryz.func59,Tryz.ntmps59
      go_wp2_with (at_builtin;refine FI rfl _ _ 58 rfl rfl rfl hrun ?_)
      go_wp2
      go_ret
      exact⟨v,ρ',I',rfl,fin,ar⟩
    ·cases he
   ·cases he
  ·cases he
 ·cases he
end
section
variable{R:Type}{L n:Nat}
def eV(x:Int):Bool:=decide (0<=x/\x<6)
def cQ(x:Int):Bool:=decide (0<=x/\x<=63)
theorem MA(hn:1<=n)(a:Int):aA env L n 66 [nI a] []=some (.d (.bool (cQ a)),[]):=by
 obtain _|n:=n;omega
 simp-implicitDefEqProofs (maxSteps:=9^7) (disch:=try exact Dz) only[↓DN,↓kAsg,↓kRet,UP,simprocAttr,aDW,OU,Tryz.f66]
 by_cases h:0<=a<;>simp[h,cQ]
theorem gO:type_of% fun {L} a=>ks fun hn=> @MA L _ hn a:=fun {L} a=>ks fun hn=> @MA L _ hn a
theorem L0(hn:1<=n)(a:Int):aA env L n 46 [nI a] []=some (.d (.bool (cQ a)),[]):=by
 obtain _|n:=n;omega
 simp-implicitDefEqProofs (maxSteps:=9^7) (disch:=try exact Dz) only[↓DN,↓kAsg,↓kRet,UP,simprocAttr,aEH,N6,Tryz.f46]
 by_cases h:0<=a<;>simp[h,cQ]
theorem dT:type_of% fun {L} a=>ks fun hn=> @L0 L _ hn a:=fun {L} a=>ks fun hn=> @L0 L _ hn a
def cO(a i:Int):Bool:=decide ((a.fdiv (2^(min i.toNat 64))) % 2=1)
def bitI(n:Int):Int:=IntKind.i64.wrap (1*2^(min n.toNat 64))
theorem toNat_ofInt(x:Int):((BitVec.ofInt 64 x).toNat:Int)=x % 18446744073709551616:=by
 rw[BitVec.toNat_ofInt];omega
theorem aKd(x:Int):iAnd .i64 x 1=x % 2:=by
 unfold iAnd
 have h1:(BitVec.ofInt IntKind.i64.bits x&&&BitVec.ofInt IntKind.i64.bits 1).toNat=(BitVec.ofInt 64 x).toNat % 2:=by
  change (BitVec.ofInt 64 x&&&BitVec.ofInt 64 1).toNat=_
  rw[BitVec.toNat_and];exact Nat.and_one_is_mod _
 rw[h1];have h2:=toNat_ofInt x;rw[zU om om];omega
theorem aKx:IntKind.i64.bits=64:=rfl
theorem aDf(hn:1<=n)(a i:Int)(hi:0<=i)(hi2:i<=9223372036854775807):aA env L n 92 [nI a,nI i] []=some (.d (.bool (cO a i)),[]):=by
 obtain _|n:=n;omega
 simp-implicitDefEqProofs (maxSteps:=9^7) (disch:=try exact Dz) only[↓DN,↓kAsg,↓kRet,UP,simprocAttr,↓RU,aOM,aKd,aKx,aMB,aF6,Tryz.f92]<;>rfl
theorem s5:type_of% fun {L} a i hi hi2=>ks fun hn=> @aDf L _ hn a i hi hi2:=fun {L} a i hi hi2=>ks fun hn=> @aDf L _ hn a i hi hi2
theorem aKh(hn:1<=n)(a i:Int):aA env L n 81 [nI a,nI i] []=some (.d (.bool (decide (0<=i)&&cO a i)),[]):=by
 obtain _|n:=n;omega
 simp-implicitDefEqProofs (maxSteps:=9^7) (disch:=try exact Dz) only[↓DN,↓kAsg,↓kRet,UP,simprocAttr,aKd,aKx,aRb,aMq,Tryz.f81]
 by_cases h:0<=i<;>simp[h,cO]
theorem QS:type_of% fun {L} a i=>ks fun hn=> @aKh L _ hn a i:=fun {L} a i=>ks fun hn=> @aKh L _ hn a i
theorem aEt(hn:1<=n)(i:Int)(hi:0<=i)(hi2:i<=9223372036854775807):aA env L n 128 [nI i] []=some (nI (bitI i),[]):=by
 obtain _|n:=n;omega
 simp-implicitDefEqProofs (maxSteps:=9^7) (disch:=try exact Dz) only[↓DN,↓kAsg,↓kRet,UP,simprocAttr,↓RU,aOM,aKx,aMG,aG2,Tryz.f128]<;>rfl
theorem aMV:type_of% fun {L} i hi hi2=>ks fun hn=> @aEt L _ hn i hi hi2:=fun {L} i hi hi2=>ks fun hn=> @aEt L _ hn i hi hi2
def aB(a:Int):List Int:=[0,1,2,3,4,5].filter (cO a)
def rI:Nat->List Int
 |0=>[]
 |j+1=>(6-((j+1:Nat):Int))::rI j
theorem xP{x:Int}:eV x=true↔0<=x/\x<=5:=by
 unfold eV;simp;omega
theorem aCc(hn:1<=n){a:Int}{k:KE R}:∀(j:Nat) (i:Int) (l:List Int) (len m:Nat),i+j=6->0<=i->j<m->len=l.length->l.length+j<100->
  aR env (aA env L n) L 0 [0,0,0,2] Bz26 (tU 0) Bz51 m (nI a::Y1 (.d .nils::.sl 0 0 0 len::Y1 (nI i::Y8 (Y2 (Y1 ([])))))) [.arr (ints l) 1 0] k
  =k (.exit 0) (nI a::Y1 (.d .nils::.sl 0 0 0 (len+((rI j).filter (cO a)).length)::Y1 (nI 6::Y8 (Y2 (Y1 ([])))))) [.arr (ints (l++(rI j).filter (cO a))) 1 0]:=by
 intro j
 induction j with
 |zero=>
  intro i l len m hi h0 hm hl hlen;obtain _|m:=m;omega;obtain rfl:i=6:=om
  simp-implicitDefEqProofs (maxSteps:=9^7) (disch:=try exact Dz) only[↓DN,↓kRet,UP,simprocAttr,sD,rM,Tryz.f47];simp only[rI,List.filter_nil,Aj,Ac,Bv]
 |succ j ih=>
  intro i l len m hi h0 hm hl hlen;obtain _|m:=m;omega;have hc:i<6:=om;have hr:rI (j+1)=i::rI j:=by simp only[rI];congr 1;omega
  rw[hr,List.filter_cons]
  cases hb:cO a i with
  |true=>
   simp-implicitDefEqProofs (maxSteps:=9^7) (disch:=try exact Dz) only[↓DN,↓kRet,UP,simprocAttr,↓QS,↓ih,hc,hb,h0,sD,rM,Tryz.f47]
   try simp only[Al,Ax,Ap,Nat.add_assoc,Nat.add_comm 1]
  |false=>
   simp-implicitDefEqProofs (maxSteps:=9^7) (disch:=try exact Dz) only[↓DN,↓kRet,UP,simprocAttr,↓QS,↓ih,hc,hb,h0,sD,rM,Tryz.f47]
theorem RI{R:Type}{L n m:Nat}(hn:1<=n){a:Int}{k:KE R}(hm:6<m):
  aR env (aA env L n) L 0 [0,0,0,2] Bz26 (tU 0) Bz51 m (nI a::Y1 (.d .nils::.sl 0 0 0 0::Y1 (nI 0::Y8 (Y2 (Y1 ([])))))) [.arr [] 1 0] k
  =k (.exit 0) (nI a::Y1 (.d .nils::.sl 0 0 0 (aB a).length::Y1 (nI 6::Y8 (Y2 (Y1 ([])))))) [.arr (ints (aB a)) 1 0]:=by
 have h:=aCc (R:=R) (L:=L) hn (a:=a) (k:=k) 6 0 [] 0 m rfl om hm rfl sm;simp only[Ag,Ap]at h;exact h
theorem bQ(a:Int):(aB a).length<=6:=by
 unfold aB;exact List.length_filter_le _ _
theorem NS(hn:2<=n)(a:Int)(hL:2^60<=L):aA env L n 47 [nI a] []=some (.d (.ivs (aB a).length (ints (aB a))),[]):=by
 obtain _|n:=n;omega
 simp-implicitDefEqProofs (maxSteps:=9^7) (disch:=try exact Dz) only[↓DN,↓kAsg,UP,simprocAttr,↓RI,aEQ,S9,Tryz.f47]
theorem kS:type_of% fun {L} a hL=>ks fun hn=> @NS L _ hn a hL:=fun {L} a hL=>ks fun hn=> @NS L _ hn a hL
theorem aP6{l:List Int}{P:Int->Prop}(h:∀v∈l,P v){k:Nat}(hk:k<l.length):P (l.getD k 0):=by
 rw[Aa,Ad hk];exact h _ (At hk)
theorem cK{a:Int}:∀v∈aB a,0<=v/\v<=5:=by
 intro v hv;have:=(List.mem_filter.1 hv).1;simp at this;omega
end
structure Edge where
 fr:Int
 lt:Int
 to:Int
 deriving DecidableEq,Inhabited
def aTJ(e:Edge):List D:=[.int .i64 e.fr,.int .i64 e.lt,.int .i64 e.to]
def aS5(l:List Edge):List D:=(l.map aTJ).flatten
def cmpI(a b:Int):Int:=if a<b then -1 else if b<a then 1 else 0
def qB:List Int->Int
 | []=>0
 |a::l=>if a=0 then qB l else a
def lz:List Int->Nat
 | []=>0
 |a::l=>if a=0 then lz l+1 else 0
theorem cB{α:Type}{l:List α}{i:Nat}{d:α}(h:i<l.length):l.drop i=l.getD i d::l.drop (i+1):=by
 rw[Df h,Aa,Ad h];rfl
def seek(p:Nat->Bool):Nat->Nat->Option Nat
 |0,_=>none
 |j+1,i=>if p i=true then some i else seek p j (i+1)
theorem lZ{p:Nat->Bool}:∀ {j i:Nat},seek p j i=none↔∀k,i<=k->k<i+j->p k=false
 |0,i=>by simp only[seek,true_iff];intro k h1 h2;omega
 |j+1,i=>by
  simp only[seek]
  by_cases hp:p i=true
  ·rw[if_pos hp];simp only[false_iff,reduceCtorEq];intro h;have:=h i (Ab _) om;rw[hp]at this;cases this
  ·rw[if_neg hp,lZ]
   constructor
   ·intro h k h1 h2
    by_cases e:k=i
    ·subst e;simpa using hp
    ·exact h k om om
   ·intro h k h1 h2;exact h k om om
theorem CY{p:Nat->Bool}:∀ {j i r:Nat},seek p j i=some r->i<=r/\r<i+j/\p r=true/\∀k,i<=k->k<r->p k=false
 |0,i,r,h=>by simp[seek]at h
 |j+1,i,r,h=>by
  simp only[seek]at h
  by_cases hp:p i=true
  ·rw[if_pos hp]at h;cases h;exact⟨Ab _,by omega,hp,fun k h1 h2=>by omega⟩
  ·rw[if_neg hp]at h;obtain⟨h1,h2,h3,h4⟩:=CY h;refine⟨by omega,by omega,h3,fun k k1 k2=> ?_⟩
   by_cases e:k=i
   ·subst e;simpa using hp
   ·exact h4 k om k2
theorem fB{p:Nat->Bool}{j i:Nat}(h:p i=true):seek p (j+1) i=some i:=by simp[seek,h]
theorem iY{p:Nat->Bool}{j i:Nat}(h:p i=false):seek p (j+1) i=seek p j (i+1):=by simp[seek,h]
structure Sys where
 al:Int
 st:Int
 es:List Edge
 deriving DecidableEq,Inhabited
theorem nZ{a b:UInt8}{x y:List UInt8}:Op.bytesLess (a::x) (b::y)=true↔a.toNat<b.toNat\/a=b/\Op.bytesLess x y=true:=by
 simp only[Op.bytesLess,Bool.or_eq_true,As,beq_iff_eq,decide_eq_true_eq]<;>rfl
theorem SN:∀x:List UInt8,¬Op.bytesLess x x=true
 | [],h=>by simp[Op.bytesLess]at h
 |a::x,h=>by
  rcases nZ.1 h with h|⟨_,h⟩
  ·omega
  ·exact SN x h
theorem MQ:∀ {x y z:List UInt8},Op.bytesLess x y=true->Op.bytesLess y z=true->Op.bytesLess x z=true
 |_,[],_,h,_=>by simp[Op.bytesLess]at h
 |_,_::_,[],_,k=>by simp[Op.bytesLess]at k
 | [],_::_,_::_,_,_=>by simp[Op.bytesLess]
 |a::x,b::y,c::z,h,k=>by
  rw[nZ]at *
  rcases h with h|⟨rfl,h⟩<;>rcases k with k|⟨rfl,k⟩
  ·exact .inl om
  ·exact .inl h
  ·exact .inl k
  ·exact .inr ⟨rfl,MQ h k⟩
theorem EP:∀(x y:List UInt8),x=y\/Op.bytesLess x y=true\/Op.bytesLess y x=true
 | [],[]=>.inl rfl
 | [],_::_=>.inr (.inl (by simp[Op.bytesLess]))
 |_::_,[]=>.inr (.inr (by simp[Op.bytesLess]))
 |a::x,b::y=>by
  rw[nZ,nZ]
  rcases Dd a.toNat b.toNat with h|h|h
  ·exact .inr (.inl (.inl h))
  ·have e:a=b:=UInt8.toNat_inj.1 h;subst e
   rcases EP x y with g|g|g
   ·exact .inl (by rw[g])
   ·exact .inr (.inl (.inr ⟨rfl,g⟩))
   ·exact .inr (.inr (.inr ⟨rfl,g⟩))
  ·exact .inr (.inr (.inl h))
theorem aLT{x y:List UInt8}:cmpB x y<0↔Op.bytesLess x y=true:=by
 unfold cmpB
 by_cases h1:Op.bytesLess x y=true
 ·simp[h1]
 ·by_cases h2:Op.bytesLess y x=true<;>simp[h1,h2]
theorem BD{x y:List UInt8}:cmpX x y<0↔x.length<y.length\/x.length=y.length/\Op.bytesLess x y=true:=by
 unfold cmpX;simp only[aFd]
 rcases Dd x.length y.length with h|h|h
 ·have e:I8 (x.length:Int) (y.length:Int)= -1:=by unfold I8;rw[if_pos om]
  rw[e];simp[h]
 ·have e:I8 (x.length:Int) (y.length:Int)=0:=by unfold I8;rw[h];simp
  rw[e,if_pos rfl,h]
  by_cases h0:cmpB x y=0
  ·rw[if_pos h0];have:=aLT (x:=x) (y:=y);rw[h0]at this;simp only[true_and,<-this];omega
  ·rw[if_neg h0,aLT];simp
 ·have e:I8 (x.length:Int) (y.length:Int)=1:=by unfold I8;rw[if_neg om,if_pos om]
  rw[e,if_neg om]
  constructor
  ·intro h2;omega
  ·rintro(h2|⟨h2,_⟩)<;>omega
theorem GY(x:List UInt8):¬cmpX x x<0:=by
 rw[BD];rintro(h|⟨_,h⟩)
 ·omega
 ·exact SN _ h
theorem sP{x y z:List UInt8}(h:cmpX x y<0)(k:cmpX y z<0):cmpX x z<0:=by
 rw[BD]at *
 rcases h with h|⟨h1,h⟩<;>rcases k with k|⟨k1,k⟩
 ·exact .inl om
 ·exact .inl om
 ·exact .inl om
 ·exact .inr ⟨by omega,MQ h k⟩
theorem N1(x y:List UInt8):x=y\/cmpX x y<0\/cmpX y x<0:=by
 rw[BD,BD]
 rcases Dd x.length y.length with h|h|h
 ·exact .inr (.inl (.inl h))
 ·rcases EP x y with g|g|g
  ·exact .inl g
  ·exact .inr (.inl (.inr ⟨h,g⟩))
  ·exact .inr (.inr (.inr ⟨h.symm,g⟩))
 ·exact .inr (.inr (.inl h))
theorem aGn{x y:List UInt8}(h:cmpX x y<0):¬cmpX y x<0:=fun k=>GY x (sP h k)
theorem KQ(a b c:List UInt8)(h1:leX a b=true)(h2:leX b c=true):leX a c=true:=by
 unfold leX at *;simp only[Dl,decide_eq_false_iff_not]at *;intro h
 rcases N1 a b with rfl|g|g
 ·exact h2 h
 ·exact h2 (sP h g)
 ·exact h1 g
theorem K0(a b:List UInt8):(leX a b||leX b a)=true:=by
 unfold leX
 by_cases h:cmpX b a<0
 ·have:=aGn h;simp[this]
 ·simp[h]
theorem aBH{a b:List UInt8}(h1:leX a b=true)(h2:leX b a=true):a=b:=by
 unfold leX at *;simp only[Dl,decide_eq_false_iff_not]at *
 rcases N1 a b with g|g|g
 ·exact g
 ·exact(h2 g).elim
 ·exact(h1 g).elim
theorem aPt{a b:List UInt8}(h:cmpX a b<0):leX a b=true:=by
 unfold leX;simp only[Dl,decide_eq_false_iff_not];exact aGn h
theorem aTM{a b:Int}:[D.int .i64 a,.int .i64 b]=ints [a,b]:=rfl
theorem aOc{x y:List UInt8}(h1:¬Op.bytesLess x y=true):(x==y)= !Op.bytesLess y x:=by
 rw[Bool.eq_iff_iff];simp only[Dl,beq_iff_eq]
 rcases EP x y with rfl|g|g
 ·simpa using h1
 ·exact absurd g h1
 ·refine⟨fun e=> ?_,fun e=>by rw[g]at e;cases e⟩;subst e;exact absurd g h1
theorem aDI{E:Env}{t:TypeId}{h:H}{a b:List UInt8}:bW E .gtr t h (.d (.str a)) (.d (.str b))=some (.d (.bool (!(Op.bytesLess a b||a==b))),h):=by simp[bW,aBin]
theorem aMJ{E:Env}{t:TypeId}{h:H}{a b:List UInt8}:bW E .neq t h (.d (.str a)) (.d (.str b))=some (.d (.bool (!(a==b))),h):=by simp[bW,aBin]
theorem Q3{E:Env}{t:TypeId}{h:H}{a b:List UInt8}:bW E .lss t h (.d (.str a)) (.d (.str b))=some (.d (.bool (Op.bytesLess a b)),h):=by simp[bW,aBin]
end Ev
end Go.Proofs.YtppffbehejpglaaGreat
