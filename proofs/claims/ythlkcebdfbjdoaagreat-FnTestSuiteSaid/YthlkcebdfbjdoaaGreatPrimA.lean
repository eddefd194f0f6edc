/-
  slices.Clone as the evaluator answers it.
-/
import Derived.Test.YthlkcebdfbjdoaaGreatEvDraw
import Derived.Test.YthlkcebdfbjdoaaGreatEvPrim
import Derived.Test.YthlkcebdfbjdoaaGreatChecked
import Derived.WalkKit
import Derived.Deep.RegionLaw
import Derived.Shelf.RegionOpenPlain
import Derived.Lib.Walk
import Derived.Lib.SliceRun
set_option linter.unusedSimpArgs false
set_option linter.unusedVariables false
set_option maxRecDepth 100000
set_option maxHeartbeats 2000000
namespace Go.Proofs.YthlkcebdfbjdoaaGreat
namespace Ev
variable{G:Gnd}
open Go.RowKit Go.Lib
theorem E1{P:Program}{w w':World}{ops:Array Oper}{rest:List Oper}{o:Oper}{a:Act}{Q:Exit->Act->World->Prop}(hgd:o.guard=none)(s x:Operand)(t:TypeId)
  (ho:o.op=.call { callee:=.builtin .append,args:=#[s,x],argTypes:=#[t,t]}) {sv xv v:Value} (hs:a.eval s=sv) (hx:a.eval x=xv) (hrun:(Builtin.append_ #[t,t] o.type #[sv,xv]).run P w=.ok v w')
  (h:wpList P ops Q rest (a.put o.dst v) w'):wpList P ops Q (o::rest) a w:=
 wpList_plain hgd fun _ hK=>by
  unfold Oper.wp;simp[execOp,ho,resolve,invoke,builtin,hs,hx,hrun,Result.andThen];exact hK _ _ h
theorem aBp{esz:Nat}{x:A}{xv:Value}{n:Nat}{ds:List D}{h:H}{ρ:Rho}{w:World}{I:Nat->Prop}(he:cB h esz x=some (n,ds))(hns:∀s,x≠.d (.str s))(hz:0<esz)(r:Rel G h ρ w I)(hx:AR h ρ w I x xv):
  ∃a cap,xv=.slice a n cap/\n<=cap/\(a=none->n=0):=by
 unfold cB at he
 split at he
 ·cases he;simp only[AR,DR]at hx
  obtain⟨a,rfl⟩:=hx;exact⟨a,0,rfl,Ab _,fun _=>rfl⟩
 ·split at he
  ·rename_i hl
   cases he;simp only[AR,DR]at hx
   obtain⟨a,cap,rfl,hc,hh⟩:=hx;refine⟨a,cap,rfl,hc,fun ha=> ?_⟩
   rcases hh with hh|⟨b,o,hb,_⟩
   ·rw[hh]at hl
    rcases Cs n with h0|h0
    ·exact h0
    ·have:=Nat.mul_pos h0 hz;simp at hl;omega
   ·rw[ha]at hb;cases hb
  ·cases he
 ·rename_i s;exact absurd rfl (hns s)
 ·rename_i id gen off len
  split at he
  ·rename_i cs e g hid
   split at he
   ·rename_i hc
    cases he;simp only[AR]at hx
    obtain⟨a,cap,rfl,hs⟩:=hx;simp only[slOK,hid]at hs;have h2:=hs.2 hc.1.symm;refine⟨a,cap,rfl,h2.1,fun ha=> ?_⟩;have h3:=h2.2
    split at h3
    ·omega
    ·rcases h3 with h3|h3
     ·omega
     ·rw[ha]at h3;cases h3.1
   ·cases he
  ·rename_i cs e g hid
   split at he
   ·rename_i hc
    cases he;simp only[AR]at hx
    obtain⟨a,cap,rfl,hs⟩:=hx;simp only[slOK,hid]at hs;have h2:=hs.2 hc.1.symm;refine⟨a,cap,rfl,h2.1,fun ha=> ?_⟩
    rcases h2.2 with h3|⟨_,b,hb,_⟩
    ·exact h3
    ·rw[ha]at hb;cases hb
   ·cases he
  ·cases he
 ·cases he
theorem aLb:xU G Tryz.prog 96 (MC 1):=by
 intro k args h x h' he;simp only at he
 split at he
 ·rename_i hk
  subst hk;refine⟨⟨_,Tryz.func96,by kernel_rfl,by kernel_rfl⟩,fun ρ w I vs r ha=> ?_⟩;unfold MC at he
  split at he
  ·cases he
  ·rename_i y hns
   split at he
   ·rename_i n cs hsc
    split at he
    ·rename_i hn
     cases he;obtain⟨xv,rest,rfl,hx,hr⟩:=f0 ha
     simp only[ARv]at hr;subst hr;have hns':∀s,y≠.d (.str s):=fun s hy=>by subst hy;exact hns s rfl
     obtain⟨a,cap,rfl,hcap,hnil⟩:=aBp hsc hns' (by omega) r hx;have hu:=Tryz.underlying24;have q22:∀(w:World) (a:Option Addr) (n c n' c':Nat),(binOp .eql 24 (.slice a n c) (.slice none n' c')).run Tryz.prog w=.ok (.bool a.isNone) w:=fun w a n c n' c'=>Lib.run_eql_slice_nil w _ _ a n c n' c' hu
     by_cases hnone:a.isNone=true
     ·have hn0:n=0:=hnil (by simpa using hnone);subst hn0
      have hs0:cs=[]:=by
       have:=(sV (P:=Tryz.prog) hsc r hx).2.1
       simpa using this
      subst hs0;have s1:=eT r (Grew.refl w) (.arr [] 1 0) none (by simp) (fun _=>by simp[OR,a7])
      have hsl:AR (h++[.arr [] 1 0]) (upd ρ h.length none) w I (.sl h.length 0 0 0) (.slice none 0 0):=by
       simp only[AR];refine⟨none,0,rfl,?_⟩;have e1:(h++[O.arr [] 1 0])[h.length]? =some (.arr [] 1 0):=by simp
       simp only[slOK,e1,a7];simp
      clear hx ha hsc
      go_enter Tryz.func96,Tryz.ntmps96
      go_wp2_with fail
      go_ret
      exact⟨_,rfl,upd ρ h.length none,I,s1,hsl⟩
     ·have hnone':a.isNone=false:=by cases a<;>simp_all
      have s1:=C9 r (Grew.push w (Obj.cells #[] 4));have hx1:=iS s1.ext y _ hx;have hel:cY Tryz.prog 24=some 4:=kr;have hok:eW Tryz.prog 4=true:=kr;have hce:Tryz.prog.cellsOf 4=1:=kr
      have hap:iI Tryz.prog h 24 (.d .nils) y=some (.sl h.length 0 0 n,h++[.arr cs 1 0]):=by
       simp only[iI,hel,hok,hce,hsc,if_true,hn]
      obtain⟨v,ρ',w',I',hrun,st,ar⟩:=yO (P:=Tryz.prog) (ty:=24) hu (fun k hk=>by cases hk) hap s1.rel (sv:=.slice (some ⟨w.heap.size,0,none⟩) 0 0) (by simp only[AR,DR];exact⟨_,rfl⟩) hx1;have fin:=s1.trans st;clear hx ha hsc hx1 s1 st
      go_enter Tryz.func96,Tryz.ntmps96
      go_wp2_with (at_builtin;refine E1 rfl _ _ 24 rfl rfl rfl hrun ?_)
      go_wp2
      go_ret
      exact⟨v,ρ',I',rfl,fin,ar⟩
    ·cases he
   ·cases he
  ·cases he
 ·cases he
theorem aPk:xU G Tryz.prog 97 (MC 1):=by
 intro k args h x h' he;simp only at he
 split at he
 ·rename_i hk
  subst hk;refine⟨⟨_,Tryz.func97,by kernel_rfl,by kernel_rfl⟩,fun ρ w I vs r ha=> ?_⟩;unfold MC at he
  split at he
  ·cases he
  ·rename_i y hns
   split at he
   ·rename_i n cs hsc
    split at he
    ·rename_i hn
     cases he;obtain⟨xv,rest,rfl,hx,hr⟩:=f0 ha
     simp only[ARv]at hr;subst hr;have hns':∀s,y≠.d (.str s):=fun s hy=>by subst hy;exact hns s rfl
     obtain⟨a,cap,rfl,hcap,hnil⟩:=aBp hsc hns' (by omega) r hx;have hu:=Tryz.underlying80;have q22:∀(w:World) (a:Option Addr) (n c n' c':Nat),(binOp .eql 80 (.slice a n c) (.slice none n' c')).run Tryz.prog w=.ok (.bool a.isNone) w:=fun w a n c n' c'=>Lib.run_eql_slice_nil w _ _ a n c n' c' hu
     by_cases hnone:a.isNone=true
     ·have hn0:n=0:=hnil (by simpa using hnone);subst hn0
      have hs0:cs=[]:=by
       have:=(sV (P:=Tryz.prog) hsc r hx).2.1
       simpa using this
      subst hs0;have s1:=eT r (Grew.refl w) (.arr [] 1 0) none (by simp) (fun _=>by simp[OR,a7])
      have hsl:AR (h++[.arr [] 1 0]) (upd ρ h.length none) w I (.sl h.length 0 0 0) (.slice none 0 0):=by
       simp only[AR];refine⟨none,0,rfl,?_⟩;have e1:(h++[O.arr [] 1 0])[h.length]? =some (.arr [] 1 0):=by simp
       simp only[slOK,e1,a7];simp
      clear hx ha hsc
      go_enter Tryz.func97,Tryz.ntmps97
      go_wp2_with fail
      go_ret
      exact⟨_,rfl,upd ρ h.length none,I,s1,hsl⟩
     ·have hnone':a.isNone=false:=by cases a<;>simp_all
      have s1:=C9 r (Grew.push w (Obj.cells #[] 3));have hx1:=iS s1.ext y _ hx;have hel:cY Tryz.prog 80=some 3:=kr;have hok:eW Tryz.prog 3=true:=kr;have hce:Tryz.prog.cellsOf 3=1:=kr
      have hap:iI Tryz.prog h 80 (.d .nils) y=some (.sl h.length 0 0 n,h++[.arr cs 1 0]):=by
       simp only[iI,hel,hok,hce,hsc,if_true,hn]
      obtain⟨v,ρ',w',I',hrun,st,ar⟩:=yO (P:=Tryz.prog) (ty:=80) hu (fun k hk=>by cases hk) hap s1.rel (sv:=.slice (some ⟨w.heap.size,0,none⟩) 0 0) (by simp only[AR,DR];exact⟨_,rfl⟩) hx1;have fin:=s1.trans st;clear hx ha hsc hx1 s1 st
      go_enter Tryz.func97,Tryz.ntmps97
      go_wp2_with (at_builtin;refine E1 rfl _ _ 80 rfl rfl rfl hrun ?_)
      go_wp2
      go_ret
      exact⟨v,ρ',I',rfl,fin,ar⟩
    ·cases he
   ·cases he
  ·cases he
 ·cases he
end Ev
end Go.Proofs.YthlkcebdfbjdoaaGreat
