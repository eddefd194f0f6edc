/-
  The random source opened; arguments of the exchanges that are drawn.
-/
import Derived.Test.YtppdfjdfjfoddaaDoorDrawR
import Derived.Test.YtppdfjdfjfoddaaDoorWrongC
import Derived.Test.YtppdfjdfjfoddaaDoorAutoL
import Derived.Test.YtppdfjdfjfoddaaDoorMemD
set_option linter.unusedSimpArgs false
set_option linter.unusedVariables false
set_option maxRecDepth 8000
set_option maxHeartbeats 4000000
namespace Go.Proofs.YtppdfjdfjfoddaaDoor
namespace Ev
def src (c:List UInt8):List UInt8:=if 2000 < c.length then c.take 2000 else c
theorem aRe (c:List UInt8):(src c).length ≤ 2000:=by
 unfold src; split
 ·rw [List.length_take]; omega
 ·omega
theorem aK1:(env.hint 21).mode = 2:=by kernel_rfl
theorem aRh {L n:Nat} (hn:1 ≤ n) (c0:List UInt8) (hc:c0.length ≤ 4294967296):aA env L n 21 [.d (.ivs c0.length (bH c0))] [] = some (.ptr 0 0 0,[O.box [A.d (D.ivs (src c0).length (bH (src c0))),A.d (D.int .i64 0)]]):=by
 unfold src
 by_cases h:(2000:Int) < c0.length
 ·have h':2000 < c0.length:=by omega
  obtain _ | n:=n; omega
  rw [SD]
  simp only [MM,Tryd.f21,SLM,simprocAttr]
  simp -implicitDefEqProofs (maxSteps:=2000000) (disch:=try exact Dz) only [↓DN,↓kAsg,↓kRet,UP,simprocAttr,h,h']
 ·have h':¬ 2000 < c0.length:=by omega
  obtain _ | n:=n; omega
  rw [SD]
  simp only [MM,Tryd.f21,SLM,simprocAttr]
  simp -implicitDefEqProofs (maxSteps:=2000000) (disch:=try exact Dz) only [↓DN,↓kAsg,↓kRet,UP,simprocAttr,h,h']
theorem aMC {c:List UInt8} (hc:c.length ≤ 2000) (p:Int) (hp:0 ≤ p) (hp2:p ≤ 900000000):∃ (x y q:Int),-10 ≤ x ∧ x ≤ 10 ∧ -10 ≤ y ∧ y ≤ 10 ∧ p ≤ q ∧ q ≤ p + 6 ∧ (Dw 4 32 [] (.tup [.d (.int .i64 x),.d (.int .i64 y)]) c p q):=by
 obtain ⟨x,x0,x1,_,kd1⟩:=jI hc p 4 hp (by omega)
 obtain ⟨y,y0,y1,_,kd2⟩:=jI hc (p + 1) 4 (by omega) (by omega)
 obtain ⟨u,u0,u1,_,kd3⟩:=jI hc (p + 1 + 1) 16 (by omega) (by omega)
 by_cases h0:u = 0
 ·subst h0
  obtain ⟨x2,hx2,kd4⟩:=wD hc [5,6,-1] (by simp) (by simp) (p + 1 + 1 + 1) (by omega) (by omega)
  obtain ⟨v,v0,v1,_,kd5⟩:=jI hc (p + 1 + 1 + 1 + 1) 16 (by omega) (by omega)
  simp only [ints,List.map_cons,List.map_nil,List.length_cons,List.length_nil,Nat.zero_add,Nat.reduceAdd] at kd4
  by_cases h1:v = 0
  ·subst h1
   obtain ⟨y2,hy2,kd6⟩:=wD hc [5,6,-1] (by simp) (by simp) (p + 1 + 1 + 1 + 1 + 1) (by omega) (by omega)
   simp only [ints,List.map_cons,List.map_nil,List.length_cons,List.length_nil,Nat.zero_add,Nat.reduceAdd] at kd6
   simp at hx2 hy2
   refine ⟨x2,y2,p + 1 + 1 + 1 + 1 + 1 + 1,by omega,by omega,by omega,by omega,by omega,by omega,fun R L n hq k hn hL => eF PW rfl rfl ?_⟩
   obtain _ | n:=n; omega
   rw [DF]
   simp only [AO,Tryd.f32,SLM,simprocAttr]
   simp -implicitDefEqProofs (maxSteps:=2000000) (disch:=try exact Dz) only [↓DN,↓kAsg,↓kRet,UP,simprocAttr,↓kd1,↓kd2,↓kd3,↓kd4,↓kd5,↓kd6]
  ·simp at hx2
   refine ⟨x2,y,p + 1 + 1 + 1 + 1 + 1,by omega,by omega,by omega,by omega,by omega,by omega,fun R L n hq k hn hL => eF PW rfl rfl ?_⟩
   obtain _ | n:=n; omega
   rw [DF]
   simp only [AO,Tryd.f32,SLM,simprocAttr]
   simp -implicitDefEqProofs (maxSteps:=2000000) (disch:=try exact Dz) only [↓DN,↓kAsg,↓kRet,UP,simprocAttr,↓kd1,↓kd2,↓kd3,↓kd4,↓kd5,h1]
 ·obtain ⟨v,v0,v1,_,kd5⟩:=jI hc (p + 1 + 1 + 1) 16 (by omega) (by omega)
  by_cases h1:v = 0
  ·subst h1
   obtain ⟨y2,hy2,kd6⟩:=wD hc [5,6,-1] (by simp) (by simp) (p + 1 + 1 + 1 + 1) (by omega) (by omega)
   simp only [ints,List.map_cons,List.map_nil,List.length_cons,List.length_nil,Nat.zero_add,Nat.reduceAdd] at kd6
   simp at hy2
   refine ⟨x,y2,p + 1 + 1 + 1 + 1 + 1,by omega,by omega,by omega,by omega,by omega,by omega,fun R L n hq k hn hL => eF PW rfl rfl ?_⟩
   obtain _ | n:=n; omega
   rw [DF]
   simp only [AO,Tryd.f32,SLM,simprocAttr]
   simp -implicitDefEqProofs (maxSteps:=2000000) (disch:=try exact Dz) only [↓DN,↓kAsg,↓kRet,UP,simprocAttr,↓kd1,↓kd2,↓kd3,h0,↓kd5,↓kd6]
  ·refine ⟨x,y,p + 1 + 1 + 1 + 1,by omega,by omega,by omega,by omega,by omega,by omega,fun R L n hq k hn hL => eF PW rfl rfl ?_⟩
   obtain _ | n:=n; omega
   rw [DF]
   simp only [AO,Tryd.f32,SLM,simprocAttr]
   simp -implicitDefEqProofs (maxSteps:=2000000) (disch:=try exact Dz) only [↓DN,↓kAsg,↓kRet,UP,simprocAttr,↓kd1,↓kd2,↓kd3,h0,↓kd5,h1]
mutual
theorem aDq {f g:Nat → Option Nat} (hfg:∀ k,f k = none → g k = none):∀ a:A,idsA (mapA f a) = [] → mapA g a = mapA f a
 | .d x,_ => by simp only [mapA]
 | .sl id gen off len,h => by
  simp only [mapA] at h ⊢
  cases hf:f id with
  | none => rw [hfg id hf]
  | some m => rw [hf] at h; simp [idsA] at h
 | .ptr id gen off,h => by
  simp only [mapA] at h ⊢
  cases hf:f id with
  | none => rw [hfg id hf]
  | some m => rw [hf] at h; simp [idsA] at h
 | .mp id,h => by
  simp only [mapA] at h ⊢
  cases hf:f id with
  | none => rw [hfg id hf]
  | some m => rw [hf] at h; simp [idsA] at h
 | .clo c caps,h => by simp only [mapA,idsA] at h ⊢; rw [GQ hfg caps h]
 | .agg cs,h => by simp only [mapA,idsA] at h ⊢; rw [GQ hfg cs h]
 | .tup cs,h => by simp only [mapA,idsA] at h ⊢; rw [GQ hfg cs h]
 | .junk,_ => by simp only [mapA]
theorem GQ {f g:Nat → Option Nat} (hfg:∀ k,f k = none → g k = none):∀ l:List A,idsL (aH f l) = [] → aH g l = aH f l
 | [],_ => by simp only [aH]
 | a :: l,h => by
  simp only [aH,idsL,List.append_eq_nil_iff] at h
  simp only [aH]
  rw [aDq hfg a h.1,GQ hfg l h.2]
end
theorem aLq {f:Nat → Option Nat} {a:A} {x:D} (h:mapA f a = .d x):a = .d x:=by
 cases a with
 | d y => simpa [mapA] using h
 | sl id gen off len => simp only [mapA] at h; split at h <;> cases h
 | ptr id gen off => simp only [mapA] at h; split at h <;> cases h
 | mp id => simp only [mapA] at h; split at h <;> cases h
 | clo c caps => simp [mapA] at h
 | agg cs => simp [mapA] at h
 | tup cs => simp [mapA] at h
 | junk => simp [mapA] at h
theorem aQf {f:Nat → Option Nat} {o:O} {c:List UInt8} {q:Int} (h:mapO f o = rdO c q):o = rdO c q:=by
 cases o with
 | box cs =>
  simp only [mapO,O.box.injEq] at h
  match cs,h with
  | [a,b],h =>
   simp only [aH,List.cons.injEq,and_true] at h
   rw [aLq h.1,aLq h.2]
  | [],h => simp [aH] at h
  | [_],h => simp [aH] at h
  | _ :: _ :: _ :: _,h => simp [aH] at h
 | _ => simp [mapO] at h
theorem aKF {L n m:Nat} {f:FuncId} {args:List A} {c:List UInt8} {p q:Int} {r:A} (ha:idsL args = []) (hr:idsA r = [])
  (kd:∀ (R:Type) (L n:Nat) (hq:H) (k:A → H → Option R),m ≤ n → 2 ^ 60 ≤ L → aL env (aA env L n) (rdO c p :: hq) f (.ptr 0 0 0 :: args) k = k r (rdO c q :: hq))
  {R:Type} {hq:H} {k:A → H → Option R} {i:Nat} (hn:m ≤ n) (hL:2 ^ 60 ≤ L) (hi:hq[i]? = some (rdO c p)) :
  aL env (aA env L n) hq f (.ptr i 0 0 :: args) k = k r (hq.set i (rdO c q)):=by
 have h0:=kd (A × H) L n [] (fun a h => some (a,h)) hn hL
 generalize aA env L n = call at h0 ⊢
 have hid:∀ j,idsL (A.ptr j 0 0 :: args) = [j]:=fun j => by simp [idsL,idsA,ha]
 have hre:∀ (h:H) (j:Nat),h[j]? = some (rdO c p) → aF aG h [j] [] = [j]:=by
  intro h j hj
  have e1:aF aG h [j] [] = match h[j]? with
   | some (.box cs) => aF (aG - 1) h ([] ++ idsL cs) ([] ++ [j])
   | some (.vec cs _ _) => aF (aG - 1) h ([] ++ idsL cs) ([] ++ [j])
   | some .void => aF (aG - 1) h [] []
   | some _ => aF (aG - 1) h [] ([] ++ [j])
   | none => aF (aG - 1) h [] []:=rfl
  rw [e1,hj]
  rfl
 have hpk:∀ (h:H) (j:Nat),h[j]? = some (rdO c p) → pack h [j] = [rdO c p]:=by
  intro h j hj
  simp only [pack,List.map_cons,List.map_nil,List.getD_eq_getElem?_getD,hj]
  rfl
 have hma:∀ j,aH (aK [j]) (A.ptr j 0 0 :: args) = A.ptr 0 0 0 :: args:=by
  intro j
  simp only [aH,mK _ ha]
  simp [mapA,aK]
 have hcl:∀ (h:H) (j:Nat),h[j]? = some (rdO c p) → closed h [j] [j] = true:=by
  intro h j hj
  simp only [closed,List.all_cons,List.all_nil,hj]
  simp [idsL,idsA]
 unfold aL at h0 ⊢
 rw [hid,hre hq i hi,hpk hq i hi,hma]
 rw [hid,hre [rdO c p] 0 rfl,hpk [rdO c p] 0 rfl,hma] at h0
 cases hc:dO call env.hint [rdO c p] f (A.ptr 0 0 0 :: args) with
 | none => rw [hc] at h0; simp at h0
 | some y =>
  obtain ⟨a,h1⟩:=y
  rw [hc] at h0
  simp only [hcl [rdO c p] 0 rfl,hcl hq i hi,and_true,List.length_cons,List.length_nil] at h0 ⊢
  split at h0
  ·rename_i hlen
   rw [if_pos hlen]
   simp only [Option.some.injEq,Prod.mk.injEq] at h0
   obtain ⟨g1,g2⟩:=h0
   match h1,hlen,g1,g2 with
   | o :: rest,hlen,g1,g2 =>
    simp only [bG,List.set_cons_zero,List.cons_append,List.nil_append,List.cons.injEq,List.map_eq_nil_iff] at g2
    obtain ⟨g2,rfl⟩:=g2
    have ho:=aQf g2
    subst ho
    have ga:mapA (back [i] hq.length 1) a = r:=by
     rw [aDq (f:=back [0] 1 1) (g:=back [i] hq.length 1) ?_ a (by have:=g1; simp only [List.length_cons,List.length_nil,Nat.zero_add] at this; rw [this]; exact hr)]
     ·simpa using g1
     ·intro j hj
      unfold back at hj ⊢
      by_cases h0:j < [i].length
      ·have:j = 0:=by simp at h0; exact h0
       subst this
       simp at hj
      ·have h0':¬ j < [0].length:=by simpa using h0
       rw [if_neg h0'] at hj
       rw [if_neg h0]
       split at hj
       ·cases hj
       ·rename_i h2; rw [if_neg h2]
    simp only [List.length_cons,List.length_nil,Nat.zero_add]
    rw [ga]
    congr 1
    simp [bG,mapO,aH,mapA]
  ·simp at h0
theorem aNw {R:Type} {L n:Nat} {hq:H} {k:A → H → Option R} (c0:List UInt8) (hn:1 ≤ n) (hc:c0.length ≤ 4294967296):aL env (aA env L n) hq 21 [.d (.ivs c0.length (bH c0))] k = k (.ptr hq.length 0 0) (hq ++ [O.box [A.d (D.ivs (src c0).length (bH (src c0))),A.d (D.int .i64 0)]]):=by
 have he:=aRh (L:=L) hn c0 hc
 unfold aL
 have h1:aF aG hq (idsL [A.d (D.ivs c0.length (bH c0))]) [] = []:=rfl
 have h2:pack hq [] = []:=rfl
 have h3:aH (aK []) [A.d (D.ivs c0.length (bH c0))] = [A.d (D.ivs c0.length (bH c0))]:=rfl
 rw [h1,h2,h3]
 have h4:dO (aA env L n) env.hint [] 21 [A.d (D.ivs c0.length (bH c0))] = some (.ptr 0 0 0,[O.box [A.d (D.ivs (src c0).length (bH (src c0))),A.d (D.int .i64 0)]]):=by
  unfold dO
  rw [aK1]
  have h5:jO ([]:H) [A.d (D.ivs c0.length (bH c0))] = some ([A.d (D.ivs c0.length (bH c0))],[]):=rfl
  simp only [h5,he]
  rfl
 rw [h4]
 have hcl:closed hq [] (idsL [A.d (D.ivs c0.length (bH c0))]) = true:=rfl
 simp only [hcl,List.length_nil,Nat.zero_le,and_self,if_true]
 congr 1
structure AutB (B:Nat) (nx:List (List Int)) (ac:List Bool):Prop where
 n:nx.length ≤ B
 a:ac.length ≤ B
 r:∀ r ∈ nx,r.length ≤ B
theorem AutB.short {B:Nat} {nx:List (List Int)} {ac:List Bool} (h:AutB B nx ac) (hB:B ≤ 4294967000):aX nx:=⟨by have:=h.n; omega,fun r hr => by have:=h.r r hr; omega⟩
theorem AutB.mono {B C:Nat} {nx:List (List Int)} {ac:List Bool} (h:AutB B nx ac) (hB:B ≤ C):AutB C nx ac:=⟨by have:=h.n; omega,by have:=h.a; omega,fun r hr => by have:=h.r r hr; omega⟩
theorem AutB.at {B:Nat} {nx:List (List Int)} {ac:List Bool} (h:AutB B nx ac) (i:Nat):(nx.getD i []).length ≤ B:=by
 rw [List.getD_eq_getElem?_getD]
 cases hg:nx[i]? with
 | none => simp
 | some r => simpa using h.r r (List.mem_of_getElem? hg)
theorem aJc {c:List UInt8} (hc:c.length ≤ 2000) {B:Nat} (hB:B ≤ 4294966000) (al:Int) (nx:List (List Int)) (ac:List Bool) (hb:AutB B nx ac) (h1:1 ≤ nx.length) (p:Int) (hp:0 ≤ p) (hp2:p ≤ 890000000) :
  ∃ (al2:Int) (nx2:List (List Int)) (ac2:List Bool) (q:Int),AutB (B + 13) nx2 ac2 ∧ p ≤ q ∧ q ≤ p + 4 ∧ (Dw 4 51 [autD al nx ac] (autD al2 nx2 ac2) c p q):=by
 have hs:=hb.short (by omega)
 have hn:=hb.n
 have hba:=hb.a
 obtain ⟨k,k0,k1,_,kd1⟩:=jI hc p nx.length hp (by omega)
 obtain ⟨u,u0,u1,_,kd2⟩:=jI hc (p + 1) 30 (by omega) (by omega)
 have k1:=k1 (by omega)
 obtain ⟨t,rfl⟩:∃ t:Nat,k = t:=⟨k.toNat,by omega⟩
 have ht:t < nx.length:=by omega
 have hrt:=hb.at t
 by_cases hu0:u = 0
 ·subst hu0
  obtain ⟨al2,kd⟩:=aIT hc al nx ac hs h1 (by omega) p t hp (by omega) kd1 kd2
  exact ⟨al2,nx,ac,_,hb.mono (by omega),by omega,by omega,kd⟩
 by_cases hu1:u = 1
 ·subst hu1
  refine ⟨al,nx,ac ++ [true],_,⟨by omega,by simp; omega,fun r hr => ?_⟩,by omega,by omega,aIV hc al nx ac hs h1 (by omega) p t kd1 kd2⟩
  have:=hb.r r hr; omega
 by_cases hu2:u = 2
 ·subst hu2
  refine ⟨al,_,ac,_,⟨by rw [List.length_set]; omega,by omega,fun r hr => ?_⟩,by omega,by omega,aHe hc al nx ac hs h1 (by omega) p t ht (by omega) kd1 kd2⟩
  rcases List.mem_or_eq_of_mem_set hr with h | h
  ·have:=hb.r r h; omega
  ·rw [h,List.length_append,List.length_cons,List.length_nil]; omega
 by_cases hu3:u = 3
 ·subst hu3
  by_cases h0:(nx.getD t []).length = 0
  ·exact ⟨al,nx,ac,_,hb.mono (by omega),by omega,by omega,aJw hc al nx ac hs h1 (by omega) p t ht h0 kd1 kd2⟩
  ·obtain ⟨v,v0,v1,_,kd4⟩:=jI hc (p + 1 + 1) (nx.getD t []).length (by omega) (by omega)
   have v1:=v1 (by omega)
   obtain ⟨j,rfl⟩:∃ j:Nat,v = j:=⟨v.toNat,by omega⟩
   obtain ⟨w,kd⟩:=aHm hc al nx ac hs h1 (by omega) p hp (by omega) t ht j (by omega) kd1 kd2 kd4
   refine ⟨al,_,ac,_,⟨by rw [List.length_set]; omega,by omega,fun r hr => ?_⟩,by omega,by omega,kd⟩
   rcases List.mem_or_eq_of_mem_set hr with h | h
   ·have:=hb.r r h; omega
   ·rw [h,List.length_set]; omega
 by_cases hu4:u = 4
 ·subst hu4
  exact ⟨al,[],[],_,⟨by simp,by simp,by simp⟩,by omega,by omega,aFI hc al nx ac hs h1 (by omega) p t kd1 kd2⟩
 by_cases hu5:u = 5
 ·subst hu5
  have h0:nx[0]? = some (nx[0]'(by omega)):=List.getElem?_eq_getElem _
  have hr0:=hb.r _ (List.getElem_mem (by omega:0 < nx.length))
  refine ⟨al,_,_,_,⟨?_,?_,fun r hr => ?_⟩,by omega,by omega,aHj hc al nx ac hs h1 (by omega) (by omega) p t h0 (by omega) (13 - nx.length) (by omega) kd1 kd2⟩
  ·simp; omega
  ·simp; omega
  ·rcases List.mem_append.1 hr with h | h
   ·have:=hb.r r h; omega
   ·obtain ⟨_,rfl⟩:=List.mem_replicate.1 h; omega
 exact ⟨al,nx,ac,_,hb.mono (by omega),by omega,by omega,aGh hc al nx ac hs h1 (by omega) p t u hu0 hu1 hu2 hu3 hu4 hu5 kd1 kd2⟩
theorem aQT:(env.hint 50).mode = 0:=by kernel_rfl
theorem aNh {c:List UInt8} (hc:c.length ≤ 2000) (p:Int) (hp:0 ≤ p) (hp2:p ≤ 900000000):∃ (nx:List (List Int)) (ac:List Bool) (q:Int),nx.length = 12 ∧ ac.length = 12 ∧ (∀ r ∈ nx,r.length = (aE 3).length) ∧ p ≤ q ∧ q ≤ p + 40 ∧ (Dw 3 50 [] (autD 3 nx ac) c p q):=by
 obtain ⟨nx,ac,q,g1,g2,g3,g4,g5,he⟩:=aIY hc p hp hp2
 exact ⟨nx,ac,q,g1,g2,g3,g4,g5,fun R L n hq k hn hL => eF aQT (by simp [idsL,idsA]) (by simp [autD,idsA,idsL]) (he L n hn hL)⟩
theorem aIJ:(env.hint 31).mode = 0:=by kernel_rfl
theorem aNV {c:List UInt8} (hc:c.length ≤ 2000) (p:Int) (hp:0 ≤ p) (hp2:p ≤ 700000000) :
  ∃ (al:Int) (nx:List (List Int)) (ac:List Bool) (q:Int),AutB 30 nx ac ∧ p ≤ q ∧ q ≤ p + 100 ∧ (Dw 16 31 [] (autD al nx ac) c p q):=by
 obtain ⟨v,v0,v1,_,kd1⟩:=jI hc p 12 hp (by omega)
 by_cases hv:v = 0
 ·subst hv
  obtain ⟨nx,ac,q,g1,g2,g3,g4,g5,kd2⟩:=aNh hc (p + 1) (by omega) (by omega)
  refine ⟨3,nx,ac,q,⟨by omega,by omega,fun r hr => ?_⟩,by omega,by omega,fun R L n hq k hn hL => eF aIJ (by simp [idsL,idsA]) (by simp [autD,idsA,idsL]) ?_⟩
  ·have:=g3 r hr; have:=eP 3; omega
  unfold autD at kd2 ⊢
  clear g3
  obtain _ | n:=n; omega
  rw [aA0]
  simp only [UM,Tryd.f31,SLM,simprocAttr]
  simp -implicitDefEqProofs (maxSteps:=2000000) (disch:=try exact Dz) only [↓DN,↓kAsg,↓kRet,UP,simprocAttr,LA,↓kd1,↓kd2]
 ·obtain ⟨al,nx,ac,q,g1,g2,g3,g4,g5,g6,kd2⟩:=aKz hc (p + 1) (by omega) (by omega)
  obtain ⟨al2,nx2,ac2,q2,b2,g7,g8,kd3⟩:=aJc hc (B:=12) (by omega) al nx ac ⟨by omega,by omega,fun r hr => by have:=g4 r hr; have:=eP al; omega⟩ g1 q (by omega) (by omega)
  refine ⟨al2,nx2,ac2,q2,b2.mono (by omega),by omega,by omega,fun R L n hq k hn hL => eF aIJ (by simp [idsL,idsA]) (by simp [autD,idsA,idsL]) ?_⟩
  unfold autD at kd2 kd3 ⊢
  clear g4 b2
  obtain _ | n:=n; omega
  rw [aA0]
  simp only [UM,Tryd.f31,SLM,simprocAttr]
  simp -implicitDefEqProofs (maxSteps:=2000000) (disch:=try exact Dz) only [↓DN,↓kAsg,↓kRet,UP,simprocAttr,LA,hv,↓kd1,↓kd2,↓kd3]
theorem PN (c0:List UInt8) (hc0:c0.length ≤ 4294967296):∃ (al:Int) (nx:List (List Int)) (ac:List Bool) (x y:Int),AutB 30 nx ac ∧ -10 ≤ x ∧ x ≤ 10 ∧ -10 ≤ y ∧ y ≤ 10 ∧ ∀ (R:Type) (L n:Nat) (hq:H) (k:A → H → Option R),18 ≤ n → 2 ^ 60 ≤ L → aL env (aA env L n) hq 12 [.d (.ivs c0.length (bH c0))] k = k (.tup [autD al nx ac,.d (.int .i64 x),.d (.int .i64 y)]) hq:=by
 have hc:=aRe c0
 generalize hcs:src c0 = c at hc
 obtain ⟨al,nx,ac,q,b,g2,g3,kd1⟩:=aNV hc 0 (by omega) (by omega)
 obtain ⟨x,y,q2,x1,x2,y1,y2,q5,q6,kd2⟩:=aMC hc q (by omega) (by omega)
 refine ⟨al,nx,ac,x,y,b,x1,x2,y1,y2,fun R L n hq k hn hL => aV rfl ?_ rfl (.inr rfl)⟩
 have kd_a:=fun {R:Type} {hq:H} {k:A → H → Option R} {i:Nat} {L n:Nat} => @aKF L n _ _ _ _ _ _ _ rfl rfl kd1 R hq k i
 have kd_b:=fun {R:Type} {hq:H} {k:A → H → Option R} {i:Nat} {L n:Nat} => @aKF L n _ _ _ _ _ _ _ rfl rfl kd2 R hq k i
 clear kd1 kd2
 unfold autD at kd_a ⊢
 obtain _ | n:=n; omega
 rw [MT]
 simp only [xZ,Tryd.f12,SLM,simprocAttr]
 simp -implicitDefEqProofs (maxSteps:=2000000) (disch:=try exact Dz) only [↓DN,↓kAsg,↓kRet,UP,simprocAttr,LA,↓aNw,hcs,↓kd_a,↓kd_b]
theorem aHr {R:Type} {L n:Nat} (hn:1 ≤ n) {l:List Int} (hl:l.length ≤ 4294967296) {k:Exit → List A → H → Option R}:∀ (i:Int) (m:Nat) (h0:0 ≤ i) (hi:i ≤ l.length) (hm:(l.length:Int) - i < m),
  aU env (aA env L n) L 0 [] (U2 (Z2 (U2 (Z16 (Z4 ([])))))) (EU 0) (Z2 (U2 (Z2 (U16 (U4 ([])))))) m (.d (.ivs l.length (ints l)) :: .d (.ivs l.length (ints l)) :: Y2 (.d (.bool false) :: .d (.int .i64 i) :: Y16 (Y4 ([])))) [] k
  = k (.exit 0) (.d (.ivs l.length (ints l)) :: .d (.ivs l.length (ints l)) :: Y2 (.d (.bool false) :: .d (.int .i64 (l.length)) :: Y16 (Y4 ([])))) []:=by
 intro i m h0 hi hm
 obtain ⟨j,hj⟩:∃ j:Nat,(j:Int) = (l.length:Int) - i:=⟨((l.length:Int) - i).toNat,by omega⟩
 induction j generalizing i m with
 | zero =>
  obtain _ | m:=m; omega
  obtain rfl:i = l.length:=by omega
  rw [QY]
  simp only [PY,Tryd.f19,SLM,simprocAttr]
  simp -implicitDefEqProofs (maxSteps:=2000000) (disch:=try exact Dz) only [↓DN,↓kAsg,↓kRet,UP,simprocAttr,LA,Int.lt_irrefl]
 | succ j ih =>
  obtain _ | m:=m; omega
  have hc:i < l.length:=by omega
  have hk:i.toNat < l.length:=by omega
  rw [QY]
  simp only [PY,Tryd.f19,SLM,simprocAttr]
  simp -implicitDefEqProofs (maxSteps:=2000000) (disch:=try exact Dz) only [↓DN,↓kAsg,↓kRet,UP,simprocAttr,LA,hc,dL,dY,↓ih]
theorem aEL {L n:Nat} (hn:2 ≤ n) (l:List Int) (hl:l.length ≤ 4294967296) (hL:2 ^ 60 ≤ L):aA env L n 19 [.d (.ivs l.length (ints l)),.d (.ivs l.length (ints l))] [] = some (.d (.bool true),[]):=by
 obtain _ | n:=n; omega
 rw [aKv]
 simp only [aGH,Tryd.f19,SLM,simprocAttr]
 simp -implicitDefEqProofs (maxSteps:=2000000) (disch:=try exact Dz) only [↓DN,↓kAsg,↓kRet,UP,simprocAttr,↓aHr,LA]
theorem yD {R:Type} {L n:Nat} {hq:H} {k:A → H → Option R} (hn:2 ≤ n) (l:List Int) (hl:l.length ≤ 4294967296) (hL:2 ^ 60 ≤ L):aL env (aA env L n) hq 19 [.d (.ivs l.length (ints l)),.d (.ivs l.length (ints l))] k = k (.d (.bool true)) hq :=
 aV rfl (aEL hn l hl hL) rfl (.inl rfl)
theorem xV {R:Type} {L n:Nat} {k:A → Option R} (hn:2 ≤ n) (l:List Int) (hl:l.length ≤ 4294967296) (hL:2 ^ 60 ≤ L):aW (aA env L n) 19 [.d (.ivs l.length (ints l)),.d (.ivs l.length (ints l))] k = k (.d (.bool true)) :=
 kO (aEL hn l hl hL) rfl
theorem r5 {R:Type} {L n:Nat} {hq:H} {k:A → H → Option R} {id0 g0 o0 len0:Nat} {l:List Int}:aL env (aA env L n) hq 19 [.sl id0 g0 o0 len0,.d (.ivs l.length (ints l))] k = match box (a5 hq [.sl id0 g0 o0 len0,.d (.ivs l.length (ints l))]) with
  | .mk (some fs) => aW (aA env L n) 19 fs fun r => k r hq
  | _ => none:=aM vY
theorem rT {R:Type} {L n:Nat} {hq:H} {k:A → H → Option R} {id1 g1 o1 len1:Nat} {l:List Int}:aL env (aA env L n) hq 19 [.d (.ivs l.length (ints l)),.sl id1 g1 o1 len1] k = match box (a5 hq [.d (.ivs l.length (ints l)),.sl id1 g1 o1 len1]) with
  | .mk (some fs) => aW (aA env L n) 19 fs fun r => k r hq
  | _ => none:=aM vY
theorem rZ {R:Type} {L n:Nat} {hq:H} {k:A → H → Option R} {id1 g1 o1 len1:Nat} {id0 g0 o0 len0:Nat} :aL env (aA env L n) hq 19 [.sl id0 g0 o0 len0,.sl id1 g1 o1 len1] k = match box (a5 hq [.sl id0 g0 o0 len0,.sl id1 g1 o1 len1]) with
  | .mk (some fs) => aW (aA env L n) 19 fs fun r => k r hq
  | _ => none:=aM vY
theorem aGl {R:Type} {L n:Nat} (hn:1 ≤ n) {l:List Bool} (hl:l.length ≤ 4294967296) {k:Exit → List A → H → Option R}:∀ (i:Int) (m:Nat) (h0:0 ≤ i) (hi:i ≤ l.length) (hm:(l.length:Int) - i < m),
  aU env (aA env L n) L 0 [] (U2 (Z2 (U2 (Z16 (Z4 ([])))))) (AM 0) (Z2 (U2 (Z2 (U16 (U4 ([])))))) m (.d (.ivs l.length (aB l)) :: .d (.ivs l.length (aB l)) :: Y2 (.d (.bool false) :: .d (.int .i64 i) :: Y16 (Y4 ([])))) [] k
  = k (.exit 0) (.d (.ivs l.length (aB l)) :: .d (.ivs l.length (aB l)) :: Y2 (.d (.bool false) :: .d (.int .i64 (l.length)) :: Y16 (Y4 ([])))) []:=by
 intro i m h0 hi hm
 obtain ⟨j,hj⟩:∃ j:Nat,(j:Int) = (l.length:Int) - i:=⟨((l.length:Int) - i).toNat,by omega⟩
 induction j generalizing i m with
 | zero =>
  obtain _ | m:=m; omega
  obtain rfl:i = l.length:=by omega
  rw [NO]
  simp only [MS,Tryd.f43,SLM,simprocAttr]
  simp -implicitDefEqProofs (maxSteps:=2000000) (disch:=try exact Dz) only [↓DN,↓kAsg,↓kRet,UP,simprocAttr,LA,Int.lt_irrefl]
 | succ j ih =>
  obtain _ | m:=m; omega
  have hc:i < l.length:=by omega
  have hk:i.toNat < l.length:=by omega
  rw [NO]
  simp only [MS,Tryd.f43,SLM,simprocAttr]
  simp -implicitDefEqProofs (maxSteps:=2000000) (disch:=try exact Dz) only [↓DN,↓kAsg,↓kRet,UP,simprocAttr,LA,hc,yH,vX,t9,zM,bne_self_eq_false,↓ih]
theorem aA7 {L n:Nat} (hn:2 ≤ n) (l:List Bool) (hl:l.length ≤ 4294967296) (hL:2 ^ 60 ≤ L):aA env L n 43 [.d (.ivs l.length (aB l)),.d (.ivs l.length (aB l))] [] = some (.d (.bool true),[]):=by
 obtain _ | n:=n; omega
 rw [aI4]
 simp only [aC6,Tryd.f43,SLM,simprocAttr]
 simp -implicitDefEqProofs (maxSteps:=2000000) (disch:=try exact Dz) only [↓DN,↓kAsg,↓kRet,UP,simprocAttr,↓aGl,LA]
theorem PZ {R:Type} {L n:Nat} {hq:H} {k:A → H → Option R} (hn:2 ≤ n) (l:List Bool) (hl:l.length ≤ 4294967296) (hL:2 ^ 60 ≤ L):aL env (aA env L n) hq 43 [.d (.ivs l.length (aB l)),.d (.ivs l.length (aB l))] k = k (.d (.bool true)) hq :=
 aV rfl (aA7 hn l hl hL) rfl (.inl rfl)
theorem P3 {R:Type} {L n:Nat} {k:A → Option R} (hn:2 ≤ n) (l:List Bool) (hl:l.length ≤ 4294967296) (hL:2 ^ 60 ≤ L):aW (aA env L n) 43 [.d (.ivs l.length (aB l)),.d (.ivs l.length (aB l))] k = k (.d (.bool true)) :=
 kO (aA7 hn l hl hL) rfl
theorem JA {R:Type} {L n:Nat} {hq:H} {k:A → H → Option R} {id0 g0 o0 len0:Nat} {l:List Bool}:aL env (aA env L n) hq 43 [.sl id0 g0 o0 len0,.d (.ivs l.length (aB l))] k = match box (a5 hq [.sl id0 g0 o0 len0,.d (.ivs l.length (aB l))]) with
  | .mk (some fs) => aW (aA env L n) 43 fs fun r => k r hq
  | _ => none:=aM tR
theorem HU {R:Type} {L n:Nat} {hq:H} {k:A → H → Option R} {id1 g1 o1 len1:Nat} {l:List Bool}:aL env (aA env L n) hq 43 [.d (.ivs l.length (aB l)),.sl id1 g1 o1 len1] k = match box (a5 hq [.d (.ivs l.length (aB l)),.sl id1 g1 o1 len1]) with
  | .mk (some fs) => aW (aA env L n) 43 fs fun r => k r hq
  | _ => none:=aM tR
theorem IZ {R:Type} {L n:Nat} {hq:H} {k:A → H → Option R} {id1 g1 o1 len1:Nat} {id0 g0 o0 len0:Nat} :aL env (aA env L n) hq 43 [.sl id0 g0 o0 len0,.sl id1 g1 o1 len1] k = match box (a5 hq [.sl id0 g0 o0 len0,.sl id1 g1 o1 len1]) with
  | .mk (some fs) => aW (aA env L n) 43 fs fun r => k r hq
  | _ => none:=aM tR
theorem aAs {R:Type} {L n:Nat} (hn:3 ≤ n) (hL:2 ^ 60 ≤ L) {al:Int} {l:List (List Int)} {ac:List Bool} (hs:aX l) {k:Exit → List A → H → Option R}:∀ (i:Int) (m:Nat) (h0:0 ≤ i) (hi:i ≤ l.length) (hm:(l.length:Int) - i < m),
  aU env (aA env L n) L 0 [] (Z2 (U4 (Z32 (Z8 (Z1 ([])))))) (rN 0) (U2 (Z4 (U32 (U8 (U1 ([])))))) m (Y2 (.ptr 0 0 0 :: .ptr 1 0 0 :: .d (.bool false) :: .d (.int .i64 i) :: Y32 (Y8 (Y1 ([]))))) [.box [.d (.int .i64 al),.d (.ivs l.length (aC l)),.d (.ivs ac.length (aB ac))],.box [.d (.int .i64 al),.d (.ivs l.length (aC l)),.d (.ivs ac.length (aB ac))]] k
  = k (.exit 0) (Y2 (.ptr 0 0 0 :: .ptr 1 0 0 :: .d (.bool false) :: .d (.int .i64 (l.length)) :: Y32 (Y8 (Y1 ([]))))) [.box [.d (.int .i64 al),.d (.ivs l.length (aC l)),.d (.ivs ac.length (aB ac))],.box [.d (.int .i64 al),.d (.ivs l.length (aC l)),.d (.ivs ac.length (aB ac))]]:=by
 intro i m h0 hi hm
 have hl:=hs.1
 obtain ⟨j,hj⟩:∃ j:Nat,(j:Int) = (l.length:Int) - i:=⟨((l.length:Int) - i).toNat,by omega⟩
 induction j generalizing i m with
 | zero =>
  obtain _ | m:=m; omega
  obtain rfl:i = l.length:=by omega
  rw [FQ]
  simp only [CZ,Tryd.f15,SLM,simprocAttr]
  simp -implicitDefEqProofs (maxSteps:=2000000) (disch:=try exact Dz) only [↓DN,↓kAsg,↓kRet,UP,simprocAttr,↓PZ,↓yD,↓P3,↓xV,↓JA,↓HU,↓IZ,↓r5,↓rT,↓rZ,LA,Int.lt_irrefl]
 | succ j ih =>
  obtain _ | m:=m; omega
  have hc:i < l.length:=by omega
  have hk:i.toNat < l.length:=by omega
  have hrow:=tB hs hk
  rw [FQ]
  simp only [CZ,Tryd.f15,SLM,simprocAttr]
  simp -implicitDefEqProofs (maxSteps:=2000000) (disch:=try exact Dz) only [↓DN,↓kAsg,↓kRet,UP,simprocAttr,↓PZ,↓yD,↓P3,↓xV,↓JA,↓HU,↓IZ,↓r5,↓rT,↓rZ,LA,hc,dZ,eN,↓ih]
theorem Q7 {L n:Nat} (hn:4 ≤ n) (al:Int) (rs:List (List Int)) (ac:List Bool) (hs:aX rs) (ha:ac.length ≤ 4294967296) (hL:2 ^ 60 ≤ L):aA env L n 15 [.agg [.d (.int .i64 al),.d (.ivs rs.length (aC rs)),.d (.ivs ac.length (aB ac))],.agg [.d (.int .i64 al),.d (.ivs rs.length (aC rs)),.d (.ivs ac.length (aB ac))]] [] = some (.d (.bool true),[]):=by
 have hl:=hs.1
 obtain _ | n:=n; omega
 rw [aEQ]
 simp only [UK,Tryd.f15,SLM,simprocAttr]
 simp -implicitDefEqProofs (maxSteps:=2000000) (disch:=try exact Dz) only [↓DN,↓kAsg,↓kRet,UP,simprocAttr,↓PZ,↓yD,↓P3,↓xV,↓JA,↓HU,↓IZ,↓r5,↓rT,↓rZ,↓aAs,LA]
theorem wJ {R:Type} {L n:Nat} {hq:H} {k:A → H → Option R} (hn:4 ≤ n) (al:Int) (rs:List (List Int)) (ac:List Bool) (hs:aX rs) (ha:ac.length ≤ 4294967296) (hL:2 ^ 60 ≤ L):aL env (aA env L n) hq 15 [.agg [.d (.int .i64 al),.d (.ivs rs.length (aC rs)),.d (.ivs ac.length (aB ac))],.agg [.d (.int .i64 al),.d (.ivs rs.length (aC rs)),.d (.ivs ac.length (aB ac))]] k = k (.d (.bool true)) hq :=
 aV rfl (Q7 hn al rs ac hs ha hL) rfl (.inl rfl)
theorem E0 {R:Type} {L n:Nat} {k:A → Option R} (hn:4 ≤ n) (al:Int) (rs:List (List Int)) (ac:List Bool) (hs:aX rs) (ha:ac.length ≤ 4294967296) (hL:2 ^ 60 ≤ L):aW (aA env L n) 15 [.agg [.d (.int .i64 al),.d (.ivs rs.length (aC rs)),.d (.ivs ac.length (aB ac))],.agg [.d (.int .i64 al),.d (.ivs rs.length (aC rs)),.d (.ivs ac.length (aB ac))]] k = k (.d (.bool true)) :=
 kO (Q7 hn al rs ac hs ha hL) rfl
theorem zL {R:Type} {L n:Nat} {hq:H} {k:A → H → Option R} {id0 g0 o0 len0:Nat} {al:Int} {rs:List (List Int)} {ac:List Bool}:aL env (aA env L n) hq 15 [.agg [.d (.int .i64 al),.sl id0 g0 o0 len0,.d (.ivs ac.length (aB ac))],.agg [.d (.int .i64 al),.d (.ivs rs.length (aC rs)),.d (.ivs ac.length (aB ac))]] k = match box (a5 hq [.agg [.d (.int .i64 al),.sl id0 g0 o0 len0,.d (.ivs ac.length (aB ac))],.agg [.d (.int .i64 al),.d (.ivs rs.length (aC rs)),.d (.ivs ac.length (aB ac))]]) with
  | .mk (some fs) => aW (aA env L n) 15 fs fun r => k r hq
  | _ => none:=aM c7
theorem zW {R:Type} {L n:Nat} {hq:H} {k:A → H → Option R} {id1 g1 o1 len1:Nat} {al:Int} {rs:List (List Int)} {ac:List Bool}:aL env (aA env L n) hq 15 [.agg [.d (.int .i64 al),.d (.ivs rs.length (aC rs)),.sl id1 g1 o1 len1],.agg [.d (.int .i64 al),.d (.ivs rs.length (aC rs)),.d (.ivs ac.length (aB ac))]] k = match box (a5 hq [.agg [.d (.int .i64 al),.d (.ivs rs.length (aC rs)),.sl id1 g1 o1 len1],.agg [.d (.int .i64 al),.d (.ivs rs.length (aC rs)),.d (.ivs ac.length (aB ac))]]) with
  | .mk (some fs) => aW (aA env L n) 15 fs fun r => k r hq
  | _ => none:=aM c7
theorem AV {R:Type} {L n:Nat} {hq:H} {k:A → H → Option R} {id1 g1 o1 len1:Nat} {id0 g0 o0 len0:Nat} {al:Int} {rs:List (List Int)} {ac:List Bool}:aL env (aA env L n) hq 15 [.agg [.d (.int .i64 al),.sl id0 g0 o0 len0,.sl id1 g1 o1 len1],.agg [.d (.int .i64 al),.d (.ivs rs.length (aC rs)),.d (.ivs ac.length (aB ac))]] k = match box (a5 hq [.agg [.d (.int .i64 al),.sl id0 g0 o0 len0,.sl id1 g1 o1 len1],.agg [.d (.int .i64 al),.d (.ivs rs.length (aC rs)),.d (.ivs ac.length (aB ac))]]) with
  | .mk (some fs) => aW (aA env L n) 15 fs fun r => k r hq
  | _ => none:=aM c7
theorem zZ {R:Type} {L n:Nat} {hq:H} {k:A → H → Option R} {id2 g2 o2 len2:Nat} {al:Int} {rs:List (List Int)} {ac:List Bool}:aL env (aA env L n) hq 15 [.agg [.d (.int .i64 al),.d (.ivs rs.length (aC rs)),.d (.ivs ac.length (aB ac))],.agg [.d (.int .i64 al),.sl id2 g2 o2 len2,.d (.ivs ac.length (aB ac))]] k = match box (a5 hq [.agg [.d (.int .i64 al),.d (.ivs rs.length (aC rs)),.d (.ivs ac.length (aB ac))],.agg [.d (.int .i64 al),.sl id2 g2 o2 len2,.d (.ivs ac.length (aB ac))]]) with
  | .mk (some fs) => aW (aA env L n) 15 fs fun r => k r hq
  | _ => none:=aM c7
theorem y8 {R:Type} {L n:Nat} {hq:H} {k:A → H → Option R} {id2 g2 o2 len2:Nat} {id0 g0 o0 len0:Nat} {al:Int} {ac:List Bool}:aL env (aA env L n) hq 15 [.agg [.d (.int .i64 al),.sl id0 g0 o0 len0,.d (.ivs ac.length (aB ac))],.agg [.d (.int .i64 al),.sl id2 g2 o2 len2,.d (.ivs ac.length (aB ac))]] k = match box (a5 hq [.agg [.d (.int .i64 al),.sl id0 g0 o0 len0,.d (.ivs ac.length (aB ac))],.agg [.d (.int .i64 al),.sl id2 g2 o2 len2,.d (.ivs ac.length (aB ac))]]) with
  | .mk (some fs) => aW (aA env L n) 15 fs fun r => k r hq
  | _ => none:=aM c7
theorem AE {R:Type} {L n:Nat} {hq:H} {k:A → H → Option R} {id2 g2 o2 len2:Nat} {id1 g1 o1 len1:Nat} {al:Int} {rs:List (List Int)} {ac:List Bool}:aL env (aA env L n) hq 15 [.agg [.d (.int .i64 al),.d (.ivs rs.length (aC rs)),.sl id1 g1 o1 len1],.agg [.d (.int .i64 al),.sl id2 g2 o2 len2,.d (.ivs ac.length (aB ac))]] k = match box (a5 hq [.agg [.d (.int .i64 al),.d (.ivs rs.length (aC rs)),.sl id1 g1 o1 len1],.agg [.d (.int .i64 al),.sl id2 g2 o2 len2,.d (.ivs ac.length (aB ac))]]) with
  | .mk (some fs) => aW (aA env L n) 15 fs fun r => k r hq
  | _ => none:=aM c7
theorem zQ {R:Type} {L n:Nat} {hq:H} {k:A → H → Option R} {id2 g2 o2 len2:Nat} {id1 g1 o1 len1:Nat} {id0 g0 o0 len0:Nat} {al:Int} {ac:List Bool}:aL env (aA env L n) hq 15 [.agg [.d (.int .i64 al),.sl id0 g0 o0 len0,.sl id1 g1 o1 len1],.agg [.d (.int .i64 al),.sl id2 g2 o2 len2,.d (.ivs ac.length (aB ac))]] k = match box (a5 hq [.agg [.d (.int .i64 al),.sl id0 g0 o0 len0,.sl id1 g1 o1 len1],.agg [.d (.int .i64 al),.sl id2 g2 o2 len2,.d (.ivs ac.length (aB ac))]]) with
  | .mk (some fs) => aW (aA env L n) 15 fs fun r => k r hq
  | _ => none:=aM c7
theorem AT {R:Type} {L n:Nat} {hq:H} {k:A → H → Option R} {id3 g3 o3 len3:Nat} {al:Int} {rs:List (List Int)} {ac:List Bool}:aL env (aA env L n) hq 15 [.agg [.d (.int .i64 al),.d (.ivs rs.length (aC rs)),.d (.ivs ac.length (aB ac))],.agg [.d (.int .i64 al),.d (.ivs rs.length (aC rs)),.sl id3 g3 o3 len3]] k = match box (a5 hq [.agg [.d (.int .i64 al),.d (.ivs rs.length (aC rs)),.d (.ivs ac.length (aB ac))],.agg [.d (.int .i64 al),.d (.ivs rs.length (aC rs)),.sl id3 g3 o3 len3]]) with
  | .mk (some fs) => aW (aA env L n) 15 fs fun r => k r hq
  | _ => none:=aM c7
theorem z4 {R:Type} {L n:Nat} {hq:H} {k:A → H → Option R} {id3 g3 o3 len3:Nat} {id0 g0 o0 len0:Nat} {al:Int} {rs:List (List Int)} {ac:List Bool}:aL env (aA env L n) hq 15 [.agg [.d (.int .i64 al),.sl id0 g0 o0 len0,.d (.ivs ac.length (aB ac))],.agg [.d (.int .i64 al),.d (.ivs rs.length (aC rs)),.sl id3 g3 o3 len3]] k = match box (a5 hq [.agg [.d (.int .i64 al),.sl id0 g0 o0 len0,.d (.ivs ac.length (aB ac))],.agg [.d (.int .i64 al),.d (.ivs rs.length (aC rs)),.sl id3 g3 o3 len3]]) with
  | .mk (some fs) => aW (aA env L n) 15 fs fun r => k r hq
  | _ => none:=aM c7
theorem wS {R:Type} {L n:Nat} {hq:H} {k:A → H → Option R} {id3 g3 o3 len3:Nat} {id1 g1 o1 len1:Nat} {al:Int} {rs:List (List Int)}:aL env (aA env L n) hq 15 [.agg [.d (.int .i64 al),.d (.ivs rs.length (aC rs)),.sl id1 g1 o1 len1],.agg [.d (.int .i64 al),.d (.ivs rs.length (aC rs)),.sl id3 g3 o3 len3]] k = match box (a5 hq [.agg [.d (.int .i64 al),.d (.ivs rs.length (aC rs)),.sl id1 g1 o1 len1],.agg [.d (.int .i64 al),.d (.ivs rs.length (aC rs)),.sl id3 g3 o3 len3]]) with
  | .mk (some fs) => aW (aA env L n) 15 fs fun r => k r hq
  | _ => none:=aM c7
theorem xM {R:Type} {L n:Nat} {hq:H} {k:A → H → Option R} {id3 g3 o3 len3:Nat} {id1 g1 o1 len1:Nat} {id0 g0 o0 len0:Nat} {al:Int} {rs:List (List Int)}:aL env (aA env L n) hq 15 [.agg [.d (.int .i64 al),.sl id0 g0 o0 len0,.sl id1 g1 o1 len1],.agg [.d (.int .i64 al),.d (.ivs rs.length (aC rs)),.sl id3 g3 o3 len3]] k = match box (a5 hq [.agg [.d (.int .i64 al),.sl id0 g0 o0 len0,.sl id1 g1 o1 len1],.agg [.d (.int .i64 al),.d (.ivs rs.length (aC rs)),.sl id3 g3 o3 len3]]) with
  | .mk (some fs) => aW (aA env L n) 15 fs fun r => k r hq
  | _ => none:=aM c7
theorem xL {R:Type} {L n:Nat} {hq:H} {k:A → H → Option R} {id3 g3 o3 len3:Nat} {id2 g2 o2 len2:Nat} {al:Int} {rs:List (List Int)} {ac:List Bool}:aL env (aA env L n) hq 15 [.agg [.d (.int .i64 al),.d (.ivs rs.length (aC rs)),.d (.ivs ac.length (aB ac))],.agg [.d (.int .i64 al),.sl id2 g2 o2 len2,.sl id3 g3 o3 len3]] k = match box (a5 hq [.agg [.d (.int .i64 al),.d (.ivs rs.length (aC rs)),.d (.ivs ac.length (aB ac))],.agg [.d (.int .i64 al),.sl id2 g2 o2 len2,.sl id3 g3 o3 len3]]) with
  | .mk (some fs) => aW (aA env L n) 15 fs fun r => k r hq
  | _ => none:=aM c7
theorem w6 {R:Type} {L n:Nat} {hq:H} {k:A → H → Option R} {id3 g3 o3 len3:Nat} {id2 g2 o2 len2:Nat} {id0 g0 o0 len0:Nat} {al:Int} {ac:List Bool}:aL env (aA env L n) hq 15 [.agg [.d (.int .i64 al),.sl id0 g0 o0 len0,.d (.ivs ac.length (aB ac))],.agg [.d (.int .i64 al),.sl id2 g2 o2 len2,.sl id3 g3 o3 len3]] k = match box (a5 hq [.agg [.d (.int .i64 al),.sl id0 g0 o0 len0,.d (.ivs ac.length (aB ac))],.agg [.d (.int .i64 al),.sl id2 g2 o2 len2,.sl id3 g3 o3 len3]]) with
  | .mk (some fs) => aW (aA env L n) 15 fs fun r => k r hq
  | _ => none:=aM c7
theorem wZ {R:Type} {L n:Nat} {hq:H} {k:A → H → Option R} {id3 g3 o3 len3:Nat} {id2 g2 o2 len2:Nat} {id1 g1 o1 len1:Nat} {al:Int} {rs:List (List Int)}:aL env (aA env L n) hq 15 [.agg [.d (.int .i64 al),.d (.ivs rs.length (aC rs)),.sl id1 g1 o1 len1],.agg [.d (.int .i64 al),.sl id2 g2 o2 len2,.sl id3 g3 o3 len3]] k = match box (a5 hq [.agg [.d (.int .i64 al),.d (.ivs rs.length (aC rs)),.sl id1 g1 o1 len1],.agg [.d (.int .i64 al),.sl id2 g2 o2 len2,.sl id3 g3 o3 len3]]) with
  | .mk (some fs) => aW (aA env L n) 15 fs fun r => k r hq
  | _ => none:=aM c7
theorem xC {R:Type} {L n:Nat} {hq:H} {k:A → H → Option R} {id3 g3 o3 len3:Nat} {id2 g2 o2 len2:Nat} {id1 g1 o1 len1:Nat} {id0 g0 o0 len0:Nat} {al:Int}:aL env (aA env L n) hq 15 [.agg [.d (.int .i64 al),.sl id0 g0 o0 len0,.sl id1 g1 o1 len1],.agg [.d (.int .i64 al),.sl id2 g2 o2 len2,.sl id3 g3 o3 len3]] k = match box (a5 hq [.agg [.d (.int .i64 al),.sl id0 g0 o0 len0,.sl id1 g1 o1 len1],.agg [.d (.int .i64 al),.sl id2 g2 o2 len2,.sl id3 g3 o3 len3]]) with
  | .mk (some fs) => aW (aA env L n) 15 fs fun r => k r hq
  | _ => none:=aM c7
def badQ (n:Int) (r:List Int) (i:Nat):Bool:=!(decide (0 ≤ r.getD i 0) && decide (r.getD i 0 < n))
def wF (w n:Int) (r:List Int):Bool:=!decide ((r.length:Int) = w) || (seek (badQ n r) r.length 0).isSome
def jT (w n:Int) (rs:List (List Int)) (i:Nat):Bool:=wF w n (rs.getD i [])
def jB (al:Int) (rs:List (List Int)) (ac:List Bool):Bool :=
 eS al && decide ((1:Int) ≤ rs.length) && decide ((rs.length:Int) ≤ 12) && decide ((ac.length:Int) = rs.length) && (seek (jT (aE al).length rs.length rs) rs.length 0).isNone
theorem aGT {w n:Int} {r:List Int} (h:¬ (r.length:Int) = w):wF w n r = true:=by
 unfold wF
 rw [decide_eq_false h]
 rfl
theorem PM {w n:Int} {r:List Int} (h:(r.length:Int) = w):wF w n r = (seek (badQ n r) r.length 0).isSome:=by
 unfold wF
 rw [decide_eq_true h]
 rfl
theorem LD {n:Int} {r:List Int} {i:Nat}:badQ n r i = true ↔ ¬ (0 ≤ r.getD i 0 ∧ r.getD i 0 < n):=by
 unfold badQ
 simp only [Bool.not_eq_true',Bool.and_eq_false_iff,decide_eq_false_iff_not]
 omega
theorem AF {n:Int} {r:List Int} {i:Nat}:badQ n r i = false ↔ (0 ≤ r.getD i 0 ∧ r.getD i 0 < n):=by
 unfold badQ
 simp only [Bool.not_eq_false',Bool.and_eq_true,decide_eq_true_eq]
theorem zP {R:Type} {L nn:Nat} (hn:1 ≤ nn) {n:Int} {r:List Int} (hl:r.length ≤ 4294967296) {k:Exit → List A → H → Option R}:∀ (j:Nat) (i:Int) (m:Nat) (h0:0 ≤ i) (hi:i + j = r.length) (hm:j < m),
  aU env (aA env L nn) L 0 [] (U1 (Z1 (U1 (Z2 (Z1 (U2 (Z16 (Z4 (Z2 (Z1 ([]))))))))))) (A2 0) (Z1 (U1 (Z1 (U2 (U1 (Z2 (U16 (U4 (U2 (U1 ([]))))))))))) m (.d (.ivs r.length (ints r)) :: Y1 (.d (.int .i64 n) :: Y2 (Y1 (.d (.bool false) :: .d (.int .i64 i) :: Y16 (Y4 (Y2 (Y1 ([])))))))) [] k
  = match seek (badQ n r) j i.toNat with
   | none => k (.exit 0) (.d (.ivs r.length (ints r)) :: Y1 (.d (.int .i64 n) :: Y2 (Y1 (.d (.bool false) :: .d (.int .i64 (r.length)) :: Y16 (Y4 (Y2 (Y1 ([])))))))) []
   | some q => k .ret (.d (.ivs r.length (ints r)) :: Y1 (.d (.int .i64 n) :: Y2 (Y1 (.d (.bool false) :: .d (.int .i64 q) :: Y16 (Y4 (Y2 (Y1 ([])))))))) []:=by
 intro j
 induction j with
 | zero =>
  intro i m h0 hi hm
  obtain _ | m:=m; omega
  obtain rfl:i = r.length:=by omega
  rw [uO]
  simp only [vU,Tryd.f56,SLM,simprocAttr]
  simp -implicitDefEqProofs (maxSteps:=2000000) (disch:=try exact Dz) only [↓DN,↓kAsg,↓kRet,UP,simprocAttr,LA,Int.lt_irrefl]
  rfl
 | succ j ih =>
  intro i m h0 hi hm
  obtain _ | m:=m; omega
  have hc:i < r.length:=by omega
  have hk:i.toNat < r.length:=by omega
  have e1:(i + 1).toNat = i.toNat + 1:=by omega
  have e3:((i.toNat:Nat):Int) = i:=by omega
  by_cases h1:r.getD i.toNat 0 < 0
  ·have hb:badQ n r i.toNat = true:=by rw [LD]; omega
   rw [CY hb]
   rw [uO]
   simp only [vU,Tryd.f56,SLM,simprocAttr]
   simp -implicitDefEqProofs (maxSteps:=2000000) (disch:=try exact Dz) only [↓DN,↓kAsg,↓kRet,UP,simprocAttr,LA,dL,dY,hc,h1,e3]
  ·by_cases h2:n ≤ r.getD i.toNat 0
   ·have hb:badQ n r i.toNat = true:=by rw [LD]; omega
    rw [CY hb]
    rw [uO]
    simp only [vU,Tryd.f56,SLM,simprocAttr]
    simp -implicitDefEqProofs (maxSteps:=2000000) (disch:=try exact Dz) only [↓DN,↓kAsg,↓kRet,UP,simprocAttr,LA,dL,dY,hc,h1,h2,e3]
   ·have hb:badQ n r i.toNat = false:=by rw [AF]; omega
    rw [O8 hb]
    rw [uO]
    simp only [vU,Tryd.f56,SLM,simprocAttr]
    simp -implicitDefEqProofs (maxSteps:=2000000) (disch:=try exact Dz) only [↓DN,↓kAsg,↓kRet,UP,simprocAttr,LA,dL,dY,hc,h1,h2,↓ih,e1]
theorem aB7 {L n:Nat} (hn:2 ≤ n) (r:List Int) (w q:Int) (hl:r.length ≤ 4294967296) (hL:2 ^ 60 ≤ L):aA env L n 56 [.d (.ivs r.length (ints r)),.d (.int .i64 w),.d (.int .i64 q)] [] = some (.d (.bool (!wF w q r)),[]):=by
 unfold wF
 by_cases h1:(r.length:Int) = w
 ·have loop_a:=fun {R:Type} {n:Nat} (hn:1 ≤ n) {k:Exit → List A → H → Option R} => zP (R:=R) (L:=L) (nn:=n) hn (n:=q) hl (k:=k) r.length 0 L (by omega) (by omega) (by omega)
  simp only [Int.toNat_zero] at loop_a
  cases hs:seek (badQ q r) r.length 0 with
  | none =>
   rw [hs] at loop_a
   obtain _ | n:=n; omega
   rw [PF]
   simp only [KN,Tryd.f56,SLM,simprocAttr]
   simp -implicitDefEqProofs (maxSteps:=2000000) (disch:=try exact Dz) only [↓DN,↓kAsg,↓kRet,UP,simprocAttr,↓zP,LA,h1,↓loop_a,hs]
  | some z =>
   rw [hs] at loop_a
   obtain _ | n:=n; omega
   rw [PF]
   simp only [KN,Tryd.f56,SLM,simprocAttr]
   simp -implicitDefEqProofs (maxSteps:=2000000) (disch:=try exact Dz) only [↓DN,↓kAsg,↓kRet,UP,simprocAttr,↓zP,LA,h1,↓loop_a,hs]
 ·obtain _ | n:=n; omega
  rw [PF]
  simp only [KN,Tryd.f56,SLM,simprocAttr]
  simp -implicitDefEqProofs (maxSteps:=2000000) (disch:=try exact Dz) only [↓DN,↓kAsg,↓kRet,UP,simprocAttr,↓zP,LA,h1]
theorem nQ {R:Type} {L n:Nat} {hq:H} {k:A → H → Option R} (hn:2 ≤ n) (r:List Int) (w q:Int) (hl:r.length ≤ 4294967296) (hL:2 ^ 60 ≤ L):aL env (aA env L n) hq 56 [.d (.ivs r.length (ints r)),.d (.int .i64 w),.d (.int .i64 q)] k = k (.d (.bool (!wF w q r))) hq :=
 aV rfl (aB7 hn r w q hl hL) rfl (.inl rfl)
theorem nR {R:Type} {L n:Nat} {k:A → Option R} (hn:2 ≤ n) (r:List Int) (w q:Int) (hl:r.length ≤ 4294967296) (hL:2 ^ 60 ≤ L):aW (aA env L n) 56 [.d (.ivs r.length (ints r)),.d (.int .i64 w),.d (.int .i64 q)] k = k (.d (.bool (!wF w q r))) :=
 kO (aB7 hn r w q hl hL) rfl
theorem kL {R:Type} {L n:Nat} {hq:H} {k:A → H → Option R} {id0 g0 o0 len0:Nat} {w q:Int}:aL env (aA env L n) hq 56 [.sl id0 g0 o0 len0,.d (.int .i64 w),.d (.int .i64 q)] k = match box (a5 hq [.sl id0 g0 o0 len0,.d (.int .i64 w),.d (.int .i64 q)]) with
  | .mk (some fs) => aW (aA env L n) 56 fs fun r => k r hq
  | _ => none:=aM I9
theorem gF {R:Type} {L n:Nat} (hL:2 ^ 60 ≤ L) (hn:3 ≤ n) {al:Int} {rs:List (List Int)} {ac:List Bool} (hs:aX rs) {k:Exit → List A → H → Option R}:∀ (j:Nat) (i:Int) (m:Nat) (h0:0 ≤ i) (hi:i + j = rs.length) (hm:j < m),
  aU env (aA env L n) L 0 [] (Z1 (U4 (Z32 (Z4 (Z2 (Z1 ([]))))))) (lX 0) (U1 (Z4 (U32 (U4 (U2 (U1 ([]))))))) m (Y1 (.ptr 0 0 0 :: .d (.bool false) :: .d (.int .i64 (rs.length)) :: .d (.int .i64 i) :: Y32 (Y4 (Y2 (Y1 ([])))))) [.box [.d (.int .i64 al),.d (.ivs rs.length (aC rs)),.d (.ivs ac.length (aB ac))]] k
  = match seek (jT (aE al).length rs.length rs) j i.toNat with
   | none => k (.exit 0) (Y1 (.ptr 0 0 0 :: .d (.bool false) :: .d (.int .i64 (rs.length)) :: .d (.int .i64 (rs.length)) :: Y32 (Y4 (Y2 (Y1 ([])))))) [.box [.d (.int .i64 al),.d (.ivs rs.length (aC rs)),.d (.ivs ac.length (aB ac))]]
   | some q => k .ret (Y1 (.ptr 0 0 0 :: .d (.bool false) :: .d (.int .i64 (rs.length)) :: .d (.int .i64 q) :: Y32 (Y4 (Y2 (Y1 ([])))))) [.box [.d (.int .i64 al),.d (.ivs rs.length (aC rs)),.d (.ivs ac.length (aB ac))]]:=by
 intro j
 have hrl:=hs.1
 have hll:=eP al
 induction j with
 | zero =>
  intro i m h0 hi hm
  obtain _ | m:=m; omega
  obtain rfl:i = rs.length:=by omega
  rw [oL]
  simp only [nO,Tryd.f24,SLM,simprocAttr]
  simp -implicitDefEqProofs (maxSteps:=2000000) (disch:=try exact Dz) only [↓DN,↓kAsg,↓kRet,UP,simprocAttr,↓dN,↓bK,↓nQ,↓nR,↓kL,LA,Int.lt_irrefl]
  rfl
 | succ j ih =>
  intro i m h0 hi hm
  obtain _ | m:=m; omega
  have hc:i < rs.length:=by omega
  have hk:i.toNat < rs.length:=by omega
  have hrow:=tB hs hk
  have e1:(i + 1).toNat = i.toNat + 1:=by omega
  have e3:((i.toNat:Nat):Int) = i:=by omega
  cases hb:jT (aE al).length rs.length rs i.toNat with
  | true =>
   rw [CY hb]
   unfold jT at hb
   rw [oL]
   simp only [nO,Tryd.f24,SLM,simprocAttr]
   simp -implicitDefEqProofs (maxSteps:=2000000) (disch:=try exact Dz) only [↓DN,↓kAsg,↓kRet,UP,simprocAttr,↓dN,↓bK,↓nQ,↓nR,↓kL,LA,dZ,eN,hc,hb,e3]
  | false =>
   rw [O8 hb]
   unfold jT at hb
   rw [oL]
   simp only [nO,Tryd.f24,SLM,simprocAttr]
   simp -implicitDefEqProofs (maxSteps:=2000000) (disch:=try exact Dz) only [↓DN,↓kAsg,↓kRet,UP,simprocAttr,↓dN,↓bK,↓nQ,↓nR,↓kL,LA,dZ,eN,hc,hb,↓ih,e1]
theorem BG {L n:Nat} (hn:4 ≤ n) (al:Int) (rs:List (List Int)) (ac:List Bool) (hs:aX rs) (ha:ac.length ≤ 4294967296) (hL:2 ^ 60 ≤ L):aA env L n 24 [.agg [.d (.int .i64 al),.d (.ivs rs.length (aC rs)),.d (.ivs ac.length (aB ac))]] [] = some (.d (.bool (jB al rs ac)),[]):=by
 have hrl:=hs.1
 have loop_a:=fun {R:Type} {n:Nat} (hn:3 ≤ n) {k:Exit → List A → H → Option R} => gF (R:=R) (L:=L) hL hn (al:=al) (ac:=ac) hs (k:=k) rs.length 0 L (by omega) (by omega) (by omega)
 simp only [Int.toNat_zero] at loop_a
 unfold jB
 cases hq:eS al with
 | false =>
  obtain _ | n:=n; omega
  rw [jH]
  simp only [iN,Tryd.f24,SLM,simprocAttr]
  simp -implicitDefEqProofs (maxSteps:=2000000) (disch:=try exact Dz) only [↓DN,↓kAsg,↓kRet,UP,simprocAttr,↓dN,↓bK,↓nQ,↓nR,↓kL,↓gF,LA,hq,Bool.false_and]
 | true =>
  by_cases h1:(1:Int) ≤ rs.length
  ·have n1:¬ (rs.length:Int) < 1:=by omega
   by_cases h2:(rs.length:Int) ≤ 12
   ·have n2:¬ (12:Int) < rs.length:=by omega
    by_cases h3:(ac.length:Int) = rs.length
    ·cases hk:seek (jT (aE al).length rs.length rs) rs.length 0 with
     | none =>
      rw [hk] at loop_a
      obtain _ | n:=n; omega
      rw [jH]
      simp only [iN,Tryd.f24,SLM,simprocAttr]
      simp -implicitDefEqProofs (maxSteps:=2000000) (disch:=try exact Dz) only [↓DN,↓kAsg,↓kRet,UP,simprocAttr,↓dN,↓bK,↓nQ,↓nR,↓kL,↓gF,LA,hq,h1,n1,h2,n2,h3,hk,↓loop_a]
     | some z =>
      rw [hk] at loop_a
      obtain _ | n:=n; omega
      rw [jH]
      simp only [iN,Tryd.f24,SLM,simprocAttr]
      simp -implicitDefEqProofs (maxSteps:=2000000) (disch:=try exact Dz) only [↓DN,↓kAsg,↓kRet,UP,simprocAttr,↓dN,↓bK,↓nQ,↓nR,↓kL,↓gF,LA,hq,h1,n1,h2,n2,h3,hk,↓loop_a,Bool.and_false]
    ·obtain _ | n:=n; omega
     rw [jH]
     simp only [iN,Tryd.f24,SLM,simprocAttr]
     simp -implicitDefEqProofs (maxSteps:=2000000) (disch:=try exact Dz) only [↓DN,↓kAsg,↓kRet,UP,simprocAttr,↓dN,↓bK,↓nQ,↓nR,↓kL,↓gF,LA,hq,h1,n1,h2,n2,h3,Bool.false_and,Bool.and_false]
   ·have n2:(12:Int) < rs.length:=by omega
    obtain _ | n:=n; omega
    rw [jH]
    simp only [iN,Tryd.f24,SLM,simprocAttr]
    simp -implicitDefEqProofs (maxSteps:=2000000) (disch:=try exact Dz) only [↓DN,↓kAsg,↓kRet,UP,simprocAttr,↓dN,↓bK,↓nQ,↓nR,↓kL,↓gF,LA,hq,h1,n1,h2,n2,Bool.false_and,Bool.and_false]
  ·have n1:(rs.length:Int) < 1:=by omega
   obtain _ | n:=n; omega
   rw [jH]
   simp only [iN,Tryd.f24,SLM,simprocAttr]
   simp -implicitDefEqProofs (maxSteps:=2000000) (disch:=try exact Dz) only [↓DN,↓kAsg,↓kRet,UP,simprocAttr,↓dN,↓bK,↓nQ,↓nR,↓kL,↓gF,LA,hq,h1,n1,Bool.false_and,Bool.and_false]
theorem eZ {R:Type} {L n:Nat} {hq:H} {k:A → H → Option R} (hn:4 ≤ n) (al:Int) (rs:List (List Int)) (ac:List Bool) (hs:aX rs) (ha:ac.length ≤ 4294967296) (hL:2 ^ 60 ≤ L):aL env (aA env L n) hq 24 [.agg [.d (.int .i64 al),.d (.ivs rs.length (aC rs)),.d (.ivs ac.length (aB ac))]] k = k (.d (.bool (jB al rs ac))) hq :=
 aV rfl (BG hn al rs ac hs ha hL) rfl (.inl rfl)
theorem eY {R:Type} {L n:Nat} {k:A → Option R} (hn:4 ≤ n) (al:Int) (rs:List (List Int)) (ac:List Bool) (hs:aX rs) (ha:ac.length ≤ 4294967296) (hL:2 ^ 60 ≤ L):aW (aA env L n) 24 [.agg [.d (.int .i64 al),.d (.ivs rs.length (aC rs)),.d (.ivs ac.length (aB ac))]] k = k (.d (.bool (jB al rs ac))) :=
 kO (BG hn al rs ac hs ha hL) rfl
theorem eA {R:Type} {L n:Nat} {hq:H} {k:A → H → Option R} {id0 g0 o0 len0:Nat} {al:Int} {ac:List Bool}:aL env (aA env L n) hq 24 [.agg [.d (.int .i64 al),.sl id0 g0 o0 len0,.d (.ivs ac.length (aB ac))]] k = match box (a5 hq [.agg [.d (.int .i64 al),.sl id0 g0 o0 len0,.d (.ivs ac.length (aB ac))]]) with
  | .mk (some fs) => aW (aA env L n) 24 fs fun r => k r hq
  | _ => none:=aM j5
theorem eD {R:Type} {L n:Nat} {hq:H} {k:A → H → Option R} {id1 g1 o1 len1:Nat} {al:Int} {rs:List (List Int)}:aL env (aA env L n) hq 24 [.agg [.d (.int .i64 al),.d (.ivs rs.length (aC rs)),.sl id1 g1 o1 len1]] k = match box (a5 hq [.agg [.d (.int .i64 al),.d (.ivs rs.length (aC rs)),.sl id1 g1 o1 len1]]) with
  | .mk (some fs) => aW (aA env L n) 24 fs fun r => k r hq
  | _ => none:=aM j5
theorem eB {R:Type} {L n:Nat} {hq:H} {k:A → H → Option R} {id1 g1 o1 len1:Nat} {id0 g0 o0 len0:Nat} {al:Int}:aL env (aA env L n) hq 24 [.agg [.d (.int .i64 al),.sl id0 g0 o0 len0,.sl id1 g1 o1 len1]] k = match box (a5 hq [.agg [.d (.int .i64 al),.sl id0 g0 o0 len0,.sl id1 g1 o1 len1]]) with
  | .mk (some fs) => aW (aA env L n) 24 fs fun r => k r hq
  | _ => none:=aM j5
theorem cZ {R:Type} {L n:Nat} (hL:2 ^ 60 ≤ L) (hn:3 ≤ n) {al q w:Int} {rs:List (List Int)} {ac:List Bool} (hs:aX rs) {r:List Int} (hr:r.length ≤ 4294967296) {k:Exit → List A → H → Option R}:∀ (j:Nat) (i:Int) (m:Nat) (h0:0 ≤ i) (hi:i + j = r.length) (hm:j < m),
  aU env (aA env L n) L 0 [] (Z1 (U2 (U1 (Z32 (Z2 (U2 (U1 (Z4 (Z2 (Z1 (U2 (U1 (Z8 (Z4 (Z2 ([])))))))))))))))) (eX 1) (U1 (Z2 (Z1 (U32 (U2 (Z2 (Z1 (U4 (U2 (U1 (Z2 (Z1 (U8 (U4 (U2 ([])))))))))))))))) m (Y1 (.ptr 0 0 0 :: .d (.bool false) :: .d (.int .i64 w) :: Y32 (Y2 (.d (.ivs rs.length (aC rs)) :: .d (.int .i64 (rs.length)) :: .d (.int .i64 q) :: Y4 (Y2 (Y1 (.d (.ivs r.length (ints r)) :: .d (.int .i64 (r.length)) :: .d (.int .i64 i) :: Y8 (Y4 (Y2 ([])))))))))) [.box [.d (.int .i64 al),.d (.ivs rs.length (aC rs)),.d (.ivs ac.length (aB ac))]] k
  = match seek (badQ rs.length r) j i.toNat with
   | none => k (.exit 2) (Y1 (.ptr 0 0 0 :: .d (.bool false) :: .d (.int .i64 w) :: Y32 (Y2 (.d (.ivs rs.length (aC rs)) :: .d (.int .i64 (rs.length)) :: .d (.int .i64 q) :: Y4 (Y2 (Y1 (.d (.ivs r.length (ints r)) :: .d (.int .i64 (r.length)) :: .d (.int .i64 (r.length)) :: Y8 (Y4 (Y2 ([])))))))))) [.box [.d (.int .i64 al),.d (.ivs rs.length (aC rs)),.d (.ivs ac.length (aB ac))]]
   | some z => k .ret (Y1 (.ptr 0 0 0 :: .d (.bool false) :: .d (.int .i64 w) :: Y32 (Y2 (.d (.ivs rs.length (aC rs)) :: .d (.int .i64 (rs.length)) :: .d (.int .i64 q) :: Y4 (Y2 (Y1 (.d (.ivs r.length (ints r)) :: .d (.int .i64 (r.length)) :: .d (.int .i64 z) :: Y8 (Y4 (Y2 ([])))))))))) [.box [.d (.int .i64 al),.d (.ivs rs.length (aC rs)),.d (.ivs ac.length (aB ac))]]:=by
 intro j
 have hrl:=hs.1
 induction j with
 | zero =>
  intro i m h0 hi hm
  obtain _ | m:=m; omega
  obtain rfl:i = r.length:=by omega
  rw [lL]
  simp only [kT,Tryd.f9,SLM,simprocAttr]
  simp -implicitDefEqProofs (maxSteps:=2000000) (disch:=try exact Dz) only [↓DN,↓kAsg,↓kRet,UP,simprocAttr,↓b7,↓aQ,LA,Int.lt_irrefl]
  rfl
 | succ j ih =>
  intro i m h0 hi hm
  obtain _ | m:=m; omega
  have hc:i < r.length:=by omega
  have hk:i.toNat < r.length:=by omega
  have e1:(i + 1).toNat = i.toNat + 1:=by omega
  have e3:((i.toNat:Nat):Int) = i:=by omega
  by_cases h1:r.getD i.toNat 0 < 0
  ·have hb:badQ rs.length r i.toNat = true:=by rw [LD]; omega
   rw [CY hb]
   rw [lL]
   simp only [kT,Tryd.f9,SLM,simprocAttr]
   simp -implicitDefEqProofs (maxSteps:=2000000) (disch:=try exact Dz) only [↓DN,↓kAsg,↓kRet,UP,simprocAttr,↓b7,↓aQ,LA,dL,dY,hc,h1,e3]
  ·by_cases h2:(rs.length:Int) ≤ r.getD i.toNat 0
   ·have hb:badQ rs.length r i.toNat = true:=by rw [LD]; omega
    rw [CY hb]
    rw [lL]
    simp only [kT,Tryd.f9,SLM,simprocAttr]
    simp -implicitDefEqProofs (maxSteps:=2000000) (disch:=try exact Dz) only [↓DN,↓kAsg,↓kRet,UP,simprocAttr,↓b7,↓aQ,LA,dL,dY,hc,h1,h2,e3]
   ·have hb:badQ rs.length r i.toNat = false:=by rw [AF]; omega
    rw [O8 hb]
    rw [lL]
    simp only [kT,Tryd.f9,SLM,simprocAttr]
    simp -implicitDefEqProofs (maxSteps:=2000000) (disch:=try exact Dz) only [↓DN,↓kAsg,↓kRet,UP,simprocAttr,↓b7,↓aQ,LA,dL,dY,hc,h1,h2,↓ih,e1]
theorem fG {R:Type} {L n:Nat} (hL:2 ^ 60 ≤ L) (hn:3 ≤ n) {al:Int} {rs:List (List Int)} {ac:List Bool} (hs:aX rs) {k:Exit → List A → H → Option R}:∀ (j:Nat) (i:Int) (m:Nat) (h0:0 ≤ i) (hi:i + j = rs.length) (hm:j < m),
  aU env (aA env L n) L 0 [] (Z1 (U2 (U1 (Z32 (Z2 (U2 (U1 (Z4 (Z2 (Z1 (U2 (U1 (Z8 (Z4 (Z2 ([])))))))))))))))) (eX 0) (U1 (Z2 (Z1 (U32 (U2 (Z2 (Z1 (U16 (U8 ([])))))))))) m (Y1 (.ptr 0 0 0 :: .d (.bool false) :: .d (.int .i64 ((aE al).length)) :: Y32 (Y2 (.d (.ivs rs.length (aC rs)) :: .d (.int .i64 (rs.length)) :: .d (.int .i64 i) :: Y16 (Y8 ([])))))) [.box [.d (.int .i64 al),.d (.ivs rs.length (aC rs)),.d (.ivs ac.length (aB ac))]] k
  = match seek (jT (aE al).length rs.length rs) j i.toNat with
   | none => k (.exit 0) (Y1 (.ptr 0 0 0 :: .d (.bool false) :: .d (.int .i64 ((aE al).length)) :: Y32 (Y2 (.d (.ivs rs.length (aC rs)) :: .d (.int .i64 (rs.length)) :: .d (.int .i64 (rs.length)) :: Y16 (Y8 ([])))))) [.box [.d (.int .i64 al),.d (.ivs rs.length (aC rs)),.d (.ivs ac.length (aB ac))]]
   | some q => k .ret (Y1 (.ptr 0 0 0 :: .d (.bool false) :: .d (.int .i64 ((aE al).length)) :: Y32 (Y2 (.d (.ivs rs.length (aC rs)) :: .d (.int .i64 (rs.length)) :: .d (.int .i64 q) :: Y16 (Y8 ([])))))) [.box [.d (.int .i64 al),.d (.ivs rs.length (aC rs)),.d (.ivs ac.length (aB ac))]]:=by
 intro j
 have hrl:=hs.1
 have hll:=eP al
 induction j with
 | zero =>
  intro i m h0 hi hm
  obtain _ | m:=m; omega
  obtain rfl:i = rs.length:=by omega
  rw [lM]
  simp only [kQ,Tryd.f9,SLM,simprocAttr]
  simp -implicitDefEqProofs (maxSteps:=2000000) (disch:=try exact Dz) only [↓DN,↓kAsg,↓kRet,UP,simprocAttr,↓b7,↓aQ,↓cZ,LA,Int.lt_irrefl]
  rfl
 | succ j ih =>
  intro i m h0 hi hm
  obtain _ | m:=m; omega
  have hc:i < rs.length:=by omega
  have hk:i.toNat < rs.length:=by omega
  have hrow:=tB hs hk
  have e1:(i + 1).toNat = i.toNat + 1:=by omega
  have e3:((i.toNat:Nat):Int) = i:=by omega
  have loop_a:=fun {R:Type} {k:Exit → List A → H → Option R} => cZ (R:=R) (n:=n) (L:=L) hL hn (al:=al) (q:=i) (w:=(aE al).length) (ac:=ac) hs hrow (k:=k) (rs.getD i.toNat []).length 0 L (by omega) (by omega) (by omega)
  simp only [Int.toNat_zero] at loop_a
  cases hb:jT (aE al).length rs.length rs i.toNat with
  | true =>
   rw [CY hb]
   unfold jT at hb
   by_cases hw:((rs.getD i.toNat []).length:Int) = (aE al).length
   ·have hwd:decide (((rs.getD i.toNat []).length:Int) = (aE al).length) = true:=decide_eq_true hw
    cases hz:seek (badQ rs.length (rs.getD i.toNat [])) (rs.getD i.toNat []).length 0 with
    | none => rw [PM hw,hz] at hb; cases hb
    | some z =>
     rw [hz] at loop_a
     clear ih hb
     rw [lM]
     simp only [kQ,Tryd.f9,SLM,simprocAttr]
     simp -implicitDefEqProofs (maxSteps:=2000000) (disch:=try exact Dz) only [↓DN,↓kAsg,↓kRet,UP,simprocAttr,↓b7,↓aQ,↓cZ,LA,dZ,eN,hc,hwd,↓loop_a,e3]
   ·clear ih hb loop_a
    rw [lM]
    simp only [kQ,Tryd.f9,SLM,simprocAttr]
    simp -implicitDefEqProofs (maxSteps:=2000000) (disch:=try exact Dz) only [↓DN,↓kAsg,↓kRet,UP,simprocAttr,↓b7,↓aQ,↓cZ,LA,dZ,eN,hc,hw,e3]
  | false =>
   rw [O8 hb]
   unfold jT at hb
   by_cases hw:((rs.getD i.toNat []).length:Int) = (aE al).length
   ·have hwd:decide (((rs.getD i.toNat []).length:Int) = (aE al).length) = true:=decide_eq_true hw
    cases hz:seek (badQ rs.length (rs.getD i.toNat [])) (rs.getD i.toNat []).length 0 with
    | none =>
     rw [hz] at loop_a
     clear hb
     rw [lM]
     simp only [kQ,Tryd.f9,SLM,simprocAttr]
     simp -implicitDefEqProofs (maxSteps:=2000000) (disch:=try exact Dz) only [↓DN,↓kAsg,↓kRet,UP,simprocAttr,↓b7,↓aQ,↓cZ,LA,dZ,eN,hc,hwd,↓loop_a,↓ih,e1]
    | some z => rw [PM hw,hz] at hb; cases hb
   ·rw [aGT hw] at hb; cases hb
theorem B3 {L n:Nat} (hn:4 ≤ n) (al:Int) (rs:List (List Int)) (ac:List Bool) (hs:aX rs) (ha:ac.length ≤ 4294967296) (hL:2 ^ 60 ≤ L):aA env L n 9 [.agg [.d (.int .i64 al),.d (.ivs rs.length (aC rs)),.d (.ivs ac.length (aB ac))]] [] = some (.d (.bool (jB al rs ac)),[]):=by
 have hrl:=hs.1
 have hll:=eP al
 have loop_a:=fun {R:Type} {n:Nat} (hn:3 ≤ n) {k:Exit → List A → H → Option R} => fG (R:=R) (L:=L) hL hn (al:=al) (ac:=ac) hs (k:=k) rs.length 0 L (by omega) (by omega) (by omega)
 simp only [Int.toNat_zero] at loop_a
 unfold jB
 cases hq:eS al with
 | false =>
  obtain _ | n:=n; omega
  rw [jG]
  simp only [iM,Tryd.f9,SLM,simprocAttr]
  simp -implicitDefEqProofs (maxSteps:=2000000) (disch:=try exact Dz) only [↓DN,↓kAsg,↓kRet,UP,simprocAttr,↓b7,↓aQ,↓fG,↓cZ,LA,hq,Bool.false_and]
 | true =>
  by_cases h1:(1:Int) ≤ rs.length
  ·have n1:¬ (rs.length:Int) < 1:=by omega
   by_cases h2:(rs.length:Int) ≤ 12
   ·have n2:¬ (12:Int) < rs.length:=by omega
    by_cases h3:(ac.length:Int) = rs.length
    ·cases hk:seek (jT (aE al).length rs.length rs) rs.length 0 with
     | none =>
      rw [hk] at loop_a
      obtain _ | n:=n; omega
      rw [jG]
      simp only [iM,Tryd.f9,SLM,simprocAttr]
      simp -implicitDefEqProofs (maxSteps:=2000000) (disch:=try exact Dz) only [↓DN,↓kAsg,↓kRet,UP,simprocAttr,↓b7,↓aQ,↓fG,↓cZ,LA,hq,h1,n1,h2,n2,h3,hk,↓loop_a]
     | some z =>
      rw [hk] at loop_a
      obtain _ | n:=n; omega
      rw [jG]
      simp only [iM,Tryd.f9,SLM,simprocAttr]
      simp -implicitDefEqProofs (maxSteps:=2000000) (disch:=try exact Dz) only [↓DN,↓kAsg,↓kRet,UP,simprocAttr,↓b7,↓aQ,↓fG,↓cZ,LA,hq,h1,n1,h2,n2,h3,hk,↓loop_a,Bool.and_false]
    ·obtain _ | n:=n; omega
     rw [jG]
     simp only [iM,Tryd.f9,SLM,simprocAttr]
     simp -implicitDefEqProofs (maxSteps:=2000000) (disch:=try exact Dz) only [↓DN,↓kAsg,↓kRet,UP,simprocAttr,↓b7,↓aQ,↓fG,↓cZ,LA,hq,h1,n1,h2,n2,h3,Bool.false_and,Bool.and_false]
   ·have n2:(12:Int) < rs.length:=by omega
    obtain _ | n:=n; omega
    rw [jG]
    simp only [iM,Tryd.f9,SLM,simprocAttr]
    simp -implicitDefEqProofs (maxSteps:=2000000) (disch:=try exact Dz) only [↓DN,↓kAsg,↓kRet,UP,simprocAttr,↓b7,↓aQ,↓fG,↓cZ,LA,hq,h1,n1,h2,n2,Bool.false_and,Bool.and_false]
  ·have n1:(rs.length:Int) < 1:=by omega
   obtain _ | n:=n; omega
   rw [jG]
   simp only [iM,Tryd.f9,SLM,simprocAttr]
   simp -implicitDefEqProofs (maxSteps:=2000000) (disch:=try exact Dz) only [↓DN,↓kAsg,↓kRet,UP,simprocAttr,↓b7,↓aQ,↓fG,↓cZ,LA,hq,h1,n1,Bool.false_and,Bool.and_false]
theorem dB {R:Type} {L n:Nat} {hq:H} {k:A → H → Option R} (hn:4 ≤ n) (al:Int) (rs:List (List Int)) (ac:List Bool) (hs:aX rs) (ha:ac.length ≤ 4294967296) (hL:2 ^ 60 ≤ L):aL env (aA env L n) hq 9 [.agg [.d (.int .i64 al),.d (.ivs rs.length (aC rs)),.d (.ivs ac.length (aB ac))]] k = k (.d (.bool (jB al rs ac))) hq :=
 aV rfl (B3 hn al rs ac hs ha hL) rfl (.inl rfl)
theorem dA {R:Type} {L n:Nat} {k:A → Option R} (hn:4 ≤ n) (al:Int) (rs:List (List Int)) (ac:List Bool) (hs:aX rs) (ha:ac.length ≤ 4294967296) (hL:2 ^ 60 ≤ L):aW (aA env L n) 9 [.agg [.d (.int .i64 al),.d (.ivs rs.length (aC rs)),.d (.ivs ac.length (aB ac))]] k = k (.d (.bool (jB al rs ac))) :=
 kO (B3 hn al rs ac hs ha hL) rfl
theorem cT {R:Type} {L n:Nat} {hq:H} {k:A → H → Option R} {id0 g0 o0 len0:Nat} {al:Int} {ac:List Bool}:aL env (aA env L n) hq 9 [.agg [.d (.int .i64 al),.sl id0 g0 o0 len0,.d (.ivs ac.length (aB ac))]] k = match box (a5 hq [.agg [.d (.int .i64 al),.sl id0 g0 o0 len0,.d (.ivs ac.length (aB ac))]]) with
  | .mk (some fs) => aW (aA env L n) 9 fs fun r => k r hq
  | _ => none:=aM j4
theorem cR {R:Type} {L n:Nat} {hq:H} {k:A → H → Option R} {id1 g1 o1 len1:Nat} {al:Int} {rs:List (List Int)}:aL env (aA env L n) hq 9 [.agg [.d (.int .i64 al),.d (.ivs rs.length (aC rs)),.sl id1 g1 o1 len1]] k = match box (a5 hq [.agg [.d (.int .i64 al),.d (.ivs rs.length (aC rs)),.sl id1 g1 o1 len1]]) with
  | .mk (some fs) => aW (aA env L n) 9 fs fun r => k r hq
  | _ => none:=aM j4
theorem cS {R:Type} {L n:Nat} {hq:H} {k:A → H → Option R} {id1 g1 o1 len1:Nat} {id0 g0 o0 len0:Nat} {al:Int}:aL env (aA env L n) hq 9 [.agg [.d (.int .i64 al),.sl id0 g0 o0 len0,.sl id1 g1 o1 len1]] k = match box (a5 hq [.agg [.d (.int .i64 al),.sl id0 g0 o0 len0,.sl id1 g1 o1 len1]]) with
  | .mk (some fs) => aW (aA env L n) 9 fs fun r => k r hq
  | _ => none:=aM j4
def jM (a l:Int):Nat:=((aE a).filter fun m => decide (m < l)).length
def goI (al:Int) (rs:List (List Int)) (q l:Int):Int:=if d9 al l = true then (rs.getD q.toNat []).getD (jM al l) 0 else q
theorem six {l:Int} (h0:0 ≤ l) (h1:l < 6):l = 0 ∨ l = 1 ∨ l = 2 ∨ l = 3 ∨ l = 4 ∨ l = 5:=by omega
theorem qO {a l:Int} (h0:0 ≤ l) (h1:l < 6) (hb:d9 a l = true):jM a l < (aE a).length ∧ (aE a)[jM a l]? = some l:=by
 unfold jM aE
 generalize d9 a = p at *
 rcases six h0 h1 with rfl | rfl | rfl | rfl | rfl | rfl <;>
  cases h0':p 0 <;> cases h1':p 1 <;> cases h2':p 2 <;> cases h3':p 3 <;> cases h4':p 4 <;> cases h5':p 5 <;> simp_all [List.filter]
theorem gR {a l:Int}:l ∈ aE a ↔ (0 ≤ l ∧ l < 6) ∧ d9 a l = true:=by
 unfold aE
 rw [List.mem_filter]
 constructor
 ·rintro ⟨h1,h2⟩
  simp at h1
  exact ⟨by omega,h2⟩
 ·rintro ⟨h1,h2⟩
  refine ⟨?_,h2⟩
  rcases six h1.1 h1.2 with rfl | rfl | rfl | rfl | rfl | rfl <;> simp
theorem QQ (a:Int):(aE a).Nodup:=by
 unfold aE
 exact List.Nodup.sublist List.filter_sublist (by decide)
def wN (q:Nat):Nat → Nat → List Int → List Int
 | 0,_,t => t
 | j + 1,i,t => wN q j (i + 1) (t.set (q * 6 + i) q)
def uC (q:Nat) (row:List Int):List Int → Nat → List Int → List Int
 | [],_,t => t
 | l :: ls,i,t => uC q row ls (i + 1) (t.set (q * 6 + l.toNat) (row.getD i 0))
def uR (ls:List Int):List (List Int) → Nat → List Int → List Int
 | [],_,t => t
 | r :: rs,q,t => uR ls rs (q + 1) (uC q r ls 0 (wN q 6 0 t))
def iZ (al:Int) (rs:List (List Int)):List Int:=uR (aE al) rs 0 (List.replicate (rs.length * 6) 0)
theorem yA:∀ (j q i:Nat) (t:List Int),(wN q j i t).length = t.length
 | 0,_,_,_ => rfl
 | j + 1,q,i,t => by simp [wN,yA j]
theorem KZ:∀ (ls:List Int) (q i:Nat) (row t:List Int),(uC q row ls i t).length = t.length
 | [],_,_,_,_ => rfl
 | l :: ls,q,i,row,t => by simp [uC,KZ ls]
theorem KP:∀ (rs:List (List Int)) (ls:List Int) (q:Nat) (t:List Int),(uR ls rs q t).length = t.length
 | [],_,_,_ => rfl
 | r :: rs,ls,q,t => by simp [uR,KP rs,KZ,yA]
theorem nL (al:Int) (rs:List (List Int)):(iZ al rs).length = rs.length * 6:=by simp [iZ,KP]
theorem Y3 {t:List Int} {k p:Nat} {v:Int}:(t.set k v).getD p 0 = if p = k ∧ k < t.length then v else t.getD p 0:=by
 simp only [List.getD_eq_getElem?_getD,List.getElem?_set]
 by_cases h:k = p
 ·subst h
  by_cases h2:k < t.length
  ·simp [h2]
  ·simp [h2]
 ·have h':¬ p = k:=fun e => h e.symm
  simp [h,h']
theorem TP:∀ (j q i:Nat) (t:List Int) (p:Nat),q * 6 + i + j ≤ t.length → (wN q j i t).getD p 0 = if q * 6 + i ≤ p ∧ p < q * 6 + i + j then (q:Int) else t.getD p 0
 | 0,q,i,t,p,h => by
  simp only [wN]
  rw [if_neg (by omega)]
 | j + 1,q,i,t,p,h => by
  simp only [wN]
  rw [TP j q (i + 1) _ p (by simp; omega),Y3]
  by_cases h1:q * 6 + (i + 1) ≤ p ∧ p < q * 6 + (i + 1) + j
  ·rw [if_pos h1,if_pos (by omega)]
  ·rw [if_neg h1]
   by_cases h2:p = q * 6 + i
   ·rw [if_pos ⟨h2,by omega⟩,if_pos (by omega)]
   ·rw [if_neg (by omega),if_neg (by omega)]
theorem wL:∀ (ls:List Int) (q i:Nat) (row t:List Int) (p:Nat),(∀ l ∈ ls,p ≠ q * 6 + l.toNat) → (uC q row ls i t).getD p 0 = t.getD p 0
 | [],_,_,_,_,_,_ => rfl
 | l :: ls,q,i,row,t,p,h => by
  simp only [uC]
  rw [wL ls q (i + 1) row _ p fun m hm => h m (by simp [hm]),Y3,if_neg]
  intro hc
  exact h l (by simp) hc.1
theorem SX:∀ (ls:List Int) (q i:Nat) (row t:List Int) (k:Nat) (l:Int),ls[k]? = some l → ls.Nodup → (∀ m ∈ ls,0 ≤ m) → q * 6 + l.toNat < t.length → (uC q row ls i t).getD (q * 6 + l.toNat) 0 = row.getD (i + k) 0
 | l' :: ls,q,i,row,t,0,l,h,hn,hp,hl => by
  simp only [List.getElem?_cons_zero,Option.some.injEq] at h
  subst h
  simp only [uC]
  rw [wL,Y3,if_pos ⟨rfl,hl⟩,Nat.add_zero]
  intro m hm hc
  have h1:m = l':=by
   have h2:=hp m (by simp [hm])
   have h3:=hp l' (by simp)
   omega
  subst h1
  exact (List.nodup_cons.1 hn).1 hm
 | l' :: ls,q,i,row,t,k + 1,l,h,hn,hp,hl => by
  simp only [uC]
  rw [SX ls q (i + 1) row _ k l (by simpa using h) (List.nodup_cons.1 hn).2 (fun m hm => hp m (by simp [hm])) (by simpa using hl)]
  congr 1
  omega
theorem aHl {a:Int}:∀ m ∈ aE a,0 ≤ m:=fun m hm => (gR.1 hm).1.1
theorem aD1 {a:Int}:∀ (rs:List (List Int)) (q0:Nat) (t:List Int) (q l:Nat),l < 6 → (q0 + rs.length) * 6 ≤ t.length →
  (uR (aE a) rs q0 t).getD (q * 6 + l) 0 = if q0 ≤ q ∧ q < q0 + rs.length then (if d9 a l = true then (rs.getD (q - q0) []).getD (jM a l) 0 else (q:Int)) else t.getD (q * 6 + l) 0
 | [],q0,t,q,l,hl,ht => by
  simp only [uR]
  rw [if_neg (by simp only [List.length_nil]; omega)]
 | r :: rs,q0,t,q,l,hl,ht => by
  simp only [List.length_cons] at ht ⊢
  simp only [uR]
  rw [aD1 rs (q0 + 1) _ q l hl (by rw [KZ,yA]; omega)]
  by_cases h1:q0 + 1 ≤ q ∧ q < q0 + 1 + rs.length
  ·rw [if_pos h1,if_pos (show q0 ≤ q ∧ q < q0 + (rs.length + 1) by omega)]
   obtain ⟨d,hd⟩:∃ d,q - q0 = d + 1:=⟨q - q0 - 1,by omega⟩
   rw [hd,List.getD_cons_succ,show q - (q0 + 1) = d by omega]
  ·rw [if_neg h1]
   by_cases h2:q = q0
   ·subst h2
    rw [if_pos (show q ≤ q ∧ q < q + (rs.length + 1) by omega),Nat.sub_self,List.getD_cons_zero]
    by_cases hb:d9 a l = true
    ·rw [if_pos hb]
     have hp:=qO (a:=a) (l:=l) (by omega) (by omega) hb
     have hg:=SX (aE a) q 0 r (wN q 6 0 t) (jM a l) l hp.2 (QQ a) aHl (by rw [yA]; simp; omega)
     rw [Int.toNat_natCast] at hg
     rw [hg,Nat.zero_add]
    ·rw [if_neg hb,wL,TP _ _ _ _ _ (by omega),if_pos (by omega)]
     intro m hm hc
     have hm2:=gR.1 hm
     have:m = l:=by omega
     subst this
     exact hb hm2.2
   ·rw [if_neg (show ¬ (q0 ≤ q ∧ q < q0 + (rs.length + 1)) by omega),wL,TP _ _ _ _ _ (by omega),if_neg (by omega)]
    intro m hm hc
    have hm2:=gR.1 hm
    omega
theorem aJs {al:Int} {rs:List (List Int)} {q l:Int} (h0:0 ≤ q) (h1:q < rs.length) (h2:0 ≤ l) (h3:l < 6):(iZ al rs).getD (q.toNat * 6 + l.toNat) 0 = goI al rs q l:=by
 unfold iZ goI
 rw [aD1 rs 0 _ q.toNat l.toNat (by omega) (by simp)]
 rw [if_pos (by omega),Nat.sub_zero,show ((l.toNat:Nat):Int) = l by omega,show ((q.toNat:Nat):Int) = q by omega]
theorem VM {al:Int} {rs:List (List Int)} {q l:Int} (h0:0 ≤ q) (h1:q < rs.length) (h2:0 ≤ l) (h3:l < 6):((((ints (iZ al rs)).drop (q.toNat * 6)).drop l.toNat).map A.d).head? = some (.d (.int .i64 (goI al rs q l))):=by
 rw [List.drop_drop,LT (by rw [nL]; omega),aJs h0 h1 h2 h3]
theorem u_t6:env.P.underlying 54 = some (.slice 58):=by kernel_rfl
theorem u_a6:env.P.underlying 58 = some (.array 6 3):=by kernel_rfl
theorem c_a6:env.P.cellsOf 58 = 6:=by kernel_rfl
theorem aEt:∀ n:Nat,(List.replicate n [D.int .i64 0,.int .i64 0,.int .i64 0,.int .i64 0,.int .i64 0,.int .i64 0]).flatten = ints (List.replicate (n * 6) 0)
 | 0 => rfl
 | n + 1 => by
  rw [List.replicate_succ,List.flatten_cons,aEt n,Nat.succ_mul]
  simp [ints,List.replicate_succ]
theorem aQI {n:Int} {h:H} (h0:0 ≤ n) (h1:n ≤ 4294967296):kK env.P h 54 n n = some (.sl h.length 0 0 n.toNat,h ++ [.arr (ints (List.replicate (n.toNat * 6) 0)) 6 0]):=by
 have hm:n ≤ (bW:Nat):=by unfold bW; omega
 have he:bB env.P 54 = some 58:=by kernel_rfl
 have hz:bN env.P 58 = some (.agg [.d (.int .i64 0),.d (.int .i64 0),.d (.int .i64 0),.d (.int .i64 0),.d (.int .i64 0),.d (.int .i64 0)]):=by kernel_rfl
 have hok:bJ env.P 58 = true:=by kernel_rfl
 simp only [kK,he,hz,aO,AX,Option.map_some,hok,h0,hm,c_a6,Int.le_refl,and_self,if_true,aEt]
theorem mC {R:Type} {L n:Nat} (hn:1 ≤ n) {al q:Int} {rs:List (List Int)} (hs:aX rs) {r:List Int} (hq0:0 ≤ q) (hq1:q < rs.length) {k:Exit → List A → H → Option R}:∀ (j:Nat) (i:Int) (m:Nat) (t:List Int) (len:Nat) (h0:0 ≤ i) (hi:i + j = 6) (hm:j < m) (ht:t.length = rs.length * 6) (hlen:len = rs.length),
  aU env (aA env L n) L 0 [] (Z2 (U4 (U1 (Z8 (Z2 (Z1 (U2 (U1 (Z4 (U1 (Z8 (Z1 (U2 (U1 (Z16 ([])))))))))))))))) (gH 1) (U2 (Z4 (Z1 (U8 (U2 (U1 (Z2 (Z1 (U4 (Z1 (U16 (U8 (U4 ([])))))))))))))) m (Y2 (.d .nils :: .sl 0 0 0 len :: .d (.ivs (aE al).length (ints (aE al))) :: .d (.int .i64 q) :: .d (.ivs r.length (ints r)) :: Y8 (Y2 (Y1 (.d (.ivs rs.length (aC rs)) :: .d (.int .i64 (rs.length)) :: .d (.int .i64 q) :: Y4 (.d (.int .i64 i) :: Y16 (Y8 (Y4 ([]))))))))) [.arr (ints t) 6 0] k
  = k (.exit 2) (Y2 (.d .nils :: .sl 0 0 0 rs.length :: .d (.ivs (aE al).length (ints (aE al))) :: .d (.int .i64 q) :: .d (.ivs r.length (ints r)) :: Y8 (Y2 (Y1 (.d (.ivs rs.length (aC rs)) :: .d (.int .i64 (rs.length)) :: .d (.int .i64 q) :: Y4 (.d (.int .i64 6) :: Y16 (Y8 (Y4 ([]))))))))) [.arr (ints (wN q.toNat j i.toNat t)) 6 0]:=by
 intro j
 have hrl:=hs.1
 induction j with
 | zero =>
  intro i m t len h0 hi hm ht hlen
  obtain _ | m:=m; omega
  obtain rfl:i = 6:=by omega
  rw [HS]
  simp only [E8,Tryd.f34,SLM,simprocAttr]
  simp -implicitDefEqProofs (maxSteps:=2000000) (disch:=try exact Dz) only [↓DN,↓kAsg,↓kRet,UP,simprocAttr,↓aQ,LA,Int.lt_irrefl,hlen]
  rfl
 | succ j ih =>
  intro i m t len h0 hi hm ht hlen
  obtain _ | m:=m; omega
  subst hlen
  have hc:i < 6:=by omega
  have hk:q.toNat * 6 + i.toNat < t.length:=by omega
  have e1:(i + 1).toNat = i.toNat + 1:=by omega
  have e2:((q.toNat:Nat):Int) = q:=by omega
  rw [HS]
  simp only [E8,Tryd.f34,SLM,simprocAttr]
  simp -implicitDefEqProofs (maxSteps:=2000000) (disch:=try exact Dz) only [↓DN,↓kAsg,↓kRet,UP,simprocAttr,↓aQ,LA,hc,hq1,u_t6,u_a6,c_a6,KW,dY,↓aIa,↓ih]
  rw [e1]
  simp only [wN,e2]
theorem aHE {t:List Int} {k:Nat} {v:Int} (h:k < t.length):List.take k (ints t) ++ [.int .i64 v] ++ List.drop (k + 1) (ints t) = ints (t.set k v):=JK h
theorem aFS {a:Int} {i:Nat} (h:i < (aE a).length):(aE a).drop i = (aE a).getD i 0 :: (aE a).drop (i + 1):=nB h
theorem rC {R:Type} {L n:Nat} (hn:1 ≤ n) {al q:Int} {rs:List (List Int)} (hs:aX rs) {r:List Int} (hr:r.length ≤ 4294967296) (hrl2:(aE al).length ≤ r.length) (hq0:0 ≤ q) (hq1:q < rs.length) {k:Exit → List A → H → Option R}:∀ (j:Nat) (i:Int) (m:Nat) (t:List Int) (len:Nat) (h0:0 ≤ i) (hi:i + j = (aE al).length) (hm:j < m) (ht:t.length = rs.length * 6) (hlen:len = rs.length),
  aU env (aA env L n) L 0 [] (Z2 (U4 (U1 (Z8 (Z2 (Z1 (U2 (U1 (Z4 (U1 (Z8 (Z1 (U2 (U1 (Z16 ([])))))))))))))))) (gH 2) (U2 (Z4 (Z1 (U8 (U2 (U1 (Z2 (Z1 (U4 (Z1 (U8 (U1 (Z2 (Z1 (U16 ([])))))))))))))))) m (Y2 (.d .nils :: .sl 0 0 0 len :: .d (.ivs (aE al).length (ints (aE al))) :: .d (.int .i64 q) :: .d (.ivs r.length (ints r)) :: Y8 (Y2 (Y1 (.d (.ivs rs.length (aC rs)) :: .d (.int .i64 (rs.length)) :: .d (.int .i64 q) :: Y4 (.d (.int .i64 6) :: Y8 (Y1 (.d (.ivs (aE al).length (ints (aE al))) :: .d (.int .i64 ((aE al).length)) :: .d (.int .i64 i) :: Y16 ([]))))))))) [.arr (ints t) 6 0] k
  = k (.exit 4) (Y2 (.d .nils :: .sl 0 0 0 rs.length :: .d (.ivs (aE al).length (ints (aE al))) :: .d (.int .i64 q) :: .d (.ivs r.length (ints r)) :: Y8 (Y2 (Y1 (.d (.ivs rs.length (aC rs)) :: .d (.int .i64 (rs.length)) :: .d (.int .i64 q) :: Y4 (.d (.int .i64 6) :: Y8 (Y1 (.d (.ivs (aE al).length (ints (aE al))) :: .d (.int .i64 ((aE al).length)) :: .d (.int .i64 ((aE al).length)) :: Y16 ([]))))))))) [.arr (ints (uC q.toNat r ((aE al).drop i.toNat) i.toNat t)) 6 0]:=by
 intro j
 have hrl:=hs.1
 have hll:=eP al
 induction j with
 | zero =>
  intro i m t len h0 hi hm ht hlen
  obtain _ | m:=m; omega
  obtain rfl:i = (aE al).length:=by omega
  rw [HE]
  simp only [E1,Tryd.f34,SLM,simprocAttr]
  simp -implicitDefEqProofs (maxSteps:=2000000) (disch:=try exact Dz) only [↓DN,↓kAsg,↓kRet,UP,simprocAttr,↓aQ,↓mC,LA,Int.lt_irrefl,hlen]
  simp only [Int.toNat_natCast,List.drop_length,uC]
 | succ j ih =>
  intro i m t len h0 hi hm ht hlen
  obtain _ | m:=m; omega
  subst hlen
  have hc:i < (aE al).length:=by omega
  have hk1:i.toNat < (aE al).length:=by omega
  have hk2:i.toNat < r.length:=by omega
  have hv:=P2 pA hk1
  have hv6:(aE al).getD i.toNat 0 < 6:=by omega
  have hv0:=hv.1
  have hk:q.toNat * 6 + ((aE al).getD i.toNat 0).toNat < t.length:=by omega
  have e1:(i + 1).toNat = i.toNat + 1:=by omega
  rw [HE]
  simp only [E1,Tryd.f34,SLM,simprocAttr]
  simp -implicitDefEqProofs (maxSteps:=2000000) (disch:=try exact Dz) only [↓DN,↓kAsg,↓kRet,UP,simprocAttr,↓aQ,↓mC,LA,hc,hq1,dL,u_t6,u_a6,c_a6,KW,dY,↓aIa,aHE,↓ih]
  rw [aFS hk1,e1]
  simp only [uC]
def n7 (w:Nat) (rs:List (List Int)):Prop:=∀ r ∈ rs,r.length = w
theorem aCp {w:Nat} {rs:List (List Int)} (h:n7 w rs) {k:Nat} (hk:k < rs.length):(rs.getD k []).length = w:=by
 rw [List.getD_eq_getElem?_getD,List.getElem?_eq_getElem hk]
 exact h _ (List.getElem_mem hk)
theorem ID {R:Type} {L n:Nat} (hL:2 ^ 60 ≤ L) (hn:1 ≤ n) {al:Int} {rs:List (List Int)} (hs:aX rs) (hw:n7 (aE al).length rs) {k:Exit → List A → H → Option R}:∀ (j:Nat) (i:Int) (m:Nat) (t:List Int) (len:Nat) (h0:0 ≤ i) (hi:i + j = rs.length) (hm:j < m) (ht:t.length = rs.length * 6) (hlen:len = rs.length),
  aU env (aA env L n) L 0 [] (Z2 (U4 (U1 (Z8 (Z2 (Z1 (U2 (U1 (Z4 (U1 (Z8 (Z1 (U2 (U1 (Z16 ([])))))))))))))))) (gH 0) (U2 (Z2 (Z1 (U8 (U4 (U1 (Z2 (Z1 (U32 (U1 ([]))))))))))) m (Y2 (.d .nils :: .sl 0 0 0 len :: .d (.ivs (aE al).length (ints (aE al))) :: Y8 (Y4 (Y1 (.d (.ivs rs.length (aC rs)) :: .d (.int .i64 (rs.length)) :: .d (.int .i64 i) :: Y32 (Y1 ([]))))))) [.arr (ints t) 6 0] k
  = k (.exit 0) (Y2 (.d .nils :: .sl 0 0 0 rs.length :: .d (.ivs (aE al).length (ints (aE al))) :: Y8 (Y4 (Y1 (.d (.ivs rs.length (aC rs)) :: .d (.int .i64 (rs.length)) :: .d (.int .i64 (rs.length)) :: Y32 (Y1 ([]))))))) [.arr (ints (uR (aE al) (rs.drop i.toNat) i.toNat t)) 6 0]:=by
 intro j
 have hrl:=hs.1
 have hll:=eP al
 induction j with
 | zero =>
  intro i m t len h0 hi hm ht hlen
  obtain _ | m:=m; omega
  obtain rfl:i = rs.length:=by omega
  rw [J4]
  simp only [E3,Tryd.f34,SLM,simprocAttr]
  simp -implicitDefEqProofs (maxSteps:=2000000) (disch:=try exact Dz) only [↓DN,↓kAsg,↓kRet,UP,simprocAttr,↓aQ,↓mC,↓rC,LA,Int.lt_irrefl,hlen]
  simp only [Int.toNat_natCast,List.drop_length,uR]
 | succ j ih =>
  intro i m t len h0 hi hm ht hlen
  obtain _ | m:=m; omega
  subst hlen
  have hc:i < rs.length:=by omega
  have hk:i.toNat < rs.length:=by omega
  have hrow:=tB hs hk
  have hrw:=aCp hw hk
  have e1:(i + 1).toNat = i.toNat + 1:=by omega
  have loop_a1:=fun {R:Type} {k:Exit → List A → H → Option R} => mC (R:=R) (L:=L) (n:=n) hn (al:=al) (q:=i) (r:=rs.getD i.toNat []) hs h0 hc (k:=k) 6 0 L t rs.length (by omega) (by omega) (by omega) ht rfl
  have loop_a2:=fun {R:Type} {k:Exit → List A → H → Option R} => rC (R:=R) (L:=L) (n:=n) hn (al:=al) (q:=i) hs (r:=rs.getD i.toNat []) hrow (by omega) h0 hc (k:=k) (aE al).length 0 L (wN i.toNat 6 0 t) rs.length (by omega) (by omega) (by omega) (by rw [yA]; exact ht) rfl
  simp only [Int.toNat_zero,List.drop_zero] at loop_a1 loop_a2
  have ht2:(uC i.toNat (rs.getD i.toNat []) (aE al) 0 (wN i.toNat 6 0 t)).length = rs.length * 6:=by rw [KZ,yA]; exact ht
  clear hrw
  rw [J4]
  simp only [E3,Tryd.f34,SLM,simprocAttr]
  simp -implicitDefEqProofs (maxSteps:=2000000) (disch:=try exact Dz) only [↓DN,↓kAsg,↓kRet,UP,simprocAttr,↓aQ,↓mC,↓rC,LA,hc,dL,dZ,eN,↓loop_a1,↓loop_a2,↓ih]
  rw [nB hk (d:=[]),e1]
  simp only [uR]
theorem aFO {L n:Nat} (hn:3 ≤ n) (al:Int) (rs:List (List Int)) (z:Nat) (cs:List D) (hs:aX rs) (hw:n7 (aE al).length rs) (hL:2 ^ 60 ≤ L):aA env L n 34 [.agg [.d (.int .i64 al),.d (.ivs rs.length (aC rs)),.d (.ivs z cs)]] [] = some (.d (.ivs rs.length (ints (iZ al rs))),[]):=by
 have hrl:=hs.1
 have loop_a:=fun {R:Type} {n:Nat} (hn:1 ≤ n) {k:Exit → List A → H → Option R} => ID (R:=R) (L:=L) (n:=n) hL hn (al:=al) hs hw (k:=k) rs.length 0 L (List.replicate (rs.length * 6) 0) rs.length (by omega) (by omega) (by omega) (by simp) rfl
 simp only [Int.toNat_zero,List.drop_zero] at loop_a
 have htl:(iZ al rs).length = rs.length * 6:=nL al rs
 have htl2:rs.length * 6 ≤ (uR (aE al) rs 0 (List.replicate (rs.length * 6) 0)).length:=by rw [KP]; simp
 have htk:(ints (uR (aE al) rs 0 (List.replicate (rs.length * 6) 0))).take (rs.length * 6) = ints (uR (aE al) rs 0 (List.replicate (rs.length * 6) 0)):=cY (by rw [KP]; simp)
 unfold iZ
 obtain _ | n:=n; omega
 rw [aFZ]
 simp only [YB,Tryd.f34,SLM,simprocAttr]
 simp -implicitDefEqProofs (maxSteps:=2000000) (disch:=try exact Dz) only [↓DN,↓kAsg,↓kRet,UP,simprocAttr,↓aQ,↓ID,↓mC,↓rC,LA,dL,dZ,eN,u_t6,u_a6,c_a6,↓aQI,↓loop_a,htk,dQ,htl2]
theorem fO {R:Type} {L n:Nat} {hq:H} {k:A → H → Option R} (hn:3 ≤ n) (al:Int) (rs:List (List Int)) (z:Nat) (cs:List D) (hs:aX rs) (hw:n7 (aE al).length rs) (hL:2 ^ 60 ≤ L):aL env (aA env L n) hq 34 [.agg [.d (.int .i64 al),.d (.ivs rs.length (aC rs)),.d (.ivs z cs)]] k = k (.d (.ivs rs.length (ints (iZ al rs)))) hq :=
 aV rfl (aFO hn al rs z cs hs hw hL) rfl (.inr rfl)
def cntB (a:Int):Nat → Int → Nat
 | 0,_ => 0
 | j + 1,i => (if d9 a i = true then 1 else 0) + cntB a j (i + 1)
theorem aJA {a l:Int} (h0:0 ≤ l) (h1:l < 6):cntB a l.toNat 0 = jM a l:=by
 unfold jM aE
 generalize hp:d9 a = p
 have e:∀ i,d9 a i = p i:=fun i => by rw [hp]
 rcases six h0 h1 with rfl | rfl | rfl | rfl | rfl | rfl <;>
  simp only [cntB,e,show (0:Int).toNat = 0 from rfl,show (1:Int).toNat = 1 from rfl,show (2:Int).toNat = 2 from rfl,show (3:Int).toNat = 3 from rfl,show (4:Int).toNat = 4 from rfl,show (5:Int).toNat = 5 from rfl,Int.zero_add,Int.reduceAdd] <;>
  cases h0':p 0 <;> cases h1':p 1 <;> cases h2':p 2 <;> cases h3':p 3 <;> cases h4':p 4 <;> cases h5':p 5 <;> simp_all [List.filter]
theorem N1 {R:Type} {L n:Nat} (hn:1 ≤ n) {a l:Int} (hl:l < 6) {k:Exit → List A → H → Option R}:∀ (j:Nat) (i c:Int) (m:Nat) (h0:0 ≤ i) (hi:i + j = l) (hm:j < m) (hc0:0 ≤ c) (hc1:c ≤ i),
  aU env (aA env L n) L 0 [] (U2 (Z2 (U2 (U1 (Z8 (Z2 (Z1 ([])))))))) (tG 0) (Z2 (U2 (Z2 (Z1 (U8 (U2 (U1 ([])))))))) m (.d (.int .i64 a) :: .d (.int .i64 l) :: Y2 (.d (.int .i64 0) :: .d (.int .i64 c) :: .d (.int .i64 i) :: Y8 (Y2 (Y1 ([]))))) [] k
  = k (.exit 0) (.d (.int .i64 a) :: .d (.int .i64 l) :: Y2 (.d (.int .i64 0) :: .d (.int .i64 ((c + cntB a j i))) :: .d (.int .i64 l) :: Y8 (Y2 (Y1 ([]))))) []:=by
 intro j
 induction j with
 | zero =>
  intro i c m h0 hi hm hc0 hc1
  obtain _ | m:=m; omega
  obtain rfl:i = l:=by omega
  rw [w8]
  simp only [wR,Tryd.f64,SLM,simprocAttr]
  simp -implicitDefEqProofs (maxSteps:=2000000) (disch:=try exact Dz) only [↓DN,↓kAsg,↓kRet,UP,simprocAttr,↓gB,Int.lt_irrefl]
  simp only [cntB,Int.natCast_zero,Int.add_zero]
 | succ j ih =>
  intro i c m h0 hi hm hc0 hc1
  obtain _ | m:=m; omega
  have hc:i < l:=by omega
  cases hb:d9 a i with
  | true =>
   have e:c + 1 + (cntB a j (i + 1):Int) = c + cntB a (j + 1) i:=by simp only [cntB,hb,if_true]; omega
   rw [w8]
   simp only [wR,Tryd.f64,SLM,simprocAttr]
   simp -implicitDefEqProofs (maxSteps:=2000000) (disch:=try exact Dz) only [↓DN,↓kAsg,↓kRet,UP,simprocAttr,↓gB,hc,hb,↓ih]
   rw [e]
  | false =>
   have e:c + (cntB a j (i + 1):Int) = c + cntB a (j + 1) i:=by simp only [cntB,hb,Bool.false_eq_true,if_false]; omega
   rw [w8]
   simp only [wR,Tryd.f64,SLM,simprocAttr]
   simp -implicitDefEqProofs (maxSteps:=2000000) (disch:=try exact Dz) only [↓DN,↓kAsg,↓kRet,UP,simprocAttr,↓gB,hc,hb,↓ih]
   rw [e]
theorem aGG {L n:Nat} (hn:2 ≤ n) (a l:Int) (h0:0 ≤ l) (h1:l < 6) (hL:2 ^ 60 ≤ L):aA env L n 64 [.d (.int .i64 a),.d (.int .i64 l)] [] = some (.d (.int .i64 (jM a l)),[]):=by
 have loop_a:=fun {R:Type} {n:Nat} (hn:1 ≤ n) {k:Exit → List A → H → Option R} => N1 (R:=R) (L:=L) hn (a:=a) h1 (k:=k) l.toNat 0 0 L (by omega) (by omega) (by omega) (by omega) (by omega)
 rw [aJA h0 h1] at loop_a
 obtain _ | n:=n; omega
 rw [aG6]
 simp only [WH,Tryd.f64,SLM,simprocAttr]
 simp -implicitDefEqProofs (maxSteps:=2000000) (disch:=try exact Dz) only [↓DN,↓kAsg,↓kRet,UP,simprocAttr,↓gB,↓N1,↓loop_a,Int.zero_add]
theorem UQ {R:Type} {L n:Nat} {hq:H} {k:A → H → Option R} (hn:2 ≤ n) (a l:Int) (h0:0 ≤ l) (h1:l < 6) (hL:2 ^ 60 ≤ L):aL env (aA env L n) hq 64 [.d (.int .i64 a),.d (.int .i64 l)] k = k (.d (.int .i64 (jM a l))) hq :=
 aV rfl (aGG hn a l h0 h1 hL) rfl (.inl rfl)
theorem aQ6 {al q l:Int} {rs:List (List Int)} (h:d9 al l = false):goI al rs q l = q:=by
 unfold goI; rw [h]; rfl
theorem CK {al q l:Int} {rs:List (List Int)} (h:d9 al l = true):goI al rs q l = (rs.getD q.toNat []).getD (jM al l) 0:=by
 unfold goI; rw [if_pos h]
theorem aDv {L n:Nat} (hn:3 ≤ n) (al q l:Int) (rs:List (List Int)) (z:Nat) (cs:List D) (hs:aX rs) (hw:n7 (aE al).length rs) (hq0:0 ≤ q) (hq1:q < rs.length) (h0:0 ≤ l) (h1:l < 6) (hL:2 ^ 60 ≤ L):aA env L n 41 [.agg [.d (.int .i64 al),.d (.ivs rs.length (aC rs)),.d (.ivs z cs)],.d (.int .i64 q),.d (.int .i64 l)] [] = some (.d (.int .i64 (goI al rs q l)),[]):=by
 have hrl:=hs.1
 have hk:q.toNat < rs.length:=by omega
 have hrow:=tB hs hk
 have hrw:=aCp hw hk
 cases hb:d9 al l with
 | false =>
  rw [aQ6 hb]
  clear hrw
  obtain _ | n:=n; omega
  rw [aDX]
  simp only [YY,Tryd.f41,SLM,simprocAttr]
  simp -implicitDefEqProofs (maxSteps:=2000000) (disch:=try exact Dz) only [↓DN,↓kAsg,↓kRet,UP,simprocAttr,↓gB,↓UQ,LA,hb]
 | true =>
  rw [CK hb]
  have hp:=(qO h0 h1 hb).1
  have hp2:jM al l < (rs.getD q.toNat []).length:=by omega
  have hp3:(jM al l:Int) < (rs.getD q.toNat []).length:=by omega
  have hp4:((jM al l:Nat):Int).toNat = jM al l:=Int.toNat_natCast _
  clear hrw hp
  obtain _ | n:=n; omega
  rw [aDX]
  simp only [YY,Tryd.f41,SLM,simprocAttr]
  simp -implicitDefEqProofs (maxSteps:=2000000) (disch:=try exact Dz) only [↓DN,↓kAsg,↓kRet,UP,simprocAttr,↓gB,↓UQ,LA,hb,dL,dZ,eN,dY,hp4]
theorem oZ {R:Type} {L n:Nat} {hq:H} {k:A → H → Option R} (hn:3 ≤ n) (al q l:Int) (rs:List (List Int)) (z:Nat) (cs:List D) (hs:aX rs) (hw:n7 (aE al).length rs) (hq0:0 ≤ q) (hq1:q < rs.length) (h0:0 ≤ l) (h1:l < 6) (hL:2 ^ 60 ≤ L):aL env (aA env L n) hq 41 [.agg [.d (.int .i64 al),.d (.ivs rs.length (aC rs)),.d (.ivs z cs)],.d (.int .i64 q),.d (.int .i64 l)] k = k (.d (.int .i64 (goI al rs q l))) hq :=
 aV rfl (aDv hn al q l rs z cs hs hw hq0 hq1 h0 h1 hL) rfl (.inl rfl)
theorem oP {R:Type} {L n:Nat} {k:A → Option R} (hn:3 ≤ n) (al q l:Int) (rs:List (List Int)) (z:Nat) (cs:List D) (hs:aX rs) (hw:n7 (aE al).length rs) (hq0:0 ≤ q) (hq1:q < rs.length) (h0:0 ≤ l) (h1:l < 6) (hL:2 ^ 60 ≤ L):aW (aA env L n) 41 [.agg [.d (.int .i64 al),.d (.ivs rs.length (aC rs)),.d (.ivs z cs)],.d (.int .i64 q),.d (.int .i64 l)] k = k (.d (.int .i64 (goI al rs q l))) :=
 kO (aDv hn al q l rs z cs hs hw hq0 hq1 h0 h1 hL) rfl
theorem mE {R:Type} {L n:Nat} {hq:H} {k:A → H → Option R} {id0 g0 o0 len0:Nat} {al q l:Int} {z:Nat} {cs:List D}:aL env (aA env L n) hq 41 [.agg [.d (.int .i64 al),.sl id0 g0 o0 len0,.d (.ivs z cs)],.d (.int .i64 q),.d (.int .i64 l)] k = match box (a5 hq [.agg [.d (.int .i64 al),.sl id0 g0 o0 len0,.d (.ivs z cs)],.d (.int .i64 q),.d (.int .i64 l)]) with
  | .mk (some fs) => aW (aA env L n) 41 fs fun r => k r hq
  | _ => none:=aM v8
theorem mJ {R:Type} {L n:Nat} {hq:H} {k:A → H → Option R} {id1 g1 o1 len1:Nat} {al q l:Int} {rs:List (List Int)}:aL env (aA env L n) hq 41 [.agg [.d (.int .i64 al),.d (.ivs rs.length (aC rs)),.sl id1 g1 o1 len1],.d (.int .i64 q),.d (.int .i64 l)] k = match box (a5 hq [.agg [.d (.int .i64 al),.d (.ivs rs.length (aC rs)),.sl id1 g1 o1 len1],.d (.int .i64 q),.d (.int .i64 l)]) with
  | .mk (some fs) => aW (aA env L n) 41 fs fun r => k r hq
  | _ => none:=aM v8
theorem mI {R:Type} {L n:Nat} {hq:H} {k:A → H → Option R} {id1 g1 o1 len1:Nat} {id0 g0 o0 len0:Nat} {al q l:Int}:aL env (aA env L n) hq 41 [.agg [.d (.int .i64 al),.sl id0 g0 o0 len0,.sl id1 g1 o1 len1],.d (.int .i64 q),.d (.int .i64 l)] k = match box (a5 hq [.agg [.d (.int .i64 al),.sl id0 g0 o0 len0,.sl id1 g1 o1 len1],.d (.int .i64 q),.d (.int .i64 l)]) with
  | .mk (some fs) => aW (aA env L n) 41 fs fun r => k r hq
  | _ => none:=aM v8
def kS (al:Int) (rs:List (List Int)) (x y:Int) (ls:List Int) (q:Int):List Int:=ls.map fun l => goI al rs q (fQ l x y)
def fD (al:Int) (rs:List (List Int)) (x y:Int) (ls:List Int) (i j:Nat):List (List Int):=(List.range' i j).map fun (q:Nat) => kS al rs x y ls q
def eO (al:Int) (rs:List (List Int)) (ac:List Bool) (x y:Int):Bool:=jB al rs ac && bL x && bL y
theorem XM {al:Int} {rs:List (List Int)} {x y:Int} {ls:List Int} {i j:Nat}:fD al rs x y ls i (j + 1) = kS al rs x y ls i :: fD al rs x y ls (i + 1) j:=by
 simp [fD,List.range'_succ]
theorem rA {al:Int} {rs:List (List Int)} {x y:Int} {ls:List Int} {i j:Nat}:(fD al rs x y ls i j).length = j:=by simp [fD]
theorem tN {l:List (List Int)} {r:List Int} {z:Nat} (h:z = r.length):aC l ++ [.ivs z (ints r)] = aC (l ++ [r]):=by
 subst h
 simp [aC,rowD]
theorem lD:aC [] = []:=rfl
theorem nV:aB [] = []:=rfl
def eR (l:List (List Int)):Nat:=if l = [] then 0 else 1
theorem aRn:eR [] = 0:=rfl
theorem CO {l:List (List Int)} {r:List Int}:eR (l ++ [r]) = 1:=by simp [eR]
theorem aA2 (l:List (List Int)):eR l = 0 ∨ eR l = 1:=by unfold eR; split <;> simp
theorem aFY {al:Int} {rs:List (List Int)} {x y q:Int} {ls:List Int} {i:Nat} (h:i < ls.length):kS al rs x y (ls.drop i) q = goI al rs q (fQ (ls.getD i 0) x y) :: kS al rs x y (ls.drop (i + 1)) q:=by
 rw [nB h (d:=0)]
 rfl
theorem eM {R:Type} {L n:Nat} (hn:4 ≤ n) (hL:2 ^ 60 ≤ L) {al al2 x y q:Int} {rs:List (List Int)} {z:Nat} {cs cs2 cn:List D} {e d:Nat} (hs:aX rs) (hw:n7 (aE al).length rs) (hq0:0 ≤ q) (hq1:q < rs.length) (hx0:0 ≤ x) (hx1:x ≤ 5) (hy0:0 ≤ y) (hy1:y ≤ 5) {ls:List Int} (hls:∀ v ∈ ls,0 ≤ v ∧ v ≤ 5) (hll:ls.length ≤ 6) {k:Exit → List A → H → Option R}:∀ (j:Nat) (i:Int) (m:Nat) (r:List Int) (len:Nat) (h0:0 ≤ i) (hi:i + j = ls.length) (hm:j < m) (hr:r.length ≤ 6 - j) (hlen:len = r.length),
  aU env (aA env L n) L 0 [] (Z1 (U2 (U1 (Z2 (U4 (U2 (U1 (Z32 (Z16 (Z8 (Z4 (Z1 ([]))))))))))))) (fK 1) (U1 (Z2 (Z1 (U2 (Z4 (Z2 (Z1 (U32 (U16 (U8 (U4 (U1 ([]))))))))))))) m (Y1 (.d (.int .i64 x) :: .d (.int .i64 y) :: .ptr 0 0 0 :: Y2 (.ptr 1 0 0 :: .d (.bool false) :: .ptr 2 0 0 :: .d (.ivs ls.length (ints ls)) :: .d (.int .i64 q) :: .sl 3 0 0 len :: .d (.int .i64 i) :: Y32 (Y16 (Y8 (Y4 (Y1 ([])))))))) [.box [.d (.int .i64 al),.d (.ivs rs.length (aC rs)),.d (.ivs z cs)],.box [.d (.int .i64 0),.sl 4 0 0 0,.sl 5 0 0 0],.box [.d (.int .i64 al2),.sl 6 0 0 d,.sl 7 0 0 z],.arr (ints r) 1 0,.arr [] 0 0,.arr [] 0 0,.arr cn e 0,.arr cs2 1 0] k
  = k (.exit 2) (Y1 (.d (.int .i64 x) :: .d (.int .i64 y) :: .ptr 0 0 0 :: Y2 (.ptr 1 0 0 :: .d (.bool false) :: .ptr 2 0 0 :: .d (.ivs ls.length (ints ls)) :: .d (.int .i64 q) :: .sl 3 0 0 (r.length + (kS al rs x y (ls.drop i.toNat) q).length) :: .d (.int .i64 (ls.length)) :: Y32 (Y16 (Y8 (Y4 (Y1 ([])))))))) [.box [.d (.int .i64 al),.d (.ivs rs.length (aC rs)),.d (.ivs z cs)],.box [.d (.int .i64 0),.sl 4 0 0 0,.sl 5 0 0 0],.box [.d (.int .i64 al2),.sl 6 0 0 d,.sl 7 0 0 z],.arr (ints (r ++ kS al rs x y (ls.drop i.toNat) q)) 1 0,.arr [] 0 0,.arr [] 0 0,.arr cn e 0,.arr cs2 1 0]:=by
 intro j
 have hrl:=hs.1
 induction j with
 | zero =>
  intro i m r len h0 hi hm hr hlen
  obtain _ | m:=m; omega
  obtain rfl:i = ls.length:=by omega
  rw [wA]
  simp only [sI,Tryd.f14,SLM,simprocAttr]
  simp -implicitDefEqProofs (maxSteps:=2000000) (disch:=try exact Dz) only [↓DN,↓kAsg,↓kRet,UP,simprocAttr,↓eZ,↓dV,↓f8,↓bK,↓eV,↓oZ,↓eY,↓oP,↓eA,↓eD,↓eB,↓mE,↓mJ,↓mI,LA,Int.lt_irrefl,hlen]
  simp only [Int.toNat_natCast,List.drop_length,kS,List.map_nil,List.append_nil,List.length_nil,Nat.add_zero]
 | succ j ih =>
  intro i m r len h0 hi hm hr hlen
  obtain _ | m:=m; omega
  subst hlen
  have hc:i < ls.length:=by omega
  have hk:i.toNat < ls.length:=by omega
  have hv:=P2 hls hk
  have hs1:=EW hv.1 hx0 hy0
  have hs2:=PT (b:=5) hv.2 hx1 hy1
  have hs3:fQ (ls.getD i.toNat 0) x y < 6:=by omega
  have e1:(i + 1).toNat = i.toNat + 1:=by omega
  have hrr:(r ++ [goI al rs q (fQ (ls.getD i.toNat 0) x y)]).length ≤ 6 - j:=by simp; omega
  have hr6:r.length ≤ 6:=by omega
  clear hv
  rw [wA]
  simp only [sI,Tryd.f14,SLM,simprocAttr]
  simp -implicitDefEqProofs (maxSteps:=2000000) (disch:=try exact Dz) only [↓DN,↓kAsg,↓kRet,UP,simprocAttr,↓eZ,↓dV,↓f8,↓bK,↓eV,↓oZ,↓eY,↓oP,↓eA,↓eD,↓eB,↓mE,↓mJ,↓mI,LA,hc,dL,dY,cY,gZ,List.length_append,↓ih]
  rw [aFY hk,e1]
  simp only [List.append_assoc,List.cons_append,List.nil_append,List.length_append,List.length_cons,List.length_nil,Nat.add_assoc,Nat.add_comm 1,Nat.zero_add]
theorem U3 {al:Int} {rs:List (List Int)} {x y q:Int} {ls:List Int}:(kS al rs x y ls q).length = ls.length:=by simp [kS]
theorem jN {R:Type} {L n:Nat} (hn:4 ≤ n) (hL:2 ^ 60 ≤ L) {al al2 x y:Int} {rs:List (List Int)} {z:Nat} {cs cs2:List D} (hs:aX rs) (hw:n7 (aE al).length rs) (hx0:0 ≤ x) (hx1:x ≤ 5) (hy0:0 ≤ y) (hy1:y ≤ 5) {ls:List Int} (hls:∀ v ∈ ls,0 ≤ v ∧ v ≤ 5) (hll:ls.length ≤ 6) {k:Exit → List A → H → Option R}:∀ (j:Nat) (i:Int) (m:Nat) (d:List (List Int)) (len e:Nat) (h0:0 ≤ i) (hi:i + j = rs.length) (hm:j < m) (hd:(d.length:Int) ≤ i) (hlen:len = d.length) (he:e = eR d),
  aU env (aA env L n) L 0 [] (Z1 (U2 (U1 (Z2 (U4 (U2 (U1 (Z32 (Z16 (Z8 (Z4 (Z1 ([]))))))))))))) (fK 0) (U1 (Z2 (Z1 (U2 (Z4 (Z1 (U32 (U16 (U8 (U4 (U2 (U1 ([]))))))))))))) m (Y1 (.d (.int .i64 x) :: .d (.int .i64 y) :: .ptr 0 0 0 :: Y2 (.ptr 1 0 0 :: .d (.bool false) :: .ptr 2 0 0 :: .d (.ivs ls.length (ints ls)) :: .d (.int .i64 i) :: Y32 (Y16 (Y8 (Y4 (Y2 (Y1 ([]))))))))) [.box [.d (.int .i64 al),.d (.ivs rs.length (aC rs)),.d (.ivs z cs)],.box [.d (.int .i64 0),.sl 3 0 0 0,.sl 4 0 0 0],.box [.d (.int .i64 al2),.sl 5 0 0 len,.sl 6 0 0 z],.arr [] 0 0,.arr [] 0 0,.arr (aC d) e 0,.arr cs2 1 0] k
  = k (.exit 0) (Y1 (.d (.int .i64 x) :: .d (.int .i64 y) :: .ptr 0 0 0 :: Y2 (.ptr 1 0 0 :: .d (.bool false) :: .ptr 2 0 0 :: .d (.ivs ls.length (ints ls)) :: .d (.int .i64 (rs.length)) :: Y32 (Y16 (Y8 (Y4 (Y2 (Y1 ([]))))))))) [.box [.d (.int .i64 al),.d (.ivs rs.length (aC rs)),.d (.ivs z cs)],.box [.d (.int .i64 0),.sl 3 0 0 0,.sl 4 0 0 0],.box [.d (.int .i64 al2),.sl 5 0 0 (d ++ fD al rs x y ls i.toNat j).length,.sl 6 0 0 z],.arr [] 0 0,.arr [] 0 0,.arr (aC (d ++ fD al rs x y ls i.toNat j)) (eR (d ++ fD al rs x y ls i.toNat j)) 0,.arr cs2 1 0]:=by
 intro j
 have hrl:=hs.1
 induction j with
 | zero =>
  intro i m d len e h0 hi hm hd hlen he
  obtain _ | m:=m; omega
  obtain rfl:i = rs.length:=by omega
  subst hlen
  subst he
  have e1:fD al rs x y ls (rs.length:Int).toNat 0 = []:=rfl
  rw [e1,List.append_nil]
  rw [pB]
  simp only [oD,Tryd.f14,SLM,simprocAttr]
  simp -implicitDefEqProofs (maxSteps:=2000000) (disch:=try exact Dz) only [↓DN,↓kAsg,↓kRet,UP,simprocAttr,↓eZ,↓dV,↓f8,↓bK,↓eV,↓oZ,↓eY,↓oP,↓eA,↓eD,↓eB,↓mE,↓mJ,↓mI,↓eM,LA,Int.lt_irrefl]
 | succ j ih =>
  intro i m d len e h0 hi hm hd hlen he
  obtain _ | m:=m; omega
  subst hlen
  have hc:i < rs.length:=by omega
  have hk:i.toNat < rs.length:=by omega
  have e1:(i + 1).toNat = i.toNat + 1:=by omega
  have e2:((i.toNat:Nat):Int) = i:=by omega
  have loop_a:=fun {R:Type} {k:Exit → List A → H → Option R} => eM (R:=R) (L:=L) (n:=n) hn hL (al:=al) (al2:=al2) (q:=i) (z:=z) (cs:=cs) (cs2:=cs2) (cn:=aC d) (e:=e) (d:=d.length) hs hw h0 hc hx0 hx1 hy0 hy1 hls hll (k:=k) ls.length 0 L [] 0 (by omega) (by omega) (by omega) (by simp) rfl
  simp only [Int.toNat_zero,List.drop_zero,List.nil_append,List.length_nil,Nat.zero_add,qS] at loop_a
  have hd2:((d ++ [kS al rs x y ls i]).length:Int) ≤ i + 1:=by simp; omega
  have hd3:d.length ≤ 4294967295:=by omega
  have ht:(aC d).take d.length = aC d:=nT (Nat.le_refl _)
  have hrw:(kS al rs x y ls i).length ≤ 6:=by rw [U3]; exact hll
  have he2:1 = eR (d ++ [kS al rs x y ls i]):=CO.symm
  have hl2:d.length + 1 = (d ++ [kS al rs x y ls i]).length:=by simp
  rw [XM,e2]
  rcases aA2 d with h1 | h1
  ·have he0:e = 0:=by omega
   subst he0
   rw [pB]
   simp only [oD,Tryd.f14,SLM,simprocAttr]
   simp -implicitDefEqProofs (maxSteps:=2000000) (disch:=try exact Dz) only [↓DN,↓kAsg,↓kRet,UP,simprocAttr,↓eZ,↓dV,↓f8,↓bK,↓eV,↓oZ,↓eY,↓oP,↓eA,↓eD,↓eB,↓mE,↓mJ,↓mI,↓eM,LA,hc,dL,dY,dZ,eN,↓loop_a,ht,tN,List.length_append,CO,dQ,cY,↓ih]
   rw [e1]
   simp only [List.append_assoc,List.cons_append,List.nil_append,List.length_append,List.length_cons,List.length_nil,Nat.add_assoc,Nat.add_comm 1,Nat.zero_add]
  ·have he0:e = 1:=by omega
   subst he0
   rw [pB]
   simp only [oD,Tryd.f14,SLM,simprocAttr]
   simp -implicitDefEqProofs (maxSteps:=2000000) (disch:=try exact Dz) only [↓DN,↓kAsg,↓kRet,UP,simprocAttr,↓eZ,↓dV,↓f8,↓bK,↓eV,↓oZ,↓eY,↓oP,↓eA,↓eD,↓eB,↓mE,↓mJ,↓mI,↓eM,LA,hc,dL,dY,dZ,eN,↓loop_a,ht,tN,List.length_append,CO,dQ,cY,↓ih]
   rw [e1]
   simp only [List.append_assoc,List.cons_append,List.nil_append,List.length_append,List.length_cons,List.length_nil,Nat.add_assoc,Nat.add_comm 1,Nat.zero_add]
def n9 (al x y:Int) (ok:Bool):Int:=if ok = true then b5 al x y else 0
def kP (al:Int) (rs:List (List Int)) (x y:Int) (ok:Bool):List (List Int):=if ok = true then fD al rs x y (aE (b5 al x y)) 0 rs.length else []
def kR (ac:List Bool) (ok:Bool):List Bool:=if ok = true then ac else []
theorem H4 {p:Nat → Bool} {n:Nat} (h:(seek p n 0).isNone = true) {i:Nat} (hi:i < n):p i = false :=
 LF.1 (by simpa using h) i (by omega) (by omega)
theorem y3 {al:Int} {rs:List (List Int)} {ac:List Bool} (h:jB al rs ac = true):n7 (aE al).length rs:=by
 unfold jB at h
 simp only [Bool.and_eq_true] at h
 intro r hr
 obtain ⟨i,hi,rfl⟩:=List.getElem_of_mem hr
 have hb:=H4 h.2 hi
 unfold jT at hb
 rw [List.getD_eq_getElem?_getD,List.getElem?_eq_getElem hi] at hb
 apply Classical.byContradiction
 intro hc
 rw [aGT (by simp only [Option.getD_some]; omega)] at hb
 cases hb
theorem mT {al:Int} {rs:List (List Int)} {ac:List Bool} (h:jB al rs ac = true):1 ≤ rs.length ∧ rs.length ≤ 12 ∧ ac.length = rs.length ∧ eS al = true:=by
 unfold jB at h
 simp only [Bool.and_eq_true,decide_eq_true_eq] at h
 obtain ⟨⟨⟨⟨h1,h2⟩,h3⟩,h4⟩,_⟩:=h
 exact ⟨by omega,by omega,by omega,h1⟩
theorem SK {L n:Nat} (hn:6 ≤ n) (al x y:Int) (rs:List (List Int)) (ac:List Bool) (hs:aX rs) (ha:ac.length ≤ 4294967296) (hL:2 ^ 60 ≤ L):aA env L n 14 [.agg [.d (.int .i64 al),.d (.ivs rs.length (aC rs)),.d (.ivs ac.length (aB ac))],.d (.int .i64 x),.d (.int .i64 y)] [] = some (.tup [.agg [.d (.int .i64 (n9 al x y (eO al rs ac x y))),.d (.ivs (kP al rs x y (eO al rs ac x y)).length (aC (kP al rs x y (eO al rs ac x y)))),.d (.ivs (kR ac (eO al rs ac x y)).length (aB (kR ac (eO al rs ac x y))))],.d (.bool (eO al rs ac x y))],[]):=by
 have hrl:=hs.1
 unfold eO
 cases hv:jB al rs ac with
 | false =>
  obtain _ | n:=n; omega
  rw [oW]
  simp only [nH,Tryd.f14,SLM,simprocAttr]
  simp -implicitDefEqProofs (maxSteps:=2000000) (disch:=try exact Dz) only [↓DN,↓kAsg,↓kRet,UP,simprocAttr,↓eZ,↓dV,↓f8,↓bK,↓eV,↓oZ,↓eY,↓oP,↓eA,↓eD,↓eB,↓mE,↓mJ,↓mI,↓jN,↓eM,LA,hv,Bool.false_and,n9,kP,kR,Bool.false_eq_true,if_false,List.length_nil,lD,nV]
 | true =>
  cases hx:bL x with
  | false =>
   obtain _ | n:=n; omega
   rw [oW]
   simp only [nH,Tryd.f14,SLM,simprocAttr]
   simp -implicitDefEqProofs (maxSteps:=2000000) (disch:=try exact Dz) only [↓DN,↓kAsg,↓kRet,UP,simprocAttr,↓eZ,↓dV,↓f8,↓bK,↓eV,↓oZ,↓eY,↓oP,↓eA,↓eD,↓eB,↓mE,↓mJ,↓mI,↓jN,↓eM,LA,hv,hx,Bool.false_and,Bool.and_false,n9,kP,kR,Bool.false_eq_true,if_false,List.length_nil,lD,nV]
  | true =>
   cases hy:bL y with
   | false =>
    obtain _ | n:=n; omega
    rw [oW]
    simp only [nH,Tryd.f14,SLM,simprocAttr]
    simp -implicitDefEqProofs (maxSteps:=2000000) (disch:=try exact Dz) only [↓DN,↓kAsg,↓kRet,UP,simprocAttr,↓eZ,↓dV,↓f8,↓bK,↓eV,↓oZ,↓eY,↓oP,↓eA,↓eD,↓eB,↓mE,↓mJ,↓mI,↓jN,↓eM,LA,hv,hx,hy,Bool.false_and,Bool.and_false,n9,kP,kR,Bool.false_eq_true,if_false,List.length_nil,lD,nV]
   | true =>
    have bx:=gY.1 hx
    have by':=gY.1 hy
    have hw:=y3 hv
    have hll:=eP (b5 al x y)
    have loop_a:=fun {R:Type} {n:Nat} (hn:4 ≤ n) {k:Exit → List A → H → Option R} => jN (R:=R) (L:=L) (n:=n) hn hL (al:=al) (al2:=b5 al x y) (z:=ac.length) (cs:=aB ac) (cs2:=aB ac) hs hw bx.1 bx.2 by'.1 by'.2 (ls:=aE (b5 al x y)) pA hll (k:=k) rs.length 0 L [] 0 0 (by omega) (by omega) (by omega) (by simp) rfl rfl
    simp only [Int.toNat_zero,List.nil_append,lD] at loop_a
    have hrn:(fD al rs x y (aE (b5 al x y)) 0 rs.length).length = rs.length:=rA
    have htk:∀ z,z = rs.length → (aC (fD al rs x y (aE (b5 al x y)) 0 rs.length)).take z = aC (fD al rs x y (aE (b5 al x y)) 0 rs.length):=fun z hz => nT (by rw [hrn]; omega)
    have htk2:=htk rs.length rfl
    have hbt:(aB ac).take ac.length = aB ac:=iU (Nat.le_refl _)
    rcases aA2 (fD al rs x y (aE (b5 al x y)) 0 rs.length) with h1 | h1
    ·have hlen:=mT hv
     have:eR (fD al rs x y (aE (b5 al x y)) 0 rs.length) = 1:=by
      unfold eR
      rw [if_neg (by intro hc; rw [hc] at hrn; simp at hrn; omega)]
     omega
    ·obtain _ | n:=n; omega
     rw [oW]
     simp only [nH,Tryd.f14,SLM,simprocAttr]
     simp -implicitDefEqProofs (maxSteps:=2000000) (disch:=try exact Dz) only [↓DN,↓kAsg,↓kRet,UP,simprocAttr,↓eZ,↓dV,↓f8,↓bK,↓eV,↓oZ,↓eY,↓oP,↓eA,↓eD,↓eB,↓mE,↓mJ,↓mI,↓jN,↓eM,LA,hv,hx,hy,Bool.and_self,↓loop_a,h1,hrn,htk2,hbt,n9,kP,kR,if_true,d7,mZ]
theorem s7 {R:Type} {L n:Nat} {hq:H} {k:A → H → Option R} (hn:6 ≤ n) (al x y:Int) (rs:List (List Int)) (ac:List Bool) (hs:aX rs) (ha:ac.length ≤ 4294967296) (hL:2 ^ 60 ≤ L):aL env (aA env L n) hq 14 [.agg [.d (.int .i64 al),.d (.ivs rs.length (aC rs)),.d (.ivs ac.length (aB ac))],.d (.int .i64 x),.d (.int .i64 y)] k = k (.tup [.agg [.d (.int .i64 (n9 al x y (eO al rs ac x y))),.d (.ivs (kP al rs x y (eO al rs ac x y)).length (aC (kP al rs x y (eO al rs ac x y)))),.d (.ivs (kR ac (eO al rs ac x y)).length (aB (kR ac (eO al rs ac x y))))],.d (.bool (eO al rs ac x y))]) hq :=
 aV rfl (SK hn al x y rs ac hs ha hL) rfl (.inr rfl)
end Ev
end Go.Proofs.YtppdfjdfjfoddaaDoor
