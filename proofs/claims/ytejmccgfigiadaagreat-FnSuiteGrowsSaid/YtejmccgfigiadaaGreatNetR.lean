/-
  Products as the reference searches them: what the search of a product of automata finds.
-/
import Derived.Test.YtejmccgfigiadaaGreatNetQ
set_option linter.unusedSimpArgs false
set_option linter.unusedVariables false
set_option maxRecDepth 8000
set_option maxHeartbeats 4000000
namespace Go.Proofs.YtejmccgfigiadaaGreat
namespace Ev
theorem iR:∀ {N:Nat} {l:List Int},l.Nodup → (∀ x ∈ l,0 ≤ x ∧ x < N) → l.length ≤ N
 | 0,l,_,hr => by
  cases l with
  | nil => exact Nat.le_refl _
  | cons x l => have:=hr x List.mem_cons_self; omega
 | N + 1,l,hn,hr => by
  by_cases h:(N:Int) ∈ l
  ·have h1:=iR (N:=N) (l:=l.erase (N:Int)) (hn.erase (N:Int)) (fun x hx => by
    rw [hn.mem_erase_iff] at hx
    have:=hr x hx.2; omega)
   rw [List.length_erase_of_mem h] at h1
   omega
  ·have h1:=iR (N:=N) hn (fun x hx => by
    have:=hr x hx
    have:x ≠ N:=fun e => h (e ▸ hx)
    omega)
   omega
theorem J8 {dist:List Int} {d:Int}:∀ (ms out:List Int),out.Nodup → (addC dist d ms out).Nodup
 | [],out,h => h
 | m :: ms,out,h => by
  unfold addC
  split
  ·rename_i hc
   refine J8 ms _ ?_
   rw [List.nodup_append]
   exact ⟨h,by simp,fun a ha b hb => by simp at hb; subst hb; exact fun e => hc.2 (e ▸ ha)⟩
  ·exact J8 ms out h
theorem N1 {tab:List (List (List Int))} {dist:List Int} {k:Nat} {d:Int}:∀ (vs out:List Int),out.Nodup → (bH tab dist k d vs out).Nodup
 | [],out,h => h
 | v :: vs,out,h => N1 vs _ (J8 _ _ h)
section
variable {nx:Int → Int → List Int} {gl:Int → Bool} {ls:List Int} {aN:Nat} {tab:List (List (List Int))}
theorem aNH:V7 nx ls gl aN ((List.range aN).map (dQ gl)) 0:=by
 refine ⟨by simp,fun i hi => ?_⟩
 have e:((List.range aN).map (dQ gl)).getD i 0 = dQ gl i:=by
  rw [List.getD_eq_getElem?_getD,List.getElem?_map,List.getElem?_range hi]; rfl
 rw [e]
 by_cases hg:gl i = true
 ·refine .inl ⟨0,Nat.le_refl _,by unfold dQ; rw [if_pos hg]; rfl,OG.2 hg,fun e he => by omega⟩
 ·refine .inr ⟨by unfold dQ; rw [if_neg hg],fun e he ha => ?_⟩
  obtain rfl:e = 0:=by omega
  exact hg (OG.1 ha)
theorem aL0 (ht:Tab nx ls aN tab):Full nx ls gl aN (dG tab (aN + 1) 1 ((List.range aN).map (dQ gl))):=by
 have:=aJN ht (aN + 1) 0 ((List.range aN).map (dQ gl)) aNH (by
  have:=List.countP_le_length (p:=fun (x:Int) => decide (x < 0)) (l:=(List.range aN).map (dQ gl))
  simp at this ⊢
  omega)
 simpa using this
theorem JQ {d B:Int} (hd:d ≤ B):∀ (j i:Nat) (q:List Int × Bool),(∀ x ∈ q.1,x ≤ B) → ∀ x ∈ (dJ tab d j i q).1,x ≤ B
 | 0,_,q,h => h
 | j + 1,i,q,h => by
  simp only [dJ]
  split
  ·refine JQ hd j _ _ fun x hx => ?_
   rcases List.mem_or_eq_of_mem_set hx with hx | rfl
   ·exact h x hx
   ·exact hd
  ·exact JQ hd j _ q h
theorem XE {B:Int}:∀ (j:Nat) (d:Int) (dist:List Int),d + j ≤ B + 1 → (∀ x ∈ dist,x ≤ B) → ∀ x ∈ dG tab j d dist,x ≤ B
 | 0,d,dist,_,h => h
 | j + 1,d,dist,hd,h => by
  have hr:=JQ (tab:=tab) (d:=d) (B:=B) (by omega) dist.length 0 (dist,false) h
  simp only [dG]
  split
  ·exact XE j (d + 1) _ (by omega) hr
  ·exact hr
def Qs (nx:Int → Int → List Int) (ls:List Int) (gl:Int → Bool) (aN d:Nat) (at_:List Int):Prop:=(∀ v ∈ at_,(0 ≤ v ∧ v < aN) ∧ Far nx ls gl v d) ∧ at_ ≠ [] ∧ at_.length ≤ aN
theorem aM1 (ht:Tab nx ls aN tab) {dist:List Int} (hf:Full nx ls gl aN dist) (htt:aN ≤ 16777216):∀ d at_,Qs nx ls gl aN (d + 1) at_ → at_.length ≤ 16777216 ∧ (∀ x ∈ at_,0 ≤ x ∧ x < aN) ∧ (∃ e,e < ls.length ∧ bH tab dist e d at_ [] ≠ []) ∧ ∀ e,e < ls.length → bH tab dist e d at_ [] ≠ [] → Qs nx ls gl aN d (bH tab dist e d at_ []):=by
 intro d at_ ⟨h1,h2,h3⟩
 have hmem:∀ k x,k < ls.length → (x ∈ bH tab dist k d at_ [] ↔ ∃ v ∈ at_,x ∈ nx v (ls.getD k 0) ∧ (0 ≤ x ∧ x < aN) ∧ Far nx ls gl x d):=by
  intro k x hk
  rw [JB]
  simp only [List.not_mem_nil,false_or]
  have hl:ls.getD k 0 ∈ ls:=by rw [List.getD_eq_getElem?_getD,List.getElem?_eq_getElem hk]; exact List.getElem_mem hk
  constructor
  ·rintro ⟨v,hv,g1,g2⟩
   have hr:=(h1 v hv).1
   rw [QJ ht hr.1 hr.2 hk] at g1
   have hx:=ht.rng v _ hr.1 hr.2 hl x g1
   exact ⟨v,hv,g1,hx,(CL hf hx.1 hx.2).1 g2⟩
  ·rintro ⟨v,hv,g1,g2,g3⟩
   have hr:=(h1 v hv).1
   refine ⟨v,hv,?_,(CL hf g2.1 g2.2).2 g3⟩
   rw [QJ ht hr.1 hr.2 hk]; exact g1
 refine ⟨by omega,fun x hx => (h1 x hx).1,?_,?_⟩
 ·obtain ⟨v,hv⟩:=List.exists_mem_of_ne_nil _ h2
  obtain ⟨hr,hfar⟩:=h1 v hv
  obtain ⟨l,hl,m,hm,hfm⟩:=JV hfar
  obtain ⟨e,he,rfl⟩:=List.getElem_of_mem hl
  refine ⟨e,he,fun hc => ?_⟩
  have hl2:ls.getD e 0 = ls[e]:=by rw [List.getD_eq_getElem?_getD,List.getElem?_eq_getElem he]; rfl
  have:m ∈ bH tab dist e d at_ []:=(hmem e m he).2 ⟨v,hv,by rw [hl2]; exact hm,ht.rng v _ hr.1 hr.2 hl m hm,hfm⟩
  rw [hc] at this
  cases this
 ·intro e he hne
  refine ⟨fun x hx => ?_,hne,?_⟩
  ·obtain ⟨v,hv,g1,g2,g3⟩:=(hmem e x he).1 hx
   exact ⟨g2,g3⟩
  ·refine iR (N1 _ _ (by simp)) fun x hx => ?_
   obtain ⟨v,hv,g1,g2,g3⟩:=(hmem e x he).1 hx
   exact g2
end
def movT (nx:Int → Int → List Int) (ls:List Int) (aN:Nat):List (List (List Int)):=(List.range aN).map fun (v:Nat) => ls.map (nx v)
def QO (nx:Int → Int → List Int) (gl:Int → Bool) (ls:List Int) (aN:Nat) (s:Int):List Int × Bool :=
 ZE (movT nx ls aN) ls (dG (movT nx ls aN) (aN + 1) 1 ((List.range aN).map (dQ gl))) s
theorem TU {nx:Int → Int → List Int} {ls:List Int} {aN:Nat} (hr:∀ v c:Int,0 ≤ v → v < aN → c ∈ ls → ∀ m ∈ nx v c,0 ≤ m ∧ m < aN):Tab nx ls aN (movT nx ls aN):=by
 refine ⟨by simp [movT],fun v hv => ?_,hr⟩
 rw [movT,List.getD_eq_getElem?_getD,List.getElem?_map,List.getElem?_range hv]; rfl
theorem aEv {nx:Int → Int → List Int} {gl:Int → Bool} {ls:List Int} {aN:Nat} {s:Int} (hr:∀ v c:Int,0 ≤ v → v < aN → c ∈ ls → ∀ m ∈ nx v c,0 ≤ m ∧ m < aN) (ha:ls.Pairwise (· < ·)) (h0:0 ≤ s) (h1:s < aN):BF (Hits nx ls [s] gl) (QO nx gl ls aN s) :=
 aLi (TU hr) (aL0 (TU hr)) ha h0 h1
theorem N4 {L n:Nat} (hn:11 ≤ n) (hL:2 ^ 60 ≤ L) {n2:Nat} {d2:List D} {kd go:Int} {al s:Int} {start zs:List Int} {nx:Int → Int → List Int} {gl:Int → Bool} {tt:Nat} (hzl:zs.length ≤ 1000) (hsl:start.length = zs.length) (hpr:∀ i,i ≤ zs.length → 0 ≤ (zs.take i).foldl (· * ·) 1 ∧ (zs.take i).foldl (· * ·) 1 ≤ 16777216) (hzt:zs.foldl (· * ·) (1:Int) = (tt:Int)) (hzp:∀ z ∈ zs,0 < z ∧ z ≤ 65536) (hen:I5 zs start 0) (hes:encN zs start 0 = s) (hs0:0 ≤ s) (hs1:s < tt)
  (he_z:∀ {n:Nat},2 ≤ n → aA env L n 154 [.agg [.d (.ivs 0 []),.d (.ivs n2 d2),.d (.ivs start.length (ints start)),nI al,nI kd,nI go]] [] = some (.d (.ivs zs.length (ints zs)),[]))
  (kc_x:∀ (v:Nat) (l:Int),v < tt → l ∈ aB al → ∀ {R:Type} {n:Nat} {hq:H} {k:KA R},7 ≤ n → aY env (aA env L n) hq 175 [.agg [.d (.ivs 0 []),.d (.ivs n2 d2),.d (.ivs start.length (ints start)),nI al,nI kd,nI go],.d (.ivs zs.length (ints zs)),.d (.ivs zs.length (ints (decN zs v))),nI l] k = k (.d (.ivs (nx v l).length (ints (nx v l)))) hq)
  (kl_x:∀ (v:Nat),v < tt → ∀ {R:Type} {n:Nat} {k:A → Option R},2 ≤ n → sY (aA env L n) 156 [.agg [.d (.ivs 0 []),.d (.ivs n2 d2),.d (.ivs start.length (ints start)),nI al,nI kd,nI go],.d (.ivs zs.length (ints (decN zs v))),.d (.ivs ((movT nx (aB al) tt).getD v []).length (aO ((movT nx (aB al) tt).getD v [])))] k = k (.d (.bool (gl v))))
  (hw:∀ v c:Int,0 ≤ v → v < tt → c ∈ aB al → (nx v c).length ≤ 64 ∧ ∀ m ∈ nx v c,0 ≤ m ∧ m < tt) :
  aA env L n 127 [.agg [.d .nils,.d (.ivs n2 d2),.d (.ivs start.length (ints start)),nI al,nI kd,nI go]] [] = some (.tup [.d (.str (txt (QO nx gl (aB al) tt s).1)),.d (.bool (QO nx gl (aB al) tt s).2)],[]):=by
 have htt:tt ≤ 16777216:=by have:=(hpr zs.length (Nat.le_refl _)).2; rw [List.take_length,hzt] at this; omega
 have hrng:∀ v c:Int,0 ≤ v → v < tt → c ∈ aB al → ∀ m ∈ nx v c,0 ≤ m ∧ m < tt:=fun v c h1 h2 h3 => (hw v c h1 h2 h3).2
 have hT:=TU hrng
 have hF:=aL0 (gl:=gl) hT
 have hq:=aM1 hT hF htt
 have hls:=bY al
 have hTl:(movT nx (aB al) tt).length = tt:=by simp [movT]
 have hTin:yA (movT nx (aB al) tt) tt:=by
  refine ⟨hTl,fun i hi => ?_⟩
  rw [hT.row i hi]
  refine ⟨by simp; omega,fun r hr => ?_⟩
  obtain ⟨c,hc,rfl⟩:=List.mem_map.1 hr
  have:=hw i c (by omega) (by omega) hc
  exact ⟨by omega,this.2⟩
 have hkk:∀ kk,kk < (aB al).length → ∀ i,i < tt → kk < ((movT nx (aB al) tt).getD i []).length ∧ (((movT nx (aB al) tt).getD i []).getD kk []).length ≤ 64:=by
  intro kk hk i hi
  rw [hT.row i hi]
  refine ⟨by simpa using hk,?_⟩
  rw [List.getD_eq_getElem?_getD,List.getElem?_map,List.getElem?_eq_getElem hk]
  exact (hw i _ (by omega) (by omega) (List.getElem_mem hk)).1
 have kc_z:=fun {R:Type} {n:Nat} (hn:2 ≤ n) {k:KA R} => @qZ R env (aA env L n) [.arr [] 0 0,.box [.sl 0 0 0 0,.d (.ivs n2 d2),.d (.ivs start.length (ints start)),nI al,nI kd,nI go]] [.arr [] 0 0] [.ice [] 0 0] [.ice [] 0 0,.box [.sl 0 0 0 0,.d (.ivs n2 d2),.d (.ivs start.length (ints start)),nI al,nI kd,nI go]] 154 [.agg [.sl 0 0 0 0,.d (.ivs n2 d2),.d (.ivs start.length (ints start)),nI al,nI kd,nI go]] [.agg [.d (.ivs 0 []),.d (.ivs n2 d2),.d (.ivs start.length (ints start)),nI al,nI kd,nI go]] _ k [0] [0] aAM rfl kr rfl rfl rfl (he_z hn) rfl (by simp) rfl
 have loop_a:=fun {R:Type} {n:Nat} (hn:1 ≤ n) {k:KE R} => @UD R L n hn (.ivs n2 d2) (.ivs start.length (ints start)) (.int .i64 kd) (.int .i64 go) al zs hzl hpr k zs.length 0 L (by omega) (by omega)
 have kc_m:=fun {R:Type} {n:Nat} (hn:9 ≤ n) {k:KA R} => @qZ R env (aA env L n) [.box [.sl 1 0 0 0,.d (.ivs n2 d2),.d (.ivs start.length (ints start)),nI al,nI kd,nI go],.ice [] 0 0] [.ice [] 0 0] [.ice [] 0 0] [.box [.sl 1 0 0 0,.d (.ivs n2 d2),.d (.ivs start.length (ints start)),nI al,nI kd,nI go],.ice [] 0 0] 155 [.agg [.sl 1 0 0 0,.d (.ivs n2 d2),.d (.ivs start.length (ints start)),nI al,nI kd,nI go],.d (.ivs zs.length (ints zs)),nI tt] [.agg [.d (.ivs 0 []),.d (.ivs n2 d2),.d (.ivs start.length (ints start)),nI al,nI kd,nI go],.d (.ivs zs.length (ints zs)),nI tt] _ k [1] [1] aAy rfl kr rfl rfl rfl (aD7 hn hL hzl htt hzp kc_x) rfl (by simp) rfl
 have loop_b:=fun {R:Type} {n:Nat} (hn:4 ≤ n) {k:KE R} => @TW R L n hn hL (.ivs n2 d2) (.ivs start.length (ints start)) (.int .i64 kd) (.int .i64 go) al zs (movT nx (aB al) tt) tt zs.length gl hzl htt hzp hTl kl_x k tt 0 L (List.replicate tt 0) tt (by omega) (by omega) rfl (by simp)
 have hd0:((List.range tt).map (dQ gl)).length = tt:=by simp
 have hd1:(dG (movT nx (aB al) tt) (tt + 1) 1 ((List.range tt).map (dQ gl))).length = tt:=hF.1
 have kc_d:∀ {R:Type} {n:Nat} (hn:4 ≤ n) {k:KA R},aY env (aA env L n) [.box [.sl 2 0 0 0,.d (.ivs n2 d2),.d (.ivs start.length (ints start)),nI al,nI kd,nI go],.arr (ints ((List.range tt).map (dQ gl))) 1 0,.ice [] 0 0] 158 [.d (.ivs (movT nx (aB al) tt).length (tabD (movT nx (aB al) tt))),.sl 1 0 0 ((List.range tt).map (dQ gl)).length] k = k (.tup []) [.box [.sl 2 0 0 0,.d (.ivs n2 d2),.d (.ivs start.length (ints start)),nI al,nI kd,nI go],.arr (ints (dG (movT nx (aB al) tt) (tt + 1) 1 ((List.range tt).map (dQ gl)))) 1 0,.ice [] 0 0]:=fun {R n} hn {k} => NW (id:=1) rfl rfl aCW rfl (aFP hn hL hTin htt _ hd0)
 have kc_e:=fun {R:Type} {n:Nat} (hn:2 ≤ n) {hq:H} {k:KA R} => @aCV R L n hq k hn zs start hzl hsl hen hL
 have hQ0:0 ≤ (dG (movT nx (aB al) tt) (tt + 1) 1 ((List.range tt).map (dQ gl))).getD s.toNat 0 → Qs nx (aB al) gl tt ((dG (movT nx (aB al) tt) (tt + 1) 1 ((List.range tt).map (dQ gl))).getD s.toNat 0).toNat [s]:=by
  intro h
  refine ⟨fun v hv => ?_,by simp,by simp; omega⟩
  simp at hv
  subst hv
  exact ⟨⟨hs0,hs1⟩,(CL hF hs0 hs1).1 (by omega)⟩
 have hdb:(dG (movT nx (aB al) tt) (tt + 1) 1 ((List.range tt).map (dQ gl))).getD s.toNat 0 ≤ 16777300:=by
  have hk:s.toNat < (dG (movT nx (aB al) tt) (tt + 1) 1 ((List.range tt).map (dQ gl))).length:=by omega
  refine XE (B:=16777300) _ _ _ (by omega) (fun x hx => ?_) _ (j6 hk)
  obtain ⟨v,_,rfl⟩:=List.mem_map.1 hx
  unfold dQ
  split <;> omega
 simp only [Int.natCast_zero,List.take_zero,List.foldl_nil,List.nil_append,hzt,← List.range_eq_range'] at loop_a loop_b
 rw [hes] at kc_e
 have em:(List.range tt).map (fun (x:Nat) => (aB al).map (nx x)) = movT nx (aB al) tt:=rfl
 rw [em] at kc_m
 rw [hTl] at kc_d loop_b
 rw [hd0] at kc_d
 unfold QO ZE
 have loop_2:=fun {R:Type} {n:Nat} (hn:6 ≤ n) {k:KE R} (j:Nat) (hj) (hm) (h1) (h2) (h3) => @Q7 R L n hn hL (.ivs n2 d2) (.ivs start.length (ints start)) (.int .i64 kd) (.int .i64 go) al zs (aB al) _ _ tt zs.length tt hTin hd1 htt hkk hls (fun c hc => cJ c hc) _ hq k j ((dG (movT nx (aB al) tt) (tt + 1) 1 ((List.range tt).map (dQ gl))).getD s.toNat 0) L [s] [] hj hm h1 h2 h3
 rw [hTl,hd1] at loop_2
 clear hkk hTin kl_x kc_x he_z hw hrng
 have hgt0:0 < (dG (movT nx (aB al) tt) (tt + 1) 1 ((List.range tt).map (dQ gl))).getD s.toNat 0 → Qs nx (aB al) gl tt (((dG (movT nx (aB al) tt) (tt + 1) 1 ((List.range tt).map (dQ gl))).getD s.toNat 0).toNat - 1 + 1) [s]:=by
  intro h
  have h2:=hQ0 (by omega)
  rw [show ((dG (movT nx (aB al) tt) (tt + 1) 1 ((List.range tt).map (dQ gl))).getD s.toNat 0).toNat - 1 + 1 = ((dG (movT nx (aB al) tt) (tt + 1) 1 ((List.range tt).map (dQ gl))).getD s.toNat 0).toNat by omega]
  exact h2
 have loop_2:=fun {R:Type} {n:Nat} (hn:6 ≤ n) {k:KE R} (h:0 < (dG (movT nx (aB al) tt) (tt + 1) 1 ((List.range tt).map (dQ gl))).getD s.toNat 0) => loop_2 (R:=R) (n:=n) hn (k:=k) (((dG (movT nx (aB al) tt) (tt + 1) 1 ((List.range tt).map (dQ gl))).getD s.toNat 0).toNat - 1) (by omega) (by omega) hdb (hgt0 h) (by simp only [List.length_nil]; omega)
 clear hT hF hq hQ0 hgt0
 generalize dG (movT nx (aB al) tt) (tt + 1) 1 ((List.range tt).map (dQ gl)) = dist at *
 generalize movT nx (aB al) tt = tab at *
 generalize (List.range tt).map (dQ gl) = dz at *
 have hrep:(List.replicate tt (0:Int)).length = tt:=by simp
 have hsn:s.toNat < dist.length:=by omega
 have hs2:s < (dist.length:Int):=by omega
 have hs3:s < (tt:Int):=by omega
 have htt0:(0:Int) ≤ tt:=by omega
 have esn:ints [s] = [.int .i64 s]:=rfl
 have e1:[s].length = 1:=rfl
 rw [esn,e1] at loop_2
 have loop_z:=fun {R:Type} {n m:Nat} {k:KE R} (h:¬ 0 < dist.getD s.toNat 0) => @Q0 R L n m (.ivs n2 d2) (.ivs start.length (ints start)) (.int .i64 kd) (.int .i64 go) al zs (aB al) dist tab tt zs.length tt (dist.getD s.toNat 0) [] [s] h k
 rw [hTl,hd1,esn,e1] at loop_z
 generalize hdd:dist.getD s.toNat 0 = d at *
 obtain _ | L:=L; omega
 rcases Int.lt_trichotomy d 0 with hlt | heq | hgt
 ·have loop_z:=fun {R:Type} {n m:Nat} {k:KE R} => loop_z (R:=R) (n:=n) (m:=m) (k:=k) (by omega)
  have hne:¬ d = 0:=by omega
  rw [if_pos hlt]
  clear loop_2
  obtain _ | n:=n; omega
  simp -implicitDefEqProofs (maxSteps:=2000000) (disch:=try exact Dz) only [↓DN,↓kAsg,↓kRet,UP,simprocAttr,↓fS,↓kc_z,↓loop_a,↓kc_m,↓FJ,↓loop_b,↓kc_d,↓kc_e,↓loop_z,hdd,hne,hs0,hs3,DJ,yE,Tryz.f127]
  rfl
 ·subst heq
  have loop_z:=fun {R:Type} {n m:Nat} {k:KE R} => loop_z (R:=R) (n:=n) (m:=m) (k:=k) (by omega)
  rw [if_neg (by omega)]
  clear loop_2
  obtain _ | n:=n; omega
  simp -implicitDefEqProofs (maxSteps:=2000000) (disch:=try exact Dz) only [↓DN,↓kAsg,↓kRet,UP,simprocAttr,↓fS,↓kc_z,↓loop_a,↓kc_m,↓FJ,↓loop_b,↓kc_d,↓kc_e,↓loop_z,hdd,hs0,hs3,DJ,yE,Tryz.f127]
  rfl
 ·have loop_y:=fun {R:Type} {n:Nat} (hn:6 ≤ n) {k:KE R} => loop_2 (R:=R) (n:=n) hn (k:=k) hgt
  rw [if_neg (by omega)]
  simp only [List.nil_append] at loop_y
  have ed:d.toNat - 1 + 1 = d.toNat:=by omega
  rw [ed] at loop_y
  clear loop_2 loop_z
  generalize gEnd tab dist (aB al) d.toNat [s] = ge at *
  generalize lV tab dist (aB al) d.toNat [s] = gr at *
  obtain _ | n:=n; omega
  simp -implicitDefEqProofs (maxSteps:=2000000) (disch:=try exact Dz) only [↓DN,↓kAsg,↓kRet,UP,simprocAttr,↓fS,↓kc_z,↓loop_a,↓kc_m,↓FJ,↓loop_b,↓kc_d,↓kc_e,↓loop_y,hdd,hs0,hs3,DJ,yE,Tryz.f127]
end Ev
end Go.Proofs.YtejmccgfigiadaaGreat
