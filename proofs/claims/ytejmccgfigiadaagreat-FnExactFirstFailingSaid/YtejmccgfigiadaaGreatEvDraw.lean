/-
  Regions that draw their order: the order of the text serves every order.
-/
import Derived.Test.YtejmccgfigiadaaGreatEvCalls
set_option linter.unusedSimpArgs false
set_option linter.unusedVariables false
namespace Go.Proofs.YtejmccgfigiadaaGreat
namespace Ev
variable {G:Gnd}
def nP (f:Nat → Option Nat):H → List Nat → H → H
 | h,p :: ps,o :: os => nP f (h.set p (mapO f o)) ps os
 | h,_,_ => h
theorem aDJ (f:Nat → Option Nat):∀ (pos:List Nat) (h os:H),(nP f h pos os).length = h.length
 | [],h,os => by simp [nP]
 | p :: ps,h,[] => by simp [nP]
 | p :: ps,h,o :: os => by simp only [nP]; rw [aDJ f ps]; simp
theorem aD5 (f:Nat → Option Nat):∀ (pos:List Nat) (h os:H) (id:Nat),pos.Nodup → (∀ p ∈ pos,p < h.length) → os.length = pos.length →
  (nP f h pos os)[id]? = match aN pos id with
   | some k => (os[k]?).map (mapO f)
   | none => h[id]?
 | [],h,os,id,_,_,_ => by simp [nP,aN]
 | p :: ps,h,[],id,_,_,hl => by simp at hl
 | p :: ps,h,o :: os,id,hn,hr,hl => by
  simp only [List.nodup_cons] at hn
  simp only [nP]
  rw [aD5 f ps _ os id hn.2 (fun q hq => by simpa using hr q (by simp [hq])) (by simpa using hl)]
  simp only [aN]
  by_cases e:p = id
  ·subst e
   rw [FM hn.1,if_pos rfl]
   simp [hr p (by simp)]
  ·rw [if_neg e]
   cases hp:aN ps id with
   | none => simp [List.getElem?_set_ne e]
   | some k => simp
def wL (pos:List Nat) (ρ ρ1:Rho):Rho:=fun id =>
 match aN pos id with
 | some k => ρ1 k
 | none => ρ id
theorem aOS {xs ys:List Nat} {i k:Nat} (h:aN xs i = some k):aN (xs ++ ys) i = some k:=by
 induction xs generalizing k with
 | nil => simp [aN] at h
 | cons x xs ih =>
  simp only [List.cons_append,aN] at h ⊢
  split at h
  ·rename_i e; rw [if_pos e]; exact h
  ·rename_i e
   rw [if_neg e]
   cases hp:aN xs i with
   | none => rw [hp] at h; cases h
   | some m => rw [hp] at h; rw [ih hp]; exact h
theorem aIM {h:H} {ρ:Rho} {w:World} {I:Nat → Prop} {ord fresh:List Nat} {h1:H} {ρ1:Rho} {w':World} {I':Nat → Prop}
  (r:Rel G h ρ w I) (hn:(ord ++ fresh).Nodup) (hr:∀ i ∈ ord,i < h.length) (hv:∀ i ∈ fresh,h[i]? = some .void) (hlen:h1.length = ord.length + fresh.length) (s:Step G (pack h ord) (sub ord ρ) w I h1 ρ1 w' I') :
  Step G h ρ w I (nP (fun (k:Nat) => (ord ++ fresh)[k]?) h (ord ++ fresh) h1) (wL (ord ++ fresh) ρ ρ1) w' I' ∧
  ∀ (id k:Nat),(fun (k:Nat) => (ord ++ fresh)[k]?) id = some k → oD h1 ρ1 w' I' id (nP (fun (k:Nat) => (ord ++ fresh)[k]?) h (ord ++ fresh) h1) (wL (ord ++ fresh) ρ ρ1) w' I' k:=by
 have hno:ord.Nodup:=(List.nodup_append.1 hn).1
 have hrp:∀ p ∈ ord ++ fresh,p < h.length:=fun p hp => (List.mem_append.1 hp).elim (hr p) (fun h2 => (List.getElem?_eq_some_iff.1 (hv p h2)).1)
 have get:=fun id => aD5 (fun (k:Nat) => (ord ++ fresh)[k]?) (ord ++ fresh) h h1 id hn hrp (by simpa using hlen)
 generalize hf:(fun (k:Nat) => (ord ++ fresh)[k]?) = f at *
 have hfk:∀ k,f k = (ord ++ fresh)[k]?:=fun k => by rw [← hf]
 have loc:∀ k id,f k = some id → (nP f h (ord ++ fresh) h1)[id]? = (h1[k]?).map (mapO f) ∧ wL (ord ++ fresh) ρ ρ1 id = ρ1 k:=by
  intro k id hk
  rw [hfk] at hk
  have hp:=tB hn hk
  exact ⟨by rw [get,hp],by simp [wL,hp]⟩
 have refs:∀ k id,f k = some id → oD h1 ρ1 w' I' k (nP f h (ord ++ fresh) h1) (wL (ord ++ fresh) ρ ρ1) w' I' id:=fun k id hk =>
  sV (fun o ho => by rw [(loc k id hk).1,ho]; rfl) (loc k id hk).2
 have orig:∀ id o,(nP f h (ord ++ fresh) h1)[id]? = some o →
   (∃ k o',f k = some id ∧ h1[k]? = some o' ∧ o = mapO f o' ∧ wL (ord ++ fresh) ρ ρ1 id = ρ1 k) ∨
   (id ∉ ord ∧ h[id]? = some o ∧ wL (ord ++ fresh) ρ ρ1 id = ρ id):=by
  intro id o ho
  rw [get] at ho
  cases hp:aN (ord ++ fresh) id with
  | some k =>
   rw [hp] at ho
   simp only [Option.map_eq_some_iff] at ho
   obtain ⟨o',ho',rfl⟩:=ho
   have hb:f k = some id:=by rw [hfk]; exact cZ hp
   exact .inl ⟨k,o',hb,ho',rfl,(loc k id hb).2⟩
  | none =>
   rw [hp] at ho
   have hni:id ∉ ord:=fun hm => by obtain ⟨k,hk⟩:=gD (List.mem_append_left fresh hm); rw [hk] at hp; cases hp
   exact .inr ⟨hni,ho,by simp [wL,hp]⟩
 have other:∀ id o b,id ∉ ord → h[id]? = some o → live o → ρ id = some b → ¬ AF (pack h ord) (sub ord ρ) b:=by
  intro id o b hni hid hlv hρ ho
  obtain ⟨j,o2,hj,hρj,hjo,hlv2⟩:=GL hr ho
  have:=r.inj id j b o o2 hρ hρj hid hjo hlv hlv2
  subst this
  exact hni hj
 have keepOther:∀ id o b,id ∉ ord → h[id]? = some o → live o → ρ id = some b → w'.heap[b]? = w.heap[b]?:=fun id o b hni hid hlv hρ =>
  s.keep.same b (r.own_not_imm ⟨id,o,hρ,hid,hlv⟩).2 (other id o b hni hid hlv hρ)
 have ownSub:∀ b,AF (pack h ord) (sub ord ρ) b → AF h ρ b:=fun b ho => by
  obtain ⟨j,o2,_,hρj,hjo,hlv2⟩:=GL hr ho
  exact ⟨j,o2,hρj,hjo,hlv2⟩
 have packRef:∀ id k,aN ord id = some k → oD h ρ w I id (pack h ord) (sub ord ρ) w I k:=fun id k hk =>
  sV (fun o ho => xL (cZ hk) ho) (by simp [sub,cZ hk])
 have backOf:∀ id k,aN ord id = some k → f k = some id:=fun id k hp => by
  rw [hfk]
  exact cZ (aOS hp)
 have notFresh:∀ id,id ∉ ord → (∃ o,h[id]? = some o ∧ o ≠ .void) → aN (ord ++ fresh) id = none:=fun id hni ⟨o,ho,hne⟩ =>
  FM fun hm => (List.mem_append.1 hm).elim hni fun h2 => hne (by have:=hv id h2; rw [ho] at this; exact Option.some.inj this)
 have ext:Ext h ρ w I (nP f h (ord ++ fresh) h1) (wL (ord ++ fresh) ρ ρ1) w' I':=by
  refine ⟨s.ext.imm,fun id gen off len a cap hs => ?_,fun id gen b hs => ?_,fun id b hs => ?_⟩
  ·cases hp:aN ord id with
   | some k => exact (refs k id (backOf id k hp)).1 _ _ _ _ _ (s.ext.sl _ _ _ _ _ _ ((packRef id k hp).1 _ _ _ _ _ hs))
   | none =>
    have hni:id ∉ ord:=fun hm => by obtain ⟨k,hk⟩:=gD hm; rw [hk] at hp; cases hp
    cases hid:h[id]? with
    | none => simp [slOK,hid] at hs
    | some o =>
     have hnv:o ≠ .void:=fun e => by rw [e] at hid; simp [slOK,hid] at hs
     have hpn:=notFresh id hni ⟨o,hid,hnv⟩
     have hg:(nP f h (ord ++ fresh) h1)[id]? = h[id]?:=by rw [get,hpn]
     have hm:wL (ord ++ fresh) ρ ρ1 id = ρ id:=by simp [wL,hpn]
     exact UL s.ext.imm hg hm (fun b hb ⟨o2,ho2,hl2⟩ => keepOther id o2 b hni ho2 hl2 hb) hs
  ·cases hp:aN ord id with
   | some k => exact (refs k id (backOf id k hp)).2.1 _ _ (s.ext.pt _ _ _ ((packRef id k hp).2.1 _ _ hs))
   | none =>
    have hni:id ∉ ord:=fun hm => by obtain ⟨k,hk⟩:=gD hm; rw [hk] at hp; cases hp
    cases hid:h[id]? with
    | none => simp [ptOK,hid] at hs
    | some o =>
     have hnv:o ≠ .void:=fun e => by rw [e] at hid; simp [ptOK,hid] at hs
     have hpn:=notFresh id hni ⟨o,hid,hnv⟩
     have hg:(nP f h (ord ++ fresh) h1)[id]? = h[id]?:=by rw [get,hpn]
     have hm:wL (ord ++ fresh) ρ ρ1 id = ρ id:=by simp [wL,hpn]
     exact WO s.ext.imm hg hm hs
  ·cases hp:aN ord id with
   | some k => exact (refs k id (backOf id k hp)).2.2 _ (s.ext.mp _ _ ((packRef id k hp).2.2 _ hs))
   | none =>
    have hni:id ∉ ord:=fun hm => by obtain ⟨k,hk⟩:=gD hm; rw [hk] at hp; cases hp
    cases hid:h[id]? with
    | none => simp [mpOK,hid] at hs
    | some o =>
     have hnv:o ≠ .void:=fun e => by rw [e] at hid; simp [mpOK,hid] at hs
     have hpn:=notFresh id hni ⟨o,hid,hnv⟩
     have hg:(nP f h (ord ++ fresh) h1)[id]? = h[id]?:=by rw [get,hpn]
     have hm:wL (ord ++ fresh) ρ ρ1 id = ρ id:=by simp [wL,hpn]
     exact aDM hg hm hs
 refine ⟨⟨⟨fun id o ho => ?_,fun id id' b o o' hb hb' ho ho' hlv hlv' => ?_,s.rel.imm,s.rel.ground⟩,ext,⟨s.keep.os,s.keep.tape,s.keep.output,s.keep.size,fun b hb hno => s.keep.same b hb (fun h => hno (ownSub b h)),fun b hb => ?_,s.keep.drawn⟩,fun b hb => ?_,by rw [aDJ]; exact Nat.le_refl _⟩,refs⟩
 ·rcases orig id o ho with ⟨k,o',hk,hk1,rfl,hm⟩ | ⟨hni,hid,hm⟩
  ·exact aNd refs hm (s.rel.obj k o' hk1)
  ·refine aEy ext hm (fun b hb hl => ⟨keepOther id o b hni hid hl hb,fun hI' => ?_⟩) (r.obj id o hid)
   have hno:=r.own_not_imm ⟨id,o,hb,hid,hl⟩
   rcases s.keep.new b hI' with h | h | h
   ·exact hno.1 h
   ·omega
   ·exact other id o b hni hid hl hb h
 ·rcases orig id o ho with ⟨k,o1,hk,hk1,rfl,hm⟩ | ⟨hni,hid,hm⟩ <;> rcases orig id' o' ho' with ⟨k',o1',hk',hk1',rfl,hm'⟩ | ⟨hni',hid',hm'⟩
  ·rw [hm] at hb; rw [hm'] at hb'
   have:=s.rel.inj k k' b o1 o1' hb hb' hk1 hk1' ((lR _ _).1 hlv) ((lR _ _).1 hlv')
   subst this
   rw [hk] at hk'; cases hk'; rfl
  ·rw [hm] at hb; rw [hm'] at hb'
   exfalso
   rcases s.own b ⟨k,o1,hb,hk1,(lR _ _).1 hlv⟩ with h | h
   ·exact other id' _ b hni' hid' hlv' hb' h
   ·have:=(r.own_not_imm ⟨id',_,hb',hid',hlv'⟩).2; omega
  ·rw [hm] at hb; rw [hm'] at hb'
   exfalso
   rcases s.own b ⟨k',o1',hb',hk1',(lR _ _).1 hlv'⟩ with h | h
   ·exact other id _ b hni hid hlv hb h
   ·have:=(r.own_not_imm ⟨id,_,hb,hid,hlv⟩).2; omega
  ·rw [hm] at hb; rw [hm'] at hb'
   exact r.inj id id' b o o' hb hb' hid hid' hlv hlv'
 ·rcases s.keep.new b hb with h | h | h
  ·exact .inl h
  ·exact .inr (.inl h)
  ·exact .inr (.inr (ownSub b h))
 ·obtain ⟨id,o,hm0,ho,hlv⟩:=hb
  rcases orig id o ho with ⟨k,o1,hk,hk1,rfl,hm⟩ | ⟨hni,hid,hm⟩
  ·rw [hm] at hm0
   rcases s.own b ⟨k,o1,hm0,hk1,(lR _ _).1 hlv⟩ with h | h
   ·exact .inl (ownSub b h)
   ·exact .inr h
  ·rw [hm] at hm0
   exact .inl ⟨id,o,hm0,hid,hlv⟩
def putW:List (Nat × O) → H → H
 | [],h => h
 | (p,o) :: W,h => putW W (h.set p o)
theorem aJC (f:Nat → Option Nat):∀ (pos:List Nat) (h os:H),nP f h pos os = putW (pos.zip (os.map (mapO f))) h
 | [],h,os => by simp [nP,putW]
 | p :: ps,h,[] => by simp [nP,putW]
 | p :: ps,h,o :: os => by simp only [nP,List.map_cons,List.zip_cons_cons,putW]; exact aJC f ps _ os
theorem aFR:∀ (W:List (Nat × O)) (h:H),(putW W h).length = h.length
 | [],h => rfl
 | (p,o) :: W,h => by simp only [putW]; rw [aFR W]; simp
def wrW (id:Nat):List (Nat × O) → Option O → Option O
 | [],v => v
 | (p,o) :: W,v => wrW id W (if p = id then v.map (fun _ => o) else v)
theorem aG0 (id:Nat):∀ (W:List (Nat × O)) (h:H),(putW W h)[id]? = wrW id W h[id]?
 | [],h => rfl
 | (p,o) :: W,h => by
  simp only [putW,wrW]
  rw [aG0 id W]
  congr 1
  rw [List.getElem?_set]
  by_cases e:p = id
  ·subst e
   simp only [if_true]
   by_cases hl:p < h.length
   ·simp [hl]
   ·simp [hl]
  ·simp [e]
theorem aP9 (id:Nat):∀ (W:List (Nat × O)) (v:Option O),id ∉ W.map (·.1) → wrW id W v = v
 | [],v,_ => rfl
 | (p,o) :: W,v,h => by
  simp only [List.map_cons,List.mem_cons,not_or] at h
  simp only [wrW]
  rw [if_neg (Ne.symm h.1)]
  exact aP9 id W v h.2
mutual
theorem aRK {ord more:List Nat}:∀ a:A,(∀ i ∈ idsA a,i ∈ ord) → mapA (fun (k:Nat) => (ord ++ more)[k]?) (mapA (aN ord) a) = a
 | .d x,_ => by simp only [mapA]
 | .sl id gen off len,h => by
  obtain ⟨k,hk⟩:=gD (h id (by simp [idsA]))
  simp only [mapA,hk,List.getElem?_append_left (RN hk),cZ hk]
 | .ptr id gen off,h => by
  obtain ⟨k,hk⟩:=gD (h id (by simp [idsA]))
  simp only [mapA,hk,List.getElem?_append_left (RN hk),cZ hk]
 | .mp id,h => by
  obtain ⟨k,hk⟩:=gD (h id (by simp [idsA]))
  simp only [mapA,hk,List.getElem?_append_left (RN hk),cZ hk]
 | .clo g caps,h => by simp only [mapA]; rw [xV caps (fun i hi => h i (by simpa only [idsA] using hi))]
 | .agg cs,h => by simp only [mapA]; rw [xV cs (fun i hi => h i (by simpa only [idsA] using hi))]
 | .tup cs,h => by simp only [mapA]; rw [xV cs (fun i hi => h i (by simpa only [idsA] using hi))]
 | .junk,_ => by simp only [mapA]
theorem xV {ord more:List Nat}:∀ as:List A,(∀ i ∈ idsL as,i ∈ ord) → aW (fun (k:Nat) => (ord ++ more)[k]?) (aW (aN ord) as) = as
 | [],_ => by simp only [aW]
 | a :: as,h => by
  simp only [idsL,List.mem_append] at h
  simp only [aW]
  rw [aRK a (fun i hi => h i (.inl hi)),xV as (fun i hi => h i (.inr hi))]
end
def aR9:O → List Nat
 | .box cs => idsL cs
 | .vec cs _ _ => idsL cs
 | _ => []
theorem P1 {h:H} {ord ids:List Nat} (hc:closed h ord ids = true):(∀ i ∈ ids,i ∈ ord) ∧ ∀ i ∈ ord,∀ o,h[i]? = some o → ∀ j ∈ aR9 o,j ∈ ord:=by
 simp only [closed,Bool.and_eq_true,List.all_eq_true,List.contains_iff_mem] at hc
 refine ⟨hc.1,fun i hi o ho j hj => ?_⟩
 have:=hc.2 i hi
 rw [ho] at this
 cases o with
 | box cs =>
  simp only [List.all_eq_true,List.contains_iff_mem] at this
  exact this j hj
 | vec cs e g =>
  simp only [List.all_eq_true,List.contains_iff_mem] at this
  exact this j hj
 | _ => simp [aR9] at hj
theorem aJe {h:H} {ord ids more:List Nat} (hc:closed h ord ids = true) {i:Nat} {o:O} (hi:i ∈ ord) (ho:h[i]? = some o):mapO (fun (k:Nat) => (ord ++ more)[k]?) (mapO (aN ord) o) = o:=by
 cases o with
 | box cs => simp only [mapO]; rw [xV cs ((P1 hc).2 i hi _ ho)]
 | vec cs e g => simp only [mapO]; rw [xV cs ((P1 hc).2 i hi _ ho)]
 | _ => simp only [mapO]
theorem aL6 {h:H} {ord ids:List Nat} (hc:closed h ord ids = true) {i:Nat} {o:O} (hi:i ∈ ord) (ho:h[i]? = some o):mapO (fun (k:Nat) => ord[k]?) (mapO (aN ord) o) = o:=by
 simpa only [List.append_nil] using aJe (more:=[]) hc hi ho
theorem aWV {h:H} {ord ids:List Nat} (hc:closed h ord ids = true) (hn:ord.Nodup) (hl:∀ i ∈ ord,i < h.length):nP (fun (k:Nat) => ord[k]?) h ord (pack h ord) = h:=by
 apply List.ext_getElem?
 intro id
 rw [aD5 _ ord h _ id hn hl (by simp [pack])]
 cases hp:aN ord id with
 | none => rfl
 | some k =>
  simp only []
  have hm:=aLA hp
  obtain ⟨o,ho⟩:∃ o,h[id]? = some o:=⟨h[id]'(hl id hm),List.getElem?_eq_getElem _⟩
  rw [xL (cZ hp) ho,ho,Option.map_some,aL6 hc hm ho]
theorem sG {h h':H} {S:List Nat} (hs:∀ i ∈ S,h[i]? = h'[i]?) (hc:∀ i ∈ S,∀ o,h[i]? = some o → ∀ j ∈ aR9 o,j ∈ S):∀ (n:Nat) (todo acc:List Nat),(∀ i ∈ todo,i ∈ S) → aE n h' todo acc = aE n h todo acc
 | 0,_,_,_ => rfl
 | _ + 1,[],_,_ => rfl
 | n + 1,i :: todo,acc,ht => by
  have hi:=ht i (by simp)
  have ht':∀ j ∈ todo,j ∈ S:=fun j hj => ht j (by simp [hj])
  simp only [aE]
  rw [← hs i hi]
  split
  ·exact sG hs hc n _ _ ht'
  ·split
   ·rename_i cs ho
    exact sG hs hc n _ _ fun j hj => (List.mem_append.1 hj).elim (ht' j) (hc i hi _ ho j)
   ·rename_i cs _ _ ho
    exact sG hs hc n _ _ fun j hj => (List.mem_append.1 hj).elim (ht' j) (hc i hi _ ho j)
   ·exact sG hs hc n _ _ ht'
   ·exact sG hs hc n _ _ ht'
   ·exact sG hs hc n _ _ ht'
theorem aDu {h h':H} {S:List Nat} (hs:∀ i ∈ S,h[i]? = h'[i]?):pack h' S = pack h S:=by
 unfold pack
 exact List.map_congr_left fun i hi => by rw [List.getD_eq_getElem?_getD,List.getD_eq_getElem?_getD,hs i hi]
theorem aDq {α:Type} {f g:α → Bool}:∀ {l:List α},(∀ x ∈ l,f x = g x) → l.all f = l.all g
 | [],_ => rfl
 | x :: l,h => by simp only [List.all_cons]; rw [h x (by simp),aDq fun y hy => h y (by simp [hy])]
theorem W9 {h h':H} {S ids:List Nat} (hs:∀ i ∈ S,h[i]? = h'[i]?):closed h' S ids = closed h S ids:=by
 unfold closed
 congr 1
 exact aDq fun i hi => by rw [hs i hi]
def TD (h:H) (i:Nat):Bool :=
 match h[i]? with
 | some .void => true
 | _ => false
theorem aJq {h:H} {i:Nat}:TD h i = true ↔ h[i]? = some .void:=by
 unfold TD; split
 ·rename_i e; simp [e]
 ·rename_i e; simpa using e
def EU (E:Env) (call:b7) (thaw:List Nat) (base k:Nat) (o:Oper) (vs:List A) (h:H) (ord:List Nat):Option (A × List (Nat × O) × Foot) :=
 match evOp E call thaw (pack h ord) o (aW (aN ord) vs) with
 | some (a,h1) =>
  if decide (h1.length = ord.length + k) && closed h ord (idsL vs) && (List.range' base k).all (TD h) then
   if gI E o.op vs && k == 0 then some (mapA (fun (j:Nat) => ord[j]?) a,[],{ ids:=ord,ro:=true })
   else some (mapA (fun (j:Nat) => (ord ++ List.range' base k)[j]?) a,((ord ++ List.range' base k).zip (h1.map (mapO (fun (j:Nat) => (ord ++ List.range' base k)[j]?)))).filter (fun p => (wrOf E o.op vs ord ++ List.range' base k).contains p.1),{ ids:=ord ++ List.range' base k,ro:=false,wr:=wrOf E o.op vs ord ++ List.range' base k })
  else none
 | none => none
def o9 (E:Env) (call:b7) (thaw:List Nat) (ops:List Oper) (base k:Nat) (o:Oper) (s:List A) (h:H):Option (A × List (Nat × O) × Foot) :=
 match C5 ops s o with
 | some true => match cE s (opds o.op) with
  | some vs =>
   if cX o.op then
    match evOp E call thaw h o vs with
    | some (a,_) => some (a,[],{})
    | none => none
   else if qP o.op then
    match evOp E call thaw h o vs with
    | some (a,_) => some (a,[],{ ids:=ids0 vs,ro:=true })
    | none => none
   else EU E call thaw base k o vs h (aE aK h (idsL vs) [])
  | none => none
 | some false => some (.d .undef,[],{})
 | none => none
theorem QW {vs:List A} {k k':A → Option (A × H)} {g:A × H → A × H} (h:∀ a,k' a = (k a).map g):one vs k' = (one vs k).map g:=by
 unfold one; split
 ·exact h _
 ·rfl
theorem aP0 {vs:List A} {k k':A → A → Option (A × H)} {g:A × H → A × H} (h:∀ a b,k' a b = (k a b).map g):two vs k' = (two vs k).map g:=by
 unfold two; split
 ·exact h _ _
 ·rfl
theorem aPl {a:A} {k k':Int → Option (A × H)} {g:A × H → A × H} (h:∀ i,k' i = (k i).map g):nA a k' = (nA a k).map g:=by
 unfold nA; split
 ·exact h _
 ·rfl
theorem EB (h h2:H) (x:Option A):x.map (fun r => (r,h2)) = (x.map fun r => (r,h)).map (fun r => (r.1,h2)):=by cases x <;> rfl
theorem aCU {E:Env} {call:b7} {thaw:List Nat} {o:Oper} {vs:List A} (hp:cX o.op = true) (h h2:H):evOp E call thaw h2 o vs = (evOp E call thaw h o vs).map (fun r => (r.1,h2)):=by
 obtain ⟨dst,op,type,pos,after,guard⟩:=o
 cases op <;> simp only [cX,Bool.false_eq_true] at hp <;> simp only [evOp]
 case move x => exact QW fun a => rfl
 case pick a b c => unfold X2; split <;> rfl
 case build t ps => exact EB h h2 _
 case nilCheck x => exact QW fun a => by unfold lG; split <;> rfl
 case binOp =>
  refine aP0 fun a b => ?_
  unfold cY
  split
  ·rfl
  ·split
   ·rfl
   ·exact EB h h2 _
 case unOp => exact QW fun a => EB h h2 _
 case makeFunc f a b =>
  unfold X3; split
  ·split <;> rfl
  ·rfl
 case fieldAddr t x f => exact QW fun a => by cases bF E.P t f <;> first | rfl | exact EB h h2 _
 case field t x f =>
  refine QW fun a => ?_
  unfold QY; split
  ·exact EB h h2 _
  ·rfl
 case index t x y => exact aP0 fun a b => aPl fun i => EB h h2 _
 case extract x i =>
  refine QW fun a => ?_
  unfold E4; split
  ·exact EB h h2 _
  ·rfl
theorem aEA {h h1:H} {x:Option A} {a:A} (he:x.map (fun r => (r,h)) = some (a,h1)):h1 = h:=by
 cases x with
 | none => cases he
 | some v => cases he; rfl
theorem aSY {E:Env} {call:b7} {thaw:List Nat} {o:Oper} {vs:List A} (hp:cX o.op = true) {h h1:H} {a:A} (he:evOp E call thaw h o vs = some (a,h1)):h1 = h:=by
 have:=aCU (E:=E) (call:=call) (thaw:=thaw) (vs:=vs) hp h h
 rw [he] at this
 simpa using this
theorem aSM {E:Env} {call:b7} {thaw:List Nat} {o:Oper} {vs:List A} {f:Nat → Option Nat} (hp:gI E o.op vs = true) {h h1:H} {a:A} (he:evOp E call thaw h o (aW f vs) = some (a,h1)):h1 = h:=by
 obtain ⟨dst,op,type,pos,after,guard⟩:=o
 cases op <;> simp only [gI,Bool.false_eq_true] at hp <;> simp only [evOp] at he
 case load t x =>
  obtain ⟨b,_,he⟩:=lP he
  exact aEA he
 case convert s d x =>
  obtain ⟨b,_,he⟩:=lP he
  unfold eL at he
  split at he <;> try (cases he; rfl)
  ·rename_i hd _
   unfold bP at hp
   rw [hd] at hp
   cases hp
  ·cases he
  ·repeat' split at he
   all_goals first
    | (cases he; done)
    | (simp only [Option.map_eq_some_iff,Prod.mk.injEq] at he; obtain ⟨_,_,_,rfl⟩:=he; rfl)
    | (rename_i hq; simp at hq; done)
  ·cases he
 case slice t x lo hi mx =>
  split at he
  ·unfold m9 at he
   split at he <;> first
    | (cases he; done)
    | exact aEA he
  ·cases he
 case indexAddr t x y =>
  obtain ⟨a1,b,_,he⟩:=tF he
  obtain ⟨_,i,_,he⟩:=oT he
  exact aEA he
 case call c =>
  have mode:∀ (f:FuncId) (args:List A),(E.hint f).mode = 1 → eO call E.hint h f args = some (a,h1) → h1 = h:=by
   intro f args hm hcall
   unfold eO at hcall
   rw [hm] at hcall
   simp only [] at hcall
   split at hcall
   ·split at hcall
    ·split at hcall
     ·cases hcall; rfl
     ·cases hcall
    ·cases hcall
   ·cases hcall
  unfold j7 at he
  cases hcal:c.callee with
  | invoke r m => rw [hcal] at he; cases he
  | builtin b =>
   rw [hcal] at he hp
   cases b <;> simp only [Bool.false_eq_true] at hp
   case len =>
    simp only [dE] at he
    split at he
    ·unfold A0 at he
     split at he
     ·cases he; rfl
     ·cases he
    ·exact aEA he
    ·rename_i hq _ _; cases hq
    ·cases he
  | value fv =>
   rw [hcal] at he hp
   simp only [] at he
   cases vs with
   | nil => simp at hp
   | cons g vs =>
    simp only [aW] at he
    cases g with
    | clo f caps =>
     simp only [beq_iff_eq] at hp
     simp only [mapA,m7] at he
     exact mode f _ hp he
    | d x =>
     cases x with
     | fn f caps =>
      simp only [beq_iff_eq] at hp
      simp only [mapA,m7] at he
      exact mode f _ hp he
     | _ => simp at hp
    | _ => simp at hp
theorem aPW {P:Program} {h h2 h1:H} {tys:List TypeId} {args:List A} {a:A} (hs:∀ i ∈ ids0 args,∀ x,h[i]? = some x → h2[i]? = some x) (he:dE P h .len tys args = some (a,h1)):h1 = h ∧ dE P h2 .len tys args = some (a,h2):=by
 match tys,args,he with
 | t :: ts,[x],he =>
  cases x with
  | mp id =>
   simp only [dE,A0] at he ⊢
   split at he
   ·rename_i kt et es hu hid
    cases he
    rw [hu]
    refine ⟨rfl,?_⟩
    simp only [hs id (by simp [ids0,idsA]) _ hid]
   ·cases he
  | _ =>
   simp only [dE] at he ⊢
   cases hx:aLen P t _ with
   | none => rw [hx] at he; cases he
   | some y => rw [hx] at he; cases he; exact ⟨rfl,rfl⟩
 | [],_,he => simp [dE] at he
 | _ :: _,[],he => simp [dE] at he
 | _ :: _,_ :: _ :: _,he => simp [dE] at he
theorem a0c {P:Program} {h h2:H} {t:TypeId} {x:D} {l u:Option Int}:iZ P h t (.d x) l u = iZ P h2 t (.d x) l u:=by
 unfold iZ
 cases P.underlying t with
 | none => rfl
 | some td => cases td <;> first | rfl | (cases x <;> rfl)
theorem TG {E:Env} {call:b7} {thaw:List Nat} {o:Oper} {vs:List A} (hp:qP o.op = true) {h h2 h1:H} {a:A} (hs:∀ i ∈ ids0 vs,∀ x,h[i]? = some x → h2[i]? = some x) (he:evOp E call thaw h o vs = some (a,h1)):h1 = h ∧ evOp E call thaw h2 o vs = some (a,h2):=by
 have frame:∀ {x y:Option A},x.map (fun r => (r,h)) = some (a,h1) → (x = some a → y = some a) → h1 = h ∧ y.map (fun r => (r,h2)) = some (a,h2):=by
  intro x y hx hy
  cases x with
  | none => cases hx
  | some z => cases hx; rw [hy rfl]; exact ⟨rfl,rfl⟩
 have look:∀ {b:A} {id:Nat} {x:O},vs.head? = some b → idsA b = [id] → h[id]? = some x → h2[id]? = some x:=by
  intro b id x hb hid hx
  refine hs id ?_ x hx
  cases vs with
  | nil => cases hb
  | cons c l => cases hb; simp only [ids0,hid,List.mem_singleton]
 obtain ⟨dst,op,type,pos,after,guard⟩:=o
 cases op <;> simp only [qP,Bool.false_eq_true] at hp <;> simp only [evOp] at he ⊢
 case load t x =>
  obtain ⟨b,rfl,he⟩:=lP he
  simp only [one]
  refine frame he fun hx => ?_
  unfold LV at hx ⊢
  have hr:∀ run,tT h b = some run → tT h2 b = some run:=by
   intro run hrun
   cases b with
   | ptr id gen off =>
    simp only [tT] at hrun ⊢
    cases hg:h[id]? with
    | none => rw [hg] at hrun; cases hrun
    | some x => rw [hg] at hrun; rw [look (b:=.ptr id gen off) rfl rfl hg]; exact hrun
   | d x => cases x <;> simpa only [tT] using hrun
   | _ => simp [tT] at hrun
  cases hrn:tT h b with
  | none => rw [hrn] at hx; cases hx
  | some run => rw [hrn] at hx; rw [hr run hrn]; exact hx
 case slice t x lo hi mx =>
  split at he
  ·rename_i hmx
   rw [if_pos hmx]
   have key:∀ {b:A} {l u:Option Int},vs.head? = some b → iZ E.P h t b l u = some a → iZ E.P h2 t b l u = some a:=by
    intro b l u hb hx
    cases b with
    | sl id gen off len =>
     unfold iZ at hx ⊢
     cases hu:E.P.underlying t with
     | none => rw [hu] at hx; cases hx
     | some td =>
      rw [hu] at hx
      cases td <;> simp only [] at hx ⊢ <;> try (cases hx; done)
      cases hg:h[id]? with
      | none => rw [hg] at hx; cases hx
      | some x => rw [hg] at hx; rw [look hb rfl hg]; exact hx
    | d x =>
     rw [a0c (h2:=h)]
     exact hx
    | _ =>
     unfold iZ at hx
     cases hu:E.P.underlying t with
     | none => rw [hu] at hx; cases hx
     | some td => rw [hu] at hx; cases td <;> cases hx
   unfold m9 at he ⊢
   split at he
   ·exact frame he (key rfl)
   ·exact frame he (key rfl)
   ·exact frame he (key rfl)
   ·exact frame he (key rfl)
   ·cases he
  ·cases he
 case indexAddr t x y =>
  obtain ⟨b,c,rfl,he⟩:=tF he
  obtain ⟨kd,i,rfl,he⟩:=oT he
  simp only [two,nA]
  refine frame he fun hx => ?_
  unfold wV at hx ⊢
  cases hu:E.P.underlying t with
  | none => rw [hu] at hx; cases hx
  | some td =>
   rw [hu] at hx
   cases td <;> simp only [] at hx ⊢ <;> try (first | (cases hx; done) | (exact hx; done))
   cases b with
   | sl id gen off len =>
    simp only [] at hx ⊢
    cases hg:h[id]? with
    | none => rw [hg] at hx; cases hx
    | some x => rw [hg] at hx; rw [look (b:=.sl id gen off len) rfl rfl hg]; exact hx
   | d x => cases x <;> first | exact hx | cases hx
   | _ => cases hx
 case lookup t x y ok =>
  obtain ⟨b,c,rfl,he2⟩:=tF he
  clear he
  simp only [two]
  unfold YC at he2 ⊢
  have he:=he2
  clear he2
  split at he
  ·rename_i kt et id k hmt
   split at he
   ·rename_i es z hid hz
    simp only [look (b:=.mp id) rfl rfl hid,hz]
    split at he
    ·rename_i hc
     rw [if_pos hc]
     split at he
     ·rename_i r hr
      cases he
      exact ⟨rfl,by simp only [hr]⟩
     ·cases he
    ·cases he
   ·cases he
  ·cases he
 case call c =>
  obtain ⟨callee,args,tys⟩:=c
  cases callee with
  | invoke r m => simp [qP] at hp
  | value v => simp [qP] at hp
  | builtin b =>
   cases b <;> simp only [qP,Bool.false_eq_true] at hp
   simp only [j7] at he ⊢
   exact aPW hs he
theorem vU:∀ (n:Nat) (h:H) (todo acc:List Nat),(∀ i ∈ acc,∃ o,h[i]? = some o ∧ o ≠ .void) → ∀ i ∈ aE n h todo acc,∃ o,h[i]? = some o ∧ o ≠ .void
 | 0,_,_,_,hn => by simpa only [aE] using hn
 | _ + 1,_,[],_,hn => by simpa only [aE] using hn
 | n + 1,h,i :: todo,acc,hn => by
  simp only [aE]
  split
  ·exact vU n h todo acc hn
  ·have key:∀ o,h[i]? = some o → o ≠ .void → ∀ j ∈ acc ++ [i],∃ o,h[j]? = some o ∧ o ≠ .void:=by
    intro o ho hne j hj
    simp only [List.mem_append,List.mem_singleton] at hj
    rcases hj with hj | rfl
    ·exact hn j hj
    ·exact ⟨o,ho,hne⟩
   split
   ·rename_i cs ho; exact vU n h _ _ (key _ ho (by simp))
   ·rename_i cs _ _ ho; exact vU n h _ _ (key _ ho (by simp))
   ·exact vU n h _ _ hn
   ·rename_i o _ _ hne ho; exact vU n h _ _ (key _ ho (fun e => hne e))
   ·exact vU n h _ _ hn
theorem aVq {h:H} {ids:List Nat} {base k:Nat} (hv:∀ i ∈ List.range' base k,h[i]? = some .void):(aE aK h ids [] ++ List.range' base k).Nodup:=by
 rw [List.nodup_append]
 refine ⟨gQ _ _ _ _ (by simp),List.nodup_range',fun a ha b hb e => ?_⟩
 subst e
 obtain ⟨o,ho,hne⟩:=vU aK h ids [] (by simp) a ha
 rw [hv a hb] at ho
 cases ho
 exact hne rfl
theorem VY {α:Type} {l:List α} {i j:Nat} {x:α} (h:i ≠ j):(l.set i x)[j]? = l[j]?:=List.getElem?_set_ne h
theorem N9 {P:Program} {h h1:H} {t:TypeId} {s x a:A} (he:wH P h t s x = some (a,h1)) {j:Nat} (hj:j < h.length) (hs:∀ id gen off len,s = .sl id gen off len → id ≠ j):h1[j]? = h[j]?:=by
 unfold wH at he
 repeat' split at he
 all_goals first
  | (cases he; done)
  | (cases he; first
    | exact List.getElem?_append_left hj
    | exact VY (hs _ _ _ _ rfl))
theorem aBn {P:Program} {h h1:H} {t:TypeId} {id gen off len:Nat} {x a:A} (he:zV P h t id gen off len x = some (a,h1)) {j:Nat} (hs:id ≠ j):h1[j]? = h[j]?:=by
 unfold zV at he
 repeat' split at he
 all_goals first
  | (cases he; done)
  | (cases he; exact VY hs)
theorem aOu {P:Program} {h h1:H} {t:TypeId} {s x a:A} (he:oG P h t s x = some (a,h1)) {j:Nat} (hj:j < h.length) (hs:∀ id gen off len,s = .sl id gen off len → id ≠ j):h1[j]? = h[j]?:=by
 unfold oG at he
 split at he
 ·rename_i id gen off len
  have hne:=hs _ _ _ _ rfl
  split at he
  ·exact aBn he hne
  ·split at he
   ·split at he
    ·rw [aBn he hne,VY hne]
    ·exact N9 he hj hs
   ·exact N9 he hj hs
 ·exact N9 he hj hs
theorem aAM:∀ (cs:List A) (h:H) (j:Nat),j < h.length → (a8 h cs).2[j]? = h[j]? ∧ h.length ≤ (a8 h cs).2.length
 | [],h,j,_ => by simp [a8]
 | c :: cs,h,j,hj => by
  by_cases hc:c = .d .nils
  ·subst hc
   have:=aAM cs (h ++ [.arr [] 0 0]) j (by simp; omega)
   simp only [List.length_append,List.length_cons,List.length_nil] at this
   simp only [a8]
   exact ⟨this.1.trans (List.getElem?_append_left hj),by omega⟩
  ·have e1:(a8 h (c :: cs)).2 = (a8 h cs).2:=by
    rw [a8.eq_def]
    split
    ·rename_i heq; cases heq
    ·rename_i heq; cases heq; exact absurd rfl hc
    ·rename_i heq; cases heq; rfl
   rw [e1]
   exact aAM cs h j hj
theorem aLO {h h1:H} {v a:A} (he:aNew h v = some (a,h1)) {j:Nat} (hj:j < h.length):h1[j]? = h[j]?:=by
 unfold aNew at he
 split at he
 ·cases he
  obtain ⟨h2,h3⟩:=aAM (a6 v) h j hj
  rw [List.getElem?_append_left (by omega),h2]
 ·cases he
theorem aKG {P:Program} {h:H} {tys:List TypeId} {args:List A} {r:A × H} (he:dE P h .append tys args = some r):∃ t s x,args = [s,x] ∧ oG P h t s x = some r:=by
 match tys,args,he with
 | [t,u],[s,x],he =>
  simp only [dE] at he
  split at he
  ·cases he
  ·cases he
  ·exact ⟨t,s,x,rfl,he⟩
 | [],_,he => simp [dE] at he
 | [_],_,he => simp [dE] at he
 | _ :: _ :: _ :: _,_,he => simp [dE] at he
 | [_,_],[],he => simp [dE] at he
 | [_,_],[_],he => simp [dE] at he
 | [_,_],_ :: _ :: _ :: _,he => simp [dE] at he
theorem aXo {E:Env} {call:b7} {thaw:List Nat} {o:Oper} {vs:List A} {h h1:H} {ord:List Nat} {a:A} (he:evOp E call thaw (pack h ord) o (aW (aN ord) vs) = some (a,h1)) {j i:Nat} (hj:ord[j]? = some i) (hi:i ∉ wrOf E o.op vs ord):h1[j]? = (pack h ord)[j]?:=by
 have hjl:j < (pack h ord).length:=by
  simp only [pack,List.length_map]
  exact (List.getElem?_eq_some_iff.1 hj).1
 have hio:i ∈ ord:=List.mem_of_getElem? hj
 obtain ⟨dst,op,type,pos,after,guard⟩:=o
 have lent:∀ (f:FuncId) (args:List A),i ∉ (if (E.hint f).mode == 3 then [] else ord) → eO call E.hint (pack h ord) f args = some (a,h1) → h1[j]? = (pack h ord)[j]?:=by
  intro f args hm hc
  split at hm
  ·rename_i hm3
   unfold eO at hc
   rw [beq_iff_eq.1 hm3] at hc
   simp only [] at hc
   split at hc
   ·split at hc
    ·split at hc
     ·cases hc
      exact List.getElem?_append_left hjl
     ·cases hc
    ·cases hc
   ·cases hc
  ·exact absurd hio hm
 cases op <;> simp only [evOp] at he <;> first
  | exact absurd hio hi
  | skip
 case assign x =>
  obtain ⟨b,_,he⟩:=lP he
  unfold dR at he
  repeat' split at he
  all_goals (cases he; first | rfl | exact List.getElem?_append_left hjl)
 case alloc t =>
  cases hz:bW E.P t with
  | none => rw [hz] at he; cases he
  | some z => rw [hz] at he; exact aLO he hjl
 case box t x =>
  obtain ⟨b,_,he⟩:=lP he
  exact aLO he hjl
 case makeSlice t x y =>
  obtain ⟨a1,b,_,he⟩:=tF he
  obtain ⟨_,l,_,he⟩:=oT he
  obtain ⟨_,c,_,he⟩:=oT he
  split at he
  ·unfold D6 at he
   repeat' split at he
   all_goals first
    | (cases he; done)
    | (cases he; exact List.getElem?_append_left hjl)
  ·unfold kP at he
   repeat' split at he
   all_goals first
    | (cases he; done)
    | (cases he; exact List.getElem?_append_left hjl)
 case makeMap t y =>
  split at he
  ·cases he; exact List.getElem?_append_left hjl
  ·cases he
 case call c =>
  obtain ⟨callee,args,tys⟩:=c
  unfold j7 at he
  cases callee with
  | invoke r m => cases he
  | builtin b =>
   simp only [] at he
   cases b <;> first
    | (simp only [wrOf] at hi; exact absurd hio hi)
    | skip
   cases vs with
   | nil => simp only [wrOf] at hi; exact absurd hio hi
   | cons s vs =>
    simp only [wrOf] at hi
    simp only [aW] at he
    obtain ⟨t,s',x,hargs,he⟩:=aKG he
    simp only [List.cons.injEq] at hargs
    refine aOu he hjl fun id gen off len hsl => ?_
    rw [← hargs.1] at hsl
    cases s with
    | sl id0 g0 o0 l0 =>
     simp only [mapA] at hsl
     split at hsl
     ·rename_i k hk
      cases hsl
      intro e
      subst e
      have:=cZ hk
      rw [hj] at this
      cases this
      exact hi (by simp [idsA])
     ·cases hsl
    | ptr id0 g0 o0 =>
     simp only [mapA] at hsl
     split at hsl <;> cases hsl
    | mp id0 =>
     simp only [mapA] at hsl
     split at hsl <;> cases hsl
    | _ => simp only [mapA] at hsl; cases hsl
  | value fv =>
   simp only [] at he
   cases vs with
   | nil => cases he
   | cons g vs =>
    simp only [aW] at he
    cases g with
    | clo f caps =>
     simp only [mapA,m7] at he
     exact lent f _ (by simpa only [wrOf] using hi) he
    | d x =>
     cases x with
     | fn f caps =>
      simp only [mapA,m7] at he
      exact lent f _ (by simpa only [wrOf] using hi) he
     | _ => simp only [wrOf] at hi; exact absurd hio hi
    | _ => simp only [wrOf] at hi; exact absurd hio hi
theorem aEk {q:Nat → Bool}:∀ (W:List (Nat × O)) (h:H),(W.map (·.1)).Nodup → (∀ i o,(i,o) ∈ W → q i = false → h[i]? = some o) → putW (W.filter fun p => q p.1) h = putW W h
 | [],h,_,_ => rfl
 | (i,o) :: W,h,hn,hs => by
  simp only [List.map_cons,List.nodup_cons] at hn
  cases hq:q i with
  | true =>
   simp only [List.filter_cons,hq,if_true,putW]
   refine aEk W _ hn.2 fun i' o' hm hq' => ?_
   rw [VY (fun e => hn.1 (List.mem_map.2 ⟨(i',o'),hm,e.symm⟩))]
   exact hs i' o' (List.mem_cons_of_mem _ hm) hq'
  | false =>
   simp only [List.filter_cons,hq,Bool.false_eq_true,if_false,putW]
   have h1:=hs i o (by simp) hq
   have h2:h.set i o = h:=by
    apply List.ext_getElem?
    intro j
    rw [List.getElem?_set]
    obtain ⟨hl,he⟩:=List.getElem?_eq_some_iff.1 h1
    by_cases e:i = j
    ·subst e; simp [hl,he]
    ·simp [e]
   rw [h2]
   exact aEk W h hn.2 fun i' o' hm hq' => hs i' o' (List.mem_cons_of_mem _ hm) hq'
theorem aQh {E:Env} {call:b7} {thaw:List Nat} {o:Oper} {vs:List A} {h h1:H} {ord:List Nat} {a:A} {base k:Nat} (he:evOp E call thaw (pack h ord) o (aW (aN ord) vs) = some (a,h1)) (hcl:closed h ord (idsL vs) = true) (hn:(ord ++ List.range' base k).Nodup) (hlen:h1.length = ord.length + k) (hl:∀ i ∈ ord,i < h.length) :
  putW (((ord ++ List.range' base k).zip (h1.map (mapO (fun (j:Nat) => (ord ++ List.range' base k)[j]?)))).filter fun p => (wrOf E o.op vs ord ++ List.range' base k).contains p.1) h = putW ((ord ++ List.range' base k).zip (h1.map (mapO (fun (j:Nat) => (ord ++ List.range' base k)[j]?)))) h:=by
 refine aEk (q:=fun i => (wrOf E o.op vs ord ++ List.range' base k).contains i) _ h ?_ ?_
 ·rw [List.map_fst_zip (by simp; omega)]
  exact hn
 ·intro i x hm hq
  have hq:i ∉ wrOf E o.op vs ord ++ List.range' base k:=fun hc => by
   rw [List.contains_iff_mem.2 hc] at hq; cases hq
  simp only [List.mem_append,not_or] at hq
  obtain ⟨j,hj⟩:=List.getElem?_of_mem hm
  rw [List.getElem?_zip_eq_some] at hj
  obtain ⟨hj1,hj2⟩:=hj
  simp only at hj1 hj2
  have hjo:ord[j]? = some i:=by
   by_cases hlt:j < ord.length
   ·rwa [List.getElem?_append_left hlt] at hj1
   ·rw [List.getElem?_append_right (by omega)] at hj1
    exact absurd (List.mem_of_getElem? hj1) hq.2
  have hio:=List.mem_of_getElem? hjo
  rw [List.getElem?_map,aXo he hjo hq.1] at hj2
  have hi:=hl i hio
  have hg:h[i]? = some h[i]:=List.getElem?_eq_getElem hi
  have hp:(pack h ord)[j]? = some (mapO (aN ord) h[i]):=by
   simp only [pack,List.getElem?_map,hjo,Option.map_some,List.getD_eq_getElem?_getD,hg,Option.getD_some]
  rw [hp] at hj2
  simp only [Option.map_some,Option.some.injEq] at hj2
  rw [hg,← hj2]
  congr 1
  exact (aJe hcl hio hg).symm
section
variable {E:Env} {call:b7}
theorem aVD (hE:EnvOK E) (hc:qA G E.P call) {h:H} {ρ:Rho} {w:World} {I:Nat → Prop} {thaw:List Nat} {ops:List Oper} {base k:Nat} {o:Oper} {s:List A} {x:A} {W:List (Nat × O)} {fp:Foot} {act:Act} (he:o9 E call thaw ops base k o s h = some (x,W,fp)) (r:Rel G h ρ w I) (hs:ARv h ρ w I s act.tmps.toList)
  (K:Act → World → Prop) (Q:Exit → Act → World → Prop) (hK:∀ act' ρ' w' I',Step G h ρ w I (putW W h) ρ' w' I' → ARv (putW W h) ρ' w' I' (aPut s o.dst x) act'.tmps.toList → act'.defers = act.defers → K act' w') :
  if Region.wanted o (yielded ops.toArray act.tmps) then o.wp E.P act w K Q else K (act.put o.dst undef) w:=by
 unfold o9 at he
 split at he
 ·rename_i hw
  rw [aEN hw hs,if_pos rfl]
  split at he
  ·rename_i vs hvs
   have ha:=aDd hs hvs
   split at he
   ·rename_i hp
    split at he
    ·rename_i x1 h1 hop
     cases he
     have hh:=aSY hp hop
     subst hh
     exact X8 hE hc hop r ha K Q fun v ρ' w' I' s1 hx => hK _ ρ' w' I' s1 (RQ (k6 s1.ext s _ hs) hx) (wP _ _ _)
    ·cases he
   split at he
   ·rename_i hp
    split at he
    ·rename_i x1 h1 hop
     cases he
     have hh:=(TG hp (h2:=h) (fun _ _ _ hx => hx) hop).1
     subst hh
     exact X8 hE hc hop r ha K Q fun v ρ' w' I' s1 hx => hK _ ρ' w' I' s1 (RQ (k6 s1.ext s _ hs) hx) (wP _ _ _)
    ·cases he
   ·unfold EU at he
    split at he
    ·rename_i x1 h1 hop
     split at he
     ·rename_i hcond
      simp only [Bool.and_eq_true,decide_eq_true_eq,List.all_eq_true] at hcond
      obtain ⟨⟨hlen,hcl⟩,hv⟩:=hcond
      have hv:∀ i ∈ List.range' base k,h[i]? = some .void:=fun i hi => aJq.1 (hv i hi)
      have hl:=pT aK h (idsL vs) [] (by simp)
      have hn:=aVq (ids:=idsL vs) hv
      have hno:=(List.nodup_append.1 hn).1
      have hr:=aGq r hno hl
      have hren:∀ id k,aN (aE aK h (idsL vs) []) id = some k → oD h ρ w I id (pack h (aE aK h (idsL vs) [])) (sub (aE aK h (idsL vs) []) ρ) w I k:=fun id k hk =>
       sV (fun o ho => xL (cZ hk) ho) (by simp [sub,cZ hk])
      have hleaf:=X8 hE hc hop hr (K0 (qZ w I) hren vs _ ha)
      split at he
      ·rename_i hro
       cases he
       simp only [Bool.and_eq_true,beq_iff_eq] at hro
       have hh:=aSM hro.1 hop
       refine hleaf K Q fun v ρ' w' I' s1 hx => ?_
       have hst:=aIM (fresh:=[]) r (by simpa using hno) hl (by simp) (by rw [hlen,hro.2]; simp) s1
       rw [hh] at hst hx
       simp only [List.append_nil] at hst
       rw [aWV hcl hno hl] at hst
       exact hK _ _ w' I' hst.1 (RQ (k6 hst.1.ext s _ hs) (NB (qZ _ _) hst.2 x1 v hx)) (wP _ _ _)
      ·cases he
       refine hleaf K Q fun v ρ' w' I' s1 hx => ?_
       obtain ⟨s2,refs⟩:=aIM r hn hl hv (by simpa using hlen) s1
       rw [aJC,← aQh hop hcl hn hlen hl] at s2 refs
       exact hK _ _ w' I' s2 (RQ (k6 s2.ext s _ hs) (NB (qZ _ _) refs x1 v hx)) (wP _ _ _)
     ·cases he
    ·cases he
  ·cases he
 ·rename_i hw
  rw [aEN hw hs]
  simp only [Bool.false_eq_true,if_false]
  cases he
  exact hK _ ρ w I (.refl r) (RQ hs (by simp only [AR,DR])) (wP _ _ _)
 ·cases he
theorem aXy:∀ (op:Op) (x:Operand),x ∈ opds op → x ∈ op.operands:=by
 intro op x hx
 cases op <;> simp only [opds,Op.operands] at hx ⊢ <;> try (simp at hx; done)
 case slice t y lo hi mx =>
  simp only [List.mem_cons,List.mem_append,Option.mem_toList] at hx
  cases lo <;> cases hi <;> cases mx <;> simp only [Option.some.injEq,reduceCtorEq,or_false,false_or,Option.toArray_none,Option.toArray_some] at hx ⊢ <;> simp <;> grind
 case call c =>
  simp only [Call.operands]
  cases hcal:c.callee <;> rw [hcal] at hx <;> simp at hx ⊢
  ·exact hx
  ·exact hx
 all_goals (first | (simpa using hx) | (simp at hx ⊢; simp_all))
theorem aGg {s s':List A}:∀ (xs:List Operand),(∀ t,.tmp t ∈ xs → s[t]? = s'[t]?) → cE s xs = cE s' xs
 | [],_ => rfl
 | x :: xs,h => by
  simp only [cE]
  rw [aGg xs fun t ht => h t (by simp [ht])]
  have:dN s x = dN s' x:=by
   cases x with
   | tmp t =>
    simp only [dN]
    rw [List.getD_eq_getElem?_getD,List.getD_eq_getElem?_getD,h t (by simp)]
   | _ => rfl
  rw [this]
theorem aRe {ops:List Oper} {s s':List A} {o:Oper} (h:∀ t ∈ o.looksAt ops.toArray,s[t]? = s'[t]?):C5 ops s o = C5 ops s' o:=by
 unfold C5
 cases hg:o.guard with
 | none => rfl
 | some jw =>
  obtain ⟨j,want⟩:=jw
  simp only []
  cases hd:(ops[j]?).bind (·.dst) with
  | none => rfl
  | some d =>
   simp only []
   rw [h d (by simp [Oper.looksAt,hg,hd])]
theorem aFy {thaw:List Nat} {base k:Nat} {o:Oper} {vs:List A} {h:H} {ord:List Nat} {a:A} {W:List (Nat × O)} {fp:Foot} (he:EU E call thaw base k o vs h ord = some (a,W,fp)) :
  (∀ i ∈ ord,i ∈ fp.ids) ∧ closed h ord (idsL vs) = true ∧ (∀ i ∈ List.range' base k,i ∈ fp.ids) ∧ (fp.ro = true → W = []) ∧ ∀ i ∈ W.map (·.1),i ∈ fp.ids ∧ i ∈ fp.wr:=by
 unfold EU at he
 split at he
 ·split at he
  ·rename_i hcond
   simp only [Bool.and_eq_true] at hcond
   split at he
   ·rename_i hro
    simp only [Bool.and_eq_true,beq_iff_eq] at hro
    cases he
    exact ⟨fun _ h => h,hcond.1.2,by rw [hro.2]; simp,fun _ => rfl,by simp⟩
   ·cases he
    refine ⟨fun i hi => List.mem_append_left _ hi,hcond.1.2,fun i hi => List.mem_append_right _ hi,by simp,fun i hi => ?_⟩
    obtain ⟨p,hp,rfl⟩:=List.mem_map.1 hi
    obtain ⟨hp,hw⟩:=List.mem_filter.1 hp
    exact ⟨(List.of_mem_zip hp).1,List.contains_iff_mem.1 hw⟩
  ·cases he
 ·cases he
theorem aNB {thaw:List Nat} {base k:Nat} {o:Oper} {vs:List A} {h h':H} {ord:List Nat} (h1:∀ i ∈ ord,h[i]? = h'[i]?) (h2:∀ i ∈ List.range' base k,h[i]? = h'[i]?):EU E call thaw base k o vs h' ord = EU E call thaw base k o vs h ord:=by
 unfold EU
 rw [aDu h1,W9 h1,aDq (f:=TD h') (g:=TD h) fun i hi => by unfold TD; rw [h2 i hi]]
theorem aB9 {thaw:List Nat} {ops:List Oper} {base k:Nat} {o:Oper} {s:List A} {h:H} {a:A} {W:List (Nat × O)} {fp:Foot} (he:o9 E call thaw ops base k o s h = some (a,W,fp)) :
  (fp.ro = true → W = []) ∧ ∀ i ∈ W.map (·.1),i ∈ fp.ids ∧ i ∈ fp.wr:=by
 unfold o9 at he
 split at he
 ·split at he
  ·split at he
   ·split at he
    ·cases he; simp
    ·cases he
   ·split at he
    ·split at he
     ·cases he; simp
     ·cases he
    ·exact (aFy he).2.2.2
  ·cases he
 ·cases he; simp
 ·cases he
theorem aPH {thaw:List Nat} {ops:List Oper} {base k:Nat} {o:Oper} {s s':List A} {h h':H} {a:A} {W:List (Nat × O)} {fp:Foot} (he:o9 E call thaw ops base k o s h = some (a,W,fp))
  (hs:∀ t ∈ o.looksAt ops.toArray,s[t]? = s'[t]?) (hh:∀ i ∈ fp.ids,h[i]? = h'[i]?):o9 E call thaw ops base k o s' h' = some (a,W,fp):=by
 unfold o9 at he ⊢
 rw [← aRe hs]
 split at he
 ·rw [← aGg (opds o.op) fun t ht => hs t (List.mem_append_left _ (List.mem_filterMap.2 ⟨.tmp t,by simpa using aXy _ _ ht,rfl⟩))]
  split at he
  ·split at he
   ·rename_i hp
    split at he
    ·rename_i x1 h1 hop
     cases he
     rw [if_pos hp,aCU hp h h',hop]
     rfl
    ·cases he
   ·rename_i hp
    rw [if_neg hp]
    split at he
    ·rename_i hp
     split at he
     ·rename_i x1 h1 hop
      cases he
      rw [if_pos hp,(TG hp (fun i hi x hx => by rw [← hh i hi]; exact hx) hop).2]
     ·cases he
    rename_i hp
    rw [if_neg hp]
    obtain ⟨i1,i2,i3,_⟩:=aFy he
    have hb:=P1 i2
    rw [sG (S:=aE aK h (idsL _) []) (fun i hi => hh i (i1 i hi)) hb.2 aK _ [] hb.1]
    rw [aNB (fun i hi => hh i (i1 i hi)) (fun i hi => hh i (i3 i hi))]
    exact he
  ·cases he
 ·exact he
 ·cases he
end
end Ev
end Go.Proofs.YtejmccgfigiadaaGreat
namespace Go.Proofs.YtejmccgfigiadaaGreat
namespace Ev
variable {G:Gnd}
structure Ent where
 dst:Option Tmp
 base:Nat
 k:Nat
 a:A
 wr:List (Nat × O)
 fp:Foot
def runL (L:Nat → Bool):Nat → List Ent → List A → H → List A × H
 | _,[],s,h => (s,h)
 | k,e :: es,s,h => if L k then runL L (k + 1) es (aPut s e.dst e.a) (putW e.wr h) else runL L (k + 1) es s h
section loc
variable {X:Type} (u:Ent → X → X) (m:Ent → Bool)
def loc (L:Nat → Bool):Nat → List Ent → X → X
 | _,[],v => v
 | k,e :: es,v => loc L (k + 1) es (if L k then u e v else v)
variable {u m} (hu:∀ e v,m e = false → u e v = v)
include hu
theorem NG {L L':Nat → Bool}:∀ (es:List Ent) (k:Nat) (v:X),(∀ (j:Nat) (e:Ent),es[j]? = some e → m e = true → L (k + j) = L' (k + j)) → loc u L k es v = loc u L' k es v
 | [],_,_,_ => rfl
 | e :: es,k,v,h => by
  simp only [loc]
  have h0:(if L k then u e v else v) = (if L' k then u e v else v):=by
   cases hm:m e with
   | false => rw [hu e v hm]; simp
   | true => have:=h 0 e (by simp) hm; simp only [Nat.add_zero] at this; rw [this]
  rw [h0]
  exact NG es (k + 1) _ fun j e' hj hm => by
   have:=h (j + 1) e' (by simpa using hj) hm
   rw [show k + (j + 1) = k + 1 + j from by omega] at this
   exact this
theorem aAW {L:Nat → Bool} {e:Ent}:∀ (es:List Ent) (k i:Nat) (v:X),es[i]? = some e → L (k + i) = false → (∀ (j:Nat) (e':Ent),i < j → es[j]? = some e' → m e = true → m e' = true → L (k + j) = false) →
  loc u (fun j => j == k + i || L j) k es v = u e (loc u L k es v)
 | [],_,_,_,h,_,_ => by simp at h
 | e0 :: es,k,0,v,h,hL,hlate => by
  simp only [List.getElem?_cons_zero,Option.some.injEq] at h
  subst h
  simp only [Nat.add_zero] at hL
  simp only [loc,Nat.add_zero,beq_self_eq_true,Bool.true_or,if_true,hL,Bool.false_eq_true,if_false]
  have e1:loc u (fun j => j == k || L j) (k + 1) es (u e0 v) = loc u L (k + 1) es (u e0 v):=by
   refine NG (m:=fun _ => true) (fun _ _ h => by cases h) es (k + 1) _ fun j e' _ _ => ?_
   have:(k + 1 + j == k) = false:=by simp; omega
   simp [this]
  rw [e1]
  cases hm:m e0 with
  | false => rw [hu e0 _ hm,hu e0 _ hm]
  | true =>
   have out:∀ v,loc u L (k + 1) es v = loc u (fun _ => false) (k + 1) es v:=fun v => NG hu es (k + 1) v fun j e' hj hm' => by
    have:=hlate (j + 1) e' (by omega) (by simpa using hj) hm hm'
    rw [show k + (j + 1) = k + 1 + j from by omega] at this
    exact this
   have non:∀ (es:List Ent) (k:Nat) (v:X),loc u (fun _ => false) k es v = v:=by
    intro es
    induction es with
    | nil => intro k v; rfl
    | cons e es ih => intro k v; simp only [loc]; exact ih _ _
   rw [out,out,non,non]
 | e0 :: es,k,i + 1,v,h,hL,hlate => by
  simp only [loc]
  have hne:(k == k + (i + 1)) = false:=by simp
  simp only [hne,Bool.false_or]
  have ih:=aAW (L:=L) (e:=e) es (k + 1) i (if L k then u e0 v else v) (by simpa using h) (by rw [show k + 1 + i = k + (i + 1) from by omega]; exact hL) (fun j e' hj he' => by
   have:=hlate (j + 1) e' (by omega) (by simpa using he')
   rw [show k + (j + 1) = k + 1 + j from by omega] at this
   exact this)
  rw [show k + 1 + i = k + (i + 1) from by omega] at ih
  exact ih
end loc
def uS (t:Nat) (e:Ent) (v:Option A):Option A:=if e.dst = some t then v.map (fun _ => e.a) else v
def mS (t:Nat) (e:Ent):Bool:=decide (e.dst = some t)
def uW (id:Nat) (e:Ent) (v:Option O):Option O:=wrW id e.wr v
def mW (id:Nat) (e:Ent):Bool:=(e.wr.map (·.1)).contains id
theorem aVW (t:Nat) (e:Ent) (v:Option A) (h:mS t e = false):uS t e v = v:=by
 simp only [mS,decide_eq_false_iff_not] at h
 simp only [uS,if_neg h]
theorem aV1 (id:Nat) (e:Ent) (v:Option O) (h:mW id e = false):uW id e v = v :=
 aP9 id e.wr v (fun hm => by simp only [mW] at h; rw [List.contains_iff_mem.2 hm] at h; cases h)
theorem aOd (s:List A) (dst:Option Tmp) (a:A) (t:Nat):(aPut s dst a)[t]? = if dst = some t then s[t]?.map (fun _ => a) else s[t]?:=by
 cases dst with
 | none => simp [aPut]
 | some d =>
  simp only [aPut,List.getElem?_set,Option.some.injEq]
  by_cases e:d = t
  ·subst e
   simp only [if_true]
   by_cases hl:d < s.length
   ·simp [hl]
   ·simp [hl]
  ·simp [e]
theorem EF (L:Nat → Bool) (t:Nat):∀ (es:List Ent) (k:Nat) (s:List A) (h:H),(runL L k es s h).1[t]? = loc (uS t) L k es s[t]?
 | [],_,_,_ => rfl
 | e :: es,k,s,h => by
  simp only [runL,loc]
  cases hL:L k with
  | true => simp only [if_true]; rw [EF L t es,aOd]; rfl
  | false => simp only [Bool.false_eq_true,if_false]; exact EF L t es _ _ _
theorem K7 (L:Nat → Bool) (id:Nat):∀ (es:List Ent) (k:Nat) (s:List A) (h:H),(runL L k es s h).2[id]? = loc (uW id) L k es h[id]?
 | [],_,_,_ => rfl
 | e :: es,k,s,h => by
  simp only [runL,loc]
  cases hL:L k with
  | true => simp only [if_true]; rw [K7 L id es,aG0]; rfl
  | false => simp only [Bool.false_eq_true,if_false]; exact K7 L id es _ _ _
theorem aAq {L L':Nat → Bool}:∀ (es:List Ent) (k:Nat) (s:List A) (h:H),(∀ j,j < es.length → L (k + j) = L' (k + j)) → runL L k es s h = runL L' k es s h
 | [],_,_,_,_ => rfl
 | e :: es,k,s,h,hl => by
  simp only [runL]
  have h0:=hl 0 (by simp)
  simp only [Nat.add_zero] at h0
  rw [h0]
  have ih:=fun s h => aAq (L:=L) (L':=L') es (k + 1) s h fun j hj => by
   have:=hl (j + 1) (by simpa using hj)
   rw [show k + (j + 1) = k + 1 + j from by omega] at this
   exact this
  rw [ih,ih]
def aQ7 (E:Env) (call:b7) (thaw:List Nat) (ops:List Oper):List Oper → List Ent → List A → H → Prop
 | [],[],_,_ => True
 | o :: os,e :: es,s,h => e.dst = o.dst ∧ o9 E call thaw ops e.base e.k o s h = some (e.a,e.wr,e.fp) ∧ aQ7 E call thaw ops os es (aPut s e.dst e.a) (putW e.wr h)
 | _,_,_,_ => False
theorem aOP {E:Env} {call:b7} {thaw:List Nat} {ops:List Oper}:∀ (os:List Oper) (es:List Ent) (k:Nat) (s:List A) (h:H),aQ7 E call thaw ops os es s h →
  os.length = es.length ∧ ∀ (i:Nat) (o:Oper),os[i]? = some o → ∃ e,es[i]? = some e ∧ e.dst = o.dst ∧
   o9 E call thaw ops e.base e.k o (runL (fun j => decide (j < k + i)) k es s h).1 (runL (fun j => decide (j < k + i)) k es s h).2 = some (e.a,e.wr,e.fp)
 | [],[],_,_,_,_ => ⟨rfl,fun i o h => by simp at h⟩
 | [],_ :: _,_,_,_,h => h.elim
 | _ :: _,[],_,_,_,h => h.elim
 | o :: os,e :: es,k,s,h,ht => by
  obtain ⟨hd,hst,ht⟩:=ht
  obtain ⟨hl,ih⟩:=aOP os es (k + 1) _ _ ht
  refine ⟨by simp [hl],fun i o' ho => ?_⟩
  cases i with
  | zero =>
   simp only [List.getElem?_cons_zero,Option.some.injEq] at ho
   subst ho
   refine ⟨e,rfl,hd,?_⟩
   have:runL (fun j => decide (j < k + 0)) k (e :: es) s h = (s,h):=by
    rw [aAq (L':=fun _ => false) _ _ _ _ fun j _ => by simp]
    have non:∀ (es:List Ent) (k:Nat),runL (fun _ => false) k es s h = (s,h):=by
     intro es
     induction es with
     | nil => intro k; rfl
     | cons e es ih => intro k; simp only [runL]; exact ih _
    exact non _ _
   rw [this]
   exact hst
  | succ i =>
   obtain ⟨e',he',hd',hst'⟩:=ih i o' (by simpa using ho)
   refine ⟨e',by simpa using he',hd',?_⟩
   have hlt:decide (k < k + (i + 1)) = true:=by simp
   simp only [runL,hlt,if_true]
   rw [show k + (i + 1) = k + 1 + i from by omega]
   exact hst'
theorem aMA (acc:List Nat) (j:Nat):∀ (es:List Edge) (s0:Nat),(es.foldl (fun s e => if Region.binds .any e then s ||| 2 ^ e.on ||| acc.getD e.on 0 else s) s0).testBit j = true →
  s0.testBit j = true ∨ ∃ e ∈ es,Region.binds .any e = true ∧ (j = e.on ∨ (acc.getD e.on 0).testBit j = true)
 | [],s0,h => .inl h
 | e :: es,s0,h => by
  simp only [List.foldl_cons] at h
  rcases aMA acc j es _ h with h1 | ⟨e',he',h2⟩
  ·split at h1
   ·rename_i hb
    simp only [Nat.testBit_or,Bool.or_eq_true,Nat.testBit_two_pow,decide_eq_true_eq] at h1
    rcases h1 with (h1 | h1) | h1
    ·exact .inl h1
    ·exact .inr ⟨e,by simp,hb,.inl h1.symm⟩
    ·exact .inr ⟨e,by simp,hb,.inr h1⟩
   ·exact .inl h1
  ·exact .inr ⟨e',by simp [he'],h2⟩
def PU (ops:List Oper) (L:Nat → Bool) (m:Nat):Prop:=∀ o,ops[m]? = some o → ∀ e ∈ o.after,Region.binds .any e = true → L e.on = true
theorem aIe {ops:List Oper} {L:Nat → Bool} (hL:∀ m,L m = true → PU ops L m):∀ (os:List Oper) (acc:List Nat),(∀ j,os[j]? = ops[acc.length + j]?) →
  (∀ m j,(acc.getD m 0).testBit j = true → PU ops L m → L j = true) → ∀ m j,((F1 os acc).getD m 0).testBit j = true → PU ops L m → L j = true
 | [],acc,_,h => by simpa only [F1] using h
 | o :: os,acc,hops,h => by
  simp only [F1]
  refine aIe hL os _ (fun j => by have:=hops (j + 1); simp only [List.getElem?_cons_succ] at this; rw [this]; congr 1; simp; omega) fun m j hb hm => ?_
  rw [List.getD_eq_getElem?_getD] at hb
  by_cases hlt:m < acc.length
  ·rw [List.getElem?_append_left hlt,← List.getD_eq_getElem?_getD] at hb
   exact h m j hb hm
  ·by_cases he:m = acc.length
   ·subst he
    simp only [List.getElem?_concat_length,Option.getD_some] at hb
    have ho:ops[acc.length]? = some o:=by have:=hops 0; simp at this; exact this.symm
    rcases aMA acc j _ _ hb with h0 | ⟨e,hem,hbd,h1⟩
    ·simp at h0
    ·have hon:=hm o ho e (by simpa using hem) hbd
     rcases h1 with rfl | h1
     ·exact hon
     ·exact h e.on j h1 (hL e.on hon)
   ·rw [List.getElem?_eq_none (by simp; omega)] at hb
    simp at hb
theorem aNq {ops:Array Oper}:∀ (fuel k:Nat) (listed:Array Bool),listed.size = ops.size → k + fuel = ops.size → (∀ j,j < ops.size → ∀ d,listed.getD j d = decide (j < k)) → Region.lexFrom .any ops fuel k listed = true →
  ∀ m o,k ≤ m → ops[m]? = some o → (∀ e ∈ o.after,Region.binds .any e = true → e.on < m) ∧ ∀ j oj,m < j → ops[j]? = some oj → (∀ e ∈ oj.after,Region.binds .any e = true → e.on ≠ m) → o.apart ops oj = true
 | 0,k,listed,hs,hk,_,_ => by
  intro m o hm ho
  have:=(Array.getElem?_eq_some_iff.1 ho).1
  omega
 | fuel + 1,k,listed,hs,hk,hl,h => by
  simp only [Region.lexFrom,Bool.and_eq_true] at h
  obtain ⟨⟨h1,h2⟩,h3⟩:=h
  intro m o hm ho
  have hkn:k < ops.size:=by omega
  by_cases he:m = k
  ·subst he
   have hr:m ∈ Region.ready .any ops listed:=by simpa using h1
   obtain ⟨_,o',ho',hall⟩:=mem_ready.1 hr
   rw [ho] at ho'; cases ho'
   refine ⟨fun e hem hb => ?_,fun j oj hj hoj hno => ?_⟩
   ·have h4:=hall e hem hb
    have hlt:e.on < ops.size:=by
     rcases Nat.lt_or_ge e.on listed.size with h5 | h5
     ·omega
     ·simp [Array.getElem?_eq_none h5] at h4
    rw [hl _ hlt] at h4
    simpa using h4
   ·refine Region.free_spec ho h2 j oj hoj (by omega) ?_ hno
    rw [hl j (Array.getElem?_eq_some_iff.1 hoj).1]
    simp; omega
  ·refine aNq fuel (k + 1) _ (by simpa using hs) (by omega) (fun j hj d => ?_) h3 m o (by omega) ho
   by_cases e:k = j
   ·subst e
    simp [hs,hkn]
   ·rw [getD_set_ne d e,hl j hj]
    by_cases hjk:j < k
    ·simp [hjk]; omega
    ·simp [hjk]; omega
end Ev
end Go.Proofs.YtejmccgfigiadaaGreat
namespace Go.Proofs.YtejmccgfigiadaaGreat
namespace Ev
variable {G:Gnd}
section
variable {E:Env} {call:b7} {thaw:List Nat}
structure Ran (E:Env) (call:b7) (thaw:List Nat) (ops:Array Oper) (es:List Ent) (s:List A) (h:H):Prop where
 len:es.length = ops.size
 at':∀ (i:Nat) (o:Oper),ops[i]? = some o → ∃ e,es[i]? = some e ∧ e.dst = o.dst ∧
   o9 E call thaw ops.toList e.base e.k o (runL (fun j => decide (j < i)) 0 es s h).1 (runL (fun j => decide (j < i)) 0 es s h).2 = some (e.a,e.wr,e.fp)
 lex:∀ m o,ops[m]? = some o → (∀ e ∈ o.after,Region.binds .any e = true → e.on < m) ∧ ∀ j oj,m < j → ops[j]? = some oj → (∀ e ∈ oj.after,Region.binds .any e = true → e.on ≠ m) → o.apart ops oj = true
 mem:∀ i j ei ej,i < j → es[i]? = some ei → es[j]? = some ej → iM ei.fp ej.fp = true → ((F1 ops.toList []).getD j 0).testBit i = true
theorem aFM {ops:Array Oper} {L:Nat → Bool} (hL:∀ m,L m = true → PU ops.toList L m) {m j:Nat} (hb:((F1 ops.toList []).getD m 0).testBit j = true) (hm:PU ops.toList L m):L j = true :=
 aIe hL ops.toList [] (fun j => by simp) (fun m j h => by simp at h) m j hb hm
theorem aGp {a b:Foot} {i:Nat} (hr:(a.ro = false ∧ i ∈ a.wr ∧ i ∈ b.ids) ∨ (b.ro = false ∧ i ∈ b.wr ∧ i ∈ a.ids)):iM a b = true:=by
 simp only [iM,Bool.or_eq_true,Bool.and_eq_true,Bool.not_eq_true',List.any_eq_true,List.contains_iff_mem]
 rcases hr with ⟨h1,h2,h3⟩ | ⟨h1,h2,h3⟩
 ·exact .inl ⟨h1,i,h2,h3⟩
 ·exact .inr ⟨h1,i,h2,h3⟩
theorem aS5 {ops:Array Oper} {es:List Ent} {s:List A} {h:H} (R:Ran E call thaw ops es s h) {L:Nat → Bool} (hL:∀ m,L m = true → PU ops.toList L m) {i:Nat} {o:Oper} (ho:ops[i]? = some o) (hi:L i = false) (hh:PU ops.toList L i) :
  ∃ e,es[i]? = some e ∧ e.dst = o.dst ∧ o9 E call thaw ops.toList e.base e.k o (runL L 0 es s h).1 (runL L 0 es s h).2 = some (e.a,e.wr,e.fp) ∧
   runL (fun j => j == i || L j) 0 es s h = (aPut (runL L 0 es s h).1 o.dst e.a,putW e.wr (runL L 0 es s h).2):=by
 obtain ⟨e,he,hd,hst⟩:=R.at' i o ho
 have hw:=aB9 hst
 have opAt:∀ (j:Nat) (e':Ent),es[j]? = some e' → ∃ o',ops[j]? = some o' ∧ e'.dst = o'.dst ∧ (e'.fp.ro = true → e'.wr = []) ∧ ∀ id ∈ e'.wr.map (·.1),id ∈ e'.fp.ids ∧ id ∈ e'.fp.wr:=by
  intro j e' hj
  have hlt:j < ops.size:=by rw [← R.len]; exact (List.getElem?_eq_some_iff.1 hj).1
  obtain ⟨e2,he2,hd2,hst2⟩:=R.at' j ops[j] (by simp [hlt])
  rw [hj] at he2; cases he2
  exact ⟨ops[j],by simp [hlt],hd2,aB9 hst2⟩
 have before:∀ (j:Nat) (oj:Oper),j < i → ops[j]? = some oj → (¬ (oj.apart ops o = true)) → L j = true:=by
  intro j oj hj hoj hna
  by_cases hx:∀ e ∈ o.after,Region.binds .any e = true → e.on ≠ j
  ·exact absurd ((R.lex j oj hoj).2 i o hj ho hx) hna
  ·obtain ⟨e',hx⟩:=Classical.not_forall.1 hx
   have:e' ∈ o.after ∧ Region.binds .any e' = true ∧ e'.on = j:=by
    refine ⟨Classical.byContradiction fun h1 => hx fun h2 => absurd h2 h1,Classical.byContradiction fun h1 => hx fun _ h2 => absurd h2 h1,Classical.byContradiction fun h1 => hx fun _ _ => h1⟩
   rw [← this.2.2]
   exact hh o (by simpa using ho) e' this.1 this.2.1
 have later:∀ (j:Nat) (oj:Oper),i < j → ops[j]? = some oj → (¬ (o.apart ops oj = true)) → L j = false:=by
  intro j oj hj hoj hna
  cases hlj:L j with
  | false => rfl
  | true =>
   exfalso
   by_cases hx:∀ e ∈ oj.after,Region.binds .any e = true → e.on ≠ i
   ·exact hna ((R.lex i o ho).2 j oj hj hoj hx)
   ·obtain ⟨e',hx⟩:=Classical.not_forall.1 hx
    have h3:e' ∈ oj.after ∧ Region.binds .any e' = true ∧ e'.on = i:=by
     refine ⟨Classical.byContradiction fun h1 => hx fun h2 => absurd h2 h1,Classical.byContradiction fun h1 => hx fun _ h2 => absurd h2 h1,Classical.byContradiction fun h1 => hx fun _ _ => h1⟩
    have:=hL j hlj oj (by simpa using hoj) e' h3.1 h3.2.1
    rw [h3.2.2,hi] at this
    cases this
 have mbefore:∀ (j:Nat) (e':Ent),j < i → es[j]? = some e' → iM e'.fp e.fp = true → L j = true:=fun j e' hj he' hc =>
  aFM hL (R.mem j i e' e hj he' he hc) hh
 have mlater:∀ (j:Nat) (e':Ent),i < j → es[j]? = some e' → iM e.fp e'.fp = true → L j = false:=by
  intro j e' hj he' hc
  cases hlj:L j with
  | false => rfl
  | true =>
   have:=aFM hL (R.mem i j e e' hj he he' hc) (hL j hlj)
   rw [hi] at this; cases this
 have nonro:∀ (e':Ent),(e'.fp.ro = true → e'.wr = []) → ∀ id ∈ e'.wr.map (·.1),e'.fp.ro = false:=by
  intro e' h1 id hid
  cases hr:e'.fp.ro with
  | false => rfl
  | true => rw [h1 hr] at hid; simp at hid
 refine ⟨e,he,hd,aPH hst (fun t ht => ?_) (fun id hid => ?_),Prod.ext (List.ext_getElem? fun t => ?_) (List.ext_getElem? fun id => ?_)⟩
 ·rw [EF,EF]
  refine NG (aVW t) es 0 _ fun j e' hj hm => ?_
  simp only [Nat.zero_add]
  simp only [mS,decide_eq_true_eq] at hm
  obtain ⟨o',ho',hd',_⟩:=opAt j e' hj
  rw [hd'] at hm
  have ht:t ∈ o.looksAt ops:=by simpa using ht
  rcases Nat.lt_trichotomy j i with h1 | h1 | h1
  ·rw [before j o' h1 ho' fun hap => (Oper.apart_spec hap).1 t hm ht]; simp [h1]
  ·subst h1; rw [hi]; simp
  ·rw [later j o' h1 ho' fun hap => (Oper.apart_spec hap).2.2 t hm ht]; simp; omega
 ·rw [K7,K7]
  refine NG (aV1 id) es 0 _ fun j e' hj hm => ?_
  simp only [Nat.zero_add]
  simp only [mW,List.contains_iff_mem] at hm
  obtain ⟨o',ho',hd',hw1,hw2⟩:=opAt j e' hj
  have hro:=nonro e' hw1 id hm
  rcases Nat.lt_trichotomy j i with h1 | h1 | h1
  ·rw [mbefore j e' h1 hj (aGp (.inl ⟨hro,(hw2 id hm).2,hid⟩))]; simp [h1]
  ·subst h1; rw [hi]; simp
  ·rw [mlater j e' h1 hj (aGp (.inr ⟨hro,(hw2 id hm).2,hid⟩))]; simp; omega
 ·simp only []
  rw [aOd,EF,EF]
  have:=aAW (aVW t) (L:=L) (e:=e) es 0 i s[t]? he (by simpa using hi) (fun j e' hj he' h1 h2 => by
   simp only [Nat.zero_add]
   simp only [mS,decide_eq_true_eq] at h1 h2
   obtain ⟨o',ho',hd',_⟩:=opAt j e' he'
   exact later j o' hj ho' fun hap => (Oper.apart_spec hap).2.1 t (by rw [← hd]; exact h1) (by rw [← hd']; exact h2))
  simp only [Nat.zero_add] at this
  rw [this]
  simp only [uS,hd]
 ·simp only []
  rw [aG0,K7,K7]
  have:=aAW (aV1 id) (L:=L) (e:=e) es 0 i h[id]? he (by simpa using hi) (fun j e' hj he' h1 h2 => by
   simp only [Nat.zero_add]
   simp only [mW,List.contains_iff_mem] at h1 h2
   obtain ⟨o',ho',hd',hw1,hw2⟩:=opAt j e' he'
   exact mlater j e' hj he' (aGp (.inr ⟨nonro e' hw1 id h2,(hw2 id h2).2,(hw.2 id h1).1⟩)))
  simp only [Nat.zero_add] at this
  rw [this]
  rfl
def open' (n:Nat) (listed:Array Bool):Nat:=(List.range n).countP fun i => !listed.getD i false
theorem aMk {p q:Nat → Bool}:∀ (l:List Nat) (i:Nat),i ∈ l → p i = true → q i = false → (∀ j,q j = true → p j = true) → l.countP q < l.countP p
 | [],i,h,_,_,_ => by simp at h
 | x :: l,i,h,hp,hq,hpq => by
  rw [List.countP_cons,List.countP_cons]
  have hle:l.countP q ≤ l.countP p:=List.countP_mono_left fun j _ hj => hpq j hj
  rcases List.mem_cons.1 h with rfl | h
  ·rw [hp,hq]; simp; omega
  ·have:=aMk l i h hp hq hpq
   cases hqx:q x with
   | false => simp; split <;> omega
   | true => rw [hpq x hqx]; simp; omega
theorem a0o (hE:EnvOK E) (hc:qA G E.P call) {ops:Array Oper} {es:List Ent} {s:List A} {h:H} {ρ0:Rho} {w0:World} {I0:Nat → Prop} {act0:Act} (R:Ran E call thaw ops es s h) {Q:Exit → Act → World → Prop}
  (hQ:∀ act' ρ' w' I',Step G h ρ0 w0 I0 (runL (fun _ => true) 0 es s h).2 ρ' w' I' → ARv (runL (fun _ => true) 0 es s h).2 ρ' w' I' (runL (fun _ => true) 0 es s h).1 act'.tmps.toList → act'.defers = act0.defers → Q .normal act' w') :
  ∀ (fuel:Nat) (listed:Array Bool) (act:Act) (ρ:Rho) (w:World) (I:Nat → Prop),listed.size = ops.size → (∀ m,listed.getD m false = true → PU ops.toList (fun j => listed.getD j false) m) → open' ops.size listed ≤ fuel →
   Step G h ρ0 w0 I0 (runL (fun j => listed.getD j false) 0 es s h).2 ρ w I → ARv (runL (fun j => listed.getD j false) 0 es s h).2 ρ w I (runL (fun j => listed.getD j false) 0 es s h).1 act.tmps.toList → act.defers = act0.defers →
   wpAny E.P .any ops Q fuel listed act w:=by
 have fin:∀ (listed:Array Bool) (act:Act) (ρ:Rho) (w:World) (I:Nat → Prop),listed.size = ops.size → Region.ready .any ops listed = [] →
   Step G h ρ0 w0 I0 (runL (fun j => listed.getD j false) 0 es s h).2 ρ w I → ARv (runL (fun j => listed.getD j false) 0 es s h).2 ρ w I (runL (fun j => listed.getD j false) 0 es s h).1 act.tmps.toList → act.defers = act0.defers → Q .normal act w:=by
  intro listed act ρ w I hs hr st hsl hd
  have all:∀ n,n ≤ ops.size → ∀ j,j < n → listed.getD j false = true:=by
   intro n
   induction n with
   | zero => intro _ j hj; omega
   | succ n ih =>
    intro hn j hj
    by_cases hjn:j < n
    ·exact ih (by omega) j hjn
    ·have:j = n:=by omega
     subst this
     cases hl:listed.getD j false with
     | true => rfl
     | false =>
      exfalso
      have hmem:j ∈ Region.ready .any ops listed:=mem_ready.2 ⟨by
       have hlt:j < listed.size:=by omega
       simp only [Array.getD_eq_getD_getElem?,Array.getElem?_eq_getElem hlt,Option.getD_some] at hl ⊢
       exact hl,ops[j],by simp,fun e he hb => ih (by omega) e.on ((R.lex j ops[j] (by simp)).1 e he hb)⟩
      rw [hr] at hmem
      cases hmem
  have:runL (fun j => listed.getD j false) 0 es s h = runL (fun _ => true) 0 es s h:=aAq es 0 s h fun j hj => by
   simp only [Nat.zero_add]
   exact all ops.size (Nat.le_refl _) j (by rw [← R.len]; exact hj)
  rw [this] at st hsl
  exact hQ act ρ w I st hsl hd
 intro fuel
 induction fuel with
 | zero =>
  intro listed act ρ w I hs hdc ho st hsl hd
  have hr:Region.ready .any ops listed = []:=by
   apply List.eq_nil_iff_forall_not_mem.2
   intro j hj
   obtain ⟨h0,o,hoj,_⟩:=mem_ready.1 hj
   have hlt:=(Array.getElem?_eq_some_iff.1 hoj).1
   have hz:open' ops.size listed = 0:=by omega
   unfold open' at hz
   rw [List.countP_eq_zero] at hz
   have:=hz j (List.mem_range.2 hlt)
   have hlt':j < listed.size:=by omega
   simp only [Array.getD_eq_getD_getElem?,Array.getElem?_eq_getElem hlt',Option.getD_some] at this h0
   rw [h0] at this
   simp at this
  exact ⟨hr,fin listed act ρ w I hs hr st hsl hd⟩
 | succ fuel ih =>
  intro listed act ρ w I hs hdc ho st hsl hd
  refine ⟨fun hr => fin listed act ρ w I hs hr st hsl hd,fun i hi => ?_⟩
  obtain ⟨h0,o,hoi,hedges⟩:=mem_ready.1 hi
  have hlt:=(Array.getElem?_eq_some_iff.1 hoi).1
  have hli:listed.getD i false = false:=by
   have hlt':i < listed.size:=by omega
   simp only [Array.getD_eq_getD_getElem?,Array.getElem?_eq_getElem hlt',Option.getD_some] at h0 ⊢
   exact h0
  have hheed:PU ops.toList (fun j => listed.getD j false) i:=fun o' ho' e he hb => by
   have:o' = o:=by
    have:ops[i]? = some o':=by simpa using ho'
    rw [hoi] at this; cases this; rfl
   subst this
   exact hedges e he hb
  obtain ⟨e,he,hde,hst,hrun⟩:=aS5 R hdc hoi hli hheed
  have newL:∀ j,(listed.setIfInBounds i true).getD j false = (j == i || listed.getD j false):=by
   intro j
   by_cases hji:j = i
   ·subst hji
    simp [hs,hlt]
   ·rw [getD_set_ne false (Ne.symm hji)]
    simp [hji]
  have hL':(fun j => (listed.setIfInBounds i true).getD j false) = fun j => (j == i || listed.getD j false):=funext newL
  unfold wpOp
  simp only [hoi]
  have key:=aVD hE hc hst st.rel hsl (wpAny E.P .any ops Q fuel (listed.setIfInBounds i true)) Q fun act' ρ' w' I' s1 hs1 hd1 => by
   refine ih _ act' ρ' w' I' (by simpa using hs) (fun m hm => ?_) ?_ ?_ ?_ (hd1.trans hd)
   ·rw [hL']
    intro o' ho' e' he' hb'
    rw [newL] at hm
    simp only [Bool.or_eq_true,beq_iff_eq] at hm ⊢
    rcases hm with rfl | hm
    ·exact .inr (hheed o' ho' e' he' hb')
    ·exact .inr (hdc m hm o' ho' e' he' hb')
   ·have:open' ops.size (listed.setIfInBounds i true) < open' ops.size listed:=by
     unfold open'
     refine aMk _ i (List.mem_range.2 hlt) (by simp only [hli]; rfl) (by simp only [newL]; simp) fun j hj => ?_
     simp only [newL] at hj
     simp only [Bool.not_eq_true',Bool.or_eq_false_iff] at hj ⊢
     exact hj.2
    omega
   ·rw [hL',hrun]
    exact st.trans s1
   ·rw [hL',hrun]
    exact hs1
  have htl:ops.toList.toArray = ops:=by simp
  rw [htl] at key
  split
  ·rename_i hw
   rw [if_pos hw] at key
   exact .inl key
  ·rename_i hw
   rw [if_neg hw] at key
   exact key
def kM (n:Nat):H:=List.replicate n .void
theorem aKo (ord:List Nat) (base n:Nat):back ord base n = fun (j:Nat) => (ord ++ List.range' base (n - ord.length))[j]?:=by
 funext j
 unfold back
 split
 ·rename_i h; rw [List.getElem?_append_left h]
 ·rename_i h
  rw [List.getElem?_append_right (by omega)]
  split
  ·rename_i h2
   rw [List.getElem?_range' (by omega)]
   simp
  ·rename_i h2
   rw [List.getElem?_eq_none (by simp; omega)]
theorem aOZ (f:Nat → Option Nat):∀ (rest:H) (h:H) (y:Nat),putW ((List.range' h.length rest.length).zip (rest.map (mapO f))) (h ++ kM (rest.length + y)) = h ++ rest.map (mapO f) ++ kM y
 | [],h,y => by simp [putW]
 | o :: rest,h,y => by
  have ih:=aOZ f rest (h ++ [mapO f o]) y
  simp only [List.length_cons,List.range'_succ,List.map_cons,List.zip_cons_cons,putW]
  have:(h ++ kM (rest.length + 1 + y)).set h.length (mapO f o) = (h ++ [mapO f o]) ++ kM (rest.length + y):=by
   rw [show rest.length + 1 + y = (rest.length + y) + 1 from by omega]
   simp [kM,List.replicate_succ]
  rw [this]
  simp only [List.length_append,List.length_cons,List.length_nil,Nat.zero_add] at ih
  rw [ih]
  simp
theorem aDZ (f:Nat → Option Nat):∀ (ord:List Nat) (h h1:H) (y:Nat),(∀ i ∈ ord,i < h.length) → ord.length ≤ h1.length →
  putW ((ord ++ List.range' h.length (h1.length - ord.length)).zip (h1.map (mapO f))) (h ++ kM (h1.length - ord.length + y)) = b9 f h ord h1 ++ kM y
 | [],h,h1,y,_,_ => by
  simp only [b9,List.nil_append,List.length_nil,Nat.sub_zero]
  exact aOZ f h1 h y
 | i :: ord,h,[],y,_,hl => by simp at hl
 | i :: ord,h,o :: h1,y,hi,hl => by
  simp only [List.length_cons,Nat.add_sub_add_right,List.cons_append,List.map_cons,List.zip_cons_cons,putW,b9]
  have hlt:=hi i (by simp)
  have:=aDZ f ord (h.set i (mapO f o)) h1 y (fun j hj => by simpa using hi j (by simp [hj])) (by simpa using hl)
  rw [List.set_append_left _ _ hlt]
  simpa using this
theorem aMj {h:H} {n i:Nat} (hi:i < h.length):(h ++ kM n)[i]? = h[i]?:=List.getElem?_append_left hi
theorem aRU {ops:List Oper} {o:Oper} {s s1:List A} {h h1:H} {c:Foot} (he:aEL E call thaw ops o s h = some (s1,h1,c)) :
  ∃ k a W,h1.length = h.length + k ∧ s1 = aPut s o.dst a ∧ ∀ y,o9 E call thaw ops h.length k o s (h ++ kM (k + y)) = some (a,W,c) ∧ putW W (h ++ kM (k + y)) = h1 ++ kM y:=by
 unfold aEL at he
 split at he
 ·rename_i hw
  split at he
  ·rename_i vs hvs
   split at he
   ·rename_i hp
    split at he
    ·rename_i a h2 hop
     cases he
     refine ⟨0,a,[],by simp,rfl,fun y => ⟨?_,by simp [putW]⟩⟩
     unfold o9
     simp only [hw,hvs,hp,if_true]
     rw [aCU hp h,hop]
     rfl
    ·cases he
   split at he
   ·rename_i hp0 hp
    split at he
    ·rename_i a h2 hop
     cases he
     refine ⟨0,a,[],by simp,rfl,fun y => ⟨?_,by simp [putW]⟩⟩
     unfold o9
     simp only [hw,hvs,hp0,hp,if_true,Bool.false_eq_true,if_false]
     rw [(TG hp (fun i hi x hx => by rw [List.getElem?_append_left (List.getElem?_eq_some_iff.1 hx).1]; exact hx) hop).2]
    ·cases he
   ·rename_i hp0 hp
    split at he
    ·rename_i a h' ord k hop
     unfold rW at hop
     simp only [] at hop
     split at hop
     ·rename_i a1 h2 hop1
      split at hop
      ·rename_i hcond
       obtain ⟨hlen,hcl⟩:=hcond
       simp only [Option.some.injEq,Prod.mk.injEq] at hop
       obtain ⟨rfl,rfl,rfl,rfl⟩:=hop
       have hl:=pT aK h (idsL vs) [] (by simp)
       have hb:=P1 hcl
       have big:∀ n,o9 E call thaw ops h.length (h2.length - (aE aK h (idsL vs) []).length) o s (h ++ kM (h2.length - (aE aK h (idsL vs) []).length + n)) =
         (if gI E o.op vs && (h2.length - (aE aK h (idsL vs) []).length) == 0 then some (mapA (fun (j:Nat) => (aE aK h (idsL vs) [])[j]?) a1,[],{ ids:=aE aK h (idsL vs) [],ro:=true })
          else some (mapA (fun (j:Nat) => (aE aK h (idsL vs) [] ++ List.range' h.length (h2.length - (aE aK h (idsL vs) []).length))[j]?) a1,((aE aK h (idsL vs) [] ++ List.range' h.length (h2.length - (aE aK h (idsL vs) []).length)).zip (h2.map (mapO (fun (j:Nat) => (aE aK h (idsL vs) [] ++ List.range' h.length (h2.length - (aE aK h (idsL vs) []).length))[j]?)))).filter (fun p => (wrOf E o.op vs (aE aK h (idsL vs) []) ++ List.range' h.length (h2.length - (aE aK h (idsL vs) []).length)).contains p.1),{ ids:=aE aK h (idsL vs) [] ++ List.range' h.length (h2.length - (aE aK h (idsL vs) []).length),ro:=false,wr:=wrOf E o.op vs (aE aK h (idsL vs) []) ++ List.range' h.length (h2.length - (aE aK h (idsL vs) []).length) })):=by
        intro n
        have hsm:∀ i ∈ aE aK h (idsL vs) [],h[i]? = (h ++ kM (h2.length - (aE aK h (idsL vs) []).length + n))[i]?:=fun i hi => (aMj (hl i hi)).symm
        unfold o9
        simp only [hw,hvs,hp0,hp,Bool.false_eq_true,if_false]
        rw [sG hsm hb.2 aK _ [] hb.1]
        unfold EU
        rw [aDu hsm,W9 hsm,hop1]
        have hv:(List.range' h.length (h2.length - (aE aK h (idsL vs) []).length)).all (TD (h ++ kM (h2.length - (aE aK h (idsL vs) []).length + n))) = true:=by
         rw [List.all_eq_true]
         intro i hi
         rw [aJq]
         rw [List.mem_range'_1] at hi
         rw [List.getElem?_append_right hi.1]
         unfold kM
         rw [List.getElem?_replicate_of_lt (by omega)]
        have hd:decide (h2.length = (aE aK h (idsL vs) []).length + (h2.length - (aE aK h (idsL vs) []).length)) = true:=by simp; omega
        simp only [hd,hcl,hv,Bool.and_self,if_true,Bool.false_eq_true,if_false]
       split at he
       ·rename_i hro
        cases he
        have hk:h2.length - (aE aK h (idsL vs) []).length = 0:=by
         simp only [Bool.and_eq_true,beq_iff_eq] at hro; exact hro.2
        refine ⟨0,_,[],by simp,rfl,fun y => ⟨?_,by simp [putW]⟩⟩
        have:=big y
        rw [if_pos hro,hk] at this
        rw [this,aKo,hk]
        simp
       ·rename_i hro
        cases he
        refine ⟨h2.length - (aE aK h (idsL vs) []).length,_,_,?_,rfl,fun y => ⟨by rw [big y,if_neg hro,aKo],?_⟩⟩
        ·have h3:=aDZ (back (aE aK h (idsL vs) []) h.length h2.length) (aE aK h (idsL vs) []) h h2 0 hl hlen
         have h4:=congrArg List.length h3
         rw [aFR] at h4
         simp [kM] at h4
         omega
        ·have h3:=aDZ (back (aE aK h (idsL vs) []) h.length h2.length) (aE aK h (idsL vs) []) h h2 y hl hlen
         rw [aKo] at h3 ⊢
         rw [← h3]
         have hsm:∀ i ∈ aE aK h (idsL vs) [],h[i]? = (h ++ kM (h2.length - (aE aK h (idsL vs) []).length + y))[i]?:=fun i hi => (aMj (hl i hi)).symm
         have hop2:=hop1
         have hcl2:=hcl
         rw [← aDu hsm] at hop2
         rw [← W9 hsm] at hcl2
         refine aQh hop2 hcl2 ?_ (by omega) (fun i hi => by simp only [List.length_append]; have:=hl i hi; omega)
         rw [List.nodup_append]
         refine ⟨gQ _ _ _ _ (by simp),List.nodup_range',fun a ha b hb e => ?_⟩
         subst e
         have:=hl a ha
         rw [List.mem_range'_1] at hb
         omega
      ·cases hop
     ·cases hop
    ·cases he
  ·cases he
 ·rename_i hw
  cases he
  refine ⟨0,.d .undef,[],by simp,rfl,fun y => ⟨?_,by simp [putW]⟩⟩
  unfold o9
  simp only [hw]
 ·cases he
theorem aOO {ops:List Oper}:∀ (rest:List Oper) (s s':List A) (h h':H) (cs:List Foot),z6 E call thaw ops rest s h = some (s',h',cs) →
  ∃ K,∀ x,∃ es,aQ7 E call thaw ops rest es s (h ++ kM (K + x)) ∧ es.map (·.fp) = cs ∧ ∀ k,runL (fun _ => true) k es s (h ++ kM (K + x)) = (s',h' ++ kM x)
 | [],s,s',h,h',cs,he => by
  simp only [z6,Option.some.injEq,Prod.mk.injEq] at he
  obtain ⟨rfl,rfl,rfl⟩:=he
  exact ⟨0,fun x => ⟨[],trivial,rfl,fun k => by simp [runL]⟩⟩
 | o :: rest,s,s',h,h',cs,he => by
  simp only [z6] at he
  split at he
  ·rename_i s1 h1 c hst
   split at he
   ·rename_i s2 h2 cs2 hrest
    cases he
    obtain ⟨k,a,W,hlen,rfl,hat⟩:=aRU hst
    obtain ⟨K,hK⟩:=aOO rest _ _ _ _ _ hrest
    refine ⟨k + K,fun x => ?_⟩
    obtain ⟨es,ht,hc,hr⟩:=hK x
    obtain ⟨ha1,ha2⟩:=hat (K + x)
    rw [show k + K + x = k + (K + x) from by omega]
    refine ⟨⟨o.dst,h.length,k,a,W,c⟩ :: es,⟨rfl,ha1,by rw [ha2]; exact ht⟩,by simp [hc],fun n => ?_⟩
    simp only [runL,if_true]
    rw [ha2]
    exact hr (n + 1)
   ·cases he
  ·cases he
theorem aIF {h:H} {ρ:Rho} {w:World} {I:Nat → Prop} (r:Rel G h ρ w I):∀ n,∃ ρ',Step G h ρ w I (h ++ kM n) ρ' w I
 | 0 => ⟨ρ,by simpa [kM] using Step.refl r⟩
 | n + 1 => by
  obtain ⟨ρ',s⟩:=aIF r n
  have s1:=kZ s.rel (Grew.refl w) .void none (by simp) (fun _ => by simp [OR])
  have e:h ++ kM (n + 1) = h ++ kM n ++ [.void]:=by simp [kM,List.replicate_succ']
  rw [e]
  exact ⟨_,s.trans s1⟩
theorem aZ0 (hE:EnvOK E) (hc:qA G E.P call):aCX G E call:=by
 intro id thaw ops s s' h h' he ρ w I act r hs Q hQ
 simp only [DI,if_true] at he
 split at he
 ·rename_i s1 h1 cs hrun
  split at he
  ·rename_i hcond
   cases he
   simp only [Bool.and_eq_true] at hcond
   obtain ⟨hlex,hclash⟩:=hcond
   obtain ⟨K,hK⟩:=aOO _ _ _ _ _ _ hrun
   obtain ⟨es,ht,hcs,hr⟩:=hK 0
   have hr:=hr 0
   simp only [Nat.add_zero] at ht hr
   obtain ⟨hlen,hat⟩:=aOP _ _ 0 _ _ ht
   have hlen':es.length = ops.size:=by rw [← hlen]; simp
   simp only [Region.lexB,Bool.and_eq_true] at hlex
   have R:Ran E call thaw ops es s (h ++ kM K):=by
    refine ⟨hlen',fun i o ho => ?_,fun m o ho => ?_,fun i j ei ej hij hei hej hcl => ?_⟩
    ·have:=hat i o (by simpa using ho)
     simpa only [Nat.zero_add] using this
    ·exact aNq ops.size 0 _ (by simp) (by omega) (fun j hj d => by simp [hj]) hlex.2 m o (Nat.zero_le _) ho
    ·unfold qO at hclash
     simp only [List.all_eq_true,List.mem_range] at hclash
     have hcl':=hclash j (by rw [← hcs]; simpa using (List.getElem?_eq_some_iff.1 hej).1) i hij
     have g1:cs.getD i {} = ei.fp:=by rw [← hcs,List.getD_eq_getElem?_getD]; simp [hei]
     have g2:cs.getD j {} = ej.fp:=by rw [← hcs,List.getD_eq_getElem?_getD]; simp [hej]
     rw [g1,g2,hcl] at hcl'
     simpa using hcl'
   obtain ⟨ρ1,st⟩:=aIF (r:=(aCx r (Grew.drew w)).rel) K
   have st0:=(aCx r (Grew.drew w)).trans st
   refine wp_region_any hE.mixed ?_
   have non:∀ (es:List Ent) (k:Nat) (s:List A) (h:H),runL (fun _ => false) k es s h = (s,h):=by
    intro es
    induction es with
    | nil => intro k s h; rfl
    | cons e es ih => intro k s h; simp only [runL]; exact ih _ _ _
   have hf:(fun j => (Array.replicate ops.size false).getD j false) = fun _ => false:=by
    funext j
    simp only [Array.getD_eq_getD_getElem?,Array.getElem?_replicate]
    split <;> rfl
   refine a0o hE hc (ρ0:=ρ1) (w0:={ w with drawn:=w.drawn + 1 }) (I0:=I) (act0:=act) R (fun act' ρ' w' I' st' hs' hd' => ?_) ops.size _ act ρ1 _ I (by simp) (fun m hm => ?_) ?_ ?_ ?_ rfl
   ·rw [hr] at st' hs'
    simp only [kM,List.replicate_zero,List.append_nil] at st' hs'
    exact hQ act' ρ' w' I' (st0.trans st') hs' hd'
   ·have:=congrFun hf m
    rw [this] at hm
    cases hm
   ·exact Nat.le_trans List.countP_le_length (by simp)
   ·rw [hf,non]
    exact .refl st.rel
   ·rw [hf,non]
    exact k6 st0.ext s _ hs
  ·cases he
 ·cases he
theorem aSe {E:Env} {L:Nat} (hE:EnvOK E) (hp:∀ f g,E.prim f = some g → S9 G E.P f g) (n:Nat):qA G E.P (aA E L n) :=
 aPZ hE hp (fun _ hc => aZ0 hE hc) n
end
end Ev
end Go.Proofs.YtejmccgfigiadaaGreat
