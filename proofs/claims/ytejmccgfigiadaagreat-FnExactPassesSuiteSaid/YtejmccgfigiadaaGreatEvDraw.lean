/-
  Regions that draw their order: the order of the text serves every order.
-/
import Derived.Test.YtejmccgfigiadaaGreatEvCalls
set_option linter.unusedSimpArgs false
set_option linter.unusedVariables false
namespace Go.Proofs.YtejmccgfigiadaaGreat
namespace Ev
variable {G:Gnd}
def fY (f:Nat → Option Nat):H → List Nat → H → H
 | h,p :: ps,o :: os => fY f (h.set p (mapO f o)) ps os
 | h,_,_ => h
theorem L2 (f:Nat → Option Nat):∀ (pos:List Nat) (h os:H),(fY f h pos os).length = h.length
 | [],h,os => by simp [fY]
 | p :: ps,h,[] => by simp [fY]
 | p :: ps,h,o :: os => by simp only [fY]; rw [L2 f ps]; simp
theorem M2 (f:Nat → Option Nat):∀ (pos:List Nat) (h os:H) (id:Nat),pos.Nodup → (∀ p ∈ pos,p < h.length) → os.length = pos.length →
  (fY f h pos os)[id]? = match aJ pos id with
   | some k => (os[k]?).map (mapO f)
   | none => h[id]?
 | [],h,os,id,_,_,_ => by simp [fY,aJ]
 | p :: ps,h,[],id,_,_,hl => by simp at hl
 | p :: ps,h,o :: os,id,hn,hr,hl => by
  simp only [List.nodup_cons] at hn
  simp only [fY]
  rw [M2 f ps _ os id hn.2 (fun q hq => by simpa using hr q (by simp [hq])) (by simpa using hl)]
  simp only [aJ]
  by_cases e:p = id
  ·subst e
   rw [s5 hn.1,if_pos rfl]
   simp [hr p (by simp)]
  ·rw [if_neg e]
   cases hp:aJ ps id with
   | none => simp [List.getElem?_set_ne e]
   | some k => simp
def lX (pos:List Nat) (ρ ρ1:Rho):Rho:=fun id =>
 match aJ pos id with
 | some k => ρ1 k
 | none => ρ id
theorem aEn {xs ys:List Nat} {i k:Nat} (h:aJ xs i = some k):aJ (xs ++ ys) i = some k:=by
 induction xs generalizing k with
 | nil => simp [aJ] at h
 | cons x xs ih =>
  simp only [List.cons_append,aJ] at h ⊢
  split at h
  ·rename_i e; rw [if_pos e]; exact h
  ·rename_i e
   rw [if_neg e]
   cases hp:aJ xs i with
   | none => rw [hp] at h; cases h
   | some m => rw [hp] at h; rw [ih hp]; exact h
theorem WV {h:H} {ρ:Rho} {w:World} {I:Nat → Prop} {ord fresh:List Nat} {h1:H} {ρ1:Rho} {w':World} {I':Nat → Prop}
  (r:Rel G h ρ w I) (hn:(ord ++ fresh).Nodup) (hr:∀ i ∈ ord,i < h.length) (hv:∀ i ∈ fresh,h[i]? = some .void) (hlen:h1.length = ord.length + fresh.length) (s:Step G (pack h ord) (sub ord ρ) w I h1 ρ1 w' I') :
  Step G h ρ w I (fY (fun (k:Nat) => (ord ++ fresh)[k]?) h (ord ++ fresh) h1) (lX (ord ++ fresh) ρ ρ1) w' I' ∧
  ∀ (id k:Nat),(fun (k:Nat) => (ord ++ fresh)[k]?) id = some k → gE h1 ρ1 w' I' id (fY (fun (k:Nat) => (ord ++ fresh)[k]?) h (ord ++ fresh) h1) (lX (ord ++ fresh) ρ ρ1) w' I' k:=by
 have hno:ord.Nodup:=(List.nodup_append.1 hn).1
 have hrp:∀ p ∈ ord ++ fresh,p < h.length:=fun p hp => (List.mem_append.1 hp).elim (hr p) (fun h2 => (List.getElem?_eq_some_iff.1 (hv p h2)).1)
 have get:=fun id => M2 (fun (k:Nat) => (ord ++ fresh)[k]?) (ord ++ fresh) h h1 id hn hrp (by simpa using hlen)
 generalize hf:(fun (k:Nat) => (ord ++ fresh)[k]?) = f at *
 have hfk:∀ k,f k = (ord ++ fresh)[k]?:=fun k => by rw [← hf]
 have loc:∀ k id,f k = some id → (fY f h (ord ++ fresh) h1)[id]? = (h1[k]?).map (mapO f) ∧ lX (ord ++ fresh) ρ ρ1 id = ρ1 k:=by
  intro k id hk
  rw [hfk] at hk
  have hp:=jU hn hk
  exact ⟨by rw [get,hp],by simp [lX,hp]⟩
 have refs:∀ k id,f k = some id → gE h1 ρ1 w' I' k (fY f h (ord ++ fresh) h1) (lX (ord ++ fresh) ρ ρ1) w' I' id:=fun k id hk =>
  jQ (fun o ho => by rw [(loc k id hk).1,ho]; rfl) (loc k id hk).2
 have orig:∀ id o,(fY f h (ord ++ fresh) h1)[id]? = some o →
   (∃ k o',f k = some id ∧ h1[k]? = some o' ∧ o = mapO f o' ∧ lX (ord ++ fresh) ρ ρ1 id = ρ1 k) ∨
   (id ∉ ord ∧ h[id]? = some o ∧ lX (ord ++ fresh) ρ ρ1 id = ρ id):=by
  intro id o ho
  rw [get] at ho
  cases hp:aJ (ord ++ fresh) id with
  | some k =>
   rw [hp] at ho
   simp only [Option.map_eq_some_iff] at ho
   obtain ⟨o',ho',rfl⟩:=ho
   have hb:f k = some id:=by rw [hfk]; exact bJ hp
   exact .inl ⟨k,o',hb,ho',rfl,(loc k id hb).2⟩
  | none =>
   rw [hp] at ho
   have hni:id ∉ ord:=fun hm => by obtain ⟨k,hk⟩:=dA (List.mem_append_left fresh hm); rw [hk] at hp; cases hp
   exact .inr ⟨hni,ho,by simp [lX,hp]⟩
 have other:∀ id o b,id ∉ ord → h[id]? = some o → live o → ρ id = some b → ¬ oZ (pack h ord) (sub ord ρ) b:=by
  intro id o b hni hid hlv hρ ho
  obtain ⟨j,o2,hj,hρj,hjo,hlv2⟩:=uG hr ho
  have:=r.inj id j b o o2 hρ hρj hid hjo hlv hlv2
  subst this
  exact hni hj
 have keepOther:∀ id o b,id ∉ ord → h[id]? = some o → live o → ρ id = some b → w'.heap[b]? = w.heap[b]?:=fun id o b hni hid hlv hρ =>
  s.keep.same b (r.own_not_imm ⟨id,o,hρ,hid,hlv⟩).2 (other id o b hni hid hlv hρ)
 have ownSub:∀ b,oZ (pack h ord) (sub ord ρ) b → oZ h ρ b:=fun b ho => by
  obtain ⟨j,o2,_,hρj,hjo,hlv2⟩:=uG hr ho
  exact ⟨j,o2,hρj,hjo,hlv2⟩
 have packRef:∀ id k,aJ ord id = some k → gE h ρ w I id (pack h ord) (sub ord ρ) w I k:=fun id k hk =>
  jQ (fun o ho => mM (bJ hk) ho) (by simp [sub,bJ hk])
 have backOf:∀ id k,aJ ord id = some k → f k = some id:=fun id k hp => by
  rw [hfk]
  exact bJ (aEn hp)
 have notFresh:∀ id,id ∉ ord → (∃ o,h[id]? = some o ∧ o ≠ .void) → aJ (ord ++ fresh) id = none:=fun id hni ⟨o,ho,hne⟩ =>
  s5 fun hm => (List.mem_append.1 hm).elim hni fun h2 => hne (by have:=hv id h2; rw [ho] at this; exact Option.some.inj this)
 have ext:Ext h ρ w I (fY f h (ord ++ fresh) h1) (lX (ord ++ fresh) ρ ρ1) w' I':=by
  refine ⟨s.ext.imm,fun id gen off len a cap hs => ?_,fun id gen b hs => ?_,fun id b hs => ?_⟩
  ·cases hp:aJ ord id with
   | some k => exact (refs k id (backOf id k hp)).1 _ _ _ _ _ (s.ext.sl _ _ _ _ _ _ ((packRef id k hp).1 _ _ _ _ _ hs))
   | none =>
    have hni:id ∉ ord:=fun hm => by obtain ⟨k,hk⟩:=dA hm; rw [hk] at hp; cases hp
    cases hid:h[id]? with
    | none => simp [slOK,hid] at hs
    | some o =>
     have hnv:o ≠ .void:=fun e => by rw [e] at hid; simp [slOK,hid] at hs
     have hpn:=notFresh id hni ⟨o,hid,hnv⟩
     have hg:(fY f h (ord ++ fresh) h1)[id]? = h[id]?:=by rw [get,hpn]
     have hm:lX (ord ++ fresh) ρ ρ1 id = ρ id:=by simp [lX,hpn]
     exact DC s.ext.imm hg hm (fun b hb ⟨o2,ho2,hl2⟩ => keepOther id o2 b hni ho2 hl2 hb) hs
  ·cases hp:aJ ord id with
   | some k => exact (refs k id (backOf id k hp)).2.1 _ _ (s.ext.pt _ _ _ ((packRef id k hp).2.1 _ _ hs))
   | none =>
    have hni:id ∉ ord:=fun hm => by obtain ⟨k,hk⟩:=dA hm; rw [hk] at hp; cases hp
    cases hid:h[id]? with
    | none => simp [ptOK,hid] at hs
    | some o =>
     have hnv:o ≠ .void:=fun e => by rw [e] at hid; simp [ptOK,hid] at hs
     have hpn:=notFresh id hni ⟨o,hid,hnv⟩
     have hg:(fY f h (ord ++ fresh) h1)[id]? = h[id]?:=by rw [get,hpn]
     have hm:lX (ord ++ fresh) ρ ρ1 id = ρ id:=by simp [lX,hpn]
     exact C1 s.ext.imm hg hm hs
  ·cases hp:aJ ord id with
   | some k => exact (refs k id (backOf id k hp)).2.2 _ (s.ext.mp _ _ ((packRef id k hp).2.2 _ hs))
   | none =>
    have hni:id ∉ ord:=fun hm => by obtain ⟨k,hk⟩:=dA hm; rw [hk] at hp; cases hp
    cases hid:h[id]? with
    | none => simp [mpOK,hid] at hs
    | some o =>
     have hnv:o ≠ .void:=fun e => by rw [e] at hid; simp [mpOK,hid] at hs
     have hpn:=notFresh id hni ⟨o,hid,hnv⟩
     have hg:(fY f h (ord ++ fresh) h1)[id]? = h[id]?:=by rw [get,hpn]
     have hm:lX (ord ++ fresh) ρ ρ1 id = ρ id:=by simp [lX,hpn]
     exact OK hg hm hs
 refine ⟨⟨⟨fun id o ho => ?_,fun id id' b o o' hb hb' ho ho' hlv hlv' => ?_,s.rel.imm,s.rel.ground⟩,ext,⟨s.keep.os,s.keep.tape,s.keep.output,s.keep.size,fun b hb hno => s.keep.same b hb (fun h => hno (ownSub b h)),fun b hb => ?_,s.keep.drawn⟩,fun b hb => ?_,by rw [L2]; exact Nat.le_refl _⟩,refs⟩
 ·rcases orig id o ho with ⟨k,o',hk,hk1,rfl,hm⟩ | ⟨hni,hid,hm⟩
  ·exact aDX refs hm (s.rel.obj k o' hk1)
  ·refine PG ext hm (fun b hb hl => ⟨keepOther id o b hni hid hl hb,fun hI' => ?_⟩) (r.obj id o hid)
   have hno:=r.own_not_imm ⟨id,o,hb,hid,hl⟩
   rcases s.keep.new b hI' with h | h | h
   ·exact hno.1 h
   ·omega
   ·exact other id o b hni hid hl hb h
 ·rcases orig id o ho with ⟨k,o1,hk,hk1,rfl,hm⟩ | ⟨hni,hid,hm⟩ <;> rcases orig id' o' ho' with ⟨k',o1',hk',hk1',rfl,hm'⟩ | ⟨hni',hid',hm'⟩
  ·rw [hm] at hb; rw [hm'] at hb'
   have:=s.rel.inj k k' b o1 o1' hb hb' hk1 hk1' ((eS _ _).1 hlv) ((eS _ _).1 hlv')
   subst this
   rw [hk] at hk'; cases hk'; rfl
  ·rw [hm] at hb; rw [hm'] at hb'
   exfalso
   rcases s.own b ⟨k,o1,hb,hk1,(eS _ _).1 hlv⟩ with h | h
   ·exact other id' _ b hni' hid' hlv' hb' h
   ·have:=(r.own_not_imm ⟨id',_,hb',hid',hlv'⟩).2; omega
  ·rw [hm] at hb; rw [hm'] at hb'
   exfalso
   rcases s.own b ⟨k',o1',hb',hk1',(eS _ _).1 hlv'⟩ with h | h
   ·exact other id _ b hni hid hlv hb h
   ·have:=(r.own_not_imm ⟨id,_,hb,hid,hlv⟩).2; omega
  ·rw [hm] at hb; rw [hm'] at hb'
   exact r.inj id id' b o o' hb hb' hid hid' hlv hlv'
 ·rcases s.keep.new b hb with h | h | h
  ·exact .inl h
  ·exact .inr (.inl h)
  ·exact .inr (.inr (ownSub b h))
 ·obtain ⟨id,o,hm0,ho,hlv⟩:=hb
  rcases orig id o ho with ⟨k,o1,hk,hk1,rfl,hm⟩ | ⟨hni,hid,hm⟩
  ·rw [hm] at hm0
   rcases s.own b ⟨k,o1,hm0,hk1,(eS _ _).1 hlv⟩ with h | h
   ·exact .inl (ownSub b h)
   ·exact .inr h
  ·rw [hm] at hm0
   exact .inl ⟨id,o,hm0,hid,hlv⟩
def putW:List (Nat × O) → H → H
 | [],h => h
 | (p,o) :: W,h => putW W (h.set p o)
theorem V2 (f:Nat → Option Nat):∀ (pos:List Nat) (h os:H),fY f h pos os = putW (pos.zip (os.map (mapO f))) h
 | [],h,os => by simp [fY,putW]
 | p :: ps,h,[] => by simp [fY,putW]
 | p :: ps,h,o :: os => by simp only [fY,List.map_cons,List.zip_cons_cons,putW]; exact V2 f ps _ os
theorem RO:∀ (W:List (Nat × O)) (h:H),(putW W h).length = h.length
 | [],h => rfl
 | (p,o) :: W,h => by simp only [putW]; rw [RO W]; simp
def wrW (id:Nat):List (Nat × O) → Option O → Option O
 | [],v => v
 | (p,o) :: W,v => wrW id W (if p = id then v.map (fun _ => o) else v)
theorem TD (id:Nat):∀ (W:List (Nat × O)) (h:H),(putW W h)[id]? = wrW id W h[id]?
 | [],h => rfl
 | (p,o) :: W,h => by
  simp only [putW,wrW]
  rw [TD id W]
  congr 1
  rw [List.getElem?_set]
  by_cases e:p = id
  ·subst e
   simp only [if_true]
   by_cases hl:p < h.length
   ·simp [hl]
   ·simp [hl]
  ·simp [e]
theorem aFv (id:Nat):∀ (W:List (Nat × O)) (v:Option O),id ∉ W.map (·.1) → wrW id W v = v
 | [],v,_ => rfl
 | (p,o) :: W,v,h => by
  simp only [List.map_cons,List.mem_cons,not_or] at h
  simp only [wrW]
  rw [if_neg (Ne.symm h.1)]
  exact aFv id W v h.2
mutual
theorem aHn {ord more:List Nat}:∀ a:A,(∀ i ∈ idsA a,i ∈ ord) → mapA (fun (k:Nat) => (ord ++ more)[k]?) (mapA (aJ ord) a) = a
 | .d x,_ => by simp only [mapA]
 | .sl id gen off len,h => by
  obtain ⟨k,hk⟩:=dA (h id (by simp [idsA]))
  simp only [mapA,hk,List.getElem?_append_left (AK hk),bJ hk]
 | .ptr id gen off,h => by
  obtain ⟨k,hk⟩:=dA (h id (by simp [idsA]))
  simp only [mapA,hk,List.getElem?_append_left (AK hk),bJ hk]
 | .mp id,h => by
  obtain ⟨k,hk⟩:=dA (h id (by simp [idsA]))
  simp only [mapA,hk,List.getElem?_append_left (AK hk),bJ hk]
 | .clo g caps,h => by simp only [mapA]; rw [mR caps (fun i hi => h i (by simpa only [idsA] using hi))]
 | .agg cs,h => by simp only [mapA]; rw [mR cs (fun i hi => h i (by simpa only [idsA] using hi))]
 | .tup cs,h => by simp only [mapA]; rw [mR cs (fun i hi => h i (by simpa only [idsA] using hi))]
 | .junk,_ => by simp only [mapA]
theorem mR {ord more:List Nat}:∀ as:List A,(∀ i ∈ idsL as,i ∈ ord) → aM (fun (k:Nat) => (ord ++ more)[k]?) (aM (aJ ord) as) = as
 | [],_ => by simp only [aM]
 | a :: as,h => by
  simp only [idsL,List.mem_append] at h
  simp only [aM]
  rw [aHn a (fun i hi => h i (.inl hi)),mR as (fun i hi => h i (.inr hi))]
end
def aGq:O → List Nat
 | .box cs => idsL cs
 | .vec cs _ _ => idsL cs
 | _ => []
theorem zH {h:H} {ord ids:List Nat} (hc:closed h ord ids = true):(∀ i ∈ ids,i ∈ ord) ∧ ∀ i ∈ ord,∀ o,h[i]? = some o → ∀ j ∈ aGq o,j ∈ ord:=by
 simp only [closed,Bool.and_eq_true,List.all_eq_true,List.contains_iff_mem] at hc
 refine ⟨hc.1,fun i hi o ho j hj => ?_⟩
 have:=hc.2 i hi
 rw [ho] at this
 cases o with
 | box cs =>
  simp only [List.all_eq_true,List.contains_iff_mem] at this
  exact this j hj
 | vec cs e g =>
  simp only [List.all_eq_true,List.contains_iff_mem] at this
  exact this j hj
 | _ => simp [aGq] at hj
theorem WZ {h:H} {ord ids more:List Nat} (hc:closed h ord ids = true) {i:Nat} {o:O} (hi:i ∈ ord) (ho:h[i]? = some o):mapO (fun (k:Nat) => (ord ++ more)[k]?) (mapO (aJ ord) o) = o:=by
 cases o with
 | box cs => simp only [mapO]; rw [mR cs ((zH hc).2 i hi _ ho)]
 | vec cs e g => simp only [mapO]; rw [mR cs ((zH hc).2 i hi _ ho)]
 | _ => simp only [mapO]
theorem aAN {h:H} {ord ids:List Nat} (hc:closed h ord ids = true) {i:Nat} {o:O} (hi:i ∈ ord) (ho:h[i]? = some o):mapO (fun (k:Nat) => ord[k]?) (mapO (aJ ord) o) = o:=by
 simpa only [List.append_nil] using WZ (more:=[]) hc hi ho
theorem aKo {h:H} {ord ids:List Nat} (hc:closed h ord ids = true) (hn:ord.Nodup) (hl:∀ i ∈ ord,i < h.length):fY (fun (k:Nat) => ord[k]?) h ord (pack h ord) = h:=by
 apply List.ext_getElem?
 intro id
 rw [M2 _ ord h _ id hn hl (by simp [pack])]
 cases hp:aJ ord id with
 | none => rfl
 | some k =>
  simp only []
  have hm:=aAF hp
  obtain ⟨o,ho⟩:∃ o,h[id]? = some o:=⟨h[id]'(hl id hm),List.getElem?_eq_getElem _⟩
  rw [mM (bJ hp) ho,ho,Option.map_some,aAN hc hm ho]
theorem jI {h h':H} {S:List Nat} (hs:∀ i ∈ S,h[i]? = h'[i]?) (hc:∀ i ∈ S,∀ o,h[i]? = some o → ∀ j ∈ aGq o,j ∈ S):∀ (n:Nat) (todo acc:List Nat),(∀ i ∈ todo,i ∈ S) → aD n h' todo acc = aD n h todo acc
 | 0,_,_,_ => rfl
 | _ + 1,[],_,_ => rfl
 | n + 1,i :: todo,acc,ht => by
  have hi:=ht i (by simp)
  have ht':∀ j ∈ todo,j ∈ S:=fun j hj => ht j (by simp [hj])
  simp only [aD]
  rw [← hs i hi]
  split
  ·exact jI hs hc n _ _ ht'
  ·split
   ·rename_i cs ho
    exact jI hs hc n _ _ fun j hj => (List.mem_append.1 hj).elim (ht' j) (hc i hi _ ho j)
   ·rename_i cs _ _ ho
    exact jI hs hc n _ _ fun j hj => (List.mem_append.1 hj).elim (ht' j) (hc i hi _ ho j)
   ·exact jI hs hc n _ _ ht'
   ·exact jI hs hc n _ _ ht'
   ·exact jI hs hc n _ _ ht'
theorem NF {h h':H} {S:List Nat} (hs:∀ i ∈ S,h[i]? = h'[i]?):pack h' S = pack h S:=by
 unfold pack
 exact List.map_congr_left fun i hi => by rw [List.getD_eq_getElem?_getD,List.getD_eq_getElem?_getD,hs i hi]
theorem N4 {α:Type} {f g:α → Bool}:∀ {l:List α},(∀ x ∈ l,f x = g x) → l.all f = l.all g
 | [],_ => rfl
 | x :: l,h => by simp only [List.all_cons]; rw [h x (by simp),N4 fun y hy => h y (by simp [hy])]
theorem FG {h h':H} {S ids:List Nat} (hs:∀ i ∈ S,h[i]? = h'[i]?):closed h' S ids = closed h S ids:=by
 unfold closed
 congr 1
 exact N4 fun i hi => by rw [hs i hi]
def BJ (h:H) (i:Nat):Bool :=
 match h[i]? with
 | some .void => true
 | _ => false
theorem W0 {h:H} {i:Nat}:BJ h i = true ↔ h[i]? = some .void:=by
 unfold BJ; split
 ·rename_i e; simp [e]
 ·rename_i e; simpa using e
def sR (E:Env) (call:bE) (thaw:List Nat) (base k:Nat) (o:Oper) (vs:List A) (h:H) (ord:List Nat):Option (A × List (Nat × O) × Foot) :=
 match evOp E call thaw (pack h ord) o (aM (aJ ord) vs) with
 | some (a,h1) =>
  if decide (h1.length = ord.length + k) && closed h ord (idsL vs) && (List.range' base k).all (BJ h) then
   if hM E o.op vs && k == 0 then some (mapA (fun (j:Nat) => ord[j]?) a,[],{ ids:=ord,ro:=true })
   else some (mapA (fun (j:Nat) => (ord ++ List.range' base k)[j]?) a,((ord ++ List.range' base k).zip (h1.map (mapO (fun (j:Nat) => (ord ++ List.range' base k)[j]?)))).filter (fun p => (wrOf E o.op vs ord ++ List.range' base k).contains p.1),{ ids:=ord ++ List.range' base k,ro:=false,wr:=wrOf E o.op vs ord ++ List.range' base k })
  else none
 | none => none
def gW (E:Env) (call:bE) (thaw:List Nat) (ops:List Oper) (base k:Nat) (o:Oper) (s:List A) (h:H):Option (A × List (Nat × O) × Foot) :=
 match qR ops s o with
 | some true => match bI s (opds o.op) with
  | some vs =>
   if mL o.op then
    match evOp E call thaw h o vs with
    | some (a,_) => some (a,[],{})
    | none => none
   else if mN o.op then
    match evOp E call thaw h o vs with
    | some (a,_) => some (a,[],{ ids:=ids0 vs,ro:=true })
    | none => none
   else sR E call thaw base k o vs h (aD aG h (idsL vs) [])
  | none => none
 | some false => some (.d .undef,[],{})
 | none => none
theorem zY {vs:List A} {k k':A → Option (A × H)} {g:A × H → A × H} (h:∀ a,k' a = (k a).map g):one vs k' = (one vs k).map g:=by
 unfold one; split
 ·exact h _
 ·rfl
theorem aGc {vs:List A} {k k':A → A → Option (A × H)} {g:A × H → A × H} (h:∀ a b,k' a b = (k a b).map g):two vs k' = (two vs k).map g:=by
 unfold two; split
 ·exact h _ _
 ·rfl
theorem aEN {a:A} {k k':Int → Option (A × H)} {g:A × H → A × H} (h:∀ i,k' i = (k i).map g):fU a k' = (fU a k).map g:=by
 unfold fU; split
 ·exact h _
 ·rfl
theorem rE (h h2:H) (x:Option A):x.map (fun r => (r,h2)) = (x.map fun r => (r,h)).map (fun r => (r.1,h2)):=by cases x <;> rfl
theorem NX {E:Env} {call:bE} {thaw:List Nat} {o:Oper} {vs:List A} (hp:mL o.op = true) (h h2:H):evOp E call thaw h2 o vs = (evOp E call thaw h o vs).map (fun r => (r.1,h2)):=by
 obtain ⟨dst,op,type,pos,after,guard⟩:=o
 cases op <;> simp only [mL,Bool.false_eq_true] at hp <;> simp only [evOp]
 case move x => exact zY fun a => rfl
 case pick a b c => unfold FU; split <;> rfl
 case build t ps => exact rE h h2 _
 case nilCheck x => exact zY fun a => by unfold HV; split <;> rfl
 case binOp =>
  refine aGc fun a b => ?_
  unfold bN
  split
  ·rfl
  ·split
   ·rfl
   ·exact rE h h2 _
 case unOp => exact zY fun a => rE h h2 _
 case makeFunc f a b =>
  unfold GF; split
  ·split <;> rfl
  ·rfl
 case fieldAddr t x f => exact zY fun a => by cases b7 E.P t f <;> first | rfl | exact rE h h2 _
 case field t x f =>
  refine zY fun a => ?_
  unfold YX; split
  ·exact rE h h2 _
  ·rfl
 case index t x y => exact aGc fun a b => aEN fun i => rE h h2 _
 case extract x i =>
  refine zY fun a => ?_
  unfold sT; split
  ·exact rE h h2 _
  ·rfl
theorem PA {h h1:H} {x:Option A} {a:A} (he:x.map (fun r => (r,h)) = some (a,h1)):h1 = h:=by
 cases x with
 | none => cases he
 | some v => cases he; rfl
theorem aI6 {E:Env} {call:bE} {thaw:List Nat} {o:Oper} {vs:List A} (hp:mL o.op = true) {h h1:H} {a:A} (he:evOp E call thaw h o vs = some (a,h1)):h1 = h:=by
 have:=NX (E:=E) (call:=call) (thaw:=thaw) (vs:=vs) hp h h
 rw [he] at this
 simpa using this
theorem aIa {E:Env} {call:bE} {thaw:List Nat} {o:Oper} {vs:List A} {f:Nat → Option Nat} (hp:hM E o.op vs = true) {h h1:H} {a:A} (he:evOp E call thaw h o (aM f vs) = some (a,h1)):h1 = h:=by
 obtain ⟨dst,op,type,pos,after,guard⟩:=o
 cases op <;> simp only [hM,Bool.false_eq_true] at hp <;> simp only [evOp] at he
 case load t x =>
  obtain ⟨b,_,he⟩:=eR he
  exact PA he
 case convert s d x =>
  obtain ⟨b,_,he⟩:=eR he
  unfold eD at he
  split at he <;> try (cases he; rfl)
  ·rename_i hd _
   unfold dG at hp
   rw [hd] at hp
   cases hp
  ·cases he
  ·repeat' split at he
   all_goals first
    | (cases he; done)
    | (simp only [Option.map_eq_some_iff,Prod.mk.injEq] at he; obtain ⟨_,_,_,rfl⟩:=he; rfl)
    | (rename_i hq; simp at hq; done)
  ·cases he
 case slice t x lo hi mx =>
  split at he
  ·unfold vG at he
   split at he <;> first
    | (cases he; done)
    | exact PA he
  ·cases he
 case indexAddr t x y =>
  obtain ⟨a1,b,_,he⟩:=jW he
  obtain ⟨_,i,_,he⟩:=gO he
  exact PA he
 case call c =>
  have mode:∀ (f:FuncId) (args:List A),(E.hint f).mode = 1 → cC call E.hint h f args = some (a,h1) → h1 = h:=by
   intro f args hm hcall
   unfold cC at hcall
   rw [hm] at hcall
   simp only [] at hcall
   split at hcall
   ·split at hcall
    ·split at hcall
     ·cases hcall; rfl
     ·cases hcall
    ·cases hcall
   ·cases hcall
  unfold g6 at he
  cases hcal:c.callee with
  | invoke r m => rw [hcal] at he; cases he
  | builtin b =>
   rw [hcal] at he hp
   cases b <;> simp only [Bool.false_eq_true] at hp
   case len =>
    simp only [bW] at he
    split at he
    ·unfold wB at he
     split at he
     ·cases he; rfl
     ·cases he
    ·exact PA he
    ·rename_i hq _ _; cases hq
    ·cases he
  | value fv =>
   rw [hcal] at he hp
   simp only [] at he
   cases vs with
   | nil => simp at hp
   | cons g vs =>
    simp only [aM] at he
    cases g with
    | clo f caps =>
     simp only [beq_iff_eq] at hp
     simp only [mapA,fS] at he
     exact mode f _ hp he
    | d x =>
     cases x with
     | fn f caps =>
      simp only [beq_iff_eq] at hp
      simp only [mapA,fS] at he
      exact mode f _ hp he
     | _ => simp at hp
    | _ => simp at hp
theorem aFj {P:Program} {h h2 h1:H} {tys:List TypeId} {args:List A} {a:A} (hs:∀ i ∈ ids0 args,∀ x,h[i]? = some x → h2[i]? = some x) (he:bW P h .len tys args = some (a,h1)):h1 = h ∧ bW P h2 .len tys args = some (a,h2):=by
 match tys,args,he with
 | t :: ts,[x],he =>
  cases x with
  | mp id =>
   simp only [bW,wB] at he ⊢
   split at he
   ·rename_i kt et es hu hid
    cases he
    rw [hu]
    refine ⟨rfl,?_⟩
    simp only [hs id (by simp [ids0,idsA]) _ hid]
   ·cases he
  | _ =>
   simp only [bW] at he ⊢
   cases hx:aLen P t _ with
   | none => rw [hx] at he; cases he
   | some y => rw [hx] at he; cases he; exact ⟨rfl,rfl⟩
 | [],_,he => simp [bW] at he
 | _ :: _,[],he => simp [bW] at he
 | _ :: _,_ :: _ :: _,he => simp [bW] at he
theorem aLH {P:Program} {h h2:H} {t:TypeId} {x:D} {l u:Option Int}:iR P h t (.d x) l u = iR P h2 t (.d x) l u:=by
 unfold iR
 cases P.underlying t with
 | none => rfl
 | some td => cases td <;> first | rfl | (cases x <;> rfl)
theorem BU {E:Env} {call:bE} {thaw:List Nat} {o:Oper} {vs:List A} (hp:mN o.op = true) {h h2 h1:H} {a:A} (hs:∀ i ∈ ids0 vs,∀ x,h[i]? = some x → h2[i]? = some x) (he:evOp E call thaw h o vs = some (a,h1)):h1 = h ∧ evOp E call thaw h2 o vs = some (a,h2):=by
 have frame:∀ {x y:Option A},x.map (fun r => (r,h)) = some (a,h1) → (x = some a → y = some a) → h1 = h ∧ y.map (fun r => (r,h2)) = some (a,h2):=by
  intro x y hx hy
  cases x with
  | none => cases hx
  | some z => cases hx; rw [hy rfl]; exact ⟨rfl,rfl⟩
 have look:∀ {b:A} {id:Nat} {x:O},vs.head? = some b → idsA b = [id] → h[id]? = some x → h2[id]? = some x:=by
  intro b id x hb hid hx
  refine hs id ?_ x hx
  cases vs with
  | nil => cases hb
  | cons c l => cases hb; simp only [ids0,hid,List.mem_singleton]
 obtain ⟨dst,op,type,pos,after,guard⟩:=o
 cases op <;> simp only [mN,Bool.false_eq_true] at hp <;> simp only [evOp] at he ⊢
 case load t x =>
  obtain ⟨b,rfl,he⟩:=eR he
  simp only [one]
  refine frame he fun hx => ?_
  unfold wO at hx ⊢
  have hr:∀ run,kC h b = some run → kC h2 b = some run:=by
   intro run hrun
   cases b with
   | ptr id gen off =>
    simp only [kC] at hrun ⊢
    cases hg:h[id]? with
    | none => rw [hg] at hrun; cases hrun
    | some x => rw [hg] at hrun; rw [look (b:=.ptr id gen off) rfl rfl hg]; exact hrun
   | d x => cases x <;> simpa only [kC] using hrun
   | _ => simp [kC] at hrun
  cases hrn:kC h b with
  | none => rw [hrn] at hx; cases hx
  | some run => rw [hrn] at hx; rw [hr run hrn]; exact hx
 case slice t x lo hi mx =>
  split at he
  ·rename_i hmx
   rw [if_pos hmx]
   have key:∀ {b:A} {l u:Option Int},vs.head? = some b → iR E.P h t b l u = some a → iR E.P h2 t b l u = some a:=by
    intro b l u hb hx
    cases b with
    | sl id gen off len =>
     unfold iR at hx ⊢
     cases hu:E.P.underlying t with
     | none => rw [hu] at hx; cases hx
     | some td =>
      rw [hu] at hx
      cases td <;> simp only [] at hx ⊢ <;> try (cases hx; done)
      cases hg:h[id]? with
      | none => rw [hg] at hx; cases hx
      | some x => rw [hg] at hx; rw [look hb rfl hg]; exact hx
    | d x =>
     rw [aLH (h2:=h)]
     exact hx
    | _ =>
     unfold iR at hx
     cases hu:E.P.underlying t with
     | none => rw [hu] at hx; cases hx
     | some td => rw [hu] at hx; cases td <;> cases hx
   unfold vG at he ⊢
   split at he
   ·exact frame he (key rfl)
   ·exact frame he (key rfl)
   ·exact frame he (key rfl)
   ·exact frame he (key rfl)
   ·cases he
  ·cases he
 case indexAddr t x y =>
  obtain ⟨b,c,rfl,he⟩:=jW he
  obtain ⟨kd,i,rfl,he⟩:=gO he
  simp only [two,fU]
  refine frame he fun hx => ?_
  unfold lN at hx ⊢
  cases hu:E.P.underlying t with
  | none => rw [hu] at hx; cases hx
  | some td =>
   rw [hu] at hx
   cases td <;> simp only [] at hx ⊢ <;> try (first | (cases hx; done) | (exact hx; done))
   cases b with
   | sl id gen off len =>
    simp only [] at hx ⊢
    cases hg:h[id]? with
    | none => rw [hg] at hx; cases hx
    | some x => rw [hg] at hx; rw [look (b:=.sl id gen off len) rfl rfl hg]; exact hx
   | d x => cases x <;> first | exact hx | cases hx
   | _ => cases hx
 case lookup t x y ok =>
  obtain ⟨b,c,rfl,he2⟩:=jW he
  clear he
  simp only [two]
  unfold OW at he2 ⊢
  have he:=he2
  clear he2
  split at he
  ·rename_i kt et id k hmt
   split at he
   ·rename_i es z hid hz
    simp only [look (b:=.mp id) rfl rfl hid,hz]
    split at he
    ·rename_i hc
     rw [if_pos hc]
     split at he
     ·rename_i r hr
      cases he
      exact ⟨rfl,by simp only []⟩
     ·cases he
    ·cases he
   ·cases he
  ·cases he
 case call c =>
  obtain ⟨callee,args,tys⟩:=c
  cases callee with
  | invoke r m => simp [] at hp
  | value v => simp [] at hp
  | builtin b =>
   cases b <;> simp only [Bool.false_eq_true] at hp
   simp only [g6] at he ⊢
   exact aFj hs he
theorem lF:∀ (n:Nat) (h:H) (todo acc:List Nat),(∀ i ∈ acc,∃ o,h[i]? = some o ∧ o ≠ .void) → ∀ i ∈ aD n h todo acc,∃ o,h[i]? = some o ∧ o ≠ .void
 | 0,_,_,_,hn => by simpa only [aD] using hn
 | _ + 1,_,[],_,hn => by simpa only [aD] using hn
 | n + 1,h,i :: todo,acc,hn => by
  simp only [aD]
  split
  ·exact lF n h todo acc hn
  ·have key:∀ o,h[i]? = some o → o ≠ .void → ∀ j ∈ acc ++ [i],∃ o,h[j]? = some o ∧ o ≠ .void:=by
    intro o ho hne j hj
    simp only [List.mem_append,List.mem_singleton] at hj
    rcases hj with hj | rfl
    ·exact hn j hj
    ·exact ⟨o,ho,hne⟩
   split
   ·rename_i cs ho; exact lF n h _ _ (key _ ho (by simp))
   ·rename_i cs _ _ ho; exact lF n h _ _ (key _ ho (by simp))
   ·exact lF n h _ _ hn
   ·rename_i o _ _ hne ho; exact lF n h _ _ (key _ ho (fun e => hne e))
   ·exact lF n h _ _ hn
theorem aIi {h:H} {ids:List Nat} {base k:Nat} (hv:∀ i ∈ List.range' base k,h[i]? = some .void):(aD aG h ids [] ++ List.range' base k).Nodup:=by
 rw [List.nodup_append]
 refine ⟨dF _ _ _ _ (by simp),List.nodup_range',fun a ha b hb e => ?_⟩
 subst e
 obtain ⟨o,ho,hne⟩:=lF aG h ids [] (by simp) a ha
 rw [hv a hb] at ho
 cases ho
 exact hne rfl
theorem DM {α:Type} {l:List α} {i j:Nat} {x:α} (h:i ≠ j):(l.set i x)[j]? = l[j]?:=List.getElem?_set_ne h
theorem yJ {P:Program} {h h1:H} {t:TypeId} {s x a:A} (he:lB P h t s x = some (a,h1)) {j:Nat} (hj:j < h.length) (hs:∀ id gen off len,s = .sl id gen off len → id ≠ j):h1[j]? = h[j]?:=by
 unfold lB at he
 repeat' split at he
 all_goals first
  | (cases he; done)
  | (cases he; first
    | exact List.getElem?_append_left hj
    | exact DM (hs _ _ _ _ rfl))
theorem KP {P:Program} {h h1:H} {t:TypeId} {id gen off len:Nat} {x a:A} (he:vS P h t id gen off len x = some (a,h1)) {j:Nat} (hs:id ≠ j):h1[j]? = h[j]?:=by
 unfold vS at he
 repeat' split at he
 all_goals first
  | (cases he; done)
  | (cases he; exact DM hs)
theorem aEH {P:Program} {h h1:H} {t:TypeId} {s x a:A} (he:sL P h t s x = some (a,h1)) {j:Nat} (hj:j < h.length) (hs:∀ id gen off len,s = .sl id gen off len → id ≠ j):h1[j]? = h[j]?:=by
 unfold sL at he
 split at he
 ·rename_i id gen off len
  have hne:=hs _ _ _ _ rfl
  split at he
  ·exact KP he hne
  ·split at he
   ·split at he
    ·rw [KP he hne,DM hne]
    ·exact yJ he hj hs
   ·exact yJ he hj hs
 ·exact yJ he hj hs
theorem HW:∀ (cs:List A) (h:H) (j:Nat),j < h.length → (aZ h cs).2[j]? = h[j]? ∧ h.length ≤ (aZ h cs).2.length
 | [],h,j,_ => by simp [aZ]
 | c :: cs,h,j,hj => by
  by_cases hc:c = .d .nils
  ·subst hc
   have:=HW cs (h ++ [.arr [] 0 0]) j (by simp; omega)
   simp only [List.length_append,List.length_cons,List.length_nil] at this
   simp only [aZ]
   exact ⟨this.1.trans (List.getElem?_append_left hj),by omega⟩
  ·have e1:(aZ h (c :: cs)).2 = (aZ h cs).2:=by
    rw [aZ.eq_def]
    split
    ·rename_i heq; cases heq
    ·rename_i heq; cases heq; exact absurd rfl hc
    ·rename_i heq; cases heq; rfl
   rw [e1]
   exact HW cs h j hj
theorem aAK {h h1:H} {v a:A} (he:aNew h v = some (a,h1)) {j:Nat} (hj:j < h.length):h1[j]? = h[j]?:=by
 unfold aNew at he
 split at he
 ·cases he
  obtain ⟨h2,h3⟩:=HW (aR v) h j hj
  rw [List.getElem?_append_left (by omega),h2]
 ·cases he
theorem Z3 {P:Program} {h:H} {tys:List TypeId} {args:List A} {r:A × H} (he:bW P h .append tys args = some r):∃ t s x,args = [s,x] ∧ sL P h t s x = some r:=by
 match tys,args,he with
 | [t,u],[s,x],he =>
  simp only [bW] at he
  split at he
  ·cases he
  ·cases he
  ·exact ⟨t,s,x,rfl,he⟩
 | [],_,he => simp [bW] at he
 | [_],_,he => simp [bW] at he
 | _ :: _ :: _ :: _,_,he => simp [bW] at he
 | [_,_],[],he => simp [bW] at he
 | [_,_],[_],he => simp [bW] at he
 | [_,_],_ :: _ :: _ :: _,he => simp [bW] at he
theorem aKm {E:Env} {call:bE} {thaw:List Nat} {o:Oper} {vs:List A} {h h1:H} {ord:List Nat} {a:A} (he:evOp E call thaw (pack h ord) o (aM (aJ ord) vs) = some (a,h1)) {j i:Nat} (hj:ord[j]? = some i) (hi:i ∉ wrOf E o.op vs ord):h1[j]? = (pack h ord)[j]?:=by
 have hjl:j < (pack h ord).length:=by
  simp only [pack,List.length_map]
  exact (List.getElem?_eq_some_iff.1 hj).1
 have hio:i ∈ ord:=List.mem_of_getElem? hj
 obtain ⟨dst,op,type,pos,after,guard⟩:=o
 have lent:∀ (f:FuncId) (args:List A),i ∉ (if (E.hint f).mode == 3 then [] else ord) → cC call E.hint (pack h ord) f args = some (a,h1) → h1[j]? = (pack h ord)[j]?:=by
  intro f args hm hc
  split at hm
  ·rename_i hm3
   unfold cC at hc
   rw [beq_iff_eq.1 hm3] at hc
   simp only [] at hc
   split at hc
   ·split at hc
    ·split at hc
     ·cases hc
      exact List.getElem?_append_left hjl
     ·cases hc
    ·cases hc
   ·cases hc
  ·exact absurd hio hm
 cases op <;> simp only [evOp] at he <;> first
  | exact absurd hio hi
  | skip
 case assign x =>
  obtain ⟨b,_,he⟩:=eR he
  unfold CK at he
  repeat' split at he
  all_goals (cases he; first | rfl | exact List.getElem?_append_left hjl)
 case alloc t =>
  cases hz:cX E.P t with
  | none => rw [hz] at he; cases he
  | some z => rw [hz] at he; exact aAK he hjl
 case box t x =>
  obtain ⟨b,_,he⟩:=eR he
  exact aAK he hjl
 case makeSlice t x y =>
  obtain ⟨a1,b,_,he⟩:=jW he
  obtain ⟨_,l,_,he⟩:=gO he
  obtain ⟨_,c,_,he⟩:=gO he
  split at he
  ·unfold r7 at he
   repeat' split at he
   all_goals first
    | (cases he; done)
    | (cases he; exact List.getElem?_append_left hjl)
  ·unfold d8 at he
   repeat' split at he
   all_goals first
    | (cases he; done)
    | (cases he; exact List.getElem?_append_left hjl)
 case makeMap t y =>
  split at he
  ·cases he; exact List.getElem?_append_left hjl
  ·cases he
 case call c =>
  obtain ⟨callee,args,tys⟩:=c
  unfold g6 at he
  cases callee with
  | invoke r m => cases he
  | builtin b =>
   simp only [] at he
   cases b <;> first
    | (simp only [wrOf] at hi; exact absurd hio hi)
    | skip
   cases vs with
   | nil => simp only [wrOf] at hi; exact absurd hio hi
   | cons s vs =>
    simp only [wrOf] at hi
    simp only [aM] at he
    obtain ⟨t,s',x,hargs,he⟩:=Z3 he
    simp only [List.cons.injEq] at hargs
    refine aEH he hjl fun id gen off len hsl => ?_
    rw [← hargs.1] at hsl
    cases s with
    | sl id0 g0 o0 l0 =>
     simp only [mapA] at hsl
     split at hsl
     ·rename_i k hk
      cases hsl
      intro e
      subst e
      have:=bJ hk
      rw [hj] at this
      cases this
      exact hi (by simp [idsA])
     ·cases hsl
    | ptr id0 g0 o0 =>
     simp only [mapA] at hsl
     split at hsl <;> cases hsl
    | mp id0 =>
     simp only [mapA] at hsl
     split at hsl <;> cases hsl
    | _ => simp only [mapA] at hsl; cases hsl
  | value fv =>
   simp only [] at he
   cases vs with
   | nil => cases he
   | cons g vs =>
    simp only [aM] at he
    cases g with
    | clo f caps =>
     simp only [mapA,fS] at he
     exact lent f _ (by simpa only [wrOf] using hi) he
    | d x =>
     cases x with
     | fn f caps =>
      simp only [mapA,fS] at he
      exact lent f _ (by simpa only [wrOf] using hi) he
     | _ => simp only [wrOf] at hi; exact absurd hio hi
    | _ => simp only [wrOf] at hi; exact absurd hio hi
theorem NN {q:Nat → Bool}:∀ (W:List (Nat × O)) (h:H),(W.map (·.1)).Nodup → (∀ i o,(i,o) ∈ W → q i = false → h[i]? = some o) → putW (W.filter fun p => q p.1) h = putW W h
 | [],h,_,_ => rfl
 | (i,o) :: W,h,hn,hs => by
  simp only [List.map_cons,List.nodup_cons] at hn
  cases hq:q i with
  | true =>
   simp only [List.filter_cons,hq,if_true,putW]
   refine NN W _ hn.2 fun i' o' hm hq' => ?_
   rw [DM (fun e => hn.1 (List.mem_map.2 ⟨(i',o'),hm,e.symm⟩))]
   exact hs i' o' (List.mem_cons_of_mem _ hm) hq'
  | false =>
   simp only [List.filter_cons,hq,Bool.false_eq_true,if_false,putW]
   have h1:=hs i o (by simp) hq
   have h2:h.set i o = h:=by
    apply List.ext_getElem?
    intro j
    rw [List.getElem?_set]
    obtain ⟨hl,he⟩:=List.getElem?_eq_some_iff.1 h1
    by_cases e:i = j
    ·subst e; simp [hl,he]
    ·simp [e]
   rw [h2]
   exact NN W h hn.2 fun i' o' hm hq' => hs i' o' (List.mem_cons_of_mem _ hm) hq'
theorem aF0 {E:Env} {call:bE} {thaw:List Nat} {o:Oper} {vs:List A} {h h1:H} {ord:List Nat} {a:A} {base k:Nat} (he:evOp E call thaw (pack h ord) o (aM (aJ ord) vs) = some (a,h1)) (hcl:closed h ord (idsL vs) = true) (hn:(ord ++ List.range' base k).Nodup) (hlen:h1.length = ord.length + k) (hl:∀ i ∈ ord,i < h.length) :
  putW (((ord ++ List.range' base k).zip (h1.map (mapO (fun (j:Nat) => (ord ++ List.range' base k)[j]?)))).filter fun p => (wrOf E o.op vs ord ++ List.range' base k).contains p.1) h = putW ((ord ++ List.range' base k).zip (h1.map (mapO (fun (j:Nat) => (ord ++ List.range' base k)[j]?)))) h:=by
 refine NN (q:=fun i => (wrOf E o.op vs ord ++ List.range' base k).contains i) _ h ?_ ?_
 ·rw [List.map_fst_zip (by simp; omega)]
  exact hn
 ·intro i x hm hq
  have hq:i ∉ wrOf E o.op vs ord ++ List.range' base k:=fun hc => by
   rw [List.contains_iff_mem.2 hc] at hq; cases hq
  simp only [List.mem_append,not_or] at hq
  obtain ⟨j,hj⟩:=List.getElem?_of_mem hm
  rw [List.getElem?_zip_eq_some] at hj
  obtain ⟨hj1,hj2⟩:=hj
  simp only at hj1 hj2
  have hjo:ord[j]? = some i:=by
   by_cases hlt:j < ord.length
   ·rwa [List.getElem?_append_left hlt] at hj1
   ·rw [List.getElem?_append_right (by omega)] at hj1
    exact absurd (List.mem_of_getElem? hj1) hq.2
  have hio:=List.mem_of_getElem? hjo
  rw [List.getElem?_map,aKm he hjo hq.1] at hj2
  have hi:=hl i hio
  have hg:h[i]? = some h[i]:=List.getElem?_eq_getElem hi
  have hp:(pack h ord)[j]? = some (mapO (aJ ord) h[i]):=by
   simp only [pack,List.getElem?_map,hjo,Option.map_some,List.getD_eq_getElem?_getD,hg,Option.getD_some]
  rw [hp] at hj2
  simp only [Option.map_some,Option.some.injEq] at hj2
  rw [hg,← hj2]
  congr 1
  exact (WZ hcl hio hg).symm
section
variable {E:Env} {call:bE}
theorem aH9 (hE:EnvOK E) (hc:hY G E.P call) {h:H} {ρ:Rho} {w:World} {I:Nat → Prop} {thaw:List Nat} {ops:List Oper} {base k:Nat} {o:Oper} {s:List A} {x:A} {W:List (Nat × O)} {fp:Foot} {act:Act} (he:gW E call thaw ops base k o s h = some (x,W,fp)) (r:Rel G h ρ w I) (hs:ARv h ρ w I s act.tmps.toList)
  (K:Act → World → Prop) (Q:Exit → Act → World → Prop) (hK:∀ act' ρ' w' I',Step G h ρ w I (putW W h) ρ' w' I' → ARv (putW W h) ρ' w' I' (aPut s o.dst x) act'.tmps.toList → act'.defers = act.defers → K act' w') :
  if Region.wanted o (yielded ops.toArray act.tmps) then o.wp E.P act w K Q else K (act.put o.dst undef) w:=by
 unfold gW at he
 split at he
 ·rename_i hw
  rw [O2 hw hs,if_pos rfl]
  split at he
  ·rename_i vs hvs
   have ha:=L3 hs hvs
   split at he
   ·rename_i hp
    split at he
    ·rename_i x1 h1 hop
     cases he
     have hh:=aI6 hp hop
     subst hh
     exact FW hE hc hop r ha K Q fun v ρ' w' I' s1 hx => hK _ ρ' w' I' s1 (CE (eJ s1.ext s _ hs) hx) (lW _ _ _)
    ·cases he
   split at he
   ·rename_i hp
    split at he
    ·rename_i x1 h1 hop
     cases he
     have hh:=(BU hp (h2:=h) (fun _ _ _ hx => hx) hop).1
     subst hh
     exact FW hE hc hop r ha K Q fun v ρ' w' I' s1 hx => hK _ ρ' w' I' s1 (CE (eJ s1.ext s _ hs) hx) (lW _ _ _)
    ·cases he
   ·unfold sR at he
    split at he
    ·rename_i x1 h1 hop
     split at he
     ·rename_i hcond
      simp only [Bool.and_eq_true,decide_eq_true_eq,List.all_eq_true] at hcond
      obtain ⟨⟨hlen,hcl⟩,hv⟩:=hcond
      have hv:∀ i ∈ List.range' base k,h[i]? = some .void:=fun i hi => W0.1 (hv i hi)
      have hl:=gZ aG h (idsL vs) [] (by simp)
      have hn:=aIi (ids:=idsL vs) hv
      have hno:=(List.nodup_append.1 hn).1
      have hr:=TM r hno hl
      have hren:∀ id k,aJ (aD aG h (idsL vs) []) id = some k → gE h ρ w I id (pack h (aD aG h (idsL vs) [])) (sub (aD aG h (idsL vs) []) ρ) w I k:=fun id k hk =>
       jQ (fun o ho => mM (bJ hk) ho) (by simp [sub,bJ hk])
      have hleaf:=FW hE hc hop hr (vO (iO w I) hren vs _ ha)
      split at he
      ·rename_i hro
       cases he
       simp only [Bool.and_eq_true,beq_iff_eq] at hro
       have hh:=aIa hro.1 hop
       refine hleaf K Q fun v ρ' w' I' s1 hx => ?_
       have hst:=WV (fresh:=[]) r (by simpa using hno) hl (by simp) (by rw [hlen,hro.2]; simp) s1
       rw [hh] at hst hx
       simp only [List.append_nil] at hst
       rw [aKo hcl hno hl] at hst
       exact hK _ _ w' I' hst.1 (CE (eJ hst.1.ext s _ hs) (xK (iO _ _) hst.2 x1 v hx)) (lW _ _ _)
      ·cases he
       refine hleaf K Q fun v ρ' w' I' s1 hx => ?_
       obtain ⟨s2,refs⟩:=WV r hn hl hv (by simpa using hlen) s1
       rw [V2,← aF0 hop hcl hn hlen hl] at s2 refs
       exact hK _ _ w' I' s2 (CE (eJ s2.ext s _ hs) (xK (iO _ _) refs x1 v hx)) (lW _ _ _)
     ·cases he
    ·cases he
  ·cases he
 ·rename_i hw
  rw [O2 hw hs]
  simp only [Bool.false_eq_true,if_false]
  cases he
  exact hK _ ρ w I (.refl r) (CE hs (by simp only [AR,DR])) (lW _ _ _)
 ·cases he
theorem aK0:∀ (op:Op) (x:Operand),x ∈ opds op → x ∈ op.operands:=by
 intro op x hx
 cases op <;> simp only [opds,Op.operands] at hx ⊢ <;> try (simp at hx; done)
 case slice t y lo hi mx =>
  simp only [List.mem_cons,List.mem_append,Option.mem_toList] at hx
  cases lo <;> cases hi <;> cases mx <;> simp only [Option.some.injEq,reduceCtorEq,or_false,false_or,Option.toArray_none,Option.toArray_some] at hx ⊢ <;> simp <;> grind
 case call c =>
  simp only [Call.operands]
  cases hcal:c.callee <;> rw [hcal] at hx <;> simp at hx ⊢
  ·exact hx
  ·exact hx
 all_goals (first | (simpa using hx) | (simp at hx ⊢; simp_all))
theorem P4 {s s':List A}:∀ (xs:List Operand),(∀ t,.tmp t ∈ xs → s[t]? = s'[t]?) → bI s xs = bI s' xs
 | [],_ => rfl
 | x :: xs,h => by
  simp only [bI]
  rw [P4 xs fun t ht => h t (by simp [ht])]
  have:bX s x = bX s' x:=by
   cases x with
   | tmp t =>
    simp only [bX]
    rw [List.getD_eq_getElem?_getD,List.getD_eq_getElem?_getD,h t (by simp)]
   | _ => rfl
  rw [this]
theorem aGI {ops:List Oper} {s s':List A} {o:Oper} (h:∀ t ∈ o.looksAt ops.toArray,s[t]? = s'[t]?):qR ops s o = qR ops s' o:=by
 unfold qR
 cases hg:o.guard with
 | none => rfl
 | some jw =>
  obtain ⟨j,want⟩:=jw
  simp only []
  cases hd:(ops[j]?).bind (·.dst) with
  | none => rfl
  | some d =>
   simp only []
   rw [h d (by simp [Oper.looksAt,hg,hd])]
theorem QF {thaw:List Nat} {base k:Nat} {o:Oper} {vs:List A} {h:H} {ord:List Nat} {a:A} {W:List (Nat × O)} {fp:Foot} (he:sR E call thaw base k o vs h ord = some (a,W,fp)) :
  (∀ i ∈ ord,i ∈ fp.ids) ∧ closed h ord (idsL vs) = true ∧ (∀ i ∈ List.range' base k,i ∈ fp.ids) ∧ (fp.ro = true → W = []) ∧ ∀ i ∈ W.map (·.1),i ∈ fp.ids ∧ i ∈ fp.wr:=by
 unfold sR at he
 split at he
 ·split at he
  ·rename_i hcond
   simp only [Bool.and_eq_true] at hcond
   split at he
   ·rename_i hro
    simp only [Bool.and_eq_true,beq_iff_eq] at hro
    cases he
    exact ⟨fun _ h => h,hcond.1.2,by rw [hro.2]; simp,fun _ => rfl,by simp⟩
   ·cases he
    refine ⟨fun i hi => List.mem_append_left _ hi,hcond.1.2,fun i hi => List.mem_append_right _ hi,by simp,fun i hi => ?_⟩
    obtain ⟨p,hp,rfl⟩:=List.mem_map.1 hi
    obtain ⟨hp,hw⟩:=List.mem_filter.1 hp
    exact ⟨(List.of_mem_zip hp).1,List.contains_iff_mem.1 hw⟩
  ·cases he
 ·cases he
theorem aEq {thaw:List Nat} {base k:Nat} {o:Oper} {vs:List A} {h h':H} {ord:List Nat} (h1:∀ i ∈ ord,h[i]? = h'[i]?) (h2:∀ i ∈ List.range' base k,h[i]? = h'[i]?):sR E call thaw base k o vs h' ord = sR E call thaw base k o vs h ord:=by
 unfold sR
 rw [NF h1,FG h1,N4 (f:=BJ h') (g:=BJ h) fun i hi => by unfold BJ; rw [h2 i hi]]
theorem KK {thaw:List Nat} {ops:List Oper} {base k:Nat} {o:Oper} {s:List A} {h:H} {a:A} {W:List (Nat × O)} {fp:Foot} (he:gW E call thaw ops base k o s h = some (a,W,fp)) :
  (fp.ro = true → W = []) ∧ ∀ i ∈ W.map (·.1),i ∈ fp.ids ∧ i ∈ fp.wr:=by
 unfold gW at he
 split at he
 ·split at he
  ·split at he
   ·split at he
    ·cases he; simp
    ·cases he
   ·split at he
    ·split at he
     ·cases he; simp
     ·cases he
    ·exact (QF he).2.2.2
  ·cases he
 ·cases he; simp
 ·cases he
theorem aFh {thaw:List Nat} {ops:List Oper} {base k:Nat} {o:Oper} {s s':List A} {h h':H} {a:A} {W:List (Nat × O)} {fp:Foot} (he:gW E call thaw ops base k o s h = some (a,W,fp))
  (hs:∀ t ∈ o.looksAt ops.toArray,s[t]? = s'[t]?) (hh:∀ i ∈ fp.ids,h[i]? = h'[i]?):gW E call thaw ops base k o s' h' = some (a,W,fp):=by
 unfold gW at he ⊢
 rw [← aGI hs]
 split at he
 ·rw [← P4 (opds o.op) fun t ht => hs t (List.mem_append_left _ (List.mem_filterMap.2 ⟨.tmp t,by simpa using aK0 _ _ ht,rfl⟩))]
  split at he
  ·split at he
   ·rename_i hp
    split at he
    ·rename_i x1 h1 hop
     cases he
     rw [if_pos hp,NX hp h h',hop]
     rfl
    ·cases he
   ·rename_i hp
    rw [if_neg hp]
    split at he
    ·rename_i hp
     split at he
     ·rename_i x1 h1 hop
      cases he
      rw [if_pos hp,(BU hp (fun i hi x hx => by rw [← hh i hi]; exact hx) hop).2]
     ·cases he
    rename_i hp
    rw [if_neg hp]
    obtain ⟨i1,i2,i3,_⟩:=QF he
    have hb:=zH i2
    rw [jI (S:=aD aG h (idsL _) []) (fun i hi => hh i (i1 i hi)) hb.2 aG _ [] hb.1]
    rw [aEq (fun i hi => hh i (i1 i hi)) (fun i hi => hh i (i3 i hi))]
    exact he
  ·cases he
 ·exact he
 ·cases he
end
end Ev
end Go.Proofs.YtejmccgfigiadaaGreat
namespace Go.Proofs.YtejmccgfigiadaaGreat
namespace Ev
variable {G:Gnd}
structure Ent where
 dst:Option Tmp
 base:Nat
 k:Nat
 a:A
 wr:List (Nat × O)
 fp:Foot
def runL (L:Nat → Bool):Nat → List Ent → List A → H → List A × H
 | _,[],s,h => (s,h)
 | k,e :: es,s,h => if L k then runL L (k + 1) es (aPut s e.dst e.a) (putW e.wr h) else runL L (k + 1) es s h
section loc
variable {X:Type} (u:Ent → X → X) (m:Ent → Bool)
def loc (L:Nat → Bool):Nat → List Ent → X → X
 | _,[],v => v
 | k,e :: es,v => loc L (k + 1) es (if L k then u e v else v)
variable {u m} (hu:∀ e v,m e = false → u e v = v)
include hu
theorem xP {L L':Nat → Bool}:∀ (es:List Ent) (k:Nat) (v:X),(∀ (j:Nat) (e:Ent),es[j]? = some e → m e = true → L (k + j) = L' (k + j)) → loc u L k es v = loc u L' k es v
 | [],_,_,_ => rfl
 | e :: es,k,v,h => by
  simp only [loc]
  have h0:(if L k then u e v else v) = (if L' k then u e v else v):=by
   cases hm:m e with
   | false => rw [hu e v hm]; simp
   | true => have:=h 0 e (by simp) hm; simp only [Nat.add_zero] at this; rw [this]
  rw [h0]
  exact xP es (k + 1) _ fun j e' hj hm => by
   have:=h (j + 1) e' (by simpa using hj) hm
   rw [show k + (j + 1) = k + 1 + j from by omega] at this
   exact this
theorem JF {L:Nat → Bool} {e:Ent}:∀ (es:List Ent) (k i:Nat) (v:X),es[i]? = some e → L (k + i) = false → (∀ (j:Nat) (e':Ent),i < j → es[j]? = some e' → m e = true → m e' = true → L (k + j) = false) →
  loc u (fun j => j == k + i || L j) k es v = u e (loc u L k es v)
 | [],_,_,_,h,_,_ => by simp at h
 | e0 :: es,k,0,v,h,hL,hlate => by
  simp only [List.getElem?_cons_zero,Option.some.injEq] at h
  subst h
  simp only [Nat.add_zero] at hL
  simp only [loc,Nat.add_zero,beq_self_eq_true,Bool.true_or,if_true,hL,Bool.false_eq_true,if_false]
  have e1:loc u (fun j => j == k || L j) (k + 1) es (u e0 v) = loc u L (k + 1) es (u e0 v):=by
   refine xP (m:=fun _ => true) (fun _ _ h => by cases h) es (k + 1) _ fun j e' _ _ => ?_
   have:(k + 1 + j == k) = false:=by simp; omega
   simp [this]
  rw [e1]
  cases hm:m e0 with
  | false => rw [hu e0 _ hm,hu e0 _ hm]
  | true =>
   have out:∀ v,loc u L (k + 1) es v = loc u (fun _ => false) (k + 1) es v:=fun v => xP hu es (k + 1) v fun j e' hj hm' => by
    have:=hlate (j + 1) e' (by omega) (by simpa using hj) hm hm'
    rw [show k + (j + 1) = k + 1 + j from by omega] at this
    exact this
   have non:∀ (es:List Ent) (k:Nat) (v:X),loc u (fun _ => false) k es v = v:=by
    intro es
    induction es with
    | nil => intro k v; rfl
    | cons e es ih => intro k v; simp only [loc]; exact ih _ _
   rw [out,out,non,non]
 | e0 :: es,k,i + 1,v,h,hL,hlate => by
  simp only [loc]
  have hne:(k == k + (i + 1)) = false:=by simp
  simp only [hne,Bool.false_or]
  have ih:=JF (L:=L) (e:=e) es (k + 1) i (if L k then u e0 v else v) (by simpa using h) (by rw [show k + 1 + i = k + (i + 1) from by omega]; exact hL) (fun j e' hj he' => by
   have:=hlate (j + 1) e' (by omega) (by simpa using he')
   rw [show k + (j + 1) = k + 1 + j from by omega] at this
   exact this)
  rw [show k + 1 + i = k + (i + 1) from by omega] at ih
  exact ih
end loc
def uS (t:Nat) (e:Ent) (v:Option A):Option A:=if e.dst = some t then v.map (fun _ => e.a) else v
def mS (t:Nat) (e:Ent):Bool:=decide (e.dst = some t)
def uW (id:Nat) (e:Ent) (v:Option O):Option O:=wrW id e.wr v
def mW (id:Nat) (e:Ent):Bool:=(e.wr.map (·.1)).contains id
theorem aIy (t:Nat) (e:Ent) (v:Option A) (h:mS t e = false):uS t e v = v:=by
 simp only [mS,decide_eq_false_iff_not] at h
 simp only [uS,if_neg h]
theorem aJF (id:Nat) (e:Ent) (v:Option O) (h:mW id e = false):uW id e v = v :=
 aFv id e.wr v (fun hm => by simp only [mW] at h; rw [List.contains_iff_mem.2 hm] at h; cases h)
theorem aDb (s:List A) (dst:Option Tmp) (a:A) (t:Nat):(aPut s dst a)[t]? = if dst = some t then s[t]?.map (fun _ => a) else s[t]?:=by
 cases dst with
 | none => simp [aPut]
 | some d =>
  simp only [aPut,List.getElem?_set,Option.some.injEq]
  by_cases e:d = t
  ·subst e
   simp only [if_true]
   by_cases hl:d < s.length
   ·simp [hl]
   ·simp [hl]
  ·simp [e]
theorem sM (L:Nat → Bool) (t:Nat):∀ (es:List Ent) (k:Nat) (s:List A) (h:H),(runL L k es s h).1[t]? = loc (uS t) L k es s[t]?
 | [],_,_,_ => rfl
 | e :: es,k,s,h => by
  simp only [runL,loc]
  cases hL:L k with
  | true => simp only [if_true]; rw [sM L t es,aDb]; rfl
  | false => simp only [Bool.false_eq_true,if_false]; exact sM L t es _ _ _
theorem vF (L:Nat → Bool) (id:Nat):∀ (es:List Ent) (k:Nat) (s:List A) (h:H),(runL L k es s h).2[id]? = loc (uW id) L k es h[id]?
 | [],_,_,_ => rfl
 | e :: es,k,s,h => by
  simp only [runL,loc]
  cases hL:L k with
  | true => simp only [if_true]; rw [vF L id es,TD]; rfl
  | false => simp only [Bool.false_eq_true,if_false]; exact vF L id es _ _ _
theorem JP {L L':Nat → Bool}:∀ (es:List Ent) (k:Nat) (s:List A) (h:H),(∀ j,j < es.length → L (k + j) = L' (k + j)) → runL L k es s h = runL L' k es s h
 | [],_,_,_,_ => rfl
 | e :: es,k,s,h,hl => by
  simp only [runL]
  have h0:=hl 0 (by simp)
  simp only [Nat.add_zero] at h0
  rw [h0]
  have ih:=fun s h => JP (L:=L) (L':=L') es (k + 1) s h fun j hj => by
   have:=hl (j + 1) (by simpa using hj)
   rw [show k + (j + 1) = k + 1 + j from by omega] at this
   exact this
  rw [ih,ih]
def aGP (E:Env) (call:bE) (thaw:List Nat) (ops:List Oper):List Oper → List Ent → List A → H → Prop
 | [],[],_,_ => True
 | o :: os,e :: es,s,h => e.dst = o.dst ∧ gW E call thaw ops e.base e.k o s h = some (e.a,e.wr,e.fp) ∧ aGP E call thaw ops os es (aPut s e.dst e.a) (putW e.wr h)
 | _,_,_,_ => False
theorem aCB {E:Env} {call:bE} {thaw:List Nat} {ops:List Oper}:∀ (os:List Oper) (es:List Ent) (k:Nat) (s:List A) (h:H),aGP E call thaw ops os es s h →
  os.length = es.length ∧ ∀ (i:Nat) (o:Oper),os[i]? = some o → ∃ e,es[i]? = some e ∧ e.dst = o.dst ∧
   gW E call thaw ops e.base e.k o (runL (fun j => decide (j < k + i)) k es s h).1 (runL (fun j => decide (j < k + i)) k es s h).2 = some (e.a,e.wr,e.fp)
 | [],[],_,_,_,_ => ⟨rfl,fun i o h => by simp at h⟩
 | [],_ :: _,_,_,_,h => h.elim
 | _ :: _,[],_,_,_,h => h.elim
 | o :: os,e :: es,k,s,h,ht => by
  obtain ⟨hd,hst,ht⟩:=ht
  obtain ⟨hl,ih⟩:=aCB os es (k + 1) _ _ ht
  refine ⟨by simp [hl],fun i o' ho => ?_⟩
  cases i with
  | zero =>
   simp only [List.getElem?_cons_zero,Option.some.injEq] at ho
   subst ho
   refine ⟨e,rfl,hd,?_⟩
   have:runL (fun j => decide (j < k + 0)) k (e :: es) s h = (s,h):=by
    rw [JP (L':=fun _ => false) _ _ _ _ fun j _ => by simp]
    have non:∀ (es:List Ent) (k:Nat),runL (fun _ => false) k es s h = (s,h):=by
     intro es
     induction es with
     | nil => intro k; rfl
     | cons e es ih => intro k; simp only [runL]; exact ih _
    exact non _ _
   rw [this]
   exact hst
  | succ i =>
   obtain ⟨e',he',hd',hst'⟩:=ih i o' (by simpa using ho)
   refine ⟨e',by simpa using he',hd',?_⟩
   have hlt:decide (k < k + (i + 1)) = true:=by simp
   simp only [runL,hlt,if_true]
   rw [show k + (i + 1) = k + 1 + i from by omega]
   exact hst'
theorem aBb (acc:List Nat) (j:Nat):∀ (es:List Edge) (s0:Nat),(es.foldl (fun s e => if Region.binds .any e then s ||| 2 ^ e.on ||| acc.getD e.on 0 else s) s0).testBit j = true →
  s0.testBit j = true ∨ ∃ e ∈ es,Region.binds .any e = true ∧ (j = e.on ∨ (acc.getD e.on 0).testBit j = true)
 | [],s0,h => .inl h
 | e :: es,s0,h => by
  simp only [List.foldl_cons] at h
  rcases aBb acc j es _ h with h1 | ⟨e',he',h2⟩
  ·split at h1
   ·rename_i hb
    simp only [Nat.testBit_or,Bool.or_eq_true,Nat.testBit_two_pow,decide_eq_true_eq] at h1
    rcases h1 with (h1 | h1) | h1
    ·exact .inl h1
    ·exact .inr ⟨e,by simp,hb,.inl h1.symm⟩
    ·exact .inr ⟨e,by simp,hb,.inr h1⟩
   ·exact .inl h1
  ·exact .inr ⟨e',by simp [he'],h2⟩
def zG (ops:List Oper) (L:Nat → Bool) (m:Nat):Prop:=∀ o,ops[m]? = some o → ∀ e ∈ o.after,Region.binds .any e = true → L e.on = true
theorem WY {ops:List Oper} {L:Nat → Bool} (hL:∀ m,L m = true → zG ops L m):∀ (os:List Oper) (acc:List Nat),(∀ j,os[j]? = ops[acc.length + j]?) →
  (∀ m j,(acc.getD m 0).testBit j = true → zG ops L m → L j = true) → ∀ m j,((tX os acc).getD m 0).testBit j = true → zG ops L m → L j = true
 | [],acc,_,h => by simpa only [tX] using h
 | o :: os,acc,hops,h => by
  simp only [tX]
  refine WY hL os _ (fun j => by have:=hops (j + 1); simp only [List.getElem?_cons_succ] at this; rw [this]; congr 1; simp; omega) fun m j hb hm => ?_
  rw [List.getD_eq_getElem?_getD] at hb
  by_cases hlt:m < acc.length
  ·rw [List.getElem?_append_left hlt,← List.getD_eq_getElem?_getD] at hb
   exact h m j hb hm
  ·by_cases he:m = acc.length
   ·subst he
    simp only [List.getElem?_concat_length,Option.getD_some] at hb
    have ho:ops[acc.length]? = some o:=by have:=hops 0; simp at this; exact this.symm
    rcases aBb acc j _ _ hb with h0 | ⟨e,hem,hbd,h1⟩
    ·simp at h0
    ·have hon:=hm o ho e (by simpa using hem) hbd
     rcases h1 with rfl | h1
     ·exact hon
     ·exact h e.on j h1 (hL e.on hon)
   ·rw [List.getElem?_eq_none (by simp; omega)] at hb
    simp at hb
theorem aDu {ops:Array Oper}:∀ (fuel k:Nat) (listed:Array Bool),listed.size = ops.size → k + fuel = ops.size → (∀ j,j < ops.size → ∀ d,listed.getD j d = decide (j < k)) → Region.lexFrom .any ops fuel k listed = true →
  ∀ m o,k ≤ m → ops[m]? = some o → (∀ e ∈ o.after,Region.binds .any e = true → e.on < m) ∧ ∀ j oj,m < j → ops[j]? = some oj → (∀ e ∈ oj.after,Region.binds .any e = true → e.on ≠ m) → o.apart ops oj = true
 | 0,k,listed,hs,hk,_,_ => by
  intro m o hm ho
  have:=(Array.getElem?_eq_some_iff.1 ho).1
  omega
 | fuel + 1,k,listed,hs,hk,hl,h => by
  simp only [Region.lexFrom,Bool.and_eq_true] at h
  obtain ⟨⟨h1,h2⟩,h3⟩:=h
  intro m o hm ho
  have hkn:k < ops.size:=by omega
  by_cases he:m = k
  ·subst he
   have hr:m ∈ Region.ready .any ops listed:=by simpa using h1
   obtain ⟨_,o',ho',hall⟩:=mem_ready.1 hr
   rw [ho] at ho'; cases ho'
   refine ⟨fun e hem hb => ?_,fun j oj hj hoj hno => ?_⟩
   ·have h4:=hall e hem hb
    have hlt:e.on < ops.size:=by
     rcases Nat.lt_or_ge e.on listed.size with h5 | h5
     ·omega
     ·simp [Array.getElem?_eq_none h5] at h4
    rw [hl _ hlt] at h4
    simpa using h4
   ·refine Region.free_spec ho h2 j oj hoj (by omega) ?_ hno
    rw [hl j (Array.getElem?_eq_some_iff.1 hoj).1]
    simp; omega
  ·refine aDu fuel (k + 1) _ (by simpa using hs) (by omega) (fun j hj d => ?_) h3 m o (by omega) ho
   by_cases e:k = j
   ·subst e
    simp [hs,hkn]
   ·rw [getD_set_ne d e,hl j hj]
    by_cases hjk:j < k
    ·simp [hjk]; omega
    ·simp [hjk]; omega
end Ev
end Go.Proofs.YtejmccgfigiadaaGreat
namespace Go.Proofs.YtejmccgfigiadaaGreat
namespace Ev
variable {G:Gnd}
section
variable {E:Env} {call:bE} {thaw:List Nat}
structure Ran (E:Env) (call:bE) (thaw:List Nat) (ops:Array Oper) (es:List Ent) (s:List A) (h:H):Prop where
 len:es.length = ops.size
 at':∀ (i:Nat) (o:Oper),ops[i]? = some o → ∃ e,es[i]? = some e ∧ e.dst = o.dst ∧
   gW E call thaw ops.toList e.base e.k o (runL (fun j => decide (j < i)) 0 es s h).1 (runL (fun j => decide (j < i)) 0 es s h).2 = some (e.a,e.wr,e.fp)
 lex:∀ m o,ops[m]? = some o → (∀ e ∈ o.after,Region.binds .any e = true → e.on < m) ∧ ∀ j oj,m < j → ops[j]? = some oj → (∀ e ∈ oj.after,Region.binds .any e = true → e.on ≠ m) → o.apart ops oj = true
 mem:∀ i j ei ej,i < j → es[i]? = some ei → es[j]? = some ej → dP ei.fp ej.fp = true → ((tX ops.toList []).getD j 0).testBit i = true
theorem QL {ops:Array Oper} {L:Nat → Bool} (hL:∀ m,L m = true → zG ops.toList L m) {m j:Nat} (hb:((tX ops.toList []).getD m 0).testBit j = true) (hm:zG ops.toList L m):L j = true :=
 WY hL ops.toList [] (fun j => by simp) (fun m j h => by simp at h) m j hb hm
theorem SV {a b:Foot} {i:Nat} (hr:(a.ro = false ∧ i ∈ a.wr ∧ i ∈ b.ids) ∨ (b.ro = false ∧ i ∈ b.wr ∧ i ∈ a.ids)):dP a b = true:=by
 simp only [dP,Bool.or_eq_true,Bool.and_eq_true,Bool.not_eq_true',List.any_eq_true,List.contains_iff_mem]
 rcases hr with ⟨h1,h2,h3⟩ | ⟨h1,h2,h3⟩
 ·exact .inl ⟨h1,i,h2,h3⟩
 ·exact .inr ⟨h1,i,h2,h3⟩
theorem aIE {ops:Array Oper} {es:List Ent} {s:List A} {h:H} (R:Ran E call thaw ops es s h) {L:Nat → Bool} (hL:∀ m,L m = true → zG ops.toList L m) {i:Nat} {o:Oper} (ho:ops[i]? = some o) (hi:L i = false) (hh:zG ops.toList L i) :
  ∃ e,es[i]? = some e ∧ e.dst = o.dst ∧ gW E call thaw ops.toList e.base e.k o (runL L 0 es s h).1 (runL L 0 es s h).2 = some (e.a,e.wr,e.fp) ∧
   runL (fun j => j == i || L j) 0 es s h = (aPut (runL L 0 es s h).1 o.dst e.a,putW e.wr (runL L 0 es s h).2):=by
 obtain ⟨e,he,hd,hst⟩:=R.at' i o ho
 have hw:=KK hst
 have opAt:∀ (j:Nat) (e':Ent),es[j]? = some e' → ∃ o',ops[j]? = some o' ∧ e'.dst = o'.dst ∧ (e'.fp.ro = true → e'.wr = []) ∧ ∀ id ∈ e'.wr.map (·.1),id ∈ e'.fp.ids ∧ id ∈ e'.fp.wr:=by
  intro j e' hj
  have hlt:j < ops.size:=by rw [← R.len]; exact (List.getElem?_eq_some_iff.1 hj).1
  obtain ⟨e2,he2,hd2,hst2⟩:=R.at' j ops[j] (by simp [hlt])
  rw [hj] at he2; cases he2
  exact ⟨ops[j],by simp [hlt],hd2,KK hst2⟩
 have before:∀ (j:Nat) (oj:Oper),j < i → ops[j]? = some oj → (¬ (oj.apart ops o = true)) → L j = true:=by
  intro j oj hj hoj hna
  by_cases hx:∀ e ∈ o.after,Region.binds .any e = true → e.on ≠ j
  ·exact absurd ((R.lex j oj hoj).2 i o hj ho hx) hna
  ·obtain ⟨e',hx⟩:=Classical.not_forall.1 hx
   have:e' ∈ o.after ∧ Region.binds .any e' = true ∧ e'.on = j:=by
    refine ⟨Classical.byContradiction fun h1 => hx fun h2 => absurd h2 h1,Classical.byContradiction fun h1 => hx fun _ h2 => absurd h2 h1,Classical.byContradiction fun h1 => hx fun _ _ => h1⟩
   rw [← this.2.2]
   exact hh o (by simpa using ho) e' this.1 this.2.1
 have later:∀ (j:Nat) (oj:Oper),i < j → ops[j]? = some oj → (¬ (o.apart ops oj = true)) → L j = false:=by
  intro j oj hj hoj hna
  cases hlj:L j with
  | false => rfl
  | true =>
   exfalso
   by_cases hx:∀ e ∈ oj.after,Region.binds .any e = true → e.on ≠ i
   ·exact hna ((R.lex i o ho).2 j oj hj hoj hx)
   ·obtain ⟨e',hx⟩:=Classical.not_forall.1 hx
    have h3:e' ∈ oj.after ∧ Region.binds .any e' = true ∧ e'.on = i:=by
     refine ⟨Classical.byContradiction fun h1 => hx fun h2 => absurd h2 h1,Classical.byContradiction fun h1 => hx fun _ h2 => absurd h2 h1,Classical.byContradiction fun h1 => hx fun _ _ => h1⟩
    have:=hL j hlj oj (by simpa using hoj) e' h3.1 h3.2.1
    rw [h3.2.2,hi] at this
    cases this
 have mbefore:∀ (j:Nat) (e':Ent),j < i → es[j]? = some e' → dP e'.fp e.fp = true → L j = true:=fun j e' hj he' hc =>
  QL hL (R.mem j i e' e hj he' he hc) hh
 have mlater:∀ (j:Nat) (e':Ent),i < j → es[j]? = some e' → dP e.fp e'.fp = true → L j = false:=by
  intro j e' hj he' hc
  cases hlj:L j with
  | false => rfl
  | true =>
   have:=QL hL (R.mem i j e e' hj he he' hc) (hL j hlj)
   rw [hi] at this; cases this
 have nonro:∀ (e':Ent),(e'.fp.ro = true → e'.wr = []) → ∀ id ∈ e'.wr.map (·.1),e'.fp.ro = false:=by
  intro e' h1 id hid
  cases hr:e'.fp.ro with
  | false => rfl
  | true => rw [h1 hr] at hid; simp at hid
 refine ⟨e,he,hd,aFh hst (fun t ht => ?_) (fun id hid => ?_),Prod.ext (List.ext_getElem? fun t => ?_) (List.ext_getElem? fun id => ?_)⟩
 ·rw [sM,sM]
  refine xP (aIy t) es 0 _ fun j e' hj hm => ?_
  simp only [Nat.zero_add]
  simp only [mS,decide_eq_true_eq] at hm
  obtain ⟨o',ho',hd',_⟩:=opAt j e' hj
  rw [hd'] at hm
  have ht:t ∈ o.looksAt ops:=by simpa using ht
  rcases Nat.lt_trichotomy j i with h1 | h1 | h1
  ·rw [before j o' h1 ho' fun hap => (Oper.apart_spec hap).1 t hm ht]; simp [h1]
  ·subst h1; rw [hi]; simp
  ·rw [later j o' h1 ho' fun hap => (Oper.apart_spec hap).2.2 t hm ht]; simp; omega
 ·rw [vF,vF]
  refine xP (aJF id) es 0 _ fun j e' hj hm => ?_
  simp only [Nat.zero_add]
  simp only [mW,List.contains_iff_mem] at hm
  obtain ⟨o',ho',hd',hw1,hw2⟩:=opAt j e' hj
  have hro:=nonro e' hw1 id hm
  rcases Nat.lt_trichotomy j i with h1 | h1 | h1
  ·rw [mbefore j e' h1 hj (SV (.inl ⟨hro,(hw2 id hm).2,hid⟩))]; simp [h1]
  ·subst h1; rw [hi]; simp
  ·rw [mlater j e' h1 hj (SV (.inr ⟨hro,(hw2 id hm).2,hid⟩))]; simp; omega
 ·simp only []
  rw [aDb,sM,sM]
  have:=JF (aIy t) (L:=L) (e:=e) es 0 i s[t]? he (by simpa using hi) (fun j e' hj he' h1 h2 => by
   simp only [Nat.zero_add]
   simp only [mS,decide_eq_true_eq] at h1 h2
   obtain ⟨o',ho',hd',_⟩:=opAt j e' he'
   exact later j o' hj ho' fun hap => (Oper.apart_spec hap).2.1 t (by rw [← hd]; exact h1) (by rw [← hd']; exact h2))
  simp only [Nat.zero_add] at this
  rw [this]
  simp only [uS,hd]
 ·simp only []
  rw [TD,vF,vF]
  have:=JF (aJF id) (L:=L) (e:=e) es 0 i h[id]? he (by simpa using hi) (fun j e' hj he' h1 h2 => by
   simp only [Nat.zero_add]
   simp only [mW,List.contains_iff_mem] at h1 h2
   obtain ⟨o',ho',hd',hw1,hw2⟩:=opAt j e' he'
   exact mlater j e' hj he' (SV (.inr ⟨nonro e' hw1 id h2,(hw2 id h2).2,(hw.2 id h1).1⟩)))
  simp only [Nat.zero_add] at this
  rw [this]
  rfl
def open' (n:Nat) (listed:Array Bool):Nat:=(List.range n).countP fun i => !listed.getD i false
theorem aBl {p q:Nat → Bool}:∀ (l:List Nat) (i:Nat),i ∈ l → p i = true → q i = false → (∀ j,q j = true → p j = true) → l.countP q < l.countP p
 | [],i,h,_,_,_ => by simp at h
 | x :: l,i,h,hp,hq,hpq => by
  rw [List.countP_cons,List.countP_cons]
  have hle:l.countP q ≤ l.countP p:=List.countP_mono_left fun j _ hj => hpq j hj
  rcases List.mem_cons.1 h with rfl | h
  ·rw [hp,hq]; simp; omega
  ·have:=aBl l i h hp hq hpq
   cases hqx:q x with
   | false => simp; split <;> omega
   | true => rw [hpq x hqx]; simp; omega
theorem aML (hE:EnvOK E) (hc:hY G E.P call) {ops:Array Oper} {es:List Ent} {s:List A} {h:H} {ρ0:Rho} {w0:World} {I0:Nat → Prop} {act0:Act} (R:Ran E call thaw ops es s h) {Q:Exit → Act → World → Prop}
  (hQ:∀ act' ρ' w' I',Step G h ρ0 w0 I0 (runL (fun _ => true) 0 es s h).2 ρ' w' I' → ARv (runL (fun _ => true) 0 es s h).2 ρ' w' I' (runL (fun _ => true) 0 es s h).1 act'.tmps.toList → act'.defers = act0.defers → Q .normal act' w') :
  ∀ (fuel:Nat) (listed:Array Bool) (act:Act) (ρ:Rho) (w:World) (I:Nat → Prop),listed.size = ops.size → (∀ m,listed.getD m false = true → zG ops.toList (fun j => listed.getD j false) m) → open' ops.size listed ≤ fuel →
   Step G h ρ0 w0 I0 (runL (fun j => listed.getD j false) 0 es s h).2 ρ w I → ARv (runL (fun j => listed.getD j false) 0 es s h).2 ρ w I (runL (fun j => listed.getD j false) 0 es s h).1 act.tmps.toList → act.defers = act0.defers →
   wpAny E.P .any ops Q fuel listed act w:=by
 have fin:∀ (listed:Array Bool) (act:Act) (ρ:Rho) (w:World) (I:Nat → Prop),listed.size = ops.size → Region.ready .any ops listed = [] →
   Step G h ρ0 w0 I0 (runL (fun j => listed.getD j false) 0 es s h).2 ρ w I → ARv (runL (fun j => listed.getD j false) 0 es s h).2 ρ w I (runL (fun j => listed.getD j false) 0 es s h).1 act.tmps.toList → act.defers = act0.defers → Q .normal act w:=by
  intro listed act ρ w I hs hr st hsl hd
  have all:∀ n,n ≤ ops.size → ∀ j,j < n → listed.getD j false = true:=by
   intro n
   induction n with
   | zero => intro _ j hj; omega
   | succ n ih =>
    intro hn j hj
    by_cases hjn:j < n
    ·exact ih (by omega) j hjn
    ·have:j = n:=by omega
     subst this
     cases hl:listed.getD j false with
     | true => rfl
     | false =>
      exfalso
      have hmem:j ∈ Region.ready .any ops listed:=mem_ready.2 ⟨by
       have hlt:j < listed.size:=by omega
       simp only [Array.getD_eq_getD_getElem?,Array.getElem?_eq_getElem hlt,Option.getD_some] at hl ⊢
       exact hl,ops[j],by simp,fun e he hb => ih (by omega) e.on ((R.lex j ops[j] (by simp)).1 e he hb)⟩
      rw [hr] at hmem
      cases hmem
  have:runL (fun j => listed.getD j false) 0 es s h = runL (fun _ => true) 0 es s h:=JP es 0 s h fun j hj => by
   simp only [Nat.zero_add]
   exact all ops.size (Nat.le_refl _) j (by rw [← R.len]; exact hj)
  rw [this] at st hsl
  exact hQ act ρ w I st hsl hd
 intro fuel
 induction fuel with
 | zero =>
  intro listed act ρ w I hs hdc ho st hsl hd
  have hr:Region.ready .any ops listed = []:=by
   apply List.eq_nil_iff_forall_not_mem.2
   intro j hj
   obtain ⟨h0,o,hoj,_⟩:=mem_ready.1 hj
   have hlt:=(Array.getElem?_eq_some_iff.1 hoj).1
   have hz:open' ops.size listed = 0:=by omega
   unfold open' at hz
   rw [List.countP_eq_zero] at hz
   have:=hz j (List.mem_range.2 hlt)
   have hlt':j < listed.size:=by omega
   simp only [Array.getD_eq_getD_getElem?,Array.getElem?_eq_getElem hlt',Option.getD_some] at this h0
   rw [h0] at this
   simp at this
  exact ⟨hr,fin listed act ρ w I hs hr st hsl hd⟩
 | succ fuel ih =>
  intro listed act ρ w I hs hdc ho st hsl hd
  refine ⟨fun hr => fin listed act ρ w I hs hr st hsl hd,fun i hi => ?_⟩
  obtain ⟨h0,o,hoi,hedges⟩:=mem_ready.1 hi
  have hlt:=(Array.getElem?_eq_some_iff.1 hoi).1
  have hli:listed.getD i false = false:=by
   have hlt':i < listed.size:=by omega
   simp only [Array.getD_eq_getD_getElem?,Array.getElem?_eq_getElem hlt',Option.getD_some] at h0 ⊢
   exact h0
  have hheed:zG ops.toList (fun j => listed.getD j false) i:=fun o' ho' e he hb => by
   have:o' = o:=by
    have:ops[i]? = some o':=by simpa using ho'
    rw [hoi] at this; cases this; rfl
   subst this
   exact hedges e he hb
  obtain ⟨e,he,hde,hst,hrun⟩:=aIE R hdc hoi hli hheed
  have newL:∀ j,(listed.setIfInBounds i true).getD j false = (j == i || listed.getD j false):=by
   intro j
   by_cases hji:j = i
   ·subst hji
    simp [hs,hlt]
   ·rw [getD_set_ne false (Ne.symm hji)]
    simp [hji]
  have hL':(fun j => (listed.setIfInBounds i true).getD j false) = fun j => (j == i || listed.getD j false):=funext newL
  unfold wpOp
  simp only [hoi]
  have key:=aH9 hE hc hst st.rel hsl (wpAny E.P .any ops Q fuel (listed.setIfInBounds i true)) Q fun act' ρ' w' I' s1 hs1 hd1 => by
   refine ih _ act' ρ' w' I' (by simpa using hs) (fun m hm => ?_) ?_ ?_ ?_ (hd1.trans hd)
   ·rw [hL']
    intro o' ho' e' he' hb'
    rw [newL] at hm
    simp only [Bool.or_eq_true,beq_iff_eq] at hm ⊢
    rcases hm with rfl | hm
    ·exact .inr (hheed o' ho' e' he' hb')
    ·exact .inr (hdc m hm o' ho' e' he' hb')
   ·have:open' ops.size (listed.setIfInBounds i true) < open' ops.size listed:=by
     unfold open'
     refine aBl _ i (List.mem_range.2 hlt) (by simp only [hli]; rfl) (by simp only [newL]; simp) fun j hj => ?_
     simp only [newL] at hj
     simp only [Bool.not_eq_true',Bool.or_eq_false_iff] at hj ⊢
     exact hj.2
    omega
   ·rw [hL',hrun]
    exact st.trans s1
   ·rw [hL',hrun]
    exact hs1
  have htl:ops.toList.toArray = ops:=by simp
  rw [htl] at key
  split
  ·rename_i hw
   rw [if_pos hw] at key
   exact .inl key
  ·rename_i hw
   rw [if_neg hw] at key
   exact key
def eB (n:Nat):H:=List.replicate n .void
theorem aAg (ord:List Nat) (base n:Nat):back ord base n = fun (j:Nat) => (ord ++ List.range' base (n - ord.length))[j]?:=by
 funext j
 unfold back
 split
 ·rename_i h; rw [List.getElem?_append_left h]
 ·rename_i h
  rw [List.getElem?_append_right (by omega)]
  split
  ·rename_i h2
   rw [List.getElem?_range' (by omega)]
   simp
  ·rename_i h2
   rw [List.getElem?_eq_none (by simp; omega)]
theorem aEu (f:Nat → Option Nat):∀ (rest:H) (h:H) (y:Nat),putW ((List.range' h.length rest.length).zip (rest.map (mapO f))) (h ++ eB (rest.length + y)) = h ++ rest.map (mapO f) ++ eB y
 | [],h,y => by simp [putW]
 | o :: rest,h,y => by
  have ih:=aEu f rest (h ++ [mapO f o]) y
  simp only [List.length_cons,List.range'_succ,List.map_cons,List.zip_cons_cons,putW]
  have:(h ++ eB (rest.length + 1 + y)).set h.length (mapO f o) = (h ++ [mapO f o]) ++ eB (rest.length + y):=by
   rw [show rest.length + 1 + y = (rest.length + y) + 1 from by omega]
   simp [eB,List.replicate_succ]
  rw [this]
  simp only [List.length_append,List.length_cons,List.length_nil,Nat.zero_add] at ih
  rw [ih]
  simp
theorem NJ (f:Nat → Option Nat):∀ (ord:List Nat) (h h1:H) (y:Nat),(∀ i ∈ ord,i < h.length) → ord.length ≤ h1.length →
  putW ((ord ++ List.range' h.length (h1.length - ord.length)).zip (h1.map (mapO f))) (h ++ eB (h1.length - ord.length + y)) = bG f h ord h1 ++ eB y
 | [],h,h1,y,_,_ => by
  simp only [bG,List.nil_append,List.length_nil,Nat.sub_zero]
  exact aEu f h1 h y
 | i :: ord,h,[],y,_,hl => by simp at hl
 | i :: ord,h,o :: h1,y,hi,hl => by
  simp only [List.length_cons,Nat.add_sub_add_right,List.cons_append,List.map_cons,List.zip_cons_cons,putW,bG]
  have hlt:=hi i (by simp)
  have:=NJ f ord (h.set i (mapO f o)) h1 y (fun j hj => by simpa using hi j (by simp [hj])) (by simpa using hl)
  rw [List.set_append_left _ _ hlt]
  simpa using this
theorem aAT {h:H} {n i:Nat} (hi:i < h.length):(h ++ eB n)[i]? = h[i]?:=List.getElem?_append_left hi
theorem aGk {ops:List Oper} {o:Oper} {s s1:List A} {h h1:H} {c:Foot} (he:OY E call thaw ops o s h = some (s1,h1,c)) :
  ∃ k a W,h1.length = h.length + k ∧ s1 = aPut s o.dst a ∧ ∀ y,gW E call thaw ops h.length k o s (h ++ eB (k + y)) = some (a,W,c) ∧ putW W (h ++ eB (k + y)) = h1 ++ eB y:=by
 unfold OY at he
 split at he
 ·rename_i hw
  split at he
  ·rename_i vs hvs
   split at he
   ·rename_i hp
    split at he
    ·rename_i a h2 hop
     cases he
     refine ⟨0,a,[],by simp,rfl,fun y => ⟨?_,by simp [putW]⟩⟩
     unfold gW
     simp only [hw,hvs,hp,if_true]
     rw [NX hp h,hop]
     rfl
    ·cases he
   split at he
   ·rename_i hp0 hp
    split at he
    ·rename_i a h2 hop
     cases he
     refine ⟨0,a,[],by simp,rfl,fun y => ⟨?_,by simp [putW]⟩⟩
     unfold gW
     simp only [hw,hvs,hp0,hp,if_true,Bool.false_eq_true,if_false]
     rw [(BU hp (fun i hi x hx => by rw [List.getElem?_append_left (List.getElem?_eq_some_iff.1 hx).1]; exact hx) hop).2]
    ·cases he
   ·rename_i hp0 hp
    split at he
    ·rename_i a h' ord k hop
     unfold iW at hop
     simp only [] at hop
     split at hop
     ·rename_i a1 h2 hop1
      split at hop
      ·rename_i hcond
       obtain ⟨hlen,hcl⟩:=hcond
       simp only [Option.some.injEq,Prod.mk.injEq] at hop
       obtain ⟨rfl,rfl,rfl,rfl⟩:=hop
       have hl:=gZ aG h (idsL vs) [] (by simp)
       have hb:=zH hcl
       have big:∀ n,gW E call thaw ops h.length (h2.length - (aD aG h (idsL vs) []).length) o s (h ++ eB (h2.length - (aD aG h (idsL vs) []).length + n)) =
         (if hM E o.op vs && (h2.length - (aD aG h (idsL vs) []).length) == 0 then some (mapA (fun (j:Nat) => (aD aG h (idsL vs) [])[j]?) a1,[],{ ids:=aD aG h (idsL vs) [],ro:=true })
          else some (mapA (fun (j:Nat) => (aD aG h (idsL vs) [] ++ List.range' h.length (h2.length - (aD aG h (idsL vs) []).length))[j]?) a1,((aD aG h (idsL vs) [] ++ List.range' h.length (h2.length - (aD aG h (idsL vs) []).length)).zip (h2.map (mapO (fun (j:Nat) => (aD aG h (idsL vs) [] ++ List.range' h.length (h2.length - (aD aG h (idsL vs) []).length))[j]?)))).filter (fun p => (wrOf E o.op vs (aD aG h (idsL vs) []) ++ List.range' h.length (h2.length - (aD aG h (idsL vs) []).length)).contains p.1),{ ids:=aD aG h (idsL vs) [] ++ List.range' h.length (h2.length - (aD aG h (idsL vs) []).length),ro:=false,wr:=wrOf E o.op vs (aD aG h (idsL vs) []) ++ List.range' h.length (h2.length - (aD aG h (idsL vs) []).length) })):=by
        intro n
        have hsm:∀ i ∈ aD aG h (idsL vs) [],h[i]? = (h ++ eB (h2.length - (aD aG h (idsL vs) []).length + n))[i]?:=fun i hi => (aAT (hl i hi)).symm
        unfold gW
        simp only [hw,hvs,hp0,hp,Bool.false_eq_true,if_false]
        rw [jI hsm hb.2 aG _ [] hb.1]
        unfold sR
        rw [NF hsm,FG hsm,hop1]
        have hv:(List.range' h.length (h2.length - (aD aG h (idsL vs) []).length)).all (BJ (h ++ eB (h2.length - (aD aG h (idsL vs) []).length + n))) = true:=by
         rw [List.all_eq_true]
         intro i hi
         rw [W0]
         rw [List.mem_range'_1] at hi
         rw [List.getElem?_append_right hi.1]
         unfold eB
         rw [List.getElem?_replicate_of_lt (by omega)]
        have hd:decide (h2.length = (aD aG h (idsL vs) []).length + (h2.length - (aD aG h (idsL vs) []).length)) = true:=by simp; omega
        simp only [hd,hcl,hv,Bool.and_self,if_true]
       split at he
       ·rename_i hro
        cases he
        have hk:h2.length - (aD aG h (idsL vs) []).length = 0:=by
         simp only [Bool.and_eq_true,beq_iff_eq] at hro; exact hro.2
        refine ⟨0,_,[],by simp,rfl,fun y => ⟨?_,by simp [putW]⟩⟩
        have:=big y
        rw [if_pos hro,hk] at this
        rw [this,aAg,hk]
        simp
       ·rename_i hro
        cases he
        refine ⟨h2.length - (aD aG h (idsL vs) []).length,_,_,?_,rfl,fun y => ⟨by rw [big y,if_neg hro,aAg],?_⟩⟩
        ·have h3:=NJ (back (aD aG h (idsL vs) []) h.length h2.length) (aD aG h (idsL vs) []) h h2 0 hl hlen
         have h4:=congrArg List.length h3
         rw [RO] at h4
         simp [eB] at h4
         omega
        ·have h3:=NJ (back (aD aG h (idsL vs) []) h.length h2.length) (aD aG h (idsL vs) []) h h2 y hl hlen
         rw [aAg] at h3 ⊢
         rw [← h3]
         have hsm:∀ i ∈ aD aG h (idsL vs) [],h[i]? = (h ++ eB (h2.length - (aD aG h (idsL vs) []).length + y))[i]?:=fun i hi => (aAT (hl i hi)).symm
         have hop2:=hop1
         have hcl2:=hcl
         rw [← NF hsm] at hop2
         rw [← FG hsm] at hcl2
         refine aF0 hop2 hcl2 ?_ (by omega) (fun i hi => by simp only [List.length_append]; have:=hl i hi; omega)
         rw [List.nodup_append]
         refine ⟨dF _ _ _ _ (by simp),List.nodup_range',fun a ha b hb e => ?_⟩
         subst e
         have:=hl a ha
         rw [List.mem_range'_1] at hb
         omega
      ·cases hop
     ·cases hop
    ·cases he
  ·cases he
 ·rename_i hw
  cases he
  refine ⟨0,.d .undef,[],by simp,rfl,fun y => ⟨?_,by simp [putW]⟩⟩
  unfold gW
  simp only [hw]
 ·cases he
theorem aD0 {ops:List Oper}:∀ (rest:List Oper) (s s':List A) (h h':H) (cs:List Foot),nV E call thaw ops rest s h = some (s',h',cs) →
  ∃ K,∀ x,∃ es,aGP E call thaw ops rest es s (h ++ eB (K + x)) ∧ es.map (·.fp) = cs ∧ ∀ k,runL (fun _ => true) k es s (h ++ eB (K + x)) = (s',h' ++ eB x)
 | [],s,s',h,h',cs,he => by
  simp only [nV,Option.some.injEq,Prod.mk.injEq] at he
  obtain ⟨rfl,rfl,rfl⟩:=he
  exact ⟨0,fun x => ⟨[],trivial,rfl,fun k => by simp [runL]⟩⟩
 | o :: rest,s,s',h,h',cs,he => by
  simp only [nV] at he
  split at he
  ·rename_i s1 h1 c hst
   split at he
   ·rename_i s2 h2 cs2 hrest
    cases he
    obtain ⟨k,a,W,hlen,rfl,hat⟩:=aGk hst
    obtain ⟨K,hK⟩:=aD0 rest _ _ _ _ _ hrest
    refine ⟨k + K,fun x => ?_⟩
    obtain ⟨es,ht,hc,hr⟩:=hK x
    obtain ⟨ha1,ha2⟩:=hat (K + x)
    rw [show k + K + x = k + (K + x) from by omega]
    refine ⟨⟨o.dst,h.length,k,a,W,c⟩ :: es,⟨rfl,ha1,by rw [ha2]; exact ht⟩,by simp [hc],fun n => ?_⟩
    simp only [runL,if_true]
    rw [ha2]
    exact hr (n + 1)
   ·cases he
  ·cases he
theorem W5 {h:H} {ρ:Rho} {w:World} {I:Nat → Prop} (r:Rel G h ρ w I):∀ n,∃ ρ',Step G h ρ w I (h ++ eB n) ρ' w I
 | 0 => ⟨ρ,by simpa [eB] using Step.refl r⟩
 | n + 1 => by
  obtain ⟨ρ',s⟩:=W5 r n
  have s1:=eE s.rel (Grew.refl w) .void none (by simp) (fun _ => by simp [OR])
  have e:h ++ eB (n + 1) = h ++ eB n ++ [.void]:=by simp [eB,List.replicate_succ']
  rw [e]
  exact ⟨_,s.trans s1⟩
theorem aLR (hE:EnvOK E) (hc:hY G E.P call):OI G E call:=by
 intro id thaw ops s s' h h' he ρ w I act r hs Q hQ
 simp only [rV,if_true] at he
 split at he
 ·rename_i s1 h1 cs hrun
  split at he
  ·rename_i hcond
   cases he
   simp only [Bool.and_eq_true] at hcond
   obtain ⟨hlex,hclash⟩:=hcond
   obtain ⟨K,hK⟩:=aD0 _ _ _ _ _ _ hrun
   obtain ⟨es,ht,hcs,hr⟩:=hK 0
   have hr:=hr 0
   simp only [Nat.add_zero] at ht hr
   obtain ⟨hlen,hat⟩:=aCB _ _ 0 _ _ ht
   have hlen':es.length = ops.size:=by rw [← hlen]; simp
   simp only [Region.lexB,Bool.and_eq_true] at hlex
   have R:Ran E call thaw ops es s (h ++ eB K):=by
    refine ⟨hlen',fun i o ho => ?_,fun m o ho => ?_,fun i j ei ej hij hei hej hcl => ?_⟩
    ·have:=hat i o (by simpa using ho)
     simpa only [Nat.zero_add] using this
    ·exact aDu ops.size 0 _ (by simp) (by omega) (fun j hj d => by simp [hj]) hlex.2 m o (Nat.zero_le _) ho
    ·unfold iH at hclash
     simp only [List.all_eq_true,List.mem_range] at hclash
     have hcl':=hclash j (by rw [← hcs]; simpa using (List.getElem?_eq_some_iff.1 hej).1) i hij
     have g1:cs.getD i {} = ei.fp:=by rw [← hcs,List.getD_eq_getElem?_getD]; simp [hei]
     have g2:cs.getD j {} = ej.fp:=by rw [← hcs,List.getD_eq_getElem?_getD]; simp [hej]
     rw [g1,g2,hcl] at hcl'
     simpa using hcl'
   obtain ⟨ρ1,st⟩:=W5 (r:=(OS r (Grew.drew w)).rel) K
   have st0:=(OS r (Grew.drew w)).trans st
   refine wp_region_any hE.mixed ?_
   have non:∀ (es:List Ent) (k:Nat) (s:List A) (h:H),runL (fun _ => false) k es s h = (s,h):=by
    intro es
    induction es with
    | nil => intro k s h; rfl
    | cons e es ih => intro k s h; simp only [runL]; exact ih _ _ _
   have hf:(fun j => (Array.replicate ops.size false).getD j false) = fun _ => false:=by
    funext j
    simp only [Array.getD_eq_getD_getElem?,Array.getElem?_replicate]
    split <;> rfl
   refine aML hE hc (ρ0:=ρ1) (w0:={ w with drawn:=w.drawn + 1 }) (I0:=I) (act0:=act) R (fun act' ρ' w' I' st' hs' hd' => ?_) ops.size _ act ρ1 _ I (by simp) (fun m hm => ?_) ?_ ?_ ?_ rfl
   ·rw [hr] at st' hs'
    simp only [eB,List.replicate_zero,List.append_nil] at st' hs'
    exact hQ act' ρ' w' I' (st0.trans st') hs' hd'
   ·have:=congrFun hf m
    rw [this] at hm
    cases hm
   ·exact Nat.le_trans List.countP_le_length (by simp)
   ·rw [hf,non]
    exact .refl st.rel
   ·rw [hf,non]
    exact eJ st0.ext s _ hs
  ·cases he
 ·cases he
theorem aGU {E:Env} {L:Nat} (hE:EnvOK E) (hp:∀ f g,E.prim f = some g → A1 G E.P f g) (n:Nat):hY G E.P (aA E L n) :=
 aFY hE hp (fun _ hc => aLR hE hc) n
end
end Ev
end Go.Proofs.YtejmccgfigiadaaGreat
