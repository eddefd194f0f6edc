/-
  Lent calls: what is handed over is read off memory.
-/
import Derived.Test.YtejmccgfigiadaaGreatEvWalk
set_option linter.unusedSimpArgs false
set_option linter.unusedVariables false
namespace Go.Proofs.YtejmccgfigiadaaGreat
namespace Ev
def cQ (f:A → Option D):List A → Option (List D)
 | [] => some []
 | a :: as => match f a,cQ f as with
  | some x,some xs => some (x :: xs)
  | _,_ => none
def rd0 (h:H):A → Option D
 | .d x => some x
 | .sl id gen off len => match h[id]? with
  | some (.arr cs esz g) => if g = gen ∧ off + len * esz ≤ cs.length then some (.ivs len ((cs.drop off).take (len * esz))) else none
  | some (.ice cs esz g) => if g = gen ∧ off + len * esz ≤ cs.length then some (.ivs len ((cs.drop off).take (len * esz))) else none
  | _ => none
 | _ => none
def rd1 (h:H):A → Option D
 | .sl id gen off len => match h[id]? with
  | some (.vec cs esz g) => if g = gen ∧ off + len * esz ≤ cs.length then (cQ (rd0 h) cs).map fun ds => .ivs len ((ds.drop off).take (len * esz)) else none
  | _ => rd0 h (.sl id gen off len)
 | .clo f caps => (cQ (rd0 h) caps).map (.fn f)
 | a => rd0 h a
def rdA (h:H):A → Option A
 | .agg cs => (cQ (rd1 h) cs).map fun ds => .agg (ds.map .d)
 | a => (rd1 h a).map .d
def rdAs (h:H):List A → Option (List A)
 | [] => some []
 | a :: as => match rdA h a,rdAs h as with
  | some x,some xs => some (x :: xs)
  | _,_ => none
theorem XP {f:A → Option D}:∀ {as:List A} {ds:List D},cQ f as = some ds → ds.length = as.length
 | [],ds,h => by simp only [cQ,Option.some.injEq] at h; subst h; rfl
 | a :: as,ds,h => by
  simp only [cQ] at h
  split at h
  ·rename_i x xs h1 h2
   simp only [Option.some.injEq] at h; subst h
   simp [XP h2]
  ·cases h
def Iced (h h':H):Prop:=∀ i:Nat,h'[i]? = h[i]? ∨ (∃ cs e g,h[i]? = some (.arr cs e g) ∧ h'[i]? = some (.ice cs e g)) ∨ (∃ cs ds e g,h[i]? = some (.vec cs e g) ∧ h'[i]? = some (.ice ds e g) ∧ cQ (rd0 h) cs = some ds)
theorem aIx (h:H):Iced h h:=fun _ => .inl rfl
theorem aDe {h0 h:H} (hi:Iced h0 h) {id:Nat} {cs:List D} {e g:Nat} (h1:h0[id]? = some (.arr cs e g)) (hl:id < h.length):Iced h0 (h.set id (.ice cs e g)):=by
 intro i
 by_cases e1:id = i
 ·subst e1
  exact .inr (.inl ⟨cs,e,g,h1,by simp [hl]⟩)
 ·rw [List.getElem?_set_ne e1]; exact hi i
theorem aDP {h0 h:H} (hi:Iced h0 h) {id:Nat} {cs:List A} {ds:List D} {e g:Nat} (h1:h0[id]? = some (.vec cs e g)) (hd:cQ (rd0 h0) cs = some ds) (hl:id < h.length):Iced h0 (h.set id (.ice ds e g)):=by
 intro i
 by_cases e1:id = i
 ·subst e1
  exact .inr (.inr ⟨cs,ds,e,g,h1,by simp [hl],hd⟩)
 ·rw [List.getElem?_set_ne e1]; exact hi i
theorem k9 {α:Type} {l:List α} {i:Nat} {a:α} (h:l[i]? = some a):i < l.length:=(List.getElem?_eq_some_iff.1 h).1
theorem ZZ {h0:H} (n:Nat) {h:H} (hi:Iced h0 h) {a:A} {x:D} (hx:rd0 h0 a = some x):∃ h',frz n h a = some (x,h') ∧ Iced h0 h' ∧ ∀ (i:Nat) (cs:List A) (e g:Nat),h[i]? = some (.vec cs e g) → h'[i]? = some (.vec cs e g):=by
 cases a with
 | d y =>
  simp only [rd0,Option.some.injEq] at hx; subst hx
  exact ⟨h,by cases n <;> rfl,hi,fun _ _ _ _ h => h⟩
 | sl id gen off len =>
  simp only [rd0] at hx
  have key:∀ (o:O),h[id]? = some o → (∀ cs e g,o ≠ .vec cs e g) → frz n h (.sl id gen off len) = frz0 h (.sl id gen off len):=by
   intro o ho hv
   cases n with
   | zero => rfl
   | succ n =>
    simp only [frz,ho]
    cases o <;> first | rfl | exact absurd rfl (hv _ _ _)
  cases h1:h0[id]? with
  | none => rw [h1] at hx; cases hx
  | some o =>
   rw [h1] at hx
   cases o with
   | arr cs e g =>
    simp only [] at hx
    split at hx
    ·rename_i hc
     simp only [Option.some.injEq] at hx; subst hx
     rcases hi id with q | ⟨cs',e',g',q1,q2⟩ | ⟨cs',ds,e',g',q1,q2,q3⟩
     ·rw [h1] at q
      refine ⟨_,by rw [key _ q (by intro _ _ _ h; cases h)]; simp only [frz0,q]; rw [if_pos hc],aDe hi h1 (k9 q),fun i cs' e' g' hv => ?_⟩
      rw [List.getElem?_set_ne (by intro e; subst e; rw [q] at hv; cases hv)]; exact hv
     ·rw [h1] at q1; cases q1
      exact ⟨h,by rw [key _ q2 (by intro _ _ _ h; cases h)]; simp only [frz0,q2]; rw [if_pos hc],hi,fun _ _ _ _ h => h⟩
     ·rw [h1] at q1; cases q1
    ·cases hx
   | ice cs e g =>
    simp only [] at hx
    split at hx
    ·rename_i hc
     simp only [Option.some.injEq] at hx; subst hx
     rcases hi id with q | ⟨cs',e',g',q1,q2⟩ | ⟨cs',ds,e',g',q1,q2,q3⟩
     ·rw [h1] at q
      exact ⟨h,by rw [key _ q (by intro _ _ _ h; cases h)]; simp only [frz0,q]; rw [if_pos hc],hi,fun _ _ _ _ h => h⟩
     ·rw [h1] at q1; cases q1
     ·rw [h1] at q1; cases q1
    ·cases hx
   | _ => cases hx
 | _ => simp [rd0] at hx
theorem R2 {h0:H} (n:Nat):∀ {as:List A} {ds:List D} {h:H},Iced h0 h → cQ (rd0 h0) as = some ds → ∃ h',dS (frz n) h as = some (ds,h') ∧ Iced h0 h' ∧ ∀ (i:Nat) (cs:List A) (e g:Nat),h[i]? = some (.vec cs e g) → h'[i]? = some (.vec cs e g)
 | [],ds,h,hi,hr => by simp only [cQ,Option.some.injEq] at hr; subst hr; exact ⟨h,rfl,hi,fun _ _ _ _ h => h⟩
 | a :: as,ds,h,hi,hr => by
  simp only [cQ] at hr
  split at hr
  ·rename_i x xs h1 h2
   simp only [Option.some.injEq] at hr; subst hr
   obtain ⟨k1,e1,i1,v1⟩:=ZZ n hi h1
   obtain ⟨k2,e2,i2,v2⟩:=R2 n i1 h2
   exact ⟨k2,by simp only [dS,e1,e2],i2,fun i cs e g hv => v2 i cs e g (v1 i cs e g hv)⟩
  ·cases hr
theorem aFI {h0:H} (n:Nat) {h:H} (hi:Iced h0 h) {a:A} {x:D} (hx:rd1 h0 a = some x):∃ h',frz (n + 1) h a = some (x,h') ∧ Iced h0 h':=by
 cases a with
 | sl id gen off len =>
  have leaf:rd0 h0 (.sl id gen off len) = some x → ∃ h',frz (n + 1) h (.sl id gen off len) = some (x,h') ∧ Iced h0 h':=fun h1 => by
   obtain ⟨k,e,i,_⟩:=ZZ (n + 1) hi h1
   exact ⟨k,e,i⟩
  simp only [rd1] at hx
  cases h1:h0[id]? with
  | none => rw [h1] at hx; exact leaf hx
  | some o =>
   rw [h1] at hx
   cases o with
   | vec cs e g =>
    simp only [] at hx
    split at hx
    ·rename_i hc
     cases hr:cQ (rd0 h0) cs with
     | none => rw [hr] at hx; cases hx
     | some ds =>
      rw [hr] at hx
      simp only [Option.map_some,Option.some.injEq] at hx
      subst hx
      have hl:=XP hr
      rcases hi id with q | ⟨cs',e',g',q1,q2⟩ | ⟨cs',ds',e',g',q1,q2,q3⟩
      ·rw [h1] at q
       obtain ⟨k,e1,i1,v1⟩:=R2 n hi hr
       have q':=v1 _ _ _ _ q
       refine ⟨k.set id (.ice ds e g),?_,aDP i1 h1 hr (k9 q')⟩
       simp only [frz,q]
       rw [if_pos hc,e1]
       simp only [q',and_self,if_true]
      ·rw [h1] at q1; cases q1
      ·rw [h1] at q1; cases q1
       rw [hr] at q3; cases q3
       refine ⟨h,?_,hi⟩
       simp only [frz,q2,frz0]
       rw [if_pos (by omega)]
    ·cases hx
   | _ => exact leaf hx
 | clo f caps =>
  simp only [rd1] at hx
  cases hr:cQ (rd0 h0) caps with
  | none => rw [hr] at hx; cases hx
  | some ds =>
   rw [hr] at hx
   simp only [Option.map_some,Option.some.injEq] at hx
   subst hx
   obtain ⟨k,e1,i1,_⟩:=R2 n hi hr
   exact ⟨k,by simp only [frz,e1],i1⟩
 | d y =>
  obtain ⟨k,e,i,_⟩:=ZZ (n + 1) hi (a:=.d y) hx
  exact ⟨k,e,i⟩
 | ptr _ _ _ => simp [rd1,rd0] at hx
 | mp _ => simp [rd1,rd0] at hx
 | agg _ => simp [rd1,rd0] at hx
 | tup _ => simp [rd1,rd0] at hx
 | junk => simp [rd1,rd0] at hx
theorem aDs {h0:H} (n:Nat):∀ {as:List A} {ds:List D} {h:H},Iced h0 h → cQ (rd1 h0) as = some ds → ∃ h',dS (frz (n + 1)) h as = some (ds,h') ∧ Iced h0 h'
 | [],ds,h,hi,hr => by simp only [cQ,Option.some.injEq] at hr; subst hr; exact ⟨h,rfl,hi⟩
 | a :: as,ds,h,hi,hr => by
  simp only [cQ] at hr
  split at hr
  ·rename_i x xs h1 h2
   simp only [Option.some.injEq] at hr; subst hr
   obtain ⟨k1,e1,i1⟩:=aFI n hi h1
   obtain ⟨k2,e2,i2⟩:=aDs n i1 h2
   exact ⟨k2,by simp only [dS,e1,e2],i2⟩
  ·cases hr
theorem aLI {h0 h:H} (hi:Iced h0 h) {a x:A} (hx:rdA h0 a = some x):∃ h',frzA h a = some (x,h') ∧ Iced h0 h':=by
 have one:∀ {a:A} {x:A},(rd1 h0 a).map .d = some x → ∃ h',(match frz deep h a with | some (x,h1) => some (A.d x,h1) | none => none) = some (x,h') ∧ Iced h0 h':=by
  intro a x hx
  cases hr:rd1 h0 a with
  | none => rw [hr] at hx; cases hx
  | some y =>
   rw [hr] at hx; simp only [Option.map_some,Option.some.injEq] at hx; subst hx
   obtain ⟨k,e,i⟩:=aFI 4 hi hr
   exact ⟨k,by rw [show deep = 4 + 1 from rfl,e],i⟩
 cases a with
 | agg cs =>
  simp only [rdA] at hx
  cases hr:cQ (rd1 h0) cs with
  | none => rw [hr] at hx; cases hx
  | some ds =>
   rw [hr] at hx; simp only [Option.map_some,Option.some.injEq] at hx; subst hx
   obtain ⟨k,e,i⟩:=aDs 4 hi hr
   exact ⟨k,by simp only [frzA,frzL,show deep = 4 + 1 from rfl,e],i⟩
 | _ =>
  simp only [rdA] at hx
  exact one hx
theorem aDG {h0:H}:∀ {as xs:List A} {h:H},Iced h0 h → rdAs h0 as = some xs → ∃ h',eZ h as = some (xs,h') ∧ Iced h0 h'
 | [],xs,h,hi,hr => by simp only [rdAs,Option.some.injEq] at hr; subst hr; exact ⟨h,rfl,hi⟩
 | a :: as,xs,h,hi,hr => by
  simp only [rdAs] at hr
  split at hr
  ·rename_i x ys h1 h2
   simp only [Option.some.injEq] at hr; subst hr
   obtain ⟨k1,e1,i1⟩:=aLI hi h1
   obtain ⟨k2,e2,i2⟩:=aDG i1 h2
   exact ⟨k2,by simp only [eZ,e1,e2],i2⟩
  ·cases hr
def kids (h:H) (i:Nat):List Nat:=match h[i]? with
 | some (.box cs) => idsL cs
 | some (.vec cs _ _) => idsL cs
 | _ => []
inductive Okay (h:H):Nat → Prop where
 | mk (i:Nat) (o:O) (hi:h[i]? = some o) (hv:o ≠ .void) (hk:∀ j ∈ kids h i,Okay h j):Okay h i
theorem IC {h:H} {a:A} {x:D} (hx:rd0 h a = some x):∀ i ∈ idsA a,Okay h i:=by
 cases a with
 | d y => intro i hi; simp [idsA] at hi
 | sl id gen off len =>
  intro i hi
  simp only [idsA,List.mem_singleton] at hi
  subst hi
  simp only [rd0] at hx
  cases h1:h[i]? with
  | none => rw [h1] at hx; cases hx
  | some o =>
   rw [h1] at hx
   cases o with
   | arr cs e g => exact .mk i _ h1 (by simp) (by simp [kids,h1])
   | ice cs e g => exact .mk i _ h1 (by simp) (by simp [kids,h1])
   | _ => cases hx
 | _ => simp [rd0] at hx
theorem wQ {h:H} {f:A → Option D} (hf:∀ a x,f a = some x → ∀ i ∈ idsA a,Okay h i):∀ {as:List A} {ds:List D},cQ f as = some ds → ∀ i ∈ idsL as,Okay h i
 | [],ds,_,i,hi => by simp [idsL] at hi
 | a :: as,ds,hr,i,hi => by
  simp only [cQ] at hr
  split at hr
  ·rename_i x xs h1 h2
   simp only [idsL,List.mem_append] at hi
   rcases hi with hi | hi
   ·exact hf a x h1 i hi
   ·exact wQ hf h2 i hi
  ·cases hr
theorem aEz {h:H} {a:A} {x:D} (hx:rd1 h a = some x):∀ i ∈ idsA a,Okay h i:=by
 cases a with
 | sl id gen off len =>
  simp only [rd1] at hx
  cases h1:h[id]? with
  | none => rw [h1] at hx; exact IC hx
  | some o =>
   rw [h1] at hx
   cases o with
   | vec cs e g =>
    simp only [] at hx
    split at hx
    ·cases hr:cQ (rd0 h) cs with
     | none => rw [hr] at hx; cases hx
     | some ds =>
      intro i hi
      simp only [idsA,List.mem_singleton] at hi
      subst hi
      exact .mk i _ h1 (by simp) (by simp only [kids,h1]; exact wQ (fun a x => IC) hr)
    ·cases hx
   | _ => exact IC hx
 | clo f caps =>
  simp only [rd1] at hx
  cases hr:cQ (rd0 h) caps with
  | none => rw [hr] at hx; cases hx
  | some ds => intro i hi; simp only [idsA] at hi; exact wQ (fun a x => IC) hr i hi
 | d y => intro i hi; simp [idsA] at hi
 | _ => simp [rd1,rd0] at hx
theorem aK4 {h:H} {a x:A} (hx:rdA h a = some x):∀ i ∈ idsA a,Okay h i:=by
 cases a with
 | agg cs =>
  simp only [rdA] at hx
  cases hr:cQ (rd1 h) cs with
  | none => rw [hr] at hx; cases hx
  | some ds => intro i hi; simp only [idsA] at hi; exact wQ (fun a x => aEz) hr i hi
 | _ =>
  simp only [rdA] at hx
  obtain ⟨y,hy,_⟩:=Option.map_eq_some_iff.1 hx
  exact aEz hy
theorem aAL {h:H}:∀ {as xs:List A},rdAs h as = some xs → ∀ i ∈ idsL as,Okay h i
 | [],xs,_,i,hi => by simp [idsL] at hi
 | a :: as,xs,hr,i,hi => by
  simp only [rdAs] at hr
  split at hr
  ·rename_i x ys h1 h2
   simp only [idsL,List.mem_append] at hi
   rcases hi with hi | hi
   ·exact aK4 h1 i hi
   ·exact aAL h2 i hi
  ·cases hr
def wgt:H → Nat
 | [] => 0
 | .box cs :: h => (idsL cs).length + wgt h
 | .vec cs _ _ :: h => (idsL cs).length + wgt h
 | _ :: h => wgt h
def wgtN (h:H) (acc:List Nat):Nat:=((List.range h.length).filter fun i => !acc.contains i).foldr (fun i n => (kids h i).length + n) 0
theorem aMJ:∀ (h:H),wgt h = (List.range h.length).foldr (fun i n => (kids h i).length + n) 0:=by
 intro h
 induction h with
 | nil => rfl
 | cons o h ih =>
  rw [List.length_cons,List.range_succ_eq_map,List.foldr_cons,List.foldr_map]
  have e:∀ i,kids (o :: h) (i + 1) = kids h i:=fun i => by simp only [kids,List.getElem?_cons_succ]
  simp only [e,← ih]
  cases o <;> simp [wgt,kids]
theorem ES {f:Nat → Nat} {p:Nat → Bool}:∀ (l:List Nat),(l.filter p).foldr (fun i n => f i + n) 0 ≤ l.foldr (fun i n => f i + n) 0
 | [] => by simp
 | a :: l => by
  have:=ES (f:=f) (p:=p) l
  simp only [List.filter_cons]
  split
  ·simp only [List.foldr_cons]; omega
  ·simp only [List.foldr_cons]; omega
theorem aL1 (h:H) (acc:List Nat):wgtN h acc ≤ wgt h:=by rw [aMJ]; exact ES _
theorem QM {f:Nat → Nat} {acc:List Nat} {i:Nat} (hn:i ∉ acc):∀ (l:List Nat),l.Nodup → i ∈ l → (l.filter fun k => !(acc ++ [i]).contains k).foldr (fun i n => f i + n) 0 + f i = (l.filter fun k => !acc.contains k).foldr (fun i n => f i + n) 0
 | [],_,h => by simp at h
 | a :: l,hd,hm => by
  obtain ⟨ha,hl⟩:=List.nodup_cons.1 hd
  by_cases e:a = i
  ·subst e
   have h1:(l.filter fun k => !(acc ++ [a]).contains k) = l.filter fun k => !acc.contains k:=by
    apply List.filter_congr
    intro x hx
    have:x ≠ a:=fun h => ha (h ▸ hx)
    simp [this]
   have h2:((a :: l).filter fun k => !(acc ++ [a]).contains k) = (l.filter fun k => !acc.contains k):=by
    rw [List.filter_cons_of_neg (by simp),h1]
   have h3:((a :: l).filter fun k => !acc.contains k) = a :: (l.filter fun k => !acc.contains k):=by
    rw [List.filter_cons_of_pos (by simp [hn])]
   rw [h2,h3,List.foldr_cons]; omega
  ·have hm':i ∈ l:=by simpa [Ne.symm e] using hm
   have ih:=QM (f:=f) hn l hl hm'
   by_cases hc:a ∈ acc
   ·rw [List.filter_cons_of_neg (by simp [hc]),List.filter_cons_of_neg (by simp [hc])]; exact ih
   ·rw [List.filter_cons_of_pos (by simp [hc,e]),List.filter_cons_of_pos (by simp [hc]),List.foldr_cons,List.foldr_cons]; omega
theorem aEi {h:H}:∀ (n:Nat) (todo acc:List Nat),(∀ i ∈ todo,Okay h i) → (∀ i ∈ acc,∀ j ∈ kids h i,j ∈ acc ∨ j ∈ todo) → (∀ i ∈ acc,Okay h i) → todo.length + wgtN h acc ≤ n →
  (∀ i ∈ todo,i ∈ aD n h todo acc) ∧ (∀ i ∈ acc,i ∈ aD n h todo acc) ∧ (∀ i ∈ aD n h todo acc,∀ j ∈ kids h i,j ∈ aD n h todo acc) ∧ (∀ i ∈ aD n h todo acc,Okay h i):=by
 intro n
 induction n with
 | zero =>
  intro todo acc ht ha hk hn
  have:todo = []:=by cases todo <;> simp_all
  subst this
  simp only [aD]
  exact ⟨by simp,fun i hi => hi,fun i hi j hj => by simpa using ha i hi j hj,hk⟩
 | succ n ih =>
  intro todo acc ht ha hk hn
  cases todo with
  | nil =>
   simp only [aD]
   exact ⟨by simp,fun i hi => hi,fun i hi j hj => by simpa using ha i hi j hj,hk⟩
  | cons i todo =>
   by_cases hc:acc.contains i = true
   ·have e:aD (n + 1) h (i :: todo) acc = aD n h todo acc:=by simp only [aD,hc,if_true]
    rw [e]
    have hm:i ∈ acc:=by simpa using hc
    obtain ⟨r1,r2,r3,r4⟩:=ih todo acc (fun j hj => ht j (by simp [hj])) (fun j hj k hk' => by
     rcases ha j hj k hk' with h1 | h1
     ·exact .inl h1
     ·rcases List.mem_cons.1 h1 with h2 | h2
      ·subst h2; exact .inl hm
      ·exact .inr h2) hk (by simp only [List.length_cons] at hn; omega)
    refine ⟨fun j hj => ?_,r2,r3,r4⟩
    rcases List.mem_cons.1 hj with h1 | h1
    ·subst h1; exact r2 _ hm
    ·exact r1 j h1
   ·have hm:i ∉ acc:=by simpa using hc
    obtain ⟨_,o,ho,hv,hkd⟩:=ht i (by simp)
    have hil:i < h.length:=k9 ho
    have e:aD (n + 1) h (i :: todo) acc = aD n h (todo ++ kids h i) (acc ++ [i]):=by
     simp only [aD,hc,if_false,ho,kids,Bool.false_eq_true]
     cases o <;> first | rfl | (simp; done) | exact absurd rfl hv
    rw [e]
    have hw:wgtN h (acc ++ [i]) + (kids h i).length = wgtN h acc:=QM (f:=fun i => (kids h i).length) hm (List.range h.length) List.nodup_range (by simpa using hil)
    obtain ⟨r1,r2,r3,r4⟩:=ih (todo ++ kids h i) (acc ++ [i]) (fun j hj => by
     rcases List.mem_append.1 hj with h1 | h1
     ·exact ht j (by simp [h1])
     ·exact hkd j h1) (fun j hj k hk' => by
     rcases List.mem_append.1 hj with h1 | h1
     ·rcases ha j h1 k hk' with h2 | h2
      ·exact .inl (by simp [h2])
      ·rcases List.mem_cons.1 h2 with h3 | h3
       ·subst h3; exact .inl (by simp)
       ·exact .inr (by simp [h3])
     ·simp only [List.mem_singleton] at h1; subst h1
      exact .inr (by simp [hk'])) (fun j hj => by
     rcases List.mem_append.1 hj with h1 | h1
     ·exact hk j h1
     ·simp only [List.mem_singleton] at h1; subst h1; exact ht _ (by simp)) (by simp only [List.length_append,List.length_cons] at hn ⊢; omega)
    refine ⟨fun j hj => ?_,fun j hj => r2 j (by simp [hj]),r3,r4⟩
    rcases List.mem_cons.1 hj with h1 | h1
    ·subst h1; exact r2 _ (by simp)
    ·exact r1 j (by simp [h1])
theorem aIO {h:H} {ids:List Nat} (hk:∀ i ∈ ids,Okay h i) (hw:ids.length + wgt h ≤ 1099511627776):closed h (aD aG h ids []) ids = true ∧ (∀ i ∈ ids,i ∈ aD aG h ids []) ∧ ∀ i ∈ aD aG h ids [],∀ j ∈ kids h i,j ∈ aD aG h ids []:=by
 have hle:=aL1 h []
 obtain ⟨r1,_,r3,_⟩:=aEi aG ids [] hk (by simp) (by simp) (by unfold aG; omega)
 refine ⟨?_,r1,r3⟩
 simp only [closed,Bool.and_eq_true,List.all_eq_true,List.contains_eq_mem,decide_eq_true_eq]
 refine ⟨r1,fun i hi => ?_⟩
 have:=r3 i hi
 unfold kids at this
 cases ho:h[i]? with
 | none => rfl
 | some o =>
  rw [ho] at this
  cases o <;> first | rfl | (simp only [List.all_eq_true,List.contains_eq_mem,decide_eq_true_eq]; exact this)
section
variable {h:H} {ord:List Nat}
theorem zN {f g:A → Option D} {m:Nat → Option Nat}:∀ {as:List A},(∀ a ∈ as,g (mapA m a) = f a) → cQ g (aM m as) = cQ f as
 | [],_ => by simp only [aM,cQ]
 | a :: as,hf => by
  simp only [aM,cQ,hf a (by simp),zN (as:=as) fun b hb => hf b (by simp [hb])]
theorem RU {as:List A} {a:A} (ha:a ∈ as) {i:Nat} (hi:i ∈ idsA a):i ∈ idsL as:=by
 induction as with
 | nil => cases ha
 | cons b as ih =>
  simp only [idsL,List.mem_append]
  rcases List.mem_cons.1 ha with h1 | h1
  ·subst h1; exact .inl hi
  ·exact .inr (ih h1)
theorem SG (hn:ord.Nodup) {a:A} (hi:∀ i ∈ idsA a,i ∈ ord) (hl:∀ i ∈ ord,i < h.length):rd0 (pack h ord) (mapA (aJ ord) a) = rd0 h a:=by
 cases a with
 | sl id gen off len =>
  have hm:id ∈ ord:=hi id (by simp [idsA])
  obtain ⟨k,hk⟩:=dA hm
  have hko:=bJ hk
  obtain ⟨o,ho⟩:∃ o,h[id]? = some o:=⟨_,List.getElem?_eq_getElem (hl id hm)⟩
  simp only [mapA,hk,rd0,mM hko ho,ho]
  cases o <;> rfl
 | clo f caps => simp [mapA,rd0]
 | agg cs => simp [mapA,rd0]
 | tup cs => simp [mapA,rd0]
 | ptr id gen off =>
  simp only [mapA]
  cases aJ ord id <;> rfl
 | mp id =>
  simp only [mapA]
  cases aJ ord id <;> rfl
 | d x => simp [mapA,rd0]
 | junk => simp [mapA,rd0]
theorem SN (hn:ord.Nodup) (hc:∀ i ∈ ord,∀ j ∈ kids h i,j ∈ ord) {a:A} (hi:∀ i ∈ idsA a,i ∈ ord) (hl:∀ i ∈ ord,i < h.length):rd1 (pack h ord) (mapA (aJ ord) a) = rd1 h a:=by
 cases a with
 | sl id gen off len =>
  have hm:id ∈ ord:=hi id (by simp [idsA])
  obtain ⟨k,hk⟩:=dA hm
  have hko:=bJ hk
  obtain ⟨o,ho⟩:∃ o,h[id]? = some o:=⟨_,List.getElem?_eq_getElem (hl id hm)⟩
  have h0:=SG hn hi hl
  simp only [mapA,hk] at h0
  simp only [mapA,hk,rd1,mM hko ho,ho]
  cases o with
  | vec cs e g =>
   have hkd:=hc id hm
   simp only [kids,ho] at hkd
   simp only [mapO,N7]
   rw [zN (f:=rd0 h) fun a ha => SG hn (fun i hi => hkd i (RU ha hi)) hl]
  | _ => exact h0
 | clo f caps =>
  simp only [mapA,rd1]
  rw [zN (f:=rd0 h) fun a ha => SG hn (fun i hi' => hi i (by simp only [idsA]; exact RU ha hi')) hl]
 | agg cs => simp [mapA,rd1,rd0]
 | tup cs => simp [mapA,rd1,rd0]
 | ptr id gen off =>
  simp only [mapA]
  cases aJ ord id <;> rfl
 | mp id =>
  simp only [mapA]
  cases aJ ord id <;> rfl
 | d x => simp [mapA,rd1,rd0]
 | junk => simp [mapA,rd1,rd0]
theorem aKJ (hn:ord.Nodup) (hc:∀ i ∈ ord,∀ j ∈ kids h i,j ∈ ord) {a:A} (hi:∀ i ∈ idsA a,i ∈ ord) (hl:∀ i ∈ ord,i < h.length):rdA (pack h ord) (mapA (aJ ord) a) = rdA h a:=by
 cases a with
 | agg cs =>
  simp only [mapA,rdA]
  rw [zN (f:=rd1 h) fun a ha => SN hn hc (fun i hi' => hi i (by simp only [idsA]; exact RU ha hi')) hl]
 | sl id gen off len =>
  have h1:=SN hn hc hi hl
  have hm:id ∈ ord:=hi id (by simp [idsA])
  obtain ⟨k,hk⟩:=dA hm
  simp only [mapA,hk] at h1 ⊢
  simp only [rdA,h1]
 | clo f caps =>
  have h1:=SN hn hc hi hl
  simp only [mapA] at h1 ⊢
  simp only [rdA,h1]
 | tup cs => simp [mapA,rdA,rd1,rd0]
 | ptr id gen off =>
  simp only [mapA]
  cases aJ ord id <;> rfl
 | mp id =>
  simp only [mapA]
  cases aJ ord id <;> rfl
 | d x => simp [mapA,rdA,rd1,rd0]
 | junk => simp [mapA,rdA,rd1,rd0]
theorem aB0 (hn:ord.Nodup) (hc:∀ i ∈ ord,∀ j ∈ kids h i,j ∈ ord) (hl:∀ i ∈ ord,i < h.length):∀ {as:List A},(∀ i ∈ idsL as,i ∈ ord) → rdAs (pack h ord) (aM (aJ ord) as) = rdAs h as
 | [],_ => by simp only [aM,rdAs]
 | a :: as,hi => by
  simp only [idsL,List.mem_append] at hi
  simp only [aM,rdAs,aKJ hn hc (fun i h => hi i (.inl h)) hl,aB0 hn hc hl (as:=as) fun i h => hi i (.inr h)]
end
theorem aIR {h:H} {args fs:List A} (hr:rdAs h args = some fs) (hw:(idsL args).length + wgt h ≤ 1099511627776):D9 h args = some fs:=by
 obtain ⟨c1,c2,c3⟩:=aIO (aAL hr) hw
 have hn:=dF aG h (idsL args) [] (by simp)
 have hl:=gZ aG h (idsL args) [] (by simp)
 have hp:=aB0 hn c3 hl c2
 rw [hr] at hp
 obtain ⟨k,e,_⟩:=aDG (aIx _) hp
 unfold D9
 simp only [box,e,c1,if_true]
section
variable {R:Type} {E:Env} {call:bE} {h:H} {f:FuncId} {args:List A} {k:KA R}
theorem IG {fs:List A} (hm:(E.hint f).mode = 1) (hr:rdAs h args = some fs) (hw:(idsL args).length + wgt h ≤ 1099511627776):aS E call h f args k = nH call f fs fun r => k r h:=by
 rw [dM hm,aIR hr hw]
 rfl
mutual
theorem aB3 {f g q:Nat → Option Nat} (hq:∀ i,(g i).bind f = q i):∀ a:A,mapA f (mapA g a) = mapA q a
 | .d x => by simp only [mapA]
 | .sl id gen off len => by
  simp only [mapA]
  have:=hq id
  cases hg:g id with
  | none => rw [hg] at this; rw [← this]; simp only [mapA,Option.bind_none]
  | some j => rw [hg] at this; simp only [mapA,← this,Option.bind_some]
 | .ptr id gen off => by
  simp only [mapA]
  have:=hq id
  cases hg:g id with
  | none => rw [hg] at this; rw [← this]; simp only [mapA,Option.bind_none]
  | some j => rw [hg] at this; simp only [mapA,← this,Option.bind_some]
 | .mp id => by
  simp only [mapA]
  have:=hq id
  cases hg:g id with
  | none => rw [hg] at this; rw [← this]; simp only [mapA,Option.bind_none]
  | some j => rw [hg] at this; simp only [mapA,← this,Option.bind_some]
 | .clo c caps => by simp only [mapA,qI hq caps]
 | .agg cs => by simp only [mapA,qI hq cs]
 | .tup cs => by simp only [mapA,qI hq cs]
 | .junk => by simp only [mapA]
theorem qI {f g q:Nat → Option Nat} (hq:∀ i,(g i).bind f = q i):∀ as:List A,aM f (aM g as) = aM q as
 | [] => by simp only [aM]
 | a :: as => by simp only [aM,aB3 hq a,qI hq as]
end
theorem aI4 {f g q:Nat → Option Nat} (hq:∀ i,(g i).bind f = q i) (o:O):mapO f (mapO g o) = mapO q o:=by
 cases o <;> simp only [mapO,qI hq]
end
end Ev
end Go.Proofs.YtejmccgfigiadaaGreat
